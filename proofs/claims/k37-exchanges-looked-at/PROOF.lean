import PyProof.Rows.All
import Wide.All
import OpenK.AllK
import Wide.FinOn
import KE.KDictKeyed
import HandS.ForMost
import HandS.ForExc
import HandS.Wide
import HandS.Comp
import HandS.TupMul
import HandS.Deep
import HandS.IsInst
import HandS.More
import KE.KDictCopyH
import KE.KDictList
import KE.KDictWalk
import HandS.TupLen
import HandS.SortOrd
import HandS.TupLe
import HandS.SortRule
import KE.KTupSum
import KE.GoesEnum
import KE.GoesMore
import HandS.RevRange
import HandS.Flow
import HandS.TryMany
import HandS.Style
import HandS.Conv
import HandS.TupSets
import HandS.Defaults
import HandS.Head0
import HandS.Head1
import HandS.Head2
import HandS.HeadEnd
import HandS.HeadHook1
import HandS.HeadHook2
import PySem.Challenge.RW_nestturn_k37_exchanges_looked_at
set_option Elab.async false
set_option linter.all false
section
set_option maxRecDepth 100000
/-! Data: python values as pure data over HandS's abstract heap. -/
namespace DL
open PySem PySem.Spec L2
open PyProof.Rows hiding St

/-- a value: tuples, and lists and dicts that nobody changes any more, are data; a list or dict that may be changed is a ref -/
inductive PV where
  | non | bl (b : Bool) | int (i : Int) | str (x : Str) | ty (n : String) | ref (a : Addr)
  | tup (xs : List PV) | lst (xs : List PV) | dct (ks vs : List PV)
/-- what may be changed -/
inductive MO where
  | lst (xs : List PV) | dct (ks vs : List PV) | ins (C : Addr) (ns : List Str) (vs : List PV)
abbrev Sto := Addr → Option MO
def upS (S : Sto) (a : Addr) (o : MO) : Sto := fun b => if b = a then some o else S b
def delS (S : Sto) (a : Addr) : Sto := fun b => if b = a then none else S b
theorem upS_same {S : Sto} {a : Addr} {o : MO} : upS S a o a = some o := by unfold upS; rw [if_pos rfl]
theorem upS_ne {S : Sto} {a b : Addr} {o : MO} (h : b ≠ a) : upS S a o b = S b := by unfold upS; rw [if_neg h]
theorem upS_upS {S : Sto} {a : Addr} {o u : MO} : upS (upS S a o) a u = upS S a u := by
  funext b; unfold upS; split <;> rfl
theorem delS_same {S : Sto} {a : Addr} : delS S a a = none := by unfold delS; rw [if_pos rfl]
theorem delS_ne {S : Sto} {a b : Addr} (h : b ≠ a) : delS S a b = S b := by unfold delS; rw [if_neg h]
theorem delS_upS {S : Sto} {a : Addr} {o : MO} (h : S a = none) : delS (upS S a o) a = S := by
  funext b; unfold delS upS
  by_cases e : b = a
  · subst e; rw [if_pos rfl, h]
  · rw [if_neg e, if_neg e]

/-- an entry of a dict, raw -/
abbrev DE := Int × Value × Value
/-- what is true of the heap where a dict with these entries stands (by its one object) -/
def DPhi (a : Addr) (es : List DE) : Heap → Prop := fun h => (a == sysModules) = false ∧ ∃ o arr ep, h.get? a = some o ∧ o.ExactDict ∧ o.data = .dict arr ep ∧ arr.toList.map (fun e => (e.hash, e.key, e.val)) = es
def KL (K : PySem.W.Frag) (a : Addr) (xs : List V) : Prop :=
  ∃ (o : Obj) (its : Array Value) (n : Nat), K.lookup a = some o ∧ o.cls = .type "list" ∧ o.dict = none ∧ o.data = .seq its n ∧ its.size ≤ sizeLine ∧ Vals xs its.toList
/-- a list that nobody changes -/
def FzL (K : PySem.W.Frag) (H : Hp) (S : Sto) (a : Addr) (vs : List V) : Prop := (Rd H a (.lst vs) ∧ S a = none) ∨ KL K a vs
theorem FzL.sq {K : PySem.W.Frag} {H : Hp} {S : Sto} {a : Addr} {vs : List V} (h : FzL K H S a vs) : SqL K H a vs := h.elim (fun h => .inl h.1) .inr

mutual
/-- a value as a key -/
def pvKey : PV → Option NestedKey
  | .non => some .none
  | .bl b => some (.num (if b then 1 else 0))
  | .int i => some (.num i)
  | .str x => some (.text x)
  | .tup xs => match pvKeys xs with
    | some ks => some (.tup ks)
    | none => none
  | _ => none
def pvKeys : List PV → Option (List NestedKey)
  | [] => some []
  | x :: xs => match pvKey x, pvKeys xs with
    | some k, some ks => some (k :: ks)
    | _, _ => none
end
def hashP (w : World) (x : PV) : Int := match pvKey x with
  | some k => k.hash w
  | none => 0
/-- the kind of a key: an int, a text, a tuple of such -/
def kkP (x : PV) : Nat := match x with
  | .int _ => 1
  | .str _ => 2
  | .tup _ => (match pvKey x with
    | some k => if k.depth ≤ 8 then 3 else 0
    | none => 0)
  | _ => 0
/-- the keys of a dict: of one kind, each once -/
def KOK (ks : List PV) : Prop := (∀ x ∈ ks, kkP x ≠ 0) ∧ (∀ x ∈ ks, ∀ y ∈ ks, kkP x = kkP y) ∧ (ks.map pvKey).Nodup
theorem KOK.nil : KOK [] := ⟨fun _ h => (List.not_mem_nil h).elim, fun _ h => (List.not_mem_nil h).elim, List.nodup_nil⟩
theorem KOK.one {x : PV} (h : kkP x ≠ 0) : KOK [x] := ⟨fun y hy => by rw [List.mem_singleton.mp hy]; exact h, fun y hy z hz => by rw [List.mem_singleton.mp hy, List.mem_singleton.mp hz], by simp⟩

mutual
/-- v stands for the value x -/
def RepV (K : PySem.W.Frag) (w : World) (H : Hp) (S : Sto) : PV → V → Prop
  | .non, v => v = .non
  | .bl b, v => v = .bl b
  | .int i, v => v = .int i
  | .str x, v => v = .str x
  | .ty n, v => v = .ty n
  | .ref a, v => v = .ref a
  | .tup xs, v => ∃ a vs, v = .ref a ∧ SqT K H a vs ∧ RepVs K w H S xs vs
  | .lst xs, v => ∃ a vs, v = .ref a ∧ FzL K H S a vs ∧ RepVs K w H S xs vs
  | .dct ks vs, v => ∃ a es kvs vvs, v = .ref a ∧ H a = some (.ext (DPhi a es)) ∧ S a = none ∧ es.map (·.1) = ks.map (hashP w) ∧ Vals kvs (es.map (·.2.1)) ∧ Vals vvs (es.map (·.2.2)) ∧ RepVs K w H S ks kvs ∧ RepVs K w H S vs vvs ∧ KOK ks
def RepVs (K : PySem.W.Frag) (w : World) (H : Hp) (S : Sto) : List PV → List V → Prop
  | [], [] => True
  | x :: xs, v :: vs => RepV K w H S x v ∧ RepVs K w H S xs vs
  | _, _ => False
end
def RepO (K : PySem.W.Frag) (w : World) (H : Hp) (S : Sto) (a : Addr) : MO → Prop
  | .lst xs => ∃ vs, H a = some (.lst vs) ∧ RepVs K w H S xs vs
  | .dct ks vs => ∃ es kvs vvs, H a = some (.ext (DPhi a es)) ∧ es.map (·.1) = ks.map (hashP w) ∧ Vals kvs (es.map (·.2.1)) ∧ Vals vvs (es.map (·.2.2)) ∧ RepVs K w H S ks kvs ∧ RepVs K w H S vs vvs ∧ KOK ks
  | .ins C ns vs => ∃ dx fs, H a = some (.ins C dx fs) ∧ fs.map (·.1) = ns ∧ RepVs K w H S vs (fs.map (·.2))
/-- the store is held -/
def RepH (K : PySem.W.Frag) (w : World) (H : Hp) (S : Sto) : Prop := ∀ a o, S a = some o → RepO K w H S a o
/-- what values lean on stays -/
structure Ext (K : PySem.W.Frag) (S : Sto) (H : Hp) (S' : Sto) (H' : Hp) : Prop where
  tup : ∀ a vs, SqT K H a vs → SqT K H' a vs
  lst : ∀ a vs, Rd H a (.lst vs) → S a = none → Rd H' a (.lst vs) ∧ S' a = none
  dct : ∀ a es, H a = some (.ext (DPhi a es)) → S a = none → H' a = some (.ext (DPhi a es)) ∧ S' a = none

section
variable {K : PySem.W.Frag} {w : World} {H H' H2 : Hp} {S S' S2 : Sto}
theorem Ext.refl : Ext K S H S H := ⟨fun _ _ h => h, fun _ _ h n => ⟨h, n⟩, fun _ _ h n => ⟨h, n⟩⟩
theorem Ext.trans (a : Ext K S H S' H') (b : Ext K S' H' S2 H2) : Ext K S H S2 H2 :=
  ⟨fun x vs h => b.tup x vs (a.tup x vs h), fun x vs h n => let ⟨h1, n1⟩ := a.lst x vs h n; b.lst x vs h1 n1, fun x vs h n => let ⟨h1, n1⟩ := a.dct x vs h n; b.dct x vs h1 n1⟩
theorem FzL.mono (e : Ext K S H S' H') {a : Addr} {vs : List V} (h : FzL K H S a vs) : FzL K H' S' a vs := by
  rcases h with ⟨h, n⟩ | h
  · exact .inl (e.lst a vs h n)
  · exact .inr h
mutual
theorem RepV.mono (e : Ext K S H S' H') : ∀ (x : PV) (v : V), RepV K w H S x v → RepV K w H' S' x v
  | .non, _, h | .bl _, _, h | .int _, _, h | .str _, _, h | .ty _, _, h | .ref _, _, h => by simpa only [RepV] using h
  | .tup xs, v, h => by
    simp only [RepV] at h ⊢
    obtain ⟨a, vs, h1, h2, h3⟩ := h
    exact ⟨a, vs, h1, e.tup a vs h2, RepVs.mono e xs vs h3⟩
  | .lst xs, v, h => by
    simp only [RepV] at h ⊢
    obtain ⟨a, vs, h1, h2, h3⟩ := h
    exact ⟨a, vs, h1, h2.mono e, RepVs.mono e xs vs h3⟩
  | .dct ks xs, v, h => by
    simp only [RepV] at h ⊢
    obtain ⟨a, es, kvs, vvs, h1, h2, h3, h4, h5, h6, h7, h8, h9⟩ := h
    obtain ⟨g2, g3⟩ := e.dct a es h2 h3
    exact ⟨a, es, kvs, vvs, h1, g2, g3, h4, h5, h6, RepVs.mono e ks kvs h7, RepVs.mono e xs vvs h8, h9⟩
theorem RepVs.mono (e : Ext K S H S' H') : ∀ (xs : List PV) (vs : List V), RepVs K w H S xs vs → RepVs K w H' S' xs vs
  | [], [], _ => trivial
  | x :: xs, v :: vs, h => by
    simp only [RepVs] at h ⊢
    exact ⟨RepV.mono e x v h.1, RepVs.mono e xs vs h.2⟩
  | [], _ :: _, h => by simp only [RepVs] at h
  | _ :: _, [], h => by simp only [RepVs] at h
end
theorem RepVs.length : ∀ {xs : List PV} {vs : List V}, RepVs K w H S xs vs → xs.length = vs.length
  | [], [], _ => rfl
  | _ :: xs, _ :: vs, h => by
    simp only [RepVs] at h
    rw [List.length_cons, List.length_cons, RepVs.length h.2]
  | [], _ :: _, h => by simp only [RepVs] at h
  | _ :: _, [], h => by simp only [RepVs] at h
theorem RepVs.append : ∀ {xs ys : List PV} {vs us : List V}, RepVs K w H S xs vs → RepVs K w H S ys us → RepVs K w H S (xs ++ ys) (vs ++ us)
  | [], _, [], _, _, h => h
  | _ :: xs, _, _ :: vs, _, h, g => by
    simp only [RepVs] at h
    show RepVs K w H S (_ :: (xs ++ _)) (_ :: (vs ++ _))
    simp only [RepVs]
    exact ⟨h.1, RepVs.append h.2 g⟩
  | [], _, _ :: _, _, h, _ => by simp only [RepVs] at h
  | _ :: _, _, [], _, h, _ => by simp only [RepVs] at h
theorem RepVs.get : ∀ {xs : List PV} {vs : List V} {i : Nat} {x : PV}, RepVs K w H S xs vs → xs[i]? = some x → ∃ v, vs[i]? = some v ∧ RepV K w H S x v
  | [], [], _, _, _, e => by simp at e
  | y :: xs, v :: vs, 0, x, h, e => by
    simp only [RepVs] at h
    simp at e
    subst e
    exact ⟨v, rfl, h.1⟩
  | y :: xs, v :: vs, i + 1, x, h, e => by
    simp only [RepVs] at h
    obtain ⟨u, h1, h2⟩ := RepVs.get (i := i) (x := x) h.2 (by simpa using e)
    exact ⟨u, by simpa using h1, h2⟩
  | [], _ :: _, _, _, h, _ => by simp only [RepVs] at h
  | _ :: _, [], _, _, h, _ => by simp only [RepVs] at h
theorem RepVs.getV : ∀ {xs : List PV} {vs : List V} {i : Nat} {v : V}, RepVs K w H S xs vs → vs[i]? = some v → ∃ x, xs[i]? = some x ∧ RepV K w H S x v
  | [], [], _, _, _, e => by simp at e
  | y :: xs, u :: vs, 0, v, h, e => by
    simp only [RepVs] at h
    simp at e
    subst e
    exact ⟨y, rfl, h.1⟩
  | y :: xs, u :: vs, i + 1, v, h, e => by
    simp only [RepVs] at h
    obtain ⟨x, h1, h2⟩ := RepVs.getV (i := i) (v := v) h.2 (by simpa using e)
    exact ⟨x, by simpa using h1, h2⟩
  | [], _ :: _, _, _, h, _ => by simp only [RepVs] at h
  | _ :: _, [], _, _, h, _ => by simp only [RepVs] at h
theorem RepVs.take : ∀ (n : Nat) {xs : List PV} {vs : List V}, RepVs K w H S xs vs → RepVs K w H S (xs.take n) (vs.take n)
  | 0, _, _, _ => by simp only [List.take_zero, RepVs]
  | _ + 1, [], [], _ => by simp only [List.take_nil, RepVs]
  | n + 1, _ :: xs, _ :: vs, h => by
    simp only [RepVs, List.take_succ_cons] at h ⊢
    exact ⟨h.1, RepVs.take n h.2⟩
  | _ + 1, [], _ :: _, h => by simp only [RepVs] at h
  | _ + 1, _ :: _, [], h => by simp only [RepVs] at h
theorem RepVs.drop : ∀ (n : Nat) {xs : List PV} {vs : List V}, RepVs K w H S xs vs → RepVs K w H S (xs.drop n) (vs.drop n)
  | 0, _, _, h => h
  | _ + 1, [], [], _ => by simp only [List.drop_nil, RepVs]
  | n + 1, _ :: xs, _ :: vs, h => by
    simp only [RepVs] at h
    exact RepVs.drop n h.2
  | _ + 1, [], _ :: _, h => by simp only [RepVs] at h
  | _ + 1, _ :: _, [], h => by simp only [RepVs] at h
theorem RepVs.set : ∀ {xs : List PV} {vs : List V} (i : Nat) {x : PV} {v : V}, RepVs K w H S xs vs → RepV K w H S x v → RepVs K w H S (xs.set i x) (vs.set i v)
  | [], [], _, _, _, h, _ => h
  | _ :: xs, _ :: vs, 0, x, v, h, r => by
    simp only [RepVs, List.set_cons_zero] at h ⊢
    exact ⟨r, h.2⟩
  | _ :: xs, _ :: vs, i + 1, x, v, h, r => by
    simp only [RepVs, List.set_cons_succ] at h ⊢
    exact ⟨h.1, RepVs.set i h.2 r⟩
  | [], _ :: _, _, _, _, h, _ => by simp only [RepVs] at h
  | _ :: _, [], _, _, _, h, _ => by simp only [RepVs] at h
theorem RepVs.snoc {xs : List PV} {vs : List V} {x : PV} {v : V} (h : RepVs K w H S xs vs) (r : RepV K w H S x v) : RepVs K w H S (xs ++ [x]) (vs ++ [v]) :=
  h.append (by simp only [RepVs]; exact ⟨r, trivial⟩)
theorem RepVs.nil : RepVs K w H S [] [] := by simp only [RepVs]
theorem RepVs.cons {x : PV} {xs : List PV} {v : V} {vs : List V} (r : RepV K w H S x v) (h : RepVs K w H S xs vs) : RepVs K w H S (x :: xs) (v :: vs) := by simp only [RepVs]; exact ⟨r, h⟩
theorem RepVs.nil_inv {vs : List V} (h : RepVs K w H S [] vs) : vs = [] := by
  cases vs with
  | nil => rfl
  | cons _ _ => simp only [RepVs] at h
theorem RepVs.cons_inv {x : PV} {xs : List PV} {vs : List V} (h : RepVs K w H S (x :: xs) vs) : ∃ v us, vs = v :: us ∧ RepV K w H S x v ∧ RepVs K w H S xs us := by
  cases vs with
  | nil => simp only [RepVs] at h
  | cons v us => simp only [RepVs] at h; exact ⟨v, us, rfl, h.1, h.2⟩
theorem RepVs.ints : ∀ {ns : List Int} {vs : List V}, RepVs K w H S (ns.map PV.int) vs → vs = ns.map V.int
  | [], vs, h => h.nil_inv
  | n :: ns, vs, h => by
    obtain ⟨v, us, rfl, h1, h2⟩ := RepVs.cons_inv h
    simp only [RepV] at h1
    rw [h1, RepVs.ints h2, List.map_cons]
theorem RepVs.of_ints : ∀ {ns : List Int}, RepVs K w H S (ns.map PV.int) (ns.map V.int)
  | [] => .nil
  | n :: ns => .cons (by simp only [RepV]) RepVs.of_ints
theorem RepVs.bls : ∀ {ns : List Bool} {vs : List V}, RepVs K w H S (ns.map PV.bl) vs → vs = ns.map V.bl
  | [], vs, h => h.nil_inv
  | n :: ns, vs, h => by
    obtain ⟨v, us, rfl, h1, h2⟩ := RepVs.cons_inv h
    simp only [RepV] at h1
    rw [h1, RepVs.bls h2, List.map_cons]
theorem RepH.free (h : RepH K w H S) {p : Addr} (n : H p = none) : S p = none := by
  cases e : S p with
  | none => rfl
  | some o =>
    have x := h p o e
    cases o with
    | lst xs => obtain ⟨vs, q, _⟩ := x; rw [n] at q; cases q
    | dct ks vs => obtain ⟨es, _, _, q, _⟩ := x; rw [n] at q; cases q
    | ins C ns vs => obtain ⟨dx, fs, q, _⟩ := x; rw [n] at q; cases q
theorem RepO.mono (e : Ext K S H S' H') {a : Addr} {o : MO} (hH : H' a = H a) (h : RepO K w H S a o) : RepO K w H' S' a o := by
  cases o with
  | lst xs => obtain ⟨vs, q, r⟩ := h; exact ⟨vs, hH.trans q, RepVs.mono e xs vs r⟩
  | dct ks vs => obtain ⟨es, kvs, vvs, q, h1, h2, h3, r1, r2, r3⟩ := h; exact ⟨es, kvs, vvs, hH.trans q, h1, h2, h3, RepVs.mono e ks kvs r1, RepVs.mono e vs vvs r2, r3⟩
  | ins C ns vs => obtain ⟨dx, fs, q, h1, r⟩ := h; exact ⟨dx, fs, hH.trans q, h1, RepVs.mono e vs _ r⟩
theorem SqT.upd_new {a p : Addr} {o : HO} {vs : List V} (n : H p = none) (h : SqT K H a vs) : SqT K (upd H p o) a vs := by
  rcases h with (h | ⟨ob, h⟩) | h
  · exact .inl (.inl (by rw [upd_ne (ne_of_none h n)]; exact h))
  · exact .inl (.inr ⟨ob, by rw [upd_ne (ne_of_none h n)]; exact h⟩)
  · exact .inr h
theorem Rd.upd_new {a p : Addr} {o u : HO} (n : H p = none) (h : Rd H a u) : Rd (upd H p o) a u := by
  rcases h with h | ⟨ob, h⟩
  · exact .inl (by rw [upd_ne (ne_of_none h n)]; exact h)
  · exact .inr ⟨ob, by rw [upd_ne (ne_of_none h n)]; exact h⟩
/-- a new object, not told in the store -/
theorem Ext.new {p : Addr} {o : HO} (n : H p = none) : Ext K S H S (upd H p o) :=
  ⟨fun a vs h => SqT.upd_new n h, fun a vs h z => ⟨Rd.upd_new n h, z⟩, fun a es h z => ⟨by rw [upd_ne (ne_of_none h n)]; exact h, z⟩⟩
theorem Rd.there {a : Addr} {u : HO} (h : Rd H a u) : ∃ o, H a = some o := by
  rcases h with h | ⟨ob, h⟩
  · exact ⟨_, h⟩
  · exact ⟨_, h⟩
/-- a new object, told -/
theorem Ext.newS {p : Addr} {o : HO} {m : MO} (n : H p = none) : Ext K S H (upS S p m) (upd H p o) :=
  ⟨fun a vs h => SqT.upd_new n h, fun a vs h z => ⟨Rd.upd_new n h, by
      obtain ⟨u, q⟩ := Rd.there h
      rw [upS_ne (ne_of_none q n)]; exact z⟩, fun a es h z => ⟨by rw [upd_ne (ne_of_none h n)]; exact h, by rw [upS_ne (ne_of_none h n)]; exact z⟩⟩
theorem RepH.new (h : RepH K w H S) {p : Addr} {o : HO} (n : H p = none) : RepH K w (upd H p o) S := fun a m e => by
  have hp : a ≠ p := fun z => by rw [z, h.free n] at e; cases e
  exact (h a m e).mono (Ext.new n) (upd_ne hp)
theorem RepH.newS (h : RepH K w H S) {p : Addr} {o : HO} {m : MO} (n : H p = none) (r : RepO K w (upd H p o) (upS S p m) p m) : RepH K w (upd H p o) (upS S p m) := fun a q e => by
  by_cases hp : a = p
  · subst hp
    rw [upS_same] at e
    cases e
    exact r
  · rw [upS_ne hp] at e
    exact (h a q e).mono (Ext.newS n) (upd_ne hp)
/-- what a told object is in the abstract heap: no tuple, nothing locked -/
theorem RepO.noTup {a : Addr} {m : MO} (h : RepO K w H S a m) : (∀ vs, H a ≠ some (.tup vs)) ∧ (∀ ob u, H a ≠ some (.frz ob u)) := by
  cases m with
  | lst xs => obtain ⟨vs, q, _⟩ := h; exact ⟨(fun _ z => by rw [q] at z; cases z), fun _ _ z => by rw [q] at z; cases z⟩
  | dct ks vs => obtain ⟨es, _, _, q, _⟩ := h; exact ⟨(fun _ z => by rw [q] at z; cases z), fun _ _ z => by rw [q] at z; cases z⟩
  | ins C ns vs => obtain ⟨dx, fs, q, _⟩ := h; exact ⟨(fun _ z => by rw [q] at z; cases z), fun _ _ z => by rw [q] at z; cases z⟩
/-- a told object changed -/
theorem Ext.put (h : RepH K w H S) {a : Addr} {m m' : MO} {o : HO} (e : S a = some m) : Ext K S H (upS S a m') (upd H a o) := by
  obtain ⟨nt, nf⟩ := (h a m e).noTup
  refine ⟨fun b vs q => ?_, fun b vs q z => ?_, fun b es q z => ?_⟩
  · rcases q with (q | ⟨ob, q⟩) | q
    · have hb : b ≠ a := fun z => nt vs (z ▸ q)
      exact .inl (.inl (by rw [upd_ne hb]; exact q))
    · have hb : b ≠ a := fun z => nf _ _ (z ▸ q)
      exact .inl (.inr ⟨ob, by rw [upd_ne hb]; exact q⟩)
    · exact .inr q
  · have hb : b ≠ a := fun y => by rw [y, e] at z; cases z
    refine ⟨?_, by rw [upS_ne hb]; exact z⟩
    rcases q with q | ⟨ob, q⟩
    · exact .inl (by rw [upd_ne hb]; exact q)
    · exact .inr ⟨ob, by rw [upd_ne hb]; exact q⟩
  · have hb : b ≠ a := fun y => by rw [y, e] at z; cases z
    exact ⟨by rw [upd_ne hb]; exact q, by rw [upS_ne hb]; exact z⟩
theorem RepH.put (h : RepH K w H S) {a : Addr} {m m' : MO} {o : HO} (e : S a = some m) (r : RepO K w (upd H a o) (upS S a m') a m') : RepH K w (upd H a o) (upS S a m') := fun b q eb => by
  by_cases hp : b = a
  · subst hp
    rw [upS_same] at eb
    cases eb
    exact r
  · rw [upS_ne hp] at eb
    exact (h b q eb).mono (Ext.put h e) (upd_ne hp)
/-- a told object is told no more: it stays as it is from now on -/
theorem delS_none {S : Sto} {a b : Addr} (z : S b = none) : delS S a b = none := by
  by_cases hb : b = a
  · rw [hb, delS_same]
  · rw [delS_ne hb]; exact z
theorem Ext.del {a : Addr} : Ext K S H (delS S a) H := ⟨fun _ _ q => q, fun b vs q z => ⟨q, delS_none z⟩, fun b es q z => ⟨q, delS_none z⟩⟩
theorem RepH.del (h : RepH K w H S) {a : Addr} : RepH K w H (delS S a) := fun b q eb => by
  by_cases hp : b = a
  · rw [hp, delS_same] at eb; cases eb
  · rw [delS_ne hp] at eb
    exact (h b q eb).mono Ext.del rfl
/-- a list told no more is data -/
theorem RepH.frz (h : RepH K w H S) {a : Addr} {xs : List PV} (e : S a = some (.lst xs)) : RepV K w H (delS S a) (.lst xs) (.ref a) := by
  obtain ⟨vs, q, r⟩ := h a _ e
  simp only [RepV]
  exact ⟨a, vs, rfl, .inl ⟨.inl q, delS_same⟩, RepVs.mono Ext.del xs vs r⟩
theorem RepH.frzD (h : RepH K w H S) {a : Addr} {ks xs : List PV} (e : S a = some (.dct ks xs)) : RepV K w H (delS S a) (.dct ks xs) (.ref a) := by
  obtain ⟨es, kvs, vvs, q, h1, h2, h3, r1, r2, r3⟩ := h a _ e
  simp only [RepV]
  exact ⟨a, es, kvs, vvs, rfl, q, delS_same, h1, h2, h3, RepVs.mono Ext.del ks kvs r1, RepVs.mono Ext.del xs vvs r2, r3⟩
/-- less is told -/
theorem Ext.less (l : ∀ a, S' a = S a ∨ S' a = none) : Ext K S H S' H :=
  ⟨fun _ _ q => q, fun b vs q z => ⟨q, (l b).elim (fun y => y.trans z) id⟩, fun b es q z => ⟨q, (l b).elim (fun y => y.trans z) id⟩⟩
theorem RepH.less (h : RepH K w H S) (l : ∀ a, S' a = S a ∨ S' a = none) : RepH K w H S' := fun b q eb => by
  rcases l b with y | y
  · exact (h b q (by rw [← y]; exact eb)).mono (Ext.less l) rfl
  · rw [y] at eb; cases eb
end
/-- the slots -/
abbrev Sl := List (Option PV)
def RepSt (K : PySem.W.Frag) (w : World) (H : Hp) (S : Sto) : Sl → St → Prop
  | [], [] => True
  | some x :: σ, v :: τ => (∃ u, v = some u ∧ RepV K w H S x u) ∧ RepSt K w H S σ τ
  | none :: σ, _ :: τ => RepSt K w H S σ τ
  | _, _ => False
section
variable {K : PySem.W.Frag} {w : World} {H H' H2 : Hp} {S S' S2 : Sto}
theorem RepSt.mono (e : Ext K S H S' H') : ∀ {σ : Sl} {τ : St}, RepSt K w H S σ τ → RepSt K w H' S' σ τ
  | [], [], _ => trivial
  | some x :: σ, v :: τ, h => by
    obtain ⟨⟨u, h1, h2⟩, h3⟩ := h
    exact ⟨⟨u, h1, RepV.mono e x u h2⟩, RepSt.mono e h3⟩
  | none :: σ, v :: τ, h => RepSt.mono (σ := σ) (τ := τ) e h
  | some _ :: _, [], h => h
  | none :: _, [], h => h
  | [], _ :: _, h => h
theorem RepSt.get : ∀ {σ : Sl} {τ : St} {i : Nat} {x : PV}, RepSt K w H S σ τ → σ[i]? = some (some x) → ∃ v, τ[i]? = some (some v) ∧ RepV K w H S x v
  | [], [], _, _, _, e => by simp at e
  | some y :: σ, v :: τ, 0, x, h, e => by
    obtain ⟨⟨u, h1, h2⟩, h3⟩ := h
    simp at e
    subst e h1
    exact ⟨u, rfl, h2⟩
  | none :: σ, v :: τ, 0, x, h, e => by simp at e
  | some y :: σ, v :: τ, i + 1, x, h, e => RepSt.get (i := i) (x := x) h.2 (by simpa using e)
  | none :: σ, v :: τ, i + 1, x, h, e => RepSt.get (σ := σ) (i := i) (x := x) h (by simpa using e)
  | some _ :: _, [], _, _, h, _ => h.elim
  | none :: _, [], _, _, h, _ => h.elim
  | [], _ :: _, _, _, h, _ => h.elim
theorem RepSt.set : ∀ {σ : Sl} {τ : St} (i : Nat) {x : PV} {v : V}, RepSt K w H S σ τ → RepV K w H S x v → RepSt K w H S (σ.set i (some x)) (τ.set i (some v))
  | [], [], _, _, _, h, _ => h
  | some y :: σ, v :: τ, 0, x, u, h, r => ⟨⟨u, rfl, r⟩, h.2⟩
  | none :: σ, v :: τ, 0, x, u, h, r => ⟨⟨u, rfl, r⟩, h⟩
  | some y :: σ, v :: τ, i + 1, x, u, h, r => ⟨h.1, RepSt.set i h.2 r⟩
  | none :: σ, v :: τ, i + 1, x, u, h, r => RepSt.set (σ := σ) (τ := τ) i h r
  | some _ :: _, [], _, _, _, h, _ => h.elim
  | none :: _, [], _, _, _, h, _ => h.elim
  | [], _ :: _, _, _, _, h, _ => h.elim
theorem RepSt.unset : ∀ {σ : Sl} {τ : St} (i : Nat), RepSt K w H S σ τ → RepSt K w H S (σ.set i none) (τ.set i none)
  | [], [], _, h => h
  | some y :: σ, v :: τ, 0, h => h.2
  | none :: σ, v :: τ, 0, h => h
  | some y :: σ, v :: τ, i + 1, h => ⟨h.1, RepSt.unset i h.2⟩
  | none :: σ, v :: τ, i + 1, h => RepSt.unset (σ := σ) (τ := τ) i h
  | some _ :: _, [], _, h => h.elim
  | none :: _, [], _, h => h.elim
  | [], _ :: _, _, h => h.elim
def wipeS (σ : Sl) : List Nat → Sl
  | [] => σ
  | v :: vs => (wipeS σ vs).set v none
theorem RepSt.wipe {σ : Sl} {τ : St} (h : RepSt K w H S σ τ) : ∀ vs : List Nat, RepSt K w H S (wipeS σ vs) (L2.wipe τ vs)
  | [] => h
  | v :: vs => (RepSt.wipe h vs).unset v
theorem RepSt.length : ∀ {σ : Sl} {τ : St}, RepSt K w H S σ τ → σ.length = τ.length
  | [], [], _ => rfl
  | some y :: σ, v :: τ, h => by rw [List.length_cons, List.length_cons, RepSt.length h.2]
  | none :: σ, v :: τ, h => by rw [List.length_cons, List.length_cons, RepSt.length (σ := σ) (τ := τ) h]
  | some _ :: _, [], h => h.elim
  | none :: _, [], h => h.elim
  | [], _ :: _, h => h.elim
end
end DL
end
section
set_option maxRecDepth 100000
/-! The intermediate language and its weakest preconditions. -/
namespace DL
open PySem PySem.Spec L2
open PyProof.Rows hiding St

/-- an exception of an own class: the class's name, its own fields -/
structure Exn where
  name : Str
  fs : List (Str × PV)
abbrev Post := PV → Sto → Prop
abbrev XPost := Exn → Sto → Prop
abbrev SpD := List PV → Sto → Post → XPost → Prop

inductive BOp where | add | sub | mul | mod | fdiv | pow
  deriving DecidableEq
inductive COp where | eq | ne | lt | le | gt | ge | is | isnot | isin | notin
  deriving DecidableEq
inductive Bi where | len | tuple | list | all | any | sum | abs | max1 | min1 | max2 | min2 | int | str | dict | sorted | lenset | listrange | listzip
  deriving DecidableEq
inductive Me where | append | extend | pop | insert | clear | get | setdefault | update | values | keys | items | index | popat | remove | reverse | join | split
  deriving DecidableEq
/-- a target: a name's slot, a tuple of targets -/
inductive Tg where | nm (i : Nat) | tp (ts : List Tg)

mutual
inductive CE where
  | var (i : Nat) | cst (v : PV) | bin (o : BOp) (m : Bool) (a b : CE) | neg (a : CE) | cmp (o : COp) (a b : CE) | chn (a : CE) (l : CCs)
  | and (a b : CE) | or (a b : CE) | not (a : CE) | idx (a b : CE) | slc (m : Bool) (a : CE) (lo hi : CO)
  | tup (es : CEs) | lst (m : Bool) (es : CEs) | dct0 (m : Bool) | dct1 (m : Bool) (k v : CE) | call (f : Nat) (m : Bool) (es : CEs) | bi (b : Bi) (m : Bool) (es : CEs) | me (c : Me) (m : Bool) (o : CE) (es : CEs)
  | rev (m : Bool) (a : CE) | lrng (m : Bool) (es : CEs) | lset (a : CE)
  | isi (e : CE) (ts : List String) | comp (m : Bool) (elt : CE) (tg : Tg) (it : CI) (cond : COT) (own : List Nat)
inductive CEs where
  | nil | cons (e : CE) (es : CEs)
inductive CCs where
  | one (o : COp) (e : CE) | more (o : COp) (e : CE) (l : CCs)
inductive CO where
  | none | some (e : CE)
inductive CT where
  | tst (e : CE) | not (a : CT) | and (a b : CT) | or (a b : CT)
inductive COT where
  | none | some (t : CT)
inductive CI where
  | seq (e : CE) | rng1 (e : CE) | rng2 (a b : CE) | rng3 (a b c : CE) | enum (e : CE) | zip (a b : CE) | revr (e : CE)
end
mutual
inductive CS where
  | asg (t : Tg) (e : CE) | par (i j : Nat) (a b : CE) | setI (o i e : CE) | setI2 (o i o' i' : CE) (a b : CE) | ex (e : CE) | ite (c : CT) (a b : CSs) | for (t : Tg) (it : CI) (b : CSs) | while (c : CT) (b : CSs)
  | ret (e : CE) | retN | pass | brk | cont | raise (x : Str) | raise1 (x f : Str) (e : CE) | try (b : CSs) (hs : CHs)
inductive CSs where
  | nil | cons (s : CS) (ss : CSs)
inductive CHs where
  | nil | cons (x : Str) (v : Option Nat) (b : CSs) (hs : CHs)
end

/-! ### the order of ints and of tuples of them -/
def rk : PV → Nat
  | .int _ => 1
  | .tup _ => 2
  | _ => 0
mutual
/-- the order: ints, tuples from the left -/
def cV : PV → PV → Ordering
  | .int a, .int b => if a < b then .lt else if a = b then .eq else .gt
  | .tup xs, .tup ys => cVs xs ys
  | x, y => if rk x < rk y then .lt else if rk x = rk y then .eq else .gt
def cVs : List PV → List PV → Ordering
  | [], [] => .eq
  | [], _ :: _ => .lt
  | _ :: _, [] => .gt
  | x :: xs, y :: ys => match cV x y with
    | .eq => cVs xs ys
    | o => o
end
/-- x before y -/
def ltV (x y : PV) : Bool := cV x y == .lt
/-- two that are compared part by part -/
def Al : Nat → PV → PV → Prop
  | _, .int _, .int _ => True
  | n + 1, .tup xs, .tup ys => ∀ (j : Nat) (h1 : j < xs.length) (h2 : j < ys.length), Al n xs[j] ys[j]
  | _, _, _ => False
/-- tuples that begin with an int -/
def Fst (x : PV) : Prop := ∃ i r, x = .tup (.int i :: r)
def SortTup (xs : List PV) : Prop := (∀ x ∈ xs, Fst x) ∧ ∀ x ∈ xs, ∀ y ∈ xs, Al 20 x y
def SortOK (xs : List PV) : Prop := SortTup xs ∨ ∃ ns : List Int, xs = ns.map PV.int ∧ ns.length < 64
/-! ### by values -/
/-- the list that a value reads as -/
def dL (S : Sto) : PV → Option (List PV)
  | .lst xs => some xs
  | .ref a => match S a with
    | some (.lst xs) => some xs
    | _ => none
  | _ => none
/-- the list or tuple that a value reads as -/
def dQ (S : Sto) : PV → Option (List PV)
  | .tup xs => some xs
  | .lst xs => some xs
  | .ref a => match S a with
    | some (.lst xs) => some xs
    | _ => none
  | _ => none
def dD (S : Sto) : PV → Option (List PV × List PV)
  | .dct ks vs => some (ks, vs)
  | .ref a => match S a with
    | some (.dct ks vs) => some (ks, vs)
    | _ => none
  | _ => none
/-- what a value reads as, its own object told -/
def dV (S : Sto) : PV → PV
  | .ref a => match S a with
    | some (.lst xs) => .lst xs
    | some (.dct ks vs) => .dct ks vs
    | _ => .ref a
  | x => x
/-- a new list: to be changed, or not -/
def newL (m : Bool) (xs : List PV) (S : Sto) (Q : Post) : Prop := match m with
  | true => ∀ p, S p = none → Q (.ref p) (upS S p (.lst xs))
  | false => Q (.lst xs) S
def newD (m : Bool) (ks vs : List PV) (S : Sto) (Q : Post) : Prop := match m with
  | true => ∀ p, S p = none → Q (.ref p) (upS S p (.dct ks vs))
  | false => Q (.dct ks vs) S
/-- what a call hands back is frozen where it isn't to be changed -/
def frzQ (m : Bool) (Q : Post) : Post := fun v S => match m with
  | true => Q v S
  | false => match v with
    | .ref p => (match S p with
      | some (.lst xs) => Q (.lst xs) (delS S p)
      | some (.dct ks vs) => Q (.dct ks vs) (delS S p)
      | _ => Q (.ref p) S)
    | v => Q v S
mutual
def pvD : PV → Option PyData
  | .non => some .none
  | .bl b => some (.bool b)
  | .int i => some (.int i)
  | .str x => some (.str x)
  | .tup xs => match pvDs xs with
    | some ds => some (.tuple ds)
    | none => none
  | .lst xs => match pvDs xs with
    | some ds => some (.list ds)
    | none => none
  | _ => none
def pvDs : List PV → Option (List PyData)
  | [] => some []
  | x :: xs => match pvD x, pvDs xs with
    | some d, some ds => some (d :: ds)
    | _, _ => none
end
/-- numbers that may be multiplied -/
def mulOk (i j : Int) : Prop := CMul i j ∨ CMulW i j
def binD (o : BOp) (m : Bool) (x y : PV) (S : Sto) (Q : Post) : Prop := match o with
  | .add => (match x, y with
    | .int i, .int j => Q (.int (i + j)) S
    | .tup xs, .tup ys => xs.length + ys.length ≤ sizeLine ∧ Q (.tup (xs ++ ys)) S
    | .str a, .str b => a.length + b.length ≤ sizeLine ∧ Q (.str (a ++ b)) S
    | x, y => match dL S x, dL S y with
      | some xs, some ys => xs.length + ys.length ≤ sizeLine ∧ newL m (xs ++ ys) S Q
      | _, _ => False)
  | .sub => (match x, y with
    | .int i, .int j => Q (.int (i - j)) S
    | _, _ => False)
  | .mul => (match x, y with
    | .int i, .int j => mulOk i j ∧ Q (.int (i * j)) S
    | .tup xs, .int k => 0 ≤ k ∧ k < 2 ^ 62 ∧ xs.length * k.toNat ≤ sizeLine ∧ Q (.tup (List.replicate k.toNat xs).flatten) S
    | x, .int k => (match dL S x with
      | some xs => 0 ≤ k ∧ k < 2 ^ 62 ∧ xs.length * k.toNat ≤ sizeLine ∧ newL m (List.replicate k.toNat xs).flatten S Q
      | none => False)
    | _, _ => False)
  | .mod => (match x, y with
    | .int i, .int j => 0 < j ∧ Q (.int (i % j)) S
    | _, _ => False)
  | .fdiv => (match x, y with
    | .int i, .int j => CDivW i j ∧ Q (.int (i / j)) S
    | _, _ => False)
  | .pow => (match x, y with
    | .int i, .int j => CPow i j ∧ Q (.int (i ^ j.toNat)) S
    | _, _ => False)
mutual
/-- a tree that equals itself wherever it stands -/
def eqable : Nat → PV → Bool
  | _, .non => true
  | _, .bl _ => true
  | _, .int _ => true
  | _, .str _ => true
  | _, .ref _ => true
  | n + 1, .tup xs => eqables n xs
  | n + 1, .lst xs => eqables n xs
  | _, _ => false
def eqables : Nat → List PV → Bool
  | _, [] => true
  | n, x :: xs => eqable n x && eqables n xs
end
def eqSame (x y : PV) (S : Sto) : Prop := (∃ xs, dL S x = some xs ∧ dL S y = some xs ∧ eqables 20 xs = true) ∨ (∃ xs, x = .tup xs ∧ y = .tup xs ∧ eqables 20 xs = true) ∨ (dD S x = some ([], []) ∧ dD S y = some ([], []))
/-- a value, what it names told in its place -/
def deep : Nat → Sto → PV → PV
  | 0, _, x => x
  | n + 1, S, .tup xs => .tup (xs.map (deep n S))
  | n + 1, S, .lst xs => .lst (xs.map (deep n S))
  | n + 1, S, .ref a => match S a with
    | some (.lst xs) => .lst (xs.map (deep n S))
    | _ => .ref a
  | _, _, x => x
def eqDat (x y : PV) (S : Sto) (Q : Bool → Prop) : Prop := match pvD (deep 20 S x), pvD (deep 20 S y) with
  | some d, some e => SeqAt.shaped d = true ∧ SeqAt.shaped e = true ∧ Q (PyData.eqv d e)
  | _, _ => False
def eqD (x y : PV) (S : Sto) (Q : Bool → Prop) : Prop := match x, y with
  | .int i, .int j => Q (decide (i = j))
  | .bl i, .bl j => Q (decide (i = j))
  | x, y => eqDat x y S Q ∨ (eqSame x y S ∧ Q true)
/-- the value at a key -/
def atKeyP (k : NestedKey) : List PV → List PV → Option PV
  | x :: ks, v :: vs => if pvKey x = some k then some v else atKeyP k ks vs
  | _, _ => none
/-- at its place, or at the end -/
def putKeyP (k : NestedKey) (x v : PV) : List PV → List PV → List PV × List PV
  | y :: ks, u :: vs => if pvKey y = some k then (y :: ks, v :: vs) else (y :: (putKeyP k x v ks vs).1, u :: (putKeyP k x v ks vs).2)
  | _, _ => ([x], [v])
/-- a key for a dict with these keys -/
def kOK (ks : List PV) (x : PV) : Prop := kkP x ≠ 0 ∧ ∀ y ∈ ks, kkP y = kkP x
/-- what a dict tells at a key -/
def dgetD (o x : PV) (S : Sto) (Q : Option PV → Prop) : Prop := match dD S o, pvKey x with
  | some (ks, vs), some k => kOK ks x ∧ Q (atKeyP k ks vs)
  | _, _ => False
/-- a dict's entry set -/
def dputD (a : Addr) (ks vs : List PV) (x v : PV) (S : Sto) (Q : Sto → Prop) : Prop := match pvKey x with
  | some k => kOK ks x ∧ ks.length < sizeLine ∧ Q (upS S a (.dct (putKeyP k x v ks vs).1 (putKeyP k x v ks vs).2))
  | none => False
/-- whether a value is among others -/
def inDs (d : PyData) (ds : List PyData) : Bool := ds.any fun e => PyData.eqv e d
def inD (x y : PV) (S : Sto) (Q : Bool → Prop) : Prop := match dQ S y with
    | some ys => (match pvD (dV S x), pvDs ys with
      | some d, some ds => SeqAt.shaped d = true ∧ SeqAt.shaped (.list ds) = true ∧ Q (inDs d ds)
      | _, _ => False)
    | none => match x, y with
      | .str a, .str b => Q (!(Builtin.Str.occurrences b a 0 b.length 1).isEmpty)
      | x, y => dgetD y x S fun o => Q o.isSome
def isNon : PV → Bool
  | .non => true
  | _ => false
def isBl (b : Bool) : PV → Bool
  | .bl c => c == b
  | _ => false
def cmpD (o : COp) (x y : PV) (S : Sto) (Q : Bool → Prop) : Prop := match o with
  | .eq => eqD x y S Q
  | .ne => eqD x y S fun b => Q (!b)
  | .lt => (match x, y with
    | .int i, .int j => Q (decide (i < j))
    | _, _ => False)
  | .le => (match x, y with
    | .int i, .int j => Q (decide (i ≤ j))
    | _, _ => False)
  | .gt => (match x, y with
    | .int i, .int j => Q (decide (j < i))
    | _, _ => False)
  | .ge => (match x, y with
    | .int i, .int j => Q (decide (j ≤ i))
    | _, _ => False)
  | .is => (match y with
    | .non => Q (isNon x)
    | .bl b => Q (isBl b x)
    | _ => False)
  | .isnot => (match y with
    | .non => Q (!isNon x)
    | .bl b => Q (!isBl b x)
    | _ => False)
  | .isin => inD x y S Q
  | .notin => inD x y S fun b => Q (!b)
def truD (x : PV) (S : Sto) (Q : Bool → Prop) : Prop := match x with
  | .non => Q false
  | .bl b => Q b
  | .int i => Q (i != 0)
  | .tup xs => Q (!xs.isEmpty)
  | x => match dL S x with
    | some xs => Q (!xs.isEmpty)
    | none => False
def idxD (x y : PV) (S : Sto) (Q : PV → Prop) : Prop := match y with
  | .int i => (match x with
    | .str z => z.length ≤ sizeLine ∧ (match atI z.cps.toList i with
      | some c => Q (.str ⟨#[c]⟩)
      | none => False)
    | x => match dQ S x with
      | some xs => (match atI xs i with
        | some v => Q v
        | none => False)
      | none => dgetD x y S fun o => match o with
        | some v => Q v
        | none => False)
  | y => dgetD x y S fun o => match o with
    | some v => Q v
    | none => False
def cutP (xs : List PV) (lo hi : Option Int) : List PV := (xs.drop (HT.sIx xs.length 0 lo)).take (HT.sIx xs.length xs.length hi - HT.sIx xs.length 0 lo)
def slcD (m : Bool) (x : PV) (lo hi : Option Int) (S : Sto) (Q : Post) : Prop := match x with
  | .tup xs => Q (.tup (cutP xs lo hi)) S
  | .str z => z.length ≤ sizeLine ∧ Q (.str (cutS z lo hi)) S
  | x => match dL S x with
    | some xs => newL m (cutP xs lo hi) S Q
    | none => False
/-- the built-in types of a value, its own first -/
def tyP (S : Sto) : PV → Option String
  | .non => some "NoneType"
  | .bl _ => some "bool"
  | .int _ => some "int"
  | .str _ => some "str"
  | .tup _ => some "tuple"
  | .lst _ => some "list"
  | .dct _ _ => some "dict"
  | .ref a => match S a with
    | some (.lst _) => some "list"
    | some (.dct _ _) => some "dict"
    | _ => none
  | .ty _ => none
def isT (t c : String) : Bool := t == c || (t == "bool" && c == "int")
/-- the type of a method's receiver -/
def meT : Me → String
  | .get | .setdefault | .update | .values | .keys | .items => "dict"
  | .join | .split => "str"
  | _ => "list"
/-- the ints of a list of them -/
def intsP : List PV → Option (List Int)
  | [] => some []
  | .int i :: xs => match intsP xs with
    | some r => some (i :: r)
    | none => none
  | _ => none
def blsP : List PV → Option (List Bool)
  | [] => some []
  | .bl i :: xs => match blsP xs with
    | some r => some (i :: r)
    | none => none
  | _ => none
def maxI : Int → List Int → Int
  | m, [] => m
  | m, x :: xs => maxI (if x > m then x else m) xs
def minI : Int → List Int → Int
  | m, [] => m
  | m, x :: xs => minI (if x < m then x else m) xs
def biD (b : Bi) (m : Bool) (as : List PV) (S : Sto) (Q : Post) : Prop := match b, as with
  | .len, [.str z] => z.length ≤ sizeLine ∧ Q (.int z.length) S
  | .len, [x] => (match dQ S x with
    | some xs => Q (.int xs.length) S
    | none => (match dD S x with
      | some (ks, _) => ks.length ≤ sizeLine ∧ Q (.int ks.length) S
      | none => False))
  | .tuple, [x] => (match dQ S x with
    | some xs => Q (.tup xs) S
    | none => False)
  | .list, [x] => (match dQ S x with
    | some xs => newL m xs S Q
    | none => (match dD S x with
      | some (ks, _) => ks.length ≤ sizeLine ∧ newL m ks S Q
      | none => False))
  | .all, [x] => (match dL S x with
    | some xs => (match blsP xs with
      | some bs => Q (.bl (bs.all id)) S
      | none => False)
    | none => False)
  | .any, [x] => (match dL S x with
    | some xs => (match blsP xs with
      | some bs => Q (.bl (bs.any id)) S
      | none => False)
    | none => False)
  | .sum, [x] => (match dL S x with
    | some xs => (match intsP xs with
      | some ns => Q (.int ns.sum) S
      | none => False)
    | none => (match x with
      | .tup xs => (match intsP xs with
        | some ns => Q (.int ns.sum) S
        | none => False)
      | _ => False))
  | .max1, [x] => (match dL S x with
    | some xs => (match intsP xs with
      | some (n :: ns) => Q (.int (maxI n ns)) S
      | _ => False)
    | none => False)
  | .min1, [x] => (match dL S x with
    | some xs => (match intsP xs with
      | some (n :: ns) => Q (.int (minI n ns)) S
      | _ => False)
    | none => False)
  | .abs, [.int i] => Q (.int (if i < 0 then -i else i)) S
  | .max2, [.int i, .int j] => Q (.int (if j > i then j else i)) S
  | .min2, [.int i, .int j] => Q (.int (if j < i then j else i)) S
  | .sorted, [x] => (match dL S x with
    | some xs => SortOK xs ∧ ∀ ys : List PV, ys.Perm xs → ys.Pairwise (fun a b => ltV b a = false) → newL m ys S Q
    | none => False)
  | .int, [.int i] => Q (.int i) S
  | .int, [.bl k] => Q (.int (if k then 1 else 0)) S
  | _, _ => False
def meD (c : Me) (m : Bool) (o : PV) (as : List PV) (S : Sto) (Q : Post) : Prop := match c, as with
  | .append, [x] => (match o with
    | .ref a => (match S a with
      | some (.lst xs) => xs.length < sizeLine ∧ Q .non (upS S a (.lst (xs ++ [x])))
      | _ => False)
    | _ => False)
  | .extend, [x] => (match o with
    | .ref a => (match S a, dL S x with
      | some (.lst xs), some ys => xs.length + ys.length ≤ sizeLine ∧ Q .non (upS S a (.lst (xs ++ ys)))
      | _, _ => False)
    | _ => False)
  | .pop, [] => (match o with
    | .ref a => (match S a with
      | some (.lst xs) => (match xs.getLast? with
        | some v => Q v (upS S a (.lst xs.dropLast))
        | none => False)
      | _ => False)
    | _ => False)
  | .insert, [.int i, x] => (match o with
    | .ref a => (match S a with
      | some (.lst xs) => xs.length < sizeLine ∧ 0 ≤ i ∧ i < 2 ^ 63 ∧ Q .non (upS S a (.lst (xs.take i.toNat ++ [x] ++ xs.drop i.toNat)))
      | _ => False)
    | _ => False)
  | .clear, [] => (match o with
    | .ref a => (match S a with
      | some (.lst _) => Q .non (upS S a (.lst []))
      | _ => False)
    | _ => False)
  | .reverse, [] => (match o with
    | .ref a => (match S a with
      | some (.lst xs) => Q .non (upS S a (.lst xs.reverse))
      | _ => False)
    | _ => False)
  | .popat, [.int i] => (match o with
    | .ref a => (match S a with
      | some (.lst xs) => (match ixN xs.length i with
        | some j => (match xs[j]? with
          | some v => -(2 ^ 63) ≤ i ∧ i < 2 ^ 63 ∧ Q v (upS S a (.lst (xs.eraseIdx j)))
          | none => False)
        | none => False)
      | _ => False)
    | _ => False)
  | .get, [x] => dgetD o x S fun r => Q (r.getD .non) S
  | .get, [x, y] => dgetD o x S fun r => Q (r.getD y) S
  | .setdefault, [x, y] => (match o with
    | .ref a => (match S a with
      | some (.dct ks vs) => kkP x = 3 ∧ ks.length < sizeLine ∧ dgetD o x S fun r => match r with
        | some v => Q v S
        | none => dputD a ks vs x y S fun S' => Q y S'
      | _ => False)
    | _ => False)
  | .index, [.int y] => (match dL S o with
    | some xs => (match intsP xs with
      | some ns => ∃ j : Nat, ns[j]? = some y ∧ (∀ m, m < j → ns[m]? ≠ some y) ∧ Q (.int (j : Nat)) S
      | none => False)
    | none => False)
  | _, _ => False
def revD (m : Bool) (x : PV) (S : Sto) (Q : Post) : Prop := match dL S x with
  | some xs => newL m xs.reverse S Q
  | none => False
/-- o[i] = v -/
def setID (o i v : PV) (S : Sto) (Q : Sto → Prop) : Prop := match o with
  | .ref a => (match S a with
    | some (.lst xs) => (match i with
      | .int k => (match ixN xs.length k with
        | some j => Q (upS S a (.lst (xs.set j v)))
        | none => False)
      | _ => False)
    | some (.dct ks vs) => dputD a ks vs i v S Q
    | _ => False)
  | _ => False
mutual
/-- a value to a target -/
def tgD : Tg → PV → Sl → Sto → (Sl → Prop) → Prop
  | .nm i, v, σ, _, Q => Q (σ.set i (some v))
  | .tp ts, v, σ, S, Q => match dQ S v with
    | some xs => tgDs ts xs σ S Q
    | none => False
def tgDs : List Tg → List PV → Sl → Sto → (Sl → Prop) → Prop
  | [], [], σ, _, Q => Q σ
  | t :: ts, x :: xs, σ, S, Q => tgD t x σ S fun σ' => tgDs ts xs σ' S Q
  | _, _, _, _, _ => False
end
mutual
/-- the slots that a target sets -/
def Tg.slots : Tg → List Nat
  | .nm i => [i]
  | .tp ts => slotsOf ts
def slotsOf : List Tg → List Nat
  | [] => []
  | t :: ts => t.slots ++ slotsOf ts
end
/-- what is walked: the items, and that it stands as it was -/
structure Src where
  items : List PV
  ok : Sto → Prop
def itL {α : Type} (ok : Sto → Prop) (step : PV → α → Sto → (α → Sto → Prop) → Prop) (dn : α → Sto → Prop) : List PV → α → Sto → Prop
  | [], a, S => ok S ∧ dn a S
  | x :: xs, a, S => ok S ∧ step x a S fun a' S' => itL ok step dn xs a' S'
def rngP (lo : Int) (n : Nat) : List PV := (List.range n).map fun (k : Nat) => PV.int (lo + k)
def enumP : Nat → List PV → List PV
  | _, [] => []
  | n, x :: xs => .tup [.int n, x] :: enumP (n + 1) xs
def zipP : List PV → List PV → List PV
  | x :: xs, y :: ys => .tup [x, y] :: zipP xs ys
  | _, _ => []
/-- that a value reads as it did -/
def okL (x : PV) (xs : List PV) : Sto → Prop := match x with
  | .ref a => fun S => S a = some (.lst xs)
  | _ => fun _ => True

/-- that a dict stands as it did -/
def okD (x : PV) (ks vs : List PV) : Sto → Prop := match x with
  | .ref a => fun S => S a = some (.dct ks vs)
  | _ => fun _ => True

/-- list(range(..)) -/
def lrngD (m : Bool) (as : List PV) (S : Sto) (Q : Post) : Prop := match as with
  | [.int j] => j ≤ 2 ^ 24 ∧ -(2 ^ 62) ≤ j ∧ newL m (rngP 0 j.toNat) S Q
  | [.int i, .int j] => -(2 ^ 62) ≤ i ∧ i < 2 ^ 62 ∧ -(2 ^ 62) ≤ j ∧ j < 2 ^ 62 ∧ (j - i).toNat ≤ 2 ^ 24 ∧ newL m (rngP i (j - i).toNat) S Q
  | _ => False
/-- len(set(..)) of ints, each once -/
def lsetD (x : PV) (S : Sto) (Q : PV → Prop) : Prop := match dL S x with
  | some xs => (match intsP xs with
    | some ns => ns.length < 64 ∧ ns.Nodup ∧ Q (.int ns.length)
    | none => False)
  | none => False
structure GE where
  fn : Nat → SpD
  sub : Str → Str → Bool

mutual
def wpE (G : GE) : CE → Sl → Sto → Post → XPost → Prop
  | .var i, σ, S, Q, _ => match σ[i]? with
    | some (some v) => Q v S
    | _ => False
  | .cst v, _, S, Q, _ => Q v S
  | .bin o m a b, σ, S, Q, E => wpE G a σ S (fun x S1 => wpE G b σ S1 (fun y S2 => binD o m x y S2 Q) E) E
  | .neg a, σ, S, Q, E => wpE G a σ S (fun x S1 => match x with
    | .int i => Q (.int (-i)) S1
    | _ => False) E
  | .cmp o a b, σ, S, Q, E => wpE G a σ S (fun x S1 => wpE G b σ S1 (fun y S2 => cmpD o x y S2 fun k => Q (.bl k) S2) E) E
  | .chn a l, σ, S, Q, E => wpE G a σ S (fun x S1 => wpL G l x σ S1 Q E) E
  | .and a b, σ, S, Q, E => wpE G a σ S (fun x S1 => match x with
    | .bl true => wpE G b σ S1 Q E
    | .bl false => Q (.bl false) S1
    | _ => False) E
  | .or a b, σ, S, Q, E => wpE G a σ S (fun x S1 => match x with
    | .bl true => Q (.bl true) S1
    | .bl false => wpE G b σ S1 Q E
    | _ => False) E
  | .not a, σ, S, Q, E => wpE G a σ S (fun x S1 => truD x S1 fun k => Q (.bl (!k)) S1) E
  | .idx a b, σ, S, Q, E => wpE G a σ S (fun x S1 => wpE G b σ S1 (fun y S2 => idxD x y S2 fun v => Q v S2) E) E
  | .slc m a lo hi, σ, S, Q, E => wpE G a σ S (fun x S1 => wpO G lo σ S1 (fun l S2 => wpO G hi σ S2 (fun h S3 => slcD m x l h S3 Q) E) E) E
  | .tup es, σ, S, Q, E => wpEs G es σ S (fun xs S1 => xs.length ≤ sizeLine ∧ Q (.tup xs) S1) E
  | .lst m es, σ, S, Q, E => wpEs G es σ S (fun xs S1 => xs.length ≤ sizeLine ∧ newL m xs S1 Q) E
  | .dct0 m, _, S, Q, _ => newD m [] [] S Q
  | .dct1 m k v, σ, S, Q, E => wpE G k σ S (fun x S1 => wpE G v σ S1 (fun y S2 => kkP x ≠ 0 ∧ newD m [x] [y] S2 Q) E) E
  | .call f m es, σ, S, Q, E => wpEs G es σ S (fun xs S1 => G.fn f xs S1 (frzQ m Q) E) E
  | .bi b m es, σ, S, Q, E => wpEs G es σ S (fun xs S1 => biD b m xs S1 Q) E
  | .me c m o es, σ, S, Q, E => wpE G o σ S (fun x S1 => tyP S1 x = some (meT c) ∧ wpEs G es σ S1 (fun xs S2 => meD c m x xs S2 Q) E) E
  | .rev m a, σ, S, Q, E => wpE G a σ S (fun x S1 => revD m x S1 Q) E
  | .lset a, σ, S, Q, E => wpE G a σ S (fun x S1 => lsetD x S1 fun v => Q v S1) E
  | .lrng m es, σ, S, Q, E => wpEs G es σ S (fun xs S1 => lrngD m xs S1 Q) E
  | .isi e ts, σ, S, Q, E => wpE G e σ S (fun x S1 => match tyP S1 x with
    | some t => Q (.bl (ts.any (isT t))) S1
    | none => False) E
  | .comp m elt tg it cond own, σ, S, Q, E => wpI G it σ S (fun src S1 => ∀ p, S1 p = none → itL src.ok (fun x acc S2 k => tgD tg x (wipeS σ own) S2 fun σ2 =>
      wpC G cond σ2 S2 fun b S3 => match b with
        | true => wpE G elt σ2 S3 (fun y S4 => S4 p = some (.lst acc) ∧ k (acc ++ [y]) (upS S4 p (.lst (acc ++ [y])))) (fun _ _ => False)
        | false => k acc S3) (fun acc S2 => S2 p = some (.lst acc) ∧ match m with
        | true => Q (.ref p) S2
        | false => Q (.lst acc) (delS S2 p)) src.items ([] : List PV) (upS S1 p (.lst []))) E
def wpL (G : GE) : CCs → PV → Sl → Sto → Post → XPost → Prop
  | .one o e, x, σ, S, Q, E => wpE G e σ S (fun y S2 => cmpD o x y S2 fun k => Q (.bl k) S2) E
  | .more o e l, x, σ, S, Q, E => wpE G e σ S (fun y S2 => cmpD o x y S2 fun k => match k with
    | true => wpL G l y σ S2 Q E
    | false => Q (.bl false) S2) E
def wpEs (G : GE) : CEs → Sl → Sto → (List PV → Sto → Prop) → XPost → Prop
  | .nil, _, S, Q, _ => Q [] S
  | .cons e es, σ, S, Q, E => wpE G e σ S (fun x S1 => wpEs G es σ S1 (fun xs S2 => Q (x :: xs) S2) E) E
def wpO (G : GE) : CO → Sl → Sto → (Option Int → Sto → Prop) → XPost → Prop
  | .none, _, S, Q, _ => Q none S
  | .some e, σ, S, Q, E => wpE G e σ S (fun x S1 => match x with
    | .int i => Q (some i) S1
    | _ => False) E
/-- a test -/
def wpT (G : GE) : CT → Sl → Sto → (Bool → Sto → Prop) → XPost → Prop
  | .tst e, σ, S, Q, E => wpE G e σ S (fun x S1 => truD x S1 fun b => Q b S1) E
  | .not a, σ, S, Q, E => wpT G a σ S (fun b S1 => Q (!b) S1) E
  | .and a b, σ, S, Q, E => wpT G a σ S (fun k S1 => match k with
    | true => wpT G b σ S1 Q E
    | false => Q false S1) E
  | .or a b, σ, S, Q, E => wpT G a σ S (fun k S1 => match k with
    | true => Q true S1
    | false => wpT G b σ S1 Q E) E
def wpC (G : GE) : COT → Sl → Sto → (Bool → Sto → Prop) → Prop
  | .none, _, S, Q => Q true S
  | .some e, σ, S, Q => wpT G e σ S Q (fun _ _ => False)
def wpI (G : GE) : CI → Sl → Sto → (Src → Sto → Prop) → XPost → Prop
  | .seq e, σ, S, Q, E => wpE G e σ S (fun x S1 => match dQ S1 x with
    | some xs => Q ⟨xs, okL x xs⟩ S1
    | none => False) E
  | .rng1 e, σ, S, Q, E => wpE G e σ S (fun x S1 => match x with
    | .int j => j ≤ sizeLine ∧ -(2 ^ 62) ≤ j ∧ Q ⟨rngP 0 j.toNat, fun _ => True⟩ S1
    | _ => False) E
  | .rng2 a b, σ, S, Q, E => wpE G a σ S (fun x S1 => wpE G b σ S1 (fun y S2 => match x, y with
    | .int i, .int j => -(2 ^ 62) ≤ i ∧ i < 2 ^ 62 ∧ -(2 ^ 62) ≤ j ∧ j < 2 ^ 62 ∧ (j - i).toNat ≤ sizeLine ∧ Q ⟨rngP i (j - i).toNat, fun _ => True⟩ S2
    | _, _ => False) E) E
  | .rng3 _ _ _, _, _, _, _ => False
  | .enum e, σ, S, Q, E => wpE G e σ S (fun x S1 => match dQ S1 x with
    | some xs => Q ⟨enumP 0 xs, okL x xs⟩ S1
    | none => False) E
  | .zip a b, σ, S, Q, E => wpE G a σ S (fun x S1 => wpE G b σ S1 (fun y S2 => match dQ S2 x, dQ S2 y with
    | some xs, some ys => Q ⟨zipP xs ys, fun S => okL x xs S ∧ okL y ys S⟩ S2
    | _, _ => False) E) E
  | .revr e, σ, S, Q, E => wpE G e σ S (fun x S1 => match x with
    | .int j => j ≤ sizeLine ∧ -(2 ^ 62) ≤ j ∧ Q ⟨(rngP 0 j.toNat).reverse, fun _ => True⟩ S1
    | _ => False) E
end
/-- what is wanted behind a statement -/
structure EndD where
  nx : Sl → Sto → Prop
  rt : Post
  bk : Sl → Sto → Prop := fun _ _ => False
  ct : Sl → Sto → Prop := fun _ _ => False
def whileN (c : Sl → Sto → (Bool → Sto → Prop) → Prop) (b : (Sl → Sto → Prop) → Sl → Sto → Prop) (dn : Sl → Sto → Prop) : Nat → Sl → Sto → Prop
  | 0, _, _ => False
  | n + 1, σ, S => c σ S fun k S1 => match k with
    | true => b (whileN c b dn n) σ S1
    | false => dn σ S1
abbrev XPS := Exn → Sl → Sto → Prop
mutual
def wpS (G : GE) : CS → EndD → XPS → Sl → Sto → Prop
  | .asg t e, D, E, σ, S => wpE G e σ S (fun v S1 => tgD t v σ S1 fun σ' => D.nx σ' S1) fun x => E x σ
  | .par i j a b, D, E, σ, S => wpE G a σ S (fun x S1 => wpE G b σ S1 (fun y S2 => D.nx ((σ.set i (some x)).set j (some y)) S2) fun x => E x σ) fun x => E x σ
  | .setI o i e, D, E, σ, S => wpE G e σ S (fun v S1 => wpE G o σ S1 (fun x S2 => wpE G i σ S2 (fun y S3 => setID x y v S3 fun S4 => D.nx σ S4) fun x => E x σ) fun x => E x σ) fun x => E x σ
  | .setI2 o i o' i' a b, D, E, σ, S => wpE G a σ S (fun v S1 => wpE G b σ S1 (fun u S2 => wpE G o σ S2 (fun x S3 => wpE G i σ S3 (fun y S4 => setID x y v S4 fun S5 =>
      wpE G o' σ S5 (fun x' S6 => wpE G i' σ S6 (fun y' S7 => setID x' y' u S7 fun S8 => D.nx σ S8) fun x => E x σ) fun x => E x σ) fun x => E x σ) fun x => E x σ) fun x => E x σ) fun x => E x σ
  | .ex e, D, E, σ, S => wpE G e σ S (fun _ S1 => D.nx σ S1) fun x => E x σ
  | .ite c a b, D, E, σ, S => wpT G c σ S (fun k S1 => match k with
    | true => wpSs G a D E σ S1
    | false => wpSs G b D E σ S1) fun x => E x σ
  | .for t it b, D, E, σ, S => wpI G it σ S (fun src S1 => itL src.ok (fun x σ S2 k => tgD t x σ S2 fun σ2 => wpSs G b { D with nx := k, ct := k, bk := D.nx } E σ2 S2) D.nx src.items σ S1) fun x => E x σ
  | .while c b, D, E, σ, S => ∃ n, whileN (fun σ S Q => wpT G c σ S Q fun x => E x σ) (fun k σ S => wpSs G b { D with nx := k, ct := k, bk := D.nx } E σ S) D.nx n σ S
  | .ret e, D, E, σ, S => wpE G e σ S D.rt fun x => E x σ
  | .retN, D, _, _, S => D.rt .non S
  | .pass, D, _, σ, S => D.nx σ S
  | .brk, D, _, σ, S => D.bk σ S
  | .cont, D, _, σ, S => D.ct σ S
  | .raise x, _, E, σ, S => E ⟨x, []⟩ σ S
  | .raise1 x f e, _, E, σ, S => wpE G e σ S (fun v S1 => E ⟨x, [(f, v)]⟩ σ S1) fun x => E x σ
  | .try b hs, D, E, σ, S => wpSs G b D (fun x σ' S1 => wpH G hs D E x σ' S1) σ S
def wpSs (G : GE) : CSs → EndD → XPS → Sl → Sto → Prop
  | .nil, D, _, σ, S => D.nx σ S
  | .cons s ss, D, E, σ, S => wpS G s { D with nx := fun σ' S' => wpSs G ss D E σ' S' } E σ S
def wpH (G : GE) : CHs → EndD → XPS → Exn → Sl → Sto → Prop
  | .nil, _, E, x, σ, S => E x σ S
  | .cons y _ b hs, D, E, x, σ, S => match G.sub x.name y with
    | true => wpSs G b D E σ S
    | false => wpH G hs D E x σ S
end
end DL
end
section
set_option maxRecDepth 100000
/-! From the written form to the intermediate language. -/
namespace DL
open PySem PySem.Spec L2
open PyProof.Rows hiding St

def slotOf : List Str → Str → Option Nat
  | [], _ => none
  | y :: ys, x => if y = x then some 0 else (slotOf ys x).map (· + 1)
theorem slotOf_ok : ∀ {N : List Str} {x : Str} {i : Nat}, slotOf N x = some i → N[i]? = some x
  | [], _, _, h => by cases h
  | y :: ys, x, i, h => by
    unfold slotOf at h
    split at h
    · rename_i e
      cases h
      rw [e]
      rfl
    · obtain ⟨j, h1, rfl⟩ := Option.map_eq_some_iff.mp h
      have h2 := slotOf_ok h1
      show ys[j]? = some x
      exact h2

/-- what is known ahead: the slots' names, the kinds of the names here, where a new list is to be changed, the defs, constants and built-ins -/
structure Gam where
  N : List Str
  names : List (Str × NameKind)
  blk : Option (List (Str × NameKind)) := none
  own : List Pos := []
  fns : List (Str × Nat × Nat)
  cst : List (Str × PV) := []
  free : List Str
  exc : List Str := []
def Gam.glob (Γ : Gam) (x : Str) : Bool := Γ.names.lookup x == some .globalImplicit
def Gam.vis (Γ : Gam) (x : Str) : Bool := Γ.names.lookup x == some .local || Γ.names.lookup x == some .cell || Γ.names.lookup x == some .free
def Gam.loc (Γ : Gam) (x : Str) : Bool := Γ.names.lookup x == some .local || Γ.names.lookup x == some .cell
def Gam.fnc (Γ : Gam) (x : Str) : Bool := Γ.names.lookup x == some .local || (match Γ.blk with
  | none => true
  | some nm => nm.lookup x == some .cell)
def dbg (x : Str) : Bool := x == ("__debug__" : Str)
def cdc (x : Str) : Bool := x == ("__classdict__" : Str)
/-- a built-in by its name -/
def Gam.bi (Γ : Gam) (x : Str) : Bool := Γ.glob x && Γ.free.contains x && !dbg x
def noStar : Expr → Bool
  | .Starred _ _ => false
  | _ => true
def noSlice : Expr → Bool
  | .Slice _ _ _ _ => false
  | _ => true
def noComp : Expr → Bool
  | .ListComp _ _ _ _ | .SetComp _ _ _ _ | .DictComp _ _ _ _ _ => false
  | _ => true
def isTupE : Expr → Bool
  | .Tuple _ _ _ => true
  | _ => false
def noSet : Expr → Bool
  | .Set _ _ _ => false
  | _ => true
/-- no super() -/
def noSup : Expr → Bool
  | .Call (.Name _ _) [] [] _ => false
  | _ => true
def opB : Operator → Option BOp
  | .Add => some .add
  | .Sub => some .sub
  | .Mult => some .mul
  | .Mod => some .mod
  | .FloorDiv => some .fdiv
  | .Pow => some .pow
  | _ => none
def opC : CmpOp → COp
  | .Eq => .eq
  | .NotEq => .ne
  | .Lt => .lt
  | .LtE => .le
  | .Gt => .gt
  | .GtE => .ge
  | .Is => .is
  | .IsNot => .isnot
  | .In => .isin
  | .NotIn => .notin
/-- the plain built-in functions and types: by name and number of arguments -/
def biTab : List (Str × Nat × Bi) := [("len", 1, .len), ("tuple", 1, .tuple), ("list", 1, .list), ("all", 1, .all), ("any", 1, .any), ("sum", 1, .sum), ("abs", 1, .abs), ("max", 1, .max1), ("min", 1, .min1), ("max", 2, .max2), ("min", 2, .min2), ("int", 1, .int), ("sorted", 1, .sorted)]
def biOf (x : Str) (n : Nat) : Option Bi := (biTab.find? fun e => e.1 == x && e.2.1 == n).map (·.2.2)
def meTab : List (Str × Nat × Me) := [("append", 1, .append), ("extend", 1, .extend), ("pop", 0, .pop), ("insert", 2, .insert), ("clear", 0, .clear), ("reverse", 0, .reverse), ("pop", 1, .popat), ("get", 1, .get), ("get", 2, .get), ("setdefault", 2, .setdefault), ("index", 1, .index)]
def meOf (x : Str) (n : Nat) : Option Me := (meTab.find? fun e => e.1 == x && e.2.1 == n).map (·.2.2)
theorem biOf_mem {x : Str} {n : Nat} {b : Bi} (h : biOf x n = some b) : (x, n, b) ∈ biTab := by
  obtain ⟨⟨y, m, c⟩, h1, rfl⟩ := Option.map_eq_some_iff.mp h
  have h2 := List.find?_some h1
  simp only [Bool.and_eq_true, beq_iff_eq] at h2
  rw [← h2.1, ← h2.2]
  exact List.mem_of_find?_eq_some h1
theorem meOf_mem {x : Str} {n : Nat} {b : Me} (h : meOf x n = some b) : (x, n, b) ∈ meTab := by
  obtain ⟨⟨y, m, c⟩, h1, rfl⟩ := Option.map_eq_some_iff.mp h
  have h2 := List.find?_some h1
  simp only [Bool.and_eq_true, beq_iff_eq] at h2
  rw [← h2.1, ← h2.2]
  exact List.mem_of_find?_eq_some h1
def tyOf (x : Str) : Option String :=
  if x = ("int" : Str) then some "int"
  else if x = ("bool" : Str) then some "bool"
  else if x = ("tuple" : Str) then some "tuple"
  else if x = ("list" : Str) then some "list"
  else if x = ("dict" : Str) then some "dict"
  else if x = ("str" : Str) then some "str"
  else none
def tysOf (Γ : Gam) : List Expr → Option (List String)
  | [] => some []
  | .Name x _ :: es => if Γ.bi x = true then (match tyOf x, tysOf Γ es with
    | some t, some ts => some (t :: ts)
    | _, _ => none) else none
  | _ :: _ => none
/-- the own names of a block, with their slots -/
def ownOf (N : List Str) : List (Str × NameKind) → List (Str × Nat)
  | [] => []
  | (x, k) :: r => match k with
    | .local | .cell => (match slotOf N x with
      | some i => (x, i) :: ownOf N r
      | none => ownOf N r)
    | _ => ownOf N r
/-- the scope in which a def or a block runs, as far as it matters -/
def scOf (Γ : Gam) : Scope := { kind := .function, names := Γ.names, isGenerator := false, isCoroutine := false }
def Gam.block (Γ : Gam) (scope : Scope) : Gam := { Γ with names := (relS scope (scOf Γ)).names, blk := some scope.names }

/-- list(range(..)): the range's arguments -/
def isLrg (Γ : Gam) (f : Expr) (args : List Expr) (kws : List Keyword) : Option (List Expr) := match f, args, kws with
  | .Name x _, [.Call (.Name y _) ra [] _], [] => if (x == ("list" : Str) && y == ("range" : Str) && Γ.bi x && Γ.bi y && (Γ.fns.lookup x).isNone && (Γ.fns.lookup y).isNone) = true then some ra else none
  | _, _, _ => none
/-- len(set(..)) -/
def isLset (Γ : Gam) (f : Expr) (args : List Expr) (kws : List Keyword) : Option Expr := match f, args, kws with
  | .Name x _, [.Call (.Name y _) [a] [] _], [] => if (x == ("len" : Str) && y == ("set" : Str) && Γ.bi x && Γ.bi y && (Γ.fns.lookup x).isNone && (Γ.fns.lookup y).isNone && noStar a) = true then some a else none
  | _, _, _ => none
mutual
def compG : Nat → Gam → Expr → Option Tg
  | n + 1, Γ, .Name x _ => if (Γ.loc x && Γ.fnc x) = true then (slotOf Γ.N x).map .nm else none
  | n + 1, Γ, .Tuple es _ _ => if es.all noStar = true then (compGs n Γ es).map .tp else none
  | _, _, _ => none
def compGs : Nat → Gam → List Expr → Option (List Tg)
  | _, _, [] => some []
  | n + 1, Γ, e :: es => do
    let t ← compG n Γ e
    let ts ← compGs n Γ es
    return t :: ts
  | 0, _, _ :: _ => none
end
mutual
def compE : Nat → Gam → Expr → Option CE
  | n + 1, Γ, .Name x _ => if dbg x = true then none else if Γ.vis x = true then (if cdc x = true then none else (slotOf Γ.N x).map .var) else if Γ.glob x = true then (Γ.cst.lookup x).map .cst else none
  | n + 1, Γ, .Constant c _ _ => match c with
    | .none => some (.cst .non)
    | .bool b => some (.cst (.bl b))
    | .int i => some (.cst (.int i))
    | .str x => some (.cst (.str x))
    | _ => none
  | n + 1, Γ, .BinOp a op b pos => do
    let o ← opB op
    let ca ← compE n Γ a
    let cb ← compE n Γ b
    return .bin o (Γ.own.contains pos) ca cb
  | n + 1, Γ, .UnaryOp op a _ => match op with
    | .USub => (compE n Γ a).map .neg
    | .Not => (compE n Γ a).map .not
    | _ => none
  | n + 1, Γ, .BoolOp op es _ => compB n Γ op es
  | n + 1, Γ, .Compare a ops es _ => match ops, es with
    | [op], [b] => if behindInMarks op b = true then none else do
      let ca ← compE n Γ a
      let cb ← compE n Γ b
      return .cmp (opC op) ca cb
    | op :: op2 :: ops, b :: b2 :: bs => if lastMarks (op :: op2 :: ops) (b :: b2 :: bs) = true then none else do
      let ca ← compE n Γ a
      let cl ← compL n Γ (op :: op2 :: ops) (b :: b2 :: bs)
      return .chn ca cl
    | _, _ => none
  | n + 1, Γ, .Subscript a b pos => match b with
    | .Slice lo hi step _ => match step with
      | none => do
        let ca ← compE n Γ a
        let cl ← compO n Γ lo
        let ch ← compO n Γ hi
        return .slc (Γ.own.contains pos) ca cl ch
      | some st => (match lo, hi, st with
        | none, none, .UnaryOp .USub (.Constant (.int 1) _ _) _ => (compE n Γ a).map (.rev (Γ.own.contains pos))
        | _, _, _ => none)
    | b => if noSlice b = true then do
        let ca ← compE n Γ a
        let cb ← compE n Γ b
        return .idx ca cb else none
  | n + 1, Γ, .Tuple es _ _ => if es.all noStar = true then (compEs n Γ es).map .tup else none
  | n + 1, Γ, .List es pos => if es.all noStar = true then (compEs n Γ es).map (.lst (Γ.own.contains pos)) else none
  | n + 1, Γ, .Dict ks vs pos => match ks, vs with
    | [], [] => some (.dct0 (Γ.own.contains pos))
    | _, _ => none
  | n + 1, Γ, .Call f args kws pos => match isLrg Γ f args kws with
    | some [a] => if noStar a = true then (compE n Γ a).map fun c => .lrng (Γ.own.contains pos) (.cons c .nil) else none
    | some [a, b] => if (noStar a && noStar b) = true then do
        let ca ← compE n Γ a
        let cb ← compE n Γ b
        return .lrng (Γ.own.contains pos) (.cons ca (.cons cb .nil)) else none
    | some _ => none
    | none => match isLset Γ f args kws with
    | some a => (compE n Γ a).map .lset
    | none => match f, kws with
    | .Name x _, [] => if (args.all noStar && !args.isEmpty && Γ.glob x && !dbg x) = true then
        match Γ.fns.lookup x with
        | some (i, m) => if args.length = m then (compEs n Γ args).map (.call i (Γ.own.contains pos)) else none
        | none => if Γ.free.contains x = true then
            match x, args with
            | x, [a, t] => if x = ("isinstance" : Str) then (match t with
                | .Name y _ => if Γ.bi y = true then (match tyOf y with
                    | some ty => (compE n Γ a).map fun c => .isi c [ty]
                    | none => none) else none
                | .Tuple ts _ _ => (match tysOf Γ ts with
                    | some tys => if tys.length ≤ 8 then (compE n Γ a).map fun c => .isi c tys else none
                    | none => none)
                | _ => none) else do
                let b ← biOf x 2
                let cs ← compEs n Γ args
                return .bi b (Γ.own.contains pos) cs
            | x, args => do
              let b ← biOf x args.length
              let cs ← compEs n Γ args
              return .bi b (Γ.own.contains pos) cs
          else none
      else none
    | .Attribute o m apos, [] => if (args.all noStar && noSup o && apos.endLine == pos.line && decide (args.length < 29)) = true then do
        let c ← meOf m args.length
        let co ← compE n Γ o
        let cs ← compEs n Γ args
        return .me c (Γ.own.contains pos) co cs
      else none
    | _, _ => none
  | n + 1, Γ, .ListComp elt gens scope pos => match gens with
    | [⟨tg, it, ifs, a⟩] => if (a == 0 && blkC Γ.N (scOf Γ) scope (ownOf Γ.N scope.names) && noSet it) = true then do
        let ci ← compI n Γ (isTupE tg) it
        let ct ← compG n (Γ.block scope) tg
        let ce ← compE n (Γ.block scope) elt
        let cc ← compF n (Γ.block scope) ifs
        if (ct.slots.all fun i => ((ownOf Γ.N scope.names).map (·.2)).contains i) = true then return .comp (Γ.own.contains pos) ce ct ci cc ((ownOf Γ.N scope.names).map (·.2)) else none
      else none
    | _ => none
  | _, _, _ => none
def compEs : Nat → Gam → List Expr → Option CEs
  | _, _, [] => some .nil
  | n + 1, Γ, e :: es => do
    let c ← compE n Γ e
    let cs ← compEs n Γ es
    return .cons c cs
  | 0, _, _ :: _ => none
def compL : Nat → Gam → List CmpOp → List Expr → Option CCs
  | n + 1, Γ, [op], [e] => (compE n Γ e).map (.one (opC op))
  | n + 1, Γ, op :: ops, e :: es => do
    let c ← compE n Γ e
    let cl ← compL n Γ ops es
    return .more (opC op) c cl
  | _, _, _, _ => none
def compB : Nat → Gam → BoolOp → List Expr → Option CE
  | n + 1, Γ, _, [e] => compE n Γ e
  | n + 1, Γ, op, e :: es => do
    let c ← compE n Γ e
    let cs ← compB n Γ op es
    return (match op with
      | .And => .and c cs
      | .Or => .or c cs)
  | _, _, _, _ => none
def compO : Nat → Gam → Option Expr → Option CO
  | _, _, none => some .none
  | n + 1, Γ, some e => (compE n Γ e).map .some
  | 0, _, some _ => none
def compT : Nat → Gam → Expr → Option CT
  | n + 1, Γ, e => match e with
    | .UnaryOp .Not a _ => (compT n Γ a).map .not
    | .BoolOp op es _ => compTB n Γ op es
    | e => (compE n Γ e).map .tst
  | 0, _, _ => none
def compTB : Nat → Gam → BoolOp → List Expr → Option CT
  | n + 1, Γ, _, [e] => compT n Γ e
  | n + 1, Γ, op, e :: es => do
    let c ← compT n Γ e
    let cs ← compTB n Γ op es
    return (match op with
      | .And => .and c cs
      | .Or => .or c cs)
  | _, _, _, _ => none
def compF : Nat → Gam → List Expr → Option COT
  | _, _, [] => some .none
  | n + 1, Γ, [e] => (compT n Γ e).map .some
  | _, _, _ => none
def compI : Nat → Gam → Bool → Expr → Option CI
  | n + 1, Γ, tp, e => match e with
    | .Call (.Name x _) args [] pos => if (x = ("range" : Str) ∧ Γ.bi x = true ∧ Γ.fns.lookup x = none) then (match args with
        | [a] => if noStar a = true then (compE n Γ a).map .rng1 else none
        | [a, b] => if (noStar a && noStar b) = true then do
            let ca ← compE n Γ a
            let cb ← compE n Γ b
            return .rng2 ca cb else none
        | _ => none)
      else if (x = ("reversed" : Str) ∧ Γ.bi x = true ∧ Γ.fns.lookup x = none) then (match args with
        | [.Call (.Name y _) [a] [] _] => if (y == ("range" : Str) && Γ.bi y && noStar a) = true then (compE n Γ a).map .revr else none
        | _ => none)
      else if (x = ("enumerate" : Str) ∧ Γ.bi x = true ∧ Γ.fns.lookup x = none) then (match args with
        | [a] => if (noStar a && tp) = true then (compE n Γ a).map .enum else none
        | _ => none)
      else if (x = ("zip" : Str) ∧ Γ.bi x = true ∧ Γ.fns.lookup x = none) then (match args with
        | [a, b] => if (noStar a && noStar b && tp) = true then do
            let ca ← compE n Γ a
            let cb ← compE n Γ b
            return .zip ca cb else none
        | _ => none)
      else (compE n Γ e).map .seq
    | e => (compE n Γ e).map .seq
  | 0, _, _, _ => none
end
mutual
def compS : Nat → Gam → Stmt → Option CS
  | n + 1, Γ, .Assign ts e _ => match ts with
    | [.Name x px] => do
      let t ← compG n Γ (.Name x px)
      let c ← compE n Γ e
      if (noComp e || Γ.names.lookup x == some .local || Γ.names.lookup x == some .cell) = true then return .asg t c else none
    | [.Tuple es k pt] => if noComp e = true then (match e with
        | .Tuple vs _ _ => (match es, vs with
          | [.Name x _, .Name y _], [_, _] => if (x != y && Γ.names.lookup x == some .local && Γ.names.lookup y == some .local && vs.all noStar && (vs.all (foldedForSure 8) || !vs.all (constantsAlone 8))) = true then do
              let t ← compG n Γ (.Tuple es k pt)
              let c ← compE n Γ e
              return .asg t c else none
          | _, _ => none)
        | e => do
          let t ← compG n Γ (.Tuple es k pt)
          let c ← compE n Γ e
          return .asg t c) else none
    | [.Subscript o i _] => if (noComp e && noSlice i) = true then do
        let co ← compE n Γ o
        let ci ← compE n Γ i
        let c ← compE n Γ e
        return .setI co ci c else none
    | _ => none
  | n + 1, Γ, .Expr e _ => if noComp e = true then (match e with
    | .Constant (.str _) _ _ => some .pass
    | e => (compE n Γ e).map .ex) else none
  | n + 1, Γ, .If c a b _ => do
    let cc ← compT n Γ c
    let ca ← compSs n Γ a
    let cb ← compSs n Γ b
    return .ite cc ca cb
  | n + 1, Γ, .For tg it b orelse _ => match orelse with
    | [] => if noSet it = true then do
        let ct ← compG n Γ tg
        let ci ← compI n Γ (isTupE tg) it
        let cb ← compSs n Γ b
        return .for ct ci cb else none
    | _ :: _ => none
  | n + 1, Γ, .While c b orelse _ => match orelse with
    | [] => do
      let cc ← compT n Γ c
      let cb ← compSs n Γ b
      return .while cc cb
    | _ :: _ => none
  | n + 1, Γ, .Return e _ => match e with
    | some e => (compE n Γ e).map .ret
    | none => some .retN
  | n + 1, Γ, .Raise e c _ => match e, c with
    | some (.Call (.Name x _) [.Constant (.str _) _ _] [] _), none => if (Γ.exc.contains x && Γ.glob x && !dbg x && Γ.blk.isNone) = true then some (.raise x) else none
    | _, _ => none
  | n + 1, Γ, .Pass _ => some .pass
  | n + 1, Γ, .Break _ => some .brk
  | n + 1, Γ, .Continue _ => some .cont
  | _, _, _ => none
def compSs : Nat → Gam → List Stmt → Option CSs
  | _, _, [] => some .nil
  | n + 1, Γ, s :: ss => do
    let c ← compS n Γ s
    let cs ← compSs n Γ ss
    return .cons c cs
  | 0, _, _ :: _ => none
end
end DL
end
section
set_option maxRecDepth 100000
set_option maxHeartbeats 4000000
/-! Rules that the hand layer lacks: tuples joined, repeated, cut in any case; lists of any kind joined and repeated. -/
namespace DL
open PySem PySem.Spec L2
open PyProof.Rows hiding St

theorem tuple_addW0 (l b : Addr) (items items2 : Array Value) (n n2 : Nat) (dd dd2 : Option Addr) (sl sl2 : Array (Option Value)) (hc0 : items.isEmpty = true) :
    Meets (Builtin.«tuple.__add__» ⟨[.ref l, .ref b], []⟩) (fun _ R s => s.heap.get? l = some { cls := .type "tuple", dict := dd, data := .seq items n, slots := sl } ∧ s.heap.get? b = some { cls := .type "tuple", dict := dd2, data := .seq items2 n2, slots := sl2 } ∧ R (.ok (.ret (Value.ref b))) { s with heap := s.heap, toks := s.toks }) :=
  .of_wp fun prog w A R s h => by obtain ⟨hp, g, d, tk, os⟩ := s; obtain ⟨hl, hb, h⟩ := h; have f1 := AutoSeq1.idx_int; have f2 := AutoSeq1.sub_tuple_tuple; have f3 := AutoSeq1.sub_list_list; have f4 := AutoSeq1.sub_tuple_list; have f5 := AutoSeq1.sub_list_tuple; wp_walk using wpAny_loadPart' hl, wpAny_loadPart' hb; exact ⟨_, rfl, h⟩
section
variable {prog : Program} {w : World} {A : Around} {E : Value → Shared → Prop} {s : Shared}
theorem cat_tup0 {t b : Addr} {vs ws : List Value} {Q : Value → Shared → Prop} (ht : IsTup s.heap t vs.toArray) (hb : IsTup s.heap b ws.toArray) (hv : vs = []) (h : Q (.ref b) s) :
    wpAny (model prog w) A (binaryOp .Add (.ref t) (.ref b)) Q E s := by
  obtain ⟨⟨cls, dd, data, sl⟩, ho, hc, n, hd⟩ := id ht
  obtain ⟨⟨cls2, dd2, data2, sl2⟩, ho2, hc2, n2, hd2⟩ := id hb
  simp only at hc hd hc2 hd2
  subst hc hd hc2 hd2
  exact concat_meets ⟨_, ho, rfl⟩ ⟨_, ho2, rfl⟩ noFill_tuple_add seq_tuple_add PySem.F.slot_tuple_add PySem.F.entry_tuple_add (PySem.F.args_tuple_add_2 _ _)
      (tuple_addW0 t b vs.toArray ws.toArray n n2 dd dd2 sl sl2 (by simp [hv])) ⟨ho, ho2, h⟩
end
/-- t + u of tuples -/
def rCatA (K : PySem.W.Frag) : R2 := fun x y H Q => ∃ a b xs ys, x = .ref a ∧ y = .ref b ∧ SqT K H a xs ∧ SqT K H b ys ∧ xs.length + ys.length ≤ sizeLine ∧
  (xs = [] → Q (.ref b) H) ∧ (ys = [] → Q (.ref a) H) ∧ (∀ p, H p = none → Q (.ref p) (upd H p (.tup (xs ++ ys))))
section
variable {X : Cx}
theorem op_catA : OpR X (binaryOp .Add) (rCatA X.K) := by
  intro pins s σ H x y v u Q I rx ry h
  obtain ⟨a, b, xs, ys, rfl, rfl, ha, hb, hz, q0, q1, q2⟩ := h
  by_cases hx : xs = []
  · cases rx
    cases ry
    obtain ⟨its, r1, p1, _⟩ := I.tuple ha
    obtain ⟨its2, r2, p2, _⟩ := I.tuple hb
    exact cat_tup0 p1 p2 (r1.nil_iff.mpr hx) ⟨.ref b, H, I, rfl, q0 hx⟩
  · exact op_catT pins s σ H _ _ v u Q I rx ry ⟨a, b, xs, ys, rfl, rfl, ha, hb, hx, hz, q1, fun _ => q2⟩

/-- xs + ys of lists -/
def rCatLA (K : PySem.W.Frag) : R2 := fun x y H Q => ∃ a b xs ys, x = .ref a ∧ y = .ref b ∧ SqL K H a xs ∧ SqL K H b ys ∧ xs.length + ys.length ≤ sizeLine ∧ ∀ p, H p = none → Q (.ref p) (upd H p (.lst (xs ++ ys)))
theorem op_catLA : OpR X (binaryOp .Add) (rCatLA X.K) := by
  intro pins s σ H x y v u Q I rx ry h
  obtain ⟨a, b, xs, ys, rfl, rfl, ha, hb, hz, q⟩ := h
  cases rx
  cases ry
  obtain ⟨its, r1, ⟨⟨cls, dd, data, sl⟩, n, ho, hc, hdn, hd⟩, _⟩ := I.list ha
  obtain ⟨its2, r2, ⟨⟨cls2, dd2, data2, sl2⟩, n2, ho2, hc2, hdn2, hd2⟩, _⟩ := I.list hb
  simp only at hc hd hc2 hd2
  subst hc hd hc2 hd2
  have e : its.toArray ++ its2.toArray = (its ++ its2).toArray := by simp
  have hsz : its.toArray.size + its2.toArray.size ≤ sizeLine := by rw [List.size_toArray, List.size_toArray, ← r1.length, ← r2.length]; exact hz
  refine concat_meets ⟨_, ho, rfl⟩ ⟨_, ho2, rfl⟩ noFill_list_add seq_list_add PySem.F.slot_list_add PySem.F.entry_list_add (PySem.F.args_list_add_2 _ _) (list_addW a b its.toArray its2.toArray n n2 dd dd2 sl sl2 hsz) ⟨ho, ho2, ?_⟩
  rw [e]
  refine ⟨.ref s.heap.objs.size, _, I.laid (t' := s.toks) (o := .lst (xs ++ ys)) (fun b ob q => Heap.get?_push_of_some _ q) (Nat.le_refl _) ?_, rfl, q _ (I.hok.fresh (Nat.le_refl _))⟩
  exact ⟨by rw [List.length_append]; exact hz, _, 0, r1.append r2, Heap.get?_push_size _ rfl⟩

theorem tuple_mulW1 (l : Addr) (items : Array Value) (n : Nat) (dd : Option Addr) (sl : Array (Option Value)) (x : Int) (u : Tok) (c0 : (decide (x < -(2 ^ 63)) || decide (x ≥ 2 ^ 63)) = false) (c1 : (items.isEmpty || x == 1) = true) :
    Meets (Builtin.«tuple.__mul__» ⟨[.ref l, .int x u], []⟩) (fun _ R s => s.heap.get? l = some { cls := .type "tuple", dict := dd, data := .seq items n, slots := sl } ∧ R (.ok (.ret (Value.ref l))) s) :=
  .of_wp fun prog w A R s h => by
    obtain ⟨hp, g, d, tk, os⟩ := s
    obtain ⟨hl, h⟩ := h
    have f1 := AutoSeq1.idx_int
    wp_walk using wpAny_loadPart' hl
    repeat (first
      | (refine wpAny_ite_false (decide_eq_false (by rw [c0]; exact Bool.false_ne_true)) ?_; wp_walk using wpAny_loadPart' hl)
      | (refine wpAny_ite_true (decide_eq_true c1) ?_; wp_walk using wpAny_loadPart' hl))
    exact ⟨_, rfl, h⟩
theorem tuple_mulW0 (l : Addr) (items : Array Value) (n : Nat) (dd : Option Addr) (sl : Array (Option Value)) (x : Int) (u : Tok) (c0 : (decide (x < -(2 ^ 63)) || decide (x ≥ 2 ^ 63)) = false) (c1 : (items.isEmpty || x == 1) = false) (c2 : (decide (x ≤ 0) || items.isEmpty) = true) :
    Meets (Builtin.«tuple.__mul__» ⟨[.ref l, .int x u], []⟩) (fun _ R s => s.heap.get? l = some { cls := .type "tuple", dict := dd, data := .seq items n, slots := sl } ∧
      R (.ok (.ret (Value.ref s.heap.objs.size))) { s with heap := s.heap.push { cls := Value.type "tuple", data := Data.seq #[] }, toks := s.toks }) :=
  .of_wp fun prog w A R s h => by
    obtain ⟨hp, g, d, tk, os⟩ := s
    obtain ⟨hl, h⟩ := h
    have f1 := AutoSeq1.idx_int
    wp_walk using wpAny_loadPart' hl
    repeat (first
      | (refine wpAny_ite_false (decide_eq_false (by rw [c0]; exact Bool.false_ne_true)) ?_; wp_walk using wpAny_loadPart' hl)
      | (refine wpAny_ite_false (decide_eq_false (by rw [c1]; exact Bool.false_ne_true)) ?_; wp_walk using wpAny_loadPart' hl)
      | (refine wpAny_ite_true (decide_eq_true c2) ?_; wp_walk using wpAny_loadPart' hl))
    exact ⟨_, rfl, h⟩
/-- t * k of a tuple -/
def rRepA (K : PySem.W.Frag) : R2 := fun x y H Q => ∃ l k xs, x = .ref l ∧ y = .int k ∧ SqT K H l xs ∧ 0 ≤ k ∧ k < 2 ^ 62 ∧ xs.length * k.toNat ≤ sizeLine ∧ (xs = [] ∨ k = 1 → Q (.ref l) H) ∧ ∀ p, H p = none → Q (.ref p) (upd H p (.tup (List.replicate k.toNat xs).flatten))
theorem op_repA : OpR X (binaryOp .Mult) (rRepA X.K) := by
  intro pins s σ H x y v u Q I rx ry h
  obtain ⟨l, k, xs, rfl, rfl, hT, h0, h1, hz, q1, q⟩ := h
  cases rx
  obtain ⟨t, rfl⟩ := ry
  obtain ⟨its, r, ⟨⟨cls, dd, data, sl⟩, ho, hc, n, hd⟩, hs⟩ := I.tuple hT
  simp only at hc hd
  subst hc hd
  have hle : its.length = xs.length := r.length.symm
  have hsz0 : its.toArray.size = xs.length := by rw [List.size_toArray, hle]
  have c0 : (decide (k < -(2 ^ 63)) || decide (k ≥ 2 ^ 63)) = false := by
    rw [decide_eq_false (by omega), decide_eq_false (by omega)] <;> rfl
  refine wpAny_binaryOp_repeat_ref (T := "tuple") (U := "int") (by decide) ⟨_, ho, rfl⟩ (fun s' => typeIs_int s' k t) noFill_tuple_mul F.fills_int_mul F.slot_int_rmul repeat_tuple F.slot_int_index.lookup
    (call_meets F.slot_int_rmul (typeIs_int s k t) F.entry_int_rmul (F.args_int_rmul_2 _ _) (int_rmul_tuple k t l its.toArray n dd sl) ⟨ho, rfl, ⟨_, ho, rfl⟩, ?_⟩)
  by_cases hA : xs = [] ∨ k = 1
  · have c1 : (its.toArray.isEmpty || k == 1) = true := by
      rcases hA with e | e
      · have : its = [] := List.eq_nil_of_length_eq_zero (by rw [hle, e]; rfl)
        subst this
        rfl
      · subst e
        simp
    exact call_meets F.slot_tuple_mul ⟨_, ho, rfl⟩ F.entry_tuple_mul (F.args_tuple_mul_2 _ _) (tuple_mulW1 l its.toArray n dd sl k t c0 c1) ⟨ho, ⟨.ref l, H, I, rfl, q1 hA⟩⟩
  · have hne : xs ≠ [] := fun e => hA (.inl e)
    have hk1 : k ≠ 1 := fun e => hA (.inr e)
    have hn : its ≠ [] := fun e => hne (by
      rw [e] at hle
      exact List.eq_nil_of_length_eq_zero hle.symm)
    have hi : its.toArray.isEmpty = false := by
      cases its with
      | nil => exact absurd rfl hn
      | cons a b => rfl
    have c1 : (its.toArray.isEmpty || k == 1) = false := by
      rw [hi, Bool.false_or]
      exact beq_eq_false_iff_ne.mpr hk1
    by_cases hk : k = 0
    · have c2 : (decide (k ≤ 0) || its.toArray.isEmpty) = true := by
        rw [decide_eq_true (by omega)]
        rfl
      refine call_meets F.slot_tuple_mul ⟨_, ho, rfl⟩ F.entry_tuple_mul (F.args_tuple_mul_2 _ _) (tuple_mulW0 l its.toArray n dd sl k t c0 c1 c2) ⟨ho, ?_⟩
      have q' := q s.heap.objs.size (I.hok.fresh (Nat.le_refl _))
      rw [show k.toNat = 0 by omega] at q'
      refine ⟨.ref s.heap.objs.size, _, I.laid (t' := s.toks) (o := .tup []) (fun b ob q => Heap.get?_push_of_some _ q) (Nat.le_refl _) ?_, rfl, q'⟩
      exact ⟨Nat.zero_le _, [], .nil, IsTup.new _ _⟩
    · have c2 : (decide (k ≤ 0) || its.toArray.isEmpty) = false := by
        rw [hi, Bool.or_false]
        exact decide_eq_false (by omega)
      have flen : (List.replicate k.toNat its).flatten.length ≤ sizeLine := by
        rw [PyProof.Rows.lm_len_rep_flat, hle, Nat.mul_comm]
        exact hz
      have hmul : ((its.toArray.size : Nat) : Int) * k ≤ 16777216 := by
        rw [hsz0]
        have e1 : (k.toNat : Int) = k := Int.toNat_of_nonneg h0
        have hz' : xs.length * k.toNat ≤ 16777216 := by rw [sizeLine_eq] at hz; exact hz
        have e2 : ((xs.length * k.toNat : Nat) : Int) ≤ 16777216 := by omega
        rw [Int.natCast_mul, e1] at e2
        exact e2
      have c4 : Builtin.Tuple.tupleTooMany (((its.toArray.size : Nat) : Int) * k) = false := by
        unfold Builtin.Tuple.tupleTooMany
        rw [sizeLine_eq]
        exact decide_eq_false (by omega)
      refine call_meets F.slot_tuple_mul ⟨_, ho, rfl⟩ F.entry_tuple_mul (F.args_tuple_mul_2 _ _) (tuple_mulW l its.toArray n dd sl k t c0 c1 c2 (by omega) c4 (by rw [size_rep, List.size_toArray]; exact flen)) ⟨ho, ?_⟩
      rw [size_rep]
      refine ⟨.ref s.heap.objs.size, _, I.laid (t' := s.toks) (o := .tup (List.replicate k.toNat xs).flatten) (fun b ob q => Heap.get?_push_of_some _ q) (Nat.le_refl _) ?_, rfl, q _ (I.hok.fresh (Nat.le_refl _))⟩
      exact ⟨by rw [PyProof.Rows.lm_len_rep_flat, Nat.mul_comm]; exact hz, _, r.rep k.toNat, IsTup.new _ _⟩
theorem list_mulA (l : Addr) (items : Array Value) (n : Nat) (dd : Option Addr) (sl : Array (Option Value)) (x : Int) (u : Tok) (h1 : ¬ (!Builtin.List.listFitsIndex x) = true) (h2 : ¬ items.size * x.toNat > (2 ^ 63 - 1) / 8) (h3 : ¬ Builtin.List.listTooLong (items.size * x.toNat) = true) :
    Meets (Builtin.«list.__mul__» ⟨[.ref l, .int x u], []⟩) (fun _ R s => s.heap.get? l = some { cls := .type "list", dict := dd, data := .seq items n, slots := sl } ∧
      R (.ok (.ret (Value.ref s.heap.objs.size))) { s with heap := s.heap.push { cls := Value.type "list", data := Data.seq (List.foldl (fun x1 x2 => x1 ++ x2) #[] (List.replicate (if items.isEmpty = true then 0 else x.toNat) items)) }, toks := s.toks }) :=
  .of_wp fun prog w A R s h => by
    obtain ⟨hp, g, d, tk, os⟩ := s
    obtain ⟨hl, h⟩ := h
    have f1 := AutoSeq1.idx_int
    have hsz := PySem.AutoListH.joined_fits h3
    wp_walk using wpAny_loadPart' hl
    repeat (first
      | (refine wpAny_ite_false (decide_eq_false h1) ?_; wp_walk using wpAny_loadPart' hl)
      | (refine wpAny_ite_false (decide_eq_false h2) ?_; wp_walk using wpAny_loadPart' hl)
      | (refine wpAny_ite_false (decide_eq_false h3) ?_; wp_walk using wpAny_loadPart' hl)
      | (refine wpAny_ite_false (decide_eq_false (Nat.not_lt.mpr hsz)) ?_; wp_walk using wpAny_loadPart' hl))
    exact ⟨_, rfl, h⟩
theorem int_rmul_listA (a : Int) (t : Tok) (l : Addr) (items : Array Value) (n : Nat) (dd : Option Addr) (sl : Array (Option Value)) :
    Meets (Builtin.«int.__rmul__» ⟨[.int a t, .ref l], []⟩) (fun _ R s => s.heap.get? l = some { cls := .type "list", dict := dd, data := .seq items n, slots := sl } ∧ R (.ok (.ret Value.notImplemented)) s) :=
  .of_wp fun prog w A R s h => by obtain ⟨hp, g, d, tk, os⟩ := s; obtain ⟨hl, h⟩ := h; wp_walk using wpAny_loadPart' hl; exact ⟨_, rfl, h⟩
/-- xs * k of a list -/
def rRepLA (K : PySem.W.Frag) : R2 := fun x y H Q => ∃ l k xs, x = .ref l ∧ y = .int k ∧ SqL K H l xs ∧ 0 ≤ k ∧ k < 2 ^ 62 ∧ xs.length * k.toNat ≤ sizeLine ∧ ∀ p, H p = none → Q (.ref p) (upd H p (.lst (List.replicate k.toNat xs).flatten))
theorem op_repLA : OpR X (binaryOp .Mult) (rRepLA X.K) := by
  intro pins s σ H x y v u Q I rx ry h
  obtain ⟨l, k, xs, rfl, rfl, hH, h1, h2, hz, q⟩ := h
  cases rx
  obtain ⟨t, rfl⟩ := ry
  obtain ⟨its, r, ⟨⟨cls, dd, data, sl⟩, n, e, hc, hdn, hd⟩, _⟩ := I.list hH
  simp only at hc hd
  subst hc hd
  have hl := r.length
  have hlen : its.toArray.size * k.toNat ≤ sizeLine := by rw [List.size_toArray, ← hl]; exact hz
  have hcap : ¬ its.toArray.size * k.toNat > (2 ^ 63 - 1) / 8 := by
    have : (sizeLine : Nat) ≤ (2 ^ 63 - 1) / 8 := by decide
    omega
  have hfit : ¬ (!Builtin.List.listFitsIndex k) = true := by
    rw [fitsIndex_both (by omega) (by omega)]
    exact Bool.false_ne_true
  have hlong : ¬ Builtin.List.listTooLong (its.toArray.size * k.toNat) = true := by
    rw [notLongL hlen]
    exact Bool.false_ne_true
  have hnew : List.foldl (fun x1 x2 => x1 ++ x2) #[] (List.replicate (if its.toArray.isEmpty = true then 0 else k.toNat) its.toArray) = (List.replicate k.toNat its).flatten.toArray := by
    have f0 : ∀ m : Nat, List.foldl (fun x1 x2 => x1 ++ x2) #[] (List.replicate m its.toArray) = (List.replicate m its).flatten.toArray := fun m => by
      have := foldl_rep its m []
      rw [List.nil_append] at this
      exact this
    rw [f0]
    cases its with
    | nil => simp
    | cons a r' => rw [if_neg (by simp)]
  refine wpAny_binaryOp_repeat_ref (T := "list") (U := "int") (by decide) ⟨_, e, rfl⟩ (fun s' => typeIs_int s' k t) noFill_list_mul F.fills_int_mul F.slot_int_rmul repeat_list F.slot_int_index.lookup
    (call_meets F.slot_int_rmul (typeIs_int s k t) F.entry_int_rmul (F.args_int_rmul_2 _ _) (int_rmul_listA k t l its.toArray n dd sl)
      ⟨e, rfl, ⟨_, e, rfl⟩, call_meets F.slot_list_mul ⟨_, e, rfl⟩ F.entry_list_mul (F.args_list_mul_2 _ _) (list_mulA l its.toArray n dd sl k t hfit hcap hlong) ⟨e, ?_⟩⟩)
  rw [hnew]
  refine ⟨.ref s.heap.objs.size, _, I.laid (t' := s.toks) (o := .lst (List.replicate k.toNat xs).flatten) (fun b ob q => Heap.get?_push_of_some _ q) (Nat.le_refl _) ?_, rfl, q _ (I.hok.fresh (Nat.le_refl _))⟩
  exact ⟨by rw [PyProof.Rows.lm_len_rep_flat, Nat.mul_comm]; exact hz, _, 0, r.rep k.toNat, Heap.get?_push_size _ rfl⟩

/-- t[lo:hi] of a tuple, the whole too -/
def rSlTA (K : PySem.W.Frag) : V → Option Int → Option Int → Hp → VK → Prop := fun x lo hi H Q => ∃ a xs, x = .ref a ∧ SqT K H a xs ∧
  ((HT.sIx xs.length 0 lo = 0 ∧ HT.sIx xs.length xs.length hi = xs.length) → Q (.ref a) H) ∧ ∀ p, H p = none → Q (.ref p) (upd H p (.tup (cutV xs lo hi)))
theorem getItem_tuple_whole {s : Shared} {t sl : Addr} {items : Array Value} {vl vu : Value} {lo hi : Option Int} {A : Around} {E : Value → Shared → Prop} {prog : Program} {w : World} {Q : Value → Shared → Prop} (ht : IsTup s.heap t items) (hs : s.heap.IsSliceOf sl vl vu .none) (pl : IsPart vl lo) (pu : IsPart vu hi)
    (hw : HT.sIx items.size 0 lo = 0 ∧ HT.sIx items.size items.size hi = items.size) (h : Q (.ref t) s) : wpAny (model prog w) A (getItem (.ref t) (.ref sl)) Q E s := by
  obtain ⟨os, hos, hcs, hds⟩ := id hs
  have hTs : s.TypeIs (.ref sl) "slice" := ⟨os, hos, hcs⟩
  unfold getItem
  try with_reducible refine wpAny_holding ?_
  first | refine wpAny_bind (wpAny_pure ?_) | skip
  refine wpAny_bind (wpAny_sequenceKey ht.typeIs (by decide) ?_)
  refine wpAny_bind (wpAny_callSpecial?_slot (name := Str.ofString "__getitem__") ht.typeIs PyProof.Rows.slot_tuple_getitem
    (wpAny_call_entry PyProof.Rows.slot_tuple_getitem ht.typeIs entry_tuple_getitem ?_ (args_tuple_getitem _ _)))
  show wpAny _ _ (Builtin.Tuple.tupleItemsOf (.ref t) >>= _) _ _ s
  refine wpAny_bind (tupleItemsOf_ ht ?_)
  refine wpAny_bind (wpAny_typeOf hTs ?_)
  rw [if_pos (by decide)]
  refine wpAny_bind (HT.sliceApplied_gen hs pl pu ?_)
  have hyes : ((((HT.sIx items.size 0 lo : Nat) : Int) == 0 && (1 : Int) == 1 && (HT.sIx items.size items.size hi - HT.sIx items.size 0 lo) == items.size) = true) := by
    rw [hw.1, hw.2]
    simp
  show wpAny _ _ (if (((HT.sIx items.size 0 lo : Nat) : Int) == 0 && (1 : Int) == 1 && (HT.sIx items.size items.size hi - HT.sIx items.size 0 lo) == items.size) = true then _ else _) _ _ s
  rw [if_pos hyes]
  refine wpAny_bind (m := Builtin.Tuple.tupleIsExact (.ref t)) (wpAny_bind (wpAny_typeOf ht.typeIs (wpAny_pure ?_)))
  rw [if_pos (by decide)]
  exact wpAny_bind (wpAny_rule (wpAny_pure ⟨_, rfl, wpAny_pure h⟩))
theorem sl_tupA : SlR X (rSlTA X.K) := by
  intro pins s σ H x v vl vu lo hi sl Q I rx hs pl pu h
  obtain ⟨a, xs, rfl, hx, q1, q2⟩ := h
  by_cases hw : HT.sIx xs.length 0 lo = 0 ∧ HT.sIx xs.length xs.length hi = xs.length
  · cases rx
    obtain ⟨its, r, ht, hz⟩ := I.tuple hx
    have hlen : its.toArray.size = xs.length := by rw [List.size_toArray]; exact r.length.symm
    refine ⟨"tuple", _, PyProof.Rows.slot_tuple_getitem.lookup, ht.typeIs, ?_⟩
    exact getItem_tuple_whole ht hs pl pu (by rw [hlen]; exact hw) ⟨.ref a, H, I, rfl, q1 hw⟩
  · exact sl_tup pins s σ H _ v vl vu lo hi sl Q I rx hs pl pu ⟨a, xs, rfl, hx, hw, q2⟩
end
end DL
end
section
set_option maxRecDepth 100000
set_option maxHeartbeats 1000000
/-! Soundness of the operations, by values. -/
namespace DL
open PySem PySem.Spec L2
open PyProof.Rows hiding St

/-- what follows with a value -/
def kV (K : PySem.W.Frag) (w : World) (S : Sto) (H : Hp) (Q' : Post) (Q : VK) : Prop := ∀ v H' v' S', RepV K w H' S' v' v → RepH K w H' S' → Ext K S H S' H' → Q' v' S' → Q v H'
theorem kV.mono {K : PySem.W.Frag} {w : World} {S S1 : Sto} {H H1 : Hp} {Q' : Post} {Q : VK} (k : kV K w S H Q' Q) (e : Ext K S H S1 H1) : kV K w S1 H1 Q' Q := fun v H' v' S' r h e' q => k v H' v' S' r h (e.trans e') q

section
variable {K : PySem.W.Frag} {w : World} {H H' : Hp} {S S' : Sto}
theorem dL_rep {x : PV} {v : V} {xs : List PV} (h : RepH K w H S) (r : RepV K w H S x v) (e : dL S x = some xs) : ∃ a vs, v = .ref a ∧ SqL K H a vs ∧ RepVs K w H S xs vs := by
  cases x with
  | lst ys =>
    simp only [dL, Option.some.injEq] at e
    subst e
    simp only [RepV] at r
    obtain ⟨a, vs, h1, h2, h3⟩ := r
    exact ⟨a, vs, h1, h2.sq, h3⟩
  | ref a =>
    simp only [dL] at e
    split at e
    · rename_i ys q
      cases e
      simp only [RepV] at r
      obtain ⟨vs, h1, h2⟩ := h a _ q
      exact ⟨a, vs, r, .inl (.inl h1), h2⟩
    · cases e
  | _ => simp [dL] at e
theorem dQ_rep {x : PV} {v : V} {xs : List PV} (h : RepH K w H S) (r : RepV K w H S x v) (e : dQ S x = some xs) : ∃ a vs, v = .ref a ∧ (SqL K H a vs ∨ SqT K H a vs) ∧ RepVs K w H S xs vs := by
  cases x with
  | tup ys =>
    simp only [dQ, Option.some.injEq] at e
    subst e
    simp only [RepV] at r
    obtain ⟨a, vs, h1, h2, h3⟩ := r
    exact ⟨a, vs, h1, .inr h2, h3⟩
  | lst ys =>
    obtain ⟨a, vs, h1, h2, h3⟩ := dL_rep h r (xs := xs) (by simpa [dL, dQ] using e)
    exact ⟨a, vs, h1, .inl h2, h3⟩
  | ref a =>
    obtain ⟨a, vs, h1, h2, h3⟩ := dL_rep h r (xs := xs) (by simpa [dL, dQ] using e)
    exact ⟨a, vs, h1, .inl h2, h3⟩
  | _ => simp [dQ] at e
theorem RepV.tup_of {a : Addr} {xs : List PV} {vs : List V} (h : SqT K H a vs) (r : RepVs K w H S xs vs) : RepV K w H S (.tup xs) (.ref a) := by
  simp only [RepV]
  exact ⟨a, vs, rfl, h, r⟩
/-- a new tuple -/
theorem new_tup {Q' : Post} {Q : VK} (hh : RepH K w H S) {xs : List PV} {vs : List V} (r : RepVs K w H S xs vs) (k : kV K w S H Q' Q) (q : Q' (.tup xs) S) : ∀ p, H p = none → Q (.ref p) (upd H p (.tup vs)) := fun p n =>
  k _ _ _ _ (RepV.tup_of (SqT.of upd_same) (RepVs.mono (Ext.new n) xs vs r)) (hh.new n) (Ext.new n) q
/-- a new list, frozen or not -/
theorem newL_ok {Q' : Post} {Q : VK} {m : Bool} (hh : RepH K w H S) {xs : List PV} {vs : List V} (r : RepVs K w H S xs vs) (k : kV K w S H Q' Q) (q : newL m xs S Q') : ∀ p, H p = none → Q (.ref p) (upd H p (.lst vs)) := fun p n => by
  cases m with
  | true =>
    have e : Ext K S H (upS S p (.lst xs)) (upd H p (.lst vs)) := Ext.newS n
    exact k _ _ (.ref p) _ (by simp only [RepV]) (hh.newS (m := .lst xs) n ⟨vs, upd_same, RepVs.mono e xs vs r⟩) e (q p (hh.free n))
  | false =>
    refine k _ _ (.lst xs) S ?_ (hh.new n) (Ext.new n) q
    simp only [RepV]
    exact ⟨p, vs, rfl, .inl ⟨.inl upd_same, hh.free n⟩, RepVs.mono (Ext.new n) xs vs r⟩
theorem RepVs.rep {xs : List PV} {vs : List V} (r : RepVs K w H S xs vs) : ∀ k : Nat, RepVs K w H S (List.replicate k xs).flatten (List.replicate k vs).flatten
  | 0 => .nil
  | k + 1 => by
    rw [List.replicate_succ, List.replicate_succ, List.flatten_cons, List.flatten_cons]
    exact r.append (RepVs.rep r k)
theorem RepVs.cut {xs : List PV} {vs : List V} (r : RepVs K w H S xs vs) (lo hi : Option Int) : RepVs K w H S (cutP xs lo hi) (cutV vs lo hi) := by
  unfold cutP cutV
  rw [r.length]
  exact (r.drop _).take _
end
/-- a two-place operation, by data -/
def rUp2 (K : PySem.W.Frag) (w : World) (f : PV → PV → Sto → Post → Prop) : R2 := fun x y H Q => ∃ x' y' S Q', RepV K w H S x' x ∧ RepV K w H S y' y ∧ RepH K w H S ∧ f x' y' S Q' ∧ kV K w S H Q' Q
def rUpN (K : PySem.W.Frag) (w : World) (f : List PV → Sto → Post → Prop) : List V → Hp → VK → Prop := fun xs H Q => ∃ xs' S Q', RepVs K w H S xs' xs ∧ RepH K w H S ∧ f xs' S Q' ∧ kV K w S H Q' Q
section
variable {X : Cx}
theorem op_mulA : OpR X (binaryOp .Mult) (rI mulOk fun i j => .int (i * j)) := by
  intro pins s σ H x y v u Q I rx ry h
  obtain ⟨i, j, rfl, rfl, hc, q⟩ := h
  rcases hc with hc | hc
  · exact op_mul pins s σ H _ _ v u Q I rx ry ⟨i, j, rfl, rfl, hc, q⟩
  · exact op_mulW pins s σ H _ _ v u Q I rx ry ⟨i, j, rfl, rfl, hc, q⟩
theorem bin_ok (o : BOp) (op : Operator) (ho : opB op = some o) (m : Bool) : OpR X (binaryOp op) (rUp2 X.K X.w (binD o m)) := by
  intro pins s σ H x y v u Q I rx ry h
  obtain ⟨x', y', S, Q', hx, hy, hh, hf, k⟩ := h
  have int_of : ∀ {i : Int} {z : V}, RepV X.K X.w H S (.int i) z → z = .int i := fun h => by simpa only [RepV] using h
  have fin : ∀ {i : Int} , Q' (.int i) S → Q (.int i) H := fun {i} q => k _ _ (.int i) S (by simp only [RepV]) hh Ext.refl q
  cases op <;> simp only [opB, Option.some.injEq, reduceCtorEq] at ho <;> subst ho
  · -- add
    simp only [binD] at hf
    split at hf
    · cases int_of hx
      cases int_of hy
      exact op_add pins s σ H _ _ v u Q I rx ry ⟨_, _, rfl, rfl, fin hf⟩
    · rename_i xs ys
      have hx' := hx
      have hy' := hy
      simp only [RepV] at hx hy
      obtain ⟨a, vs, rfl, ha, ra⟩ := hx
      obtain ⟨b, us, rfl, hb, rb⟩ := hy
      refine op_catA pins s σ H _ _ v u Q I rx ry ⟨a, b, vs, us, rfl, rfl, ha, hb, by rw [← ra.length, ← rb.length]; exact hf.1, fun e => ?_, fun e => ?_, new_tup hh (ra.append rb) k hf.2⟩
      · subst e
        have : xs = [] := List.eq_nil_of_length_eq_zero (by rw [ra.length]; rfl)
        subst this
        exact k _ _ _ S hy' hh Ext.refl (by simpa using hf.2)
      · subst e
        have : ys = [] := List.eq_nil_of_length_eq_zero (by rw [rb.length]; rfl)
        subst this
        exact k _ _ _ S hx' hh Ext.refl (by simpa using hf.2)
    · simp only [RepV] at hx hy
      subst hx hy
      exact op_add_str pins s σ H _ _ v u Q I rx ry ⟨_, _, rfl, rfl, hf.1, k _ _ (.str _) S (by simp only [RepV]) hh Ext.refl hf.2⟩
    · split at hf
      · rename_i xs ys e1 e2
        obtain ⟨a, vs, rfl, ha, ra⟩ := dL_rep hh hx e1
        obtain ⟨b, us, rfl, hb, rb⟩ := dL_rep hh hy e2
        exact op_catLA pins s σ H _ _ v u Q I rx ry ⟨a, b, vs, us, rfl, rfl, ha, hb, by rw [← ra.length, ← rb.length]; exact hf.1, newL_ok hh (ra.append rb) k hf.2⟩
      · exact hf.elim
  · -- sub
    simp only [binD] at hf
    split at hf
    · cases int_of hx
      cases int_of hy
      exact op_sub pins s σ H _ _ v u Q I rx ry ⟨_, _, rfl, rfl, fin hf⟩
    · exact hf.elim
  · -- mul
    simp only [binD] at hf
    split at hf
    · cases int_of hx
      cases int_of hy
      exact op_mulA pins s σ H _ _ v u Q I rx ry ⟨_, _, rfl, rfl, hf.1, fin hf.2⟩
    · rename_i xs j
      cases int_of hy
      have hx' := hx
      simp only [RepV] at hx
      obtain ⟨a, vs, rfl, ha, ra⟩ := hx
      refine op_repA pins s σ H _ _ v u Q I rx ry ⟨a, j, vs, rfl, rfl, ha, hf.1, hf.2.1, by rw [← ra.length]; exact hf.2.2.1, fun e => ?_, new_tup hh (ra.rep _) k hf.2.2.2⟩
      refine k _ _ (.tup xs) S hx' hh Ext.refl ?_
      have hq := hf.2.2.2
      rcases e with e | e
      · subst e
        have : xs = [] := List.eq_nil_of_length_eq_zero (by rw [ra.length]; rfl)
        subst this
        have : (List.replicate j.toNat ([] : List PV)).flatten = [] := by
          rw [List.flatten_eq_nil_iff]
          intro l hl
          exact (List.eq_of_mem_replicate hl)
        rw [this] at hq
        exact hq
      · subst e
        simpa using hq
    · split at hf
      · rename_i j _ _ xs e1
        cases int_of hy
        obtain ⟨a, vs, rfl, ha, ra⟩ := dL_rep hh hx e1
        exact op_repLA pins s σ H _ _ v u Q I rx ry ⟨a, _, vs, rfl, rfl, ha, hf.1, hf.2.1, by rw [← ra.length]; exact hf.2.2.1, newL_ok hh (ra.rep _) k hf.2.2.2⟩
      · exact hf.elim
    · exact hf.elim
  · -- mod
    simp only [binD] at hf
    split at hf
    · cases int_of hx
      cases int_of hy
      exact op_mod pins s σ H _ _ v u Q I rx ry ⟨_, _, rfl, rfl, hf.1, fin hf.2⟩
    · exact hf.elim
  · -- pow
    simp only [binD] at hf
    split at hf
    · cases int_of hx
      cases int_of hy
      exact op_pow pins s σ H _ _ v u Q I rx ry ⟨_, _, rfl, rfl, hf.1, fin hf.2⟩
    · exact hf.elim
  · -- floordiv
    simp only [binD] at hf
    split at hf
    · cases int_of hx
      cases int_of hy
      exact op_fdivW pins s σ H _ _ v u Q I rx ry ⟨_, _, rfl, rfl, hf.1, fin hf.2⟩
    · exact hf.elim
end

/-! ### comparisons -/
section
variable {K : PySem.W.Frag} {w : World} {H H' : Hp} {S S' : Sto}
mutual
theorem pvD_rep : ∀ (x : PV) (v : V) (d : PyData), RepV K w H S x v → pvD x = some d → Dp K H v d
  | .non, v, d, r, e => by
    simp only [pvD, Option.some.injEq] at e
    simp only [RepV] at r
    subst e r
    exact .non
  | .bl b, v, d, r, e => by
    simp only [pvD, Option.some.injEq] at e
    simp only [RepV] at r
    subst e r
    exact .bl b
  | .int b, v, d, r, e => by
    simp only [pvD, Option.some.injEq] at e
    simp only [RepV] at r
    subst e r
    exact .int b
  | .str b, v, d, r, e => by
    simp only [pvD, Option.some.injEq] at e
    simp only [RepV] at r
    subst e r
    exact .str b
  | .tup xs, v, d, r, e => by
    simp only [pvD] at e
    split at e
    · rename_i ds q
      cases e
      simp only [RepV] at r
      obtain ⟨a, vs, rfl, h1, h2⟩ := r
      exact .tup h1 (pvDs_rep xs vs ds h2 q)
    · cases e
  | .lst xs, v, d, r, e => by
    simp only [pvD] at e
    split at e
    · rename_i ds q
      cases e
      simp only [RepV] at r
      obtain ⟨a, vs, rfl, h1, h2⟩ := r
      exact .lst h1.sq (pvDs_rep xs vs ds h2 q)
    · cases e
  | .dct _ _, _, _, _, e => by simp [pvD] at e
  | .ref _, _, _, _, e => by simp [pvD] at e
  | .ty _, _, _, _, e => by simp [pvD] at e
theorem pvDs_rep : ∀ (xs : List PV) (vs : List V) (ds : List PyData), RepVs K w H S xs vs → pvDs xs = some ds → DpAll K H vs ds
  | [], vs, ds, r, e => by
    simp only [pvDs, Option.some.injEq] at e
    subst e
    rw [r.nil_inv]
    exact .nil
  | x :: xs, vs, ds, r, e => by
    simp only [pvDs] at e
    split at e
    · rename_i d ds' q1 q2
      cases e
      obtain ⟨v, us, rfl, r1, r2⟩ := r.cons_inv
      exact .cons (pvD_rep x v d r1 q1) (pvDs_rep xs us ds' r2 q2)
    · cases e
end
theorem dV_rep {x : PV} {v : V} {d : PyData} (h : RepH K w H S) (r : RepV K w H S x v) (e : pvD (dV S x) = some d) : Dp K H v d := by
  cases x with
  | ref a =>
    simp only [dV] at e
    split at e
    · rename_i xs q
      simp only [RepV] at r
      subst r
      obtain ⟨vs, h1, h2⟩ := h a _ q
      simp only [pvD] at e
      split at e
      · rename_i ds q2
        cases e
        exact .lst (.inl (.inl h1)) (pvDs_rep xs vs ds h2 q2)
      · cases e
    · simp [pvD] at e
    · simp [pvD] at e
  | non => exact pvD_rep _ v d r e
  | bl b => exact pvD_rep _ v d r e
  | int b => exact pvD_rep _ v d r e
  | str b => exact pvD_rep _ v d r e
  | tup b => exact pvD_rep _ v d r e
  | lst b => exact pvD_rep _ v d r e
  | dct _ _ => exact pvD_rep _ v d r e
  | ty _ => exact pvD_rep _ v d r e
theorem deeps_rep {f : PV → PV} (hf : ∀ x v d, RepV K w H S x v → pvD (f x) = some d → Dp K H v d) : ∀ (xs : List PV) (vs : List V) (ds : List PyData), RepVs K w H S xs vs → pvDs (xs.map f) = some ds → DpAll K H vs ds
  | [], vs, ds, r, e => by
    simp only [List.map_nil, pvDs, Option.some.injEq] at e
    subst e
    rw [r.nil_inv]
    exact .nil
  | x :: xs, vs, ds, r, e => by
    simp only [List.map_cons, pvDs] at e
    split at e
    · rename_i d ds' q1 q2
      cases e
      obtain ⟨v, us, rfl, r1, r2⟩ := r.cons_inv
      exact .cons (hf x v d r1 q1) (deeps_rep hf xs us ds' r2 q2)
    · cases e
theorem deep_rep (h : RepH K w H S) : ∀ (n : Nat) (x : PV) (v : V) (d : PyData), RepV K w H S x v → pvD (deep n S x) = some d → Dp K H v d
  | 0, x, v, d, r, e => pvD_rep x v d r (by simpa only [deep] using e)
  | n + 1, x, v, d, r, e => by
    have ih := deep_rep h n
    cases x with
    | tup xs =>
      simp only [deep, pvD] at e
      split at e
      · rename_i ds q
        cases e
        simp only [RepV] at r
        obtain ⟨a, vs, rfl, h1, h2⟩ := r
        exact .tup h1 (deeps_rep ih xs vs ds h2 q)
      · cases e
    | lst xs =>
      simp only [deep, pvD] at e
      split at e
      · rename_i ds q
        cases e
        simp only [RepV] at r
        obtain ⟨a, vs, rfl, h1, h2⟩ := r
        exact .lst h1.sq (deeps_rep ih xs vs ds h2 q)
      · cases e
    | ref a =>
      simp only [deep] at e
      split at e
      · rename_i xs q
        simp only [pvD] at e
        split at e
        · rename_i ds q2
          cases e
          simp only [RepV] at r
          subst r
          obtain ⟨vs, h1, h2⟩ := h a _ q
          exact .lst (.inl (.inl h1)) (deeps_rep ih xs vs ds h2 q2)
        · cases e
      · simp [pvD] at e
    | _ => exact pvD_rep _ v d r (by simpa only [deep] using e)
theorem pvD_int {i : Int} {d : PyData} (h : pvD (.int i) = some d) : d = .int i := by simpa [pvD] using h.symm
end
def cmpP (o : COp) (x y : PV) (S : Sto) (Q : Post) : Prop := cmpD o x y S fun k => Q (.bl k) S
section
variable {X : Cx}
theorem DPhi.dictOf {P : Program} {w : World} {a : Addr} {h : Heap} (p : DPhi a [] h) : h.DictOf (mixKind P w) a ([] : List (Key × Value)) := by
  obtain ⟨_, o, arr, ep, e, x, d, m⟩ := p
  have ha : arr.toList = [] := by
    cases q : arr.toList with
    | nil => rfl
    | cons _ _ => rw [q] at m; simp at m
  have hb : arr = #[] := by simpa using ha
  subst hb
  exact ⟨o, #[], ep, e, x, d, fun _ he => by simp at he, .nil, List.nodup_nil⟩
section
variable {pins : List (Addr × Obj)} {σ : L2.St} {H : Hp} {S : Sto} {s : Shared}
mutual
theorem same_at (I : Inv X pins σ H s) : ∀ (n : Nat) (z : PV), eqable n z = true → ∀ (A : Around), A.units + n < cLine → ∀ {x y : V} {v u : Value}, RepV X.K X.w H S z x → RepV X.K X.w H S z y → RelV x v → RelV y u → SeqAt.EqAt A s v u true
  | _, .non, _, A, _, x, y, v, u, hx, hy, rx, ry => by simp only [RepV] at hx hy; subst hx hy; exact eqAt_same rx ry rfl
  | _, .bl _, _, A, _, x, y, v, u, hx, hy, rx, ry => by simp only [RepV] at hx hy; subst hx hy; exact eqAt_same rx ry rfl
  | _, .int _, _, A, _, x, y, v, u, hx, hy, rx, ry => by simp only [RepV] at hx hy; subst hx hy; exact eqAt_same rx ry rfl
  | _, .str _, _, A, _, x, y, v, u, hx, hy, rx, ry => by simp only [RepV] at hx hy; subst hx hy; exact eqAt_same rx ry rfl
  | _, .ref a, _, A, _, x, y, v, u, hx, hy, rx, ry => by
    simp only [RepV] at hx hy
    subst hx hy
    cases (show v = Value.ref a from rx)
    cases (show u = Value.ref a from ry)
    exact SeqAt.EqAt.same _
  | n + 1, .tup xs, h, A, hu, x, y, v, u, hx, hy, rx, ry => by
    simp only [RepV] at hx hy
    obtain ⟨a, vs, rfl, h1, h2⟩ := hx
    obtain ⟨b, us, rfl, h3, h4⟩ := hy
    cases (show v = Value.ref a from rx)
    cases (show u = Value.ref b from ry)
    by_cases e : a = b
    · subst e; exact SeqAt.EqAt.same _
    · obtain ⟨i1, r1, p1, _⟩ := I.tuple h1
      obtain ⟨i2, r2, p2, _⟩ := I.tuple h3
      have hl : i1.length = i2.length := by rw [← r1.length, ← r2.length, ← h2.length, ← h4.length]
      have key := SeqAt.RcAt.tuples (A := A) (e := fun _ => true) p1 p2 (by omega) fun j j1 j2 => by
        have := sames_at I n xs (by simpa only [eqable] using h) A.in1 (by show A.units + 1 + n < cLine; omega) h2 h4 r1 r2 j (by simpa using j1) (by simpa using j2)
        simpa using this
      have e2 : ((List.range (min i1.toArray.size i2.toArray.size)).all (fun _ => true) && i1.toArray.size == i2.toArray.size) = true := by simp [hl]
      rw [e2] at key
      exact SeqAt.EqAt.of_refs e key
  | n + 1, .lst xs, h, A, hu, x, y, v, u, hx, hy, rx, ry => by
    simp only [RepV] at hx hy
    obtain ⟨a, vs, rfl, h1, h2⟩ := hx
    obtain ⟨b, us, rfl, h3, h4⟩ := hy
    cases (show v = Value.ref a from rx)
    cases (show u = Value.ref b from ry)
    by_cases e : a = b
    · subst e; exact SeqAt.EqAt.same _
    · obtain ⟨i1, r1, p1, _⟩ := I.list h1.sq
      obtain ⟨i2, r2, p2, _⟩ := I.list h3.sq
      have hl : i1.length = i2.length := by rw [← r1.length, ← r2.length, ← h2.length, ← h4.length]
      have key := SeqAt.RcAt.lists (A := A) (e := fun _ => true) p1.isList p2.isList (by simpa using hl) (by omega) fun j j1 j2 => by
        have := sames_at I n xs (by simpa only [eqable] using h) A.in1 (by show A.units + 1 + n < cLine; omega) h2 h4 r1 r2 j (by simpa using j1) (by simpa using j2)
        simpa using this
      have e2 : ((List.range i1.toArray.size).all (fun _ => true)) = true := by simp
      rw [e2] at key
      exact SeqAt.EqAt.of_refs e key
  | 0, .tup _, h, _, _, _, _, _, _, _, _, _, _ => by simp [eqable] at h
  | 0, .lst _, h, _, _, _, _, _, _, _, _, _, _ => by simp [eqable] at h
  | n, .ty _, h, _, _, _, _, _, _, _, _, _, _ => by cases n <;> simp [eqable] at h
  | n, .dct _ _, h, _, _, _, _, _, _, _, _, _, _ => by cases n <;> simp [eqable] at h
theorem sames_at (I : Inv X pins σ H s) : ∀ (n : Nat) (zs : List PV), eqables n zs = true → ∀ (A : Around), A.units + n < cLine → ∀ {xs ys : List V} {vs us : List Value}, RepVs X.K X.w H S zs xs → RepVs X.K X.w H S zs ys → Vals xs vs → Vals ys us →
    ∀ j (h1 : j < vs.length) (h2 : j < us.length), SeqAt.EqAt A s vs[j] us[j] true
  | n, [], _, A, _, xs, ys, vs, us, hx, hy, rx, ry, j, j1, _ => by
    cases hx.nil_inv
    cases rx
    exact absurd j1 (Nat.not_lt_zero j)
  | n, z :: zs, h, A, hu, xs, ys, vs, us, hx, hy, rx, ry, j, j1, j2 => by
    simp only [eqables, Bool.and_eq_true] at h
    obtain ⟨x, xs', rfl, a1, a2⟩ := hx.cons_inv
    obtain ⟨y, ys', rfl, b1, b2⟩ := hy.cons_inv
    cases rx with
    | cons c1 c2 =>
      cases ry with
      | cons d1 d2 =>
        cases j with
        | zero => exact same_at I n z h.1 A hu a1 b1 c1 d1
        | succ j => exact sames_at I n zs h.2 A hu a2 b2 c2 d2 j (by simpa using j1) (by simpa using j2)
end
theorem dD_rep {x : PV} {v : V} (hh : RepH X.K X.w H S) (r : RepV X.K X.w H S x v) (e : dD S x = some ([], [])) : ∃ a, v = .ref a ∧ H a = some (.ext (DPhi a [])) := by
  cases x with
  | dct ks vs =>
    simp only [dD, Option.some.injEq, Prod.mk.injEq] at e
    obtain ⟨rfl, rfl⟩ := e
    simp only [RepV] at r
    obtain ⟨a, es, _, _, rfl, h1, _, h2, _⟩ := r
    have : es = [] := by simpa using h2
    subst this
    exact ⟨a, rfl, h1⟩
  | ref a =>
    simp only [RepV] at r
    simp only [dD] at e
    split at e
    · rename_i ks vs q
      simp only [Option.some.injEq, Prod.mk.injEq] at e
      obtain ⟨rfl, rfl⟩ := e
      obtain ⟨es, _, _, h1, h2, _⟩ := hh a _ q
      have : es = [] := by simpa using h2
      subst this
      exact ⟨a, r, h1⟩
    · cases e
  | _ => simp [dD] at e
/-- two that are the same, compared -/
theorem same_ok (hu : X.A.units + 64 < cLine) (ne : Bool) (I : Inv X pins σ H s) {x y : V} {x' y' : PV} {v u : Value} (hh : RepH X.K X.w H S) (hx : RepV X.K X.w H S x' x) (hy : RepV X.K X.w H S y' y) (rx : RelV x v) (ry : RelV y u) (hs : eqSame x' y' S)
    {Q : Value → Shared → Prop} (q : Q (.bool (!ne)) s) : wpAny (model X.prog X.w) X.A (compareOp (if ne then .NotEq else .Eq) v u) Q X.xe s := by
  rcases hs with ⟨xs, e1, e2, h⟩ | ⟨xs, e1, e2, h⟩ | ⟨e1, e2⟩
  · obtain ⟨a, vs, rfl, h1, h2⟩ := dL_rep hh hx e1
    obtain ⟨b, us, rfl, h3, h4⟩ := dL_rep hh hy e2
    cases (show v = Value.ref a from rx)
    cases (show u = Value.ref b from ry)
    obtain ⟨i1, r1, p1, _⟩ := I.list h1
    obtain ⟨i2, r2, p2, _⟩ := I.list h3
    have hl : i1.length = i2.length := by rw [← r1.length, ← r2.length, ← h2.length, ← h4.length]
    have he : ∀ j (j1 : j < i1.toArray.size) (j2 : j < i2.toArray.size), SeqAt.EqAt X.A.in1 s i1.toArray[j] i2.toArray[j] ((fun _ => true) j) := fun j j1 j2 => by
      have := sames_at I 20 xs h X.A.in1 (by show X.A.units + 1 + 20 < cLine; omega) h2 h4 r1 r2 j (by simpa using j1) (by simpa using j2)
      simpa using this
    have e2 : ((List.range i1.toArray.size).all (fun _ => true)) = true := by simp
    cases ne with
    | false =>
      have key := SeqAt.RcAt.lists (A := X.A) (e := fun _ => true) p1.isList p2.isList (by simpa using hl) (by omega) he
      rw [e2] at key
      exact key _ _ _ _ q
    | true =>
      have key := SeqAt.RcNeAt.lists (A := X.A) (e := fun _ => true) p1.isList p2.isList (by simpa using hl) (by omega) he
      rw [e2] at key
      exact key _ _ _ _ q
  · subst e1 e2
    simp only [RepV] at hx hy
    obtain ⟨a, vs, rfl, h1, h2⟩ := hx
    obtain ⟨b, us, rfl, h3, h4⟩ := hy
    cases (show v = Value.ref a from rx)
    cases (show u = Value.ref b from ry)
    obtain ⟨i1, r1, p1, _⟩ := I.tuple h1
    obtain ⟨i2, r2, p2, _⟩ := I.tuple h3
    have hl : i1.length = i2.length := by rw [← r1.length, ← r2.length, ← h2.length, ← h4.length]
    have he : ∀ j (j1 : j < i1.toArray.size) (j2 : j < i2.toArray.size), SeqAt.EqAt X.A.in1 s i1.toArray[j] i2.toArray[j] ((fun _ => true) j) := fun j j1 j2 => by
      have := sames_at I 20 xs h X.A.in1 (by show X.A.units + 1 + 20 < cLine; omega) h2 h4 r1 r2 j (by simpa using j1) (by simpa using j2)
      simpa using this
    have e2 : ((List.range (min i1.toArray.size i2.toArray.size)).all (fun _ => true) && i1.toArray.size == i2.toArray.size) = true := by simp [hl]
    cases ne with
    | false =>
      have key := SeqAt.RcAt.tuples (A := X.A) (e := fun _ => true) p1 p2 (by omega) he
      rw [e2] at key
      exact key _ _ _ _ q
    | true =>
      have key := SeqAt.RcNeAt.tuples (A := X.A) (e := fun _ => true) p1 p2 (by omega) he
      rw [e2] at key
      exact key _ _ _ _ q
  · obtain ⟨a, rfl, h1⟩ := dD_rep hh hx e1
    obtain ⟨b, rfl, h2⟩ := dD_rep hh hy e2
    cases (show v = Value.ref a from rx)
    cases (show u = Value.ref b from ry)
    obtain ⟨p1, _⟩ := (show ObjOk X.prog X.w H s.heap a (.ext (DPhi a [])) from I.hok a _ h1)
    obtain ⟨p2, _⟩ := (show ObjOk X.prog X.w H s.heap b (.ext (DPhi b [])) from I.hok b _ h2)
    cases ne with
    | false => exact PySem.W.keq_eq (knd := mixKind X.prog X.w) (r := true) p1.1 p2.1 p1.dictOf p2.dictOf (by omega) (fun _ => .nil) q
    | true => exact PySem.W.keq_ne (knd := mixKind X.prog X.w) (r := true) p1.1 p2.1 p1.dictOf p2.dictOf (by omega) (fun _ => .nil) q
end
theorem eq_ok (hu : X.A.units + 64 < cLine) : OpR X (compareOp .Eq) (rUp2 X.K X.w fun x y S Q => eqD x y S fun k => Q (.bl k) S) := by
  intro pins s σ H x y v u Q I rx ry h
  obtain ⟨x', y', S, Q', hx, hy, hh, hf, k⟩ := h
  have fin : ∀ {b : Bool}, Q' (.bl b) S → Q (.bl b) H := fun {i} q => k _ _ (.bl i) S (by simp only [RepV]) hh Ext.refl q
  simp only [eqD] at hf
  split at hf
  · simp only [RepV] at hx hy
    subst hx hy
    refine op_eq pins s σ H _ _ v u Q I rx ry ⟨rfl, ?_⟩
    simpa using fin hf
  · simp only [RepV] at hx hy
    subst hx hy
    refine op_eq pins s σ H _ _ v u Q I rx ry ⟨rfl, ?_⟩
    simpa using fin hf
  · rcases hf with hf | hf
    · unfold eqDat at hf
      split at hf
      · rename_i d e q1 q2
        exact op_eqD hu pins s σ H x y v u Q I rx ry ⟨d, e, deep_rep hh 20 _ _ _ hx q1, deep_rep hh 20 _ _ _ hy q2, hf.1, hf.2.1, fin hf.2.2⟩
      · exact hf.elim
    · exact same_ok hu false I hh hx hy rx ry hf.1 ⟨.bl true, H, I, rfl, fin hf.2⟩
theorem ne_ok (hu : X.A.units + 64 < cLine) : OpR X (compareOp .NotEq) (rUp2 X.K X.w fun x y S Q => eqD x y S fun k => Q (.bl (!k)) S) := by
  intro pins s σ H x y v u Q I rx ry h
  obtain ⟨x', y', S, Q', hx, hy, hh, hf, k⟩ := h
  have fin : ∀ {b : Bool}, Q' (.bl b) S → Q (.bl b) H := fun {i} q => k _ _ (.bl i) S (by simp only [RepV]) hh Ext.refl q
  simp only [eqD] at hf
  split at hf
  · simp only [RepV] at hx hy
    subst hx hy
    refine op_ne pins s σ H _ _ v u Q I rx ry ⟨rfl, ?_⟩
    simpa using fin hf
  · simp only [RepV] at hx hy
    subst hx hy
    refine op_ne pins s σ H _ _ v u Q I rx ry ⟨rfl, ?_⟩
    simpa using fin hf
  · rcases hf with hf | hf
    · unfold eqDat at hf
      split at hf
      · rename_i d e q1 q2
        exact op_neD hu pins s σ H x y v u Q I rx ry ⟨d, e, deep_rep hh 20 _ _ _ hx q1, deep_rep hh 20 _ _ _ hy q2, hf.1, hf.2.1, fin hf.2.2⟩
      · exact hf.elim
    · exact same_ok hu true I hh hx hy rx ry hf.1 ⟨.bl false, H, I, rfl, fin hf.2⟩
end
end DL
end
section
set_option maxRecDepth 100000
set_option maxHeartbeats 1000000
/-! Dicts, by values: looked up, set. -/
namespace DL
open PySem PySem.Spec L2
open PyProof.Rows hiding St

mutual
theorem nis_of {X : Cx} {pins : List (Addr × Obj)} {σ : L2.St} {H : Hp} {S : Sto} {s : Shared} (I : Inv X pins σ H s) : ∀ (x : PV) (v : V) (u : Value) (k : NestedKey), RepV X.K X.w H S x v → RelV v u → pvKey x = some k → NestedIs s.heap k u
  | .non, v, u, k, r, rv, e => by simp only [pvKey, Option.some.injEq] at e; subst e; simp only [RepV] at r; subst r; cases (show u = Value.none from rv); exact .none
  | .bl b, v, u, k, r, rv, e => by simp only [pvKey, Option.some.injEq] at e; subst e; simp only [RepV] at r; subst r; cases (show u = Value.bool b from rv); exact .bool (by cases b <;> rfl)
  | .int i, v, u, k, r, rv, e => by simp only [pvKey, Option.some.injEq] at e; subst e; simp only [RepV] at r; subst r; obtain ⟨t, rfl⟩ := (show ∃ t, u = Value.int i t from rv); exact .int i t
  | .str z, v, u, k, r, rv, e => by simp only [pvKey, Option.some.injEq] at e; subst e; simp only [RepV] at r; subst r; obtain ⟨t, rfl⟩ := (show ∃ t, u = Value.str z t from rv); exact .text z t
  | .tup xs, v, u, k, r, rv, e => by
    simp only [pvKey] at e
    split at e
    · rename_i ks q
      cases e
      simp only [RepV] at r
      obtain ⟨a, vs, rfl, h1, h2⟩ := r
      cases (show u = Value.ref a from rv)
      obtain ⟨its, h3, ⟨o, e1, e2, n, e3⟩, _⟩ := I.tuple h1
      exact .tup e1 e2 e3 (by simpa using niss_of I xs vs its ks h2 h3 q)
    · cases e
  | .ty _, _, _, _, _, _, e | .ref _, _, _, _, _, _, e | .lst _, _, _, _, _, _, e | .dct _ _, _, _, _, _, _, e => by simp [pvKey] at e
theorem niss_of {X : Cx} {pins : List (Addr × Obj)} {σ : L2.St} {H : Hp} {S : Sto} {s : Shared} (I : Inv X pins σ H s) : ∀ (xs : List PV) (vs : List V) (us : List Value) (ks : List NestedKey), RepVs X.K X.w H S xs vs → Vals vs us → pvKeys xs = some ks → NestedAll s.heap ks us
  | [], vs, us, ks, r, rv, e => by
    simp only [pvKeys, Option.some.injEq] at e
    subst e
    cases r.nil_inv
    cases rv
    exact .nil
  | x :: xs, vs, us, ks, r, rv, e => by
    simp only [pvKeys] at e
    split at e
    · rename_i k ks' q1 q2
      cases e
      obtain ⟨v, vs', rfl, h1, h2⟩ := r.cons_inv
      cases rv with
      | cons a b => exact .cons (nis_of I x v _ k h1 a q1) (niss_of I xs vs' _ ks' h2 b q2)
    · cases e
end
/-- an entry, by values and raw -/
structure DEnt (K : PySem.W.Frag) (w : World) (H : Hp) (S : Sto) where
  x : PV
  y : PV
  k : NestedKey
  kv : V
  ku : Value
  vv : V
  u : Value
  hk : pvKey x = some k
  rx : RepV K w H S x kv
  rk : RelV kv ku
  ry : RepV K w H S y vv
  ru : RelV vv u
namespace DEnt
variable {K : PySem.W.Frag} {w : World} {H H' : Hp} {S S' : Sto}
def e (d : DEnt K w H S) : DE := (d.k.hash w, d.ku, d.u)
def mono (h : Ext K S H S' H') (d : DEnt K w H S) : DEnt K w H' S' := ⟨d.x, d.y, d.k, d.kv, d.ku, d.vv, d.u, d.hk, RepV.mono h _ _ d.rx, d.rk, RepV.mono h _ _ d.ry, d.ru⟩
def val (d n : DEnt K w H S) : DEnt K w H S := ⟨d.x, n.y, d.k, d.kv, d.ku, n.vv, n.u, d.hk, d.rx, d.rk, n.ry, n.ru⟩
end DEnt
section
variable {K : PySem.W.Frag} {w : World} {H H' : Hp} {S S' : Sto}
theorem ents_of : ∀ {ks vs : List PV} {es : List DE} {kvs vvs : List V}, (∀ x ∈ ks, kkP x ≠ 0) → es.map (·.1) = ks.map (hashP w) → Vals kvs (es.map (·.2.1)) → Vals vvs (es.map (·.2.2)) → RepVs K w H S ks kvs → RepVs K w H S vs vvs →
    ∃ l : List (DEnt K w H S), l.map (·.x) = ks ∧ l.map (·.y) = vs ∧ l.map (·.e) = es
  | [], vs, es, kvs, vvs, _, h1, h2, h3, h4, h5 => by
    have e1 : es = [] := by simpa using h1
    subst e1
    cases h3
    cases vs with
    | nil => exact ⟨[], rfl, rfl, rfl⟩
    | cons _ _ => obtain ⟨_, _, e, _⟩ := h5.cons_inv; cases e
  | x :: ks, vs, es, kvs, vvs, h0, h1, h2, h3, h4, h5 => by
    cases es with
    | nil => simp at h1
    | cons e es =>
      simp only [List.map_cons, List.cons.injEq] at h1 h2 h3
      obtain ⟨kv, kvs, rfl, r1, r2⟩ := h4.cons_inv
      cases h2 with
      | cons a1 a2 =>
        cases vvs with
        | nil => cases h3
        | cons vv vvs =>
          cases h3 with
          | cons b1 b2 =>
            cases vs with
            | nil => cases h5.nil_inv
            | cons y vs =>
              obtain ⟨_, _, e0, q1, q2⟩ := h5.cons_inv
              cases e0
              obtain ⟨l, g1, g2, g3⟩ := ents_of (fun z hz => h0 z (List.mem_cons_of_mem _ hz)) h1.2 a2 b2 r2 q2
              have hx := h0 x (List.mem_cons_self ..)
              obtain ⟨k, hk⟩ : ∃ k, pvKey x = some k := by
                cases x <;> first | exact ⟨_, rfl⟩ | (simp only [kkP] at hx; split at hx; rename_i q; exact ⟨_, q⟩; exact absurd rfl hx) | exact absurd rfl hx
              refine ⟨⟨x, y, k, kv, e.2.1, vv, e.2.2, hk, r1, a1, q1, b1⟩ :: l, by simp [g1], by simp [g2], ?_⟩
              simp only [List.map_cons, g3, List.cons.injEq, and_true]
              obtain ⟨e1, e2, e3⟩ := e
              have := h1.1
              simp only [hashP, hk] at this
              simp only [DEnt.e]
              rw [← this]
/-- what a value that reads as a dict is -/
theorem dct_rep {x : PV} {v : V} {ks vs : List PV} (hh : RepH K w H S) (r : RepV K w H S x v) (e : dD S x = some (ks, vs)) : ∃ a es, v = .ref a ∧ H a = some (.ext (DPhi a es)) ∧ KOK ks ∧ ∃ l : List (DEnt K w H S), l.map (·.x) = ks ∧ l.map (·.y) = vs ∧ l.map (·.e) = es := by
  cases x with
  | dct ks' vs' =>
    simp only [dD, Option.some.injEq, Prod.mk.injEq] at e
    obtain ⟨rfl, rfl⟩ := e
    simp only [RepV] at r
    obtain ⟨a, es, kvs, vvs, rfl, h1, _, h2, h3, h4, h5, h6, h7⟩ := r
    exact ⟨a, es, rfl, h1, h7, ents_of h7.1 h2 h3 h4 h5 h6⟩
  | ref a =>
    simp only [RepV] at r
    simp only [dD] at e
    split at e
    · rename_i ks' vs' q
      simp only [Option.some.injEq, Prod.mk.injEq] at e
      obtain ⟨rfl, rfl⟩ := e
      obtain ⟨es, kvs, vvs, h1, h2, h3, h4, h5, h6, h7⟩ := hh a _ q
      exact ⟨a, es, r, h1, h7, ents_of h7.1 h2 h3 h4 h5 h6⟩
    · cases e
  | _ => simp [dD] at e
/-- entries told as an object -/
theorem ents_rep {ks vs : List PV} {es : List DE} {l : List (DEnt K w H S)} (h1 : l.map (·.x) = ks) (h2 : l.map (·.y) = vs) (h3 : l.map (·.e) = es) :
    es.map (·.1) = ks.map (hashP w) ∧ Vals (l.map (·.kv)) (es.map (·.2.1)) ∧ Vals (l.map (·.vv)) (es.map (·.2.2)) ∧ RepVs K w H S ks (l.map (·.kv)) ∧ RepVs K w H S vs (l.map (·.vv)) := by
  subst h1 h2 h3
  induction l with
  | nil => exact ⟨rfl, .nil, .nil, .nil, .nil⟩
  | cons d l ih =>
    obtain ⟨i1, i2, i3, i4, i5⟩ := ih
    refine ⟨?_, .cons d.rk i2, .cons d.ru i3, .cons d.rx i4, .cons d.ry i5⟩
    simp only [List.map_cons, List.cons.injEq]
    exact ⟨by simp only [DEnt.e, hashP, d.hk], i1⟩
theorem kk3 {x : PV} {k : NestedKey} (h : kkP x = 3) (e : pvKey x = some k) : (∃ xs, x = .tup xs) ∧ k.depth ≤ 8 := by
  cases x with
  | tup xs =>
    refine ⟨⟨xs, rfl⟩, ?_⟩
    simp only [kkP, e] at h
    split at h
    · assumption
    · cases h
  | _ => cases h
/-- an int's or a text's key -/
def mkK : NestedKey → Key
  | .num i => .inl i
  | .text z => .inr z
  | _ => .inl 0
theorem kk12 {x : PV} {k : NestedKey} (h : kkP x = 1 ∨ kkP x = 2) (e : pvKey x = some k) : (∃ i, x = .int i ∧ k = .num i) ∨ ∃ z, x = .str z ∧ k = .text z := by
  cases x with
  | int i => exact .inl ⟨i, rfl, by simpa [pvKey] using e.symm⟩
  | str z => exact .inr ⟨z, rfl, by simpa [pvKey] using e.symm⟩
  | tup xs =>
    simp only [kkP, e] at h
    split at h
    · rcases h with h | h <;> cases h
    · rcases h with h | h <;> cases h
  | _ => rcases h with h | h <;> cases h
theorem kk_all {x : PV} (h : kkP x ≠ 0) : (kkP x = 1 ∨ kkP x = 2) ∨ kkP x = 3 := by
  cases x with
  | int i => exact .inl (.inl rfl)
  | str z => exact .inl (.inr rfl)
  | tup xs =>
    simp only [kkP] at h ⊢
    split at h
    · split at h
      · rename_i c; simp [c]
      · exact absurd rfl h
    · exact absurd rfl h
  | _ => exact absurd rfl h
/-- the result of a look-up, by values and raw -/
def RelR (K : PySem.W.Frag) (w : World) (H : Hp) (S : Sto) : Option PV → Option Value → Prop
  | none, none => True
  | some z, some u => ∃ v, RepV K w H S z v ∧ RelV v u
  | _, _ => False
theorem atKeyP_map {k : NestedKey} : ∀ l : List (DEnt K w H S), atKeyP k (l.map (·.x)) (l.map (·.y)) = (l.find? fun d => decide (d.k = k)).map (·.y)
  | [] => rfl
  | d :: l => by
    simp only [List.map_cons, atKeyP, d.hk, Option.some.injEq, List.find?_cons]
    by_cases h : d.k = k
    · simp only [h, if_pos, decide_true, Option.map_some]
    · simp only [h, if_false, decide_false]
      exact atKeyP_map l
theorem relR_find {k : NestedKey} (l : List (DEnt K w H S)) : RelR K w H S ((l.find? fun d => decide (d.k = k)).map (·.y)) ((l.find? fun d => decide (d.k = k)).map (·.u)) := by
  cases l.find? fun d => decide (d.k = k) with
  | none => exact True.intro
  | some d => exact ⟨d.vv, d.ry, d.ru⟩
/-- put among entries -/
def putE (l : List (DEnt K w H S)) (n : DEnt K w H S) : List (DEnt K w H S) := if (l.any fun d => decide (d.k = n.k)) = true then l.map fun d => if d.k = n.k then d.val n else d else l ++ [n]
theorem putE_cons_ne {d : DEnt K w H S} {l : List (DEnt K w H S)} {n : DEnt K w H S} (h : ¬ d.k = n.k) : putE (d :: l) n = d :: putE l n := by
  unfold putE
  simp only [List.any_cons, h, decide_false, Bool.false_or, List.map_cons, if_false]
  split <;> rfl
theorem map_same {l : List (DEnt K w H S)} {n : DEnt K w H S} (h : n.k ∉ l.map (·.k)) : (l.map fun d => if d.k = n.k then d.val n else d) = l := by
  induction l with
  | nil => rfl
  | cons d l ih =>
    simp only [List.map_cons, List.mem_cons, not_or] at h
    rw [List.map_cons, if_neg (Ne.symm h.1), ih h.2]
theorem putKeyP_map : ∀ {l : List (DEnt K w H S)} {n : DEnt K w H S}, (l.map (·.k)).Nodup → putKeyP n.k n.x n.y (l.map (·.x)) (l.map (·.y)) = ((putE l n).map (·.x), (putE l n).map (·.y))
  | [], n, _ => rfl
  | d :: l, n, hn => by
    simp only [List.map_cons, List.nodup_cons] at hn
    by_cases h : d.k = n.k
    · simp only [List.map_cons, putKeyP, d.hk, h, if_pos]
      have : putE (d :: l) n = d.val n :: l := by
        unfold putE
        simp only [List.any_cons, h, decide_true, Bool.true_or, List.map_cons, if_pos]
        rw [map_same (by rw [← h]; exact hn.1)]
      rw [this]
      rfl
    · rw [putE_cons_ne h]
      simp only [List.map_cons, putKeyP, d.hk, Option.some.injEq, h, if_false]
      rw [putKeyP_map hn.2]
theorem putE_keys {l : List (DEnt K w H S)} {n : DEnt K w H S} : (putE l n).map (·.x) = if (l.any fun d => decide (d.k = n.k)) = true then l.map (·.x) else l.map (·.x) ++ [n.x] := by
  unfold putE
  split
  · rw [List.map_map]
    congr 1
    funext d
    simp only [Function.comp]
    split <;> rfl
  · simp
theorem pvKeys_map (l : List (DEnt K w H S)) : (l.map (·.x)).map pvKey = (l.map (·.k)).map some := by
  rw [List.map_map, List.map_map]
  congr 1
  funext d
  exact d.hk
theorem nodup_some {l : List NestedKey} : (l.map some).Nodup ↔ l.Nodup := by
  constructor
  · intro h
    rw [List.nodup_iff_pairwise_ne, List.pairwise_map] at h
    exact h.imp fun {a b} x e => x (by rw [e])
  · intro h
    rw [List.nodup_iff_pairwise_ne, List.pairwise_map]
    exact (List.nodup_iff_pairwise_ne.mp h).imp fun {a b} x e => x (Option.some.inj e)
theorem putE_KOK {l : List (DEnt K w H S)} {n : DEnt K w H S} (h : KOK (l.map (·.x))) (hk : kOK (l.map (·.x)) n.x) : KOK ((putE l n).map (·.x)) := by
  rw [putE_keys]
  split
  · exact h
  · rename_i c
    refine ⟨fun x hx => ?_, fun x hx y hy => ?_, ?_⟩
    · rcases List.mem_append.mp hx with hx | hx
      · exact h.1 x hx
      · rw [List.mem_singleton.mp hx]; exact hk.1
    · rcases List.mem_append.mp hx with hx | hx
      · rcases List.mem_append.mp hy with hy | hy
        · exact h.2.1 x hx y hy
        · rw [List.mem_singleton.mp hy]; exact hk.2 x hx
      · rw [List.mem_singleton.mp hx]
        rcases List.mem_append.mp hy with hy | hy
        · exact (hk.2 y hy).symm
        · rw [List.mem_singleton.mp hy]
    · rw [List.map_append, List.nodup_append]
      refine ⟨h.2.2, by simp, fun a ha b hb e => c ?_⟩
      rw [List.map_singleton, List.mem_singleton] at hb
      subst e hb
      rw [pvKeys_map] at ha
      rw [n.hk] at ha
      obtain ⟨k, hk1, hk2⟩ := List.mem_map.mp ha
      cases hk2
      obtain ⟨d, hd, e⟩ := List.mem_map.mp hk1
      exact List.any_eq_true.mpr ⟨d, hd, decide_eq_true e⟩
theorem putE_len (l : List (DEnt K w H S)) (n : DEnt K w H S) : (putE l n).length ≤ l.length + 1 := by
  unfold putE
  split
  · rw [List.length_map]; omega
  · simp
end
/-! ### as the library's dicts -/
def refOf : Value → Addr
  | .ref b => b
  | _ => 0
namespace DEnt
variable {K : PySem.W.Frag} {w : World} {H : Hp} {S : Sto}
def raw (d : DEnt K w H S) : DictEntry := ⟨d.k.hash w, d.ku, d.u⟩
def t3 (d : DEnt K w H S) : NestedKey × Addr × Value := (d.k, refOf d.ku, d.u)
def p2 (d : DEnt K w H S) : Key × Value := (mkK d.k, d.u)
theorem ref3 (d : DEnt K w H S) (h : kkP d.x = 3) : ∃ b, d.kv = .ref b ∧ d.ku = .ref b := by
  obtain ⟨⟨xs, e⟩, _⟩ := kk3 h d.hk
  have r := d.rx
  rw [e] at r
  simp only [RepV] at r
  obtain ⟨b, _, e2, _⟩ := r
  have r2 := d.rk
  rw [e2] at r2
  exact ⟨b, e2, r2⟩
theorem key12 (d : DEnt K w H S) (h : kkP d.x = 1 ∨ kkP d.x = 2) : keyIs (mkK d.k) d.ku = true ∧ d.k.hash w = keyH w (mkK d.k) := by
  have r := d.rx
  have r2 := d.rk
  rcases kk12 h d.hk with ⟨i, e, e2⟩ | ⟨z, e, e2⟩
  · rw [e] at r
    simp only [RepV] at r
    rw [r] at r2
    obtain ⟨t, e3⟩ := (show ∃ t, d.ku = Value.int i t from r2)
    rw [e2, e3]
    exact ⟨keyIs_int i t, rfl⟩
  · rw [e] at r
    simp only [RepV] at r
    rw [r] at r2
    obtain ⟨t, e3⟩ := (show ∃ t, d.ku = Value.str z t from r2)
    rw [e2, e3]
    exact ⟨keyIs_str z t, rfl⟩
end DEnt
section
variable {K : PySem.W.Frag} {w : World} {H : Hp} {S : Sto}
theorem raw_of : ∀ {arr : List DictEntry} {l : List (DEnt K w H S)}, arr.map (fun e => (e.hash, e.key, e.val)) = l.map (·.e) → arr = l.map (·.raw)
  | [], [], _ => rfl
  | [], _ :: _, h => by simp at h
  | _ :: _, [], h => by simp at h
  | e :: arr, d :: l, h => by
    simp only [List.map_cons, List.cons.injEq] at h
    rw [List.map_cons, raw_of h.2]
    congr 1
    obtain ⟨a, b, c⟩ := e
    have h1 := h.1
    simp only [DEnt.e, Prod.mk.injEq] at h1
    simp only [DEnt.raw, h1]
theorem find_t3 {k : NestedKey} (l : List (DEnt K w H S)) : (atKey (l.map (·.t3)) k).map (·.2) = (l.find? fun d => decide (d.k = k)).map (·.u) := by
  unfold atKey
  rw [List.find?_map, Option.map_map, Option.map_map]
  rfl
theorem mk_inj {x y : PV} {k j : NestedKey} (hx : kkP x = 1 ∨ kkP x = 2) (hy : kkP y = 1 ∨ kkP y = 2) (e : pvKey x = some k) (e2 : pvKey y = some j) (h : mkK k = mkK j) : k = j := by
  rcases kk12 hx e with ⟨i, _, rfl⟩ | ⟨z, _, rfl⟩ <;> rcases kk12 hy e2 with ⟨i', _, rfl⟩ | ⟨z', _, rfl⟩
  · simp only [mkK, Sum.inl.injEq] at h; rw [h]
  · simp [mkK] at h
  · simp [mkK] at h
  · simp only [mkK, Sum.inr.injEq] at h; rw [h]
theorem find_p2 {x : PV} {k : NestedKey} (hx : kkP x = 1 ∨ kkP x = 2) (e : pvKey x = some k) (l : List (DEnt K w H S)) (hl : ∀ d ∈ l, kkP d.x = 1 ∨ kkP d.x = 2) : valueAt (l.map (·.p2)) (mkK k) = (l.find? fun d => decide (d.k = k)).map (·.u) := by
  unfold valueAt
  rw [List.find?_map, Option.map_map]
  have : (l.find? ((fun kv : Key × Value => decide (kv.1 = mkK k)) ∘ fun d => d.p2)) = l.find? fun d => decide (d.k = k) := by
    induction l with
    | nil => rfl
    | cons d l ih =>
      rw [List.find?_cons, List.find?_cons, ih fun z hz => hl z (List.mem_cons_of_mem _ hz)]
      have : ((fun kv : Key × Value => decide (kv.1 = mkK k)) ∘ fun d => d.p2) d = decide (d.k = k) := by
        show decide (d.p2.1 = mkK k) = decide (d.k = k)
        by_cases q : d.k = k
        · exact (decide_eq_true (show mkK d.k = mkK k by rw [q])).trans (decide_eq_true q).symm
        · exact (decide_eq_false (show ¬ mkK d.k = mkK k from fun z => q (mk_inj (hl d (List.mem_cons_self ..)) hx d.hk e z))).trans (decide_eq_false q).symm
      rw [this]
  rw [this]
  rfl
theorem pairs_p2 {P : Program} : ∀ (l : List (DEnt K w H S)), (∀ d ∈ l, kkP d.x = 1 ∨ kkP d.x = 2) → Pairs (mixKind P w) (l.map (·.raw)) (l.map (·.p2))
  | [], _ => .nil
  | d :: l, h => .cons (d.key12 (h d (List.mem_cons_self ..))).1 rfl (pairs_p2 l fun z hz => h z (List.mem_cons_of_mem _ hz))
theorem nodup_k {l : List (DEnt K w H S)} (h : KOK (l.map (·.x))) : (l.map (·.k)).Nodup := by
  have := h.2.2
  rw [pvKeys_map] at this
  exact nodup_some.mp this
theorem nodup_p2 : ∀ {l : List (DEnt K w H S)}, (l.map (·.k)).Nodup → (∀ d ∈ l, kkP d.x = 1 ∨ kkP d.x = 2) → ((l.map (·.p2)).map (·.1)).Nodup
  | [], _, _ => List.nodup_nil
  | d :: l, h, g => by
    simp only [List.map_cons, List.nodup_cons] at h ⊢
    refine ⟨fun hm => h.1 ?_, nodup_p2 h.2 fun z hz => g z (List.mem_cons_of_mem _ hz)⟩
    obtain ⟨p, hp, e⟩ := List.mem_map.mp hm
    obtain ⟨d', hd', rfl⟩ := List.mem_map.mp hp
    have := mk_inj (g d' (List.mem_cons_of_mem _ hd')) (g d (List.mem_cons_self ..)) d'.hk d.hk e
    rw [← this]
    exact List.mem_map.mpr ⟨d', hd', rfl⟩
end
section
variable {X : Cx} {pins : List (Addr × Obj)} {σ : L2.St} {H : Hp} {S : Sto} {s : Shared}
theorem dictH_of (I : Inv X pins σ H s) {a : Addr} {l : List (DEnt X.K X.w H S)} (hφ : DPhi a (l.map (·.e)) s.heap) (hk : KOK (l.map (·.x))) (h3 : ∀ d ∈ l, kkP d.x = 3) : s.heap.DictOfH (nestedKind X.prog X.w) a (l.map (·.t3)) := by
  obtain ⟨_, o, arr, ep, e1, e2, e3, e4⟩ := hφ
  have e5 := raw_of e4
  refine ⟨o, arr, ep, e1, e2, e3, ?_, fun x hx => ?_, ?_⟩
  · rw [e5, List.map_map]
    refine List.map_congr_left fun d hd => ?_
    obtain ⟨b, _, e6⟩ := d.ref3 (h3 d hd)
    simp only [DEnt.raw, Function.comp, DEnt.t3, entryOfKey, e6, refOf]
    rfl
  · obtain ⟨d, hd, rfl⟩ := List.mem_map.mp hx
    obtain ⟨b, _, e6⟩ := d.ref3 (h3 d hd)
    have := nis_of I d.x d.kv d.ku d.k d.rx d.rk d.hk
    rw [e6] at this
    refine ⟨?_, (kk3 (h3 d hd) d.hk).2⟩
    simp only [DEnt.t3, e6, refOf]
    exact this
  · rw [List.map_map]
    exact nodup_k hk
theorem dict2_of {a : Addr} {l : List (DEnt X.K X.w H S)} (hφ : DPhi a (l.map (·.e)) s.heap) (hk : KOK (l.map (·.x))) (h2 : ∀ d ∈ l, kkP d.x = 1 ∨ kkP d.x = 2) : s.heap.DictOf (mixKind X.prog X.w) a (l.map (·.p2)) := by
  obtain ⟨_, o, arr, ep, e1, e2, e3, e4⟩ := hφ
  have e5 := raw_of e4
  refine ⟨o, arr, ep, e1, e2, e3, fun e he => ?_, ?_, nodup_p2 (nodup_k hk) h2⟩
  · have : e ∈ arr.toList := by simpa using he
    rw [e5] at this
    obtain ⟨d, hd, rfl⟩ := List.mem_map.mp this
    exact ⟨mkK d.k, (d.key12 (h2 d hd)).1, (d.key12 (h2 d hd)).2⟩
  · rw [e5]
    exact pairs_p2 l h2
theorem DPhi.ne {a : Addr} {es : List DE} {h : Heap} (p : DPhi a es h) : (a == sysModules) = false := p.1
/-- a dict looked into -/
theorem dct_look (I : Inv X pins σ H s) (hh : RepH X.K X.w H S) {o x : PV} {v y : V} {u : Value} {Qo : Option PV → Prop} (ro : RepV X.K X.w H S o v) (rx : RepV X.K X.w H S x y) (ry : RelV y u) (h : dgetD o x S Qo) :
    ∃ a r, v = .ref a ∧ (a == sysModules) = false ∧ s.TypeIs (.ref a) "dict" ∧ Qo r ∧ ((∃ k b xs, u = .ref b ∧ (nestedKind X.prog X.w).is s.heap k b ∧ s.heap.DictOfH (nestedKind X.prog X.w) a xs ∧ RelR X.K X.w H S r ((atKey xs k).map (·.2))) ∨
      ∃ k kvs, (mixKind X.prog X.w).is k u = true ∧ s.heap.DictOf (mixKind X.prog X.w) a kvs ∧ RelR X.K X.w H S r (valueAt kvs k)) := by
  unfold dgetD at h
  split at h
  · rename_i ks vs k q1 q2
    obtain ⟨hk, hq⟩ := h
    obtain ⟨a, es, rfl, h1, h2, l, g1, g2, g3⟩ := dct_rep hh ro q1
    subst g1 g2 g3
    obtain ⟨hφ, _⟩ := (show ObjOk X.prog X.w H s.heap a (.ext (DPhi a (l.map (·.e)))) from I.hok a _ h1)
    rw [atKeyP_map] at hq
    refine ⟨a, _, rfl, hφ.ne, ?_, hq, ?_⟩
    · obtain ⟨_, ob, _, _, e1, e2, _⟩ := hφ
      exact ⟨ob, e1, e2.1⟩
    rcases kk_all hk.1 with c | c
    · refine .inr ⟨mkK k, l.map (·.p2), ?_, dict2_of hφ h2 ?_, ?_⟩
      · have d : DEnt X.K X.w H S := ⟨x, .non, k, y, u, .non, .none, q2, rx, ry, by simp only [RepV], rfl⟩
        rcases kk12 c q2 with ⟨i, rfl, rfl⟩ | ⟨z, rfl, rfl⟩
        · simp only [RepV] at rx; subst rx; obtain ⟨t, rfl⟩ := (show ∃ t, u = Value.int i t from ry); exact keyIs_int i t
        · simp only [RepV] at rx; subst rx; obtain ⟨t, rfl⟩ := (show ∃ t, u = Value.str z t from ry); exact keyIs_str z t
      · intro d hd
        rw [hk.2 d.x (List.mem_map.mpr ⟨d, hd, rfl⟩)]
        exact c
      · rw [find_p2 c q2 l fun d hd => by rw [hk.2 d.x (List.mem_map.mpr ⟨d, hd, rfl⟩)]; exact c]
        exact relR_find l
    · obtain ⟨⟨xs, rfl⟩, c2⟩ := kk3 c q2
      have rx' := rx
      simp only [RepV] at rx
      obtain ⟨b, ws, rfl, h3, h4⟩ := rx
      cases (show u = Value.ref b from ry)
      refine .inl ⟨k, b, l.map (·.t3), rfl, ⟨nis_of I _ _ _ k rx' rfl q2, c2⟩, dictH_of I hφ h2 fun d hd => ?_, ?_⟩
      · rw [hk.2 d.x (List.mem_map.mpr ⟨d, hd, rfl⟩)]
        exact c
      · rw [find_t3]
        exact relR_find l
  · exact h.elim
theorem RelR.isSome {K : PySem.W.Frag} {w : World} {H : Hp} {S : Sto} : ∀ {r : Option PV} {o : Option Value}, RelR K w H S r o → o.isSome = r.isSome
  | none, none, _ => rfl
  | some _, some _, _ => rfl
  | none, some _, h => h.elim
  | some _, none, h => h.elim
theorem RelR.got {K : PySem.W.Frag} {w : World} {H : Hp} {S : Sto} {z : PV} : ∀ {o : Option Value}, RelR K w H S (some z) o → ∃ u v, o = some u ∧ RepV K w H S z v ∧ RelV v u
  | some u, ⟨v, h1, h2⟩ => ⟨u, v, rfl, h1, h2⟩
  | none, h => h.elim
theorem RelR.getD {K : PySem.W.Frag} {w : World} {H : Hp} {S : Sto} {d : PV} {dv : V} {du : Value} (rd : RepV K w H S d dv) (ru : RelV dv du) : ∀ {r : Option PV} {o : Option Value}, RelR K w H S r o → ∃ v, RepV K w H S (r.getD d) v ∧ RelV v (o.getD du)
  | none, none, _ => ⟨dv, rd, ru⟩
  | some _, some _, ⟨v, h1, h2⟩ => ⟨v, h1, h2⟩
  | none, some _, h => h.elim
  | some _, none, h => h.elim
theorem nroom {A : Around} (hu : A.units + 64 < cLine) : (nestedKind X.prog X.w).room A.in1 := by
  show A.units + 1 + 8 < cLine
  omega
variable {o x : PV} {v y : V} {u : Value} {A : Around} {E : Value → Shared → Prop}
/-- x in d -/
theorem dct_in (hu : A.units + 64 < cLine) (I : Inv X pins σ H s) (hh : RepH X.K X.w H S) (ro : RepV X.K X.w H S o v) (rx : RepV X.K X.w H S x y) (ry : RelV y u) {ov : Value} (rov : RelV v ov) {Qo : Option PV → Prop} (h : dgetD o x S Qo) {Q : Value → Shared → Prop}
    (q : ∀ r s', Qo r → Inv X pins σ H s' → Q (.bool r.isSome) s') : wpAny (model X.prog X.w) A (compareOp .In u ov) Q E s := by
  obtain ⟨a, r, rfl, hd, _, hq, hc⟩ := dct_look I hh ro rx ry h
  cases (show ov = Value.ref a from rov)
  rcases hc with ⟨k, b, xs, rfl, h1, h2, h3⟩ | ⟨k, kvs, h1, h2, h3⟩
  · refine wpAny_in_heap (nroom (X := X) hu) h1 hd h2 ?_
    have e := h3.isSome
    rw [Option.isSome_map] at e
    rw [e]
    exact q _ _ hq (I.tok _)
  · refine wpAny_in_of h1 hd h2.mapOf ?_
    rw [h3.isSome]
    exact q _ _ hq (I.tok _)
theorem dct_notin (hu : A.units + 64 < cLine) (I : Inv X pins σ H s) (hh : RepH X.K X.w H S) (ro : RepV X.K X.w H S o v) (rx : RepV X.K X.w H S x y) (ry : RelV y u) {ov : Value} (rov : RelV v ov) {Qo : Option PV → Prop} (h : dgetD o x S Qo) {Q : Value → Shared → Prop}
    (q : ∀ r s', Qo r → Inv X pins σ H s' → Q (.bool (!r.isSome)) s') : wpAny (model X.prog X.w) A (compareOp .NotIn u ov) Q E s := by
  obtain ⟨a, r, rfl, hd, _, hq, hc⟩ := dct_look I hh ro rx ry h
  cases (show ov = Value.ref a from rov)
  rcases hc with ⟨k, b, xs, rfl, h1, h2, h3⟩ | ⟨k, kvs, h1, h2, h3⟩
  · refine wpAny_notIn_heap (nroom (X := X) hu) h1 hd h2 ?_
    have e := h3.isSome
    rw [Option.isSome_map] at e
    rw [e]
    exact q _ _ hq (I.tok _)
  · refine wpAny_notIn_of h1 hd h2.mapOf ?_
    rw [h3.isSome]
    exact q _ _ hq (I.tok _)
/-- d[x] -/
theorem dct_item (hu : A.units + 64 < cLine) (I : Inv X pins σ H s) (hh : RepH X.K X.w H S) (ro : RepV X.K X.w H S o v) (rx : RepV X.K X.w H S x y) (ry : RelV y u) {ov : Value} (rov : RelV v ov) {Qo : PV → Prop} (h : dgetD o x S fun r => match r with
      | some z => Qo z
      | none => False) {Q : Value → Shared → Prop}
    (q : ∀ z zv w' s', Qo z → RepV X.K X.w H S z zv → RelV zv w' → Inv X pins σ H s' → Q w' s') : wpAny (model X.prog X.w) A (getItem ov u) Q E s := by
  obtain ⟨a, r, rfl, hd, _, hq, hc⟩ := dct_look I hh ro rx ry h
  cases (show ov = Value.ref a from rov)
  cases r with
  | none => exact hq.elim
  | some z =>
    rcases hc with ⟨k, b, xs, rfl, h1, h2, h3⟩ | ⟨k, kvs, h1, h2, h3⟩
    · obtain ⟨w', zv, e, g1, g2⟩ := h3.got
      obtain ⟨p, hp, hp2⟩ := Option.map_eq_some_iff.mp e
      refine wpAny_getItem_heap (nroom (X := X) hu) h1 h2 hp ?_
      rw [hp2]
      exact q z zv w' _ hq g1 g2 (I.tok _)
    · obtain ⟨w', zv, e, g1, g2⟩ := h3.got
      exact wpAny_getItem_of h1 h2.mapOf e (q z zv w' _ hq g1 g2 (I.tok _))
theorem dphi_ok {P : Program} {w : World} {H : Hp} {h : Heap} {a : Addr} {es : List DE} (hφ : DPhi a es h) : ObjOk P w H h a (.ext (DPhi a es)) :=
  ⟨hφ, (let ⟨_, o, _, _, e, _⟩ := hφ; ⟨o, e⟩), fun h1 h2 ⟨n, o, arr, ep, e, x, d, m⟩ k => ⟨n, o, arr, ep, k o e, x, d, m⟩⟩
theorem any_find {K : PySem.W.Frag} {w : World} {H : Hp} {S : Sto} {k : NestedKey} : ∀ l : List (DEnt K w H S), (l.any fun d => decide (d.k = k)) = ((l.find? fun d => decide (d.k = k)).map (·.u)).isSome
  | [] => rfl
  | d :: l => by
    rw [List.any_cons, List.find?_cons]
    cases decide (d.k = k) with
    | true => rfl
    | false => rw [Bool.false_or, any_find l]
theorem storedH_map {K : PySem.W.Frag} {w : World} {H : Hp} {S : Sto} {l : List (DEnt K w H S)} {n : DEnt K w H S} : storedH (l.map (·.t3)) n.k (refOf n.ku) n.u = (putE l n).map (·.t3) := by
  unfold storedH putE
  have e : (atKey (l.map (·.t3)) n.k).isSome = (l.any fun d => decide (d.k = n.k)) := by rw [any_find, ← find_t3, Option.isSome_map]
  rw [e]
  by_cases q : (l.any fun d => decide (d.k = n.k)) = true
  · rw [if_pos q, if_pos q, List.map_map, List.map_map]
    refine List.map_congr_left fun d _ => ?_
    show (if d.t3.1 = n.k then (d.t3.1, d.t3.2.1, n.u) else d.t3) = (if d.k = n.k then d.val n else d).t3
    by_cases c : d.k = n.k
    · rw [if_pos (show d.t3.1 = n.k from c), if_pos c]; rfl
    · rw [if_neg (show ¬ d.t3.1 = n.k from c), if_neg c]
  · rw [if_neg q, if_neg q, List.map_append]
    rfl
theorem stored_map {K : PySem.W.Frag} {w : World} {H : Hp} {S : Sto} {l : List (DEnt K w H S)} {n : DEnt K w H S} (h : ∀ d ∈ l, kkP d.x = 1 ∨ kkP d.x = 2) (hn : kkP n.x = 1 ∨ kkP n.x = 2) : stored (l.map (·.p2)) (mkK n.k) n.u = (putE l n).map (·.p2) := by
  unfold stored putE
  have key : ∀ d ∈ l, (d.p2.1 = mkK n.k) = (d.k = n.k) := fun d hd => propext ⟨fun z => mk_inj (h d hd) hn d.hk n.hk z, fun z => (show mkK d.k = mkK n.k by rw [z])⟩
  have e : ((l.map (·.p2)).any fun kv => decide (kv.1 = mkK n.k)) = (l.any fun d => decide (d.k = n.k)) := by
    rw [List.any_map]
    clear hn
    induction l with
    | nil => rfl
    | cons d l ih =>
      rw [List.any_cons, List.any_cons, ih (fun z hz => h z (List.mem_cons_of_mem _ hz)) fun z hz => key z (List.mem_cons_of_mem _ hz)]
      congr 1
      have k1 := key d (List.mem_cons_self ..)
      show decide (d.p2.1 = mkK n.k) = decide (d.k = n.k)
      simp only [k1]
  rw [e]
  by_cases q : (l.any fun d => decide (d.k = n.k)) = true
  · rw [if_pos q, if_pos q, List.map_map, List.map_map]
    refine List.map_congr_left fun d hd => ?_
    have k1 := key d hd
    show (if d.p2.1 = mkK n.k then (d.p2.1, n.u) else d.p2) = (if d.k = n.k then d.val n else d).p2
    by_cases c : d.k = n.k
    · rw [if_pos (k1.mpr c), if_pos c]; rfl
    · rw [if_neg fun z => c (k1.mp z), if_neg c]
  · rw [if_neg q, if_neg q, List.map_append]
    rfl
theorem raw_back {P : Program} {K : PySem.W.Frag} {w : World} {H : Hp} {S : Sto} : ∀ {arr : List DictEntry} {l : List (DEnt K w H S)}, (∀ d ∈ l, kkP d.x = 1 ∨ kkP d.x = 2) → (∀ e ∈ arr, ∃ k, (mixKind P w).is k e.key = true ∧ e.hash = (mixKind P w).hash k) → Pairs (mixKind P w) arr (l.map (·.p2)) →
    ∃ l' : List (DEnt K w H S), l'.map (·.x) = l.map (·.x) ∧ l'.map (·.y) = l.map (·.y) ∧ l'.map (·.e) = arr.map fun e => (e.hash, e.key, e.val)
  | [], [], _, _, _ => ⟨[], rfl, rfl, rfl⟩
  | [], _ :: _, _, _, h => by cases h
  | _ :: _, [], _, _, h => by cases h
  | e :: arr, d :: l, h2, hk, h => by
    cases h with
    | cons a b c =>
      obtain ⟨l', g1, g2, g3⟩ := raw_back (fun z hz => h2 z (List.mem_cons_of_mem _ hz)) (fun z hz => hk z (List.mem_cons_of_mem _ hz)) c
      obtain ⟨k', k1, k2⟩ := hk e (List.mem_cons_self ..)
      have ek : k' = mkK d.k := (mixKind P w).inj e.key _ _ k1 a
      have rk : RelV d.kv e.key := by
        have r := d.rx
        rcases kk12 (h2 d (List.mem_cons_self ..)) d.hk with ⟨i, e1, e2⟩ | ⟨z, e1, e2⟩
        · rw [e1] at r
          simp only [RepV] at r
          have a' : keyIs (mkK d.k) e.key = true := a
          rw [e2] at a'
          rcases keyIs_shape a' with ⟨j, t, e3, e4⟩ | ⟨y, t, e3, e4⟩
          · have : i = j := Sum.inl.inj e3
            rw [r, e4, this]
            exact ⟨t, rfl⟩
          · cases e3
        · rw [e1] at r
          simp only [RepV] at r
          have a' : keyIs (mkK d.k) e.key = true := a
          rw [e2] at a'
          rcases keyIs_shape a' with ⟨j, t, e3, e4⟩ | ⟨y, t, e3, e4⟩
          · cases e3
          · have : z = y := Sum.inr.inj e3
            rw [r, e4, this]
            exact ⟨t, rfl⟩
      refine ⟨⟨d.x, d.y, d.k, d.kv, e.key, d.vv, d.u, d.hk, d.rx, rk, d.ry, d.ru⟩ :: l', by simp [g1], by simp [g2], ?_⟩
      rw [List.map_cons, List.map_cons, g3]
      congr 1
      have hh : d.k.hash w = e.hash := by
        rw [k2, ek, (d.key12 (h2 d (List.mem_cons_self ..))).2]
        rfl
      show (d.k.hash w, e.key, d.u) = (e.hash, e.key, e.val)
      rw [hh, show e.val = d.u from b]
theorem mem_putE {K : PySem.W.Frag} {w : World} {H : Hp} {S : Sto} {l : List (DEnt K w H S)} {n d : DEnt K w H S} (h : d ∈ putE l n) : d.x ∈ l.map (·.x) ∨ d.x = n.x := by
  have : d.x ∈ (putE l n).map (·.x) := List.mem_map.mpr ⟨d, h, rfl⟩
  rw [putE_keys] at this
  split at this
  · exact .inl this
  · rcases List.mem_append.mp this with q | q
    · exact .inl q
    · exact .inr (List.mem_singleton.mp q)
/-- a dict's object behind a change -/
theorem dct_put {a : Addr} {ks vs ks' vs' : List PV} {l l' : List (DEnt X.K X.w H S)} {h' : Heap} {t' : Nat} (I : Inv X pins σ H s) (hh : RepH X.K X.w H S) (e : S a = some (.dct ks vs)) (h1 : H a = some (.ext (DPhi a (l.map (·.e))))) (hs : Heap.SameBut a s.heap h')
    (g1 : l'.map (·.x) = ks') (g2 : l'.map (·.y) = vs') (hk : KOK ks') (hφ : DPhi a (l'.map (·.e)) h') :
    ∃ H', Inv X pins σ H' { s with heap := h', toks := t' } ∧ RepH X.K X.w H' (upS S a (.dct ks' vs')) ∧ Ext X.K S H (upS S a (.dct ks' vs')) H' := by
  have ex : Ext X.K S H (upS S a (.dct ks' vs')) (upd H a (.ext (DPhi a (l'.map (·.e))))) := Ext.put hh e
  refine ⟨upd H a (.ext (DPhi a (l'.map (·.e)))), d_write I (by rw [h1]; exact True.intro) hs (let ⟨_, o, _, _, e, _⟩ := hφ; ⟨o, e⟩) (dphi_ok hφ), hh.put (m' := .dct ks' vs') e ?_, ex⟩
  obtain ⟨j1, j2, j3, j4, j5⟩ := ents_rep (l := l'.map (DEnt.mono ex)) (ks := ks') (vs := vs') (es := l'.map (·.e)) (by rw [List.map_map]; exact g1) (by rw [List.map_map]; exact g2) (by rw [List.map_map]; rfl)
  exact ⟨_, _, _, upd_same, j1, j2, j3, j4, j5, hk⟩
/-- d[x] = z -/
theorem dct_set (hu : A.units + 64 < cLine) (I : Inv X pins σ H s) (hh : RepH X.K X.w H S) {a : Addr} {ks vs : List PV} (e : S a = some (.dct ks vs)) (rx : RepV X.K X.w H S x y) (ry : RelV y u) {z : PV} {zv : V} {zu : Value} (rz : RepV X.K X.w H S z zv) (rzv : RelV zv zu) {Qs : Sto → Prop} (h : dputD a ks vs x z S Qs)
    {Q : Unit → Shared → Prop} (q : ∀ S' H' s', Qs S' → RepH X.K X.w H' S' → Ext X.K S H S' H' → Inv X pins σ H' s' → Q () s') : wpAny (model X.prog X.w) A (setItem (.ref a) u zu) Q E s := by
  unfold dputD at h
  split at h
  · rename_i k q2
    obtain ⟨hk, hz, hq⟩ := h
    obtain ⟨a', es, e0, h1, h2, l, g1, g2, g3⟩ := dct_rep (x := .ref a) (v := .ref a) (ks := ks) (vs := vs) hh (by simp only [RepV]) (by simp only [dD, e])
    cases e0
    subst g1 g2 g3
    obtain ⟨hφ, _⟩ := (show ObjOk X.prog X.w H s.heap a (.ext (DPhi a (l.map (·.e)))) from I.hok a _ h1)
    let n : DEnt X.K X.w H S := ⟨x, z, k, y, u, zv, zu, q2, rx, ry, rz, rzv⟩
    have hput := putKeyP_map (n := n) (nodup_k h2)
    rw [show putKeyP k x z (l.map (·.x)) (l.map (·.y)) = ((putE l n).map (·.x), (putE l n).map (·.y)) from hput] at hq
    have hz' : l.length ≤ sizeLine := by rw [List.length_map] at hz; omega
    have hK : KOK ((putE l n).map (·.x)) := putE_KOK h2 hk
    have allk : ∀ d ∈ l, kkP d.x = kkP x := fun d hd => hk.2 d.x (List.mem_map.mpr ⟨d, hd, rfl⟩)
    have allp : ∀ d ∈ putE l n, kkP d.x = kkP x := fun d hd => by
      rcases mem_putE hd with q | q
      · exact hk.2 _ q
      · rw [q]
    rcases kk_all hk.1 with c | c
    · have c' : keyIs (mkK k) u = true := (n.key12 c).1
      refine wpAny_setItem_pairs (hsz := by rw [List.length_map]; exact hz') (k := mkK k) c' (dict2_of hφ h2 fun d hd => by rw [allk d hd]; exact c) fun h' dd' hs => ?_
      rw [show stored (l.map (·.p2)) (mkK k) zu = (putE l n).map (·.p2) from stored_map (n := n) (fun d hd => by rw [allk d hd]; exact c) c] at dd'
      obtain ⟨ob, arr, ep, d1, d2, d3, d4, d5, _⟩ := dd'
      obtain ⟨l', j1, j2, j3⟩ := raw_back (arr := arr.toList) (fun d hd => by rw [allp d hd]; exact c) (fun en he => d4 en (by simpa using he)) d5
      obtain ⟨H', b1, b2, b3⟩ := dct_put (t' := _) I hh e h1 hs j1 j2 hK ⟨hφ.ne, ob, arr, ep, d1, d2, d3, j3.symm⟩
      exact q _ H' _ hq b2 b3 b1
    · obtain ⟨b, eb1, eb2⟩ := n.ref3 c
      have eb3 : u = .ref b := eb2
      subst eb3
      have hnis := nis_of I x y (.ref b) k rx ry q2
      refine wpAny_setItem_heap (hsz := by rw [List.length_map]; exact hz') (nroom (X := X) hu) (k := k) ⟨hnis, (kk3 c q2).2⟩ (dictH_of I hφ h2 fun d hd => by rw [allk d hd]; exact c) fun h' dd' hs => ?_
      rw [show storedH (l.map (·.t3)) k b zu = (putE l n).map (·.t3) from storedH_map (n := n)] at dd'
      obtain ⟨ob, arr, ep, d1, d2, d3, d4, _⟩ := dd'
      refine (fun ⟨H', b1, b2, b3⟩ => q _ H' _ hq b2 b3 b1) (dct_put (t' := _) (l' := putE l n) I hh e h1 hs rfl rfl hK ⟨hφ.ne, ob, arr, ep, d1, d2, d3, ?_⟩)
      rw [d4, List.map_map, List.map_map]
      refine List.map_congr_left fun d hd => ?_
      obtain ⟨b', _, e6⟩ := d.ref3 (by rw [allp d hd]; exact c)
      simp only [Function.comp, DEnt.t3, entryOfKey, e6, refOf, DEnt.e]
      rfl
  · exact h.elim
/-- d[x], the value first -/
theorem dct_item1 (hu : A.units + 64 < cLine) (I : Inv X pins σ H s) (hh : RepH X.K X.w H S) (ro : RepV X.K X.w H S o v) (rx : RepV X.K X.w H S x y) (ry : RelV y u) {ov : Value} (rov : RelV v ov) {Qo : PV → Prop} (h : dgetD o x S fun r => match r with
      | some z => Qo z
      | none => False) : ∃ a z zv w', ov = .ref a ∧ s.TypeIs (.ref a) "dict" ∧ Qo z ∧ RepV X.K X.w H S z zv ∧ RelV zv w' ∧ ∀ {E : Value → Shared → Prop} {Q : Value → Shared → Prop}, (∀ s', Inv X pins σ H s' → Q w' s') → wpAny (model X.prog X.w) A (getItem ov u) Q E s := by
  obtain ⟨a, r, rfl, hd, ht, hq, hc⟩ := dct_look I hh ro rx ry h
  cases (show ov = Value.ref a from rov)
  cases r with
  | none => exact hq.elim
  | some z =>
    rcases hc with ⟨k, b, xs, rfl, h1, h2, h3⟩ | ⟨k, kvs, h1, h2, h3⟩
    · obtain ⟨w', zv, e, g1, g2⟩ := h3.got
      obtain ⟨p, hp, hp2⟩ := Option.map_eq_some_iff.mp e
      refine ⟨a, z, zv, w', rfl, ht, hq, g1, g2, fun {E Q} q => wpAny_getItem_heap (nroom (X := X) hu) h1 h2 hp ?_⟩
      rw [hp2]
      exact q _ (I.tok _)
    · obtain ⟨w', zv, e, g1, g2⟩ := h3.got
      exact ⟨a, z, zv, w', rfl, ht, hq, g1, g2, fun {E Q} q => wpAny_getItem_of h1 h2.mapOf e (q _ (I.tok _))⟩
/-- d.get(x) -/
theorem dct_get1 (hu : A.units + 64 < cLine) (I : Inv X pins σ H s) (hh : RepH X.K X.w H S) (ro : RepV X.K X.w H S o v) (rx : RepV X.K X.w H S x y) (ry : RelV y u) {ov : Value} (rov : RelV v ov) {Qo : PV → Prop} (h : dgetD o x S fun r => Qo (r.getD .non)) {Q : Value → Shared → Prop}
    (q : ∀ z zv w' s', Qo z → RepV X.K X.w H S z zv → RelV zv w' → Inv X pins σ H s' → Q w' s') : wpAny (model X.prog X.w) A (call (.builtin "dict.get") [ov, u]) Q E s := by
  obtain ⟨a, r, rfl, hd, _, hq, hc⟩ := dct_look I hh ro rx ry h
  cases (show ov = Value.ref a from rov)
  have hn : RepV X.K X.w H S .non .non := by simp only [RepV]
  rcases hc with ⟨k, b, xs, rfl, h1, h2, h3⟩ | ⟨k, kvs, h1, h2, h3⟩
  · obtain ⟨zv, g1, g2⟩ := h3.getD hn (show RelV .non .none from rfl)
    exact call_meetsIn PySem.F.slot_dict_get h2.typeIs PySem.F.entry_dict_get (PySem.F.args_dict_get_2 _ _) (meetsH_dict_get (nestedKind X.prog X.w) a b hd) ⟨nroom (X := X) hu, k, xs, h1, h2, q _ zv _ _ hq g1 g2 (I.tok _)⟩
  · obtain ⟨zv, g1, g2⟩ := h3.getD hn (show RelV .non .none from rfl)
    exact call_meetsIn PySem.F.slot_dict_get h2.typeIs PySem.F.entry_dict_get (PySem.F.args_dict_get_2 _ _) (meets_dict_get (mixKind X.prog X.w) a h1 hd) ⟨_, h2.mapOf, q _ zv _ _ hq g1 g2 (I.tok _)⟩
/-- d.get(x, y) -/
theorem dct_get2 (hu : A.units + 64 < cLine) (I : Inv X pins σ H s) (hh : RepH X.K X.w H S) (ro : RepV X.K X.w H S o v) (rx : RepV X.K X.w H S x y) (ry : RelV y u) {ov : Value} (rov : RelV v ov) {d : PV} {dv : V} {du : Value} (rd : RepV X.K X.w H S d dv) (rdu : RelV dv du) {Qo : PV → Prop}
    (h : dgetD o x S fun r => Qo (r.getD d)) {Q : Value → Shared → Prop} (q : ∀ z zv w' s', Qo z → RepV X.K X.w H S z zv → RelV zv w' → Inv X pins σ H s' → Q w' s') : wpAny (model X.prog X.w) A (call (.builtin "dict.get") [ov, u, du]) Q E s := by
  obtain ⟨a, r, rfl, hd, _, hq, hc⟩ := dct_look I hh ro rx ry h
  cases (show ov = Value.ref a from rov)
  rcases hc with ⟨k, b, xs, rfl, h1, h2, h3⟩ | ⟨k, kvs, h1, h2, h3⟩
  · obtain ⟨zv, g1, g2⟩ := h3.getD rd rdu
    exact call_meetsIn PySem.F.slot_dict_get h2.typeIs PySem.F.entry_dict_get (PySem.F.args_dict_get_3 _ _ _) (meetsH_dict_get_default (nestedKind X.prog X.w) a b hd du) ⟨nroom (X := X) hu, k, xs, h1, h2, q _ zv _ _ hq g1 g2 (I.tok _)⟩
  · obtain ⟨zv, g1, g2⟩ := h3.getD rd rdu
    exact call_meetsIn PySem.F.slot_dict_get h2.typeIs PySem.F.entry_dict_get (PySem.F.args_dict_get_3 _ _ _) (meets_dict_get_default (mixKind X.prog X.w) a h1 hd du) ⟨_, h2.mapOf, q _ zv _ _ hq g1 g2 (I.tok _)⟩
/-- d.setdefault(x, z), the keys tuples -/
theorem dct_setdefault (hu : A.units + 64 < cLine) (I : Inv X pins σ H s) (hh : RepH X.K X.w H S) {a : Addr} {ks vs : List PV} (e : S a = some (.dct ks vs)) (k3 : kkP x = 3) (hz : ks.length < sizeLine) (rx : RepV X.K X.w H S x y) (ry : RelV y u) {z : PV} {zv : V} {zu : Value} (rz : RepV X.K X.w H S z zv) (rzv : RelV zv zu) {Qg : PV → Prop} {Qs : Sto → Prop}
    (h : dgetD (.ref a) x S fun r => match r with
      | some z => Qg z
      | none => dputD a ks vs x z S Qs)
    {Q : Value → Shared → Prop} (q1 : ∀ z zv w' s', Qg z → RepV X.K X.w H S z zv → RelV zv w' → Inv X pins σ H s' → Q w' s') (q2 : ∀ S' H' s', Qs S' → RepH X.K X.w H' S' → Ext X.K S H S' H' → Inv X pins σ H' s' → Q zu s') : wpAny (model X.prog X.w) A (call (.builtin "dict.setdefault") [.ref a, u, zu]) Q E s := by
  unfold dgetD at h
  split at h
  · rename_i ks' vs' k e1 e2
    simp only [dD, e, Option.some.injEq, Prod.mk.injEq] at e1
    obtain ⟨rfl, rfl⟩ := e1
    obtain ⟨hk, hq⟩ := h
    obtain ⟨a', es, e0, h1, h2, l, g1, g2, g3⟩ := dct_rep (x := .ref a) (v := .ref a) (ks := ks) (vs := vs) hh (by simp only [RepV]) (by simp only [dD, e])
    cases e0
    subst g1 g2 g3
    obtain ⟨hφ, _⟩ := (show ObjOk X.prog X.w H s.heap a (.ext (DPhi a (l.map (·.e)))) from I.hok a _ h1)
    let n : DEnt X.K X.w H S := ⟨x, z, k, y, u, zv, zu, e2, rx, ry, rz, rzv⟩
    obtain ⟨b, eb1, eb2⟩ := n.ref3 k3
    have eb3 : u = .ref b := eb2
    subst eb3
    have hnis := nis_of I x y (.ref b) k rx ry e2
    have allk : ∀ d ∈ l, kkP d.x = 3 := fun d hd => by rw [← k3]; exact hk.2 d.x (List.mem_map.mpr ⟨d, hd, rfl⟩)
    have hH := dictH_of I hφ h2 allk
    rw [atKeyP_map] at hq
    have hrel : RelR X.K X.w H S ((l.find? fun d => decide (d.k = k)).map (·.y)) ((atKey (l.map (·.t3)) k).map (·.2)) := by
      rw [find_t3]
      exact relR_find l
    have hlen : l.length ≤ sizeLine := by rw [List.length_map] at hz; omega
    cases hf : (l.find? fun d => decide (d.k = k)).map (·.y) with
    | some z0 =>
      rw [hf] at hq hrel
      obtain ⟨w', zv', e5, g5, g6⟩ := hrel.got
      obtain ⟨p, hp, hp2⟩ := Option.map_eq_some_iff.mp e5
      refine call_setdefault_heap (hsz := by rw [List.length_map]; exact hlen) (nroom (X := X) hu) (k := k) ⟨hnis, (kk3 k3 e2).2⟩ hφ.ne hH (fun p' hp' => ?_) fun hn => by rw [hn] at hp; cases hp
      rw [hp] at hp'
      cases hp'
      rw [hp2]
      exact q1 z0 zv' w' _ hq g5 g6 (I.tok _)
    | none =>
      rw [hf] at hq hrel
      have hn : atKey (l.map (·.t3)) k = none := by
        cases q0 : atKey (l.map (·.t3)) k with
        | none => rfl
        | some p => rw [q0] at hrel; exact hrel.elim
      refine call_setdefault_heap (hsz := by rw [List.length_map]; exact hlen) (nroom (X := X) hu) (k := k) ⟨hnis, (kk3 k3 e2).2⟩ hφ.ne hH (fun p' hp' => by rw [hn] at hp'; cases hp') fun _ h' dd' hs => ?_
      unfold dputD at hq
      rw [e2] at hq
      obtain ⟨_, _, hq⟩ := hq
      have hput := putKeyP_map (n := n) (nodup_k h2)
      rw [show putKeyP k x z (l.map (·.x)) (l.map (·.y)) = ((putE l n).map (·.x), (putE l n).map (·.y)) from hput] at hq
      have hK : KOK ((putE l n).map (·.x)) := putE_KOK h2 hk
      have allp : ∀ d ∈ putE l n, kkP d.x = 3 := fun d hd => by
        rw [← k3]
        rcases mem_putE hd with q | q
        · exact hk.2 _ q
        · rw [q]
      rw [show storedH (l.map (·.t3)) k b zu = (putE l n).map (·.t3) from storedH_map (n := n)] at dd'
      obtain ⟨ob, arr, ep, d1, d2, d3, d4, _⟩ := dd'
      refine (fun ⟨H', b1, b2, b3⟩ => q2 _ H' _ hq b2 b3 b1) (dct_put (t' := _) (l' := putE l n) I hh e h1 hs rfl rfl hK ⟨hφ.ne, ob, arr, ep, d1, d2, d3, ?_⟩)
      rw [d4, List.map_map, List.map_map]
      refine List.map_congr_left fun d hd => ?_
      obtain ⟨b', _, e6⟩ := d.ref3 (allp d hd)
      simp only [Function.comp, DEnt.t3, entryOfKey, e6, refOf, DEnt.e]
      rfl
  · exact h.elim
/-- len(d) -/
theorem dct_len (I : Inv X pins σ H s) (hh : RepH X.K X.w H S) (ro : RepV X.K X.w H S o v) {ov : Value} (rov : RelV v ov) {ks vs : List PV} (h : dD S o = some (ks, vs)) (hz : ks.length ≤ sizeLine) {Q : Value → Shared → Prop}
    (q : ∀ t s', Inv X pins σ H s' → Q (.int ks.length t) s') : wpAny (model X.prog X.w) A (call (.builtin "len") [ov]) Q E s := by
  obtain ⟨a, es, rfl, h1, h2, l, g1, g2, g3⟩ := dct_rep hh ro h
  cases (show ov = Value.ref a from rov)
  subst g1 g2 g3
  obtain ⟨hφ, _⟩ := (show ObjOk X.prog X.w H s.heap a (.ext (DPhi a (l.map (·.e)))) from I.hok a _ h1)
  have hl : (l.length : Int) < 2 ^ 63 := by
    rw [List.length_map] at hz
    have : sizeLine ≤ 2 ^ 62 := by decide
    omega
  have cas : (∀ d ∈ l, kkP d.x = 1 ∨ kkP d.x = 2) ∨ ∀ d ∈ l, kkP d.x = 3 := by
    cases l with
    | nil => exact .inl fun d hd => by cases hd
    | cons d0 l =>
      have h0 := h2.1 d0.x (by simp)
      have hs : ∀ d ∈ d0 :: l, kkP d.x = kkP d0.x := fun d hd => h2.2.1 d.x (List.mem_map.mpr ⟨d, hd, rfl⟩) d0.x (by simp)
      rcases kk_all h0 with c | c
      · exact .inl fun d hd => by rw [hs d hd]; exact c
      · exact .inr fun d hd => by rw [hs d hd]; exact c
  have e : (l.map (·.x)).length = l.length := List.length_map ..
  rw [e] at q
  rcases cas with c | c
  · refine call_len_dict hφ.ne (dict2_of hφ h2 c) (by rw [List.length_map]; exact hl) ?_
    rw [List.length_map]
    exact q _ _ (I.tok _)
  · refine call_len_dictH hφ.ne (dictH_of I hφ h2 c) (by rw [List.length_map]; exact hl) ?_
    rw [List.length_map]
    exact q _ _ (I.tok _)
theorem vals_ku {K : PySem.W.Frag} {w : World} {H : Hp} {S : Sto} : ∀ l : List (DEnt K w H S), Vals (l.map (·.kv)) (l.map (·.ku))
  | [] => .nil
  | d :: l => .cons d.rk (vals_ku l)
/-- list(d) -/
theorem dct_list (hA : A.handled = none) (I : Inv X pins σ H s) (hh : RepH X.K X.w H S) (ro : RepV X.K X.w H S o v) {ov : Value} (rov : RelV v ov) {ks vs : List PV} (h : dD S o = some (ks, vs)) (hz : ks.length ≤ sizeLine) {Q : Value → Shared → Prop}
    (q : ∀ (kvs : List V) s', RepVs X.K X.w H S ks kvs → H s.heap.objs.size = none → Inv X pins σ (upd H s.heap.objs.size (.lst kvs)) s' → Q (.ref s.heap.objs.size) s') : wpAny (model X.prog X.w) A (call (.type "list") [ov]) Q E s := by
  obtain ⟨a, es, rfl, h1, h2, l, g1, g2, g3⟩ := dct_rep hh ro h
  cases (show ov = Value.ref a from rov)
  subst g1 g2 g3
  obtain ⟨⟨hne, ob, arr, ep, d1, d2, d3, d4⟩, _⟩ := (show ObjOk X.prog X.w H s.heap a (.ext (DPhi a (l.map (·.e)))) from I.hok a _ h1)
  have e4 := raw_of d4
  have hsz : arr.size = l.length := by rw [← Array.length_toList, e4, List.length_map]
  refine PySem.W.kdl_call (PySem.KdlSrc.rawDict (d := a) (es := arr) (ep := ep) hne) hA ⟨ob, d1, d2, d3⟩ (by rw [hsz]; rw [List.length_map] at hz; exact hz) fun h' tk acc c hk hS hacc => ?_
  have hfr : H s.heap.objs.size = none := I.hok.fresh (Nat.le_refl _)
  have hv : acc.toList = l.map (·.ku) := by
    refine List.ext_getElem? fun i => ?_
    by_cases hi : i < acc.size
    · obtain ⟨hi2, e5⟩ := hacc.2 i acc[i] (Array.getElem?_eq_getElem hi)
      have e6 : acc.toList[i]? = some acc[i] := by rw [Array.getElem?_toList, Array.getElem?_eq_getElem hi]
      rw [e6, e5, List.getElem?_map]
      have e7 : arr.toList[i]? = some arr[i] := by rw [Array.getElem?_toList, Array.getElem?_eq_getElem hi2]
      rw [e4, List.getElem?_map] at e7
      obtain ⟨d, hd1, hd2⟩ := Option.map_eq_some_iff.mp e7
      rw [hd1, ← hd2]
      rfl
    · rw [List.getElem?_eq_none (by rw [Array.length_toList]; omega), List.getElem?_eq_none (by rw [List.length_map, ← hsz, ← hacc.1]; omega)]
  have hvals : Vals (l.map (·.kv)) acc.toList := by
    rw [hv]
    exact vals_ku l
  refine q (l.map (·.kv)) _ ?_ hfr (I.laid (t' := tk) (o := .lst (l.map (·.kv))) hk (Nat.le_refl _) ⟨by rw [List.length_map]; rw [List.length_map] at hz; exact hz, acc.toList, c, hvals, by simpa using hS⟩)
  exact (ents_rep (l := l) rfl rfl rfl).2.2.2.1
end
end DL
end
section
set_option maxRecDepth 100000
set_option maxHeartbeats 1000000
/-! Soundness of the operations, by values: the rest. -/
namespace DL
open PySem PySem.Spec L2
open PyProof.Rows hiding St

section
variable {X : Cx}
theorem cmp_int {f : PV → PV → Sto → Post → Prop} {op : CmpOp} {p : Int → Int → Bool} (ho : OpR X (compareOp op) (rI0 fun i j => .bl (p i j)))
    (hf : ∀ x y S Q, f x y S Q → ∃ i j, x = .int i ∧ y = .int j ∧ Q (.bl (p i j)) S) : OpR X (compareOp op) (rUp2 X.K X.w f) := by
  intro pins s σ H x y v u Q I rx ry h
  obtain ⟨x', y', S, Q', hx, hy, hh, h, k⟩ := h
  obtain ⟨i, j, rfl, rfl, q⟩ := hf _ _ _ _ h
  simp only [RepV] at hx hy
  subst hx hy
  exact ho pins s σ H _ _ v u Q I rx ry ⟨i, j, rfl, rfl, k _ _ (.bl _) S (by simp only [RepV]) hh Ext.refl q⟩
theorem isNon_rep {K : PySem.W.Frag} {w : World} {H : Hp} {S : Sto} {x : PV} {v : V} (r : RepV K w H S x v) : decide (v = .non) = isNon x := by
  cases x <;> simp only [RepV] at r
  case non => subst r; rfl
  case bl => subst r; rfl
  case int => subst r; rfl
  case str => subst r; rfl
  case ty => subst r; rfl
  case ref => subst r; rfl
  case tup => obtain ⟨a, vs, rfl, _⟩ := r; rfl
  case lst => obtain ⟨a, vs, rfl, _⟩ := r; rfl
  case dct => obtain ⟨a, es, _, _, rfl, _⟩ := r; rfl
theorem in_ok (hu : X.A.units + 65 < cLine) (neg : Bool) : OpR X (compareOp (if neg then .NotIn else .In)) (rUp2 X.K X.w fun x y S Q => inD x y S fun k => Q (.bl (if neg then !k else k)) S) := by
  intro pins s σ H x y v u Q I rx ry h
  obtain ⟨x', y', S, Q', hx, hy, hh, hf, k⟩ := h
  have fin : ∀ {b : Bool}, Q' (.bl b) S → Q (.bl b) H := fun {i} q => k _ _ (.bl i) S (by simp only [RepV]) hh Ext.refl q
  simp only [inD] at hf
  split at hf
  · rename_i ys q1
    split at hf
    · rename_i d ds q2 q3
      obtain ⟨sd, sl, hq⟩ := hf
      have hd := dV_rep hh hx q2
      obtain ⟨as, r1⟩ := Dp.reads I d x v hd rx
      obtain ⟨a, vs, rfl, hl, rs⟩ := dQ_rep hh hy q1
      have ha := pvDs_rep ys vs ds rs q3
      have lay : PyData.canLayAll0 ds = true := SeqAt.canLay_of_shaped sl
      rcases hl with hl | hl
      · obtain ⟨bs, r2⟩ := Dp.reads I (.list ds) _ u (.lst hl ha) ry
        cases neg with
        | false => exact SeqAt.in_list_reads r2 r1 lay (SeqAt.canLay_of_shaped sd) (room_in_shaped sd hu) ⟨.bl _, H, I, rfl, fin hq⟩
        | true => exact SeqAt.notIn_list_reads r2 r1 lay (SeqAt.canLay_of_shaped sd) (room_in_shaped sd hu) ⟨.bl _, H, I, rfl, fin hq⟩
      · obtain ⟨bs, r2⟩ := Dp.reads I (.tuple ds) _ u (.tup hl ha) ry
        cases neg with
        | false => exact SeqAt.in_tuple_reads r2 r1 lay (SeqAt.canLay_of_shaped sd) (room_in_shaped sd hu) ⟨.bl _, H, I, rfl, fin hq⟩
        | true => exact SeqAt.notIn_tuple_reads r2 r1 lay (SeqAt.canLay_of_shaped sd) (room_in_shaped sd hu) ⟨.bl _, H, I, rfl, fin hq⟩
    · exact hf.elim
  · split at hf
    · simp only [RepV] at hx hy
      subst hx hy
      cases neg with
      | false => exact op_in_str pins s σ H _ _ v u Q I rx ry ⟨_, _, rfl, rfl, fin hf⟩
      | true => exact op_notin_str pins s σ H _ _ v u Q I rx ry ⟨_, _, rfl, rfl, fin hf⟩
    · cases neg with
      | false => exact dct_in (A := X.A) (by omega) I hh hy hx rx ry hf fun r s' hq I' => ⟨.bl r.isSome, H, I', rfl, fin (b := r.isSome) hq⟩
      | true => exact dct_notin (A := X.A) (by omega) I hh hy hx rx ry hf fun r s' hq I' => ⟨.bl (!r.isSome), H, I', rfl, fin (b := !r.isSome) hq⟩
theorem isBl_ok (neg : Bool) {pins : List (Addr × Obj)} {s : Shared} {σ : L2.St} {H : Hp} {x : V} {v u : Value} {Q : VK} {x' : PV} {b : Bool} {S : Sto} {Q' : Post} (I : Inv X pins σ H s) (hx : RepV X.K X.w H S x' x) (hh : RepH X.K X.w H S) (k : kV X.K X.w S H Q' Q) (rx : RelV x v) (ry : RelV (.bl b) u)
    (hf : Q' (.bl (if neg then !isBl b x' else isBl b x')) S) : wpAny (model X.prog X.w) X.A (compareOp (if neg then .IsNot else .Is) v u) (EP X pins σ Q) X.xe s := by
  cases (show u = Value.bool b from ry)
  have fin : ∀ {c : Bool}, Q' (.bl c) S → EP X pins σ Q (.bool c) s := fun {c} q => ⟨.bl c, H, I, rfl, k _ _ (.bl c) S (by simp only [RepV]) hh Ext.refl q⟩
  have oth : (∀ c, v ≠ .bool c) → (∀ z, v ≠ .builtin z) → isBl b x' = false → wpAny (model X.prog X.w) X.A (compareOp (if neg then .IsNot else .Is) v (.bool b)) (EP X pins σ Q) X.xe s := fun h1 h2 h3 => by
    rw [h3] at hf
    have hp : plainIs v (.bool b) = true := by cases v <;> first | rfl | exact absurd rfl (h2 _)
    cases neg with
    | false => exact wpAny_is_other hp (h1 b) (fin hf)
    | true => exact wpAny_isNot_other hp (h1 b) (fin hf)
  cases x' <;> simp only [RepV] at hx
  case bl c =>
    subst hx
    cases (show v = Value.bool c from rx)
    by_cases e : c = b
    · subst e
      simp only [isBl, beq_self_eq_true] at hf
      cases neg with
      | false => exact wpAny_is_self rfl (fin hf)
      | true => exact wpAny_isNot_self rfl (fin hf)
    · simp only [isBl, beq_eq_false_iff_ne.mpr e] at hf
      cases neg with
      | false => exact wpAny_is_other rfl (fun z => e (Value.bool.inj z)) (fin hf)
      | true => exact wpAny_isNot_other rfl (fun z => e (Value.bool.inj z)) (fin hf)
  case non => subst hx; cases (show v = Value.none from rx); exact oth (fun _ z => nomatch z) (fun _ z => nomatch z) rfl
  case int => subst hx; obtain ⟨t, rfl⟩ := (show ∃ t, v = Value.int _ t from rx); exact oth (fun _ z => nomatch z) (fun _ z => nomatch z) rfl
  case str => subst hx; obtain ⟨t, rfl⟩ := (show ∃ t, v = Value.str _ t from rx); exact oth (fun _ z => nomatch z) (fun _ z => nomatch z) rfl
  case ty => subst hx; cases (show v = Value.type _ from rx); exact oth (fun _ z => nomatch z) (fun _ z => nomatch z) rfl
  case ref => subst hx; cases (show v = Value.ref _ from rx); exact oth (fun _ z => nomatch z) (fun _ z => nomatch z) rfl
  case tup => obtain ⟨a, vs, rfl, _⟩ := hx; cases (show v = Value.ref _ from rx); exact oth (fun _ z => nomatch z) (fun _ z => nomatch z) rfl
  case lst => obtain ⟨a, vs, rfl, _⟩ := hx; cases (show v = Value.ref _ from rx); exact oth (fun _ z => nomatch z) (fun _ z => nomatch z) rfl
  case dct => obtain ⟨a, es, _, _, rfl, _⟩ := hx; cases (show v = Value.ref _ from rx); exact oth (fun _ z => nomatch z) (fun _ z => nomatch z) rfl
/-- any comparison -/
theorem cmp_ok (hu : X.A.units + 65 < cLine) (op : CmpOp) : OpR X (compareOp op) (rUp2 X.K X.w (cmpP (opC op))) := by
  cases op with
  | Eq => exact eq_ok (by omega)
  | NotEq => exact ne_ok (by omega)
  | Lt =>
    refine cmp_int op_lt fun x y S Q h => ?_
    simp only [cmpP, opC, cmpD] at h
    split at h
    · exact ⟨_, _, rfl, rfl, h⟩
    · exact h.elim
  | LtE =>
    refine cmp_int op_le fun x y S Q h => ?_
    simp only [cmpP, opC, cmpD] at h
    split at h
    · exact ⟨_, _, rfl, rfl, h⟩
    · exact h.elim
  | Gt =>
    refine cmp_int op_gt fun x y S Q h => ?_
    simp only [cmpP, opC, cmpD] at h
    split at h
    · exact ⟨_, _, rfl, rfl, h⟩
    · exact h.elim
  | GtE =>
    refine cmp_int op_ge fun x y S Q h => ?_
    simp only [cmpP, opC, cmpD] at h
    split at h
    · exact ⟨_, _, rfl, rfl, h⟩
    · exact h.elim
  | Is =>
    intro pins s σ H x y v u Q I rx ry h
    obtain ⟨x', y', S, Q', hx, hy, hh, hf, k⟩ := h
    simp only [cmpP, opC, cmpD] at hf
    split at hf
    · simp only [RepV] at hy
      subst hy
      refine op_isN pins s σ H _ _ v u Q I rx ry ⟨rfl, ?_⟩
      rw [isNon_rep hx]
      exact k _ _ (.bl _) S (by simp only [RepV]) hh Ext.refl hf
    · simp only [RepV] at hy
      subst hy
      exact isBl_ok (false) I hx hh k rx ry hf
    · exact hf.elim
  | IsNot =>
    intro pins s σ H x y v u Q I rx ry h
    obtain ⟨x', y', S, Q', hx, hy, hh, hf, k⟩ := h
    simp only [cmpP, opC, cmpD] at hf
    split at hf
    · simp only [RepV] at hy
      subst hy
      refine op_notN pins s σ H _ _ v u Q I rx ry ⟨rfl, ?_⟩
      rw [isNon_rep hx]
      exact k _ _ (.bl _) S (by simp only [RepV]) hh Ext.refl hf
    · simp only [RepV] at hy
      subst hy
      exact isBl_ok (true) I hx hh k rx ry hf
    · exact hf.elim
  | In =>
    have h := in_ok hu false (X := X)
    intro pins s σ H x y v u Q I rx ry ⟨x', y', S, Q', hx, hy, hh, hf, k⟩
    exact h pins s σ H x y v u Q I rx ry ⟨x', y', S, Q', hx, hy, hh, hf, k⟩
  | NotIn =>
    have h := in_ok hu true (X := X)
    intro pins s σ H x y v u Q I rx ry ⟨x', y', S, Q', hx, hy, hh, hf, k⟩
    exact h pins s σ H x y v u Q I rx ry ⟨x', y', S, Q', hx, hy, hh, hf, k⟩

/-! ### subscripts -/
theorem RepVs.atI {K : PySem.W.Frag} {w : World} {H : Hp} {S : Sto} {xs : List PV} {vs : List V} {i : Int} {x : PV} (r : RepVs K w H S xs vs) (e : L2.atI xs i = some x) : ∃ v, L2.atI vs i = some v ∧ RepV K w H S x v := by
  unfold L2.atI at e ⊢
  rw [← r.length]
  cases q : ixN xs.length i with
  | none => rw [q] at e; cases e
  | some j =>
    rw [q] at e
    exact r.get e
theorem idx_dct (hu : X.A.units + 64 < cLine) {value slice : Expr} {pins : List (Addr × Obj)} {s : Shared} {σ : L2.St} {H : Hp} {x y : V} {v u : Value} {Q : VK} {x' y' : PV} {S : Sto} {Q' : Post} (I : Inv X pins σ H s) (rx : RelV x v) (ry : RelV y u) (hx : RepV X.K X.w H S x' x) (hy : RepV X.K X.w H S y' y) (hh : RepH X.K X.w H S)
    (k : kV X.K X.w S H Q' Q) (hf : dgetD x' y' S fun r => match r with
      | some z => Q' z S
      | none => False) (hs : subscripted slice false v u = operate [v, u] (getItem v u)) : wpAny (model X.prog X.w) X.A (subscriptTail value slice v u) (EP X pins σ Q) X.xe s := by
  obtain ⟨a, z, zv, w', rfl, ht, hq, g1, g2, run⟩ := dct_item1 (A := X.A) hu I hh hx hy ry rx hf
  exact subscriptTail_builtinR (x := w') ht PySem.F.slot_dict_getitem.lookup (run fun s' I' => ⟨rfl, zv, H, I', g2, k _ _ z S g1 hh Ext.refl hq⟩) hs
theorem idx_ok (hu : X.A.units + 64 < cLine) : IxR X (rUp2 X.K X.w fun x y S Q => idxD x y S fun v => Q v S) := by
  intro value slice pins s σ H x y v u Q I rx ry h hs
  obtain ⟨x', y', S, Q', hx, hy, hh, hf, k⟩ := h
  simp only [idxD] at hf
  split at hf
  · have hy' := hy
    simp only [RepV] at hy
    subst hy
    split at hf
    · simp only [RepV] at hx
      subst hx
      obtain ⟨hz, hf⟩ := hf
      split at hf
      · rename_i c q
        exact ix_str value slice pins s σ H _ _ v u Q I rx ry ⟨_, _, c, rfl, rfl, hz, q, k _ _ (.str _) S (by simp only [RepV]) hh Ext.refl hf⟩ hs
      · exact hf.elim
    · split at hf
      · rename_i xs q
        split at hf
        · rename_i z q2
          obtain ⟨a, vs, rfl, hl, rs⟩ := dQ_rep hh hx q
          obtain ⟨z', q3, rz⟩ := rs.atI q2
          rcases hl with hl | hl
          · exact ix_list value slice pins s σ H _ _ v u Q I rx ry ⟨a, vs, _, z', rfl, rfl, hl, q3, k _ _ _ S rz hh Ext.refl hf⟩ hs
          · exact ix_tup value slice pins s σ H _ _ v u Q I rx ry ⟨a, vs, _, z', rfl, rfl, hl, q3, k _ _ _ S rz hh Ext.refl hf⟩ hs
        · exact hf.elim
      · exact idx_dct hu I rx ry hx hy' hh k hf hs
  · exact idx_dct hu I rx ry hx hy hh k hf hs
def rUpSl (K : PySem.W.Frag) (w : World) (m : Bool) : V → Option Int → Option Int → Hp → VK → Prop := fun x lo hi H Q => ∃ x' S Q', RepV K w H S x' x ∧ RepH K w H S ∧ slcD m x' lo hi S Q' ∧ kV K w S H Q' Q
theorem slc_ok (m : Bool) : SlR X (rUpSl X.K X.w m) := by
  intro pins s σ H x v vl vu lo hi sl Q I rx hs pl pu h
  obtain ⟨x', S, Q', hx, hh, hf, k⟩ := h
  simp only [slcD] at hf
  split at hf
  · rename_i xs
    have hx' := hx
    simp only [RepV] at hx
    obtain ⟨a, vs, rfl, ha, ra⟩ := hx
    refine sl_tupA pins s σ H _ v vl vu lo hi sl Q I rx hs pl pu ⟨a, vs, rfl, ha, fun hw => ?_, new_tup hh (ra.cut lo hi) k hf⟩
    have : cutP xs lo hi = xs := by
      unfold cutP
      rw [ra.length, hw.1, hw.2, List.drop_zero, Nat.sub_zero, ← ra.length, List.take_length]
    rw [this] at hf
    exact k _ _ _ S hx' hh Ext.refl hf
  · simp only [RepV] at hx
    subst hx
    exact sl_str pins s σ H _ v vl vu lo hi sl Q I rx hs pl pu ⟨_, rfl, hf.1, k _ _ (.str _) S (by simp only [RepV]) hh Ext.refl hf.2⟩
  · split at hf
    · rename_i xs q
      obtain ⟨a, vs, rfl, ha, ra⟩ := dL_rep hh hx q
      exact sl_list pins s σ H _ v vl vu lo hi sl Q I rx hs pl pu ⟨a, vs, rfl, ha, newL_ok hh (ra.cut lo hi) k hf⟩
    · exact hf.elim

/-! ### isinstance -/
theorem DPhi.dict {a : Addr} {es : List DE} {h : Heap} (p : DPhi a es h) : ∃ o, h.get? a = some o ∧ o.ExactDict := let ⟨_, o, _, _, e, x, _⟩ := p; ⟨o, e, x⟩
theorem kit_rep {pins : List (Addr × Obj)} {σ : L2.St} {H : Hp} {S : Sto} {s : Shared} {x : PV} {v : V} {u : Value} {t : String} (I : Inv X pins σ H s) (hh : RepH X.K X.w H S) (r : RepV X.K X.w H S x v) (rx : RelV v u) (e : tyP S x = some t) :
    ∃ P : Heap → Prop, PySem.W.KitX X.K u (.type t) P ∧ P s.heap ∧ ∀ z, u ≠ .builtin z := by
  have lstOk : ∀ {a : Addr} {vs : List V}, SqL X.K H a vs → ∃ o, s.heap.get? a = some o ∧ o.cls = .type "list" := fun {a vs} q => by
    obtain ⟨its, _, pl, _⟩ := I.list q
    obtain ⟨o, n, e, c, _⟩ := pl
    exact ⟨o, e, c⟩
  have dctOk : ∀ {a : Addr} {es : List DE}, H a = some (.ext (DPhi a es)) → ∃ o, s.heap.get? a = some o ∧ o.cls = .type "dict" := fun {a es} q => by
    obtain ⟨p, _⟩ := (show ObjOk X.prog X.w H s.heap a (.ext (DPhi a es)) from I.hok a _ q)
    obtain ⟨o, e, x⟩ := p.dict
    exact ⟨o, e, x.1⟩
  cases x with
  | non => simp only [tyP, Option.some.injEq] at e; subst e; simp only [RepV] at r; subst r; cases (show u = Value.none from rx); exact ⟨_, PySem.W.kitx_none, True.intro, fun _ z => nomatch z⟩
  | bl y => simp only [tyP, Option.some.injEq] at e; subst e; simp only [RepV] at r; subst r; cases (show u = Value.bool y from rx); exact ⟨_, PySem.W.kitx_bool, True.intro, fun _ z => nomatch z⟩
  | int i => simp only [tyP, Option.some.injEq] at e; subst e; simp only [RepV] at r; subst r; obtain ⟨t, q⟩ := (show ∃ t, u = Value.int i t from rx); cases q; exact ⟨_, PySem.W.kitx_int, True.intro, fun _ z => nomatch z⟩
  | str y => simp only [tyP, Option.some.injEq] at e; subst e; simp only [RepV] at r; subst r; obtain ⟨t, q⟩ := (show ∃ t, u = Value.str y t from rx); cases q; exact ⟨_, PySem.W.kitx_str, True.intro, fun _ z => nomatch z⟩
  | tup xs =>
    simp only [tyP, Option.some.injEq] at e; subst e; simp only [RepV] at r
    obtain ⟨a, vs, rfl, h1, _⟩ := r
    cases (show u = Value.ref a from rx)
    obtain ⟨its, _, pl, _⟩ := I.tuple h1
    obtain ⟨o, h2, h3, _⟩ := pl
    exact ⟨_, PySem.W.kitx_tuple, ⟨o, h2, h3⟩, fun _ z => nomatch z⟩
  | lst xs =>
    simp only [tyP, Option.some.injEq] at e; subst e; simp only [RepV] at r
    obtain ⟨a, vs, rfl, h1, _⟩ := r
    cases (show u = Value.ref a from rx)
    exact ⟨_, PySem.W.kitx_list, lstOk h1.sq, fun _ z => nomatch z⟩
  | dct ks vs =>
    simp only [tyP, Option.some.injEq] at e; subst e; simp only [RepV] at r
    obtain ⟨a, es, _, _, rfl, h1, _⟩ := r
    cases (show u = Value.ref a from rx)
    exact ⟨_, PySem.W.kitx_dict, dctOk h1, fun _ z => nomatch z⟩
  | ref a =>
    simp only [RepV] at r; subst r
    cases (show u = Value.ref a from rx)
    simp only [tyP] at e
    split at e
    · rename_i xs q
      cases e
      obtain ⟨vs, h1, _⟩ := hh a _ q
      exact ⟨_, PySem.W.kitx_list, lstOk (.inl (.inl h1)), fun _ z => nomatch z⟩
    · rename_i ks vs q
      cases e
      obtain ⟨es, _, _, h1, _⟩ := hh a _ q
      exact ⟨_, PySem.W.kitx_dict, dctOk h1, fun _ z => nomatch z⟩
    · cases e
  | ty n => simp [tyP] at e
def tyNames : List String := ["NoneType", "bool", "int", "str", "tuple", "list", "dict"]
def clsNames : List String := ["int", "bool", "tuple", "list", "dict", "str"]
theorem kitB_all : (tyNames.all fun t => clsNames.all fun c => decide (kitB t c = some (isT t c))) = true := by decide +kernel
theorem tyP_mem {S : Sto} {x : PV} {t : String} (e : tyP S x = some t) : t ∈ tyNames := by
  cases x <;> simp only [tyP, Option.some.injEq, reduceCtorEq] at e
  case ref a =>
    split at e
    · cases e; decide
    · cases e; decide
    · cases e
  all_goals (subst e; decide)
theorem tyOf_mem {x : Str} {c : String} (e : tyOf x = some c) : c ∈ clsNames ∧ bootBuiltins x = some (.type c) := by
  unfold tyOf at e
  repeat' split at e
  all_goals (first | (cases e; done) | (rename_i q; cases e; subst q; exact ⟨by decide, by decide +kernel⟩) | cases e)
theorem kit_isT {K : PySem.W.Frag} {S : Sto} {x : PV} {t c : String} (e : tyP S x = some t) (hc : c ∈ clsNames) : PySem.W.kitOne K (.type t) (.type c) = some (isT t c) := by
  have h := List.all_eq_true.mp kitB_all t (tyP_mem e)
  exact kit_ty (of_decide_eq_true (List.all_eq_true.mp h c hc))
end
end DL
end
section
set_option maxRecDepth 100000
set_option maxHeartbeats 1000000
/-! sorted: the order of ints and of tuples of them, nested. -/
namespace DL
open PySem PySem.Spec L2
open PyProof.Rows hiding St wpS
open Ob (lexAt lexAt_zero lexAt_succ RcOp)

theorem nat3 (a b : Nat) : (if b < a then Ordering.lt else if b = a then .eq else .gt) = (if a < b then Ordering.lt else if a = b then .eq else .gt).swap := by
  by_cases h : a < b
  · rw [if_pos h, if_neg (by omega), if_neg (by omega)]; rfl
  · by_cases e : a = b
    · subst e; simp
    · rw [if_neg h, if_neg e, if_pos (by omega)]; rfl
theorem int3 (a b : Int) : (if b < a then Ordering.lt else if b = a then .eq else .gt) = (if a < b then Ordering.lt else if a = b then .eq else .gt).swap := by
  by_cases h : a < b
  · rw [if_pos h, if_neg (by omega), if_neg (by omega)]; rfl
  · by_cases e : a = b
    · subst e; simp
    · rw [if_neg h, if_neg e, if_pos (by omega)]; rfl
theorem cV_rk {x y : PV} (h : ¬ (rk x = 1 ∧ rk y = 1)) (h2 : ¬ (rk x = 2 ∧ rk y = 2)) : cV x y = if rk x < rk y then .lt else if rk x = rk y then .eq else .gt := by
  cases x <;> cases y <;> first
    | (unfold cV; rfl)
    | exact absurd ⟨rfl, rfl⟩ h
    | exact absurd ⟨rfl, rfl⟩ h2
theorem rk_1 {x : PV} (h : rk x = 1) : ∃ a, x = .int a := by cases x <;> first | exact ⟨_, rfl⟩ | cases h
theorem rk_2 {x : PV} (h : rk x = 2) : ∃ a, x = .tup a := by cases x <;> first | exact ⟨_, rfl⟩ | cases h
theorem cV_swap_at : ∀ n : Nat, (∀ x y : PV, sizeOf x ≤ n → cV y x = (cV x y).swap) ∧ (∀ xs ys : List PV, sizeOf xs ≤ n → cVs ys xs = (cVs xs ys).swap)
  | 0 => ⟨fun x y h => by cases x <;> simp at h, fun xs ys h => by cases xs <;> simp at h⟩
  | n + 1 => by
    have ih := cV_swap_at n
    refine ⟨fun x y h => ?_, fun xs ys h => ?_⟩
    · by_cases h1 : rk x = 1 ∧ rk y = 1
      · obtain ⟨a, rfl⟩ := rk_1 h1.1
        obtain ⟨b, rfl⟩ := rk_1 h1.2
        simp only [cV]
        exact int3 a b
      · by_cases h2 : rk x = 2 ∧ rk y = 2
        · obtain ⟨a, rfl⟩ := rk_2 h2.1
          obtain ⟨b, rfl⟩ := rk_2 h2.2
          simp only [cV]
          exact ih.2 a b (by simp at h; omega)
        · rw [cV_rk h1 h2, cV_rk (by omega) (by omega)]
          exact nat3 _ _
    · cases xs with
      | nil => cases ys <;> rfl
      | cons x xs =>
        cases ys with
        | nil => rfl
        | cons y ys =>
          simp only [cVs]
          rw [ih.1 x y (by simp at h; omega)]
          cases cV x y with
          | lt => rfl
          | gt => rfl
          | eq => exact ih.2 xs ys (by simp at h; omega)
theorem cV_swap (x y : PV) : cV y x = (cV x y).swap := (cV_swap_at (sizeOf x)).1 x y (Nat.le_refl _)
theorem cV_ne {x y : PV} (h : rk x ≠ rk y) : cV x y = if rk x < rk y then .lt else .gt := by
  rw [cV_rk (by omega) (by omega), if_neg h]
theorem cV_le {x y : PV} (h : cV x y = .lt) : rk x ≤ rk y := by
  by_cases e : rk x = rk y
  · omega
  · rw [cV_ne e] at h
    split at h
    · omega
    · cases h
theorem cV_eqr {x y : PV} (h : cV x y = .eq) : rk x = rk y := by
  by_cases e : rk x = rk y
  · exact e
  · rw [cV_ne e] at h
    split at h <;> cases h
/-- equal ones are alike against a third; what is below what is below is below -/
theorem cV_tr_at : ∀ n : Nat,
    (∀ x y z : PV, sizeOf x ≤ n → (cV x y = .eq → cV x z = cV y z) ∧ (cV x y = .lt → cV y z = .lt → cV x z = .lt) ∧ (cV y z = .eq → cV x y = cV x z)) ∧
    (∀ xs ys zs : List PV, sizeOf xs ≤ n → (cVs xs ys = .eq → cVs xs zs = cVs ys zs) ∧ (cVs xs ys = .lt → cVs ys zs = .lt → cVs xs zs = .lt) ∧ (cVs ys zs = .eq → cVs xs ys = cVs xs zs))
  | 0 => ⟨fun x y z h => by cases x <;> simp at h, fun xs ys zs h => by cases xs <;> simp at h⟩
  | n + 1 => by
    have ih := cV_tr_at n
    refine ⟨fun x y z h => ?_, fun xs ys zs h => ?_⟩
    · by_cases hr : rk x = rk y ∧ rk y = rk z
      · by_cases h1 : rk x = 1
        · obtain ⟨a, rfl⟩ := rk_1 h1
          obtain ⟨b, rfl⟩ := rk_1 (hr.1 ▸ h1)
          obtain ⟨c, rfl⟩ := rk_1 (hr.2 ▸ hr.1 ▸ h1)
          simp only [cV]
          refine ⟨fun e => ?_, fun e1 e2 => ?_, fun e => ?_⟩
          · split at e
            · cases e
            · split at e
              · rename_i q; rw [q]
              · cases e
          · split at e1
            · split at e2
              · rw [if_pos (by omega)]
              · split at e2 <;> cases e2
            · split at e1 <;> cases e1
          · split at e
            · cases e
            · split at e
              · rename_i q; rw [q]
              · cases e
        · by_cases h2 : rk x = 2
          · obtain ⟨a, rfl⟩ := rk_2 h2
            obtain ⟨b, rfl⟩ := rk_2 (hr.1 ▸ h2)
            obtain ⟨c, rfl⟩ := rk_2 (hr.2 ▸ hr.1 ▸ h2)
            simp only [cV]
            exact ih.2 a b c (by simp at h; omega)
          · have g1 : cV x y = .eq := by rw [cV_rk (by omega) (by omega), if_neg (by omega), if_pos hr.1]
            have g2 : cV y z = .eq := by rw [cV_rk (by omega) (by omega), if_neg (by omega), if_pos hr.2]
            have g3 : cV x z = .eq := by rw [cV_rk (by omega) (by omega), if_neg (by omega), if_pos (hr.1.trans hr.2)]
            rw [g1, g2, g3]
            exact ⟨fun _ => rfl, fun h => (by cases h), fun _ => rfl⟩
      · by_cases hxy : rk x = rk y
        · have hz : rk y ≠ rk z := fun e => hr ⟨hxy, e⟩
          have g1 := cV_ne hz
          have g2 : cV x z = if rk x < rk z then .lt else .gt := cV_ne (by omega)
          rw [g1, g2, hxy]
          refine ⟨fun _ => rfl, fun _ h => h, fun h => ?_⟩
          split at h <;> cases h
        · have g1 := cV_ne hxy
          refine ⟨fun h => ?_, fun h1 h2 => ?_, fun h => ?_⟩
          · rw [g1] at h
            split at h <;> cases h
          · rw [g1] at h1
            split at h1
            · rename_i q
              have := cV_le h2
              rw [cV_ne (by omega), if_pos (by omega)]
            · cases h1
          · have := cV_eqr h
            rw [g1, cV_ne (by omega), this]
    · cases xs with
      | nil =>
        cases ys <;> cases zs <;> simp [cVs]
      | cons x xs =>
        cases ys with
        | nil => cases zs <;> simp [cVs]
        | cons y ys =>
          cases zs with
          | nil => simp [cVs]
          | cons z zs =>
            obtain ⟨i1, i2, i3⟩ := ih.1 x y z (by simp at h; omega)
            obtain ⟨j1, j2, j3⟩ := ih.2 xs ys zs (by simp at h; omega)
            simp only [cVs]
            cases e1 : cV x y <;> cases e2 : cV y z <;> cases e3 : cV x z <;> simp_all
theorem cV_refl (x : PV) : cV x x = .eq := by
  have := cV_swap x x
  cases h : cV x x <;> rw [h] at this <;> first | rfl | cases this
theorem ltV_swo {α : Type} (k : α → PV) : SrtO.Swo fun a b => ltV (k a) (k b) := by
  refine ⟨fun a b h => ?_, fun a b c h1 h2 => ?_⟩
  · unfold ltV at h ⊢
    rw [cV_swap (k a) (k b), eq_of_beq h]
    rfl
  · unfold ltV at h1 h2 ⊢
    obtain ⟨t1, t2, t3⟩ := (cV_tr_at (sizeOf (k c))).1 (k c) (k b) (k a) (Nat.le_refl _)
    cases e1 : cV (k c) (k b) with
    | lt => rw [e1] at h2; cases h2
    | eq => rw [t1 e1]; exact h1
    | gt =>
      cases e2 : cV (k b) (k a) with
      | lt => rw [e2] at h1; cases h1
      | eq => rw [← t3 e2, e1]; rfl
      | gt =>
        have g1 : cV (k b) (k c) = .lt := by rw [cV_swap (k c) (k b), e1]; rfl
        have g2 : cV (k a) (k b) = .lt := by rw [cV_swap (k b) (k a), e2]; rfl
        have g3 := ((cV_tr_at (sizeOf (k a))).1 (k a) (k b) (k c) (Nat.le_refl _)).2.1 g2 g1
        rw [cV_swap (k a) (k c), g3]
        rfl

/-! ### what a value reads as, at a heap -/
mutual
def Rds (h : Heap) : PV → Value → Prop
  | .int i, v => ∃ t, v = .int i t
  | .tup xs, v => ∃ a items, v = .ref a ∧ h.IsTuple a items ∧ Rdss h xs items.toList
  | _, _ => False
def Rdss (h : Heap) : List PV → List Value → Prop
  | [], [] => True
  | x :: xs, v :: vs => Rds h x v ∧ Rdss h xs vs
  | _, _ => False
end
theorem Rdss.length {h : Heap} : ∀ {xs : List PV} {vs : List Value}, Rdss h xs vs → xs.length = vs.length
  | [], [], _ => rfl
  | _ :: xs, _ :: vs, r => by
    simp only [Rdss] at r
    rw [List.length_cons, List.length_cons, Rdss.length r.2]
  | [], _ :: _, r => by simp only [Rdss] at r
  | _ :: _, [], r => by simp only [Rdss] at r
theorem isTuple_inj {h : Heap} {a : Addr} {i j : Array Value} (x : h.IsTuple a i) (y : h.IsTuple a j) : i = j := by
  obtain ⟨o, h1, _, n, h2⟩ := x
  obtain ⟨o', h3, _, n', h4⟩ := y
  rw [h1] at h3
  cases h3
  rw [h2] at h4
  cases h4
  rfl
mutual
theorem Rds.inj {h : Heap} : ∀ (x y : PV) (v : Value), Rds h x v → Rds h y v → x = y
  | .int i, y, v, r1, r2 => by
    simp only [Rds] at r1
    obtain ⟨t, rfl⟩ := r1
    cases y <;> simp only [Rds] at r2
    · obtain ⟨t', e⟩ := r2
      cases e
      rfl
    · obtain ⟨_, _, e, _⟩ := r2
      cases e
  | .tup xs, y, v, r1, r2 => by
    simp only [Rds] at r1
    obtain ⟨a, i, rfl, h1, h2⟩ := r1
    cases y <;> simp only [Rds] at r2
    · obtain ⟨t', e⟩ := r2
      cases e
    · obtain ⟨_, _, e, h3, h4⟩ := r2
      cases e
      rw [isTuple_inj h1 h3] at h2
      rw [Rdss.inj xs _ _ h2 h4]
  | .non, _, _, r, _ => by simp only [Rds] at r
  | .bl _, _, _, r, _ => by simp only [Rds] at r
  | .str _, _, _, r, _ => by simp only [Rds] at r
  | .ty _, _, _, r, _ => by simp only [Rds] at r
  | .ref _, _, _, r, _ => by simp only [Rds] at r
  | .lst _, _, _, r, _ => by simp only [Rds] at r
  | .dct _ _, _, _, r, _ => by simp only [Rds] at r
theorem Rdss.inj {h : Heap} : ∀ (xs ys : List PV) (vs : List Value), Rdss h xs vs → Rdss h ys vs → xs = ys
  | [], ys, [], _, r => by cases ys with | nil => rfl | cons _ _ => simp only [Rdss] at r
  | x :: xs, ys, v :: vs, r1, r2 => by
    cases ys with
    | nil => simp only [Rdss] at r2
    | cons y ys =>
      simp only [Rdss] at r1 r2
      rw [Rds.inj x y v r1.1 r2.1, Rdss.inj xs ys vs r1.2 r2.2]
  | [], _, _ :: _, r, _ => by simp only [Rdss] at r
  | _ :: _, _, [], r, _ => by simp only [Rdss] at r
end
mutual
theorem Rds.keeps {h h' : Heap} (k : ∀ b o, h.get? b = some o → o.cls = .type "tuple" → h'.get? b = some o) : ∀ (x : PV) (v : Value), Rds h x v → Rds h' x v
  | .int i, v, r => by simpa only [Rds] using r
  | .tup xs, v, r => by
    simp only [Rds] at r ⊢
    obtain ⟨a, i, e, ⟨o, h1, h2, h3⟩, h4⟩ := r
    exact ⟨a, i, e, ⟨o, k a o h1 h2, h2, h3⟩, Rdss.keeps k xs _ h4⟩
  | .non, _, r => by simp only [Rds] at r
  | .bl _, _, r => by simp only [Rds] at r
  | .str _, _, r => by simp only [Rds] at r
  | .ty _, _, r => by simp only [Rds] at r
  | .ref _, _, r => by simp only [Rds] at r
  | .lst _, _, r => by simp only [Rds] at r
  | .dct _ _, _, r => by simp only [Rds] at r
theorem Rdss.keeps {h h' : Heap} (k : ∀ b o, h.get? b = some o → o.cls = .type "tuple" → h'.get? b = some o) : ∀ (xs : List PV) (vs : List Value), Rdss h xs vs → Rdss h' xs vs
  | [], [], _ => by simp only [Rdss]
  | x :: xs, v :: vs, r => by
    simp only [Rdss] at r ⊢
    exact ⟨Rds.keeps k x v r.1, Rdss.keeps k xs vs r.2⟩
  | [], _ :: _, r => by simp only [Rdss] at r
  | _ :: _, [], r => by simp only [Rdss] at r
end
theorem Rdss.get {h : Heap} : ∀ {xs : List PV} {vs : List Value} {j : Nat} (h1 : j < xs.length) (h2 : j < vs.length), Rdss h xs vs → Rds h xs[j] vs[j]
  | [], _, _, h1, _, _ => absurd h1 (Nat.not_lt_zero _)
  | _ :: _, [], _, _, h2, _ => absurd h2 (Nat.not_lt_zero _)
  | x :: xs, v :: vs, 0, _, _, r => by simp only [Rdss] at r; exact r.1
  | x :: xs, v :: vs, j + 1, h1, h2, r => by
    simp only [Rdss] at r
    exact Rdss.get (j := j) (by simpa using h1) (by simpa using h2) r.2
theorem Rdss.getA {h : Heap} {xs : List PV} {i : Array Value} {j : Nat} (r : Rdss h xs i.toList) (h1 : j < xs.length) (h2 : j < i.size) : Rds h xs[j] i[j] := by
  rw [← Array.getElem_toList]
  exact r.get h1 (by simpa using h2)
theorem cVs_eq : ∀ (xs ys : List PV), (cVs xs ys == .eq) = ((List.range (min xs.length ys.length)).all (fun j => match xs[j]?, ys[j]? with
    | some x, some y => cV x y == .eq
    | _, _ => true) && xs.length == ys.length)
  | [], [] => rfl
  | [], _ :: _ => rfl
  | _ :: _, [] => by simp [cVs]
  | x :: xs, y :: ys => by
    have ih := cVs_eq xs ys
    have hm : min (x :: xs).length (y :: ys).length = min xs.length ys.length + 1 := by simp only [List.length_cons]; omega
    rw [hm, List.range_succ_eq_map, List.all_cons, List.all_map]
    simp only [cVs, List.getElem?_cons_zero, Function.comp_def, List.getElem?_cons_succ, List.length_cons]
    cases h : cV x y with
    | eq =>
      simp only [ih, beq_self_eq_true, Bool.true_and]
      congr 1
      simp
    | lt => rfl
    | gt => rfl
theorem cVs_cons (x y : PV) (xs ys : List PV) : (if (cV x y == .eq) = true then (cVs xs ys == .lt) else ltV x y) = (cVs (x :: xs) (y :: ys) == .lt) := by
  unfold ltV
  simp only [cVs]
  cases cV x y <;> rfl
theorem cVs_lt (xs ys : List PV) : ∀ (k i : Nat), i + k = min xs.length ys.length → lexAt (fun j => match xs[j]?, ys[j]? with
    | some x, some y => cV x y == .eq
    | _, _ => true) (fun j => match xs[j]?, ys[j]? with
    | some x, some y => ltV x y
    | _, _ => true) (decide (xs.length < ys.length)) i k = (cVs (xs.drop i) (ys.drop i) == .lt)
  | 0, i, h => by
    rw [lexAt_zero]
    by_cases hl : xs.length < ys.length
    · have h1 : xs.drop i = [] := List.drop_of_length_le (by omega)
      have h2 : ys.drop i = ys[i]'(by omega) :: ys.drop (i + 1) := List.drop_eq_getElem_cons (by omega)
      rw [h1, h2, decide_eq_true hl]
      rfl
    · rw [decide_eq_false hl]
      have h2 : ys.drop i = [] := List.drop_of_length_le (by omega)
      rw [h2]
      cases xs.drop i <;> rfl
  | k + 1, i, h => by
    have h1 : i < xs.length := by omega
    have h2 : i < ys.length := by omega
    rw [lexAt_succ, List.drop_eq_getElem_cons h1, List.drop_eq_getElem_cons h2, List.getElem?_eq_getElem h1, List.getElem?_eq_getElem h2, cVs_lt xs ys k (i + 1) (by omega)]
    exact cVs_cons _ _ _ _
section
variable {s : Shared}
theorem eq_at : ∀ (n : Nat) (x y : PV) (v u : Value) (A : Around), A.units + n < cLine → Al n x y → Rds s.heap x v → Rds s.heap y u → SeqAt.EqAt A s v u (cV x y == .eq)
  | n, x, y, v, u, A, hu, al, rx, ry => by
    cases x with
    | int i =>
      cases y with
      | int j =>
        simp only [Rds] at rx ry
        obtain ⟨t, rfl⟩ := rx
        obtain ⟨t', rfl⟩ := ry
        have e : (cV (.int i) (.int j) == .eq) = (i == j) := by
          simp only [cV]
          by_cases h : i < j
          · rw [if_pos h, show (i == j) = false from by simp; omega]; rfl
          · by_cases h2 : i = j
            · rw [if_neg h, if_pos h2, show (i == j) = true from by simpa using h2]; rfl
            · rw [if_neg h, if_neg h2, show (i == j) = false from by simpa using h2]; rfl
        rw [e]
        exact SeqAt.EqAt.int_int _ _ _ _
      | _ => cases n <;> exact al.elim
    | tup xs =>
      cases y with
      | tup ys =>
        cases n with
        | zero => exact al.elim
        | succ n =>
          simp only [Rds] at rx ry
          obtain ⟨a, i1, rfl, h1, h2⟩ := rx
          obtain ⟨b, i2, rfl, h3, h4⟩ := ry
          by_cases e : a = b
          · subst e
            rw [isTuple_inj h1 h3] at h2
            rw [Rdss.inj xs ys _ h2 h4, cV_refl]
            exact SeqAt.EqAt.same _
          · have l1 := h2.length
            have l2 := h4.length
            have key := SeqAt.RcAt.tuples (A := A) (e := fun j => match xs[j]?, ys[j]? with
              | some x, some y => cV x y == .eq
              | _, _ => true) h1 h3 (by omega) fun j j1 j2 => by
                have k1 : j < xs.length := by rw [l1]; simpa using j1
                have k2 : j < ys.length := by rw [l2]; simpa using j2
                have := eq_at n xs[j] ys[j] i1[j] i2[j] A.in1 (by show A.units + 1 + n < cLine; omega) (al j k1 k2) (h2.getA k1 j1) (h4.getA k2 j2)
                simpa [List.getElem?_eq_getElem k1, List.getElem?_eq_getElem k2] using this
            have e2 : (cV (.tup xs) (.tup ys) == .eq) = ((List.range (min i1.size i2.size)).all (fun j => match xs[j]?, ys[j]? with
              | some x, some y => cV x y == .eq
              | _, _ => true) && i1.size == i2.size) := by
              simp only [cV]
              rw [cVs_eq, show i1.size = xs.length from by rw [l1]; simp, show i2.size = ys.length from by rw [l2]; simp]
            rw [e2]
            exact SeqAt.EqAt.of_refs e key
      | _ => cases n <;> exact al.elim
    | _ => simp only [Rds] at rx
theorem lt_at : ∀ (n : Nat) (x y : PV) (v u : Value) (A : Around), A.units + n < cLine → Al n x y → Rds s.heap x v → Rds s.heap y u → RcOp .Lt A s v u (ltV x y)
  | n, x, y, v, u, A, hu, al, rx, ry => by
    cases x with
    | int i =>
      cases y with
      | int j =>
        simp only [Rds] at rx ry
        obtain ⟨t, rfl⟩ := rx
        obtain ⟨t', rfl⟩ := ry
        have e : ltV (.int i) (.int j) = decide (i < j) := by
          simp only [ltV, cV]
          by_cases h : i < j
          · rw [if_pos h, decide_eq_true h]; rfl
          · rw [if_neg h, decide_eq_false h]
            split <;> rfl
        rw [e]
        exact RcOp.lt_int _ _ _ _
      | _ => cases n <;> exact al.elim
    | tup xs =>
      cases y with
      | tup ys =>
        cases n with
        | zero => exact al.elim
        | succ n =>
          simp only [Rds] at rx ry
          obtain ⟨a, i1, rfl, h1, h2⟩ := rx
          obtain ⟨b, i2, rfl, h3, h4⟩ := ry
          have l1 := h2.length
          have l2 := h4.length
          have rd : ∀ j (j1 : j < i1.size) (j2 : j < i2.size), ∃ (k1 : j < xs.length) (k2 : j < ys.length), Rds s.heap xs[j] i1[j] ∧ Rds s.heap ys[j] i2[j] := fun j j1 j2 => by
            have k1 : j < xs.length := by rw [l1]; simpa using j1
            have k2 : j < ys.length := by rw [l2]; simpa using j2
            exact ⟨k1, k2, h2.getA k1 j1, h4.getA k2 j2⟩
          have key := RcOp.tuples_lt (A := A) (e := fun j => match xs[j]?, ys[j]? with
            | some x, some y => cV x y == .eq
            | _, _ => true) (r := fun j => match xs[j]?, ys[j]? with
            | some x, some y => ltV x y
            | _, _ => true) h1 h3 (by omega) (fun j j1 j2 => by
              obtain ⟨k1, k2, r1, r2⟩ := rd j j1 j2
              have := eq_at n xs[j] ys[j] i1[j] i2[j] A.in1 (by show A.units + 1 + n < cLine; omega) (al j k1 k2) r1 r2
              simpa [List.getElem?_eq_getElem k1, List.getElem?_eq_getElem k2] using this) fun j j1 j2 _ => by
              obtain ⟨k1, k2, r1, r2⟩ := rd j j1 j2
              have := lt_at n xs[j] ys[j] i1[j] i2[j] A.in1 (by show A.units + 1 + n < cLine; omega) (al j k1 k2) r1 r2
              simpa [List.getElem?_eq_getElem k1, List.getElem?_eq_getElem k2] using this
          have e2 : ltV (.tup xs) (.tup ys) = lexAt (fun j => match xs[j]?, ys[j]? with
            | some x, some y => cV x y == .eq
            | _, _ => true) (fun j => match xs[j]?, ys[j]? with
            | some x, some y => ltV x y
            | _, _ => true) (decide (i1.size < i2.size)) 0 (min i1.size i2.size) := by
            have z1 : i1.size = xs.length := by rw [l1]; simp
            have z2 : i2.size = ys.length := by rw [l2]; simp
            rw [z1, z2, cVs_lt xs ys _ 0 (by omega)]
            simp only [ltV, cV, List.drop_zero]
          rw [e2]
          exact key
      | _ => cases n <;> exact al.elim
    | _ => simp only [Rds] at rx
end

/-! ### the sort -/
open Classical in
/-- what a value reads as -/
noncomputable def gv (h : Heap) (v : Value) : PV := if hx : ∃ x, Rds h x v then Classical.choose hx else .non
theorem gv_of {h : Heap} {x : PV} {v : Value} (r : Rds h x v) : gv h v = x := by
  unfold gv
  have hx : ∃ x, Rds h x v := ⟨x, r⟩
  rw [dif_pos hx]
  exact Rds.inj _ _ v (Classical.choose_spec hx) r
section
variable {prog : Program} {w : World} {A : Around} {s : Shared}
theorem kl_at {Q : Bool → Shared → Prop} {n : Nat} (hu : A.units + n < cLine) : ∀ (xs ys : List PV) (vs us : List Value) (i : Nat) (fin : Bool), Rdss s.heap xs vs → Rdss s.heap ys us → (∀ (j : Nat) (h1 : j < xs.length) (h2 : j < ys.length), Al n xs[j] ys[j]) →
    (i = 0 → ∀ x xr y yr, xs = x :: xr → ys = y :: yr → (∃ a, x = .int a) ∧ ∃ b, y = .int b) → fin = decide (xs.length < ys.length) → Q (cVs xs ys == .lt) s → PySem.W.KatLex prog w A true fin Q (vs.zip us) i s
  | [], ys, vs, us, i, fin, rx, ry, al, h0, hf, hq => by
    have hl := rx.length
    have : vs = [] := List.length_eq_zero_iff.mp hl.symm
    subst this
    rw [List.zip_nil_left]
    refine PySem.W.kat_nil ?_
    rw [hf]
    cases ys with
    | nil => exact hq
    | cons y ys => simpa [cVs] using hq
  | x :: xs, [], vs, us, i, fin, rx, ry, al, h0, hf, hq => by
    have hl := ry.length
    have : us = [] := List.length_eq_zero_iff.mp hl.symm
    subst this
    rw [List.zip_nil_right]
    refine PySem.W.kat_nil ?_
    rw [hf]
    simpa [cVs] using hq
  | x :: xs, y :: ys, vs, us, i, fin, rx, ry, al, h0, hf, hq => by
    cases vs with
    | nil => simp only [Rdss] at rx
    | cons v vs =>
      cases us with
      | nil => simp only [Rdss] at ry
      | cons u us =>
        simp only [Rdss] at rx ry
        have al0 : Al n x y := al 0 (by simp) (by simp)
        rw [List.zip_cons_cons]
        refine PySem.W.kat_cons (eq_at n x y v u A hu al0 rx.1 ry.1 prog w _ _ ?_)
        rw [← cVs_cons] at hq
        refine PySem.W.kat_go (fun e1 => ?_) (fun e1 => ?_)
        · rw [if_pos e1] at hq
          exact PySem.W.kat_yes (kl_at hu xs ys vs us (i + 1) fin rx.2 ry.2 (fun j h1 h2 => al (j + 1) (by simpa using h1) (by simpa using h2)) (fun e => absurd e (by omega)) (by rw [hf]; simp) hq)
        · rw [if_neg (by rw [e1]; decide)] at hq
          refine PySem.W.kat_no ?_
          cases i with
          | zero =>
            obtain ⟨⟨a, rfl⟩, b, rfl⟩ := h0 rfl x xs y ys rfl rfl
            obtain ⟨t, e⟩ := (show ∃ t, v = Value.int a t from by simpa only [Rds] using rx.1)
            obtain ⟨t', e'⟩ := (show ∃ t, u = Value.int b t from by simpa only [Rds] using ry.1)
            subst e e'
            have : ltV (.int a) (.int b) = decide (a < b) := by
              simp only [ltV, cV]
              by_cases h : a < b
              · rw [if_pos h, decide_eq_true h]; rfl
              · rw [if_neg h, decide_eq_false h]
                split <;> rfl
            rw [this] at hq
            exact oneLt_int hq
          | succ i => exact PySem.W.kat_one _ _ (lt_at n x y v u A hu al0 rx.1 ry.1 prog w _ _ hq)
theorem tups_cmp {n : Nat} (hu : A.units + n < cLine) {xs : List PV} {vs : List Value} (hr : ∀ v ∈ vs, ∃ x ∈ xs, Rds s.heap x v) (hf : ∀ x ∈ xs, Fst x) (ha : ∀ x ∈ xs, ∀ y ∈ xs, Al (n + 1) x y) (g : Value → PV) (hg : ∀ v ∈ vs, ∀ x, Rds s.heap x v → g v = x) :
    SrtO.Cmp prog w A s (tuples' true) (fun p => p.1 ∈ vs) (SrtO.lt2 fun v u => ltV (g v) (g u)) := by
  intro p q hm hm'
  obtain ⟨x, hx, rx⟩ := hr _ hm
  obtain ⟨y, hy, ry⟩ := hr _ hm'
  have al := ha x hx y hy
  obtain ⟨i, xr, rfl⟩ := hf x hx
  obtain ⟨j, yr, rfl⟩ := hf y hy
  show wpAny (model prog w) A (keyLt' (tuples' true) p.1 q.1) (fun r s' => s' = s ∧ r = ltV (g p.1) (g q.1)) (fun _ _ => False) s
  rw [hg _ hm _ rx, hg _ hm' _ ry]
  simp only [Rds] at rx ry
  obtain ⟨a, i1, e1, ⟨o, ho, hc, k1, hd⟩, r1⟩ := rx
  obtain ⟨b, i2, e2, ⟨o', ho', hc', k2, hd'⟩, r2⟩ := ry
  rw [e1, e2]
  have l1 := r1.length
  have l2 := r2.length
  refine PySem.W.kat_lt ho hd ho' hd' (kl_at (n := n) hu _ _ _ _ 0 _ r1 r2 al (fun _ x xr' y yr' q1 q2 => ?_) (by
    have z1 : i1.size = (PV.int i :: xr).length := by rw [l1]; simp
    have z2 : i2.size = (PV.int j :: yr).length := by rw [l2]; simp
    rw [z1, z2]) ⟨rfl, rfl⟩)
  cases q1
  cases q2
  exact ⟨⟨_, rfl⟩, _, rfl⟩
theorem firsts_at {h : Heap} : ∀ {vs : List Value}, (∀ v ∈ vs, ∃ x, Fst x ∧ Rds h x v) → ∃ fs : List Value, PySem.W.KatTups h vs fs ∧ fs.length = vs.length ∧ ∀ f ∈ fs, ∃ x t, f = Value.int x t
  | [], _ => ⟨[], PySem.W.KatTups.nil, rfl, fun _ hm => by simp at hm⟩
  | v :: vs, hp => by
    obtain ⟨fs, h1, h2, h3⟩ := firsts_at (vs := vs) fun v' hm => hp v' (List.mem_cons_of_mem _ hm)
    obtain ⟨x, ⟨i, r, rfl⟩, rx⟩ := hp v (List.mem_cons_self ..)
    simp only [Rds] at rx
    obtain ⟨a, its, rfl, ⟨o, ho, hc, n, hd⟩, r1⟩ := rx
    cases q : its.toList with
    | nil => rw [q] at r1; simp only [Rdss] at r1
    | cons f fr =>
      rw [q] at r1
      simp only [Rdss] at r1
      obtain ⟨t, e⟩ := (show ∃ t, f = Value.int i t from by simpa only [Rds] using r1.1)
      subst e
      have h0 : its[0]? = some (.int i t) := by rw [← Array.getElem?_toList, q]; rfl
      refine ⟨.int i t :: fs, PySem.W.KatTups.cons ho hc hd h0 h1, by rw [List.length_cons, List.length_cons, h2], fun f hm => ?_⟩
      rcases List.mem_cons.mp hm with rfl | hm
      · exact ⟨i, t, rfl⟩
      · exact h3 f hm
theorem tups_sortable {n : Nat} (hu : A.units + n < cLine) {a : Addr} {xs : List PV} {vs : List Value} (h0 : 0 < vs.length) (hr : ∀ v ∈ vs, ∃ x ∈ xs, Rds s.heap x v) (hf : ∀ x ∈ xs, Fst x) (ha : ∀ x ∈ xs, ∀ y ∈ xs, Al (n + 1) x y) (hna : ∀ o, s.heap.get? a = some o → o.cls ≠ .type "tuple")
    (g : Value → PV) (hg : ∀ v ∈ vs, ∀ x, Rds s.heap x v → g v = x) : SrtO.SortableO prog w A s a vs fun v u => ltV (g v) (g u) := by
  intro h' keep
  have kp : ∀ b o, s.heap.get? b = some o → o.cls = .type "tuple" → h'.get? b = some o := fun b o e c => keep b o (fun z => by subst z; exact hna o e c) e
  have hr' : ∀ v ∈ vs, ∃ x ∈ xs, Rds h' x v := fun v hm => by
    obtain ⟨x, hx, r⟩ := hr v hm
    exact ⟨x, hx, r.keeps kp _ _⟩
  obtain ⟨fs, h1, h2, h3⟩ := firsts_at (h := h') (vs := vs) fun v hm => by
    obtain ⟨x, hx, r⟩ := hr' v hm
    exact ⟨x, hf x hx, r⟩
  refine ⟨tuples' true, fun Q E hq => ?_, tups_cmp (s := { s with heap := h' }) hu hr' hf ha g fun v hm x r => ?_⟩
  · refine PySem.W.kat_kind (T := .type "int") h1 (by omega) (fun f hm => ?_) (by rfl) ?_
    · obtain ⟨x, t, rfl⟩ := h3 f hm
      exact PySem.W.Looks.now
    · have e : (Value.type "int" != Value.type "tuple") = true := by first | decide +kernel | rfl | decide
      rw [e]
      exact hq
  · obtain ⟨y, hy, ry⟩ := hr v hm
    have e := Rds.inj _ _ v r (ry.keeps kp _ _)
    rw [e]
    exact hg v hm y ry
end

/-! ### as a rule -/
section
variable {X : Cx} {pins : List (Addr × Obj)} {σ : L2.St} {H : Hp} {S : Sto} {s : Shared}
theorem rds_at (I : Inv X pins σ H s) : ∀ (n : Nat) (x : PV) (v : V) (u : Value), Al n x x → RepV X.K X.w H S x v → RelV v u → Rds s.heap x u
  | n, x, v, u, al, r, ru => by
    cases x with
    | int i =>
      simp only [RepV] at r
      subst r
      simp only [Rds]
      exact ru
    | tup xs =>
      cases n with
      | zero => exact al.elim
      | succ n =>
        simp only [RepV] at r
        obtain ⟨a, vs, rfl, h1, h2⟩ := r
        obtain ⟨its, rv, ht, _⟩ := I.tuple h1
        simp only [Rds]
        refine ⟨a, its.toArray, ru, ht, ?_⟩
        have al' : ∀ (j : Nat) (h1 : j < xs.length), Al n xs[j] xs[j] := fun j h1 => al j h1 h1
        have key : ∀ (xs : List PV) (vs : List V) (us : List Value), (∀ (j : Nat) (h1 : j < xs.length), Al n xs[j] xs[j]) → RepVs X.K X.w H S xs vs → Vals vs us → Rdss s.heap xs us := by
          intro xs
          induction xs with
          | nil =>
            intro vs us _ r rv
            cases r.nil_inv
            cases rv
            simp only [Rdss]
          | cons x xs ih =>
            intro vs us hal r rv
            obtain ⟨v, vs', rfl, r1, r2⟩ := r.cons_inv
            cases rv with
            | cons q1 q2 =>
              simp only [Rdss]
              exact ⟨rds_at I n x v _ (hal 0 (by simp)) r1 q1, ih _ _ (fun j h => hal (j + 1) (by simpa using h)) r2 q2⟩
        simpa using key xs vs its al' h2 rv
    | _ => cases n <;> exact al.elim
theorem rds_all (I : Inv X pins σ H s) : ∀ (xs : List PV) (vs : List V) (us : List Value), (∀ x ∈ xs, Al 20 x x ∧ Fst x) → RepVs X.K X.w H S xs vs → Vals vs us →
    us.map (gv s.heap) = xs ∧ ∀ u ∈ us, ∃ x ∈ xs, Rds s.heap x u ∧ RepV X.K X.w H S x (backV u) ∧ ∃ a, u = .ref a
  | [], vs, us, _, r, rv => by
    cases r.nil_inv
    cases rv
    exact ⟨rfl, fun u hu => by simp at hu⟩
  | x :: xs, vs, us, ha, r, rv => by
    obtain ⟨v, vs', rfl, r1, r2⟩ := r.cons_inv
    cases rv with
    | cons q1 q2 =>
      rename_i u us'
      obtain ⟨i1, i2⟩ := rds_all I xs _ _ (fun y hy => ha y (List.mem_cons_of_mem _ hy)) r2 q2
      obtain ⟨al, i, xr, rfl⟩ := ha x (List.mem_cons_self ..)
      have hr := rds_at (S := S) I 20 _ v u al r1 q1
      refine ⟨by rw [List.map_cons, gv_of hr, i1], fun z hz => ?_⟩
      rcases List.mem_cons.mp hz with rfl | hz
      · refine ⟨_, List.mem_cons_self .., hr, ?_, ?_⟩
        · simp only [RepV] at r1
          obtain ⟨a, ws, rfl, g1, g2⟩ := r1
          cases (show z = Value.ref a from q1)
          simp only [backV, RepV]
          exact ⟨a, ws, rfl, g1, g2⟩
        · simp only [RepV] at r1
          obtain ⟨a, ws, rfl, g1, g2⟩ := r1
          exact ⟨a, q1⟩
      · obtain ⟨y, hy, h⟩ := i2 z hz
        exact ⟨y, List.mem_cons_of_mem _ hy, h⟩
theorem cr_sorted_tups (hu : X.A.units + 64 < cLine) : CallR X (.builtin "sorted") (fun vs H Q => ∃ (x' : PV) (S : Sto) (Q' : Post) (xs : List PV) (m : Bool) (v : V), vs = [v] ∧ RepV X.K X.w H S x' v ∧ RepH X.K X.w H S ∧ dL S x' = some xs ∧ SortTup xs ∧
    (∀ ys, ys.Perm xs → ys.Pairwise (fun a b => ltV b a = false) → newL m ys S Q') ∧ kV X.K X.w S H Q' Q) := by
  intro pins s σ H vs us Q I r h
  obtain ⟨x', S, Q', xs, m, v, rfl, rx, hh, hd, ⟨hf, ha⟩, hq, k⟩ := h
  obtain ⟨a, ws, rfl, hs, rs⟩ := dL_rep hh rx hd
  obtain ⟨u, rfl, ru⟩ := vals1 r
  obtain rfl : u = Value.ref a := ru
  obtain ⟨its, rv, hl, hz⟩ := I.list hs
  obtain ⟨e1, e2⟩ := rds_all (S := S) I xs ws its (fun x hx => ⟨ha x hx x hx, hf x hx⟩) rs rv
  refine SrtO.sorted_ord (ltV_swo (gv s.heap)) hl.isList (by rw [← rv.length]; exact hz) (fun h2 h₁ b hb kk => ?_) fun out h1 h3 => ?_
  · have kp : ∀ c o, s.heap.get? c = some o → o.cls = .type "tuple" → h₁.get? c = some o := fun c o e _ => (kk c o e).2
    refine tups_sortable (n := 19) (s := { s with heap := h₁ }) (by show X.A.units + 1 + 1 + 19 < cLine; omega) (by omega) (fun v hv => ?_) hf ha (fun o e => ?_) (gv s.heap) fun v hv x r => ?_
    · obtain ⟨x, hx, r, _⟩ := e2 v hv
      exact ⟨x, hx, r.keeps kp _ _⟩
    · have e' : some o = some _ := e.symm.trans hb
      cases e'
      intro c
      exact absurd (Value.type.inj c) (by decide)
    · obtain ⟨y, hy, ry, _⟩ := e2 v hv
      rw [Rds.inj _ _ v r (ry.keeps kp _ _)]
      exact gv_of ry
  · obtain ⟨ep, he'⟩ := PyProof.Rows.sortedAll_at s.heap its out.toArray
    have hout : ∀ u ∈ out, ∃ x ∈ xs, Rds s.heap x u ∧ RepV X.K X.w H S x (backV u) ∧ ∃ a, u = .ref a := fun u hu => e2 u (h3.perm.mem_iff.mp hu)
    have hrep : ∀ l : List Value, (∀ u ∈ l, ∃ x ∈ xs, Rds s.heap x u ∧ RepV X.K X.w H S x (backV u) ∧ ∃ a, u = .ref a) → RepVs X.K X.w H S (l.map (gv s.heap)) (l.map backV) := by
      intro l
      induction l with
      | nil => intro _; exact .nil
      | cons u l ih =>
        intro h
        obtain ⟨x, _, r, rr, _⟩ := h u (List.mem_cons_self ..)
        refine .cons ?_ (ih fun y hy => h y (List.mem_cons_of_mem _ hy))
        rw [gv_of r]
        exact rr
    have hperm : (out.map (gv s.heap)).Perm xs := by
      rw [← e1]
      exact h3.perm.map _
    have hn : H (s.heap.objs.size + 1) = none := I.hok.fresh (Nat.le_succ _)
    have hlen : (out.map backV).length ≤ sizeLine := by
      rw [List.length_map, h3.perm.length_eq, ← rv.length]
      exact hz
    refine ⟨.ref (s.heap.objs.size + 1), upd H (s.heap.objs.size + 1) (.lst (out.map backV)), I.laid (t' := s.toks) (fun _ _ => PyProof.Rows.sortedAll_old) (Nat.le_succ _) ⟨hlen, out, ep, vals_back (fun u hu => by
      obtain ⟨_, _, _, _, h⟩ := hout u hu
      exact h), he'⟩, rfl, ?_⟩
    exact newL_ok hh (hrep out hout) k (hq _ hperm (SrtO.srtd_map h1)) _ hn
end
end DL
end
section
set_option maxRecDepth 100000
set_option maxHeartbeats 1000000
/-! Soundness of built-in functions, methods, stores, by values. -/
namespace DL
open PySem PySem.Spec L2
open PyProof.Rows hiding St

theorem intsP_ok : ∀ {xs : List PV} {ns : List Int}, intsP xs = some ns → xs = ns.map PV.int
  | [], ns, h => by
    simp only [intsP, Option.some.injEq] at h
    subst h
    rfl
  | x :: xs, ns, h => by
    cases x <;> simp only [intsP, reduceCtorEq] at h
    split at h
    · rename_i r q
      cases h
      rw [intsP_ok q]
      rfl
    · cases h
theorem intsP_map : ∀ (ns : List Int), intsP (ns.map PV.int) = some ns
  | [] => rfl
  | n :: ns => by
    simp only [List.map_cons, intsP]
    rw [intsP_map ns]
theorem blsP_ok : ∀ {xs : List PV} {ns : List Bool}, blsP xs = some ns → xs = ns.map PV.bl
  | [], ns, h => by
    simp only [blsP, Option.some.injEq] at h
    subst h
    rfl
  | x :: xs, ns, h => by
    cases x <;> simp only [blsP, reduceCtorEq] at h
    split at h
    · rename_i r q
      cases h
      rw [blsP_ok q]
      rfl
    · cases h
theorem blsP_map : ∀ (ns : List Bool), blsP (ns.map PV.bl) = some ns
  | [] => rfl
  | n :: ns => by
    simp only [List.map_cons, blsP]
    rw [blsP_map ns]
theorem maxI_spec : ∀ (ns : List Int) (n : Int), (maxI n ns ∈ n :: ns) ∧ ∀ y ∈ n :: ns, y ≤ maxI n ns
  | [], n => by
    refine ⟨by simp [maxI], fun y hy => ?_⟩
    simp only [List.mem_singleton] at hy
    subst hy
    exact Int.le_refl _
  | x :: ns, n => by
    obtain ⟨h1, h2⟩ := maxI_spec ns (if x > n then x else n)
    simp only [maxI]
    refine ⟨?_, fun y hy => ?_⟩
    · rcases List.mem_cons.mp h1 with e | e
      · rw [e]
        split
        · simp
        · simp
      · simp [e]
    · have hm := h2 (if x > n then x else n) (by simp)
      have h3 : n ≤ (if x > n then x else n) ∧ x ≤ (if x > n then x else n) := by
        by_cases q : x > n
        · rw [if_pos q]; omega
        · rw [if_neg q]; omega
      rcases List.mem_cons.mp hy with e | hy
      · rw [e]; omega
      · rcases List.mem_cons.mp hy with e | hy
        · rw [e]; omega
        · exact h2 y (by simp [hy])
theorem minI_spec : ∀ (ns : List Int) (n : Int), (minI n ns ∈ n :: ns) ∧ ∀ y ∈ n :: ns, minI n ns ≤ y
  | [], n => by
    refine ⟨by simp [minI], fun y hy => ?_⟩
    simp only [List.mem_singleton] at hy
    subst hy
    exact Int.le_refl _
  | x :: ns, n => by
    obtain ⟨h1, h2⟩ := minI_spec ns (if x < n then x else n)
    simp only [minI]
    refine ⟨?_, fun y hy => ?_⟩
    · rcases List.mem_cons.mp h1 with e | e
      · rw [e]
        split
        · simp
        · simp
      · simp [e]
    · have hm := h2 (if x < n then x else n) (by simp)
      have h3 : (if x < n then x else n) ≤ n ∧ (if x < n then x else n) ≤ x := by
        by_cases q : x < n
        · rw [if_pos q]; omega
        · rw [if_neg q]; omega
      rcases List.mem_cons.mp hy with e | hy
      · rw [e]; omega
      · rcases List.mem_cons.mp hy with e | hy
        · rw [e]; omega
        · exact h2 y (by simp [hy])
/-- the object that a built-in's name stands for -/
def biV : Bi → Value
  | .len => .builtin "len"
  | .tuple => .type "tuple"
  | .list => .type "list"
  | .all => .builtin "all"
  | .any => .builtin "any"
  | .sum => .builtin "sum"
  | .abs => .builtin "abs"
  | .max1 => .builtin "max"
  | .min1 => .builtin "min"
  | .max2 => .builtin "max"
  | .min2 => .builtin "min"
  | .int => .type "int"
  | .sorted => .builtin "sorted"
  | _ => .none
section
variable {X : Cx}
theorem sum_tup {A : Around} {E : Value → Shared → Prop} {pins : List (Addr × Obj)} {s : Shared} {σ : L2.St} {H : Hp} {a : Addr} {ns : List Int} {Q : Value → Shared → Prop} (hh : A.handled = none) (I : Inv X pins σ H s) (ha : SqT X.K H a (ns.map V.int))
    (h : ∀ h' tk t', (∀ b o, s.heap.get? b = some o → h'.get? b = some o) → Q (.int ns.sum t') { s with heap := h', toks := tk }) : wpAny (model X.prog X.w) A (call (.builtin "sum") [.ref a]) Q E s := by
  obtain ⟨its, r, ht, _⟩ := I.tuple ha
  obtain ⟨xs, e⟩ := r.ints.allInts.items
  have hn : numsOf (intItems xs).toList = ns := by rw [← e]; exact r.ints.numsOf
  rw [nums_intItems] at hn
  have ht' : s.heap.IsTuple a its.toArray := ht
  rw [e] at ht'
  refine PySem.W.ktm_sumG hh ht' fun h' tk t' hk => ?_
  have := h h' tk t' hk
  rw [preSum_eq, List.take_of_length_le (by simp), hn]
  exact this
theorem bi_ok (hc : X.calm = true) (hu : X.A.units + 64 < cLine) (b : Bi) (m : Bool) : CallR X (biV b) (rUpN X.K X.w (biD b m)) := by
  intro pins s σ H xs us Q I r h
  obtain ⟨xs', S, Q', hx, hh, hf, k⟩ := h
  have fin : ∀ {i : Int}, Q' (.int i) S → Q (.int i) H := fun {i} q => k _ _ (.int i) S (by simp only [RepV]) hh Ext.refl q
  have finB : ∀ {i : Bool}, Q' (.bl i) S → Q (.bl i) H := fun {i} q => k _ _ (.bl i) S (by simp only [RepV]) hh Ext.refl q
  unfold biD at hf
  split at hf
  · -- len of a text
    obtain ⟨v, _, rfl, r1, r2⟩ := hx.cons_inv
    cases r2.nil_inv
    simp only [RepV] at r1
    subst r1
    exact call_len pins s σ H _ us Q I r ⟨_, _, rfl, ⟨hf.1, rfl⟩, fin hf.2⟩
  · -- len
    obtain ⟨v, _, rfl, r1, r2⟩ := hx.cons_inv
    cases r2.nil_inv
    split at hf
    · rename_i ys q
      obtain ⟨a, vs, rfl, hl, rs⟩ := dQ_rep hh r1 q
      exact call_len_seq pins s σ H _ us Q I r ⟨a, vs, rfl, hl, by rw [← rs.length]; exact fin hf⟩
    · split at hf
      · rename_i ks vs q
        obtain ⟨u, rfl, ru⟩ := vals1 r
        exact dct_len (A := X.A) I hh r1 ru q hf.1 fun t s' I' => ⟨.int _, H, I', ⟨t, rfl⟩, fin hf.2⟩
      · exact hf.elim
  · -- tuple
    obtain ⟨v, _, rfl, r1, r2⟩ := hx.cons_inv
    cases r2.nil_inv
    split at hf
    · rename_i ys q
      obtain ⟨a, vs, rfl, hl, rs⟩ := dQ_rep hh r1 q
      refine call_tuple_of pins s σ H _ us Q I r ⟨a, vs, rfl, ?_⟩
      rcases hl with hl | hl
      · exact .inl ⟨hl, new_tup hh rs k hf⟩
      · exact .inr ⟨hl, k _ _ _ S (RepV.tup_of hl rs) hh Ext.refl hf⟩
    · exact hf.elim
  · -- list
    obtain ⟨v, _, rfl, r1, r2⟩ := hx.cons_inv
    cases r2.nil_inv
    split at hf
    · rename_i ys q
      obtain ⟨a, vs, rfl, hl, rs⟩ := dQ_rep hh r1 q
      exact call_list_of pins s σ H _ us Q I r ⟨a, vs, rfl, hl, newL_ok hh rs k hf⟩
    · split at hf
      · rename_i ks vs q
        obtain ⟨u, rfl, ru⟩ := vals1 r
        exact dct_list (A := X.A) (I.ok.hd hc) I hh r1 ru q hf.1 fun kvs s' rs hn I' => ⟨.ref _, _, I', rfl, newL_ok hh rs k hf.2 _ hn⟩
      · exact hf.elim
  · -- all
    obtain ⟨v, _, rfl, r1, r2⟩ := hx.cons_inv
    cases r2.nil_inv
    split at hf
    · rename_i ys q
      obtain ⟨a, vs, rfl, hl, rs⟩ := dL_rep hh r1 q
      split at hf
      · rename_i bs q2
        cases blsP_ok q2
        cases rs.bls
        exact cr_all hc pins s σ H _ us Q I r ⟨a, bs, rfl, hl, finB hf⟩
      · exact hf.elim
    · exact hf.elim
  · -- any
    obtain ⟨v, _, rfl, r1, r2⟩ := hx.cons_inv
    cases r2.nil_inv
    split at hf
    · rename_i ys q
      obtain ⟨a, vs, rfl, hl, rs⟩ := dL_rep hh r1 q
      split at hf
      · rename_i bs q2
        cases blsP_ok q2
        cases rs.bls
        exact cr_any hc pins s σ H _ us Q I r ⟨a, bs, rfl, hl, finB hf⟩
      · exact hf.elim
    · exact hf.elim
  · -- sum
    obtain ⟨v, _, rfl, r1, r2⟩ := hx.cons_inv
    cases r2.nil_inv
    split at hf
    · rename_i ys q
      obtain ⟨a, vs, rfl, hl, rs⟩ := dL_rep hh r1 q
      split at hf
      · rename_i bs q2
        cases intsP_ok q2
        cases rs.ints
        exact cr_sum hc pins s σ H _ us Q I r ⟨a, bs, rfl, hl, fin hf⟩
      · exact hf.elim
    · split at hf
      · rename_i ys
        split at hf
        · rename_i bs q2
          cases intsP_ok q2
          simp only [RepV] at r1
          obtain ⟨a, vs, rfl, h1, h2⟩ := r1
          cases h2.ints
          obtain ⟨u, rfl, ru⟩ := vals1 r
          cases ru
          exact sum_tup (I.ok.hd hc) I h1 fun h' tk t' hk => ⟨.int _, H, I.kept hk, ⟨_, rfl⟩, fin hf⟩
        · exact hf.elim
      · exact hf.elim
  · -- max
    obtain ⟨v, _, rfl, r1, r2⟩ := hx.cons_inv
    cases r2.nil_inv
    split at hf
    · rename_i ys q
      obtain ⟨a, vs, rfl, hl, rs⟩ := dL_rep hh r1 q
      split at hf
      · rename_i n ns q2
        cases intsP_ok q2
        cases rs.ints
        refine cr_max hc pins s σ H _ us Q I r ⟨a, n :: ns, rfl, hl, by simp, fun m h1 h2 => ?_⟩
        obtain ⟨g1, g2⟩ := maxI_spec ns n
        have e : m = maxI n ns := Int.le_antisymm (g2 m h1) (h2 _ g1)
        rw [e]
        exact fin hf
      · exact hf.elim
    · exact hf.elim
  · -- min
    obtain ⟨v, _, rfl, r1, r2⟩ := hx.cons_inv
    cases r2.nil_inv
    split at hf
    · rename_i ys q
      obtain ⟨a, vs, rfl, hl, rs⟩ := dL_rep hh r1 q
      split at hf
      · rename_i n ns q2
        cases intsP_ok q2
        cases rs.ints
        refine cr_min hc pins s σ H _ us Q I r ⟨a, n :: ns, rfl, hl, by simp, fun m h1 h2 => ?_⟩
        obtain ⟨g1, g2⟩ := minI_spec ns n
        have e : m = minI n ns := Int.le_antisymm (h2 _ g1) (g2 m h1)
        rw [e]
        exact fin hf
      · exact hf.elim
    · exact hf.elim
  · -- abs
    obtain ⟨v, _, rfl, r1, r2⟩ := hx.cons_inv
    cases r2.nil_inv
    simp only [RepV] at r1
    subst r1
    exact call_abs pins s σ H _ us Q I r ⟨_, rfl, fin hf⟩
  · -- max2
    obtain ⟨v, _, rfl, r1, r2⟩ := hx.cons_inv
    obtain ⟨v2, _, rfl, r3, r4⟩ := r2.cons_inv
    cases r4.nil_inv
    simp only [RepV] at r1 r3
    subst r1 r3
    exact call_max2 hc pins s σ H _ us Q I r ⟨_, _, rfl, fin hf⟩
  · obtain ⟨v, _, rfl, r1, r2⟩ := hx.cons_inv
    obtain ⟨v2, _, rfl, r3, r4⟩ := r2.cons_inv
    cases r4.nil_inv
    simp only [RepV] at r1 r3
    subst r1 r3
    exact call_min2 hc pins s σ H _ us Q I r ⟨_, _, rfl, fin hf⟩
  · -- sorted
    obtain ⟨v, _, rfl, r1, r2⟩ := hx.cons_inv
    cases r2.nil_inv
    split at hf
    · rename_i ys q
      rcases hf.1 with ht | ⟨ns, rfl, hn⟩
      · exact cr_sorted_tups hu pins s σ H _ us Q I r ⟨_, S, Q', ys, m, v, rfl, r1, hh, q, ht, hf.2, k⟩
      · obtain ⟨a, vs, rfl, hl, rs⟩ := dL_rep hh r1 q
        cases rs.ints
        refine cr_sorted pins s σ H _ us Q I r ⟨a, ns, rfl, hl, hn, fun ns' p h1 h2 hp => newL_ok hh (RepVs.of_ints (ns := ns')) k (hf.2 (ns'.map .int) (h1.map _) ?_) p hp⟩
        rw [List.pairwise_map]
        refine h2.imp fun {a b} hab => ?_
        unfold ltV
        simp only [cV]
        rw [if_neg (by omega)]
        split <;> rfl
    · exact hf.elim
  · obtain ⟨v, _, rfl, r1, r2⟩ := hx.cons_inv
    cases r2.nil_inv
    simp only [RepV] at r1
    subst r1
    exact call_int1 pins s σ H _ us Q I r (.inl ⟨_, rfl, fin hf⟩)
  · obtain ⟨v, _, rfl, r1, r2⟩ := hx.cons_inv
    cases r2.nil_inv
    simp only [RepV] at r1
    subst r1
    exact call_int1 pins s σ H _ us Q I r (.inr ⟨_, rfl, fin hf⟩)
  · exact hf.elim

/-! ### methods -/
/-- the method's own name -/
def meI : Me → String
  | .append => "list.append"
  | .extend => "list.extend"
  | .pop => "list.pop"
  | .insert => "list.insert"
  | .clear => "list.clear"
  | .reverse => "list.reverse"
  | .popat => "list.pop"
  | .get => "dict.get"
  | .setdefault => "dict.setdefault"
  | .index => "list.index"
  | _ => ""
def rUpM (K : PySem.W.Frag) (w : World) (f : PV → List PV → Sto → Post → Prop) : V → List V → Hp → VK → Prop := fun x xs H Q => ∃ x' xs' S Q', RepV K w H S x' x ∧ RepVs K w H S xs' xs ∧ RepH K w H S ∧ f x' xs' S Q' ∧ kV K w S H Q' Q
theorem put_ok {K : PySem.W.Frag} {w : World} {H : Hp} {S : Sto} {Q' : Post} {Q : VK} {a : Addr} {xs ys : List PV} {us : List V} {v' : PV} {v : V} (hh : RepH K w H S) (k : kV K w S H Q' Q) (e : S a = some (.lst xs)) (r : RepVs K w H S ys us) (rv : RepV K w H S v' v)
    (q : Q' v' (upS S a (.lst ys))) : Q v (upd H a (.lst us)) := by
  have ex : Ext K S H (upS S a (.lst ys)) (upd H a (.lst us)) := Ext.put hh e
  exact k _ _ v' _ (RepV.mono ex v' v rv) (hh.put (m' := .lst ys) e ⟨us, upd_same, RepVs.mono ex ys us r⟩) ex q
theorem RepVs.dropLast {K : PySem.W.Frag} {w : World} {H : Hp} {S : Sto} {xs : List PV} {vs : List V} (r : RepVs K w H S xs vs) : RepVs K w H S xs.dropLast vs.dropLast := by
  rw [List.dropLast_eq_take, List.dropLast_eq_take, r.length]
  exact r.take _
/-- a list to which another list of any kind is put -/
theorem RepVs.rev {K : PySem.W.Frag} {w : World} {H : Hp} {S : Sto} : ∀ {xs : List PV} {vs : List V}, RepVs K w H S xs vs → RepVs K w H S xs.reverse vs.reverse
  | [], vs, h => by rw [h.nil_inv]; exact .nil
  | x :: xs, vs, h => by
    obtain ⟨v, us, rfl, h1, h2⟩ := h.cons_inv
    rw [List.reverse_cons, List.reverse_cons]
    exact h2.rev.snoc h1
theorem RepVs.erase {K : PySem.W.Frag} {w : World} {H : Hp} {S : Sto} : ∀ {xs : List PV} {vs : List V} (i : Nat), RepVs K w H S xs vs → RepVs K w H S (xs.eraseIdx i) (vs.eraseIdx i)
  | [], vs, _, h => by rw [h.nil_inv]; exact .nil
  | x :: xs, vs, 0, h => by
    obtain ⟨v, us, rfl, h1, h2⟩ := h.cons_inv
    exact h2
  | x :: xs, vs, i + 1, h => by
    obtain ⟨v, us, rfl, h1, h2⟩ := h.cons_inv
    exact .cons h1 (h2.erase i)
theorem list_extendA (l : Addr) (items : Array Value) (n : Nat) (b : Addr) (items2 : Array Value) (n2 : Nat) (dd2 : Option Addr) (sl2 : Array (Option Value)) (hc0 : ¬(!items.isEmpty && Builtin.List.listTooLong (items.size + items2.size)) = true) (hc1 : items.size ≤ sizeLine) (hs2 : items.size + items2.size ≤ sizeLine + 1) :
    Meets (Builtin.«list.extend» ⟨[.ref l, .ref b], []⟩) (fun _ R s => s.heap.get? l = some { cls := .type "list", dict := none, data := .seq items n, slots := #[] } ∧ s.heap.get? b = some { cls := .type "list", dict := dd2, data := .seq items2 n2, slots := sl2 } ∧ R (.ok (.ret Value.none)) { s with heap := s.heap.update l (Obj.mapSeq fun x => x ++ items2), toks := s.toks }) :=
  .of_wp fun prog w A R s h => by
    obtain ⟨hp, g, d, tk, os⟩ := s; obtain ⟨hl, hb, h⟩ := h; have f1 := AutoSeq1.idx_int; have f2 := AutoSeq1.sub_tuple_tuple; have f3 := AutoSeq1.sub_list_list; have f4 := AutoSeq1.sub_tuple_list; have f5 := AutoSeq1.sub_list_tuple;
    have hz' : (items ++ items2).size ≤ sizeLine + 1 := by rw [Array.size_append]; exact hs2
    wp_walk using (wpAny_updateSeq hl rfl (hz := hc1) (_hz' := hz')), wpAny_loadPart' hl, wpAny_loadPart' hb; exact ⟨_, rfl, h⟩
theorem me_ok (hu : X.A.units + 64 < cLine) (c : Me) (m : Bool) : MtR X (meI c) (rUpM X.K X.w (meD c m)) := by
  intro pins s σ H x xs v us Q I rx rxs h
  obtain ⟨x', xs', S, Q', hx, hxs, hh, hf, k⟩ := h
  unfold meD at hf
  split at hf
  · -- append
    split at hf
    · simp only [RepV] at hx
      subst hx
      split at hf
      · rename_i ys q
        obtain ⟨y, _, rfl, r1, r2⟩ := hxs.cons_inv
        cases r2.nil_inv
        obtain ⟨vs, h1, h2⟩ := hh _ _ q
        exact mt_append pins s σ H _ _ v us Q I rx rxs ⟨_, vs, y, rfl, rfl, h1, by rw [← h2.length]; exact hf.1, put_ok hh k q (h2.snoc r1) (by simp only [RepV]) hf.2⟩
      · exact hf.elim
    · exact hf.elim
  · -- extend
    split at hf
    · simp only [RepV] at hx
      subst hx
      split at hf
      · rename_i ys zs q q2
        obtain ⟨y, _, rfl, r1, r2⟩ := hxs.cons_inv
        cases r2.nil_inv
        obtain ⟨vs, h1, h2⟩ := hh _ _ q
        obtain ⟨b, ws, rfl, hb, rb⟩ := dL_rep hh r1 q2
        cases rx
        obtain ⟨u2, rfl, ru⟩ := rxs.one
        cases ru
        obtain ⟨z, its, n, r, hl, e⟩ := I.lstM h1
        obtain ⟨its2, rv2, ⟨⟨cls2, dd2, data2, sl2⟩, n2, e2, hc2, hdn2, hd2⟩, hz2⟩ := I.list hb
        simp only at hc2 hd2
        subst hc2 hd2
        have hl2 := rv2.length
        have l1 := h2.length
        have l2 := rb.length
        have hg := hf.1
        have hsz : its.toArray.size + its2.toArray.size ≤ sizeLine := by rw [List.size_toArray, List.size_toArray]; omega
        have hlong : ¬ (!its.toArray.isEmpty && Builtin.List.listTooLong (its.toArray.size + its2.toArray.size)) = true := by
          rw [notLongL hsz, Bool.and_false]
          exact Bool.false_ne_true
        refine call_meets F.slot_list_extend ⟨_, e, rfl⟩ F.entry_list_extend (F.args_list_extend_2 _ _)
          (list_extendA _ its.toArray n b its2.toArray n2 dd2 sl2 hlong (by rw [List.size_toArray]; omega) (by omega)) ⟨e, e2, ?_⟩
        refine ⟨.non, _, I.lset (its' := its ++ its2) h1 e (by simp) (r.append rv2) ?_, rfl, put_ok hh k q (h2.append rb) (by simp only [RepV]) hf.2⟩
        rw [List.length_append]
        omega
      · exact hf.elim
    · exact hf.elim
  · -- pop
    split at hf
    · simp only [RepV] at hx
      subst hx
      split at hf
      · rename_i ys q
        cases hxs.nil_inv
        obtain ⟨vs, h1, h2⟩ := hh _ _ q
        split at hf
        · rename_i z q2
          have q3 : ys[ys.length - 1]? = some z := by rw [← List.getLast?_eq_getElem?]; exact q2
          obtain ⟨zv, q4, rz⟩ := h2.get q3
          exact mt_pop pins s σ H _ _ v us Q I rx rxs ⟨_, vs, zv, rfl, rfl, h1, by rw [← h2.length]; exact q4, put_ok hh k q h2.dropLast rz hf⟩
        · exact hf.elim
      · exact hf.elim
    · exact hf.elim
  · -- insert
    split at hf
    · simp only [RepV] at hx
      subst hx
      split at hf
      · rename_i ys q
        obtain ⟨y, _, rfl, r1, r2⟩ := hxs.cons_inv
        obtain ⟨y2, _, rfl, r3, r4⟩ := r2.cons_inv
        cases r4.nil_inv
        simp only [RepV] at r1
        subst r1
        obtain ⟨vs, h1, h2⟩ := hh _ _ q
        obtain ⟨g1, g2, g3, g4⟩ := hf
        exact mt_insert pins s σ H _ _ v us Q I rx rxs ⟨_, vs, _, y2, rfl, rfl, h1, by rw [← h2.length]; exact g1, g2, g3, put_ok hh k q (((h2.take _).snoc r3).append (h2.drop _)) (by simp only [RepV]) g4⟩
      · exact hf.elim
    · exact hf.elim
  · -- clear
    split at hf
    · simp only [RepV] at hx
      subst hx
      split at hf
      · rename_i ys q
        cases hxs.nil_inv
        obtain ⟨vs, h1, h2⟩ := hh _ _ q
        exact mt_clear pins s σ H _ _ v us Q I rx rxs ⟨_, vs, rfl, rfl, h1, put_ok hh k q .nil (by simp only [RepV]) hf⟩
      · exact hf.elim
    · exact hf.elim
  · -- reverse
    split at hf
    · simp only [RepV] at hx
      subst hx
      split at hf
      · rename_i ys q
        cases hxs.nil_inv
        obtain ⟨vs, h1, h2⟩ := hh _ _ q
        exact mt_reverse pins s σ H _ _ v us Q I rx rxs ⟨_, vs, rfl, rfl, h1, put_ok hh k q h2.rev (by simp only [RepV]) hf⟩
      · exact hf.elim
    · exact hf.elim
  · -- pop(i)
    split at hf
    · simp only [RepV] at hx
      subst hx
      split at hf
      · rename_i ys q
        obtain ⟨y, _, rfl, r1, r2⟩ := hxs.cons_inv
        cases r2.nil_inv
        simp only [RepV] at r1
        subst r1
        obtain ⟨vs, h1, h2⟩ := hh _ _ q
        split at hf
        · rename_i j qj
          split at hf
          · rename_i z q3
            obtain ⟨zv, q4, rz⟩ := h2.get q3
            obtain ⟨g1, g2, g3⟩ := hf
            exact mt_popAt pins s σ H _ _ v us Q I rx rxs ⟨_, vs, _, j, zv, rfl, rfl, h1, g1, g2, by rw [← h2.length]; exact (L2.ixN_seq qj).1, q4, put_ok hh k q (h2.erase j) rz g3⟩
          · exact hf.elim
        · exact hf.elim
      · exact hf.elim
    · exact hf.elim
  · -- get
    obtain ⟨y, _, rfl, r1, r2⟩ := hxs.cons_inv
    cases r2.nil_inv
    obtain ⟨u, rfl, ru⟩ := rxs.one
    exact dct_get1 (A := X.A) hu I hh hx r1 ru rx hf fun z zv w' s' hq g1 g2 I' => ⟨zv, H, I', g2, k _ _ z S g1 hh Ext.refl hq⟩
  · obtain ⟨y, _, rfl, r1, r2⟩ := hxs.cons_inv
    obtain ⟨y2, _, rfl, r3, r4⟩ := r2.cons_inv
    cases r4.nil_inv
    obtain ⟨u, u2, rfl, ru, ru2⟩ := rxs.two
    exact dct_get2 (A := X.A) hu I hh hx r1 ru rx r3 ru2 hf fun z zv w' s' hq g1 g2 I' => ⟨zv, H, I', g2, k _ _ z S g1 hh Ext.refl hq⟩
  · -- setdefault
    split at hf
    · simp only [RepV] at hx
      subst hx
      split at hf
      · rename_i ks vs q
        obtain ⟨y, _, rfl, r1, r2⟩ := hxs.cons_inv
        obtain ⟨y2, _, rfl, r3, r4⟩ := r2.cons_inv
        cases r4.nil_inv
        obtain ⟨u, u2, rfl, ru, ru2⟩ := rxs.two
        cases rx
        exact dct_setdefault (A := X.A) hu I hh q hf.1 hf.2.1 r1 ru r3 ru2 hf.2.2 (fun z zv w' s' hq g1 g2 I' => ⟨zv, H, I', g2, k _ _ z S g1 hh Ext.refl hq⟩) fun S' H' s' hq hh' ex I' => ⟨y2, H', I', ru2, k _ _ _ S' (RepV.mono ex _ _ r3) hh' ex hq⟩
      · exact hf.elim
    · exact hf.elim
  · -- index
    split at hf
    · rename_i ys q
      split at hf
      · rename_i ns q2
        cases intsP_ok q2
        obtain ⟨y, _, rfl, r1, r2⟩ := hxs.cons_inv
        cases r2.nil_inv
        simp only [RepV] at r1
        subst r1
        obtain ⟨b, ws, rfl, hb, rb⟩ := dL_rep hh hx q
        obtain ⟨j, g1, g2, g3⟩ := hf
        have hw : ws = ns.map V.int := rb.ints
        subst hw
        refine mt_index pins s σ H _ _ v us Q I rx rxs ⟨b, ns.map V.int, .int _, j, .int _, rfl, rfl, hb, rfl, ?_, by rw [List.getElem?_map, g1]; rfl, by simp [eqV], fun m z' hm hz => ?_, k _ _ _ S (by simp only [RepV]) hh Ext.refl g3⟩
        · rw [List.all_map, List.all_eq_true]
          intro x _
          rfl
        · rw [List.getElem?_map] at hz
          obtain ⟨n, hn, rfl⟩ := Option.map_eq_some_iff.mp hz
          have := g2 m hm
          rw [hn] at this
          simp only [eqV]
          simpa using this
      · exact hf.elim
    · exact hf.elim
  · exact hf.elim
/-- o[i] = v -/
def rUpSet (K : PySem.W.Frag) (w : World) : TSet := fun o i v H Q => ∃ o' i' v' S Q', RepV K w H S o' o ∧ RepV K w H S i' i ∧ RepV K w H S v' v ∧ RepH K w H S ∧ setID o' i' v' S Q' ∧ ∀ H' S', RepH K w H' S' → Ext K S H S' H' → Q' S' → Q H'
theorem set_ok (hu : X.A.units + 64 < cLine) : PSet X (rUpSet X.K X.w) := by
  intro pins s σ H o i v ov iv u Q I ro ri rv h
  obtain ⟨o', i', v', S, Q', ho, hi, hv, hh, hf, k⟩ := h
  unfold setID at hf
  split at hf
  · simp only [RepV] at ho
    subst ho
    split at hf
    · rename_i xs q
      split at hf
      · simp only [RepV] at hi
        subst hi
        split at hf
        · rename_i j q2
          obtain ⟨vs, h1, h2⟩ := hh _ _ q
          refine set_list pins s σ H _ _ v ov iv u Q I ro ri rv ⟨_, vs, _, j, rfl, rfl, h1, by rw [← h2.length]; exact q2, ?_⟩
          have ex : Ext X.K S H (upS S _ (.lst (xs.set j v'))) (upd H _ (.lst (vs.set j v))) := Ext.put hh q
          exact k _ _ (hh.put (m' := .lst (xs.set j v')) q ⟨_, upd_same, RepVs.mono ex _ _ (h2.set j hv)⟩) ex hf
        · exact hf.elim
      · exact hf.elim
    · rename_i ks vs q
      cases ro
      exact dct_set (A := X.A) hu I hh q hi ri hv rv hf fun S' H' s' hq hh' ex I' => ⟨H', I', k H' S' hh' ex hq⟩
    · exact hf.elim
  · exact hf.elim
/-- truth -/
theorem tru_rep {K : PySem.W.Frag} {w : World} {H : Hp} {S : Sto} {x : PV} {v : V} {Q : Bool → Prop} (hh : RepH K w H S) (r : RepV K w H S x v) (h : truD x S Q) : ∃ k, TruV K v H k ∧ Q k := by
  unfold truD at h
  split at h
  · simp only [RepV] at r; subst r; exact ⟨false, rfl, h⟩
  · simp only [RepV] at r; subst r; exact ⟨_, rfl, h⟩
  · simp only [RepV] at r; subst r; exact ⟨_, rfl, h⟩
  · rename_i xs
    simp only [RepV] at r
    obtain ⟨a, vs, rfl, h1, h2⟩ := r
    refine ⟨_, .inr (.inl ⟨vs, h1, rfl⟩), ?_⟩
    have : vs.isEmpty = xs.isEmpty := by
      cases xs with
      | nil => rw [h2.nil_inv]; rfl
      | cons _ _ => obtain ⟨_, _, rfl, _⟩ := h2.cons_inv; rfl
    rw [this]
    exact h
  · split at h
    · rename_i xs q
      obtain ⟨a, vs, rfl, h1, h2⟩ := dL_rep hh r q
      refine ⟨_, .inl ⟨vs, h1, rfl⟩, ?_⟩
      have : vs.isEmpty = xs.isEmpty := by
        cases xs with
        | nil => rw [h2.nil_inv]; rfl
        | cons _ _ => obtain ⟨_, _, rfl, _⟩ := h2.cons_inv; rfl
      rw [this]
      exact h
    · exact h.elim
end
end DL
end
section
set_option maxRecDepth 100000
set_option maxHeartbeats 1000000
/-! What is walked: lists and tuples in any mix. -/
namespace DL
open PySem PySem.Spec L2
open PyProof.Rows hiding St

/-- a list or a tuple, by a flag -/
def SqQ (t : Bool) (K : PySem.W.Frag) (H : Hp) (a : Addr) (xs : List V) : Prop := match t with
  | true => SqT K H a xs
  | false => SqL K H a xs
def ItQ (t : Bool) (h : Heap) (it a : Addr) (i : Nat) : Prop := match t with
  | true => h.IsTupleIter it a i
  | false => h.IsListIter it a i
def HpQ (t : Bool) (h : Heap) (a : Addr) (its : Array Value) : Prop := match t with
  | true => h.IsTuple a its
  | false => h.IsList a its
theorem ItQ.live {t : Bool} {h : Heap} {it a : Addr} {i : Nat} (x : ItQ t h it a i) : ∃ o, h.get? it = some o ∧ ∀ v, o.data ≠ .cell v := by
  cases t with
  | true => obtain ⟨o, e, c, d⟩ := x; exact ⟨o, e, fun v z => by rw [d] at z; cases z⟩
  | false => obtain ⟨o, e, c, d⟩ := x; exact ⟨o, e, fun v z => by rw [d] at z; cases z⟩
theorem ItQ.at {t : Bool} {h h' : Heap} {it a : Addr} {i : Nat} (x : ItQ t h it a i) (k : ∀ o, h.get? it = some o → h'.get? it = some o) : ItQ t h' it a i := by
  cases t with
  | true => exact Heap.IsTupleIter.at x k
  | false => exact Heap.IsListIter.at x k
theorem drawsQ {prog : Program} {w : World} {A : Around} (hh : A.handled = none) (t : Bool) (it a : Addr) (hne : a ≠ it) (items : Array Value) :
    Draws prog w A it [it, a] items.size (fun i v => items[i]? = some v) (fun i h => ItQ t h it a i ∧ HpQ t h a items) := by
  cases t with
  | true => exact Draws.tuple hh it a hne items
  | false => exact Draws.list hh it a hne items
section
variable {X : Cx} {pins : List (Addr × Obj)} {σ : L2.St} {H : Hp} {s : Shared}
theorem seqQ (I : Inv X pins σ H s) {t : Bool} {a : Addr} {xs : List V} (h : SqQ t X.K H a xs) : ∃ its : List Value, Vals xs its ∧ HpQ t s.heap a its.toArray ∧ xs.length ≤ sizeLine := by
  cases t with
  | true => obtain ⟨its, r, p, z⟩ := I.tuple h; exact ⟨its, r, p, z⟩
  | false => obtain ⟨its, r, p, z⟩ := I.list h; exact ⟨its, r, p.isList, z⟩
theorem seqQ_inj (I : Inv X pins σ H s) {t : Bool} {a : Addr} {xs ys : List V} (h : SqQ t X.K H a xs) (h' : SqQ t X.K H a ys) : xs = ys := by
  cases t with
  | true => exact I.tuple_inj h h'
  | false => exact I.list_inj h h'
end
/-- the sequence at a, as it stands at each turn -/
def Itq (t : Bool) (K : PySem.W.Frag) (a : Addr) : It :=
  ⟨fun i H => ∃ xs x, SqQ t K H a xs ∧ xs[i]? = some x, fun i H x H' => H' = H ∧ ∀ xs, SqQ t K H a xs → xs[i]? = some x, fun i H => ∃ xs, SqQ t K H a xs ∧ xs.length ≤ i⟩
/-- new pairs (i, item) -/
def Iteq (t : Bool) (K : PySem.W.Frag) (a : Addr) : It :=
  ⟨fun i H => ∃ (xs : List V) (x : V), SqQ t K H a xs ∧ xs[i]? = some x, fun i H v H' => ∃ T x, v = .ref T ∧ H T = none ∧ H' = upd H T (.tup [.int (i : Nat), x]) ∧ ∀ xs, SqQ t K H a xs → xs[i]? = some x, fun i H => ∃ xs : List V, SqQ t K H a xs ∧ xs.length = i⟩
/-- new pairs of items -/
def Itzq (t t2 : Bool) (K : PySem.W.Frag) (a b : Addr) : It :=
  ⟨fun i H => ∃ (xs ys : List V) (x y : V), SqQ t K H a xs ∧ SqQ t2 K H b ys ∧ xs[i]? = some x ∧ ys[i]? = some y,
    fun i H v H' => ∃ T x y, v = .ref T ∧ H T = none ∧ H' = upd H T (.tup [x, y]) ∧ (∀ xs, SqQ t K H a xs → xs[i]? = some x) ∧ ∀ ys, SqQ t2 K H b ys → ys[i]? = some y,
    fun i H => ∃ xs ys : List V, SqQ t K H a xs ∧ SqQ t2 K H b ys ∧ min xs.length ys.length = i⟩

/-- a Turn from WalksT, for iterators that give new tuples -/
theorem turn_ofT {P : Program} {w : World} {K : PySem.W.Frag} {elts : List Expr} {kk : Nat} {tpos : Pos} {J : It} {it : Addr} {fp wr : List Addr} {tn : Nat → Heap → Prop}
    (mem : it ∈ fp) (hw : ∀ b ∈ wr, b ∈ fp)
    (obj : ∀ i h, tn i h → ∀ b ∈ fp, ∃ o, h.get? b = some o ∧ ∀ v, o.data ≠ .cell v)
    (keep : ∀ i h h', tn i h → (∀ b ∈ fp, ∀ o, h.get? b = some o → h'.get? b = some o) → tn i h')
    (walk : ∀ (X : Cx), X.prog = P → X.w = w → X.K = K → X.A.handled = none → ∀ (i : Nat) (pins : List (Addr × Obj)) (s : Shared) (σ : L2.St) (H : Hp), Inv X pins σ H s → tn i s.heap → (J.go i H ∨ J.stop i H) →
      ∃ fpw n Pt St Mid, WalksT P w X.A it fpw wr n Pt St Mid ∧ (J.go i H → i < n) ∧ (J.stop i H → i = n) ∧ St i s.heap ∧ (∀ h, St (i + 1) h → tn (i + 1) h) ∧
        (J.go i H → ∀ vals, Pt i vals → ∃ vs, vs.length ≤ sizeLine ∧ Vals vs vals.toList ∧ ∀ T, H T = none → J.yld i H (.ref T) (upd H T (.tup vs))))
    (self : ∀ (A : Around) (i : Nat) (s : Shared) (Q : Value → Shared → Prop) (E : Value → Shared → Prop), tn i s.heap → Q (.ref it) s → wpAny (model P w) A (pyIter (.ref it)) Q E s) :
    Turn P w K (.Tuple elts kk tpos) J fp it tn where
  mem := mem
  obj := obj
  keep := keep
  item := by
    intro X hP hw' hK hc i pins s σ H E I hf st hg
    obtain ⟨fpw, n, Pt, St, Mid, W, hi, _, hst, hnext, hy⟩ := walk X hP hw' hK (I.ok.hd hc) i pins s σ H I st (.inl hg)
    subst hP hw' hK
    refine W.item i s _ _ (hi hg) hst fun T vals h' tk hPt hT isT mid kp => ?_
    obtain ⟨vs, hz, rv, hyld⟩ := hy hg vals hPt
    refine ⟨.ref T, rfl, W.go elts kk tpos i T { s with heap := h', toks := tk } _ _ mid fun h'' st' kp' => ?_⟩
    have hn : H T = none := I.hok.fresh hT
    have hTw : T ∉ wr := W.apart i T h' mid
    obtain ⟨o, e1, e2, m, e3⟩ := isT
    have e1' : h''.get? T = some o := kp' T o hTw e1
    have new : ObjOk X.prog X.w (upd H T (.tup vs)) h'' T (.tup vs) := by
      refine ⟨hz, vals.toList, rv, o, e1', e2, m, ?_⟩
      rw [e3, Array.toArray_toList]
    have I1 : Inv X pins σ (upd H T (.tup vs)) { s with heap := h'', toks := tk } :=
      I.turnedNew (ch := fp) (fun b ob hb q => kp' b ob (fun z => hb (hw b z)) (kp b ob (fun z => hb (hw b z)) q)) hf hT new
    refine ⟨.ref T, _, I1, rfl, hyld T hn, hnext _ st', fun b hb => ?_⟩
    have hbl : b < s.heap.objs.size := by
      obtain ⟨o, e, _⟩ := obj _ _ st b hb
      exact Heap.lt_size e
    rw [upd_ne (Nat.ne_of_lt (Nat.lt_of_lt_of_le hbl hT))]
    exact (hf b hb).1
  done := by
    intro X hP hw' hK hc i pins s σ H E I hf st hg
    obtain ⟨fpw, n, Pt, St, Mid, W, _, hi, hst, _, _⟩ := walk X hP hw' hK (I.ok.hd hc) i pins s σ H I st (.inr hg)
    subst hP hw' hK
    have e := hi hg
    subst e
    exact W.done s _ _ hst fun h' tk kp => ⟨rfl, I.turnedL (ch := fp) (fun b ob hb q => kp b ob (fun z => hb (hw b z)) q) hf⟩
  self := self
theorem turn_enumq {P : Program} {w : World} {K : PySem.W.Frag} {elts : List Expr} {kk : Nat} {tpos : Pos} (t : Bool) (a e it : Addr) (h1 : e ≠ it) (h2 : e ≠ a) (h3 : a ≠ it) :
    Turn P w K (.Tuple elts kk tpos) (Iteq t K a) [e, it] e (fun i h => (∃ old, IsEnum h e it (0 + (i : Int)) old) ∧ ItQ t h it a i) := by
  refine turn_ofT (wr := [e, it]) (by simp) (fun b hb => hb) (fun i h st b hb => ?_) (fun i h h' st k => ?_) (fun X hP hw hK hh i pins s σ H I st hg => ?_) (fun A i s Q E st h => let ⟨⟨_, he⟩, _⟩ := st; wpAny_pyIter_enum he h)
  · obtain ⟨⟨old, he⟩, hi⟩ := st
    have e' : b = e ∨ b = it := by simpa using hb
    rcases e' with z | z
    · rw [z]; exact ⟨_, he, fun v q => nomatch q⟩
    · rw [z]; exact hi.live
  · obtain ⟨⟨old, he⟩, hi⟩ := st
    exact ⟨⟨old, k e (by simp) _ he⟩, hi.at fun o q => k it (by simp) o q⟩
  · subst hP hw hK
    have hsq : ∃ xs, SqQ t X.K H a xs := by
      rcases hg with ⟨xs, x, q, _⟩ | ⟨xs, q, _⟩
      · exact ⟨xs, q⟩
      · exact ⟨xs, q⟩
    obtain ⟨xs, hsq⟩ := hsq
    obtain ⟨its, rv, hp, hz⟩ := seqQ I hsq
    have hl := rv.length
    refine ⟨_, _, _, _, _, WalksT.enumFrom (0 : Int) (drawsQ (A := X.A.in1) hh t it a h3 its.toArray) e h1 (by simp [h1, h2]) (by simp), fun hgo => ?_, fun hst => ?_, ⟨st.1, st.2, hp⟩, fun h q => ⟨q.1, q.2.1⟩, fun hgo vals hv => ?_⟩
    · obtain ⟨xs', x, q, hx⟩ := hgo
      cases seqQ_inj I hsq q
      have := (List.getElem?_eq_some_iff.mp hx).1
      simpa [← hl] using this
    · obtain ⟨xs', q, hx⟩ := hst
      cases seqQ_inj I hsq q
      simp [← hl, hx]
    · obtain ⟨tk, u, hu, rfl⟩ := hv
      obtain ⟨xs', x, q, hx⟩ := hgo
      cases seqQ_inj I hsq q
      obtain ⟨u', hu', ru⟩ := rv.get hx
      have e : u = u' := by
        have : its.toArray[i]? = some u := hu
        simp only [List.getElem?_toArray] at this
        rw [this] at hu'
        exact Option.some.inj hu'
      subst e
      refine ⟨[.int (0 + (i : Int)), x], by show 2 ≤ sizeLine; decide, .cons ⟨_, rfl⟩ (.cons ru .nil), fun T hT => ⟨T, x, rfl, hT, by rw [Int.zero_add], fun ys hy => by rw [seqQ_inj I hy hsq]; exact hx⟩⟩
theorem turn_zipq {P : Program} {w : World} {K : PySem.W.Frag} {elts : List Expr} {kk : Nat} {tpos : Pos} (t t2 : Bool) {a b z TI TO i1 i2 : Addr} (D : ZipSep2 z TI TO i1 i2 [i1, a] [i2, b]) (h3 : a ≠ i1) (h4 : b ≠ i2) :
    Turn P w K (.Tuple elts kk tpos) (Itzq t t2 K a b) [z, TI, TO, i1, i2] z (fun i h => IsZip h z TI TO .none ∧ IsTupOf2 h TI (.ref i1) (.ref i2) ∧ (∃ x y, IsTupOf2 h TO x y) ∧ ItQ t h i1 a i ∧ ItQ t2 h i2 b i) := by
  refine turn_ofT (wr := [z, TO, i1, i2]) (by simp) (fun b hb => by
      have e' : b = z ∨ b = TO ∨ b = i1 ∨ b = i2 := by simpa using hb
      rcases e' with q | q | q | q <;> simp [q]) (fun i h st c hc => ?_) (fun i h h' st k => ?_) (fun X hP hw hK hh i pins s σ H I st hg => ?_) (fun A i s Q E st h => wpAny_pyIter_zip st.1 h)
  · obtain ⟨hz, hTI, ⟨x, y, hTO⟩, h1, h2⟩ := st
    have e' : c = z ∨ c = TI ∨ c = TO ∨ c = i1 ∨ c = i2 := by simpa using hc
    rcases e' with q | q | q | q | q
    · rw [q]; exact ⟨_, hz, fun v q => nomatch q⟩
    · rw [q]; exact ⟨_, hTI, fun v q => nomatch q⟩
    · rw [q]; exact ⟨_, hTO, fun v q => nomatch q⟩
    · rw [q]; exact h1.live
    · rw [q]; exact h2.live
  · obtain ⟨hz, hTI, ⟨x, y, hTO⟩, h1, h2⟩ := st
    exact ⟨k z (by simp) _ hz, k TI (by simp) _ hTI, ⟨x, y, k TO (by simp) _ hTO⟩, h1.at fun o q => k i1 (by simp) o q, h2.at fun o q => k i2 (by simp) o q⟩
  · subst hP hw hK
    have hsq : ∃ xs ys, SqQ t X.K H a xs ∧ SqQ t2 X.K H b ys := by
      rcases hg with ⟨xs, ys, x, y, q, q2, _⟩ | ⟨xs, ys, q, q2, _⟩
      · exact ⟨xs, ys, q, q2⟩
      · exact ⟨xs, ys, q, q2⟩
    obtain ⟨xs, ys, hsq, hsq2⟩ := hsq
    obtain ⟨its, rv, hp, _⟩ := seqQ I hsq
    obtain ⟨its2, rv2, hp2, _⟩ := seqQ I hsq2
    have hl := rv.length
    have hl2 := rv2.length
    refine ⟨_, _, _, _, _, WalksT.zipD2 D (drawsQ (A := X.A.in1) hh t i1 a h3 its.toArray) (drawsQ (A := X.A.in1) hh t2 i2 b h4 its2.toArray), fun hgo => ?_, fun hst => ?_, ⟨st.1, st.2.1, st.2.2.1, ⟨st.2.2.2.1, hp⟩, st.2.2.2.2, hp2⟩, fun h q => ⟨q.1, q.2.1, q.2.2.1, q.2.2.2.1.1, q.2.2.2.2.1⟩, fun hgo vals hv => ?_⟩
    · obtain ⟨xs', ys', x, y, q, q2, hx, hy⟩ := hgo
      cases seqQ_inj I hsq q
      cases seqQ_inj I hsq2 q2
      have g1 := (List.getElem?_eq_some_iff.mp hx).1
      have g2 := (List.getElem?_eq_some_iff.mp hy).1
      simp only [List.size_toArray]
      omega
    · obtain ⟨xs', ys', q, q2, hx⟩ := hst
      cases seqQ_inj I hsq q
      cases seqQ_inj I hsq2 q2
      simp only [List.size_toArray]
      omega
    · obtain ⟨u1, u2, hu1, hu2, rfl⟩ := hv
      obtain ⟨xs', ys', x, y, q, q2, hx, hy⟩ := hgo
      cases seqQ_inj I hsq q
      cases seqQ_inj I hsq2 q2
      obtain ⟨u', hu', ru⟩ := rv.get hx
      obtain ⟨v', hv', rw'⟩ := rv2.get hy
      have e : u1 = u' := by
        have : its.toArray[i]? = some u1 := hu1
        simp only [List.getElem?_toArray] at this
        rw [this] at hu'
        exact Option.some.inj hu'
      have e2 : u2 = v' := by
        have : its2.toArray[i]? = some u2 := hu2
        simp only [List.getElem?_toArray] at this
        rw [this] at hv'
        exact Option.some.inj hv'
      subst e e2
      exact ⟨[x, y], by show 2 ≤ sizeLine; decide, .cons ru (.cons rw' .nil), fun T hT => ⟨T, x, y, rfl, hT, rfl, fun l hy' => by rw [seqQ_inj I hy' hsq]; exact hx, fun l hy' => by rw [seqQ_inj I hy' hsq2]; exact hy⟩⟩
/-! ### the forms of for and comprehensions -/
/-- the list or tuple that a value is -/
def HasQ (t : Bool) (K : PySem.W.Frag) (H : Hp) (x : V) (a : Addr) : Prop := x = .ref a ∧ ∃ xs, SqQ t K H a xs
def itOf (t : Bool) (K : PySem.W.Frag) (a : Addr) : It := match t with
  | true => Itt K a
  | false => Itl K a
def iSeq (K : PySem.W.Frag) (tl : TE) : TI := fun σ H R => tl σ H fun x H1 => ∃ t a, HasQ t K H1 x a ∧ R (itOf t K a) H1
def iEnumQ (K : PySem.W.Frag) (tl : TE) : TI := fun σ H R => tl σ H fun x H1 => ∃ t a, HasQ t K H1 x a ∧ R (Iteq t K a) H1
def iZipQ (K : PySem.W.Frag) (ta tb : TE) : TI := fun σ H R => ta σ H fun x H1 => tb σ H1 fun y H2 => ∃ t t2 a b, HasQ t K H2 x a ∧ HasQ t2 K H2 y b ∧ R (Itzq t t2 K a b) H2
section
variable {X : Cx} {tg l : Expr} {tl : TE}
theorem pi_seq (hl : PE X l tl) : PI X tg l (iSeq X.K tl) := by
  refine ⟨fun pins s σ H R I h => ?_⟩
  refine thn (hl.run pins s σ H _ I h) fun v s1 ⟨x, H1, I1, r1, q1⟩ => ?_
  obtain ⟨t, a, ⟨e, xs, hq⟩, q⟩ := q1
  subst e
  cases r1
  cases t with
  | true =>
    obtain ⟨its, rv, p, hz⟩ := I1.tuple hq
    refine wpAny_pyIter_tuple (show s1.heap.IsTuple a its.toArray from p) ?_
    refine ⟨s1.heap.objs.size, [s1.heap.objs.size], _, _, H1, rfl, I1.kept (t' := s1.toks) fun b o e => Heap.get?_push_of_some _ e, turn_tuple a _, ⟨_, Heap.get?_push_size _ rfl, rfl, rfl⟩, fun b hb => ?_, q⟩
    have e : b = s1.heap.objs.size := by simpa using hb
    subst e
    exact I1.fpOk (Nat.le_refl _) (I1.hok.fresh (Nat.le_refl _))
  | false =>
    obtain ⟨its, rv, p, hz⟩ := I1.list hq
    refine wpAny_pyIter_list p.isList ?_
    refine ⟨s1.heap.objs.size, [s1.heap.objs.size], _, _, H1, rfl, I1.kept (t' := s1.toks) fun b o e => Heap.get?_push_of_some _ e, turn_list a _, ⟨_, Heap.get?_push_size _ rfl, rfl, rfl⟩, fun b hb => ?_, q⟩
    have e : b = s1.heap.objs.size := by simpa using hb
    subst e
    exact I1.fpOk (Nat.le_refl _) (I1.hok.fresh (Nat.le_refl _))
end
theorem beginsQ (t : Bool) (a : Addr) (items : Array Value) : ∃ o, Begins (.ref a) o (fun h => HpQ t h a items) ∧ ∀ (h : Heap) (it : Addr), h.get? it = some o → ItQ t h it a 0 := by
  cases t with
  | true => exact ⟨_, begins_tuple a items, fun h it e => ⟨_, e, rfl, rfl⟩⟩
  | false => exact ⟨_, begins_list a items, fun h it e => ⟨_, e, rfl, rfl⟩⟩
theorem HpQ.lt {t : Bool} {h : Heap} {a : Addr} {its : Array Value} (x : HpQ t h a its) : a < h.objs.size := by
  cases t with
  | true => obtain ⟨o, e, _⟩ := x; exact Heap.lt_size e
  | false => obtain ⟨o, e, _⟩ := x; exact Heap.lt_size e
theorem meets_enum1 {v : Value} {o : Obj} {H : Heap → Prop} (B : Begins v o H) :
    Meets (Builtin.«enumerate.__new__» ⟨[.type "enumerate", v], []⟩) (fun _ R s => H s.heap ∧
      R (.ok (.ret (.ref (s.heap.push o).objs.size))) { s with heap := (s.heap.push o).push { cls := .type "enumerate", data := .fields #[.none, .bool false, .ref s.heap.objs.size, rawInt 0, .none, .none] } }) :=
  .of_wp fun prog w A R s h => by
    obtain ⟨hp, g, d, tk, os⟩ := s; obtain ⟨h1, h⟩ := h
    have hsub := sub_enumerate
    have q1 : ∀ {A' : Around} {E : Value → Shared → Prop} {Q : Value → Shared → Prop}, Q (.ref hp.objs.size) ⟨hp.push o, g, d, tk, os⟩ → wpAny (model prog w) A' (pyIter v) Q E ⟨hp, g, d, tk, os⟩ :=
      fun q => B.iter prog w _ _ ⟨hp, g, d, tk, os⟩ _ h1 q
    wp_walk using q1
    refine wpAny_stack_any fun st => wpAny_pure ?_
    split
    · rename_i c _ _ _ _ _
      cases (c == Value.type "enumerate")
      · wp_walk using q1
        exact ⟨_, rfl, h⟩
      · wp_walk using q1
        exact ⟨_, rfl, h⟩
    · wp_walk using q1
      exact ⟨_, rfl, h⟩
theorem enum_begins1 {prog : Program} {w : World} {A : Around} {E : Value → Shared → Prop} {s : Shared} {v : Value} {o : Obj} {H : Heap → Prop} {Q : Value → Shared → Prop} (B : Begins v o H) (h1 : H s.heap)
    (h : ∀ h', IsEnum h' (s.heap.objs.size + 1) s.heap.objs.size 0 .none → h'.get? s.heap.objs.size = some o → h'.objs.size = s.heap.objs.size + 2 →
      (∀ b o, s.heap.get? b = some o → h'.get? b = some o) → Q (.ref (s.heap.objs.size + 1)) { s with heap := h' }) :
    wpAny (model prog w) A (call (.type "enumerate") [v]) Q E s := by
  refine callType_new F.called_enumerate (by decide) (F.typeCall_enumerate_1 _) (F.newCall_enumerate_1 _) (fun obj => F.args_object_init_2 obj _) F.entry_enumerate_new
    (meets_enum1 B) ⟨h1, ?_⟩
  have hz : (s.heap.push o).objs.size = s.heap.objs.size + 1 := Heap.size_push ..
  show _ ∧ _
  rw [hz]
  have he : IsEnum ((s.heap.push o).push { cls := .type "enumerate", data := .fields #[.none, .bool false, .ref s.heap.objs.size, rawInt 0, .none, .none] }) (s.heap.objs.size + 1) s.heap.objs.size 0 .none := by
    have := Heap.get?_push_size (s.heap.push o) (o := { cls := .type "enumerate", data := .fields #[.none, .bool false, .ref s.heap.objs.size, rawInt 0, .none, .none] }) rfl
    rw [hz] at this; exact this
  refine ⟨⟨_, he, rfl⟩, h _ he (Heap.get?_push_of_some _ (Heap.get?_push_size _ B.free)) (by rw [Heap.size_push, hz]) fun b o x => Heap.get?_push_of_some _ (Heap.get?_push_of_some _ x)⟩
/-- arguments without stars -/
theorem star_ok : ∀ {es : List Expr} {env : Env}, es.all noStar = true → starEach es env = es.map fun e => (false, eval e env)
  | [], _, _ => rfl
  | e :: es, env, h => by
    rw [List.all_cons, Bool.and_eq_true] at h
    have ih := star_ok (es := es) (env := env) h.2
    cases e <;> first | (simp [noStar] at h; done) | (show (false, _) :: starEach es env = _; rw [ih]; rfl)
section
variable {X : Cx} {e e2 : Expr} {ta tb : TE} {p pos tpos : Pos} {elts : List Expr} {kk : Nat}
theorem pa1 (ha : PE X e ta) (n1 : noStar e = true) : PA X [e] (tCons ta tNil) := pa_cons ha pa_nil (by rw [star_ok (by simp [n1])]; rfl)
theorem pi_enumQ (hg : Gl X "enumerate") (hm : X.mg "enumerate" = none) (ha : PE X e ta) (n1 : noStar e = true) :
    PI X (.Tuple elts kk tpos) (.Call (.Name "enumerate" p) [e] [] pos) (iEnumQ X.K ta) := by
  refine ⟨fun pins s σ H R I h => ?_⟩
  have hs : starEach [e] X.env = [(false, eval e X.env)] := by rw [star_ok (by simp [n1])]; rfl
  refine Call_ (ld_blt I hg hm boot_enumerate (PyProof.Rows.callWith_type1 (thn ((pa1 ha n1).run pos pins s σ H (fun vs H1 => match vs with | [x] => ∃ t a, HasQ t X.K H1 x a ∧ R (Iteq t X.K a) H1 | _ => False) I ?_) fun us s1 ⟨vs, H1, I1, r1, q1⟩ => ?_) hs rfl))
  · exact h
  · obtain ⟨x, rfl⟩ : ∃ x, vs = [x] := by
      match vs, q1 with
      | [x], _ => exact ⟨x, rfl⟩
    obtain ⟨t, a, ⟨rfl, xs, hq⟩, q⟩ := q1
    obtain ⟨u, rfl, ru⟩ := vals1 r1
    cases ru
    obtain ⟨its, rv, hp, hz⟩ := seqQ I1 hq
    obtain ⟨o, B, hit⟩ := beginsQ t a its.toArray
    refine enum_begins1 B hp fun h' he ho hsz hk => wpAny_pyIter_enum he ?_
    have I2 : Inv X pins σ H1 { s1 with heap := h' } := I1.kept (t' := s1.toks) hk
    have la := hp.lt
    refine ⟨s1.heap.objs.size + 1, [s1.heap.objs.size + 1, s1.heap.objs.size], _, _, H1, rfl, I2, turn_enumq t a (s1.heap.objs.size + 1) s1.heap.objs.size (Nat.succ_ne_self _) (Nat.ne_of_gt (Nat.lt_succ_of_lt la)) (Nat.ne_of_lt la), ⟨⟨.none, he⟩, hit _ _ ho⟩, fun b hb => ?_, q⟩
    have e' : b = s1.heap.objs.size + 1 ∨ b = s1.heap.objs.size := by simpa using hb
    have hle : s1.heap.objs.size ≤ b := by
      rcases e' with z | z
      · rw [z]; exact Nat.le_add_right _ _
      · rw [z]; exact Nat.le_refl _
    exact I1.fpOk hle (I1.hok.fresh hle)
theorem pa2 (ha : PE X e ta) (hb : PE X e2 tb) (n1 : noStar e = true) (n2 : noStar e2 = true) : PA X [e, e2] (tCons ta (tCons tb tNil)) := pa_cons ha (pa1 hb n2) (by rw [star_ok (by simp [n1, n2]), star_ok (by simp [n2])]; rfl)
theorem pi_zipQ (hg : Gl X "zip") (hm : X.mg "zip" = none) (ha : PE X e ta) (hb : PE X e2 tb) (n1 : noStar e = true) (n2 : noStar e2 = true) :
    PI X (.Tuple elts kk tpos) (.Call (.Name "zip" p) [e, e2] [] pos) (iZipQ X.K ta tb) := by
  refine ⟨fun pins s σ H R I h => ?_⟩
  have hs : starEach [e, e2] X.env = (false, eval e X.env) :: starEach [e2] X.env := by rw [star_ok (by simp [n1, n2]), star_ok (by simp [n2])]; rfl
  have hpl : (backTo pos (starEach [e2] X.env)).any (·.1) = false := by rw [star_ok (by simp [n2])]; rfl
  refine Call_ (ld_blt I hg hm PyProof.Rows.boot_zip (PyProof.Rows.callWith_type1 (thn ((pa2 ha hb n1 n2).run pos pins s σ H (fun vs H2 => match vs with | [x, y] => ∃ t t2 a b, HasQ t X.K H2 x a ∧ HasQ t2 X.K H2 y b ∧ R (Itzq t t2 X.K a b) H2 | _ => False) I ?_) fun us s1 ⟨vs, H1, I1, r1, q1⟩ => ?_) hs hpl))
  · exact h
  · obtain ⟨x, y, rfl⟩ : ∃ x y, vs = [x, y] := by
      match vs, q1 with
      | [x, y], _ => exact ⟨x, y, rfl⟩
    obtain ⟨t, t2, a, b, ⟨rfl, xs, hqx⟩, ⟨rfl, ys, hqy⟩, q⟩ := q1
    obtain ⟨u, u2, rfl, ru, ru2⟩ := vals2 r1
    cases ru
    cases ru2
    obtain ⟨its, rv, hp, _⟩ := seqQ I1 hqx
    obtain ⟨its2, rv2, hp2, _⟩ := seqQ I1 hqy
    obtain ⟨o, B, hit⟩ := beginsQ t a its.toArray
    obtain ⟨o2, B2, hit2⟩ := beginsQ t2 b its2.toArray
    have la := hp.lt
    have lb := hp2.lt
    refine zip_begins2 B B2 hp hp2 fun h' hz hTI hTO h1 h2 hsz hk => wpAny_pyIter_zip hz ?_
    have I2 : Inv X pins σ H1 { s1 with heap := h' } := I1.kept (t' := s1.toks) hk
    have D := zip_sep2 (N := s1.heap.objs.size) (fp1 := [a]) (fp2 := [b]) (fun c hc => by rw [List.mem_singleton.mp hc]; exact la) (fun c hc => by rw [List.mem_singleton.mp hc]; exact lb)
    refine ⟨s1.heap.objs.size + 4, [s1.heap.objs.size + 4, s1.heap.objs.size + 2, s1.heap.objs.size + 3, s1.heap.objs.size, s1.heap.objs.size + 1], _, _, H1, rfl, I2, turn_zipq t t2 D (Nat.ne_of_lt la) (Nat.ne_of_lt (Nat.lt_succ_of_lt lb)), ⟨hz, hTI, ⟨_, _, hTO⟩, hit _ _ h1, hit2 _ _ h2⟩, fun c hcm => ?_, q⟩
    have e' : c = s1.heap.objs.size + 4 ∨ c = s1.heap.objs.size + 2 ∨ c = s1.heap.objs.size + 3 ∨ c = s1.heap.objs.size ∨ c = s1.heap.objs.size + 1 := by simpa using hcm
    have hle : s1.heap.objs.size ≤ c := by
      rcases e' with z | z | z | z | z
      · rw [z]; exact Nat.le_add_right _ _
      · rw [z]; exact Nat.le_add_right _ _
      · rw [z]; exact Nat.le_add_right _ _
      · rw [z]; exact Nat.le_refl _
      · rw [z]; exact Nat.le_add_right _ _
    exact I1.fpOk hle (I1.hok.fresh hle)
end
end DL
end
section
set_option maxRecDepth 100000
set_option maxHeartbeats 1000000
/-! Soundness: judgements, targets, what is walked. -/
namespace DL
open PySem PySem.Spec L2
open PyProof.Rows hiding St

abbrev Mg := Str → Option Value
def RepX (K : PySem.W.Frag) (w : World) (mg : Mg) (H : Hp) (S : Sto) (x : Exn) (cls : Value) (d : Option Addr) : Prop := mg x.name = some cls ∧ match x.fs with
  | [] => d = none
  | f :: fs => ∃ a gs, d = some a ∧ H a = some (.xd gs) ∧ gs.map (·.1) = (f :: fs).map (·.1) ∧ RepVs K w H S ((f :: fs).map (·.2)) (gs.map (·.2))
/-- what follows with an exception -/
def kX (K : PySem.W.Frag) (w : World) (mg : Mg) (S : Sto) (H : Hp) (τ : L2.St) (E' : XPost) (W : WX) : Prop := ∀ x cls d H' S', RepX K w mg H' S' x cls d → RepH K w H' S' → Ext K S H S' H' → E' x S' → W cls d τ H'
theorem kX.mono {K : PySem.W.Frag} {w : World} {mg : Mg} {S S1 : Sto} {H H1 : Hp} {τ : L2.St} {E' : XPost} {W : WX} (k : kX K w mg S H τ E' W) (e : Ext K S H S1 H1) : kX K w mg S1 H1 τ E' W := fun x cls d H' S' r h e' q => k x cls d H' S' r h (e.trans e') q
theorem kX.none {K : PySem.W.Frag} {w : World} {mg : Mg} {S : Sto} {H : Hp} {τ : L2.St} {W : WX} : kX K w mg S H τ (fun _ _ => False) W := fun _ _ _ _ _ _ _ _ q => q.elim
abbrev CEf := Sl → Sto → Post → XPost → Prop
section
variable (K : PySem.W.Frag) (w : World) (mg : Mg) (W : WX)
def upE (c : CEf) : TE := fun τ H Q => ∃ σ S Q' E', RepSt K w H S σ τ ∧ RepH K w H S ∧ c σ S Q' E' ∧ kV K w S H Q' Q ∧ kX K w mg S H τ E' W
def upT (c : Sl → Sto → (Bool → Sto → Prop) → XPost → Prop) : TT := fun τ H Q => ∃ σ S Q' E', RepSt K w H S σ τ ∧ RepH K w H S ∧ c σ S Q' E' ∧ (∀ b H' S', RepH K w H' S' → Ext K S H S' H' → Q' b S' → Q b H') ∧ kX K w mg S H τ E' W
def upA (n : Nat) (c : Sl → Sto → (List PV → Sto → Prop) → XPost → Prop) : TA := fun τ H Q => ∃ σ S Q' E', RepSt K w H S σ τ ∧ RepH K w H S ∧ c σ S Q' E' ∧ (∀ vs H' vs' S', vs.length = n → RepVs K w H' S' vs' vs → RepH K w H' S' → Ext K S H S' H' → Q' vs' S' → Q vs H') ∧ kX K w mg S H τ E' W
def upO (c : Sl → Sto → (Option Int → Sto → Prop) → XPost → Prop) : TO := fun τ H Q => ∃ σ S Q' E', RepSt K w H S σ τ ∧ RepH K w H S ∧ c σ S Q' E' ∧ (∀ o H' S', RepH K w H' S' → Ext K S H S' H' → Q' o S' → Q o H') ∧ kX K w mg S H τ E' W
/-- an iterator walks these items -/
structure SrcRep (J : It) (src : Src) (S0 : Sto) (H0 : Hp) : Prop where
  stop : ∀ i H S, Ext K S0 H0 S H → RepH K w H S → src.ok S → src.items.length = i → J.stop i H
  go : ∀ i H S, Ext K S0 H0 S H → RepH K w H S → src.ok S → i < src.items.length → J.go i H
  yld : ∀ i H S x v H', Ext K S0 H0 S H → RepH K w H S → src.ok S → src.items[i]? = some x → J.yld i H v H' → RepV K w H' S x v ∧ RepH K w H' S ∧ Ext K S H S H'
  sz : (∀ a xs, SqL K H0 a xs ∨ SqT K H0 a xs → xs.length ≤ sizeLine) → src.items.length ≤ sizeLine
def upI (c : Sl → Sto → (Src → Sto → Prop) → XPost → Prop) : TI := fun τ H R => ∃ σ S Q' E', RepSt K w H S σ τ ∧ RepH K w H S ∧ c σ S Q' E' ∧ (∀ J H' src S', SrcRep K w J src S' H' → RepH K w H' S' → Ext K S H S' H' → Q' src S' → R J H') ∧ kX K w mg S H τ E' W
def upG (t : Tg) : TG := fun v τ H Q => ∃ σ S x Q', RepSt K w H S σ τ ∧ RepH K w H S ∧ RepV K w H S x v ∧ tgD t x σ S Q' ∧ ∀ σ' τ', RepSt K w H S σ' τ' → (∀ vs : List Nat, (∀ i ∈ t.slots, i ∈ vs) → L2.wipe τ' vs = L2.wipe τ vs) → Q' σ' → Q τ' H
def upGs (ts : List Tg) : TGs := fun us τ H Q => ∃ σ S xs Q', RepSt K w H S σ τ ∧ RepH K w H S ∧ RepVs K w H S xs us ∧ tgDs ts xs σ S Q' ∧ ∀ σ' τ', RepSt K w H S σ' τ' → (∀ vs : List Nat, (∀ i ∈ slotsOf ts, i ∈ vs) → L2.wipe τ' vs = L2.wipe τ vs) → Q' σ' → Q τ' H
def spUp (m : Nat) (sp : SpD) : Sp := fun vs H Q E => vs.length = m ∧ ∃ vs' S Q' E', RepVs K w H S vs' vs ∧ RepH K w H S ∧ sp vs' S Q' E' ∧ kV K w S H Q' Q ∧ (∀ x cls d H' S', RepX K w mg H' S' x cls d → RepH K w H' S' → Ext K S H S' H' → E' x S' → E cls d H')
end
section
variable {X : Cx}
theorem PE.imp {e : Expr} {t t' : TE} (h : PE X e t) (hm : ∀ τ H Q, t' τ H Q → t τ H Q) : PE X e t' := ⟨fun pins s σ H Q I q => h.run pins s σ H Q I (hm _ _ _ q)⟩
theorem PT.imp {e : Expr} {t t' : TT} (h : PT X e t) (hm : ∀ τ H Q, t' τ H Q → t τ H Q) : PT X e t' := ⟨fun pins s σ H Q I q => h.run pins s σ H Q I (hm _ _ _ q)⟩
theorem PW.imp {e : Expr} {t t' : TT} (h : PW X e t) (hm : ∀ τ H Q, t' τ H Q → t τ H Q) : PW X e t' := ⟨fun wh pins s σ H Q I q => h.run wh pins s σ H Q I (hm _ _ _ q)⟩
theorem PA.imp {e : List Expr} {t t' : TA} (h : PA X e t) (hm : ∀ τ H Q, t' τ H Q → t τ H Q) : PA X e t' := ⟨fun p pins s σ H Q I q => h.run p pins s σ H Q I (hm _ _ _ q)⟩
theorem PO.imp {e : Option Expr} {t t' : TO} (h : PO X e t) (hm : ∀ τ H Q, t' τ H Q → t τ H Q) : PO X e t' := ⟨fun pins s σ H Q I q => h.run pins s σ H Q I (hm _ _ _ q)⟩
theorem PI.imp {tg e : Expr} {t t' : TI} (h : PI X tg e t) (hm : ∀ τ H Q, t' τ H Q → t τ H Q) : PI X tg e t' := ⟨fun pins s σ H Q I q => h.run pins s σ H Q I (hm _ _ _ q)⟩
theorem PG.imp {e : Expr} {t t' : TG} (h : PG X e t) (hm : ∀ v τ H Q, t' v τ H Q → t v τ H Q) : PG X e t' := ⟨fun pins s σ H v u Q I r q => h.run pins s σ H v u Q I r (hm _ _ _ _ q)⟩
theorem PGs.imp {e : List Expr} {t t' : TGs} (h : PGs X e t) (hm : ∀ v τ H Q, t' v τ H Q → t v τ H Q) : PGs X e t' := ⟨fun pins s σ H v u Q I r q => h.run pins s σ H v u Q I r (hm _ _ _ _ q)⟩
theorem PS.imp {e : Stmt} {t t' : TS} (h : PS X e t) (hm : ∀ D τ H, t' D τ H → t D τ H) : PS X e t' := ⟨fun pins s σ H D I q => h.run pins s σ H D I (hm _ _ _ q)⟩
theorem PSs.imp {e : List Stmt} {t t' : TS} (h : PSs X e t) (hm : ∀ D τ H, t' D τ H → t D τ H) : PSs X e t' := ⟨fun pins s σ H D I q => h.run pins s σ H D I (hm _ _ _ q)⟩
/-- the sequences that are read have a size -/
def Sane (K : PySem.W.Frag) (H : Hp) : Prop := ∀ a xs, SqL K H a xs ∨ SqT K H a xs → xs.length ≤ sizeLine
theorem Inv.sane {pins : List (Addr × Obj)} {σ : L2.St} {H : Hp} {s : Shared} (I : Inv X pins σ H s) : Sane X.K H := fun a xs h => by
  rcases h with h | h
  · obtain ⟨_, _, _, z⟩ := I.list h; exact z
  · obtain ⟨_, _, _, z⟩ := I.tuple h; exact z
theorem PI.sane {tg e : Expr} {t : TI} (h : PI X tg e t) : PI X tg e (fun τ H R => t τ H fun J H1 => Sane X.K H1 → R J H1) := by
  refine ⟨fun pins s σ H R I q => ?_⟩
  refine thn (h.run pins s σ H _ I q) fun v s1 h1 => thn h1 fun itv s2 ⟨it, fp, tn, J, H', e, I2, T, st, f, r⟩ => ?_
  exact ⟨it, fp, tn, J, H', e, I2, T, st, f, r (Inv.sane I2)⟩
end

/-! ### targets -/
theorem wipe_set {τ : L2.St} {i : Nat} {v : Option V} : ∀ {vs : List Nat}, i ∈ vs → L2.wipe (τ.set i v) vs = L2.wipe τ vs
  | [], h => by cases h
  | j :: vs, h => by
    by_cases hj : i ∈ vs
    · show (L2.wipe (τ.set i v) vs).set j none = (L2.wipe τ vs).set j none
      rw [wipe_set hj]
    · have e : i = j := by
        rcases List.mem_cons.mp h with e | e
        · exact e
        · exact absurd e hj
      subst e
      show (L2.wipe (τ.set i v) vs).set i none = (L2.wipe τ vs).set i none
      have h2 : ∀ (vs : List Nat), i ∉ vs → L2.wipe (τ.set i v) vs = (L2.wipe τ vs).set i v := by
        intro vs
        induction vs with
        | nil => intro _; rfl
        | cons k r ih =>
          intro hk
          have h1 : i ≠ k := fun e => hk (by simp [e])
          show (L2.wipe (τ.set i v) r).set k none = ((L2.wipe τ r).set k none).set i v
          rw [ih (fun q => hk (by simp [q])), List.set_comm _ _ h1]
      rw [h2 vs hj, List.set_set]
section
variable {X : Cx}
/-- a list or a tuple to targets -/
def gSeq (K : PySem.W.Frag) (n : Nat) (t : TGs) : TG := fun v σ H Q => ∃ a xs, v = .ref a ∧ (SqL K H a xs ∨ SqT K H a xs) ∧ xs.length = n ∧ t xs σ H Q
theorem assignEach_len : ∀ (es : List Expr) (env : Env), (assignEach es env).length = es.length
  | [], _ => rfl
  | e :: es, env => by
    cases e <;> (show (assignEach es env).length + 1 = es.length + 1; rw [assignEach_len es env])
theorem assignEach_plain : ∀ {es : List Expr} {env : Env}, es.all noStar = true → (assignEach es env).findIdx? (·.1) = none ∧ (assignEach es env).map (·.2) = es.map fun e => assign e env
  | [], _, _ => ⟨rfl, rfl⟩
  | e :: es, env, h => by
    rw [List.all_cons, Bool.and_eq_true] at h
    obtain ⟨h1, h2⟩ := assignEach_plain (env := env) h.2
    have e1 : assignEach (e :: es) env = (false, assign e env) :: assignEach es env := by
      cases e <;> first | rfl | (simp [noStar] at h; done)
    rw [e1]
    refine ⟨?_, ?_⟩
    · rw [List.findIdx?_cons]
      simp [h1]
    · rw [List.map_cons, List.map_cons, h2]
theorem pg_seq {es : List Expr} {k : Nat} {pos : Pos} {t : TGs} (hc : X.calm = true) (h : PGs X es t) (hs : es.all noStar = true) : PG X (.Tuple es k pos) (gSeq X.K es.length t) := by
  refine ⟨fun pins s σ H v u Q I r hw => ?_⟩
  obtain ⟨a, xs, e1, hq, hl, hw⟩ := hw
  rcases hq with hq | hq
  · exact (pg_lst hc h (assignEach_len es _) (assignEach_plain hs).1).run pins s σ H v u Q I r ⟨a, xs, e1, hq, hl, hw⟩
  · exact (pg_tup hc h (assignEach_len es _) (assignEach_plain hs).1).run pins s σ H v u Q I r ⟨a, xs, e1, hq, hl, hw⟩
theorem tgDs_len {S : Sto} : ∀ {ts : List Tg} {xs : List PV} {σ : Sl} {Q : Sl → Prop}, tgDs ts xs σ S Q → ts.length = xs.length → True := fun _ _ => trivial
end
end DL
end
section
set_option maxRecDepth 100000
set_option maxHeartbeats 1000000
/-! Soundness: the context; targets, what is walked. -/
namespace DL
open PySem PySem.Spec L2
open PyProof.Rows hiding St

structure Ok (X : Cx) (Γ : Gam) (G : GE) (k : Nat) (W : WX) : Prop where
  N : X.N = Γ.N
  nd : Γ.N.Nodup
  sc : X.env.scope.names = Γ.names
  kd : X.env.scope.kind = .function
  calm : X.calm = true
  room : Room k X.A
  fnc : ∀ x, Γ.fnc x = true → X.fn x = true ∨ X.env.scope.names.lookup x = some .local
  fns : ∀ x i m, Γ.fns.lookup x = some (i, m) → ∃ a fd ps, X.mg x = some (.ref a) ∧ PySem.W.keepIn X.K (.ref a) = true ∧ Binds X.K fd ps [] ∧ ps.length = m ∧ FnOk X.prog X.w X.K X.mg X.base (L2.CX X.prog X.w) k a fd ps (spUp X.K X.w X.mg m (G.fn i))
  free : ∀ x, Γ.free.contains x = true → X.mg x = none
  cst : ∀ x v, Γ.cst.lookup x = some v → ∃ u vv, X.mg x = some u ∧ RelV vv u ∧ ∀ H S, RepV X.K X.w H S v vv
  tk : Takes X W
section
variable {X : Cx} {Γ : Gam} {G : GE} {k : Nat} {W : WX}
theorem Ok.glob (ok : Ok X Γ G k W) {x : Str} (h : Γ.glob x = true) : Gl X x := by
  unfold Gam.glob at h
  show X.env.scope.names.lookup x = _
  rw [ok.sc]
  exact eq_of_beq h
theorem Ok.visN (ok : Ok X Γ G k W) {x : Str} (h : Γ.vis x = true) : Vis X.env.scope x := by
  unfold Gam.vis at h
  unfold Vis
  rw [ok.sc]
  simp only [Bool.or_eq_true, beq_iff_eq] at h
  rcases h with (h | h) | h
  · exact .inl h
  · exact .inr (.inl h)
  · exact .inr (.inr h)
theorem Ok.locN (ok : Ok X Γ G k W) {x : Str} (h : Γ.loc x = true) : L2.Loc X.env.scope x := by
  unfold Gam.loc at h
  unfold L2.Loc
  rw [ok.sc]
  simp only [Bool.or_eq_true, beq_iff_eq] at h
  exact h
theorem Ok.hu (ok : Ok X Γ G k W) : X.A.units + 65 < cLine := by have := ok.room.un; omega
theorem bi_split {x : Str} (h : Γ.bi x = true) : Γ.glob x = true ∧ Γ.free.contains x = true ∧ dbg x = false := by
  unfold Gam.bi at h
  simp only [Bool.and_eq_true, Bool.not_eq_true'] at h
  exact ⟨h.1.1, h.1.2, h.2⟩

/-! ### targets -/
theorem compG_sound : ∀ n : Nat,
    (∀ {Γ : Gam} {e : Expr} {t : Tg}, compG n Γ e = some t → ∀ {X : Cx} {W : WX}, Ok X Γ G k W → PG X e (upG X.K X.w t)) ∧
    (∀ {Γ : Gam} {es : List Expr} {ts : List Tg}, compGs n Γ es = some ts → es.all noStar = true → ∀ {X : Cx} {W : WX}, Ok X Γ G k W → PGs X es (upGs X.K X.w ts) ∧ es.length = ts.length) := by
  intro n
  induction n with
  | zero =>
    refine ⟨fun h => by simp [compG] at h, fun {Γ es ts} h hs {X W} ok => ?_⟩
    cases es with
    | nil =>
      simp only [compGs, Option.some.injEq] at h
      subst h
      refine ⟨PGs.imp pgs_nil fun us τ H Q q => ?_, rfl⟩
      obtain ⟨σ, S, xs, Q', hs, hh, hx, hc, hq⟩ := q
      cases xs with
      | nil => exact ⟨hx.nil_inv, hq σ τ hs (fun _ _ => rfl) (by simpa [tgDs] using hc)⟩
      | cons _ _ => simp [tgDs] at hc
    | cons _ _ => simp [compGs] at h
  | succ n ih =>
    refine ⟨fun {Γ e t} h {X W} ok => ?_, fun {Γ es ts} h hs {X W} ok => ?_⟩
    · cases e with
      | Name x p =>
        simp only [compG] at h
        split at h
        · rename_i hl
          rw [Bool.and_eq_true] at hl
          obtain ⟨i, hi, rfl⟩ := Option.map_eq_some_iff.mp h
          refine PG.imp (pg_name (i := i) (by rw [ok.N]; exact ok.nd) (by rw [ok.N]; exact slotOf_ok hi) (ok.locN hl.1) (ok.fnc x hl.2)) fun v τ H Q q => ?_
          obtain ⟨σ, S, x', Q', h1, h2, h3, h4, h5⟩ := q
          simp only [tgD] at h4
          exact h5 _ _ (h1.set i h3) (fun vs hv => wipe_set (hv i (by simp [Tg.slots]))) h4
        · cases h
      | Tuple es kk p =>
        simp only [compG] at h
        split at h
        · rename_i hs
          obtain ⟨ts, ht, rfl⟩ := Option.map_eq_some_iff.mp h
          obtain ⟨pg, hl⟩ := ih.2 ht hs ok
          refine PG.imp (pg_seq ok.calm pg hs) fun v τ H Q q => ?_
          obtain ⟨σ, S, x', Q', h1, h2, h3, h4, h5⟩ := q
          simp only [tgD] at h4
          split at h4
          · rename_i xs e1
            obtain ⟨a, vs, rfl, g1, g2⟩ := dQ_rep h2 h3 e1
            have hlen : ∀ {ts : List Tg} {xs : List PV} {σ : Sl} {Q : Sl → Prop}, tgDs ts xs σ S Q → ts.length = xs.length := by
              intro ts
              induction ts with
              | nil => intro xs σ Q q; cases xs with
                | nil => rfl
                | cons _ _ => simp [tgDs] at q
              | cons t ts iht => intro xs σ Q q; cases xs with
                | nil => simp [tgDs] at q
                | cons x xs =>
                  simp only [tgDs] at q
                  have : ∀ {t : Tg} {x : PV} {σ : Sl} {Q : Sl → Prop}, tgD t x σ S Q → ∃ σ', Q σ' := by
                    intro t
                    have key : ∀ (m : Nat), (∀ {t : Tg} {x : PV} {σ : Sl} {Q : Sl → Prop}, sizeOf t ≤ m → tgD t x σ S Q → ∃ σ', Q σ') ∧ (∀ {ts : List Tg} {xs : List PV} {σ : Sl} {Q : Sl → Prop}, sizeOf ts ≤ m → tgDs ts xs σ S Q → ∃ σ', Q σ') := by
                      intro m
                      induction m with
                      | zero =>
                        refine ⟨fun {t x σ Q} hz q => ?_, fun {ts xs σ Q} hz q => ?_⟩
                        · cases t <;> simp at hz
                        · cases ts <;> simp at hz
                      | succ m ihm =>
                        refine ⟨fun {t x σ Q} hz q => ?_, fun {ts xs σ Q} hz q => ?_⟩
                        · cases t with
                          | nm i => exact ⟨_, by simpa only [tgD] using q⟩
                          | tp ts =>
                            simp only [tgD] at q
                            split at q
                            · exact ihm.2 (by simp at hz; omega) q
                            · exact q.elim
                        · cases ts with
                          | nil => cases xs with
                            | nil => exact ⟨σ, by simpa only [tgDs] using q⟩
                            | cons _ _ => simp [tgDs] at q
                          | cons t ts => cases xs with
                            | nil => simp [tgDs] at q
                            | cons x xs =>
                              simp only [tgDs] at q
                              obtain ⟨σ', q'⟩ := ihm.1 (by simp at hz; omega) q
                              exact ihm.2 (by simp at hz; omega) q'
                    exact fun {x σ Q} q => (key (sizeOf t)).1 (Nat.le_refl _) q
                  obtain ⟨σ', q'⟩ := this q
                  rw [List.length_cons, List.length_cons, iht q']
            refine ⟨a, vs, rfl, g1, ?_, ⟨σ, S, xs, Q', h1, h2, g2, h4, fun σ' τ' r1 r2 r3 => h5 σ' τ' r1 (fun vs hv => r2 vs (by simpa [Tg.slots] using hv)) r3⟩⟩
            rw [← g2.length, hl, hlen h4]
          · exact h4.elim
        · cases h
      | _ => simp [compG] at h
    · cases es with
      | nil =>
        simp only [compGs, Option.some.injEq] at h
        subst h
        refine ⟨PGs.imp pgs_nil fun us τ H Q q => ?_, rfl⟩
        obtain ⟨σ, S, xs, Q', hs, hh, hx, hc, hq⟩ := q
        cases xs with
        | nil => exact ⟨hx.nil_inv, hq σ τ hs (fun _ _ => rfl) (by simpa [tgDs] using hc)⟩
        | cons _ _ => simp [tgDs] at hc
      | cons e es =>
        simp only [compGs, Option.bind_eq_bind, Option.bind_eq_some_iff, Option.pure_def, Option.some.injEq] at h
        obtain ⟨t, ht, ts', hts, rfl⟩ := h
        rw [List.all_cons, Bool.and_eq_true] at hs
        obtain ⟨pgs, hl⟩ := ih.2 hts hs.2 ok
        have pg := ih.1 ht ok
        refine ⟨PGs.imp (pgs_cons pg pgs (by
            have e1 : assignEach (e :: es) X.env = (false, assign e X.env) :: assignEach es X.env := by
              cases e <;> first | rfl | (simp [noStar] at hs; done)
            rw [e1]
            rfl)) fun us τ H Q q => ?_, by rw [List.length_cons, List.length_cons, hl]⟩
        obtain ⟨σ, S, xs, Q', h1, h2, h3, h4, h5⟩ := q
        cases xs with
        | nil => simp [tgDs] at h4
        | cons x xs =>
          simp only [tgDs] at h4
          obtain ⟨v, us', rfl, r1, r2⟩ := h3.cons_inv
          refine ⟨v, us', rfl, σ, S, x, _, h1, h2, r1, h4, fun σ' τ' g1 g2 g3 => ?_⟩
          refine ⟨σ', S, xs, Q', g1, h2, r2, g3, fun σ2 τ2 f1 f2 f3 => h5 σ2 τ2 f1 (fun vs hv => ?_) f3⟩
          rw [f2 vs (fun i hi => hv i (by simp [slotsOf, hi])), g2 vs (fun i hi => hv i (by simp [slotsOf, hi]))]

/-! ### what is walked -/
theorem okL_at {K : PySem.W.Frag} {w : World} {H0 H : Hp} {S0 S : Sto} {x : PV} {xs : List PV} {a : Addr} (h0 : RepH K w H0 S0) (r : RepV K w H0 S0 x (.ref a)) (e : dQ S0 x = some xs) :
    ∃ t, (∃ vs, SqQ t K H0 a vs) ∧ ∀ {H S}, Ext K S0 H0 S H → RepH K w H S → okL x xs S → ∃ vs, SqQ t K H a vs ∧ RepVs K w H S xs vs := by
  cases x with
  | tup ys =>
    simp only [dQ, Option.some.injEq] at e
    subst e
    simp only [RepV] at r
    obtain ⟨b, vs, e2, h2, h3⟩ := r
    cases e2
    exact ⟨true, ⟨vs, h2⟩, fun {H S} ex hh _ => ⟨vs, ex.tup _ _ h2, RepVs.mono ex _ _ h3⟩⟩
  | lst ys =>
    simp only [dQ, Option.some.injEq] at e
    subst e
    simp only [RepV] at r
    obtain ⟨b, vs, e2, h2, h3⟩ := r
    cases e2
    exact ⟨false, ⟨vs, h2.sq⟩, fun {H S} ex hh _ => ⟨vs, (h2.mono ex).sq, RepVs.mono ex _ _ h3⟩⟩
  | ref b =>
    simp only [RepV] at r
    cases r
    simp only [dQ] at e
    split at e
    · rename_i ys q
      cases e
      obtain ⟨vs, g1, g2⟩ := h0 a _ q
      refine ⟨false, ⟨vs, .inl (.inl g1)⟩, fun {H S} ex hh ok => ?_⟩
      obtain ⟨vs', g1, g2⟩ := hh a _ (show S a = some (.lst xs) from ok)
      exact ⟨vs', .inl (.inl g1), g2⟩
    · cases e
  | _ => simp [dQ] at e
theorem src_seq {K : PySem.W.Frag} {w : World} {H0 : Hp} {S0 : Sto} {x : PV} {xs : List PV} {v : V} (h0 : RepH K w H0 S0) (r : RepV K w H0 S0 x v) (e : dQ S0 x = some xs) : ∃ t a, HasQ t K H0 v a ∧ SrcRep K w (itOf t K a) ⟨xs, okL x xs⟩ S0 H0 := by
  obtain ⟨a, vs0, rfl, hl, rs⟩ := dQ_rep h0 r e
  obtain ⟨t, hq, hst⟩ := okL_at (H := H0) (S := S0) h0 r e
  refine ⟨t, a, ⟨rfl, hq⟩, fun i H S ex hh ok hi => ?_, fun i H S ex hh ok hi => ?_, fun i H S x v H' ex hh ok hi hy => ?_, fun hz => ?_⟩
  · obtain ⟨vs, h1, h2⟩ := hst ex hh ok
    have := h2.length
    cases t with
    | true => exact ⟨vs, h1, by have hi : xs.length = i := hi; omega⟩
    | false => exact ⟨vs, h1, by have hi : xs.length = i := hi; omega⟩
  · obtain ⟨vs, h1, h2⟩ := hst ex hh ok
    have hl := h2.length
    have hi : i < xs.length := hi
    have g : vs[i]? = some vs[i] := List.getElem?_eq_getElem (by omega)
    cases t with
    | true => exact ⟨vs, _, h1, g⟩
    | false => exact ⟨vs, _, h1, g⟩
  · obtain ⟨vs, h1, h2⟩ := hst ex hh ok
    obtain ⟨u, g1, g2⟩ := h2.get hi
    cases t with
    | true =>
      obtain ⟨rfl, y⟩ := hy
      have := (y vs h1).symm.trans g1
      cases this
      exact ⟨g2, hh, Ext.refl⟩
    | false =>
      obtain ⟨rfl, y⟩ := hy
      have := (y vs h1).symm.trans g1
      cases this
      exact ⟨g2, hh, Ext.refl⟩
  · show xs.length ≤ sizeLine
    rw [rs.length]
    exact hz a vs0 hl
theorem enumP_len : ∀ (xs : List PV) (n : Nat), (enumP n xs).length = xs.length
  | [], _ => rfl
  | x :: xs, n => by simp [enumP, enumP_len xs]
theorem enumP_get : ∀ (xs : List PV) (n i : Nat), (enumP n xs)[i]? = (xs[i]?).map fun x => PV.tup [.int ((n + i : Nat) : Int), x]
  | [], _, _ => by simp [enumP]
  | x :: xs, n, 0 => by simp [enumP]
  | x :: xs, n, i + 1 => by
    simp only [enumP, List.getElem?_cons_succ]
    rw [enumP_get xs (n + 1) i]
    have : n + 1 + i = n + (i + 1) := by omega
    rw [this]
theorem src_enum {K : PySem.W.Frag} {w : World} {H0 : Hp} {S0 : Sto} {x : PV} {xs : List PV} {v : V} (h0 : RepH K w H0 S0) (r : RepV K w H0 S0 x v) (e : dQ S0 x = some xs) : ∃ t a, HasQ t K H0 v a ∧ SrcRep K w (Iteq t K a) ⟨enumP 0 xs, okL x xs⟩ S0 H0 := by
  obtain ⟨a, vs0, rfl, hl, rs⟩ := dQ_rep h0 r e
  obtain ⟨t, hq, hst⟩ := okL_at (H := H0) (S := S0) h0 r e
  refine ⟨t, a, ⟨rfl, hq⟩, fun i H S ex hh ok hi => ?_, fun i H S ex hh ok hi => ?_, fun i H S x v H' ex hh ok hi hy => ?_, fun hz => ?_⟩
  · obtain ⟨vs, h1, h2⟩ := hst ex hh ok
    have hi : (enumP 0 xs).length = i := hi
    rw [enumP_len] at hi
    exact ⟨vs, h1, h2.length.symm.trans hi⟩
  · obtain ⟨vs, h1, h2⟩ := hst ex hh ok
    have hl := h2.length
    have hi : i < (enumP 0 xs).length := hi
    rw [enumP_len] at hi
    exact ⟨vs, _, h1, List.getElem?_eq_getElem (by omega)⟩
  · obtain ⟨vs, h1, h2⟩ := hst ex hh ok
    have hi : (enumP 0 xs)[i]? = some x := hi
    rw [enumP_get] at hi
    obtain ⟨z, hz, rfl⟩ := Option.map_eq_some_iff.mp hi
    obtain ⟨u, g1, g2⟩ := h2.get hz
    obtain ⟨T, u', rfl, hT, rfl, y⟩ := hy
    have := (y vs h1).symm.trans g1
    cases this
    have ex2 : Ext K S H S (upd H T (.tup [.int (i : Nat), u])) := Ext.new hT
    refine ⟨RepV.tup_of (SqT.of upd_same) (.cons (by simp only [RepV, Nat.zero_add]) (.cons (RepV.mono ex2 _ _ g2) .nil)), hh.new hT, ex2⟩
  · show (enumP 0 xs).length ≤ sizeLine
    rw [enumP_len, rs.length]
    exact hz a vs0 hl
theorem zipP_len : ∀ (xs ys : List PV), (zipP xs ys).length = min xs.length ys.length
  | [], ys => by simp [zipP]
  | x :: xs, [] => by simp [zipP]
  | x :: xs, y :: ys => by
    simp only [zipP, List.length_cons, zipP_len xs ys]
    omega
theorem zipP_get : ∀ (xs ys : List PV) (i : Nat) (z : PV), (zipP xs ys)[i]? = some z → ∃ x y, xs[i]? = some x ∧ ys[i]? = some y ∧ z = .tup [x, y]
  | [], _, _, _, h => by simp [zipP] at h
  | x :: xs, [], _, _, h => by simp [zipP] at h
  | x :: xs, y :: ys, 0, z, h => by
    simp [zipP] at h
    exact ⟨x, y, rfl, rfl, h.symm⟩
  | x :: xs, y :: ys, i + 1, z, h => by
    simp only [zipP, List.getElem?_cons_succ] at h
    exact zipP_get xs ys i z h
theorem src_zip {K : PySem.W.Frag} {w : World} {H0 : Hp} {S0 : Sto} {x y : PV} {xs ys : List PV} {v u : V} (h0 : RepH K w H0 S0) (r : RepV K w H0 S0 x v) (r2 : RepV K w H0 S0 y u) (e : dQ S0 x = some xs) (e2 : dQ S0 y = some ys) :
    ∃ t t2 a b, HasQ t K H0 v a ∧ HasQ t2 K H0 u b ∧ SrcRep K w (Itzq t t2 K a b) ⟨zipP xs ys, fun S => okL x xs S ∧ okL y ys S⟩ S0 H0 := by
  obtain ⟨a, vs0, rfl, hl, rs⟩ := dQ_rep h0 r e
  obtain ⟨b, us0, rfl, hl2, rs2⟩ := dQ_rep h0 r2 e2
  obtain ⟨t, hq, hst⟩ := okL_at (H := H0) (S := S0) h0 r e
  obtain ⟨t2, hq2, hst2⟩ := okL_at (H := H0) (S := S0) h0 r2 e2
  refine ⟨t, t2, a, b, ⟨rfl, hq⟩, ⟨rfl, hq2⟩, fun i H S ex hh ok hi => ?_, fun i H S ex hh ok hi => ?_, fun i H S x v H' ex hh ok hi hy => ?_, fun hz => ?_⟩
  · obtain ⟨vs, h1, h2⟩ := hst ex hh ok.1
    obtain ⟨us, h3, h4⟩ := hst2 ex hh ok.2
    have hi : (zipP xs ys).length = i := hi
    rw [zipP_len] at hi
    exact ⟨vs, us, h1, h3, by rw [← h2.length, ← h4.length]; exact hi⟩
  · obtain ⟨vs, h1, h2⟩ := hst ex hh ok.1
    obtain ⟨us, h3, h4⟩ := hst2 ex hh ok.2
    have hi : i < (zipP xs ys).length := hi
    rw [zipP_len] at hi
    have l1 := h2.length
    have l2 := h4.length
    exact ⟨vs, us, _, _, h1, h3, List.getElem?_eq_getElem (by omega), List.getElem?_eq_getElem (by omega)⟩
  · obtain ⟨vs, h1, h2⟩ := hst ex hh ok.1
    obtain ⟨us, h3, h4⟩ := hst2 ex hh ok.2
    obtain ⟨x1, y1, e1, e2, rfl⟩ := zipP_get _ _ _ _ hi
    obtain ⟨z1, g1, g2⟩ := h2.get e1
    obtain ⟨z2, g3, g4⟩ := h4.get e2
    obtain ⟨T, w1, w2, rfl, hT, eH, q1, q2⟩ := hy
    subst eH
    have z5 := (q1 vs h1).symm.trans g1
    have z6 := (q2 us h3).symm.trans g3
    obtain rfl : w1 = z1 := Option.some.inj z5
    obtain rfl : w2 = z2 := Option.some.inj z6
    have ex2 : Ext K S H S (upd H T (.tup [w1, w2])) := Ext.new hT
    exact ⟨RepV.tup_of (SqT.of upd_same) (.cons (RepV.mono ex2 _ _ g2) (.cons (RepV.mono ex2 _ _ g4) .nil)), hh.new hT, ex2⟩
  · show (zipP xs ys).length ≤ sizeLine
    rw [zipP_len]
    have := hz a vs0 hl
    rw [rs.length]
    omega
theorem rngP_len (lo : Int) (n : Nat) : (rngP lo n).length = n := by simp [rngP]
theorem rngP_get {lo : Int} {n i : Nat} {x : PV} (h : (rngP lo n)[i]? = some x) : i < n ∧ x = .int (lo + i) := by
  unfold rngP at h
  rw [List.getElem?_map] at h
  obtain ⟨j, hj, rfl⟩ := Option.map_eq_some_iff.mp h
  have hi := (List.getElem?_eq_some_iff.mp hj).1
  rw [List.getElem?_range (by simpa using hi)] at hj
  cases hj
  exact ⟨by simpa using hi, rfl⟩
theorem src_rng {K : PySem.W.Frag} {w : World} {H0 : Hp} {S0 : Sto} {lo : Int} {n : Nat} (hn : n ≤ sizeLine) : SrcRep K w (Itr lo n) ⟨rngP lo n, fun _ => True⟩ S0 H0 := by
  refine ⟨fun i H S ex hh ok hi => ?_, fun i H S ex hh ok hi => ?_, fun i H S x v H' ex hh ok hi hy => ?_, fun hz => ?_⟩
  · have hi : (rngP lo n).length = i := hi
    rw [rngP_len] at hi
    exact Nat.le_of_eq hi
  · have hi : i < (rngP lo n).length := hi
    rw [rngP_len] at hi
    exact hi
  · obtain ⟨rfl, rfl⟩ := hy
    obtain ⟨_, rfl⟩ := rngP_get hi
    exact ⟨by simp only [RepV], hh, Ext.refl⟩
  · show (rngP lo n).length ≤ sizeLine
    rw [rngP_len]
    exact hn
theorem rngP_rev {lo : Int} {n i : Nat} {x : PV} (h : (rngP lo n).reverse[i]? = some x) : i < n ∧ x = .int (lo + (n : Int) - 1 - (i : Int)) := by
  have hi := (List.getElem?_eq_some_iff.mp h).1
  rw [List.length_reverse, rngP_len] at hi
  rw [List.getElem?_reverse (by rw [rngP_len]; exact hi), rngP_len] at h
  obtain ⟨_, rfl⟩ := rngP_get h
  exact ⟨hi, by congr 1; omega⟩
theorem src_rev {K : PySem.W.Frag} {w : World} {H0 : Hp} {S0 : Sto} {j : Int} (hn : j.toNat ≤ sizeLine) : SrcRep K w (Itc (0 + (((j - 0).toNat : Nat) : Int) - 1) (-1) (j - 0).toNat) ⟨(rngP 0 j.toNat).reverse, fun _ => True⟩ S0 H0 := by
  have e : (j - 0).toNat = j.toNat := by rw [Int.sub_zero]
  rw [e]
  refine ⟨fun i H S ex hh ok hi => ?_, fun i H S ex hh ok hi => ?_, fun i H S x v H' ex hh ok hi hy => ?_, fun hz => ?_⟩
  · have hi : (rngP 0 j.toNat).reverse.length = i := hi
    rw [List.length_reverse, rngP_len] at hi
    exact Nat.le_of_eq hi
  · have hi : i < (rngP 0 j.toNat).reverse.length := hi
    rw [List.length_reverse, rngP_len] at hi
    exact hi
  · obtain ⟨rfl, rfl⟩ := hy
    obtain ⟨_, rfl⟩ := rngP_rev hi
    refine ⟨?_, hh, Ext.refl⟩
    simp only [RepV]
    congr 1
    omega
  · show (rngP 0 j.toNat).reverse.length ≤ sizeLine
    rw [List.length_reverse, rngP_len]
    exact hn
end
end DL
end
section
set_option maxRecDepth 100000
set_option maxHeartbeats 2000000
/-! Soundness: expressions. -/
namespace DL
open PySem PySem.Spec L2
open PyProof.Rows hiding St

section
variable {K : PySem.W.Frag} {w : World} {mg : Mg} {W : WX}
theorem tOp_up {ca cb : CEf} {f : PV → PV → Sto → Post → Prop} {τ : L2.St} {H : Hp} {Q : VK}
    (h : upE K w mg W (fun σ S Q E => ca σ S (fun x S1 => cb σ S1 (fun y S2 => f x y S2 Q) E) E) τ H Q) : tOp (rUp2 K w f) (upE K w mg W ca) (upE K w mg W cb) τ H Q := by
  obtain ⟨σ, S, Q', E', hs, hh, hc, hq, hx⟩ := h
  refine ⟨σ, S, _, E', hs, hh, hc, fun x H1 x' S1 rx hh1 e1 hb => ?_, hx⟩
  refine ⟨σ, S1, _, E', hs.mono e1, hh1, hb, fun y H2 y' S2 ry hh2 e2 hf => ?_, hx.mono e1⟩
  exact ⟨x', y', S2, Q', RepV.mono e2 _ _ rx, ry, hh2, hf, hq.mono (e1.trans e2)⟩
/-- a value that is a bool -/
def qB (Q : Bool → Sto → Prop) : Post := fun v S => match v with
  | .bl k => Q k S
  | _ => False
theorem tTest_up {ca cb : CEf} {o : COp} {τ : L2.St} {H : Hp} {Q : Bool → Hp → Prop}
    (h : upT K w mg W (fun σ S Q E => ca σ S (fun x S1 => cb σ S1 (fun y S2 => cmpD o x y S2 fun k => Q k S2) E) E) τ H Q) : tTest (tOp (rUp2 K w (cmpP o)) (upE K w mg W ca) (upE K w mg W cb)) τ H Q := by
  obtain ⟨σ, S, Q', E', hs, hh, hc, hq, hx⟩ := h
  refine ⟨σ, S, _, E', hs, hh, hc, fun x H1 x' S1 rx hh1 e1 hb => ?_, hx⟩
  refine ⟨σ, S1, _, E', hs.mono e1, hh1, hb, fun y H2 y' S2 ry hh2 e2 hf => ?_, hx.mono e1⟩
  refine ⟨x', y', S2, qB Q', RepV.mono e2 _ _ rx, ry, hh2, hf, fun v H' v' S' rv hh' e' q => ?_⟩
  cases v' <;> simp only [qB] at q
  simp only [RepV] at rv
  exact ⟨_, rv, hq _ _ _ hh' (e1.trans (e2.trans e')) q⟩
end

/-! ### the table of built-ins and methods -/
theorem biOf_boot {x : Str} {n : Nat} {b : Bi} (h : biOf x n = some b) : bootBuiltins x = some (biV b) ∧ x ≠ "__name__" ∧ ((∃ id, biV b = .builtin id) ∨ ∃ T, biV b = .type T) := by
  have h := biOf_mem h
  simp only [biTab, List.mem_cons, Prod.mk.injEq, List.not_mem_nil, or_false] at h
  rcases h with ⟨rfl, rfl, rfl⟩ | ⟨rfl, rfl, rfl⟩ | ⟨rfl, rfl, rfl⟩ | ⟨rfl, rfl, rfl⟩ | ⟨rfl, rfl, rfl⟩ | ⟨rfl, rfl, rfl⟩ | ⟨rfl, rfl, rfl⟩ | ⟨rfl, rfl, rfl⟩ | ⟨rfl, rfl, rfl⟩ | ⟨rfl, rfl, rfl⟩ | ⟨rfl, rfl, rfl⟩ | ⟨rfl, rfl, rfl⟩ | ⟨rfl, rfl, rfl⟩ <;>
    exact ⟨rfl, by decide, by first | exact .inl ⟨_, rfl⟩ | exact .inr ⟨_, rfl⟩⟩
theorem meOf_facts {x : Str} {n : Nat} {c : Me} (h : meOf x n = some c) : PlainAttrs (meT c) ∧ Slot (meT c) x (meI c) ∧ typeOf (.builtin (meI c)) = pure (.type "method_descriptor") := by
  have h := meOf_mem h
  simp only [meTab, List.mem_cons, Prod.mk.injEq, List.not_mem_nil, or_false] at h
  rcases h with ⟨rfl, rfl, rfl⟩ | ⟨rfl, rfl, rfl⟩ | ⟨rfl, rfl, rfl⟩ | ⟨rfl, rfl, rfl⟩ | ⟨rfl, rfl, rfl⟩ | ⟨rfl, rfl, rfl⟩ | ⟨rfl, rfl, rfl⟩ | ⟨rfl, rfl, rfl⟩ | ⟨rfl, rfl, rfl⟩ | ⟨rfl, rfl, rfl⟩ | ⟨rfl, rfl, rfl⟩
  · exact ⟨PySem.F.plainAttrs_list, PySem.F.slot_list_append, PySem.F.type_list_append⟩
  · exact ⟨PySem.F.plainAttrs_list, PySem.F.slot_list_extend, PySem.F.type_list_extend⟩
  · exact ⟨PySem.F.plainAttrs_list, PySem.F.slot_list_pop, PySem.F.type_list_pop⟩
  · exact ⟨PySem.F.plainAttrs_list, PySem.F.slot_list_insert, PySem.F.type_list_insert⟩
  · exact ⟨PySem.F.plainAttrs_list, PySem.F.slot_list_clear, PySem.F.type_list_clear⟩
  · exact ⟨PySem.F.plainAttrs_list, PySem.F.slot_list_reverse, PySem.F.type_list_reverse⟩
  · exact ⟨PySem.F.plainAttrs_list, PySem.F.slot_list_pop, PySem.F.type_list_pop⟩
  · exact ⟨PySem.F.plainAttrs_dict, PySem.F.slot_dict_get, PySem.F.type_dict_get⟩
  · exact ⟨PySem.F.plainAttrs_dict, PySem.F.slot_dict_get, PySem.F.type_dict_get⟩
  · exact ⟨PySem.F.plainAttrs_dict, PySem.F.slot_dict_setdefault, PySem.F.type_dict_setdefault⟩
  · exact ⟨PySem.F.plainAttrs_list, PySem.F.slot_list_index, PySem.F.type_list_index⟩
theorem back_plain : ∀ {es : List Expr} {env : Env} {pos : Pos}, es.all noStar = true → (backTo pos (starEach es env)).any (·.1) = false ∧ (backTo pos (starEach es env)).all (fun x => !x.1) = true := fun {es env pos} h => by
  rw [star_ok h]
  unfold backTo
  refine ⟨?_, ?_⟩
  · rw [List.map_map, List.any_map]
    simp
  · rw [List.map_map, List.all_map]
    simp
theorem base_plain {o : Expr} {attr : Str} {env : Env} (h : noSup o = true) : attributeBase o attr env (eval o env) = eval o env := by
  cases o <;> first
    | rfl
    | (rename_i f args kws pos
       cases f <;> first
         | rfl
         | (cases args <;> first
             | rfl
             | (cases kws <;> first
                 | rfl
                 | (simp [noSup] at h; done))))
theorem noSet_fold {e : Expr} {env : Env} (h : noSet e = true) : ∀ x, foldedSetIterable e env x = pure x := by
  intro x
  cases e <;> first | rfl | (simp [noSet] at h; done)
theorem noSlice_ix {b : Expr} (h : noSlice b = true) : PlainIx b := by
  intro o i
  cases b <;> first | rfl | (simp [noSlice] at h; done)

section
variable {X : Cx} {Γ : Gam} {G : GE} {k : Nat} {W : WX}
/-- a block runs in a context like that of its def -/
theorem Ok.block (ok : Ok X Γ G k W) {scope : Scope} {own : List (Str × Nat)} (hb : BlkOk Γ.N (scOf Γ) scope own) (s : Shared) (H : Hp) (C : Addr) (cl : List (Str × Addr)) (fp : List Addr) :
    Ok (X.blk s H scope (compEnvC scope cl C X.env) fp) (Γ.block scope) G k (fun _ _ _ _ => False) := by
  have hsc : (compEnvC scope cl C X.env).scope = relS scope X.env.scope := rfl
  have hn : (relS scope X.env.scope).names = (relS scope (scOf Γ)).names := by
    unfold relS scOf
    simp only [ok.sc, ok.kd]
  refine ⟨ok.N, ok.nd, ?_, ?_, ok.calm, ok.room, fun x hx => ?_, ok.fns, ok.free, ok.cst, takes_none5⟩
  · show (compEnvC scope cl C X.env).scope.names = _
    rw [hsc, hn]
    rfl
  · show (compEnvC scope cl C X.env).scope.kind = _
    rw [hsc]
    exact hb.kind
  · unfold Gam.fnc at hx
    simp only [Gam.block, Bool.or_eq_true, beq_iff_eq] at hx
    rcases hx with hx | hx
    · right
      show (compEnvC scope cl C X.env).scope.names.lookup x = _
      rw [hsc, hn]
      exact hx
    · left
      show (scope.names.lookup x == some NameKind.cell) = true
      rw [hx]
      rfl
theorem Ok.blkOk (ok : Ok X Γ G k W) {scope : Scope} {own : List (Str × Nat)} (hb : BlkOk Γ.N (scOf Γ) scope own) : BlkOk X.N X.env.scope scope own :=
  ⟨hb.kind, hb.uniq, fun p hp => by rw [ok.N]; exact hb.ix p hp, fun y hy e => by
    have := hb.free y hy e
    rw [ok.sc]
    exact this, fun y hy e => by rw [ok.N]; exact hb.own y hy e⟩

/-- isinstance with types -/
theorem isi_one : CallR X (.builtin "isinstance") (fun xs H Q => ∃ x' S Q' t v c, xs = [v, .ty c] ∧ c ∈ clsNames ∧ RepV X.K X.w H S x' v ∧ RepH X.K X.w H S ∧ tyP S x' = some t ∧ Q' (.bl (isT t c)) S ∧ kV X.K X.w S H Q' Q) := by
  intro pins s σ H xs us Q I r h
  obtain ⟨x', S, Q', t, v, c, rfl, hc, rv, hh, ht, hq, k⟩ := h
  obtain ⟨u1, u2, rfl, r1, r2⟩ := vals2 r
  cases (show u2 = Value.type c from r2)
  obtain ⟨P, Z, p, hx⟩ := kit_rep I hh rv r1 ht
  exact PySem.W.kia_one Z I.kIn p (kit_isT ht hc) (hx _) fun tk => ⟨.bl _, H, I.tok tk, rfl, k _ _ (.bl _) S (by simp only [RepV]) hh Ext.refl hq⟩
theorem kitAny_isT {K : PySem.W.Frag} {S : Sto} {x : PV} {t : String} (e : tyP S x = some t) : ∀ {cs : List String}, (∀ c ∈ cs, c ∈ clsNames) → PySem.W.kitAny K (.type t) (cs.map Value.type) = some (cs.any (isT t))
  | [], _ => rfl
  | c :: cs, h => by
    rw [List.map_cons, List.any_cons]
    unfold PySem.W.kitAny
    rw [kit_isT e (h c (by simp))]
    cases q : isT t c with
    | true => rfl
    | false =>
      show PySem.W.kitAny K (.type t) (cs.map Value.type) = _
      rw [kitAny_isT e fun c hc => h c (by simp [hc])]
      rfl
theorem vals_ty : ∀ {cs : List String} {us : List Value}, Vals (cs.map V.ty) us → us = cs.map Value.type
  | [], _, .nil => rfl
  | c :: cs, _, .cons r t => by
    rw [List.map_cons, ← vals_ty t]
    exact congrArg (· :: _) r
theorem isi_many : CallR X (.builtin "isinstance") (fun xs H Q => ∃ (x' : PV) (S : Sto) (Q' : Post) (t : String) (v : V) (tp : Addr) (cs : List String), xs = [v, .ref tp] ∧ H tp = some (.tup (cs.map V.ty)) ∧ (∀ c ∈ cs, c ∈ clsNames) ∧ RepV X.K X.w H S x' v ∧ RepH X.K X.w H S ∧ tyP S x' = some t ∧ Q' (.bl (cs.any (isT t))) S ∧ kV X.K X.w S H Q' Q) := by
  intro pins s σ H xs us Q I r h
  obtain ⟨x', S, Q', t, v, tp, cs, rfl, hT, hc, rv, hh, ht, hq, k⟩ := h
  obtain ⟨u1, u2, rfl, r1, r2⟩ := vals2 r
  cases (show u2 = Value.ref tp from r2)
  obtain ⟨P, Z, p, hx⟩ := kit_rep I hh rv r1 ht
  obtain ⟨_, its, rvs, o, h1, h2, n, h3⟩ := (show ObjOk X.prog X.w H s.heap tp (.tup (cs.map V.ty)) from I.hok tp _ hT)
  have e3 := vals_ty rvs
  subst e3
  obtain ⟨oc, od, dt, sl⟩ := o
  simp only at h2 h3
  subst h2 h3
  exact PySem.W.kia_tup Z I.kIn p h1 (kitAny_isT ht hc) (hx _) fun tk => ⟨.bl _, H, I.tok tk, rfl, k _ _ (.bl _) S (by simp only [RepV]) hh Ext.refl hq⟩
/-- written types as values -/
theorem tys_pa (ok : Ok X Γ G k W) : ∀ {es : List Expr} {ts : List String}, tysOf Γ es = some ts → (∀ c ∈ ts, c ∈ clsNames) ∧ PA X es (fun _ H Q => Q (ts.map V.ty) H)
  | [], ts, h => by
    simp only [tysOf, Option.some.injEq] at h
    subst h
    exact ⟨fun c hc => by simp at hc, pa_nil⟩
  | e :: es, ts, h => by
    cases e <;> simp only [tysOf, reduceCtorEq] at h
    rename_i x p
    split at h
    · rename_i hb
      split at h
      · rename_i t ts' q1 q2
        cases h
        obtain ⟨g1, g2, g3⟩ := bi_split hb
        obtain ⟨h1, h2⟩ := tyOf_mem q1
        obtain ⟨h3, h4⟩ := tys_pa ok q2
        have hn : x ≠ "__name__" := by
          intro e
          rw [e, show tyOf ("__name__" : Str) = none from by decide] at q1
          cases q1
        refine ⟨fun c hc => ?_, PA.imp (pa_cons (pe_bltn (v := .ty t) (ok.glob g1) (ok.free x g2) h2 rfl hn g3) h4 (by rfl)) fun τ H Q q => q⟩
        rcases List.mem_cons.mp hc with hc | hc
        · rw [hc]; exact h1
        · exact h3 c hc
      · cases h
    · cases h

/-- an expression whose test is its value's truth -/
def isTst : Expr → Bool
  | .UnaryOp .Not _ _ => false
  | .BoolOp _ _ _ => false
  | _ => true
/-- a value's truth -/
def wpV (G : GE) (c : CE) (σ : Sl) (S : Sto) (Q : Bool → Sto → Prop) (E : XPost) : Prop := wpE G c σ S (fun x S1 => truD x S1 fun b => Q b S1) E
structure Snd (G : GE) (k n : Nat) : Prop where
  e : ∀ {Γ : Gam} {e : Expr} {c : CE}, compE n Γ e = some c → ∀ {X : Cx} {W : WX}, Ok X Γ G k W → PE X e (upE X.K X.w X.mg W (wpE G c)) ∧ (isTst e = true → PT X e (upT X.K X.w X.mg W (wpV G c)))
  es : ∀ {Γ : Gam} {es : List Expr} {c : CEs}, compEs n Γ es = some c → es.all noStar = true → ∀ {X : Cx} {W : WX}, Ok X Γ G k W → PA X es (upA X.K X.w X.mg W es.length (wpEs G c))
  l : ∀ {Γ : Gam} {ops : List CmpOp} {es : List Expr} {c : CCs}, compL n Γ ops es = some c → ∀ {X : Cx} {W : WX}, Ok X Γ G k W →
    ∀ (pos : Pos) (pins : List (Addr × Obj)) (s : Shared) (τ : L2.St) (H : Hp) (x : V) (v : Value) (x' : PV) (σ : Sl) (S : Sto) (E' : XPost), Inv X pins τ H s → RelV x v → RepV X.K X.w H S x' x → RepSt X.K X.w H S σ τ → RepH X.K X.w H S → kX X.K X.w X.mg S H τ E' W →
      (∀ (Q' : Post) (Q : VK), wpL G c x' σ S Q' E' → kV X.K X.w S H Q' Q → wpAny (model X.prog X.w) X.A (compareChain pos v ops (evalEach es X.env)) (EP X pins τ Q) X.xe s) ∧
      (∀ (Q' : Bool → Sto → Prop) (Q : Bool → Hp → Prop), wpL G c x' σ S (qB Q') E' → (∀ b H' S', RepH X.K X.w H' S' → Ext X.K S H S' H' → Q' b S' → Q b H') → wpAny (model X.prog X.w) X.A (testChain pos v ops (evalEach es X.env)) (TP X pins τ Q) X.xe s)
  b : ∀ {Γ : Gam} {op : BoolOp} {es : List Expr} {c : CE}, compB n Γ op es = some c → ∀ {X : Cx} {W : WX}, Ok X Γ G k W → ∀ pos, PE X (.BoolOp op es pos) (upE X.K X.w X.mg W (wpE G c))
  t : ∀ {Γ : Gam} {e : Expr} {c : CT}, compT n Γ e = some c → ∀ {X : Cx} {W : WX}, Ok X Γ G k W → PT X e (upT X.K X.w X.mg W (wpT G c))
  tb : ∀ {Γ : Gam} {op : BoolOp} {es : List Expr} {c : CT}, compTB n Γ op es = some c → ∀ {X : Cx} {W : WX}, Ok X Γ G k W → ∀ pos, PW X (.BoolOp op es pos) (upT X.K X.w X.mg W (wpT G c))
  o : ∀ {Γ : Gam} {e : Option Expr} {c : CO}, compO n Γ e = some c → ∀ {X : Cx} {W : WX}, Ok X Γ G k W → PO X e (upO X.K X.w X.mg W (wpO G c))
  f : ∀ {Γ : Gam} {es : List Expr} {c : COT}, compF n Γ es = some c → ∀ {X : Cx}, Ok X Γ G k (fun _ _ _ _ => False) → PTs X es (upT X.K X.w X.mg (fun _ _ _ _ => False) fun σ S Q _ => wpC G c σ S Q)
  i : ∀ {Γ : Gam} {e : Expr} {tp : Bool} {c : CI}, compI n Γ tp e = some c → ∀ {tg : Expr}, (tp = true → isTupE tg = true) → ∀ {X : Cx} {W : WX}, Ok X Γ G k W → PI X tg e (upI X.K X.w X.mg W (wpI G c))

/-- a plain expression as a test -/
theorem plain_t {e : Expr} {c : CE} (h : PE X e (upE X.K X.w X.mg W (wpE G c))) (he : ∀ whole, isTrue e X.env whole = (do let v ← whole; standAt e.pos; holding [v] (truthy v))) : PT X e (upT X.K X.w X.mg W (wpV G c)) := by
  refine PT.imp (pt_truth h he) fun τ H Q q => ?_
  obtain ⟨σ, S, Q', E', hs, hh, hc, hq, hx⟩ := q
  refine ⟨σ, S, _, E', hs, hh, hc, fun v H' v' S' rv hh' e' q => ?_, hx⟩
  obtain ⟨kk, h1, h2⟩ := tru_rep hh' rv q
  exact ⟨kk, h1, hq _ _ _ hh' e' h2⟩
end
end DL
end
section
set_option maxRecDepth 100000
set_option maxHeartbeats 2000000
/-! Soundness: expressions, case by case. -/
namespace DL
open PySem PySem.Spec L2
open PyProof.Rows hiding St

section
variable {K : PySem.W.Frag} {w : World} {mg : Mg} {W : WX} {G : GE}
theorem upE_one {f : PV → Sto → Post → Prop} {ca : CEf} {r : V → Hp → VK → Prop} {τ : L2.St} {H : Hp} {Q : VK}
    (h : upE K w mg W (fun σ S Q E => ca σ S (fun x S1 => f x S1 Q) E) τ H Q) (hr : ∀ x x' S H Q' Q, RepV K w H S x' x → RepH K w H S → f x' S Q' → kV K w S H Q' Q → r x H Q) :
    upE K w mg W ca τ H fun x H1 => r x H1 Q := by
  obtain ⟨σ, S, Q', E', hs, hh, hc, hq, hx⟩ := h
  exact ⟨σ, S, _, E', hs, hh, hc, fun x H1 x' S1 rx hh1 e1 q => hr x x' S1 H1 Q' Q rx hh1 q (hq.mono e1), hx⟩
theorem kV.frz {S : Sto} {H : Hp} {Q' : Post} {Q : VK} (m : Bool) (k : kV K w S H Q' Q) : kV K w S H (frzQ m Q') Q := fun v H' v' S' r hh e q => by
  cases m with
  | true => exact k v H' v' S' r hh e q
  | false =>
    cases v' with
    | ref p =>
      simp only [frzQ] at q
      simp only [RepV] at r
      subst r
      split at q
      · rename_i xs e1
        exact k _ H' _ _ (hh.frz e1) hh.del (e.trans Ext.del) q
      · rename_i ks xs e1
        exact k _ H' _ _ (hh.frzD e1) hh.del (e.trans Ext.del) q
      · exact k _ H' _ _ (by simp only [RepV]) hh e q
    | _ => exact k v H' _ S' r hh e q
theorem tCons_up {n : Nat} {ce : CE} {ces : CEs} {τ : L2.St} {H : Hp} {Q : List V → Hp → Prop} (h : upA K w mg W (n + 1) (wpEs G (.cons ce ces)) τ H Q) :
    tCons (upE K w mg W (wpE G ce)) (upA K w mg W n (wpEs G ces)) τ H Q := by
  obtain ⟨σ, S, Q', E', hs, hh, hc, hq, hx⟩ := h
  simp only [wpEs] at hc
  refine ⟨σ, S, _, E', hs, hh, hc, fun x H1 x' S1 rx hh1 e1 h1 => ?_, hx⟩
  exact ⟨σ, S1, _, E', hs.mono e1, hh1, h1, fun vs H2 vs' S2 hl rv hh2 e2 h2 => hq (x :: vs) H2 (x' :: vs') S2 (by rw [List.length_cons, hl]) (.cons (RepV.mono e2 _ _ rx) rv) hh2 (e1.trans e2) h2, hx.mono e1⟩
theorem wpL_tru : ∀ (c : CCs) (x : PV) (σ : Sl) (S : Sto) (Q : Bool → Sto → Prop) (E : XPost), wpL G c x σ S (fun v S => truD v S fun b => Q b S) E = wpL G c x σ S (qB Q) E
  | .one o e, x, σ, S, Q, E => by
    simp only [wpL]
    rfl
  | .more o e l, x, σ, S, Q, E => by
    simp only [wpL]
    congr 1
    funext y S2
    congr 1
    funext k
    cases k with
    | true => exact wpL_tru l y σ S2 Q E
    | false => rfl
end

section
variable {X : Cx} {Γ : Gam} {G : GE} {k n : Nat} {W : WX}
theorem snd_es (ih : Snd G k n) {es : List Expr} {c : CEs} (h : compEs (n + 1) Γ es = some c) (hs : es.all noStar = true) (ok : Ok X Γ G k W) : PA X es (upA X.K X.w X.mg W es.length (wpEs G c)) := by
  cases es with
  | nil =>
    simp only [compEs, Option.some.injEq] at h
    subst h
    refine PA.imp pa_nil fun τ H Q q => ?_
    obtain ⟨σ, S, Q', E', hs, hh, hc, hq, hx⟩ := q
    simp only [wpEs] at hc
    exact hq [] H [] S rfl .nil hh Ext.refl hc
  | cons e es =>
    simp only [compEs, Option.bind_eq_bind, Option.bind_eq_some_iff, Option.pure_def, Option.some.injEq] at h
    obtain ⟨ce, h1, ces, h2, rfl⟩ := h
    rw [List.all_cons, Bool.and_eq_true] at hs
    refine PA.imp (pa_cons (ih.e h1 ok).1 (ih.es h2 hs.2 ok) (by rw [star_ok (by rw [List.all_cons, hs.1, hs.2]; rfl), star_ok hs.2]; rfl)) fun τ H Q q => tCons_up q
theorem snd_o (ih : Snd G k n) {e : Option Expr} {c : CO} (h : compO (n + 1) Γ e = some c) (ok : Ok X Γ G k W) : PO X e (upO X.K X.w X.mg W (wpO G c)) := by
  cases e with
  | none =>
    simp only [compO, Option.some.injEq] at h
    subst h
    refine PO.imp po_none fun τ H Q q => ?_
    obtain ⟨σ, S, Q', E', hs, hh, hc, hq, hx⟩ := q
    simp only [wpO] at hc
    exact hq none H S hh Ext.refl hc
  | some e =>
    simp only [compO] at h
    obtain ⟨ce, h1, rfl⟩ := Option.map_eq_some_iff.mp h
    refine PO.imp (po_some (ih.e h1 ok).1) fun τ H Q q => ?_
    obtain ⟨σ, S, Q', E', hs, hh, hc, hq, hx⟩ := q
    simp only [wpO] at hc
    refine ⟨σ, S, _, E', hs, hh, hc, fun x H1 x' S1 rx hh1 e1 h1 => ?_, hx⟩
    cases x' with
    | int i =>
      simp only [RepV] at rx
      exact ⟨i, rx, hq _ _ _ hh1 e1 h1⟩
    | _ => exact h1.elim
theorem snd_f (ih : Snd G k n) {es : List Expr} {c : COT} (h : compF (n + 1) Γ es = some c) (ok : Ok X Γ G k (fun _ _ _ _ => False)) : PTs X es (upT X.K X.w X.mg (fun _ _ _ _ => False) fun σ S Q _ => wpC G c σ S Q) := by
  match es, h with
  | [], h =>
    simp only [compF, Option.some.injEq] at h
    subst h
    refine ⟨fun pins s σ H Q I q => pts_nil.run pins s σ H Q I ?_⟩
    obtain ⟨σ, S, Q', E', hs, hh, hc, hq, hx⟩ := q
    simp only [wpC] at hc
    exact hq true H S hh Ext.refl hc
  | [e], h =>
    simp only [compF] at h
    obtain ⟨ce, h1, rfl⟩ := Option.map_eq_some_iff.mp h
    refine pts_one (PT.imp (ih.t h1 ok) fun τ H Q q => ?_)
    obtain ⟨σ, S, Q', E', hs, hh, hc, hq, hx⟩ := q
    simp only [wpC] at hc
    exact ⟨σ, S, Q', _, hs, hh, hc, hq, kX.none⟩
  | _ :: _ :: _, h => simp [compF] at h
theorem upT_and {ca cb : CT} {τ : L2.St} {H : Hp} {Q : Bool → Hp → Prop} (q : upT X.K X.w X.mg W (wpT G (.and ca cb)) τ H Q) : tAnd (upT X.K X.w X.mg W (wpT G ca)) (upT X.K X.w X.mg W (wpT G cb)) τ H Q := by
  obtain ⟨σ, S, Q', E', hs, hh, hc, hq, hx⟩ := q
  simp only [wpT] at hc
  refine ⟨σ, S, _, E', hs, hh, hc, fun b H1 S1 hh1 e1 q => ?_, hx⟩
  cases b with
  | true => exact ite_tt ⟨σ, S1, Q', E', hs.mono e1, hh1, q, fun b H2 S2 hh2 e2 q2 => hq b H2 S2 hh2 (e1.trans e2) q2, hx.mono e1⟩
  | false => exact ite_ff (hq _ _ _ hh1 e1 q)
theorem upT_or {ca cb : CT} {τ : L2.St} {H : Hp} {Q : Bool → Hp → Prop} (q : upT X.K X.w X.mg W (wpT G (.or ca cb)) τ H Q) : tOr (upT X.K X.w X.mg W (wpT G ca)) (upT X.K X.w X.mg W (wpT G cb)) τ H Q := by
  obtain ⟨σ, S, Q', E', hs, hh, hc, hq, hx⟩ := q
  simp only [wpT] at hc
  refine ⟨σ, S, _, E', hs, hh, hc, fun b H1 S1 hh1 e1 q => ?_, hx⟩
  cases b with
  | true => exact ite_tt (hq _ _ _ hh1 e1 q)
  | false => exact ite_ff ⟨σ, S1, Q', E', hs.mono e1, hh1, q, fun b H2 S2 hh2 e2 q2 => hq b H2 S2 hh2 (e1.trans e2) q2, hx.mono e1⟩
theorem upE_and {ca cb : CE} {τ : L2.St} {H : Hp} {Q : VK} (q : upE X.K X.w X.mg W (wpE G (.and ca cb)) τ H Q) : tAndV (upE X.K X.w X.mg W (wpE G ca)) (upE X.K X.w X.mg W (wpE G cb)) τ H Q := by
  obtain ⟨σ, S, Q', E', hs, hh, hc, hq, hx⟩ := q
  simp only [wpE] at hc
  refine ⟨σ, S, _, E', hs, hh, hc, fun v H1 v' S1 rv hh1 e1 q => ?_, hx⟩
  cases v' with
  | bl b =>
    simp only [RepV] at rv
    refine ⟨b, rv, ?_⟩
    cases b with
    | true => exact ite_tt ⟨σ, S1, Q', E', hs.mono e1, hh1, q, hq.mono e1, hx.mono e1⟩
    | false => exact ite_ff (hq _ _ (.bl false) S1 (by simp only [RepV]) hh1 e1 q)
  | _ => exact q.elim
theorem upE_or {ca cb : CE} {τ : L2.St} {H : Hp} {Q : VK} (q : upE X.K X.w X.mg W (wpE G (.or ca cb)) τ H Q) : tOrV (upE X.K X.w X.mg W (wpE G ca)) (upE X.K X.w X.mg W (wpE G cb)) τ H Q := by
  obtain ⟨σ, S, Q', E', hs, hh, hc, hq, hx⟩ := q
  simp only [wpE] at hc
  refine ⟨σ, S, _, E', hs, hh, hc, fun v H1 v' S1 rv hh1 e1 q => ?_, hx⟩
  cases v' with
  | bl b =>
    simp only [RepV] at rv
    refine ⟨b, rv, ?_⟩
    cases b with
    | true => exact ite_tt (hq _ _ (.bl true) S1 (by simp only [RepV]) hh1 e1 q)
    | false => exact ite_ff ⟨σ, S1, Q', E', hs.mono e1, hh1, q, hq.mono e1, hx.mono e1⟩
  | _ => exact q.elim
theorem snd_b (ih : Snd G k n) {op : BoolOp} {es : List Expr} {c : CE} (h : compB (n + 1) Γ op es = some c) (ok : Ok X Γ G k W) (pos : Pos) : PE X (.BoolOp op es pos) (upE X.K X.w X.mg W (wpE G c)) := by
  match es, h with
  | [], h => simp [compB] at h
  | [e], h =>
    simp only [compB] at h
    exact pe_one (ih.e h ok).1
  | e :: e2 :: es, h =>
    simp only [compB, Option.bind_eq_bind, Option.bind_eq_some_iff, Option.pure_def, Option.some.injEq] at h
    obtain ⟨ce, h1, cs, h2, rfl⟩ := h
    cases op with
    | And => exact PE.imp (pe_and (ih.e h1 ok).1 (ih.b h2 ok pos)) fun τ H Q q => upE_and q
    | Or => exact PE.imp (pe_or (ih.e h1 ok).1 (ih.b h2 ok pos)) fun τ H Q q => upE_or q
theorem snd_tb (ih : Snd G k n) {op : BoolOp} {es : List Expr} {c : CT} (h : compTB (n + 1) Γ op es = some c) (ok : Ok X Γ G k W) (pos : Pos) : PW X (.BoolOp op es pos) (upT X.K X.w X.mg W (wpT G c)) := by
  match es, h with
  | [], h => simp [compTB] at h
  | [e], h =>
    have h' : compT n Γ e = some c := by simpa only [compTB] using h
    cases op with
    | And => exact pw_and1 (ih.t h' ok)
    | Or => exact pw_or1 (ih.t h' ok)
  | e :: e2 :: es, h =>
    simp only [compTB, Option.bind_eq_bind, Option.bind_eq_some_iff, Option.pure_def, Option.some.injEq] at h
    obtain ⟨ce, h1, cs, h2, rfl⟩ := h
    cases op with
    | And => exact PW.imp (pw_and (ih.t h1 ok) (ih.tb h2 ok pos)) fun τ H Q q => upT_and q
    | Or => exact PW.imp (pw_or (ih.t h1 ok) (ih.tb h2 ok pos)) fun τ H Q q => upT_or q
theorem upT_tst {c : CE} {e : Expr} (h : PT X e (upT X.K X.w X.mg W (wpV G c))) : PT X e (upT X.K X.w X.mg W (wpT G (.tst c))) := by
  refine PT.imp h fun τ H Q q => ?_
  obtain ⟨σ, S, Q', E', hs, hh, hc, hq, hx⟩ := q
  simp only [wpT] at hc
  exact ⟨σ, S, Q', E', hs, hh, hc, hq, hx⟩
theorem snd_t (ih : Snd G k n) {e : Expr} {c : CT} (h : compT (n + 1) Γ e = some c) (ok : Ok X Γ G k W) : PT X e (upT X.K X.w X.mg W (wpT G c)) := by
  have base : isTst e = true → (compE n Γ e).map CT.tst = some c → PT X e (upT X.K X.w X.mg W (wpT G c)) := fun hi h => by
    obtain ⟨ce, h1, rfl⟩ := Option.map_eq_some_iff.mp h
    exact upT_tst ((ih.e h1 ok).2 hi)
  cases e with
  | UnaryOp op a pos =>
    cases op with
    | Not =>
      simp only [compT] at h
      obtain ⟨ce, h1, rfl⟩ := Option.map_eq_some_iff.mp h
      refine PT.imp (pt_not (ih.t h1 ok)) fun τ H Q q => ?_
      obtain ⟨σ, S, Q', E', hs, hh, hc, hq, hx⟩ := q
      simp only [wpT] at hc
      exact ⟨σ, S, _, E', hs, hh, hc, fun b H1 S1 hh1 e1 q => hq _ _ _ hh1 e1 q, hx⟩
    | _ => exact base rfl (by simpa only [compT] using h)
  | BoolOp op es pos =>
    simp only [compT] at h
    exact (ih.tb h ok pos).pt
  | _ => exact base rfl (by simpa only [compT] using h)
/-- a chain of comparisons -/
theorem snd_l (ih : Snd G k n) {ops : List CmpOp} {es : List Expr} {c : CCs} (h : compL (n + 1) Γ ops es = some c) (ok : Ok X Γ G k W)
    (pos : Pos) (pins : List (Addr × Obj)) (s : Shared) (τ : L2.St) (H : Hp) (x : V) (v : Value) (x' : PV) (σ : Sl) (S : Sto) (E' : XPost) (I : Inv X pins τ H s) (rv : RelV x v) (rx : RepV X.K X.w H S x' x) (hs : RepSt X.K X.w H S σ τ) (hh : RepH X.K X.w H S) (hx : kX X.K X.w X.mg S H τ E' W) :
      (∀ (Q' : Post) (Q : VK), wpL G c x' σ S Q' E' → kV X.K X.w S H Q' Q → wpAny (model X.prog X.w) X.A (compareChain pos v ops (evalEach es X.env)) (EP X pins τ Q) X.xe s) ∧
      (∀ (Q' : Bool → Sto → Prop) (Q : Bool → Hp → Prop), wpL G c x' σ S (qB Q') E' → (∀ b H' S', RepH X.K X.w H' S' → Ext X.K S H S' H' → Q' b S' → Q b H') → wpAny (model X.prog X.w) X.A (testChain pos v ops (evalEach es X.env)) (TP X pins τ Q) X.xe s) := by
  have hu := ok.hu
  match ops, es, h with
  | [op], [e], h =>
    simp only [compL] at h
    obtain ⟨ce, h1, rfl⟩ := Option.map_eq_some_iff.mp h
    have pe := (ih.e h1 ok).1
    refine ⟨fun Q' Q hc hq => ?_, fun Q' Q hc hq => ?_⟩
    · simp only [wpL] at hc
      refine chain_last (thn (pe.run pins s τ H (fun y H1 => rUp2 X.K X.w (cmpP (opC op)) x y H1 Q) I ⟨σ, S, _, E', hs, hh, hc, fun y H1 y' S1 ry hh1 e1 q => ⟨x', y', S1, Q', RepV.mono e1 _ _ rx, ry, hh1, q, hq.mono e1⟩, hx⟩) fun u s1 ⟨y, H1, I1, r1, q1⟩ => ?_)
      exact cmp_ok hu op pins s1 τ H1 x y v u Q I1 rv r1 q1
    · simp only [wpL] at hc
      refine test_last (thn (pe.run pins s τ H (fun y H1 => rUp2 X.K X.w (cmpP (opC op)) x y H1 fun z H2 => ∃ b, z = .bl b ∧ Q b H2) I ⟨σ, S, _, E', hs, hh, hc, fun y H1 y' S1 ry hh1 e1 q => ⟨x', y', S1, qB Q', RepV.mono e1 _ _ rx, ry, hh1, q, fun z H2 z' S2 rz hh2 e2 q2 => ?_⟩, hx⟩) fun u s1 ⟨y, H1, I1, r1, q1⟩ => ?_)
      · cases z' with
        | bl b =>
          simp only [RepV] at rz
          exact ⟨b, rz, hq _ _ _ hh2 (e1.trans e2) q2⟩
        | _ => exact q2.elim
      · refine thn (cmp_ok hu op pins s1 τ H1 x y v u _ I1 rv r1 q1) fun c s2 ⟨z, H2, I2, r2, b, e, q2⟩ => ?_
        subst e
        cases r2
        exact wpAny_truthy_bool ⟨H2, I2, q2⟩
  | op :: op2 :: ops, e :: e2 :: es, h =>
    simp only [compL, Option.bind_eq_bind, Option.bind_eq_some_iff, Option.pure_def, Option.some.injEq] at h
    obtain ⟨ce, h1, cl, h2, rfl⟩ := h
    have pe := (ih.e h1 ok).1
    have key : ∀ {Q' : Post}, wpL G (.more (opC op) ce cl) x' σ S Q' E' → ∀ {R : Value → Value → Shared → Prop},
        (∀ u s1 y H1 y' S1, Inv X pins τ H1 s1 → RelV y u → RepV X.K X.w H1 S1 y' y → RepSt X.K X.w H1 S1 σ τ → RepH X.K X.w H1 S1 → Ext X.K S H S1 H1 → kX X.K X.w X.mg S1 H1 τ E' W → wpL G cl y' σ S1 Q' E' → R u (.bool true) s1) →
        (∀ u s1 H1 S1, Inv X pins τ H1 s1 → RepH X.K X.w H1 S1 → Ext X.K S H S1 H1 → Q' (.bl false) S1 → R u (.bool false) s1) →
        wpAny (model X.prog X.w) X.A (eval e X.env) (fun u s1 => wpAny (model X.prog X.w) X.A (compareOp op v u) (fun c s2 => R u c s2) X.xe s1) X.xe s := by
      intro Q' hc R hT hF
      simp only [wpL] at hc
      refine thn (pe.run pins s τ H (fun y H1 => rUp2 X.K X.w (cmpP (opC op)) x y H1 fun z H2 => ∃ y' S2, RepV X.K X.w H2 S2 y' y ∧ RepSt X.K X.w H2 S2 σ τ ∧ RepH X.K X.w H2 S2 ∧ Ext X.K S H S2 H2 ∧ kX X.K X.w X.mg S2 H2 τ E' W ∧
          ((z = .bl true ∧ wpL G cl y' σ S2 Q' E') ∨ (z = .bl false ∧ Q' (.bl false) S2))) I ⟨σ, S, _, E', hs, hh, hc, fun y H1 y' S1 ry hh1 e1 q => ⟨x', y', S1, qB fun b S3 => match b with
            | true => wpL G cl y' σ S3 Q' E'
            | false => Q' (.bl false) S3, RepV.mono e1 _ _ rx, ry, hh1, q, fun z H2 z' S2 rz hh2 e2 q2 => ?_⟩, hx⟩) fun u s1 ⟨y, H1, I1, r1, q1⟩ => ?_
      · cases z' with
        | bl b =>
          simp only [RepV] at rz
          refine ⟨y', S2, RepV.mono e2 _ _ ry, hs.mono (e1.trans e2), hh2, e1.trans e2, hx.mono (e1.trans e2), ?_⟩
          cases b with
          | true => exact .inl ⟨rz, q2⟩
          | false => exact .inr ⟨rz, q2⟩
        | _ => exact q2.elim
      · refine thn (cmp_ok hu op pins s1 τ H1 x y v u _ I1 rv r1 q1) fun c s2 ⟨z, H2, I2, r2, y', S2, g1, g2, g3, g4, g5, g6⟩ => ?_
        rcases g6 with ⟨e, q⟩ | ⟨e, q⟩
        · subst e
          cases r2
          exact hT u s2 y H2 y' S2 I2 r1 g1 g2 g3 g4 g5 q
        · subst e
          cases r2
          exact hF u s2 H2 S2 I2 g3 g4 q
    refine ⟨fun Q' Q hc hq => ?_, fun Q' Q hc hq => ?_⟩
    · refine chain_link (thn (key hc (R := fun u c s2 => wpAny (model X.prog X.w) X.A (truthy c) (fun t s3 => if t then wpAny (model X.prog X.w) X.A (compareChain pos u (op2 :: ops) (eval e2 X.env :: evalEach es X.env)) (EP X pins τ Q) X.xe s3 else EP X pins τ Q c s3) X.xe s2) (fun u s1 y H1 y' S1 I1 ru ry hs1 hh1 e1 hx1 q => ?_) fun u s1 H1 S1 I1 hh1 e1 q => ?_) fun u s1 q => q)
      · refine wpAny_truthy_bool (ite_tt ?_)
        exact (ih.l h2 ok pos pins s1 τ H1 y u y' σ S1 E' I1 ru ry hs1 hh1 hx1).1 Q' Q q (hq.mono e1)
      · exact wpAny_truthy_bool (ite_ff ⟨.bl false, H1, I1, rfl, hq _ _ (.bl false) S1 (by simp only [RepV]) hh1 e1 q⟩)
    · refine test_link (thn (key hc (R := fun u c s2 => wpAny (model X.prog X.w) X.A (truthy c) (fun t s3 => if t then wpAny (model X.prog X.w) X.A (testChain pos u (op2 :: ops) (eval e2 X.env :: evalEach es X.env)) (TP X pins τ Q) X.xe s3 else TP X pins τ Q false s3) X.xe s2) (fun u s1 y H1 y' S1 I1 ru ry hs1 hh1 e1 hx1 q => ?_) fun u s1 H1 S1 I1 hh1 e1 q => ?_) fun u s1 q => q)
      · refine wpAny_truthy_bool (ite_tt ?_)
        exact (ih.l h2 ok pos pins s1 τ H1 y u y' σ S1 E' I1 ru ry hs1 hh1 hx1).2 Q' Q q fun b H' S' r e' q' => hq b H' S' r (e1.trans e') q'
      · exact wpAny_truthy_bool (ite_ff ⟨H1, I1, hq false H1 S1 hh1 e1 q⟩)
  | [], _, h => simp [compL] at h
  | [_], [], h => simp [compL] at h
  | [_], _ :: _ :: _, h =>
    simp only [compL, Option.bind_eq_bind, Option.bind_eq_some_iff] at h
    obtain ⟨_, _, _, h2, _⟩ := h
    cases n <;> simp [compL] at h2
  | _ :: _ :: _, [], h => simp [compL] at h
  | _ :: _ :: _, [_], h =>
    simp only [compL, Option.bind_eq_bind, Option.bind_eq_some_iff] at h
    obtain ⟨_, _, _, h2, _⟩ := h
    cases n <;> simp [compL] at h2
end
end DL
end
section
set_option maxRecDepth 100000
set_option maxHeartbeats 2000000
/-! Soundness: expressions, case by case, on. -/
namespace DL
open PySem PySem.Spec L2
open PyProof.Rows hiding St

section
variable {X : Cx} {Γ : Gam} {G : GE} {k n : Nat} {W : WX}
abbrev GoodE (G : GE) (X : Cx) (W : WX) (e : Expr) (c : CE) : Prop := PE X e (upE X.K X.w X.mg W (wpE G c)) ∧ (isTst e = true → PT X e (upT X.K X.w X.mg W (wpV G c)))
theorem good_plain {e : Expr} {c : CE} (h : PE X e (upE X.K X.w X.mg W (wpE G c))) (he : ∀ whole, isTrue e X.env whole = (do let v ← whole; standAt e.pos; holding [v] (truthy v))) : GoodE G X W e c := ⟨h, fun _ => plain_t h he⟩

theorem good_name {x : Str} {p : Pos} {c : CE} (h : compE (n + 1) Γ (.Name x p) = some c) (ok : Ok X Γ G k W) : GoodE G X W (.Name x p) c := by
  refine good_plain ?_ fun _ => rfl
  simp only [compE] at h
  split at h
  · cases h
  rename_i hd
  have hd : dbg x = false := by simpa using hd
  split at h
  · rename_i hv
    split at h
    · cases h
    rename_i hcd
    have hcd : cdc x = false := by simpa using hcd
    obtain ⟨i, hi, rfl⟩ := Option.map_eq_some_iff.mp h
    refine PE.imp (pe_var (i := i) (by rw [ok.N]; exact slotOf_ok hi) (ok.visN hv) hd hcd) fun τ H Q q => ?_
    obtain ⟨σ, S, Q', E', hs, hh, hc, hq, hx⟩ := q
    simp only [wpE] at hc
    split at hc
    · rename_i v e
      obtain ⟨u, h1, h2⟩ := hs.get e
      exact ⟨u, h1, hq _ _ _ _ h2 hh Ext.refl hc⟩
    · exact hc.elim
  · split at h
    · rename_i hg
      obtain ⟨v, hv, rfl⟩ := Option.map_eq_some_iff.mp h
      obtain ⟨u, vv, h1, h2, h3⟩ := ok.cst x v hv
      refine PE.imp (pe_glob (ok.glob hg) h1 h2 hd) fun τ H Q q => ?_
      obtain ⟨σ, S, Q', E', hs, hh, hc, hq, hx⟩ := q
      simp only [wpE] at hc
      exact hq _ _ _ _ (h3 H S) hh Ext.refl hc
    · cases h
theorem up_cst {v : PV} {u : V} {τ : L2.St} {H : Hp} {Q : VK} (hr : ∀ S, RepV X.K X.w H S v u) (q : upE X.K X.w X.mg W (wpE G (.cst v)) τ H Q) : Q u H := by
  obtain ⟨σ, S, Q', E', hs, hh, hc, hq, hx⟩ := q
  simp only [wpE] at hc
  exact hq _ _ _ _ (hr S) hh Ext.refl hc
theorem good_cst {cc : Const} {j : Nat} {p : Pos} {c : CE} (h : compE (n + 1) Γ (.Constant cc j p) = some c) : GoodE G X W (.Constant cc j p) c := by
  refine good_plain ?_ fun _ => rfl
  cases cc <;> simp only [compE, reduceCtorEq, Option.some.injEq] at h <;> subst h
  · exact PE.imp pe_non fun τ H Q q => up_cst (fun S => by simp only [RepV]) q
  · exact PE.imp pe_bl fun τ H Q q => up_cst (fun S => by simp only [RepV]) q
  · exact PE.imp pe_int fun τ H Q q => up_cst (fun S => by simp only [RepV]) q
  · exact PE.imp pe_str fun τ H Q q => up_cst (fun S => by simp only [RepV]) q
theorem good_bin (ih : Snd G k n) {a b : Expr} {op : Operator} {p : Pos} {c : CE} (h : compE (n + 1) Γ (.BinOp a op b p) = some c) (ok : Ok X Γ G k W) : GoodE G X W (.BinOp a op b p) c := by
  refine good_plain ?_ fun _ => rfl
  simp only [compE, Option.bind_eq_bind, Option.bind_eq_some_iff, Option.pure_def, Option.some.injEq] at h
  obtain ⟨o, ho, ca, h1, cb, h2, rfl⟩ := h
  exact PE.imp (pe_op (bin_ok o op ho (Γ.own.contains p)) (ih.e h1 ok).1 (ih.e h2 ok).1) fun τ H Q q => tOp_up (by simpa only [wpE] using q)
theorem good_un (ih : Snd G k n) {a : Expr} {op : UnaryOp} {p : Pos} {c : CE} (h : compE (n + 1) Γ (.UnaryOp op a p) = some c) (ok : Ok X Γ G k W) : GoodE G X W (.UnaryOp op a p) c := by
  cases op <;> simp only [compE, reduceCtorEq] at h
  · obtain ⟨ca, h1, rfl⟩ := Option.map_eq_some_iff.mp h
    refine ⟨PE.imp (pe_notT (ih.e h1 ok).1) fun τ H Q q => ?_, fun hi => by cases hi⟩
    obtain ⟨σ, S, Q', E', hs, hh, hc, hq, hx⟩ := q
    simp only [wpE] at hc
    refine ⟨σ, S, _, E', hs, hh, hc, fun v H1 v' S1 rv hh1 e1 q => ?_, hx⟩
    obtain ⟨kk, t1, t2⟩ := tru_rep hh1 rv q
    exact ⟨kk, t1, hq _ _ (.bl (!kk)) S1 (by simp only [RepV]) hh1 e1 t2⟩
  · obtain ⟨ca, h1, rfl⟩ := Option.map_eq_some_iff.mp h
    refine good_plain (PE.imp (pe_un un_neg (ih.e h1 ok).1) fun τ H Q q => ?_) fun _ => rfl
    obtain ⟨σ, S, Q', E', hs, hh, hc, hq, hx⟩ := q
    simp only [wpE] at hc
    refine ⟨σ, S, _, E', hs, hh, hc, fun v H1 v' S1 rv hh1 e1 q => ?_, hx⟩
    cases v' with
    | int i =>
      simp only [RepV] at rv
      exact ⟨i, rv, hq _ _ (.int (-i)) S1 (by simp only [RepV]) hh1 e1 q⟩
    | _ => exact q.elim
theorem good_cmp (ih : Snd G k n) {a : Expr} {ops : List CmpOp} {es : List Expr} {p : Pos} {c : CE} (h : compE (n + 1) Γ (.Compare a ops es p) = some c) (ok : Ok X Γ G k W) : GoodE G X W (.Compare a ops es p) c := by
  match ops, es, h with
  | [op], [b], h =>
    simp only [compE] at h
    split at h
    · cases h
    rename_i hm
    have hm : behindInMarks op b = false := by simpa using hm
    simp only [Option.bind_eq_bind, Option.bind_eq_some_iff, Option.pure_def, Option.some.injEq] at h
    obtain ⟨ca, h1, cb, h2, rfl⟩ := h
    refine ⟨PE.imp (pe_cmpR (cmp_ok ok.hu op) (ih.e h1 ok).1 (ih.e h2 ok).1 hm) fun τ H Q q => tOp_up (by simp only [wpE] at q; exact q), fun _ => PT.imp (pt_cmpR (cmp_ok ok.hu op) (ih.e h1 ok).1 (ih.e h2 ok).1 hm) fun τ H Q q => tTest_up ?_⟩
    obtain ⟨σ, S, Q', E', hs, hh, hc, hq, hx⟩ := q
    refine ⟨σ, S, Q', E', hs, hh, ?_, hq, hx⟩
    simpa only [wpV, wpE, truD] using hc
  | op :: op2 :: ops, b :: b2 :: bs, h =>
    simp only [compE] at h
    split at h
    · cases h
    rename_i hm
    have hm : lastMarks (op :: op2 :: ops) (b :: b2 :: bs) = false := by simpa using hm
    simp only [Option.bind_eq_bind, Option.bind_eq_some_iff, Option.pure_def, Option.some.injEq] at h
    obtain ⟨ca, h1, cl, h2, rfl⟩ := h
    have pe := (ih.e h1 ok).1
    refine ⟨⟨fun pins s τ H Q I q => ?_⟩, fun _ => ⟨fun pins s τ H Q I q => ?_⟩⟩
    · obtain ⟨σ, S, Q', E', hs, hh, hc, hq, hx⟩ := q
      simp only [wpE] at hc
      refine Compare_chain (thn (pe.run pins s τ H (fun x H1 => ∃ x' S1, RepV X.K X.w H1 S1 x' x ∧ RepSt X.K X.w H1 S1 σ τ ∧ RepH X.K X.w H1 S1 ∧ Ext X.K S H S1 H1 ∧ wpL G cl x' σ S1 Q' E') I ⟨σ, S, _, E', hs, hh, hc, fun x H1 x' S1 rx hh1 e1 q => ⟨x', S1, rx, hs.mono e1, hh1, e1, q⟩, hx⟩) fun v s1 ⟨x, H1, I1, r1, x', S1, g1, g2, g3, g4, g5⟩ => ?_) hm
      exact (ih.l h2 ok p pins s1 τ H1 x v x' σ S1 E' I1 r1 g1 g2 g3 (hx.mono g4)).1 Q' Q g5 (hq.mono g4)
    · obtain ⟨σ, S, Q', E', hs, hh, hc, hq, hx⟩ := q
      simp only [wpV, wpE] at hc
      refine isTrue_chain (thn (pe.run pins s τ H (fun x H1 => ∃ x' S1, RepV X.K X.w H1 S1 x' x ∧ RepSt X.K X.w H1 S1 σ τ ∧ RepH X.K X.w H1 S1 ∧ Ext X.K S H S1 H1 ∧ wpL G cl x' σ S1 (qB Q') E') I ⟨σ, S, _, E', hs, hh, hc, fun x H1 x' S1 rx hh1 e1 q => ⟨x', S1, rx, hs.mono e1, hh1, e1, by rw [← wpL_tru]; exact q⟩, hx⟩) fun v s1 ⟨x, H1, I1, r1, x', S1, g1, g2, g3, g4, g5⟩ => ?_) hm
      exact (ih.l h2 ok p pins s1 τ H1 x v x' σ S1 E' I1 r1 g1 g2 g3 (hx.mono g4)).2 Q' Q g5 fun b H' S' r e' q' => hq b H' S' r (g4.trans e') q'
  | [], _, h => simp [compE] at h
  | [_], [], h => simp [compE] at h
  | [_], _ :: _ :: _, h => simp [compE] at h
  | _ :: _ :: _, [], h => simp [compE] at h
  | _ :: _ :: _, [_], h => simp [compE] at h
theorem good_sub (ih : Snd G k n) {a b : Expr} {p : Pos} {c : CE} (h : compE (n + 1) Γ (.Subscript a b p) = some c) (ok : Ok X Γ G k W) : GoodE G X W (.Subscript a b p) c := by
  refine good_plain ?_ fun _ => rfl
  have base : noSlice b = true → (do
        let ca ← compE n Γ a
        let cb ← compE n Γ b
        return CE.idx ca cb) = some c → PE X (.Subscript a b p) (upE X.K X.w X.mg W (wpE G c)) := fun hn h => by
    simp only [Option.bind_eq_bind, Option.bind_eq_some_iff, Option.pure_def, Option.some.injEq] at h
    obtain ⟨ca, h1, cb, h2, rfl⟩ := h
    exact PE.imp (pe_ix (idx_ok (by have := ok.hu; omega)) (ih.e h1 ok).1 (ih.e h2 ok).1 (noSlice_ix hn)) fun τ H Q q => tOp_up (by simpa only [wpE] using q)
  cases b with
  | Slice lo hi step p2 =>
    cases step with
    | some st =>
      simp only [compE] at h
      split at h
      · rename_i kk q1 q2
        obtain ⟨ca, h1, rfl⟩ := Option.map_eq_some_iff.mp h
        refine PE.imp (pe_revL (ih.e h1 ok).1) fun τ H Q q => ?_
        obtain ⟨σ, S, Q', E', hs, hh, hc, hq, hx⟩ := q
        simp only [wpE] at hc
        refine ⟨σ, S, _, E', hs, hh, hc, fun x H1 x' S1 rx hh1 e1 q1 => ?_, hx⟩
        unfold revD at q1
        try dsimp only at q1
        split at q1
        · rename_i xs ex
          obtain ⟨l, vs, rfl, g1, g2⟩ := dL_rep hh1 rx ex
          exact ⟨l, vs, rfl, g1, newL_ok hh1 g2.rev (hq.mono e1) q1⟩
        · exact q1.elim
      · cases h
    | none =>
      simp only [compE, Option.bind_eq_bind, Option.bind_eq_some_iff, Option.pure_def, Option.some.injEq] at h
      obtain ⟨ca, h1, cl, h2, ch, h3, rfl⟩ := h
      refine PE.imp (pe_slice (slc_ok (Γ.own.contains p)) (ih.e h1 ok).1 (ih.o h2 ok) (ih.o h3 ok)) fun τ H Q q => ?_
      obtain ⟨σ, S, Q', E', hs, hh, hc, hq, hx⟩ := q
      simp only [wpE] at hc
      refine ⟨σ, S, _, E', hs, hh, hc, fun x H1 x' S1 rx hh1 e1 q1 => ?_, hx⟩
      refine ⟨σ, S1, _, E', hs.mono e1, hh1, q1, fun lo H2 S2 hh2 e2 q2 => ?_, hx.mono e1⟩
      refine ⟨σ, S2, _, E', hs.mono (e1.trans e2), hh2, q2, fun hi H3 S3 hh3 e3 q3 => ?_, hx.mono (e1.trans e2)⟩
      exact ⟨x', S3, Q', RepV.mono (e2.trans e3) _ _ rx, hh3, q3, hq.mono (e1.trans (e2.trans e3))⟩
  | _ => exact base rfl (by simpa [compE, noSlice] using h)
theorem good_tup (ih : Snd G k n) {es : List Expr} {kk : Nat} {p : Pos} {c : CE} (h : compE (n + 1) Γ (.Tuple es kk p) = some c) (ok : Ok X Γ G k W) : GoodE G X W (.Tuple es kk p) c := by
  refine good_plain ?_ fun _ => rfl
  simp only [compE] at h
  split at h
  · rename_i hs
    obtain ⟨cs, h1, rfl⟩ := Option.map_eq_some_iff.mp h
    refine PE.imp (pe_tup (ih.es h1 hs ok)) fun τ H Q q => ?_
    obtain ⟨σ, S, Q', E', hs, hh, hc, hq, hx⟩ := q
    simp only [wpE] at hc
    exact ⟨σ, S, _, E', hs, hh, hc, fun vs H1 vs' S1 hl rv hh1 e1 q => ⟨by rw [← rv.length]; exact q.1, new_tup hh1 rv (hq.mono e1) q.2⟩, hx⟩
  · cases h
theorem good_lst (ih : Snd G k n) {es : List Expr} {p : Pos} {c : CE} (h : compE (n + 1) Γ (.List es p) = some c) (ok : Ok X Γ G k W) : GoodE G X W (.List es p) c := by
  refine good_plain ?_ fun _ => rfl
  simp only [compE] at h
  split at h
  · rename_i hs
    obtain ⟨cs, h1, rfl⟩ := Option.map_eq_some_iff.mp h
    refine PE.imp (pe_lst (ih.es h1 hs ok)) fun τ H Q q => ?_
    obtain ⟨σ, S, Q', E', hs, hh, hc, hq, hx⟩ := q
    simp only [wpE] at hc
    exact ⟨σ, S, _, E', hs, hh, hc, fun vs H1 vs' S1 hl rv hh1 e1 q => ⟨by rw [← rv.length]; exact q.1, newL_ok hh1 rv (hq.mono e1) q.2⟩, hx⟩
  · cases h

theorem dct_empty {P : Program} {w : World} {H : Hp} (h : Heap) (hb : sysModules < h.objs.size) : ObjOk P w H (h.push { cls := .type "dict", data := .dict #[] }) h.objs.size (.ext (DPhi h.objs.size [])) :=
  ⟨⟨beq_eq_false_iff_ne.mpr (Ne.symm (Nat.ne_of_lt hb)), _, #[], 0, Heap.get?_push_size _ rfl, ⟨rfl, rfl, rfl⟩, rfl, rfl⟩, ⟨_, Heap.get?_push_size _ rfl⟩, fun h1 h2 ⟨n, o, arr, ep, e, x, d, m⟩ k => ⟨n, o, arr, ep, k o e, x, d, m⟩⟩
theorem good_dct {pos : Pos} {c : CE} (h : compE (n + 1) Γ (.Dict [] [] pos) = some c) : GoodE G X W (.Dict [] [] pos) c := by
  refine good_plain ?_ fun _ => rfl
  simp only [compE, Option.some.injEq] at h
  subst h
  refine ⟨fun pins s τ H Q I q => ?_⟩
  obtain ⟨σ, S, Q', E', hs, hh, hc, hq, hx⟩ := q
  simp only [wpE] at hc
  have hn : H s.heap.objs.size = none := I.hok.fresh (Nat.le_refl _)
  refine wpAny_Dict_empty ⟨.ref s.heap.objs.size, _, I.laid (a := s.heap.objs.size) (o := .ext (DPhi s.heap.objs.size [])) (t' := s.toks) (fun _ _ q => Heap.get?_push_of_some _ q) (Nat.le_refl _) (dct_empty s.heap I.big), rfl, ?_⟩
  unfold newD at hc
  split at hc
  · exact hq _ _ (.ref _) _ (by simp only [RepV]) (hh.newS (m := .dct [] []) hn ⟨[], [], [], upd_same, rfl, .nil, .nil, .nil, .nil, .nil⟩) (Ext.newS hn) (hc _ (hh.free hn))
  · refine hq _ _ (.dct [] []) S ?_ (hh.new hn) (Ext.new hn) hc
    simp only [RepV]
    exact ⟨_, [], [], [], rfl, upd_same, hh.free hn, rfl, .nil, .nil, .nil, .nil, .nil⟩

/-! ### calls -/
theorem noStar_cons {e : Expr} {es : List Expr} {env : Env} {pos : Pos} (h : (e :: es).all noStar = true) : starEach (e :: es) env = (false, eval e env) :: starEach es env ∧ (backTo pos (starEach es env)).any (·.1) = false := by
  have h2 : es.all noStar = true := by rw [List.all_cons, Bool.and_eq_true] at h; exact h.2
  exact ⟨by rw [star_ok h, star_ok h2]; rfl, (back_plain h2).1⟩
theorem good_bi {x : Str} {px pos : Pos} {e : Expr} {es : List Expr} {b : Bi} {m : Bool} {cs : CEs} (hb : biOf x (e :: es).length = some b) (ok : Ok X Γ G k W) (hg : Γ.glob x = true) (hf : Γ.free.contains x = true) (hd : dbg x = false)
    (ha : PA X (e :: es) (upA X.K X.w X.mg W (e :: es).length (wpEs G cs))) (hs : (e :: es).all noStar = true) : PE X (.Call (.Name x px) (e :: es) [] pos) (upE X.K X.w X.mg W (wpE G (.bi b m cs))) := by
  obtain ⟨b1, b2, b3⟩ := biOf_boot hb
  obtain ⟨s1, s2⟩ := noStar_cons (env := X.env) (pos := pos) hs
  have key : ∀ {τ : L2.St} {H : Hp} {Q : VK}, upE X.K X.w X.mg W (wpE G (.bi b m cs)) τ H Q → tCB (rUpN X.K X.w (biD b m)) (upA X.K X.w X.mg W (e :: es).length (wpEs G cs)) τ H Q := fun {τ H Q} q => by
    obtain ⟨σ, S, Q', E', hs, hh, hc, hq, hx⟩ := q
    simp only [wpE] at hc
    exact ⟨σ, S, _, E', hs, hh, hc, fun vs H1 vs' S1 hl rv hh1 e1 q => ⟨vs', S1, Q', rv, hh1, q, hq.mono e1⟩, hx⟩
  have hc := bi_ok (X := X) ok.calm (by have := ok.hu; omega) b m
  rcases b3 with ⟨id, b3⟩ | ⟨T, b3⟩
  · rw [b3] at hc b1
    exact PE.imp (pe_callB hc (ok.glob hg) (ok.free x hf) b1 ha b2 hd s1 s2) fun τ H Q q => key q
  · rw [b3] at hc b1
    exact PE.imp (pe_callTy hc (ok.glob hg) (ok.free x hf) b1 ha b2 hd s1 s2) fun τ H Q q => key q
theorem good_own {x : Str} {px pos : Pos} {e : Expr} {es : List Expr} {i m : Nat} {mm : Bool} {cs : CEs} (hf : Γ.fns.lookup x = some (i, m)) (hm : (e :: es).length = m) (ok : Ok X Γ G k W) (hg : Γ.glob x = true) (hd : dbg x = false)
    (ha : PA X (e :: es) (upA X.K X.w X.mg W (e :: es).length (wpEs G cs))) (hs : (e :: es).all noStar = true) : PE X (.Call (.Name x px) (e :: es) [] pos) (upE X.K X.w X.mg W (wpE G (.call i mm cs))) := by
  obtain ⟨s1, s2⟩ := noStar_cons (env := X.env) (pos := pos) hs
  obtain ⟨a, fd, ps, f1, f2, f3, f4, f5⟩ := ok.fns x i m hf
  refine PE.imp (pe_callS f5 ok.room (ok.glob hg) f1 f2 f3 (fun σ => passAt ok.tk σ) ha hd s1 s2) fun τ H Q q => ?_
  obtain ⟨σ, S, Q', E', hs, hh, hc, hq, hx⟩ := q
  simp only [wpE] at hc
  refine ⟨σ, S, _, E', hs, hh, hc, fun vs H1 vs' S1 hl rv hh1 e1 q => ⟨hl.trans hm, vs', S1, _, E', rv, hh1, q, (hq.mono e1).frz mm, fun x cls d H' S' r hr e' q' => ?_⟩, hx⟩
  exact hx x cls d H' S' r hr (e1.trans e') q'
theorem isLrg_is {f : Expr} {args : List Expr} {kws : List Keyword} {ra : List Expr} (h : isLrg Γ f args kws = some ra) : ∃ p p2 pos2, f = .Name "list" p ∧ args = [.Call (.Name "range" p2) ra [] pos2] ∧ kws = [] ∧ Γ.bi "list" = true ∧ Γ.bi "range" = true := by
  unfold isLrg at h
  split at h
  · split at h
    · rename_i hc
      cases h
      simp only [Bool.and_eq_true, beq_iff_eq] at hc
      obtain ⟨⟨⟨⟨⟨rfl, rfl⟩, h1⟩, h2⟩, _⟩, _⟩ := hc
      exact ⟨_, _, _, rfl, rfl, rfl, h1, h2⟩
    · cases h
  · cases h
theorem rgV_rep {K : PySem.W.Frag} {w : World} {H : Hp} {S : Sto} (a b : Int) : RepVs K w H S (rngP a (b - a).toNat) (rgV a b) := by
  unfold rngP rgV
  generalize (b - a).toNat = n
  induction n with
  | zero => exact .nil
  | succ n ih =>
    rw [List.range_succ, List.map_append, List.map_append]
    exact ih.snoc (by simp only [RepV])
theorem lrng_up {m : Bool} {S : Sto} {H : Hp} {Q' : Post} {Q : VK} {a b : Int} (hh : RepH X.K X.w H S) (hq : kV X.K X.w S H Q' Q) (q : newL m (rngP a (b - a).toNat) S Q') : ∀ p, H p = none → Q (.ref p) (upd H p (.lst (rgV a b))) := newL_ok hh (rgV_rep a b) hq q
theorem one_star {e : Expr} {env : Env} (h : noStar e = true) : starEach [e] env = (false, eval e env) :: starEach [] env := by rw [star_ok (by simp [h])]; rfl
theorem good_lrng1 {a : Expr} {m : Bool} {ca : CE} {p p2 pos pos2 : Pos} (ok : Ok X Γ G k W) (hb1 : Γ.bi "list" = true) (hb2 : Γ.bi "range" = true) (hs : noStar a = true) (pe : PE X a (upE X.K X.w X.mg W (wpE G ca))) :
    PE X (.Call (.Name "list" p) [.Call (.Name "range" p2) [a] [] pos2] [] pos) (upE X.K X.w X.mg W (wpE G (.lrng m (.cons ca .nil)))) := by
  obtain ⟨g1, g2, g3⟩ := bi_split hb1
  obtain ⟨g4, g5, g6⟩ := bi_split hb2
  refine PE.imp (pe_listRg ok.calm (ok.glob g1) (ok.free _ g2) (prg_1 (ok.glob g4) (ok.free _ g5) pe (one_star hs)) (one_star rfl)) fun τ H Q q => ?_
  obtain ⟨σ, S, Q', E', hs, hh, hc, hq, hx⟩ := q
  simp only [wpE, wpEs] at hc
  refine ⟨σ, S, _, E', hs, hh, hc, fun x H1 x' S1 rx hh1 e1 q1 => ?_, hx⟩
  cases x' with
  | int j =>
    simp only [RepV] at rx
    obtain ⟨q1, q2, q3⟩ := q1
    refine ⟨j, rx, ⟨by decide, by decide, q2, by omega, by omega⟩, ?_⟩
    exact lrng_up hh1 (hq.mono e1) (by rw [Int.sub_zero]; exact q3)
  | _ => exact q1.elim
theorem good_lrng2 {a b : Expr} {m : Bool} {ca cb : CE} {p p2 pos pos2 : Pos} (ok : Ok X Γ G k W) (hb1 : Γ.bi "list" = true) (hb2 : Γ.bi "range" = true) (hs : noStar a = true) (hs2 : noStar b = true) (pe : PE X a (upE X.K X.w X.mg W (wpE G ca))) (pe2 : PE X b (upE X.K X.w X.mg W (wpE G cb))) :
    PE X (.Call (.Name "list" p) [.Call (.Name "range" p2) [a, b] [] pos2] [] pos) (upE X.K X.w X.mg W (wpE G (.lrng m (.cons ca (.cons cb .nil))))) := by
  obtain ⟨g1, g2, g3⟩ := bi_split hb1
  obtain ⟨g4, g5, g6⟩ := bi_split hb2
  refine PE.imp (pe_listRg ok.calm (ok.glob g1) (ok.free _ g2) (prg_2 (ok.glob g4) (ok.free _ g5) pe pe2 (by rw [star_ok (by simp [hs, hs2]), star_ok (by simp [hs2])]; rfl) (one_star hs2) (by rw [star_ok (by simp [hs2])]; rfl)) (one_star rfl)) fun τ H Q q => ?_
  obtain ⟨σ, S, Q', E', hs, hh, hc, hq, hx⟩ := q
  simp only [wpE, wpEs] at hc
  refine ⟨σ, S, _, E', hs, hh, hc, fun x H1 x' S1 rx hh1 e1 q1 => ?_, hx⟩
  refine ⟨σ, S1, _, E', hs.mono e1, hh1, q1, fun y H2 y' S2 ry hh2 e2 q2 => ?_, hx.mono e1⟩
  unfold lrngD at q2
  try dsimp only at q2
  split at q2
  · rename_i e
    exact absurd (congrArg List.length e) (by simp)
  · rename_i i j e
    simp only [List.cons.injEq, and_true] at e
    obtain ⟨rfl, rfl⟩ := e
    simp only [RepV] at rx ry
    obtain ⟨q1, q2, q3, q4, q5, q6⟩ := q2
    exact ⟨i, j, rx, ry, ⟨q1, q2, q3, q4, q5⟩, lrng_up hh2 (hq.mono (e1.trans e2)) q6⟩
  · exact q2.elim
theorem good_isi {a t : Expr} {px pos : Pos} {x : Str} {tys : List String} {c : CE} (hx : x = ("isinstance" : Str)) (ok : Ok X Γ G k W) (hg : Γ.glob x = true) (hf : Γ.free.contains x = true) (ha : PE X a (upE X.K X.w X.mg W (wpE G c))) (hs : [a, t].all noStar = true)
    (ht : (∃ ty, tys = [ty] ∧ ty ∈ clsNames ∧ PE X t (tC (.ty ty))) ∨ ((∀ c ∈ tys, c ∈ clsNames) ∧ tys.length ≤ sizeLine ∧ PE X t (tTup (fun _ H Q => Q (tys.map V.ty) H)))) : PE X (.Call (.Name x px) [a, t] [] pos) (upE X.K X.w X.mg W (wpE G (.isi c tys))) := by
  obtain ⟨s1, s2⟩ := noStar_cons (env := X.env) (pos := pos) hs
  have hs2 : [t].all noStar = true := by
    rw [List.all_cons, Bool.and_eq_true] at hs
    exact hs.2
  obtain ⟨s3, s4⟩ := noStar_cons (env := X.env) (pos := pos) hs2
  subst hx
  have hboot : bootBuiltins ("isinstance" : Str) = some (.builtin "isinstance") := rfl
  rcases ht with ⟨ty, rfl, h1, h2⟩ | ⟨h1, hz, h2⟩
  · refine PE.imp (pe_callB isi_one (ok.glob hg) (ok.free _ hf) hboot (pa_cons ha (pa_cons h2 pa_nil s3) s1) (by decide) (by decide) s1 s2) fun τ H Q q => ?_
    obtain ⟨σ, S, Q', E', hs, hh, hc, hq, hx⟩ := q
    simp only [wpE] at hc
    refine ⟨σ, S, _, E', hs, hh, hc, fun v H1 v' S1 rv hh1 e1 q => ?_, hx⟩
    dsimp only at q
    split at q
    · rename_i t e
      exact ⟨v', S1, Q', t, v, ty, rfl, h1, rv, hh1, e, by simpa using q, hq.mono e1⟩
    · exact q.elim
  · refine PE.imp (pe_callB isi_many (ok.glob hg) (ok.free _ hf) hboot (pa_cons ha (pa_cons h2 pa_nil s3) s1) (by decide) (by decide) s1 s2) fun τ H Q q => ?_
    obtain ⟨σ, S, Q', E', hs, hh, hc, hq, hx⟩ := q
    simp only [wpE] at hc
    refine ⟨σ, S, _, E', hs, hh, hc, fun v H1 v' S1 rv hh1 e1 q => ⟨by rw [List.length_map]; exact hz, fun p hp => ?_⟩, hx⟩
    dsimp only at q
    split at q
    · rename_i t e
      have e2 : Ext X.K S1 H1 S1 (upd H1 p (.tup (tys.map V.ty))) := Ext.new hp
      exact ⟨v', S1, Q', t, v, p, tys, rfl, upd_same, h1, RepV.mono e2 _ _ rv, hh1.new hp, e, q, hq.mono (e1.trans e2)⟩
    · exact q.elim
/-- the type of a method's receiver: a dict too -/
def tyQ (K : PySem.W.Frag) (T : String) (x : V) (H : Hp) : Prop := tyV K T x H ∨ (T = "dict" ∧ ∃ a es, x = .ref a ∧ H a = some (.ext (DPhi a es)))
theorem tyQ_is {pins : List (Addr × Obj)} {σ : L2.St} {H : Hp} {s : Shared} {T : String} {x : V} {v : Value} (I : Inv X pins σ H s) (r : RelV x v) (ty : tyQ X.K T x H) :
    s.TypeIs v T ∧ ∀ a, v = .ref a → ∃ ob, s.heap.get? a = some ob ∧ ob.dict = none := by
  rcases ty with ty | ⟨rfl, a, es, rfl, h⟩
  · exact tyV_is I r ty
  · cases r
    obtain ⟨⟨_, ob, arr, ep, d1, d2, d3, d4⟩, _⟩ := (show ObjOk X.prog X.w H s.heap a (.ext (DPhi a es)) from I.hok a _ h)
    exact ⟨⟨ob, d1, d2.1⟩, fun b e => by cases e; exact ⟨ob, d1, d2.2.1⟩⟩
theorem tyQ_of {K : PySem.W.Frag} {w : World} {H : Hp} {S : Sto} {x : PV} {v : V} {T : String} (hT : T = "list" ∨ T = "dict") (hh : RepH K w H S) (r : RepV K w H S x v) (e : tyP S x = some T) : tyQ K T v H := by
  cases x with
  | lst xs =>
    simp only [RepV] at r
    obtain ⟨a, vs, rfl, h1, h2⟩ := r
    cases e
    exact .inl (.inl ⟨rfl, vs, h1.sq⟩)
  | dct ks vs =>
    simp only [RepV] at r
    obtain ⟨a, es, _, _, rfl, h1, _⟩ := r
    cases e
    exact .inr ⟨rfl, a, es, rfl, h1⟩
  | ref a =>
    simp only [RepV] at r
    subst r
    simp only [tyP] at e
    split at e
    · rename_i xs q
      obtain ⟨vs, h1, _⟩ := hh a _ q
      cases e
      exact .inl (.inl ⟨rfl, vs, .inl (.inl h1)⟩)
    · rename_i ks vs q
      obtain ⟨es, _, _, h1, _⟩ := hh a _ q
      cases e
      exact .inr ⟨rfl, a, es, rfl, h1⟩
    · cases e
  | _ => first | (cases e; done) | (have e := Option.some.inj e; subst e; rcases hT with h | h <;> exact absurd h (by decide))
theorem meT_tab {x : Str} {n : Nat} {c : Me} (h : meOf x n = some c) : meT c = "list" ∨ meT c = "dict" := by
  have h := meOf_mem h
  simp only [meTab, List.mem_cons, Prod.mk.injEq, List.not_mem_nil, or_false] at h
  rcases h with ⟨rfl, rfl, rfl⟩ | ⟨rfl, rfl, rfl⟩ | ⟨rfl, rfl, rfl⟩ | ⟨rfl, rfl, rfl⟩ | ⟨rfl, rfl, rfl⟩ | ⟨rfl, rfl, rfl⟩ | ⟨rfl, rfl, rfl⟩ | ⟨rfl, rfl, rfl⟩ | ⟨rfl, rfl, rfl⟩ | ⟨rfl, rfl, rfl⟩ | ⟨rfl, rfl, rfl⟩ <;> first | exact .inl rfl | exact .inr rfl
section
variable {to : TE} {t : TA} {T : String} {id : String} {r : V → List V → Hp → VK → Prop} {name : Str} {o e : Expr} {es : List Expr} {apos cpos : Pos}
theorem pe_bmQ0 (pa : PlainAttrs T) (slot : Slot T name id) (hty : typeOf (.builtin id) = pure (.type "method_descriptor")) (hm : MtR X id r) (ho : PE X o to) (hbase : attributeBase o name X.env (eval o X.env) = eval o X.env) (hline : (apos.endLine == cpos.line) = true) :
    PE X (.Call (.Attribute o name apos) [] [] cpos) (fun σ H Q => to σ H fun x H1 => tyQ X.K T x H1 ∧ r x [] H1 Q) := by
  refine ⟨fun pins s τ H Q I q => wpAny_Call_method0_late hbase hline (thn (ho.run pins s τ H _ I q) fun v s1 z => ?_)⟩
  obtain ⟨x, H1, I1, r1, ty, q1⟩ := z
  obtain ⟨g1, g2⟩ := tyQ_is I1 r1 ty
  exact ⟨T, id, pa, slot, hty, g1, g2, Calls.callWith_builtin rfl (PySem.evalArgs_none (hm pins s1 τ H1 x [] v [] Q I1 r1 .nil q1))⟩
theorem pe_bmQ (pa : PlainAttrs T) (slot : Slot T name id) (hty : typeOf (.builtin id) = pure (.type "method_descriptor")) (hm : MtR X id r) (ho : PE X o to) (ha : PA X (e :: es) t) (hbase : attributeBase o name X.env (eval o X.env) = eval o X.env)
    (hfew : ((backTo cpos (starEach (e :: es) X.env)).all (fun x => !x.1) && (backToKw cpos (keywordEach [] X.env)).all (fun x => x.1.isSome) && decide ((e :: es).length + ([] : List Keyword).length + (if ([] : List Keyword).isEmpty then 0 else 1) < 30)) = true)
    (hline : (apos.endLine == cpos.line) = true) (hs : starEach (e :: es) X.env = (false, eval e X.env) :: starEach es X.env) (hplain : (backTo cpos (starEach es X.env)).any (·.1) = false) :
    PE X (.Call (.Attribute o name apos) (e :: es) [] cpos) (fun σ H Q => to σ H fun x H1 => tyQ X.K T x H1 ∧ t σ H1 fun xs H2 => r x xs H2 Q) := by
  refine ⟨fun pins s τ H Q I q => wpAny_Call_method_late hbase hfew hline rfl (thn (ho.run pins s τ H _ I q) fun v s1 z => ?_)⟩
  obtain ⟨x, H1, I1, r1, ty, q1⟩ := z
  obtain ⟨g1, g2⟩ := tyQ_is I1 r1 ty
  refine ⟨T, id, pa, slot, hty, g1, g2, ?_⟩
  have hA := ha.run cpos pins s1 τ H1 _ I1 q1
  rw [hs] at hA ⊢
  refine Calls.callWith_builtin (by show (false || (backTo cpos (starEach es X.env)).any (·.1)) = false; rw [hplain] <;> rfl) (Calls.evalArgs_plain (thn hA fun us s2 z2 => ?_))
  obtain ⟨vs, H2, I2, r2, q2⟩ := z2
  exact hm pins s2 τ H2 x vs v us Q I2 r1 r2 q2
end
theorem good_me (hu : X.A.units + 64 < cLine) {o : Expr} {x : Str} {apos pos : Pos} {es : List Expr} {c : Me} {m : Bool} {co : CE} {cs : CEs} (hc : meOf x es.length = some c) (ho : PE X o (upE X.K X.w X.mg W (wpE G co))) (ha : PA X es (upA X.K X.w X.mg W es.length (wpEs G cs)))
    (hn : es = [] → cs = .nil) (hs : es.all noStar = true) (hsup : noSup o = true) (hline : (apos.endLine == pos.line) = true) (hlen : es.length < 29) : PE X (.Call (.Attribute o x apos) es [] pos) (upE X.K X.w X.mg W (wpE G (.me c m co cs))) := by
  obtain ⟨f1, f2, f3⟩ := meOf_facts hc
  have hT := meT_tab hc
  cases es with
  | nil =>
    refine PE.imp (pe_bmQ0 f1 f2 f3 (me_ok hu c m) ho (base_plain hsup) hline) fun τ H Q q => ?_
    obtain ⟨σ, S, Q', E', hs, hh, hc, hq, hx⟩ := q
    simp only [wpE] at hc
    rw [hn rfl] at hc
    simp only [wpEs] at hc
    exact ⟨σ, S, _, E', hs, hh, hc, fun v H1 v' S1 rv hh1 e1 q => ⟨tyQ_of hT hh1 rv q.1, v', [], S1, Q', rv, .nil, hh1, q.2, hq.mono e1⟩, hx⟩
  | cons e es =>
    obtain ⟨s1, s2⟩ := noStar_cons (env := X.env) (pos := pos) hs
    refine PE.imp (pe_bmQ f1 f2 f3 (me_ok hu c m) ho ha (base_plain hsup) ?_ hline s1 s2) fun τ H Q q => ?_
    · rw [(back_plain hs).2]
      simp only [Bool.true_and, List.length_nil, Nat.add_zero, List.isEmpty_nil, if_true]
      rw [show (backToKw pos (keywordEach [] X.env)).all (fun x => x.1.isSome) = true from rfl, Bool.true_and]
      exact decide_eq_true (by omega)
    · obtain ⟨σ, S, Q', E', hs, hh, hc, hq, hx⟩ := q
      simp only [wpE] at hc
      refine ⟨σ, S, _, E', hs, hh, hc, fun v H1 v' S1 rv hh1 e1 q => ⟨tyQ_of hT hh1 rv q.1, ?_⟩, hx⟩
      exact ⟨σ, S1, _, E', hs.mono e1, hh1, q.2, fun vs H2 vs' S2 hl rvs hh2 e2 q2 => ⟨v', vs', S2, Q', RepV.mono e2 _ _ rv, rvs, hh2, q2, hq.mono (e1.trans e2)⟩, hx.mono e1⟩

/-! ### what is walked -/
theorem wipe_wipe {τ : L2.St} : ∀ {vs ws : List Nat}, (∀ i ∈ ws, i ∈ vs) → L2.wipe (L2.wipe τ ws) vs = L2.wipe τ vs
  | _, [], _ => rfl
  | vs, i :: ws, h => by
    show L2.wipe ((L2.wipe τ ws).set i none) vs = _
    rw [wipe_set (h i (by simp)), wipe_wipe fun j hj => h j (by simp [hj])]
theorem good_seq {e tg : Expr} {c : CE} (h : PE X e (upE X.K X.w X.mg W (wpE G c))) : PI X tg e (upI X.K X.w X.mg W (wpI G (.seq c))) := by
  refine PI.imp (pi_seq h) fun τ H R q => ?_
  obtain ⟨σ, S, Q', E', hs, hh, hc, hq, hx⟩ := q
  simp only [wpI] at hc
  refine ⟨σ, S, _, E', hs, hh, hc, fun v H1 v' S1 rv hh1 e1 q => ?_, hx⟩
  dsimp only at q
  split at q
  · rename_i xs e
    obtain ⟨t, a, g1, g2⟩ := src_seq hh1 rv e
    exact ⟨t, a, g1, hq _ _ _ _ g2 hh1 e1 q⟩
  · exact q.elim
theorem good_rev {a tg : Expr} {ca : CE} {p p2 pos pos2 : Pos} (ok : Ok X Γ G k W) (hb1 : Γ.bi "reversed" = true) (hb2 : Γ.bi "range" = true) (hs : noStar a = true) (pe : PE X a (upE X.K X.w X.mg W (wpE G ca))) :
    PI X tg (.Call (.Name "reversed" p) [.Call (.Name "range" p2) [a] [] pos2] [] pos) (upI X.K X.w X.mg W (wpI G (.revr ca))) := by
  obtain ⟨g1, g2, g3⟩ := bi_split hb1
  obtain ⟨g4, g5, g6⟩ := bi_split hb2
  refine PI.imp (pi_revR (ok.glob g1) (ok.free _ g2) (prg_1 (ok.glob g4) (ok.free _ g5) pe (one_star hs)) (one_star rfl)) fun τ H R q => ?_
  obtain ⟨σ, S, Q', E', hs, hh, hc, hq, hx⟩ := q
  simp only [wpI] at hc
  refine ⟨σ, S, _, E', hs, hh, hc, fun v H1 v' S1 rv hh1 e1 q => ?_, hx⟩
  cases v' with
  | int j =>
    simp only [RepV] at rv
    subst rv
    obtain ⟨q1, q2, q3⟩ := q
    have hz : sizeLine < 2 ^ 62 := by decide
    exact ⟨j, rfl, by decide, by decide, q2, by omega, hq _ _ _ _ (src_rev (by omega)) hh1 e1 q3⟩
  | _ => exact q.elim
theorem isLset_is {f a : Expr} {args : List Expr} {kws : List Keyword} (h : isLset Γ f args kws = some a) : ∃ p p2 pos2, f = .Name "len" p ∧ args = [.Call (.Name "set" p2) [a] [] pos2] ∧ kws = [] ∧ Γ.bi "len" = true ∧ Γ.bi "set" = true ∧ noStar a = true := by
  unfold isLset at h
  split at h
  · split at h
    · rename_i hc
      cases h
      simp only [Bool.and_eq_true, beq_iff_eq] at hc
      obtain ⟨⟨⟨⟨⟨⟨rfl, rfl⟩, h1⟩, h2⟩, _⟩, _⟩, h3⟩ := hc
      exact ⟨_, _, _, rfl, rfl, rfl, h1, h2, h3⟩
    · cases h
  · cases h
theorem good_lset {a : Expr} {ca : CE} {p p2 pos pos2 : Pos} (ok : Ok X Γ G k W) (hb1 : Γ.bi "len" = true) (hb2 : Γ.bi "set" = true) (hs : noStar a = true) (pe : PE X a (upE X.K X.w X.mg W (wpE G ca))) :
    PE X (.Call (.Name "len" p) [.Call (.Name "set" p2) [a] [] pos2] [] pos) (upE X.K X.w X.mg W (wpE G (.lset ca))) := by
  obtain ⟨g1, g2, g3⟩ := bi_split hb1
  obtain ⟨g4, g5, g6⟩ := bi_split hb2
  refine PE.imp (pe_lenSetI ok.calm (ok.glob g1) (ok.free _ g2) (ok.glob g4) (ok.free _ g5) pe (one_star hs)) fun τ H Q q => ?_
  obtain ⟨σ, S, Q', E', hs, hh, hc, hq, hx⟩ := q
  simp only [wpE] at hc
  refine ⟨σ, S, _, E', hs, hh, hc, fun v H1 v' S1 rv hh1 e1 q => ?_, hx⟩
  unfold lsetD at q
  dsimp only at q
  split at q
  · rename_i xs e
    split at q
    · rename_i ns e2
      cases intsP_ok e2
      obtain ⟨a, vs, rfl, hl, rs⟩ := dL_rep hh1 rv e
      cases rs.ints
      exact ⟨a, ns, rfl, hl, q.1, q.2.1, hq _ _ (.int _) S1 (by simp only [RepV]) hh1 e1 q.2.2⟩
    · exact q.elim
  · exact q.elim
theorem snd_i (ih : Snd G k n) {e : Expr} {tp : Bool} {c : CI} (h : compI (n + 1) Γ tp e = some c) {tg : Expr} (ht : tp = true → isTupE tg = true) (ok : Ok X Γ G k W) : PI X tg e (upI X.K X.w X.mg W (wpI G c)) := by
  have base : (compE n Γ e).map CI.seq = some c → PI X tg e (upI X.K X.w X.mg W (wpI G c)) := fun h => by
    obtain ⟨ce, h1, rfl⟩ := Option.map_eq_some_iff.mp h
    exact good_seq (ih.e h1 ok).1
  unfold compI at h
  split at h
  · rename_i x px args pos
    split at h
    · rename_i hb
      obtain ⟨rfl, hb, _⟩ := hb
      obtain ⟨hg, hf, hd⟩ := bi_split hb
      split at h
      · rename_i a
        split at h
        · rename_i hs
          obtain ⟨ca, h1, rfl⟩ := Option.map_eq_some_iff.mp h
          refine PI.imp (pi_range1 (ok.glob hg) (ok.free _ hf) (pa1 (ih.e h1 ok).1 hs) (by rw [star_ok (by simp [hs])]; rfl)) fun τ H R q => ?_
          obtain ⟨σ, S, Q', E', hs, hh, hc, hq, hx⟩ := q
          simp only [wpI] at hc
          refine ⟨σ, S, _, E', hs, hh, hc, fun v H1 v' S1 rv hh1 e1 q => ?_, hx⟩
          cases v' with
          | int j =>
            simp only [RepV] at rv
            subst rv
            obtain ⟨q1, q2, q3⟩ := q
            have hz : sizeLine < 2 ^ 62 := by decide
            exact ⟨j, rfl, q2, by omega, hq _ _ _ _ (src_rng (by omega)) hh1 e1 q3⟩
          | _ => exact q.elim
        · cases h
      · rename_i a b
        split at h
        · rename_i hs
          rw [Bool.and_eq_true] at hs
          simp only [Option.bind_eq_bind, Option.bind_eq_some_iff, Option.pure_def, Option.some.injEq] at h
          obtain ⟨ca, h1, cb, h2, rfl⟩ := h
          refine PI.imp (pi_range2 (ok.glob hg) (ok.free _ hf) (pa2 (ih.e h1 ok).1 (ih.e h2 ok).1 hs.1 hs.2) (by rw [star_ok (by simp [hs])]; rfl) (by rw [star_ok (by simp [hs])]; rfl)) fun τ H R q => ?_
          obtain ⟨σ, S, Q', E', hs, hh, hc, hq, hx⟩ := q
          simp only [wpI] at hc
          refine ⟨σ, S, _, E', hs, hh, hc, fun v H1 v' S1 rv hh1 e1 q => ?_, hx⟩
          refine ⟨σ, S1, _, E', hs.mono e1, hh1, q, fun u H2 u' S2 ru hh2 e2 q2 => ?_, hx.mono e1⟩
          dsimp only at q2
          split at q2
          · simp only [RepV] at rv ru
            subst rv ru
            obtain ⟨q1, q2, q3, q4, q5, q6⟩ := q2
            exact ⟨_, _, rfl, ⟨q1, q2, q3, q4⟩, hq _ _ _ _ (src_rng q5) hh2 (e1.trans e2) q6⟩
          · exact q2.elim
        · cases h
      · cases h
    · split at h
      · rename_i hb
        obtain ⟨rfl, hb, _⟩ := hb
        split at h
        · rename_i y _ a _ _
          split at h
          · rename_i hs
            simp only [Bool.and_eq_true, beq_iff_eq] at hs
            obtain ⟨⟨rfl, hb2⟩, hs⟩ := hs
            obtain ⟨ca, h1, rfl⟩ := Option.map_eq_some_iff.mp h
            exact good_rev ok hb hb2 hs (ih.e h1 ok).1
          · cases h
        · cases h
      · split at h
        · rename_i hb
          obtain ⟨rfl, hb, _⟩ := hb
          obtain ⟨hg, hf, hd⟩ := bi_split hb
          split at h
          · rename_i a
            split at h
            · rename_i hs
              rw [Bool.and_eq_true] at hs
              obtain ⟨ca, h1, rfl⟩ := Option.map_eq_some_iff.mp h
              have ht := ht hs.2
              cases tg <;> simp only [isTupE, reduceCtorEq] at ht
              refine PI.imp (pi_enumQ (ok.glob hg) (ok.free _ hf) (ih.e h1 ok).1 hs.1) fun τ H R q => ?_
              obtain ⟨σ, S, Q', E', hs, hh, hc, hq, hx⟩ := q
              simp only [wpI] at hc
              refine ⟨σ, S, _, E', hs, hh, hc, fun v H1 v' S1 rv hh1 e1 q => ?_, hx⟩
              dsimp only at q
              split at q
              · rename_i xs e
                obtain ⟨t, a, g1, g2⟩ := src_enum hh1 rv e
                exact ⟨t, a, g1, hq _ _ _ _ g2 hh1 e1 q⟩
              · exact q.elim
            · cases h
          · cases h
        · split at h
          · rename_i hb
            obtain ⟨rfl, hb, _⟩ := hb
            obtain ⟨hg, hf, hd⟩ := bi_split hb
            split at h
            · rename_i a b
              split at h
              · rename_i hs
                simp only [Bool.and_eq_true] at hs
                simp only [Option.bind_eq_bind, Option.bind_eq_some_iff, Option.pure_def, Option.some.injEq] at h
                obtain ⟨ca, h1, cb, h2, rfl⟩ := h
                have ht := ht hs.2
                cases tg <;> simp only [isTupE, reduceCtorEq] at ht
                refine PI.imp (pi_zipQ (ok.glob hg) (ok.free _ hf) (ih.e h1 ok).1 (ih.e h2 ok).1 hs.1.1 hs.1.2) fun τ H R q => ?_
                obtain ⟨σ, S, Q', E', hs, hh, hc, hq, hx⟩ := q
                simp only [wpI] at hc
                refine ⟨σ, S, _, E', hs, hh, hc, fun v H1 v' S1 rv hh1 e1 q => ?_, hx⟩
                refine ⟨σ, S1, _, E', hs.mono e1, hh1, q, fun u H2 u' S2 ru hh2 e2 q2 => ?_, hx.mono e1⟩
                dsimp only at q2
                split at q2
                · rename_i xs ys e3 e4
                  obtain ⟨t, t2, a, b, g1, g2, g3⟩ := src_zip hh2 (RepV.mono e2 _ _ rv) ru e3 e4
                  exact ⟨t, t2, a, b, g1, g2, hq _ _ _ _ g3 hh2 (e1.trans e2) q2⟩
                · exact q2.elim
              · cases h
            · cases h
          · exact base h
  · exact base h

/-! ### a list comprehension -/
theorem lc_up {ce : CE} {ct : Tg} {ci : CI} {cc : COT} {m : Bool} {own : List Nat} (hs : ∀ i ∈ ct.slots, i ∈ own) {τ : L2.St} {H : Hp} {Q : VK} (q : upE X.K X.w X.mg W (wpE G (.comp m ce ct ci cc own)) τ H Q) :
    tLc (fun τ H R => upI X.K X.w X.mg W (wpI G ci) τ H fun J H1 => Sane X.K H1 → R J H1) (upG X.K X.w ct) (upT X.K X.w X.mg (fun _ _ _ _ => False) fun σ S Q _ => wpC G cc σ S Q) (upE X.K X.w X.mg (fun _ _ _ _ => False) (wpE G ce)) own τ H Q := by
  obtain ⟨σ, S, Q', E', hs', hh, hc, hq, hx⟩ := q
  simp only [wpE] at hc
  refine ⟨σ, S, _, E', hs', hh, hc, fun J H1 src S1 sr hh1 e1 q sane D hD => ?_, hx⟩
  have q := q D (hh1.free hD)
  have hsz := sr.sz sane
  have eD : Ext X.K S1 H1 (upS S1 D (.lst [])) (upd H1 D (.lst [])) := Ext.newS hD
  refine ⟨fun i m H => ∃ S2 acc, RepH X.K X.w H S2 ∧ Ext X.K S1 H1 S2 H ∧ acc.length ≤ i ∧ i ≤ src.items.length ∧ m = src.items.length - i ∧ itL src.ok _ _ (src.items.drop i) acc S2, ⟨_, _, [], hh1.newS (m := .lst []) hD ⟨[], upd_same, .nil⟩, eD, Nat.le_refl _, Nat.zero_le _, rfl, q⟩, ?_⟩
  intro i mm H2 ⟨S2, acc, hh2, e2, hl, hi, hm, q⟩
  by_cases he : i = src.items.length
  · subst he
    rw [List.drop_length] at q
    obtain ⟨q1, q2, q3⟩ := q
    refine .inl ⟨sr.stop _ _ _ e2 hh2 q1 rfl, ?_⟩
    cases m with
    | true => exact hq _ _ (.ref D) S2 (by simp only [RepV]) hh2 (e1.trans e2) q3
    | false => exact hq _ _ _ _ (hh2.frz q2) hh2.del (e1.trans (e2.trans Ext.del)) q3
  · have hlt : i < src.items.length := by omega
    have hdrop : src.items.drop i = src.items[i] :: src.items.drop (i + 1) := (List.drop_eq_getElem_cons hlt)
    rw [hdrop] at q
    obtain ⟨q1, q2⟩ := q
    refine .inr ⟨sr.go _ _ _ e2 hh2 q1 hlt, fun H' => ∃ S' acc', RepH X.K X.w H' S' ∧ Ext X.K S1 H1 S' H' ∧ acc'.length ≤ i + 1 ∧ itL src.ok _ _ (src.items.drop (i + 1)) acc' S', fun H' ⟨S', acc', g1, g2, g3, g4⟩ => ⟨src.items.length - (i + 1), by omega, S', acc', g1, g2, g3, by omega, rfl, g4⟩, ?_⟩
    intro x H3 hy
    obtain ⟨rx, hh3, e3⟩ := sr.yld i H2 S2 src.items[i] x H3 e2 hh2 q1 (List.getElem?_eq_getElem hlt) hy
    have hst : RepSt X.K X.w H3 S2 (wipeS σ own) (L2.wipe τ own) := (hs'.mono (e1.trans (e2.trans e3))).wipe _
    refine ⟨_, S2, _, _, hst, hh3, rx, q2, fun σ' τ' g1 g2 g3 => ⟨(g2 _ hs).trans (wipe_wipe fun i hi => hi), ?_⟩⟩
    refine ⟨σ', S2, _, _, g1, hh3, g3, fun b H4 S4 hh4 e4 q4 => ?_, kX.none⟩
    cases b with
    | false => exact ite_ff ⟨S4, acc, hh4, e2.trans (e3.trans e4), by omega, q4⟩
    | true =>
      refine ite_tt ⟨σ', S4, _, _, g1.mono e4, hh4, q4, fun y H5 y' S5 ry hh5 e5 q5 => ?_, kX.none⟩
      obtain ⟨q6, q7⟩ := q5
      obtain ⟨vs, v1, v2⟩ := hh5 D _ q6
      have e6 : Ext X.K S5 H5 (upS S5 D (.lst (acc ++ [y']))) (upd H5 D (.lst (vs ++ [y]))) := Ext.put hh5 q6
      refine ⟨vs, v1, by rw [← v2.length]; omega, _, _, hh5.put (m' := .lst (acc ++ [y'])) q6 ⟨_, upd_same, RepVs.mono e6 _ _ (v2.snoc ry)⟩, e2.trans (e3.trans (e4.trans (e5.trans e6))), by rw [List.length_append, List.length_singleton]; omega, q7⟩
theorem good_lc (ih : Snd G k n) {elt tg it : Expr} {ifs : List Expr} {scope : Scope} {pos : Pos} {ce : CE} {ct : Tg} {ci : CI} {cc : COT} {m : Bool} {own : List (Str × Nat)} (ok : Ok X Γ G k W) (hb : blkC Γ.N (scOf Γ) scope own = true) (hn : noSet it = true)
    (h1 : compI n Γ (isTupE tg) it = some ci) (h2 : compG n (Γ.block scope) tg = some ct) (h3 : compE n (Γ.block scope) elt = some ce) (h4 : compF n (Γ.block scope) ifs = some cc) (hs : ∀ i ∈ ct.slots, i ∈ own.map (·.2)) :
    PE X (.ListComp elt [⟨tg, it, ifs, 0⟩] scope pos) (upE X.K X.w X.mg W (wpE G (.comp m ce ct ci cc (own.map (·.2))))) := by
  have hbk := blkOk_by hb
  refine PE.imp (pe_lc (g := upG X.K X.w ct) (tt := upT X.K X.w X.mg (fun _ _ _ _ => False) fun σ S Q _ => wpC G cc σ S Q) (te := upE X.K X.w X.mg (fun _ _ _ _ => False) (wpE G ce)) ok.calm (by rw [ok.N]; exact ok.nd) (PI.sane (ih.i h1 id ok)) (ok.blkOk hbk) (fun s H C cl fp => (compG_sound n).1 h2 (ok.block hbk s H C cl fp)) (fun s H C cl fp => ih.f h4 (ok.block hbk s H C cl fp))
    (fun s H C cl fp => (ih.e h3 (ok.block hbk s H C cl fp)).1) (noSet_fold hn)) fun τ H Q q => ?_
  exact lc_up hs q
end
end DL
end
section
set_option maxRecDepth 100000
set_option maxHeartbeats 2000000
/-! Soundness: expressions, all. -/
namespace DL
open PySem PySem.Spec L2
open PyProof.Rows hiding St

section
variable {X : Cx} {Γ : Gam} {G : GE} {k n : Nat} {W : WX}
theorem compEs_nil {n : Nat} {Γ : Gam} {es : List Expr} {c : CEs} (h : compEs n Γ es = some c) : es = [] → c = .nil := by
  rintro rfl
  cases n <;> simpa [compEs] using h.symm
theorem good_call (ih : Snd G k n) {f : Expr} {args : List Expr} {kws : List Keyword} {pos : Pos} {c : CE} (h : compE (n + 1) Γ (.Call f args kws pos) = some c) (ok : Ok X Γ G k W) : GoodE G X W (.Call f args kws pos) c := by
  refine good_plain ?_ fun _ => rfl
  cases hl : isLrg Γ f args kws with
  | some ra =>
    obtain ⟨p, p2, pos2, rfl, rfl, rfl, hb1, hb2⟩ := isLrg_is hl
    simp only [compE, hl] at h
    match ra, h with
    | [a], h =>
      simp only at h
      split at h
      · rename_i hs
        obtain ⟨ca, h1, rfl⟩ := Option.map_eq_some_iff.mp h
        exact good_lrng1 ok hb1 hb2 hs (ih.e h1 ok).1
      · cases h
    | [a, b], h =>
      simp only at h
      split at h
      · rename_i hs
        rw [Bool.and_eq_true] at hs
        simp only [Option.bind_eq_bind, Option.bind_eq_some_iff, Option.pure_def, Option.some.injEq] at h
        obtain ⟨ca, h1, cb, h2, rfl⟩ := h
        exact good_lrng2 ok hb1 hb2 hs.1 hs.2 (ih.e h1 ok).1 (ih.e h2 ok).1
      · cases h
    | [], h => cases h
    | _ :: _ :: _ :: _, h => cases h
  | none =>
  cases hl2 : isLset Γ f args kws with
  | some ra =>
    obtain ⟨p, p2, pos2, rfl, rfl, rfl, hb1, hb2, hs⟩ := isLset_is hl2
    simp only [compE, hl, hl2] at h
    obtain ⟨ca, h1, rfl⟩ := Option.map_eq_some_iff.mp h
    exact good_lset ok hb1 hb2 hs (ih.e h1 ok).1
  | none =>
  unfold compE at h
  rw [hl] at h
  try dsimp only at h
  rw [hl2] at h
  try dsimp only at h
  split at h
  · rename_i x px
    split at h
    · rename_i hc
      simp only [Bool.and_eq_true, Bool.not_eq_true'] at hc
      obtain ⟨⟨⟨hs, hne⟩, hg⟩, hd⟩ := hc
      cases args with
      | nil => cases hne
      | cons e es =>
        split at h
        · rename_i i m hf
          split at h
          · rename_i hm
            obtain ⟨cs, h1, rfl⟩ := Option.map_eq_some_iff.mp h
            exact good_own hf hm ok hg hd (ih.es h1 hs ok) hs
          · cases h
        · split at h
          · rename_i hfree
            have bi : ∀ {b : Bi} {cs : CEs}, biOf x (e :: es).length = some b → compEs n Γ (e :: es) = some cs → PE X (.Call (.Name x px) (e :: es) [] pos) (upE X.K X.w X.mg W (wpE G (.bi b (Γ.own.contains pos) cs))) := fun hb h1 => good_bi hb ok hg hfree hd (ih.es h1 hs ok) hs
            have other : (do
                let b ← biOf x (e :: es).length
                let cs ← compEs n Γ (e :: es)
                return CE.bi b (Γ.own.contains pos) cs) = some c → PE X (.Call (.Name x px) (e :: es) [] pos) (upE X.K X.w X.mg W (wpE G c)) := fun h => by
              simp only [Option.bind_eq_bind, Option.bind_eq_some_iff, Option.pure_def, Option.some.injEq] at h
              obtain ⟨b, hb, cs, h1, rfl⟩ := h
              exact bi hb h1
            rcases es with _ | ⟨t, _ | ⟨t2, es⟩⟩
            · exact other h
            · dsimp only at h
              split at h
              · rename_i hx
                split at h
                · rename_i y py
                  split at h
                  · rename_i hy
                    split at h
                    · rename_i ty e1
                      obtain ⟨ca, h1, rfl⟩ := Option.map_eq_some_iff.mp h
                      obtain ⟨m1, m2⟩ := tyOf_mem e1
                      obtain ⟨g1, g2, g3⟩ := bi_split hy
                      refine good_isi hx ok hg hfree (ih.e h1 ok).1 hs (.inl ⟨ty, rfl, m1, pe_bltn (ok.glob g1) (ok.free y g2) m2 rfl (fun z => ?_) g3⟩)
                      rw [z, show tyOf ("__name__" : Str) = none from by decide] at e1
                      cases e1
                    · cases h
                  · cases h
                · rename_i ts k1 k2
                  split at h
                  · rename_i tys e1
                    split at h
                    · rename_i hz
                      obtain ⟨ca, h1, rfl⟩ := Option.map_eq_some_iff.mp h
                      obtain ⟨m1, m2⟩ := tys_pa ok e1
                      have hsz : 8 ≤ sizeLine := by decide
                      exact good_isi hx ok hg hfree (ih.e h1 ok).1 hs (.inr ⟨m1, by omega, pe_tup m2⟩)
                    · cases h
                  · cases h
                · cases h
              · exact other h
            · exact other h
          · cases h
    · cases h
  · rename_i o m apos
    split at h
    · rename_i hc
      simp only [Bool.and_eq_true, decide_eq_true_eq] at hc
      obtain ⟨⟨⟨hs, hsup⟩, hline⟩, hlen⟩ := hc
      simp only [Option.bind_eq_bind, Option.bind_eq_some_iff, Option.pure_def, Option.some.injEq] at h
      obtain ⟨cm, hm, co, h1, cs, h2, rfl⟩ := h
      exact good_me (by have := ok.hu; omega) hm (ih.e h1 ok).1 (ih.es h2 hs ok) (compEs_nil h2) hs hsup hline hlen
    · cases h
  · cases h
theorem snd_e (ih : Snd G k n) {e : Expr} {c : CE} (h : compE (n + 1) Γ e = some c) (ok : Ok X Γ G k W) : GoodE G X W e c := by
  cases e with
  | Name x p => exact good_name h ok
  | Constant cc j p => exact good_cst h
  | BinOp a op b p => exact good_bin ih h ok
  | UnaryOp op a p => exact good_un ih h ok
  | BoolOp op es p =>
    simp only [compE] at h
    exact ⟨ih.b h ok p, fun hi => by cases hi⟩
  | Compare a ops es p => exact good_cmp ih h ok
  | Subscript a b p => exact good_sub ih h ok
  | Tuple es kk p => exact good_tup ih h ok
  | List es p => exact good_lst ih h ok
  | Call f args kws p => exact good_call ih h ok
  | Dict ks vs p =>
    match ks, vs, h with
    | [], [], h => exact good_dct h
    | [], _ :: _, h => simp [compE] at h
    | _ :: _, _, h => simp [compE] at h
  | ListComp elt gens scope p =>
    refine good_plain ?_ fun _ => rfl
    match gens, h with
    | [⟨tg, it, ifs, a⟩], h =>
      simp only [compE] at h
      split at h
      · rename_i hc
        simp only [Bool.and_eq_true, beq_iff_eq] at hc
        obtain ⟨⟨rfl, hb⟩, hn⟩ := hc
        simp only [Option.bind_eq_bind, Option.bind_eq_some_iff] at h
        obtain ⟨ci, h1, ct, h2, ce, h3, cc, h4, h⟩ := h
        split at h
        · rename_i hs
          cases h
          exact good_lc ih ok hb hn h1 h2 h3 h4 fun i hi => by simpa using List.all_eq_true.mp hs i hi
        · cases h
      · cases h
    | [], h => simp [compE] at h
    | _ :: _ :: _, h => simp [compE] at h
  | _ => simp [compE] at h
theorem compF_zero {Γ : Gam} {e : Expr} {es : List Expr} : compF 0 Γ (e :: es) = none := by
  cases es <;> rfl
theorem snd_zero : Snd G k 0 := by
  refine ⟨fun h => ?_, fun {Γ es c} h hs {X W} ok => ?_, fun h => ?_, fun h => ?_, fun h => ?_, fun h => ?_, fun {Γ e c} h {X W} ok => ?_, fun {Γ es c} h {X} ok => ?_, fun h => ?_⟩
  · simp [compE] at h
  · cases es with
    | nil =>
      simp only [compEs, Option.some.injEq] at h
      subst h
      refine PA.imp pa_nil fun τ H Q q => ?_
      obtain ⟨σ, S, Q', E', hs, hh, hc, hq, hx⟩ := q
      simp only [wpEs] at hc
      exact hq [] H [] S rfl .nil hh Ext.refl hc
    | cons _ _ => simp [compEs] at h
  · simp [compL] at h
  · simp [compB] at h
  · simp [compT] at h
  · simp [compTB] at h
  · cases e with
    | none =>
      simp only [compO, Option.some.injEq] at h
      subst h
      refine PO.imp po_none fun τ H Q q => ?_
      obtain ⟨σ, S, Q', E', hs, hh, hc, hq, hx⟩ := q
      simp only [wpO] at hc
      exact hq none H S hh Ext.refl hc
    | some _ => simp [compO] at h
  · cases es with
    | nil =>
      simp only [compF, Option.some.injEq] at h
      subst h
      refine ⟨fun pins s σ H Q I q => pts_nil.run pins s σ H Q I ?_⟩
      obtain ⟨σ, S, Q', E', hs, hh, hc, hq, hx⟩ := q
      simp only [wpC] at hc
      exact hq true H S hh Ext.refl hc
    | cons _ _ => rw [compF_zero] at h; cases h
  · simp [compI] at h
theorem snd_all : ∀ n, Snd G k n
  | 0 => snd_zero
  | n + 1 => ⟨fun h _ _ ok => snd_e (snd_all n) h ok, fun h hs _ _ ok => snd_es (snd_all n) h hs ok, fun h _ _ ok => snd_l (snd_all n) h ok, fun h _ _ ok pos => snd_b (snd_all n) h ok pos, fun h _ _ ok => snd_t (snd_all n) h ok, fun h _ _ ok pos => snd_tb (snd_all n) h ok pos,
    fun h _ _ ok => snd_o (snd_all n) h ok, fun h _ ok => snd_f (snd_all n) h ok, fun h _ ht _ _ ok => snd_i (snd_all n) h ht ok⟩
end
end DL
end
section
set_option maxRecDepth 100000
set_option maxHeartbeats 2000000
/-! Soundness: statements. -/
namespace DL
open PySem PySem.Spec L2
open PyProof.Rows hiding St

abbrev CSf := EndD → XPS → Sl → Sto → Prop
section
variable (K : PySem.W.Frag) (w : World) (mg : Mg) (W : WX)
def kXS (S : Sto) (H : Hp) (E : XPS) : Prop := ∀ x cls d H' S' σ' τ', RepX K w mg H' S' x cls d → RepH K w H' S' → Ext K S H S' H' → RepSt K w H' S' σ' τ' → E x σ' S' → W cls d τ' H'
structure kD (S : Sto) (H : Hp) (D' : EndD) (D : Ends) : Prop where
  nx : ∀ σ' τ' H' S', RepSt K w H' S' σ' τ' → RepH K w H' S' → Ext K S H S' H' → D'.nx σ' S' → D.nx τ' H'
  rt : kV K w S H D'.rt D.rt
  bk : ∀ σ' τ' H' S', RepSt K w H' S' σ' τ' → RepH K w H' S' → Ext K S H S' H' → D'.bk σ' S' → D.bk τ' H'
  ct : ∀ σ' τ' H' S', RepSt K w H' S' σ' τ' → RepH K w H' S' → Ext K S H S' H' → D'.ct σ' S' → D.ct τ' H'
def upS_ (c : CSf) : TS := fun D τ H => ∃ σ S D' E', RepSt K w H S σ τ ∧ RepH K w H S ∧ c D' E' σ S ∧ kD K w S H D' D ∧ kXS K w mg W S H E'
end
section
variable {K : PySem.W.Frag} {w : World} {mg : Mg} {W : WX}
theorem kXS.mono {S S1 : Sto} {H H1 : Hp} {E : XPS} (k : kXS K w mg W S H E) (e : Ext K S H S1 H1) : kXS K w mg W S1 H1 E := fun x cls d H' S' σ' τ' r h e' r2 q => k x cls d H' S' σ' τ' r h (e.trans e') r2 q
theorem kXS.kX {S : Sto} {H : Hp} {E : XPS} {σ : Sl} {τ : L2.St} (k : kXS K w mg W S H E) (hs : RepSt K w H S σ τ) : kX K w mg S H τ (fun x => E x σ) W := fun x cls d H' S' r h e q => k x cls d H' S' σ τ r h e (hs.mono e) q
theorem kD.mono {S S1 : Sto} {H H1 : Hp} {D' : EndD} {D : Ends} (k : kD K w S H D' D) (e : Ext K S H S1 H1) : kD K w S1 H1 D' D :=
  ⟨fun a b c d r h e' q => k.nx a b c d r h (e.trans e') q, k.rt.mono e, fun a b c d r h e' q => k.bk a b c d r h (e.trans e') q, fun a b c d r h e' q => k.ct a b c d r h (e.trans e') q⟩
end
/-- what a def's body needs besides -/
structure OkS (X : Cx) (Γ : Gam) (G : GE) (k : Nat) (W : WX) : Prop extends Ok X Γ G k W where
  po : PassesOwn (model X.prog X.w) X.A X.env X.xe
  exc : ∀ x, Γ.exc.contains x = true → ∃ C, X.mg x = some (.ref C) ∧ ∀ (m : Str) (j : Nat) (p p2 pos : Pos), Gl X x → dbg x = false → PMk X (.Call (.Name x p) [.Constant (.str m) j p2] [] pos) (fun _ H Q => Q (.ref C) none H)
section
variable {X : Cx} {Γ : Gam} {G : GE} {k n : Nat} {W : WX}
theorem up_asg {c : CE} {t : Tg} {τ : L2.St} {H : Hp} {D : Ends} (q : upS_ X.K X.w X.mg W (wpS G (.asg t c)) D τ H) : tAsg (upE X.K X.w X.mg W (wpE G c)) (upG X.K X.w t) D τ H := by
  obtain ⟨σ, S, D', E', hs, hh, hc, hd, hx⟩ := q
  simp only [wpS] at hc
  exact ⟨σ, S, _, _, hs, hh, hc, fun v H1 v' S1 rv hh1 e1 q => ⟨σ, S1, v', _, hs.mono e1, hh1, rv, q, fun σ' τ' g1 g2 g3 => hd.nx _ _ _ _ g1 hh1 e1 g3⟩, hx.kX hs⟩
theorem noComp_sw {e : Expr} {t : Option Expr} {l : Nat} {env : Env} (h : noComp e = true) : swapsWith e t l env = pure false := by
  cases e <;> first | rfl | (simp [noComp] at h; done)
theorem noComp_sole {e t : Expr} {l : Nat} {env : Env} (h : noComp e = true) : swapsWithSole [t] e l env = pure false := noComp_sw (t := some t) h
theorem swap_none {es : List Expr} {kk : Nat} {pt : Pos} {e : Expr} {env : Env} (h : isTupE e = false) : swappedStores [.Tuple es kk pt] e env = pure none := by
  cases e <;> first | rfl | (simp [isTupE] at h; done)
theorem upG_name {i : Nat} {v : V} {τ : L2.St} {H : Hp} {Q : L2.St → Hp → Prop} (q : upG X.K X.w (.nm i) v τ H Q) : gName i v τ H Q := by
  obtain ⟨σ, S, x', Q', h1, h2, h3, h4, h5⟩ := q
  simp only [tgD] at h4
  exact h5 _ _ (h1.set i h3) (fun vs hv => wipe_set (hv i (by simp [Tg.slots]))) h4
theorem lc_sw {elt : Expr} {gs : List Comprehension} {scope : Scope} {pos py : Pos} {y : Str} {l : Nat} {env : Env} : ∃ b, swapsWith (.ListComp elt gs scope pos) (some (.Name y py)) l env = pure b := ⟨_, rfl⟩
theorem lc_swc {elt : Expr} {gs : List Comprehension} {scope : Scope} {pos py : Pos} {y : Str} {l : Nat} {env : Env} (h : (env.kindOf y == some .local) = false) : swapsWith (.ListComp elt gs scope pos) (some (.Name y py)) l env = pure false := by
  show (pure (env.blockKind == .function && env.kindOf y == some .local && py.line == pos.line && !(scope.names.any fun (n, k) => n == y && (k == .local || k == .cell))) : Sem Bool) = pure false
  rw [h]
  simp
theorem sound_asgN (ok : Ok X Γ G k W) {x : Str} {px pos : Pos} {e : Expr} {t : Tg} {c : CE} (h1 : compG n Γ (.Name x px) = some t) (h2 : compE n Γ e = some c) (h3 : (noComp e || Γ.names.lookup x == some .local || Γ.names.lookup x == some .cell) = true) :
    PS X (.Assign [.Name x px] e pos) (upS_ X.K X.w X.mg W (wpS G (.asg t c))) := by
  have ih := snd_all (G := G) (k := k) n
  cases n with
  | zero => simp [compG] at h1
  | succ n =>
  simp only [compG] at h1
  split at h1
  · rename_i hl
    rw [Bool.and_eq_true] at hl
    obtain ⟨i, hi, rfl⟩ := Option.map_eq_some_iff.mp h1
    have hN : X.N.Nodup := by rw [ok.N]; exact ok.nd
    have hi2 : X.N[i]? = some x := by rw [ok.N]; exact slotOf_ok hi
    have plain : swapsWith e (some (.Name x px)) pos.line X.env = pure false → PS X (.Assign [.Name x px] e pos) (upS_ X.K X.w X.mg W (wpS G (.asg (.nm i) c))) := fun hsw =>
      PS.imp (ps_set hN hi2 (ok.locN hl.1) (ih.e h2 ok).1 hsw (ok.fnc x hl.2)) fun D τ H q => by
        obtain ⟨σ, S, D', E', hs, hh, hc, hd, hx⟩ := q
        simp only [wpS] at hc
        refine ⟨σ, S, _, _, hs, hh, hc, fun v H1 v' S1 rv hh1 e1 q => ?_, hx.kX hs⟩
        simp only [tgD] at q
        exact hd.nx _ _ _ _ ((hs.mono e1).set i rv) hh1 e1 q
    by_cases hn : noComp e = true
    · exact plain (noComp_sw hn)
    · have hlc : X.env.scope.names.lookup x = some .local ∨ X.env.scope.names.lookup x = some .cell := by
        rw [ok.sc]
        simpa [hn] using h3
      cases e with
      | ListComp elt gens scope p =>
        rcases hlc with hloc | hcell
        case inr => exact plain (lc_swc (by unfold Env.kindOf; rw [hcell]; decide))
        case inl =>
        obtain ⟨b, hb⟩ := lc_sw (elt := elt) (gs := gens) (scope := scope) (pos := p) (py := px) (y := x) (l := pos.line) (env := X.env)
        cases b with
        | false => exact plain hb
        | true =>
          match gens, h2, hb with
          | [⟨tg, it, ifs, a⟩], h2, hb =>
            simp only [compE] at h2
            split at h2
            · rename_i hc
              simp only [Bool.and_eq_true, beq_iff_eq] at hc
              obtain ⟨⟨rfl, hbl⟩, hns⟩ := hc
              simp only [Option.bind_eq_bind, Option.bind_eq_some_iff] at h2
              obtain ⟨ci, g1, ct, g2, ce, g3, cc, g4, h⟩ := h2
              split at h
              · rename_i hs
                cases h
                have hbk := blkOk_by hbl
                have ih := snd_all (G := G) (k := k) n
                refine PS.imp (ps_setLc (i := i) (g := upG X.K X.w ct) (tt := upT X.K X.w X.mg (fun _ _ _ _ => False) fun σ S Q _ => wpC G cc σ S Q) (te := upE X.K X.w X.mg (fun _ _ _ _ => False) (wpE G ce)) ok.calm hN hi2 hloc hb (PI.sane (ih.i g1 id ok)) (ok.blkOk hbk)
                  (fun s H C cl fp => (compG_sound n).1 g2 (ok.block hbk s H C cl fp)) (fun s H C cl fp => ih.f g4 (ok.block hbk s H C cl fp)) (fun s H C cl fp => (ih.e g3 (ok.block hbk s H C cl fp)).1) (noSet_fold hns)) fun D τ H q => ?_
                obtain ⟨σ, S, D', E', hs', hh, hc, hd, hx⟩ := q
                simp only [wpS] at hc
                refine lc_up (by simpa using hs) ⟨σ, S, _, _, hs', hh, hc, fun v H1 v' S1 rv hh1 e1 q => ?_, hx.kX hs'⟩
                simp only [tgD] at q
                exact hd.nx _ _ _ _ ((hs'.mono e1).set i rv) hh1 e1 q
              · cases h
            · cases h2
          | [], h2, _ => simp [compE] at h2
          | _ :: _ :: _, h2, _ => simp [compE] at h2
      | SetComp _ _ _ _ => simp [compE] at h2
      | DictComp _ _ _ _ _ => simp [compE] at h2
      | _ => exact absurd rfl hn
  · cases h1

theorem sound_asgT (ok : Ok X Γ G k W) {es : List Expr} {kk : Nat} {pt pos : Pos} {e : Expr} {t : Tg} {c : CE} (h1 : compG n Γ (.Tuple es kk pt) = some t) (h2 : compE n Γ e = some c) (h3 : noComp e = true) (h4 : isTupE e = false) :
    PS X (.Assign [.Tuple es kk pt] e pos) (upS_ X.K X.w X.mg W (wpS G (.asg t c))) :=
  PS.imp (ps_asg ((snd_all n).e h2 ok).1 ((compG_sound n).1 h1 ok) (noComp_sole h3) (swap_none h4)) fun D τ H q => up_asg q
theorem swap_names {x y : Str} {px py : Pos} {env : Env} {l : Nat} {f : Expr → Option Str} (hf : ∀ z p, f (.Name z p) = if (env.kindOf z == some .local && p.line == l) = true then some z else none) :
    [Expr.Name x px, Expr.Name y py].filterMap f = [x, y] ∨ ([Expr.Name x px, Expr.Name y py].filterMap f).length ≠ 2 := by
  simp only [List.filterMap_cons, List.filterMap_nil, hf]
  cases (env.kindOf x == some .local && px.line == l) <;> cases (env.kindOf y == some .local && py.line == l) <;> simp
theorem swap_two {x y : Str} {px py : Pos} {kk : Nat} {pt : Pos} {a b : Expr} {k2 : Nat} {p2 : Pos} {env : Env} (hx : x ≠ y) (hs : [a, b].all noStar = true) (hf : ([a, b].all (foldedForSure 8) || !([a, b].all (constantsAlone 8))) = true) :
    swappedStores [.Tuple [.Name x px, .Name y py] kk pt] (.Tuple [a, b] k2 p2) env = pure none ∨ swappedStores [.Tuple [.Name x px, .Name y py] kk pt] (.Tuple [a, b] k2 p2) env = pure (some [x, y]) := by
  have h0 : ([a, b].any fun | .Starred .. => true | _ => false) = false := by
    simp only [List.all_cons, List.all_nil, Bool.and_true, Bool.and_eq_true] at hs
    simp only [List.any_cons, List.any_nil, Bool.or_false, Bool.or_eq_false_iff]
    refine ⟨?_, ?_⟩
    · have := hs.1
      cases a <;> first | rfl | (simp [noStar] at this; done)
    · have := hs.2
      cases b <;> first | rfl | (simp [noStar] at this; done)
  unfold swappedStores
  simp only [List.length_cons, List.length_nil, pure_bind]
  generalize hA : ([a, b].any _) = an
  obtain rfl : an = false := hA.symm.trans h0
  generalize [a, b].all (foldedForSure 8) = f1 at *
  generalize [a, b].all (constantsAlone 8) = f2 at *
  have key := swap_names (x := x) (y := y) (px := px) (py := py) (env := env) (l := px.line) (f := fun x_1 => match x_1 with
    | Expr.Name id pos => if (env.kindOf id == some NameKind.local && pos.line == (Option.map (fun x => x.pos.line) [Expr.Name x px, Expr.Name y py].head?).getD 0) = true then some id else none
    | x => none) (fun z p => rfl)
  generalize List.filterMap _ [Expr.Name x px, Expr.Name y py] = nm at key ⊢
  have hed : ([x, y] : List Str).eraseDups = [x, y] := by
    have hxy : (y == x) = false := by
      rw [beq_eq_false_iff_ne]
      exact fun e => hx e.symm
    simp [List.eraseDups_cons, hxy]
  generalize (env.blockKind != ScopeKind.function) = b4
  rcases key with rfl | hl
  · rw [hed]
    cases b4 <;> cases f1 <;> cases f2 <;> first
      | (simp at hf; done)
      | exact .inl rfl
      | exact .inr rfl
  · left
    have hl2 : (nm.length != 0 + 1 + 1) = true := by simpa using hl
    rw [hl2]
    cases b4 <;> rfl
theorem sound_par (ok : Ok X Γ G k W) {x y : Str} {px py : Pos} {kk : Nat} {pt pos : Pos} {a b : Expr} {k2 : Nat} {p2 : Pos} {t : Tg} {c : CE} (h1 : compG n Γ (.Tuple [.Name x px, .Name y py] kk pt) = some t) (h2 : compE n Γ (.Tuple [a, b] k2 p2) = some c)
    (hxy : x ≠ y) (hx : Γ.names.lookup x = some .local) (hy : Γ.names.lookup y = some .local) (hs : [a, b].all noStar = true) (hf : ([a, b].all (foldedForSure 8) || !([a, b].all (constantsAlone 8))) = true) :
    PS X (.Assign [.Tuple [.Name x px, .Name y py] kk pt] (.Tuple [a, b] k2 p2) pos) (upS_ X.K X.w X.mg W (wpS G (.asg t c))) := by
  rcases swap_two (px := px) (py := py) (kk := kk) (pt := pt) (k2 := k2) (p2 := p2) (env := X.env) hxy hs hf with hw | hw
  · exact PS.imp (ps_asg ((snd_all n).e h2 ok).1 ((compG_sound n).1 h1 ok) rfl hw) fun D τ H q => up_asg q
  · match n, h1, h2 with
    | 0, h1, _ => simp [compG] at h1
    | 1, h1, _ => simp [compG, compGs] at h1
    | 2, h1, _ => simp [compG, compGs] at h1
    | 3, h1, _ => simp [compG, compGs] at h1
    | n + 4, h1, h2 =>
      have hn1 : (Γ.loc x && Γ.fnc x) = true := by
        unfold Gam.loc Gam.fnc
        rw [hx]
        rfl
      have hn2 : (Γ.loc y && Γ.fnc y) = true := by
        unfold Gam.loc Gam.fnc
        rw [hy]
        rfl
      simp only [compG, compGs, List.all_cons, List.all_nil, noStar, Bool.and_true, if_true, hn1, hn2, Option.bind_eq_bind, Option.map_eq_some_iff, Option.bind_eq_some_iff, Option.pure_def, Option.some.injEq] at h1
      obtain ⟨ts, ⟨t1, ⟨i, hi, rfl⟩, ts2, ⟨t2, ⟨j, hj, rfl⟩, ts3, rfl, rfl⟩, rfl⟩, rfl⟩ := h1
      simp only [compE, hs, if_true] at h2
      obtain ⟨cs, h5, rfl⟩ := Option.map_eq_some_iff.mp h2
      have hi := slotOf_ok hi
      have hj := slotOf_ok hj
      have hij : i ≠ j := fun e => hxy (by
        subst e
        exact Option.some.inj (hi.symm.trans hj))
      refine PS.imp (ps_par (i := i) (j := j) ok.calm (by rw [ok.N]; exact ok.nd) (by rw [ok.N]; exact hi) (by rw [ok.N]; exact hj) hij (by rw [ok.sc]; exact hx) (by rw [ok.sc]; exact hy) ((snd_all (n + 3)).es h5 hs ok) hw) fun D τ H q => ?_
      obtain ⟨σ, S, D', E', hs', hh, hc, hd, hxx⟩ := q
      simp only [wpS, wpE] at hc
      refine ⟨σ, S, _, _, hs', hh, hc, fun vs H1 vs' S1 hl rv hh1 e1 q => ?_, hxx.kX hs'⟩
      obtain ⟨q1, q⟩ := q
      simp only [tgD, dQ] at q
      match vs, hl, rv with
      | [v, u], _, rv =>
        match vs', rv, q with
        | [v', u'], rv, q =>
          simp only [tgDs, tgD] at q
          obtain ⟨_, _, e, r1, r2⟩ := rv.cons_inv
          cases e
          obtain ⟨_, _, e, r2, _⟩ := r2.cons_inv
          cases e
          exact ⟨v, u, rfl, hd.nx _ _ _ _ (((hs'.mono e1).set i r1).set j r2) hh1 e1 q⟩
        | [], rv, _ => exact absurd rv.length (by simp)
        | [_], rv, _ => exact absurd rv.length (by simp)
        | _ :: _ :: _ :: _, rv, _ => exact absurd rv.length (by simp)
theorem assign_sub {o i : Expr} {pi : Pos} {env : Env} {v : Value} (h : noSlice i = true) : assign (.Subscript o i pi) env v = (do
    let ov ← holding [v] (eval o env)
    let iv ← holding [v, ov] (eval i env)
    standAt pi
    holding [v, ov, iv] (setItem ov iv v)
    release [v, ov, iv] []) := by
  cases i <;> first | rfl | (simp [noSlice] at h; done)
theorem sound_setI (ok : Ok X Γ G k W) {o i e : Expr} {pi pos : Pos} {co ci c : CE} (h1 : compE n Γ o = some co) (h2 : compE n Γ i = some ci) (h3 : compE n Γ e = some c) (h4 : noComp e = true) (h5 : noSlice i = true) :
    PS X (.Assign [.Subscript o i pi] e pos) (upS_ X.K X.w X.mg W (wpS G (.setI co ci c))) := by
  have ih := snd_all (G := G) (k := k) n
  refine PS.imp (ps_asg (ih.e h3 ok).1 (pg_sub (ih.e h1 ok).1 (ih.e h2 ok).1 (set_ok (by have := ok.hu; omega)) fun v => assign_sub h5) (noComp_sole h4) rfl) fun D τ H q => ?_
  obtain ⟨σ, S, D', E', hs, hh, hc, hd, hx⟩ := q
  simp only [wpS] at hc
  refine ⟨σ, S, _, _, hs, hh, hc, fun v H1 v' S1 rv hh1 e1 q1 => ?_, hx.kX hs⟩
  refine ⟨σ, S1, _, _, hs.mono e1, hh1, q1, fun x H2 x' S2 rx hh2 e2 q2 => ?_, (hx.mono e1).kX (hs.mono e1)⟩
  refine ⟨σ, S2, _, _, hs.mono (e1.trans e2), hh2, q2, fun y H3 y' S3 ry hh3 e3 q3 => ?_, (hx.mono (e1.trans e2)).kX (hs.mono (e1.trans e2))⟩
  exact ⟨x', y', v', S3, _, RepV.mono e3 _ _ rx, ry, RepV.mono (e2.trans e3) _ _ rv, hh3, q3, fun H4 S4 hh4 e4 q4 => hd.nx _ _ _ _ (hs.mono (e1.trans (e2.trans (e3.trans e4)))) hh4 (e1.trans (e2.trans (e3.trans e4))) q4⟩
theorem sound_for (ok : OkS X Γ G k W) {tg it : Expr} {b : List Stmt} {pos : Pos} {ct : Tg} {ci : CI} {cb : CSs} (h0 : noSet it = true) (h1 : compG n Γ tg = some ct) (h2 : compI n Γ (isTupE tg) it = some ci)
    (hb : PSs X b (upS_ X.K X.w X.mg W (wpSs G cb))) : PS X (.For tg it b [] pos) (upS_ X.K X.w X.mg W (wpS G (.for ct ci cb))) := by
  have ih := snd_all (G := G) (k := k) n
  refine PS.imp (ps_for ok.po ok.calm (ih.i h2 id ok.toOk) ((compG_sound n).1 h1 ok.toOk) hb (noSet_fold h0)) fun D τ H q => ?_
  obtain ⟨σ, S, D', E', hs, hh, hc, hd, hx⟩ := q
  simp only [wpS] at hc
  refine ⟨σ, S, _, _, hs, hh, hc, fun J H1 src S1 sr hh1 e1 q => ?_, hx.kX hs⟩
  refine ⟨fun i m τ2 H2 => ∃ σ2 S2, RepSt X.K X.w H2 S2 σ2 τ2 ∧ RepH X.K X.w H2 S2 ∧ Ext X.K S1 H1 S2 H2 ∧ i ≤ src.items.length ∧ m = src.items.length - i ∧ itL src.ok _ D'.nx (src.items.drop i) σ2 S2, ⟨_, σ, S1, hs.mono e1, hh1, Ext.refl, Nat.zero_le _, rfl, q⟩, ?_⟩
  intro i mm τ2 H2 ⟨σ2, S2, hs2, hh2, e2, hi, hm, q⟩
  by_cases he : i = src.items.length
  · subst he
    rw [List.drop_length] at q
    exact .inl ⟨sr.stop _ _ _ e2 hh2 q.1 rfl, hd.nx _ _ _ _ hs2 hh2 (e1.trans e2) q.2⟩
  · have hlt : i < src.items.length := by omega
    have hdrop : src.items.drop i = src.items[i] :: src.items.drop (i + 1) := (List.drop_eq_getElem_cons hlt)
    rw [hdrop] at q
    obtain ⟨q1, q2⟩ := q
    refine .inr ⟨sr.go _ _ _ e2 hh2 q1 hlt, fun τ' H' => ∃ σ' S', RepSt X.K X.w H' S' σ' τ' ∧ RepH X.K X.w H' S' ∧ Ext X.K S1 H1 S' H' ∧ itL src.ok _ D'.nx (src.items.drop (i + 1)) σ' S', fun τ' H' ⟨σ', S', g1, g2, g3, g4⟩ => ⟨src.items.length - (i + 1), by omega, σ', S', g1, g2, g3, by omega, rfl, g4⟩, ?_⟩
    intro x H3 hy
    obtain ⟨rx, hh3, e3⟩ := sr.yld i H2 S2 src.items[i] x H3 e2 hh2 q1 (List.getElem?_eq_getElem hlt) hy
    refine ⟨σ2, S2, _, _, hs2.mono e3, hh3, rx, q2, fun σ' τ' g1 g2 g3 => ?_⟩
    have e13 := e1.trans (e2.trans e3)
    refine ⟨σ', S2, _, _, g1, hh3, g3, ⟨fun σ4 τ4 H4 S4 r4 hh4 e4 q4 => ⟨σ4, S4, r4, hh4, e2.trans (e3.trans e4), q4⟩, (hd.mono e13).rt, fun σ4 τ4 H4 S4 r4 hh4 e4 q4 => hd.nx _ _ _ _ r4 hh4 (e13.trans e4) q4, fun σ4 τ4 H4 S4 r4 hh4 e4 q4 => ⟨σ4, S4, r4, hh4, e2.trans (e3.trans e4), q4⟩⟩, hx.mono e13⟩
theorem sound_while (ok : OkS X Γ G k W) {c : Expr} {b : List Stmt} {pos : Pos} {cc : CT} {cb : CSs} (h1 : compT n Γ c = some cc) (hb : PSs X b (upS_ X.K X.w X.mg W (wpSs G cb))) : PS X (.While c b [] pos) (upS_ X.K X.w X.mg W (wpS G (.while cc cb))) := by
  have ih := snd_all (G := G) (k := k) n
  refine PS.imp (ps_while ok.po (ih.t h1 ok.toOk) hb) fun D τ H q => ?_
  obtain ⟨σ, S, D', E', hs, hh, hc, hd, hx⟩ := q
  simp only [wpS] at hc
  obtain ⟨m0, hc⟩ := hc
  refine ⟨fun m τ2 H2 => ∃ σ2 S2, RepSt X.K X.w H2 S2 σ2 τ2 ∧ RepH X.K X.w H2 S2 ∧ Ext X.K S H S2 H2 ∧ whileN _ _ D'.nx m σ2 S2, ⟨m0, σ, S, hs, hh, Ext.refl, hc⟩, ?_⟩
  intro m τ2 H2 ⟨σ2, S2, hs2, hh2, e2, q⟩
  cases m with
  | zero => exact q.elim
  | succ m =>
    simp only [whileN] at q
    refine ⟨σ2, S2, _, _, hs2, hh2, q, fun kk H3 S3 hh3 e3 q3 => ?_, (hx.mono e2).kX hs2⟩
    have e23 := e2.trans e3
    cases kk with
    | false => exact ite_ff (hd.nx _ _ _ _ (hs2.mono e3) hh3 e23 q3)
    | true =>
      refine ite_tt ⟨fun τ' H' => ∃ σ' S', RepSt X.K X.w H' S' σ' τ' ∧ RepH X.K X.w H' S' ∧ Ext X.K S H S' H' ∧ whileN _ _ D'.nx m σ' S', fun τ' H' h => ⟨m, Nat.lt_succ_self m, h⟩, ?_⟩
      refine ⟨σ2, S3, _, _, hs2.mono e3, hh3, q3, ⟨fun σ4 τ4 H4 S4 r4 hh4 e4 q4 => ⟨σ4, S4, r4, hh4, e23.trans e4, q4⟩, (hd.mono e23).rt, fun σ4 τ4 H4 S4 r4 hh4 e4 q4 => hd.nx _ _ _ _ r4 hh4 (e23.trans e4) q4, fun σ4 τ4 H4 S4 r4 hh4 e4 q4 => ⟨σ4, S4, r4, hh4, e23.trans e4, q4⟩⟩, hx.mono e23⟩
end
end DL
end
section
set_option maxRecDepth 100000
set_option maxHeartbeats 2000000
/-! Soundness: statements, all. -/
namespace DL
open PySem PySem.Spec L2
open PyProof.Rows hiding St

section
variable {X : Cx} {Γ : Gam} {G : GE} {k n : Nat} {W : WX}
theorem sound_if (ok : Ok X Γ G k W) {c : Expr} {a b : List Stmt} {pos : Pos} {cc : CT} {ca cb : CSs} (h1 : compT n Γ c = some cc) (ha : PSs X a (upS_ X.K X.w X.mg W (wpSs G ca))) (hb : PSs X b (upS_ X.K X.w X.mg W (wpSs G cb))) :
    PS X (.If c a b pos) (upS_ X.K X.w X.mg W (wpS G (.ite cc ca cb))) := by
  refine PS.imp (ps_if ((snd_all n).t h1 ok) ha hb) fun D τ H q => ?_
  obtain ⟨σ, S, D', E', hs, hh, hc, hd, hx⟩ := q
  simp only [wpS] at hc
  refine ⟨σ, S, _, _, hs, hh, hc, fun v H1 S1 hh1 e1 q => ?_, hx.kX hs⟩
  cases v with
  | true => exact ite_tt ⟨σ, S1, D', E', hs.mono e1, hh1, q, hd.mono e1, hx.mono e1⟩
  | false => exact ite_ff ⟨σ, S1, D', E', hs.mono e1, hh1, q, hd.mono e1, hx.mono e1⟩
theorem sound_ex (ok : Ok X Γ G k W) {e : Expr} {pos : Pos} {c : CE} (h1 : compE n Γ e = some c) (h : noComp e = true) : PS X (.Expr e pos) (upS_ X.K X.w X.mg W (wpS G (.ex c))) := by
  refine PS.imp (ps_expr ((snd_all n).e h1 ok).1 (noComp_sw h)) fun D τ H q => ?_
  obtain ⟨σ, S, D', E', hs, hh, hc, hd, hx⟩ := q
  simp only [wpS] at hc
  exact ⟨σ, S, _, _, hs, hh, hc, fun v H1 v' S1 rv hh1 e1 q => hd.nx _ _ _ _ (hs.mono e1) hh1 e1 q, hx.kX hs⟩
theorem sound_ret (ok : Ok X Γ G k W) {e : Expr} {pos : Pos} {c : CE} (h1 : compE n Γ e = some c) : PS X (.Return (some e) pos) (upS_ X.K X.w X.mg W (wpS G (.ret c))) := by
  refine PS.imp (ps_ret ((snd_all n).e h1 ok).1) fun D τ H q => ?_
  obtain ⟨σ, S, D', E', hs, hh, hc, hd, hx⟩ := q
  simp only [wpS] at hc
  exact ⟨σ, S, _, _, hs, hh, hc, hd.rt, hx.kX hs⟩
theorem sound_raise (ok : OkS X Γ G k W) {x m : Str} {j : Nat} {p p2 pos pos2 : Pos} (h : (Γ.exc.contains x && Γ.glob x && !dbg x && Γ.blk.isNone) = true) :
    PS X (.Raise (some (.Call (.Name x p) [.Constant (.str m) j p2] [] pos2)) none pos) (upS_ X.K X.w X.mg W (wpS G (.raise x))) := by
  simp only [Bool.and_eq_true, Bool.not_eq_true'] at h
  obtain ⟨⟨⟨h1, h2⟩, h3⟩, h4⟩ := h
  obtain ⟨C, hC, hp⟩ := ok.exc x h1
  refine PS.imp (ps_raise ok.calm ok.tk (hp m j p p2 pos2 (ok.toOk.glob h2) h3)) fun D τ H q => ?_
  obtain ⟨σ, S, D', E', hs, hh, hc, hd, hx⟩ := q
  simp only [wpS] at hc
  exact hx ⟨x, []⟩ _ _ H S σ τ ⟨hC, rfl⟩ hh Ext.refl hs hc
theorem snd_s : ∀ n : Nat,
    (∀ {Γ : Gam} {s : Stmt} {c : CS}, compS n Γ s = some c → ∀ {X : Cx} {W : WX}, OkS X Γ G k W → PS X s (upS_ X.K X.w X.mg W (wpS G c))) ∧
    (∀ {Γ : Gam} {ss : List Stmt} {c : CSs}, compSs n Γ ss = some c → ∀ {X : Cx} {W : WX}, OkS X Γ G k W → PSs X ss (upS_ X.K X.w X.mg W (wpSs G c))) := by
  have pnil : ∀ {X : Cx} {W : WX}, PSs X [] (upS_ X.K X.w X.mg W (wpSs G .nil)) := fun {X W} => by
    refine PSs.imp pss_nil fun D τ H q => ?_
    obtain ⟨σ, S, D', E', hs, hh, hc, hd, hx⟩ := q
    simp only [wpSs] at hc
    exact hd.nx _ _ _ _ hs hh Ext.refl hc
  have ppass : ∀ {X : Cx} {W : WX} {st : Stmt}, PS X st tNext → PS X st (upS_ X.K X.w X.mg W (wpS G .pass)) := fun {X W st} h => by
    refine PS.imp h fun D τ H q => ?_
    obtain ⟨σ, S, D', E', hs, hh, hc, hd, hx⟩ := q
    simp only [wpS] at hc
    exact hd.nx _ _ _ _ hs hh Ext.refl hc
  intro n
  induction n with
  | zero =>
    refine ⟨fun h => by simp [compS] at h, fun {Γ ss c} h {X W} ok => ?_⟩
    cases ss with
    | nil =>
      simp only [compSs, Option.some.injEq] at h
      subst h
      exact pnil
    | cons _ _ => simp [compSs] at h
  | succ n ih =>
    refine ⟨fun {Γ s c} h {X W} ok => ?_, fun {Γ ss c} h {X W} ok => ?_⟩
    · cases s with
      | Assign ts e pos =>
        match ts, h with
        | [.Name x px], h =>
          simp only [compS, Option.bind_eq_bind, Option.bind_eq_some_iff] at h
          obtain ⟨t, h1, ce, h2, h⟩ := h
          split at h
          · rename_i h3
            cases h
            exact sound_asgN ok.toOk h1 h2 h3
          · cases h
        | [.Tuple es kk pt], h =>
          unfold compS at h
          try dsimp only at h
          split at h
          · rename_i hn
            split at h
            · rename_i vs k2 p2
              split at h
              · rename_i x px y py a b
                split at h
                · rename_i hc
                  simp only [Bool.and_eq_true, bne_iff_ne, ne_eq, beq_iff_eq] at hc
                  obtain ⟨⟨⟨⟨hxy, hx⟩, hy⟩, hs⟩, hf⟩ := hc
                  simp only [Option.bind_eq_bind, Option.bind_eq_some_iff, Option.pure_def, Option.some.injEq] at h
                  obtain ⟨t, h1, ce, h2, rfl⟩ := h
                  exact sound_par ok.toOk h1 h2 hxy hx hy hs hf
                · cases h
              · cases h
            · rename_i hne
              simp only [Option.bind_eq_bind, Option.bind_eq_some_iff, Option.pure_def, Option.some.injEq] at h
              obtain ⟨t, h1, ce, h2, rfl⟩ := h
              refine sound_asgT ok.toOk h1 h2 hn ?_
              cases e <;> first | rfl | exact absurd rfl (hne _ _ _)
          · cases h
        | [.Subscript o i pi], h =>
          unfold compS at h
          try dsimp only at h
          split at h
          · rename_i hn
            rw [Bool.and_eq_true] at hn
            simp only [Option.bind_eq_bind, Option.bind_eq_some_iff, Option.pure_def, Option.some.injEq] at h
            obtain ⟨co, h1, ci, h2, ce, h3, rfl⟩ := h
            exact sound_setI ok.toOk h1 h2 h3 hn.1 hn.2
          · cases h
        | [], h => simp [compS] at h
        | _ :: _ :: _, h => simp [compS] at h
        | [.BoolOp ..], h => simp [compS] at h
        | [.NamedExpr ..], h => simp [compS] at h
        | [.BinOp ..], h => simp [compS] at h
        | [.UnaryOp ..], h => simp [compS] at h
        | [.Lambda ..], h => simp [compS] at h
        | [.IfExp ..], h => simp [compS] at h
        | [.Dict ..], h => simp [compS] at h
        | [.Set ..], h => simp [compS] at h
        | [.ListComp ..], h => simp [compS] at h
        | [.SetComp ..], h => simp [compS] at h
        | [.DictComp ..], h => simp [compS] at h
        | [.GeneratorExp ..], h => simp [compS] at h
        | [.Await ..], h => simp [compS] at h
        | [.Yield ..], h => simp [compS] at h
        | [.YieldFrom ..], h => simp [compS] at h
        | [.Compare ..], h => simp [compS] at h
        | [.Call ..], h => simp [compS] at h
        | [.FormattedValue ..], h => simp [compS] at h
        | [.JoinedStr ..], h => simp [compS] at h
        | [.Constant ..], h => simp [compS] at h
        | [.Attribute ..], h => simp [compS] at h
        | [.Starred ..], h => simp [compS] at h
        | [.List ..], h => simp [compS] at h
        | [.Slice ..], h => simp [compS] at h
      | Expr e pos =>
        unfold compS at h
        try dsimp only at h
        split at h
        · rename_i hn
          split at h
          · cases h
            exact ppass ps_doc
          · obtain ⟨ce, h1, rfl⟩ := Option.map_eq_some_iff.mp h
            exact sound_ex ok.toOk h1 hn
        · cases h
      | If c a b pos =>
        simp only [compS, Option.bind_eq_bind, Option.bind_eq_some_iff, Option.pure_def, Option.some.injEq] at h
        obtain ⟨cc, h1, ca, h2, cb, h3, rfl⟩ := h
        exact sound_if ok.toOk h1 (ih.2 h2 ok) (ih.2 h3 ok)
      | For tg it b orelse pos =>
        cases orelse with
        | cons _ _ => simp [compS] at h
        | nil =>
          unfold compS at h
          try dsimp only at h
          split at h
          · rename_i h0
            simp only [Option.bind_eq_bind, Option.bind_eq_some_iff, Option.pure_def, Option.some.injEq] at h
            obtain ⟨ct, h1, ci, h2, cb, h3, rfl⟩ := h
            exact sound_for ok h0 h1 h2 (ih.2 h3 ok)
          · cases h
      | While c b orelse pos =>
        cases orelse with
        | cons _ _ => simp [compS] at h
        | nil =>
          simp only [compS, Option.bind_eq_bind, Option.bind_eq_some_iff, Option.pure_def, Option.some.injEq] at h
          obtain ⟨cc, h1, cb, h2, rfl⟩ := h
          exact sound_while ok h1 (ih.2 h2 ok)
      | Return e pos =>
        cases e with
        | some e =>
          simp only [compS] at h
          obtain ⟨ce, h1, rfl⟩ := Option.map_eq_some_iff.mp h
          exact sound_ret ok.toOk h1
        | none =>
          simp only [compS, Option.some.injEq] at h
          subst h
          refine PS.imp ps_retN fun D τ H q => ?_
          obtain ⟨σ, S, D', E', hs, hh, hc, hd, hx⟩ := q
          simp only [wpS] at hc
          exact hd.rt _ _ .non S (by simp only [RepV]) hh Ext.refl hc
      | Raise e c2 pos =>
        unfold compS at h
        try dsimp only at h
        split at h
        · split at h
          · rename_i hc
            cases h
            exact sound_raise ok hc
          · cases h
        · cases h
      | Pass pos =>
        simp only [compS, Option.some.injEq] at h
        subst h
        exact ppass ps_pass
      | Break pos =>
        simp only [compS, Option.some.injEq] at h
        subst h
        refine PS.imp ps_break fun D τ H q => ?_
        obtain ⟨σ, S, D', E', hs, hh, hc, hd, hx⟩ := q
        simp only [wpS] at hc
        exact hd.bk _ _ _ _ hs hh Ext.refl hc
      | Continue pos =>
        simp only [compS, Option.some.injEq] at h
        subst h
        refine PS.imp ps_continue fun D τ H q => ?_
        obtain ⟨σ, S, D', E', hs, hh, hc, hd, hx⟩ := q
        simp only [wpS] at hc
        exact hd.ct _ _ _ _ hs hh Ext.refl hc
      | _ => simp [compS] at h
    · cases ss with
      | nil =>
        simp only [compSs, Option.some.injEq] at h
        subst h
        exact pnil
      | cons s ss =>
        simp only [compSs, Option.bind_eq_bind, Option.bind_eq_some_iff, Option.pure_def, Option.some.injEq] at h
        obtain ⟨cs, h1, css, h2, rfl⟩ := h
        refine PSs.imp (pss_cons (ih.1 h1 ok) (ih.2 h2 ok)) fun D τ H q => ?_
        obtain ⟨σ, S, D', E', hs, hh, hc, hd, hx⟩ := q
        simp only [wpSs] at hc
        exact ⟨σ, S, _, E', hs, hh, hc, ⟨fun σ1 τ1 H1 S1 r1 hh1 e1 q1 => ⟨σ1, S1, D', E', r1, hh1, q1, hd.mono e1, hx.mono e1⟩, hd.rt, hd.bk, hd.ct⟩, hx⟩
end
end DL
end
section
set_option maxRecDepth 100000
set_option maxHeartbeats 2000000
/-! Defs: a promise by values, kept by its body's wp. -/
namespace DL
open PySem PySem.Spec L2
open PyProof.Rows hiding St

/-- a promise by values: what is asked, what is handed back, what is raised -/
def spR (pre : List PV → Sto → Prop) (post : List PV → Sto → PV → Sto → Prop) (xp : List PV → Sto → Exn → Sto → Prop := fun _ _ _ _ => False) : SpD := fun vs S Q E => pre vs S ∧ (∀ r S', post vs S r S' → Q r S') ∧ ∀ x S', xp vs S x S' → E x S'
/-- the first store tells no more than the second -/
def Less (S S' : Sto) : Prop := ∀ a, S a = S' a ∨ S a = none
/-- v1 in S1 may be taken for v2 in S2 -/
def Sub (S1 : Sto) (v1 : PV) (S2 : Sto) (v2 : PV) : Prop := ∀ (K : PySem.W.Frag) (w : World) (H : Hp) (v : V), RepV K w H S1 v1 v → RepH K w H S1 → RepV K w H S2 v2 v ∧ RepH K w H S2 ∧ Ext K S1 H S2 H
theorem Less.sub {S S' : Sto} (l : Less S S') {v : PV} : Sub S' v S v := fun K w H u r hh => ⟨RepV.mono (Ext.less l) _ _ r, hh.less l, Ext.less l⟩
def Cl (Q : Post) : Prop := ∀ v1 S1 v2 S2, Sub S1 v1 S2 v2 → Q v2 S2 → Q v1 S1
def ClX (E : XPost) : Prop := ∀ x S1 S2, Less S2 S1 → E x S2 → E x S1
theorem Cl.less {Q : Post} (h : Cl Q) {v : PV} {S S' : Sto} (l : Less S S') (q : Q v S) : Q v S' := h _ _ _ _ l.sub q
theorem Less.refl {S : Sto} : Less S S := fun _ => .inl rfl
theorem Less.up {S : Sto} {p : Addr} {o : MO} (h : S p = none) : Less S (upS S p o) := fun a => by
  by_cases e : a = p
  · subst e; exact .inr h
  · rw [upS_ne e]; exact .inl rfl
theorem Less.trans {S S' S2 : Sto} (a : Less S S') (b : Less S' S2) : Less S S2 := fun x => by
  rcases a x with h | h
  · rcases b x with g | g
    · exact .inl (h.trans g)
    · exact .inr (h.trans g)
  · exact .inr h
theorem RepX.less {K : PySem.W.Frag} {w : World} {mg : Mg} {H : Hp} {S S' : Sto} {x : Exn} {cls : Value} {d : Option Addr} (l : Less S' S) (r : RepX K w mg H S x cls d) : RepX K w mg H S' x cls d := by
  obtain ⟨nm, fs⟩ := x
  refine ⟨r.1, ?_⟩
  cases fs with
  | nil => exact r.2
  | cons f fs =>
    obtain ⟨a, gs, g1, g2, g3, g4⟩ := r.2
    exact ⟨a, gs, g1, g2, g3, RepVs.mono (Ext.less l) _ _ g4⟩
/-- the slots at a def's entry -/
def startS (N : List Str) (vs : List PV) : Sl := vs.map some ++ List.replicate (N.length - vs.length) none
theorem RepSt.app {K : PySem.W.Frag} {w : World} {H : Hp} {S : Sto} : ∀ {xs : List PV} {vs : List V} {σ : Sl} {τ : L2.St}, RepVs K w H S xs vs → RepSt K w H S σ τ → RepSt K w H S (xs.map some ++ σ) (vs.map some ++ τ)
  | [], vs, _, _, h, g => by rw [h.nil_inv]; exact g
  | x :: xs, vs, σ, τ, h, g => by
    obtain ⟨v, us, rfl, r1, r2⟩ := h.cons_inv
    exact ⟨⟨v, rfl, r1⟩, RepSt.app r2 g⟩
theorem RepSt.nones {K : PySem.W.Frag} {w : World} {H : Hp} {S : Sto} : ∀ n : Nat, RepSt K w H S (List.replicate n none) (List.replicate n none)
  | 0 => trivial
  | n + 1 => RepSt.nones n
theorem RepSt.start {K : PySem.W.Frag} {w : World} {H : Hp} {S : Sto} {xs : List PV} {vs : List V} (N : List Str) (r : RepVs K w H S xs vs) : RepSt K w H S (startS N xs) (L2.start N vs) := by
  unfold startS L2.start
  rw [r.length]
  exact RepSt.app r (RepSt.nones _)
/-- a def that stands and keeps its promise -/
def FH (P : Program) (w : World) (K : PySem.W.Frag) (mg : Mg) (base : Heap) (G : GE) (k : Nat) (x : Str) (i m : Nat) : Prop :=
  ∃ a fd ps, mg x = some (.ref a) ∧ PySem.W.keepIn K (.ref a) = true ∧ Binds K fd ps [] ∧ ps.length = m ∧ FnOk P w K mg base (L2.CX P w) k a fd ps (spUp K w mg m (G.fn i))
theorem FH.mono {P : Program} {w : World} {K : PySem.W.Frag} {mg : Mg} {base : Heap} {G : GE} {j k : Nat} {x : Str} {i m : Nat} (h : FH P w K mg base G j x i m) (l : j ≤ k) : FH P w K mg base G k x i m := by
  obtain ⟨a, fd, ps, h1, h2, h3, h4, h5⟩ := h
  exact ⟨a, fd, ps, h1, h2, h3, h4, h5.mono l⟩
/-- what is known of the module -/
structure MH (P : Program) (w : World) (K : PySem.W.Frag) (mg : Mg) (base : Heap) (G : GE) (k : Nat) (Γ : Gam) : Prop where
  fns : ∀ x i m, Γ.fns.lookup x = some (i, m) → FH P w K mg base G k x i m
  free : ∀ x, Γ.free.contains x = true → mg x = none
  cst : ∀ x v, Γ.cst.lookup x = some v → ∃ u vv, mg x = some u ∧ RelV vv u ∧ ∀ H S, RepV K w H S v vv
  exc : ∀ x, Γ.exc.contains x = true → ∃ C, mg x = some (.ref C) ∧ PySem.W.excIn K C He.veBase "ValueError.__new__" = true ∧ PySem.W.keepIn K (.ref C) = true ∧ PySem.W.subIn K (.ref C) (.type "BaseException") = some true ∧ PySem.W.typeIn K (.ref C) = some (.type "type")
/-- THE RULE: a def keeps its promise by its body's wp -/
theorem fn_run0 {P : Program} {w : World} {K : PySem.W.Frag} {mg : Mg} {base : Heap} {G : GE} {k n : Nat} {Γ : Gam} {x qual : Str} {params : Arguments} {body : List Stmt} {scope : Scope} {f : Addr} {fd : FuncData} {ps : List Str} {c : CSs} {m : Nat}
    {pre : List PV → Sto → Prop} {post : List PV → Sto → PV → Sto → Prop} {xp : List PV → Sto → Exn → Sto → Prop}
    (F : FunD K x qual params body scope [] [] f fd) (S0 : FnScope Γ.N ps scope) (hn : scope.names = Γ.names) (hcomp : compSs n Γ body = some c) (hblk : Γ.blk = none) (M : MH P w K mg base G k Γ) (hm : ps.length = m) (hmg : mg x = some (.ref f))
    (hwp : ∀ vs S Q E, Cl Q → ClX E → vs.length = m → pre vs S → (∀ r S', post vs S r S' → Q r S') → (∀ x S', xp vs S x S' → E x S') → wpSs G c { nx := fun _ S => Q .non S, rt := Q } (fun x _ S => E x S) (startS Γ.N vs) S) :
    FnOk P w K mg base (L2.CX P w) (k + 1) f fd ps (spUp K w mg m (spR pre post xp)) := by
  refine F.ok S0 (fun vs H Q E h => ?_) fun cdv A outer s H vs Q E hr h => ?_
  · rw [hm]
    exact h.1
  · obtain ⟨hl, vs', S, Q', E', rv, hh, hsp, hq, hx⟩ := h
    obtain ⟨h1, h2, h3⟩ := hsp
    have okS : OkS (cxOf (L2.CX P w) P w K mg base Γ.N qual scope f cdv A outer s H E) Γ G k (fun cls d _ H => E cls d H) :=
      { N := rfl, nd := S0.nd, sc := hn, kd := S0.kind, calm := rfl, room := hr, fnc := fun _ _ => .inl rfl, fns := M.fns, free := M.free, cst := M.cst, tk := takes_of rfl rfl rfl rfl, po := passes_of rfl,
        exc := fun x hx => by
          obtain ⟨C, e1, e2, e3, e4, e5⟩ := M.exc x hx
          exact ⟨C, e1, fun m j p p2 pos hg hd => pmk_own PySem.F.excBase_ValueError e2 e1 e3 (raises_own e4 e5) hg hd⟩ }
    refine ⟨upS_ K w mg (fun cls d _ H => E cls d H) (wpSs G c), (snd_s n).2 hcomp okS, ?_⟩
    have hl2 : vs'.length = m := rv.length.trans hl
    let Q2 : Post := fun v' S' => ∀ v H', RepV K w H' S' v' v → RepH K w H' S' → Ext K S H S' H' → Q v H'
    let E2 : XPost := fun x S' => ∀ cls d H', RepX K w mg H' S' x cls d → RepH K w H' S' → Ext K S H S' H' → E cls d H'
    refine ⟨startS Γ.N vs', S, { nx := fun _ S => Q2 .non S, rt := Q2 }, fun x _ S => E2 x S, RepSt.start _ rv, hh, ?_, ⟨?_, ?_, ?_, ?_⟩, ?_⟩
    · refine hwp vs' S Q2 E2 (fun v1 S1 v2 S2 hs q v H' r hh' e => ?_) (fun x S1 S2 hs q cls d H' r hh' e => ?_) hl2 h1 (fun r S' hp v H' r' hh' e => hq v H' r S' r' hh' e (h2 r S' hp)) fun x S' hp cls d H' r' hh' e => hx x cls d H' S' r' hh' e (h3 x S' hp)
      · obtain ⟨g1, g2, g3⟩ := hs K w H' v r hh'
        exact q v H' g1 g2 (e.trans g3)
      · exact q cls d H' (RepX.less hs r) (hh'.less hs) (e.trans (Ext.less hs))
    · exact fun σ' τ' H' S' _ hh' e q => q _ H' (by simp only [RepV]) hh' e
    · exact fun v H' v' S' r hh' e q => q v H' r hh' e
    · exact fun _ _ _ _ _ _ _ q => q.elim
    · exact fun _ _ _ _ _ _ _ q => q.elim
    · exact fun x cls d H' S' σ' τ' r hh' e _ q => q cls d H' r hh' e
theorem fn_run {P : Program} {w : World} {K : PySem.W.Frag} {mg : Mg} {base : Heap} {G : GE} {k n : Nat} {Γ : Gam} {x qual : Str} {params : Arguments} {body : List Stmt} {scope : Scope} {f : Addr} {fd : FuncData} {ps : List Str} {c : CSs} {i m : Nat}
    {pre : List PV → Sto → Prop} {post : List PV → Sto → PV → Sto → Prop} {xp : List PV → Sto → Exn → Sto → Prop}
    (F : FunD K x qual params body scope [] [] f fd) (S0 : FnScope Γ.N ps scope) (hn : scope.names = Γ.names) (hcomp : compSs n Γ body = some c) (hblk : Γ.blk = none) (M : MH P w K mg base G k Γ) (hm : ps.length = m) (hmg : mg x = some (.ref f))
    (hb : Binds K fd ps []) (hG : G.fn i = spR pre post xp)
    (hwp : ∀ vs S Q E, Cl Q → ClX E → vs.length = m → pre vs S → (∀ r S', post vs S r S' → Q r S') → (∀ x S', xp vs S x S' → E x S') → wpSs G c { nx := fun _ S => Q .non S, rt := Q } (fun x _ S => E x S) (startS Γ.N vs) S) :
    FnOk P w K mg base (L2.CX P w) (k + 1) f fd ps (spUp K w mg m (G.fn i)) := by
  rw [hG]
  exact fn_run0 F S0 hn hcomp hblk M hm hmg hwp
/-- one promise exchanged -/
def GE.put (G : GE) (i : Nat) (sp : SpD) : GE := { fn := fun n => if n = i then sp else G.fn n, sub := G.sub }
theorem GE.put_same {G : GE} {i : Nat} {sp : SpD} : (G.put i sp).fn i = sp := if_pos rfl
theorem GE.put_ne {G : GE} {i j : Nat} {sp : SpD} (h : j ≠ i) : (G.put i sp).fn j = G.fn j := if_neg h
/-- below t -/
def preB (pre : Nat → List PV → Sto → Prop) (t : Nat) : List PV → Sto → Prop := fun vs S => ∃ u, u < t ∧ pre u vs S
/-- A def that calls itself, by a measure -/
theorem fn_rec {P : Program} {w : World} {K : PySem.W.Frag} {mg : Mg} {base : Heap} {G : GE} {k n : Nat} {Γ : Gam} {x qual : Str} {params : Arguments} {body : List Stmt} {scope : Scope} {f : Addr} {fd : FuncData} {ps : List Str} {c : CSs} {i m : Nat}
    {pre : Nat → List PV → Sto → Prop} {post : List PV → Sto → PV → Sto → Prop} {xp : List PV → Sto → Exn → Sto → Prop}
    (F : FunD K x qual params body scope [] [] f fd) (S0 : FnScope Γ.N ps scope) (hn : scope.names = Γ.names) (hcomp : compSs n Γ body = some c) (hblk : Γ.blk = none)
    (hf : ∀ y i' m', Γ.fns.lookup y = some (i', m') → (y = x ∧ i' = i ∧ m' = m) ∨ (i' ≠ i ∧ FH P w K mg base G k y i' m'))
    (hfree : ∀ x, Γ.free.contains x = true → mg x = none) (hcst : ∀ x v, Γ.cst.lookup x = some v → ∃ u vv, mg x = some u ∧ RelV vv u ∧ ∀ H S, RepV K w H S v vv)
    (hexc : ∀ x, Γ.exc.contains x = true → ∃ C, mg x = some (.ref C) ∧ PySem.W.excIn K C He.veBase "ValueError.__new__" = true ∧ PySem.W.keepIn K (.ref C) = true ∧ PySem.W.subIn K (.ref C) (.type "BaseException") = some true ∧ PySem.W.typeIn K (.ref C) = some (.type "type"))
    (hm : ps.length = m) (hmg : mg x = some (.ref f)) (hb : Binds K fd ps [])
    (hwp : ∀ t vs S Q E, Cl Q → ClX E → vs.length = m → pre t vs S → (∀ r S', post vs S r S' → Q r S') → (∀ x S', xp vs S x S' → E x S') → wpSs (G.put i (spR (preB pre t) post xp)) c { nx := fun _ S => Q .non S, rt := Q } (fun x _ S => E x S) (startS Γ.N vs) S) :
    ∀ t, FnOk P w K mg base (L2.CX P w) (k + t) f fd ps (spUp K w mg m (spR (preB pre t) post xp))
  | 0 => ⟨fun vs H Q E h => by rw [hm]; exact h.1, fun A outer s H args us vs Q E hr he hbi hv h => by
      obtain ⟨_, _, _, _, _, _, _, hsp, _, _⟩ := h
      obtain ⟨⟨u, hu, _⟩, _⟩ := hsp
      exact absurd hu (Nat.not_lt_zero u)⟩
  | t + 1 => by
    have ih := fn_rec F S0 hn hcomp hblk hf hfree hcst hexc hm hmg hb hwp t
    have M : MH P w K mg base (G.put i (spR (preB pre t) post xp)) (k + t) Γ := by
      refine ⟨fun y i' m' e => ?_, hfree, hcst, hexc⟩
      rcases hf y i' m' e with ⟨rfl, rfl, rfl⟩ | ⟨hne, h⟩
      · refine ⟨f, fd, ps, hmg, F.kp, hb, hm, ?_⟩
        rw [GE.put_same]
        exact ih
      · obtain ⟨a, fd', ps', h1, h2, h3, h4, h5⟩ := h.mono (Nat.le_add_right k t)
        refine ⟨a, fd', ps', h1, h2, h3, h4, ?_⟩
        rw [GE.put_ne hne]
        exact h5
    have new := fn_run0 (pre := pre t) (post := post) (xp := xp) F S0 hn hcomp hblk M hm hmg (hwp t)
    have old := ih.mono (Nat.le_add_right (k + t) 1)
    refine ⟨fun vs H Q E h => by rw [hm]; exact h.1, fun A outer s H args us vs Q E hr he hbi hv h => ?_⟩
    obtain ⟨hl, vs', S, Q', E', rv, hh, hsp, hq, hx⟩ := h
    obtain ⟨⟨u, hu, hp⟩, h2, h3⟩ := hsp
    by_cases e : u < t
    · exact old.run A outer s H args us vs Q E hr he hbi hv ⟨hl, vs', S, Q', E', rv, hh, ⟨⟨u, e, hp⟩, h2, h3⟩, hq, hx⟩
    · have e2 : u = t := by omega
      subst e2
      exact new.run A outer s H args us vs Q E hr he hbi hv ⟨hl, vs', S, Q', E', rv, hh, ⟨hp, h2, h3⟩, hq, hx⟩
theorem fn_step {P : Program} {w : World} {K : PySem.W.Frag} {mg : Mg} {base : Heap} {G : GE} {k : Nat} {x : Str} {f : Addr} {fd : FuncData} {ps : List Str} {i m : Nat} (hmg : mg x = some (.ref f)) (kp : PySem.W.keepIn K (.ref f) = true) (hb : Binds K fd ps []) (hm : ps.length = m)
    (h : FnOk P w K mg base (L2.CX P w) k f fd ps (spUp K w mg m (G.fn i))) : FH P w K mg base G k x i m := ⟨f, fd, ps, hmg, kp, hb, hm, h⟩
theorem fns_nil {R : Str → Nat → Nat → Prop} : ∀ x i m, ([] : List (Str × Nat × Nat)).lookup x = some (i, m) → R x i m := fun _ _ _ h => by cases h
theorem fns_cons {R : Str → Nat → Nat → Prop} {y : Str} {j n : Nat} {l : List (Str × Nat × Nat)} (h : R y j n) (t : ∀ x i m, l.lookup x = some (i, m) → R x i m) : ∀ x i m, ((y, j, n) :: l).lookup x = some (i, m) → R x i m := fun x i m e => by
  rw [List.lookup_cons] at e
  split at e
  · rename_i q
    cases e
    rw [eq_of_beq q]
    exact h
  · exact t x i m e
/-- any program, any world -/
def CXA : CXT := fun outer H s E u s' => ∃ P w, L2.CX P w outer H s E u s'
theorem cxa {P : Program} {w : World} {K : PySem.W.Frag} {mg : Mg} {base : Heap} {k : Nat} {f : Addr} {fd : FuncData} {ps : List Str} {sp : Sp} (F : FnOk P w K mg base (L2.CX P w) k f fd ps sp) : FnOk P w K mg base CXA k f fd ps sp :=
  ⟨F.len, fun A outer s H args us vs Q E hr he hb hv hs => codeAny_mono (F.run A outer s H args us vs Q E hr he hb hv hs) fun r s' h => by
    cases r with
    | ok fl => cases fl <;> exact h
    | error e => exact ⟨P, w, h⟩⟩
theorem cxa_none {H : Hp} {s : Shared} {e : Value} {s' : Shared} (h : CXA [] H s (fun _ _ _ => False) e s') : False := by
  obtain ⟨_, _, _, _, _, _, _, _, _, _, _, _, _, _, z⟩ := h
  exact z
/-- the law's promise, at its script -/
theorem law_up {K : PySem.W.Frag} {w : World} {mg : Mg} {H : Hp} {a : Addr} {ns : List Int} {pre : List PV → Sto → Prop} {post : List PV → Sto → PV → Sto → Prop} (hS : SqL K H a (ns.map V.int)) (hp : pre [.lst (ns.map .int)] fun _ => none) (hq : ∀ r S', post [.lst (ns.map .int)] (fun _ => none) r S' → r = .bl true) :
    spUp K w mg 1 (spR pre post) [.ref a] H (fun v _ => v = .bl true) fun _ _ _ => False := by
  refine ⟨rfl, [.lst (ns.map .int)], fun _ => none, fun v _ => v = .bl true, fun _ _ => False, .cons ?_ .nil, fun b o e => (by cases e), ⟨hp, hq, fun _ _ h => h⟩, fun v H' v' S' r _ _ q => ?_, fun _ _ _ _ _ _ _ _ q => q⟩
  · simp only [RepV]
    refine ⟨a, ns.map V.int, rfl, ?_, RepVs.of_ints⟩
    rcases hS with h | h
    · exact .inl ⟨h, rfl⟩
    · exact .inr h
  · subst q
    simpa only [RepV] using r
section
variable {K : PySem.W.Frag} {h : Heap} {mg : Mg}
/-- the facts of a module: its defs by their names, the names that it leaves free, its exceptions, its numbers -/
def facs (glos frees excs : List Str) (nums : List (Str × Int)) : List He.Fa := glos.map .glo ++ (frees.map .free ++ (excs.map .exc ++ (excs.map .glo ++ nums.map fun p => .int p.1 p.2)))
section
variable {glos frees excs : List Str} {nums : List (Str × Int)} {fn : List He.DefD}
theorem facs_ok (c : He.SaysD (facs glos frees excs nums) fn K) {f : He.Fa} (hf : f ∈ facs glos frees excs nums) : f.ok K = true := by
  have c1 := (He.ba (show (((facs glos frees excs nums).all fun f => f.ok K) && fn.all fun d => d.ok K) = true from congrArg (fun z : He.AlD => z.1) c)).1
  exact List.all_eq_true.mp c1 _ hf
theorem facs_glo (c : He.SaysD (facs glos frees excs nums) fn K) {x : Str} (hx : glos.contains x = true) : (He.Fa.glo x).ok K = true :=
  facs_ok c (List.mem_append_left _ (List.mem_map.mpr ⟨x, by simpa using hx, rfl⟩))
theorem frees_ok (X : K.In h) (G : h.Ns mainGlobals mg) (c : He.SaysD (facs glos frees excs nums) fn K) {l : List Str} (hl : l.all (fun x => frees.contains x) = true) : ∀ x, l.contains x = true → mg x = none := fun x hx =>
  He.free_ok X G (facs_ok c (List.mem_append_right _ (List.mem_append_left _ (List.mem_map.mpr ⟨x, by simpa using List.all_eq_true.mp hl x (by simpa using hx), rfl⟩))))
theorem csts_ok {w : World} (X : K.In h) (G : h.Ns mainGlobals mg) (c : He.SaysD (facs glos frees excs nums) fn K) : ∀ {l : List (Str × PV)}, (l.all fun p => match p.2 with | .int i => nums.contains (p.1, i) | _ => false) = true →
    ∀ x v, l.lookup x = some v → ∃ u vv, mg x = some u ∧ RelV vv u ∧ ∀ H S, RepV K w H S v vv
  | [], _, _, _, e => by cases e
  | p :: l, hl, x, v, e => by
    rw [List.all_cons, Bool.and_eq_true] at hl
    rw [List.lookup_cons] at e
    split at e
    · rename_i q
      cases e
      obtain ⟨y, v⟩ := p
      have hx : x = y := eq_of_beq q
      subst hx
      cases v with
      | int i =>
        have hm : (x, i) ∈ nums := by simpa using hl.1
        obtain ⟨t, ht⟩ := He.int_ok X G (facs_ok c (List.mem_append_right _ (List.mem_append_right _ (List.mem_append_right _ (List.mem_append_right _ (List.mem_map.mpr ⟨(x, i), hm, rfl⟩))))))
        exact ⟨_, .int i, ht, ⟨t, rfl⟩, fun H S => by simp only [RepV]⟩
      | _ => exact nomatch hl.1
    · exact csts_ok X G c hl.2 x v e
theorem excs_ok (X : K.In h) (G : h.Ns mainGlobals mg) (c : He.SaysD (facs glos frees excs nums) fn K) {l : List Str} (hl : l.all (fun x => excs.contains x) = true) : ∀ x, l.contains x = true → ∃ C, mg x = some (.ref C) ∧ PySem.W.excIn K C He.veBase "ValueError.__new__" = true ∧
    PySem.W.keepIn K (.ref C) = true ∧ PySem.W.subIn K (.ref C) (.type "BaseException") = some true ∧ PySem.W.typeIn K (.ref C) = some (.type "type") := fun x hx => by
  have hm : x ∈ excs := by simpa using List.all_eq_true.mp hl x (by simpa using hx)
  have e1 := He.glo_ok X G (facs_ok c (f := .glo x) (List.mem_append_right _ (List.mem_append_right _ (List.mem_append_right _ (List.mem_append_left _ (List.mem_map.mpr ⟨x, hm, rfl⟩))))))
  have e2 := He.exc_ok (facs_ok c (f := .exc x) (List.mem_append_right _ (List.mem_append_right _ (List.mem_append_left _ (List.mem_map.mpr ⟨x, hm, rfl⟩)))))
  exact ⟨_, e1, e2⟩
end
end
/-- a tuple's parts, a list's, frozen: the store told no more at p -/
theorem Sub.frz {S : Sto} {p : Addr} {xs : List PV} (h : S p = some (.lst xs)) : Sub S (.ref p) (delS S p) (.lst xs) := fun K w H v r hh => by
  simp only [RepV] at r
  subst r
  exact ⟨hh.frz h, hh.del, Ext.del⟩
end DL
end
section
set_option maxRecDepth 100000
/-! For the plain laws: loops by an invariant, small rules. -/
namespace DL
open PySem PySem.Spec L2
open PyProof.Rows hiding St

/-- a walk by an invariant: I by the number of turns made -/
theorem itL_at {α : Type} {ok : Sto → Prop} {step : PV → α → Sto → (α → Sto → Prop) → Prop} {dn : α → Sto → Prop} {items : List PV} (I : Nat → α → Sto → Prop)
    (hok : ∀ i a S, I i a S → ok S) (hs : ∀ i x a S k, items[i]? = some x → I i a S → (∀ a' S', I (i + 1) a' S' → k a' S') → step x a S k) (hd : ∀ a S, I items.length a S → dn a S) :
    ∀ (n i : Nat) (a : α) (S : Sto), n = items.length - i → i ≤ items.length → I i a S → itL ok step dn (items.drop i) a S
  | 0, i, a, S, hn, hi, h => by
    have e : i = items.length := by omega
    subst e
    rw [List.drop_length]
    exact ⟨hok _ _ _ h, hd _ _ h⟩
  | n + 1, i, a, S, hn, hi, h => by
    have hlt : i < items.length := by omega
    rw [List.drop_eq_getElem_cons hlt]
    exact ⟨hok _ _ _ h, hs i _ a S _ (List.getElem?_eq_getElem hlt) h fun a' S' h' => itL_at I hok hs hd n (i + 1) a' S' (by omega) (by omega) h'⟩
theorem itL_inv {α : Type} {ok : Sto → Prop} {step : PV → α → Sto → (α → Sto → Prop) → Prop} {dn : α → Sto → Prop} {items : List PV} {a : α} {S : Sto} (I : Nat → α → Sto → Prop) (h0 : I 0 a S)
    (hok : ∀ i a S, I i a S → ok S) (hs : ∀ i x a S k, items[i]? = some x → I i a S → (∀ a' S', I (i + 1) a' S' → k a' S') → step x a S k) (hd : ∀ a S, I items.length a S → dn a S) : itL ok step dn items a S :=
  itL_at I hok hs hd _ 0 a S rfl (Nat.zero_le _) h0
theorem delS_upS_self {S : Sto} {p : Addr} {o u : MO} (h : S p = none) : delS (upS S p o) p = S := delS_upS h
theorem upS_get {S : Sto} {p a : Addr} {o m : MO} (h : S p = none) (e : S a = some m) : upS S p o a = some m := by
  rw [upS_ne (fun z => by rw [z, h] at e; cases e)]
  exact e
/-- a list comprehension that changes nothing: element by element -/
theorem comp_map {ok : Sto → Prop} {step : PV → List PV → Sto → (List PV → Sto → Prop) → Prop} {items : List PV} {S : Sto} {p : Addr} {dn : List PV → Sto → Prop} (f : PV → PV) (hp : S p = none) (hok : ∀ acc, ok (upS S p (.lst acc)))
    (hs : ∀ i x acc k, items[i]? = some x → acc = (items.take i).map f → k (acc ++ [f x]) (upS S p (.lst (acc ++ [f x]))) → step x acc (upS S p (.lst acc)) k) (hd : dn (items.map f) (upS S p (.lst (items.map f)))) :
    itL ok step dn items [] (upS S p (.lst [])) := by
  refine itL_inv (fun i acc S' => acc = (items.take i).map f ∧ S' = upS S p (.lst acc)) ⟨by simp, rfl⟩ (fun i acc S' h => h.2 ▸ hok acc) (fun i x acc S' k hx h hk => ?_) fun acc S' h => ?_
  · obtain ⟨h1, rfl⟩ := h
    refine hs i x acc k hx h1 (hk _ _ ⟨?_, rfl⟩)
    have hlt := (List.getElem?_eq_some_iff.mp hx).1
    rw [h1, List.take_add_one, hx]
    simp
  · obtain ⟨h1, rfl⟩ := h
    rw [List.take_length] at h1
    subst h1
    exact hd
/-- a comprehension whose parts are all of one kind -/
theorem comp_all {ok : Sto → Prop} {step : PV → List PV → Sto → (List PV → Sto → Prop) → Prop} {items : List PV} {S : Sto} {p : Addr} {dn : List PV → Sto → Prop} (R : PV → Prop) (hok : ∀ acc, ok (upS S p (.lst acc)))
    (hs : ∀ (i : Nat) x acc k, items[i]? = some x → (∀ y, R y → k (acc ++ [y]) (upS S p (.lst (acc ++ [y])))) → step x acc (upS S p (.lst acc)) k) (hd : ∀ acc, acc.length = items.length → (∀ y ∈ acc, R y) → dn acc (upS S p (.lst acc))) :
    itL ok step dn items [] (upS S p (.lst [])) := by
  refine itL_inv (fun i acc S' => acc.length = i ∧ (∀ y ∈ acc, R y) ∧ S' = upS S p (.lst acc)) ⟨rfl, fun y hy => by simp at hy, rfl⟩ (fun i acc S' h => h.2.2 ▸ hok acc) (fun i x acc S' k hx h hk => ?_) fun acc S' h => ?_
  · obtain ⟨h1, h2, rfl⟩ := h
    refine hs i x acc k hx fun y hy => hk _ _ ⟨by rw [List.length_append, h1]; rfl, fun z hz => ?_, rfl⟩
    rcases List.mem_append.mp hz with hz | hz
    · exact h2 z hz
    · rw [List.mem_singleton.mp hz]; exact hy
  · obtain ⟨h1, h2, rfl⟩ := h
    exact hd acc h1 h2
theorem cutP_mem {xs : List PV} {lo hi : Option Int} {y : PV} (h : y ∈ cutP xs lo hi) : y ∈ xs := List.mem_of_mem_drop (List.mem_of_mem_take h)
theorem enumP_mem {xs : List PV} {i : Nat} {x : PV} (h : (enumP 0 xs)[i]? = some x) : ∃ y ∈ xs, xs[i]? = some y ∧ x = .tup [.int (i : Nat), y] := by
  rw [enumP_get] at h
  obtain ⟨y, h1, rfl⟩ := Option.map_eq_some_iff.mp h
  exact ⟨y, List.mem_of_getElem? h1, h1, by rw [Nat.zero_add]⟩
/-- ints, and nothing else -/
theorem ints_of {xs : List PV} (h : ∀ y ∈ xs, ∃ i, y = PV.int i) : ∃ ns : List Int, xs = ns.map PV.int := by
  induction xs with
  | nil => exact ⟨[], rfl⟩
  | cons x xs ih =>
    obtain ⟨i, rfl⟩ := h x (by simp)
    obtain ⟨ns, rfl⟩ := ih fun y hy => h y (by simp [hy])
    exact ⟨i :: ns, rfl⟩
end DL
end
section
set_option maxRecDepth 100000
set_option maxHeartbeats 1000000
/-! The draws of a script: by a cell's own digits, or mixed. -/
namespace DL
open PySem PySem.Spec L2
open PyProof.Rows hiding St
local macro_rules | `(tactic| walk_at "wp") => `(tactic| simp only [wpSs, wpS, wpE, wpEs, wpT, wpC, wpO, wpL, wpI, wpH, List.getElem?_cons_zero, List.getElem?_cons_succ, List.set_cons_zero, List.set_cons_succ])
def irCell : CSs := (.cons (.ite (.tst (.cmp .lt (.var 1) (.bi .len false (.cons (.var 0) .nil)))) (.cons (.ret (.idx (.var 0) (.var 1))) .nil) .nil) (.cons (.ret (.cst (.int 0))) .nil))
def irPen (ic : Nat) : CSs := (.cons (.asg (.nm 1) (.bin .mod false (.bi .sum false (.cons (.comp false (.bin .mul false (.bin .add false (.bin .mod false (.var 3) (.cst (.int 2147483629))) (.cst (.int 1))) (.bin .add false (.bin .mul false (.var 2) (.var 2)) (.cst (.int 7)))) (.tp [(.nm 2), (.nm 3)]) (.enum (.slc false (.var 0) .none (.some (.cst (.int 63))))) .none [2, 3]) .nil)) (.cst (.int 2147483647)))) (.cons (.ret (.lst true (.cons (.var 0) (.cons (.cst (.int 1)) (.cons (.call ic false (.cons (.var 0) (.cons (.cst (.int 1)) .nil))) (.cons (.cst (.int 0)) (.cons (.bin .mod false (.call ic false (.cons (.var 0) (.cons (.cst (.int 0)) .nil))) (.cst (.int 2))) (.cons (.var 1) .nil)))))))) .nil))
def irTake (ic : Nat) : CSs := (.cons (.ite (.tst (.cmp .eq (.idx (.var 0) (.cst (.int 4))) (.cst (.int 1)))) (.cons (.setI (.var 0) (.cst (.int 5)) (.bin .mod false (.bin .add false (.bin .mul false (.idx (.var 0) (.cst (.int 5))) (.cst (.int 48271))) (.cst (.int 12345))) (.cst (.int 2147483647)))) (.cons (.ret (.bin .mod false (.bin .fdiv false (.bin .mod false (.bin .mul false (.idx (.var 0) (.cst (.int 5))) (.cst (.int 1181783497276652981))) (.cst (.int 2305843009213693951))) (.cst (.int 64))) (.var 1))) .nil)) .nil) (.cons (.ite (.tst (.cmp .eq (.idx (.var 0) (.cst (.int 3))) (.cst (.int 50)))) (.cons (.setI (.var 0) (.cst (.int 1)) (.bin .add false (.idx (.var 0) (.cst (.int 1))) (.cst (.int 1)))) (.cons (.setI (.var 0) (.cst (.int 2)) (.call ic false (.cons (.idx (.var 0) (.cst (.int 0))) (.cons (.idx (.var 0) (.cst (.int 1))) .nil)))) (.cons (.setI (.var 0) (.cst (.int 3)) (.cst (.int 0))) .nil))) .nil) (.cons (.setI (.var 0) (.cst (.int 3)) (.bin .add false (.idx (.var 0) (.cst (.int 3))) (.cst (.int 1)))) (.cons (.asg (.nm 2) (.bin .mod false (.idx (.var 0) (.cst (.int 2))) (.var 1))) (.cons (.setI (.var 0) (.cst (.int 2)) (.bin .fdiv false (.idx (.var 0) (.cst (.int 2))) (.var 1))) (.cons (.ret (.var 2)) .nil))))))
theorem atI_of {xs : List PV} {i : Int} {j : Nat} {v : PV} (h0 : 0 ≤ i) (e : i.toNat = j) (h : xs[j]? = some v) : L2.atI xs i = some v := by
  have : i = ((j : Nat) : Int) := by omega
  rw [this]
  exact atI_nat h
/-- a script's number, 0 behind its end -/
def cellPre : List PV → Sto → Prop := fun vs S => ∃ (ns : List Int) (k : Int), vs = [.lst (ns.map .int), .int k] ∧ 0 ≤ k
def cellPost : List PV → Sto → PV → Sto → Prop := fun vs S r S' => ∃ i, r = .int i ∧ S' = S
theorem w_cell {G : GE} {vs : List PV} {S : Sto} {Q : Post} {E : XPost} (hp : cellPre vs S) (hq : ∀ r S', cellPost vs S r S' → Q r S') : wpSs G irCell { nx := fun _ S => Q .non S, rt := Q } (fun x _ S => E x S) (startS ["_law_script", "_law_k"] vs) S := by
  obtain ⟨ns, k, rfl, hk⟩ := hp
  rw [show startS ["_law_script", "_law_k"] [.lst (ns.map .int), .int k] = [some (.lst (ns.map .int)), some (.int k)] from rfl]
  unfold irCell
  walk_at "wp"
  simp only [biD, dQ, cmpD, truD, idxD]
  by_cases h : k < ((ns.map PV.int).length : Int)
  · have h2 : k.toNat < ns.length := by simp at h; omega
    have e : L2.atI (ns.map PV.int) k = some (.int ns[k.toNat]) := atI_of hk rfl (by rw [List.getElem?_map, List.getElem?_eq_getElem h2]; rfl)
    simp only [h, decide_true, e]
    exact hq _ _ ⟨_, rfl, rfl⟩
  · simp only [h, decide_false]
    exact hq _ _ ⟨_, rfl, rfl⟩
theorem at6 (p0 p1 p2 p3 p4 p5 : PV) : L2.atI [p0, p1, p2, p3, p4, p5] 0 = some p0 ∧ L2.atI [p0, p1, p2, p3, p4, p5] 1 = some p1 ∧ L2.atI [p0, p1, p2, p3, p4, p5] 2 = some p2 ∧ L2.atI [p0, p1, p2, p3, p4, p5] 3 = some p3 ∧ L2.atI [p0, p1, p2, p3, p4, p5] 4 = some p4 ∧ L2.atI [p0, p1, p2, p3, p4, p5] 5 = some p5 := ⟨rfl, rfl, rfl, rfl, rfl, rfl⟩
theorem ix6 (p0 p1 p2 p3 p4 p5 : PV) : L2.ixN [p0, p1, p2, p3, p4, p5].length 0 = some 0 ∧ L2.ixN [p0, p1, p2, p3, p4, p5].length 1 = some 1 ∧ L2.ixN [p0, p1, p2, p3, p4, p5].length 2 = some 2 ∧ L2.ixN [p0, p1, p2, p3, p4, p5].length 3 = some 3 ∧ L2.ixN [p0, p1, p2, p3, p4, p5].length 4 = some 4 ∧ L2.ixN [p0, p1, p2, p3, p4, p5].length 5 = some 5 := ⟨rfl, rfl, rfl, rfl, rfl, rfl⟩
def PenL (l : List PV) : Prop := ∃ (ns : List Int) (k c2 c3 c4 c5 : Int), l = [.lst (ns.map .int), .int k, .int c2, .int c3, .int c4, .int c5] ∧ ns.length ≤ 63 ∧ 0 ≤ k ∧ 0 ≤ c5 ∧ c5 < 2147483647
def takePre : List PV → Sto → Prop := fun vs S => ∃ a l m, vs = [.ref a, .int m] ∧ S a = some (.lst l) ∧ PenL l ∧ 0 < m ∧ m < 2 ^ 64
def takePost : List PV → Sto → PV → Sto → Prop := fun vs S r S' => ∃ a m i l, vs = [.ref a, .int m] ∧ r = .int i ∧ 0 ≤ i ∧ i < m ∧ PenL l ∧ S' = upS S a (.lst l)
theorem w_take {G : GE} {ic : Nat} (hG : G.fn ic = spR cellPre cellPost) {vs : List PV} {S : Sto} {Q : Post} {E : XPost} (hp : takePre vs S) (hq : ∀ r S', takePost vs S r S' → Q r S') :
    wpSs G (irTake ic) { nx := fun _ S => Q .non S, rt := Q } (fun x _ S => E x S) (startS ["_law_pen_here", "_law_most", "_law_found"] vs) S := by
  obtain ⟨a, l, m, rfl, hS, ⟨ns, k, c2, c3, c4, c5, rfl, hn, hk, h0, h1⟩, hm, hm2⟩ := hp
  rw [show startS ["_law_pen_here", "_law_most", "_law_found"] [.ref a, .int m] = [some (.ref a), some (.int m), none] from rfl]
  have hdiv : ∀ i, CDivW i m := fun i => wide_div (b := 64) hm (by omega) (by decide) (by decide)
  have hdiv2 : ∀ i, CDivW i 64 := fun i => wide_div (b := 64) (by decide) (by decide) (by decide) (by decide)
  have fin : ∀ (i : Int) (l' : List PV) (S' : Sto), PenL l' → S' = upS S a (.lst l') → Q (.int (i % m)) S' := fun i l' S' hl e => hq _ _ ⟨a, m, i % m, l', rfl, rfl, Int.emod_nonneg _ (by omega), Int.emod_lt_of_pos _ hm, hl, e⟩
  unfold irTake
  walk_at "wp"
  simp only [idxD, dQ, hS, at6, cmpD, eqD, truD]
  by_cases c : c4 = 1
  · simp only [c, decide_true, binD, setID, hS, ix6, upS_same, at6, List.set_cons_zero, List.set_cons_succ]
    refine ⟨.inl (.inr (by decide)), by decide, .inl (.inr (by decide)), by decide, hdiv2 _, hm, fin _ _ _ ⟨ns, k, c2, c3, 1, _, rfl, hn, hk, Int.emod_nonneg _ (by decide), Int.emod_lt_of_pos _ (by decide)⟩ rfl⟩
  · have rest : ∀ (k c2 c3 : Int) (S' : Sto), 0 ≤ k → S' = upS S a (.lst [.lst (ns.map .int), .int k, .int c2, .int c3, .int c4, .int c5]) ∨ (S' = S ∧ S a = some (.lst [.lst (ns.map .int), .int k, .int c2, .int c3, .int c4, .int c5])) → S' a = some (.lst [.lst (ns.map .int), .int k, .int c2, .int c3, .int c4, .int c5]) ∧ ∀ l, upS S' a (.lst l) = upS S a (.lst l) := fun k c2 c3 S' hk h => by
      rcases h with rfl | ⟨rfl, h⟩
      · exact ⟨upS_same, fun l => upS_upS⟩
      · exact ⟨h, fun _ => rfl⟩
    by_cases c' : c3 = 50
    · simp only [c, c', decide_true, decide_false, binD, setID, hS, ix6, upS_same, at6, List.set_cons_zero, List.set_cons_succ, hG, spR]
      refine ⟨⟨ns, k + 1, rfl, by omega⟩, fun r S' h => ?_, fun _ _ h => h.elim⟩
      obtain ⟨i, rfl, rfl⟩ := h
      simp only [frzQ, binD, setID, upS_same, upS_upS, ix6, at6, List.set_cons_zero, List.set_cons_succ, tgD, List.getElem?_cons_zero, List.getElem?_cons_succ]
      exact ⟨hm, hdiv _, fin _ _ _ ⟨ns, k + 1, _, _, c4, c5, rfl, hn, by omega, h0, h1⟩ rfl⟩
    · simp only [c, c', decide_false, binD, setID, hS, ix6, upS_same, upS_upS, at6, List.set_cons_zero, List.set_cons_succ, tgD, List.getElem?_cons_zero, List.getElem?_cons_succ]
      exact ⟨hm, hdiv _, fin _ _ _ ⟨ns, k, _, _, c4, c5, rfl, hn, hk, h0, h1⟩ rfl⟩
/-- the pen made -/
def penPre : List PV → Sto → Prop := fun vs S => ∃ ns : List Int, vs = [.lst (ns.map .int)] ∧ ns.length ≤ 63
def penPost : List PV → Sto → PV → Sto → Prop := fun vs S r S' => ∃ a l, r = .ref a ∧ S a = none ∧ PenL l ∧ S' = upS S a (.lst l)
theorem w_pen {G : GE} {ic : Nat} (hG : G.fn ic = spR cellPre cellPost) {vs : List PV} {S : Sto} {Q : Post} {E : XPost} (hp : penPre vs S) (hq : ∀ r S', penPost vs S r S' → Q r S') :
    wpSs G (irPen ic) { nx := fun _ S => Q .non S, rt := Q } (fun x _ S => E x S) (startS ["_law_script", "_law_seed", "_law_k", "_law_cell"] vs) S := by
  obtain ⟨ns, rfl, hn⟩ := hp
  rw [show startS ["_law_script", "_law_seed", "_law_k", "_law_cell"] [.lst (ns.map .int)] = [some (.lst (ns.map .int)), none, none, none] from rfl]
  unfold irPen
  walk_at "wp"
  simp only [slcD, dL, newL, dQ]
  intro p hp
  refine comp_all (fun y => ∃ i, y = .int i) (fun acc => trivial) (fun i x acc k hx hk => ?_) fun acc hl hr => ?_
  · obtain ⟨y, hy, _, rfl⟩ := enumP_mem hx
    obtain ⟨c, _, rfl⟩ := List.mem_map.mp (cutP_mem hy)
    have hi : i < 63 := by
      have h1 := (List.getElem?_eq_some_iff.mp hx).1
      rw [enumP_len] at h1
      unfold cutP at h1
      simp at h1
      omega
    simp only [tgD, tgDs, dQ, wipeS, List.set_cons_zero, List.set_cons_succ, List.getElem?_cons_zero, List.getElem?_cons_succ, binD, upS_same, upS_upS]
    refine ⟨by decide, .inl (.inl ⟨by omega, by omega⟩), .inl (.inr ⟨?_, ?_⟩), trivial, hk _ ⟨_, rfl⟩⟩
    · have : (0 : Int) ≤ (i : Int) * (i : Int) := Int.mul_nonneg (by omega) (by omega)
      omega
    · have : (i : Int) * (i : Int) ≤ 63 * 63 := Int.mul_le_mul (by omega) (by omega) (by omega) (by omega)
      omega
  · obtain ⟨ms, rfl⟩ := ints_of hr
    refine ⟨upS_same, ?_⟩
    simp only [biD, dL, intsP_map, delS_upS hp, binD, tgD, List.set_cons_zero, List.set_cons_succ, List.getElem?_cons_zero, List.getElem?_cons_succ, hG, spR]
    refine ⟨by decide, ⟨ns, 1, rfl, by decide⟩, fun r S' h => ?_, fun _ _ h => h.elim⟩
    obtain ⟨i1, rfl, rfl⟩ := h
    simp only [frzQ]
    refine ⟨⟨ns, 0, rfl, by decide⟩, fun r S' h => ?_, fun _ _ h => h.elim⟩
    obtain ⟨i2, rfl, rfl⟩ := h
    simp only [frzQ]
    refine ⟨by decide, (by show 6 ≤ sizeLine; decide), fun q hq' => hq _ _ ⟨q, _, rfl, hq', ⟨ns, 1, i1, 0, _, _, rfl, hn, by decide, Int.emod_nonneg _ (by decide), Int.emod_lt_of_pos _ (by decide)⟩, rfl⟩⟩
theorem upS_comm2 {S : Sto} {a b : Addr} {o u : MO} (h : a ≠ b) : upS (upS S a o) b u = upS (upS S b u) a o := by
  funext c
  unfold upS
  by_cases h1 : c = a
  · subst h1
    simp [h]
  · simp [h1]
theorem upS_id {S : Sto} {a : Addr} {o : MO} (h : S a = some o) : upS S a o = S := by
  funext b
  unfold upS
  split
  · rename_i e; rw [e, h]
  · rfl
/-- a draw -/
theorem take_call {G : GE} {it : Nat} (h : G.fn it = spR takePre takePost) {a : Addr} {l : List PV} {m : Int} {S : Sto} {Q : Post} {E : XPost} (hS : S a = some (.lst l)) (hl : PenL l) (hm : 0 < m) (hm2 : m < 2 ^ 64)
    (k : ∀ i l', 0 ≤ i → i < m → PenL l' → Q (.int i) (upS S a (.lst l'))) : G.fn it [.ref a, .int m] S (frzQ false Q) E := by
  rw [h]
  refine ⟨⟨a, l, m, rfl, hS, hl, hm, hm2⟩, fun r S' h => ?_, fun _ _ h => h.elim⟩
  obtain ⟨_, _, i, l', e, rfl, h0, h1, hl', rfl⟩ := h
  cases e
  exact k i l' h0 h1 hl'
/-- a draw beside one told thing -/
theorem take_call2 {G : GE} {it : Nat} (h : G.fn it = spR takePre takePost) {a p : Addr} {o : MO} {l : List PV} {m : Int} {S : Sto} {Q : Post} {E : XPost} (hp : p ≠ a) (hl : PenL l) (hm : 0 < m) (hm2 : m < 2 ^ 64)
    (k : ∀ i l', 0 ≤ i → i < m → PenL l' → Q (.int i) (upS (upS S a (.lst l')) p o)) : G.fn it [.ref a, .int m] (upS (upS S a (.lst l)) p o) (frzQ false Q) E := by
  refine take_call h (by rw [upS_ne (Ne.symm hp)]; exact upS_same) hl hm hm2 fun i l' h0 h1 hl' => ?_
  rw [upS_comm2 hp, upS_upS]
  exact k i l' h0 h1 hl'
/-- a list comprehension whose parts draw -/
theorem comp_pen {ok : Sto → Prop} {step : PV → List PV → Sto → (List PV → Sto → Prop) → Prop} {items : List PV} {S : Sto} {a p : Addr} {l : List PV} {dn : List PV → Sto → Prop} (R : Nat → PV → Prop) (hp : p ≠ a) (hS : S a = some (.lst l)) (hl : PenL l) (hok : ∀ S', ok S')
    (hs : ∀ (i : Nat) x acc l k, items[i]? = some x → acc.length = i → PenL l → (∀ y l', R i y → PenL l' → k (acc ++ [y]) (upS (upS S a (.lst l')) p (.lst (acc ++ [y])))) → step x acc (upS (upS S a (.lst l)) p (.lst acc)) k)
    (hd : ∀ acc l, acc.length = items.length → (∀ (i : Nat) y, acc[i]? = some y → R i y) → PenL l → dn acc (upS (upS S a (.lst l)) p (.lst acc))) : itL ok step dn items [] (upS S p (.lst [])) := by
  refine itL_inv (fun i acc S' => acc.length = i ∧ (∀ (j : Nat) y, acc[j]? = some y → R j y) ∧ ∃ l, PenL l ∧ S' = upS (upS S a (.lst l)) p (.lst acc)) ⟨rfl, fun j y h => by simp at h, l, hl, by rw [upS_id hS]⟩ (fun _ _ S' _ => hok S') (fun i x acc S' k hx h hk => ?_) fun acc S' h => ?_
  · obtain ⟨h1, h2, l, hl, rfl⟩ := h
    refine hs i x acc l k hx h1 hl fun y l' hy hl' => hk _ _ ⟨by rw [List.length_append, h1]; rfl, fun j z hz => ?_, l', hl', rfl⟩
    by_cases hj : j < acc.length
    · rw [List.getElem?_append_left hj] at hz
      exact h2 j z hz
    · rw [List.getElem?_append_right (by omega)] at hz
      have hj2 : j - acc.length = 0 := by
        have := (List.getElem?_eq_some_iff.mp hz).1
        simp at this
        omega
      rw [hj2] at hz
      simp at hz
      subst hz
      have : j = i := by omega
      rw [this]
      exact hy
  · obtain ⟨h1, h2, l, hl, rfl⟩ := h
    exact hd acc l h1 h2 hl
end DL
end
section
set_option maxRecDepth 100000
set_option maxHeartbeats 1000000
/-! What is a form, a bound, loops: the program's own tests. -/
namespace DL
open PySem PySem.Spec L2
open PyProof.Rows hiding St wpS
local macro_rules | `(tactic| walk_at "wp") => `(tactic| simp only [wpSs, wpS, wpE, wpEs, wpT, wpC, wpO, wpL, wpI, wpH, List.getElem?_cons_zero, List.getElem?_cons_succ, List.set_cons_zero, List.set_cons_succ])
def irWhole : CSs := (.cons (.ret (.and (.isi (.var 0) ["int"]) (.not (.isi (.var 0) ["bool"])))) .nil)
def irForm (iw : Nat) : CSs := (.cons (.ite (.or (.not (.tst (.isi (.var 0) ["tuple"]))) (.tst (.cmp .ne (.bi .len false (.cons (.var 0) .nil)) (.bin .add false (.var 1) (.cst (.int 1)))))) (.cons (.ret (.cst (.bl false))) .nil) .nil) (.cons (.ret (.bi .all false (.cons (.comp false (.call iw false (.cons (.var 2) .nil)) (.nm 2) (.seq (.var 0)) .none [2]) .nil))) .nil))
def irBound (ifo : Nat) : CSs := (.cons (.ite (.or (.not (.tst (.call ifo false (.cons (.var 0) (.cons (.var 1) .nil))))) (.tst (.cmp .gt (.bi .abs false (.cons (.idx (.var 0) (.cst (.int 0))) .nil)) (.cst (.int 9))))) (.cons (.ret (.cst (.bl false))) .nil) .nil) (.cons (.ret (.bi .all false (.cons (.comp false (.cmp .le (.bi .abs false (.cons (.var 2) .nil)) (.cst (.int 2))) (.nm 2) (.seq (.slc false (.var 0) (.some (.cst (.int 1))) .none)) .none [2]) .nil))) .nil))
def irLoops (ib : Nat) : CSs := (.cons (.ite (.or (.not (.tst (.isi (.var 0) ["tuple"]))) (.not (.tst (.chn (.cst (.int 1)) (.more .le (.bi .len false (.cons (.var 0) .nil)) (.one .le (.cst (.int 3)))))))) (.cons (.ret (.cst (.bl false))) .nil) .nil) (.cons (.for (.tp [(.nm 1), (.nm 2)]) (.enum (.var 0)) (.cons (.ite (.or (.not (.tst (.isi (.var 2) ["tuple"]))) (.or (.tst (.cmp .ne (.bi .len false (.cons (.var 2) .nil)) (.cst (.int 2)))) (.or (.not (.tst (.call ib false (.cons (.idx (.var 2) (.cst (.int 0))) (.cons (.var 1) .nil))))) (.not (.tst (.call ib false (.cons (.idx (.var 2) (.cst (.int 1))) (.cons (.var 1) .nil)))))))) (.cons (.ret (.cst (.bl false))) .nil) .nil) .nil)) (.cons (.ret (.cst (.bl true))) .nil)))
mutual
/-- nothing that may be changed is in it -/
def puv : PV → Bool
  | .ref _ => false
  | .ty _ => false
  | .tup xs => puvs xs
  | .lst xs => puvs xs
  | .dct ks vs => puvs ks && puvs vs
  | _ => true
def puvs : List PV → Bool
  | [] => true
  | x :: xs => puv x && puvs xs
end
theorem puvs_mem : ∀ {xs : List PV}, puvs xs = true → ∀ y ∈ xs, puv y = true
  | [], _, _, h => by simp at h
  | x :: xs, h, y, hy => by
    simp only [puvs, Bool.and_eq_true] at h
    rcases List.mem_cons.mp hy with e | hy
    · rw [e]; exact h.1
    · exact puvs_mem h.2 y hy
theorem puvs_of : ∀ {xs : List PV}, (∀ y ∈ xs, puv y = true) → puvs xs = true
  | [], _ => rfl
  | x :: xs, h => by
    simp only [puvs, h x (by simp), Bool.true_and]
    exact puvs_of fun y hy => h y (List.mem_cons_of_mem _ hy)
theorem deeps_pure {f : PV → PV} (hf : ∀ x, puv x = true → f x = x) : ∀ {xs : List PV}, puvs xs = true → xs.map f = xs
  | [], _ => rfl
  | x :: xs, h => by
    simp only [puvs, Bool.and_eq_true] at h
    rw [List.map_cons, hf x h.1, deeps_pure hf h.2]
theorem deep_pure {S : Sto} : ∀ (n : Nat) (x : PV), puv x = true → deep n S x = x
  | 0, _, _ => rfl
  | n + 1, x, h => by
    cases x with
    | tup xs => simp only [deep]; rw [deeps_pure (deep_pure n) (by simpa only [puv] using h)]
    | lst xs => simp only [deep]; rw [deeps_pure (deep_pure n) (by simpa only [puv] using h)]
    | ref a => simp [puv] at h
    | _ => rfl
def tyN : PV → String
  | .non => "NoneType"
  | .bl _ => "bool"
  | .int _ => "int"
  | .str _ => "str"
  | .tup _ => "tuple"
  | .lst _ => "list"
  | .dct _ _ => "dict"
  | _ => ""
theorem ty_pure {S : Sto} {x : PV} (h : puv x = true) : tyP S x = some (tyN x) := by
  cases x <;> first | rfl | (simp [puv] at h)
def isI : PV → Bool
  | .int _ => true
  | _ => false
def isTu : PV → Bool
  | .tup _ => true
  | _ => false
theorem isT_int (x : PV) : (isT (tyN x) "int" && !isT (tyN x) "bool") = isI x := by cases x <;> rfl
theorem isT_tup (x : PV) : isT (tyN x) "tuple" = isTu x := by cases x <;> rfl
theorem isI_is {x : PV} (h : isI x = true) : ∃ i, x = .int i := by cases x <;> first | exact ⟨_, rfl⟩ | cases h
/-! whole -/
def whoPre : List PV → Sto → Prop := fun vs S => ∃ x, vs = [x] ∧ puv x = true
def whoPost : List PV → Sto → PV → Sto → Prop := fun vs S r S' => ∃ x, vs = [x] ∧ r = .bl (isI x) ∧ S' = S
theorem w_whole {G : GE} {N : Str} {vs : List PV} {S : Sto} {Q : Post} {E : XPost} (hp : whoPre vs S) (hq : ∀ r S', whoPost vs S r S' → Q r S') : wpSs G irWhole { nx := fun _ S => Q .non S, rt := Q } (fun x _ S => E x S) (startS [N] vs) S := by
  obtain ⟨x, rfl, hx⟩ := hp
  rw [show startS [N] [x] = [some x] from rfl]
  have hq := hq _ _ ⟨x, rfl, rfl, rfl⟩
  rw [← isT_int] at hq
  unfold irWhole
  walk_at "wp"
  simp only [ty_pure hx, truD, List.any_cons, List.any_nil, Bool.or_false]
  cases h : isT (tyN x) "int" <;> simp [h] at hq ⊢ <;> exact hq
/-! form -/
def formP (x : PV) (d : Int) : Bool := match x with
  | .tup xs => decide ((xs.length : Int) = d + 1) && xs.all isI
  | _ => false
def fomPre : List PV → Sto → Prop := fun vs S => ∃ x d, vs = [x, .int d] ∧ puv x = true
def fomPost : List PV → Sto → PV → Sto → Prop := fun vs S r S' => ∃ x d, vs = [x, .int d] ∧ r = .bl (formP x d) ∧ S' = S
theorem blsP_map2 {α : Type} (g : α → Bool) : ∀ xs : List α, blsP (xs.map fun y => PV.bl (g y)) = some (xs.map g)
  | [] => rfl
  | x :: xs => by simp only [List.map_cons, blsP, blsP_map2 g xs]
theorem all_id {α : Type} (g : α → Bool) (xs : List α) : (xs.map g).all id = xs.all g := by simp [List.all_map]
theorem w_form {G : GE} {iw : Nat} {n1 n2 n3 : Str} (h0 : G.fn iw = spR whoPre whoPost) {vs : List PV} {S : Sto} {Q : Post} {E : XPost} (hp : fomPre vs S) (hq : ∀ r S', fomPost vs S r S' → Q r S') : wpSs G (irForm iw) { nx := fun _ S => Q .non S, rt := Q } (fun x _ S => E x S) (startS [n1, n2, n3] vs) S := by
  obtain ⟨x, d, rfl, hx⟩ := hp
  rw [show startS [n1, n2, n3] [x, .int d] = [some x, some (.int d), none] from rfl]
  have hq := hq _ _ ⟨x, d, rfl, rfl, rfl⟩
  unfold irForm
  walk_at "wp"
  simp only [ty_pure hx, truD, List.any_cons, List.any_nil, Bool.or_false, isT_tup]
  cases x with
  | tup xs =>
    simp only [isTu, Bool.not_true, biD, dQ, binD, cmpD, eqD]
    by_cases hl : (xs.length : Int) = d + 1
    · simp only [hl, decide_true, Bool.not_true]
      intro p hp
      refine comp_map (fun y => .bl (isI y)) hp (fun acc => trivial) (fun i x acc k hi ha hk => ?_) ?_
      · simp only [tgD, wipeS, List.set_cons_zero, List.set_cons_succ, List.getElem?_cons_zero, List.getElem?_cons_succ, h0, spR]
        refine ⟨⟨x, rfl, puvs_mem hx x (List.mem_of_getElem? hi)⟩, fun r S' h => ?_, fun _ _ h => h.elim⟩
        obtain ⟨z, e, rfl, rfl⟩ := h
        cases e
        simp only [frzQ, upS_same, upS_upS]
        exact ⟨trivial, hk⟩
      · refine ⟨upS_same, ?_⟩
        simp only [biD, dL, blsP_map2, delS_upS hp, all_id]
        have : formP (.tup xs) d = xs.all isI := by
          show (decide ((xs.length : Int) = d + 1) && xs.all isI) = _
          rw [decide_eq_true hl, Bool.true_and]
        rw [← this]
        exact hq
    · simp only [hl, decide_false, Bool.not_false]
      have : formP (.tup xs) d = false := by
        show (decide ((xs.length : Int) = d + 1) && xs.all isI) = _
        rw [decide_eq_false hl, Bool.false_and]
      rw [← this]
      exact hq
  | _ => exact hq
/-! bound -/
def absI (i : Int) : Int := if i < 0 then -i else i
def smallP (m : Int) : PV → Bool
  | .int b => decide (absI b ≤ m)
  | _ => false
def boundP (x : PV) (d : Int) : Bool := formP x d && match x with
  | .tup (a :: r) => smallP 9 a && r.all (smallP 2)
  | _ => false
def bouPre : List PV → Sto → Prop := fun vs S => ∃ x d, vs = [x, .int d] ∧ puv x = true ∧ 0 ≤ d
def bouPost : List PV → Sto → PV → Sto → Prop := fun vs S r S' => ∃ x d, vs = [x, .int d] ∧ r = .bl (boundP x d) ∧ S' = S
theorem cut1 (x : PV) (xs : List PV) : cutP (x :: xs) (some 1) none = xs := by
  unfold cutP
  rw [show HT.sIx (x :: xs).length 0 (some 1) = 1 from by
    rw [show (1 : Int) = ((1 : Nat) : Int) from rfl, HT.sIx_nat]
    simp, HT.sIx_none]
  simp
theorem w_bound {G : GE} {ifo : Nat} {n1 n2 n3 : Str} (h1 : G.fn ifo = spR fomPre fomPost) {vs : List PV} {S : Sto} {Q : Post} {E : XPost} (hp : bouPre vs S) (hq : ∀ r S', bouPost vs S r S' → Q r S') : wpSs G (irBound ifo) { nx := fun _ S => Q .non S, rt := Q } (fun x _ S => E x S) (startS [n1, n2, n3] vs) S := by
  obtain ⟨x, d, rfl, hx, hd⟩ := hp
  rw [show startS [n1, n2, n3] [x, .int d] = [some x, some (.int d), none] from rfl]
  have hq := hq _ _ ⟨x, d, rfl, rfl, rfl⟩
  unfold irBound
  walk_at "wp"
  simp only [h1, spR]
  refine ⟨⟨x, d, rfl, hx⟩, fun r S' h => ?_, fun _ _ h => h.elim⟩
  obtain ⟨_, _, e, rfl, rfl⟩ := h
  cases e
  simp only [frzQ, truD]
  cases hf : formP x d with
  | false =>
    simp only [Bool.not_false]
    have : boundP x d = false := by simp [boundP, hf]
    rw [← this]
    exact hq
  | true =>
    simp only [Bool.not_true]
    cases x with
    | tup xs =>
      have hf2 : (decide ((xs.length : Int) = d + 1) && xs.all isI) = true := hf
      rw [Bool.and_eq_true] at hf2
      obtain ⟨f1, f2⟩ := hf2
      have f1 := of_decide_eq_true f1
      cases xs with
      | nil => simp at f1; omega
      | cons a r =>
        rw [List.all_cons, Bool.and_eq_true] at f2
        obtain ⟨i, rfl⟩ := isI_is f2.1
        have a0 : L2.atI (PV.int i :: r) 0 = some (.int i) := atI_of (by decide) rfl rfl
        simp only [idxD, dQ, a0, biD, cmpD]
        have hB : boundP (.tup (.int i :: r)) d = (decide (absI i ≤ 9) && r.all (smallP 2)) := by
          unfold boundP
          rw [hf, Bool.true_and]
          rfl
        rw [hB] at hq
        by_cases c : absI i ≤ 9
        · have c' : ¬ (9 < if i < 0 then -i else i) := by unfold absI at c; omega
          simp only [c', decide_false, slcD, cut1]
          rw [decide_eq_true c, Bool.true_and] at hq
          intro p hp
          refine comp_map (fun y => .bl (smallP 2 y)) hp (fun acc => trivial) (fun i x acc k hi ha hk => ?_) ?_
          · obtain ⟨b, rfl⟩ := isI_is (List.all_eq_true.mp f2.2 x (List.mem_of_getElem? hi))
            simp only [tgD, wipeS, List.set_cons_zero, List.set_cons_succ, List.getElem?_cons_zero, List.getElem?_cons_succ, biD, cmpD, upS_same, upS_upS]
            exact ⟨trivial, hk⟩
          · refine ⟨upS_same, ?_⟩
            simp only [biD, dL, blsP_map2, delS_upS hp, all_id]
            exact hq
        · have c' : (9 < if i < 0 then -i else i) := by unfold absI at c; omega
          simp only [c', decide_true]
          rw [decide_eq_false c, Bool.false_and] at hq
          exact hq
    | _ => cases hf
/-! loops -/
def loopP (x : PV) (k : Nat) : Bool := match x with
  | .tup [a, b] => boundP a k && boundP b k
  | _ => false
def loopsFrom : Nat → List PV → Bool
  | _, [] => true
  | k, x :: xs => loopP x k && loopsFrom (k + 1) xs
def loopsP (x : PV) : Bool := match x with
  | .tup xs => decide (1 ≤ xs.length) && decide (xs.length ≤ 3) && loopsFrom 0 xs
  | _ => false
def looPre : List PV → Sto → Prop := fun vs S => ∃ x, vs = [x] ∧ puv x = true
def looPost : List PV → Sto → PV → Sto → Prop := fun vs S r S' => ∃ x, vs = [x] ∧ r = .bl (loopsP x) ∧ S' = S
theorem w_loops {G : GE} {ib : Nat} {n1 n2 n3 : Str} (h2 : G.fn ib = spR bouPre bouPost) {vs : List PV} {S : Sto} {Q : Post} {E : XPost} (hp : looPre vs S) (hq : ∀ r S', looPost vs S r S' → Q r S') : wpSs G (irLoops ib) { nx := fun _ S => Q .non S, rt := Q } (fun x _ S => E x S) (startS [n1, n2, n3] vs) S := by
  obtain ⟨x, rfl, hx⟩ := hp
  rw [show startS [n1, n2, n3] [x] = [some x, none, none] from rfl]
  have hq := hq _ _ ⟨x, rfl, rfl, rfl⟩
  unfold irLoops
  walk_at "wp"
  simp only [ty_pure hx, truD, List.any_cons, List.any_nil, Bool.or_false, isT_tup]
  cases x with
  | tup xs =>
    simp only [isTu, Bool.not_true, biD, dQ, cmpD]
    by_cases c1 : (1 : Int) ≤ (xs.length : Int)
    · by_cases c2 : (xs.length : Int) ≤ 3
      · simp only [c1, c2, decide_true, Bool.not_true]
        have hL : loopsP (.tup xs) = loopsFrom 0 xs := by
          show (decide (1 ≤ xs.length) && decide (xs.length ≤ 3) && loopsFrom 0 xs) = _
          rw [decide_eq_true (by omega), decide_eq_true (by omega)]
          rfl
        rw [hL] at hq
        refine itL_inv (fun i σ S' => S' = S ∧ ∃ z1 z2, σ = [some (.tup xs), z1, z2] ∧ loopsFrom 0 xs = loopsFrom i (xs.drop i)) ⟨rfl, none, none, rfl, rfl⟩ (fun _ _ _ _ => trivial) (fun i x σ S' k hi h hk => ?_) fun σ S' h => ?_
        · obtain ⟨rfl, z1, z2, rfl, he⟩ := h
          obtain ⟨y, hy, hyi, rfl⟩ := enumP_mem hi
          have hpy := puvs_mem hx y hy
          have hlt := (List.getElem?_eq_some_iff.mp hyi).1
          have hdrop : xs.drop i = y :: xs.drop (i + 1) := by
            rw [List.drop_eq_getElem_cons hlt, (List.getElem?_eq_some_iff.mp hyi).2]
          rw [hdrop] at he
          have he : loopsFrom 0 xs = (loopP y i && loopsFrom (i + 1) (xs.drop (i + 1))) := he
          have bad : loopP y i = false → Q (.bl false) S' := fun hb => by
            rw [he, hb, Bool.false_and] at hq
            exact hq
          have good : loopP y i = true → k [some (.tup xs), some (.int (i : Nat)), some y] S' := fun hb => hk _ _ ⟨rfl, _, _, rfl, by rw [he, hb, Bool.true_and]⟩
          simp only [tgD, tgDs, dQ, List.set_cons_zero, List.set_cons_succ, List.getElem?_cons_zero, List.getElem?_cons_succ, ty_pure hpy, List.any_cons, List.any_nil, Bool.or_false, isT_tup, truD]
          cases y with
          | tup ys =>
            simp only [isTu, Bool.not_true, biD, dQ, cmpD, eqD]
            by_cases c3 : (ys.length : Int) = 2
            · match ys, c3 with
              | [a, b], _ =>
                have a0 : L2.atI [a, b] 0 = some a := rfl
                have a1 : L2.atI [a, b] 1 = some b := rfl
                have hpa : puv a = true ∧ puv b = true := by
                  simp only [puv, puvs, Bool.and_true, Bool.and_eq_true] at hpy
                  exact hpy
                simp only [c3, decide_true, Bool.not_true, idxD, dQ, a0, a1, h2, spR]
                have hlp : loopP (.tup [a, b]) i = (boundP a i && boundP b i) := rfl
                rw [hlp] at bad good
                refine ⟨⟨a, _, rfl, hpa.1, by omega⟩, fun r S' h => ?_, fun _ _ h => h.elim⟩
                obtain ⟨_, _, e, rfl, rfl⟩ := h
                cases e
                simp only [frzQ]
                cases h1 : boundP a i with
                | false =>
                  simp only [Bool.not_false]
                  exact bad (by rw [h1]; rfl)
                | true =>
                  simp only [Bool.not_true]
                  refine ⟨⟨b, _, rfl, hpa.2, by omega⟩, fun r S' h => ?_, fun _ _ h => h.elim⟩
                  obtain ⟨_, _, e, rfl, rfl⟩ := h
                  cases e
                  simp only [frzQ]
                  cases h3 : boundP b i with
                  | false =>
                    simp only [Bool.not_false]
                    exact bad (by rw [h1, h3]; rfl)
                  | true =>
                    simp only [Bool.not_true]
                    exact good (by rw [h1, h3]; rfl)
            · simp only [c3, decide_false, Bool.not_false]
              refine bad ?_
              match ys, c3 with
              | [], _ => rfl
              | [_], _ => rfl
              | [_, _], c3 => exact absurd rfl c3
              | _ :: _ :: _ :: _, _ => rfl
          | _ => exact bad rfl
        · obtain ⟨rfl, z1, z2, rfl, he⟩ := h
          rw [enumP_len, List.drop_length] at he
          rw [he] at hq
          exact hq
      · simp only [c1, c2, decide_true, decide_false, Bool.not_false]
        have : loopsP (.tup xs) = false := by
          show (decide (1 ≤ xs.length) && decide (xs.length ≤ 3) && loopsFrom 0 xs) = _
          rw [decide_eq_false (by omega : ¬ xs.length ≤ 3), Bool.and_false, Bool.false_and]
        rw [← this]
        exact hq
    · simp only [c1, decide_false, Bool.not_false]
      have : loopsP (.tup xs) = false := by
        show (decide (1 ≤ xs.length) && decide (xs.length ≤ 3) && loopsFrom 0 xs) = _
        rw [decide_eq_false (by omega : ¬ 1 ≤ xs.length), Bool.false_and, Bool.false_and]
      rw [← this]
      exact hq
  | _ => exact hq
end DL
end
section
set_option maxRecDepth 100000
set_option maxHeartbeats 1000000
/-! Counts gone through: comes_to, counts_behind, counts_of. -/
namespace DL
open PySem PySem.Spec L2
open PyProof.Rows hiding St wpS
local macro_rules | `(tactic| walk_at "wp") => `(tactic| simp only [wpSs, wpS, wpE, wpEs, wpT, wpC, wpO, wpL, wpI, wpH, List.getElem?_cons_zero, List.getElem?_cons_succ, List.set_cons_zero, List.set_cons_succ])
def irComes : CSs := (.cons (.ret (.bin .add false (.idx (.var 0) (.cst (.int 0))) (.bi .sum false (.cons (.comp false (.bin .mul false (.var 2) (.var 3)) (.tp [(.nm 2), (.nm 3)]) (.zip (.slc false (.var 0) (.some (.cst (.int 1))) .none) (.var 1)) .none [2, 3]) .nil)))) .nil)
def irBehind_1 (ic ib : Nat) (m : Bool) : CSs := (.cons (.ret (.var 4)) .nil)
def irBehind_2 (ic ib : Nat) (m : Bool) : CSs := (.cons (.for (.nm 5) (.rng2 (.call ic false (.cons (.var 2) (.cons (.var 1) .nil))) (.call ic false (.cons (.var 3) (.cons (.var 1) .nil)))) (.cons (.ex (.me .extend false (.var 4) (.cons (.call ib false (.cons (.var 0) (.cons (.bin .add false (.var 1) (.tup (.cons (.var 5) .nil))) .nil))) .nil))) .nil)) (irBehind_1 ic ib m))
def irBehind_3 (ic ib : Nat) (m : Bool) : CSs := (.cons (.asg (.nm 4) (.lst true .nil)) (irBehind_2 ic ib m))
def irBehind_4 (ic ib : Nat) (m : Bool) : CSs := (.cons (.asg (.tp [(.nm 2), (.nm 3)]) (.idx (.var 0) (.bi .len false (.cons (.var 1) .nil)))) (irBehind_3 ic ib m))
def irBehind (ic ib : Nat) (m : Bool) : CSs := (.cons (.ite (.tst (.cmp .eq (.bi .len false (.cons (.var 1) .nil)) (.bi .len false (.cons (.var 0) .nil)))) (.cons (.ret (.lst m (.cons (.var 1) .nil))) .nil) .nil) (irBehind_4 ic ib m))
abbrev Frm := Int × List Int
def iP (cs : List Int) : PV := .tup (cs.map .int)
def fP (f : Frm) : PV := iP (f.1 :: f.2)
def lP (p : Frm × Frm) : PV := .tup [fP p.1, fP p.2]
def lsP (L : List (Frm × Frm)) : PV := .tup (L.map lP)
def dotI (ns cs : List Int) : Int := (List.zipWith (fun a b => a * b) ns cs).sum
def atF (f : Frm) (cs : List Int) : Int := f.1 + dotI f.2 cs
theorem ints_inj : ∀ {ns ms : List Int}, ns.map PV.int = ms.map PV.int → ns = ms
  | [], [], _ => rfl
  | [], _ :: _, h => by simp at h
  | _ :: _, [], h => by simp at h
  | n :: ns, m :: ms, h => by
    simp only [List.map_cons, List.cons.injEq, PV.int.injEq] at h
    rw [h.1, ints_inj h.2]
theorem iP_inj {a b : List Int} (h : iP a = iP b) : a = b := ints_inj (PV.tup.inj h)
theorem fP_inj {f g : Frm} (h : fP f = fP g) : f = g := by
  have := List.cons.inj (iP_inj h)
  exact Prod.ext this.1 this.2
theorem lP_inj {f g : Frm × Frm} (h : lP f = lP g) : f = g := by
  have := PV.tup.inj h
  simp only [List.cons.injEq, and_true] at this
  exact Prod.ext (fP_inj this.1) (fP_inj this.2)
theorem map_inj {α : Type} {f : α → PV} (hf : ∀ a b, f a = f b → a = b) : ∀ {xs ys : List α}, xs.map f = ys.map f → xs = ys
  | [], [], _ => rfl
  | [], _ :: _, h => by simp at h
  | _ :: _, [], h => by simp at h
  | x :: xs, y :: ys, h => by
    simp only [List.map_cons, List.cons.injEq] at h
    rw [hf _ _ h.1, map_inj hf h.2]
theorem lsP_inj {L M : List (Frm × Frm)} (h : lsP L = lsP M) : L = M := map_inj (fun _ _ => lP_inj) (PV.tup.inj h)
def mulV : PV → PV
  | .tup [.int a, .int b] => .int (a * b)
  | _ => .non
theorem zip_mulV : ∀ ns cs : List Int, (zipP (ns.map PV.int) (cs.map PV.int)).map mulV = (List.zipWith (fun a b => a * b) ns cs).map PV.int
  | [], cs => by simp [zipP]
  | n :: ns, [] => by simp [zipP]
  | n :: ns, c :: cs => by simp [zipP, mulV, zip_mulV ns cs]
def Small (cs : List Int) : Prop := ∀ c ∈ cs, -(2 ^ 64) < c ∧ c < 2 ^ 64
def cmPre : List PV → Sto → Prop := fun vs S => ∃ (f : Frm) (cs : List Int), vs = [fP f, iP cs] ∧ Small cs
def cmPost : List PV → Sto → PV → Sto → Prop := fun vs S r S' => ∀ (f : Frm) (cs : List Int), vs = [fP f, iP cs] → r = .int (atF f cs) ∧ S' = S
theorem w_comes {G : GE} {n1 n2 n3 n4 : Str} {vs : List PV} {S : Sto} {Q : Post} {E : XPost} (hp : cmPre vs S) (hq : ∀ r S', cmPost vs S r S' → Q r S') : wpSs G irComes { nx := fun _ S => Q .non S, rt := Q } (fun x _ S => E x S) (startS [n1, n2, n3, n4] vs) S := by
  obtain ⟨⟨n, ns⟩, cs, rfl, hc⟩ := hp
  have hq := hq (.int (atF (n, ns) cs)) S fun f cs' e => by
    simp only [List.cons.injEq, and_true] at e
    rw [fP_inj e.1, iP_inj e.2]
    exact ⟨rfl, rfl⟩
  rw [show startS [n1, n2, n3, n4] [fP (n, ns), iP cs] = [some (.tup (.int n :: ns.map .int)), some (.tup (cs.map .int)), none, none] from rfl]
  unfold irComes
  walk_at "wp"
  have a0 : L2.atI (PV.int n :: ns.map PV.int) 0 = some (.int n) := atI_of (by decide) rfl rfl
  simp only [idxD, dQ, a0, slcD, cut1]
  intro p hp
  refine comp_map mulV hp (fun acc => ⟨trivial, trivial⟩) (fun i x acc k hi ha hk => ?_) ?_
  · obtain ⟨u, v, h1, h2, rfl⟩ := zipP_get _ _ _ _ hi
    rw [List.getElem?_map] at h1 h2
    obtain ⟨a, h3, rfl⟩ := Option.map_eq_some_iff.mp h1
    obtain ⟨b, h4, rfl⟩ := Option.map_eq_some_iff.mp h2
    obtain ⟨c1, c2⟩ := hc b (List.mem_of_getElem? h4)
    simp only [tgD, tgDs, dQ, wipeS, List.set_cons_zero, List.set_cons_succ, List.getElem?_cons_zero, List.getElem?_cons_succ, binD, upS_same, upS_upS]
    exact ⟨.inl (.inr ⟨c1, c2⟩), trivial, hk⟩
  · refine ⟨upS_same, ?_⟩
    rw [zip_mulV]
    simp only [biD, dL, intsP_map, delS_upS hp, binD]
    exact hq
def cntF : List (Frm × Frm) → List Int → List (List Int)
  | [], cs => [cs]
  | p :: L, cs => (List.range (atF p.2 cs - atF p.1 cs).toNat).flatMap fun i => cntF L (cs ++ [atF p.1 cs + (i : Nat)])
/-- the counts may be gone through -/
def CntOK : List (Frm × Frm) → List Int → Prop
  | [], cs => Small cs
  | p :: L, cs => Small cs ∧ (-(2 ^ 40) < atF p.1 cs ∧ atF p.1 cs < 2 ^ 40) ∧ (-(2 ^ 40) < atF p.2 cs ∧ atF p.2 cs < 2 ^ 40) ∧ (atF p.2 cs - atF p.1 cs).toNat ≤ sizeLine ∧ ∀ i : Nat, i < (atF p.2 cs - atF p.1 cs).toNat → CntOK L (cs ++ [atF p.1 cs + (i : Nat)])
/-- a list handed back: to be changed, or not -/
def resL (m : Bool) (xs : List PV) (S : Sto) (r : PV) (S' : Sto) : Prop := match m with
  | true => ∃ p, r = .ref p ∧ S p = none ∧ S' = upS S p (.lst xs)
  | false => r = .lst xs ∧ S' = S
def cbPre (u : Nat) : List PV → Sto → Prop := fun vs S => ∃ (L0 L : List (Frm × Frm)) (cs : List Int), vs = [lsP (L0 ++ L), iP cs] ∧ L0.length = cs.length ∧ L.length = u ∧ CntOK L cs ∧ (cntF L cs).length ≤ sizeLine ∧ (L0 ++ L).length ≤ 10
def cbPost (m : Bool) : List PV → Sto → PV → Sto → Prop := fun vs S r S' => ∀ (L0 L : List (Frm × Frm)) (cs : List Int), vs = [lsP (L0 ++ L), iP cs] → L0.length = cs.length → resL m ((cntF L cs).map iP) S r S'
theorem w_behind {G : GE} {ic ib t : Nat} {m : Bool} {n1 n2 n3 n4 n5 n6 : Str} (hc : G.fn ic = spR cmPre cmPost) (hb : G.fn ib = spR (preB cbPre t) (cbPost m)) {vs : List PV} {S : Sto} {Q : Post} {E : XPost} (hcl : Cl Q) (hp : cbPre t vs S) (hq : ∀ r S', cbPost m vs S r S' → Q r S') :
    wpSs G (irBehind ic ib m) { nx := fun _ S => Q .non S, rt := Q } (fun x _ S => E x S) (startS [n1, n2, n3, n4, n5, n6] vs) S := by
  obtain ⟨L0, L, cs, rfl, hlen, hu, hok, hsz, h10⟩ := hp
  have hz : 100 ≤ sizeLine := by decide
  have hq : ∀ r S', resL m ((cntF L cs).map iP) S r S' → Q r S' := fun r S' h => hq r S' fun L0' L' cs' e hl => by
    simp only [List.cons.injEq, and_true] at e
    have e1 := lsP_inj e.1
    have e2 := iP_inj e.2
    subst e2
    obtain ⟨_, rfl⟩ := List.append_inj e1 (by omega)
    exact h
  have hcl10 : cs.length ≤ 10 := by rw [List.length_append] at h10; omega
  rw [show startS [n1, n2, n3, n4, n5, n6] [lsP (L0 ++ L), iP cs] = [some (.tup ((L0 ++ L).map lP)), some (.tup (cs.map .int)), none, none, none, none] from rfl]
  unfold irBehind
  walk_at "wp"
  simp only [biD, dQ, cmpD, eqD, truD]
  cases L with
  | nil =>
    have e : (((cs.map PV.int).length : Nat) : Int) = ((((L0 ++ ([] : List (Frm × Frm))).map lP).length : Nat) : Int) := by simp [hlen]
    simp only [e, decide_true]
    refine ⟨by show 1 ≤ sizeLine; omega, ?_⟩
    unfold newL
    cases m with
    | true => exact fun p hp => hq _ _ ⟨p, rfl, hp, rfl⟩
    | false => exact hq _ _ ⟨rfl, rfl⟩
  | cons p L =>
    have e : ¬ (((cs.map PV.int).length : Nat) : Int) = ((((L0 ++ p :: L).map lP).length : Nat) : Int) := by simp; omega
    simp only [e, decide_false]
    unfold irBehind_4
    walk_at "wp"
    have hat : L2.atI ((L0 ++ p :: L).map lP) (((cs.map PV.int).length : Nat) : Int) = some (lP p) := atI_nat (by
      rw [List.length_map, ← hlen, List.getElem?_map, List.getElem?_append_right (Nat.le_refl _), Nat.sub_self]
      rfl)
    simp only [biD, dQ, idxD, hat, lP, tgD, tgDs, List.set_cons_zero, List.set_cons_succ]
    unfold irBehind_3
    walk_at "wp"
    simp only [newL]
    refine ⟨by show 0 ≤ sizeLine; omega, fun q hq0 => ?_⟩
    simp only [tgD, List.set_cons_zero, List.set_cons_succ]
    unfold irBehind_2
    walk_at "wp"
    simp only [hc, spR]
    obtain ⟨hsm, ⟨a1, a2⟩, ⟨b1, b2⟩, hrz, hin⟩ := hok
    refine ⟨⟨p.1, cs, rfl, hsm⟩, fun r S' h => ?_, fun _ _ h => h.elim⟩
    obtain ⟨rfl, rfl⟩ := h p.1 cs rfl
    simp only [frzQ]
    refine ⟨⟨p.2, cs, rfl, hsm⟩, fun r S' h => ?_, fun _ _ h => h.elim⟩
    obtain ⟨rfl, rfl⟩ := h p.2 cs rfl
    simp only [frzQ]
    refine ⟨by omega, by omega, by omega, by omega, hrz, ?_⟩
    have hcnt : cntF (p :: L) cs = (List.range (atF p.2 cs - atF p.1 cs).toNat).flatMap fun i => cntF L (cs ++ [atF p.1 cs + (i : Nat)]) := rfl
    rw [hcnt] at hq hsz
    generalize hN : (atF p.2 cs - atF p.1 cs).toNat = N at hq hsz hrz hin ⊢
    generalize hlo : atF p.1 cs = lo at hq hsz hin ⊢
    have part : ∀ i, i ≤ N → (((List.range i).flatMap fun i => cntF L (cs ++ [lo + (i : Nat)]))).length ≤ sizeLine := fun i hi => by
      refine Nat.le_trans ?_ hsz
      have : List.range N = List.range i ++ (List.range (N - i)).map (i + ·) := by
        rw [← List.range_add]
        congr 1
        omega
      rw [this, List.flatMap_append, List.length_append]
      omega
    refine itL_inv (fun i σ S' => S' = upS S q (.lst (((List.range i).flatMap fun i => cntF L (cs ++ [lo + (i : Nat)])).map iP)) ∧ ∃ z, σ = [some (.tup ((L0 ++ p :: L).map lP)), some (.tup (cs.map .int)), some (fP p.1), some (fP p.2), some (.ref q), z]) ⟨rfl, none, rfl⟩ (fun _ _ _ _ => trivial) (fun i x σ S' k hx h hk => ?_) fun σ S' h => ?_
    · obtain ⟨rfl, z, rfl⟩ := h
      obtain ⟨hi, rfl⟩ := rngP_get hx
      simp only [tgD, List.set_cons_zero, List.set_cons_succ, List.getElem?_cons_zero, List.getElem?_cons_succ, tyP, upS_same, binD]
      refine ⟨rfl, by show 1 ≤ sizeLine; omega, by simp; omega, ?_⟩
      rw [hb]
      have earg : PV.tup (cs.map PV.int ++ [PV.int (lo + (i : Int))]) = iP (cs ++ [lo + (i : Int)]) := by
        unfold iP
        simp
      rw [earg]
      have hsub : (cntF L (cs ++ [lo + (i : Nat)])).length ≤ sizeLine := by
        refine Nat.le_trans ?_ (part (i + 1) hi)
        rw [List.range_succ, List.flatMap_append, List.length_append, List.flatMap_singleton]
        omega
      refine ⟨⟨L.length, by rw [← hu]; exact Nat.lt_succ_self _, L0 ++ [p], L, cs ++ [lo + (i : Int)], by simp [lsP], by simp [hlen], rfl, hin i hi, hsub, by simpa using h10⟩, fun r S' h => ?_, fun _ _ h => h.elim⟩
      have h := h (L0 ++ [p]) L (cs ++ [lo + (i : Int)]) (by simp [lsP]) (by simp [hlen])
      have key : meD .extend false (.ref q) [.lst ((cntF L (cs ++ [lo + (i : Int)])).map iP)] (upS S q (.lst (((List.range i).flatMap fun i => cntF L (cs ++ [lo + (i : Nat)])).map iP))) (fun _ S1 => k [some (.tup ((L0 ++ p :: L).map lP)), some (.tup (cs.map .int)), some (fP p.1), some (fP p.2), some (.ref q), some (.int (lo + (i : Int)))] S1) := by
        have hp2 := part (i + 1) hi
        rw [List.range_succ, List.flatMap_append, List.length_append, List.flatMap_singleton] at hp2
        simp only [meD, upS_same, dL, upS_upS]
        refine ⟨by simp only [List.length_map]; exact hp2, hk _ _ ⟨?_, _, rfl⟩⟩
        rw [List.range_succ, List.flatMap_append, List.flatMap_singleton, List.map_append]
      cases m with
      | true =>
        obtain ⟨w, rfl, hw, rfl⟩ := h
        simp only [frzQ, upS_same, delS_upS hw]
        exact key
      | false =>
        obtain ⟨rfl, rfl⟩ := h
        simp only [frzQ]
        exact key
    · obtain ⟨rfl, z, rfl⟩ := h
      rw [rngP_len]
      unfold irBehind_1
      walk_at "wp"
      cases m with
      | true => exact hq _ _ ⟨q, rfl, hq0, rfl⟩
      | false =>
        refine hcl _ _ _ _ (Sub.frz upS_same) ?_
        rw [delS_upS hq0]
        exact hq _ _ ⟨rfl, rfl⟩
def irCountsOf (ib : Nat) (m : Bool) : CSs := (.cons (.ret (.call ib m (.cons (.var 0) (.cons (.tup .nil) .nil)))) .nil)
def ctPre : List PV → Sto → Prop := fun vs S => ∃ L : List (Frm × Frm), vs = [lsP L] ∧ CntOK L [] ∧ (cntF L []).length ≤ sizeLine ∧ L.length ≤ 10
def ctPost (m : Bool) : List PV → Sto → PV → Sto → Prop := fun vs S r S' => ∀ L : List (Frm × Frm), vs = [lsP L] → resL m ((cntF L []).map iP) S r S'
theorem w_countsOf {G : GE} {ib T : Nat} {m : Bool} {n1 : Str} (hT : 10 < T) (hb : G.fn ib = spR (preB cbPre T) (cbPost m)) {vs : List PV} {S : Sto} {Q : Post} {E : XPost} (hp : ctPre vs S) (hq : ∀ r S', ctPost m vs S r S' → Q r S') :
    wpSs G (irCountsOf ib m) { nx := fun _ S => Q .non S, rt := Q } (fun x _ S => E x S) (startS [n1] vs) S := by
  obtain ⟨L, rfl, hok, hsz, h10⟩ := hp
  have hq : ∀ r S', resL m ((cntF L []).map iP) S r S' → Q r S' := fun r S' h => hq r S' fun L' e => by
    simp only [List.cons.injEq, and_true] at e
    rw [← lsP_inj e]
    exact h
  rw [show startS [n1] [lsP L] = [some (lsP L)] from rfl]
  unfold irCountsOf
  walk_at "wp"
  refine ⟨by show 0 ≤ sizeLine; decide, ?_⟩
  rw [hb]
  refine ⟨⟨L.length, by omega, [], L, [], rfl, rfl, rfl, hok, hsz, h10⟩, fun r S' h => ?_, fun _ _ h => h.elim⟩
  have h := h [] L [] rfl rfl
  cases m with
  | true => exact hq _ _ h
  | false =>
    obtain ⟨rfl, rfl⟩ := h
    exact hq _ _ ⟨rfl, rfl⟩
/-! a form at counts, by a loop -/
def irAt : CSs := (.cons (.asg (.nm 2) (.idx (.var 0) (.cst (.int 0)))) (.cons (.for (.nm 3) (.rng1 (.bi .len false (.cons (.var 1) .nil))) (.cons (.asg (.nm 2) (.bin .add false (.var 2) (.bin .mul false (.idx (.var 0) (.bin .add false (.cst (.int 1)) (.var 3))) (.idx (.var 1) (.var 3))))) .nil)) (.cons (.ret (.var 2)) .nil)))
theorem dotI_take : ∀ (ns cs : List Int) (i : Nat) {u c : Int}, ns[i]? = some u → cs[i]? = some c → dotI (ns.take (i + 1)) (cs.take (i + 1)) = dotI (ns.take i) (cs.take i) + u * c
  | [], _, _, _, _, h, _ => by simp at h
  | _ :: _, [], _, _, _, _, h => by simp at h
  | n :: ns, d :: cs, 0, u, c, h1, h2 => by
    simp at h1 h2
    subst h1 h2
    simp [dotI]
  | n :: ns, d :: cs, i + 1, u, c, h1, h2 => by
    have ih := dotI_take ns cs i (by simpa using h1) (by simpa using h2)
    unfold dotI at ih ⊢
    simp only [List.take_succ_cons, List.zipWith_cons_cons, List.sum_cons] at ih ⊢
    omega
theorem zipW_take : ∀ ns cs : List Int, List.zipWith (fun a b => a * b) (ns.take cs.length) cs = List.zipWith (fun a b => a * b) ns cs
  | _, [] => by simp
  | [], _ :: _ => by simp
  | n :: ns, c :: cs => by simp [zipW_take ns cs]
/-- as many numbers as counts, or more -/
def atPre : List PV → Sto → Prop := fun vs S => ∃ (f : Frm) (cs : List Int), vs = [fP f, iP cs] ∧ Small cs ∧ cs.length ≤ f.2.length ∧ cs.length ≤ 1000
theorem w_at {G : GE} {n1 n2 n3 n4 : Str} {vs : List PV} {S : Sto} {Q : Post} {E : XPost} (hp : atPre vs S) (hq : ∀ r S', cmPost vs S r S' → Q r S') : wpSs G irAt { nx := fun _ S => Q .non S, rt := Q } (fun x _ S => E x S) (startS [n1, n2, n3, n4] vs) S := by
  obtain ⟨⟨n, ns⟩, cs, rfl, hc, hlen, h1000⟩ := hp
  have hlen : cs.length ≤ ns.length := hlen
  have hz : 1000 ≤ sizeLine := by decide
  have hq := hq (.int (atF (n, ns) cs)) S fun f cs' e => by
    simp only [List.cons.injEq, and_true] at e
    rw [fP_inj e.1, iP_inj e.2]
    exact ⟨rfl, rfl⟩
  rw [show startS [n1, n2, n3, n4] [fP (n, ns), iP cs] = [some (.tup (.int n :: ns.map .int)), some (.tup (cs.map .int)), none, none] from rfl]
  unfold irAt
  walk_at "wp"
  have a0 : L2.atI (PV.int n :: ns.map PV.int) 0 = some (.int n) := atI_of (by decide) rfl rfl
  simp only [idxD, dQ, a0, biD, tgD, List.set_cons_zero, List.set_cons_succ, List.getElem?_cons_zero, List.getElem?_cons_succ]
  refine ⟨by simp; omega, by omega, ?_⟩
  have at1 : ∀ i : Nat, ∀ u, ns[i]? = some u → L2.atI (PV.int n :: ns.map PV.int) (1 + (0 + (i : Int))) = some (.int u) := fun i u hu => atI_of (j := i + 1) (by omega) (by omega) (by simp [hu])
  have at2 : ∀ i : Nat, ∀ u, cs[i]? = some u → L2.atI (cs.map PV.int) (0 + (i : Int)) = some (.int u) := fun i u hu => atI_of (j := i) (by omega) (by omega) (by simp [hu])
  refine itL_inv (fun i σ S' => S' = S ∧ ∃ z, σ = [some (.tup (PV.int n :: ns.map .int)), some (.tup (cs.map .int)), some (.int (n + dotI (ns.take i) (cs.take i))), z]) ⟨rfl, none, by simp [dotI]⟩ (fun _ _ _ _ => trivial) (fun i x σ S' k hx h hk => ?_) fun σ S' h => ?_
  · obtain ⟨rfl, z, rfl⟩ := h
    obtain ⟨hi, rfl⟩ := rngP_get hx
    have hi2 : i < cs.length := by simpa using hi
    obtain ⟨u, hu⟩ : ∃ u, ns[i]? = some u := ⟨_, List.getElem?_eq_getElem (by omega)⟩
    obtain ⟨c, hcc⟩ : ∃ c, cs[i]? = some c := ⟨_, List.getElem?_eq_getElem hi2⟩
    obtain ⟨b1, b2⟩ := hc c (List.mem_of_getElem? hcc)
    simp only [List.set_cons_zero, List.set_cons_succ, List.getElem?_cons_zero, List.getElem?_cons_succ, binD, at1 i u hu, at2 i c hcc]
    refine ⟨.inl (.inr ⟨b1, b2⟩), hk _ _ ⟨rfl, some (.int (0 + (i : Int))), ?_⟩⟩
    rw [dotI_take ns cs i hu hcc, Int.add_assoc]
  · obtain ⟨rfl, z, rfl⟩ := h
    rw [rngP_len]
    simp only [List.length_map, Int.toNat_natCast]
    rw [List.take_of_length_le (Nat.le_refl cs.length)]
    have : dotI (ns.take cs.length) cs = dotI ns cs := by
      unfold dotI
      rw [zipW_take]
    rw [this]
    exact hq
end DL
end
section
set_option maxRecDepth 100000
set_option maxHeartbeats 1000000
/-! sorted lists: one and the same. -/
namespace DL
open PySem PySem.Spec L2
open PyProof.Rows hiding St wpS

theorem cVs_ints : ∀ {as bs : List Int}, cVs (as.map PV.int) (bs.map PV.int) = .eq → as = bs
  | [], [], _ => rfl
  | [], _ :: _, h => by simp [cVs] at h
  | _ :: _, [], h => by simp [cVs] at h
  | a :: as, b :: bs, h => by
    simp only [List.map_cons, cVs] at h
    cases e : cV (.int a) (.int b) with
    | eq =>
      rw [e] at h
      have e2 : a = b := by
        simp only [cV] at e
        split at e
        · cases e
        · split at e
          · assumption
          · cases e
      rw [e2, cVs_ints h]
    | lt => rw [e] at h; cases h
    | gt => rw [e] at h; cases h
theorem iP_anti {a b : List Int} (h : cV (iP a) (iP b) = .eq) : a = b := cVs_ints (by simpa only [iP, cV] using h)
abbrev Srt (l : List PV) : Prop := l.Pairwise fun a b => ltV b a = false
theorem sorted_uniq : ∀ {l m : List PV}, l.Perm m → Srt l → Srt m → (∀ x ∈ l, ∀ y ∈ l, cV x y = .eq → x = y) → l = m
  | [], m, hp, _, _, _ => (List.Perm.eq_nil hp.symm).symm
  | x :: l, [], hp, _, _, _ => absurd hp.length_eq (by simp)
  | x :: l, y :: m, hp, hl, hm, ha => by
    have hx : x ∈ y :: m := hp.mem_iff.mp (List.mem_cons_self ..)
    have hy : y ∈ x :: l := hp.mem_iff.mpr (List.mem_cons_self ..)
    have h1 : ltV x y = false := by
      rcases List.mem_cons.mp hx with e | hx
      · rw [e]; unfold ltV; rw [cV_refl]; rfl
      · exact (List.pairwise_cons.mp hm).1 x hx
    have h2 : ltV y x = false := by
      rcases List.mem_cons.mp hy with e | hy
      · rw [e]; unfold ltV; rw [cV_refl]; rfl
      · exact (List.pairwise_cons.mp hl).1 y hy
    have e : cV x y = .eq := by
      unfold ltV at h1 h2
      rw [cV_swap x y] at h2
      cases q : cV x y <;> rw [q] at h1 h2 <;> first | rfl | exact absurd h1 (by decide) | exact absurd h2 (by decide)
    have e2 := ha x (List.mem_cons_self ..) y hy e
    subst e2
    rw [sorted_uniq hp.cons_inv (List.pairwise_cons.mp hl).2 (List.pairwise_cons.mp hm).2 fun a h b h' => ha a (List.mem_cons_of_mem _ h) b (List.mem_cons_of_mem _ h')]
/-- counts of one length, from the left -/
theorem cVs_app : ∀ (cs as bs : List Int), cVs ((cs ++ as).map PV.int) ((cs ++ bs).map PV.int) = cVs (as.map PV.int) (bs.map PV.int)
  | [], _, _ => rfl
  | c :: cs, as, bs => by
    simp only [List.cons_append, List.map_cons, cVs, cV_refl]
    exact cVs_app cs as bs
theorem cntF_mem : ∀ (L : List (Frm × Frm)) (cs c : List Int), c ∈ cntF L cs → ∃ t, c = cs ++ t ∧ t.length = L.length
  | [], cs, c, h => by
    simp only [cntF, List.mem_singleton] at h
    exact ⟨[], by rw [h, List.append_nil], rfl⟩
  | p :: L, cs, c, h => by
    simp only [cntF, List.mem_flatMap] at h
    obtain ⟨i, _, h⟩ := h
    obtain ⟨t, rfl, ht⟩ := cntF_mem L _ c h
    exact ⟨(atF p.1 cs + (i : Nat)) :: t, by simp, by simp [ht]⟩
theorem cntF_sorted : ∀ (L : List (Frm × Frm)) (cs : List Int), (cntF L cs).Pairwise fun a b => ltV (iP b) (iP a) = false
  | [], cs => List.pairwise_singleton _ _
  | p :: L, cs => by
    simp only [cntF]
    rw [List.pairwise_flatMap]
    refine ⟨fun i _ => cntF_sorted L _, ?_⟩
    refine List.Pairwise.imp ?_ List.pairwise_lt_range
    intro i j hij x hx y hy
    obtain ⟨t, rfl, _⟩ := cntF_mem L _ x hx
    obtain ⟨u, rfl, _⟩ := cntF_mem L _ y hy
    unfold ltV iP
    simp only [cV, List.append_assoc]
    rw [cVs_app]
    simp only [List.cons_append, List.nil_append, List.map_cons, cVs, cV]
    rw [if_neg (by omega), if_neg (by omega)]
    rfl
theorem cntF_srt (L : List (Frm × Frm)) (cs : List Int) : Srt ((cntF L cs).map iP) := List.pairwise_map.mpr (cntF_sorted L cs)
/-- the counts, sorted, are as they were -/
theorem cntF_uniq {L : List (Frm × Frm)} {cs : List Int} {ys : List PV} (hp : ys.Perm ((cntF L cs).map iP)) (hs : Srt ys) : ys = (cntF L cs).map iP :=
  sorted_uniq hp hs (cntF_srt L cs) fun x hx y hy e => by
    obtain ⟨a, _, rfl⟩ := List.mem_map.mp (hp.mem_iff.mp hx)
    obtain ⟨b, _, rfl⟩ := List.mem_map.mp (hp.mem_iff.mp hy)
    rw [iP_anti e]
end DL
namespace DL
open PySem PySem.Spec L2
/-- a form with small numbers -/
def BoundF (f : Frm) : Prop := (-9 ≤ f.1 ∧ f.1 ≤ 9) ∧ ∀ n ∈ f.2, -2 ≤ n ∧ n ≤ 2
theorem dotI_le {B : Int} (hB : 0 ≤ B) : ∀ (ns cs : List Int), (∀ n ∈ ns, -2 ≤ n ∧ n ≤ 2) → (∀ c ∈ cs, -B ≤ c ∧ c ≤ B) → -(2 * B * cs.length) ≤ dotI ns cs ∧ dotI ns cs ≤ 2 * B * cs.length
  | [], cs, _, _ => by
    have : 0 ≤ 2 * B * (cs.length : Int) := Int.mul_nonneg (by omega) (by omega)
    simp only [dotI, List.zipWith_nil_left, List.sum_nil]
    omega
  | _ :: _, [], _, _ => by simp [dotI]
  | n :: ns, c :: cs, h1, h2 => by
    obtain ⟨i1, i2⟩ := dotI_le hB ns cs (fun m hm => h1 m (List.mem_cons_of_mem _ hm)) fun d hd => h2 d (List.mem_cons_of_mem _ hd)
    obtain ⟨n1, n2⟩ := h1 n (List.mem_cons_self ..)
    obtain ⟨c1, c2⟩ := h2 c (List.mem_cons_self ..)
    have hp : -(2 * B) ≤ n * c ∧ n * c ≤ 2 * B := by
      have : n = -2 ∨ n = -1 ∨ n = 0 ∨ n = 1 ∨ n = 2 := by omega
      rcases this with rfl | rfl | rfl | rfl | rfl <;> omega
    have e : 2 * B * ((c :: cs).length : Int) = 2 * B * (cs.length : Int) + 2 * B := by
      simp only [List.length_cons, Int.natCast_add, Int.mul_add]
      omega
    unfold dotI at i1 i2 ⊢
    rw [e]
    simp only [List.zipWith_cons_cons, List.sum_cons]
    omega
theorem atF_le {f : Frm} {cs : List Int} {B : Int} (hf : BoundF f) (hB : 9 ≤ B) (hc : ∀ c ∈ cs, -B ≤ c ∧ c ≤ B) (hl : cs.length ≤ 3) : -(7 * B) ≤ atF f cs ∧ atF f cs ≤ 7 * B := by
  obtain ⟨h1, h2⟩ := dotI_le (by omega) f.2 cs hf.2 hc
  have h3 : 2 * B * (cs.length : Int) ≤ 6 * B := by
    have : (cs.length : Int) = 0 ∨ (cs.length : Int) = 1 ∨ (cs.length : Int) = 2 ∨ (cs.length : Int) = 3 := by omega
    rcases this with e | e | e | e <;> rw [e] <;> omega
  obtain ⟨⟨a1, a2⟩, _⟩ := hf
  unfold atF
  omega
/-- small loops may be gone through -/
theorem cntOK_of : ∀ (L : List (Frm × Frm)) (cs : List Int) (B : Int), (∀ p ∈ L, BoundF p.1 ∧ BoundF p.2) → (∀ c ∈ cs, -B ≤ c ∧ c ≤ B) → cs.length + L.length ≤ 3 → 9 ≤ B → B * 7 ^ L.length ≤ 9 * 343 → CntOK L cs
  | [], cs, B, _, hc, _, hB, hb => fun c h => by
    have := hc c h
    simp at hb
    omega
  | p :: L, cs, B, hL, hc, hl, hB, hb => by
    simp only [List.length_cons] at hl
    obtain ⟨b1, b2⟩ := hL p (List.mem_cons_self ..)
    obtain ⟨x1, x2⟩ := atF_le b1 hB hc (by omega)
    obtain ⟨y1, y2⟩ := atF_le b2 hB hc (by omega)
    have e : B * 7 ^ (p :: L).length = 7 * B * 7 ^ L.length := by
      rw [List.length_cons, Int.pow_succ, ← Int.mul_assoc, Int.mul_comm (B * 7 ^ L.length) 7, Int.mul_assoc]
    rw [e] at hb
    have hp : (1 : Int) ≤ 7 ^ L.length := by
      have : (0 : Int) < 7 ^ L.length := Int.pow_pos (by decide)
      omega
    have h7 : 7 * B ≤ 9 * 343 := Int.le_trans (by have := Int.mul_le_mul_of_nonneg_left hp (by omega : (0 : Int) ≤ 7 * B); omega) hb
    have hz : 100000 ≤ sizeLine := by decide
    refine ⟨fun c h => by have := hc c h; omega, ⟨by omega, by omega⟩, ⟨by omega, by omega⟩, by omega, fun i hi => ?_⟩
    refine cntOK_of L _ (7 * B) (fun q hq => hL q (List.mem_cons_of_mem _ hq)) (fun c h => ?_) (by rw [List.length_append, List.length_singleton]; omega) (by omega) hb
    rcases List.mem_append.mp h with h | h
    · have := hc c h; omega
    · rw [List.mem_singleton.mp h]
      omega
end DL
end
section
set_option maxRecDepth 100000
set_option maxHeartbeats 1000000
/-! Stores that hold more; while loops. -/
namespace DL
open PySem PySem.Spec L2
open PyProof.Rows hiding St wpS
theorem Sub.del {S : Sto} {p : Addr} {v : PV} : Sub S v (delS S p) v := fun K w H u r hh => ⟨RepV.mono Ext.del _ _ r, hh.del, Ext.del⟩
/-- S' tells what S tells, and more -/
def Ov (S S' : Sto) : Prop := ∀ (Q : Post) v, Cl Q → Q v S → Q v S'
theorem Ov.refl {S : Sto} : Ov S S := fun _ _ _ h => h
theorem Ov.up {S S' : Sto} {p : Addr} {o : MO} (h : Ov S S') (hp : S' p = none) : Ov S (upS S' p o) := fun Q v c q => c _ _ _ _ (Sub.del (p := p)) (by
  rw [delS_upS hp]
  exact h Q v c q)
theorem Ov.trans {S S' S'' : Sto} (h : Ov S S') (g : Ov S' S'') : Ov S S'' := fun Q v c q => g Q v c (h Q v c q)
/-- a while loop, by a measure -/
theorem while_meas {c : Sl → Sto → (Bool → Sto → Prop) → Prop} {b : (Sl → Sto → Prop) → Sl → Sto → Prop} {dn : Sl → Sto → Prop} (I : Nat → Sl → Sto → Prop)
    (step : ∀ i σ S (k : Sl → Sto → Prop), I i σ S → (∀ j σ' S', j < i → I j σ' S' → k σ' S') → c σ S fun t S1 => match t with
      | true => b k σ S1
      | false => dn σ S1) : ∀ n i σ S, i < n → I i σ S → whileN c b dn n σ S
  | 0, _, _, _, h, _ => absurd h (Nat.not_lt_zero _)
  | n + 1, i, σ, S, h, hI => step i σ S (whileN c b dn n) hI fun j σ' S' hj hI' => while_meas I step n j σ' S' (by omega) hI'
theorem while_of {c : Sl → Sto → (Bool → Sto → Prop) → Prop} {b : (Sl → Sto → Prop) → Sl → Sto → Prop} {dn : Sl → Sto → Prop} (I : Nat → Sl → Sto → Prop) (i : Nat) {σ : Sl} {S : Sto} (h : I i σ S)
    (step : ∀ i σ S (k : Sl → Sto → Prop), I i σ S → (∀ j σ' S', j < i → I j σ' S' → k σ' S') → c σ S fun t S1 => match t with
      | true => b k σ S1
      | false => dn σ S1) : ∃ n, whileN c b dn n σ S := ⟨i + 1, while_meas I step _ _ _ _ (Nat.lt_succ_self i) h⟩
/-! counts, gone through in breadth -/
def ext1 (p : Frm × Frm) (cs : List Int) : List (List Int) := (List.range (atF p.2 cs - atF p.1 cs).toNat).map fun i => cs ++ [atF p.1 cs + (i : Nat)]
def goT : List (Frm × Frm) → List (List Int) → List (List Int)
  | [], now => now
  | p :: L, now => goT L ((now.flatMap (ext1 p)).take 1000)
theorem cntF_ext (p : Frm × Frm) (L : List (Frm × Frm)) (cs : List Int) : cntF (p :: L) cs = (ext1 p cs).flatMap (cntF L) := by
  simp only [cntF, ext1, List.flatMap_map]
theorem take_le {xs : List (List Int)} (h : (xs.take 1000).length ≤ 300) : xs.take 1000 = xs := List.take_of_length_le (by rw [List.length_take] at h; omega)
theorem ext1_len {p : Frm × Frm} {cs : List Int} : (ext1 p cs).length = (atF p.2 cs - atF p.1 cs).toNat := by simp [ext1]
theorem flat_len_le {f : List Int → List (List Int)} {N : Nat} : ∀ xs : List (List Int), (∀ x ∈ xs, (f x).length ≤ N) → (xs.flatMap f).length ≤ xs.length * N
  | [], _ => by simp
  | x :: xs, h => by
    have h1 := h x (List.mem_cons_self ..)
    have h2 := flat_len_le xs fun y hy => h y (List.mem_cons_of_mem _ hy)
    rw [List.flatMap_cons, List.length_append, List.length_cons, Nat.add_mul]
    omega
/-- bounds that stand at their place -/
def LpsOK (i : Nat) (L : List (Frm × Frm)) : Prop := ∀ (j : Nat) p, L[j]? = some p → (BoundF p.1 ∧ BoundF p.2) ∧ (p.1.2.length = i + j ∧ p.2.2.length = i + j)
theorem atF_nil {f : Frm} : atF f [] = f.1 := by simp [atF, dotI]
theorem lev1 {p : Frm × Frm} (b1 : BoundF p.1) (b2 : BoundF p.2) : (ext1 p []).length ≤ 18 ∧ ∀ cs ∈ ext1 p [], ∃ c : Int, cs = [c] ∧ -9 ≤ c ∧ c ≤ 8 := by
  have h1 := b1.1
  have h2 := b2.1
  refine ⟨by rw [ext1_len, atF_nil, atF_nil]; omega, fun cs h => ?_⟩
  simp only [ext1, List.mem_map, List.mem_range, atF_nil] at h
  obtain ⟨i, hi, rfl⟩ := h
  exact ⟨_, rfl, by omega, by omega⟩
theorem atF_one {f : Frm} {c : Int} (b : BoundF f) (h1 : -9 ≤ c) (h2 : c ≤ 9) : -27 ≤ atF f [c] ∧ atF f [c] ≤ 27 := by
  obtain ⟨a1, a2⟩ := b.1
  obtain ⟨n, ns⟩ := f
  cases ns with
  | nil => simp [atF, dotI]; simp at a1 a2; omega
  | cons m ms =>
    have hm := b.2 m (List.mem_cons_self ..)
    have hp : -18 ≤ m * c ∧ m * c ≤ 18 := by
      have : m = -2 ∨ m = -1 ∨ m = 0 ∨ m = 1 ∨ m = 2 := by omega
      rcases this with rfl | rfl | rfl | rfl | rfl <;> omega
    simp only [atF, dotI, List.zipWith_cons_cons, List.zipWith_nil_right, List.sum_cons, List.sum_nil]
    simp only at a1 a2
    omega
theorem lev2 {p q : Frm × Frm} (b1 : BoundF p.1) (b2 : BoundF p.2) (b3 : BoundF q.1) (b4 : BoundF q.2) : ((ext1 p []).flatMap (ext1 q)).length ≤ 972 := by
  obtain ⟨h1, h2⟩ := lev1 b1 b2
  have := flat_len_le (f := ext1 q) (N := 54) (ext1 p []) fun x hx => by
    obtain ⟨c, rfl, c1, c2⟩ := h2 x hx
    have u := atF_one b3 c1 (by omega)
    have v := atF_one b4 c1 (by omega)
    rw [ext1_len]
    omega
  have h3 : (ext1 p []).length * 54 ≤ 18 * 54 := Nat.mul_le_mul_right 54 h1
  omega
theorem flatMap_sing (xs : List (List Int)) : xs.flatMap (cntF []) = xs := by
  induction xs with
  | nil => rfl
  | cons x xs ih => rw [List.flatMap_cons, ih]; rfl
/-- the counts in breadth are the counts -/
theorem goT_is {L : List (Frm × Frm)} (h : LpsOK 0 L) (hl : L.length ≤ 3) (h300 : (goT L [[]]).length ≤ 300) : goT L [[]] = cntF L [] := by
  match L, hl with
  | [], _ => rfl
  | [p], _ =>
    obtain ⟨⟨b1, b2⟩, _⟩ := h 0 p rfl
    simp only [goT, List.flatMap_singleton] at h300 ⊢
    rw [take_le h300, cntF_ext, flatMap_sing]
  | [p, q], _ =>
    obtain ⟨⟨b1, b2⟩, _⟩ := h 0 p rfl
    have l1 := (lev1 b1 b2).1
    simp only [goT, List.flatMap_singleton] at h300 ⊢
    rw [List.take_of_length_le (l := ext1 p []) (by omega)] at h300 ⊢
    rw [take_le h300, cntF_ext]
    congr 1
    funext x
    rw [cntF_ext, flatMap_sing]
  | [p, q, r], _ =>
    obtain ⟨⟨b1, b2⟩, _⟩ := h 0 p rfl
    obtain ⟨⟨b3, b4⟩, _⟩ := h 1 q rfl
    have l1 := (lev1 b1 b2).1
    have l2 := lev2 b1 b2 b3 b4
    simp only [goT, List.flatMap_singleton] at h300 ⊢
    rw [List.take_of_length_le (l := ext1 p []) (by omega)] at h300 ⊢
    rw [List.take_of_length_le (l := (ext1 p []).flatMap (ext1 q)) (by omega)] at h300 ⊢
    rw [take_le h300, cntF_ext, List.flatMap_assoc]
    congr 1
    funext x
    rw [cntF_ext]
    congr 1
    funext y
    rw [cntF_ext, flatMap_sing]
  | _ :: _ :: _ :: _ :: _, hl => simp at hl
theorem goT_one {p : Frm × Frm} (b1 : BoundF p.1) (b2 : BoundF p.2) : (goT [p] [[]]).length ≤ 300 := by
  have l1 := (lev1 b1 b2).1
  simp only [goT, List.flatMap_singleton, List.length_take]
  omega
end DL
end
section
set_option maxRecDepth 100000
set_option maxHeartbeats 2000000
/-! Promises that name what they speak of. -/
namespace DL
open PySem PySem.Spec L2
open PyProof.Rows hiding St

/-- a promise about some x: what is asked, what is handed back, what is raised -/
def spA {α : Type} (pre : α → List PV → Sto → Prop) (post : α → Sto → PV → Sto → Prop) (xp : α → Sto → Exn → Sto → Prop := fun _ _ _ _ => False) : SpD := fun vs S Q E => ∃ x, pre x vs S ∧ (∀ r S', post x S r S' → Q r S') ∧ ∀ e S', xp x S e S' → E e S'
theorem fn_runA0 {α : Type} {P : Program} {w : World} {K : PySem.W.Frag} {mg : Mg} {base : Heap} {G : GE} {k n : Nat} {Γ : Gam} {x qual : Str} {params : Arguments} {body : List Stmt} {scope : Scope} {f : Addr} {fd : FuncData} {ps : List Str} {c : CSs} {m : Nat}
    {pre : α → List PV → Sto → Prop} {post : α → Sto → PV → Sto → Prop} {xp : α → Sto → Exn → Sto → Prop}
    (F : FunD K x qual params body scope [] [] f fd) (S0 : FnScope Γ.N ps scope) (hn : scope.names = Γ.names) (hcomp : compSs n Γ body = some c) (hblk : Γ.blk = none) (M : MH P w K mg base G k Γ) (hm : ps.length = m) (hmg : mg x = some (.ref f))
    (hwp : ∀ z vs S Q E, Cl Q → ClX E → vs.length = m → pre z vs S → (∀ r S', post z S r S' → Q r S') → (∀ e S', xp z S e S' → E e S') → wpSs G c { nx := fun _ S => Q .non S, rt := Q } (fun x _ S => E x S) (startS Γ.N vs) S) :
    FnOk P w K mg base (L2.CX P w) (k + 1) f fd ps (spUp K w mg m (spA pre post xp)) :=
  ⟨fun vs H Q E h => by rw [hm]; exact h.1, fun A outer s H args us vs Q E hr he hbi hv h => by
    obtain ⟨hl, vs', S, Q', E', rv, hh, ⟨z, h1, h2, h3⟩, hq, hx⟩ := h
    exact (fn_run0 (pre := pre z) (post := fun _ => post z) (xp := fun _ => xp z) F S0 hn hcomp hblk M hm hmg (fun vs S Q E a b c d e g => hwp z vs S Q E a b c d e g)).run A outer s H args us vs Q E hr he hbi hv ⟨hl, vs', S, Q', E', rv, hh, ⟨h1, h2, h3⟩, hq, hx⟩⟩
theorem fn_runA {α : Type} {P : Program} {w : World} {K : PySem.W.Frag} {mg : Mg} {base : Heap} {G : GE} {k n : Nat} {Γ : Gam} {x qual : Str} {params : Arguments} {body : List Stmt} {scope : Scope} {f : Addr} {fd : FuncData} {ps : List Str} {c : CSs} {i m : Nat}
    {pre : α → List PV → Sto → Prop} {post : α → Sto → PV → Sto → Prop} {xp : α → Sto → Exn → Sto → Prop}
    (F : FunD K x qual params body scope [] [] f fd) (S0 : FnScope Γ.N ps scope) (hn : scope.names = Γ.names) (hcomp : compSs n Γ body = some c) (hblk : Γ.blk = none) (M : MH P w K mg base G k Γ) (hm : ps.length = m) (hmg : mg x = some (.ref f))
    (hb : Binds K fd ps []) (hG : G.fn i = spA pre post xp)
    (hwp : ∀ z vs S Q E, Cl Q → ClX E → vs.length = m → pre z vs S → (∀ r S', post z S r S' → Q r S') → (∀ e S', xp z S e S' → E e S') → wpSs G c { nx := fun _ S => Q .non S, rt := Q } (fun x _ S => E x S) (startS Γ.N vs) S) :
    FnOk P w K mg base (L2.CX P w) (k + 1) f fd ps (spUp K w mg m (G.fn i)) := by
  rw [hG]
  exact fn_runA0 F S0 hn hcomp hblk M hm hmg hwp
/-- the promise below t -/
def spT {α : Type} (μ : α → Nat) (pre : α → List PV → Sto → Prop) (post : α → Sto → PV → Sto → Prop) (t : Nat) : SpD := spA (fun z vs S => μ z < t ∧ pre z vs S) post
/-- A def that calls itself, by a measure -/
theorem fn_recA {α : Type} {P : Program} {w : World} {K : PySem.W.Frag} {mg : Mg} {base : Heap} {G : GE} {k n : Nat} {Γ : Gam} {x qual : Str} {params : Arguments} {body : List Stmt} {scope : Scope} {f : Addr} {fd : FuncData} {ps : List Str} {c : CSs} {i m : Nat} {μ : α → Nat}
    {pre : α → List PV → Sto → Prop} {post : α → Sto → PV → Sto → Prop}
    (F : FunD K x qual params body scope [] [] f fd) (S0 : FnScope Γ.N ps scope) (hn : scope.names = Γ.names) (hcomp : compSs n Γ body = some c) (hblk : Γ.blk = none)
    (hf : ∀ y i' m', Γ.fns.lookup y = some (i', m') → (y = x ∧ i' = i ∧ m' = m) ∨ (i' ≠ i ∧ FH P w K mg base G k y i' m'))
    (hfree : ∀ x, Γ.free.contains x = true → mg x = none) (hcst : ∀ x v, Γ.cst.lookup x = some v → ∃ u vv, mg x = some u ∧ RelV vv u ∧ ∀ H S, RepV K w H S v vv)
    (hexc : ∀ x, Γ.exc.contains x = true → ∃ C, mg x = some (.ref C) ∧ PySem.W.excIn K C He.veBase "ValueError.__new__" = true ∧ PySem.W.keepIn K (.ref C) = true ∧ PySem.W.subIn K (.ref C) (.type "BaseException") = some true ∧ PySem.W.typeIn K (.ref C) = some (.type "type"))
    (hm : ps.length = m) (hmg : mg x = some (.ref f)) (hb : Binds K fd ps [])
    (hwp : ∀ G' : GE, (∀ j, j ≠ i → G'.fn j = G.fn j) → ∀ z, G'.fn i = spT μ pre post (μ z) → ∀ vs S Q E, Cl Q → ClX E → vs.length = m → pre z vs S → (∀ r S', post z S r S' → Q r S') → wpSs G' c { nx := fun _ S => Q .non S, rt := Q } (fun x _ S => E x S) (startS Γ.N vs) S) :
    ∀ t, FnOk P w K mg base (L2.CX P w) (k + t) f fd ps (spUp K w mg m (spT μ pre post t))
  | 0 => ⟨fun vs H Q E h => by rw [hm]; exact h.1, fun A outer s H args us vs Q E hr he hbi hv h => by
      obtain ⟨_, _, _, _, _, _, _, ⟨z, ⟨hz, _⟩, _⟩, _, _⟩ := h
      exact absurd hz (Nat.not_lt_zero _)⟩
  | t + 1 => by
    have ih := fn_recA F S0 hn hcomp hblk hf hfree hcst hexc hm hmg hb hwp t
    have M : MH P w K mg base (G.put i (spT μ pre post t)) (k + t) Γ := by
      refine ⟨fun y i' m' e => ?_, hfree, hcst, hexc⟩
      rcases hf y i' m' e with ⟨rfl, rfl, rfl⟩ | ⟨hne, h⟩
      · refine ⟨f, fd, ps, hmg, F.kp, hb, hm, ?_⟩
        rw [GE.put_same]
        exact ih
      · obtain ⟨a, fd', ps', h1, h2, h3, h4, h5⟩ := h.mono (Nat.le_add_right k t)
        refine ⟨a, fd', ps', h1, h2, h3, h4, ?_⟩
        rw [GE.put_ne hne]
        exact h5
    have new := fn_runA0 (pre := fun z vs S => μ z = t ∧ pre z vs S) (post := post) (xp := fun _ _ _ _ => False) F S0 hn hcomp hblk M hm hmg fun z vs S Q E h1 h2 h3 h4 h5 _ => by
      obtain ⟨rfl, h4⟩ := h4
      exact hwp (G.put i (spT μ pre post (μ z))) (fun j hj => GE.put_ne hj) z GE.put_same vs S Q E h1 h2 h3 h4 h5
    have old := ih.mono (Nat.le_add_right (k + t) 1)
    refine ⟨fun vs H Q E h => by rw [hm]; exact h.1, fun A outer s H args us vs Q E hr he hbi hv h => ?_⟩
    obtain ⟨hl, vs', S, Q', E', rv, hh, ⟨z, ⟨hz, hp⟩, h2, h3⟩, hq, hx⟩ := h
    by_cases e : μ z < t
    · exact old.run A outer s H args us vs Q E hr he hbi hv ⟨hl, vs', S, Q', E', rv, hh, ⟨z, ⟨e, hp⟩, h2, h3⟩, hq, hx⟩
    · exact new.run A outer s H args us vs Q E hr he hbi hv ⟨hl, vs', S, Q', E', rv, hh, ⟨z, ⟨by omega, hp⟩, h2, h3⟩, hq, hx⟩
theorem spT_any {α : Type} {μ : α → Nat} {pre : α → List PV → Sto → Prop} {post : α → Sto → PV → Sto → Prop} {t : Nat} {z : α} {vs : List PV} {S : Sto} {Q : Post} {E : XPost} (hz : μ z < t) (hp : pre z vs S) (h : ∀ r S', post z S r S' → Q r S') : spT μ pre post t vs S Q E := ⟨z, ⟨hz, hp⟩, h, fun _ _ h => h.elim⟩
/-- the law's promise, at its script -/
theorem law_upA {α : Type} {K : PySem.W.Frag} {w : World} {mg : Mg} {H : Hp} {a : Addr} {ns : List Int} {pre : α → List PV → Sto → Prop} {post : α → Sto → PV → Sto → Prop} (hS : SqL K H a (ns.map V.int)) (z : α) (hp : pre z [.lst (ns.map .int)] fun _ => none) (hq : ∀ r S', post z (fun _ => none) r S' → r = .bl true) :
    spUp K w mg 1 (spA pre post) [.ref a] H (fun v _ => v = .bl true) fun _ _ _ => False := by
  obtain ⟨h1, vs', S, Q', E', h2, h3, h4, h5, h6⟩ := law_up (w := w) (mg := mg) (pre := pre z) (post := fun _ => post z) hS hp hq
  exact ⟨h1, vs', S, Q', E', h2, h3, ⟨z, h4⟩, h5, h6⟩
end DL
namespace DL
open PySem PySem.Spec L2
open PyProof.Rows hiding St
/-- a promise as one thing -/
structure Prm where
  α : Type
  pre : α → List PV → Sto → Prop
  post : α → Sto → PV → Sto → Prop
  xp : α → Sto → Exn → Sto → Prop := fun _ _ _ _ => False
def Prm.sp (p : Prm) : SpD := spA p.pre p.post p.xp
/-- the promise below t, by a measure -/
def Prm.spT (p : Prm) (μ : p.α → Nat) (t : Nat) : SpD := DL.spT μ p.pre p.post t
/-- a body keeps a promise -/
def Keeps (G : GE) (c : CSs) (N : List Str) (p : Prm) : Prop := ∀ z vs S Q E, Cl Q → ClX E → p.pre z vs S → (∀ r S', p.post z S r S' → Q r S') → (∀ e S', p.xp z S e S' → E e S') → wpSs G c { nx := fun _ S => Q .non S, rt := Q } (fun x _ S => E x S) (startS N vs) S
/-- .. one that calls itself -/
def KeepsR (G : GE) (i : Nat) (c : CSs) (N : List Str) (p : Prm) (μ : p.α → Nat) : Prop := ∀ G' : GE, (∀ j, j ≠ i → G'.fn j = G.fn j) → ∀ z, G'.fn i = p.spT μ (μ z) → ∀ vs S Q E, Cl Q → ClX E → p.pre z vs S → (∀ r S', p.post z S r S' → Q r S') → wpSs G' c { nx := fun _ S => Q .non S, rt := Q } (fun x _ S => E x S) (startS N vs) S
/-- a call, by a promise without exceptions -/
theorem Prm.call {p : Prm} {G : GE} {i : Nat} (h : G.fn i = p.sp) (hx : ∀ z S e S', ¬ p.xp z S e S') (z : p.α) {vs : List PV} {S : Sto} {Q : Post} {E : XPost} (hp : p.pre z vs S) (hq : ∀ r S', p.post z S r S' → Q r S') : G.fn i vs S Q E := by
  rw [h]
  exact ⟨z, hp, hq, fun e S' h => (hx _ _ _ _ h).elim⟩
theorem Prm.callX {p : Prm} {G : GE} {i : Nat} (h : G.fn i = p.sp) (z : p.α) {vs : List PV} {S : Sto} {Q : Post} {E : XPost} (hp : p.pre z vs S) (hq : ∀ r S', p.post z S r S' → Q r S') (hx : ∀ e S', p.xp z S e S' → E e S') : G.fn i vs S Q E := by
  rw [h]
  exact ⟨z, hp, hq, hx⟩
theorem Prm.callT {p : Prm} {G : GE} {i T : Nat} {μ : p.α → Nat} (h : G.fn i = p.spT μ T) (z : p.α) {vs : List PV} {S : Sto} {Q : Post} {E : XPost} (hz : μ z < T) (hp : p.pre z vs S) (hq : ∀ r S', p.post z S r S' → Q r S') : G.fn i vs S Q E := by
  rw [h]
  exact spT_any hz hp hq
end DL
end
section
set_option maxRecDepth 100000
/-! The compiled forms of the defs that several laws run. Printed by mkshared.py. -/
namespace DL
open PySem
def irP_is_whole : CSs := (.cons (.ret (.and (.isi (.var 0) ["int"]) (.not (.isi (.var 0) ["bool"])))) .nil)
def nP_is_whole : List Str := ["thing"]
def irP_is_form_1 : CSs := (.cons (.ret (.bi .all false (.cons (.comp false (.call 0 false (.cons (.var 2) .nil)) (.nm 2) (.seq (.var 0)) .none [2]) .nil))) .nil)
def irP_is_form : CSs := (.cons (.ite (.or (.not (.tst (.isi (.var 0) ["tuple"]))) (.tst (.cmp .ne (.bi .len false (.cons (.var 0) .nil)) (.bin .add false (.var 1) (.cst (.int 1)))))) (.cons (.ret (.cst (.bl false))) .nil) .nil) irP_is_form_1)
def nP_is_form : List Str := ["thing", "d", "number"]
def irP_comes_to : CSs := (.cons (.ret (.bin .add false (.idx (.var 0) (.cst (.int 0))) (.bi .sum false (.cons (.comp false (.bin .mul false (.var 2) (.var 3)) (.tp [(.nm 2), (.nm 3)]) (.zip (.slc false (.var 0) (.some (.cst (.int 1))) .none) (.var 1)) .none [2, 3]) .nil)))) .nil)
def nP_comes_to : List Str := ["form", "counts", "number", "count"]
def irP_is_bound_1 : CSs := (.cons (.ret (.bi .all false (.cons (.comp false (.cmp .le (.bi .abs false (.cons (.var 2) .nil)) (.cst (.int 2))) (.nm 2) (.seq (.slc false (.var 0) (.some (.cst (.int 1))) .none)) .none [2]) .nil))) .nil)
def irP_is_bound : CSs := (.cons (.ite (.or (.not (.tst (.call 1 false (.cons (.var 0) (.cons (.var 1) .nil))))) (.tst (.cmp .gt (.bi .abs false (.cons (.idx (.var 0) (.cst (.int 0))) .nil)) (.cst (.int 9))))) (.cons (.ret (.cst (.bl false))) .nil) .nil) irP_is_bound_1)
def nP_is_bound : List Str := ["thing", "d", "number"]
def irP_is_loops_1 : CSs := (.cons (.ret (.cst (.bl true))) .nil)
def irP_is_loops_2 : CSs := (.cons (.for (.tp [(.nm 1), (.nm 2)]) (.enum (.var 0)) (.cons (.ite (.or (.not (.tst (.isi (.var 2) ["tuple"]))) (.or (.tst (.cmp .ne (.bi .len false (.cons (.var 2) .nil)) (.cst (.int 2)))) (.or (.not (.tst (.call 3 false (.cons (.idx (.var 2) (.cst (.int 0))) (.cons (.var 1) .nil))))) (.not (.tst (.call 3 false (.cons (.idx (.var 2) (.cst (.int 1))) (.cons (.var 1) .nil)))))))) (.cons (.ret (.cst (.bl false))) .nil) .nil) .nil)) irP_is_loops_1)
def irP_is_loops : CSs := (.cons (.ite (.or (.not (.tst (.isi (.var 0) ["tuple"]))) (.not (.tst (.chn (.cst (.int 1)) (.more .le (.bi .len false (.cons (.var 0) .nil)) (.one .le (.cst (.int 3)))))))) (.cons (.ret (.cst (.bl false))) .nil) .nil) irP_is_loops_2)
def nP_is_loops : List Str := ["thing", "k", "loop"]
def irP_counts_behind_1 : CSs := (.cons (.ret (.var 4)) .nil)
def irP_counts_behind_2 : CSs := (.cons (.for (.nm 5) (.rng2 (.call 2 false (.cons (.var 2) (.cons (.var 1) .nil))) (.call 2 false (.cons (.var 3) (.cons (.var 1) .nil)))) (.cons (.ex (.me .extend false (.var 4) (.cons (.call 5 false (.cons (.var 0) (.cons (.bin .add false (.var 1) (.tup (.cons (.var 5) .nil))) .nil))) .nil))) .nil)) irP_counts_behind_1)
def irP_counts_behind_3 : CSs := (.cons (.asg (.nm 4) (.lst true .nil)) irP_counts_behind_2)
def irP_counts_behind_4 : CSs := (.cons (.asg (.tp [(.nm 2), (.nm 3)]) (.idx (.var 0) (.bi .len false (.cons (.var 1) .nil)))) irP_counts_behind_3)
def irP_counts_behind : CSs := (.cons (.ite (.tst (.cmp .eq (.bi .len false (.cons (.var 1) .nil)) (.bi .len false (.cons (.var 0) .nil)))) (.cons (.ret (.lst true (.cons (.var 1) .nil))) .nil) .nil) irP_counts_behind_4)
def nP_counts_behind : List Str := ["loops", "counts", "low", "high", "found", "count"]
def irP_counts_of : CSs := (.cons (.ret (.call 5 true (.cons (.var 0) (.cons (.tup .nil) .nil)))) .nil)
def nP_counts_of : List Str := ["loops"]
def irP_are_more_1 : CSs := (.cons (.ite (.tst (.cmp .gt (.var 5) (.var 2))) (.cons (.ret (.bin .add false (.var 2) (.cst (.int 1)))) .nil) .nil) .nil)
def irP_are_more_2 : CSs := (.cons (.ret (.var 5)) .nil)
def irP_are_more_3 : CSs := (.cons (.for (.nm 6) (.rng2 (.call 2 false (.cons (.var 3) (.cons (.var 1) .nil))) (.call 2 false (.cons (.var 4) (.cons (.var 1) .nil)))) (.cons (.asg (.nm 5) (.bin .add false (.var 5) (.call 7 false (.cons (.var 0) (.cons (.bin .add false (.var 1) (.tup (.cons (.var 6) .nil))) (.cons (.bin .sub false (.var 2) (.var 5)) .nil)))))) irP_are_more_1)) irP_are_more_2)
def irP_are_more_4 : CSs := (.cons (.asg (.nm 5) (.cst (.int 0))) irP_are_more_3)
def irP_are_more_5 : CSs := (.cons (.asg (.tp [(.nm 3), (.nm 4)]) (.idx (.var 0) (.bi .len false (.cons (.var 1) .nil)))) irP_are_more_4)
def irP_are_more : CSs := (.cons (.ite (.tst (.cmp .eq (.bi .len false (.cons (.var 1) .nil)) (.bi .len false (.cons (.var 0) .nil)))) (.cons (.ret (.cst (.int 1))) .nil) .nil) irP_are_more_5)
def nP_are_more : List Str := ["loops", "counts", "most", "low", "high", "total", "count"]
def irP_how_many : CSs := (.cons (.ret (.call 7 true (.cons (.var 0) (.cons (.tup .nil) (.cons (.var 1) .nil))))) .nil)
def nP_how_many : List Str := ["loops", "most"]
def irP_is_tuple_of : CSs := (.cons (.ret (.and (.isi (.var 0) ["tuple"]) (.chn (.var 1) (.more .le (.bi .len false (.cons (.var 0) .nil)) (.one .le (.var 2)))))) .nil)
def nP_is_tuple_of : List Str := ["thing", "low", "high"]
def irP_are_widths_1 : CSs := (.cons (.ret (.bi .all false (.cons (.comp false (.and (.call 0 false (.cons (.var 1) .nil)) (.chn (.cst (.int 1)) (.more .le (.var 1) (.one .le (.cst (.int 2)))))) (.nm 1) (.seq (.var 0)) .none [1]) .nil))) .nil)
def irP_are_widths : CSs := (.cons (.ite (.not (.tst (.call 9 false (.cons (.var 0) (.cons (.cst (.int 1)) (.cons (.cst (.int 3)) .nil)))))) (.cons (.ret (.cst (.bl false))) .nil) .nil) irP_are_widths_1)
def nP_are_widths : List Str := ["thing", "width"]
def irP_is_cell_1 : CSs := (.cons (.ret (.cst (.bl true))) .nil)
def irP_is_cell_2 : CSs := (.cons (.for (.nm 4) (.seq (.var 3)) (.cons (.ite (.or (.not (.tst (.call 1 false (.cons (.var 4) (.cons (.var 1) .nil))))) (.tst (.cmp .gt (.bi .max1 false (.cons (.comp false (.bi .abs false (.cons (.var 5) .nil)) (.nm 5) (.seq (.var 4)) .none [5]) .nil)) (.cst (.int 99))))) (.cons (.ret (.cst (.bl false))) .nil) .nil) .nil)) irP_is_cell_1)
def irP_is_cell_3 : CSs := (.cons (.ite (.tst (.cmp .ne (.bi .len false (.cons (.var 3) .nil)) (.idx (.var 0) (.var 2)))) (.cons (.ret (.cst (.bl false))) .nil) .nil) irP_is_cell_2)
def irP_is_cell : CSs := (.cons (.ite (.or (.not (.tst (.call 0 false (.cons (.var 2) .nil)))) (.or (.not (.tst (.chn (.cst (.int 0)) (.more .le (.var 2) (.one .lt (.bi .len false (.cons (.var 0) .nil))))))) (.not (.tst (.isi (.var 3) ["tuple"]))))) (.cons (.ret (.cst (.bl false))) .nil) .nil) irP_is_cell_3)
def nP_is_cell : List Str := ["widths", "d", "table", "place", "form", "number"]
def irP_is_great_form : CSs := (.cons (.ret (.and (.call 1 false (.cons (.var 0) (.cons (.var 1) .nil))) (.cmp .lt (.bi .max1 false (.cons (.comp false (.bi .abs false (.cons (.var 2) .nil)) (.nm 2) (.seq (.var 0)) .none [2]) .nil)) (.cst (.int 1000000000000000000000000000000))))) .nil)
def nP_is_great_form : List Str := ["thing", "d", "number"]
def irP_is_read_1 : CSs := (.cons (.ret (.call 11 true (.cons (.var 0) (.cons (.var 1) (.cons (.idx (.var 2) (.cst (.int 1))) (.cons (.idx (.var 2) (.cst (.int 2))) .nil)))))) .nil)
def irP_is_read : CSs := (.cons (.ite (.or (.not (.tst (.call 9 false (.cons (.var 2) (.cons (.cst (.int 3)) (.cons (.cst (.int 3)) .nil)))))) (.or (.not (.tst (.call 0 false (.cons (.idx (.var 2) (.cst (.int 0))) .nil)))) (.tst (.cmp .ge (.bi .abs false (.cons (.idx (.var 2) (.cst (.int 0))) .nil)) (.cst (.int 1000000000000000000000000000000)))))) (.cons (.ret (.cst (.bl false))) .nil) .nil) irP_is_read_1)
def nP_is_read : List Str := ["widths", "d", "thing"]
def irP_is_deed_1 : CSs := (.cons (.ret (.and (.call 9 false (.cons (.idx (.var 2) (.cst (.int 3))) (.cons (.cst (.int 0)) (.cons (.cst (.int 3)) .nil)))) (.bi .all false (.cons (.comp false (.call 13 false (.cons (.var 0) (.cons (.var 1) (.cons (.var 3) .nil)))) (.nm 3) (.seq (.idx (.var 2) (.cst (.int 3)))) .none [3]) .nil)))) .nil)
def irP_is_deed : CSs := (.cons (.ite (.or (.not (.tst (.call 9 false (.cons (.var 2) (.cons (.cst (.int 4)) (.cons (.cst (.int 4)) .nil)))))) (.or (.not (.tst (.call 11 false (.cons (.var 0) (.cons (.var 1) (.cons (.idx (.var 2) (.cst (.int 0))) (.cons (.idx (.var 2) (.cst (.int 1))) .nil))))))) (.not (.tst (.call 12 false (.cons (.idx (.var 2) (.cst (.int 2))) (.cons (.var 1) .nil))))))) (.cons (.ret (.cst (.bl false))) .nil) .nil) irP_is_deed_1)
def nP_is_deed : List Str := ["widths", "d", "thing", "read"]
def irP_is_nest_1 : CSs := (.cons (.ret (.bi .all false (.cons (.comp false (.call 14 false (.cons (.var 0) (.cons (.bi .len false (.cons (.idx (.var 1) (.cst (.int 0))) .nil)) (.cons (.var 2) .nil)))) (.nm 2) (.seq (.idx (.var 1) (.cst (.int 1)))) .none [2]) .nil))) .nil)
def irP_is_nest : CSs := (.cons (.ite (.or (.not (.tst (.call 9 false (.cons (.var 1) (.cons (.cst (.int 2)) (.cons (.cst (.int 2)) .nil)))))) (.or (.not (.tst (.call 4 false (.cons (.idx (.var 1) (.cst (.int 0))) .nil)))) (.not (.tst (.call 9 false (.cons (.idx (.var 1) (.cst (.int 1))) (.cons (.cst (.int 1)) (.cons (.cst (.int 4)) .nil)))))))) (.cons (.ret (.cst (.bl false))) .nil) .nil) irP_is_nest_1)
def nP_is_nest : List Str := ["widths", "thing", "deed"]
def irP_program_of_1 : CSs := (.cons (.ret (.tup (.cons (.var 0) (.cons (.var 1) .nil)))) .nil)
def irP_program_of_2 : CSs := (.cons (.ite (.tst (.cmp .gt (.var 3) (.cst (.int 60)))) (.cons (.raise "TooMany") .nil) .nil) irP_program_of_1)
def irP_program_of_3 : CSs := (.cons (.for (.tp [(.nm 4), (.nm 5)]) (.seq (.var 1)) (.cons (.asg (.nm 3) (.bin .add false (.var 3) (.bin .mul false (.bi .len false (.cons (.var 5) .nil)) (.call 8 false (.cons (.var 4) (.cons (.cst (.int 60)) .nil)))))) .nil)) irP_program_of_2)
def irP_program_of_4 : CSs := (.cons (.asg (.nm 3) (.cst (.int 0))) irP_program_of_3)
def irP_program_of_5 : CSs := (.cons (.for (.nm 2) (.seq (.var 1)) (.cons (.ite (.not (.tst (.call 15 false (.cons (.var 0) (.cons (.var 2) .nil))))) (.cons (.raise "NoProgram") .nil) .nil) .nil)) irP_program_of_4)
def irP_program_of : CSs := (.cons (.ite (.or (.not (.tst (.call 10 false (.cons (.var 0) .nil)))) (.not (.tst (.call 9 false (.cons (.var 1) (.cons (.cst (.int 1)) (.cons (.cst (.int 3)) .nil))))))) (.cons (.raise "NoProgram") .nil) .nil) irP_program_of_5)
def nP_program_of : List Str := ["widths", "nests", "nest", "total", "loops", "deeds"]
def irP_steps_of_1 : CSs := (.cons (.ret (.var 1)) .nil)
def irP_steps_of_2 : CSs := (.cons (.for (.tp [(.nm 2), (.nm 3)]) (.enum (.idx (.var 0) (.cst (.int 1)))) (.cons (.for (.nm 4) (.seq (.call 6 false (.cons (.idx (.var 3) (.cst (.int 0))) .nil))) (.cons (.ex (.me .extend false (.var 1) (.cons (.comp false (.tup (.cons (.var 2) (.cons (.var 4) (.cons (.var 5) .nil)))) (.nm 5) (.rng1 (.bi .len false (.cons (.idx (.var 3) (.cst (.int 1))) .nil))) .none [5]) .nil))) .nil)) .nil)) irP_steps_of_1)
def irP_steps_of : CSs := (.cons (.asg (.nm 1) (.lst true .nil)) irP_steps_of_2)
def nP_steps_of : List Str := ["program", "found", "n", "nest", "counts", "s"]
def irP_cell_at : CSs := (.cons (.ret (.tup (.cons (.var 0) (.cons (.bi .tuple false (.cons (.comp false (.call 2 false (.cons (.var 3) (.cons (.var 2) .nil))) (.nm 3) (.seq (.var 1)) .none [3]) .nil)) .nil)))) .nil)
def nP_cell_at : List Str := ["table", "place", "counts", "form"]
def irP_cells_of_step_1 : CSs := (.cons (.ret (.tup (.cons (.call 18 false (.cons (.var 5) (.cons (.var 6) (.cons (.var 3) .nil)))) (.cons (.comp false (.call 18 false (.cons (.idx (.var 9) (.cst (.int 1))) (.cons (.idx (.var 9) (.cst (.int 2))) (.cons (.var 3) .nil)))) (.nm 9) (.seq (.var 8)) .none [9]) .nil)))) .nil)
def irP_cells_of_step_2 : CSs := (.cons (.asg (.tp [(.nm 5), (.nm 6), (.nm 7), (.nm 8)]) (.idx (.idx (.idx (.idx (.var 0) (.cst (.int 1))) (.var 2)) (.cst (.int 1))) (.var 4))) irP_cells_of_step_1)
def irP_cells_of_step : CSs := (.cons (.asg (.tp [(.nm 2), (.nm 3), (.nm 4)]) (.var 1)) irP_cells_of_step_2)
def nP_cells_of_step : List Str := ["program", "step", "n", "counts", "s", "table", "place", "start", "reads", "read"]
def irP_cells_of : CSs := (.cons (.ret (.comp true (.call 19 false (.cons (.var 0) (.cons (.var 1) .nil))) (.nm 1) (.seq (.call 17 false (.cons (.var 0) .nil))) .none [1])) .nil)
def nP_cells_of : List Str := ["program", "step"]
def irP_shared_cells_b1 : CSs := (.cons (.ite (.or (.tst (.cmp .eq (.idx (.var 3) (.cst (.int 0))) (.idx (.var 4) (.cst (.int 0))))) (.tst (.cmp .isin (.idx (.var 3) (.cst (.int 0))) (.idx (.var 4) (.cst (.int 1)))))) (.cons (.setI (.var 2) (.idx (.var 3) (.cst (.int 0))) (.cst (.bl true))) .nil) .nil) .nil)
def irP_shared_cells_1 : CSs := (.cons (.ret (.bi .sorted true (.cons (.bi .list false (.cons (.var 2) .nil)) .nil))) .nil)
def irP_shared_cells_2 : CSs := (.cons (.for (.tp [(.nm 3), (.nm 4)]) (.seq (.tup (.cons (.tup (.cons (.var 0) (.cons (.var 1) .nil))) (.cons (.tup (.cons (.var 1) (.cons (.var 0) .nil))) .nil)))) irP_shared_cells_b1) irP_shared_cells_1)
def irP_shared_cells : CSs := (.cons (.asg (.nm 2) (.dct0 true)) irP_shared_cells_2)
def nP_shared_cells : List Str := ["one", "other", "found", "mine", "yours"]
def irP_touches_1 : CSs := (.cons (.ret (.and (.cmp .ne (.var 1) (.var 2)) (.cmp .ne (.call 29 false (.cons (.idx (.var 3) (.var 1)) (.cons (.idx (.var 3) (.var 2)) .nil))) (.lst false .nil)))) .nil)
def irP_touches : CSs := (.cons (.asg (.nm 3) (.call 20 false (.cons (.var 0) .nil))) irP_touches_1)
def nP_touches : List Str := ["program", "i", "j", "there"]
def irB_cell_1 : CSs := (.cons (.ret (.bin .mod false (.bin .mul false (.var 2) (.bin .add false (.bin .add false (.bin .mod false (.var 2) (.cst (.int 65519))) (.var 1)) (.cst (.int 2)))) (.cst (.int 2147483629)))) .nil)
def irB_cell_2 : CSs := (.cons (.asg (.nm 2) (.bin .mod false (.bin .mul false (.bin .add false (.bin .add false (.bin .mod false (.var 2) (.cst (.int 2147483629))) (.bin .mul false (.cst (.int 6151)) (.var 1))) (.cst (.int 1))) (.cst (.int 48271))) (.cst (.int 2147483647)))) irB_cell_1)
def irB_cell_3 : CSs := (.cons (.ite (.and (.tst (.cmp .lt (.var 1) (.bi .len false (.cons (.var 0) .nil)))) (.tst (.cmp .eq (.bin .mod false (.idx (.var 0) (.cst (.int 0))) (.cst (.int 2))) (.cst (.int 0))))) (.cons (.ret (.bi .abs false (.cons (.var 2) .nil))) .nil) .nil) irB_cell_2)
def irB_cell_4 : CSs := (.cons (.ite (.tst (.cmp .gt (.bi .len false (.cons (.var 0) .nil)) (.cst (.int 0)))) (.cons (.asg (.nm 2) (.idx (.var 0) (.bin .mod false (.var 1) (.bi .len false (.cons (.var 0) .nil))))) .nil) .nil) irB_cell_3)
def irB_cell : CSs := (.cons (.asg (.nm 2) (.cst (.int 7))) irB_cell_4)
def nB_cell : List Str := ["_law_script", "_law_k", "_law_cell_here"]
def irB_pen : CSs := (.cons (.ret (.lst true (.cons (.call 100 false (.cons (.var 0) (.cons (.var 1) .nil))) (.cons (.var 1) (.cons (.var 0) .nil))))) .nil)
def nB_pen : List Str := ["_law_script", "_law_k"]
def irB_take_1 : CSs := (.cons (.setI (.var 0) (.cst (.int 0)) (.call 100 false (.cons (.idx (.var 0) (.cst (.int 2))) (.cons (.idx (.var 0) (.cst (.int 1))) .nil)))) .nil)
def irB_take_2 : CSs := (.cons (.ret (.var 2)) .nil)
def irB_take_3 : CSs := (.cons (.ite (.tst (.cmp .eq (.idx (.var 0) (.cst (.int 0))) (.cst (.int 0)))) (.cons (.setI (.var 0) (.cst (.int 1)) (.bin .add false (.idx (.var 0) (.cst (.int 1))) (.cst (.int 1)))) irB_take_1) .nil) irB_take_2)
def irB_take_4 : CSs := (.cons (.setI (.var 0) (.cst (.int 0)) (.bin .fdiv false (.idx (.var 0) (.cst (.int 0))) (.var 1))) irB_take_3)
def irB_take : CSs := (.cons (.asg (.nm 2) (.bin .mod false (.idx (.var 0) (.cst (.int 0))) (.var 1))) irB_take_4)
def nB_take : List Str := ["_law_pen_here", "_law_many", "_law_digit"]
def irB_form_b1 : CSs := (.cons (.ex (.me .append false (.var 3) (.cons (.idx (.lst false (.cons (.cst (.int 0)) (.cons (.cst (.int 1)) (.cons (.cst (.int 1)) (.cons (.cst (.int 0)) (.cons (.neg (.cst (.int 1))) (.cons (.cst (.int 2)) (.cons (.cst (.int 0)) (.cons (.cst (.int 1)) .nil))))))))) (.call 102 false (.cons (.var 0) (.cons (.cst (.int 8)) .nil)))) .nil))) .nil)
def irB_form_1 : CSs := (.cons (.ret (.bi .tuple false (.cons (.var 3) .nil))) .nil)
def irB_form_2 : CSs := (.cons (.for (.nm 4) (.rng1 (.var 1)) irB_form_b1) irB_form_1)
def irB_form_3 : CSs := (.cons (.asg (.nm 3) (.lst true (.cons (.bin .sub false (.call 102 false (.cons (.var 0) (.cons (.bin .add false (.bin .mul false (.cst (.int 2)) (.var 2)) (.cst (.int 1))) .nil))) (.var 2)) .nil))) irB_form_2)
def irB_form : CSs := (.cons (.ite (.and (.tst (.cmp .eq (.var 2) (.cst (.int 1)))) (.tst (.cmp .eq (.call 102 false (.cons (.var 0) (.cons (.cst (.int 16)) .nil))) (.cst (.int 9))))) (.cons (.ret (.bi .tuple false (.cons (.comp false (.bin .sub false (.call 102 false (.cons (.var 0) (.cons (.cst (.int 199)) .nil))) (.cst (.int 99))) (.nm 4) (.rng1 (.bin .add false (.var 1) (.cst (.int 1)))) .none [4]) .nil))) .nil) .nil) irB_form_3)
def nB_form : List Str := ["_law_pen_here", "_law_many", "_law_wide", "_law_found", "_law_k"]
def irB_loops_1 : CSs := (.cons (.asg (.nm 4) (.cst .non)) .nil)
def irB_loops_2 : CSs := (.cons (.asg (.nm 6) (.idx (.var 4) (.cst (.int 1)))) irB_loops_1)
def irB_loops_3 : CSs := (.cons (.ex (.me .append false (.var 2) (.cons (.idx (.var 11) (.var 8)) .nil))) irB_loops_2)
def irB_loops_4 : CSs := (.cons (.ex (.me .append false (.var 11) (.cons (.tup (.cons (.bi .tuple false (.cons (.bin .add false (.lst false (.cons (.cst (.int 0)) .nil)) (.var 10)) .nil)) (.cons (.bi .tuple false (.cons (.bin .add false (.lst false (.cons (.bi .sum false (.cons (.var 4) .nil)) .nil)) (.var 9)) .nil)) .nil))) .nil))) irB_loops_3)
def irB_loops_5 : CSs := (.cons (.asg (.nm 11) (.lst true (.cons (.tup (.cons (.bi .tuple false (.cons (.bin .add false (.lst false (.cons (.idx (.var 4) (.cst (.int 0))) .nil)) (.var 9)) .nil)) (.cons (.bi .tuple false (.cons (.bin .add false (.lst false (.cons (.cst (.int 1)) .nil)) (.var 10)) .nil)) .nil))) .nil))) irB_loops_4)
def irB_loops_6 : CSs := (.cons (.asg (.nm 4) (.cst .non)) .nil)
def irB_loops_7 : CSs := (.cons (.ex (.me .append false (.var 2) (.cons (.tup (.cons (.bi .tuple false (.cons (.bin .add false (.lst false (.cons (.var 7) .nil)) (.var 10)) .nil)) (.cons (.bi .tuple false (.cons (.bin .add false (.lst false (.cons (.bin .add false (.var 7) (.var 6)) .nil)) (.var 10)) .nil)) .nil))) .nil))) irB_loops_6)
def irB_loops_8 : CSs := (.cons (.setI (.var 10) (.call 102 false (.cons (.var 0) (.cons (.var 5) .nil))) (.idx (.lst false (.cons (.cst (.int 1)) (.cons (.neg (.cst (.int 1))) (.cons (.cst (.int 2)) (.cons (.neg (.cst (.int 2))) .nil))))) (.call 102 false (.cons (.var 0) (.cons (.cst (.int 4)) .nil))))) irB_loops_7)
def irB_loops_9 : CSs := (.cons (.asg (.nm 4) (.tup (.cons (.var 7) (.cons (.var 6) .nil)))) .nil)
def irB_loops_e1 : CSs := (.cons (.ex (.me .append false (.var 2) (.cons (.tup (.cons (.bi .tuple false (.cons (.bin .add false (.lst false (.cons (.var 7) .nil)) (.var 9)) .nil)) (.cons (.bi .tuple false (.cons (.bin .add false (.lst false (.cons (.bin .add false (.var 7) (.bin .mul false (.var 6) (.bi .int false (.cons (.or (.cmp .lt (.var 8) (.cst (.int 7))) (.cmp .lt (.var 7) (.cst (.int 3)))) .nil)))) .nil)) (.var 9)) .nil)) .nil))) .nil))) irB_loops_9)
def irB_loops_e2 : CSs := (.cons (.ite (.and (.tst (.cmp .lt (.var 8) (.cst (.int 4)))) (.tst (.cmp .gt (.var 5) (.cst (.int 0))))) (.cons (.asg (.nm 10) (.bin .mul true (.lst false (.cons (.cst (.int 0)) .nil)) (.var 5))) irB_loops_8) irB_loops_e1) .nil)
def irB_loops_10 : CSs := (.cons (.asg (.nm 3) (.bin .fdiv false (.var 3) (.var 6))) .nil)
def irB_loops_11 : CSs := (.cons (.ite (.and (.tst (.cmp .lt (.var 8) (.cst (.int 2)))) (.and (.tst (.cmp .isnot (.var 4) (.cst .non))) (.tst (.cmp .le (.idx (.var 4) (.cst (.int 1))) (.var 3))))) (.cons (.asg (.nm 10) (.bin .add true (.bin .mul false (.lst false (.cons (.cst (.int 0)) .nil)) (.bin .sub false (.var 5) (.cst (.int 1)))) (.lst false (.cons (.cst (.int 1)) .nil)))) irB_loops_5) irB_loops_e2) irB_loops_10)
def irB_loops_12 : CSs := (.cons (.asg (.nm 9) (.bin .mul false (.lst false (.cons (.cst (.int 0)) .nil)) (.var 5))) irB_loops_11)
def irB_loops_13 : CSs := (.cons (.asg (.nm 8) (.call 102 false (.cons (.var 0) (.cons (.cst (.int 8)) .nil)))) irB_loops_12)
def irB_loops_14 : CSs := (.cons (.asg (.nm 7) (.bin .sub false (.call 102 false (.cons (.var 0) (.cons (.cst (.int 7)) .nil))) (.cst (.int 3)))) irB_loops_13)
def irB_loops_b1 : CSs := (.cons (.asg (.nm 6) (.bin .add false (.cst (.int 1)) (.call 102 false (.cons (.var 0) (.cons (.bi .min2 false (.cons (.cst (.int 4)) (.cons (.var 3) .nil))) .nil))))) irB_loops_14)
def irB_loops_15 : CSs := (.cons (.ret (.bi .tuple false (.cons (.var 2) .nil))) .nil)
def irB_loops_16 : CSs := (.cons (.for (.nm 5) (.rng1 (.bin .add false (.cst (.int 1)) (.call 102 false (.cons (.var 0) (.cons (.cst (.int 3)) .nil))))) irB_loops_b1) irB_loops_15)
def irB_loops_17 : CSs := (.cons (.asg (.nm 4) (.cst .non)) irB_loops_16)
def irB_loops_18 : CSs := (.cons (.asg (.nm 3) (.var 1)) irB_loops_17)
def irB_loops : CSs := (.cons (.asg (.nm 2) (.lst true .nil)) irB_loops_18)
def nB_loops : List Str := ["_law_pen_here", "_law_most", "_law_loops_here", "_law_room", "_law_before", "_law_k", "_law_size", "_law_low", "_law_way", "_law_none", "_law_ahead", "_law_stairs"]
def irB_deed_1 : CSs := (.cons (.ex (.me .append false (.var 6) (.cons (.tup (.cons (.var 10) (.cons (.var 8) (.cons (.bi .tuple false (.cons (.comp false (.call 103 false (.cons (.var 0) (.cons (.var 2) (.cons (.cst (.int 1)) .nil)))) (.nm 11) (.rng1 (.idx (.var 1) (.var 8))) .none [11]) .nil)) .nil)))) .nil))) .nil)
def irB_deed_2 : CSs := (.cons (.ite (.tst (.cmp .eq (.var 9) (.cst (.int 7)))) (.cons (.asg (.nm 10) (.bin .add false (.bin .sub false (.call 102 false (.cons (.var 0) (.cons (.bin .sub false (.bin .mul false (.cst (.int 2)) (.bin .pow false (.cst (.int 10)) (.cst (.int 30)))) (.cst (.int 1))) .nil))) (.bin .pow false (.cst (.int 10)) (.cst (.int 30)))) (.cst (.int 1)))) .nil) .nil) irB_deed_1)
def irB_deed_3 : CSs := (.cons (.asg (.nm 10) (.idx (.lst false (.cons (.cst (.int 1)) (.cons (.neg (.cst (.int 1))) (.cons (.cst (.int 2)) (.cons (.cst (.int 3)) (.cons (.cst (.int 0)) (.cons (.cst (.int 1)) (.cons (.neg (.cst (.int 5))) (.cons (.cst (.int 0)) .nil))))))))) (.var 9))) irB_deed_2)
def irB_deed_4 : CSs := (.cons (.asg (.nm 9) (.call 102 false (.cons (.var 0) (.cons (.cst (.int 8)) .nil)))) irB_deed_3)
def irB_deed_b1 : CSs := (.cons (.asg (.nm 8) (.call 102 false (.cons (.var 0) (.cons (.bi .len false (.cons (.var 1) .nil)) .nil)))) irB_deed_4)
def irB_deed_5 : CSs := (.cons (.ret (.tup (.cons (.var 3) (.cons (.var 4) (.cons (.var 5) (.cons (.bi .tuple false (.cons (.var 6) .nil)) .nil)))))) .nil)
def irB_deed_6 : CSs := (.cons (.for (.nm 7) (.rng1 (.call 102 false (.cons (.var 0) (.cons (.cst (.int 4)) .nil)))) irB_deed_b1) irB_deed_5)
def irB_deed_7 : CSs := (.cons (.asg (.nm 6) (.lst true .nil)) irB_deed_6)
def irB_deed_8 : CSs := (.cons (.asg (.nm 5) (.call 103 false (.cons (.var 0) (.cons (.var 2) (.cons (.idx (.lst false (.cons (.cst (.int 1)) (.cons (.cst (.int 9)) (.cons (.bin .sub false (.bin .pow false (.cst (.int 10)) (.cst (.int 30))) (.cst (.int 1))) .nil)))) (.call 102 false (.cons (.var 0) (.cons (.cst (.int 3)) .nil)))) .nil))))) irB_deed_7)
def irB_deed_9 : CSs := (.cons (.asg (.nm 4) (.bi .tuple false (.cons (.comp false (.call 103 false (.cons (.var 0) (.cons (.var 2) (.cons (.cst (.int 1)) .nil)))) (.nm 7) (.rng1 (.idx (.var 1) (.var 3))) .none [7]) .nil))) irB_deed_8)
def irB_deed : CSs := (.cons (.asg (.nm 3) (.call 102 false (.cons (.var 0) (.cons (.bi .len false (.cons (.var 1) .nil)) .nil)))) irB_deed_9)
def nB_deed : List Str := ["_law_pen_here", "_law_widths", "_law_many", "_law_table", "_law_place", "_law_start", "_law_parts", "_law_k", "_law_other", "_law_way", "_law_factor", "_law_j"]
def irB_program_1 : CSs := (.cons (.ex (.me .append false (.var 4) (.cons (.tup (.cons (.var 7) (.cons (.bi .tuple false (.cons (.comp false (.call 105 false (.cons (.var 0) (.cons (.var 2) (.cons (.bi .len false (.cons (.var 7) .nil)) .nil)))) (.nm 8) (.rng1 (.var 6)) .none [8]) .nil)) .nil))) .nil))) .nil)
def irB_program_2 : CSs := (.cons (.asg (.nm 7) (.call 104 false (.cons (.var 0) (.cons (.bi .max2 false (.cons (.cst (.int 1)) (.cons (.bin .fdiv false (.bin .fdiv false (.var 1) (.var 3)) (.var 6)) .nil))) .nil)))) irB_program_1)
def irB_program_b1 : CSs := (.cons (.asg (.nm 6) (.bin .add false (.cst (.int 1)) (.call 102 false (.cons (.var 0) (.cons (.cst (.int 4)) .nil))))) irB_program_2)
def irB_program_3 : CSs := (.cons (.ret (.tup (.cons (.var 2) (.cons (.bi .tuple false (.cons (.var 4) .nil)) .nil)))) .nil)
def irB_program_4 : CSs := (.cons (.for (.nm 5) (.rng1 (.var 3)) irB_program_b1) irB_program_3)
def irB_program_5 : CSs := (.cons (.asg (.nm 4) (.lst true .nil)) irB_program_4)
def irB_program_6 : CSs := (.cons (.asg (.nm 3) (.bin .add false (.cst (.int 1)) (.call 102 false (.cons (.var 0) (.cons (.cst (.int 3)) .nil))))) irB_program_5)
def irB_program : CSs := (.cons (.asg (.nm 2) (.bi .tuple false (.cons (.comp false (.bin .add false (.cst (.int 1)) (.call 102 false (.cons (.var 0) (.cons (.cst (.int 2)) .nil)))) (.nm 5) (.rng1 (.bin .add false (.cst (.int 1)) (.call 102 false (.cons (.var 0) (.cons (.cst (.int 3)) .nil))))) .none [5]) .nil))) irB_program_6)
def nB_program : List Str := ["_law_pen_here", "_law_most", "_law_widths", "_law_many", "_law_nests", "_law_k", "_law_deeds", "_law_loops_here", "_law_j"]
def irB_at : CSs := (.cons (.ret (.bin .add false (.idx (.var 0) (.cst (.int 0))) (.bi .sum false (.cons (.comp false (.bin .mul false (.idx (.var 0) (.bin .add false (.cst (.int 1)) (.var 2))) (.idx (.var 1) (.var 2))) (.nm 2) (.rng1 (.bi .len false (.cons (.var 1) .nil))) .none [2]) .nil)))) .nil)
def nB_at : List Str := ["_law_form_here", "_law_counts_here", "_law_k"]
def irB_counts_b1 : CSs := (.cons (.ex (.me .append false (.var 4) (.cons (.bin .add false (.var 5) (.tup (.cons (.var 6) .nil))) .nil))) .nil)
def irB_counts_b2 : CSs := (.cons (.for (.nm 6) (.rng2 (.call 107 false (.cons (.var 2) (.cons (.var 5) .nil))) (.call 107 false (.cons (.var 3) (.cons (.var 5) .nil)))) irB_counts_b1) .nil)
def irB_counts_1 : CSs := (.cons (.asg (.nm 1) (.var 4)) .nil)
def irB_counts_2 : CSs := (.cons (.for (.nm 5) (.seq (.var 1)) irB_counts_b2) irB_counts_1)
def irB_counts_b3 : CSs := (.cons (.asg (.nm 4) (.lst true .nil)) irB_counts_2)
def irB_counts_3 : CSs := (.cons (.ret (.var 1)) .nil)
def irB_counts_4 : CSs := (.cons (.for (.tp [(.nm 2), (.nm 3)]) (.seq (.var 0)) irB_counts_b3) irB_counts_3)
def irB_counts : CSs := (.cons (.asg (.nm 1) (.lst true (.cons (.tup .nil) .nil))) irB_counts_4)
def nB_counts : List Str := ["_law_loops_here", "_law_found", "_law_low", "_law_high", "_law_longer", "_law_counts_here", "_law_count"]
def irB_spot : CSs := (.cons (.ret (.tup (.cons (.var 0) (.cons (.bi .tuple false (.cons (.comp false (.call 107 false (.cons (.var 3) (.cons (.var 2) .nil))) (.nm 3) (.seq (.var 1)) .none [3]) .nil)) .nil)))) .nil)
def nB_spot : List Str := ["_law_table", "_law_place", "_law_counts_here", "_law_form_here"]
def irB_steps_1 : CSs := (.cons (.ex (.me .append false (.var 1) (.cons (.tup (.cons (.call 109 false (.cons (.var 5) (.cons (.var 6) (.cons (.var 4) .nil)))) (.cons (.call 107 false (.cons (.var 7) (.cons (.var 4) .nil))) (.cons (.var 9) .nil)))) .nil))) .nil)
def irB_steps_b1 : CSs := (.cons (.asg (.nm 9) (.comp false (.tup (.cons (.var 10) (.cons (.call 109 false (.cons (.var 11) (.cons (.var 12) (.cons (.var 4) .nil)))) .nil))) (.tp [(.nm 10), (.nm 11), (.nm 12)]) (.seq (.var 8)) .none [10, 11, 12])) irB_steps_1)
def irB_steps_b2 : CSs := (.cons (.for (.tp [(.nm 5), (.nm 6), (.nm 7), (.nm 8)]) (.seq (.var 3)) irB_steps_b1) .nil)
def irB_steps_b3 : CSs := (.cons (.for (.nm 4) (.seq (.call 108 false (.cons (.var 2) .nil))) irB_steps_b2) .nil)
def irB_steps_2 : CSs := (.cons (.ret (.var 1)) .nil)
def irB_steps_3 : CSs := (.cons (.for (.tp [(.nm 2), (.nm 3)]) (.seq (.idx (.var 0) (.cst (.int 1)))) irB_steps_b3) irB_steps_2)
def irB_steps : CSs := (.cons (.asg (.nm 1) (.lst true .nil)) irB_steps_3)
def nB_steps : List Str := ["_law_program_here", "_law_steps_here", "_law_loops_here", "_law_deeds", "_law_counts_here", "_law_table", "_law_place", "_law_start", "_law_parts", "_law_some", "_law_factor", "_law_other", "_law_there"]
def irB_touch_1 : CSs := (.cons (.ret (.cmp .isin (.idx (.var 1) (.cst (.int 0))) (.comp false (.var 3) (.tp [(.nm 2), (.nm 3)]) (.seq (.idx (.var 0) (.cst (.int 2)))) .none [2, 3]))) .nil)
def irB_touch : CSs := (.cons (.ite (.or (.tst (.cmp .eq (.idx (.var 0) (.cst (.int 0))) (.idx (.var 1) (.cst (.int 0))))) (.tst (.cmp .isin (.idx (.var 0) (.cst (.int 0))) (.comp false (.var 3) (.tp [(.nm 2), (.nm 3)]) (.seq (.idx (.var 1) (.cst (.int 2)))) .none [2, 3])))) (.cons (.ret (.cst (.bl true))) .nil) .nil) irB_touch_1)
def nB_touch : List Str := ["_law_one", "_law_other", "_law_factor", "_law_spot_here"]
def irP_pairs_1 : CSs := (.cons (.ite (.tst (.cmp .ne (.var 5) (.lst false .nil))) (.cons (.ex (.me .append false (.var 2) (.cons (.tup (.cons (.var 3) (.cons (.var 4) (.cons (.var 5) .nil)))) .nil))) .nil) .nil) .nil)
def irP_pairs_b1 : CSs := (.cons (.asg (.nm 5) (.call 29 false (.cons (.idx (.var 1) (.var 3)) (.cons (.idx (.var 1) (.var 4)) .nil)))) irP_pairs_1)
def irP_pairs_b2 : CSs := (.cons (.for (.nm 4) (.rng2 (.bin .add false (.var 3) (.cst (.int 1))) (.bi .len false (.cons (.var 1) .nil))) irP_pairs_b1) .nil)
def irP_pairs_2 : CSs := (.cons (.ret (.var 2)) .nil)
def irP_pairs_3 : CSs := (.cons (.for (.nm 3) (.rng1 (.bi .len false (.cons (.var 1) .nil))) irP_pairs_b2) irP_pairs_2)
def irP_pairs_4 : CSs := (.cons (.asg (.nm 2) (.lst true .nil)) irP_pairs_3)
def irP_pairs : CSs := (.cons (.asg (.nm 1) (.call 20 false (.cons (.var 0) .nil))) irP_pairs_4)
def nP_pairs : List Str := ["program", "there", "found", "i", "j", "cells"]
def irP_second_of : CSs := (.cons (.ret (.tup (.cons (.idx (.var 0) (.cst (.int 1))) (.cons (.idx (.var 0) (.cst (.int 0))) .nil)))) .nil)
def nP_second_of : List Str := ["pair"]
def irP_sources_1 : CSs := (.cons (.setI (.var 1) (.idx (.var 4) (.cst (.int 0))) (.var 3)) .nil)
def irP_sources_b1 : CSs := (.cons (.ex (.me .append false (.var 2) (.cons (.comp false (.me .get false (.var 1) (.cons (.var 5) .nil)) (.nm 5) (.seq (.idx (.var 4) (.cst (.int 1)))) .none [5]) .nil))) irP_sources_1)
def irP_sources_2 : CSs := (.cons (.ret (.var 2)) .nil)
def irP_sources_3 : CSs := (.cons (.for (.tp [(.nm 3), (.nm 4)]) (.enum (.call 20 false (.cons (.var 0) .nil))) irP_sources_b1) irP_sources_2)
def irP_sources_4 : CSs := (.cons (.asg (.nm 2) (.lst true .nil)) irP_sources_3)
def irP_sources : CSs := (.cons (.asg (.nm 1) (.dct0 true)) irP_sources_4)
def nP_sources : List Str := ["program", "last", "found", "t", "cells", "cell"]
def irP_plain : CSs := (.cons (.ret (.lrng true (.cons (.bi .len false (.cons (.call 17 false (.cons (.var 0) .nil)) .nil)) .nil))) .nil)
def nP_plain : List Str := ["program"]
def irP_ask_row_1 : CSs := (.cons (.ite (.tst (.cmp .lt (.lset (.var 1)) (.bi .len false (.cons (.var 1) .nil)))) (.cons (.raise "NoOrder") .nil) .nil) .nil)
def irP_ask_row : CSs := (.cons (.ite (.or (.not (.tst (.isi (.var 1) ["list"]))) (.not (.tst (.bi .all false (.cons (.comp false (.and (.call 0 false (.cons (.var 2) .nil)) (.chn (.cst (.int 0)) (.more .le (.var 2) (.one .lt (.var 0))))) (.nm 2) (.seq (.var 1)) .none [2]) .nil))))) (.cons (.raise "NoOrder") .nil) .nil) irP_ask_row_1)
def nP_ask_row : List Str := ["many", "row", "t"]
def irP_ask_order_1 : CSs := (.cons (.ite (.tst (.cmp .lt (.bi .len false (.cons (.var 1) .nil)) (.var 0))) (.cons (.raise "NoOrder") .nil) .nil) .nil)
def irP_ask_order : CSs := (.cons (.ex (.call 22 false (.cons (.var 0) (.cons (.var 1) .nil)))) irP_ask_order_1)
def nP_ask_order : List Str := ["many", "order"]
def irP_places_in_b1 : CSs := (.cons (.setI (.var 1) (.var 3) (.var 2)) .nil)
def irP_places_in_1 : CSs := (.cons (.ret (.var 1)) .nil)
def irP_places_in_2 : CSs := (.cons (.for (.tp [(.nm 2), (.nm 3)]) (.enum (.var 0)) irP_places_in_b1) irP_places_in_1)
def irP_places_in : CSs := (.cons (.asg (.nm 1) (.comp true (.cst (.int 0)) (.nm 3) (.seq (.var 0)) .none [3])) irP_places_in_2)
def nP_places_in : List Str := ["order", "found", "at", "step"]
def irP_broken_b1 : CSs := (.cons (.ite (.tst (.cmp .gt (.idx (.var 2) (.var 3)) (.idx (.var 2) (.var 4)))) (.cons (.ret (.tup (.cons (.var 3) (.cons (.var 4) .nil)))) .nil) .nil) .nil)
def irP_broken_1 : CSs := (.cons (.ret (.cst .non)) .nil)
def irP_broken_2 : CSs := (.cons (.for (.tp [(.nm 3), (.nm 4), (.nm 5)]) (.seq (.call 31 false (.cons (.var 0) .nil))) irP_broken_b1) irP_broken_1)
def irP_broken_3 : CSs := (.cons (.asg (.nm 2) (.call 58 false (.cons (.var 1) .nil))) irP_broken_2)
def irP_broken : CSs := (.cons (.ex (.call 23 false (.cons (.bi .len false (.cons (.call 21 false (.cons (.var 0) .nil)) .nil)) (.cons (.var 1) .nil)))) irP_broken_3)
def nP_broken : List Str := ["program", "order", "at", "i", "j", "cells"]
def irP_leads_1 : CSs := (.cons (.setI (.var 4) (.bin .add false (.var 5) (.cst (.int 1))) (.var 6)) .nil)
def irP_leads_2 : CSs := (.cons (.setI (.var 4) (.var 5) (.var 7)) irP_leads_1)
def irP_leads_3 : CSs := (.cons (.ite (.tst (.cmp .ne (.call 29 false (.cons (.idx (.var 3) (.var 6)) (.cons (.idx (.var 3) (.var 7)) .nil))) (.lst false .nil))) (.cons (.ret (.cst (.bl false))) .nil) .nil) irP_leads_2)
def irP_leads_4 : CSs := (.cons (.asg (.tp [(.nm 6), (.nm 7)]) (.tup (.cons (.idx (.var 4) (.var 5)) (.cons (.idx (.var 4) (.bin .add false (.var 5) (.cst (.int 1)))) .nil)))) irP_leads_3)
def irP_leads_b1 : CSs := (.cons (.ite (.not (.tst (.chn (.cst (.int 0)) (.more .le (.var 5) (.one .lt (.bin .sub false (.bi .len false (.cons (.var 4) .nil)) (.cst (.int 1)))))))) (.cons (.ret (.cst (.bl false))) .nil) .nil) irP_leads_4)
def irP_leads_5 : CSs := (.cons (.ret (.cmp .eq (.var 4) (.var 2))) .nil)
def irP_leads_6 : CSs := (.cons (.for (.nm 5) (.seq (.var 1)) irP_leads_b1) irP_leads_5)
def irP_leads_7 : CSs := (.cons (.asg (.nm 4) (.call 21 true (.cons (.var 0) .nil))) irP_leads_6)
def irP_leads_8 : CSs := (.cons (.ex (.call 23 false (.cons (.bi .len false (.cons (.var 3) .nil)) (.cons (.var 2) .nil)))) irP_leads_7)
def irP_leads : CSs := (.cons (.asg (.nm 3) (.call 20 false (.cons (.var 0) .nil))) irP_leads_8)
def nP_leads : List Str := ["program", "exchanges", "order", "there", "now", "place", "one", "other"]
def irB_order_b1 : CSs := (.cons (.ex (.me .insert false (.var 2) (.cons (.call 102 false (.cons (.var 0) (.cons (.bin .add false (.bi .len false (.cons (.var 2) .nil)) (.cst (.int 1))) .nil))) (.cons (.var 3) .nil)))) .nil)
def irB_order_1 : CSs := (.cons (.ret (.var 2)) .nil)
def irB_order_2 : CSs := (.cons (.for (.nm 3) (.rng1 (.var 1)) irB_order_b1) irB_order_1)
def irB_order : CSs := (.cons (.asg (.nm 2) (.lst true .nil)) irB_order_2)
def nB_order : List Str := ["_law_pen_here", "_law_many", "_law_found", "_law_t"]
def irB_picked_b1 : CSs := (.cons (.asg (.nm 4) (.call 102 false (.cons (.var 0) (.cons (.var 4) .nil)))) .nil)
def irB_picked_1 : CSs := (.cons (.ex (.me .append false (.var 2) (.cons (.me .popat false (.var 3) (.cons (.var 4) .nil)) .nil))) .nil)
def irB_picked_2 : CSs := (.cons (.while (.tst (.bi .any false (.cons (.comp false (.call 111 false (.cons (.idx (.var 1) (.var 5)) (.cons (.idx (.var 1) (.idx (.var 3) (.var 4))) .nil))) (.nm 5) (.seq (.slc false (.var 3) .none (.some (.var 4)))) .none [5]) .nil))) irB_picked_b1) irB_picked_1)
def irB_picked_b2 : CSs := (.cons (.asg (.nm 4) (.call 102 false (.cons (.var 0) (.cons (.bi .len false (.cons (.var 3) .nil)) .nil)))) irB_picked_2)
def irB_picked_3 : CSs := (.cons (.ret (.var 2)) .nil)
def irB_picked_4 : CSs := (.cons (.while (.tst (.cmp .ne (.var 3) (.lst false .nil))) irB_picked_b2) irB_picked_3)
def irB_picked_5 : CSs := (.cons (.asg (.nm 3) (.lrng true (.cons (.bi .len false (.cons (.var 1) .nil)) .nil))) irB_picked_4)
def irB_picked : CSs := (.cons (.asg (.nm 2) (.lst true .nil)) irB_picked_5)
def nB_picked : List Str := ["_law_pen_here", "_law_steps_here", "_law_order_here", "_law_left", "_law_at_here", "_law_t"]
end DL
end
section
set_option maxRecDepth 100000
set_option maxHeartbeats 1000000
/-! The program's tests, by values: is_whole .. is_nest, program_of. -/
namespace DL
open PySem PySem.Spec L2
open PyProof.Rows hiding St wpS
local macro_rules | `(tactic| walk_at "wp") => `(tactic| simp only [wpSs, wpS, wpE, wpEs, wpT, wpC, wpO, wpL, wpI, wpH, List.getElem?_cons_zero, List.getElem?_cons_succ, List.set_cons_zero, List.set_cons_succ])

/-! from the old form of a promise -/
def pP_is_whole : Prm := { α := PV, pre := fun x vs S => vs = [x] ∧ puv x = true, post := fun x S r S' => r = .bl (isI x) ∧ S' = S }
def pP_is_form : Prm := { α := PV × Int, pre := fun z vs S => vs = [z.1, .int z.2] ∧ puv z.1 = true, post := fun z S r S' => r = .bl (formP z.1 z.2) ∧ S' = S }
def pP_is_bound : Prm := { α := PV × Int, pre := fun z vs S => vs = [z.1, .int z.2] ∧ puv z.1 = true ∧ 0 ≤ z.2, post := fun z S r S' => r = .bl (boundP z.1 z.2) ∧ S' = S }
def pP_is_loops : Prm := { α := PV, pre := fun x vs S => vs = [x] ∧ puv x = true, post := fun x S r S' => r = .bl (loopsP x) ∧ S' = S }
theorem nox {α : Type} {z : α} {S S' : Sto} {e : Exn} (h : (fun _ _ _ _ => False : α → Sto → Exn → Sto → Prop) z S e S') : False := h
theorem who_eq : (spR whoPre whoPost) = pP_is_whole.sp := by
  funext vs S Q E
  refine propext ⟨fun ⟨⟨x, e, h⟩, h2, _⟩ => ⟨x, ⟨e, h⟩, fun r S' ⟨e1, e2⟩ => h2 r S' ⟨x, e, e1, e2⟩, fun _ _ h => h.elim⟩, fun ⟨x, ⟨e, h⟩, h2, _⟩ => ⟨⟨x, e, h⟩, fun r S' ⟨y, e0, e1, e2⟩ => h2 r S' ?_, fun _ _ h => h.elim⟩⟩
  rw [e] at e0
  cases e0
  exact ⟨e1, e2⟩
theorem fom_eq : (spR fomPre fomPost) = pP_is_form.sp := by
  funext vs S Q E
  refine propext ⟨fun ⟨⟨x, d, e, h⟩, h2, _⟩ => ⟨(x, d), ⟨e, h⟩, fun r S' ⟨e1, e2⟩ => h2 r S' ⟨x, d, e, e1, e2⟩, fun _ _ h => h.elim⟩, fun ⟨x, ⟨e, h⟩, h2, _⟩ => ⟨⟨_, _, e, h⟩, fun r S' ⟨y, d, e0, e1, e2⟩ => h2 r S' ?_, fun _ _ h => h.elim⟩⟩
  rw [e] at e0
  cases e0
  exact ⟨e1, e2⟩
theorem bou_eq : (spR bouPre bouPost) = pP_is_bound.sp := by
  funext vs S Q E
  refine propext ⟨fun ⟨⟨x, d, e, h⟩, h2, _⟩ => ⟨(x, d), ⟨e, h⟩, fun r S' ⟨e1, e2⟩ => h2 r S' ⟨x, d, e, e1, e2⟩, fun _ _ h => h.elim⟩, fun ⟨x, ⟨e, h⟩, h2, _⟩ => ⟨⟨_, _, e, h⟩, fun r S' ⟨y, d, e0, e1, e2⟩ => h2 r S' ?_, fun _ _ h => h.elim⟩⟩
  rw [e] at e0
  cases e0
  exact ⟨e1, e2⟩
theorem kP_is_whole {G : GE} : Keeps G irP_is_whole nP_is_whole pP_is_whole := fun x vs S Q E _ _ hp hq _ => by
  rw [show irP_is_whole = irWhole from rfl]
  exact w_whole ⟨x, hp.1, hp.2⟩ fun r S' ⟨y, e, h⟩ => hq r S' (by rw [hp.1] at e; cases e; exact h)
theorem kP_is_form {G : GE} (h0 : G.fn 0 = pP_is_whole.sp) : Keeps G irP_is_form nP_is_form pP_is_form := fun z vs S Q E _ _ hp hq _ => by
  rw [show irP_is_form = irForm 0 from rfl]
  exact w_form (iw := 0) (by rw [h0, who_eq]) ⟨z.1, z.2, hp.1, hp.2⟩ fun r S' ⟨y, d, e, h⟩ => hq r S' (by rw [hp.1] at e; cases e; exact h)
theorem kP_is_bound {G : GE} (h1 : G.fn 1 = pP_is_form.sp) : Keeps G irP_is_bound nP_is_bound pP_is_bound := fun z vs S Q E _ _ hp hq _ => by
  rw [show irP_is_bound = irBound 1 from rfl]
  exact w_bound (ifo := 1) (by rw [h1, fom_eq]) ⟨z.1, z.2, hp.1, hp.2⟩ fun r S' ⟨y, d, e, h⟩ => hq r S' (by rw [hp.1] at e; cases e; exact h)
theorem kP_is_loops {G : GE} (h3 : G.fn 3 = pP_is_bound.sp) : Keeps G irP_is_loops nP_is_loops pP_is_loops := fun x vs S Q E _ _ hp hq _ => by
  rw [show irP_is_loops = irLoops 3 from rfl]
  exact w_loops (ib := 3) (by rw [h3, bou_eq]) ⟨x, hp.1, hp.2⟩ fun r S' ⟨y, e, h⟩ => hq r S' (by rw [hp.1] at e; cases e; exact h)

/-! comes_to, counts -/
def pP_comes_to : Prm := { α := Frm × List Int, pre := fun z vs S => vs = [fP z.1, iP z.2] ∧ Small z.2, post := fun z S r S' => r = .int (atF z.1 z.2) ∧ S' = S }
theorem kP_comes_to {G : GE} : Keeps G irP_comes_to nP_comes_to pP_comes_to := fun z vs S Q E _ _ hp hq _ => by
  obtain ⟨rfl, hs⟩ := hp
  exact w_comes (n1 := "form") (n2 := "counts") (n3 := "number") (n4 := "count") ⟨z.1, z.2, rfl, hs⟩ fun r S' h => hq r S' (h z.1 z.2 rfl)
/-- from some counts on -/
structure CbA where
  L0 : List (Frm × Frm)
  L : List (Frm × Frm)
  cs : List Int
def pP_counts_behind : Prm := { α := CbA, pre := fun z vs S => vs = [lsP (z.L0 ++ z.L), iP z.cs] ∧ z.L0.length = z.cs.length ∧ CntOK z.L z.cs ∧ (cntF z.L z.cs).length ≤ sizeLine ∧ (z.L0 ++ z.L).length ≤ 10, post := fun z S r S' => resL true ((cntF z.L z.cs).map iP) S r S' }
def μ_counts_behind (z : CbA) : Nat := z.L.length
theorem com_eq : pP_comes_to.sp = spR cmPre cmPost := by
  funext vs S Q E
  refine propext ⟨fun ⟨z, ⟨e, h⟩, h2, _⟩ => ⟨⟨_, _, e, h⟩, fun r S' hq => h2 r S' (hq _ _ e), fun _ _ h => h.elim⟩, fun ⟨⟨f, cs, e, h⟩, h2, _⟩ => ⟨(f, cs), ⟨e, h⟩, fun r S' ⟨e1, e2⟩ => h2 r S' ?_, fun _ _ h => h.elim⟩⟩
  intro f' cs' e'
  rw [e] at e'
  simp only [List.cons.injEq, and_true] at e'
  rw [← fP_inj e'.1, ← iP_inj e'.2]
  exact ⟨e1, e2⟩
theorem cb_eq (t : Nat) : pP_counts_behind.spT μ_counts_behind t = spR (preB cbPre t) (cbPost true) := by
  funext vs S Q E
  refine propext ⟨fun ⟨z, ⟨hz, e, h1, h2, h3, h4⟩, hq, _⟩ => ⟨⟨z.L.length, hz, z.L0, z.L, z.cs, e, h1, rfl, h2, h3, h4⟩, fun r S' h => hq r S' (h _ _ _ e h1), fun _ _ h => h.elim⟩,
    fun ⟨⟨u, hu, L0, L, cs, e, h1, hl, h2, h3, h4⟩, hq, _⟩ => ⟨⟨L0, L, cs⟩, ⟨by unfold μ_counts_behind; rw [hl]; exact hu, e, h1, h2, h3, h4⟩, fun r S' h => hq r S' fun L0' L' cs' e' hl' => ?_, fun _ _ h => h.elim⟩⟩
  rw [e] at e'
  simp only [List.cons.injEq, and_true] at e'
  have e1 := lsP_inj e'.1
  have e2 := iP_inj e'.2
  subst e2
  obtain ⟨_, rfl⟩ := List.append_inj e1 (by omega)
  exact h
theorem kP_counts_behind {G : GE} (h2 : G.fn 2 = pP_comes_to.sp) : KeepsR G 5 irP_counts_behind nP_counts_behind pP_counts_behind μ_counts_behind := fun G' hG z hz vs S Q E hcl _ hp hq => by
  obtain ⟨e, h1, h2', h3, h4⟩ := hp
  rw [cb_eq] at hz
  rw [show irP_counts_behind = irBehind 2 5 true from rfl]
  exact w_behind (ic := 2) (ib := 5) (m := true) (t := z.L.length) (n1 := "loops") (n2 := "counts") (n3 := "low") (n4 := "high") (n5 := "found") (n6 := "count") (by rw [hG 2 (by decide), h2, com_eq]) hz hcl ⟨z.L0, z.L, z.cs, e, h1, rfl, h2', h3, h4⟩ fun r S' h => hq r S' (h _ _ _ e h1)
def pP_counts_of : Prm := { α := List (Frm × Frm), pre := fun L vs S => vs = [lsP L] ∧ CntOK L [] ∧ (cntF L []).length ≤ sizeLine ∧ L.length ≤ 10, post := fun L S r S' => resL true ((cntF L []).map iP) S r S' }
theorem kP_counts_of {G : GE} (h5 : G.fn 5 = pP_counts_behind.spT μ_counts_behind 12) : Keeps G irP_counts_of nP_counts_of pP_counts_of := fun L vs S Q E _ _ hp hq _ => by
  obtain ⟨e, h1, h2, h3⟩ := hp
  rw [cb_eq] at h5
  rw [show irP_counts_of = irCountsOf 5 true from rfl]
  exact w_countsOf (ib := 5) (m := true) (n1 := "loops") (T := 12) (by decide) h5 ⟨L, e, h1, h2, h3⟩ fun r S' h => hq r S' (h L e)
end DL
end
section
set_option maxRecDepth 100000
set_option maxHeartbeats 1000000
/-! The program's tests, by values: how_many, is_tuple_of .. is_nest, program_of. -/
namespace DL
open PySem PySem.Spec L2
open PyProof.Rows hiding St wpS
local macro_rules | `(tactic| walk_at "wp") => `(tactic| simp only [wpSs, wpS, wpE, wpEs, wpT, wpC, wpO, wpL, wpI, wpH, List.getElem?_cons_zero, List.getElem?_cons_succ, List.set_cons_zero, List.set_cons_succ])
local macro_rules | `(tactic| walk_at "go") => `(tactic| simp only [wpSs, wpS, wpE, wpEs, wpT, wpC, wpO, wpL, wpI, wpH, List.getElem?_cons_zero, List.getElem?_cons_succ, List.set_cons_zero, List.set_cons_succ, biD, dQ, dL, cmpD, eqD, truD, idxD, binD, tgD, tgDs, frzQ, newL, List.any_cons, List.any_nil, Bool.or_false])

/-! are_more, how_many -/
def moreI (n : Nat) (m : Int) : Int := if (n : Int) ≤ m then n else m + 1
structure MoA where
  L0 : List (Frm × Frm)
  L : List (Frm × Frm)
  cs : List Int
  m : Int
def pP_are_more : Prm := { α := MoA, pre := fun z vs S => vs = [lsP (z.L0 ++ z.L), iP z.cs, .int z.m] ∧ z.L0.length = z.cs.length ∧ CntOK z.L z.cs ∧ 0 ≤ z.m ∧ (z.L0 ++ z.L).length ≤ 10, post := fun z S r S' => r = .int (moreI (cntF z.L z.cs).length z.m) ∧ S' = S }
def μ_are_more (z : MoA) : Nat := z.L.length
theorem at_len {L0 L : List (Frm × Frm)} {p : Frm × Frm} {cs : List Int} (h : L0.length = cs.length) : L2.atI ((L0 ++ p :: L).map lP) (((cs.map PV.int).length : Nat) : Int) = some (lP p) := atI_nat (by
  rw [List.length_map, ← h, List.getElem?_map, List.getElem?_append_right (Nat.le_refl _), Nat.sub_self]
  rfl)
theorem kP_are_more {G : GE} (h2 : G.fn 2 = pP_comes_to.sp) : KeepsR G 7 irP_are_more nP_are_more pP_are_more μ_are_more := fun G' hG z hz vs S Q E hcl _ hp hq => by
  obtain ⟨L0, L, cs, m⟩ := z
  obtain ⟨rfl, hlen, hok, hm, h10⟩ := hp
  have hc : G'.fn 2 = pP_comes_to.sp := by rw [hG 2 (by decide), h2]
  simp only at hlen hok hm h10 hq
  have hcl10 : cs.length ≤ 10 := by rw [List.length_append] at h10; omega
  have hzz : 100 ≤ sizeLine := by decide
  have out : ∀ i, moreI (cntF L cs).length m = i → Q (.int i) S := fun i h => hq _ _ ⟨by rw [← h], rfl⟩
  rw [show startS nP_are_more [lsP (L0 ++ L), iP cs, .int m] = [some (.tup ((L0 ++ L).map lP)), some (.tup (cs.map .int)), some (.int m), none, none, none, none] from rfl]
  unfold irP_are_more
  walk_at "go"
  cases L with
  | nil =>
    have e : (((cs.map PV.int).length : Nat) : Int) = ((((L0 ++ ([] : List (Frm × Frm))).map lP).length : Nat) : Int) := by simp [hlen]
    simp only [e, decide_true]
    refine out _ ?_
    show (if ((1 : Nat) : Int) ≤ m then ((1 : Nat) : Int) else m + 1) = 1
    split <;> omega
  | cons p L =>
    have e : ¬ (((cs.map PV.int).length : Nat) : Int) = ((((L0 ++ p :: L).map lP).length : Nat) : Int) := by simp; omega
    simp only [e, decide_false]
    unfold irP_are_more_5
    walk_at "go"
    simp only [at_len hlen, lP, tgDs, tgD, List.set_cons_zero, List.set_cons_succ]
    unfold irP_are_more_4 irP_are_more_3
    walk_at "go"
    obtain ⟨hsm, ⟨a1, a2⟩, ⟨b1, b2⟩, hrz, hin⟩ := hok
    refine Prm.call hc (fun _ _ _ _ => id) (p.1, cs) ⟨rfl, hsm⟩ fun r S h => ?_
    obtain ⟨rfl, rfl⟩ := h
    walk_at "go"
    refine Prm.call hc (fun _ _ _ _ => id) (p.2, cs) ⟨rfl, hsm⟩ fun r S h => ?_
    obtain ⟨rfl, rfl⟩ := h
    walk_at "go"
    refine ⟨by omega, by omega, by omega, by omega, hrz, ?_⟩
    have hcnt : cntF (p :: L) cs = (List.range (atF p.2 cs - atF p.1 cs).toNat).flatMap fun i => cntF L (cs ++ [atF p.1 cs + (i : Nat)]) := rfl
    rw [hcnt] at out
    generalize hN : (atF p.2 cs - atF p.1 cs).toNat = N at out hrz hin ⊢
    generalize hlo : atF p.1 cs = lo at out hin ⊢
    have part : ∀ i, i ≤ N → ((List.range i).flatMap fun i => cntF L (cs ++ [lo + (i : Nat)])).length ≤ ((List.range N).flatMap fun i => cntF L (cs ++ [lo + (i : Nat)])).length := fun i hi => by
      have : List.range N = List.range i ++ (List.range (N - i)).map (i + ·) := by
        rw [← List.range_add]
        congr 1
        omega
      rw [this, List.flatMap_append, List.length_append]
      omega
    refine itL_inv (fun i σ S' => S' = S' ∧ S' = S ∧ (((List.range i).flatMap fun i => cntF L (cs ++ [lo + (i : Nat)])).length : Int) ≤ m ∧ ∃ z, σ = [some (.tup ((L0 ++ p :: L).map lP)), some (.tup (cs.map .int)), some (.int m), some (fP p.1), some (fP p.2), some (.int (((List.range i).flatMap fun i => cntF L (cs ++ [lo + (i : Nat)])).length : Nat)), z]) ⟨rfl, rfl, by simpa using hm, none, rfl⟩ (fun _ _ _ _ => trivial) (fun i x σ S' k hx h hk => ?_) fun σ S' h => ?_
    · obtain ⟨_, rfl, htm, z, rfl⟩ := h
      obtain ⟨hi, rfl⟩ := rngP_get hx
      walk_at "go"
      refine ⟨by show 1 ≤ sizeLine; omega, by simp; omega, ?_⟩
      have earg : PV.tup (cs.map PV.int ++ [PV.int (lo + (i : Int))]) = iP (cs ++ [lo + (i : Int)]) := by
        unfold iP
        simp
      rw [earg]
      refine Prm.callT hz ⟨L0 ++ [p], L, cs ++ [lo + (i : Int)], m - (((List.range i).flatMap fun i => cntF L (cs ++ [lo + (i : Nat)])).length : Nat)⟩ (by simp [μ_are_more]) ⟨by simp [lsP], by simp [hlen], hin i hi, Int.sub_nonneg.mpr htm, by simpa using h10⟩ fun r S h => ?_
      obtain ⟨rfl, rfl⟩ := h
      walk_at "go"
      unfold irP_are_more_1
      walk_at "go"
      have hs : ((List.range (i + 1)).flatMap fun i => cntF L (cs ++ [lo + (i : Nat)])).length = ((List.range i).flatMap fun i => cntF L (cs ++ [lo + (i : Nat)])).length + (cntF L (cs ++ [lo + (i : Nat)])).length := by
        rw [List.range_succ, List.flatMap_append, List.length_append, List.flatMap_singleton]
      have hpt := part (i + 1) hi
      generalize ((List.range i).flatMap fun i => cntF L (cs ++ [lo + (i : Nat)])).length = T at hs htm hpt ⊢
      generalize (cntF L (cs ++ [lo + (i : Nat)])).length = n1 at hs hpt ⊢
      simp only [moreI]
      by_cases c : (n1 : Int) ≤ m - T
      · simp only [if_pos c]
        have c2 : ¬ m < (T : Int) + (n1 : Int) := by omega
        simp only [c2, decide_false]
        exact hk _ _ ⟨rfl, rfl, by rw [hs]; omega, some (.int (lo + (i : Int))), by rw [hs, Int.natCast_add]⟩
      · simp only [if_neg c]
        have c2 : m < (T : Int) + (m - (T : Int) + 1) := by omega
        simp only [c2, decide_true]
        refine out _ ?_
        simp only [moreI]
        rw [if_neg (by omega)]
    · obtain ⟨_, rfl, htm, z, rfl⟩ := h
      rw [rngP_len] at htm ⊢
      unfold irP_are_more_2
      walk_at "go"
      refine out _ ?_
      simp only [moreI]
      rw [if_pos htm]
def pP_how_many : Prm := { α := List (Frm × Frm) × Int, pre := fun z vs S => vs = [lsP z.1, .int z.2] ∧ CntOK z.1 [] ∧ 0 ≤ z.2 ∧ z.1.length ≤ 10, post := fun z S r S' => r = .int (moreI (cntF z.1 []).length z.2) ∧ S' = S }
theorem kP_how_many {G : GE} (h7 : G.fn 7 = pP_are_more.spT μ_are_more 12) : Keeps G irP_how_many nP_how_many pP_how_many := fun z vs S Q E _ _ hp hq _ => by
  obtain ⟨L, m⟩ := z
  obtain ⟨rfl, h1, h2, h3⟩ := hp
  simp only at h1 h2 h3 hq
  rw [show startS nP_how_many [lsP L, .int m] = [some (lsP L), some (.int m)] from rfl]
  unfold irP_how_many
  walk_at "go"
  refine ⟨by show 0 ≤ sizeLine; decide, ?_⟩
  exact Prm.callT h7 ⟨[], L, [], m⟩ (by simp only [μ_are_more]; omega) ⟨rfl, rfl, h1, h2, h3⟩ fun r S' h => hq r S' h

/-! is_tuple_of, are_widths -/
def tupP (x : PV) (lo hi : Int) : Bool := match x with
  | .tup xs => decide (lo ≤ (xs.length : Int)) && decide ((xs.length : Int) ≤ hi)
  | _ => false
structure ToA where
  x : PV
  lo : Int
  hi : Int
def pP_is_tuple_of : Prm := { α := ToA, pre := fun z vs S => vs = [z.x, .int z.lo, .int z.hi] ∧ puv z.x = true, post := fun z S r S' => r = .bl (tupP z.x z.lo z.hi) ∧ S' = S }
theorem kP_is_tuple_of {G : GE} : Keeps G irP_is_tuple_of nP_is_tuple_of pP_is_tuple_of := fun z vs S Q E _ _ hp hq _ => by
  obtain ⟨x, lo, hi⟩ := z
  obtain ⟨rfl, hx⟩ := hp
  simp only at hx hq
  have out : ∀ b, tupP x lo hi = b → Q (.bl b) S := fun b h => hq _ _ ⟨by rw [← h], rfl⟩
  rw [show startS nP_is_tuple_of [x, .int lo, .int hi] = [some x, some (.int lo), some (.int hi)] from rfl]
  unfold irP_is_tuple_of
  walk_at "go"
  simp only [ty_pure hx, isT_tup, List.any_cons, List.any_nil, Bool.or_false]
  cases x with
  | tup xs =>
    simp only [isTu, dQ]
    cases h1 : decide (lo ≤ (xs.length : Int)) with
    | false => exact out _ (by simp [tupP, h1])
    | true => exact out _ (by simp [tupP, h1])
  | _ => exact out _ rfl
def widP (x : PV) : Bool := match x with
  | .int i => decide (1 ≤ i) && decide (i ≤ 2)
  | _ => false
def widsP (x : PV) : Bool := tupP x 1 3 && match x with
  | .tup xs => xs.all widP
  | _ => false
def pP_are_widths : Prm := { α := PV, pre := fun x vs S => vs = [x] ∧ puv x = true, post := fun x S r S' => r = .bl (widsP x) ∧ S' = S }
theorem kP_are_widths {G : GE} (h9 : G.fn 9 = pP_is_tuple_of.sp) (h0 : G.fn 0 = pP_is_whole.sp) : Keeps G irP_are_widths nP_are_widths pP_are_widths := fun (x : PV) vs S Q E _ _ hp hq _ => by
  obtain ⟨rfl, hx⟩ := hp
  have out : ∀ b, widsP x = b → Q (.bl b) S := fun b h => hq _ _ ⟨by rw [← h], rfl⟩
  rw [show startS nP_are_widths [x] = [some x, none] from rfl]
  unfold irP_are_widths
  walk_at "go"
  refine Prm.call h9 (fun _ _ _ _ => id) ⟨x, 1, 3⟩ ⟨rfl, hx⟩ fun r S h => ?_
  obtain ⟨rfl, rfl⟩ := h
  cases ht : tupP x 1 3 with
  | false =>
    walk_at "go"
    simp only [Bool.not_false]
    exact out _ (by simp [widsP, ht])
  | true =>
    walk_at "go"
    simp only [Bool.not_true]
    unfold irP_are_widths_1
    cases x with
    | tup xs =>
      walk_at "go"
      intro p hp
      refine comp_map (fun y => .bl (widP y)) hp (fun acc => trivial) (fun i y acc k hi ha hk => ?_) ?_
      · simp only [tgD, wipeS, List.set_cons_zero, List.set_cons_succ, List.getElem?_cons_zero, List.getElem?_cons_succ]
        refine Prm.call h0 (fun _ _ _ _ => id) y ⟨rfl, puvs_mem hx y (List.mem_of_getElem? hi)⟩ fun r S h => ?_
        obtain ⟨rfl, rfl⟩ := h
        walk_at "go"
        cases y with
        | int i =>
          simp only [isI]
          cases h1 : decide (1 ≤ i) with
          | false =>
            simp only [upS_same, upS_upS, true_and]
            simpa [widP, h1] using hk
          | true =>
            simp only [upS_same, upS_upS, true_and]
            simpa [widP, h1] using hk
        | _ => simpa only [isI, widP, upS_same, upS_upS, true_and] using hk
      · refine ⟨upS_same, ?_⟩
        simp only [dL, blsP_map2, delS_upS hp, all_id]
        exact out _ (by simp [widsP, ht])
    | _ => simp [tupP] at ht
end DL
end
section
set_option maxRecDepth 100000
set_option maxHeartbeats 1000000
/-! The program's tests, by values: is_cell .. program_of. -/
namespace DL
open PySem PySem.Spec L2
open PyProof.Rows hiding St wpS
local macro_rules | `(tactic| walk_at "wp") => `(tactic| simp only [wpSs, wpS, wpE, wpEs, wpT, wpC, wpO, wpL, wpI, wpH, List.getElem?_cons_zero, List.getElem?_cons_succ, List.set_cons_zero, List.set_cons_succ])
local macro_rules | `(tactic| walk_at "go") => `(tactic| simp only [wpSs, wpS, wpE, wpEs, wpT, wpC, wpO, wpL, wpI, wpH, List.getElem?_cons_zero, List.getElem?_cons_succ, List.set_cons_zero, List.set_cons_succ, biD, dQ, dL, cmpD, eqD, truD, idxD, binD, tgD, tgDs, frzQ, newL, List.any_cons, List.any_nil, Bool.or_false])

/-- a form with no number beyond m -/
def formLe (m : Int) (x : PV) (d : Int) : Bool := formP x d && match x with
  | .tup xs => xs.all (smallP m)
  | _ => false
theorem absI_nn (i : Int) : 0 ≤ absI i := by unfold absI; split <;> omega
theorem maxI_le (m : Int) : ∀ (ns : List Int) (n : Int), maxI n ns ≤ m ↔ n ≤ m ∧ ∀ y ∈ ns, y ≤ m
  | [], n => by simp [maxI]
  | x :: ns, n => by
    rw [maxI, maxI_le m ns]
    simp only [List.mem_cons, forall_eq_or_imp]
    split
    · constructor
      · rintro ⟨h1, h2⟩; exact ⟨by omega, h1, h2⟩
      · rintro ⟨h1, h2, h3⟩; exact ⟨h2, h3⟩
    · constructor
      · rintro ⟨h1, h2⟩; exact ⟨h1, by omega, h2⟩
      · rintro ⟨h1, h2, h3⟩; exact ⟨h1, h3⟩
/-- the ints of a form -/
theorem form_ints {x : PV} {d : Int} (hd : 0 ≤ d) (h : formP x d = true) : ∃ (n : Int) (ns : List Int), x = iP (n :: ns) ∧ (ns.length : Int) = d := by
  cases x with
  | tup xs =>
    have h : (decide ((xs.length : Int) = d + 1) && xs.all isI) = true := h
    rw [Bool.and_eq_true] at h
    have h1 := of_decide_eq_true h.1
    obtain ⟨ns, rfl⟩ := ints_of (xs := xs) fun y hy => isI_is (List.all_eq_true.mp h.2 y hy)
    cases ns with
    | nil => simp at h1; omega
    | cons n ns => exact ⟨n, ns, rfl, by simp at h1; omega⟩
  | _ => cases h
theorem form_of (n : Int) (ns : List Int) : formP (iP (n :: ns)) (ns.length : Nat) = true := by
  show (decide (((((n :: ns).map PV.int).length : Nat) : Int) = (ns.length : Int) + 1) && ((n :: ns).map PV.int).all isI) = true
  rw [decide_eq_true (by simp), Bool.true_and, List.all_eq_true]
  intro y hy
  obtain ⟨z, _, rfl⟩ := List.mem_map.mp hy
  rfl
theorem small_all (m : Int) (ns : List Int) : (ns.map PV.int).all (smallP m) = ns.all fun n => decide (absI n ≤ m) := by
  rw [List.all_map]
  rfl
/-- max([abs(number) for number in form]) -/
theorem max_abs (m n : Int) (ns : List Int) : decide (maxI (absI n) (ns.map absI) ≤ m) = ((n :: ns).map PV.int).all (smallP m) := by
  rw [small_all, Bool.eq_iff_iff, decide_eq_true_iff, maxI_le, List.all_eq_true]
  simp only [List.mem_map, forall_exists_index, and_imp, forall_apply_eq_imp_iff₂, List.mem_cons, forall_eq_or_imp, decide_eq_true_iff]
theorem formLe_max {n : Int} {ns : List Int} {d : Int} (m : Int) (h : formP (.tup ((n :: ns).map .int)) d = true) : formLe m (.tup ((n :: ns).map .int)) d = decide (maxI (absI n) (ns.map absI) ≤ m) := by
  rw [max_abs]
  show (formP (.tup ((n :: ns).map .int)) d && ((n :: ns).map PV.int).all (smallP m)) = _
  rw [h, Bool.true_and]
def cellOK (ws : List Int) (d : Int) (t p : PV) : Bool := match t, p with
  | .int i, .tup fs => decide (0 ≤ i) && decide (i < (ws.length : Int)) && decide ((fs.length : Int) = ws.getD i.toNat 0) && fs.all fun f => formLe 99 f d
  | _, _ => false
structure CeA where
  ws : List Int
  d : Int
  t : PV
  p : PV
def pP_is_cell : Prm := { α := CeA, pre := fun z vs S => vs = [iP z.ws, .int z.d, z.t, z.p] ∧ puv z.t = true ∧ puv z.p = true ∧ 0 ≤ z.d, post := fun z S r S' => r = .bl (cellOK z.ws z.d z.t z.p) ∧ S' = S }
theorem kP_is_cell {G : GE} (h0 : G.fn 0 = pP_is_whole.sp) (h1 : G.fn 1 = pP_is_form.sp) : Keeps G irP_is_cell nP_is_cell pP_is_cell := fun z vs S Q E _ _ hp hq _ => by
  obtain ⟨ws, d, t, p⟩ := z
  obtain ⟨rfl, ht, hpp, hd⟩ := hp
  simp only at ht hpp hd
  have out : ∀ b, cellOK ws d t p = b → Q (.bl b) S := fun b h => hq _ _ ⟨by rw [← h], rfl⟩
  clear hq
  rw [show startS nP_is_cell [iP ws, .int d, t, p] = [some (iP ws), some (.int d), some t, some p, none, none] from rfl]
  unfold irP_is_cell
  walk_at "go"
  refine Prm.call h0 (fun _ _ _ _ => id) t ⟨rfl, ht⟩ fun r S h => ?_
  obtain ⟨rfl, rfl⟩ := h
  walk_at "go"
  cases t with
  | int i =>
    simp only [isI, Bool.not_true, iP, dQ]
    by_cases c0 : 0 ≤ i
    · by_cases c1 : i < ((ws.map PV.int).length : Int)
      · simp only [c0, c1, decide_true, Bool.not_true, ty_pure hpp, isT_tup]
        cases p with
        | tup fs =>
          simp only [isTu, Bool.not_true]
          unfold irP_is_cell_3
          walk_at "go"
          have hlt : i.toNat < ws.length := by simp at c1; omega
          have hat : L2.atI (ws.map PV.int) i = some (.int (ws.getD i.toNat 0)) := atI_of c0 rfl (by rw [List.getElem?_map, List.getElem?_eq_getElem hlt, List.getD_eq_getElem?_getD, List.getElem?_eq_getElem hlt]; rfl)
          simp only [dQ, hat]
          rw [List.length_map] at c1
          by_cases c2 : (fs.length : Int) = ws.getD i.toNat 0
          · simp only [c2, decide_true, Bool.not_true]
            have hB : cellOK ws d (.int i) (.tup fs) = fs.all fun f => formLe 99 f d := by
              simp [cellOK, c0, c1, c2]
            rw [hB] at out
            unfold irP_is_cell_2
            walk_at "go"
            refine itL_inv (fun j σ S' => S' = S' ∧ S' = S ∧ (fs.all fun f => formLe 99 f d) = ((fs.drop j).all fun f => formLe 99 f d) ∧ ∃ z1 z2, σ = [some (.tup (ws.map .int)), some (.int d), some (.int i), some (.tup fs), z1, z2]) ⟨rfl, rfl, by simp, none, none, rfl⟩ (fun _ _ _ _ => trivial) (fun j x σ S k hx h hk => ?_) fun σ S h => ?_
            · obtain ⟨_, rfl, he, z1, z2, rfl⟩ := h
              have hlt := (List.getElem?_eq_some_iff.mp hx).1
              have hdrop : fs.drop j = x :: fs.drop (j + 1) := by
                rw [List.drop_eq_getElem_cons hlt, (List.getElem?_eq_some_iff.mp hx).2]
              rw [hdrop, List.all_cons] at he
              have hpx : puv x = true := puvs_mem hpp x (List.mem_of_getElem? hx)
              walk_at "go"
              refine Prm.call h1 (fun _ _ _ _ => id) (x, d) ⟨rfl, hpx⟩ fun r S h => ?_
              obtain ⟨rfl, rfl⟩ := h
              walk_at "go"
              cases hf : formP x d with
              | false =>
                simp only [Bool.not_false]
                exact out _ (by rw [he]; simp [formLe, hf])
              | true =>
                obtain ⟨n, ns, rfl, hl⟩ := form_ints hd hf
                simp only [Bool.not_true, iP, dQ]
                intro q hq
                refine comp_map (fun y => match y with | .int j => .int (absI j) | y => y) hq (fun acc => trivial) (fun j y acc k hy ha hk' => ?_) ?_
                · rw [List.getElem?_map] at hy
                  obtain ⟨b, _, rfl⟩ := Option.map_eq_some_iff.mp hy
                  simp only [tgD, wipeS, List.set_cons_zero, List.set_cons_succ, List.getElem?_cons_zero, List.getElem?_cons_succ, upS_same, upS_upS]
                  exact ⟨trivial, hk'⟩
                · have e : ((n :: ns).map PV.int).map (fun y => match y with | .int j => PV.int (absI j) | y => y) = (absI n :: ns.map absI).map PV.int := by
                    rw [List.map_map, ← List.map_cons, List.map_map]
                    rfl
                  rw [e]
                  refine ⟨upS_same, ?_⟩
                  simp only [dL, intsP_map, delS_upS hq]
                  have hm := formLe_max 99 hf
                  simp only [iP] at he
                  by_cases c : 99 < maxI (absI n) (ns.map absI)
                  · simp only [c, decide_true]
                    refine out _ ?_
                    rw [he, hm, decide_eq_false (by omega), Bool.false_and]
                  · simp only [c, decide_false]
                    refine hk _ _ ⟨rfl, rfl, ?_, _, _, rfl⟩
                    rw [he, hm, decide_eq_true (by omega), Bool.true_and]
            · obtain ⟨_, rfl, he, z1, z2, rfl⟩ := h
              rw [List.drop_length] at he
              unfold irP_is_cell_1
              walk_at "go"
              exact out _ (by rw [he]; rfl)
          · simp only [c2, decide_false, Bool.not_false]
            refine out _ ?_
            show (decide (0 ≤ i) && decide (i < (ws.length : Int)) && decide ((fs.length : Int) = ws.getD i.toNat 0) && fs.all fun f => formLe 99 f d) = false
            rw [decide_eq_false c2, Bool.and_false, Bool.false_and]
        | _ => exact out _ rfl
      · simp only [c0, c1, decide_true, decide_false, Bool.not_false]
        rw [List.length_map] at c1
        refine out _ ?_
        cases p <;> simp [cellOK, c1]
    · simp only [c0, decide_false, Bool.not_false]
      refine out _ ?_
      cases p <;> simp [cellOK, c0]
  | _ => exact out _ rfl
/-! is_great_form, is_read, is_deed -/
def GRE : Int := 1000000000000000000000000000000
def pP_is_great_form : Prm := { α := PV × Int, pre := fun z vs S => vs = [z.1, .int z.2] ∧ puv z.1 = true ∧ 0 ≤ z.2, post := fun z S r S' => r = .bl (formLe (GRE - 1) z.1 z.2) ∧ S' = S }
theorem kP_is_great_form {G : GE} (h1 : G.fn 1 = pP_is_form.sp) : Keeps G irP_is_great_form nP_is_great_form pP_is_great_form := fun z vs S Q E _ _ hp hq _ => by
  obtain ⟨x, d⟩ := z
  obtain ⟨rfl, hx, hd⟩ := hp
  simp only at hx hd
  have out : ∀ b, formLe (GRE - 1) x d = b → Q (.bl b) S := fun b h => hq _ _ ⟨by rw [← h], rfl⟩
  clear hq
  rw [show startS nP_is_great_form [x, .int d] = [some x, some (.int d), none] from rfl]
  unfold irP_is_great_form
  walk_at "go"
  refine Prm.call h1 (fun _ _ _ _ => id) (x, d) ⟨rfl, hx⟩ fun r S h => ?_
  obtain ⟨rfl, rfl⟩ := h
  walk_at "go"
  cases hf : formP x d with
  | false => exact out _ (by simp [formLe, hf])
  | true =>
    obtain ⟨n, ns, rfl, hl⟩ := form_ints hd hf
    simp only [iP, dQ] at hf ⊢
    intro q hq
    refine comp_map (fun y => match y with | .int j => .int (absI j) | y => y) hq (fun acc => trivial) (fun j y acc k hy ha hk' => ?_) ?_
    · rw [List.getElem?_map] at hy
      obtain ⟨b, _, rfl⟩ := Option.map_eq_some_iff.mp hy
      simp only [tgD, wipeS, List.set_cons_zero, List.set_cons_succ, List.getElem?_cons_zero, List.getElem?_cons_succ, upS_same, upS_upS]
      exact ⟨trivial, hk'⟩
    · have e : ((n :: ns).map PV.int).map (fun y => match y with | .int j => PV.int (absI j) | y => y) = (absI n :: ns.map absI).map PV.int := by
        rw [List.map_map, ← List.map_cons, List.map_map]
        rfl
      rw [e]
      refine ⟨upS_same, ?_⟩
      simp only [dL, intsP_map, delS_upS hq]
      refine out _ ?_
      rw [show iP (n :: ns) = .tup ((n :: ns).map .int) from rfl, formLe_max (GRE - 1) hf]
      exact decide_eq_decide.mpr ⟨fun h => by unfold GRE at h; omega, fun h => by unfold GRE; omega⟩
def readOK (ws : List Int) (d : Int) (x : PV) : Bool := match x with
  | .tup [.int f, t, p] => decide (absI f < GRE) && cellOK ws d t p
  | _ => false
structure RdA where
  ws : List Int
  d : Int
  x : PV
def pP_is_read : Prm := { α := RdA, pre := fun z vs S => vs = [iP z.ws, .int z.d, z.x] ∧ puv z.x = true ∧ 0 ≤ z.d, post := fun z S r S' => r = .bl (readOK z.ws z.d z.x) ∧ S' = S }
theorem kP_is_read {G : GE} (h11 : G.fn 11 = pP_is_cell.sp) (h9 : G.fn 9 = pP_is_tuple_of.sp) (h0 : G.fn 0 = pP_is_whole.sp) : Keeps G irP_is_read nP_is_read pP_is_read := fun z vs S Q E _ _ hp hq _ => by
  obtain ⟨ws, d, x⟩ := z
  obtain ⟨rfl, hx, hd⟩ := hp
  simp only at hx hd
  have out : ∀ b, readOK ws d x = b → Q (.bl b) S := fun b h => hq _ _ ⟨by rw [← h], rfl⟩
  clear hq
  rw [show startS nP_is_read [iP ws, .int d, x] = [some (iP ws), some (.int d), some x] from rfl]
  unfold irP_is_read
  walk_at "go"
  refine Prm.call h9 (fun _ _ _ _ => id) ⟨x, 3, 3⟩ ⟨rfl, hx⟩ fun r S h => ?_
  obtain ⟨rfl, rfl⟩ := h
  walk_at "go"
  cases ht : tupP x 3 3 with
  | false =>
    simp only [Bool.not_false]
    refine out _ ?_
    unfold readOK
    split
    · simp [tupP] at ht
    · rfl
  | true =>
    have h3 : ∃ a b c, x = .tup [a, b, c] := by
      cases x with
      | tup xs =>
        simp only [tupP, Bool.and_eq_true, decide_eq_true_eq] at ht
        match xs, ht with
        | [a, b, c], _ => exact ⟨a, b, c, rfl⟩
        | [], ht => simp at ht
        | [_], ht => simp at ht
        | [_, _], ht => simp at ht
        | _ :: _ :: _ :: _ :: _, ht => simp at ht; omega
      | _ => cases ht
    obtain ⟨a, b, c, rfl⟩ := h3
    simp only [puv, puvs, Bool.and_true, Bool.and_eq_true] at hx
    have i0 : L2.atI [a, b, c] 0 = some a := rfl
    have i1 : L2.atI [a, b, c] 1 = some b := rfl
    have i2 : L2.atI [a, b, c] 2 = some c := rfl
    simp only [Bool.not_true, dQ, i0]
    refine Prm.call h0 (fun _ _ _ _ => id) a ⟨rfl, hx.1⟩ fun r S h => ?_
    obtain ⟨rfl, rfl⟩ := h
    walk_at "go"
    cases a with
    | int f =>
      simp only [isI, Bool.not_true]
      by_cases c0 : GRE ≤ absI f
      · have c0' : (1000000000000000000000000000000 : Int) ≤ if f < 0 then -f else f := c0
        simp only [c0', decide_true]
        refine out _ ?_
        show (decide (absI f < GRE) && _) = false
        rw [decide_eq_false (by omega), Bool.false_and]
      · have c0' : ¬ (1000000000000000000000000000000 : Int) ≤ if f < 0 then -f else f := c0
        simp only [c0', decide_false]
        unfold irP_is_read_1
        walk_at "go"
        simp only [dQ, i1, i2]
        refine Prm.call h11 (fun _ _ _ _ => id) ⟨ws, d, b, c⟩ ⟨rfl, hx.2.1, hx.2.2, hd⟩ fun r S h => ?_
        obtain ⟨rfl, rfl⟩ := h
        refine out _ ?_
        show (decide (absI f < GRE) && _) = _
        rw [decide_eq_true (by omega), Bool.true_and]
    | _ => exact out _ rfl
def readsOK (ws : List Int) (d : Int) (r : PV) : Bool := match r with
  | .tup rs => rs.all (readOK ws d)
  | _ => false
def deedOK (ws : List Int) (d : Int) (x : PV) : Bool := match x with
  | .tup [t, p, s, r] => cellOK ws d t p && formLe (GRE - 1) s d && tupP r 0 3 && readsOK ws d r
  | _ => false
def pP_is_deed : Prm := { α := RdA, pre := fun z vs S => vs = [iP z.ws, .int z.d, z.x] ∧ puv z.x = true ∧ 0 ≤ z.d, post := fun z S r S' => r = .bl (deedOK z.ws z.d z.x) ∧ S' = S }
theorem kP_is_deed {G : GE} (h9 : G.fn 9 = pP_is_tuple_of.sp) (h11 : G.fn 11 = pP_is_cell.sp) (h12 : G.fn 12 = pP_is_great_form.sp) (h13 : G.fn 13 = pP_is_read.sp) : Keeps G irP_is_deed nP_is_deed pP_is_deed := fun z vs S Q E _ _ hp hq _ => by
  obtain ⟨ws, d, x⟩ := z
  obtain ⟨rfl, hx, hd⟩ := hp
  simp only at hx hd
  have out : ∀ b, deedOK ws d x = b → Q (.bl b) S := fun b h => hq _ _ ⟨by rw [← h], rfl⟩
  clear hq
  rw [show startS nP_is_deed [iP ws, .int d, x] = [some (iP ws), some (.int d), some x, none] from rfl]
  unfold irP_is_deed
  walk_at "go"
  refine Prm.call h9 (fun _ _ _ _ => id) ⟨x, 4, 4⟩ ⟨rfl, hx⟩ fun r S h => ?_
  obtain ⟨rfl, rfl⟩ := h
  walk_at "go"
  cases ht : tupP x 4 4 with
  | false =>
    simp only [Bool.not_false]
    refine out _ ?_
    unfold deedOK
    split
    · simp [tupP] at ht
    · rfl
  | true =>
    have h3 : ∃ a b c e, x = .tup [a, b, c, e] := by
      cases x with
      | tup xs =>
        simp only [tupP, Bool.and_eq_true, decide_eq_true_eq] at ht
        match xs, ht with
        | [a, b, c, e], _ => exact ⟨a, b, c, e, rfl⟩
        | [], ht => simp at ht
        | [_], ht => simp at ht
        | [_, _], ht => simp at ht
        | [_, _, _], ht => simp at ht
        | _ :: _ :: _ :: _ :: _ :: _, ht => simp at ht; omega
      | _ => cases ht
    obtain ⟨a, b, c, e, rfl⟩ := h3
    simp only [puv, puvs, Bool.and_true, Bool.and_eq_true] at hx
    have i0 : L2.atI [a, b, c, e] 0 = some a := rfl
    have i1 : L2.atI [a, b, c, e] 1 = some b := rfl
    have i2 : L2.atI [a, b, c, e] 2 = some c := rfl
    have i3 : L2.atI [a, b, c, e] 3 = some e := rfl
    have hD : deedOK ws d (.tup [a, b, c, e]) = (cellOK ws d a b && formLe (GRE - 1) c d && tupP e 0 3 && readsOK ws d e) := rfl
    rw [hD] at out
    simp only [Bool.not_true, dQ, i0, i1]
    refine Prm.call h11 (fun _ _ _ _ => id) ⟨ws, d, a, b⟩ ⟨rfl, hx.1, hx.2.1, hd⟩ fun r S h => ?_
    obtain ⟨rfl, rfl⟩ := h
    walk_at "go"
    cases h1 : cellOK ws d a b with
    | false => exact out _ (by rw [h1]; rfl)
    | true =>
      simp only [Bool.not_true, dQ, i2]
      refine Prm.call h12 (fun _ _ _ _ => id) (c, d) ⟨rfl, hx.2.2.1, hd⟩ fun r S h => ?_
      obtain ⟨rfl, rfl⟩ := h
      walk_at "go"
      cases h2 : formLe (GRE - 1) c d with
      | false => exact out _ (by rw [h1, h2]; rfl)
      | true =>
        simp only [Bool.not_true]
        unfold irP_is_deed_1
        walk_at "go"
        simp only [dQ, i3]
        refine Prm.call h9 (fun _ _ _ _ => id) ⟨e, 0, 3⟩ ⟨rfl, hx.2.2.2⟩ fun r S h => ?_
        obtain ⟨rfl, rfl⟩ := h
        walk_at "go"
        cases h3 : tupP e 0 3 with
        | false => exact out _ (by rw [h1, h2, h3]; rfl)
        | true =>
          cases e with
          | tup rs =>
            simp only [dQ]
            intro p hp
            refine comp_map (fun y => .bl (readOK ws d y)) hp (fun acc => trivial) (fun i y acc k hi ha hk => ?_) ?_
            · simp only [tgD, wipeS, List.set_cons_zero, List.set_cons_succ, List.getElem?_cons_zero, List.getElem?_cons_succ]
              refine Prm.call h13 (fun _ _ _ _ => id) ⟨ws, d, y⟩ ⟨rfl, puvs_mem hx.2.2.2 y (List.mem_of_getElem? hi), hd⟩ fun r S h => ?_
              obtain ⟨rfl, rfl⟩ := h
              simpa only [frzQ, upS_same, upS_upS, true_and] using hk
            · refine ⟨upS_same, ?_⟩
              simp only [dL, blsP_map2, delS_upS hp, all_id]
              exact out _ (by rw [h1, h2, h3]; rfl)
          | _ => cases h3
end DL
end
section
set_option maxRecDepth 100000
set_option maxHeartbeats 1000000
/-! Programs as data. -/
namespace DL
open PySem PySem.Spec L2
open PyProof.Rows hiding St wpS

structure Rdd where
  fac : Int
  tab : Int
  pl : List Frm
structure Ddd where
  tab : Int
  pl : List Frm
  st : Frm
  rds : List Rdd
structure Nst where
  lps : List (Frm × Frm)
  dds : List Ddd
structure Pgm where
  wid : List Int
  nst : List Nst
def plP (pl : List Frm) : PV := .tup (pl.map fP)
def rdP (r : Rdd) : PV := .tup [.int r.fac, .int r.tab, plP r.pl]
def ddP (d : Ddd) : PV := .tup [.int d.tab, plP d.pl, fP d.st, .tup (d.rds.map rdP)]
def nsP (n : Nst) : PV := .tup [lsP n.lps, .tup (n.dds.map ddP)]
def nssP (l : List Nst) : PV := .tup (l.map nsP)
def pgP (p : Pgm) : PV := .tup [iP p.wid, nssP p.nst]
theorem plP_inj {a b : List Frm} (h : plP a = plP b) : a = b := map_inj (fun _ _ => fP_inj) (PV.tup.inj h)
theorem rdP_inj (a b : Rdd) (h : rdP a = rdP b) : a = b := by
  have h := PV.tup.inj h
  simp only [List.cons.injEq, PV.int.injEq, and_true] at h
  obtain ⟨a1, a2, a3⟩ := a
  obtain ⟨b1, b2, b3⟩ := b
  obtain ⟨h1, h2, h3⟩ := h
  have e3 := plP_inj h3
  simp only at h1 h2 e3
  rw [h1, h2, e3]
theorem ddP_inj (a b : Ddd) (h : ddP a = ddP b) : a = b := by
  have h := PV.tup.inj h
  simp only [List.cons.injEq, PV.int.injEq, PV.tup.injEq, and_true] at h
  obtain ⟨a1, a2, a3, a4⟩ := a
  obtain ⟨b1, b2, b3, b4⟩ := b
  obtain ⟨h1, h2, h3, h4⟩ := h
  have e2 := plP_inj h2
  have e3 := fP_inj h3
  have e4 := map_inj rdP_inj h4
  simp only at h1 e2 e3 e4
  rw [h1, e2, e3, e4]
theorem nsP_inj (a b : Nst) (h : nsP a = nsP b) : a = b := by
  have h := PV.tup.inj h
  simp only [List.cons.injEq, PV.tup.injEq, and_true] at h
  obtain ⟨a1, a2⟩ := a
  obtain ⟨b1, b2⟩ := b
  have e1 := lsP_inj h.1
  have e2 := map_inj ddP_inj h.2
  simp only at e1 e2
  rw [e1, e2]
theorem nssP_inj {a b : List Nst} (h : nssP a = nssP b) : a = b := map_inj nsP_inj (PV.tup.inj h)
theorem pgP_inj {a b : Pgm} (h : pgP a = pgP b) : a = b := by
  have h := PV.tup.inj h
  simp only [List.cons.injEq, and_true] at h
  obtain ⟨a1, a2⟩ := a
  obtain ⟨b1, b2⟩ := b
  have e1 := iP_inj h.1
  have e2 := nssP_inj h.2
  simp only at e1 e2
  rw [e1, e2]
/-! pure values -/
theorem puv_ints : ∀ ns : List Int, puvs (ns.map PV.int) = true
  | [] => rfl
  | n :: ns => by simp only [List.map_cons, puvs, puv, puv_ints ns]; rfl
theorem puv_iP (ns : List Int) : puv (iP ns) = true := puv_ints ns
theorem puv_fP (f : Frm) : puv (fP f) = true := puv_ints _
theorem puvs_map {α : Type} {f : α → PV} (h : ∀ a, puv (f a) = true) : ∀ l : List α, puvs (l.map f) = true
  | [] => rfl
  | a :: l => by simp only [List.map_cons, puvs, h a, puvs_map h l]; rfl
theorem puv_plP (pl : List Frm) : puv (plP pl) = true := puvs_map puv_fP pl
theorem puv_lP (p : Frm × Frm) : puv (lP p) = true := by simp only [lP, puv, puvs, puv_fP]; rfl
theorem puv_lsP (L : List (Frm × Frm)) : puv (lsP L) = true := puvs_map puv_lP L
theorem puv_rdP (r : Rdd) : puv (rdP r) = true := by simp only [rdP, puv, puvs, puv_plP]; rfl
theorem puv_ddP (d : Ddd) : puv (ddP d) = true := by
  have : puvs (d.rds.map rdP) = true := puvs_map puv_rdP _
  simp only [ddP, puv, puvs, puv_plP, puv_fP, this]; rfl
theorem puv_nsP (n : Nst) : puv (nsP n) = true := by
  have : puvs (n.dds.map ddP) = true := puvs_map puv_ddP _
  simp only [nsP, puv, puvs, puv_lsP, this]; rfl
theorem puv_nssP (l : List Nst) : puv (nssP l) = true := puvs_map puv_nsP l
theorem puv_pgP (p : Pgm) : puv (pgP p) = true := by simp only [pgP, puv, puvs, puv_iP, puv_nssP]; rfl
/-! forms -/
def FrmLe (m : Int) (d : Nat) (f : Frm) : Prop := f.2.length = d ∧ absI f.1 ≤ m ∧ ∀ n ∈ f.2, absI n ≤ m
theorem form_iff {f : Frm} {d : Nat} : formP (fP f) d = true ↔ f.2.length = d := by
  constructor
  · intro h
    obtain ⟨n, ns, e, hl⟩ := form_ints (by omega) h
    have := iP_inj e
    simp only [List.cons.injEq] at this
    rw [this.2]; omega
  · rintro rfl
    exact form_of f.1 f.2
theorem smalls_iff {m : Int} {ns : List Int} : (ns.map PV.int).all (smallP m) = true ↔ ∀ n ∈ ns, absI n ≤ m := by
  rw [small_all, List.all_eq_true]
  simp only [decide_eq_true_iff]
theorem formLe_iff {m : Int} {f : Frm} {d : Nat} : formLe m (fP f) d = true ↔ FrmLe m d f := by
  show (formP (fP f) d && ((f.1 :: f.2).map PV.int).all (smallP m)) = true ↔ _
  rw [Bool.and_eq_true, form_iff, smalls_iff]
  unfold FrmLe
  simp only [List.mem_cons, forall_eq_or_imp]
theorem formLe_typed {m : Int} {x : PV} {d : Nat} (h : formLe m x d = true) : ∃ f, x = fP f ∧ FrmLe m d f := by
  have h1 : formP x d = true := by
    unfold formLe at h
    rw [Bool.and_eq_true] at h
    exact h.1
  obtain ⟨n, ns, rfl, hl⟩ := form_ints (by omega) h1
  exact ⟨(n, ns), rfl, formLe_iff.mp h⟩
theorem boundP_iff {f : Frm} {d : Nat} : boundP (fP f) d = true ↔ BoundF f ∧ f.2.length = d := by
  show (formP (fP f) d && (smallP 9 (.int f.1) && (f.2.map PV.int).all (smallP 2))) = true ↔ _
  rw [Bool.and_eq_true, form_iff, Bool.and_eq_true, smalls_iff]
  simp only [smallP, decide_eq_true_iff]
  unfold BoundF absI
  constructor
  · rintro ⟨h1, h2, h3⟩
    refine ⟨⟨by split at h2 <;> omega, fun n hn => ?_⟩, h1⟩
    have := h3 n hn
    split at this <;> omega
  · rintro ⟨⟨h1, h2⟩, h3⟩
    refine ⟨h3, by split <;> omega, fun n hn => ?_⟩
    have := h2 n hn
    split <;> omega
theorem boundP_typed {x : PV} {d : Nat} (h : boundP x d = true) : ∃ f, x = fP f ∧ BoundF f ∧ f.2.length = d := by
  have h1 : formP x d = true := by
    unfold boundP at h
    rw [Bool.and_eq_true] at h
    exact h.1
  obtain ⟨n, ns, rfl, hl⟩ := form_ints (by omega) h1
  exact ⟨(n, ns), rfl, boundP_iff.mp h⟩
theorem loopsFrom_typed : ∀ {k : Nat} {xs : List PV}, loopsFrom k xs = true → ∃ L : List (Frm × Frm), xs = L.map lP ∧ LpsOK k L
  | k, [], _ => ⟨[], rfl, fun j p h => by simp at h⟩
  | k, x :: xs, h => by
    simp only [loopsFrom, Bool.and_eq_true] at h
    obtain ⟨L, rfl, hL⟩ := loopsFrom_typed h.2
    have h1 := h.1
    unfold loopP at h1
    split at h1
    · rename_i a b
      rw [Bool.and_eq_true] at h1
      obtain ⟨f, rfl, f1, f2⟩ := boundP_typed h1.1
      obtain ⟨g, rfl, g1, g2⟩ := boundP_typed h1.2
      refine ⟨(f, g) :: L, rfl, fun j p hj => ?_⟩
      cases j with
      | zero => simp at hj; subst hj; exact ⟨⟨f1, g1⟩, f2, g2⟩
      | succ j =>
        have := hL j p (by simpa using hj)
        exact ⟨this.1, by omega, by omega⟩
    · cases h1
theorem loopsFrom_of : ∀ {k : Nat} {L : List (Frm × Frm)}, LpsOK k L → loopsFrom k (L.map lP) = true
  | _, [], _ => rfl
  | k, p :: L, h => by
    obtain ⟨⟨b1, b2⟩, l1, l2⟩ := h 0 p rfl
    have ih := loopsFrom_of (k := k + 1) (L := L) fun j q hj => by
      have := h (j + 1) q (by simpa using hj)
      exact ⟨this.1, by omega, by omega⟩
    simp only [List.map_cons, loopsFrom, ih, Bool.and_true]
    show (boundP (fP p.1) k && boundP (fP p.2) k) = true
    rw [boundP_iff.mpr ⟨b1, by omega⟩, boundP_iff.mpr ⟨b2, by omega⟩]
    rfl
def LsOK (L : List (Frm × Frm)) : Prop := LpsOK 0 L ∧ 1 ≤ L.length ∧ L.length ≤ 3
theorem loopsP_typed {x : PV} (h : loopsP x = true) : ∃ L, x = lsP L ∧ LsOK L := by
  cases x with
  | tup xs =>
    simp only [loopsP, Bool.and_eq_true, decide_eq_true_eq] at h
    obtain ⟨L, rfl, hL⟩ := loopsFrom_typed h.2
    rw [List.length_map] at h
    exact ⟨L, rfl, hL, h.1.1, h.1.2⟩
  | _ => cases h
theorem loopsP_of {L : List (Frm × Frm)} (h : LsOK L) : loopsP (lsP L) = true := by
  show (decide (1 ≤ (L.map lP).length) && decide ((L.map lP).length ≤ 3) && loopsFrom 0 (L.map lP)) = true
  rw [List.length_map, decide_eq_true h.2.1, decide_eq_true h.2.2, loopsFrom_of h.1]
  rfl
theorem LsOK.cnt {L : List (Frm × Frm)} (h : LsOK L) : CntOK L [] := by
  refine cntOK_of L [] 9 (fun p hp => ?_) (fun c hc => by simp at hc) (by simp; exact h.2.2) (by decide) ?_
  · obtain ⟨j, hj⟩ := List.getElem?_of_mem hp
    exact (h.1 j p hj).1
  · have h3 := h.2.2
    have : L.length = 0 ∨ L.length = 1 ∨ L.length = 2 ∨ L.length = 3 := by omega
    rcases this with e | e | e | e <;> rw [e] <;> decide
/-! cells, reads, deeds -/
structure PlcOK (ws : List Int) (d : Nat) (t : Int) (pl : List Frm) : Prop where
  lo : 0 ≤ t
  hi : t < (ws.length : Int)
  len : (pl.length : Int) = ws.getD t.toNat 0
  fs : ∀ f ∈ pl, FrmLe 99 d f
theorem cell_iff {ws : List Int} {d : Nat} {t : Int} {pl : List Frm} : cellOK ws d (.int t) (plP pl) = true ↔ PlcOK ws d t pl := by
  show (decide (0 ≤ t) && decide (t < (ws.length : Int)) && decide (((pl.map fP).length : Int) = ws.getD t.toNat 0) && (pl.map fP).all fun f => formLe 99 f d) = true ↔ _
  simp only [Bool.and_eq_true, decide_eq_true_eq, List.length_map, List.all_map, List.all_eq_true, Function.comp]
  constructor
  · rintro ⟨⟨⟨a, b⟩, c⟩, e⟩
    exact ⟨a, b, c, fun f hf => formLe_iff.mp (e f hf)⟩
  · rintro ⟨a, b, c, e⟩
    exact ⟨⟨⟨a, b⟩, c⟩, fun f hf => formLe_iff.mpr (e f hf)⟩
theorem typed_list {α : Type} {f : α → PV} {p : PV → Bool} {R : α → Prop} (h : ∀ x, p x = true → ∃ a, x = f a ∧ R a) : ∀ {xs : List PV}, xs.all p = true → ∃ l : List α, xs = l.map f ∧ ∀ a ∈ l, R a
  | [], _ => ⟨[], rfl, fun a ha => by simp at ha⟩
  | x :: xs, hx => by
    rw [List.all_cons, Bool.and_eq_true] at hx
    obtain ⟨a, rfl, ra⟩ := h x hx.1
    obtain ⟨l, rfl, rl⟩ := typed_list h hx.2
    exact ⟨a :: l, rfl, fun b hb => by
      rcases List.mem_cons.mp hb with e | hb
      · rw [e]; exact ra
      · exact rl b hb⟩
theorem cell_typed {ws : List Int} {d : Nat} {t p : PV} (h : cellOK ws d t p = true) : ∃ i pl, t = .int i ∧ p = plP pl ∧ PlcOK ws d i pl := by
  unfold cellOK at h
  split at h
  · rename_i i fs
    have h' := h
    simp only [Bool.and_eq_true, decide_eq_true_eq] at h
    obtain ⟨l, rfl, hl⟩ := typed_list (f := fP) (R := FrmLe 99 d) (fun x hx => formLe_typed hx) h.2
    exact ⟨i, l, rfl, rfl, cell_iff.mp h'⟩
  · cases h
def RddOK (ws : List Int) (d : Nat) (r : Rdd) : Prop := absI r.fac < GRE ∧ PlcOK ws d r.tab r.pl
theorem read_iff {ws : List Int} {d : Nat} {r : Rdd} : readOK ws d (rdP r) = true ↔ RddOK ws d r := by
  show (decide (absI r.fac < GRE) && cellOK ws d (.int r.tab) (plP r.pl)) = true ↔ _
  rw [Bool.and_eq_true, decide_eq_true_eq, cell_iff]
  rfl
theorem read_typed {ws : List Int} {d : Nat} {x : PV} (h : readOK ws d x = true) : ∃ r, x = rdP r ∧ RddOK ws d r := by
  have h' := h
  unfold readOK at h
  split at h
  · rename_i f t p
    rw [Bool.and_eq_true] at h
    obtain ⟨i, pl, rfl, rfl, hp⟩ := cell_typed h.2
    exact ⟨⟨f, i, pl⟩, rfl, read_iff.mp h'⟩
  · cases h
structure DddOK (ws : List Int) (d : Nat) (x : Ddd) : Prop where
  set : PlcOK ws d x.tab x.pl
  st : FrmLe (GRE - 1) d x.st
  len : x.rds.length ≤ 3
  rds : ∀ r ∈ x.rds, RddOK ws d r
theorem reads_iff {ws : List Int} {d : Nat} {l : List Rdd} : readsOK ws d (.tup (l.map rdP)) = true ↔ ∀ r ∈ l, RddOK ws d r := by
  show (l.map rdP).all (readOK ws d) = true ↔ _
  simp only [List.all_map, List.all_eq_true, Function.comp, read_iff]
theorem deed_iff {ws : List Int} {d : Nat} {x : Ddd} : deedOK ws d (ddP x) = true ↔ DddOK ws d x := by
  show (cellOK ws d (.int x.tab) (plP x.pl) && formLe (GRE - 1) (fP x.st) d && tupP (.tup (x.rds.map rdP)) 0 3 && readsOK ws d (.tup (x.rds.map rdP))) = true ↔ _
  rw [Bool.and_eq_true, Bool.and_eq_true, Bool.and_eq_true, cell_iff, formLe_iff, reads_iff]
  simp only [tupP, Bool.and_eq_true, decide_eq_true_eq, List.length_map]
  constructor
  · rintro ⟨⟨⟨a, b⟩, _, c⟩, e⟩; exact ⟨a, b, by omega, e⟩
  · rintro ⟨a, b, c, e⟩; exact ⟨⟨⟨a, b⟩, by omega, by omega⟩, e⟩
theorem deed_typed {ws : List Int} {d : Nat} {x : PV} (h : deedOK ws d x = true) : ∃ y, x = ddP y ∧ DddOK ws d y := by
  have h' := h
  unfold deedOK at h
  split at h
  · rename_i t p s r
    simp only [Bool.and_eq_true] at h
    obtain ⟨i, pl, rfl, rfl, hp⟩ := cell_typed h.1.1.1
    obtain ⟨f, rfl, hf⟩ := formLe_typed h.1.1.2
    cases r with
    | tup rs =>
      obtain ⟨l, rfl, hl⟩ := typed_list (f := rdP) (R := RddOK ws d) (fun x hx => read_typed hx) h.2
      exact ⟨⟨i, pl, f, l⟩, rfl, deed_iff.mp h'⟩
    | _ => exact absurd h.2 (by simp [readsOK])
  · cases h
/-! nests, programs -/
def deedsOK (ws : List Int) (l d : PV) : Bool := match l, d with
  | .tup xs, .tup ds => ds.all (deedOK ws (xs.length : Nat))
  | _, _ => false
def nestOK (ws : List Int) (x : PV) : Bool := match x with
  | .tup [l, d] => loopsP l && tupP d 1 4 && deedsOK ws l d
  | _ => false
structure NstOK (ws : List Int) (n : Nst) : Prop where
  lps : LsOK n.lps
  lo : 1 ≤ n.dds.length
  hi : n.dds.length ≤ 4
  dds : ∀ d ∈ n.dds, DddOK ws n.lps.length d
theorem nest_iff {ws : List Int} {n : Nst} (hl : LsOK n.lps) : nestOK ws (nsP n) = true ↔ NstOK ws n := by
  show (loopsP (lsP n.lps) && tupP (.tup (n.dds.map ddP)) 1 4 && (n.dds.map ddP).all (deedOK ws ((n.lps.map lP).length : Nat))) = true ↔ _
  rw [loopsP_of hl]
  simp only [tupP, Bool.and_eq_true, decide_eq_true_eq, List.length_map, List.all_map, List.all_eq_true, Function.comp, deed_iff, true_and]
  constructor
  · rintro ⟨⟨a, b⟩, c⟩; exact ⟨hl, by omega, by omega, c⟩
  · rintro ⟨_, a, b, c⟩; exact ⟨⟨by omega, by omega⟩, c⟩
theorem nest_typed {ws : List Int} {x : PV} (h : nestOK ws x = true) : ∃ n, x = nsP n ∧ NstOK ws n := by
  have h' := h
  unfold nestOK at h
  split at h
  · rename_i l d
    simp only [Bool.and_eq_true] at h
    obtain ⟨L, rfl, hL⟩ := loopsP_typed h.1.1
    cases d with
    | tup ds =>
      obtain ⟨l, rfl, hl⟩ := typed_list (f := ddP) (R := DddOK ws (L.map lP).length) (fun x hx => deed_typed hx) h.2
      exact ⟨⟨L, l⟩, rfl, (nest_iff hL).mp h'⟩
    | _ => exact absurd h.2 (by simp [deedsOK, lsP])
  · cases h
def WidOK (ws : List Int) : Prop := 1 ≤ ws.length ∧ ws.length ≤ 3 ∧ ∀ w ∈ ws, 1 ≤ w ∧ w ≤ 2
theorem wids_iff {ws : List Int} : widsP (iP ws) = true ↔ WidOK ws := by
  show (tupP (.tup (ws.map .int)) 1 3 && (ws.map PV.int).all widP) = true ↔ _
  simp only [tupP, Bool.and_eq_true, decide_eq_true_eq, List.length_map, List.all_map, List.all_eq_true, Function.comp, widP]
  unfold WidOK
  constructor
  · rintro ⟨⟨a, b⟩, c⟩; exact ⟨by omega, by omega, c⟩
  · rintro ⟨a, b, c⟩; exact ⟨⟨by omega, by omega⟩, c⟩
theorem wids_typed {x : PV} (h : widsP x = true) : ∃ ws, x = iP ws ∧ WidOK ws := by
  cases x with
  | tup xs =>
    have h' := h
    simp only [widsP, Bool.and_eq_true] at h
    obtain ⟨l, rfl, hl⟩ := typed_list (f := PV.int) (R := fun _ => True) (fun x hx => by
      cases x with
      | int i => exact ⟨i, rfl, trivial⟩
      | _ => cases hx) h.2
    exact ⟨l, rfl, wids_iff.mp h'⟩
  | _ => cases h
structure PgmOK0 (P : Pgm) : Prop where
  wid : WidOK P.wid
  lo : 1 ≤ P.nst.length
  hi : P.nst.length ≤ 3
  nst : ∀ n ∈ P.nst, NstOK P.wid n
/-- how many counts, sixty-one where there are more -/
def manyN (n : Nst) : Int := n.dds.length * moreI (cntF n.lps []).length 60
def totalP (l : List Nst) : Int := (l.map manyN).sum
structure PgmOK (P : Pgm) : Prop extends PgmOK0 P where
  tot : totalP P.nst ≤ 60
def nestsOK (w n : PV) : Bool := match w, n with
  | .tup ws, .tup ns => (match intsP ws with
    | some ws => ns.all (nestOK ws)
    | none => false)
  | _, _ => false
def pgmOK (w n : PV) : Bool := widsP w && tupP n 1 3 && nestsOK w n
theorem intsM : ∀ ns : List Int, intsP (ns.map PV.int) = some ns
  | [] => rfl
  | n :: ns => by simp only [List.map_cons, intsP, intsM ns]
theorem pgm_typed {w n : PV} (h : pgmOK w n = true) : ∃ P : Pgm, w = iP P.wid ∧ n = nssP P.nst ∧ PgmOK0 P := by
  unfold pgmOK at h
  simp only [Bool.and_eq_true] at h
  obtain ⟨ws, rfl, hw⟩ := wids_typed h.1.1
  cases n with
  | tup ns =>
    have h2 := h.2
    simp only [nestsOK, iP, intsM] at h2
    obtain ⟨l, rfl, hl⟩ := typed_list (f := nsP) (R := NstOK ws) (fun x hx => nest_typed hx) h2
    have h1 := h.1.2
    simp only [tupP, Bool.and_eq_true, decide_eq_true_eq, List.length_map] at h1
    exact ⟨⟨ws, l⟩, rfl, rfl, hw, by show 1 ≤ l.length; omega, by show l.length ≤ 3; omega, hl⟩
  | _ => exact absurd h.2 (by simp [nestsOK, iP])
theorem pgm_of {P : Pgm} (h : PgmOK0 P) : pgmOK (iP P.wid) (nssP P.nst) = true := by
  unfold pgmOK
  rw [wids_iff.mpr h.wid]
  have h1 : tupP (nssP P.nst) 1 3 = true := by
    simp only [tupP, nssP, Bool.and_eq_true, decide_eq_true_eq, List.length_map]
    have := h.lo
    have := h.hi
    omega
  have h2 : nestsOK (iP P.wid) (nssP P.nst) = true := by
    simp only [nestsOK, iP, nssP, intsM, List.all_map, List.all_eq_true, Function.comp]
    intro n hn
    exact (nest_iff (h.nst n hn).lps).mpr (h.nst n hn)
  rw [h1, h2]
  rfl
end DL
end
section
set_option maxRecDepth 100000
set_option maxHeartbeats 1000000
/-! is_nest, program_of. -/
namespace DL
open PySem PySem.Spec L2
open PyProof.Rows hiding St wpS
local macro_rules | `(tactic| walk_at "wp") => `(tactic| simp only [wpSs, wpS, wpE, wpEs, wpT, wpC, wpO, wpL, wpI, wpH, List.getElem?_cons_zero, List.getElem?_cons_succ, List.set_cons_zero, List.set_cons_succ])
local macro_rules | `(tactic| walk_at "go") => `(tactic| simp only [wpSs, wpS, wpE, wpEs, wpT, wpC, wpO, wpL, wpI, wpH, List.getElem?_cons_zero, List.getElem?_cons_succ, List.set_cons_zero, List.set_cons_succ, biD, dQ, dL, cmpD, eqD, truD, idxD, binD, tgD, tgDs, frzQ, newL, List.any_cons, List.any_nil, Bool.or_false])
structure NeA where
  ws : List Int
  x : PV
def pP_is_nest : Prm := { α := NeA, pre := fun z vs S => vs = [iP z.ws, z.x] ∧ puv z.x = true, post := fun z S r S' => r = .bl (nestOK z.ws z.x) ∧ S' = S }
theorem two_of {x : PV} {n : Int} (h : tupP x 2 2 = true) : ∃ a b, x = .tup [a, b] := by
  cases x with
  | tup xs =>
    simp only [tupP, Bool.and_eq_true, decide_eq_true_eq] at h
    match xs, h with
    | [a, b], _ => exact ⟨a, b, rfl⟩
    | [], h => simp at h
    | [_], h => simp at h
    | _ :: _ :: _ :: _, h => simp at h; omega
  | _ => cases h
theorem kP_is_nest {G : GE} (h9 : G.fn 9 = pP_is_tuple_of.sp) (h4 : G.fn 4 = pP_is_loops.sp) (h14 : G.fn 14 = pP_is_deed.sp) : Keeps G irP_is_nest nP_is_nest pP_is_nest := fun z vs S Q E _ _ hp hq _ => by
  obtain ⟨ws, x⟩ := z
  obtain ⟨rfl, hx⟩ := hp
  simp only at hx
  have out : ∀ b, nestOK ws x = b → Q (.bl b) S := fun b h => hq _ _ ⟨by rw [← h], rfl⟩
  clear hq
  rw [show startS nP_is_nest [iP ws, x] = [some (iP ws), some x, none] from rfl]
  unfold irP_is_nest
  walk_at "go"
  refine Prm.call h9 (fun _ _ _ _ => id) ⟨x, 2, 2⟩ ⟨rfl, hx⟩ fun r S h => ?_
  obtain ⟨rfl, rfl⟩ := h
  walk_at "go"
  cases ht : tupP x 2 2 with
  | false =>
    simp only [Bool.not_false]
    refine out _ ?_
    unfold nestOK
    split
    · simp [tupP] at ht
    · rfl
  | true =>
    obtain ⟨a, b, rfl⟩ := two_of (n := 0) ht
    simp only [puv, puvs, Bool.and_true, Bool.and_eq_true] at hx
    have i0 : L2.atI [a, b] 0 = some a := rfl
    have i1 : L2.atI [a, b] 1 = some b := rfl
    have hD : nestOK ws (.tup [a, b]) = (loopsP a && tupP b 1 4 && deedsOK ws a b) := rfl
    rw [hD] at out
    simp only [Bool.not_true, dQ, i0, i1]
    refine Prm.call h4 (fun _ _ _ _ => id) a ⟨rfl, hx.1⟩ fun r S h => ?_
    obtain ⟨rfl, rfl⟩ := h
    walk_at "go"
    cases h1 : loopsP a with
    | false => exact out _ (by rw [h1]; rfl)
    | true =>
      simp only [Bool.not_true, dQ, i1]
      refine Prm.call h9 (fun _ _ _ _ => id) ⟨b, 1, 4⟩ ⟨rfl, hx.2⟩ fun r S h => ?_
      obtain ⟨rfl, rfl⟩ := h
      walk_at "go"
      cases h2 : tupP b 1 4 with
      | false => exact out _ (by rw [h1, h2]; rfl)
      | true =>
        simp only [Bool.not_true]
        unfold irP_is_nest_1
        walk_at "go"
        simp only [dQ, i1]
        cases b with
        | tup ds =>
          cases a with
          | tup xs =>
            simp only [dQ]
            intro p hp
            refine comp_map (fun y => .bl (deedOK ws (xs.length : Nat) y)) hp (fun acc => trivial) (fun i y acc k hi ha hk => ?_) ?_
            · simp only [tgD, wipeS, List.set_cons_zero, List.set_cons_succ, List.getElem?_cons_zero, List.getElem?_cons_succ, i0, dQ]
              refine Prm.call h14 (fun _ _ _ _ => id) ⟨ws, (xs.length : Nat), y⟩ ⟨rfl, puvs_mem hx.2 y (List.mem_of_getElem? hi), by show (0 : Int) ≤ (xs.length : Nat); omega⟩ fun r S h => ?_
              obtain ⟨rfl, rfl⟩ := h
              simpa only [frzQ, upS_same, upS_upS, true_and] using hk
            · refine ⟨upS_same, ?_⟩
              simp only [dL, blsP_map2, delS_upS hp, all_id]
              exact out _ (by rw [h1, h2]; rfl)
          | _ => cases h1
        | _ => cases h2
def pP_program_of : Prm :=
  { α := PV × PV, pre := fun z vs S => vs = [z.1, z.2] ∧ puv z.1 = true ∧ puv z.2 = true
    post := fun z S r S' => ∃ P : Pgm, z = (iP P.wid, nssP P.nst) ∧ PgmOK P ∧ r = pgP P ∧ S' = S
    xp := fun z S e S' => S' = S ∧ ((e = ⟨"NoProgram", []⟩ ∧ pgmOK z.1 z.2 = false) ∨ (e = ⟨"TooMany", []⟩ ∧ ∃ P : Pgm, z = (iP P.wid, nssP P.nst) ∧ PgmOK0 P ∧ 60 < totalP P.nst)) }
theorem moreI_nn (n : Nat) {m : Int} (h : 0 ≤ m) : 0 ≤ moreI n m ∧ moreI n m ≤ m + 1 := by
  unfold moreI
  split <;> omega
theorem kP_program_of {G : GE} (h10 : G.fn 10 = pP_are_widths.sp) (h9 : G.fn 9 = pP_is_tuple_of.sp) (h15 : G.fn 15 = pP_is_nest.sp) (h8 : G.fn 8 = pP_how_many.sp) : Keeps G irP_program_of nP_program_of pP_program_of := fun z vs S Q E _ _ hp hq hx => by
  obtain ⟨w, n⟩ := z
  obtain ⟨rfl, hw, hn⟩ := hp
  simp only at hw hn
  have bad : pgmOK w n = false → E ⟨"NoProgram", []⟩ S := fun h => hx _ _ ⟨rfl, .inl ⟨rfl, h⟩⟩
  have many : ∀ P : Pgm, w = iP P.wid → n = nssP P.nst → PgmOK0 P → 60 < totalP P.nst → E ⟨"TooMany", []⟩ S := fun P e1 e2 h1 h2 => hx _ _ ⟨rfl, .inr ⟨rfl, P, by rw [e1, e2], h1, h2⟩⟩
  have good : ∀ P : Pgm, w = iP P.wid → n = nssP P.nst → PgmOK0 P → totalP P.nst ≤ 60 → Q (.tup [w, n]) S := fun P e1 e2 h1 h2 => hq _ _ ⟨P, by rw [e1, e2], ⟨h1, h2⟩, by rw [e1, e2]; rfl, rfl⟩
  clear hq hx
  rw [show startS nP_program_of [w, n] = [some w, some n, none, none, none, none] from rfl]
  unfold irP_program_of
  walk_at "go"
  refine Prm.call h10 (fun _ _ _ _ => id) w ⟨rfl, hw⟩ fun r S h => ?_
  obtain ⟨rfl, rfl⟩ := h
  walk_at "go"
  cases c1 : widsP w with
  | false => exact bad (by unfold pgmOK; rw [c1]; rfl)
  | true =>
    simp only [Bool.not_true]
    refine Prm.call h9 (fun _ _ _ _ => id) ⟨n, 1, 3⟩ ⟨rfl, hn⟩ fun r S h => ?_
    obtain ⟨rfl, rfl⟩ := h
    walk_at "go"
    cases c2 : tupP n 1 3 with
    | false => exact bad (by unfold pgmOK; rw [c1, c2]; rfl)
    | true =>
      simp only [Bool.not_true]
      obtain ⟨ws, rfl, hws⟩ := wids_typed c1
      cases n with
      | tup ns =>
        have hB : pgmOK (iP ws) (.tup ns) = ns.all (nestOK ws) := by
          unfold pgmOK
          rw [c1, c2]
          simp only [nestsOK, iP, intsM, Bool.true_and]
        rw [hB] at bad
        unfold irP_program_of_5
        walk_at "go"
        refine itL_inv (fun j σ S' => S' = S' ∧ S' = S ∧ ns.all (nestOK ws) = (ns.drop j).all (nestOK ws) ∧ ∃ z1, σ = [some (iP ws), some (.tup ns), z1, none, none, none]) ⟨rfl, rfl, by simp, none, rfl⟩ (fun _ _ _ _ => trivial) (fun j x σ S k hx h hk => ?_) fun σ S h => ?_
        · obtain ⟨_, rfl, he, z1, rfl⟩ := h
          have hlt := (List.getElem?_eq_some_iff.mp hx).1
          have hdrop : ns.drop j = x :: ns.drop (j + 1) := by
            rw [List.drop_eq_getElem_cons hlt, (List.getElem?_eq_some_iff.mp hx).2]
          rw [hdrop, List.all_cons] at he
          walk_at "go"
          refine Prm.call h15 (fun _ _ _ _ => id) ⟨ws, x⟩ ⟨rfl, puvs_mem hn x (List.mem_of_getElem? hx)⟩ fun r S h => ?_
          obtain ⟨rfl, rfl⟩ := h
          walk_at "go"
          cases c3 : nestOK ws x with
          | false => exact bad (by rw [he, c3]; rfl)
          | true => exact hk _ _ ⟨rfl, rfl, by rw [he, c3, Bool.true_and], _, rfl⟩
        · obtain ⟨_, rfl, he, z1, rfl⟩ := h
          rw [List.drop_length] at he
          have hok : pgmOK (iP ws) (.tup ns) = true := by rw [hB, he]; rfl
          obtain ⟨P, e1, e2, hP⟩ := pgm_typed hok
          have e1 := iP_inj e1
          subst e1
          have e2' : ns = P.nst.map nsP := PV.tup.inj e2
          subst e2'
          have good := good P rfl rfl hP
          have many := many P rfl rfl hP
          unfold irP_program_of_4
          walk_at "go"
          unfold irP_program_of_3
          walk_at "go"
          refine itL_inv (fun j σ S' => S' = S' ∧ S' = S ∧ ∃ z1 z2, σ = [some (iP P.wid), some (.tup (P.nst.map nsP)), z1.1, some (.int (totalP (P.nst.take j))), z1.2, z2]) ⟨rfl, rfl, (_, _), none, rfl⟩ (fun _ _ _ _ => trivial) (fun j x σ S k hx h hk => ?_) fun σ S h => ?_
          · obtain ⟨_, rfl, z1, z2, rfl⟩ := h
            rw [List.getElem?_map] at hx
            obtain ⟨n, hn1, rfl⟩ := Option.map_eq_some_iff.mp hx
            have hN := hP.nst n (List.mem_of_getElem? hn1)
            have hc := hN.lps.cnt
            have hl3 := hN.lps.2.2
            simp only [nsP]
            walk_at "go"
            refine Prm.call h8 (fun _ _ _ _ => id) (n.lps, 60) ⟨rfl, hc, by show (0 : Int) ≤ 60; decide, by show n.lps.length ≤ 10; omega⟩ fun r S h => ?_
            obtain ⟨rfl, rfl⟩ := h
            walk_at "go"
            have hmm := moreI_nn (cntF n.lps []).length (m := 60) (by decide)
            refine ⟨.inl (.inr ⟨by omega, by omega⟩), hk _ _ ⟨rfl, rfl, (z1.1, some (lsP n.lps)), some (.tup (n.dds.map ddP)), ?_⟩⟩
            rw [List.take_add_one, hn1]
            simp only [totalP, manyN, List.map_append, List.sum_append, Option.toList_some, List.map_cons, List.map_nil, List.sum_cons, List.sum_nil, List.length_map, Int.add_zero]
          · obtain ⟨_, rfl, z1, z2, rfl⟩ := h
            rw [List.length_map, List.take_length]
            unfold irP_program_of_2
            walk_at "go"
            by_cases c : 60 < totalP P.nst
            · simp only [c, decide_true]
              exact many c
            · simp only [c, decide_false]
              unfold irP_program_of_1
              walk_at "go"
              exact ⟨by show 2 ≤ sizeLine; decide, good (by omega)⟩
      | _ => cases c2
end DL
end
section
set_option maxRecDepth 100000
set_option maxHeartbeats 1000000
/-! The steps of a program, as data. -/
namespace DL
open PySem PySem.Spec L2
open PyProof.Rows hiding St wpS
/-- a step with its deed -/
structure FSt where
  n : Nat
  cs : List Int
  s : Nat
  d : Ddd
abbrev Stp := Nat × List Int × Nat
abbrev Cell := Int × List Int
abbrev CRow := Cell × List Cell
def FSt.st (x : FSt) : Stp := (x.n, x.cs, x.s)
def stP (s : Stp) : PV := .tup [.int s.1, iP s.2.1, .int s.2.2]
def ceP (c : Cell) : PV := .tup [.int c.1, iP c.2]
def rwP (r : CRow) : PV := .tup [ceP r.1, .lst (r.2.map ceP)]
def plcAt (t : Int) (pl : List Frm) (cs : List Int) : Cell := (t, pl.map fun f => atF f cs)
def rowAt (d : Ddd) (cs : List Int) : CRow := (plcAt d.tab d.pl cs, d.rds.map fun r => plcAt r.tab r.pl cs)
def FSt.row (x : FSt) : CRow := rowAt x.d x.cs
def fsN (i : Nat) (n : Nst) : List FSt := (cntF n.lps []).flatMap fun cs => n.dds.mapIdx fun s d => ⟨i, cs, s, d⟩
def fsFrom : Nat → List Nst → List FSt
  | _, [] => []
  | i, n :: l => fsN i n ++ fsFrom (i + 1) l
def fsL (P : Pgm) : List FSt := fsFrom 0 P.nst
def stepsL (P : Pgm) : List Stp := (fsL P).map FSt.st
def rowsL (P : Pgm) : List CRow := (fsL P).map FSt.row
theorem ceP_inj {a b : Cell} (h : ceP a = ceP b) : a = b := by
  have := PV.tup.inj h
  simp only [List.cons.injEq, PV.int.injEq, and_true] at this
  exact Prod.ext this.1 (iP_inj this.2)
theorem puv_ceP (c : Cell) : puv (ceP c) = true := by simp only [ceP, puv, puvs, puv_iP]; rfl
theorem fsFrom_app : ∀ (l : List Nst) (i : Nat) (n : Nst), fsFrom i (l ++ [n]) = fsFrom i l ++ fsN (i + l.length) n
  | [], i, n => by simp [fsFrom]
  | m :: l, i, n => by
    simp only [List.cons_append, fsFrom, fsFrom_app l (i + 1) n, List.length_cons, List.append_assoc]
    congr 3
    omega
theorem fsTo {l : List Nst} {j : Nat} {n : Nst} (h : l[j]? = some n) : fsFrom 0 (l.take (j + 1)) = fsFrom 0 (l.take j) ++ fsN j n := by
  rw [List.take_add_one, h, Option.toList_some, fsFrom_app, Nat.zero_add, List.length_take, Nat.min_eq_left (Nat.le_of_lt (List.getElem?_eq_some_iff.mp h).1)]
theorem fsFrom_mem : ∀ {l : List Nst} {i : Nat} {x : FSt}, x ∈ fsFrom i l → ∃ j n, l[j]? = some n ∧ x.n = i + j ∧ x.cs ∈ cntF n.lps [] ∧ n.dds[x.s]? = some x.d
  | [], _, _, h => by simp [fsFrom] at h
  | n :: l, i, x, h => by
    simp only [fsFrom, List.mem_append] at h
    rcases h with h | h
    · simp only [fsN, List.mem_flatMap, List.mem_mapIdx] at h
      obtain ⟨cs, hcs, s, hs, rfl⟩ := h
      exact ⟨0, n, rfl, rfl, hcs, List.getElem?_eq_getElem hs⟩
    · obtain ⟨j, m, h1, h2, h3, h4⟩ := fsFrom_mem h
      exact ⟨j + 1, m, by simpa using h1, by omega, h3, h4⟩
theorem fs_mem {P : Pgm} {x : FSt} (h : x ∈ fsL P) : ∃ n, P.nst[x.n]? = some n ∧ x.cs ∈ cntF n.lps [] ∧ n.dds[x.s]? = some x.d := by
  obtain ⟨j, n, h1, h2, h3, h4⟩ := fsFrom_mem h
  exact ⟨n, by rw [h2, Nat.zero_add]; exact h1, h3, h4⟩
theorem cnt_small : ∀ (L : List (Frm × Frm)) (cs : List Int), CntOK L cs → ∀ c ∈ cntF L cs, Small c
  | [], cs, h, c, hc => by
    simp only [cntF, List.mem_singleton] at hc
    rw [hc]
    exact h
  | p :: L, cs, h, c, hc => by
    simp only [cntF, List.mem_flatMap, List.mem_range] at hc
    obtain ⟨i, hi, hc⟩ := hc
    exact cnt_small L _ (h.2.2.2.2 i hi) c hc
theorem cnt_len (L : List (Frm × Frm)) {c : List Int} (h : c ∈ cntF L []) : c.length = L.length := by
  obtain ⟨t, rfl, ht⟩ := cntF_mem L [] c h
  exact ht
theorem PgmOK.cnt60 {P : Pgm} (h : PgmOK P) {n : Nst} (hn : n ∈ P.nst) : (cntF n.lps []).length ≤ 60 := by
  have hN := h.nst n hn
  have nn : ∀ m ∈ P.nst, 0 ≤ manyN m := fun m hm => Int.mul_nonneg (by omega) (moreI_nn _ (by decide)).1
  have le : manyN n ≤ totalP P.nst := by
    unfold totalP
    have : ∀ l : List Nst, (∀ m ∈ l, 0 ≤ manyN m) → n ∈ l → manyN n ≤ (l.map manyN).sum := fun l => by
      induction l with
      | nil => intro _ h; simp at h
      | cons m l ih =>
        intro h0 hm
        have hs : ∀ k : List Nst, (∀ m ∈ k, 0 ≤ manyN m) → 0 ≤ (k.map manyN).sum := fun k => by
          induction k with
          | nil => intro _; simp
          | cons a k ihk =>
            intro h
            rw [List.map_cons, List.sum_cons]
            have := h a (by simp)
            have := ihk fun b hb => h b (by simp [hb])
            omega
        rw [List.map_cons, List.sum_cons]
        rcases List.mem_cons.mp hm with e | hm
        · rw [e]
          have := hs l fun b hb => h0 b (by simp [hb])
          omega
        · have := ih (fun b hb => h0 b (by simp [hb])) hm
          have := h0 m (by simp)
          omega
    exact this _ nn hn
  have ht := h.tot
  unfold manyN at le
  have hd := hN.lo
  have hm := (moreI_nn (cntF n.lps []).length (m := 60) (by decide)).1
  have h1 : moreI (cntF n.lps []).length 60 ≤ 60 := by
    have : (1 : Int) * moreI (cntF n.lps []).length 60 ≤ n.dds.length * moreI (cntF n.lps []).length 60 := Int.mul_le_mul_of_nonneg_right (by omega) hm
    omega
  unfold moreI at h1
  split at h1 <;> omega
theorem fsN_len (i : Nat) (n : Nst) : (fsN i n).length = (cntF n.lps []).length * n.dds.length := by
  unfold fsN
  induction cntF n.lps [] with
  | nil => simp
  | cons c l ih => rw [List.flatMap_cons, List.length_append, ih, List.length_mapIdx, List.length_cons, Nat.add_mul]; omega
theorem fsFrom_len : ∀ (l : List Nst) (i : Nat), (∀ n ∈ l, (cntF n.lps []).length ≤ 60) → ((fsFrom i l).length : Int) = totalP l
  | [], _, _ => rfl
  | n :: l, i, h => by
    have ih := fsFrom_len l (i + 1) fun m hm => h m (by simp [hm])
    have e : moreI (cntF n.lps []).length 60 = ((cntF n.lps []).length : Nat) := by
      unfold moreI
      rw [if_pos (by have := h n (by simp); omega)]
    unfold totalP at ih ⊢
    rw [fsFrom, List.length_append, List.map_cons, List.sum_cons, ← ih, fsN_len]
    unfold manyN
    rw [e, Int.natCast_add, Int.natCast_mul, Int.mul_comm]
theorem PgmOK.len {P : Pgm} (h : PgmOK P) : (fsL P).length ≤ 60 := by
  have := fsFrom_len P.nst 0 fun n hn => h.cnt60 hn
  have := h.tot
  unfold fsL
  omega
theorem fsTo_le {P : Pgm} (h : PgmOK P) (j : Nat) : (fsFrom 0 (P.nst.take j)).length ≤ 60 := by
  refine Nat.le_trans ?_ h.len
  unfold fsL
  have : P.nst = P.nst.take j ++ P.nst.drop j := (List.take_append_drop j P.nst).symm
  have app : ∀ (l m : List Nst) (i : Nat), fsFrom i (l ++ m) = fsFrom i l ++ fsFrom (i + l.length) m := fun l => by
    induction l with
    | nil => intro m i; simp [fsFrom]
    | cons n l ih =>
      intro m i
      simp only [List.cons_append, fsFrom, ih, List.append_assoc, List.length_cons]
      congr 3
      omega
  conv => rhs; rw [this, app]
  rw [List.length_append]
  omega
theorem map_idx {α β γ : Type} {f : Nat → α → β} {g : β → γ} {h : α → γ} (e : ∀ i a, g (f i a) = h a) (l : List α) : (l.mapIdx f).map g = l.map h := by
  refine List.ext_getElem? fun i => ?_
  simp only [List.getElem?_map, List.getElem?_mapIdx, Option.map_map]
  cases l[i]? with
  | none => rfl
  | some a => simp [e]
theorem map_idx2 {α β γ : Type} {f : Nat → α → β} {g : β → γ} {h : Nat → γ} (e : ∀ i a, g (f i a) = h i) (l : List α) : (l.mapIdx f).map g = (List.range l.length).map h := by
  refine List.ext_getElem? fun i => ?_
  simp only [List.getElem?_map, List.getElem?_mapIdx, Option.map_map]
  by_cases hi : i < l.length
  · rw [List.getElem?_eq_getElem hi, List.getElem?_range hi]
    simp [e]
  · rw [List.getElem?_eq_none (by omega), List.getElem?_eq_none (by simp; omega)]
    rfl
end DL
end
section
set_option maxRecDepth 100000
set_option maxHeartbeats 1000000
/-! Compared by value: trees of ints, None, tuples and lists; and sorted ones. -/
namespace DL
open PySem PySem.Spec L2
open PyProof.Rows hiding St wpS
mutual
/-- ints, None, tuples and lists of such -/
def dat : PV → Bool
  | .int _ => true
  | .non => true
  | .tup xs => dats xs
  | .lst xs => dats xs
  | _ => false
def dats : List PV → Bool
  | [] => true
  | x :: xs => dat x && dats xs
end
mutual
def dpt : PV → Nat
  | .tup xs => dpts xs + 1
  | .lst xs => dpts xs + 1
  | _ => 0
def dpts : List PV → Nat
  | [] => 0
  | x :: xs => max (dpt x) (dpts xs)
end
mutual
theorem dat_pvD : ∀ x : PV, dat x = true → ∃ d, pvD x = some d ∧ d.canLay0 = true ∧ d.depth ≤ dpt x
  | .int i, _ => ⟨_, rfl, rfl, Nat.le_refl _⟩
  | .non, _ => ⟨_, rfl, rfl, Nat.le_refl _⟩
  | .tup xs, h => by
    obtain ⟨ds, h1, h2, h3⟩ := dats_pvD xs (by simpa only [dat] using h)
    exact ⟨.tuple ds, by simp only [pvD, h1], by simpa only [PyData.canLay0] using h2, by simp only [PyData.depth, dpt]; omega⟩
  | .lst xs, h => by
    obtain ⟨ds, h1, h2, h3⟩ := dats_pvD xs (by simpa only [dat] using h)
    exact ⟨.list ds, by simp only [pvD, h1], by simpa only [PyData.canLay0] using h2, by simp only [PyData.depth, dpt]; omega⟩
  | .bl _, h | .str _, h | .ty _, h | .ref _, h | .dct _ _, h => by simp [dat] at h
theorem dats_pvD : ∀ xs : List PV, dats xs = true → ∃ ds, pvDs xs = some ds ∧ PyData.canLayAll0 ds = true ∧ PyData.depthAll ds ≤ dpts xs
  | [], _ => ⟨[], rfl, rfl, Nat.le_refl _⟩
  | x :: xs, h => by
    simp only [dats, Bool.and_eq_true] at h
    obtain ⟨d, a1, a2, a3⟩ := dat_pvD x h.1
    obtain ⟨ds, b1, b2, b3⟩ := dats_pvD xs h.2
    exact ⟨d :: ds, by simp only [pvDs, a1, b1], by simp only [PyData.canLayAll0, a2, b2]; rfl, by simp only [PyData.depthAll, dpts]; omega⟩
end
mutual
theorem dat_eqv : ∀ (x y : PV) (d e : PyData), dat x = true → dat y = true → pvD x = some d → pvD y = some e → (PyData.eqv d e = true ↔ x = y)
  | .int i, y, d, e, _, hy, h1, h2 => by
    cases h1
    cases y with
    | int j => cases h2; simp [PyData.eqv]
    | non => cases h2; simp [PyData.eqv]
    | tup ys => obtain ⟨ds, q, _⟩ := dats_pvD ys (by simpa only [dat] using hy); simp only [pvD, q] at h2; cases h2; simp [PyData.eqv]
    | lst ys => obtain ⟨ds, q, _⟩ := dats_pvD ys (by simpa only [dat] using hy); simp only [pvD, q] at h2; cases h2; simp [PyData.eqv]
    | _ => simp [dat] at hy
  | .non, y, d, e, _, hy, h1, h2 => by
    cases h1
    cases y with
    | int j => cases h2; simp [PyData.eqv]
    | non => cases h2; simp [PyData.eqv]
    | tup ys => obtain ⟨ds, q, _⟩ := dats_pvD ys (by simpa only [dat] using hy); simp only [pvD, q] at h2; cases h2; simp [PyData.eqv]
    | lst ys => obtain ⟨ds, q, _⟩ := dats_pvD ys (by simpa only [dat] using hy); simp only [pvD, q] at h2; cases h2; simp [PyData.eqv]
    | _ => simp [dat] at hy
  | .tup xs, y, d, e, hx, hy, h1, h2 => by
    have hx := (show dats xs = true by simpa only [dat] using hx)
    obtain ⟨ds, q, _⟩ := dats_pvD xs hx
    simp only [pvD, q] at h1
    cases h1
    cases y with
    | int j => cases h2; simp [PyData.eqv]
    | non => cases h2; simp [PyData.eqv]
    | tup ys =>
      have hy := (show dats ys = true by simpa only [dat] using hy)
      obtain ⟨es, q2, _⟩ := dats_pvD ys hy
      simp only [pvD, q2] at h2
      cases h2
      simp only [PyData.eqv, PV.tup.injEq]
      exact dats_eqv xs ys ds es hx hy q q2
    | lst ys => obtain ⟨es, q, _⟩ := dats_pvD ys (by simpa only [dat] using hy); simp only [pvD, q] at h2; cases h2; simp [PyData.eqv]
    | _ => simp [dat] at hy
  | .lst xs, y, d, e, hx, hy, h1, h2 => by
    have hx := (show dats xs = true by simpa only [dat] using hx)
    obtain ⟨ds, q, _⟩ := dats_pvD xs hx
    simp only [pvD, q] at h1
    cases h1
    cases y with
    | int j => cases h2; simp [PyData.eqv]
    | non => cases h2; simp [PyData.eqv]
    | lst ys =>
      have hy := (show dats ys = true by simpa only [dat] using hy)
      obtain ⟨es, q2, _⟩ := dats_pvD ys hy
      simp only [pvD, q2] at h2
      cases h2
      simp only [PyData.eqv, PV.lst.injEq]
      exact dats_eqv xs ys ds es hx hy q q2
    | tup ys => obtain ⟨es, q, _⟩ := dats_pvD ys (by simpa only [dat] using hy); simp only [pvD, q] at h2; cases h2; simp [PyData.eqv]
    | _ => simp [dat] at hy
  | .bl _, _, _, _, h, _, _, _ | .str _, _, _, _, h, _, _, _ | .ty _, _, _, _, h, _, _, _ | .ref _, _, _, _, h, _, _, _ | .dct _ _, _, _, _, h, _, _, _ => by simp [dat] at h
theorem dats_eqv : ∀ (xs ys : List PV) (ds es : List PyData), dats xs = true → dats ys = true → pvDs xs = some ds → pvDs ys = some es → (PyData.eqvAll ds es = true ↔ xs = ys)
  | [], ys, ds, es, _, hy, h1, h2 => by
    cases h1
    cases ys with
    | nil => cases h2; simp [PyData.eqvAll]
    | cons y ys =>
      simp only [dats, Bool.and_eq_true] at hy
      obtain ⟨e, a, _⟩ := dat_pvD y hy.1
      obtain ⟨es', b, _⟩ := dats_pvD ys hy.2
      simp only [pvDs, a, b] at h2
      cases h2
      simp [PyData.eqvAll]
  | x :: xs, ys, ds, es, hx, hy, h1, h2 => by
    simp only [dats, Bool.and_eq_true] at hx
    obtain ⟨d, a1, _⟩ := dat_pvD x hx.1
    obtain ⟨ds', b1, _⟩ := dats_pvD xs hx.2
    simp only [pvDs, a1, b1] at h1
    cases h1
    cases ys with
    | nil => cases h2; simp [PyData.eqvAll]
    | cons y ys =>
      simp only [dats, Bool.and_eq_true] at hy
      obtain ⟨e, a, _⟩ := dat_pvD y hy.1
      obtain ⟨es', b, _⟩ := dats_pvD ys hy.2
      simp only [pvDs, a, b] at h2
      cases h2
      simp only [PyData.eqvAll, Bool.and_eq_true, List.cons.injEq]
      rw [dat_eqv x y d e hx.1 hy.1 a1 a, dats_eqv xs ys ds' es' hx.2 hy.2 b1 b]
end
mutual
theorem dat_puv : ∀ x : PV, dat x = true → puv x = true
  | .int _, _ | .non, _ => rfl
  | .tup xs, h => by simp only [puv]; exact dats_puv xs (by simpa only [dat] using h)
  | .lst xs, h => by simp only [puv]; exact dats_puv xs (by simpa only [dat] using h)
  | .bl _, h | .str _, h | .ty _, h | .ref _, h | .dct _ _, h => by simp [dat] at h
theorem dats_puv : ∀ xs : List PV, dats xs = true → puvs xs = true
  | [], _ => rfl
  | x :: xs, h => by
    simp only [dats, Bool.and_eq_true] at h
    simp only [puvs, dat_puv x h.1, dats_puv xs h.2]
    rfl
end
theorem shp {d : PyData} {n : Nat} (h : d.canLay0 = true) (h2 : d.depth ≤ n) (h3 : n ≤ 64) : SeqAt.shaped d = true := by
  unfold SeqAt.shaped
  rw [h, decide_eq_true (by omega)]
  rfl
theorem eqDat_of {x y : PV} {S : Sto} {Q : Bool → Prop} (hx : dat x = true) (hy : dat y = true) (dx : dpt x ≤ 64) (dy : dpt y ≤ 64) (q : ∀ b, (b = true ↔ x = y) → Q b) : eqDat x y S Q := by
  unfold eqDat
  rw [deep_pure 20 x (dat_puv x hx), deep_pure 20 y (dat_puv y hy)]
  obtain ⟨d, a1, a2, a3⟩ := dat_pvD x hx
  obtain ⟨e, b1, b2, b3⟩ := dat_pvD y hy
  simp only [a1, b1]
  exact ⟨shp a2 a3 dx, shp b2 b3 dy, q _ (dat_eqv x y d e hx hy a1 b1)⟩
/-- x == y of such -/
theorem eq_dat {x y : PV} {S : Sto} {Q : Bool → Prop} (hx : dat x = true) (hy : dat y = true) (dx : dpt x ≤ 64) (dy : dpt y ≤ 64) (q : ∀ b, (b = true ↔ x = y) → Q b) : eqD x y S Q := by
  unfold eqD
  split
  · exact q _ (by simp)
  · simp [dat] at hx
  · exact .inl (eqDat_of hx hy dx dy q)
theorem inDs_mem : ∀ (ys : List PV) (ds : List PyData) {x : PV} {d : PyData}, dat x = true → dats ys = true → pvD x = some d → pvDs ys = some ds → (inDs d ds = true ↔ x ∈ ys)
  | [], ds, x, d, _, _, _, h => by cases h; simp [inDs]
  | y :: ys, ds, x, d, hx, hy, h1, h => by
    simp only [dats, Bool.and_eq_true] at hy
    obtain ⟨e, a, _⟩ := dat_pvD y hy.1
    obtain ⟨es, b, _⟩ := dats_pvD ys hy.2
    simp only [pvDs, a, b] at h
    cases h
    have ih := inDs_mem ys es hx hy.2 h1 b
    unfold inDs at ih ⊢
    simp only [List.any_cons, Bool.or_eq_true, List.mem_cons]
    rw [ih, dat_eqv y x e d hy.1 hx a h1]
    constructor
    · rintro (h | h)
      · exact .inl h.symm
      · exact .inr h
    · rintro (h | h)
      · exact .inl h.symm
      · exact .inr h
/-- x in ys of such -/
theorem in_dat {x y : PV} {ys : List PV} {S : Sto} {Q : Bool → Prop} (e : dQ S y = some ys) (hx : dat x = true) (hy : dats ys = true) (dx : dpt x ≤ 64) (dy : dpts ys ≤ 60) (q : ∀ b, (b = true ↔ x ∈ ys) → Q b) : inD x y S Q := by
  unfold inD
  obtain ⟨d, a1, a2, a3⟩ := dat_pvD x hx
  obtain ⟨ds, b1, b2, b3⟩ := dats_pvD ys hy
  have hv : dV S x = x := by
    cases x with
    | ref a => simp [dat] at hx
    | _ => rfl
  simp only [e, hv, a1, b1]
  refine ⟨shp a2 a3 dx, shp (d := .list ds) (n := 61) (by simpa only [PyData.canLay0] using b2) (by simp only [PyData.depth]; omega) (by decide), q _ (inDs_mem ys ds hx hy a1 b1)⟩
theorem dats_map {α : Type} {f : α → PV} (h : ∀ a, dat (f a) = true) : ∀ l : List α, dats (l.map f) = true
  | [] => rfl
  | a :: l => by simp only [List.map_cons, dats, h a, dats_map h l]; rfl
theorem dpts_map {α : Type} {f : α → PV} {n : Nat} (h : ∀ a, dpt (f a) ≤ n) : ∀ l : List α, dpts (l.map f) ≤ n
  | [] => Nat.zero_le _
  | a :: l => by simp only [List.map_cons, dpts]; have := h a; have := dpts_map h l; omega
theorem dat_iP (ns : List Int) : dat (iP ns) = true := by simp only [iP, dat]; exact dats_map (fun _ => rfl) ns
theorem dpt_iP (ns : List Int) : dpt (iP ns) ≤ 1 := by simp only [iP, dpt]; have := dpts_map (f := PV.int) (n := 0) (fun _ => Nat.le_refl _) ns; omega
theorem dat_ceP (c : Cell) : dat (ceP c) = true := by simp only [ceP, dat, dats, dat_iP]; rfl
theorem dpt_ceP (c : Cell) : dpt (ceP c) ≤ 2 := by simp only [ceP, dpt, dpts]; have := dpt_iP c.2; omega
theorem dat_stP (s : Stp) : dat (stP s) = true := by simp only [stP, dat, dats, dat_iP]; rfl
theorem dpt_stP (s : Stp) : dpt (stP s) ≤ 2 := by simp only [stP, dpt, dpts]; have := dpt_iP s.2.1; omega
/-- cells compared -/
theorem eq_ce {a b : Cell} {S : Sto} {Q : Bool → Prop} (q : Q (decide (a = b))) : eqD (ceP a) (ceP b) S Q := by
  refine eq_dat (dat_ceP a) (dat_ceP b) (Nat.le_trans (dpt_ceP a) (by decide)) (Nat.le_trans (dpt_ceP b) (by decide)) fun k hk => ?_
  have : k = decide (a = b) := by
    rw [Bool.eq_iff_iff, hk, decide_eq_true_iff]
    exact ⟨ceP_inj, fun h => by rw [h]⟩
  rw [this]
  exact q
theorem mem_map_inj {α : Type} {f : α → PV} (hf : ∀ a b, f a = f b → a = b) {a : α} {l : List α} : f a ∈ l.map f ↔ a ∈ l := by
  rw [List.mem_map]
  exact ⟨fun ⟨b, hb, e⟩ => by rw [← hf _ _ e]; exact hb, fun h => ⟨a, h, rfl⟩⟩
theorem in_ce {a : Cell} {l : List Cell} {y : PV} {S : Sto} {Q : Bool → Prop} (e : dQ S y = some (l.map ceP)) (q : Q (decide (a ∈ l))) : inD (ceP a) y S Q := by
  refine in_dat e (dat_ceP a) (dats_map dat_ceP l) (Nat.le_trans (dpt_ceP a) (by decide)) (Nat.le_trans (dpts_map dpt_ceP l) (by decide)) fun k hk => ?_
  have : k = decide (a ∈ l) := by
    rw [Bool.eq_iff_iff, hk, decide_eq_true_iff]
    exact mem_map_inj fun _ _ => ceP_inj
  rw [this]
  exact q
/-! sorted cells -/
theorem al_ints : ∀ (n : Nat) (a b : List Int), Al (n + 1) (iP a) (iP b) := fun n a b j h1 h2 => by
  simp only [List.getElem_map]
  cases n <;> trivial
theorem al_ce (a b : Cell) : Al 20 (ceP a) (ceP b) := fun j h1 h2 => by
  match j, h1, h2 with
  | 0, _, _ => trivial
  | 1, _, _ => exact al_ints 18 a.2 b.2
  | j + 2, h1, _ => exact absurd h1 (by simp)
theorem sortOK_ce (l : List Cell) : SortOK (l.map ceP) := .inl ⟨fun x hx => by
  obtain ⟨c, _, rfl⟩ := List.mem_map.mp hx
  exact ⟨c.1, [iP c.2], rfl⟩, fun x hx y hy => by
  obtain ⟨c, _, rfl⟩ := List.mem_map.mp hx
  obtain ⟨e, _, rfl⟩ := List.mem_map.mp hy
  exact al_ce c e⟩
theorem cV_int {a b : Int} (h : cV (.int a) (.int b) = .eq) : a = b := by
  simp only [cV] at h
  split at h
  · cases h
  · split at h
    · assumption
    · cases h
theorem ce_anti {a b : Cell} (h : cV (ceP a) (ceP b) = .eq) : a = b := by
  simp only [ceP, cV, cVs] at h
  split at h
  · rename_i h1
    split at h
    · rename_i h2
      exact Prod.ext (cV_int h1) (cVs_ints (by simpa only [iP, cV] using h2))
    · rename_i h2; exact absurd h h2
  · rename_i h1; exact absurd h h1
/-! items of lists written out -/
section
variable {α : Type} {a b c d e f : α} {l : List α}
theorem at0 : L2.atI (a :: l) 0 = some a := atI_nat (j := 0) rfl
theorem at1 : L2.atI (a :: b :: l) 1 = some b := atI_nat (j := 1) rfl
theorem at2 : L2.atI (a :: b :: c :: l) 2 = some c := atI_nat (j := 2) rfl
theorem at3 : L2.atI (a :: b :: c :: d :: l) 3 = some d := atI_nat (j := 3) rfl
theorem at4 : L2.atI (a :: b :: c :: d :: e :: l) 4 = some e := atI_nat (j := 4) rfl
theorem at5 : L2.atI (a :: b :: c :: d :: e :: f :: l) 5 = some f := atI_nat (j := 5) rfl
end
/-- the order of cells -/
def ltC (a b : Cell) : Bool := ltV (ceP a) (ceP b)
end DL
end
section
set_option maxRecDepth 100000
set_option maxHeartbeats 1000000
/-! steps_of, cells_of, shared_cells, touches. -/
namespace DL
open PySem PySem.Spec L2
open PyProof.Rows hiding St wpS
local macro_rules | `(tactic| walk_at "go") => `(tactic| try simp only [wpSs, wpS, wpE, wpEs, wpT, wpC, wpO, wpL, wpI, wpH, List.getElem?_cons_zero, List.getElem?_cons_succ, List.set_cons_zero, List.set_cons_succ, biD, dQ, dL, cmpD, truD, idxD, binD, tgD, tgDs, frzQ, newL, List.any_cons, List.any_nil, Bool.or_false, wipeS, at0, at1, at2, at3, at4, at5])
/-- a list handed back by a call that keeps it frozen -/
theorem resL_frz {xs : List PV} {S : Sto} {r : PV} {S' : Sto} {Q : Post} (h : resL true xs S r S') (q : Q (.lst xs) S) : frzQ false Q r S' := by
  obtain ⟨p, rfl, hp, rfl⟩ := h
  simp only [frzQ, upS_same, delS_upS hp]
  exact q
def pP_steps_of : Prm := { α := Pgm, pre := fun P vs S => vs = [pgP P] ∧ PgmOK P, post := fun P S r S' => resL true ((stepsL P).map stP) S r S' }
theorem kP_steps_of {G : GE} (h6 : G.fn 6 = pP_counts_of.sp) : Keeps G irP_steps_of nP_steps_of pP_steps_of := fun (P : Pgm) vs S Q E _ _ hp hq _ => by
  obtain ⟨rfl, hP⟩ := hp
  have hz : 100 ≤ sizeLine := by decide
  rw [show startS nP_steps_of [pgP P] = [some (pgP P), none, none, none, none, none] from rfl]
  unfold irP_steps_of
  walk_at "go"
  refine ⟨by show 0 ≤ sizeLine; omega, fun q hq0 => ?_⟩
  unfold irP_steps_of_2
  walk_at "go"
  simp only [pgP, dQ, at1, nssP]
  refine itL_inv (fun j σ S' => S' = upS S q (.lst ((fsFrom 0 (P.nst.take j)).map fun x => stP x.st)) ∧ ∃ z1 z2 z3 z4, σ = [some (pgP P), some (.ref q), z1, z2, z3, z4]) ⟨by simp [fsFrom], none, none, none, none, rfl⟩ (fun _ _ _ _ => trivial) (fun j x σ S' k hx h hk => ?_) fun σ S' h => ?_
  · obtain ⟨rfl, z1, z2, z3, z4, rfl⟩ := h
    obtain ⟨y, _, hy, rfl⟩ := enumP_mem hx
    rw [List.getElem?_map] at hy
    obtain ⟨n, hn, rfl⟩ := Option.map_eq_some_iff.mp hy
    have hN := hP.nst n (List.mem_of_getElem? hn)
    have h60 := hP.cnt60 (List.mem_of_getElem? hn)
    walk_at "go"
    simp only [nsP, dQ, at0]
    refine Prm.call h6 (fun _ _ _ _ => id) n.lps ⟨rfl, hN.lps.cnt, by omega, by have := hN.lps.2.2; omega⟩ fun r S1 h => ?_
    refine resL_frz h ?_
    simp only [dQ]
    have hfs := fsTo hn
    have hle := fsTo_le hP (j + 1)
    rw [hfs] at hle
    refine itL_inv (fun i σ S' => S' = upS S q (.lst ((fsFrom 0 (P.nst.take j) ++ ((cntF n.lps []).take i).flatMap fun cs => n.dds.mapIdx fun s d => (⟨j, cs, s, d⟩ : FSt)).map fun x => stP x.st)) ∧ ∃ z3 z4, σ = [some (pgP P), some (.ref q), some (.int (j : Nat)), some (nsP n), z3, z4]) ⟨by simp, z3, z4, rfl⟩ (fun _ _ _ _ => trivial) (fun i x σ S' k' hx h hk' => ?_) fun σ S' h => ?_
    · obtain ⟨rfl, z3, z4, rfl⟩ := h
      rw [List.getElem?_map] at hx
      obtain ⟨cs, hcs, rfl⟩ := Option.map_eq_some_iff.mp hx
      walk_at "go"
      simp only [tyP, upS_same, nsP, dQ, at1]
      have hd4 := hN.hi
      refine ⟨rfl, by rw [List.length_map]; omega, by omega, fun p hp => ?_⟩
      have hpq : p ≠ q := fun e => by rw [e, upS_same] at hp; cases hp
      refine comp_map (fun x => .tup [.int (j : Nat), iP cs, x]) hp (fun acc => trivial) (fun i x acc k hi ha hk => ?_) ?_
      · exact ⟨by show 3 ≤ sizeLine; omega, upS_same, by rw [upS_upS]; exact hk⟩
      · refine ⟨upS_same, ?_⟩
        rw [delS_upS hp]
        have e : (rngP 0 ((n.dds.map ddP).length : Int).toNat).map (fun x => PV.tup [.int (j : Nat), iP cs, x]) = ((n.dds.mapIdx fun s d => (⟨j, cs, s, d⟩ : FSt)).map fun x => stP x.st) := by
          rw [map_idx2 (g := fun x : FSt => stP x.st) (h := fun s => stP (j, cs, s)) (fun _ _ => rfl)]
          unfold rngP
          rw [List.map_map, List.length_map, Int.toNat_natCast]
          refine List.map_congr_left fun s _ => ?_
          simp only [Function.comp, stP, Int.zero_add]
        rw [e]
        have hsucc : ((cntF n.lps []).take (i + 1)).flatMap (fun cs => n.dds.mapIdx fun s d => (⟨j, cs, s, d⟩ : FSt)) = ((cntF n.lps []).take i).flatMap (fun cs => n.dds.mapIdx fun s d => (⟨j, cs, s, d⟩ : FSt)) ++ n.dds.mapIdx fun s d => (⟨j, cs, s, d⟩ : FSt) := by
          rw [List.take_add_one, hcs, Option.toList_some, List.flatMap_append, List.flatMap_singleton]
        have hsz : (((cntF n.lps []).take i).flatMap (fun cs => n.dds.mapIdx fun s d => (⟨j, cs, s, d⟩ : FSt))).length + n.dds.length ≤ (fsN j n).length := by
          have : fsN j n = ((cntF n.lps []).take (i + 1)).flatMap (fun cs => n.dds.mapIdx fun s d => (⟨j, cs, s, d⟩ : FSt)) ++ ((cntF n.lps []).drop (i + 1)).flatMap (fun cs => n.dds.mapIdx fun s d => (⟨j, cs, s, d⟩ : FSt)) := by
            rw [← List.flatMap_append, List.take_append_drop]
            rfl
          rw [this, List.length_append, hsucc, List.length_append, List.length_mapIdx]
          omega
        rw [List.length_append] at hle
        simp only [meD, upS_same, dL, upS_upS]
        refine ⟨by simp only [List.length_map, List.length_append, List.length_mapIdx]; omega, hk' _ _ ⟨?_, some (iP cs), z4, rfl⟩⟩
        simp only [hsucc, List.map_append, List.append_assoc]
    · obtain ⟨rfl, z3, z4, rfl⟩ := h
      rw [List.length_map, List.take_length]
      refine hk _ _ ⟨?_, some (.int (j : Nat)), some (nsP n), z3, z4, rfl⟩
      rw [hfs]
      rfl
  · obtain ⟨rfl, z1, z2, z3, z4, rfl⟩ := h
    rw [enumP_len, List.length_map, List.take_length]
    unfold irP_steps_of_1
    walk_at "go"
    refine hq _ _ ⟨q, rfl, hq0, ?_⟩
    unfold stepsL fsL
    rw [List.map_map]
    rfl
structure CaA where
  t : Int
  pl : List Frm
  cs : List Int
def pP_cell_at : Prm := { α := CaA, pre := fun z vs S => vs = [.int z.t, plP z.pl, iP z.cs] ∧ Small z.cs, post := fun z S r S' => r = ceP (plcAt z.t z.pl z.cs) ∧ S' = S }
theorem kP_cell_at {G : GE} (h2 : G.fn 2 = pP_comes_to.sp) : Keeps G irP_cell_at nP_cell_at pP_cell_at := fun z vs S Q E _ _ hp hq _ => by
  obtain ⟨t, pl, cs⟩ := z
  obtain ⟨rfl, hs⟩ := hp
  simp only at hs
  rw [show startS nP_cell_at [.int t, plP pl, iP cs] = [some (.int t), some (plP pl), some (iP cs), none] from rfl]
  unfold irP_cell_at
  walk_at "go"
  simp only [plP, dQ]
  intro p hp
  refine comp_map (fun y => match y with | .tup (.int n :: ns) => (match intsP ns with | some ns => .int (atF (n, ns) cs) | none => .non) | y => y) hp (fun acc => trivial) (fun i x acc k hi ha hk => ?_) ?_
  · rw [List.getElem?_map] at hi
    obtain ⟨f, _, rfl⟩ := Option.map_eq_some_iff.mp hi
    simp only [fP, iP, List.map_cons, intsM] at hk
    walk_at "go"
    refine Prm.call h2 (fun _ _ _ _ => id) (f, cs) ⟨rfl, hs⟩ fun r S h => ?_
    obtain ⟨rfl, rfl⟩ := h
    walk_at "go"
    exact ⟨upS_same, by rw [upS_upS]; exact hk⟩
  · have e : (pl.map fP).map (fun y => match y with | .tup (.int n :: ns) => (match intsP ns with | some ns => PV.int (atF (n, ns) cs) | none => .non) | y => y) = (pl.map fun f => atF f cs).map PV.int := by
      rw [List.map_map, List.map_map]
      refine List.map_congr_left fun f _ => ?_
      simp only [Function.comp, fP, iP, List.map_cons, intsM]
    rw [e]
    refine ⟨upS_same, ?_⟩
    simp only [dQ, delS_upS hp]
    exact ⟨by show 2 ≤ sizeLine; decide, hq _ _ ⟨rfl, rfl⟩⟩
structure CsA where
  P : Pgm
  x : FSt
  n : Nst
def pP_cells_of_step : Prm := { α := CsA, pre := fun z vs S => vs = [pgP z.P, stP z.x.st] ∧ z.P.nst[z.x.n]? = some z.n ∧ z.n.dds[z.x.s]? = some z.x.d ∧ Small z.x.cs, post := fun z S r S' => r = rwP z.x.row ∧ S' = S }
theorem kP_cells_of_step {G : GE} (h18 : G.fn 18 = pP_cell_at.sp) : Keeps G irP_cells_of_step nP_cells_of_step pP_cells_of_step := fun z vs S Q E _ _ hp hq _ => by
  obtain ⟨P, ⟨j, cs, s, d⟩, n⟩ := z
  obtain ⟨rfl, hn, hd, hs⟩ := hp
  simp only at hn hd hs
  rw [show startS nP_cells_of_step [pgP P, stP (FSt.st ⟨j, cs, s, d⟩)] = [some (pgP P), some (.tup [.int (j : Nat), iP cs, .int (s : Nat)]), none, none, none, none, none, none, none, none] from rfl]
  unfold irP_cells_of_step
  walk_at "go"
  unfold irP_cells_of_step_2
  walk_at "go"
  have a2 : L2.atI (P.nst.map nsP) ((j : Nat) : Int) = some (nsP n) := atI_nat (by rw [List.getElem?_map, hn]; rfl)
  have a4 : L2.atI (n.dds.map ddP) ((s : Nat) : Int) = some (ddP d) := atI_nat (by rw [List.getElem?_map, hd]; rfl)
  simp only [pgP, dQ, at1, nssP, a2, nsP, a4, ddP, tgDs, tgD, List.set_cons_zero, List.set_cons_succ]
  unfold irP_cells_of_step_1
  walk_at "go"
  refine Prm.call h18 (fun _ _ _ _ => id) ⟨d.tab, d.pl, cs⟩ ⟨rfl, hs⟩ fun r S h => ?_
  obtain ⟨rfl, rfl⟩ := h
  have hr : frzQ false = frzQ false := rfl
  simp only [frzQ, ceP, dQ]
  intro p hp
  refine comp_map (fun y => match y with | .tup [_, .int t, .tup fs] => (match intsP (fs.map fun y => match y with | .tup (.int n :: ns) => (match intsP ns with | some ns => .int (atF (n, ns) cs) | none => .non) | y => y) with | some l => ceP (t, l) | none => .non) | y => y) hp (fun acc => trivial) (fun i x acc k hi ha hk => ?_) ?_
  · rw [List.getElem?_map] at hi
    obtain ⟨f, _, rfl⟩ := Option.map_eq_some_iff.mp hi
    have e : ∀ pl : List Frm, (pl.map fP).map (fun y => match y with | .tup (.int n :: ns) => (match intsP ns with | some ns => PV.int (atF (n, ns) cs) | none => .non) | y => y) = (pl.map fun f => atF f cs).map PV.int := fun pl => by
      rw [List.map_map, List.map_map]
      refine List.map_congr_left fun f _ => ?_
      simp only [Function.comp, fP, iP, List.map_cons, intsM]
    simp only [rdP, plP, e, intsM] at hk
    walk_at "go"
    simp only [rdP, dQ, at1, at2]
    refine Prm.call h18 (fun _ _ _ _ => id) ⟨f.tab, f.pl, cs⟩ ⟨rfl, hs⟩ fun r S h => ?_
    obtain ⟨rfl, rfl⟩ := h
    simp only [frzQ, ceP]
    exact ⟨upS_same, by rw [upS_upS]; exact hk⟩
  · have e : ∀ pl : List Frm, (pl.map fP).map (fun y => match y with | .tup (.int n :: ns) => (match intsP ns with | some ns => PV.int (atF (n, ns) cs) | none => .non) | y => y) = (pl.map fun f => atF f cs).map PV.int := fun pl => by
      rw [List.map_map, List.map_map]
      refine List.map_congr_left fun f _ => ?_
      simp only [Function.comp, fP, iP, List.map_cons, intsM]
    have e2 : (d.rds.map rdP).map (fun y => match y with | .tup [_, .int t, .tup fs] => (match intsP (fs.map fun y => match y with | .tup (.int n :: ns) => (match intsP ns with | some ns => PV.int (atF (n, ns) cs) | none => .non) | y => y) with | some l => ceP (t, l) | none => .non) | y => y) = (d.rds.map fun r => plcAt r.tab r.pl cs).map ceP := by
      rw [List.map_map, List.map_map]
      refine List.map_congr_left fun f _ => ?_
      simp only [Function.comp, rdP, plP, e, intsM]
      rfl
    rw [e2]
    refine ⟨upS_same, ?_⟩
    rw [delS_upS hp]
    exact ⟨by show 2 ≤ sizeLine; decide, hq _ _ ⟨rfl, rfl⟩⟩
end DL
end
section
set_option maxRecDepth 100000
set_option maxHeartbeats 1000000
/-! Dicts with typed keys; typed comprehensions; sorted lists of a type. -/
namespace DL
open PySem PySem.Spec L2
open PyProof.Rows hiding St wpS
/-- a list comprehension that changes nothing: item by item, by a type -/
theorem comp_typed {α : Type} {ok : Sto → Prop} {step : PV → List PV → Sto → (List PV → Sto → Prop) → Prop} {S : Sto} {p : Addr} {dn : List PV → Sto → Prop} (f g : α → PV) (l : List α) (hp : S p = none) (hok : ∀ acc, ok (upS S p (.lst acc)))
    (hs : ∀ (i : Nat) a acc k, l[i]? = some a → acc.length = i → k (acc ++ [g a]) (upS S p (.lst (acc ++ [g a]))) → step (f a) acc (upS S p (.lst acc)) k) (hd : dn (l.map g) (upS S p (.lst (l.map g)))) :
    itL ok step dn (l.map f) [] (upS S p (.lst [])) := by
  refine itL_inv (fun i acc S' => acc = (l.take i).map g ∧ S' = upS S p (.lst acc)) ⟨by simp, rfl⟩ (fun i acc S' h => h.2 ▸ hok acc) (fun i x acc S' k hx h hk => ?_) fun acc S' h => ?_
  · obtain ⟨h1, rfl⟩ := h
    rw [List.getElem?_map] at hx
    obtain ⟨a, ha, rfl⟩ := Option.map_eq_some_iff.mp hx
    have hlt := (List.getElem?_eq_some_iff.mp ha).1
    refine hs i a acc k ha (by rw [h1, List.length_map, List.length_take]; omega) (hk _ _ ⟨?_, rfl⟩)
    rw [h1, List.take_add_one, ha]
    simp
  · obtain ⟨h1, rfl⟩ := h
    rw [List.length_map, List.take_length] at h1
    subst h1
    exact hd
/-! ### typed keys -/
structure KT {α : Type} (f : α → PV) where
  n : Nat
  hn : n ≠ 0
  kk : ∀ a, kkP (f a) = n
  g : α → NestedKey
  hk : ∀ a, pvKey (f a) = some (g a)
  inj : ∀ a b, g a = g b → a = b
section
variable {α β : Type} [DecidableEq α]
def aget (l : List (α × β)) (a : α) : Option β := match l with
  | [] => none
  | x :: l => if x.1 = a then some x.2 else aget l a
def aput (l : List (α × β)) (a : α) (b : β) : List (α × β) := match l with
  | [] => [(a, b)]
  | x :: l => if x.1 = a then (x.1, b) :: l else x :: aput l a b
theorem aget_put (l : List (α × β)) (a c : α) (b : β) : aget (aput l a b) c = if a = c then some b else aget l c := by
  induction l with
  | nil => simp [aput, aget]
  | cons x l ih =>
    simp only [aput]
    by_cases h : x.1 = a
    · simp only [if_pos h, aget]
      by_cases e : a = c
      · rw [if_pos (h.trans e), if_pos e]
      · rw [if_neg (fun z => e (h.symm.trans z)), if_neg e, if_neg (fun z => e (h.symm.trans z))]
    · simp only [if_neg h, aget, ih]
      by_cases e : x.1 = c
      · rw [if_pos e, if_neg (fun z => h (e.trans z.symm)), if_pos e]
      · rw [if_neg e, if_neg e]
theorem aput_keys (l : List (α × β)) (a : α) (b : β) : (aput l a b).map (·.1) = if a ∈ l.map (·.1) then l.map (·.1) else l.map (·.1) ++ [a] := by
  induction l with
  | nil => simp [aput]
  | cons x l ih =>
    simp only [aput]
    by_cases h : x.1 = a
    · rw [if_pos h, List.map_cons, List.map_cons, if_pos (by rw [← h]; exact List.mem_cons_self ..)]
    · rw [if_neg h, List.map_cons, List.map_cons, ih]
      have : (a ∈ x.1 :: l.map (·.1)) = (a ∈ l.map (·.1)) := by
        rw [List.mem_cons]
        exact propext ⟨fun z => z.elim (fun e => absurd e.symm h) id, .inr⟩
      simp only [this]
      split <;> rfl
theorem aput_len (l : List (α × β)) (a : α) (b : β) : (aput l a b).length ≤ l.length + 1 := by
  induction l with
  | nil => simp [aput]
  | cons x l ih => simp only [aput]; split <;> simp <;> omega
theorem aget_none {l : List (α × β)} {a : α} : aget l a = none ↔ a ∉ l.map (·.1) := by
  induction l with
  | nil => simp [aget]
  | cons x l ih =>
    simp only [aget, List.map_cons, List.mem_cons, not_or]
    by_cases h : x.1 = a
    · simp [h]
    · rw [if_neg h, ih]
      exact ⟨fun z => ⟨fun e => h e.symm, z⟩, fun z => z.2⟩
theorem aput_nodup {l : List (α × β)} {a : α} {b : β} (h : (l.map (·.1)).Nodup) : ((aput l a b).map (·.1)).Nodup := by
  rw [aput_keys]
  split
  · exact h
  · rename_i c
    rw [List.nodup_append]
    exact ⟨h, by simp, fun x hx y hy e => c (by rw [List.mem_singleton.mp hy] at e; rw [← e]; exact hx)⟩
end
/-- the keys and the values of a typed dict -/
abbrev dks {α : Type} (f : α → PV) (l : List (α × PV)) : List PV := l.map fun x => f x.1
abbrev dvs {α : Type} (l : List (α × PV)) : List PV := l.map fun x => x.2
section
variable {α : Type} [DecidableEq α] {f : α → PV}
theorem KT.at (T : KT f) (l : List (α × PV)) (a : α) : atKeyP (T.g a) (dks f l) (dvs l) = aget l a := by
  induction l with
  | nil => rfl
  | cons x l ih =>
    simp only [List.map_cons, atKeyP, aget, T.hk, Option.some.injEq]
    by_cases h : x.1 = a
    · rw [if_pos (by rw [h]), if_pos h]
    · rw [if_neg (fun z => h (T.inj _ _ z)), if_neg h]
      exact ih
theorem KT.put (T : KT f) (l : List (α × PV)) (a : α) (v : PV) : putKeyP (T.g a) (f a) v (dks f l) (dvs l) = (dks f (aput l a v), dvs (aput l a v)) := by
  induction l with
  | nil => rfl
  | cons x l ih =>
    simp only [List.map_cons, putKeyP, aput, T.hk, Option.some.injEq]
    by_cases h : x.1 = a
    · rw [if_pos (by rw [h]), if_pos h]
      rfl
    · rw [if_neg (fun z => h (T.inj _ _ z)), if_neg h, ih]
      rfl
theorem KT.ok (T : KT f) (l : List (α × PV)) (a : α) : kOK (dks f l) (f a) := ⟨by rw [T.kk]; exact T.hn, fun y hy => by
  obtain ⟨x, _, rfl⟩ := List.mem_map.mp hy
  rw [T.kk, T.kk]⟩
theorem KT.get (T : KT f) {l : List (α × PV)} {a : α} {o : PV} {S : Sto} {Q : Option PV → Prop} (e : dD S o = some (dks f l, dvs l)) (q : Q (aget l a)) : dgetD o (f a) S Q := by
  unfold dgetD
  rw [e, T.hk]
  exact ⟨T.ok l a, by rw [T.at]; exact q⟩
theorem KT.set (T : KT f) {l : List (α × PV)} {a : α} {v : PV} {p : Addr} {S : Sto} {Qs : Sto → Prop} (hz : l.length < sizeLine) (q : Qs (upS S p (.dct (dks f (aput l a v)) (dvs (aput l a v))))) : dputD p (dks f l) (dvs l) (f a) v S Qs := by
  unfold dputD
  rw [T.hk]
  refine ⟨T.ok l a, by rw [List.length_map]; exact hz, ?_⟩
  rw [T.put]
  exact q
end
theorem num_inj : ∀ {a b : List Int}, a.map NestedKey.num = b.map NestedKey.num → a = b
  | [], [], _ => rfl
  | [], _ :: _, h => by simp at h
  | _ :: _, [], h => by simp at h
  | x :: a, y :: b, h => by
    simp only [List.map_cons, List.cons.injEq, NestedKey.num.injEq] at h
    rw [h.1, num_inj h.2]
theorem pvKeys_ints : ∀ ns : List Int, pvKeys (ns.map PV.int) = some (ns.map NestedKey.num)
  | [] => rfl
  | n :: ns => by simp only [List.map_cons, pvKeys, pvKey, pvKeys_ints ns]
theorem depth_ints : ∀ ns : List Int, NestedKey.depthAll (ns.map NestedKey.num) = 0
  | [] => rfl
  | n :: ns => by simp only [List.map_cons, NestedKey.depthAll, NestedKey.depth, depth_ints ns]; rfl
theorem key_iP (ns : List Int) : pvKey (iP ns) = some (.tup (ns.map .num)) := by simp only [iP, pvKey, pvKeys_ints]
theorem key_ceP (c : Cell) : pvKey (ceP c) = some (.tup [.num c.1, .tup (c.2.map .num)]) := by simp only [ceP, pvKey, pvKeys, key_iP]
def kt_ce : KT ceP where
  n := 3
  hn := by decide
  kk := fun c => by
    have h := key_ceP c
    show (match pvKey (ceP c) with | some k => if k.depth ≤ 8 then 3 else 0 | none => 0) = 3
    rw [h]
    simp only [NestedKey.depth, NestedKey.depthAll, depth_ints]
    decide
  g := fun c => .tup [.num c.1, .tup (c.2.map .num)]
  hk := key_ceP
  inj := fun a b h => by
    simp only [NestedKey.tup.injEq, List.cons.injEq, NestedKey.num.injEq, and_true] at h
    exact Prod.ext h.1 (num_inj h.2)
def kt_i : KT iP where
  n := 3
  hn := by decide
  kk := fun c => by
    have h := key_iP c
    show (match pvKey (iP c) with | some k => if k.depth ≤ 8 then 3 else 0 | none => 0) = 3
    rw [h]
    simp only [NestedKey.depth, depth_ints]
    decide
  g := fun c => .tup (c.map .num)
  hk := key_iP
  inj := fun a b h => num_inj (NestedKey.tup.inj h)
def kt_int : KT PV.int where
  n := 1
  hn := by decide
  kk := fun _ => rfl
  g := .num
  hk := fun _ => rfl
  inj := fun a b h => NestedKey.num.inj h
/-! ### sorted -/
def leF {α : Type} (f : α → PV) (a b : α) : Bool := !ltV (f b) (f a)
/-- sorted by the values -/
def srtF {α : Type} (f : α → PV) (l : List α) : List α := l.mergeSort (leF f)
section
variable {α : Type} {f : α → PV}
theorem leF_total (a b : α) : (leF f a b || leF f b a) = true := by
  unfold leF ltV
  rw [cV_swap (f a) (f b)]
  cases cV (f a) (f b) <;> rfl
theorem leF_trans (a b c : α) (h1 : leF f a b = true) (h2 : leF f b c = true) : leF f a c = true := by
  unfold leF at *
  have hs := ltV_swo f
  cases h : ltV (f c) (f a) with
  | false => rfl
  | true =>
    have n1 : ltV (f b) (f a) = false := by simpa using h1
    have n2 : ltV (f c) (f b) = false := by simpa using h2
    have := hs.tr a b c n1 n2
    rw [this] at h
    cases h
theorem srtF_perm (l : List α) : (srtF f l).Perm l := List.mergeSort_perm l _
theorem srtF_srt (l : List α) : (srtF f l).Pairwise fun a b => ltV (f b) (f a) = false := by
  refine List.Pairwise.imp ?_ (List.pairwise_mergeSort (le := leF f) leF_trans leF_total l)
  intro a b h
  unfold leF at h
  simpa using h
/-- sorted(..) of a type whose values are alike only where they are one -/
theorem srt_typed {l : List α} {R : List PV → Prop} (hok : SortOK (l.map f)) (ha : ∀ a b : α, cV (f a) (f b) = .eq → f a = f b) (q : R ((srtF f l).map f)) : SortOK (l.map f) ∧ ∀ ys : List PV, ys.Perm (l.map f) → (ys.Pairwise fun a b => ltV b a = false) → R ys := by
  refine ⟨hok, fun ys h1 h2 => ?_⟩
  have hp : ys.Perm ((srtF f l).map f) := h1.trans ((srtF_perm l).map f).symm
  have : ys = (srtF f l).map f := sorted_uniq hp h2 (List.pairwise_map.mpr (srtF_srt l)) fun x hx y hy e => by
    obtain ⟨a, _, rfl⟩ := List.mem_map.mp (h1.mem_iff.mp hx)
    obtain ⟨b, _, rfl⟩ := List.mem_map.mp (h1.mem_iff.mp hy)
    exact ha a b e
  rw [this]
  exact q
theorem sorted_typed {m : Bool} {x : PV} {l : List α} {S : Sto} {Q : Post} (e : dL S x = some (l.map f)) (hok : SortOK (l.map f)) (ha : ∀ a b : α, cV (f a) (f b) = .eq → f a = f b) (q : newL m ((srtF f l).map f) S Q) : biD .sorted m [x] S Q := by
  simp only [biD, e]
  exact srt_typed hok ha q
end
theorem srt_ce {l : List Cell} {R : List PV → Prop} (q : R ((srtF ceP l).map ceP)) : SortOK (l.map ceP) ∧ ∀ ys : List PV, ys.Perm (l.map ceP) → (ys.Pairwise fun a b => ltV b a = false) → R ys := srt_typed (sortOK_ce l) (fun a b h => by rw [ce_anti h]) q
theorem sorted_ce {m : Bool} {x : PV} {l : List Cell} {S : Sto} {Q : Post} (e : dL S x = some (l.map ceP)) (q : newL m ((srtF ceP l).map ceP) S Q) : biD .sorted m [x] S Q := sorted_typed e (sortOK_ce l) (fun a b h => by rw [ce_anti h]) q
end DL
end
section
set_option maxRecDepth 100000
set_option maxHeartbeats 1000000
/-! cells_of, shared_cells, touches, pairs. -/
namespace DL
open PySem PySem.Spec L2
open PyProof.Rows hiding St wpS
local macro_rules | `(tactic| walk_at "go") => `(tactic| try simp only [wpSs, wpS, wpE, wpEs, wpT, wpC, wpO, wpL, wpI, wpH, List.getElem?_cons_zero, List.getElem?_cons_succ, List.set_cons_zero, List.set_cons_succ, biD, dQ, dL, cmpD, truD, idxD, binD, tgD, tgDs, frzQ, newL, List.any_cons, List.any_nil, Bool.or_false, wipeS, at0, at1, at2, at3, at4, at5])
def pP_cells_of : Prm := { α := Pgm, pre := fun P vs S => vs = [pgP P] ∧ PgmOK P, post := fun P S r S' => resL true ((rowsL P).map rwP) S r S' }
theorem PgmOK.small {P : Pgm} (h : PgmOK P) {x : FSt} (hx : x ∈ fsL P) : ∃ n, P.nst[x.n]? = some n ∧ n.dds[x.s]? = some x.d ∧ Small x.cs := by
  obtain ⟨n, h1, h2, h3⟩ := fs_mem hx
  exact ⟨n, h1, h3, cnt_small n.lps [] (h.nst n (List.mem_of_getElem? h1)).lps.cnt _ h2⟩
theorem kP_cells_of {G : GE} (h19 : G.fn 19 = pP_cells_of_step.sp) (h17 : G.fn 17 = pP_steps_of.sp) : Keeps G irP_cells_of nP_cells_of pP_cells_of := fun (P : Pgm) vs S Q E _ _ hp hq _ => by
  obtain ⟨rfl, hP⟩ := hp
  rw [show startS nP_cells_of [pgP P] = [some (pgP P), none] from rfl]
  unfold irP_cells_of
  walk_at "go"
  refine Prm.call h17 (fun _ _ _ _ => id) P ⟨rfl, hP⟩ fun r S1 h => ?_
  refine resL_frz h ?_
  simp only [dQ]
  intro p hp
  rw [show (stepsL P).map stP = (fsL P).map fun x => stP x.st from by unfold stepsL; rw [List.map_map]; rfl]
  refine comp_typed (fun x : FSt => stP x.st) (fun x => rwP x.row) (fsL P) hp (fun acc => trivial) (fun i x acc k hx ha hk => ?_) ?_
  · obtain ⟨n, h1, h2, h3⟩ := hP.small (List.mem_of_getElem? hx)
    walk_at "go"
    refine Prm.call h19 (fun _ _ _ _ => id) ⟨P, x, n⟩ ⟨rfl, h1, h2, h3⟩ fun r S h => ?_
    obtain ⟨rfl, rfl⟩ := h
    simp only [rwP, frzQ]
    exact ⟨upS_same, by rw [upS_upS]; exact hk⟩
  · refine ⟨upS_same, hq _ _ ⟨p, rfl, hp, ?_⟩⟩
    unfold rowsL
    rw [List.map_map]
    rfl
/-! shared_cells -/
/-- the cells at which two rows touch, as they are found -/
def shd1 (a b : CRow) (l : List (Cell × PV)) : List (Cell × PV) := if a.1 = b.1 ∨ a.1 ∈ b.2 then aput l a.1 (.bl true) else l
def shdL (a b : CRow) : List Cell := srtF ceP ((shd1 b a (shd1 a b [])).map (·.1))
structure ShA where
  a : CRow
  b : CRow
def pP_shared_cells : Prm := { α := ShA, pre := fun z vs S => vs = [rwP z.a, rwP z.b], post := fun z S r S' => resL true ((shdL z.a z.b).map ceP) S r S' }
theorem kP_shared_cells {G : GE} : Keeps G irP_shared_cells nP_shared_cells pP_shared_cells := fun z vs S Q E hcl _ hp hq _ => by
  obtain ⟨a, b⟩ := z
  obtain rfl := hp
  have hz : 100 ≤ sizeLine := by decide
  rw [show startS nP_shared_cells [rwP a, rwP b] = [some (rwP a), some (rwP b), none, none, none] from rfl]
  unfold irP_shared_cells
  walk_at "go"
  simp only [newD]
  intro p hp
  unfold irP_shared_cells_2
  walk_at "go"
  refine ⟨by show 2 ≤ sizeLine; omega, by show 2 ≤ sizeLine; omega, by show 2 ≤ sizeLine; omega, ?_⟩
  have step : ∀ (a0 b0 a b : CRow) (l : List (Cell × PV)) (D : EndD) (z3 z4 : Option PV), l.length ≤ 10 → D.nx [some (rwP a0), some (rwP b0), some (.ref p), some (rwP a), some (rwP b)] (upS S p (.dct (dks ceP (shd1 a b l)) (dvs (shd1 a b l)))) →
      wpSs G irP_shared_cells_b1 D (fun x _ S => E x S) [some (rwP a0), some (rwP b0), some (.ref p), some (rwP a), some (rwP b)] (upS S p (.dct (dks ceP l) (dvs l))) := fun a0 b0 a b l D z3 z4 hl hk => by
    obtain ⟨k, rt, bk, ct⟩ := D
    unfold irP_shared_cells_b1
    simp only at hk
    have put : k [some (rwP a0), some (rwP b0), some (.ref p), some (rwP a), some (rwP b)] (upS S p (.dct (dks ceP (aput l a.1 (.bl true))) (dvs (aput l a.1 (.bl true))))) → setID (.ref p) (ceP a.1) (.bl true) (upS S p (.dct (dks ceP l) (dvs l))) fun S4 => k [some (rwP a0), some (rwP b0), some (.ref p), some (rwP a), some (rwP b)] S4 := fun h => by
      simp only [setID, upS_same]
      refine kt_ce.set (by omega) ?_
      rw [upS_upS]
      exact h
    walk_at "go"
    simp only [rwP, dQ, at0, at1] at put hk ⊢
    refine eq_ce ?_
    by_cases c1 : a.1 = b.1
    · have d1 : decide (a.1 = b.1) = true := decide_eq_true c1
      simp only [d1]
      refine put ?_
      simpa only [shd1, c1, true_or, if_true] using hk
    · have d1 : decide (a.1 = b.1) = false := decide_eq_false c1
      simp only [d1]
      refine in_ce (l := b.2) rfl ?_
      by_cases c2 : a.1 ∈ b.2
      · simp only [c2, decide_true]
        refine put ?_
        simpa only [shd1, c2, or_true, if_true] using hk
      · simp only [c2, decide_false]
        simpa only [shd1, c1, c2, or_self, if_false] using hk
  have l1 : (shd1 a b []).length ≤ 1 := by
    unfold shd1
    split
    · exact aput_len [] _ _
    · simp
  simp only [itL, okL, true_and, tgD, tgDs, dQ, List.set_cons_zero, List.set_cons_succ]
  refine step a b a b [] _ none none (by simp) ?_
  simp only
  refine step a b b a _ _ none none (by omega) ?_
  simp only
  have l2 : (shd1 b a (shd1 a b [])).length ≤ 2 := by
    unfold shd1 at l1 ⊢
    split
    · exact Nat.le_trans (aput_len _ _ _) (by omega)
    · omega
  unfold irP_shared_cells_1
  simp only [wpSs, wpS, wpE, wpEs, List.getElem?_cons_zero, List.getElem?_cons_succ]
  simp only [biD, dQ, dD, upS_same, newL]
  refine ⟨by rw [List.length_map]; omega, ?_⟩
  rw [show dks ceP (shd1 b a (shd1 a b [])) = ((shd1 b a (shd1 a b [])).map (·.1)).map ceP from by rw [List.map_map]; rfl]
  refine srt_ce ?_
  intro q hq'
  refine hcl _ _ _ _ (Sub.del (p := p)) ?_
  have hqp : q ≠ p := fun e => by rw [e, upS_same] at hq'; cases hq'
  rw [upS_ne hqp] at hq'
  have e : delS (upS (upS S p (.dct (dks ceP (shd1 b a (shd1 a b []))) (dvs (shd1 b a (shd1 a b []))))) q (.lst ((shdL a b).map ceP))) p = upS S q (.lst ((shdL a b).map ceP)) := by
    rw [upS_comm2 (Ne.symm hqp), delS_upS]
    rw [upS_ne (Ne.symm hqp)]
    exact hp
  have := hq _ _ ⟨q, rfl, hq', rfl⟩
  rw [← e] at this
  rw [show ((shd1 b a (shd1 a b [])).map (·.1)).map ceP = dks ceP (shd1 b a (shd1 a b [])) from by rw [List.map_map]; rfl]
  exact this
end DL
end
section
set_option maxRecDepth 100000
set_option maxHeartbeats 1000000
/-! touches, pairs. -/
namespace DL
open PySem PySem.Spec L2
open PyProof.Rows hiding St wpS
local macro_rules | `(tactic| walk_at "go") => `(tactic| try simp only [wpSs, wpS, wpE, wpEs, wpT, wpC, wpO, wpL, wpI, wpH, List.getElem?_cons_zero, List.getElem?_cons_succ, List.set_cons_zero, List.set_cons_succ, biD, dQ, dL, cmpD, truD, idxD, binD, tgD, tgDs, frzQ, newL, List.any_cons, List.any_nil, Bool.or_false, wipeS, at0, at1, at2, at3, at4, at5])
def rowI (R : List CRow) (i : Nat) : CRow := R.getD i ((0, []), [])
theorem rowI_at {R : List CRow} {i : Nat} (h : i < R.length) : L2.atI (R.map rwP) ((i : Nat) : Int) = some (rwP (rowI R i)) := atI_nat (by
  rw [List.getElem?_map, List.getElem?_eq_getElem h]
  simp [rowI, List.getD_eq_getElem?_getD, List.getElem?_eq_getElem h])
def tchB (R : List CRow) (i j : Nat) : Bool := decide (i ≠ j) && decide (shdL (rowI R i) (rowI R j) ≠ [])
structure TcA where
  P : Pgm
  i : Nat
  j : Nat
def pP_touches : Prm := { α := TcA, pre := fun z vs S => vs = [pgP z.P, .int z.i, .int z.j] ∧ PgmOK z.P ∧ z.i < (rowsL z.P).length ∧ z.j < (rowsL z.P).length, post := fun z S r S' => r = .bl (tchB (rowsL z.P) z.i z.j) ∧ S' = S }
/-- a list of cells is not empty -/
theorem eq_nil {α : Type} {f : α → PV} {l : List α} {S : Sto} {Q : Bool → Prop} (h : ∀ a, dat (f a) = true) (n : Nat) (hn : n ≤ 60) (hd : ∀ a, dpt (f a) ≤ n) (q : Q (decide (l = []))) : eqD (.lst (l.map f)) (.lst []) S Q := by
  refine eq_dat (by simp only [dat]; exact dats_map h l) rfl (by simp only [dpt]; have := dpts_map hd l; omega) (by decide) fun k hk => ?_
  have : k = decide (l = []) := by
    rw [Bool.eq_iff_iff, hk, decide_eq_true_iff, PV.lst.injEq, List.map_eq_nil_iff]
  rw [this]
  exact q
theorem kP_touches {G : GE} (h20 : G.fn 20 = pP_cells_of.sp) (h29 : G.fn 29 = pP_shared_cells.sp) : Keeps G irP_touches nP_touches pP_touches := fun z vs S Q E _ _ hp hq _ => by
  obtain ⟨P, i, j⟩ := z
  obtain ⟨rfl, hP, hi, hj⟩ := hp
  simp only at hi hj
  have out : ∀ b, tchB (rowsL P) i j = b → Q (.bl b) S := fun b h => hq _ _ ⟨by rw [← h], rfl⟩
  clear hq
  rw [show startS nP_touches [pgP P, .int i, .int j] = [some (pgP P), some (.int i), some (.int j), none] from rfl]
  unfold irP_touches
  walk_at "go"
  refine Prm.call h20 (fun _ _ _ _ => id) P ⟨rfl, hP⟩ fun r S1 h => ?_
  refine resL_frz h ?_
  walk_at "go"
  unfold irP_touches_1
  walk_at "go"
  simp only [eqD]
  by_cases c : i = j
  · subst c
    simp only [decide_true, Bool.not_true]
    exact out _ (by simp [tchB])
  · have c2 : ¬ (i : Int) = (j : Int) := by omega
    simp only [c2, decide_false, Bool.not_false, rowI_at hi, rowI_at hj]
    refine Prm.call h29 (fun _ _ _ _ => id) ⟨rowI (rowsL P) i, rowI (rowsL P) j⟩ rfl fun r S2 h => ?_
    refine resL_frz h ?_
    refine ⟨by show 0 ≤ sizeLine; decide, ?_⟩
    refine eq_nil dat_ceP 2 (by decide) dpt_ceP ?_
    refine out _ ?_
    simp only [tchB, ne_eq, c, not_false_eq_true, decide_true, Bool.true_and, decide_not]
abbrev Pr3 := Nat × Nat × List Cell
def prP (x : Pr3) : PV := .tup [.int x.1, .int x.2.1, .lst (x.2.2.map ceP)]
def prsI (R : List CRow) (i : Nat) (j : Nat) : List Pr3 := if shdL (rowI R i) (rowI R j) = [] then [] else [(i, j, shdL (rowI R i) (rowI R j))]
def prsL (R : List CRow) : List Pr3 := (List.range R.length).flatMap fun i => (List.range (R.length - (i + 1))).flatMap fun k => prsI R i (i + 1 + k)
theorem flat_le {α : Type} {f : Nat → List α} {n c : Nat} (h : ∀ i, (f i).length ≤ c) : ((List.range n).flatMap f).length ≤ n * c := by
  induction n with
  | zero => simp
  | succ n ih =>
    rw [List.range_succ, List.flatMap_append, List.length_append, List.flatMap_singleton, Nat.add_mul]
    have := h n
    omega
theorem prsI_le (R : List CRow) (i j : Nat) : (prsI R i j).length ≤ 1 := by
  unfold prsI
  split <;> simp
def pP_pairs : Prm := { α := Pgm, pre := fun P vs S => vs = [pgP P] ∧ PgmOK P, post := fun P S r S' => resL true ((prsL (rowsL P)).map prP) S r S' }
theorem PgmOK.rows {P : Pgm} (h : PgmOK P) : (rowsL P).length ≤ 60 := by
  unfold rowsL
  rw [List.length_map]
  exact h.len
theorem kP_pairs {G : GE} (h20 : G.fn 20 = pP_cells_of.sp) (h29 : G.fn 29 = pP_shared_cells.sp) : Keeps G irP_pairs nP_pairs pP_pairs := fun (P : Pgm) vs S Q E _ _ hp hq _ => by
  obtain ⟨rfl, hP⟩ := hp
  have hz : 10000 ≤ sizeLine := by decide
  have h60 := hP.rows
  rw [show startS nP_pairs [pgP P] = [some (pgP P), none, none, none, none, none] from rfl]
  unfold irP_pairs
  walk_at "go"
  refine Prm.call h20 (fun _ _ _ _ => id) P ⟨rfl, hP⟩ fun r S1 h => ?_
  refine resL_frz h ?_
  walk_at "go"
  have hq : ∀ p, S p = none → Q (.ref p) (upS S p (.lst ((prsL (rowsL P)).map prP))) := fun p hp => hq _ _ ⟨p, rfl, hp, rfl⟩
  generalize rowsL P = R at h60 hq ⊢
  unfold irP_pairs_4
  walk_at "go"
  refine ⟨by show 0 ≤ sizeLine; omega, fun q hq0 => ?_⟩
  unfold irP_pairs_3
  walk_at "go"
  refine ⟨by rw [List.length_map]; omega, by omega, ?_⟩
  rw [List.length_map, Int.toNat_natCast]
  refine itL_inv (fun i σ S' => S' = upS S q (.lst (((List.range i).flatMap fun i => (List.range (R.length - (i + 1))).flatMap fun k => prsI R i (i + 1 + k)).map prP)) ∧ ∃ z1 z2 z3, σ = [some (pgP P), some (.lst (R.map rwP)), some (.ref q), z1, z2, z3]) ⟨rfl, none, none, none, rfl⟩ (fun _ _ _ _ => trivial) (fun i x σ S' k hx h hk => ?_) fun σ S' h => ?_
  · obtain ⟨rfl, z1, z2, z3, rfl⟩ := h
    obtain ⟨hi, rfl⟩ := rngP_get hx
    rw [Int.zero_add]
    walk_at "go"
    unfold irP_pairs_b2
    walk_at "go"
    refine ⟨by omega, by omega, by omega, by rw [List.length_map]; omega, by rw [List.length_map]; omega, ?_⟩
    rw [List.length_map, show ((R.length : Int) - ((i : Int) + 1)).toNat = R.length - (i + 1) from by omega]
    have hAle : ((List.range i).flatMap fun i => (List.range (R.length - (i + 1))).flatMap fun k => prsI R i (i + 1 + k)).length ≤ 3600 := by
      refine Nat.le_trans (flat_le (c := 60) fun i => ?_) (by have : i * 60 ≤ 60 * 60 := Nat.mul_le_mul_right 60 (by omega); omega)
      refine Nat.le_trans (flat_le (c := 1) fun k => prsI_le R i _) (by omega)
    have hk := fun z1 z2 z3 => hk [some (pgP P), some (.lst (R.map rwP)), some (.ref q), z1, z2, z3] (upS S q (.lst (((List.range (i + 1)).flatMap fun i => (List.range (R.length - (i + 1))).flatMap fun k => prsI R i (i + 1 + k)).map prP))) ⟨rfl, _, _, _, rfl⟩
    rw [List.range_succ, List.flatMap_append, List.flatMap_singleton] at hk
    generalize ((List.range i).flatMap fun i => (List.range (R.length - (i + 1))).flatMap fun k => prsI R i (i + 1 + k)) = A at hAle hk ⊢
    refine itL_inv (fun m σ S' => S' = upS S q (.lst ((A ++ (List.range m).flatMap fun k => prsI R i (i + 1 + k)).map prP)) ∧ ∃ z2 z3, σ = [some (pgP P), some (.lst (R.map rwP)), some (.ref q), some (.int (i : Nat)), z2, z3]) ⟨by simp, z2, z3, rfl⟩ (fun _ _ _ _ => trivial) (fun m x σ S' k hx h hk' => ?_) fun σ S' h => ?_
    · obtain ⟨rfl, z2, z3, rfl⟩ := h
      obtain ⟨hm, rfl⟩ := rngP_get hx
      walk_at "go"
      unfold irP_pairs_b1
      walk_at "go"
      have ej : (i : Int) + 1 + (m : Int) = ((i + 1 + m : Nat) : Int) := by omega
      simp only [ej, rowI_at hi, rowI_at (show i + 1 + m < R.length by omega)]
      refine Prm.call h29 (fun _ _ _ _ => id) ⟨rowI R i, rowI R (i + 1 + m)⟩ rfl fun r S2 h => ?_
      refine resL_frz h ?_
      walk_at "go"
      unfold irP_pairs_1
      walk_at "go"
      refine ⟨by show 0 ≤ sizeLine; omega, ?_⟩
      refine eq_nil dat_ceP 2 (by decide) dpt_ceP ?_
      have hsucc : (List.range (m + 1)).flatMap (fun k => prsI R i (i + 1 + k)) = (List.range m).flatMap (fun k => prsI R i (i + 1 + k)) ++ prsI R i (i + 1 + m) := by
        rw [List.range_succ, List.flatMap_append, List.flatMap_singleton]
      have hml : ((List.range m).flatMap fun k => prsI R i (i + 1 + k)).length ≤ 60 := Nat.le_trans (flat_le (c := 1) fun k => prsI_le R i _) (by omega)
      by_cases c : shdL (rowI R i) (rowI R (i + 1 + m)) = []
      · have e : prsI R i (i + 1 + m) = [] := if_pos c
        simp only [decide_eq_true c, Bool.not_true]
        refine hk' _ _ ⟨?_, _, _, rfl⟩
        rw [hsucc, e, List.append_nil]
      · have e : prsI R i (i + 1 + m) = [(i, i + 1 + m, shdL (rowI R i) (rowI R (i + 1 + m)))] := if_neg c
        simp only [decide_eq_false c, Bool.not_false, tyP, upS_same, meD, upS_upS]
        refine ⟨rfl, by show 3 ≤ sizeLine; omega, by simp only [List.length_map, List.length_append]; omega, hk' _ _ ⟨?_, _, _, rfl⟩⟩
        rw [hsucc, e]
        simp only [List.map_append, List.append_assoc]
        rfl
    · obtain ⟨rfl, z2, z3, rfl⟩ := h
      rw [rngP_len]
      exact hk _ _ _
  · obtain ⟨rfl, z1, z2, z3, rfl⟩ := h
    rw [rngP_len]
    unfold irP_pairs_2
    walk_at "go"
    exact hq q hq0
end DL
end
section
set_option maxRecDepth 100000
set_option maxHeartbeats 1000000
/-! The laws' draws (B): cell, pen, take, form. -/
namespace DL
open PySem PySem.Spec L2
open PyProof.Rows hiding St wpS
local macro_rules | `(tactic| walk_at "go") => `(tactic| try simp only [wpSs, wpS, wpE, wpEs, wpT, wpC, wpO, wpL, wpI, wpH, List.getElem?_cons_zero, List.getElem?_cons_succ, List.set_cons_zero, List.set_cons_succ, biD, dQ, dL, cmpD, truD, idxD, binD, tgD, tgDs, frzQ, newL, List.any_cons, List.any_nil, Bool.or_false, wipeS, at0, at1, at2, at3, at4, at5])
def pB_cell : Prm := { α := List Int × Int, pre := fun z vs S => vs = [.lst (z.1.map .int), .int z.2] ∧ 0 ≤ z.2, post := fun z S r S' => ∃ i, r = .int i ∧ 0 ≤ i ∧ S' = S }
theorem kB_cell {G : GE} : Keeps G irB_cell nB_cell pB_cell := fun z vs S Q E _ _ hp hq _ => by
  obtain ⟨ns, k⟩ := z
  obtain ⟨rfl, hk⟩ := hp
  simp only at hk
  have out : ∀ i, 0 ≤ i → Q (.int i) S := fun i h => hq _ _ ⟨i, rfl, h, rfl⟩
  clear hq
  rw [show startS nB_cell [.lst (ns.map .int), .int k] = [some (.lst (ns.map .int)), some (.int k), none] from rfl]
  unfold irB_cell
  walk_at "go"
  have rest : ∀ c : Int, wpSs G irB_cell_3 { nx := fun _ S => Q .non S, rt := Q } (fun x _ S => E x S) [some (.lst (ns.map .int)), some (.int k), some (.int c)] S := fun c => by
    have last : wpSs G irB_cell_2 { nx := fun _ S => Q .non S, rt := Q } (fun x _ S => E x S) [some (.lst (ns.map .int)), some (.int k), some (.int c)] S := by
      unfold irB_cell_2
      walk_at "go"
      refine ⟨by decide, .inl (.inl ⟨by decide, by decide⟩), .inl (.inr ⟨by decide, by decide⟩), by decide, ?_⟩
      unfold irB_cell_1
      walk_at "go"
      have h1 := Int.emod_nonneg ((c % 2147483629 + 6151 * k + 1) * 48271) (b := 2147483647) (by decide)
      have h2 := Int.emod_lt_of_pos ((c % 2147483629 + 6151 * k + 1) * 48271) (b := 2147483647) (by decide)
      exact ⟨by decide, .inl (.inl ⟨by omega, by omega⟩), by decide, out _ (Int.emod_nonneg _ (by decide))⟩
    unfold irB_cell_3
    walk_at "go"
    by_cases h : k < ((ns.map PV.int).length : Int)
    · simp only [h, decide_true]
      cases ns with
      | nil => simp at h; omega
      | cons n ns =>
        simp only [List.map_cons, at0, eqD]
        refine ⟨by decide, ?_⟩
        by_cases h2 : n % 2 = 0
        · simp only [h2, decide_true]
          exact out _ (by split <;> omega)
        · simp only [h2, decide_false]
          exact last
    · simp only [h, decide_false]
      exact last
  unfold irB_cell_4
  walk_at "go"
  by_cases h : (0 : Int) < ((ns.map PV.int).length : Int)
  · simp only [h, decide_true]
    rw [List.length_map] at h
    have h1 := Int.emod_nonneg k (b := ns.length) (by omega)
    have h2 := Int.emod_lt_of_pos k (b := ns.length) h
    have hl : (k % (ns.length : Int)).toNat < ns.length := by omega
    have e : L2.atI (ns.map PV.int) (k % ((ns.map PV.int).length : Int)) = some (.int ns[(k % (ns.length : Int)).toNat]) := atI_of (by rw [List.length_map]; exact h1) rfl (by rw [List.getElem?_map, List.length_map, List.getElem?_eq_getElem hl]; rfl)
    simp only [e]
    exact ⟨trivial, rest _⟩
  · simp only [h, decide_false]
    exact rest 7
def PenB (l : List PV) : Prop := ∃ (c k : Int) (ns : List Int), l = [.int c, .int k, .lst (ns.map .int)] ∧ 0 ≤ c ∧ 0 ≤ k
def pB_pen : Prm := { α := List Int × Int, pre := fun z vs S => vs = [.lst (z.1.map .int), .int z.2] ∧ 0 ≤ z.2, post := fun z S r S' => ∃ a l, r = .ref a ∧ S a = none ∧ PenB l ∧ S' = upS S a (.lst l) }
theorem kB_pen {G : GE} (h : G.fn 100 = pB_cell.sp) : Keeps G irB_pen nB_pen pB_pen := fun z vs S Q E _ _ hp hq _ => by
  obtain ⟨ns, k⟩ := z
  obtain ⟨rfl, hk⟩ := hp
  simp only at hk
  rw [show startS nB_pen [.lst (ns.map .int), .int k] = [some (.lst (ns.map .int)), some (.int k)] from rfl]
  unfold irB_pen
  walk_at "go"
  refine Prm.call h (fun _ _ _ _ => id) (ns, k) ⟨rfl, hk⟩ fun r S h => ?_
  obtain ⟨i, rfl, h0, rfl⟩ := h
  walk_at "go"
  exact ⟨by show 3 ≤ sizeLine; decide, fun p hp => hq _ _ ⟨p, _, rfl, hp, ⟨i, k, ns, rfl, h0, hk⟩, rfl⟩⟩
structure TkA where
  a : Addr
  l : List PV
  m : Int
def pB_take : Prm := { α := TkA, pre := fun z vs S => vs = [.ref z.a, .int z.m] ∧ S z.a = some (.lst z.l) ∧ PenB z.l ∧ 0 < z.m ∧ z.m < 2 ^ 128, post := fun z S r S' => ∃ i l, r = .int i ∧ 0 ≤ i ∧ i < z.m ∧ PenB l ∧ S' = upS S z.a (.lst l) }
theorem ix3 (p0 p1 p2 : PV) : L2.ixN [p0, p1, p2].length 0 = some 0 ∧ L2.ixN [p0, p1, p2].length 1 = some 1 ∧ L2.ixN [p0, p1, p2].length 2 = some 2 := ⟨rfl, rfl, rfl⟩
theorem kB_take {G : GE} (h : G.fn 100 = pB_cell.sp) : Keeps G irB_take nB_take pB_take := fun z vs S Q E _ _ hp hq _ => by
  obtain ⟨a, l, m⟩ := z
  obtain ⟨rfl, hS, ⟨c, k, ns, rfl, hc, hk⟩, hm, hm2⟩ := hp
  simp only at hS hm hm2
  have hdiv : ∀ i, CDivW i m := fun i => wide_div (b := 128) hm (by omega) (by decide) (by decide)
  have out : ∀ (c k : Int) (ns : List Int) (S' : Sto), 0 ≤ c → 0 ≤ k → ∀ i, 0 ≤ i → i < m → S' = upS S a (.lst [.int c, .int k, .lst (ns.map .int)]) → Q (.int i) S' := fun c k ns S' h1 h2 i h3 h4 e => hq _ _ ⟨i, _, rfl, h3, h4, ⟨c, k, ns, rfl, h1, h2⟩, e⟩
  clear hq
  rw [show startS nB_take [.ref a, .int m] = [some (.ref a), some (.int m), none] from rfl]
  unfold irB_take
  walk_at "go"
  simp only [hS, at0]
  refine ⟨hm, ?_⟩
  unfold irB_take_4
  walk_at "go"
  simp only [hS, at0, setID, ix3, List.set_cons_zero]
  refine ⟨hdiv _, ?_⟩
  unfold irB_take_3
  walk_at "go"
  simp only [upS_same, at0, eqD]
  have d0 : 0 ≤ c / m := Int.ediv_nonneg hc (by omega)
  have m0 := Int.emod_nonneg c (b := m) (by omega)
  have m1 := Int.emod_lt_of_pos c hm
  by_cases e : c / m = 0
  · simp only [e, decide_true, at1, setID, ix3, upS_same, List.set_cons_zero, List.set_cons_succ, upS_upS]
    unfold irB_take_1
    walk_at "go"
    simp only [upS_same, at1, at2]
    refine Prm.call h (fun _ _ _ _ => id) (ns, k + 1) ⟨rfl, by show 0 ≤ k + 1; omega⟩ fun r S h => ?_
    obtain ⟨i, rfl, h0, rfl⟩ := h
    walk_at "go"
    simp only [setID, ix3, upS_same, List.set_cons_zero, List.set_cons_succ, upS_upS]
    unfold irB_take_2
    walk_at "go"
    exact out i (k + 1) ns _ h0 (by omega) _ m0 m1 rfl
  · simp only [e, decide_false]
    unfold irB_take_2
    walk_at "go"
    exact out (c / m) k ns _ d0 hk _ m0 m1 rfl
/-- a draw -/
theorem takeB {G : GE} (h : G.fn 102 = pB_take.sp) {a : Addr} {l : List PV} {m : Int} {S : Sto} {Q : Post} {E : XPost} (hS : S a = some (.lst l)) (hl : PenB l) (hm : 0 < m) (hm2 : m < 2 ^ 128)
    (k : ∀ i l', 0 ≤ i → i < m → PenB l' → Q (.int i) (upS S a (.lst l'))) : G.fn 102 [.ref a, .int m] S (frzQ false Q) E :=
  Prm.call h (fun _ _ _ _ => id) ⟨a, l, m⟩ ⟨rfl, hS, hl, hm, hm2⟩ fun r S' h => by
    obtain ⟨i, l', rfl, h0, h1, h2, rfl⟩ := h
    exact k i l' h0 h1 h2
theorem upS_sw {S : Sto} {a p : Addr} {u v w : MO} (h : p ≠ a) : upS (upS (upS S a u) p v) a w = upS (upS S a w) p v := by rw [upS_comm2 h, upS_upS]
/-- .. beside one told thing -/
theorem takeB2 {G : GE} (h : G.fn 102 = pB_take.sp) {a p : Addr} {o : MO} {l : List PV} {m : Int} {S : Sto} {Q : Post} {E : XPost} (hp : p ≠ a) (hl : PenB l) (hm : 0 < m) (hm2 : m < 2 ^ 128)
    (k : ∀ i l', 0 ≤ i → i < m → PenB l' → Q (.int i) (upS (upS S a (.lst l')) p o)) : G.fn 102 [.ref a, .int m] (upS (upS S a (.lst l)) p o) (frzQ false Q) E :=
  takeB h (by rw [upS_ne (Ne.symm hp)]; exact upS_same) hl hm hm2 fun i l' h0 h1 hl' => by
    rw [upS_sw hp]
    exact k i l' h0 h1 hl'
/-- a list comprehension whose parts draw -/
theorem comp_penB {ok : Sto → Prop} {step : PV → List PV → Sto → (List PV → Sto → Prop) → Prop} {items : List PV} {S : Sto} {a p : Addr} {l : List PV} {dn : List PV → Sto → Prop} (R : Nat → PV → Prop) (hp : p ≠ a) (hS : S a = some (.lst l)) (hl : PenB l) (hok : ∀ S', ok S')
    (hs : ∀ (i : Nat) x acc l k, items[i]? = some x → acc.length = i → PenB l → (∀ y l', R i y → PenB l' → k (acc ++ [y]) (upS (upS S a (.lst l')) p (.lst (acc ++ [y])))) → step x acc (upS (upS S a (.lst l)) p (.lst acc)) k)
    (hd : ∀ acc l, acc.length = items.length → (∀ (i : Nat) y, acc[i]? = some y → R i y) → PenB l → dn acc (upS (upS S a (.lst l)) p (.lst acc))) : itL ok step dn items [] (upS S p (.lst [])) := by
  refine itL_inv (fun i acc S' => acc.length = i ∧ (∀ (j : Nat) y, acc[j]? = some y → R j y) ∧ ∃ l, PenB l ∧ S' = upS (upS S a (.lst l)) p (.lst acc)) ⟨rfl, fun j y h => by simp at h, l, hl, by rw [upS_id hS]⟩ (fun _ _ S' _ => hok S') (fun i x acc S' k hx h hk => ?_) fun acc S' h => ?_
  · obtain ⟨h1, h2, l, hl, rfl⟩ := h
    refine hs i x acc l k hx h1 hl fun y l' hy hl' => hk _ _ ⟨by rw [List.length_append, h1]; rfl, fun j z hz => ?_, l', hl', rfl⟩
    by_cases hj : j < acc.length
    · rw [List.getElem?_append_left hj] at hz
      exact h2 j z hz
    · rw [List.getElem?_append_right (by omega)] at hz
      have hj2 : j - acc.length = 0 := by
        have := (List.getElem?_eq_some_iff.mp hz).1
        simp at this
        omega
      rw [hj2] at hz
      simp at hz
      subst hz
      have : j = i := by omega
      rw [this]
      exact hy
  · obtain ⟨h1, h2, l, hl, rfl⟩ := h
    exact hd acc l h1 h2 hl
/-- parts of one type -/
theorem typed_of {α : Type} {f : α → PV} {R : α → Prop} : ∀ {xs : List PV}, (∀ y ∈ xs, ∃ a, y = f a ∧ R a) → ∃ l : List α, xs = l.map f ∧ ∀ a ∈ l, R a
  | [], _ => ⟨[], rfl, fun a h => by simp at h⟩
  | x :: xs, h => by
    obtain ⟨a, rfl, ra⟩ := h x (by simp)
    obtain ⟨l, rfl, hl⟩ := typed_of (xs := xs) (R := R) fun y hy => h y (List.mem_cons_of_mem _ hy)
    exact ⟨a :: l, rfl, fun b hb => by
      rcases List.mem_cons.mp hb with e | hb
      · rw [e]; exact ra
      · exact hl b hb⟩
theorem typed_at {α : Type} {f : α → PV} {R : α → Prop} {xs : List PV} (h : ∀ (i : Nat) y, xs[i]? = some y → ∃ a, y = f a ∧ R a) : ∃ l : List α, xs = l.map f ∧ ∀ a ∈ l, R a := typed_of fun y hy => by
  obtain ⟨i, hi⟩ := List.getElem?_of_mem hy
  exact h i y hi
/-! forms -/
structure FmA where
  a : Addr
  l : List PV
  d : Nat
  w : Int
/-- a drawn form -/
def FormB (w : Int) (d : Nat) (f : Frm) : Prop := f.2.length = d ∧ absI f.1 ≤ (if w = 1 then 99 else w) ∧ ∀ n ∈ f.2, absI n ≤ 99
def pB_form : Prm := { α := FmA, pre := fun z vs S => vs = [.ref z.a, .int z.d, .int z.w] ∧ S z.a = some (.lst z.l) ∧ PenB z.l ∧ z.d ≤ 10 ∧ 0 < z.w ∧ z.w ≤ 10 ^ 30, post := fun z S r S' => ∃ f l, r = fP f ∧ FormB z.w z.d f ∧ PenB l ∧ S' = upS S z.a (.lst l) }
theorem absI_le2 {i m : Int} (h1 : -m ≤ i) (h2 : i ≤ m) : absI i ≤ m := by unfold absI; split <;> omega
theorem kB_form {G : GE} (h : G.fn 102 = pB_take.sp) : Keeps G irB_form nB_form pB_form := fun z vs S Q E hcl _ hp hq _ => by
  obtain ⟨a, l, d, w⟩ := z
  obtain ⟨rfl, hS, hl, hd, hw, hw2⟩ := hp
  simp only at hS hl hd hw hw2
  have hz : 100 ≤ sizeLine := by decide
  have out : ∀ (f : Frm) (l : List PV) (S' : Sto), FormB w d f → PenB l → S' = upS S a (.lst l) → Q (fP f) S' := fun f l S' h1 h2 e => hq _ _ ⟨f, l, rfl, h1, h2, e⟩
  clear hq
  rw [show startS nB_form [.ref a, .int d, .int w] = [some (.ref a), some (.int d), some (.int w), none, none] from rfl]
  have rest : ∀ l, PenB l → wpSs G irB_form_3 { nx := fun _ S => Q .non S, rt := Q } (fun x _ S => E x S) [some (.ref a), some (.int d), some (.int w), none, none] (upS S a (.lst l)) := fun l hl => by
    unfold irB_form_3
    walk_at "go"
    refine ⟨.inl (.inl ⟨by decide, by decide⟩), ?_⟩
    have h10 : (10 : Int) ^ 30 = 1000000000000000000000000000000 := by decide
    refine takeB h upS_same hl (by omega) (by have : (2 : Int) ^ 128 = 340282366920938463463374607431768211456 := by decide
                                              omega) fun f l1 f0 f1 hl1 => ?_
    walk_at "go"
    rw [upS_upS]
    refine ⟨by show 1 ≤ sizeLine; omega, fun p hp => ?_⟩
    have hpa : p ≠ a := fun e => by rw [e, upS_same] at hp; cases hp
    rw [upS_ne hpa] at hp
    unfold irB_form_2
    walk_at "go"
    refine ⟨by omega, by omega, ?_⟩
    rw [Int.toNat_natCast]
    refine itL_inv (fun i σ S' => ∃ (ns : List Int) (l : List PV) (z4 : Option PV), ns.length = i ∧ (∀ n ∈ ns, absI n ≤ 99) ∧ PenB l ∧ S' = upS (upS S a (.lst l)) p (.lst (((f - w) :: ns).map PV.int)) ∧ σ = [some (.ref a), some (.int d), some (.int w), some (.ref p), z4]) ⟨[], l1, none, rfl, (fun n hn => by simp at hn), hl1, rfl, rfl⟩ (fun _ _ _ _ => trivial) (fun i x σ S' k hx h' hk => ?_) fun σ S' h' => ?_
    · obtain ⟨ns, l, z4, h1, h2, hl, rfl, rfl⟩ := h'
      obtain ⟨hi, rfl⟩ := rngP_get hx
      walk_at "go"
      unfold irB_form_b1
      walk_at "go"
      refine ⟨by simp only [tyP, upS_same]; rfl, by show 8 ≤ sizeLine; omega, ?_⟩
      refine takeB2 h hpa hl (by decide) (by decide) fun j l2 j0 j1 hl2 => ?_
      have key : ∀ v : Int, absI v ≤ 99 → L2.atI [PV.int 0, .int 1, .int 1, .int 0, .int (-1), .int 2, .int 0, .int 1] j = some (.int v) → (match L2.atI [PV.int 0, .int 1, .int 1, .int 0, .int (-1), .int 2, .int 0, .int 1] j with
          | some v => meD .append false (.ref p) [v] (upS (upS S a (.lst l2)) p (.lst (((f - w) :: ns).map PV.int))) fun _ S1 => k [some (.ref a), some (.int d), some (.int w), some (.ref p), some (.int (0 + (i : Int)))] S1
          | none => False) := fun v hv e => by
        rw [e]
        simp only [meD, upS_same, upS_upS]
        refine ⟨by simp; omega, hk _ _ ⟨ns ++ [v], l2, _, by rw [List.length_append, h1]; rfl, fun n hn => ?_, hl2, ?_, rfl⟩⟩
        · rcases List.mem_append.mp hn with hn | hn
          · exact h2 n hn
          · rw [List.mem_singleton.mp hn]; exact hv
        · rw [← List.cons_append, List.map_append]
          rfl
      have : j = 0 ∨ j = 1 ∨ j = 2 ∨ j = 3 ∨ j = 4 ∨ j = 5 ∨ j = 6 ∨ j = 7 := by omega
      rcases this with rfl | rfl | rfl | rfl | rfl | rfl | rfl | rfl <;> exact key _ (by decide) rfl
    · obtain ⟨ns, l, z4, h1, h2, hl, rfl, rfl⟩ := h'
      rw [rngP_len] at h1
      unfold irB_form_1
      walk_at "go"
      simp only [upS_same]
      refine hcl _ _ _ _ (Sub.del (p := p)) ?_
      rw [delS_upS (by rw [upS_ne hpa]; exact hp)]
      refine out (f - w, ns) l _ ⟨h1, ?_, h2⟩ hl rfl
      show absI (f - w) ≤ _
      refine Int.le_trans (absI_le2 (m := w) (by omega) (by omega)) ?_
      split <;> omega
  unfold irB_form
  walk_at "go"
  simp only [eqD]
  by_cases c : w = 1
  · simp only [c, decide_true]
    refine takeB h hS hl (by decide) (by decide) fun i l1 i0 i1 hl1 => ?_
    by_cases c2 : i = 9
    · simp only [c2, decide_true]
      refine ⟨by omega, by omega, fun p hp => ?_⟩
      have hpa : p ≠ a := fun e => by rw [e, upS_same] at hp; cases hp
      refine comp_penB (fun _ y => ∃ n, y = .int n ∧ absI n ≤ 99) hpa upS_same hl1 (fun _ => trivial) (fun i x acc l k hx ha hl hk => ?_) fun acc l2 hlen hr hl2 => ?_
      · walk_at "go"
        refine takeB2 h hpa hl (by decide) (by decide) fun j l' j0 j1 hl' => ?_
        simp only [upS_same, upS_upS] at hk ⊢
        exact ⟨trivial, hk _ l' ⟨_, rfl, absI_le2 (by omega) (by omega)⟩ hl'⟩
      · refine ⟨upS_same, ?_⟩
        rw [delS_upS (by rw [upS_upS, upS_ne hpa]; rw [upS_ne hpa] at hp; exact hp), upS_upS]
        obtain ⟨ns, rfl, hns⟩ := typed_at hr
        rw [rngP_len, List.length_map] at hlen
        cases ns with
        | nil => exact absurd hlen (by simp)
        | cons n ns =>
          refine out (n, ns) l2 _ ⟨by simp at hlen; show ns.length = d; omega, ?_, fun m hm => hns m (by simp [hm])⟩ hl2 rfl
          rw [if_pos c]
          exact hns n (by simp)
    · simp only [c2, decide_false]
      have := rest l1 hl1
      rw [c] at this
      exact this
  · simp only [c, decide_false]
    have := rest l hl
    rw [upS_id hS] at this
    exact this
end DL
end
section
set_option maxRecDepth 100000
set_option maxHeartbeats 2000000
/-! The laws' draws (B): loops. -/
namespace DL
open PySem PySem.Spec L2
open PyProof.Rows hiding St wpS
local macro_rules | `(tactic| walk_at "go") => `(tactic| try simp only [wpSs, wpS, wpE, wpEs, wpT, wpC, wpO, wpL, wpI, wpH, List.getElem?_cons_zero, List.getElem?_cons_succ, List.set_cons_zero, List.set_cons_succ, biD, dQ, dL, cmpD, truD, idxD, binD, tgD, tgDs, frzQ, newL, List.any_cons, List.any_nil, Bool.or_false, wipeS, at0, at1, at2, at3, at4, at5])
theorem cntF_snoc : ∀ (L : List (Frm × Frm)) (cs : List Int) (p : Frm × Frm), cntF (L ++ [p]) cs = (cntF L cs).flatMap (ext1 p)
  | [], cs, p => by simp only [List.nil_append, cntF, ext1, List.flatMap_singleton]; exact (List.map_eq_flatMap ..).symm
  | q :: L, cs, p => by
    simp only [List.cons_append, cntF, List.flatMap_assoc]
    congr 1
    funext i
    exact cntF_snoc L _ p
theorem LpsOK.snoc {L : List (Frm × Frm)} {p : Frm × Frm} (h : LpsOK 0 L) (b1 : BoundF p.1) (b2 : BoundF p.2) (l1 : p.1.2.length = L.length) (l2 : p.2.2.length = L.length) : LpsOK 0 (L ++ [p]) := fun j q hq => by
  by_cases hj : j < L.length
  · rw [List.getElem?_append_left hj] at hq
    exact h j q hq
  · rw [List.getElem?_append_right (by omega)] at hq
    have hj2 : j - L.length = 0 := by
      have := (List.getElem?_eq_some_iff.mp hq).1
      simp at this
      omega
    rw [hj2] at hq
    simp at hq
    subst hq
    exact ⟨⟨b1, b2⟩, by omega, by omega⟩
theorem dot_zero : ∀ (n : Nat) (cs : List Int), dotI (List.replicate n 0) cs = 0
  | 0, cs => by simp [dotI]
  | n + 1, [] => by simp [dotI]
  | n + 1, c :: cs => by
    have := dot_zero n cs
    unfold dotI at this ⊢
    rw [List.replicate_succ, List.zipWith_cons_cons, List.sum_cons, this]
    omega
theorem at_zero (x : Int) (n : Nat) (cs : List Int) : atF (x, List.replicate n 0) cs = x := by
  unfold atF
  simp only [dot_zero]
  omega
theorem dot_last : ∀ (n : Nat) (cs : List Int) (c : Int), cs.length = n → dotI (List.replicate n 0 ++ [1]) (cs ++ [c]) = c
  | 0, [], c, _ => by simp [dotI]
  | n + 1, d :: cs, c, h => by
    have := dot_last n cs c (by simpa using h)
    unfold dotI at this ⊢
    rw [List.replicate_succ, List.cons_append, List.cons_append, List.zipWith_cons_cons, List.sum_cons, this]
    omega
  | 0, _ :: _, _, h => by simp at h
  | _ + 1, [], _, h => by simp at h
theorem at_last (x : Int) {n : Nat} {cs : List Int} {c : Int} (h : cs.length = n) : atF (x, List.replicate n 0 ++ [1]) (cs ++ [c]) = x + c := by
  unfold atF
  simp only [dot_last n cs c h]
theorem at_first (x y : Int) (ns cs : List Int) : atF (x + y, ns) cs - atF (x, ns) cs = y := by
  unfold atF
  simp only
  omega
theorem bound_zero {x : Int} {n : Nat} (h : -9 ≤ x ∧ x ≤ 9) : BoundF (x, List.replicate n 0) := ⟨h, fun m hm => by have := (List.mem_replicate.mp hm).2; omega⟩
theorem bound_last {x : Int} {n : Nat} (h : -9 ≤ x ∧ x ≤ 9) : BoundF (x, List.replicate n 0 ++ [1]) := ⟨h, fun m hm => by
  rcases List.mem_append.mp hm with hm | hm
  · have := (List.mem_replicate.mp hm).2; omega
  · rw [List.mem_singleton.mp hm]; omega⟩
theorem bound_set0 {x y : Int} {n j : Nat} (h : -9 ≤ x ∧ x ≤ 9) (hy : -2 ≤ y ∧ y ≤ 2) : BoundF (x, (List.replicate n 0).set j y) := ⟨h, fun m hm => by
  rcases List.mem_or_eq_of_mem_set hm with hm | rfl
  · have := (List.mem_replicate.mp hm).2; omega
  · exact hy⟩
theorem rep0 (n : Nat) : (List.replicate n [PV.int 0]).flatten = (List.replicate n (0 : Int)).map PV.int := by rw [List.flatten_replicate_singleton, List.map_replicate]
/-- what stands beside a and q is as it was, or new -/
def Wd (S S' : Sto) (a q : Addr) : Prop := ∀ b, b ≠ a → b ≠ q → S b = S' b ∨ S b = none
theorem Wd.up {S S' : Sto} {a q p : Addr} {o : MO} (h : Wd S S' a q) (hp : p = a ∨ p = q ∨ S p = none) : Wd S (upS S' p o) a q := fun b h1 h2 => by
  by_cases e : b = p
  · subst e
    rcases hp with hp | hp | hp
    · exact absurd hp h1
    · exact absurd hp h2
    · exact .inr hp
  · rw [upS_ne e]
    exact h b h1 h2
theorem Wd.new {S S' : Sto} {a q p : Addr} (h : Wd S S' a q) (hp : S' p = none) (ha : p ≠ a) (hq : p ≠ q) : S p = none := (h p ha hq).elim (fun e => e.trans hp) id
theorem Wd.less {S S' : Sto} {a q : Addr} {o : MO} (h : Wd S S' a q) (hq : S q = none) (ha : S' a = some o) (hqa : q ≠ a) : Less (upS S a o) S' := fun b => by
  by_cases e : b = a
  · subst e
    rw [upS_same, ha]
    exact .inl rfl
  · rw [upS_ne e]
    by_cases e2 : b = q
    · subst e2
      exact .inr hq
    · exact h b e e2
/-- the loop ahead, by itself: its low and its size -/
def befP : Option (Int × Int) → PV
  | none => .non
  | some (b, z) => .tup [.int b, .int z]
def BefOK (L : List (Frm × Frm)) : Option (Int × Int) → Prop
  | none => True
  | some (b, z) => (-3 ≤ b ∧ b ≤ 3) ∧ (1 ≤ z ∧ z ≤ 4) ∧ 1 ≤ L.length ∧ ∀ cs ∈ cntF L [], ∃ pre c, cs = pre ++ [c] ∧ b ≤ c ∧ c < b + z
structure LbA where
  a : Addr
  l : List PV
  m : Int
def pB_loops : Prm := { α := LbA, pre := fun z vs S => vs = [.ref z.a, .int z.m] ∧ S z.a = some (.lst z.l) ∧ PenB z.l ∧ 1 ≤ z.m ∧ z.m ≤ 1000, post := fun z S r S' => ∃ L l, r = lsP L ∧ LsOK L ∧ ((cntF L []).length : Int) ≤ z.m ∧ PenB l ∧ S' = upS S z.a (.lst l) }
theorem room_le {N N' : Nat} {room size most : Int} (h1 : (N : Int) * room ≤ most) (h2 : N' ≤ N * size.toNat) (hs : 1 ≤ size) (hr : 0 ≤ room) : (N' : Int) * (room / size) ≤ most := by
  have h3 : size * (room / size) ≤ room := by
    have := Int.mul_ediv_add_emod room size
    have := Int.emod_nonneg room (b := size) (by omega)
    omega
  have h4 : (0 : Int) ≤ room / size := Int.ediv_nonneg hr (by omega)
  have h5 : (N' : Int) ≤ (N : Int) * size := by
    have e : ((N * size.toNat : Nat) : Int) = (N : Int) * size := by rw [Int.natCast_mul, Int.toNat_of_nonneg (by omega)]
    omega
  calc (N' : Int) * (room / size) ≤ ((N : Int) * size) * (room / size) := Int.mul_le_mul_of_nonneg_right h5 h4
    _ = (N : Int) * (size * (room / size)) := by rw [Int.mul_assoc]
    _ ≤ (N : Int) * room := Int.mul_le_mul_of_nonneg_left h3 (by omega)
    _ ≤ most := h1
/-- a loop more -/
theorem loops_snoc {L : List (Frm × Frm)} {p : Frm × Frm} {size room most : Int} (h : ((cntF L []).length : Int) * room ≤ most) (hs : 1 ≤ size) (hr : 0 ≤ room) (he : ∀ cs ∈ cntF L [], ((ext1 p cs).length : Int) ≤ size) : ((cntF (L ++ [p]) []).length : Int) * (room / size) ≤ most := by
  refine room_le h ?_ hs hr
  rw [cntF_snoc]
  exact flat_len_le _ fun cs hcs => by have := he cs hcs; omega
/-- a told list that a new part is put behind -/
theorem app_ok {S' : Sto} {q : Addr} {xs : List PV} {x : PV} {Q : Post} (h : S' q = some (.lst xs)) (hz : xs.length < sizeLine) (k : Q .non (upS S' q (.lst (xs ++ [x])))) : meD .append false (.ref q) [x] S' Q := by
  simp only [meD, h]
  exact ⟨hz, k⟩
structure LInv (S : Sto) (a q : Addr) (most : Int) (L : List (Frm × Frm)) (room : Int) (bef : Option (Int × Int)) (l : List PV) (S' : Sto) : Prop where
  lps : LpsOK 0 L
  r1 : 1 ≤ room
  rm : room ≤ 1000
  cnt : ((cntF L []).length : Int) * room ≤ most
  bf : BefOK L bef
  pen : PenB l
  sa : S' a = some (.lst l)
  sq : S' q = some (.lst (L.map lP))
  wd : Wd S S' a q
/-- what follows with a loop more -/
def LFin (S : Sto) (a q : Addr) (most room : Int) (L : List (Frm × Frm)) (D : EndD) : Prop := ∀ (p : Frm × Frm) (size : Int) (bef' : Option (Int × Int)) (l' : List PV) (S2 : Sto) (z7 z8 z9 z10 z11 : Option PV), BoundF p.1 → BoundF p.2 → p.1.2.length = L.length → p.2.2.length = L.length → 1 ≤ size → size ≤ room → (∀ cs ∈ cntF L [], ((ext1 p cs).length : Int) ≤ size) → BefOK (L ++ [p]) bef' → PenB l' → S2 a = some (.lst l') → S2 q = some (.lst ((L ++ [p]).map lP)) → Wd S S2 a q →
  D.nx [some (.ref a), some (.int most), some (.ref q), some (.int room), some (befP bef'), some (.int (L.length : Nat)), some (.int size), z7, z8, z9, z10, z11] S2
/-- the numbers drawn for a loop -/
structure LNum (room low size way : Int) : Prop where
  s1 : 1 ≤ size
  s2 : size ≤ 4
  s3 : size ≤ room
  lw1 : -3 ≤ low
  lw2 : low ≤ 3
  w0 : 0 ≤ way
  w8 : way < 8
abbrev lsl (a q : Addr) (most room size low way : Int) (bef : Option (Int × Int)) (L : List (Frm × Frm)) (z10 z11 : Option PV) : Sl := [some (.ref a), some (.int most), some (.ref q), some (.int room), some (befP bef), some (.int (L.length : Nat)), some (.int size), some (.int low), some (.int way), some (.lst ((List.replicate L.length 0).map .int)), z10, z11]
theorem lmap (L : List (Frm × Frm)) (p : Frm × Frm) : (L.map lP) ++ [lP p] = (L ++ [p]).map lP := by simp
theorem loops_e1 {G : GE} {S S1 : Sto} {a q : Addr} {most room low size way : Int} {bef : Option (Int × Int)} {L : List (Frm × Frm)} {l : List PV} {D : EndD} {E : XPS} {z10 z11 : Option PV} (fin : LFin S a q most room L D) (N : LNum room low size way) (hL : L.length ≤ 2) (hqa : q ≠ a) (hl : PenB l) (hsa : S1 a = some (.lst l)) (hsq : S1 q = some (.lst (L.map lP))) (hwd : Wd S S1 a q) :
    wpSs G irB_loops_e1 D E (lsl a q most room size low way bef L z10 z11) S1 := by
  have hz : 100 ≤ sizeLine := by decide
  obtain ⟨s1, s2, s3, w1, w2, _, _⟩ := N
  have put : ∀ f : Int, (f = 0 ∨ f = 1) → meD .append false (.ref q) [.tup [.tup ([.int low] ++ (List.replicate L.length 0).map .int), .tup ([.int (low + size * f)] ++ (List.replicate L.length 0).map .int)]] S1 fun _ S2 => wpSs G irB_loops_9 D E (lsl a q most room size low way bef L z10 z11) S2 := fun f hf => by
    refine app_ok hsq (by rw [List.length_map]; omega) ?_
    have e := lmap L ((low, List.replicate L.length 0), (low + size * f, List.replicate L.length 0))
    rw [show [PV.tup [.tup ([.int low] ++ (List.replicate L.length 0).map .int), .tup ([.int (low + size * f)] ++ (List.replicate L.length 0).map .int)]] = [lP ((low, List.replicate L.length 0), (low + size * f, List.replicate L.length 0))] from rfl, e]
    unfold irB_loops_9
    walk_at "go"
    refine ⟨by show 2 ≤ sizeLine; omega, ?_⟩
    have hf2 : 0 ≤ size * f ∧ size * f ≤ size := by rcases hf with rfl | rfl <;> omega
    refine fin ((low, List.replicate L.length 0), (low + size * f, List.replicate L.length 0)) size (some (low, size)) l _ _ _ _ _ _ (bound_zero (by omega)) (bound_zero (by omega)) (by simp) (by simp) s1 s3 (fun cs _ => by rw [ext1_len, at_zero, at_zero]; omega) ⟨⟨w1, w2⟩, ⟨s1, s2⟩, by simp, fun cs hcs => ?_⟩ hl (by rw [upS_ne (Ne.symm hqa)]; exact hsa) upS_same (hwd.up (.inr (.inl rfl)))
    rw [cntF_snoc] at hcs
    obtain ⟨c0, _, hcs⟩ := List.mem_flatMap.mp hcs
    simp only [ext1, at_zero, List.mem_map, List.mem_range] at hcs
    obtain ⟨j, hj, rfl⟩ := hcs
    exact ⟨c0, _, rfl, by omega, by omega⟩
  unfold irB_loops_e1
  walk_at "go"
  have p0 := put 0 (.inl rfl)
  have p1 := put 1 (.inr rfl)
  have hty : tyP S1 (.ref q) = some (meT .append) := by simp only [tyP, hsq]; rfl
  have hlen : [PV.int low].length + ((List.replicate L.length 0).map PV.int).length ≤ sizeLine := by simp; omega
  have hlen2 : ∀ x : Int, [PV.int x].length + ((List.replicate L.length 0).map PV.int).length ≤ sizeLine := fun x => by simp; omega
  have h1 : 1 ≤ sizeLine := by omega
  have h2 : 2 ≤ sizeLine := by omega
  by_cases c : way < 7
  · simp only [c, decide_true]
    exact ⟨hty, h1, hlen, .inl (.inl ⟨by omega, by omega⟩), h1, hlen2 _, h2, p1⟩
  · simp only [c, decide_false]
    by_cases c2 : low < 3
    · simp only [c2, decide_true]
      exact ⟨hty, h1, hlen, .inl (.inl ⟨by omega, by omega⟩), h1, hlen2 _, h2, p1⟩
    · simp only [c2, decide_false]
      exact ⟨hty, h1, hlen, .inl (.inl ⟨by omega, by omega⟩), h1, hlen2 _, h2, p0⟩
theorem loops_e2 {G : GE} (h : G.fn 102 = pB_take.sp) {S S1 : Sto} {a q : Addr} {most room low size way : Int} {bef : Option (Int × Int)} {L : List (Frm × Frm)} {l : List PV} {D : EndD} {E : XPS} {z10 z11 : Option PV} (fin : LFin S a q most room L D) (N : LNum room low size way) (hL : L.length ≤ 2) (hqa : q ≠ a) (hl : PenB l) (hsa : S1 a = some (.lst l)) (hsq : S1 q = some (.lst (L.map lP))) (hwd : Wd S S1 a q) :
    wpSs G irB_loops_e2 D E (lsl a q most room size low way bef L z10 z11) S1 := by
  have hz : 100 ≤ sizeLine := by decide
  have e1 := loops_e1 (G := G) (E := E) (z10 := z10) (z11 := z11) (bef := bef) fin N hL hqa hl hsa hsq hwd
  obtain ⟨s1, s2, s3, w1, w2, _, _⟩ := N
  unfold irB_loops_e2
  walk_at "go"
  by_cases c : way < 4
  · simp only [c, decide_true]
    by_cases c2 : (0 : Int) < (L.length : Nat)
    · simp only [c2, decide_true]
      rw [Int.toNat_natCast, rep0]
      refine ⟨by show 1 ≤ sizeLine; omega, by omega, by omega, by simp only [List.length_singleton]; omega, fun r hr => ?_⟩
      have hra : r ≠ a := fun e => by rw [e, hsa] at hr; cases hr
      have hrq : r ≠ q := fun e => by rw [e, hsq] at hr; cases hr
      have hSr := hwd.new hr hra hrq
      unfold irB_loops_8
      walk_at "go"
      refine ⟨by show 4 ≤ sizeLine; omega, ?_⟩
      refine takeB h (by rw [upS_ne (Ne.symm hra)]; exact hsa) hl (by decide) (by decide) fun v l2 v0 v1 hl2 => ?_
      have key : ∀ y : Int, -2 ≤ y ∧ y ≤ 2 → L2.atI [PV.int 1, .int (-1), .int 2, .int (-2)] v = some (.int y) → (match L2.atI [PV.int 1, .int (-1), .int 2, .int (-2)] v with
          | some v => G.fn 102 [.ref a, .int (L.length : Nat)] (upS (upS S1 r (.lst ((List.replicate L.length 0).map .int))) a (.lst l2)) (frzQ false fun y S3 => setID (.ref r) y v S3 fun S4 => wpSs G irB_loops_7 D E [some (.ref a), some (.int most), some (.ref q), some (.int room), some (befP bef), some (.int (L.length : Nat)), some (.int size), some (.int low), some (.int way), some (.lst ((List.replicate L.length 0).map .int)), some (.ref r), z11] S4) fun x => E x [some (.ref a), some (.int most), some (.ref q), some (.int room), some (befP bef), some (.int (L.length : Nat)), some (.int size), some (.int low), some (.int way), some (.lst ((List.replicate L.length 0).map .int)), some (.ref r), z11]
          | none => False) := fun y hy e => by
        rw [e]
        simp only
        refine takeB h upS_same hl2 (by omega) (by omega) fun j l3 j0 j1 hl3 => ?_
        obtain ⟨j, rfl⟩ : ∃ m : Nat, j = (m : Int) := ⟨j.toNat, by omega⟩
        have hjl : j < ((List.replicate L.length 0).map PV.int).length := by simp; omega
        rw [upS_upS]
        have hr3 : (upS (upS S1 r (.lst ((List.replicate L.length 0).map .int))) a (.lst l3)) r = some (.lst ((List.replicate L.length 0).map .int)) := by rw [upS_ne hra, upS_same]
        have hix : L2.ixN ((List.replicate L.length 0).map PV.int).length (j : Int) = some j := by
          unfold L2.ixN
          rw [if_pos (by omega), if_pos (by omega)]
          simp
        simp only [setID, hr3, hix]
        rw [← List.map_set]
        have hs4a : (upS (upS (upS S1 r (.lst ((List.replicate L.length 0).map .int))) a (.lst l3)) r (.lst (((List.replicate L.length 0).set j y).map .int))) a = some (.lst l3) := by rw [upS_ne (Ne.symm hra), upS_same]
        have hs4q : (upS (upS (upS S1 r (.lst ((List.replicate L.length 0).map .int))) a (.lst l3)) r (.lst (((List.replicate L.length 0).set j y).map .int))) q = some (.lst (L.map lP)) := by rw [upS_ne (Ne.symm hrq), upS_ne hqa, upS_ne (Ne.symm hrq)]; exact hsq
        have hs4r : (upS (upS (upS S1 r (.lst ((List.replicate L.length 0).map .int))) a (.lst l3)) r (.lst (((List.replicate L.length 0).set j y).map .int))) r = some (.lst (((List.replicate L.length 0).set j y).map .int)) := upS_same
        have hw4 : Wd S (upS (upS (upS S1 r (.lst ((List.replicate L.length 0).map .int))) a (.lst l3)) r (.lst (((List.replicate L.length 0).set j y).map .int))) a q := ((hwd.up (.inr (.inr hSr))).up (.inl rfl)).up (.inr (.inr hSr))
        generalize upS (upS (upS S1 r (.lst ((List.replicate L.length 0).map .int))) a (.lst l3)) r (.lst (((List.replicate L.length 0).set j y).map .int)) = S4 at hs4a hs4q hs4r hw4 ⊢
        unfold irB_loops_7
        walk_at "go"
        simp only [hs4r]
        have hlen : ∀ x : Int, [PV.int x].length + (((List.replicate L.length 0).set j y).map PV.int).length ≤ sizeLine := fun x => by simp; omega
        refine ⟨by simp only [tyP, hs4q]; rfl, by show 1 ≤ sizeLine; omega, hlen _, by show 1 ≤ sizeLine; omega, hlen _, by show 2 ≤ sizeLine; omega, ?_⟩
        refine app_ok hs4q (by rw [List.length_map]; omega) ?_
        have e := lmap L ((low, (List.replicate L.length 0).set j y), (low + size, (List.replicate L.length 0).set j y))
        rw [show [PV.tup [.tup ([.int low] ++ ((List.replicate L.length 0).set j y).map .int), .tup ([.int (low + size)] ++ ((List.replicate L.length 0).set j y).map .int)]] = [lP ((low, (List.replicate L.length 0).set j y), (low + size, (List.replicate L.length 0).set j y))] from rfl, e]
        unfold irB_loops_6
        walk_at "go"
        exact fin _ size none l3 _ _ _ _ _ _ (bound_set0 (by omega) hy) (bound_set0 (by omega) hy) (by simp) (by simp) s1 s3 (fun cs _ => by rw [ext1_len, at_first]; omega) trivial hl3 (by rw [upS_ne (Ne.symm hqa)]; exact hs4a) upS_same (hw4.up (.inr (.inl rfl)))
      have : v = 0 ∨ v = 1 ∨ v = 2 ∨ v = 3 := by omega
      rcases this with rfl | rfl | rfl | rfl
      · exact key 1 (by decide) rfl
      · exact key (-1) (by decide) rfl
      · exact key 2 (by decide) rfl
      · exact key (-2) (by decide) rfl
    · simp only [c2, decide_false]
      exact e1
  · simp only [c, decide_false]
    exact e1
theorem kB_loops {G : GE} (h : G.fn 102 = pB_take.sp) : Keeps G irB_loops nB_loops pB_loops := fun z vs S Q E hcl _ hp hq _ => by
  obtain ⟨a, l, most⟩ := z
  obtain ⟨rfl, hS, hl, hm1, hm2⟩ := hp
  simp only at hS hl hm1 hm2
  have hz : 100 ≤ sizeLine := by decide
  rw [show startS nB_loops [.ref a, .int most] = [some (.ref a), some (.int most), none, none, none, none, none, none, none, none, none, none] from rfl]
  unfold irB_loops
  walk_at "go"
  refine ⟨by show 0 ≤ sizeLine; omega, fun q hq0 => ?_⟩
  have hqa : q ≠ a := fun e => by rw [e, hS] at hq0; cases hq0
  unfold irB_loops_18
  walk_at "go"
  unfold irB_loops_17
  walk_at "go"
  unfold irB_loops_16
  walk_at "go"
  refine takeB h (by rw [upS_ne (Ne.symm hqa)]; exact hS) hl (by decide) (by decide) fun i l1 i0 i1 hl1 => ?_
  walk_at "go"
  refine ⟨by omega, by omega, ?_⟩
  obtain ⟨n, hn⟩ : ∃ n : Nat, (1 + i).toNat = n := ⟨_, rfl⟩
  rw [hn]
  have hn1 : 1 ≤ n ∧ n ≤ 3 := by omega
  refine itL_inv (fun i σ S' => ∃ L room bef l z5 z6 z7 z8 z9 z10 z11, L.length = i ∧ LInv S a q most L room bef l S' ∧ σ = [some (.ref a), some (.int most), some (.ref q), some (.int room), some (befP bef), z5, z6, z7, z8, z9, z10, z11])
    ⟨[], most, none, l1, none, none, none, none, none, none, none, rfl, ⟨fun j p hp => by simp at hp, by omega, hm2, by simp [cntF], trivial, hl1, upS_same, by rw [upS_ne hqa]; exact upS_same, fun b h1 h2 => by rw [upS_ne h1, upS_ne h2]; exact .inl rfl⟩, rfl⟩
    (fun _ _ _ _ => trivial) (fun i x σ S' k hx hI hk => ?_) fun σ S' hI => ?_
  · obtain ⟨L, room, bef, l, z5, z6, z7, z8, z9, z10, z11, rfl, I, rfl⟩ := hI
    obtain ⟨hi, rfl⟩ := rngP_get hx
    rw [Int.zero_add]
    have hL2 : L.length ≤ 2 := by omega
    walk_at "go"
    unfold irB_loops_b1
    walk_at "go"
    have mn : (if room < 4 then room else 4) = min 4 room := by rw [Int.min_def]; split <;> split <;> omega
    have hroom := I.r1
    have hroom2 := I.rm
    simp only [mn]
    refine takeB h I.sa I.pen (by omega) (by omega) fun i6 l6 p6 q6 hl6 => ?_
    walk_at "go"
    unfold irB_loops_14
    walk_at "go"
    refine takeB h upS_same hl6 (by decide) (by decide) fun i7 l7 p7 q7 hl7 => ?_
    walk_at "go"
    unfold irB_loops_13
    walk_at "go"
    refine takeB h upS_same hl7 (by decide) (by decide) fun way l8 p8 q8 hl8 => ?_
    walk_at "go"
    unfold irB_loops_12
    walk_at "go"
    simp only [upS_upS]
    refine ⟨by show 1 ≤ sizeLine; omega, by omega, by omega, by simp only [List.length_singleton]; omega, ?_⟩
    rw [Int.toNat_natCast, rep0]
    obtain ⟨size, hsz⟩ : ∃ s, s = 1 + i6 := ⟨_, rfl⟩
    obtain ⟨low, hlw⟩ : ∃ s, s = i7 - 3 := ⟨_, rfl⟩
    rw [← hsz, ← hlw]
    have s1 : 1 ≤ size := by omega
    have s2 : size ≤ 4 := by omega
    have s3 : size ≤ room := by omega
    have lw1 : -3 ≤ low ∧ low ≤ 3 := by omega
    have N : LNum room low size way := ⟨s1, s2, s3, lw1.1, lw1.2, p8, q8⟩
    have hsa : (upS S' a (.lst l8)) a = some (.lst l8) := upS_same
    have hsq : (upS S' a (.lst l8)) q = some (.lst (L.map lP)) := by rw [upS_ne hqa]; exact I.sq
    have hwd : Wd S (upS S' a (.lst l8)) a q := I.wd.up (.inl rfl)
    generalize upS S' a (.lst l8) = S1 at hsa hsq hwd ⊢
    have fin : ∀ rt bk ct, LFin S a q most room L { nx := fun σ' S' => wpSs G irB_loops_10 { nx := k, rt := rt, bk := bk, ct := ct } (fun x _ S => E x S) σ' S', rt := rt, bk := bk, ct := ct } := fun rt bk ct p size bef' l' S2 z7 z8 z9 z10 z11 b1 b2 e1 e2 t1 t2 hc hb hl' ha hq' hw => by
      unfold irB_loops_10
      walk_at "go"
      refine ⟨wide_div (b := 64) (by omega) (by omega) (by decide) (by decide), hk _ _ ⟨L ++ [p], room / size, bef', l', _, _, _, _, _, _, _, by simp, ⟨I.lps.snoc b1 b2 e1 e2, ?_, ?_, loops_snoc I.cnt t1 (by omega) hc, hb, hl', ha, hq', hw⟩, rfl⟩⟩
      · exact (Int.le_ediv_iff_mul_le (by omega)).mpr (by omega)
      · have := Int.ediv_le_self (a := room) size (by omega); omega
    unfold irB_loops_11
    walk_at "go"
    have els := fun (D : EndD) (f : LFin S a q most room L D) => loops_e2 (E := fun x _ S => E x S) (bef := bef) (z10 := z10) (z11 := z11) h f N hL2 hqa hl8 hsa hsq hwd
    by_cases c : way < 2
    · simp only [c, decide_true]
      cases bef with
      | none =>
        simp only [befP, isNon, Bool.not_true]
        exact els _ (fin _ _ _)
      | some bz =>
        obtain ⟨b, z⟩ := bz
        obtain ⟨⟨hb1, hb2⟩, ⟨hz1, hz2⟩, hL1, hcs⟩ := I.bf
        simp only [befP, isNon, Bool.not_false, dQ, at1]
        by_cases c2 : z ≤ room
        · simp only [c2, decide_true]
          refine ⟨by show 1 ≤ sizeLine; omega, by omega, by omega, by simp only [List.length_singleton]; omega, by show 1 ≤ sizeLine; omega, ?_, fun r hr => ?_⟩
          · rw [show ((L.length : Int) - 1).toNat = L.length - 1 from by omega, rep0]; simp; omega
          rw [show ((L.length : Int) - 1).toNat = L.length - 1 from by omega, rep0]
          obtain ⟨ah, hah⟩ : ∃ ah : List Int, ah = List.replicate (L.length - 1) 0 ++ [1] := ⟨_, rfl⟩
          have ahl : ah.length = L.length := by rw [hah]; simp; omega
          rw [show (List.replicate (L.length - 1) (0 : Int)).map PV.int ++ [PV.int 1] = ah.map PV.int from by rw [hah]; simp]
          have hra : r ≠ a := fun e => by rw [e, hsa] at hr; cases hr
          have hrq : r ≠ q := fun e => by rw [e, hsq] at hr; cases hr
          have hSr := hwd.new hr hra hrq
          have hsa2 : (upS S1 r (.lst (ah.map PV.int))) a = some (.lst l8) := by rw [upS_ne (Ne.symm hra)]; exact hsa
          have hsq2 : (upS S1 r (.lst (ah.map PV.int))) q = some (.lst (L.map lP)) := by rw [upS_ne (Ne.symm hrq)]; exact hsq
          have hsr2 : (upS S1 r (.lst (ah.map PV.int))) r = some (.lst (ah.map PV.int)) := upS_same
          have hwd2 : Wd S (upS S1 r (.lst (ah.map PV.int))) a q := hwd.up (.inr (.inr hSr))
          generalize upS S1 r (.lst (ah.map PV.int)) = S2 at hsa2 hsq2 hsr2 hwd2 ⊢
          unfold irB_loops_5
          walk_at "go"
          simp only [at0, hsr2]
          have hl0 : ∀ x : Int, [PV.int x].length + ((List.replicate L.length 0).map PV.int).length ≤ sizeLine := fun x => by simp; omega
          have hl1' : ∀ x : Int, [PV.int x].length + (ah.map PV.int).length ≤ sizeLine := fun x => by simp; omega
          refine ⟨by show 1 ≤ sizeLine; omega, hl0 _, by show 1 ≤ sizeLine; omega, hl1' _, by show 2 ≤ sizeLine; omega, by show 1 ≤ sizeLine; omega, fun t ht => ?_⟩
          have hta : t ≠ a := fun e => by rw [e, hsa2] at ht; cases ht
          have htq : t ≠ q := fun e => by rw [e, hsq2] at ht; cases ht
          have htr : t ≠ r := fun e => by rw [e, hsr2] at ht; cases ht
          have hSt := hwd2.new ht hta htq
          unfold irB_loops_4
          walk_at "go"
          simp only [upS_ne (Ne.symm htr), hsr2, tyP, upS_same, intsP]
          refine ⟨rfl, by show 1 ≤ sizeLine; omega, hl1' _, by show 1 ≤ sizeLine; omega, hl0 _, by show 2 ≤ sizeLine; omega, ?_⟩
          refine app_ok upS_same (by show 1 < sizeLine; omega) ?_
          rw [upS_upS]
          let p0 : Frm × Frm := ((b, List.replicate L.length 0), (1, ah))
          let p1 : Frm × Frm := ((0, ah), (b + z, List.replicate L.length 0))
          have est : [PV.tup [.tup ([.int b] ++ (List.replicate L.length 0).map .int), .tup ([.int 1] ++ ah.map .int)]] ++ [PV.tup [.tup ([.int 0] ++ ah.map .int), .tup ([.int ([b, z].sum)] ++ (List.replicate L.length 0).map .int)]] = [lP p0, lP p1] := by
            simp only [List.sum_cons, List.sum_nil, Int.add_zero]
            rfl
          rw [est]
          have hsa3 : (upS S2 t (.lst [lP p0, lP p1])) a = some (.lst l8) := by rw [upS_ne (Ne.symm hta)]; exact hsa2
          have hsq3 : (upS S2 t (.lst [lP p0, lP p1])) q = some (.lst (L.map lP)) := by rw [upS_ne (Ne.symm htq)]; exact hsq2
          have hst3 : (upS S2 t (.lst [lP p0, lP p1])) t = some (.lst [lP p0, lP p1]) := upS_same
          have hwd3 : Wd S (upS S2 t (.lst [lP p0, lP p1])) a q := hwd2.up (.inr (.inr hSt))
          generalize upS S2 t (.lst [lP p0, lP p1]) = S3 at hsa3 hsq3 hst3 hwd3 ⊢
          have go : ∀ p : Frm × Frm, BoundF p.1 → BoundF p.2 → p.1.2.length = L.length → p.2.2.length = L.length → (∀ cs ∈ cntF L [], ((ext1 p cs).length : Int) ≤ z) → L2.atI [lP p0, lP p1] way = some (lP p) → wpSs G irB_loops_3 { nx := fun σ' S' => wpSs G irB_loops_10 { nx := k, rt := Q, bk := fun σ' S' => wpSs G irB_loops_15 { nx := fun _ S => Q .non S, rt := Q } (fun x _ S => E x S) σ' S', ct := k } (fun x _ S => E x S) σ' S', rt := Q, bk := fun σ' S' => wpSs G irB_loops_15 { nx := fun _ S => Q .non S, rt := Q } (fun x _ S => E x S) σ' S', ct := k } (fun x _ S => E x S)
              [some (.ref a), some (.int most), some (.ref q), some (.int room), some (.tup [.int b, .int z]), some (.int (L.length : Nat)), some (.int size), some (.int low), some (.int way), some (.lst ((List.replicate L.length 0).map .int)), some (.ref r), some (.ref t)] S3 := fun p b1 b2 e1 e2 hc hat => by
            unfold irB_loops_3
            walk_at "go"
            simp only [hst3, hat]
            refine ⟨by simp only [tyP, hsq3]; rfl, ?_⟩
            refine app_ok hsq3 (by rw [List.length_map]; omega) ?_
            rw [lmap]
            unfold irB_loops_2
            walk_at "go"
            unfold irB_loops_1
            walk_at "go"
            exact fin _ _ _ p z none l8 _ _ _ _ _ _ b1 b2 e1 e2 hz1 c2 hc trivial hl8 (by rw [upS_ne (Ne.symm hqa)]; exact hsa3) upS_same (hwd3.up (.inr (.inl rfl)))
          have hw : way = 0 ∨ way = 1 := by omega
          have pl : ∀ cs ∈ cntF L [], ∃ pre c, cs = pre ++ [c] ∧ pre.length = L.length - 1 ∧ b ≤ c ∧ c < b + z := fun cs hc => by
            obtain ⟨pre, c, rfl, h1, h2⟩ := hcs cs hc
            have := cnt_len L hc
            exact ⟨pre, c, rfl, by simp at this; omega, h1, h2⟩
          rcases hw with rfl | rfl
          · refine go p0 (bound_zero (by omega)) (by show BoundF (1, ah); rw [hah]; exact bound_last (by omega)) (by simp [p0]) (by simp [p0, ahl]) (fun cs hc => ?_) at0
            obtain ⟨pre, c, rfl, hpl, h1, h2⟩ := pl cs hc
            rw [ext1_len]
            show (((atF (1, ah) (pre ++ [c]) - atF (b, List.replicate L.length 0) (pre ++ [c])).toNat : Nat) : Int) ≤ z
            rw [hah, at_last 1 hpl, at_zero]
            omega
          · refine go p1 (by show BoundF (0, ah); rw [hah]; exact bound_last (by omega)) (bound_zero (by omega)) (by simp [p1, ahl]) (by simp [p1]) (fun cs hc => ?_) at1
            obtain ⟨pre, c, rfl, hpl, h1, h2⟩ := pl cs hc
            rw [ext1_len]
            show (((atF (b + z, List.replicate L.length 0) (pre ++ [c]) - atF (0, ah) (pre ++ [c])).toNat : Nat) : Int) ≤ z
            rw [hah, at_last 0 hpl, at_zero]
            omega
        · simp only [c2, decide_false]
          exact els _ (fin _ _ _)
    · simp only [c, decide_false]
      exact els _ (fin _ _ _)
  · obtain ⟨L, room, bef, l, z5, z6, z7, z8, z9, z10, z11, hL, I, rfl⟩ := hI
    rw [rngP_len] at hL
    unfold irB_loops_15
    walk_at "go"
    simp only [I.sq]
    refine hcl.less (I.wd.less hq0 I.sa hqa) (hq _ _ ⟨L, l, rfl, ⟨I.lps, by omega, by omega⟩, ?_, I.pen, rfl⟩)
    show ((cntF L []).length : Int) ≤ most
    have h1 := I.cnt
    have h2 : ((cntF L []).length : Int) * 1 ≤ (cntF L []).length * room := Int.mul_le_mul_of_nonneg_left I.r1 (by omega)
    omega
end DL
end
section
set_option maxRecDepth 100000
set_option maxHeartbeats 2000000
/-! The laws' draws (B): deeds, programs. -/
namespace DL
open PySem PySem.Spec L2
open PyProof.Rows hiding St wpS
local macro_rules | `(tactic| walk_at "go") => `(tactic| try simp only [wpSs, wpS, wpE, wpEs, wpT, wpC, wpO, wpL, wpI, wpH, List.getElem?_cons_zero, List.getElem?_cons_succ, List.set_cons_zero, List.set_cons_succ, biD, dQ, dL, cmpD, truD, idxD, binD, tgD, tgDs, frzQ, newL, List.any_cons, List.any_nil, Bool.or_false, wipeS, at0, at1, at2, at3, at4, at5])
/-- a drawn form, beside one told thing -/
theorem formB {G : GE} (h : G.fn 103 = pB_form.sp) {a : Addr} {l : List PV} {d : Nat} {w : Int} {S : Sto} {Q : Post} {E : XPost} (hS : S a = some (.lst l)) (hl : PenB l) (hd : d ≤ 10) (hw : 0 < w) (hw2 : w ≤ 10 ^ 30)
    (k : ∀ f l', FormB w d f → PenB l' → Q (fP f) (upS S a (.lst l'))) : G.fn 103 [.ref a, .int d, .int w] S (frzQ false Q) E :=
  Prm.call h (fun _ _ _ _ => id) ⟨a, l, d, w⟩ ⟨rfl, hS, hl, hd, hw, hw2⟩ fun r S' h => by
    obtain ⟨f, l', rfl, h1, h2, rfl⟩ := h
    exact k f l' h1 h2
theorem formB2 {G : GE} (h : G.fn 103 = pB_form.sp) {a p : Addr} {o : MO} {l : List PV} {d : Nat} {w : Int} {S : Sto} {Q : Post} {E : XPost} (hp : p ≠ a) (hl : PenB l) (hd : d ≤ 10) (hw : 0 < w) (hw2 : w ≤ 10 ^ 30)
    (k : ∀ f l', FormB w d f → PenB l' → Q (fP f) (upS (upS S a (.lst l')) p o)) : G.fn 103 [.ref a, .int d, .int w] (upS (upS S a (.lst l)) p o) (frzQ false Q) E :=
  formB h (by rw [upS_ne (Ne.symm hp)]; exact upS_same) hl hd hw hw2 fun f l' h1 h2 => by
    rw [upS_sw hp]
    exact k f l' h1 h2
theorem FormB.le {d : Nat} {f : Frm} (h : FormB 1 d f) : FrmLe 99 d f := ⟨h.1, by have := h.2.1; rw [if_pos rfl] at this; exact this, h.2.2⟩
theorem FormB.great {d : Nat} {f : Frm} {w : Int} (h : FormB w d f) (hw : w ≤ GRE - 1) : FrmLe (GRE - 1) d f := by
  have e : (99 : Int) ≤ GRE - 1 := by decide
  refine ⟨h.1, Int.le_trans h.2.1 ?_, fun n hn => Int.le_trans (h.2.2 n hn) e⟩
  split <;> omega
/-- the place of a table: forms drawn -/
theorem placeB {G : GE} (h : G.fn 103 = pB_form.sp) {ok : Sto → Prop} {step : PV → List PV → Sto → (List PV → Sto → Prop) → Prop} {a p : Addr} {l : List PV} {d n : Nat} {S : Sto} {dn : List PV → Sto → Prop} {E : XPost} (hp : S p = none) (hS : S a = some (.lst l)) (hl : PenB l) (hd : d ≤ 10) (hok : ∀ S', ok S')
    (hs : ∀ x acc S' k, step x acc S' k = G.fn 103 [.ref a, .int d, .int 1] S' (frzQ false fun y S4 => S4 p = some (.lst acc) ∧ k (acc ++ [y]) (upS S4 p (.lst (acc ++ [y])))) E)
    (hd2 : ∀ (pl : List Frm) (l : List PV), pl.length = n → (∀ f ∈ pl, FrmLe 99 d f) → PenB l → dn (pl.map fP) (upS (upS S a (.lst l)) p (.lst (pl.map fP)))) : itL ok step dn (rngP 0 n) [] (upS S p (.lst [])) := by
  have hpa : p ≠ a := fun e => by rw [e, hS] at hp; cases hp
  refine comp_penB (fun _ y => ∃ f, y = fP f ∧ FrmLe 99 d f) hpa hS hl hok (fun i x acc l k hx ha hl hk => ?_) fun acc l2 hlen hr hl2 => ?_
  · rw [hs]
    refine formB2 h hpa hl hd (by decide) (by decide) fun f l' h1 h2 => ?_
    simp only [upS_same, upS_upS] at hk ⊢
    exact ⟨trivial, hk _ l' ⟨f, rfl, h1.le⟩ h2⟩
  · obtain ⟨pl, rfl, hpl⟩ := typed_at hr
    rw [rngP_len, List.length_map] at hlen
    exact hd2 pl l2 hlen hpl hl2
structure DdA where
  a : Addr
  l : List PV
  ws : List Int
  d : Nat
def pB_deed : Prm := { α := DdA, pre := fun z vs S => vs = [.ref z.a, iP z.ws, .int z.d] ∧ S z.a = some (.lst z.l) ∧ PenB z.l ∧ WidOK z.ws ∧ z.d ≤ 10, post := fun z S r S' => ∃ x l, r = ddP x ∧ DddOK z.ws z.d x ∧ PenB l ∧ S' = upS S z.a (.lst l) }
theorem widAt {ws : List Int} (h : WidOK ws) {t : Int} (t0 : 0 ≤ t) (t1 : t < ((ws.map PV.int).length : Int)) : ∃ n : Nat, 1 ≤ n ∧ n ≤ 2 ∧ L2.atI (ws.map PV.int) t = some (.int n) ∧ ((n : Nat) : Int) = ws.getD t.toNat 0 ∧ t < (ws.length : Int) := by
  rw [List.length_map] at t1
  have hl : t.toNat < ws.length := by omega
  have hm := h.2.2 _ (List.getElem_mem hl)
  refine ⟨(ws[t.toNat]).toNat, by omega, by omega, atI_of t0 rfl ?_, ?_, t1⟩
  · rw [List.getElem?_map, List.getElem?_eq_getElem hl, Int.toNat_of_nonneg (by omega)]
    rfl
  · rw [List.getD_eq_getElem?_getD, List.getElem?_eq_getElem hl, Int.toNat_of_nonneg (by omega)]
    rfl
theorem kB_deed {G : GE} (h : G.fn 102 = pB_take.sp) (h3 : G.fn 103 = pB_form.sp) : Keeps G irB_deed nB_deed pB_deed := fun z vs S Q E hcl _ hp hq _ => by
  obtain ⟨a, l, ws, d⟩ := z
  obtain ⟨rfl, hS, hl, hw, hd⟩ := hp
  simp only at hS hl hw hd
  have hz : 100 ≤ sizeLine := by decide
  have wl : 0 < ((ws.map PV.int).length : Int) ∧ ((ws.map PV.int).length : Int) ≤ 3 := by rw [List.length_map]; have := hw.1; have := hw.2.1; omega
  have hG : GRE = 10 ^ 30 := by decide
  rw [show startS nB_deed [.ref a, iP ws, .int d] = [some (.ref a), some (iP ws), some (.int d), none, none, none, none, none, none, none, none, none] from rfl]
  unfold irB_deed
  walk_at "go"
  simp only [iP, dQ]
  refine takeB h hS hl wl.1 (by omega) fun t l1 t0 t1 hl1 => ?_
  obtain ⟨n, n1, n2, hat, hgd, t2⟩ := widAt hw t0 t1
  walk_at "go"
  unfold irB_deed_9
  walk_at "go"
  simp only [hat]
  refine ⟨by omega, by omega, fun p hp => ?_⟩
  rw [Int.toNat_natCast]
  have hpa : p ≠ a := fun e => by rw [e, upS_same] at hp; cases hp
  refine placeB (d := d) h3 hp upS_same hl1 hd (fun _ => trivial) (fun _ _ _ _ => rfl) fun pl l2 hpl hfs hl2 => ?_
  refine ⟨upS_same, ?_⟩
  rw [upS_upS, delS_upS (by rw [upS_ne hpa]; rw [upS_ne hpa] at hp; exact hp)]
  have hset : PlcOK ws d t pl := ⟨t0, t2, by rw [hpl]; exact hgd, hfs⟩
  unfold irB_deed_8
  walk_at "go"
  refine ⟨⟨by decide, by decide, by decide⟩, by show 3 ≤ sizeLine; omega, ?_⟩
  refine takeB h upS_same hl2 (by decide) (by decide) fun wi l3 w0 w1 hl3 => ?_
  rw [upS_upS]
  have hwx : ∃ w : Int, L2.atI [PV.int 1, .int 9, .int (10 ^ (30 : Int).toNat - 1)] wi = some (.int w) ∧ 0 < w ∧ w ≤ GRE - 1 := by
    have : wi = 0 ∨ wi = 1 ∨ wi = 2 := by omega
    rcases this with rfl | rfl | rfl
    · exact ⟨1, rfl, by decide, by decide⟩
    · exact ⟨9, rfl, by decide, by decide⟩
    · exact ⟨_, rfl, by decide, by decide⟩
  obtain ⟨w, hwat, hw0, hw1⟩ := hwx
  simp only [hwat]
  refine formB h3 upS_same hl3 hd hw0 (by omega) fun f l4 hf hl4 => ?_
  rw [upS_upS]
  have hst := hf.great hw1
  walk_at "go"
  unfold irB_deed_7
  walk_at "go"
  refine ⟨by show 0 ≤ sizeLine; omega, fun q hq0 => ?_⟩
  have hqa : q ≠ a := fun e => by rw [e, upS_same] at hq0; cases hq0
  rw [upS_ne hqa] at hq0
  unfold irB_deed_6
  walk_at "go"
  refine takeB2 h hqa hl4 (by decide) (by decide) fun m l5 m0 m1 hl5 => ?_
  refine ⟨by omega, by omega, ?_⟩
  obtain ⟨m, rfl⟩ : ∃ j : Nat, m = (j : Int) := ⟨m.toNat, by omega⟩
  rw [Int.toNat_natCast]
  refine itL_inv (fun i σ S' => ∃ (rds : List Rdd) (l : List PV) (z7 z8 z9 z10 z11 : Option PV), rds.length = i ∧ (∀ r ∈ rds, RddOK ws d r) ∧ PenB l ∧ S' = upS (upS S a (.lst l)) q (.lst (rds.map rdP)) ∧ σ = [some (.ref a), some (.tup (ws.map .int)), some (.int d), some (.int t), some (plP pl), some (fP f), some (.ref q), z7, z8, z9, z10, z11])
    ⟨[], l5, none, none, none, none, none, rfl, (fun r hr => by simp at hr), hl5, rfl, rfl⟩ (fun _ _ _ _ => trivial) (fun i x σ S' k hx hI hk => ?_) fun σ S' hI => ?_
  · obtain ⟨rds, l, z7, z8, z9, z10, z11, hlen, hrd, hl, rfl, rfl⟩ := hI
    obtain ⟨hi, rfl⟩ := rngP_get hx
    walk_at "go"
    unfold irB_deed_b1
    walk_at "go"
    refine takeB2 h hqa hl wl.1 (by omega) fun ot l6 o0 o1 hl6 => ?_
    obtain ⟨n', n1', n2', hat', hgd', o2⟩ := widAt hw o0 o1
    walk_at "go"
    unfold irB_deed_4
    walk_at "go"
    refine takeB2 h hqa hl6 (by decide) (by decide) fun wy l7 y0 y1 hl7 => ?_
    walk_at "go"
    unfold irB_deed_3
    walk_at "go"
    refine ⟨by show 8 ≤ sizeLine; omega, ?_⟩
    have rest : ∀ (fac : Int) (l : List PV), absI fac < GRE → PenB l → wpSs G irB_deed_1 { nx := k, rt := Q, bk := fun σ' S' => wpSs G irB_deed_5 { nx := fun _ S => Q .non S, rt := Q } (fun x _ S => E x S) σ' S', ct := k } (fun x _ S => E x S) [some (.ref a), some (.tup (ws.map .int)), some (.int d), some (.int t), some (plP pl), some (fP f), some (.ref q), some (.int (0 + (i : Int))), some (.int ot), some (.int wy), some (.int fac), z11] (upS (upS S a (.lst l)) q (.lst (rds.map rdP))) := fun fac l hfac hl => by
      unfold irB_deed_1
      walk_at "go"
      simp only [hat']
      refine ⟨by simp only [tyP, upS_same]; rfl, by omega, by omega, fun p hp => ?_⟩
      rw [Int.toNat_natCast]
      have hpq : p ≠ q := fun e => by rw [e, upS_same] at hp; cases hp
      have hpa : p ≠ a := fun e => by rw [e, upS_ne (Ne.symm hqa), upS_same] at hp; cases hp
      refine placeB (d := d) h3 hp (by rw [upS_ne (Ne.symm hqa)]; exact upS_same) hl hd (fun _ => trivial) (fun _ _ _ _ => rfl) fun pl2 l8 hpl2 hfs2 hl8 => ?_
      refine ⟨upS_same, ?_⟩
      rw [delS_upS (by rw [upS_ne hpa]; exact hp), upS_sw hqa]
      refine ⟨by show 3 ≤ sizeLine; omega, ?_⟩
      refine app_ok upS_same (by rw [List.length_map]; omega) ?_
      rw [upS_upS]
      refine hk _ _ ⟨rds ++ [⟨fac, ot, pl2⟩], l8, _, _, _, _, _, by rw [List.length_append, hlen]; rfl, fun r hr => ?_, hl8, ?_, rfl⟩
      · rcases List.mem_append.mp hr with hr | hr
        · exact hrd r hr
        · rw [List.mem_singleton.mp hr]
          exact ⟨hfac, o0, o2, by rw [hpl2]; exact hgd', hfs2⟩
      · rw [List.map_append]
        rfl
    have key : ∀ fac : Int, absI fac < GRE → L2.atI [PV.int 1, .int (-1), .int 2, .int 3, .int 0, .int 1, .int (-5), .int 0] wy = some (.int fac) → (match L2.atI [PV.int 1, .int (-1), .int 2, .int 3, .int 0, .int 1, .int (-5), .int 0] wy with
        | some v => wpSs G irB_deed_2 { nx := k, rt := Q, bk := fun σ' S' => wpSs G irB_deed_5 { nx := fun _ S => Q .non S, rt := Q } (fun x _ S => E x S) σ' S', ct := k } (fun x _ S => E x S) [some (.ref a), some (.tup (ws.map .int)), some (.int d), some (.int t), some (plP pl), some (fP f), some (.ref q), some (.int (0 + (i : Int))), some (.int ot), some (.int wy), some v, z11] (upS (upS S a (.lst l7)) q (.lst (rds.map rdP)))
        | none => False) := fun fac hfac e => by
      rw [e]
      simp only
      unfold irB_deed_2
      walk_at "go"
      simp only [eqD]
      by_cases c : wy = 7
      · simp only [c, decide_true]
        refine ⟨⟨by decide, by decide, by decide⟩, .inl (.inl ⟨by decide, by decide⟩), ?_⟩
        refine takeB2 h hqa hl7 (by decide) (by decide) fun v l8 v0 v1 hl8 => ?_
        refine ⟨⟨by decide, by decide, by decide⟩, ?_⟩
        have e30 : (10 : Int) ^ (30 : Int).toNat = GRE := by decide
        rw [e30] at v1 ⊢
        have := rest (v - GRE + 1) l8 (by have := absI_le2 (i := v - GRE + 1) (m := GRE - 1) (by omega) (by omega); omega) hl8
        rw [c] at this
        exact this
      · simp only [c, decide_false]
        exact rest fac l7 hfac hl7
    have : wy = 0 ∨ wy = 1 ∨ wy = 2 ∨ wy = 3 ∨ wy = 4 ∨ wy = 5 ∨ wy = 6 ∨ wy = 7 := by omega
    rcases this with rfl | rfl | rfl | rfl | rfl | rfl | rfl | rfl <;> exact key _ (by decide) rfl
  · obtain ⟨rds, l, z7, z8, z9, z10, z11, hlen, hrd, hl, rfl, rfl⟩ := hI
    rw [rngP_len] at hlen
    unfold irB_deed_5
    walk_at "go"
    simp only [upS_same]
    refine ⟨by show 4 ≤ sizeLine; omega, ?_⟩
    refine hcl _ _ _ _ (Sub.del (p := q)) ?_
    rw [delS_upS (by rw [upS_ne hqa]; exact hq0)]
    exact hq _ _ ⟨⟨t, pl, f, rds⟩, l, rfl, ⟨hset, hst, by show rds.length ≤ 3; omega, hrd⟩, hl, rfl⟩
end DL
end
section
set_option maxRecDepth 100000
set_option maxHeartbeats 2000000
/-! The laws' draws (B): programs. -/
namespace DL
open PySem PySem.Spec L2
open PyProof.Rows hiding St wpS
local macro_rules | `(tactic| walk_at "go") => `(tactic| try simp only [wpSs, wpS, wpE, wpEs, wpT, wpC, wpO, wpL, wpI, wpH, List.getElem?_cons_zero, List.getElem?_cons_succ, List.set_cons_zero, List.set_cons_succ, biD, dQ, dL, cmpD, truD, idxD, binD, tgD, tgDs, frzQ, newL, List.any_cons, List.any_nil, Bool.or_false, wipeS, at0, at1, at2, at3, at4, at5])
theorem deedB {G : GE} (h : G.fn 105 = pB_deed.sp) {a p : Addr} {o : MO} {l : List PV} {ws : List Int} {d : Nat} {S : Sto} {Q : Post} {E : XPost} (hp : p ≠ a) (hl : PenB l) (hw : WidOK ws) (hd : d ≤ 10)
    (k : ∀ x l', DddOK ws d x → PenB l' → Q (ddP x) (upS (upS S a (.lst l')) p o)) : G.fn 105 [.ref a, iP ws, .int d] (upS (upS S a (.lst l)) p o) (frzQ false Q) E :=
  Prm.call h (fun _ _ _ _ => id) ⟨a, l, ws, d⟩ ⟨rfl, by rw [upS_ne (Ne.symm hp)]; exact upS_same, hl, hw, hd⟩ fun r S' h => by
    obtain ⟨x, l', rfl, h1, h2, rfl⟩ := h
    rw [upS_sw hp]
    exact k x l' h1 h2
structure PgA where
  a : Addr
  l : List PV
  m : Int
def pB_program : Prm := { α := PgA, pre := fun z vs S => vs = [.ref z.a, .int z.m] ∧ S z.a = some (.lst z.l) ∧ PenB z.l ∧ 1 ≤ z.m ∧ z.m ≤ 60, post := fun z S r S' => ∃ P l, r = pgP P ∧ PgmOK P ∧ ((fsL P).length : Int) ≤ max 12 z.m ∧ PenB l ∧ S' = upS S z.a (.lst l) }
theorem typed_at2 {α : Type} {f : α → PV} {R : α → Prop} : ∀ {l : List PV}, (∀ (i : Nat) y, l[i]? = some y → ∃ a, y = f a ∧ R a) → ∃ l' : List α, l = l'.map f ∧ ∀ a ∈ l', R a
  | [], _ => ⟨[], rfl, fun a h => by simp at h⟩
  | y :: l, h => by
    obtain ⟨a, rfl, ha⟩ := h 0 y rfl
    obtain ⟨l', rfl, hl⟩ := typed_at2 (l := l) fun i y hy => h (i + 1) y (by simpa using hy)
    exact ⟨a :: l', rfl, fun b hb => by
      rcases List.mem_cons.mp hb with e | hb
      · rw [e]; exact ha
      · exact hl b hb⟩
theorem many_le {n : Nst} {q : Int} (h1 : n.dds.length ≤ 4) (h0 : 1 ≤ n.dds.length) (q60 : q ≤ 60) (q0 : 0 ≤ q) (hc : ((cntF n.lps []).length : Int) ≤ max 1 (q / (n.dds.length : Nat))) : manyN n ≤ max 4 q := by
  have hd : (1 : Int) ≤ (n.dds.length : Nat) := by omega
  have e : moreI (cntF n.lps []).length 60 = ((cntF n.lps []).length : Nat) := by
    unfold moreI
    have : q / (n.dds.length : Nat) ≤ q := Int.ediv_le_self _ q0
    rw [if_pos (by omega)]
  unfold manyN
  rw [e]
  generalize ((cntF n.lps []).length : Int) = c at hc
  by_cases g : 1 ≤ q / (n.dds.length : Nat)
  · have h2 : c ≤ q / (n.dds.length : Nat) := by omega
    have h3 : (n.dds.length : Int) * (q / (n.dds.length : Nat)) ≤ q := Int.mul_ediv_self_le (by omega)
    have h4 : (n.dds.length : Int) * c ≤ n.dds.length * (q / (n.dds.length : Nat)) := Int.mul_le_mul_of_nonneg_left h2 (by omega)
    omega
  · have h2 : c ≤ 1 := by omega
    have h4 : (n.dds.length : Int) * c ≤ n.dds.length * 1 := Int.mul_le_mul_of_nonneg_left h2 (by omega)
    omega
theorem total_le {q : Int} : ∀ {l : List Nst}, (∀ n ∈ l, manyN n ≤ q) → totalP l ≤ (l.length : Nat) * q
  | [], _ => by simp [totalP]
  | n :: l, h => by
    have := total_le (l := l) (q := q) fun m hm => h m (by simp [hm])
    have := h n (by simp)
    simp only [totalP, List.map_cons, List.sum_cons, List.length_cons] at *
    rw [Int.natCast_add, Int.add_mul]
    omega
theorem kB_program {G : GE} (h : G.fn 102 = pB_take.sp) (h4 : G.fn 104 = pB_loops.sp) (h5 : G.fn 105 = pB_deed.sp) : Keeps G irB_program nB_program pB_program := fun z vs S Q E hcl _ hp hq _ => by
  obtain ⟨a, l, most⟩ := z
  obtain ⟨rfl, hS, hl, hm1, hm2⟩ := hp
  simp only at hS hl hm1 hm2
  have hz : 100 ≤ sizeLine := by decide
  rw [show startS nB_program [.ref a, .int most] = [some (.ref a), some (.int most), none, none, none, none, none, none, none] from rfl]
  unfold irB_program
  walk_at "go"
  refine takeB h hS hl (by decide) (by decide) fun i l1 i0 i1 hl1 => ?_
  refine ⟨by omega, by omega, fun p hp => ?_⟩
  have hpa : p ≠ a := fun e => by rw [e, upS_same] at hp; cases hp
  refine comp_penB (fun _ y => ∃ w : Int, y = .int w ∧ (1 ≤ w ∧ w ≤ 2)) hpa upS_same hl1 (fun _ => trivial) (fun i x acc l k hx ha hl hk => ?_) fun acc l2 hlen hr hl2 => ?_
  · walk_at "go"
    refine takeB2 h hpa hl (by decide) (by decide) fun i l' i0 i1 hl' => ?_
    simp only [upS_same, upS_upS] at hk ⊢
    exact ⟨trivial, hk _ l' ⟨1 + i, rfl, by omega, by omega⟩ hl'⟩
  obtain ⟨ws, rfl, hws⟩ := typed_at2 hr
  rw [List.length_map, rngP_len] at hlen
  have hW : WidOK ws := ⟨by omega, by omega, hws⟩
  refine ⟨upS_same, ?_⟩
  rw [upS_upS, delS_upS (by rw [upS_ne hpa]; rw [upS_ne hpa] at hp; exact hp)]
  unfold irB_program_6
  walk_at "go"
  refine takeB h upS_same hl2 (by decide) (by decide) fun im l3 im0 im1 hl3 => ?_
  rw [upS_upS]
  walk_at "go"
  unfold irB_program_5
  walk_at "go"
  refine ⟨by show 0 ≤ sizeLine; omega, fun q hq0 => ?_⟩
  have hqa : q ≠ a := fun e => by rw [e, upS_same] at hq0; cases hq0
  rw [upS_ne hqa] at hq0
  unfold irB_program_4
  walk_at "go"
  refine ⟨by omega, by omega, ?_⟩
  obtain ⟨many, hmany⟩ : ∃ n : Nat, 1 + im = (n : Int) := ⟨(1 + im).toNat, by omega⟩
  rw [hmany, Int.toNat_natCast]
  have hmn : 1 ≤ many ∧ many ≤ 3 := by omega
  obtain ⟨qq, hqq⟩ : ∃ x, x = most / (many : Int) := ⟨_, rfl⟩
  have hqq0 : 0 ≤ qq := hqq ▸ Int.ediv_nonneg (by omega) (by omega)
  have hqq1 : qq ≤ 60 := by have := Int.ediv_le_self (a := most) many (by omega); omega
  refine itL_inv (fun i σ S' => ∃ (nst : List Nst) (l : List PV) (z5 z6 z7 z8 : Option PV), nst.length = i ∧ (∀ n ∈ nst, NstOK ws n ∧ manyN n ≤ max 4 qq) ∧ PenB l ∧ S' = upS (upS S a (.lst l)) q (.lst (nst.map nsP)) ∧ σ = [some (.ref a), some (.int most), some (iP ws), some (.int (many : Int)), some (.ref q), z5, z6, z7, z8])
    ⟨[], l3, none, none, none, none, rfl, (fun r hr => by simp at hr), hl3, rfl, rfl⟩ (fun _ _ _ _ => trivial) (fun i x σ S' k hx hI hk => ?_) fun σ S' hI => ?_
  · obtain ⟨nst, l, z5, z6, z7, z8, hlen2, hrd, hl, rfl, rfl⟩ := hI
    obtain ⟨hi, rfl⟩ := rngP_get hx
    walk_at "go"
    unfold irB_program_b1
    walk_at "go"
    refine takeB2 h hqa hl (by decide) (by decide) fun iD l6 d0 d1 hl6 => ?_
    walk_at "go"
    unfold irB_program_2
    walk_at "go"
    obtain ⟨dd, hdd⟩ : ∃ n : Nat, 1 + iD = (n : Int) := ⟨(1 + iD).toNat, by omega⟩
    rw [hdd, ← hqq]
    have hddn : 1 ≤ dd ∧ dd ≤ 4 := by omega
    have mx : (if (1 : Int) < qq / (dd : Int) then qq / (dd : Int) else 1) = max 1 (qq / (dd : Int)) := by rw [Int.max_def]; split <;> split <;> omega
    have hq3 : qq / (dd : Int) ≤ 60 := by have := Int.ediv_le_self (a := qq) dd (by omega); omega
    refine ⟨wide_div (b := 64) (by omega) (by omega) (by decide) (by decide), wide_div (b := 64) (by omega) (by omega) (by decide) (by decide), ?_⟩
    simp only [mx]
    refine Prm.call h4 (fun _ _ _ _ => id) ⟨a, l6, max 1 (qq / (dd : Int))⟩ ⟨rfl, by rw [upS_ne (Ne.symm hqa)]; exact upS_same, hl6, by show (1 : Int) ≤ max 1 _; omega, by show max 1 (qq / (dd : Int)) ≤ (1000 : Int); omega⟩ fun r S1 h => ?_
    obtain ⟨L, l7, rfl, hL, hcnt, hl7, rfl⟩ := h
    simp only at hcnt
    rw [upS_sw hqa]
    walk_at "go"
    unfold irB_program_1
    walk_at "go"
    simp only [lsP, dQ]
    refine ⟨by simp only [tyP, upS_same]; rfl, by omega, by omega, fun p hp => ?_⟩
    rw [Int.toNat_natCast]
    have hpq : p ≠ q := fun e => by rw [e, upS_same] at hp; cases hp
    have hpa : p ≠ a := fun e => by rw [e, upS_ne (Ne.symm hqa), upS_same] at hp; cases hp
    refine comp_penB (fun _ y => ∃ x, y = ddP x ∧ DddOK ws L.length x) hpa (by rw [upS_ne (Ne.symm hqa)]; exact upS_same) hl7 (fun _ => trivial) (fun i x acc l k hx ha hl hk => ?_) fun acc l2 hlen hr hl2 => ?_
    · walk_at "go"
      simp only [List.length_map]
      refine deedB h5 hpa hl hW (by have := hL.2.2; omega) fun x l' h1 h2 => ?_
      simp only [upS_same, upS_upS] at hk ⊢
      exact ⟨trivial, hk _ l' ⟨x, rfl, h1⟩ h2⟩
    obtain ⟨dds, rfl, hdds⟩ := typed_at2 hr
    rw [List.length_map, rngP_len] at hlen
    refine ⟨upS_same, ?_⟩
    rw [delS_upS (by rw [upS_ne hpa]; exact hp), upS_sw hqa]
    refine ⟨by show 2 ≤ sizeLine; omega, ?_⟩
    refine app_ok upS_same (by rw [List.length_map]; omega) ?_
    rw [upS_upS]
    refine hk _ _ ⟨nst ++ [⟨L, dds⟩], l2, _, _, _, _, by rw [List.length_append, hlen2]; rfl, fun n hn => ?_, hl2, ?_, rfl⟩
    · rcases List.mem_append.mp hn with hn | hn
      · exact hrd n hn
      · rw [List.mem_singleton.mp hn]
        exact ⟨⟨hL, by show 1 ≤ dds.length; omega, by show dds.length ≤ 4; omega, hdds⟩, many_le (n := ⟨L, dds⟩) (by show dds.length ≤ 4; omega) (by show 1 ≤ dds.length; omega) hqq1 hqq0 (by rw [show (Nst.mk L dds).dds.length = dd from hlen]; exact hcnt)⟩
    · rw [List.map_append]
      rfl
  · obtain ⟨nst, l, z5, z6, z7, z8, hlen2, hrd, hl, rfl, rfl⟩ := hI
    rw [rngP_len] at hlen2
    unfold irB_program_3
    walk_at "go"
    simp only [upS_same]
    refine ⟨by show 2 ≤ sizeLine; omega, ?_⟩
    refine hcl _ _ _ _ (Sub.del (p := q)) ?_
    rw [delS_upS (by rw [upS_ne hqa]; exact hq0)]
    have ht := total_le (q := max 4 qq) fun n hn => (hrd n hn).2
    have ht2 : totalP nst ≤ max 12 most := by
      rw [hlen2] at ht
      have h3 : (many : Int) * qq ≤ most := by rw [hqq]; exact Int.mul_ediv_self_le (by omega)
      by_cases g : 4 ≤ qq
      · rw [Int.max_eq_right g] at ht
        omega
      · rw [Int.max_eq_left (by omega)] at ht
        omega
    have hP : PgmOK ⟨ws, nst⟩ := { wid := hW, lo := by show 1 ≤ nst.length; omega, hi := by show nst.length ≤ 3; omega, nst := fun n hn => (hrd n hn).1, tot := by show totalP nst ≤ 60; omega }
    refine hq _ _ ⟨⟨ws, nst⟩, l, rfl, hP, ?_, hl, rfl⟩
    have := fsFrom_len nst 0 fun n hn => hP.cnt60 hn
    show ((fsFrom 0 nst).length : Int) ≤ _
    rw [this]
    exact ht2
end DL
end
section
set_option maxRecDepth 100000
set_option maxHeartbeats 2000000
/-! The laws' own steps (B): at, counts, spot, steps, touch. -/
namespace DL
open PySem PySem.Spec L2
open PyProof.Rows hiding St wpS
local macro_rules | `(tactic| walk_at "go") => `(tactic| try simp only [wpSs, wpS, wpE, wpEs, wpT, wpC, wpO, wpL, wpI, wpH, List.getElem?_cons_zero, List.getElem?_cons_succ, List.set_cons_zero, List.set_cons_succ, biD, dQ, dL, cmpD, truD, idxD, binD, tgD, tgDs, frzQ, newL, List.any_cons, List.any_nil, Bool.or_false, wipeS, at0, at1, at2, at3, at4, at5])
def pB_at : Prm := { α := Frm × List Int, pre := fun z vs S => vs = [fP z.1, iP z.2] ∧ Small z.2 ∧ z.1.2.length = z.2.length ∧ z.2.length ≤ 10, post := fun z S r S' => r = .int (atF z.1 z.2) ∧ S' = S }
theorem sum_at : ∀ (ns cs : List Int), ns.length = cs.length → ((List.range cs.length).map fun i => ns.getD i 0 * cs.getD i 0).sum = dotI ns cs
  | [], [], _ => rfl
  | n :: ns, c :: cs, h => by
    have ih := sum_at ns cs (by simpa using h)
    rw [List.length_cons, List.range_succ_eq_map, List.map_cons, List.map_map, List.sum_cons]
    unfold dotI at ih ⊢
    rw [List.zipWith_cons_cons, List.sum_cons, ← ih]
    rfl
  | [], _ :: _, h => by simp at h
  | _ :: _, [], h => by simp at h
theorem atI_ints {ns : List Int} {i : Nat} (h : i < ns.length) : L2.atI (ns.map PV.int) ((i : Nat) : Int) = some (.int (ns.getD i 0)) := atI_nat (by
  rw [List.getElem?_map, List.getD_eq_getElem?_getD, List.getElem?_eq_getElem h]
  rfl)
theorem kB_at {G : GE} : Keeps G irB_at nB_at pB_at := fun z vs S Q E _ _ hp hq _ => by
  obtain ⟨⟨n, ns⟩, cs⟩ := z
  obtain ⟨rfl, hs, hl, h10⟩ := hp
  simp only at hs hl h10
  have hz : 100 ≤ sizeLine := by decide
  have out : Q (.int (n + dotI ns cs)) S := hq _ _ ⟨rfl, rfl⟩
  clear hq
  rw [show startS nB_at [fP (n, ns), iP cs] = [some (.tup ((n :: ns).map .int)), some (.tup (cs.map .int)), none] from rfl]
  unfold irB_at
  walk_at "go"
  have e0 : L2.atI ((n :: ns).map PV.int) 0 = some (.int n) := at0
  simp only [e0]
  rw [List.length_map]
  refine ⟨by omega, by omega, fun p hp => ?_⟩
  rw [Int.toNat_natCast, show rngP 0 cs.length = (List.range cs.length).map (fun i : Nat => PV.int (0 + i)) from rfl]
  refine comp_typed (fun i : Nat => PV.int (0 + i)) (fun i : Nat => PV.int (ns.getD i 0 * cs.getD i 0)) (List.range cs.length) hp (fun _ => trivial) (fun i a acc k hx ha hk => ?_) ?_
  · have hi := List.mem_range.mp (List.mem_of_getElem? hx)
    walk_at "go"
    have e1 : L2.atI ((n :: ns).map PV.int) (1 + (0 + (a : Int))) = some (.int (ns.getD a 0)) := by
      rw [show (1 : Int) + (0 + (a : Int)) = ((a + 1 : Nat) : Int) from by omega]
      exact atI_ints (ns := n :: ns) (i := a + 1) (by simp; omega)
    have e2 : L2.atI (cs.map PV.int) (0 + (a : Int)) = some (.int (cs.getD a 0)) := by
      rw [Int.zero_add]
      exact atI_ints hi
    simp only [e1, e2]
    have hc : cs.getD a 0 ∈ cs := by rw [List.getD_eq_getElem?_getD, List.getElem?_eq_getElem hi]; exact List.getElem_mem hi
    obtain ⟨c1, c2⟩ := hs _ hc
    exact ⟨.inl (.inr ⟨c1, c2⟩), upS_same, by rw [upS_upS]; exact hk⟩
  · rw [show (List.range cs.length).map (fun i : Nat => PV.int (ns.getD i 0 * cs.getD i 0)) = ((List.range cs.length).map fun i => ns.getD i 0 * cs.getD i 0).map PV.int from by rw [List.map_map]; rfl]
    refine ⟨upS_same, ?_⟩
    simp only [biD, dL, intsP_map, delS_upS hp, binD, sum_at ns cs hl]
    exact out
/-- the counts on the way are few -/
theorem cnt_part {L : List (Frm × Frm)} (h : LsOK L) (hc : (cntF L []).length ≤ 1000) : ∀ i, (cntF (L.take i) []).length ≤ 1000 := fun i => by
  obtain ⟨hL, l1, l3⟩ := h
  have s1 : ∀ p : Frm × Frm, cntF [p] [] = ext1 p [] := fun p => by
    rw [← List.nil_append [p], cntF_snoc]
    simp [cntF]
  have s2 : ∀ p q : Frm × Frm, cntF [p, q] [] = (ext1 p []).flatMap (ext1 q) := fun p q => by
    rw [show [p, q] = [p] ++ [q] from rfl, cntF_snoc, s1]
  match L, i with
  | _, 0 => simp [cntF]
  | [], i + 1 => simp at l1
  | [p], i + 1 => rw [List.take_of_length_le (by simp)]; exact hc
  | p :: q :: l, 1 =>
    have b := (hL 0 p rfl).1
    rw [show (p :: q :: l).take 1 = [p] from rfl, s1]
    exact Nat.le_trans (lev1 b.1 b.2).1 (by decide)
  | [p, q], i + 2 => rw [List.take_of_length_le (by simp)]; exact hc
  | p :: q :: r :: l, 2 =>
    have b := (hL 0 p rfl).1
    have d := (hL 1 q rfl).1
    rw [show (p :: q :: r :: l).take 2 = [p, q] from rfl, s2]
    exact Nat.le_trans (lev2 b.1 b.2 d.1 d.2) (by decide)
  | p :: q :: r :: l, i + 3 =>
    have : l = [] := by simp only [List.length_cons] at l3; exact List.eq_nil_of_length_eq_zero (by omega)
    subst this
    rw [List.take_of_length_le (by simp)]
    exact hc
def pB_counts : Prm := { α := List (Frm × Frm), pre := fun L vs S => vs = [lsP L] ∧ LsOK L ∧ (cntF L []).length ≤ 1000, post := fun L S r S' => resL true ((cntF L []).map iP) S r S' }
theorem atB {G : GE} (h : G.fn 107 = pB_at.sp) {f : Frm} {cs : List Int} {S : Sto} {Q : Post} {E : XPost} (hs : Small cs) (hl : f.2.length = cs.length) (h10 : cs.length ≤ 10) (k : Q (.int (atF f cs)) S) : G.fn 107 [fP f, iP cs] S (frzQ false Q) E :=
  Prm.call h (fun _ _ _ _ => id) (f, cs) ⟨rfl, hs, hl, h10⟩ fun r S' h => by
    obtain ⟨rfl, rfl⟩ := h
    exact k
theorem cnt_ok {L : List (Frm × Frm)} (h : LpsOK 0 L) (hl : L.length ≤ 3) : CntOK L [] := by
  refine cntOK_of L [] 9 (fun p hp => ?_) (fun c hc => by simp at hc) (by simpa using hl) (by decide) ?_
  · obtain ⟨j, hj⟩ := List.getElem?_of_mem hp
    exact (h j p hj).1
  · have : L.length = 0 ∨ L.length = 1 ∨ L.length = 2 ∨ L.length = 3 := by omega
    rcases this with e | e | e | e <;> rw [e] <;> decide
theorem cnt_at {p : Frm × Frm} : ∀ (L : List (Frm × Frm)) (cs : List Int), CntOK (L ++ [p]) cs → ∀ c ∈ cntF L cs, CntOK [p] c
  | [], cs, h, c, hc => by
    simp only [cntF, List.mem_singleton] at hc
    rw [hc]
    exact h
  | q :: L, cs, h, c, hc => by
    simp only [cntF, List.mem_flatMap, List.mem_range] at hc
    obtain ⟨i, hi, hc⟩ := hc
    exact cnt_at L _ (h.2.2.2.2 i hi) c hc
theorem Less.to {S S' : Sto} {p : Addr} {o : MO} (l : Less S S') (h : S p = none) (h' : S' p = some o) : Less (upS S p o) S' := fun a => by
  by_cases e : a = p
  · rw [e, upS_same, h']
    exact .inl rfl
  · rw [upS_ne e]
    exact l a
theorem kB_counts {G : GE} (h : G.fn 107 = pB_at.sp) : Keeps G irB_counts nB_counts pB_counts := fun (L : List (Frm × Frm)) vs S Q E hcl _ hp hq _ => by
  obtain ⟨rfl, hL, hc⟩ := hp
  have hz : 10000 ≤ sizeLine := by decide
  have hpart := cnt_part hL hc
  rw [show startS nB_counts [lsP L] = [some (.tup (L.map lP)), none, none, none, none, none, none] from rfl]
  unfold irB_counts
  walk_at "go"
  refine ⟨by show 0 ≤ sizeLine; omega, by show 1 ≤ sizeLine; omega, fun p hp => ?_⟩
  unfold irB_counts_4
  walk_at "go"
  refine itL_inv (fun i σ S' => ∃ (p : Addr) (z2 z3 z4 z5 z6 : Option PV), S p = none ∧ S' p = some (.lst ((cntF (L.take i) []).map iP)) ∧ Less S S' ∧ σ = [some (.tup (L.map lP)), some (.ref p), z2, z3, z4, z5, z6])
    ⟨p, none, none, none, none, none, hp, by rw [upS_same]; rfl, Less.up hp, rfl⟩ (fun _ _ _ _ => trivial) (fun i x σ S' k hx hI hk => ?_) fun σ S' hI => ?_
  · obtain ⟨p, z2, z3, z4, z5, z6, hp0, hp1, hle, rfl⟩ := hI
    rw [List.getElem?_map] at hx
    obtain ⟨b, hb, rfl⟩ := Option.map_eq_some_iff.mp hx
    have hi := (List.getElem?_eq_some_iff.mp hb).1
    obtain ⟨⟨b1, b2⟩, b3, b4⟩ := hL.1 i b hb
    rw [Nat.zero_add] at b3 b4
    have hl3 := hL.2.2
    have htk : L.take (i + 1) = L.take i ++ [b] := by rw [List.take_add_one, hb, Option.toList_some]
    have hsn : cntF (L.take (i + 1)) [] = (cntF (L.take i) []).flatMap (ext1 b) := by rw [htk, cntF_snoc]
    have hlt := hpart (i + 1)
    rw [hsn] at hlt
    have hok : CntOK (L.take i ++ [b]) [] := by
      rw [← htk]
      refine cnt_ok (fun j q hq => hL.1 j q ?_) (by rw [List.length_take]; omega)
      rw [List.getElem?_take] at hq
      split at hq
      · exact hq
      · cases hq
    have hci : ∀ c ∈ cntF (L.take i) [], CntOK [b] c ∧ c.length = i := fun c hc => ⟨cnt_at _ _ hok c hc, by rw [cnt_len _ hc, List.length_take]; omega⟩
    simp only [lP]
    walk_at "go"
    unfold irB_counts_b3
    walk_at "go"
    refine ⟨by show 0 ≤ sizeLine; omega, fun q hq0 => ?_⟩
    have hqp : q ≠ p := fun e => by rw [e, hp1] at hq0; cases hq0
    have hq00 : S q = none := by
      rcases hle q with e | e
      · rw [e]; exact hq0
      · exact e
    unfold irB_counts_2
    walk_at "go"
    simp only [upS_ne (Ne.symm hqp), hp1]
    refine itL_inv (fun j σ S2 => ∃ (z5 z6 : Option PV), S2 = upS S' q (.lst ((((cntF (L.take i) []).take j).flatMap (ext1 b)).map iP)) ∧ σ = [some (.tup (L.map lP)), some (.ref p), some (fP b.1), some (fP b.2), some (.ref q), z5, z6])
      ⟨z5, z6, rfl, rfl⟩ (fun j σ S2 h => ?_) (fun j x σ S2 k' hx hI hk' => ?_) fun σ S2 hI => ?_
    · obtain ⟨z5, z6, rfl, rfl⟩ := h
      show (upS S' q _) p = _
      rw [upS_ne (Ne.symm hqp)]
      exact hp1
    · obtain ⟨z5, z6, rfl, rfl⟩ := hI
      rw [List.getElem?_map] at hx
      obtain ⟨cs, hcs, rfl⟩ := Option.map_eq_some_iff.mp hx
      obtain ⟨⟨c1, ⟨c2, c3⟩, ⟨c4, c5⟩, c6, _⟩, c8⟩ := hci cs (List.mem_of_getElem? hcs)
      walk_at "go"
      unfold irB_counts_b2
      walk_at "go"
      refine atB h c1 (by omega) (by omega) ?_
      refine atB h c1 (by omega) (by omega) ?_
      refine ⟨by omega, by omega, by omega, by omega, c6, ?_⟩
      have hsn2 : ((cntF (L.take i) []).take (j + 1)).flatMap (ext1 b) = ((cntF (L.take i) []).take j).flatMap (ext1 b) ++ ext1 b cs := by rw [List.take_add_one, hcs, Option.toList_some, List.flatMap_append, List.flatMap_singleton]
      have hlt2 : (((cntF (L.take i) []).take j).flatMap (ext1 b)).length + (ext1 b cs).length ≤ 1000 := by
        rw [← List.length_append, ← hsn2]
        refine Nat.le_trans ?_ hlt
        conv => rhs; rw [← List.take_append_drop (j + 1) (cntF (L.take i) []), List.flatMap_append, List.length_append]
        omega
      rw [ext1_len] at hlt2
      refine itL_inv (fun m σ S2 => ∃ (z6 : Option PV), S2 = upS S' q (.lst ((((cntF (L.take i) []).take j).flatMap (ext1 b) ++ (List.range m).map fun i => cs ++ [atF b.1 cs + (i : Nat)]).map iP)) ∧ σ = [some (.tup (L.map lP)), some (.ref p), some (fP b.1), some (fP b.2), some (.ref q), some (iP cs), z6])
        ⟨z6, by simp, rfl⟩ (fun _ _ _ _ => trivial) (fun m x σ S2 k'' hx hI hk'' => ?_) fun σ S2 hI => ?_
      · obtain ⟨z6, rfl, rfl⟩ := hI
        obtain ⟨hm, rfl⟩ := rngP_get hx
        walk_at "go"
        unfold irB_counts_b1
        walk_at "go"
        simp only [iP, dQ]
        refine ⟨by simp only [tyP, upS_same]; rfl, by show 1 ≤ sizeLine; omega, by simp only [List.length_map, List.length_singleton]; omega, ?_⟩
        refine app_ok upS_same (by simp only [List.length_map, List.length_append, List.length_range]; omega) ?_
        rw [upS_upS]
        refine hk'' _ _ ⟨_, ?_, rfl⟩
        rw [List.range_succ]
        simp [iP]
      · obtain ⟨z6, rfl, rfl⟩ := hI
        rw [rngP_len]
        refine hk' _ _ ⟨_, z6, ?_, rfl⟩
        rw [hsn2]
        rfl
    · obtain ⟨z5, z6, rfl, rfl⟩ := hI
      rw [List.length_map, List.take_length, ← hsn]
      unfold irB_counts_1
      walk_at "go"
      exact hk _ _ ⟨q, _, _, _, _, _, hq00, upS_same, hle.trans (Less.up hq0), rfl⟩
  · obtain ⟨p, z2, z3, z4, z5, z6, hp0, hp1, hle, rfl⟩ := hI
    rw [List.length_map, List.take_length] at hp1
    unfold irB_counts_3
    walk_at "go"
    exact hcl.less (hle.to hp0 hp1) (hq _ _ ⟨p, rfl, hp0, rfl⟩)
structure SpA where
  t : Int
  pl : List Frm
  cs : List Int
def pB_spot : Prm := { α := SpA, pre := fun z vs S => vs = [.int z.t, plP z.pl, iP z.cs] ∧ Small z.cs ∧ (∀ f ∈ z.pl, f.2.length = z.cs.length) ∧ z.cs.length ≤ 10, post := fun z S r S' => r = ceP (plcAt z.t z.pl z.cs) ∧ S' = S }
theorem kB_spot {G : GE} (h : G.fn 107 = pB_at.sp) : Keeps G irB_spot nB_spot pB_spot := fun z vs S Q E _ _ hp hq _ => by
  obtain ⟨t, pl, cs⟩ := z
  obtain ⟨rfl, hs, hl, h10⟩ := hp
  simp only at hs hl h10
  rw [show startS nB_spot [.int t, plP pl, iP cs] = [some (.int t), some (plP pl), some (iP cs), none] from rfl]
  unfold irB_spot
  walk_at "go"
  simp only [plP, dQ]
  intro p hp
  refine comp_typed fP (fun f : Frm => PV.int (atF f cs)) pl hp (fun _ => trivial) (fun i f acc k hx ha hk => ?_) ?_
  · walk_at "go"
    refine atB h hs (hl f (List.mem_of_getElem? hx)) h10 ?_
    exact ⟨upS_same, by rw [upS_upS]; exact hk⟩
  · refine ⟨upS_same, ?_⟩
    rw [show pl.map (fun f : Frm => PV.int (atF f cs)) = (pl.map fun f => atF f cs).map PV.int from by rw [List.map_map]; rfl]
    simp only [dQ, delS_upS hp]
    exact ⟨by show 2 ≤ sizeLine; decide, hq _ _ ⟨rfl, rfl⟩⟩
/-- a step as the laws keep it -/
def rdB (cs : List Int) (r : Rdd) : PV := .tup [.int r.fac, ceP (plcAt r.tab r.pl cs)]
def stB (x : FSt) : PV := .tup [ceP (plcAt x.d.tab x.d.pl x.cs), .int (atF x.d.st x.cs), .lst (x.d.rds.map (rdB x.cs))]
def pB_steps : Prm := { α := Pgm, pre := fun P vs S => vs = [pgP P] ∧ PgmOK P, post := fun P S r S' => resL true ((fsL P).map stB) S r S' }
theorem kB_steps {G : GE} (h7 : G.fn 107 = pB_at.sp) (h8 : G.fn 108 = pB_counts.sp) (h9 : G.fn 109 = pB_spot.sp) : Keeps G irB_steps nB_steps pB_steps := fun (P : Pgm) vs S Q E _ _ hp hq _ => by
  obtain ⟨rfl, hP⟩ := hp
  have hz : 100 ≤ sizeLine := by decide
  rw [show startS nB_steps [pgP P] = [some (.tup [iP P.wid, .tup (P.nst.map nsP)]), none, none, none, none, none, none, none, none, none, none, none, none] from rfl]
  unfold irB_steps
  walk_at "go"
  refine ⟨by show 0 ≤ sizeLine; omega, fun q hq0 => ?_⟩
  unfold irB_steps_3
  walk_at "go"
  refine itL_inv (fun j σ S' => S' = upS S q (.lst ((fsFrom 0 (P.nst.take j)).map stB)) ∧ ∃ z2 z3 z4 z5 z6 z7 z8 z9 z10 z11 z12, σ = [some (.tup [iP P.wid, .tup (P.nst.map nsP)]), some (.ref q), z2, z3, z4, z5, z6, z7, z8, z9, z10, z11, z12]) ⟨by simp [fsFrom], none, none, none, none, none, none, none, none, none, none, none, rfl⟩ (fun _ _ _ _ => trivial) (fun j x σ S' k hx h hk => ?_) fun σ S' h => ?_
  · obtain ⟨rfl, z2, z3, z4, z5, z6, z7, z8, z9, z10, z11, z12, rfl⟩ := h
    rw [List.getElem?_map] at hx
    obtain ⟨n, hn, rfl⟩ := Option.map_eq_some_iff.mp hx
    have hN := hP.nst n (List.mem_of_getElem? hn)
    have h60 := hP.cnt60 (List.mem_of_getElem? hn)
    simp only [nsP]
    walk_at "go"
    unfold irB_steps_b3
    walk_at "go"
    refine Prm.call h8 (fun _ _ _ _ => id) n.lps ⟨rfl, hN.lps, by omega⟩ fun r S1 h => ?_
    refine resL_frz h ?_
    simp only [dQ]
    have hfs := fsTo hn
    have hle := fsTo_le hP (j + 1)
    rw [hfs] at hle
    refine itL_inv (fun i σ S' => S' = upS S q (.lst ((fsFrom 0 (P.nst.take j) ++ ((cntF n.lps []).take i).flatMap fun cs => n.dds.mapIdx fun s d => (⟨j, cs, s, d⟩ : FSt)).map stB)) ∧ ∃ z4 z5 z6 z7 z8 z9 z10 z11 z12, σ = [some (.tup [iP P.wid, .tup (P.nst.map nsP)]), some (.ref q), some (lsP n.lps), some (.tup (n.dds.map ddP)), z4, z5, z6, z7, z8, z9, z10, z11, z12]) ⟨by simp, z4, z5, z6, z7, z8, z9, z10, z11, z12, rfl⟩ (fun _ _ _ _ => trivial) (fun i x σ S' k' hx h hk' => ?_) fun σ S' h => ?_
    · obtain ⟨rfl, z4, z5, z6, z7, z8, z9, z10, z11, z12, rfl⟩ := h
      rw [List.getElem?_map] at hx
      obtain ⟨cs, hcs, rfl⟩ := Option.map_eq_some_iff.mp hx
      have hcm := List.mem_of_getElem? hcs
      have hsm := cnt_small _ _ hN.lps.cnt cs hcm
      have hln := cnt_len _ hcm
      have hl3 := hN.lps.2.2
      walk_at "go"
      unfold irB_steps_b2
      walk_at "go"
      have hsucc : ((cntF n.lps []).take (i + 1)).flatMap (fun cs => n.dds.mapIdx fun s d => (⟨j, cs, s, d⟩ : FSt)) = ((cntF n.lps []).take i).flatMap (fun cs => n.dds.mapIdx fun s d => (⟨j, cs, s, d⟩ : FSt)) ++ n.dds.mapIdx fun s d => (⟨j, cs, s, d⟩ : FSt) := by
        rw [List.take_add_one, hcs, Option.toList_some, List.flatMap_append, List.flatMap_singleton]
      have hsz : (((cntF n.lps []).take i).flatMap (fun cs => n.dds.mapIdx fun s d => (⟨j, cs, s, d⟩ : FSt))).length + n.dds.length ≤ (fsN j n).length := by
        have : fsN j n = ((cntF n.lps []).take (i + 1)).flatMap (fun cs => n.dds.mapIdx fun s d => (⟨j, cs, s, d⟩ : FSt)) ++ ((cntF n.lps []).drop (i + 1)).flatMap (fun cs => n.dds.mapIdx fun s d => (⟨j, cs, s, d⟩ : FSt)) := by
          rw [← List.flatMap_append, List.take_append_drop]
          rfl
        rw [this, List.length_append, hsucc, List.length_append, List.length_mapIdx]
        omega
      rw [List.length_append] at hle
      obtain ⟨F, hF⟩ : ∃ F, F = fsFrom 0 (P.nst.take j) ++ ((cntF n.lps []).take i).flatMap (fun cs => n.dds.mapIdx fun s d => (⟨j, cs, s, d⟩ : FSt)) := ⟨_, rfl⟩
      have hFl : F.length + n.dds.length ≤ 60 := by rw [hF, List.length_append]; omega
      rw [← hF]
      refine itL_inv (fun m σ S' => S' = upS S q (.lst ((F ++ (n.dds.mapIdx fun s d => (⟨j, cs, s, d⟩ : FSt)).take m).map stB)) ∧ ∃ z5 z6 z7 z8 z9 z10 z11 z12, σ = [some (.tup [iP P.wid, .tup (P.nst.map nsP)]), some (.ref q), some (lsP n.lps), some (.tup (n.dds.map ddP)), some (iP cs), z5, z6, z7, z8, z9, z10, z11, z12]) ⟨by simp, z5, z6, z7, z8, z9, z10, z11, z12, rfl⟩ (fun _ _ _ _ => trivial) (fun m x σ S' k'' hx h hk'' => ?_) fun σ S' h => ?_
      · obtain ⟨rfl, z5, z6, z7, z8, z9, z10, z11, z12, rfl⟩ := h
        rw [List.getElem?_map] at hx
        obtain ⟨d, hd, rfl⟩ := Option.map_eq_some_iff.mp hx
        have hD := hN.dds d (List.mem_of_getElem? hd)
        have hml := (List.getElem?_eq_some_iff.mp hd).1
        simp only [ddP]
        walk_at "go"
        unfold irB_steps_b1
        walk_at "go"
        intro p hp
        have hpq : p ≠ q := fun e => by rw [e, upS_same] at hp; cases hp
        refine comp_typed rdP (rdB cs) d.rds hp (fun _ => trivial) (fun i r acc k hx ha hk => ?_) ?_
        · have hr := hD.rds r (List.mem_of_getElem? hx)
          simp only [rdP]
          walk_at "go"
          refine Prm.call h9 (fun _ _ _ _ => id) ⟨r.tab, r.pl, cs⟩ ⟨rfl, hsm, fun f hf => by rw [hln]; exact (hr.2.fs f hf).1, by show cs.length ≤ 10; omega⟩ fun r' S' h => ?_
          obtain ⟨rfl, rfl⟩ := h
          simp only [frzQ, ceP]
          exact ⟨by show 2 ≤ sizeLine; omega, upS_same, by rw [upS_upS]; exact hk⟩
        · refine ⟨upS_same, ?_⟩
          rw [delS_upS hp]
          unfold irB_steps_1
          walk_at "go"
          refine ⟨by simp only [tyP, upS_same]; rfl, ?_⟩
          refine Prm.call h9 (fun _ _ _ _ => id) ⟨d.tab, d.pl, cs⟩ ⟨rfl, hsm, fun f hf => by rw [hln]; exact (hD.set.fs f hf).1, by show cs.length ≤ 10; omega⟩ fun r' S' h => ?_
          obtain ⟨rfl, rfl⟩ := h
          simp only [frzQ, ceP]
          refine atB h7 hsm (by rw [hln]; exact hD.st.1) (by omega) ?_
          refine ⟨by show 3 ≤ sizeLine; omega, ?_⟩
          refine app_ok upS_same (by simp only [List.length_map, List.length_append, List.length_take, List.length_mapIdx]; omega) ?_
          rw [upS_upS]
          refine hk'' _ _ ⟨?_, _, _, _, _, _, _, _, _, rfl⟩
          rw [List.take_add_one (i := m), List.getElem?_mapIdx, hd]
          simp only [Option.map_some, Option.toList_some, List.map_append, List.map_cons, List.map_nil, List.append_assoc]
          rfl
      · obtain ⟨rfl, z5, z6, z7, z8, z9, z10, z11, z12, rfl⟩ := h
        refine hk' _ _ ⟨?_, _, z5, z6, z7, z8, z9, z10, z11, z12, rfl⟩
        rw [List.length_map, List.take_of_length_le (by rw [List.length_mapIdx]; exact Nat.le_refl _), hF, hsucc, List.append_assoc]
    · obtain ⟨rfl, z4, z5, z6, z7, z8, z9, z10, z11, z12, rfl⟩ := h
      rw [List.length_map, List.take_length]
      refine hk _ _ ⟨?_, _, _, z4, z5, z6, z7, z8, z9, z10, z11, z12, rfl⟩
      rw [hfs]
      rfl
  · obtain ⟨rfl, z2, z3, z4, z5, z6, z7, z8, z9, z10, z11, z12, rfl⟩ := h
    rw [List.length_map, List.take_length]
    unfold irB_steps_2
    walk_at "go"
    exact hq _ _ ⟨q, rfl, hq0, rfl⟩
/-- one of two steps sets a cell that the other one sets or reads -/
def tchR (a b : CRow) : Bool := (decide (a.1 = b.1) || decide (a.1 ∈ b.2)) || decide (b.1 ∈ a.2)
structure TwA where
  x : FSt
  y : FSt
def pB_touch : Prm := { α := TwA, pre := fun z vs S => vs = [stB z.x, stB z.y], post := fun z S r S' => r = .bl (tchR z.x.row z.y.row) ∧ S' = S }
theorem kB_touch {G : GE} : Keeps G irB_touch nB_touch pB_touch := fun z vs S Q E _ _ hp hq _ => by
  obtain ⟨x, y⟩ := z
  have e := hp
  simp only [pB_touch] at e
  subst e
  have out : ∀ k, k = tchR x.row y.row → Q (.bl k) S := fun k h => hq _ _ ⟨by rw [h], rfl⟩
  clear hq
  rw [show startS nB_touch [stB x, stB y] = [some (.tup [ceP x.row.1, .int (atF x.d.st x.cs), .lst (x.d.rds.map (rdB x.cs))]), some (.tup [ceP y.row.1, .int (atF y.d.st y.cs), .lst (y.d.rds.map (rdB y.cs))]), none, none] from rfl]
  unfold irB_touch
  walk_at "go"
  have hr : ∀ z : FSt, z.row.2.map ceP = z.d.rds.map fun r => ceP (plcAt r.tab r.pl z.cs) := fun z => by
    show ((z.d.rds.map fun r => plcAt r.tab r.pl z.cs)).map ceP = _
    rw [List.map_map]
    rfl
  refine eq_ce ?_
  have parts : ∀ (z : FSt) (c : Cell) (S : Sto) (ok : Sto → Prop) (step : PV → List PV → Sto → (List PV → Sto → Prop) → Prop) (dn : List PV → Sto → Prop) (p : Addr), S p = none → (∀ S', ok S') → (∀ (a b : PV) acc k, S p = none → k (acc ++ [b]) (upS S p (.lst (acc ++ [b]))) → step (.tup [a, b]) acc (upS S p (.lst acc)) k) → dn (z.row.2.map ceP) (upS S p (.lst (z.row.2.map ceP))) → itL ok step dn (z.d.rds.map (rdB z.cs)) [] (upS S p (.lst [])) := fun z c S ok step dn p hp hok hs hd => by
    refine comp_typed (rdB z.cs) (fun r : Rdd => ceP (plcAt r.tab r.pl z.cs)) z.d.rds hp (fun _ => hok _) (fun i r acc k hx ha hk => hs _ _ _ _ hp hk) ?_
    rw [← hr]
    exact hd
  have last : tchR x.row y.row = decide (y.row.1 ∈ x.row.2) → wpSs G irB_touch_1 { nx := fun _ S => Q .non S, rt := Q } (fun x _ S => E x S) [some (.tup [ceP x.row.1, .int (atF x.d.st x.cs), .lst (x.d.rds.map (rdB x.cs))]), some (.tup [ceP y.row.1, .int (atF y.d.st y.cs), .lst (y.d.rds.map (rdB y.cs))]), none, none] S := fun he => by
    unfold irB_touch_1
    walk_at "go"
    intro p hp
    refine parts x y.row.1 S _ _ _ p hp (fun _ => trivial) (fun a b acc k hp hk => ?_) ?_
    · walk_at "go"
      exact ⟨upS_same, by rw [upS_upS]; exact hk⟩
    · refine ⟨upS_same, ?_⟩
      rw [delS_upS hp]
      exact in_ce rfl (out _ he.symm)
  by_cases c : x.row.1 = y.row.1
  · simp only [c, decide_true]
    exact out _ (by unfold tchR; rw [c]; simp)
  · simp only [c, decide_false]
    intro p hp
    refine parts y x.row.1 S _ _ _ p hp (fun _ => trivial) (fun a b acc k hp hk => ?_) ?_
    · walk_at "go"
      exact ⟨upS_same, by rw [upS_upS]; exact hk⟩
    · refine ⟨upS_same, ?_⟩
      rw [delS_upS hp]
      refine in_ce rfl ?_
      by_cases c2 : x.row.1 ∈ y.row.2
      · simp only [c2, decide_true]
        exact out _ (by unfold tchR; simp [c2])
      · simp only [c2, decide_false]
        exact last (by unfold tchR; simp [c, c2])
end DL
end
section
set_option maxRecDepth 100000
set_option maxHeartbeats 2000000
/-! What the laws (B) share. -/
namespace DL
open PySem PySem.Spec L2
open PyProof.Rows hiding St wpS
/-- a program that was drawn is told -/
theorem pgmB {G : GE} (h : G.fn 16 = pP_program_of.sp) {P : Pgm} (hP : PgmOK P) {S : Sto} {Q : Post} {E : XPost} (k : Q (pgP P) S) : G.fn 16 [iP P.wid, nssP P.nst] S Q E :=
  Prm.callX h (iP P.wid, nssP P.nst) ⟨rfl, puv_iP _, puv_nssP _⟩ (fun r S' h => by
    obtain ⟨P', e, _, rfl, rfl⟩ := h
    simp only [Prod.mk.injEq] at e
    have e1 := iP_inj e.1
    have e2 := nssP_inj e.2
    obtain ⟨w, n⟩ := P
    obtain ⟨w', n'⟩ := P'
    simp only at e1 e2
    subst e1 e2
    exact k) fun e S' h => by
    rcases h with ⟨_, ⟨_, h⟩ | ⟨_, P', e, _, h⟩⟩
    · rw [pgm_of hP.toPgmOK0] at h
      cases h
    · simp only [Prod.mk.injEq] at e
      have e2 := nssP_inj e.2
      have := hP.tot
      rw [e2] at this
      omega
theorem srtF_nil {α : Type} {f : α → PV} {l : List α} : srtF f l = [] ↔ l = [] := by
  constructor
  · intro h
    have := (srtF_perm (f := f) l).symm
    rw [h] at this
    exact List.perm_nil.mp this
  · rintro rfl
    exact List.perm_nil.mp (srtF_perm [])
theorem aput_ne {α β : Type} [DecidableEq α] (l : List (α × β)) (a : α) (b : β) : aput l a b ≠ [] := by
  cases l with
  | nil => simp [aput]
  | cons x l => simp only [aput]; split <;> simp
/-- two steps share a cell -/
theorem shd_nil (a b : CRow) : decide (shdL a b ≠ []) = tchR a b := by
  rw [Bool.eq_iff_iff, decide_eq_true_iff]
  unfold shdL tchR
  rw [ne_eq, srtF_nil, List.map_eq_nil_iff]
  unfold shd1
  by_cases c1 : a.1 = b.1
  · simp only [c1, true_or, if_true, decide_true, Bool.true_or, iff_true]
    exact aput_ne _ _ _
  · by_cases c2 : a.1 ∈ b.2
    · simp only [c1, c2, or_true, if_true, decide_true, Bool.or_true, Bool.true_or, iff_true]
      split
      · exact aput_ne _ _ _
      · exact aput_ne _ _ _
    · have c1' : ¬ b.1 = a.1 := fun e => c1 e.symm
      simp only [c1, c1', c2, false_or, if_false, decide_false, Bool.false_or, decide_eq_true_iff]
      by_cases c3 : b.1 ∈ a.2
      · simp only [c3, if_true, iff_true]
        exact aput_ne _ _ _
      · simp only [c3, if_false, iff_false, not_true, not_false_eq_true]
theorem rowI_fs {P : Pgm} {i : Nat} (hi : i < (fsL P).length) : rowI (rowsL P) i = ((fsL P)[i]).row := by
  unfold rowI rowsL
  rw [List.getD_eq_getElem?_getD, List.getElem?_map, List.getElem?_eq_getElem hi]
  rfl
theorem rows_len {P : Pgm} : (rowsL P).length = (fsL P).length := by unfold rowsL; rw [List.length_map]
/-- touches tells what the laws' own steps tell -/
theorem tch_eq {P : Pgm} {i j : Nat} (hi : i < (fsL P).length) (hj : j < (fsL P).length) : tchB (rowsL P) i j = (decide (i ≠ j) && tchR ((fsL P)[i]).row ((fsL P)[j]).row) := by
  unfold tchB
  rw [shd_nil, rowI_fs hi, rowI_fs hj]
theorem stB_at {P : Pgm} {i : Nat} (h : i < (fsL P).length) : L2.atI ((fsL P).map stB) ((i : Nat) : Int) = some (stB ((fsL P)[i])) := atI_nat (by
  rw [List.getElem?_map, List.getElem?_eq_getElem h]
  rfl)
theorem tchR_comm (a b : CRow) : tchR a b = tchR b a := by
  unfold tchR
  rw [Bool.eq_iff_iff]
  simp only [Bool.or_eq_true, decide_eq_true_iff]
  constructor
  · rintro ((h | h) | h)
    · exact .inl (.inl h.symm)
    · exact .inr h
    · exact .inl (.inr h)
  · rintro ((h | h) | h)
    · exact .inl (.inl h.symm)
    · exact .inr h
    · exact .inl (.inr h)
theorem tchB30 {G : GE} (h : G.fn 30 = pP_touches.sp) {P : Pgm} (hP : PgmOK P) {i j : Nat} (hi : i < (fsL P).length) (hj : j < (fsL P).length) {S : Sto} {Q : Post} {E : XPost} (k : Q (.bl (decide (i ≠ j) && tchR ((fsL P)[i]).row ((fsL P)[j]).row)) S) : G.fn 30 [.tup [iP P.wid, nssP P.nst], .int i, .int j] S (frzQ false Q) E :=
  Prm.call h (fun _ _ _ _ => id) ⟨P, i, j⟩ ⟨rfl, hP, rows_len.symm ▸ hi, rows_len.symm ▸ hj⟩ fun r S' h => by
    obtain ⟨rfl, rfl⟩ := h
    simp only [tch_eq hi hj]
    exact k
end DL
end
section
set_option maxRecDepth 100000
set_option maxHeartbeats 2000000
/-! Lists of things that are changed later: by their addresses; compared by what they name. -/
namespace DL
open PySem PySem.Spec L2
open PyProof.Rows hiding St wpS
/-- compared by what is named -/
theorem eq_deep {x y x' y' : PV} {S : Sto} {Q : Bool → Prop} (ex : deep 20 S x = x') (ey : deep 20 S y = y') (hx : dat x' = true) (hy : dat y' = true) (dx : dpt x' ≤ 64) (dy : dpt y' ≤ 64) (q : ∀ b, (b = true ↔ x' = y') → Q b) : eqD x y S Q := by
  unfold eqD
  split
  · simp only [deep] at ex ey
    subst ex ey
    exact q _ (by simp)
  · simp only [deep] at ex
    subst ex
    simp [dat] at hx
  · refine .inl ?_
    unfold eqDat
    rw [ex, ey]
    obtain ⟨d, a1, a2, a3⟩ := dat_pvD x' hx
    obtain ⟨e, b1, b2, b3⟩ := dat_pvD y' hy
    simp only [a1, b1]
    exact ⟨shp a2 a3 dx, shp b2 b3 dy, q _ (dat_eqv x' y' d e hx hy a1 b1)⟩
/-- lists at addresses of their own -/
structure LsAt (S : Sto) (as : List Addr) (L : List (List PV)) : Prop where
  len : as.length = L.length
  nd : as.Nodup
  at_ : ∀ (k : Nat) a l, as[k]? = some a → L[k]? = some l → S a = some (.lst l)
theorem LsAt.nil {S : Sto} : LsAt S [] [] := ⟨rfl, List.nodup_nil, fun k a l h => by simp at h⟩
theorem LsAt.some {S : Sto} {as : List Addr} {L : List (List PV)} (h : LsAt S as L) {a : Addr} (ha : a ∈ as) : ∃ l, S a = some (.lst l) := by
  obtain ⟨k, hk⟩ := List.getElem?_of_mem ha
  have hl : k < L.length := by rw [← h.len]; exact (List.getElem?_eq_some_iff.mp hk).1
  exact ⟨_, h.at_ k a _ hk (List.getElem?_eq_getElem hl)⟩
theorem LsAt.up {S : Sto} {as : List Addr} {L : List (List PV)} (h : LsAt S as L) {b : Addr} {o : MO} (hb : b ∉ as) : LsAt (upS S b o) as L := ⟨h.len, h.nd, fun k a l h1 h2 => by
  have hab : a ≠ b := fun e => hb (by rw [← e]; exact List.mem_of_getElem? h1)
  rw [upS_ne hab]
  exact h.at_ k a l h1 h2⟩
theorem LsAt.snoc {S : Sto} {as : List Addr} {L : List (List PV)} (h : LsAt S as L) {b : Addr} {l : List PV} (hb : S b = none) : LsAt (upS S b (.lst l)) (as ++ [b]) (L ++ [l]) := by
  have hn : b ∉ as := fun hm => by
    obtain ⟨l, e⟩ := h.some hm
    rw [hb] at e
    cases e
  refine ⟨by simp [h.len], List.nodup_append.mpr ⟨h.nd, by simp, fun x hx y hy e => ?_⟩, fun k a x h1 h2 => ?_⟩
  · rw [List.mem_singleton.mp hy] at e
    exact hn (e ▸ hx)
  · by_cases hk : k < as.length
    · rw [List.getElem?_append_left hk] at h1
      rw [List.getElem?_append_left (by rw [← h.len]; exact hk)] at h2
      have hab : a ≠ b := fun e => hn (by rw [← e]; exact List.mem_of_getElem? h1)
      rw [upS_ne hab]
      exact h.at_ k a x h1 h2
    · have hk1 : k = as.length := by
        have := (List.getElem?_eq_some_iff.mp h1).1
        rw [List.length_append, List.length_singleton] at this
        omega
      subst hk1
      rw [List.getElem?_append_right (Nat.le_refl _), Nat.sub_self] at h1
      rw [List.getElem?_append_right (by rw [h.len]; exact Nat.le_refl _), h.len, Nat.sub_self] at h2
      simp only [List.getElem?_cons_zero, Option.some.injEq] at h1 h2
      rw [← h1, ← h2]
      exact upS_same
theorem LsAt.ext {S S' : Sto} {as : List Addr} {L : List (List PV)} (h : LsAt S as L) (l : Less S S') : LsAt S' as L := ⟨h.len, h.nd, fun k a x h1 h2 => by
  have e := h.at_ k a x h1 h2
  rcases l a with q | q
  · rw [← q]; exact e
  · rw [e] at q; cases q⟩
theorem LsAt.set {S : Sto} {as : List Addr} {L : List (List PV)} (h : LsAt S as L) {m : Nat} {b : Addr} {l : List PV} (hb : as[m]? = Option.some b) : LsAt (upS S b (.lst l)) as (L.set m l) := ⟨by rw [List.length_set]; exact h.len, h.nd, fun k a l' h3 h4 => by
  by_cases e : k = m
  · subst e
    rw [hb] at h3
    cases h3
    rw [upS_same]
    rw [List.getElem?_set] at h4
    simp only [if_true] at h4
    split at h4
    · simp at h4; rw [← h4]
    · cases h4
  · rw [List.getElem?_set] at h4
    rw [if_neg (fun h => e h.symm)] at h4
    have hne : a ≠ b := fun q => by
      subst q
      exact e ((List.getElem_inj h.nd).mp (by rw [(List.getElem?_eq_some_iff.mp h3).2, (List.getElem?_eq_some_iff.mp hb).2]))
    rw [upS_ne hne]
    exact h.at_ k a l' h3 h4⟩
theorem PgmOK.rds3 {P : Pgm} (h : PgmOK P) {i : Nat} (hi : i < (fsL P).length) : (rowI (rowsL P) i).2.length ≤ 3 := by
  rw [rowI_fs hi]
  obtain ⟨n, h1, _, h3⟩ := fs_mem (List.getElem_mem hi)
  have := ((h.nst n (List.mem_of_getElem? h1)).dds _ (List.mem_of_getElem? h3)).len
  show (((fsL P)[i]).d.rds.map _).length ≤ 3
  rw [List.length_map]
  exact this
/-- items with what they name -/
theorem zip_deep {α : Type} {S : Sto} {n : Nat} {f : Addr → α → PV} {g : α → PV} {c : α → List PV} (hf : ∀ a x, S a = some (.lst (c x)) → deep n S (f a x) = g x) : ∀ {as : List Addr} {L : List α}, LsAt S as (L.map c) → (List.zipWith f as L).map (deep n S) = L.map g
  | [], [], _ => rfl
  | [], x :: L, h => by have := h.len; simp at this
  | a :: as, [], h => by have := h.len; simp at this
  | a :: as, x :: L, h => by
    have ih := zip_deep (n := n) (f := f) (g := g) (c := c) hf (as := as) (L := L) ⟨by have := h.len; simpa using this, (List.nodup_cons.mp h.nd).2, fun k a x h1 h2 => h.at_ (k + 1) a x (by simpa using h1) (by simpa using h2)⟩
    rw [List.zipWith_cons_cons, List.map_cons, List.map_cons, ih, hf a x (h.at_ 0 a (c x) rfl rfl)]
theorem zip_snoc {α β γ : Type} {f : α → β → γ} {as : List α} {L : List β} (h : as.length = L.length) (a : α) (x : β) : List.zipWith f (as ++ [a]) (L ++ [x]) = List.zipWith f as L ++ [f a x] := by
  rw [List.zipWith_append h]
  rfl
theorem zip_at {α β γ : Type} {f : α → β → γ} {as : List α} {L : List β} {k : Nat} {y : γ} (h : (List.zipWith f as L)[k]? = some y) : ∃ a x, as[k]? = some a ∧ L[k]? = some x ∧ y = f a x := by
  rw [List.getElem?_zipWith] at h
  split at h
  · rename_i a x h1 h2
    exact ⟨a, x, h1, h2, by simpa using h.symm⟩
  · cases h
end DL
end
section
set_option maxRecDepth 100000
set_option maxHeartbeats 1000000
/-! Orders of steps: plain, ask_row, ask_order, places_in, broken. -/
namespace DL
open PySem PySem.Spec L2
open PyProof.Rows hiding St wpS
local macro_rules | `(tactic| walk_at "go") => `(tactic| try simp only [wpSs, wpS, wpE, wpEs, wpT, wpC, wpO, wpL, wpI, wpH, List.getElem?_cons_zero, List.getElem?_cons_succ, List.set_cons_zero, List.set_cons_succ, biD, dQ, dL, cmpD, truD, idxD, binD, tgD, tgDs, frzQ, newL, List.any_cons, List.any_nil, Bool.or_false, wipeS, at0, at1, at2, at3, at4, at5])
local macro_rules | `(tactic| walk_at "wp") => `(tactic| try simp only [wpSs, wpS, wpE, wpEs, wpT, wpC, wpO, wpL, wpI, wpH, List.getElem?_cons_zero, List.getElem?_cons_succ, List.set_cons_zero, List.set_cons_succ, dQ, dL, cmpD, truD, idxD, binD, tgD, tgDs, frzQ, newL, List.any_cons, List.any_nil, Bool.or_false, wipeS, at0, at1, at2, at3, at4, at5])
/-- a row of steps -/
def owP (l : List Nat) : List PV := l.map fun t : Nat => PV.int t
theorem owP_ints (l : List Nat) : owP l = (l.map fun t : Nat => (t : Int)).map PV.int := by unfold owP; rw [List.map_map]; rfl
theorem owP_len (l : List Nat) : (owP l).length = l.length := by unfold owP; rw [List.length_map]
theorem owP_rng (n : Nat) : rngP 0 n = owP (List.range n) := by
  unfold rngP owP
  refine List.map_congr_left fun k _ => ?_
  rw [Int.zero_add]
theorem owP_at {l : List Nat} {i : Nat} (h : i < l.length) : L2.atI (owP l) ((i : Nat) : Int) = some (.int (l[i] : Nat)) := atI_nat (by
  unfold owP
  rw [List.getElem?_map, List.getElem?_eq_getElem h]
  rfl)
theorem tyP_dL {S : Sto} {v : PV} {xs : List PV} (h : dL S v = some xs) : tyP S v = some "list" := by
  unfold dL at h
  split at h
  · rfl
  · rename_i a
    split at h
    · rename_i ys e
      simp only [tyP, e]
    · cases h
  · cases h
theorem steps_len {P : Pgm} : (stepsL P).length = (fsL P).length := by unfold stepsL; rw [List.length_map]
def pP_plain : Prm := { α := Pgm, pre := fun P vs S => vs = [pgP P] ∧ PgmOK P, post := fun P S r S' => resL true (owP (List.range (fsL P).length)) S r S' }
theorem kP_plain {G : GE} (h17 : G.fn 17 = pP_steps_of.sp) : Keeps G irP_plain nP_plain pP_plain := fun (P : Pgm) vs S Q E _ _ hp hq _ => by
  obtain ⟨rfl, hP⟩ := hp
  rw [show startS nP_plain [pgP P] = [some (pgP P)] from rfl]
  unfold irP_plain
  walk_at "go"
  refine Prm.call h17 (fun _ _ _ _ => id) P ⟨rfl, hP⟩ fun r S1 h => ?_
  refine resL_frz h ?_
  have hl : ((stepsL P).map stP).length = (fsL P).length := by rw [List.length_map, steps_len]
  have := hP.len
  simp only [dQ, lrngD, hl]
  refine ⟨by omega, by omega, fun p hp => ?_⟩
  rw [Int.toNat_natCast, owP_rng]
  exact hq _ _ ⟨p, rfl, hp, rfl⟩
structure RowA where
  n : Nat
  v : PV
  row : List Nat
def RowOK (n : Nat) (row : List Nat) : Prop := row.length < 64 ∧ row.Nodup ∧ ∀ t ∈ row, t < n
def pP_ask_row : Prm := { α := RowA, pre := fun z vs S => vs = [.int z.n, z.v] ∧ dL S z.v = some (owP z.row) ∧ RowOK z.n z.row, post := fun z S r S' => r = .non ∧ S' = S }
theorem nodup_int {l : List Nat} (h : l.Nodup) : (l.map fun t : Nat => (t : Int)).Nodup := by
  unfold List.Nodup at *
  rw [List.pairwise_map]
  exact h.imp fun h e => h (by omega)
theorem dL_dQ {S : Sto} {v : PV} {xs : List PV} (h : dL S v = some xs) : dQ S v = some xs := by
  unfold dL at h
  split at h <;> first | (unfold dQ; exact h) | cases h
theorem dL_up {S : Sto} {v : PV} {xs : List PV} {p : Addr} {o : MO} (h : dL S v = some xs) (hp : S p = none) : dL (upS S p o) v = some xs := by
  unfold dL at h ⊢
  split at h
  · exact h
  · rename_i a
    have : a ≠ p := fun e => by rw [e, hp] at h; cases h
    simp only [upS_ne this]
    exact h
  · cases h
theorem okL_of {S : Sto} {v : PV} {xs : List PV} (h : dL S v = some xs) : okL v xs S := by
  unfold okL
  unfold dL at h
  split at h
  · trivial
  · split at h
    · rename_i e
      cases h
      exact e
    · cases h
  · cases h
theorem len_dL {m : Bool} {S : Sto} {v : PV} {xs : List PV} {Q : Post} (h : dL S v = some xs) (q : Q (.int xs.length) S) : biD .len m [v] S Q := by
  unfold dL at h
  split at h
  · cases h
    simp only [biD, dQ]
    exact q
  · simp only [biD, dQ, h]
    exact q
  · cases h
theorem kP_ask_row {G : GE} (h0 : G.fn 0 = pP_is_whole.sp) : Keeps G irP_ask_row nP_ask_row pP_ask_row := fun z vs S Q E _ _ hp hq _ => by
  obtain ⟨n, v, row⟩ := z
  obtain ⟨rfl, hv, h64, hnd, hlt⟩ := hp
  simp only at hv h64 hnd hlt
  have out : Q .non S := hq _ _ ⟨rfl, rfl⟩
  clear hq
  rw [show startS nP_ask_row [.int n, v] = [some (.int n), some v, none] from rfl]
  unfold irP_ask_row
  walk_at "go"
  simp only [tyP_dL hv, show isT "list" "list" = true from rfl, Bool.not_true]
  have hq := dL_dQ hv
  unfold dQ at hq
  simp only [hq]
  intro p hp
  refine comp_typed (fun t : Nat => PV.int t) (fun _ => PV.bl true) row hp (fun acc => okL_of (dL_up hv hp)) (fun i t acc k hx ha hk => ?_) ?_
  · have ht := hlt t (List.mem_of_getElem? hx)
    walk_at "go"
    refine Prm.call h0 (fun _ _ _ _ => id) (.int t) ⟨rfl, rfl⟩ fun r S1 h => ?_
    obtain ⟨rfl, rfl⟩ := h
    simp only [isI, frzQ]
    have h1 : (0 : Int) ≤ (t : Int) := by omega
    have h2 : (t : Int) < (n : Int) := by omega
    simp only [truD, h1, h2, decide_true]
    exact ⟨upS_same, by rw [upS_upS]; exact hk⟩
  · refine ⟨upS_same, ?_⟩
    have hall : ∀ l : List Nat, ∃ bs, blsP (l.map fun _ => PV.bl true) = some bs ∧ bs.all id = true := fun l => by
      induction l with
      | nil => exact ⟨[], rfl, rfl⟩
      | cons o l ih =>
        obtain ⟨bs, e1, e2⟩ := ih
        exact ⟨true :: bs, by rw [List.map_cons, blsP, e1], by simpa using e2⟩
    obtain ⟨bs, e1, e2⟩ := hall row
    simp only [e1, e2, Bool.not_true, delS_upS hp]
    unfold irP_ask_row_1
    walk_at "wp"
    simp only [lsetD, hv, owP_ints, intsP_map, List.length_map]
    refine ⟨h64, nodup_int hnd, ?_⟩
    refine len_dL hv ?_
    simp only [owP_len, Int.lt_irrefl, decide_false]
    exact out
def pP_ask_order : Prm := { α := RowA, pre := fun z vs S => vs = [.int z.n, z.v] ∧ dL S z.v = some (owP z.row) ∧ RowOK z.n z.row ∧ z.row.length = z.n, post := fun z S r S' => r = .non ∧ S' = S }
theorem kP_ask_order {G : GE} (h22 : G.fn 22 = pP_ask_row.sp) : Keeps G irP_ask_order nP_ask_order pP_ask_order := fun z vs S Q E _ _ hp hq _ => by
  obtain ⟨n, v, row⟩ := z
  obtain ⟨rfl, hv, hok, hln⟩ := hp
  simp only at hv hok hln
  have out : Q .non S := hq _ _ ⟨rfl, rfl⟩
  clear hq
  rw [show startS nP_ask_order [.int n, v] = [some (.int n), some v] from rfl]
  unfold irP_ask_order
  walk_at "go"
  refine Prm.call h22 (fun _ _ _ _ => id) ⟨n, v, row⟩ ⟨rfl, hv, hok⟩ fun r S1 h => ?_
  obtain ⟨rfl, rfl⟩ := h
  simp only [frzQ]
  unfold irP_ask_order_1
  walk_at "wp"
  refine len_dL hv ?_
  simp only [owP_len, hln, Int.lt_irrefl, decide_false]
  exact out
/-- a full order -/
structure OrdOK (n : Nat) (row : List Nat) : Prop where
  len : row.length = n
  n60 : n ≤ 60
  nd : row.Nodup
  lt : ∀ t ∈ row, t < n
theorem OrdOK.row {n : Nat} {row : List Nat} (h : OrdOK n row) : RowOK n row := ⟨by rw [h.len]; have := h.n60; omega, h.nd, h.lt⟩
def plcL (n : Nat) (row : List Nat) : List Nat := (List.range n).map fun i => row.idxOf i
structure OrA where
  n : Nat
  v : PV
  row : List Nat
def pP_places_in : Prm := { α := OrA, pre := fun z vs S => vs = [z.v] ∧ dL S z.v = some (owP z.row) ∧ OrdOK z.n z.row, post := fun z S r S' => resL true (owP (plcL z.n z.row)) S r S' }
def plcK (n k : Nat) (row : List Nat) : List Nat := (List.range n).map fun i => if row.idxOf i < k then row.idxOf i else 0
theorem plcK_set {n k : Nat} {row : List Nat} (h : OrdOK n row) (hk : k < row.length) : (plcK n k row).set row[k] k = plcK n (k + 1) row := by
  refine List.ext_getElem? fun i => ?_
  unfold plcK
  rw [List.getElem?_set, List.length_map, List.length_range, List.getElem?_map, List.getElem?_map]
  have ht := h.lt _ (List.getElem_mem hk)
  by_cases e : row[k] = i
  · subst e
    rw [if_pos rfl, if_pos ht, List.getElem?_range ht, Option.map_some, h.nd.idxOf_getElem k hk, if_pos (Nat.lt_succ_self k)]
  · rw [if_neg e]
    by_cases hi : i < n
    · rw [List.getElem?_range hi, Option.map_some, Option.map_some]
      have : row.idxOf i ≠ k := fun q => e (by
        subst q
        exact List.getElem_idxOf hk)
      congr 1
      by_cases c : row.idxOf i < k
      · rw [if_pos c, if_pos (by omega)]
      · rw [if_neg c, if_neg (by omega)]
    · rw [List.getElem?_eq_none (by simp; omega)]
      rfl
theorem mem_ord {n : Nat} {row : List Nat} (h : OrdOK n row) {i : Nat} (hi : i < n) : i ∈ row := by
  by_cases c : i ∈ row
  · exact c
  · exfalso
    have h1 : (i :: row).Nodup := List.nodup_cons.mpr ⟨c, h.nd⟩
    have h2 : (i :: row).length ≤ (List.range n).length := List.Nodup.length_le_of_subset h1 fun x hx => by
      rcases List.mem_cons.mp hx with e | hx
      · rw [e]; exact List.mem_range.mpr hi
      · exact List.mem_range.mpr (h.lt x hx)
    rw [List.length_cons, h.len, List.length_range] at h2
    omega
theorem plcK_all {n : Nat} {row : List Nat} (h : OrdOK n row) : plcK n row.length row = plcL n row := by
  unfold plcK plcL
  refine List.map_congr_left fun i hi => ?_
  rw [if_pos (List.idxOf_lt_length_iff.mpr (mem_ord h (List.mem_range.mp hi)))]
theorem kP_places_in {G : GE} : Keeps G irP_places_in nP_places_in pP_places_in := fun z vs S Q E _ _ hp hq _ => by
  obtain ⟨n, v, row⟩ := z
  obtain ⟨rfl, hv, hok⟩ := hp
  simp only at hv hok
  have out : ∀ p, S p = none → Q (.ref p) (upS S p (.lst (owP (plcL n row)))) := fun p hp => hq _ _ ⟨p, rfl, hp, rfl⟩
  clear hq
  rw [show startS nP_places_in [v] = [some v, none, none, none] from rfl]
  have hq := dL_dQ hv
  unfold dQ at hq
  unfold irP_places_in
  walk_at "go"
  simp only [hq]
  intro p hp
  refine comp_typed (fun t : Nat => PV.int t) (fun _ => PV.int 0) row hp (fun acc => okL_of (dL_up hv hp)) (fun i t acc k hx ha hk => ?_) ?_
  · walk_at "go"
    exact ⟨upS_same, by rw [upS_upS]; exact hk⟩
  · refine ⟨upS_same, ?_⟩
    have e0 : (row.map fun _ => PV.int 0) = owP (plcK n 0 row) := by
      refine List.ext_getElem? fun i => ?_
      unfold owP plcK
      rw [List.getElem?_map, List.getElem?_map, List.getElem?_map]
      by_cases hi : i < n
      · rw [List.getElem?_range hi, List.getElem?_eq_getElem (by rw [hok.len]; exact hi)]
        rfl
      · rw [List.getElem?_eq_none (by rw [hok.len]; omega), List.getElem?_eq_none (by simp; omega)]
        rfl
    rw [e0]
    unfold irP_places_in_2
    have hq2 := dL_dQ (dL_up (o := .lst (owP (plcK n 0 row))) hv hp)
    unfold dQ at hq2
    walk_at "go"
    simp only [hq2]
    refine itL_inv (fun k σ S' => S' = upS S p (.lst (owP (plcK n k row))) ∧ ∃ z2 z3, σ = [some v, some (.ref p), z2, z3]) ⟨rfl, _, _, rfl⟩ (fun k σ S' h => ?_) (fun k x σ S' kk hx h hk => ?_) fun σ S' h => ?_
    · obtain ⟨rfl, _⟩ := h
      exact okL_of (dL_up hv hp)
    · obtain ⟨rfl, z2, z3, rfl⟩ := h
      obtain ⟨y, _, hy, rfl⟩ := enumP_mem hx
      unfold owP at hy
      rw [List.getElem?_map] at hy
      obtain ⟨t, ht, rfl⟩ := Option.map_eq_some_iff.mp hy
      obtain ⟨hkl, hte⟩ := List.getElem?_eq_some_iff.mp ht
      have htn := hok.lt t (List.mem_of_getElem? ht)
      walk_at "go"
      unfold irP_places_in_b1
      walk_at "go"
      have hpl : (owP (plcK n k row)).length = n := by rw [owP_len]; simp [plcK]
      have hix : L2.ixN (owP (plcK n k row)).length (t : Int) = some t := by
        rw [hpl]
        unfold L2.ixN
        rw [if_pos (by omega), if_pos (by omega)]
        simp
      simp only [setID, upS_same, hix, upS_upS]
      refine hk _ _ ⟨?_, _, _, rfl⟩
      have := plcK_set hok hkl
      rw [hte] at this
      rw [← this]
      unfold owP
      rw [List.map_set]
    · obtain ⟨rfl, z2, z3, rfl⟩ := h
      rw [enumP_len, owP_len, plcK_all hok]
      unfold irP_places_in_1
      walk_at "go"
      exact out p hp
def brkF (R : List CRow) (row : List Nat) : Option (Nat × Nat) := ((prsL R).find? fun x => decide (row.idxOf x.2.1 < row.idxOf x.1)).map fun x => (x.1, x.2.1)
def brkP : Option (Nat × Nat) → PV
  | none => .non
  | some x => .tup [.int (x.1 : Nat), .int (x.2 : Nat)]
theorem prsI_mem {R : List CRow} {i j : Nat} {x : Pr3} (h : x ∈ prsI R i j) : x.1 = i ∧ x.2.1 = j := by
  unfold prsI at h
  split at h
  · cases h
  · rw [List.mem_singleton.mp h]
    exact ⟨rfl, rfl⟩
theorem prs_mem {R : List CRow} {x : Pr3} (h : x ∈ prsL R) : x.1 < R.length ∧ x.2.1 < R.length := by
  unfold prsL at h
  obtain ⟨i, hi, h⟩ := List.mem_flatMap.mp h
  obtain ⟨k, hk, h⟩ := List.mem_flatMap.mp h
  have h1 := List.mem_range.mp hi
  have h2 := List.mem_range.mp hk
  obtain ⟨e1, e2⟩ := prsI_mem h
  omega
theorem plcL_at {n : Nat} {row : List Nat} {i : Nat} (h : i < n) : L2.atI (owP (plcL n row)) ((i : Nat) : Int) = some (.int (row.idxOf i : Nat)) := by
  have hl : i < (plcL n row).length := by simp [plcL]; exact h
  rw [owP_at hl]
  simp [plcL]
structure BrA where
  P : Pgm
  v : PV
  row : List Nat
def pP_broken : Prm := { α := BrA, pre := fun z vs S => vs = [pgP z.P, z.v] ∧ PgmOK z.P ∧ dL S z.v = some (owP z.row) ∧ OrdOK (fsL z.P).length z.row, post := fun z S r S' => r = brkP (brkF (rowsL z.P) z.row) ∧ S' = S }
theorem kP_broken {G : GE} (h21 : G.fn 21 = pP_plain.sp) (h23 : G.fn 23 = pP_ask_order.sp) (h58 : G.fn 58 = pP_places_in.sp) (h31 : G.fn 31 = pP_pairs.sp) : Keeps G irP_broken nP_broken pP_broken := fun z vs S Q E _ _ hp hq _ => by
  obtain ⟨P, v, row⟩ := z
  obtain ⟨rfl, hP, hv, hok⟩ := hp
  simp only at hP hv hok
  have out : ∀ o, brkF (rowsL P) row = o → Q (brkP o) S := fun o h => hq _ _ ⟨by rw [← h], rfl⟩
  clear hq
  rw [show startS nP_broken [pgP P, v] = [some (pgP P), some v, none, none, none, none] from rfl]
  unfold irP_broken
  walk_at "go"
  refine Prm.call h21 (fun _ _ _ _ => id) P ⟨rfl, hP⟩ fun r S1 h => ?_
  refine resL_frz h ?_
  simp only [owP_len, List.length_range]
  refine Prm.call h23 (fun _ _ _ _ => id) ⟨(fsL P).length, v, row⟩ ⟨rfl, hv, hok.row, hok.len⟩ fun r S h => ?_
  obtain ⟨rfl, rfl⟩ := h
  simp only [frzQ]
  unfold irP_broken_3
  walk_at "go"
  refine Prm.call h58 (fun _ _ _ _ => id) ⟨(fsL P).length, v, row⟩ ⟨rfl, hv, hok⟩ fun r S1 h => ?_
  refine resL_frz h ?_
  unfold irP_broken_2
  walk_at "go"
  refine Prm.call h31 (fun _ _ _ _ => id) P ⟨rfl, hP⟩ fun r S1 h => ?_
  refine resL_frz h ?_
  simp only [dQ]
  have hmem : ∀ x ∈ prsL (rowsL P), x.1 < (fsL P).length ∧ x.2.1 < (fsL P).length := fun x hx => by
    have := prs_mem hx
    unfold rowsL at this
    rw [List.length_map] at this
    exact this
  unfold brkF at out
  generalize prsL (rowsL P) = A at hmem out ⊢
  refine itL_inv (fun m σ S' => S' = S' ∧ S' = S ∧ A.find? (fun x => decide (row.idxOf x.2.1 < row.idxOf x.1)) = (A.drop m).find? (fun x => decide (row.idxOf x.2.1 < row.idxOf x.1)) ∧ ∃ z3 z4 z5, σ = [some (pgP P), some v, some (.lst (owP (plcL (fsL P).length row))), z3, z4, z5]) ⟨rfl, rfl, rfl, _, _, _, rfl⟩ (fun _ _ _ _ => trivial) (fun m x σ S k hx h hk => ?_) fun σ S h => ?_
  · obtain ⟨_, rfl, he, z3, z4, z5, rfl⟩ := h
    rw [List.getElem?_map] at hx
    obtain ⟨x, hx1, rfl⟩ := Option.map_eq_some_iff.mp hx
    obtain ⟨hml, hme⟩ := List.getElem?_eq_some_iff.mp hx1
    obtain ⟨b1, b2⟩ := hmem x (List.mem_of_getElem? hx1)
    rw [List.drop_eq_getElem_cons hml, hme, List.find?_cons] at he
    simp only [prP]
    walk_at "go"
    unfold irP_broken_b1
    walk_at "go"
    simp only [plcL_at b1, plcL_at b2]
    by_cases c : row.idxOf x.2.1 < row.idxOf x.1
    · have c2 : ((row.idxOf x.2.1 : Nat) : Int) < ((row.idxOf x.1 : Nat) : Int) := by omega
      simp only [gt_iff_lt, c2, decide_true]
      rw [decide_eq_true c] at he
      refine ⟨by show 2 ≤ sizeLine; decide, ?_⟩
      refine out (some (x.1, x.2.1)) ?_
      rw [he]
      rfl
    · have c2 : ¬ ((row.idxOf x.2.1 : Nat) : Int) < ((row.idxOf x.1 : Nat) : Int) := by omega
      simp only [gt_iff_lt, c2, decide_false]
      rw [decide_eq_false c] at he
      exact hk _ _ ⟨rfl, rfl, he, _, _, _, rfl⟩
  · obtain ⟨_, rfl, he, z3, z4, z5, rfl⟩ := h
    rw [List.length_map, List.drop_length] at he
    unfold irP_broken_1
    walk_at "go"
    refine out none ?_
    rw [he]
    rfl
end DL
end
section
set_option maxRecDepth 100000
set_option maxHeartbeats 2000000
/-! The laws' draws (B): orders; and what is said of them. -/
namespace DL
open PySem PySem.Spec L2
open PyProof.Rows hiding St wpS
local macro_rules | `(tactic| walk_at "go") => `(tactic| try simp only [wpSs, wpS, wpE, wpEs, wpT, wpC, wpO, wpL, wpI, wpH, List.getElem?_cons_zero, List.getElem?_cons_succ, List.set_cons_zero, List.set_cons_succ, biD, dQ, dL, cmpD, truD, idxD, binD, tgD, tgDs, frzQ, newL, List.any_cons, List.any_nil, Bool.or_false, wipeS, at0, at1, at2, at3, at4, at5])
structure OdA where
  a : Addr
  l : List PV
  n : Nat
def pB_order : Prm := { α := OdA, pre := fun z vs S => vs = [.ref z.a, .int z.n] ∧ S z.a = some (.lst z.l) ∧ PenB z.l ∧ z.n ≤ 60, post := fun z S r S' => ∃ row l p, r = .ref p ∧ p ≠ z.a ∧ S p = none ∧ OrdOK z.n row ∧ PenB l ∧ S' = upS (upS S z.a (.lst l)) p (.lst (owP row)) }
theorem ins_perm (row : List Nat) (j i : Nat) : (row.take j ++ [i] ++ row.drop j).Perm (i :: row) := by
  rw [List.append_assoc, List.singleton_append]
  refine List.perm_middle.trans ?_
  rw [List.take_append_drop]
theorem kB_order {G : GE} (h102 : G.fn 102 = pB_take.sp) : Keeps G irB_order nB_order pB_order := fun z vs S Q E hcl _ hp hq _ => by
  obtain ⟨a, l, n⟩ := z
  obtain ⟨rfl, hS, hl, hn⟩ := hp
  simp only at hS hl hn
  have hz : 10000 ≤ sizeLine := by decide
  rw [show startS nB_order [.ref a, .int n] = [some (.ref a), some (.int n), none, none] from rfl]
  unfold irB_order
  walk_at "go"
  refine ⟨by show 0 ≤ sizeLine; omega, fun p hp => ?_⟩
  have hpa : p ≠ a := fun e => by rw [e, hS] at hp; cases hp
  unfold irB_order_2
  walk_at "go"
  refine ⟨by omega, by omega, ?_⟩
  rw [Int.toNat_natCast]
  refine itL_inv (fun i σ S' => ∃ row l z3, row.length = i ∧ row.Nodup ∧ (∀ t ∈ row, t < i) ∧ PenB l ∧ S' = upS (upS S a (.lst l)) p (.lst (owP row)) ∧ σ = [some (.ref a), some (.int n), some (.ref p), z3]) ⟨[], l, none, rfl, List.nodup_nil, by simp, hl, by rw [upS_id hS]; rfl, rfl⟩ (fun _ _ _ _ => trivial) (fun i x σ S' k hx h hk => ?_) fun σ S' h => ?_
  · obtain ⟨row, l, z3, hlen, hnd, hlt, hl, rfl, rfl⟩ := h
    obtain ⟨hi, rfl⟩ := rngP_get hx
    rw [Int.zero_add]
    walk_at "go"
    unfold irB_order_b1
    walk_at "go"
    simp only [upS_same, owP_len, hlen]
    refine ⟨by simp only [tyP, upS_same]; rfl, ?_⟩
    refine takeB2 h102 hpa hl (by omega) (by omega) fun j l' j0 j1 hl' => ?_
    obtain ⟨j, rfl⟩ : ∃ m : Nat, j = (m : Int) := ⟨j.toNat, by omega⟩
    simp only [meD, upS_same, upS_upS, Int.toNat_natCast, owP_len]
    have hpm := ins_perm row j i
    refine ⟨by omega, by omega, by omega, hk _ _ ⟨row.take j ++ [i] ++ row.drop j, l', _, by rw [hpm.length_eq, List.length_cons, hlen], hpm.nodup_iff.mpr (List.nodup_cons.mpr ⟨fun hm => Nat.lt_irrefl _ (hlt i hm), hnd⟩), fun t ht => ?_, hl', ?_, rfl⟩⟩
    · rcases List.mem_cons.mp (hpm.mem_iff.mp ht) with e | ht
      · omega
      · have := hlt t ht; omega
    · unfold owP
      simp only [List.map_append, List.map_take, List.map_drop, List.map_cons, List.map_nil]
  · obtain ⟨row, l, z3, hlen, hnd, hlt, hl, rfl, rfl⟩ := h
    rw [rngP_len] at hlen hlt
    unfold irB_order_1
    walk_at "go"
    exact hq _ _ ⟨row, l, p, rfl, hpa, hp, ⟨hlen, hn, hnd, hlt⟩, hl, rfl⟩
theorem cutP_from (xs : List PV) (a : Nat) : cutP xs (some (a : Int)) none = xs.drop a := by
  unfold cutP
  rw [HT.sIx_nat, HT.sIx_none, List.take_of_length_le (by simp)]
  by_cases h : a ≤ xs.length
  · rw [Nat.min_eq_left h]
  · rw [Nat.min_eq_right (by omega), List.drop_length, List.drop_of_length_le (by omega)]
theorem cutP_to (xs : List PV) (b : Nat) : cutP xs none (some (b : Int)) = xs.take b := by
  unfold cutP
  rw [HT.sIx_nat, HT.sIx_none, List.drop_zero, Nat.sub_zero]
  by_cases h : b ≤ xs.length
  · rw [Nat.min_eq_left h]
  · rw [Nat.min_eq_right (by omega), List.take_length, List.take_of_length_le (by omega)]
theorem deep_ref {S : Sto} {p : Addr} {xs : List PV} (n : Nat) (h : S p = some (.lst xs)) (hx : puvs xs = true) : deep (n + 1) S (.ref p) = .lst xs := by
  simp only [deep, h]
  rw [deeps_pure (fun x hx => deep_pure n x hx) hx]
theorem ow_dat (l : List Nat) : dats (owP l) = true ∧ dpts (owP l) ≤ 0 := by
  unfold owP
  exact ⟨dats_map (fun _ => rfl) l, dpts_map (n := 0) (fun _ => Nat.le_refl _) l⟩
theorem erase_map : ∀ (l : List Nat) (m : Nat), (owP l).eraseIdx m = owP (l.eraseIdx m)
  | [], _ => rfl
  | x :: l, 0 => rfl
  | x :: l, m + 1 => by
    have := erase_map l m
    unfold owP at this ⊢
    simp only [List.map_cons, List.eraseIdx_cons_succ, this]
structure PickI (R : List CRow) (N : Nat) (ord left : List Nat) : Prop where
  pm : (ord ++ left).Perm (List.range N)
  asc : left.Pairwise (· < ·)
  ok : ∀ (k : Nat) x, ord[k]? = some x → ∀ y, y < x → tchR (rowI R y) (rowI R x) = true → y ∈ ord.take k
theorem erase_perm : ∀ (l : List Nat) (i : Nat) (h : i < l.length), (l[i] :: l.eraseIdx i).Perm l
  | x :: l, 0, _ => List.Perm.refl _
  | x :: l, i + 1, h => by
    have := erase_perm l i (by simpa using h)
    simp only [List.getElem_cons_succ, List.eraseIdx_cons_succ]
    exact (List.Perm.swap _ _ _).trans (this.cons x)
theorem PickI.step {R : List CRow} {N : Nat} {ord left : List Nat} (h : PickI R N ord left) {i : Nat} (hi : i < left.length) (hn : ∀ t ∈ left.take i, tchR (rowI R t) (rowI R left[i]) = false) : PickI R N (ord ++ [left[i]]) (left.eraseIdx i) where
  pm := by
    rw [List.append_assoc, List.singleton_append]
    exact ((erase_perm left i hi).append_left ord).trans h.pm
  asc := h.asc.sublist (List.eraseIdx_sublist left i)
  ok := fun k x hx y hy ht => by
    by_cases hk : k < ord.length
    · rw [List.getElem?_append_left hk] at hx
      rw [List.take_append_of_le_length (by omega)]
      exact h.ok k x hx y hy ht
    · have hk2 : k = ord.length := by
        have := (List.getElem?_eq_some_iff.mp hx).1
        rw [List.length_append, List.length_singleton] at this
        omega
      subst hk2
      rw [List.getElem?_append_right (Nat.le_refl _), Nat.sub_self] at hx
      simp only [List.getElem?_cons_zero, Option.some.injEq] at hx
      subst hx
      rw [List.take_left' rfl]
      have hxr : left[i] < N := List.mem_range.mp (h.pm.mem_iff.mp (List.mem_append_right _ (List.getElem_mem hi)))
      have hyr : y ∈ ord ++ left := h.pm.mem_iff.mpr (List.mem_range.mpr (by omega))
      rcases List.mem_append.mp hyr with hy2 | hy2
      · exact hy2
      · exfalso
        obtain ⟨m, hm, rfl⟩ := List.mem_iff_getElem.mp hy2
        have hmi : m < i := by
          rcases Nat.lt_trichotomy m i with h1 | h1 | h1
          · exact h1
          · subst h1; omega
          · have := List.pairwise_iff_getElem.mp h.asc i m hi hm h1
            omega
        have := hn left[m] (List.mem_take_iff_getElem.mpr ⟨m, by omega, rfl⟩)
        rw [ht] at this
        cases this
theorem prs_lt {R : List CRow} {x : Pr3} (h : x ∈ prsL R) : x.1 < x.2.1 ∧ tchR (rowI R x.1) (rowI R x.2.1) = true := by
  unfold prsL at h
  obtain ⟨i, hi, h⟩ := List.mem_flatMap.mp h
  obtain ⟨k, hk, h⟩ := List.mem_flatMap.mp h
  obtain ⟨e1, e2⟩ := prsI_mem h
  refine ⟨by omega, ?_⟩
  rw [e1, e2, ← shd_nil]
  unfold prsI at h
  split at h
  · cases h
  · rename_i c
    exact decide_eq_true c
theorem PickI.fin {R : List CRow} {N : Nat} {ord : List Nat} (h : PickI R N ord []) (hN : N ≤ 60) (hR : R.length = N) : OrdOK N ord ∧ brkF R ord = none := by
  have hp := h.pm
  rw [List.append_nil] at hp
  have hok : OrdOK N ord := ⟨by rw [hp.length_eq, List.length_range], hN, hp.nodup_iff.mpr List.nodup_range, fun t ht => List.mem_range.mp (hp.mem_iff.mp ht)⟩
  refine ⟨hok, ?_⟩
  unfold brkF
  rw [List.find?_eq_none.mpr fun x hx => ?_]
  · rfl
  · obtain ⟨h1, h2⟩ := prs_lt hx
    have hb := prs_mem hx
    rw [hR] at hb
    have hj := List.idxOf_lt_length_iff.mpr (mem_ord hok hb.2)
    have hm := h.ok (ord.idxOf x.2.1) x.2.1 (by rw [List.getElem?_eq_getElem hj, List.getElem_idxOf hj]) x.1 h1 h2
    obtain ⟨m, hm1, hm2⟩ := List.mem_take_iff_getElem.mp hm
    have := hok.nd.idxOf_getElem m (by omega)
    rw [hm2] at this
    simp only [decide_eq_true_iff]
    omega
structure PkA where
  a : Addr
  l : List PV
  P : Pgm
def pB_picked : Prm := { α := PkA, pre := fun z vs S => vs = [.ref z.a, .lst ((fsL z.P).map stB)] ∧ S z.a = some (.lst z.l) ∧ PenB z.l ∧ PgmOK z.P, post := fun z S r S' => ∃ row l p, r = .ref p ∧ p ≠ z.a ∧ S p = none ∧ OrdOK (fsL z.P).length row ∧ brkF (rowsL z.P) row = none ∧ PenB l ∧ S' = upS (upS S z.a (.lst l)) p (.lst (owP row)) }
theorem kB_picked {G : GE} (h102 : G.fn 102 = pB_take.sp) (h111 : G.fn 111 = pB_touch.sp) : Keeps G irB_picked nB_picked pB_picked := fun z vs S Q E hcl _ hp hq _ => by
  obtain ⟨a, l, P⟩ := z
  obtain ⟨rfl, hS, hl, hP⟩ := hp
  simp only at hS hl hP
  have hz : 10000 ≤ sizeLine := by decide
  have h60 := hP.len
  obtain ⟨N, hN⟩ : ∃ N, N = (fsL P).length := ⟨_, rfl⟩
  have hR : (rowsL P).length = N := by rw [rows_len, hN]
  have hlF : ((fsL P).map stB).length = N := by rw [List.length_map, hN]
  rw [show startS nB_picked [.ref a, .lst ((fsL P).map stB)] = [some (.ref a), some (.lst ((fsL P).map stB)), none, none, none, none] from rfl]
  unfold irB_picked
  walk_at "go"
  refine ⟨by show 0 ≤ sizeLine; omega, fun p hp => ?_⟩
  have hpa : p ≠ a := fun e => by rw [e, hS] at hp; cases hp
  unfold irB_picked_5
  walk_at "go"
  simp only [lrngD, hlF]
  refine ⟨by omega, by omega, fun q hq0 => ?_⟩
  have hqp : q ≠ p := fun e => by rw [e, upS_same] at hq0; cases hq0
  rw [upS_ne hqp] at hq0
  have hqa : q ≠ a := fun e => by rw [e, hS] at hq0; cases hq0
  rw [Int.toNat_natCast, owP_rng]
  unfold irB_picked_4
  simp only [wpSs, wpS]
  let St2 := fun (l : List PV) (ord left : List Nat) => upS (upS (upS S a (.lst l)) p (.lst (owP ord))) q (.lst (owP left))
  have Sq : ∀ l ord left, St2 l ord left q = some (.lst (owP left)) := fun l ord left => upS_same
  have Sp : ∀ l ord left, St2 l ord left p = some (.lst (owP ord)) := fun l ord left => by
    show (upS (upS (upS S a (.lst l)) p (.lst (owP ord))) q (.lst (owP left))) p = _
    rw [upS_ne (Ne.symm hqp), upS_same]
  have Sa : ∀ l ord left, St2 l ord left a = some (.lst l) := fun l ord left => by
    show (upS (upS (upS S a (.lst l)) p (.lst (owP ord))) q (.lst (owP left))) a = _
    rw [upS_ne (Ne.symm hqa), upS_ne (Ne.symm hpa), upS_same]
  have Ua : ∀ l ord left l', upS (St2 l ord left) a (.lst l') = St2 l' ord left := fun l ord left l' => by
    show upS (upS (upS (upS S a (.lst l)) p (.lst (owP ord))) q (.lst (owP left))) a (.lst l') = _
    rw [upS_comm2 hqa, upS_sw hpa]
  have Uq : ∀ l ord left left', upS (St2 l ord left) q (.lst (owP left')) = St2 l ord left' := fun l ord left left' => upS_upS
  have Up : ∀ l ord left ord', upS (St2 l ord left) p (.lst (owP ord')) = St2 l ord' left := fun l ord left ord' => by
    show upS (upS (upS (upS S a (.lst l)) p (.lst (owP ord))) q (.lst (owP left))) p (.lst (owP ord')) = _
    rw [upS_comm2 hqp, upS_upS]
  refine while_of (fun i σ S' => ∃ ord left l z4 z5, i = left.length ∧ PickI (rowsL P) N ord left ∧ PenB l ∧ S' = St2 l ord left ∧ σ = [some (.ref a), some (.lst ((fsL P).map stB)), some (.ref p), some (.ref q), z4, z5]) N ⟨[], List.range N, l, none, none, by rw [List.length_range], ⟨List.Perm.refl _, List.pairwise_lt_range, fun k x h => by simp at h⟩, hl, ?_, rfl⟩ fun i σ S' k hI hk => ?_
  · show _ = upS (upS (upS S a (.lst l)) p (.lst (owP []))) q (.lst (owP (List.range N)))
    rw [upS_id hS]
    rfl
  · obtain ⟨ord, left, l, z4, z5, rfl, I, hl, rfl, rfl⟩ := hI
    have hlen : left.length ≤ 60 := by
      have := I.pm.length_eq
      rw [List.length_append, List.length_range] at this
      omega
    walk_at "go"
    refine ⟨by show 0 ≤ sizeLine; omega, ?_⟩
    refine eq_deep (deep_ref 19 (Sq l ord left) (dats_puv _ (ow_dat left).1)) (deep_pure 20 (.lst []) rfl) (by simp only [dat]; exact (ow_dat left).1) rfl (by simp only [dpt]; have := (ow_dat left).2; omega) (by decide) fun b hb => ?_
    have hb : b = decide (left = []) := by
      rw [Bool.eq_iff_iff, hb, decide_eq_true_iff, PV.lst.injEq]
      unfold owP
      rw [List.map_eq_nil_iff]
    subst hb
    by_cases c : left = []
    · simp only [c, decide_true, Bool.not_true]
      subst c
      obtain ⟨f1, f2⟩ := I.fin (by omega) hR
      unfold irB_picked_3
      walk_at "go"
      rw [hN] at f1
      refine hcl.less ?_ (hq _ _ ⟨ord, l, p, rfl, hpa, hp, f1, f2, hl, rfl⟩)
      refine Less.up ?_
      rw [upS_ne hqp, upS_ne hqa]
      exact hq0
    · simp only [decide_eq_false c, Bool.not_false]
      have hl0 : 0 < left.length := List.length_pos_iff.mpr c
      unfold irB_picked_b2
      walk_at "go"
      simp only [Sq, owP_len]
      refine takeB h102 (Sa l ord left) hl (by omega) (by omega) fun i l2 i0 i1 hl2 => ?_
      obtain ⟨i, rfl⟩ : ∃ m : Nat, i = (m : Int) := ⟨i.toNat, by omega⟩
      rw [Ua]
      unfold irB_picked_2
      simp only [wpSs, wpS]
      refine while_of (fun m σ S' => ∃ at' l z5, m = at' ∧ at' < left.length ∧ PenB l ∧ S' = St2 l ord left ∧ σ = [some (.ref a), some (.lst ((fsL P).map stB)), some (.ref p), some (.ref q), some (.int (at' : Nat)), z5]) i ⟨i, l2, z5, rfl, by omega, hl2, rfl, rfl⟩ fun m σ S' k' hI hk' => ?_
      obtain ⟨at', l, z5, rfl, hat, hl, rfl, rfl⟩ := hI
      walk_at "go"
      have hN2 : ∀ t ∈ left, t < N := fun t ht => List.mem_range.mp (I.pm.mem_iff.mp (List.mem_append_right _ ht))
      have hx : left[m] < (fsL P).length := by rw [← hN]; exact hN2 _ (List.getElem_mem hat)
      simp only [slcD, dL, Sq, newL, cutP_to]
      have etk : (owP left).take m = (left.take m).map fun t : Nat => PV.int t := by unfold owP; rw [List.map_take]
      rw [etk]
      intro p1 hp1
      have hp1q : p1 ≠ q := fun e => by rw [e, Sq] at hp1; cases hp1
      let g : Nat → Bool := fun t => tchR (rowI (rowsL P) t) (rowI (rowsL P) left[m])
      refine comp_typed (fun t : Nat => PV.int t) (fun t : Nat => PV.bl (g t)) (left.take m) hp1 (fun _ => trivial) (fun i t acc k hx1 ha hk => ?_) ?_
      · have ht := hN2 t (List.mem_of_mem_take (List.mem_of_getElem? hx1))
        have htF : t < (fsL P).length := by omega
        have hq1 : (upS (St2 l ord left) p1 (.lst acc)) q = some (.lst (owP left)) := by rw [upS_ne (Ne.symm hp1q)]; exact Sq l ord left
        walk_at "go"
        simp only [stB_at htF, hq1, owP_at hat, stB_at hx]
        refine Prm.call h111 (fun _ _ _ _ => id) ⟨(fsL P)[t], (fsL P)[left[m]]⟩ rfl fun r S1 h => ?_
        obtain ⟨rfl, rfl⟩ := h
        simp only [frzQ]
        refine ⟨upS_same, ?_⟩
        rw [upS_upS]
        have : g t = tchR ((fsL P)[t]).row ((fsL P)[left[m]]).row := by show tchR (rowI (rowsL P) t) (rowI (rowsL P) left[m]) = _; rw [rowI_fs htF, rowI_fs hx]
        rw [← this]
        exact hk
      · refine ⟨upS_same, ?_⟩
        rw [blsP_map2 g (left.take m), delS_upS hp1]
        have ea : ((left.take m).map g).any id = (left.take m).any g := by rw [List.any_map]; rfl
        simp only [ea]
        cases hany : (left.take m).any g with
        | true =>
          simp only
          have hm0 : 0 < m := by
            rcases Nat.eq_zero_or_pos m with e | e
            · rw [e] at hany; simp at hany
            · exact e
          unfold irB_picked_b1
          walk_at "go"
          refine takeB h102 (Sa l ord left) hl (by omega) (by omega) fun i' l3 i0' i1' hl3 => ?_
          obtain ⟨i', rfl⟩ : ∃ m : Nat, i' = (m : Int) := ⟨i'.toNat, by omega⟩
          rw [Ua]
          exact hk' i' _ _ (by omega) ⟨i', l3, z5, rfl, by omega, hl3, rfl, rfl⟩
        | false =>
          simp only
          have hnone : ∀ t ∈ left.take m, tchR (rowI (rowsL P) t) (rowI (rowsL P) left[m]) = false := fun t ht => by
            have := List.any_eq_false.mp hany t ht
            simpa using this
          unfold irB_picked_1
          walk_at "go"
          have hix : L2.ixN (owP left).length (m : Int) = some m := by
            rw [owP_len]
            unfold L2.ixN
            rw [if_pos (by omega), if_pos (by omega)]
            simp
          have hat2 : (owP left)[m]? = some (.int (left[m] : Nat)) := by
            unfold owP
            rw [List.getElem?_map, List.getElem?_eq_getElem hat]
            rfl
          simp only [tyP, Sp, Sq, meD, hix, hat2]
          refine ⟨rfl, rfl, by omega, by omega, ?_⟩
          have ee : (owP left).eraseIdx m = owP (left.eraseIdx m) := by
            exact erase_map left m
          rw [ee, Uq]
          simp only [Sp]
          have hol : ord.length ≤ 60 := by
            have := I.pm.length_eq
            rw [List.length_append, List.length_range] at this
            omega
          refine ⟨by rw [owP_len]; omega, ?_⟩
          have eo : owP ord ++ [PV.int (left[m] : Nat)] = owP (ord ++ [left[m]]) := by
            unfold owP
            rw [List.map_append]
            rfl
          rw [eo, Up]
          exact hk _ _ _ (by rw [List.length_eraseIdx_of_lt hat]; omega) ⟨ord ++ [left[m]], left.eraseIdx m, l, _, _, rfl, I.step hat hnone, hl, rfl, rfl⟩
theorem brk_dat (o : Option (Nat × Nat)) : dat (brkP o) = true ∧ dpt (brkP o) ≤ 1 := by cases o <;> exact ⟨rfl, by simp [brkP, dpt, dpts]⟩
theorem swap_perm {row : List Nat} {t : Nat} (h : t + 1 < row.length) : (row.take t ++ [row[t + 1], row[t]] ++ row.drop (t + 2)).Perm row := by
  have e : row = row.take t ++ [row[t], row[t + 1]] ++ row.drop (t + 2) := by
    conv => lhs; rw [← List.take_append_drop t row, List.drop_eq_getElem_cons (by omega), List.drop_eq_getElem_cons h]
    simp
  refine List.Perm.trans ?_ (List.Perm.of_eq e.symm)
  exact ((List.Perm.swap _ _ _).append_left _).append_right _
theorem ord_idx {n : Nat} {row : List Nat} (h : OrdOK n row) {i : Nat} (hi : i < n) : ∃ j : Nat, (row.map fun t : Nat => (t : Int))[j]? = some (i : Int) ∧ (∀ m, m < j → (row.map fun t : Nat => (t : Int))[m]? ≠ some (i : Int)) ∧ j = row.idxOf i := by
  have hm := mem_ord h hi
  have hl := List.idxOf_lt_length_iff.mpr hm
  refine ⟨row.idxOf i, ?_, fun m hm2 e => ?_, rfl⟩
  · rw [List.getElem?_map, List.getElem?_eq_getElem hl, List.getElem_idxOf hl]
    rfl
  · rw [List.getElem?_map] at e
    obtain ⟨t, ht, e⟩ := Option.map_eq_some_iff.mp e
    have : t = i := by omega
    subst this
    obtain ⟨hml, hme⟩ := List.getElem?_eq_some_iff.mp ht
    have := h.nd.idxOf_getElem m hml
    rw [hme] at this
    omega
end DL
end
section
set_option maxRecDepth 100000
set_option maxHeartbeats 1000000
/-! leads. -/
namespace DL
open PySem PySem.Spec L2
open PyProof.Rows hiding St wpS
local macro_rules | `(tactic| walk_at "go") => `(tactic| try simp only [wpSs, wpS, wpE, wpEs, wpT, wpC, wpO, wpL, wpI, wpH, List.getElem?_cons_zero, List.getElem?_cons_succ, List.set_cons_zero, List.set_cons_succ, biD, dQ, dL, cmpD, truD, idxD, binD, tgD, tgDs, frzQ, newL, List.any_cons, List.any_nil, Bool.or_false, wipeS, at0, at1, at2, at3, at4, at5])
/-- two neighbours exchanged -/
def swapAt (now : List Nat) (t : Nat) : List Nat := now.take t ++ [now.getD (t + 1) 0, now.getD t 0] ++ now.drop (t + 2)
/-- exchanges gone through: none where one may not be -/
def exF (R : List CRow) : List Int → List Nat → Option (List Nat)
  | [], now => some now
  | pl :: l, now => if 0 ≤ pl ∧ pl < (now.length : Int) - 1 ∧ tchR (rowI R (now.getD pl.toNat 0)) (rowI R (now.getD (pl.toNat + 1) 0)) = false then exF R l (swapAt now pl.toNat) else none
def leadB (R : List CRow) (ex : List Int) (n : Nat) (row : List Nat) : Bool := match exF R ex (List.range n) with
  | some now => decide (now = row)
  | none => false
theorem swap_set {now : List Nat} {t : Nat} (h : t + 1 < now.length) : (now.set t (now.getD (t + 1) 0)).set (t + 1) (now.getD t 0) = swapAt now t := by
  unfold swapAt
  have e0 : now.getD t 0 = now[t] := by rw [List.getD_eq_getElem?_getD, List.getElem?_eq_getElem (by omega)]; rfl
  have e1 : now.getD (t + 1) 0 = now[t + 1] := by rw [List.getD_eq_getElem?_getD, List.getElem?_eq_getElem h]; rfl
  rw [e0, e1]
  have e : now = now.take t ++ [now[t], now[t + 1]] ++ now.drop (t + 2) := by
    conv => lhs; rw [← List.take_append_drop t now, List.drop_eq_getElem_cons (by omega), List.drop_eq_getElem_cons h]
    simp
  refine List.ext_getElem? fun i => ?_
  rw [List.getElem?_set, List.getElem?_set]
  have hl : (now.take t).length = t := by rw [List.length_take]; omega
  rw [List.length_set]
  by_cases c1 : t + 1 = i
  · subst c1
    rw [if_pos rfl, if_pos h, List.getElem?_append_left (by simp; omega), List.getElem?_append_right (by omega), hl]
    simp
  · rw [if_neg c1]
    by_cases c2 : t = i
    · subst c2
      rw [if_pos rfl, if_pos (by omega), List.getElem?_append_left (by simp; omega), List.getElem?_append_right (by omega), hl]
      simp
    · rw [if_neg c2]
      by_cases c3 : i < t
      · rw [List.getElem?_append_left (by simp; omega), List.getElem?_append_left (by omega), List.getElem?_take, if_pos c3]
      · rw [List.getElem?_append_right (by simp; omega)]
        have : (now.take t ++ [now[t + 1], now[t]]).length = t + 2 := by rw [List.length_append, hl]; rfl
        rw [this, List.getElem?_drop]
        congr 1
        omega
theorem swapAt_len {now : List Nat} {t : Nat} (h : t + 1 < now.length) : (swapAt now t).length = now.length := by
  rw [← swap_set h, List.length_set, List.length_set]
theorem swapAt_mem {now : List Nat} {t : Nat} {n : Nat} (h : t + 1 < now.length) (hm : ∀ x ∈ now, x < n) : ∀ x ∈ swapAt now t, x < n := fun x hx => by
  rw [← swap_set h] at hx
  have e0 : now.getD t 0 = now[t] := by rw [List.getD_eq_getElem?_getD, List.getElem?_eq_getElem (by omega)]; rfl
  have e1 : now.getD (t + 1) 0 = now[t + 1] := by rw [List.getD_eq_getElem?_getD, List.getElem?_eq_getElem h]; rfl
  rcases List.mem_or_eq_of_mem_set hx with hx | e
  · rcases List.mem_or_eq_of_mem_set hx with hx | e
    · exact hm x hx
    · rw [e, e1]; exact hm _ (List.getElem_mem _)
  · rw [e, e0]; exact hm _ (List.getElem_mem _)
structure LdA where
  P : Pgm
  ex : List Int
  row : List Nat
def pP_leads : Prm := { α := LdA, pre := fun z vs S => vs = [pgP z.P, .lst (z.ex.map .int), .lst (owP z.row)] ∧ PgmOK z.P ∧ OrdOK (fsL z.P).length z.row, post := fun z S r S' => r = .bl (leadB (rowsL z.P) z.ex (fsL z.P).length z.row) ∧ S' = S }
theorem kP_leads {G : GE} (h20 : G.fn 20 = pP_cells_of.sp) (h21 : G.fn 21 = pP_plain.sp) (h23 : G.fn 23 = pP_ask_order.sp) (h29 : G.fn 29 = pP_shared_cells.sp) : Keeps G irP_leads nP_leads pP_leads := fun z vs S Q E hcl _ hp hq _ => by
  obtain ⟨P, ex, row⟩ := z
  obtain ⟨rfl, hP, hok⟩ := hp
  simp only at hP hok
  have hN := hP.len
  have out : ∀ b, leadB (rowsL P) ex (fsL P).length row = b → Q (.bl b) S := fun b h => hq _ _ ⟨by rw [← h], rfl⟩
  clear hq
  have hz : 10000 ≤ sizeLine := by decide
  rw [show startS nP_leads [pgP P, .lst (ex.map .int), .lst (owP row)] = [some (pgP P), some (.lst (ex.map .int)), some (.lst (owP row)), none, none, none, none, none] from rfl]
  unfold irP_leads
  walk_at "go"
  refine Prm.call h20 (fun _ _ _ _ => id) P ⟨rfl, hP⟩ fun r S1 h => ?_
  refine resL_frz h ?_
  unfold irP_leads_8
  walk_at "go"
  have hRl : ((rowsL P).map rwP).length = (fsL P).length := by rw [List.length_map, rows_len]
  simp only [hRl]
  refine Prm.call h23 (fun _ _ _ _ => id) ⟨(fsL P).length, .lst (owP row), row⟩ ⟨rfl, rfl, hok.row, hok.len⟩ fun r S h => ?_
  obtain ⟨rfl, rfl⟩ := h
  unfold irP_leads_7
  walk_at "go"
  refine Prm.call h21 (fun _ _ _ _ => id) P ⟨rfl, hP⟩ fun r S1 h => ?_
  obtain ⟨q, rfl, hq0, rfl⟩ := h
  unfold irP_leads_6
  walk_at "go"
  have out2 : ∀ b now, leadB (rowsL P) ex (fsL P).length row = b → Q (.bl b) (upS S q (.lst (owP now))) := fun b now h => hcl.less (Less.up hq0) (out b h)
  refine itL_inv (fun j σ S' => ∃ now z5 z6 z7, exF (rowsL P) ex (List.range (fsL P).length) = exF (rowsL P) (ex.drop j) now ∧ now.length = (fsL P).length ∧ (∀ x ∈ now, x < (fsL P).length) ∧ S' = upS S q (.lst (owP now)) ∧ σ = [some (pgP P), some (.lst (ex.map .int)), some (.lst (owP row)), some (.lst ((rowsL P).map rwP)), some (.ref q), z5, z6, z7]) ⟨_, _, _, _, rfl, List.length_range, fun x hx => List.mem_range.mp hx, rfl, rfl⟩ (fun _ _ _ _ => trivial) (fun j x σ S' k hx h hk => ?_) fun σ S' h => ?_
  · obtain ⟨now, z5, z6, z7, he, hnl, hnm, rfl, rfl⟩ := h
    rw [List.getElem?_map] at hx
    obtain ⟨pl, hpl, rfl⟩ := Option.map_eq_some_iff.mp hx
    obtain ⟨hj, hje⟩ := List.getElem?_eq_some_iff.mp hpl
    rw [List.drop_eq_getElem_cons hj, hje] at he
    simp only [exF] at he
    walk_at "go"
    unfold irP_leads_b1
    walk_at "go"
    simp only [upS_same, owP_len]
    by_cases c1 : 0 ≤ pl
    · simp only [c1, decide_true]
      by_cases c2 : pl < (now.length : Int) - 1
      · simp only [c2, decide_true, Bool.not_true]
        obtain ⟨t, rfl⟩ : ∃ t : Nat, pl = (t : Int) := ⟨pl.toNat, by omega⟩
        have ht : t + 1 < now.length := by omega
        have e0 : now.getD t 0 = now[t] := by rw [List.getD_eq_getElem?_getD, List.getElem?_eq_getElem (by omega)]; rfl
        have e1 : now.getD (t + 1) 0 = now[t + 1] := by rw [List.getD_eq_getElem?_getD, List.getElem?_eq_getElem ht]; rfl
        rw [Int.toNat_natCast, e0, e1] at he
        have a1 : L2.atI (owP now) (t : Int) = some (.int (now[t] : Nat)) := owP_at (by omega)
        have a2 : L2.atI (owP now) ((t : Int) + 1) = some (.int (now[t + 1] : Nat)) := by
          rw [show (t : Int) + 1 = ((t + 1 : Nat) : Int) from by omega]
          exact owP_at ht
        unfold irP_leads_4
        walk_at "go"
        simp only [upS_same, a1, a2]
        refine ⟨by show 2 ≤ sizeLine; omega, ?_⟩
        unfold irP_leads_3
        walk_at "go"
        have b1 : now[t] < (rowsL P).length := by rw [rows_len]; exact hnm _ (List.getElem_mem _)
        have b2 : now[t + 1] < (rowsL P).length := by rw [rows_len]; exact hnm _ (List.getElem_mem _)
        simp only [rowI_at b1, rowI_at b2]
        refine Prm.call h29 (fun _ _ _ _ => id) ⟨rowI (rowsL P) now[t], rowI (rowsL P) now[t + 1]⟩ rfl fun r S2 h => ?_
        refine resL_frz h ?_
        refine ⟨by show 0 ≤ sizeLine; omega, ?_⟩
        refine eq_nil dat_ceP 2 (by decide) dpt_ceP ?_
        have hsh := shd_nil (rowI (rowsL P) now[t]) (rowI (rowsL P) now[t + 1])
        cases c3 : tchR (rowI (rowsL P) now[t]) (rowI (rowsL P) now[t + 1]) with
        | true =>
          rw [c3] at hsh
          have : ¬ shdL (rowI (rowsL P) now[t]) (rowI (rowsL P) now[t + 1]) = [] := of_decide_eq_true hsh
          simp only [decide_eq_false this, Bool.not_false]
          rw [c3, if_neg (fun h => by cases h.2.2)] at he
          refine out2 _ _ ?_
          unfold leadB
          rw [he]
        | false =>
          rw [c3] at hsh
          have : shdL (rowI (rowsL P) now[t]) (rowI (rowsL P) now[t + 1]) = [] := by simpa using hsh
          simp only [decide_eq_true this, Bool.not_true]
          rw [c3, if_pos ⟨c1, c2, rfl⟩] at he
          unfold irP_leads_2
          walk_at "go"
          have i1 : L2.ixN (owP now).length (t : Int) = some t := by
            rw [owP_len]
            unfold L2.ixN
            rw [if_pos (by omega), if_pos (by omega)]
            simp
          simp only [setID, upS_same, i1]
          unfold irP_leads_1
          walk_at "go"
          have i2 : ∀ v, L2.ixN ((owP now).set t v).length ((t : Int) + 1) = some (t + 1) := fun v => by
            rw [List.length_set, owP_len]
            unfold L2.ixN
            rw [if_pos (by omega), if_pos (by omega)]
            exact congrArg some (by omega)
          simp only [setID, upS_same, i2, upS_upS]
          have es : ((owP now).set t (.int (now[t + 1] : Nat))).set (t + 1) (.int (now[t] : Nat)) = owP (swapAt now t) := by
            rw [← swap_set ht, e0, e1]
            unfold owP
            rw [List.map_set, List.map_set]
          rw [es]
          exact hk _ _ ⟨swapAt now t, _, _, _, he, by rw [swapAt_len ht, hnl], swapAt_mem ht hnm, rfl, rfl⟩
      · simp only [c2, decide_false, Bool.not_false]
        rw [if_neg (fun h => c2 h.2.1)] at he
        refine out2 _ _ ?_
        unfold leadB
        rw [he]
    · simp only [c1, decide_false, Bool.not_false]
      rw [if_neg (fun h => c1 h.1)] at he
      refine out2 _ _ ?_
      unfold leadB
      rw [he]
  · obtain ⟨now, z5, z6, z7, he, hnl, hnm, rfl, rfl⟩ := h
    rw [List.length_map, List.drop_length] at he
    simp only [exF] at he
    unfold irP_leads_5
    walk_at "go"
    have hd1 := ow_dat now
    have hd2 := ow_dat row
    refine eq_deep (deep_ref 19 upS_same (dats_puv _ hd1.1)) (deep_pure 20 (.lst _) (dats_puv _ hd2.1)) (by simp only [dat]; exact hd1.1) (by simp only [dat]; exact hd2.1) (by simp only [dpt]; omega) (by simp only [dpt]; omega) fun b hb => ?_
    refine out2 b now ?_
    unfold leadB
    rw [he]
    rw [Bool.eq_iff_iff, hb, decide_eq_true_iff, PV.lst.injEq]
    exact ⟨fun h => by rw [h], fun h => map_inj (fun a b h => by have := PV.int.inj h; omega) h⟩
end DL
end
section
set_option maxRecDepth 100000
set_option maxHeartbeats 0
namespace K37
open PySem PySem.Spec L2 DL
open PyProof.Rows hiding St
def top (i : Nat) : Stmt := PySem.Challenge.pw_nestturn_k37_exchanges_looked_at.main.body.getD i (.Pass ⟨0, 0, 0, 0⟩)
/-- is_whole(thing) -/
def g0 : Gam := { N := ["thing"], names := (defScope (top 9)).names, own := [], fns := [], cst := [], free := ["isinstance", "int", "bool"], exc := [] }
/-- is_form(thing, d) -/
def g1 : Gam := { N := ["thing", "d", "number"], names := (defScope (top 10)).names, own := [], fns := [("is_whole", 0, 1)], cst := [], free := ["all", "isinstance", "tuple", "len"], exc := [] }
/-- comes_to(form, counts) -/
def g2 : Gam := { N := ["form", "counts", "number", "count"], names := (defScope (top 11)).names, own := [], fns := [], cst := [], free := ["sum", "zip"], exc := [] }
/-- is_bound(thing, d) -/
def g3 : Gam := { N := ["thing", "d", "number"], names := (defScope (top 12)).names, own := [], fns := [("is_form", 1, 2)], cst := [("FIRST", .int 9), ("OTHERS", .int 2)], free := ["all", "abs"], exc := [] }
/-- is_loops(thing) -/
def g4 : Gam := { N := ["thing", "k", "loop"], names := (defScope (top 13)).names, own := [], fns := [("is_bound", 3, 2)], cst := [("MOST_LOOPS", .int 3)], free := ["enumerate", "isinstance", "tuple", "len"], exc := [] }
/-- counts_behind(loops, counts) -/
def g5 : Gam := { N := ["loops", "counts", "low", "high", "found", "count"], names := (defScope (top 14)).names, own := [⟨37, 12, 37, 14⟩, ⟨35, 15, 35, 23⟩], fns := [("comes_to", 2, 2), ("counts_behind", 5, 2)], cst := [], free := ["range", "len"], exc := [] }
/-- counts_of(loops) -/
def g6 : Gam := { N := ["loops"], names := (defScope (top 15)).names, own := [⟨42, 11, 42, 35⟩], fns := [("counts_behind", 5, 2)], cst := [], free := [], exc := [] }
/-- are_more(loops, counts, most) -/
def g7 : Gam := { N := ["loops", "counts", "most", "low", "high", "total", "count"], names := (defScope (top 16)).names, own := [], fns := [("comes_to", 2, 2), ("are_more", 7, 3)], cst := [], free := ["range", "len"], exc := [] }
/-- how_many(loops, most) -/
def g8 : Gam := { N := ["loops", "most"], names := (defScope (top 17)).names, own := [⟨54, 11, 54, 36⟩], fns := [("are_more", 7, 3)], cst := [], free := [], exc := [] }
/-- is_tuple_of(thing, low, high) -/
def g9 : Gam := { N := ["thing", "low", "high"], names := (defScope (top 26)).names, own := [], fns := [], cst := [], free := ["isinstance", "tuple", "len"], exc := [] }
/-- are_widths(thing) -/
def g10 : Gam := { N := ["thing", "width"], names := (defScope (top 27)).names, own := [], fns := [("is_tuple_of", 9, 3), ("is_whole", 0, 1)], cst := [("MOST_TABLES", .int 3)], free := ["all"], exc := [] }
/-- is_cell(widths, d, table, place) -/
def g11 : Gam := { N := ["widths", "d", "table", "place", "form", "number"], names := (defScope (top 28)).names, own := [], fns := [("is_whole", 0, 1), ("is_form", 1, 2)], cst := [("PLACES", .int 99)], free := ["len", "isinstance", "tuple", "max", "abs"], exc := [] }
/-- is_great_form(thing, d) -/
def g12 : Gam := { N := ["thing", "d", "number"], names := (defScope (top 29)).names, own := [], fns := [("is_form", 1, 2)], cst := [("GREAT", .int 1000000000000000000000000000000)], free := ["max", "abs"], exc := [] }
/-- is_read(widths, d, thing) -/
def g13 : Gam := { N := ["widths", "d", "thing"], names := (defScope (top 30)).names, own := [⟨83, 11, 83, 49⟩], fns := [("is_cell", 11, 4), ("is_tuple_of", 9, 3), ("is_whole", 0, 1)], cst := [("GREAT", .int 1000000000000000000000000000000)], free := ["abs"], exc := [] }
/-- is_deed(widths, d, thing) -/
def g14 : Gam := { N := ["widths", "d", "thing", "read"], names := (defScope (top 31)).names, own := [], fns := [("is_tuple_of", 9, 3), ("is_cell", 11, 4), ("is_great_form", 12, 2), ("is_read", 13, 3)], cst := [("MOST_READS", .int 3)], free := ["all"], exc := [] }
/-- is_nest(widths, thing) -/
def g15 : Gam := { N := ["widths", "thing", "deed"], names := (defScope (top 32)).names, own := [], fns := [("is_tuple_of", 9, 3), ("is_loops", 4, 1), ("is_deed", 14, 3)], cst := [("MOST_DEEDS", .int 4)], free := ["all", "len"], exc := [] }
/-- program_of(widths, nests) -/
def g16 : Gam := { N := ["widths", "nests", "nest", "total", "loops", "deeds"], names := (defScope (top 33)).names, own := [], fns := [("are_widths", 10, 1), ("is_tuple_of", 9, 3), ("is_nest", 15, 2), ("how_many", 8, 2)], cst := [("MOST_STEPS", .int 60), ("MOST_NESTS", .int 3)], free := ["len"], exc := ["NoProgram", "TooMany"] }
/-- steps_of(program) -/
def g17 : Gam := { N := ["program", "found", "n", "nest", "counts", "s"], names := (defScope (top 34)).names, own := [⟨105, 12, 105, 14⟩], fns := [("counts_of", 6, 1)], cst := [], free := ["enumerate", "range", "len"], exc := [] }
/-- cell_at(table, place, counts) -/
def g18 : Gam := { N := ["table", "place", "counts", "form"], names := (defScope (top 35)).names, own := [], fns := [("comes_to", 2, 2)], cst := [], free := ["tuple"], exc := [] }
/-- cells_of_step(program, step) -/
def g19 : Gam := { N := ["program", "step", "n", "counts", "s", "table", "place", "start", "reads", "read"], names := (defScope (top 36)).names, own := [], fns := [("cell_at", 18, 3)], cst := [], free := [], exc := [] }
/-- cells_of(program) -/
def g20 : Gam := { N := ["program", "step"], names := (defScope (top 37)).names, own := [⟨117, 11, 117, 71⟩], fns := [("cells_of_step", 19, 2), ("steps_of", 17, 1)], cst := [], free := [], exc := [] }
/-- plain(program) -/
def g21 : Gam := { N := ["program"], names := (defScope (top 39)).names, own := [⟨120, 11, 120, 46⟩], fns := [("steps_of", 17, 1)], cst := [], free := ["list", "range", "len"], exc := [] }
/-- ask_row(many, row) -/
def g22 : Gam := { N := ["many", "row", "t"], names := (defScope (top 40)).names, own := [], fns := [("is_whole", 0, 1)], cst := [], free := ["len", "isinstance", "list", "all", "set"], exc := ["NoOrder"] }
/-- ask_order(many, order) -/
def g23 : Gam := { N := ["many", "order"], names := (defScope (top 41)).names, own := [], fns := [("ask_row", 22, 2)], cst := [], free := ["len"], exc := ["NoOrder"] }
/-- shared_cells(one, other) -/
def g29 : Gam := { N := ["one", "other", "found", "mine", "yours"], names := (defScope (top 43)).names, own := [⟨132, 12, 132, 14⟩, ⟨136, 11, 136, 30⟩], fns := [], cst := [], free := ["sorted", "list"], exc := [] }
/-- leads(program, exchanges, order) -/
def g61 : Gam := { N := ["program", "exchanges", "order", "there", "now", "place", "one", "other"], names := (defScope (top 45)).names, own := [⟨141, 10, 141, 24⟩], fns := [("cells_of", 20, 1), ("ask_order", 23, 2), ("plain", 21, 1), ("shared_cells", 29, 2)], cst := [], free := ["len"], exc := [] }
/-- _law_cell(_law_script, _law_k) -/
def g100 : Gam := { N := ["_law_script", "_law_k", "_law_cell_here"], names := (defScope (top 47)).names, own := [], fns := [], cst := [], free := ["len", "abs"], exc := [] }
/-- _law_pen(_law_script, _law_k) -/
def g101 : Gam := { N := ["_law_script", "_law_k"], names := (defScope (top 48)).names, own := [⟨161, 11, 161, 64⟩], fns := [("_law_cell", 100, 2)], cst := [], free := [], exc := [] }
/-- _law_take(_law_pen_here, _law_many) -/
def g102 : Gam := { N := ["_law_pen_here", "_law_many", "_law_digit"], names := (defScope (top 49)).names, own := [], fns := [("_law_cell", 100, 2)], cst := [], free := [], exc := [] }
/-- _law_form(_law_pen_here, _law_many, _law_wide) -/
def g103 : Gam := { N := ["_law_pen_here", "_law_many", "_law_wide", "_law_found", "_law_k"], names := (defScope (top 50)).names, own := [⟨172, 17, 172, 74⟩], fns := [("_law_take", 102, 2)], cst := [], free := ["range", "tuple"], exc := [] }
/-- _law_loops(_law_pen_here, _law_most) -/
def g104 : Gam := { N := ["_law_pen_here", "_law_most", "_law_loops_here", "_law_room", "_law_before", "_law_k", "_law_size", "_law_low", "_law_way", "_law_none", "_law_ahead", "_law_stairs"], names := (defScope (top 51)).names, own := [⟨187, 26, 187, 90⟩, ⟨186, 25, 186, 49⟩, ⟨193, 25, 193, 37⟩, ⟨177, 22, 177, 24⟩], fns := [("_law_take", 102, 2)], cst := [], free := ["range", "tuple", "min", "sum", "int"], exc := [] }
/-- _law_deed(_law_pen_here, _law_widths, _law_many) -/
def g105 : Gam := { N := ["_law_pen_here", "_law_widths", "_law_many", "_law_table", "_law_place", "_law_start", "_law_parts", "_law_k", "_law_other", "_law_way", "_law_factor", "_law_j"], names := (defScope (top 52)).names, own := [⟨206, 17, 206, 19⟩], fns := [("_law_take", 102, 2), ("_law_form", 103, 3)], cst := [], free := ["tuple", "range", "len"], exc := [] }
/-- _law_program(_law_pen_here, _law_most) -/
def g106 : Gam := { N := ["_law_pen_here", "_law_most", "_law_widths", "_law_many", "_law_nests", "_law_k", "_law_deeds", "_law_loops_here", "_law_j"], names := (defScope (top 53)).names, own := [⟨218, 17, 218, 19⟩], fns := [("_law_take", 102, 2), ("_law_loops", 104, 2), ("_law_deed", 105, 3)], cst := [], free := ["tuple", "range", "max", "len"], exc := [] }
/-- _law_at(_law_form_here, _law_counts_here) -/
def g107 : Gam := { N := ["_law_form_here", "_law_counts_here", "_law_k"], names := (defScope (top 54)).names, own := [], fns := [], cst := [], free := ["sum", "range", "len"], exc := [] }
/-- _law_counts(_law_loops_here) -/
def g108 : Gam := { N := ["_law_loops_here", "_law_found", "_law_low", "_law_high", "_law_longer", "_law_counts_here", "_law_count"], names := (defScope (top 55)).names, own := [⟨229, 22, 229, 24⟩, ⟨227, 17, 227, 21⟩], fns := [("_law_at", 107, 2)], cst := [], free := ["range"], exc := [] }
/-- _law_spot(_law_table, _law_place, _law_counts_here) -/
def g109 : Gam := { N := ["_law_table", "_law_place", "_law_counts_here", "_law_form_here"], names := (defScope (top 56)).names, own := [], fns := [("_law_at", 107, 2)], cst := [], free := ["tuple"], exc := [] }
/-- _law_steps(_law_program_here) -/
def g110 : Gam := { N := ["_law_program_here", "_law_steps_here", "_law_loops_here", "_law_deeds", "_law_counts_here", "_law_table", "_law_place", "_law_start", "_law_parts", "_law_some", "_law_factor", "_law_other", "_law_there"], names := (defScope (top 57)).names, own := [⟨238, 22, 238, 24⟩], fns := [("_law_counts", 108, 1), ("_law_spot", 109, 3), ("_law_at", 107, 2)], cst := [], free := [], exc := [] }
/-- _law_order(_law_pen_here, _law_many) -/
def g112 : Gam := { N := ["_law_pen_here", "_law_many", "_law_found", "_law_t"], names := (defScope (top 58)).names, own := [⟨246, 17, 246, 19⟩], fns := [("_law_take", 102, 2)], cst := [], free := ["range", "len"], exc := [] }
/-- _law_touch(_law_one, _law_other) -/
def g111 : Gam := { N := ["_law_one", "_law_other", "_law_factor", "_law_spot_here"], names := (defScope (top 59)).names, own := [], fns := [], cst := [], free := [], exc := [] }
/-- _law_picked(_law_pen_here, _law_steps_here) -/
def g113 : Gam := { N := ["_law_pen_here", "_law_steps_here", "_law_order_here", "_law_left", "_law_at_here", "_law_t"], names := (defScope (top 60)).names, own := [⟨256, 16, 256, 49⟩, ⟨255, 22, 255, 24⟩], fns := [("_law_take", 102, 2), ("_law_touch", 111, 2)], cst := [], free := ["list", "range", "any", "len"], exc := [] }
/-- _law_exchanges(_law_order_here) -/
def g200 : Gam := { N := ["_law_order_here", "_law_now", "_law_found", "_law_end", "_law_at_here"], names := (defScope (top 61)).names, own := [⟨265, 17, 265, 19⟩], fns := [], cst := [], free := ["list", "range", "len"], exc := [] }
/-- _law_due(_law_steps_here, _law_places, _law_order_here) -/
def g201 : Gam := { N := ["_law_steps_here", "_law_places", "_law_order_here", "_law_now", "_law_place"], names := (defScope (top 62)).names, own := [], fns := [("_law_touch", 111, 2)], cst := [], free := ["list", "range", "len"], exc := [] }
/-- _law_bent(_law_pen_here, _law_places, _law_many) -/
def g202 : Gam := { N := ["_law_pen_here", "_law_places", "_law_many", "_law_at_here", "_law_odd", "_law_some"], names := (defScope (top 63)).names, own := [], fns := [("_law_take", 102, 2)], cst := [], free := ["len"], exc := [] }
/-- law(_law_script) -/
def g203 : Gam := { N := ["_law_script", "_law_pen_here", "_law_drawn", "_law_steps_here", "_law_program_here", "_law_picked_here", "_law_places", "_law_k", "_law_some", "_law_order_here", "_law_handed", "_law_found"], names := (defScope (top 64)).names, own := [⟨287, 20, 287, 44⟩], fns := [("_law_pen", 101, 2), ("_law_program", 106, 2), ("_law_steps", 110, 1), ("program_of", 16, 2), ("_law_picked", 113, 2), ("_law_exchanges", 200, 1), ("leads", 61, 3), ("_law_bent", 202, 3), ("_law_order", 112, 2), ("_law_due", 201, 3)], cst := [], free := ["range", "list", "len", "isinstance", "bool"], exc := [] }

def ir200_1 : CSs := (.cons (.asg (.nm 4) (.bin .sub false (.var 4) (.cst (.int 1)))) .nil)
def ir200_2 : CSs := (.cons (.asg (.nm 1) (.bin .add false (.bin .add false (.slc false (.var 1) .none (.some (.bin .sub false (.var 4) (.cst (.int 1))))) (.lst false (.cons (.idx (.var 1) (.var 4)) (.cons (.idx (.var 1) (.bin .sub false (.var 4) (.cst (.int 1)))) .nil)))) (.slc false (.var 1) (.some (.bin .add false (.var 4) (.cst (.int 1)))) .none))) ir200_1)
def ir200_b1 : CSs := (.cons (.ex (.me .append false (.var 2) (.cons (.bin .sub false (.var 4) (.cst (.int 1))) .nil))) ir200_2)
def ir200_3 : CSs := (.cons (.while (.tst (.cmp .gt (.var 4) (.var 3))) ir200_b1) .nil)
def ir200_b2 : CSs := (.cons (.asg (.nm 4) (.me .index false (.var 1) (.cons (.idx (.var 0) (.var 3)) .nil))) ir200_3)
def ir200_4 : CSs := (.cons (.ret (.var 2)) .nil)
def ir200_5 : CSs := (.cons (.for (.nm 3) (.rng1 (.bi .len false (.cons (.var 0) .nil))) ir200_b2) ir200_4)
def ir200_6 : CSs := (.cons (.asg (.nm 2) (.lst true .nil)) ir200_5)
def ir200 : CSs := (.cons (.asg (.nm 1) (.lrng false (.cons (.bi .len false (.cons (.var 0) .nil)) .nil))) ir200_6)
def n200 : List Str := ["_law_order_here", "_law_now", "_law_found", "_law_end", "_law_at_here"]
def ir201_1 : CSs := (.cons (.asg (.nm 3) (.bin .add false (.bin .add false (.slc false (.var 3) .none (.some (.var 4))) (.lst false (.cons (.idx (.var 3) (.bin .add false (.var 4) (.cst (.int 1)))) (.cons (.idx (.var 3) (.var 4)) .nil)))) (.slc false (.var 3) (.some (.bin .add false (.var 4) (.cst (.int 2)))) .none))) .nil)
def ir201_b1 : CSs := (.cons (.ite (.or (.not (.tst (.chn (.cst (.int 0)) (.more .le (.var 4) (.one .lt (.bin .sub false (.bi .len false (.cons (.var 3) .nil)) (.cst (.int 1)))))))) (.tst (.call 111 false (.cons (.idx (.var 0) (.idx (.var 3) (.var 4))) (.cons (.idx (.var 0) (.idx (.var 3) (.bin .add false (.var 4) (.cst (.int 1))))) .nil))))) (.cons (.ret (.cst (.bl false))) .nil) .nil) ir201_1)
def ir201_2 : CSs := (.cons (.ret (.cmp .eq (.var 3) (.var 2))) .nil)
def ir201_3 : CSs := (.cons (.for (.nm 4) (.seq (.var 1)) ir201_b1) ir201_2)
def ir201 : CSs := (.cons (.asg (.nm 3) (.lrng false (.cons (.bi .len false (.cons (.var 0) .nil)) .nil))) ir201_3)
def n201 : List Str := ["_law_steps_here", "_law_places", "_law_order_here", "_law_now", "_law_place"]
def ir202_1 : CSs := (.cons (.ret (.idx (.var 5) (.call 102 false (.cons (.var 0) (.cons (.cst (.int 7)) .nil))))) .nil)
def ir202_2 : CSs := (.cons (.asg (.nm 5) (.bin .add false (.var 5) (.lst false (.cons (.bin .add false (.rev false (.slc false (.var 1) .none (.some (.var 3)))) (.slc false (.var 1) (.some (.var 3)) .none)) (.cons (.bin .add false (.var 1) (.rev false (.var 1))) (.cons (.bin .add false (.bin .add false (.slc false (.var 1) .none (.some (.var 3))) (.lst false (.cons (.var 4) (.cons (.var 4) .nil)))) (.slc false (.var 1) (.some (.var 3)) .none)) (.cons (.lst false .nil) .nil))))))) ir202_1)
def ir202_3 : CSs := (.cons (.asg (.nm 5) (.lst false (.cons (.bin .add false (.slc false (.var 1) .none (.some (.var 3))) (.slc false (.var 1) (.some (.bin .add false (.var 3) (.cst (.int 1)))) .none)) (.cons (.bin .add false (.bin .add false (.slc false (.var 1) .none (.some (.var 3))) (.lst false (.cons (.var 4) .nil))) (.slc false (.var 1) (.some (.var 3)) .none)) (.cons (.bin .add false (.slc false (.var 1) .none (.some (.var 3))) (.bin .mul false (.slc false (.var 1) (.some (.var 3)) (.some (.bin .add false (.var 3) (.cst (.int 1))))) (.cst (.int 2)))) .nil))))) ir202_2)
def ir202_4 : CSs := (.cons (.asg (.nm 4) (.bin .sub false (.call 102 false (.cons (.var 0) (.cons (.bin .add false (.var 2) (.cst (.int 4))) .nil))) (.cst (.int 2)))) ir202_3)
def ir202 : CSs := (.cons (.asg (.nm 3) (.call 102 false (.cons (.var 0) (.cons (.bin .add false (.bi .len false (.cons (.var 1) .nil)) (.cst (.int 1))) .nil)))) ir202_4)
def n202 : List Str := ["_law_pen_here", "_law_places", "_law_many", "_law_at_here", "_law_odd", "_law_some"]
def ir203_1 : CSs := (.cons (.ite (.or (.not (.tst (.isi (.var 11) ["bool"]))) (.or (.tst (.cmp .ne (.var 11) (.call 201 false (.cons (.var 3) (.cons (.var 8) (.cons (.var 9) .nil)))))) (.tst (.cmp .ne (.var 10) (.tup (.cons (.var 8) (.cons (.var 9) .nil))))))) (.cons (.ret (.cst (.bl false))) .nil) .nil) .nil)
def ir203_2 : CSs := (.cons (.asg (.nm 11) (.call 61 false (.cons (.var 4) (.cons (.idx (.var 10) (.cst (.int 0))) (.cons (.idx (.var 10) (.cst (.int 1))) .nil))))) ir203_1)
def ir203_b1 : CSs := (.cons (.asg (.nm 10) (.tup (.cons (.bi .list false (.cons (.var 8) .nil)) (.cons (.bi .list false (.cons (.var 9) .nil)) .nil)))) ir203_2)
def ir203_3 : CSs := (.cons (.for (.nm 9) (.seq (.lst false (.cons (.var 5) (.cons (.lrng false (.cons (.bi .len false (.cons (.var 3) .nil)) .nil)) (.cons (.call 112 false (.cons (.var 1) (.cons (.bi .len false (.cons (.var 3) .nil)) .nil))) .nil))))) ir203_b1) .nil)
def ir203_b2 : CSs := (.cons (.asg (.nm 8) (.call 202 false (.cons (.var 1) (.cons (.var 6) (.cons (.bi .len false (.cons (.var 3) .nil)) .nil))))) ir203_3)
def ir203_4 : CSs := (.cons (.ret (.cst (.bl true))) .nil)
def ir203_5 : CSs := (.cons (.for (.nm 7) (.rng1 (.cst (.int 5))) ir203_b2) ir203_4)
def ir203_6 : CSs := (.cons (.ite (.tst (.cmp .isnot (.call 61 false (.cons (.var 4) (.cons (.bi .list false (.cons (.var 6) .nil)) (.cons (.bi .list false (.cons (.var 5) .nil)) .nil)))) (.cst (.bl true)))) (.cons (.ret (.cst (.bl false))) .nil) .nil) ir203_5)
def ir203_7 : CSs := (.cons (.asg (.nm 6) (.call 200 false (.cons (.var 5) .nil))) ir203_6)
def ir203_8 : CSs := (.cons (.asg (.nm 5) (.call 113 false (.cons (.var 1) (.cons (.var 3) .nil)))) ir203_7)
def ir203_9 : CSs := (.cons (.asg (.nm 4) (.call 16 false (.cons (.idx (.var 2) (.cst (.int 0))) (.cons (.idx (.var 2) (.cst (.int 1))) .nil)))) ir203_8)
def ir203_10 : CSs := (.cons (.asg (.nm 3) (.call 110 false (.cons (.var 2) .nil))) ir203_9)
def ir203_11 : CSs := (.cons (.asg (.nm 2) (.call 106 false (.cons (.var 1) (.cons (.cst (.int 16)) .nil)))) ir203_10)
def ir203 : CSs := (.cons (.asg (.nm 1) (.call 101 true (.cons (.var 0) (.cons (.cst (.int 1)) .nil)))) ir203_11)
def n203 : List Str := ["_law_script", "_law_pen_here", "_law_drawn", "_law_steps_here", "_law_program_here", "_law_picked_here", "_law_places", "_law_k", "_law_some", "_law_order_here", "_law_handed", "_law_found"]
theorem c0 : compSs 60 g0 (defBody (top 9)) = some irP_is_whole := by kernel_rfl
theorem s0 : FnScope g0.N ["thing"] (defScope (top 9)) := ⟨rfl, rfl, rfl, by decide +kernel, rfl, by decide +kernel, by decide +kernel⟩
def d0 : He.DefD := ⟨("is_whole", none), "is_whole", "is_whole", defArgs (top 9), defBody (top 9), defScope (top 9), [], []⟩
theorem b0 {K : PySem.W.Frag} {f : Addr} {fd : FuncData} (F : FunD K d0.name d0.qual d0.params d0.body d0.scope [] [] f fd) : Binds K fd ["thing"] [] := F.bindsN fun _ _ _ _ _ _ us hl => match us, hl with | [_], _ => rfl
theorem c1 : compSs 60 g1 (defBody (top 10)) = some irP_is_form := by kernel_rfl
theorem s1 : FnScope g1.N ["thing", "d"] (defScope (top 10)) := ⟨rfl, rfl, rfl, by decide +kernel, rfl, by decide +kernel, by decide +kernel⟩
def d1 : He.DefD := ⟨("is_form", none), "is_form", "is_form", defArgs (top 10), defBody (top 10), defScope (top 10), [], []⟩
theorem b1 {K : PySem.W.Frag} {f : Addr} {fd : FuncData} (F : FunD K d1.name d1.qual d1.params d1.body d1.scope [] [] f fd) : Binds K fd ["thing", "d"] [] := F.bindsN fun _ _ _ _ _ _ us hl => match us, hl with | [_, _], _ => rfl
theorem c2 : compSs 60 g2 (defBody (top 11)) = some irP_comes_to := by kernel_rfl
theorem s2 : FnScope g2.N ["form", "counts"] (defScope (top 11)) := ⟨rfl, rfl, rfl, by decide +kernel, rfl, by decide +kernel, by decide +kernel⟩
def d2 : He.DefD := ⟨("comes_to", none), "comes_to", "comes_to", defArgs (top 11), defBody (top 11), defScope (top 11), [], []⟩
theorem b2 {K : PySem.W.Frag} {f : Addr} {fd : FuncData} (F : FunD K d2.name d2.qual d2.params d2.body d2.scope [] [] f fd) : Binds K fd ["form", "counts"] [] := F.bindsN fun _ _ _ _ _ _ us hl => match us, hl with | [_, _], _ => rfl
theorem c3 : compSs 60 g3 (defBody (top 12)) = some irP_is_bound := by kernel_rfl
theorem s3 : FnScope g3.N ["thing", "d"] (defScope (top 12)) := ⟨rfl, rfl, rfl, by decide +kernel, rfl, by decide +kernel, by decide +kernel⟩
def d3 : He.DefD := ⟨("is_bound", none), "is_bound", "is_bound", defArgs (top 12), defBody (top 12), defScope (top 12), [], []⟩
theorem b3 {K : PySem.W.Frag} {f : Addr} {fd : FuncData} (F : FunD K d3.name d3.qual d3.params d3.body d3.scope [] [] f fd) : Binds K fd ["thing", "d"] [] := F.bindsN fun _ _ _ _ _ _ us hl => match us, hl with | [_, _], _ => rfl
theorem c4 : compSs 60 g4 (defBody (top 13)) = some irP_is_loops := by kernel_rfl
theorem s4 : FnScope g4.N ["thing"] (defScope (top 13)) := ⟨rfl, rfl, rfl, by decide +kernel, rfl, by decide +kernel, by decide +kernel⟩
def d4 : He.DefD := ⟨("is_loops", none), "is_loops", "is_loops", defArgs (top 13), defBody (top 13), defScope (top 13), [], []⟩
theorem b4 {K : PySem.W.Frag} {f : Addr} {fd : FuncData} (F : FunD K d4.name d4.qual d4.params d4.body d4.scope [] [] f fd) : Binds K fd ["thing"] [] := F.bindsN fun _ _ _ _ _ _ us hl => match us, hl with | [_], _ => rfl
theorem c5 : compSs 60 g5 (defBody (top 14)) = some irP_counts_behind := by kernel_rfl
theorem s5 : FnScope g5.N ["loops", "counts"] (defScope (top 14)) := ⟨rfl, rfl, rfl, by decide +kernel, rfl, by decide +kernel, by decide +kernel⟩
def d5 : He.DefD := ⟨("counts_behind", none), "counts_behind", "counts_behind", defArgs (top 14), defBody (top 14), defScope (top 14), [], []⟩
theorem b5 {K : PySem.W.Frag} {f : Addr} {fd : FuncData} (F : FunD K d5.name d5.qual d5.params d5.body d5.scope [] [] f fd) : Binds K fd ["loops", "counts"] [] := F.bindsN fun _ _ _ _ _ _ us hl => match us, hl with | [_, _], _ => rfl
theorem c6 : compSs 60 g6 (defBody (top 15)) = some irP_counts_of := by kernel_rfl
theorem s6 : FnScope g6.N ["loops"] (defScope (top 15)) := ⟨rfl, rfl, rfl, by decide +kernel, rfl, by decide +kernel, by decide +kernel⟩
def d6 : He.DefD := ⟨("counts_of", none), "counts_of", "counts_of", defArgs (top 15), defBody (top 15), defScope (top 15), [], []⟩
theorem b6 {K : PySem.W.Frag} {f : Addr} {fd : FuncData} (F : FunD K d6.name d6.qual d6.params d6.body d6.scope [] [] f fd) : Binds K fd ["loops"] [] := F.bindsN fun _ _ _ _ _ _ us hl => match us, hl with | [_], _ => rfl
theorem c7 : compSs 60 g7 (defBody (top 16)) = some irP_are_more := by kernel_rfl
theorem s7 : FnScope g7.N ["loops", "counts", "most"] (defScope (top 16)) := ⟨rfl, rfl, rfl, by decide +kernel, rfl, by decide +kernel, by decide +kernel⟩
def d7 : He.DefD := ⟨("are_more", none), "are_more", "are_more", defArgs (top 16), defBody (top 16), defScope (top 16), [], []⟩
theorem b7 {K : PySem.W.Frag} {f : Addr} {fd : FuncData} (F : FunD K d7.name d7.qual d7.params d7.body d7.scope [] [] f fd) : Binds K fd ["loops", "counts", "most"] [] := F.bindsN fun _ _ _ _ _ _ us hl => match us, hl with | [_, _, _], _ => rfl
theorem c8 : compSs 60 g8 (defBody (top 17)) = some irP_how_many := by kernel_rfl
theorem s8 : FnScope g8.N ["loops", "most"] (defScope (top 17)) := ⟨rfl, rfl, rfl, by decide +kernel, rfl, by decide +kernel, by decide +kernel⟩
def d8 : He.DefD := ⟨("how_many", none), "how_many", "how_many", defArgs (top 17), defBody (top 17), defScope (top 17), [], []⟩
theorem b8 {K : PySem.W.Frag} {f : Addr} {fd : FuncData} (F : FunD K d8.name d8.qual d8.params d8.body d8.scope [] [] f fd) : Binds K fd ["loops", "most"] [] := F.bindsN fun _ _ _ _ _ _ us hl => match us, hl with | [_, _], _ => rfl
theorem c9 : compSs 60 g9 (defBody (top 26)) = some irP_is_tuple_of := by kernel_rfl
theorem s9 : FnScope g9.N ["thing", "low", "high"] (defScope (top 26)) := ⟨rfl, rfl, rfl, by decide +kernel, rfl, by decide +kernel, by decide +kernel⟩
def d9 : He.DefD := ⟨("is_tuple_of", none), "is_tuple_of", "is_tuple_of", defArgs (top 26), defBody (top 26), defScope (top 26), [], []⟩
theorem b9 {K : PySem.W.Frag} {f : Addr} {fd : FuncData} (F : FunD K d9.name d9.qual d9.params d9.body d9.scope [] [] f fd) : Binds K fd ["thing", "low", "high"] [] := F.bindsN fun _ _ _ _ _ _ us hl => match us, hl with | [_, _, _], _ => rfl
theorem c10 : compSs 60 g10 (defBody (top 27)) = some irP_are_widths := by kernel_rfl
theorem s10 : FnScope g10.N ["thing"] (defScope (top 27)) := ⟨rfl, rfl, rfl, by decide +kernel, rfl, by decide +kernel, by decide +kernel⟩
def d10 : He.DefD := ⟨("are_widths", none), "are_widths", "are_widths", defArgs (top 27), defBody (top 27), defScope (top 27), [], []⟩
theorem b10 {K : PySem.W.Frag} {f : Addr} {fd : FuncData} (F : FunD K d10.name d10.qual d10.params d10.body d10.scope [] [] f fd) : Binds K fd ["thing"] [] := F.bindsN fun _ _ _ _ _ _ us hl => match us, hl with | [_], _ => rfl
theorem c11 : compSs 60 g11 (defBody (top 28)) = some irP_is_cell := by kernel_rfl
theorem s11 : FnScope g11.N ["widths", "d", "table", "place"] (defScope (top 28)) := ⟨rfl, rfl, rfl, by decide +kernel, rfl, by decide +kernel, by decide +kernel⟩
def d11 : He.DefD := ⟨("is_cell", none), "is_cell", "is_cell", defArgs (top 28), defBody (top 28), defScope (top 28), [], []⟩
theorem b11 {K : PySem.W.Frag} {f : Addr} {fd : FuncData} (F : FunD K d11.name d11.qual d11.params d11.body d11.scope [] [] f fd) : Binds K fd ["widths", "d", "table", "place"] [] := F.bindsN fun _ _ _ _ _ _ us hl => match us, hl with | [_, _, _, _], _ => rfl
theorem c12 : compSs 60 g12 (defBody (top 29)) = some irP_is_great_form := by kernel_rfl
theorem s12 : FnScope g12.N ["thing", "d"] (defScope (top 29)) := ⟨rfl, rfl, rfl, by decide +kernel, rfl, by decide +kernel, by decide +kernel⟩
def d12 : He.DefD := ⟨("is_great_form", none), "is_great_form", "is_great_form", defArgs (top 29), defBody (top 29), defScope (top 29), [], []⟩
theorem b12 {K : PySem.W.Frag} {f : Addr} {fd : FuncData} (F : FunD K d12.name d12.qual d12.params d12.body d12.scope [] [] f fd) : Binds K fd ["thing", "d"] [] := F.bindsN fun _ _ _ _ _ _ us hl => match us, hl with | [_, _], _ => rfl
theorem c13 : compSs 60 g13 (defBody (top 30)) = some irP_is_read := by kernel_rfl
theorem s13 : FnScope g13.N ["widths", "d", "thing"] (defScope (top 30)) := ⟨rfl, rfl, rfl, by decide +kernel, rfl, by decide +kernel, by decide +kernel⟩
def d13 : He.DefD := ⟨("is_read", none), "is_read", "is_read", defArgs (top 30), defBody (top 30), defScope (top 30), [], []⟩
theorem b13 {K : PySem.W.Frag} {f : Addr} {fd : FuncData} (F : FunD K d13.name d13.qual d13.params d13.body d13.scope [] [] f fd) : Binds K fd ["widths", "d", "thing"] [] := F.bindsN fun _ _ _ _ _ _ us hl => match us, hl with | [_, _, _], _ => rfl
theorem c14 : compSs 60 g14 (defBody (top 31)) = some irP_is_deed := by kernel_rfl
theorem s14 : FnScope g14.N ["widths", "d", "thing"] (defScope (top 31)) := ⟨rfl, rfl, rfl, by decide +kernel, rfl, by decide +kernel, by decide +kernel⟩
def d14 : He.DefD := ⟨("is_deed", none), "is_deed", "is_deed", defArgs (top 31), defBody (top 31), defScope (top 31), [], []⟩
theorem b14 {K : PySem.W.Frag} {f : Addr} {fd : FuncData} (F : FunD K d14.name d14.qual d14.params d14.body d14.scope [] [] f fd) : Binds K fd ["widths", "d", "thing"] [] := F.bindsN fun _ _ _ _ _ _ us hl => match us, hl with | [_, _, _], _ => rfl
theorem c15 : compSs 60 g15 (defBody (top 32)) = some irP_is_nest := by kernel_rfl
theorem s15 : FnScope g15.N ["widths", "thing"] (defScope (top 32)) := ⟨rfl, rfl, rfl, by decide +kernel, rfl, by decide +kernel, by decide +kernel⟩
def d15 : He.DefD := ⟨("is_nest", none), "is_nest", "is_nest", defArgs (top 32), defBody (top 32), defScope (top 32), [], []⟩
theorem b15 {K : PySem.W.Frag} {f : Addr} {fd : FuncData} (F : FunD K d15.name d15.qual d15.params d15.body d15.scope [] [] f fd) : Binds K fd ["widths", "thing"] [] := F.bindsN fun _ _ _ _ _ _ us hl => match us, hl with | [_, _], _ => rfl
theorem c16 : compSs 60 g16 (defBody (top 33)) = some irP_program_of := by kernel_rfl
theorem s16 : FnScope g16.N ["widths", "nests"] (defScope (top 33)) := ⟨rfl, rfl, rfl, by decide +kernel, rfl, by decide +kernel, by decide +kernel⟩
def d16 : He.DefD := ⟨("program_of", none), "program_of", "program_of", defArgs (top 33), defBody (top 33), defScope (top 33), [], []⟩
theorem b16 {K : PySem.W.Frag} {f : Addr} {fd : FuncData} (F : FunD K d16.name d16.qual d16.params d16.body d16.scope [] [] f fd) : Binds K fd ["widths", "nests"] [] := F.bindsN fun _ _ _ _ _ _ us hl => match us, hl with | [_, _], _ => rfl
theorem c17 : compSs 60 g17 (defBody (top 34)) = some irP_steps_of := by kernel_rfl
theorem s17 : FnScope g17.N ["program"] (defScope (top 34)) := ⟨rfl, rfl, rfl, by decide +kernel, rfl, by decide +kernel, by decide +kernel⟩
def d17 : He.DefD := ⟨("steps_of", none), "steps_of", "steps_of", defArgs (top 34), defBody (top 34), defScope (top 34), [], []⟩
theorem b17 {K : PySem.W.Frag} {f : Addr} {fd : FuncData} (F : FunD K d17.name d17.qual d17.params d17.body d17.scope [] [] f fd) : Binds K fd ["program"] [] := F.bindsN fun _ _ _ _ _ _ us hl => match us, hl with | [_], _ => rfl
theorem c18 : compSs 60 g18 (defBody (top 35)) = some irP_cell_at := by kernel_rfl
theorem s18 : FnScope g18.N ["table", "place", "counts"] (defScope (top 35)) := ⟨rfl, rfl, rfl, by decide +kernel, rfl, by decide +kernel, by decide +kernel⟩
def d18 : He.DefD := ⟨("cell_at", none), "cell_at", "cell_at", defArgs (top 35), defBody (top 35), defScope (top 35), [], []⟩
theorem b18 {K : PySem.W.Frag} {f : Addr} {fd : FuncData} (F : FunD K d18.name d18.qual d18.params d18.body d18.scope [] [] f fd) : Binds K fd ["table", "place", "counts"] [] := F.bindsN fun _ _ _ _ _ _ us hl => match us, hl with | [_, _, _], _ => rfl
theorem c19 : compSs 60 g19 (defBody (top 36)) = some irP_cells_of_step := by kernel_rfl
theorem s19 : FnScope g19.N ["program", "step"] (defScope (top 36)) := ⟨rfl, rfl, rfl, by decide +kernel, rfl, by decide +kernel, by decide +kernel⟩
def d19 : He.DefD := ⟨("cells_of_step", none), "cells_of_step", "cells_of_step", defArgs (top 36), defBody (top 36), defScope (top 36), [], []⟩
theorem b19 {K : PySem.W.Frag} {f : Addr} {fd : FuncData} (F : FunD K d19.name d19.qual d19.params d19.body d19.scope [] [] f fd) : Binds K fd ["program", "step"] [] := F.bindsN fun _ _ _ _ _ _ us hl => match us, hl with | [_, _], _ => rfl
theorem c20 : compSs 60 g20 (defBody (top 37)) = some irP_cells_of := by kernel_rfl
theorem s20 : FnScope g20.N ["program"] (defScope (top 37)) := ⟨rfl, rfl, rfl, by decide +kernel, rfl, by decide +kernel, by decide +kernel⟩
def d20 : He.DefD := ⟨("cells_of", none), "cells_of", "cells_of", defArgs (top 37), defBody (top 37), defScope (top 37), [], []⟩
theorem b20 {K : PySem.W.Frag} {f : Addr} {fd : FuncData} (F : FunD K d20.name d20.qual d20.params d20.body d20.scope [] [] f fd) : Binds K fd ["program"] [] := F.bindsN fun _ _ _ _ _ _ us hl => match us, hl with | [_], _ => rfl
theorem c21 : compSs 60 g21 (defBody (top 39)) = some irP_plain := by kernel_rfl
theorem s21 : FnScope g21.N ["program"] (defScope (top 39)) := ⟨rfl, rfl, rfl, by decide +kernel, rfl, by decide +kernel, by decide +kernel⟩
def d21 : He.DefD := ⟨("plain", none), "plain", "plain", defArgs (top 39), defBody (top 39), defScope (top 39), [], []⟩
theorem b21 {K : PySem.W.Frag} {f : Addr} {fd : FuncData} (F : FunD K d21.name d21.qual d21.params d21.body d21.scope [] [] f fd) : Binds K fd ["program"] [] := F.bindsN fun _ _ _ _ _ _ us hl => match us, hl with | [_], _ => rfl
theorem c22 : compSs 60 g22 (defBody (top 40)) = some irP_ask_row := by kernel_rfl
theorem s22 : FnScope g22.N ["many", "row"] (defScope (top 40)) := ⟨rfl, rfl, rfl, by decide +kernel, rfl, by decide +kernel, by decide +kernel⟩
def d22 : He.DefD := ⟨("ask_row", none), "ask_row", "ask_row", defArgs (top 40), defBody (top 40), defScope (top 40), [], []⟩
theorem b22 {K : PySem.W.Frag} {f : Addr} {fd : FuncData} (F : FunD K d22.name d22.qual d22.params d22.body d22.scope [] [] f fd) : Binds K fd ["many", "row"] [] := F.bindsN fun _ _ _ _ _ _ us hl => match us, hl with | [_, _], _ => rfl
theorem c23 : compSs 60 g23 (defBody (top 41)) = some irP_ask_order := by kernel_rfl
theorem s23 : FnScope g23.N ["many", "order"] (defScope (top 41)) := ⟨rfl, rfl, rfl, by decide +kernel, rfl, by decide +kernel, by decide +kernel⟩
def d23 : He.DefD := ⟨("ask_order", none), "ask_order", "ask_order", defArgs (top 41), defBody (top 41), defScope (top 41), [], []⟩
theorem b23 {K : PySem.W.Frag} {f : Addr} {fd : FuncData} (F : FunD K d23.name d23.qual d23.params d23.body d23.scope [] [] f fd) : Binds K fd ["many", "order"] [] := F.bindsN fun _ _ _ _ _ _ us hl => match us, hl with | [_, _], _ => rfl
theorem c29 : compSs 60 g29 (defBody (top 43)) = some irP_shared_cells := by kernel_rfl
theorem s29 : FnScope g29.N ["one", "other"] (defScope (top 43)) := ⟨rfl, rfl, rfl, by decide +kernel, rfl, by decide +kernel, by decide +kernel⟩
def d29 : He.DefD := ⟨("shared_cells", none), "shared_cells", "shared_cells", defArgs (top 43), defBody (top 43), defScope (top 43), [], []⟩
theorem b29 {K : PySem.W.Frag} {f : Addr} {fd : FuncData} (F : FunD K d29.name d29.qual d29.params d29.body d29.scope [] [] f fd) : Binds K fd ["one", "other"] [] := F.bindsN fun _ _ _ _ _ _ us hl => match us, hl with | [_, _], _ => rfl
theorem c61 : compSs 60 g61 (defBody (top 45)) = some irP_leads := by kernel_rfl
theorem s61 : FnScope g61.N ["program", "exchanges", "order"] (defScope (top 45)) := ⟨rfl, rfl, rfl, by decide +kernel, rfl, by decide +kernel, by decide +kernel⟩
def d61 : He.DefD := ⟨("leads", none), "leads", "leads", defArgs (top 45), defBody (top 45), defScope (top 45), [], []⟩
theorem b61 {K : PySem.W.Frag} {f : Addr} {fd : FuncData} (F : FunD K d61.name d61.qual d61.params d61.body d61.scope [] [] f fd) : Binds K fd ["program", "exchanges", "order"] [] := F.bindsN fun _ _ _ _ _ _ us hl => match us, hl with | [_, _, _], _ => rfl
theorem c100 : compSs 60 g100 (defBody (top 47)) = some irB_cell := by kernel_rfl
theorem s100 : FnScope g100.N ["_law_script", "_law_k"] (defScope (top 47)) := ⟨rfl, rfl, rfl, by decide +kernel, rfl, by decide +kernel, by decide +kernel⟩
def d100 : He.DefD := ⟨("_law_cell", none), "_law_cell", "_law_cell", defArgs (top 47), defBody (top 47), defScope (top 47), [], []⟩
theorem b100 {K : PySem.W.Frag} {f : Addr} {fd : FuncData} (F : FunD K d100.name d100.qual d100.params d100.body d100.scope [] [] f fd) : Binds K fd ["_law_script", "_law_k"] [] := F.bindsN fun _ _ _ _ _ _ us hl => match us, hl with | [_, _], _ => rfl
theorem c101 : compSs 60 g101 (defBody (top 48)) = some irB_pen := by kernel_rfl
theorem s101 : FnScope g101.N ["_law_script", "_law_k"] (defScope (top 48)) := ⟨rfl, rfl, rfl, by decide +kernel, rfl, by decide +kernel, by decide +kernel⟩
def d101 : He.DefD := ⟨("_law_pen", none), "_law_pen", "_law_pen", defArgs (top 48), defBody (top 48), defScope (top 48), [], []⟩
theorem b101 {K : PySem.W.Frag} {f : Addr} {fd : FuncData} (F : FunD K d101.name d101.qual d101.params d101.body d101.scope [] [] f fd) : Binds K fd ["_law_script", "_law_k"] [] := F.bindsN fun _ _ _ _ _ _ us hl => match us, hl with | [_, _], _ => rfl
theorem c102 : compSs 60 g102 (defBody (top 49)) = some irB_take := by kernel_rfl
theorem s102 : FnScope g102.N ["_law_pen_here", "_law_many"] (defScope (top 49)) := ⟨rfl, rfl, rfl, by decide +kernel, rfl, by decide +kernel, by decide +kernel⟩
def d102 : He.DefD := ⟨("_law_take", none), "_law_take", "_law_take", defArgs (top 49), defBody (top 49), defScope (top 49), [], []⟩
theorem b102 {K : PySem.W.Frag} {f : Addr} {fd : FuncData} (F : FunD K d102.name d102.qual d102.params d102.body d102.scope [] [] f fd) : Binds K fd ["_law_pen_here", "_law_many"] [] := F.bindsN fun _ _ _ _ _ _ us hl => match us, hl with | [_, _], _ => rfl
theorem c103 : compSs 60 g103 (defBody (top 50)) = some irB_form := by kernel_rfl
theorem s103 : FnScope g103.N ["_law_pen_here", "_law_many", "_law_wide"] (defScope (top 50)) := ⟨rfl, rfl, rfl, by decide +kernel, rfl, by decide +kernel, by decide +kernel⟩
def d103 : He.DefD := ⟨("_law_form", none), "_law_form", "_law_form", defArgs (top 50), defBody (top 50), defScope (top 50), [], []⟩
theorem b103 {K : PySem.W.Frag} {f : Addr} {fd : FuncData} (F : FunD K d103.name d103.qual d103.params d103.body d103.scope [] [] f fd) : Binds K fd ["_law_pen_here", "_law_many", "_law_wide"] [] := F.bindsN fun _ _ _ _ _ _ us hl => match us, hl with | [_, _, _], _ => rfl
theorem c104 : compSs 60 g104 (defBody (top 51)) = some irB_loops := by kernel_rfl
theorem s104 : FnScope g104.N ["_law_pen_here", "_law_most"] (defScope (top 51)) := ⟨rfl, rfl, rfl, by decide +kernel, rfl, by decide +kernel, by decide +kernel⟩
def d104 : He.DefD := ⟨("_law_loops", none), "_law_loops", "_law_loops", defArgs (top 51), defBody (top 51), defScope (top 51), [], []⟩
theorem b104 {K : PySem.W.Frag} {f : Addr} {fd : FuncData} (F : FunD K d104.name d104.qual d104.params d104.body d104.scope [] [] f fd) : Binds K fd ["_law_pen_here", "_law_most"] [] := F.bindsN fun _ _ _ _ _ _ us hl => match us, hl with | [_, _], _ => rfl
theorem c105 : compSs 60 g105 (defBody (top 52)) = some irB_deed := by kernel_rfl
theorem s105 : FnScope g105.N ["_law_pen_here", "_law_widths", "_law_many"] (defScope (top 52)) := ⟨rfl, rfl, rfl, by decide +kernel, rfl, by decide +kernel, by decide +kernel⟩
def d105 : He.DefD := ⟨("_law_deed", none), "_law_deed", "_law_deed", defArgs (top 52), defBody (top 52), defScope (top 52), [], []⟩
theorem b105 {K : PySem.W.Frag} {f : Addr} {fd : FuncData} (F : FunD K d105.name d105.qual d105.params d105.body d105.scope [] [] f fd) : Binds K fd ["_law_pen_here", "_law_widths", "_law_many"] [] := F.bindsN fun _ _ _ _ _ _ us hl => match us, hl with | [_, _, _], _ => rfl
theorem c106 : compSs 60 g106 (defBody (top 53)) = some irB_program := by kernel_rfl
theorem s106 : FnScope g106.N ["_law_pen_here", "_law_most"] (defScope (top 53)) := ⟨rfl, rfl, rfl, by decide +kernel, rfl, by decide +kernel, by decide +kernel⟩
def d106 : He.DefD := ⟨("_law_program", none), "_law_program", "_law_program", defArgs (top 53), defBody (top 53), defScope (top 53), [], []⟩
theorem b106 {K : PySem.W.Frag} {f : Addr} {fd : FuncData} (F : FunD K d106.name d106.qual d106.params d106.body d106.scope [] [] f fd) : Binds K fd ["_law_pen_here", "_law_most"] [] := F.bindsN fun _ _ _ _ _ _ us hl => match us, hl with | [_, _], _ => rfl
theorem c107 : compSs 60 g107 (defBody (top 54)) = some irB_at := by kernel_rfl
theorem s107 : FnScope g107.N ["_law_form_here", "_law_counts_here"] (defScope (top 54)) := ⟨rfl, rfl, rfl, by decide +kernel, rfl, by decide +kernel, by decide +kernel⟩
def d107 : He.DefD := ⟨("_law_at", none), "_law_at", "_law_at", defArgs (top 54), defBody (top 54), defScope (top 54), [], []⟩
theorem b107 {K : PySem.W.Frag} {f : Addr} {fd : FuncData} (F : FunD K d107.name d107.qual d107.params d107.body d107.scope [] [] f fd) : Binds K fd ["_law_form_here", "_law_counts_here"] [] := F.bindsN fun _ _ _ _ _ _ us hl => match us, hl with | [_, _], _ => rfl
theorem c108 : compSs 60 g108 (defBody (top 55)) = some irB_counts := by kernel_rfl
theorem s108 : FnScope g108.N ["_law_loops_here"] (defScope (top 55)) := ⟨rfl, rfl, rfl, by decide +kernel, rfl, by decide +kernel, by decide +kernel⟩
def d108 : He.DefD := ⟨("_law_counts", none), "_law_counts", "_law_counts", defArgs (top 55), defBody (top 55), defScope (top 55), [], []⟩
theorem b108 {K : PySem.W.Frag} {f : Addr} {fd : FuncData} (F : FunD K d108.name d108.qual d108.params d108.body d108.scope [] [] f fd) : Binds K fd ["_law_loops_here"] [] := F.bindsN fun _ _ _ _ _ _ us hl => match us, hl with | [_], _ => rfl
theorem c109 : compSs 60 g109 (defBody (top 56)) = some irB_spot := by kernel_rfl
theorem s109 : FnScope g109.N ["_law_table", "_law_place", "_law_counts_here"] (defScope (top 56)) := ⟨rfl, rfl, rfl, by decide +kernel, rfl, by decide +kernel, by decide +kernel⟩
def d109 : He.DefD := ⟨("_law_spot", none), "_law_spot", "_law_spot", defArgs (top 56), defBody (top 56), defScope (top 56), [], []⟩
theorem b109 {K : PySem.W.Frag} {f : Addr} {fd : FuncData} (F : FunD K d109.name d109.qual d109.params d109.body d109.scope [] [] f fd) : Binds K fd ["_law_table", "_law_place", "_law_counts_here"] [] := F.bindsN fun _ _ _ _ _ _ us hl => match us, hl with | [_, _, _], _ => rfl
theorem c110 : compSs 60 g110 (defBody (top 57)) = some irB_steps := by kernel_rfl
theorem s110 : FnScope g110.N ["_law_program_here"] (defScope (top 57)) := ⟨rfl, rfl, rfl, by decide +kernel, rfl, by decide +kernel, by decide +kernel⟩
def d110 : He.DefD := ⟨("_law_steps", none), "_law_steps", "_law_steps", defArgs (top 57), defBody (top 57), defScope (top 57), [], []⟩
theorem b110 {K : PySem.W.Frag} {f : Addr} {fd : FuncData} (F : FunD K d110.name d110.qual d110.params d110.body d110.scope [] [] f fd) : Binds K fd ["_law_program_here"] [] := F.bindsN fun _ _ _ _ _ _ us hl => match us, hl with | [_], _ => rfl
theorem c112 : compSs 60 g112 (defBody (top 58)) = some irB_order := by kernel_rfl
theorem s112 : FnScope g112.N ["_law_pen_here", "_law_many"] (defScope (top 58)) := ⟨rfl, rfl, rfl, by decide +kernel, rfl, by decide +kernel, by decide +kernel⟩
def d112 : He.DefD := ⟨("_law_order", none), "_law_order", "_law_order", defArgs (top 58), defBody (top 58), defScope (top 58), [], []⟩
theorem b112 {K : PySem.W.Frag} {f : Addr} {fd : FuncData} (F : FunD K d112.name d112.qual d112.params d112.body d112.scope [] [] f fd) : Binds K fd ["_law_pen_here", "_law_many"] [] := F.bindsN fun _ _ _ _ _ _ us hl => match us, hl with | [_, _], _ => rfl
theorem c111 : compSs 60 g111 (defBody (top 59)) = some irB_touch := by kernel_rfl
theorem s111 : FnScope g111.N ["_law_one", "_law_other"] (defScope (top 59)) := ⟨rfl, rfl, rfl, by decide +kernel, rfl, by decide +kernel, by decide +kernel⟩
def d111 : He.DefD := ⟨("_law_touch", none), "_law_touch", "_law_touch", defArgs (top 59), defBody (top 59), defScope (top 59), [], []⟩
theorem b111 {K : PySem.W.Frag} {f : Addr} {fd : FuncData} (F : FunD K d111.name d111.qual d111.params d111.body d111.scope [] [] f fd) : Binds K fd ["_law_one", "_law_other"] [] := F.bindsN fun _ _ _ _ _ _ us hl => match us, hl with | [_, _], _ => rfl
theorem c113 : compSs 60 g113 (defBody (top 60)) = some irB_picked := by kernel_rfl
theorem s113 : FnScope g113.N ["_law_pen_here", "_law_steps_here"] (defScope (top 60)) := ⟨rfl, rfl, rfl, by decide +kernel, rfl, by decide +kernel, by decide +kernel⟩
def d113 : He.DefD := ⟨("_law_picked", none), "_law_picked", "_law_picked", defArgs (top 60), defBody (top 60), defScope (top 60), [], []⟩
theorem b113 {K : PySem.W.Frag} {f : Addr} {fd : FuncData} (F : FunD K d113.name d113.qual d113.params d113.body d113.scope [] [] f fd) : Binds K fd ["_law_pen_here", "_law_steps_here"] [] := F.bindsN fun _ _ _ _ _ _ us hl => match us, hl with | [_, _], _ => rfl
theorem c200 : compSs 60 g200 (defBody (top 61)) = some ir200 := by kernel_rfl
theorem s200 : FnScope g200.N ["_law_order_here"] (defScope (top 61)) := ⟨rfl, rfl, rfl, by decide +kernel, rfl, by decide +kernel, by decide +kernel⟩
def d200 : He.DefD := ⟨("_law_exchanges", none), "_law_exchanges", "_law_exchanges", defArgs (top 61), defBody (top 61), defScope (top 61), [], []⟩
theorem b200 {K : PySem.W.Frag} {f : Addr} {fd : FuncData} (F : FunD K d200.name d200.qual d200.params d200.body d200.scope [] [] f fd) : Binds K fd ["_law_order_here"] [] := F.bindsN fun _ _ _ _ _ _ us hl => match us, hl with | [_], _ => rfl
theorem c201 : compSs 60 g201 (defBody (top 62)) = some ir201 := by kernel_rfl
theorem s201 : FnScope g201.N ["_law_steps_here", "_law_places", "_law_order_here"] (defScope (top 62)) := ⟨rfl, rfl, rfl, by decide +kernel, rfl, by decide +kernel, by decide +kernel⟩
def d201 : He.DefD := ⟨("_law_due", none), "_law_due", "_law_due", defArgs (top 62), defBody (top 62), defScope (top 62), [], []⟩
theorem b201 {K : PySem.W.Frag} {f : Addr} {fd : FuncData} (F : FunD K d201.name d201.qual d201.params d201.body d201.scope [] [] f fd) : Binds K fd ["_law_steps_here", "_law_places", "_law_order_here"] [] := F.bindsN fun _ _ _ _ _ _ us hl => match us, hl with | [_, _, _], _ => rfl
theorem c202 : compSs 60 g202 (defBody (top 63)) = some ir202 := by kernel_rfl
theorem s202 : FnScope g202.N ["_law_pen_here", "_law_places", "_law_many"] (defScope (top 63)) := ⟨rfl, rfl, rfl, by decide +kernel, rfl, by decide +kernel, by decide +kernel⟩
def d202 : He.DefD := ⟨("_law_bent", none), "_law_bent", "_law_bent", defArgs (top 63), defBody (top 63), defScope (top 63), [], []⟩
theorem b202 {K : PySem.W.Frag} {f : Addr} {fd : FuncData} (F : FunD K d202.name d202.qual d202.params d202.body d202.scope [] [] f fd) : Binds K fd ["_law_pen_here", "_law_places", "_law_many"] [] := F.bindsN fun _ _ _ _ _ _ us hl => match us, hl with | [_, _, _], _ => rfl
theorem c203 : compSs 60 g203 (defBody (top 64)) = some ir203 := by kernel_rfl
theorem s203 : FnScope g203.N ["_law_script"] (defScope (top 64)) := ⟨rfl, rfl, rfl, by decide +kernel, rfl, by decide +kernel, by decide +kernel⟩
def d203 : He.DefD := ⟨("law", none), "law", "law", defArgs (top 64), defBody (top 64), defScope (top 64), [], []⟩
theorem b203 {K : PySem.W.Frag} {f : Addr} {fd : FuncData} (F : FunD K d203.name d203.qual d203.params d203.body d203.scope [] [] f fd) : Binds K fd ["_law_script"] [] := F.bindsN fun _ _ _ _ _ _ us hl => match us, hl with | [_], _ => rfl
def fnl : List He.DefD := d0 :: d1 :: d2 :: d3 :: d4 :: d5 :: d6 :: d7 :: d8 :: d9 :: d10 :: d11 :: d12 :: d13 :: d14 :: d15 :: d16 :: d17 :: d18 :: d19 :: d20 :: d21 :: d22 :: d23 :: d29 :: d61 :: d100 :: d101 :: d102 :: d103 :: d104 :: d105 :: d106 :: d107 :: d108 :: d109 :: d110 :: d112 :: d111 :: d113 :: d200 :: d201 :: d202 :: d203 :: []
def glos : List Str := "is_whole" :: "is_form" :: "comes_to" :: "is_bound" :: "is_loops" :: "counts_behind" :: "counts_of" :: "are_more" :: "how_many" :: "is_tuple_of" :: "are_widths" :: "is_cell" :: "is_great_form" :: "is_read" :: "is_deed" :: "is_nest" :: "program_of" :: "steps_of" :: "cell_at" :: "cells_of_step" :: "cells_of" :: "plain" :: "ask_row" :: "ask_order" :: "shared_cells" :: "leads" :: "_law_cell" :: "_law_pen" :: "_law_take" :: "_law_form" :: "_law_loops" :: "_law_deed" :: "_law_program" :: "_law_at" :: "_law_counts" :: "_law_spot" :: "_law_steps" :: "_law_order" :: "_law_touch" :: "_law_picked" :: "_law_exchanges" :: "_law_due" :: "_law_bent" :: "law" :: []
def frees : List Str := ["isinstance", "int", "bool", "all", "tuple", "len", "sum", "zip", "abs", "enumerate", "range", "max", "list", "set", "sorted", "min", "any"]
def excs : List Str := ["TurnError", "NoProgram", "TooMany", "NoOrder"]
def nums : List (Str × Int) := [("FIRST", 9), ("OTHERS", 2), ("MOST_LOOPS", 3), ("MOST_TABLES", 3), ("PLACES", 99), ("GREAT", 1000000000000000000000000000000), ("MOST_READS", 3), ("MOST_DEEDS", 4), ("MOST_STEPS", 60), ("MOST_NESTS", 3)]
end K37
end
section
set_option maxRecDepth 100000
set_option maxHeartbeats 2000000
namespace K37
open PySem PySem.Spec L2 DL
open PyProof.Rows hiding St wpS
local macro_rules | `(tactic| walk_at "go") => `(tactic| try simp only [wpSs, wpS, wpE, wpEs, wpT, wpC, wpO, wpL, wpI, wpH, List.getElem?_cons_zero, List.getElem?_cons_succ, List.set_cons_zero, List.set_cons_succ, biD, dQ, dL, cmpD, truD, idxD, binD, tgD, tgDs, frzQ, newL, List.any_cons, List.any_nil, Bool.or_false, wipeS, at0, at1, at2, at3, at4, at5])
local macro_rules | `(tactic| walk_at "sl") => `(tactic| try simp only [wpSs, wpS, wpE, wpEs, wpT, wpC, wpO, wpL, wpI, wpH, List.getElem?_cons_zero, List.getElem?_cons_succ, List.set_cons_zero, List.set_cons_succ, biD, dQ, dL, slcD, revD, cutP_to, cutP_from, e1, List.length_map, cmpD, truD, idxD, binD, tgD, tgDs, frzQ, newL, List.any_cons, List.any_nil, Bool.or_false, wipeS, at0, at1, at2, at3, at4, at5])
theorem swap_mid (A : List Nat) (y x : Nat) (B : List Nat) : swapAt (A ++ y :: x :: B) A.length = A ++ x :: y :: B := by
  unfold swapAt
  have e0 : (A ++ y :: x :: B).getD A.length 0 = y := by rw [List.getD_eq_getElem?_getD, List.getElem?_append_right (Nat.le_refl _), Nat.sub_self]; rfl
  have e1 : (A ++ y :: x :: B).getD (A.length + 1) 0 = x := by rw [List.getD_eq_getElem?_getD, List.getElem?_append_right (by omega)]; simp
  rw [e0, e1, List.take_left' rfl]
  have : (A ++ y :: x :: B).drop (A.length + 2) = B := by
    rw [List.drop_append]
    simp
  rw [this]
  simp
theorem exF_app (R : List CRow) : ∀ (l m : List Int) (now : List Nat), exF R (l ++ m) now = (exF R l now).bind (exF R m)
  | [], m, now => rfl
  | pl :: l, m, now => by
    simp only [List.cons_append, exF]
    split
    · exact exF_app R l m _
    · rfl
/-- an order that keeps -/
theorem keeps_of {R : List CRow} {N : Nat} {row : List Nat} (hok : OrdOK N row) (hR : R.length = N) (h : brkF R row = none) {y x : Nat} (hx : x < N) (hy : y < x) (ht : tchR (rowI R y) (rowI R x) = true) : row.idxOf y < row.idxOf x := by
  unfold brkF at h
  rw [Option.map_eq_none_iff, List.find?_eq_none] at h
  have hm : ((y, x, shdL (rowI R y) (rowI R x)) : Pr3) ∈ prsL R := by
    unfold prsL
    refine List.mem_flatMap.mpr ⟨y, List.mem_range.mpr (by omega), List.mem_flatMap.mpr ⟨x - (y + 1), List.mem_range.mpr (by omega), ?_⟩⟩
    rw [show y + 1 + (x - (y + 1)) = x from by omega]
    unfold prsI
    rw [← shd_nil] at ht
    rw [if_neg (of_decide_eq_true ht)]
    exact List.mem_singleton.mpr rfl
  have := h _ hm
  simp only [decide_eq_true_iff] at this
  have hne : row.idxOf y ≠ row.idxOf x := fun e => by
    have h1 := List.idxOf_lt_length_iff.mpr (mem_ord hok (show y < N by omega))
    have h2 := List.idxOf_lt_length_iff.mpr (mem_ord hok hx)
    have e1 := List.getElem_idxOf h1
    have e2 := List.getElem_idxOf h2
    simp only [e] at e1
    rw [e2] at e1
    omega
  omega
structure ExA where
  R : List CRow
  N : Nat
  row : List Nat
def p200 : Prm := { α := ExA, pre := fun z vs S => vs = [.lst (owP z.row)] ∧ OrdOK z.N z.row ∧ z.R.length = z.N ∧ brkF z.R z.row = none, post := fun z S r S' => ∃ (ex : List Nat) (p : Addr), r = .ref p ∧ S p = none ∧ ex.length ≤ 3600 ∧ exF z.R (ex.map fun t : Nat => (t : Int)) (List.range z.N) = some z.row ∧ S' = upS S p (.lst (owP ex)) }
/-- how far it has come -/
structure ExI (R : List CRow) (N : Nat) (row : List Nat) (e : Nat) (now ex left : List Nat) : Prop where
  nw : now = row.take e ++ left
  pm : now.Perm (List.range N)
  asc : left.Pairwise (· < ·)
  ln : ex.length ≤ e * 60
  ef : exF R (ex.map fun t : Nat => (t : Int)) (List.range N) = some now
structure ExJ (R : List CRow) (N : Nat) (row : List Nat) (e d : Nat) (now ex A B : List Nat) (x : Nat) : Prop where
  da : d ≤ A.length
  nw : now = (row.take e ++ A.take d) ++ x :: (A.drop d ++ B)
  pm : now.Perm (List.range N)
  asc : (A ++ x :: B).Pairwise (· < ·)
  ln : ex.length + d ≤ (e + 1) * 60
  ef : exF R (ex.map fun t : Nat => (t : Int)) (List.range N) = some now
theorem ExI.split {R : List CRow} {N : Nat} {row now ex left : List Nat} {e : Nat} (hok : OrdOK N row) (h : ExI R N row e now ex left) (he : e < row.length) : ∃ A B, left = A ++ row[e] :: B ∧ ExJ R N row e A.length now ex A B row[e] := by
  have hx : row[e] ∈ left := by
    have h1 : row[e] ∈ now := h.pm.mem_iff.mpr (List.mem_range.mpr (hok.lt _ (List.getElem_mem he)))
    rw [h.nw] at h1
    rcases List.mem_append.mp h1 with h1 | h1
    · exfalso
      obtain ⟨m, hm1, hm2⟩ := List.mem_take_iff_getElem.mp h1
      have a := hok.nd.idxOf_getElem m (by omega)
      have b := hok.nd.idxOf_getElem e he
      rw [hm2] at a
      omega
    · exact h1
  obtain ⟨A, B, rfl⟩ := List.append_of_mem hx
  refine ⟨A, B, rfl, Nat.le_refl _, ?_, h.pm, h.asc, ?_, h.ef⟩
  · rw [h.nw, List.take_length, List.drop_length, List.append_assoc]
    rfl
  · have := h.pm.length_eq
    rw [h.nw, List.length_append, List.length_append, List.length_range] at this
    have := hok.n60
    have := h.ln
    omega
theorem ExJ.done {R : List CRow} {N : Nat} {row now ex A B : List Nat} {e : Nat} (he : e < row.length) (h : ExJ R N row e 0 now ex A B row[e]) : ExI R N row (e + 1) now ex (A ++ B) where
  nw := by
    rw [h.nw, List.take_add_one, List.getElem?_eq_getElem he]
    simp only [List.take_zero, List.drop_zero, List.append_nil, Option.toList_some, List.append_assoc, List.cons_append, List.nil_append]
  pm := h.pm
  asc := h.asc.sublist (List.Sublist.append_left (List.sublist_cons_self _ _) A)
  ln := by have := h.ln; omega
  ef := h.ef
theorem ExJ.at_ {R : List CRow} {N : Nat} {row now ex A B : List Nat} {e d x : Nat} (he : e ≤ row.length) (h : ExJ R N row e d now ex A B x) : (row.take e ++ A.take d).length = e + d := by
  rw [List.length_append, List.length_take, List.length_take]
  have := h.da
  omega
theorem ExJ.step {R : List CRow} {N : Nat} {row now ex A B : List Nat} {e d : Nat} (hok : OrdOK N row) (hR : R.length = N) (hb : brkF R row = none) (he : e < row.length) (h : ExJ R N row e (d + 1) now ex A B row[e]) : ExJ R N row e d (swapAt now (e + d)) (ex ++ [e + d]) A B row[e] ∧ e + d + 1 < now.length := by
  have hda := h.da
  have hd : d < A.length := by omega
  have eA : A.take (d + 1) = A.take d ++ [A[d]] := by rw [List.take_add_one, List.getElem?_eq_getElem hd]; rfl
  have eD : A.drop d = A[d] :: A.drop (d + 1) := List.drop_eq_getElem_cons hd
  have hP : (row.take e ++ A.take d).length = e + d := by
    rw [List.length_append, List.length_take, List.length_take]
    omega
  have hnow : now = (row.take e ++ A.take d) ++ A[d] :: row[e] :: (A.drop (d + 1) ++ B) := by
    rw [h.nw, eA]
    simp only [List.append_assoc, List.cons_append, List.nil_append]
  have hsw : swapAt now (e + d) = (row.take e ++ A.take d) ++ row[e] :: A[d] :: (A.drop (d + 1) ++ B) := by
    rw [hnow, ← hP, swap_mid]
  have hlen : e + d + 1 < now.length := by
    rw [hnow, List.length_append, hP, List.length_cons, List.length_cons]
    omega
  have g0 : now.getD (e + d) 0 = A[d] := by rw [hnow, List.getD_eq_getElem?_getD, List.getElem?_append_right (by omega), hP, Nat.sub_self]; rfl
  have g1 : now.getD (e + d + 1) 0 = row[e] := by rw [hnow, List.getD_eq_getElem?_getD, List.getElem?_append_right (by omega), hP, show e + d + 1 - (e + d) = 1 from by omega]; rfl
  have hlt : A[d] < row[e] := by
    have := List.pairwise_append.mp h.asc
    exact this.2.2 _ (List.getElem_mem hd) _ (List.mem_cons_self ..)
  have hxN := hok.lt _ (List.getElem_mem he)
  have hnt : tchR (rowI R A[d]) (rowI R row[e]) = false := by
    cases c : tchR (rowI R A[d]) (rowI R row[e]) with
    | false => rfl
    | true =>
      exfalso
      have hi := keeps_of hok hR hb hxN hlt c
      rw [hok.nd.idxOf_getElem e he] at hi
      have hm := mem_ord hok (show A[d] < N by omega)
      have hl := List.idxOf_lt_length_iff.mpr hm
      have h1 : A[d] ∈ row.take e := List.mem_take_iff_getElem.mpr ⟨row.idxOf A[d], by omega, List.getElem_idxOf hl⟩
      have hnd : now.Nodup := h.pm.nodup_iff.mpr List.nodup_range
      rw [hnow, List.append_assoc] at hnd
      have := (List.nodup_append.mp hnd).2.2 _ h1 A[d] (by simp)
      exact this rfl
  refine ⟨⟨by omega, ?_, ?_, h.asc, ?_, ?_⟩, hlen⟩
  · rw [hsw, eD]
    simp only [List.append_assoc, List.cons_append]
  · refine List.Perm.trans ?_ h.pm
    rw [hsw, hnow]
    exact (List.Perm.swap _ _ _).append_left _
  · rw [List.length_append, List.length_singleton]
    have := h.ln
    omega
  · rw [List.map_append, exF_app, h.ef]
    simp only [Option.bind_some, List.map_cons, List.map_nil, exF, Int.toNat_natCast, g0, g1, hnt]
    rw [if_pos ⟨by omega, by omega, trivial⟩]
/-- the three parts of an exchange, as the laws write it -/
theorem swP {now : List Nat} {t : Nat} (h : t + 1 < now.length) (h2 : now.length ≤ 60) {Q : Prop} (q : ∀ v, v = owP (swapAt now t) → (owP now).take t ++ [PV.int (now[t + 1] : Nat), PV.int (now[t] : Nat)] ++ (owP now).drop (t + 2) = v → Q) :
    [PV.int (now[t + 1] : Nat), PV.int (now[t] : Nat)].length ≤ sizeLine ∧ ((owP now).take t).length + [PV.int (now[t + 1] : Nat), PV.int (now[t] : Nat)].length ≤ sizeLine ∧ ((owP now).take t ++ [PV.int (now[t + 1] : Nat), PV.int (now[t] : Nat)]).length + ((owP now).drop (t + 2)).length ≤ sizeLine ∧ Q := by
  have hz : 10000 ≤ sizeLine := by decide
  have e0 : now.getD t 0 = now[t] := by rw [List.getD_eq_getElem?_getD, List.getElem?_eq_getElem (by omega)]; rfl
  have e1 : now.getD (t + 1) 0 = now[t + 1] := by rw [List.getD_eq_getElem?_getD, List.getElem?_eq_getElem h]; rfl
  have h3 : (now.length - (t + 2)) ≤ now.length := Nat.sub_le _ _
  have h4 : min t now.length ≤ now.length := Nat.min_le_right _ _
  refine ⟨by show 2 ≤ sizeLine; omega, by rw [List.length_take, owP_len]; show _ + 2 ≤ sizeLine; omega, by rw [List.length_append, List.length_take, List.length_drop, owP_len]; show min t now.length + 2 + _ ≤ sizeLine; omega, q _ rfl ?_⟩
  unfold swapAt owP
  rw [e0, e1]
  simp only [List.map_append, List.map_take, List.map_drop, List.map_cons, List.map_nil]
theorem k200 {G : GE} : Keeps G ir200 n200 p200 := fun z vs S Q E hcl _ hp hq _ => by
  obtain ⟨R, N, row⟩ := z
  obtain ⟨rfl, hok, hR, hb⟩ := hp
  simp only at hok hR hb
  have hz : 10000 ≤ sizeLine := by decide
  have hl := hok.len
  have h60 := hok.n60
  rw [show startS n200 [.lst (owP row)] = [some (.lst (owP row)), none, none, none, none] from rfl]
  unfold ir200
  walk_at "go"
  simp only [lrngD, owP_len, hl]
  refine ⟨by omega, by omega, ?_⟩
  rw [Int.toNat_natCast, owP_rng]
  simp only [newL]
  unfold ir200_6
  walk_at "go"
  refine ⟨by show 0 ≤ sizeLine; omega, fun p hp => ?_⟩
  unfold ir200_5
  walk_at "go"
  simp only [owP_len, hl]
  refine ⟨by omega, by omega, ?_⟩
  rw [Int.toNat_natCast]
  refine itL_inv (fun e σ S' => ∃ now ex left z3 z4, ExI R N row e now ex left ∧ S' = upS S p (.lst (owP ex)) ∧ σ = [some (.lst (owP row)), some (.lst (owP now)), some (.ref p), z3, z4]) ⟨List.range N, [], List.range N, none, none, ⟨by simp, List.Perm.refl _, List.pairwise_lt_range, by simp, rfl⟩, rfl, rfl⟩ (fun _ _ _ _ => trivial) (fun e x σ S' k hx h hk => ?_) fun σ S' h => ?_
  · obtain ⟨now, ex, left, z3, z4, I, rfl, rfl⟩ := h
    obtain ⟨he, rfl⟩ := rngP_get hx
    rw [Int.zero_add]
    have he2 : e < row.length := by omega
    obtain ⟨A, B, rfl, J⟩ := I.split hok he2
    walk_at "go"
    unfold ir200_b2
    walk_at "go"
    simp only [owP_at he2]
    have hnd : now.Nodup := J.pm.nodup_iff.mpr List.nodup_range
    have hP := J.at_ (by omega)
    have hnl : now.length = N := by rw [J.pm.length_eq, List.length_range]
    have hg : now[e + A.length]? = some row[e] := by rw [J.nw, List.getElem?_append_right (by omega), hP, Nat.sub_self]; rfl
    simp only [meD, dL, tyP, owP_ints, intsP_map]
    refine ⟨rfl, e + A.length, by rw [List.getElem?_map, hg]; rfl, fun m hm h => ?_, ?_⟩
    · rw [List.getElem?_map] at h
      obtain ⟨t, ht, h⟩ := Option.map_eq_some_iff.mp h
      have ht2 : t = row[e] := by omega
      subst ht2
      obtain ⟨a1, a2⟩ := List.getElem?_eq_some_iff.mp ht
      obtain ⟨b1, b2⟩ := List.getElem?_eq_some_iff.mp hg
      have := (List.getElem_inj hnd).mp (a2.trans b2.symm)
      omega
    · simp only [← owP_ints]
      unfold ir200_3
      simp only [wpSs, wpS]
      refine while_of (fun d σ S' => ∃ now ex, ExJ R N row e d now ex A B row[e] ∧ S' = upS S p (.lst (owP ex)) ∧ σ = [some (.lst (owP row)), some (.lst (owP now)), some (.ref p), some (.int (e : Nat)), some (.int ((e + d : Nat) : Int))]) A.length ⟨now, ex, J, rfl, rfl⟩ fun d σ S' k' hI hk' => ?_
      obtain ⟨now, ex, J, rfl, rfl⟩ := hI
      walk_at "go"
      cases d with
      | zero =>
        have c : ¬ (((e + 0 : Nat) : Int) > (e : Int)) := by omega
        simp only [c, decide_false]
        exact hk _ _ ⟨now, ex, A ++ B, _, _, J.done he2, rfl, rfl⟩
      | succ d =>
        have c : (((e + (d + 1) : Nat) : Int) > (e : Int)) := by omega
        simp only [c, decide_true]
        obtain ⟨J2, hl2⟩ := J.step hok hR hb he2
        unfold ir200_b1
        walk_at "go"
        have e1 : ((e + (d + 1) : Nat) : Int) - 1 = ((e + d : Nat) : Int) := by omega
        simp only [e1, tyP, upS_same]
        refine ⟨rfl, DL.app_ok upS_same (by rw [owP_len]; have := J2.ln; rw [List.length_append, List.length_singleton] at this; omega) ?_⟩
        rw [upS_upS]
        unfold ir200_2
        walk_at "go"
        have a1 : L2.atI (owP now) ((e + (d + 1) : Nat) : Int) = some (.int (now[e + d + 1] : Nat)) := owP_at hl2
        have a2 : L2.atI (owP now) ((e + d : Nat) : Int) = some (.int (now[e + d] : Nat)) := owP_at (by omega)
        have e3 : ((e + (d + 1) : Nat) : Int) + 1 = ((e + d + 2 : Nat) : Int) := by omega
        simp only [e1, e3, slcD, dL, newL, a1, a2, cutP_to, cutP_from]
        refine swP hl2 (by rw [J.pm.length_eq, List.length_range]; exact h60) fun v hv hv2 => ?_
        rw [hv2, hv]
        unfold ir200_1
        walk_at "go"
        rw [e1]
        refine hk' d _ _ (Nat.lt_succ_self d) ⟨swapAt now (e + d), ex ++ [e + d], J2, ?_, rfl⟩
        unfold owP
        rw [List.map_append]
        rfl
  · obtain ⟨now, ex, left, z3, z4, I, rfl, rfl⟩ := h
    rw [rngP_len] at I
    unfold ir200_4
    walk_at "go"
    refine hq _ _ ⟨ex, p, rfl, hp, by have := I.ln; omega, ?_, rfl⟩
    have : now = row := by
      have h1 := I.nw
      rw [List.take_of_length_le (by omega)] at h1
      have h2 := I.pm.length_eq
      rw [h1, List.length_append, List.length_range] at h2
      have : left = [] := List.eq_nil_of_length_eq_zero (by omega)
      rw [h1, this, List.append_nil]
    rw [← this]
    exact I.ef
def p201 : Prm := { α := LdA, pre := fun z vs S => vs = [.lst ((fsL z.P).map stB), .lst (z.ex.map .int), .lst (owP z.row)] ∧ PgmOK z.P ∧ OrdOK (fsL z.P).length z.row, post := fun z S r S' => r = .bl (leadB (rowsL z.P) z.ex (fsL z.P).length z.row) ∧ S' = S }
theorem k201 {G : GE} (h111 : G.fn 111 = pB_touch.sp) : Keeps G ir201 n201 p201 := fun z vs S Q E hcl _ hp hq _ => by
  obtain ⟨P, ex, row⟩ := z
  obtain ⟨rfl, hP, hok⟩ := hp
  simp only at hP hok
  have hN := hP.len
  have out : ∀ b, leadB (rowsL P) ex (fsL P).length row = b → Q (.bl b) S := fun b h => hq _ _ ⟨by rw [← h], rfl⟩
  clear hq
  have hz : 10000 ≤ sizeLine := by decide
  rw [show startS n201 [.lst ((fsL P).map stB), .lst (ex.map .int), .lst (owP row)] = [some (.lst ((fsL P).map stB)), some (.lst (ex.map .int)), some (.lst (owP row)), none, none] from rfl]
  unfold ir201
  walk_at "go"
  simp only [lrngD, List.length_map]
  refine ⟨by omega, by omega, ?_⟩
  rw [Int.toNat_natCast, owP_rng]
  simp only [newL]
  unfold ir201_3
  walk_at "go"
  refine itL_inv (fun j σ S' => S' = S' ∧ S' = S ∧ ∃ now z4, exF (rowsL P) ex (List.range (fsL P).length) = exF (rowsL P) (ex.drop j) now ∧ now.length = (fsL P).length ∧ (∀ x ∈ now, x < (fsL P).length) ∧ σ = [some (.lst ((fsL P).map stB)), some (.lst (ex.map .int)), some (.lst (owP row)), some (.lst (owP now)), z4]) ⟨rfl, rfl, _, _, rfl, List.length_range, fun x hx => List.mem_range.mp hx, rfl⟩ (fun _ _ _ _ => trivial) (fun j x σ S k hx h hk => ?_) fun σ S h => ?_
  · obtain ⟨_, rfl, now, z4, he, hnl, hnm, rfl⟩ := h
    rw [List.getElem?_map] at hx
    obtain ⟨pl, hpl, rfl⟩ := Option.map_eq_some_iff.mp hx
    obtain ⟨hj, hje⟩ := List.getElem?_eq_some_iff.mp hpl
    rw [List.drop_eq_getElem_cons hj, hje] at he
    simp only [exF] at he
    walk_at "go"
    unfold ir201_b1
    walk_at "go"
    simp only [owP_len]
    by_cases c1 : 0 ≤ pl
    · simp only [c1, decide_true]
      by_cases c2 : pl < (now.length : Int) - 1
      · simp only [c2, decide_true, Bool.not_true]
        obtain ⟨t, rfl⟩ : ∃ t : Nat, pl = (t : Int) := ⟨pl.toNat, by omega⟩
        have ht : t + 1 < now.length := by omega
        have e0 : now.getD t 0 = now[t] := by rw [List.getD_eq_getElem?_getD, List.getElem?_eq_getElem (by omega)]; rfl
        have e1 : now.getD (t + 1) 0 = now[t + 1] := by rw [List.getD_eq_getElem?_getD, List.getElem?_eq_getElem ht]; rfl
        rw [Int.toNat_natCast, e0, e1] at he
        have a1 : L2.atI (owP now) (t : Int) = some (.int (now[t] : Nat)) := owP_at (by omega)
        have a2 : L2.atI (owP now) ((t : Int) + 1) = some (.int (now[t + 1] : Nat)) := by
          rw [show (t : Int) + 1 = ((t + 1 : Nat) : Int) from by omega]
          exact owP_at ht
        have b1 : now[t] < (fsL P).length := hnm _ (List.getElem_mem _)
        have b2 : now[t + 1] < (fsL P).length := hnm _ (List.getElem_mem _)
        simp only [a1, a2, stB_at b1, stB_at b2]
        refine Prm.call h111 (fun _ _ _ _ => id) ⟨(fsL P)[now[t]], (fsL P)[now[t + 1]]⟩ rfl fun r S h => ?_
        obtain ⟨rfl, rfl⟩ := h
        rw [rowI_fs b1, rowI_fs b2] at he
        simp only [frzQ, truD]
        cases c3 : tchR ((fsL P)[now[t]]).row ((fsL P)[now[t + 1]]).row with
        | true =>
          simp only
          rw [c3, if_neg (fun h => by cases h.2.2)] at he
          refine out _ ?_
          unfold leadB
          rw [he]
        | false =>
          simp only
          rw [c3, if_pos ⟨c1, c2, rfl⟩] at he
          unfold ir201_1
          walk_at "go"
          have e3 : (t : Int) + 2 = ((t + 2 : Nat) : Int) := by omega
          simp only [slcD, dL, newL, a1, a2, e3, cutP_to, cutP_from]
          refine swP ht (by omega) fun v hv hv2 => ?_
          rw [hv2, hv]
          exact hk _ _ ⟨rfl, rfl, swapAt now t, _, he, by rw [swapAt_len ht, hnl], swapAt_mem ht hnm, rfl⟩
      · simp only [c2, decide_false, Bool.not_false]
        rw [if_neg (fun h => c2 h.2.1)] at he
        refine out _ ?_
        unfold leadB
        rw [he]
    · simp only [c1, decide_false, Bool.not_false]
      rw [if_neg (fun h => c1 h.1)] at he
      refine out _ ?_
      unfold leadB
      rw [he]
  · obtain ⟨_, rfl, now, z4, he, hnl, hnm, rfl⟩ := h
    rw [List.length_map, List.drop_length] at he
    simp only [exF] at he
    unfold ir201_2
    walk_at "go"
    have hd1 := ow_dat now
    have hd2 := ow_dat row
    refine eq_dat (by simp only [dat]; exact hd1.1) (by simp only [dat]; exact hd2.1) (by simp only [dpt]; omega) (by simp only [dpt]; omega) fun b hb => ?_
    refine out b ?_
    unfold leadB
    rw [he]
    rw [Bool.eq_iff_iff, hb, decide_eq_true_iff, PV.lst.injEq]
    exact ⟨fun h => by rw [h], fun h => map_inj (fun a b h => by have := PV.int.inj h; omega) h⟩
structure BnA where
  a : Addr
  l : List PV
  ex : List Int
  n : Nat
def p202 : Prm := { α := BnA, pre := fun z vs S => vs = [.ref z.a, .lst (z.ex.map .int), .int z.n] ∧ S z.a = some (.lst z.l) ∧ PenB z.l ∧ z.ex.length ≤ 3600 ∧ z.n ≤ 60, post := fun z S r S' => ∃ (ex : List Int) (l : List PV), r = .lst (ex.map .int) ∧ PenB l ∧ S' = upS S z.a (.lst l) }
theorem k202 {G : GE} (h102 : G.fn 102 = pB_take.sp) : Keeps G ir202 n202 p202 := fun z vs S Q E hcl _ hp hq _ => by
  obtain ⟨a, l, ex, n⟩ := z
  obtain ⟨rfl, hS, hl, hex, hn⟩ := hp
  simp only at hS hl hex hn
  have hz : 100000 ≤ sizeLine := by decide
  rw [show startS n202 [.ref a, .lst (ex.map .int), .int n] = [some (.ref a), some (.lst (ex.map .int)), some (.int n), none, none, none] from rfl]
  unfold ir202
  walk_at "go"
  simp only [List.length_map]
  refine takeB h102 hS hl (by omega) (by omega) fun t l1 t0 t1 hl1 => ?_
  obtain ⟨t, rfl⟩ : ∃ m : Nat, t = (m : Int) := ⟨t.toNat, by omega⟩
  unfold ir202_4
  walk_at "go"
  refine takeB h102 upS_same hl1 (by omega) (by omega) fun o l2 o0 o1 hl2 => ?_
  rw [upS_upS]
  have e1 : (t : Int) + 1 = ((t + 1 : Nat) : Int) := by omega
  unfold ir202_3
  simp only [wpSs, wpS, wpE, wpEs, wpO, List.getElem?_cons_zero, List.getElem?_cons_succ, slcD, dL, newL, cutP_to, cutP_from, e1, binD]
  obtain ⟨c, hc, hcl2⟩ : ∃ c : List Int, cutP (ex.map PV.int) (some ((t : Nat) : Int)) (some ((t + 1 : Nat) : Int)) = c.map PV.int ∧ c.length ≤ 3600 := by
    unfold cutP
    refine ⟨(ex.drop _).take _, by rw [List.map_take, List.map_drop], ?_⟩
    rw [List.length_take, List.length_drop]
    omega
  rw [hc]
  have t1' : (List.take t (ex.map PV.int)).length ≤ 3600 := by rw [List.length_take, List.length_map]; omega
  have t2' : ∀ m, (List.drop m (ex.map PV.int)).length ≤ 3600 := fun m => by rw [List.length_drop, List.length_map]; omega
  have t3' : (List.replicate (Int.toNat 2) (c.map PV.int)).flatten = (c ++ c).map PV.int := by
    show (List.replicate 2 (c.map PV.int)).flatten = _
    simp [List.replicate]
  rw [t3']
  have l1' := t2' (t + 1)
  have l2' := t2' t
  have hcm : (c.map PV.int).length ≤ 3600 := by rw [List.length_map]; exact hcl2
  refine ⟨by omega, by show 1 ≤ sizeLine; omega, by show _ + 1 ≤ sizeLine; omega, by rw [List.length_append]; show _ + 1 + _ ≤ sizeLine; omega, by decide, by decide, by show _ * 2 ≤ sizeLine; omega, by rw [List.length_map, List.length_append]; omega, by show 3 ≤ sizeLine; omega, ?_⟩
  unfold ir202_2
  simp only [tgD, List.set_cons_zero, List.set_cons_succ, wpSs, wpS, wpE, wpEs, wpO, List.getElem?_cons_zero, List.getElem?_cons_succ, slcD, dL, newL, revD, cutP_to, cutP_from, binD]
  have r1' : (List.take t (ex.map PV.int)).reverse.length ≤ 3600 := by rw [List.length_reverse]; exact t1'
  have r2' : (ex.map PV.int).reverse.length ≤ 3600 := by rw [List.length_reverse, List.length_map]; exact hex
  have r3' : (ex.map PV.int).length ≤ 3600 := by rw [List.length_map]; exact hex
  refine ⟨by omega, by omega, by show 2 ≤ sizeLine; omega, by show _ + 2 ≤ sizeLine; omega, by rw [List.length_append]; show _ + 2 + _ ≤ sizeLine; omega, by show 0 ≤ sizeLine; omega, by show 4 ≤ sizeLine; omega, by show 7 ≤ sizeLine; omega, ?_⟩
  unfold ir202_1
  simp only [wpSs, wpS, wpE, wpEs, List.getElem?_cons_zero, List.getElem?_cons_succ]
  refine takeB h102 upS_same hl2 (by decide) (by decide) fun w l3 w0 w1 hl3 => ?_
  rw [upS_upS]
  have out : ∀ l : List Int, Q (.lst (l.map .int)) (upS S a (.lst l3)) := fun l => hq _ _ ⟨l, l3, rfl, hl3, rfl⟩
  simp only [idxD, dQ, List.cons_append, List.nil_append]
  have : w = 0 ∨ w = 1 ∨ w = 2 ∨ w = 3 ∨ w = 4 ∨ w = 5 ∨ w = 6 := by omega
  rcases this with rfl | rfl | rfl | rfl | rfl | rfl | rfl
  · have := out (ex.take t ++ ex.drop (t + 1)); rw [List.map_append, List.map_take, List.map_drop] at this; exact this
  · have := out (ex.take t ++ [o - 2] ++ ex.drop t); rw [List.map_append, List.map_append, List.map_take, List.map_drop] at this; exact this
  · have := out (ex.take t ++ (c ++ c)); rw [List.map_append, List.map_take] at this; exact this
  · have := out ((ex.take t).reverse ++ ex.drop t); rw [List.map_append, List.map_reverse, List.map_take, List.map_drop] at this; exact this
  · have := out (ex ++ ex.reverse); rw [List.map_append, List.map_reverse] at this; exact this
  · have := out (ex.take t ++ [o - 2, o - 2] ++ ex.drop t); rw [List.map_append, List.map_append, List.map_take, List.map_drop] at this; exact this
  · exact out []
theorem eqbl {a b : Bool} {S : Sto} {Q : Bool → Prop} (q : Q (decide (a = b))) : eqD (.bl a) (.bl b) S Q := q
theorem ints_dat (l : List Int) : dats (l.map PV.int) = true ∧ dpts (l.map PV.int) ≤ 0 := ⟨dats_map (fun _ => rfl) l, dpts_map (n := 0) (fun _ => Nat.le_refl _) l⟩
def p203 : Prm := { α := List Int, pre := fun ns vs S => vs = [.lst (ns.map .int)] ∧ ns.length ≤ 63, post := fun _ S r S' => r = .bl true }
theorem k203 {G : GE} (h16 : G.fn 16 = pP_program_of.sp) (h61 : G.fn 61 = pP_leads.sp) (h101 : G.fn 101 = pB_pen.sp) (h102 : G.fn 102 = pB_take.sp) (h106 : G.fn 106 = pB_program.sp) (h110 : G.fn 110 = pB_steps.sp) (h112 : G.fn 112 = pB_order.sp) (h113 : G.fn 113 = pB_picked.sp) (h200 : G.fn 200 = p200.sp) (h201 : G.fn 201 = p201.sp) (h202 : G.fn 202 = p202.sp) : Keeps G ir203 n203 p203 := fun (ns : List Int) vs S Q E hcl _ hp hq _ => by
  obtain ⟨rfl, h63⟩ := hp
  have out : ∀ S', Q (.bl true) S' := fun S' => hq _ _ rfl
  clear hq
  have hz : 10000 ≤ sizeLine := by decide
  rw [show startS n203 [.lst (ns.map .int)] = [some (.lst (ns.map .int)), none, none, none, none, none, none, none, none, none, none, none] from rfl]
  unfold ir203
  walk_at "go"
  refine Prm.call h101 (fun _ _ _ _ => id) (ns, 1) ⟨rfl, by show (0 : Int) ≤ 1; decide⟩ fun r S1 h => ?_
  obtain ⟨a, l, rfl, ha, hl, rfl⟩ := h
  walk_at "go"
  unfold ir203_11
  walk_at "go"
  refine Prm.call h106 (fun _ _ _ _ => id) ⟨a, l, 16⟩ ⟨rfl, upS_same, hl, by show (1 : Int) ≤ 16; decide, by show (16 : Int) ≤ 60; decide⟩ fun r S1 h => ?_
  obtain ⟨P, l2, rfl, hP, hm, hl2, rfl⟩ := h
  rw [upS_upS]
  simp only [pgP, frzQ]
  walk_at "go"
  unfold ir203_10
  walk_at "go"
  refine Prm.call h110 (fun _ _ _ _ => id) P ⟨rfl, hP⟩ fun r S1 h => ?_
  refine resL_frz h ?_
  unfold ir203_9
  walk_at "go"
  refine pgmB h16 hP ?_
  simp only [pgP]
  unfold ir203_8
  walk_at "go"
  have hN := hP.len
  refine Prm.call h113 (fun _ _ _ _ => id) ⟨a, l2, P⟩ ⟨rfl, upS_same, hl2, hP⟩ fun r S1 h => ?_
  obtain ⟨pk, l3, p, rfl, hpa, hp0, hpk, hbrk, hl3, rfl⟩ := h
  simp only [frzQ, upS_same, upS_upS] at hp0 ⊢
  rw [upS_ne hpa] at hp0
  rw [delS_upS (by rw [upS_ne hpa]; exact hp0)]
  unfold ir203_7
  walk_at "go"
  refine Prm.call h200 (fun _ _ _ _ => id) ⟨rowsL P, (fsL P).length, pk⟩ ⟨rfl, hpk, rows_len, hbrk⟩ fun r S1 h => ?_
  obtain ⟨ex, p, rfl, hp1, hexl, hexF, rfl⟩ := h
  simp only [frzQ, upS_same]
  rw [delS_upS hp1]
  rw [owP_ints ex]
  obtain ⟨exi, hexi⟩ : ∃ exi, exi = ex.map fun t : Nat => (t : Int) := ⟨_, rfl⟩
  rw [← hexi] at hexF ⊢
  have hexl2 : exi.length ≤ 3600 := by rw [hexi, List.length_map]; exact hexl
  unfold ir203_6
  walk_at "go"
  refine Prm.call h61 (fun _ _ _ _ => id) ⟨P, exi, pk⟩ ⟨rfl, hP, hpk⟩ fun r S1 h => ?_
  obtain ⟨rfl, h⟩ := h
  have hlead : leadB (rowsL P) exi (fsL P).length pk = true := by
    unfold leadB
    rw [hexF]
    simp
  simp only [frzQ, hlead, isBl, beq_self_eq_true, Bool.not_true]
  subst h
  have hrg : OrdOK (fsL P).length (List.range (fsL P).length) := ⟨List.length_range, hN, List.nodup_range, fun t ht => List.mem_range.mp ht⟩
  unfold ir203_5
  walk_at "go"
  refine ⟨by decide, by decide, ?_⟩
  refine itL_inv (fun i σ S' => ∃ l z7 z8 z9 z10 z11, PenB l ∧ S' = upS S a (.lst l) ∧ σ = [some (.lst (ns.map .int)), some (.ref a), some (.tup [iP P.wid, nssP P.nst]), some (.lst ((fsL P).map stB)), some (.tup [iP P.wid, nssP P.nst]), some (.lst (owP pk)), some (.lst (exi.map .int)), z7, z8, z9, z10, z11]) ⟨l3, none, none, none, none, none, hl3, rfl, rfl⟩ (fun _ _ _ _ => trivial) (fun i x σ S' k hx hI hk => ?_) fun σ S' hI => ?_
  · obtain ⟨l, z7, z8, z9, z10, z11, hl, rfl, rfl⟩ := hI
    obtain ⟨hi, rfl⟩ := rngP_get hx
    walk_at "go"
    unfold ir203_b2
    walk_at "go"
    simp only [List.length_map]
    refine Prm.call h202 (fun _ _ _ _ => id) ⟨a, l, exi, (fsL P).length⟩ ⟨rfl, upS_same, hl, hexl2, hN⟩ fun r S1 h => ?_
    obtain ⟨e2, l4, rfl, hl4, rfl⟩ := h
    rw [upS_upS]
    simp only [frzQ]
    have one : ∀ (o : List Nat) (K : Sl → Sto → Prop) (bk ct : Sl → Sto → Prop) (S : Sto) (z10 z11 : Option PV), OrdOK (fsL P).length o → (∀ z10 z11, K [some (.lst (ns.map .int)), some (.ref a), some (.tup [iP P.wid, nssP P.nst]), some (.lst ((fsL P).map stB)), some (.tup [iP P.wid, nssP P.nst]), some (.lst (owP pk)), some (.lst (exi.map .int)), some (.int (0 + (i : Int))), some (.lst (e2.map .int)), some (.lst (owP o)), z10, z11] S) →
        wpSs G ir203_b1 { nx := K, rt := Q, bk := bk, ct := ct } (fun x _ S => E x S) [some (.lst (ns.map .int)), some (.ref a), some (.tup [iP P.wid, nssP P.nst]), some (.lst ((fsL P).map stB)), some (.tup [iP P.wid, nssP P.nst]), some (.lst (owP pk)), some (.lst (exi.map .int)), some (.int (0 + (i : Int))), some (.lst (e2.map .int)), some (.lst (owP o)), z10, z11] S := fun o K bk ct S z10 z11 ho hK => by
      unfold ir203_b1
      walk_at "go"
      refine ⟨by show 2 ≤ sizeLine; omega, ?_⟩
      unfold ir203_2
      walk_at "go"
      refine Prm.call h61 (fun _ _ _ _ => id) ⟨P, e2, o⟩ ⟨rfl, hP, ho⟩ fun r S h => ?_
      obtain ⟨rfl, rfl⟩ := h
      walk_at "go"
      unfold ir203_1
      walk_at "go"
      simp only [tyP, show isT "bool" "bool" = true from rfl, Bool.not_true]
      refine Prm.call h201 (fun _ _ _ _ => id) ⟨P, e2, o⟩ ⟨rfl, hP, ho⟩ fun r S h => ?_
      obtain ⟨rfl, rfl⟩ := h
      simp only [frzQ]
      refine eqbl ?_
      simp only [decide_true, Bool.not_true]
      refine ⟨by show 2 ≤ sizeLine; omega, ?_⟩
      have h1 := ints_dat e2
      have h2 := ow_dat o
      refine eq_dat (by simp only [dat, dats, h1.1, h2.1]; rfl) (by simp only [dat, dats, h1.1, h2.1]; rfl) (by simp only [dpt, dpts]; omega) (by simp only [dpt, dpts]; omega) fun b hb => ?_
      have hb : b = true := hb.mpr rfl
      subst hb
      simp only [Bool.not_true]
      exact hK _ _
    walk_at "go"
    unfold ir203_3
    walk_at "go"
    simp only [lrngD, List.length_map]
    refine ⟨by omega, by omega, ?_⟩
    rw [Int.toNat_natCast, owP_rng]
    simp only [newL]
    refine Prm.call h112 (fun _ _ _ _ => id) ⟨a, l4, (fsL P).length⟩ ⟨rfl, upS_same, hl4, hN⟩ fun r S1 h => ?_
    obtain ⟨od, l5, p, rfl, hpa2, hp2, hod, hl5, rfl⟩ := h
    simp only [frzQ, upS_same, upS_upS] at hp2 ⊢
    rw [upS_ne hpa2] at hp2
    rw [delS_upS (by rw [upS_ne hpa2]; exact hp2)]
    refine ⟨by show 3 ≤ sizeLine; omega, ?_⟩
    simp only [DL.itL]
    walk_at "go"
    refine ⟨trivial, one _ _ _ _ _ _ _ hpk fun z10 z11 => ⟨trivial, ?_⟩⟩
    simp only [List.set_cons_zero, List.set_cons_succ]
    refine one _ _ _ _ _ _ _ hrg fun z10 z11 => ⟨trivial, ?_⟩
    simp only [List.set_cons_zero, List.set_cons_succ]
    refine one _ _ _ _ _ _ _ hod fun z10 z11 => ⟨trivial, hk _ _ ⟨l5, _, _, _, _, _, hl5, rfl, rfl⟩⟩
  · obtain ⟨l, z7, z8, z9, z10, z11, hl, rfl, rfl⟩ := hI
    unfold ir203_4
    walk_at "go"
    exact out _
end K37
end
section
set_option maxRecDepth 100000
set_option maxHeartbeats 0
namespace K37
open PySem PySem.Spec L2 DL
def G : GE := { fn := fun i => match i with
  | 0 => pP_is_whole.sp
  | 1 => pP_is_form.sp
  | 2 => pP_comes_to.sp
  | 3 => pP_is_bound.sp
  | 4 => pP_is_loops.sp
  | 5 => pP_counts_behind.spT μ_counts_behind 12
  | 6 => pP_counts_of.sp
  | 7 => pP_are_more.spT μ_are_more 12
  | 8 => pP_how_many.sp
  | 9 => pP_is_tuple_of.sp
  | 10 => pP_are_widths.sp
  | 11 => pP_is_cell.sp
  | 12 => pP_is_great_form.sp
  | 13 => pP_is_read.sp
  | 14 => pP_is_deed.sp
  | 15 => pP_is_nest.sp
  | 16 => pP_program_of.sp
  | 17 => pP_steps_of.sp
  | 18 => pP_cell_at.sp
  | 19 => pP_cells_of_step.sp
  | 20 => pP_cells_of.sp
  | 21 => pP_plain.sp
  | 22 => pP_ask_row.sp
  | 23 => pP_ask_order.sp
  | 29 => pP_shared_cells.sp
  | 61 => pP_leads.sp
  | 100 => pB_cell.sp
  | 101 => pB_pen.sp
  | 102 => pB_take.sp
  | 103 => pB_form.sp
  | 104 => pB_loops.sp
  | 105 => pB_deed.sp
  | 106 => pB_program.sp
  | 107 => pB_at.sp
  | 108 => pB_counts.sp
  | 109 => pB_spot.sp
  | 110 => pB_steps.sp
  | 112 => pB_order.sp
  | 111 => pB_touch.sp
  | 113 => pB_picked.sp
  | 200 => p200.sp
  | 201 => p201.sp
  | 202 => p202.sp
  | 203 => p203.sp
  | _ => fun _ _ _ _ => False, sub := fun _ _ => false }
section
variable {P : Program} {w : World} {K : PySem.W.Frag} {h : Heap} {mg : Mg} {base : Heap}
theorem m0 (X : K.In h) (Gm : h.Ns mainGlobals mg) (c : He.SaysD (facs glos frees excs nums) fnl K) : MH P w K mg base G 0 g0 :=
  { fns := fns_nil, free := frees_ok X Gm c (by decide +kernel), cst := csts_ok X Gm c (by decide +kernel), exc := excs_ok X Gm c (by decide +kernel) }
theorem r0 (X : K.In h) (Gm : h.Ns mainGlobals mg) (c : He.SaysD (facs glos frees excs nums) fnl K) {fd : FuncData} (F : FunD K d0.name d0.qual d0.params d0.body d0.scope [] [] (He.fAd K d0.at_) fd) : FnOk P w K mg base (L2.CX P w) 1 (He.fAd K d0.at_) fd ["thing"] (spUp K w mg 1 (G.fn 0)) :=
  fn_runA (G := G) (i := 0) (pre := pP_is_whole.pre) (post := pP_is_whole.post) (xp := pP_is_whole.xp) F s0 rfl c0 rfl (m0 X Gm c) rfl (He.glo_ok X Gm (facs_glo c (by decide +kernel))) (b0 F) rfl fun z vs S Q E hcl hcx hl hp hq hx => (kP_is_whole (G := G)) z vs S Q E hcl hcx hp hq hx
theorem f0 (X : K.In h) (Gm : h.Ns mainGlobals mg) (c : He.SaysD (facs glos frees excs nums) fnl K) : FH P w K mg base G 1 "is_whole" 0 1 := by
  obtain ⟨fd, F⟩ := c.def_ 0 (d := d0) rfl
  exact fn_step (He.glo_ok X Gm (facs_glo c (by decide +kernel))) F.kp (b0 F) rfl (r0 X Gm c F)
theorem m1 (X : K.In h) (Gm : h.Ns mainGlobals mg) (c : He.SaysD (facs glos frees excs nums) fnl K) : MH P w K mg base G 1 g1 :=
  { fns := fns_cons ((f0 X Gm c).mono (by decide)) (fns_nil), free := frees_ok X Gm c (by decide +kernel), cst := csts_ok X Gm c (by decide +kernel), exc := excs_ok X Gm c (by decide +kernel) }
theorem r1 (X : K.In h) (Gm : h.Ns mainGlobals mg) (c : He.SaysD (facs glos frees excs nums) fnl K) {fd : FuncData} (F : FunD K d1.name d1.qual d1.params d1.body d1.scope [] [] (He.fAd K d1.at_) fd) : FnOk P w K mg base (L2.CX P w) 2 (He.fAd K d1.at_) fd ["thing", "d"] (spUp K w mg 2 (G.fn 1)) :=
  fn_runA (G := G) (i := 1) (pre := pP_is_form.pre) (post := pP_is_form.post) (xp := pP_is_form.xp) F s1 rfl c1 rfl (m1 X Gm c) rfl (He.glo_ok X Gm (facs_glo c (by decide +kernel))) (b1 F) rfl fun z vs S Q E hcl hcx hl hp hq hx => (kP_is_form (G := G) rfl) z vs S Q E hcl hcx hp hq hx
theorem f1 (X : K.In h) (Gm : h.Ns mainGlobals mg) (c : He.SaysD (facs glos frees excs nums) fnl K) : FH P w K mg base G 2 "is_form" 1 2 := by
  obtain ⟨fd, F⟩ := c.def_ 1 (d := d1) rfl
  exact fn_step (He.glo_ok X Gm (facs_glo c (by decide +kernel))) F.kp (b1 F) rfl (r1 X Gm c F)
theorem m2 (X : K.In h) (Gm : h.Ns mainGlobals mg) (c : He.SaysD (facs glos frees excs nums) fnl K) : MH P w K mg base G 0 g2 :=
  { fns := fns_nil, free := frees_ok X Gm c (by decide +kernel), cst := csts_ok X Gm c (by decide +kernel), exc := excs_ok X Gm c (by decide +kernel) }
theorem r2 (X : K.In h) (Gm : h.Ns mainGlobals mg) (c : He.SaysD (facs glos frees excs nums) fnl K) {fd : FuncData} (F : FunD K d2.name d2.qual d2.params d2.body d2.scope [] [] (He.fAd K d2.at_) fd) : FnOk P w K mg base (L2.CX P w) 1 (He.fAd K d2.at_) fd ["form", "counts"] (spUp K w mg 2 (G.fn 2)) :=
  fn_runA (G := G) (i := 2) (pre := pP_comes_to.pre) (post := pP_comes_to.post) (xp := pP_comes_to.xp) F s2 rfl c2 rfl (m2 X Gm c) rfl (He.glo_ok X Gm (facs_glo c (by decide +kernel))) (b2 F) rfl fun z vs S Q E hcl hcx hl hp hq hx => (kP_comes_to (G := G)) z vs S Q E hcl hcx hp hq hx
theorem f2 (X : K.In h) (Gm : h.Ns mainGlobals mg) (c : He.SaysD (facs glos frees excs nums) fnl K) : FH P w K mg base G 1 "comes_to" 2 2 := by
  obtain ⟨fd, F⟩ := c.def_ 2 (d := d2) rfl
  exact fn_step (He.glo_ok X Gm (facs_glo c (by decide +kernel))) F.kp (b2 F) rfl (r2 X Gm c F)
theorem m3 (X : K.In h) (Gm : h.Ns mainGlobals mg) (c : He.SaysD (facs glos frees excs nums) fnl K) : MH P w K mg base G 2 g3 :=
  { fns := fns_cons ((f1 X Gm c).mono (by decide)) (fns_nil), free := frees_ok X Gm c (by decide +kernel), cst := csts_ok X Gm c (by decide +kernel), exc := excs_ok X Gm c (by decide +kernel) }
theorem r3 (X : K.In h) (Gm : h.Ns mainGlobals mg) (c : He.SaysD (facs glos frees excs nums) fnl K) {fd : FuncData} (F : FunD K d3.name d3.qual d3.params d3.body d3.scope [] [] (He.fAd K d3.at_) fd) : FnOk P w K mg base (L2.CX P w) 3 (He.fAd K d3.at_) fd ["thing", "d"] (spUp K w mg 2 (G.fn 3)) :=
  fn_runA (G := G) (i := 3) (pre := pP_is_bound.pre) (post := pP_is_bound.post) (xp := pP_is_bound.xp) F s3 rfl c3 rfl (m3 X Gm c) rfl (He.glo_ok X Gm (facs_glo c (by decide +kernel))) (b3 F) rfl fun z vs S Q E hcl hcx hl hp hq hx => (kP_is_bound (G := G) rfl) z vs S Q E hcl hcx hp hq hx
theorem f3 (X : K.In h) (Gm : h.Ns mainGlobals mg) (c : He.SaysD (facs glos frees excs nums) fnl K) : FH P w K mg base G 3 "is_bound" 3 2 := by
  obtain ⟨fd, F⟩ := c.def_ 3 (d := d3) rfl
  exact fn_step (He.glo_ok X Gm (facs_glo c (by decide +kernel))) F.kp (b3 F) rfl (r3 X Gm c F)
theorem m4 (X : K.In h) (Gm : h.Ns mainGlobals mg) (c : He.SaysD (facs glos frees excs nums) fnl K) : MH P w K mg base G 3 g4 :=
  { fns := fns_cons ((f3 X Gm c).mono (by decide)) (fns_nil), free := frees_ok X Gm c (by decide +kernel), cst := csts_ok X Gm c (by decide +kernel), exc := excs_ok X Gm c (by decide +kernel) }
theorem r4 (X : K.In h) (Gm : h.Ns mainGlobals mg) (c : He.SaysD (facs glos frees excs nums) fnl K) {fd : FuncData} (F : FunD K d4.name d4.qual d4.params d4.body d4.scope [] [] (He.fAd K d4.at_) fd) : FnOk P w K mg base (L2.CX P w) 4 (He.fAd K d4.at_) fd ["thing"] (spUp K w mg 1 (G.fn 4)) :=
  fn_runA (G := G) (i := 4) (pre := pP_is_loops.pre) (post := pP_is_loops.post) (xp := pP_is_loops.xp) F s4 rfl c4 rfl (m4 X Gm c) rfl (He.glo_ok X Gm (facs_glo c (by decide +kernel))) (b4 F) rfl fun z vs S Q E hcl hcx hl hp hq hx => (kP_is_loops (G := G) rfl) z vs S Q E hcl hcx hp hq hx
theorem f4 (X : K.In h) (Gm : h.Ns mainGlobals mg) (c : He.SaysD (facs glos frees excs nums) fnl K) : FH P w K mg base G 4 "is_loops" 4 1 := by
  obtain ⟨fd, F⟩ := c.def_ 4 (d := d4) rfl
  exact fn_step (He.glo_ok X Gm (facs_glo c (by decide +kernel))) F.kp (b4 F) rfl (r4 X Gm c F)
theorem r5 (X : K.In h) (Gm : h.Ns mainGlobals mg) (c : He.SaysD (facs glos frees excs nums) fnl K) {fd : FuncData} (F : FunD K d5.name d5.qual d5.params d5.body d5.scope [] [] (He.fAd K d5.at_) fd) : FnOk P w K mg base (L2.CX P w) 13 (He.fAd K d5.at_) fd ["loops", "counts"] (spUp K w mg 2 (G.fn 5)) :=
  fn_recA (G := G) (k := 1) (i := 5) (x := "counts_behind") (μ := μ_counts_behind) (pre := pP_counts_behind.pre) (post := pP_counts_behind.post) F s5 rfl c5 rfl (fns_cons (.inr ⟨by decide, (f2 X Gm c).mono (by decide)⟩) (fns_cons (.inl ⟨rfl, rfl, rfl⟩) (fns_nil))) (frees_ok X Gm c (by decide +kernel)) (csts_ok X Gm c (by decide +kernel)) (excs_ok X Gm c (by decide +kernel)) rfl (He.glo_ok X Gm (facs_glo c (by decide +kernel))) (b5 F) (fun G2 hG z hz vs S Q E hcl hcx hl hp hq => (kP_counts_behind (G := G) rfl) G2 hG z hz vs S Q E hcl hcx hp hq) 12
theorem f5 (X : K.In h) (Gm : h.Ns mainGlobals mg) (c : He.SaysD (facs glos frees excs nums) fnl K) : FH P w K mg base G 13 "counts_behind" 5 2 := by
  obtain ⟨fd, F⟩ := c.def_ 5 (d := d5) rfl
  exact fn_step (He.glo_ok X Gm (facs_glo c (by decide +kernel))) F.kp (b5 F) rfl (r5 X Gm c F)
theorem m6 (X : K.In h) (Gm : h.Ns mainGlobals mg) (c : He.SaysD (facs glos frees excs nums) fnl K) : MH P w K mg base G 13 g6 :=
  { fns := fns_cons ((f5 X Gm c).mono (by decide)) (fns_nil), free := frees_ok X Gm c (by decide +kernel), cst := csts_ok X Gm c (by decide +kernel), exc := excs_ok X Gm c (by decide +kernel) }
theorem r6 (X : K.In h) (Gm : h.Ns mainGlobals mg) (c : He.SaysD (facs glos frees excs nums) fnl K) {fd : FuncData} (F : FunD K d6.name d6.qual d6.params d6.body d6.scope [] [] (He.fAd K d6.at_) fd) : FnOk P w K mg base (L2.CX P w) 14 (He.fAd K d6.at_) fd ["loops"] (spUp K w mg 1 (G.fn 6)) :=
  fn_runA (G := G) (i := 6) (pre := pP_counts_of.pre) (post := pP_counts_of.post) (xp := pP_counts_of.xp) F s6 rfl c6 rfl (m6 X Gm c) rfl (He.glo_ok X Gm (facs_glo c (by decide +kernel))) (b6 F) rfl fun z vs S Q E hcl hcx hl hp hq hx => (kP_counts_of (G := G) rfl) z vs S Q E hcl hcx hp hq hx
theorem f6 (X : K.In h) (Gm : h.Ns mainGlobals mg) (c : He.SaysD (facs glos frees excs nums) fnl K) : FH P w K mg base G 14 "counts_of" 6 1 := by
  obtain ⟨fd, F⟩ := c.def_ 6 (d := d6) rfl
  exact fn_step (He.glo_ok X Gm (facs_glo c (by decide +kernel))) F.kp (b6 F) rfl (r6 X Gm c F)
theorem r7 (X : K.In h) (Gm : h.Ns mainGlobals mg) (c : He.SaysD (facs glos frees excs nums) fnl K) {fd : FuncData} (F : FunD K d7.name d7.qual d7.params d7.body d7.scope [] [] (He.fAd K d7.at_) fd) : FnOk P w K mg base (L2.CX P w) 13 (He.fAd K d7.at_) fd ["loops", "counts", "most"] (spUp K w mg 3 (G.fn 7)) :=
  fn_recA (G := G) (k := 1) (i := 7) (x := "are_more") (μ := μ_are_more) (pre := pP_are_more.pre) (post := pP_are_more.post) F s7 rfl c7 rfl (fns_cons (.inr ⟨by decide, (f2 X Gm c).mono (by decide)⟩) (fns_cons (.inl ⟨rfl, rfl, rfl⟩) (fns_nil))) (frees_ok X Gm c (by decide +kernel)) (csts_ok X Gm c (by decide +kernel)) (excs_ok X Gm c (by decide +kernel)) rfl (He.glo_ok X Gm (facs_glo c (by decide +kernel))) (b7 F) (fun G2 hG z hz vs S Q E hcl hcx hl hp hq => (kP_are_more (G := G) rfl) G2 hG z hz vs S Q E hcl hcx hp hq) 12
theorem f7 (X : K.In h) (Gm : h.Ns mainGlobals mg) (c : He.SaysD (facs glos frees excs nums) fnl K) : FH P w K mg base G 13 "are_more" 7 3 := by
  obtain ⟨fd, F⟩ := c.def_ 7 (d := d7) rfl
  exact fn_step (He.glo_ok X Gm (facs_glo c (by decide +kernel))) F.kp (b7 F) rfl (r7 X Gm c F)
theorem m8 (X : K.In h) (Gm : h.Ns mainGlobals mg) (c : He.SaysD (facs glos frees excs nums) fnl K) : MH P w K mg base G 13 g8 :=
  { fns := fns_cons ((f7 X Gm c).mono (by decide)) (fns_nil), free := frees_ok X Gm c (by decide +kernel), cst := csts_ok X Gm c (by decide +kernel), exc := excs_ok X Gm c (by decide +kernel) }
theorem r8 (X : K.In h) (Gm : h.Ns mainGlobals mg) (c : He.SaysD (facs glos frees excs nums) fnl K) {fd : FuncData} (F : FunD K d8.name d8.qual d8.params d8.body d8.scope [] [] (He.fAd K d8.at_) fd) : FnOk P w K mg base (L2.CX P w) 14 (He.fAd K d8.at_) fd ["loops", "most"] (spUp K w mg 2 (G.fn 8)) :=
  fn_runA (G := G) (i := 8) (pre := pP_how_many.pre) (post := pP_how_many.post) (xp := pP_how_many.xp) F s8 rfl c8 rfl (m8 X Gm c) rfl (He.glo_ok X Gm (facs_glo c (by decide +kernel))) (b8 F) rfl fun z vs S Q E hcl hcx hl hp hq hx => (kP_how_many (G := G) rfl) z vs S Q E hcl hcx hp hq hx
theorem f8 (X : K.In h) (Gm : h.Ns mainGlobals mg) (c : He.SaysD (facs glos frees excs nums) fnl K) : FH P w K mg base G 14 "how_many" 8 2 := by
  obtain ⟨fd, F⟩ := c.def_ 8 (d := d8) rfl
  exact fn_step (He.glo_ok X Gm (facs_glo c (by decide +kernel))) F.kp (b8 F) rfl (r8 X Gm c F)
theorem m9 (X : K.In h) (Gm : h.Ns mainGlobals mg) (c : He.SaysD (facs glos frees excs nums) fnl K) : MH P w K mg base G 0 g9 :=
  { fns := fns_nil, free := frees_ok X Gm c (by decide +kernel), cst := csts_ok X Gm c (by decide +kernel), exc := excs_ok X Gm c (by decide +kernel) }
theorem r9 (X : K.In h) (Gm : h.Ns mainGlobals mg) (c : He.SaysD (facs glos frees excs nums) fnl K) {fd : FuncData} (F : FunD K d9.name d9.qual d9.params d9.body d9.scope [] [] (He.fAd K d9.at_) fd) : FnOk P w K mg base (L2.CX P w) 1 (He.fAd K d9.at_) fd ["thing", "low", "high"] (spUp K w mg 3 (G.fn 9)) :=
  fn_runA (G := G) (i := 9) (pre := pP_is_tuple_of.pre) (post := pP_is_tuple_of.post) (xp := pP_is_tuple_of.xp) F s9 rfl c9 rfl (m9 X Gm c) rfl (He.glo_ok X Gm (facs_glo c (by decide +kernel))) (b9 F) rfl fun z vs S Q E hcl hcx hl hp hq hx => (kP_is_tuple_of (G := G)) z vs S Q E hcl hcx hp hq hx
theorem f9 (X : K.In h) (Gm : h.Ns mainGlobals mg) (c : He.SaysD (facs glos frees excs nums) fnl K) : FH P w K mg base G 1 "is_tuple_of" 9 3 := by
  obtain ⟨fd, F⟩ := c.def_ 9 (d := d9) rfl
  exact fn_step (He.glo_ok X Gm (facs_glo c (by decide +kernel))) F.kp (b9 F) rfl (r9 X Gm c F)
theorem m10 (X : K.In h) (Gm : h.Ns mainGlobals mg) (c : He.SaysD (facs glos frees excs nums) fnl K) : MH P w K mg base G 1 g10 :=
  { fns := fns_cons ((f9 X Gm c).mono (by decide)) (fns_cons ((f0 X Gm c).mono (by decide)) (fns_nil)), free := frees_ok X Gm c (by decide +kernel), cst := csts_ok X Gm c (by decide +kernel), exc := excs_ok X Gm c (by decide +kernel) }
theorem r10 (X : K.In h) (Gm : h.Ns mainGlobals mg) (c : He.SaysD (facs glos frees excs nums) fnl K) {fd : FuncData} (F : FunD K d10.name d10.qual d10.params d10.body d10.scope [] [] (He.fAd K d10.at_) fd) : FnOk P w K mg base (L2.CX P w) 2 (He.fAd K d10.at_) fd ["thing"] (spUp K w mg 1 (G.fn 10)) :=
  fn_runA (G := G) (i := 10) (pre := pP_are_widths.pre) (post := pP_are_widths.post) (xp := pP_are_widths.xp) F s10 rfl c10 rfl (m10 X Gm c) rfl (He.glo_ok X Gm (facs_glo c (by decide +kernel))) (b10 F) rfl fun z vs S Q E hcl hcx hl hp hq hx => (kP_are_widths (G := G) rfl rfl) z vs S Q E hcl hcx hp hq hx
theorem f10 (X : K.In h) (Gm : h.Ns mainGlobals mg) (c : He.SaysD (facs glos frees excs nums) fnl K) : FH P w K mg base G 2 "are_widths" 10 1 := by
  obtain ⟨fd, F⟩ := c.def_ 10 (d := d10) rfl
  exact fn_step (He.glo_ok X Gm (facs_glo c (by decide +kernel))) F.kp (b10 F) rfl (r10 X Gm c F)
theorem m11 (X : K.In h) (Gm : h.Ns mainGlobals mg) (c : He.SaysD (facs glos frees excs nums) fnl K) : MH P w K mg base G 2 g11 :=
  { fns := fns_cons ((f0 X Gm c).mono (by decide)) (fns_cons ((f1 X Gm c).mono (by decide)) (fns_nil)), free := frees_ok X Gm c (by decide +kernel), cst := csts_ok X Gm c (by decide +kernel), exc := excs_ok X Gm c (by decide +kernel) }
theorem r11 (X : K.In h) (Gm : h.Ns mainGlobals mg) (c : He.SaysD (facs glos frees excs nums) fnl K) {fd : FuncData} (F : FunD K d11.name d11.qual d11.params d11.body d11.scope [] [] (He.fAd K d11.at_) fd) : FnOk P w K mg base (L2.CX P w) 3 (He.fAd K d11.at_) fd ["widths", "d", "table", "place"] (spUp K w mg 4 (G.fn 11)) :=
  fn_runA (G := G) (i := 11) (pre := pP_is_cell.pre) (post := pP_is_cell.post) (xp := pP_is_cell.xp) F s11 rfl c11 rfl (m11 X Gm c) rfl (He.glo_ok X Gm (facs_glo c (by decide +kernel))) (b11 F) rfl fun z vs S Q E hcl hcx hl hp hq hx => (kP_is_cell (G := G) rfl rfl) z vs S Q E hcl hcx hp hq hx
theorem f11 (X : K.In h) (Gm : h.Ns mainGlobals mg) (c : He.SaysD (facs glos frees excs nums) fnl K) : FH P w K mg base G 3 "is_cell" 11 4 := by
  obtain ⟨fd, F⟩ := c.def_ 11 (d := d11) rfl
  exact fn_step (He.glo_ok X Gm (facs_glo c (by decide +kernel))) F.kp (b11 F) rfl (r11 X Gm c F)
theorem m12 (X : K.In h) (Gm : h.Ns mainGlobals mg) (c : He.SaysD (facs glos frees excs nums) fnl K) : MH P w K mg base G 2 g12 :=
  { fns := fns_cons ((f1 X Gm c).mono (by decide)) (fns_nil), free := frees_ok X Gm c (by decide +kernel), cst := csts_ok X Gm c (by decide +kernel), exc := excs_ok X Gm c (by decide +kernel) }
theorem r12 (X : K.In h) (Gm : h.Ns mainGlobals mg) (c : He.SaysD (facs glos frees excs nums) fnl K) {fd : FuncData} (F : FunD K d12.name d12.qual d12.params d12.body d12.scope [] [] (He.fAd K d12.at_) fd) : FnOk P w K mg base (L2.CX P w) 3 (He.fAd K d12.at_) fd ["thing", "d"] (spUp K w mg 2 (G.fn 12)) :=
  fn_runA (G := G) (i := 12) (pre := pP_is_great_form.pre) (post := pP_is_great_form.post) (xp := pP_is_great_form.xp) F s12 rfl c12 rfl (m12 X Gm c) rfl (He.glo_ok X Gm (facs_glo c (by decide +kernel))) (b12 F) rfl fun z vs S Q E hcl hcx hl hp hq hx => (kP_is_great_form (G := G) rfl) z vs S Q E hcl hcx hp hq hx
theorem f12 (X : K.In h) (Gm : h.Ns mainGlobals mg) (c : He.SaysD (facs glos frees excs nums) fnl K) : FH P w K mg base G 3 "is_great_form" 12 2 := by
  obtain ⟨fd, F⟩ := c.def_ 12 (d := d12) rfl
  exact fn_step (He.glo_ok X Gm (facs_glo c (by decide +kernel))) F.kp (b12 F) rfl (r12 X Gm c F)
theorem m13 (X : K.In h) (Gm : h.Ns mainGlobals mg) (c : He.SaysD (facs glos frees excs nums) fnl K) : MH P w K mg base G 3 g13 :=
  { fns := fns_cons ((f11 X Gm c).mono (by decide)) (fns_cons ((f9 X Gm c).mono (by decide)) (fns_cons ((f0 X Gm c).mono (by decide)) (fns_nil))), free := frees_ok X Gm c (by decide +kernel), cst := csts_ok X Gm c (by decide +kernel), exc := excs_ok X Gm c (by decide +kernel) }
theorem r13 (X : K.In h) (Gm : h.Ns mainGlobals mg) (c : He.SaysD (facs glos frees excs nums) fnl K) {fd : FuncData} (F : FunD K d13.name d13.qual d13.params d13.body d13.scope [] [] (He.fAd K d13.at_) fd) : FnOk P w K mg base (L2.CX P w) 4 (He.fAd K d13.at_) fd ["widths", "d", "thing"] (spUp K w mg 3 (G.fn 13)) :=
  fn_runA (G := G) (i := 13) (pre := pP_is_read.pre) (post := pP_is_read.post) (xp := pP_is_read.xp) F s13 rfl c13 rfl (m13 X Gm c) rfl (He.glo_ok X Gm (facs_glo c (by decide +kernel))) (b13 F) rfl fun z vs S Q E hcl hcx hl hp hq hx => (kP_is_read (G := G) rfl rfl rfl) z vs S Q E hcl hcx hp hq hx
theorem f13 (X : K.In h) (Gm : h.Ns mainGlobals mg) (c : He.SaysD (facs glos frees excs nums) fnl K) : FH P w K mg base G 4 "is_read" 13 3 := by
  obtain ⟨fd, F⟩ := c.def_ 13 (d := d13) rfl
  exact fn_step (He.glo_ok X Gm (facs_glo c (by decide +kernel))) F.kp (b13 F) rfl (r13 X Gm c F)
theorem m14 (X : K.In h) (Gm : h.Ns mainGlobals mg) (c : He.SaysD (facs glos frees excs nums) fnl K) : MH P w K mg base G 4 g14 :=
  { fns := fns_cons ((f9 X Gm c).mono (by decide)) (fns_cons ((f11 X Gm c).mono (by decide)) (fns_cons ((f12 X Gm c).mono (by decide)) (fns_cons ((f13 X Gm c).mono (by decide)) (fns_nil)))), free := frees_ok X Gm c (by decide +kernel), cst := csts_ok X Gm c (by decide +kernel), exc := excs_ok X Gm c (by decide +kernel) }
theorem r14 (X : K.In h) (Gm : h.Ns mainGlobals mg) (c : He.SaysD (facs glos frees excs nums) fnl K) {fd : FuncData} (F : FunD K d14.name d14.qual d14.params d14.body d14.scope [] [] (He.fAd K d14.at_) fd) : FnOk P w K mg base (L2.CX P w) 5 (He.fAd K d14.at_) fd ["widths", "d", "thing"] (spUp K w mg 3 (G.fn 14)) :=
  fn_runA (G := G) (i := 14) (pre := pP_is_deed.pre) (post := pP_is_deed.post) (xp := pP_is_deed.xp) F s14 rfl c14 rfl (m14 X Gm c) rfl (He.glo_ok X Gm (facs_glo c (by decide +kernel))) (b14 F) rfl fun z vs S Q E hcl hcx hl hp hq hx => (kP_is_deed (G := G) rfl rfl rfl rfl) z vs S Q E hcl hcx hp hq hx
theorem f14 (X : K.In h) (Gm : h.Ns mainGlobals mg) (c : He.SaysD (facs glos frees excs nums) fnl K) : FH P w K mg base G 5 "is_deed" 14 3 := by
  obtain ⟨fd, F⟩ := c.def_ 14 (d := d14) rfl
  exact fn_step (He.glo_ok X Gm (facs_glo c (by decide +kernel))) F.kp (b14 F) rfl (r14 X Gm c F)
theorem m15 (X : K.In h) (Gm : h.Ns mainGlobals mg) (c : He.SaysD (facs glos frees excs nums) fnl K) : MH P w K mg base G 5 g15 :=
  { fns := fns_cons ((f9 X Gm c).mono (by decide)) (fns_cons ((f4 X Gm c).mono (by decide)) (fns_cons ((f14 X Gm c).mono (by decide)) (fns_nil))), free := frees_ok X Gm c (by decide +kernel), cst := csts_ok X Gm c (by decide +kernel), exc := excs_ok X Gm c (by decide +kernel) }
theorem r15 (X : K.In h) (Gm : h.Ns mainGlobals mg) (c : He.SaysD (facs glos frees excs nums) fnl K) {fd : FuncData} (F : FunD K d15.name d15.qual d15.params d15.body d15.scope [] [] (He.fAd K d15.at_) fd) : FnOk P w K mg base (L2.CX P w) 6 (He.fAd K d15.at_) fd ["widths", "thing"] (spUp K w mg 2 (G.fn 15)) :=
  fn_runA (G := G) (i := 15) (pre := pP_is_nest.pre) (post := pP_is_nest.post) (xp := pP_is_nest.xp) F s15 rfl c15 rfl (m15 X Gm c) rfl (He.glo_ok X Gm (facs_glo c (by decide +kernel))) (b15 F) rfl fun z vs S Q E hcl hcx hl hp hq hx => (kP_is_nest (G := G) rfl rfl rfl) z vs S Q E hcl hcx hp hq hx
theorem f15 (X : K.In h) (Gm : h.Ns mainGlobals mg) (c : He.SaysD (facs glos frees excs nums) fnl K) : FH P w K mg base G 6 "is_nest" 15 2 := by
  obtain ⟨fd, F⟩ := c.def_ 15 (d := d15) rfl
  exact fn_step (He.glo_ok X Gm (facs_glo c (by decide +kernel))) F.kp (b15 F) rfl (r15 X Gm c F)
theorem m16 (X : K.In h) (Gm : h.Ns mainGlobals mg) (c : He.SaysD (facs glos frees excs nums) fnl K) : MH P w K mg base G 14 g16 :=
  { fns := fns_cons ((f10 X Gm c).mono (by decide)) (fns_cons ((f9 X Gm c).mono (by decide)) (fns_cons ((f15 X Gm c).mono (by decide)) (fns_cons ((f8 X Gm c).mono (by decide)) (fns_nil)))), free := frees_ok X Gm c (by decide +kernel), cst := csts_ok X Gm c (by decide +kernel), exc := excs_ok X Gm c (by decide +kernel) }
theorem r16 (X : K.In h) (Gm : h.Ns mainGlobals mg) (c : He.SaysD (facs glos frees excs nums) fnl K) {fd : FuncData} (F : FunD K d16.name d16.qual d16.params d16.body d16.scope [] [] (He.fAd K d16.at_) fd) : FnOk P w K mg base (L2.CX P w) 15 (He.fAd K d16.at_) fd ["widths", "nests"] (spUp K w mg 2 (G.fn 16)) :=
  fn_runA (G := G) (i := 16) (pre := pP_program_of.pre) (post := pP_program_of.post) (xp := pP_program_of.xp) F s16 rfl c16 rfl (m16 X Gm c) rfl (He.glo_ok X Gm (facs_glo c (by decide +kernel))) (b16 F) rfl fun z vs S Q E hcl hcx hl hp hq hx => (kP_program_of (G := G) rfl rfl rfl rfl) z vs S Q E hcl hcx hp hq hx
theorem f16 (X : K.In h) (Gm : h.Ns mainGlobals mg) (c : He.SaysD (facs glos frees excs nums) fnl K) : FH P w K mg base G 15 "program_of" 16 2 := by
  obtain ⟨fd, F⟩ := c.def_ 16 (d := d16) rfl
  exact fn_step (He.glo_ok X Gm (facs_glo c (by decide +kernel))) F.kp (b16 F) rfl (r16 X Gm c F)
theorem m17 (X : K.In h) (Gm : h.Ns mainGlobals mg) (c : He.SaysD (facs glos frees excs nums) fnl K) : MH P w K mg base G 14 g17 :=
  { fns := fns_cons ((f6 X Gm c).mono (by decide)) (fns_nil), free := frees_ok X Gm c (by decide +kernel), cst := csts_ok X Gm c (by decide +kernel), exc := excs_ok X Gm c (by decide +kernel) }
theorem r17 (X : K.In h) (Gm : h.Ns mainGlobals mg) (c : He.SaysD (facs glos frees excs nums) fnl K) {fd : FuncData} (F : FunD K d17.name d17.qual d17.params d17.body d17.scope [] [] (He.fAd K d17.at_) fd) : FnOk P w K mg base (L2.CX P w) 15 (He.fAd K d17.at_) fd ["program"] (spUp K w mg 1 (G.fn 17)) :=
  fn_runA (G := G) (i := 17) (pre := pP_steps_of.pre) (post := pP_steps_of.post) (xp := pP_steps_of.xp) F s17 rfl c17 rfl (m17 X Gm c) rfl (He.glo_ok X Gm (facs_glo c (by decide +kernel))) (b17 F) rfl fun z vs S Q E hcl hcx hl hp hq hx => (kP_steps_of (G := G) rfl) z vs S Q E hcl hcx hp hq hx
theorem f17 (X : K.In h) (Gm : h.Ns mainGlobals mg) (c : He.SaysD (facs glos frees excs nums) fnl K) : FH P w K mg base G 15 "steps_of" 17 1 := by
  obtain ⟨fd, F⟩ := c.def_ 17 (d := d17) rfl
  exact fn_step (He.glo_ok X Gm (facs_glo c (by decide +kernel))) F.kp (b17 F) rfl (r17 X Gm c F)
theorem m18 (X : K.In h) (Gm : h.Ns mainGlobals mg) (c : He.SaysD (facs glos frees excs nums) fnl K) : MH P w K mg base G 1 g18 :=
  { fns := fns_cons ((f2 X Gm c).mono (by decide)) (fns_nil), free := frees_ok X Gm c (by decide +kernel), cst := csts_ok X Gm c (by decide +kernel), exc := excs_ok X Gm c (by decide +kernel) }
theorem r18 (X : K.In h) (Gm : h.Ns mainGlobals mg) (c : He.SaysD (facs glos frees excs nums) fnl K) {fd : FuncData} (F : FunD K d18.name d18.qual d18.params d18.body d18.scope [] [] (He.fAd K d18.at_) fd) : FnOk P w K mg base (L2.CX P w) 2 (He.fAd K d18.at_) fd ["table", "place", "counts"] (spUp K w mg 3 (G.fn 18)) :=
  fn_runA (G := G) (i := 18) (pre := pP_cell_at.pre) (post := pP_cell_at.post) (xp := pP_cell_at.xp) F s18 rfl c18 rfl (m18 X Gm c) rfl (He.glo_ok X Gm (facs_glo c (by decide +kernel))) (b18 F) rfl fun z vs S Q E hcl hcx hl hp hq hx => (kP_cell_at (G := G) rfl) z vs S Q E hcl hcx hp hq hx
theorem f18 (X : K.In h) (Gm : h.Ns mainGlobals mg) (c : He.SaysD (facs glos frees excs nums) fnl K) : FH P w K mg base G 2 "cell_at" 18 3 := by
  obtain ⟨fd, F⟩ := c.def_ 18 (d := d18) rfl
  exact fn_step (He.glo_ok X Gm (facs_glo c (by decide +kernel))) F.kp (b18 F) rfl (r18 X Gm c F)
theorem m19 (X : K.In h) (Gm : h.Ns mainGlobals mg) (c : He.SaysD (facs glos frees excs nums) fnl K) : MH P w K mg base G 2 g19 :=
  { fns := fns_cons ((f18 X Gm c).mono (by decide)) (fns_nil), free := frees_ok X Gm c (by decide +kernel), cst := csts_ok X Gm c (by decide +kernel), exc := excs_ok X Gm c (by decide +kernel) }
theorem r19 (X : K.In h) (Gm : h.Ns mainGlobals mg) (c : He.SaysD (facs glos frees excs nums) fnl K) {fd : FuncData} (F : FunD K d19.name d19.qual d19.params d19.body d19.scope [] [] (He.fAd K d19.at_) fd) : FnOk P w K mg base (L2.CX P w) 3 (He.fAd K d19.at_) fd ["program", "step"] (spUp K w mg 2 (G.fn 19)) :=
  fn_runA (G := G) (i := 19) (pre := pP_cells_of_step.pre) (post := pP_cells_of_step.post) (xp := pP_cells_of_step.xp) F s19 rfl c19 rfl (m19 X Gm c) rfl (He.glo_ok X Gm (facs_glo c (by decide +kernel))) (b19 F) rfl fun z vs S Q E hcl hcx hl hp hq hx => (kP_cells_of_step (G := G) rfl) z vs S Q E hcl hcx hp hq hx
theorem f19 (X : K.In h) (Gm : h.Ns mainGlobals mg) (c : He.SaysD (facs glos frees excs nums) fnl K) : FH P w K mg base G 3 "cells_of_step" 19 2 := by
  obtain ⟨fd, F⟩ := c.def_ 19 (d := d19) rfl
  exact fn_step (He.glo_ok X Gm (facs_glo c (by decide +kernel))) F.kp (b19 F) rfl (r19 X Gm c F)
theorem m20 (X : K.In h) (Gm : h.Ns mainGlobals mg) (c : He.SaysD (facs glos frees excs nums) fnl K) : MH P w K mg base G 15 g20 :=
  { fns := fns_cons ((f19 X Gm c).mono (by decide)) (fns_cons ((f17 X Gm c).mono (by decide)) (fns_nil)), free := frees_ok X Gm c (by decide +kernel), cst := csts_ok X Gm c (by decide +kernel), exc := excs_ok X Gm c (by decide +kernel) }
theorem r20 (X : K.In h) (Gm : h.Ns mainGlobals mg) (c : He.SaysD (facs glos frees excs nums) fnl K) {fd : FuncData} (F : FunD K d20.name d20.qual d20.params d20.body d20.scope [] [] (He.fAd K d20.at_) fd) : FnOk P w K mg base (L2.CX P w) 16 (He.fAd K d20.at_) fd ["program"] (spUp K w mg 1 (G.fn 20)) :=
  fn_runA (G := G) (i := 20) (pre := pP_cells_of.pre) (post := pP_cells_of.post) (xp := pP_cells_of.xp) F s20 rfl c20 rfl (m20 X Gm c) rfl (He.glo_ok X Gm (facs_glo c (by decide +kernel))) (b20 F) rfl fun z vs S Q E hcl hcx hl hp hq hx => (kP_cells_of (G := G) rfl rfl) z vs S Q E hcl hcx hp hq hx
theorem f20 (X : K.In h) (Gm : h.Ns mainGlobals mg) (c : He.SaysD (facs glos frees excs nums) fnl K) : FH P w K mg base G 16 "cells_of" 20 1 := by
  obtain ⟨fd, F⟩ := c.def_ 20 (d := d20) rfl
  exact fn_step (He.glo_ok X Gm (facs_glo c (by decide +kernel))) F.kp (b20 F) rfl (r20 X Gm c F)
theorem m21 (X : K.In h) (Gm : h.Ns mainGlobals mg) (c : He.SaysD (facs glos frees excs nums) fnl K) : MH P w K mg base G 15 g21 :=
  { fns := fns_cons ((f17 X Gm c).mono (by decide)) (fns_nil), free := frees_ok X Gm c (by decide +kernel), cst := csts_ok X Gm c (by decide +kernel), exc := excs_ok X Gm c (by decide +kernel) }
theorem r21 (X : K.In h) (Gm : h.Ns mainGlobals mg) (c : He.SaysD (facs glos frees excs nums) fnl K) {fd : FuncData} (F : FunD K d21.name d21.qual d21.params d21.body d21.scope [] [] (He.fAd K d21.at_) fd) : FnOk P w K mg base (L2.CX P w) 16 (He.fAd K d21.at_) fd ["program"] (spUp K w mg 1 (G.fn 21)) :=
  fn_runA (G := G) (i := 21) (pre := pP_plain.pre) (post := pP_plain.post) (xp := pP_plain.xp) F s21 rfl c21 rfl (m21 X Gm c) rfl (He.glo_ok X Gm (facs_glo c (by decide +kernel))) (b21 F) rfl fun z vs S Q E hcl hcx hl hp hq hx => (kP_plain (G := G) rfl) z vs S Q E hcl hcx hp hq hx
theorem f21 (X : K.In h) (Gm : h.Ns mainGlobals mg) (c : He.SaysD (facs glos frees excs nums) fnl K) : FH P w K mg base G 16 "plain" 21 1 := by
  obtain ⟨fd, F⟩ := c.def_ 21 (d := d21) rfl
  exact fn_step (He.glo_ok X Gm (facs_glo c (by decide +kernel))) F.kp (b21 F) rfl (r21 X Gm c F)
theorem m22 (X : K.In h) (Gm : h.Ns mainGlobals mg) (c : He.SaysD (facs glos frees excs nums) fnl K) : MH P w K mg base G 1 g22 :=
  { fns := fns_cons ((f0 X Gm c).mono (by decide)) (fns_nil), free := frees_ok X Gm c (by decide +kernel), cst := csts_ok X Gm c (by decide +kernel), exc := excs_ok X Gm c (by decide +kernel) }
theorem r22 (X : K.In h) (Gm : h.Ns mainGlobals mg) (c : He.SaysD (facs glos frees excs nums) fnl K) {fd : FuncData} (F : FunD K d22.name d22.qual d22.params d22.body d22.scope [] [] (He.fAd K d22.at_) fd) : FnOk P w K mg base (L2.CX P w) 2 (He.fAd K d22.at_) fd ["many", "row"] (spUp K w mg 2 (G.fn 22)) :=
  fn_runA (G := G) (i := 22) (pre := pP_ask_row.pre) (post := pP_ask_row.post) (xp := pP_ask_row.xp) F s22 rfl c22 rfl (m22 X Gm c) rfl (He.glo_ok X Gm (facs_glo c (by decide +kernel))) (b22 F) rfl fun z vs S Q E hcl hcx hl hp hq hx => (kP_ask_row (G := G) rfl) z vs S Q E hcl hcx hp hq hx
theorem f22 (X : K.In h) (Gm : h.Ns mainGlobals mg) (c : He.SaysD (facs glos frees excs nums) fnl K) : FH P w K mg base G 2 "ask_row" 22 2 := by
  obtain ⟨fd, F⟩ := c.def_ 22 (d := d22) rfl
  exact fn_step (He.glo_ok X Gm (facs_glo c (by decide +kernel))) F.kp (b22 F) rfl (r22 X Gm c F)
theorem m23 (X : K.In h) (Gm : h.Ns mainGlobals mg) (c : He.SaysD (facs glos frees excs nums) fnl K) : MH P w K mg base G 2 g23 :=
  { fns := fns_cons ((f22 X Gm c).mono (by decide)) (fns_nil), free := frees_ok X Gm c (by decide +kernel), cst := csts_ok X Gm c (by decide +kernel), exc := excs_ok X Gm c (by decide +kernel) }
theorem r23 (X : K.In h) (Gm : h.Ns mainGlobals mg) (c : He.SaysD (facs glos frees excs nums) fnl K) {fd : FuncData} (F : FunD K d23.name d23.qual d23.params d23.body d23.scope [] [] (He.fAd K d23.at_) fd) : FnOk P w K mg base (L2.CX P w) 3 (He.fAd K d23.at_) fd ["many", "order"] (spUp K w mg 2 (G.fn 23)) :=
  fn_runA (G := G) (i := 23) (pre := pP_ask_order.pre) (post := pP_ask_order.post) (xp := pP_ask_order.xp) F s23 rfl c23 rfl (m23 X Gm c) rfl (He.glo_ok X Gm (facs_glo c (by decide +kernel))) (b23 F) rfl fun z vs S Q E hcl hcx hl hp hq hx => (kP_ask_order (G := G) rfl) z vs S Q E hcl hcx hp hq hx
theorem f23 (X : K.In h) (Gm : h.Ns mainGlobals mg) (c : He.SaysD (facs glos frees excs nums) fnl K) : FH P w K mg base G 3 "ask_order" 23 2 := by
  obtain ⟨fd, F⟩ := c.def_ 23 (d := d23) rfl
  exact fn_step (He.glo_ok X Gm (facs_glo c (by decide +kernel))) F.kp (b23 F) rfl (r23 X Gm c F)
theorem m29 (X : K.In h) (Gm : h.Ns mainGlobals mg) (c : He.SaysD (facs glos frees excs nums) fnl K) : MH P w K mg base G 0 g29 :=
  { fns := fns_nil, free := frees_ok X Gm c (by decide +kernel), cst := csts_ok X Gm c (by decide +kernel), exc := excs_ok X Gm c (by decide +kernel) }
theorem r29 (X : K.In h) (Gm : h.Ns mainGlobals mg) (c : He.SaysD (facs glos frees excs nums) fnl K) {fd : FuncData} (F : FunD K d29.name d29.qual d29.params d29.body d29.scope [] [] (He.fAd K d29.at_) fd) : FnOk P w K mg base (L2.CX P w) 1 (He.fAd K d29.at_) fd ["one", "other"] (spUp K w mg 2 (G.fn 29)) :=
  fn_runA (G := G) (i := 29) (pre := pP_shared_cells.pre) (post := pP_shared_cells.post) (xp := pP_shared_cells.xp) F s29 rfl c29 rfl (m29 X Gm c) rfl (He.glo_ok X Gm (facs_glo c (by decide +kernel))) (b29 F) rfl fun z vs S Q E hcl hcx hl hp hq hx => (kP_shared_cells (G := G)) z vs S Q E hcl hcx hp hq hx
theorem f29 (X : K.In h) (Gm : h.Ns mainGlobals mg) (c : He.SaysD (facs glos frees excs nums) fnl K) : FH P w K mg base G 1 "shared_cells" 29 2 := by
  obtain ⟨fd, F⟩ := c.def_ 24 (d := d29) rfl
  exact fn_step (He.glo_ok X Gm (facs_glo c (by decide +kernel))) F.kp (b29 F) rfl (r29 X Gm c F)
theorem m61 (X : K.In h) (Gm : h.Ns mainGlobals mg) (c : He.SaysD (facs glos frees excs nums) fnl K) : MH P w K mg base G 16 g61 :=
  { fns := fns_cons ((f20 X Gm c).mono (by decide)) (fns_cons ((f23 X Gm c).mono (by decide)) (fns_cons ((f21 X Gm c).mono (by decide)) (fns_cons ((f29 X Gm c).mono (by decide)) (fns_nil)))), free := frees_ok X Gm c (by decide +kernel), cst := csts_ok X Gm c (by decide +kernel), exc := excs_ok X Gm c (by decide +kernel) }
theorem r61 (X : K.In h) (Gm : h.Ns mainGlobals mg) (c : He.SaysD (facs glos frees excs nums) fnl K) {fd : FuncData} (F : FunD K d61.name d61.qual d61.params d61.body d61.scope [] [] (He.fAd K d61.at_) fd) : FnOk P w K mg base (L2.CX P w) 17 (He.fAd K d61.at_) fd ["program", "exchanges", "order"] (spUp K w mg 3 (G.fn 61)) :=
  fn_runA (G := G) (i := 61) (pre := pP_leads.pre) (post := pP_leads.post) (xp := pP_leads.xp) F s61 rfl c61 rfl (m61 X Gm c) rfl (He.glo_ok X Gm (facs_glo c (by decide +kernel))) (b61 F) rfl fun z vs S Q E hcl hcx hl hp hq hx => (kP_leads (G := G) rfl rfl rfl rfl) z vs S Q E hcl hcx hp hq hx
theorem f61 (X : K.In h) (Gm : h.Ns mainGlobals mg) (c : He.SaysD (facs glos frees excs nums) fnl K) : FH P w K mg base G 17 "leads" 61 3 := by
  obtain ⟨fd, F⟩ := c.def_ 25 (d := d61) rfl
  exact fn_step (He.glo_ok X Gm (facs_glo c (by decide +kernel))) F.kp (b61 F) rfl (r61 X Gm c F)
theorem m100 (X : K.In h) (Gm : h.Ns mainGlobals mg) (c : He.SaysD (facs glos frees excs nums) fnl K) : MH P w K mg base G 0 g100 :=
  { fns := fns_nil, free := frees_ok X Gm c (by decide +kernel), cst := csts_ok X Gm c (by decide +kernel), exc := excs_ok X Gm c (by decide +kernel) }
theorem r100 (X : K.In h) (Gm : h.Ns mainGlobals mg) (c : He.SaysD (facs glos frees excs nums) fnl K) {fd : FuncData} (F : FunD K d100.name d100.qual d100.params d100.body d100.scope [] [] (He.fAd K d100.at_) fd) : FnOk P w K mg base (L2.CX P w) 1 (He.fAd K d100.at_) fd ["_law_script", "_law_k"] (spUp K w mg 2 (G.fn 100)) :=
  fn_runA (G := G) (i := 100) (pre := pB_cell.pre) (post := pB_cell.post) (xp := pB_cell.xp) F s100 rfl c100 rfl (m100 X Gm c) rfl (He.glo_ok X Gm (facs_glo c (by decide +kernel))) (b100 F) rfl fun z vs S Q E hcl hcx hl hp hq hx => (kB_cell (G := G)) z vs S Q E hcl hcx hp hq hx
theorem f100 (X : K.In h) (Gm : h.Ns mainGlobals mg) (c : He.SaysD (facs glos frees excs nums) fnl K) : FH P w K mg base G 1 "_law_cell" 100 2 := by
  obtain ⟨fd, F⟩ := c.def_ 26 (d := d100) rfl
  exact fn_step (He.glo_ok X Gm (facs_glo c (by decide +kernel))) F.kp (b100 F) rfl (r100 X Gm c F)
theorem m101 (X : K.In h) (Gm : h.Ns mainGlobals mg) (c : He.SaysD (facs glos frees excs nums) fnl K) : MH P w K mg base G 1 g101 :=
  { fns := fns_cons ((f100 X Gm c).mono (by decide)) (fns_nil), free := frees_ok X Gm c (by decide +kernel), cst := csts_ok X Gm c (by decide +kernel), exc := excs_ok X Gm c (by decide +kernel) }
theorem r101 (X : K.In h) (Gm : h.Ns mainGlobals mg) (c : He.SaysD (facs glos frees excs nums) fnl K) {fd : FuncData} (F : FunD K d101.name d101.qual d101.params d101.body d101.scope [] [] (He.fAd K d101.at_) fd) : FnOk P w K mg base (L2.CX P w) 2 (He.fAd K d101.at_) fd ["_law_script", "_law_k"] (spUp K w mg 2 (G.fn 101)) :=
  fn_runA (G := G) (i := 101) (pre := pB_pen.pre) (post := pB_pen.post) (xp := pB_pen.xp) F s101 rfl c101 rfl (m101 X Gm c) rfl (He.glo_ok X Gm (facs_glo c (by decide +kernel))) (b101 F) rfl fun z vs S Q E hcl hcx hl hp hq hx => (kB_pen (G := G) rfl) z vs S Q E hcl hcx hp hq hx
theorem f101 (X : K.In h) (Gm : h.Ns mainGlobals mg) (c : He.SaysD (facs glos frees excs nums) fnl K) : FH P w K mg base G 2 "_law_pen" 101 2 := by
  obtain ⟨fd, F⟩ := c.def_ 27 (d := d101) rfl
  exact fn_step (He.glo_ok X Gm (facs_glo c (by decide +kernel))) F.kp (b101 F) rfl (r101 X Gm c F)
theorem m102 (X : K.In h) (Gm : h.Ns mainGlobals mg) (c : He.SaysD (facs glos frees excs nums) fnl K) : MH P w K mg base G 1 g102 :=
  { fns := fns_cons ((f100 X Gm c).mono (by decide)) (fns_nil), free := frees_ok X Gm c (by decide +kernel), cst := csts_ok X Gm c (by decide +kernel), exc := excs_ok X Gm c (by decide +kernel) }
theorem r102 (X : K.In h) (Gm : h.Ns mainGlobals mg) (c : He.SaysD (facs glos frees excs nums) fnl K) {fd : FuncData} (F : FunD K d102.name d102.qual d102.params d102.body d102.scope [] [] (He.fAd K d102.at_) fd) : FnOk P w K mg base (L2.CX P w) 2 (He.fAd K d102.at_) fd ["_law_pen_here", "_law_many"] (spUp K w mg 2 (G.fn 102)) :=
  fn_runA (G := G) (i := 102) (pre := pB_take.pre) (post := pB_take.post) (xp := pB_take.xp) F s102 rfl c102 rfl (m102 X Gm c) rfl (He.glo_ok X Gm (facs_glo c (by decide +kernel))) (b102 F) rfl fun z vs S Q E hcl hcx hl hp hq hx => (kB_take (G := G) rfl) z vs S Q E hcl hcx hp hq hx
theorem f102 (X : K.In h) (Gm : h.Ns mainGlobals mg) (c : He.SaysD (facs glos frees excs nums) fnl K) : FH P w K mg base G 2 "_law_take" 102 2 := by
  obtain ⟨fd, F⟩ := c.def_ 28 (d := d102) rfl
  exact fn_step (He.glo_ok X Gm (facs_glo c (by decide +kernel))) F.kp (b102 F) rfl (r102 X Gm c F)
theorem m103 (X : K.In h) (Gm : h.Ns mainGlobals mg) (c : He.SaysD (facs glos frees excs nums) fnl K) : MH P w K mg base G 2 g103 :=
  { fns := fns_cons ((f102 X Gm c).mono (by decide)) (fns_nil), free := frees_ok X Gm c (by decide +kernel), cst := csts_ok X Gm c (by decide +kernel), exc := excs_ok X Gm c (by decide +kernel) }
theorem r103 (X : K.In h) (Gm : h.Ns mainGlobals mg) (c : He.SaysD (facs glos frees excs nums) fnl K) {fd : FuncData} (F : FunD K d103.name d103.qual d103.params d103.body d103.scope [] [] (He.fAd K d103.at_) fd) : FnOk P w K mg base (L2.CX P w) 3 (He.fAd K d103.at_) fd ["_law_pen_here", "_law_many", "_law_wide"] (spUp K w mg 3 (G.fn 103)) :=
  fn_runA (G := G) (i := 103) (pre := pB_form.pre) (post := pB_form.post) (xp := pB_form.xp) F s103 rfl c103 rfl (m103 X Gm c) rfl (He.glo_ok X Gm (facs_glo c (by decide +kernel))) (b103 F) rfl fun z vs S Q E hcl hcx hl hp hq hx => (kB_form (G := G) rfl) z vs S Q E hcl hcx hp hq hx
theorem f103 (X : K.In h) (Gm : h.Ns mainGlobals mg) (c : He.SaysD (facs glos frees excs nums) fnl K) : FH P w K mg base G 3 "_law_form" 103 3 := by
  obtain ⟨fd, F⟩ := c.def_ 29 (d := d103) rfl
  exact fn_step (He.glo_ok X Gm (facs_glo c (by decide +kernel))) F.kp (b103 F) rfl (r103 X Gm c F)
theorem m104 (X : K.In h) (Gm : h.Ns mainGlobals mg) (c : He.SaysD (facs glos frees excs nums) fnl K) : MH P w K mg base G 2 g104 :=
  { fns := fns_cons ((f102 X Gm c).mono (by decide)) (fns_nil), free := frees_ok X Gm c (by decide +kernel), cst := csts_ok X Gm c (by decide +kernel), exc := excs_ok X Gm c (by decide +kernel) }
theorem r104 (X : K.In h) (Gm : h.Ns mainGlobals mg) (c : He.SaysD (facs glos frees excs nums) fnl K) {fd : FuncData} (F : FunD K d104.name d104.qual d104.params d104.body d104.scope [] [] (He.fAd K d104.at_) fd) : FnOk P w K mg base (L2.CX P w) 3 (He.fAd K d104.at_) fd ["_law_pen_here", "_law_most"] (spUp K w mg 2 (G.fn 104)) :=
  fn_runA (G := G) (i := 104) (pre := pB_loops.pre) (post := pB_loops.post) (xp := pB_loops.xp) F s104 rfl c104 rfl (m104 X Gm c) rfl (He.glo_ok X Gm (facs_glo c (by decide +kernel))) (b104 F) rfl fun z vs S Q E hcl hcx hl hp hq hx => (kB_loops (G := G) rfl) z vs S Q E hcl hcx hp hq hx
theorem f104 (X : K.In h) (Gm : h.Ns mainGlobals mg) (c : He.SaysD (facs glos frees excs nums) fnl K) : FH P w K mg base G 3 "_law_loops" 104 2 := by
  obtain ⟨fd, F⟩ := c.def_ 30 (d := d104) rfl
  exact fn_step (He.glo_ok X Gm (facs_glo c (by decide +kernel))) F.kp (b104 F) rfl (r104 X Gm c F)
theorem m105 (X : K.In h) (Gm : h.Ns mainGlobals mg) (c : He.SaysD (facs glos frees excs nums) fnl K) : MH P w K mg base G 3 g105 :=
  { fns := fns_cons ((f102 X Gm c).mono (by decide)) (fns_cons ((f103 X Gm c).mono (by decide)) (fns_nil)), free := frees_ok X Gm c (by decide +kernel), cst := csts_ok X Gm c (by decide +kernel), exc := excs_ok X Gm c (by decide +kernel) }
theorem r105 (X : K.In h) (Gm : h.Ns mainGlobals mg) (c : He.SaysD (facs glos frees excs nums) fnl K) {fd : FuncData} (F : FunD K d105.name d105.qual d105.params d105.body d105.scope [] [] (He.fAd K d105.at_) fd) : FnOk P w K mg base (L2.CX P w) 4 (He.fAd K d105.at_) fd ["_law_pen_here", "_law_widths", "_law_many"] (spUp K w mg 3 (G.fn 105)) :=
  fn_runA (G := G) (i := 105) (pre := pB_deed.pre) (post := pB_deed.post) (xp := pB_deed.xp) F s105 rfl c105 rfl (m105 X Gm c) rfl (He.glo_ok X Gm (facs_glo c (by decide +kernel))) (b105 F) rfl fun z vs S Q E hcl hcx hl hp hq hx => (kB_deed (G := G) rfl rfl) z vs S Q E hcl hcx hp hq hx
theorem f105 (X : K.In h) (Gm : h.Ns mainGlobals mg) (c : He.SaysD (facs glos frees excs nums) fnl K) : FH P w K mg base G 4 "_law_deed" 105 3 := by
  obtain ⟨fd, F⟩ := c.def_ 31 (d := d105) rfl
  exact fn_step (He.glo_ok X Gm (facs_glo c (by decide +kernel))) F.kp (b105 F) rfl (r105 X Gm c F)
theorem m106 (X : K.In h) (Gm : h.Ns mainGlobals mg) (c : He.SaysD (facs glos frees excs nums) fnl K) : MH P w K mg base G 4 g106 :=
  { fns := fns_cons ((f102 X Gm c).mono (by decide)) (fns_cons ((f104 X Gm c).mono (by decide)) (fns_cons ((f105 X Gm c).mono (by decide)) (fns_nil))), free := frees_ok X Gm c (by decide +kernel), cst := csts_ok X Gm c (by decide +kernel), exc := excs_ok X Gm c (by decide +kernel) }
theorem r106 (X : K.In h) (Gm : h.Ns mainGlobals mg) (c : He.SaysD (facs glos frees excs nums) fnl K) {fd : FuncData} (F : FunD K d106.name d106.qual d106.params d106.body d106.scope [] [] (He.fAd K d106.at_) fd) : FnOk P w K mg base (L2.CX P w) 5 (He.fAd K d106.at_) fd ["_law_pen_here", "_law_most"] (spUp K w mg 2 (G.fn 106)) :=
  fn_runA (G := G) (i := 106) (pre := pB_program.pre) (post := pB_program.post) (xp := pB_program.xp) F s106 rfl c106 rfl (m106 X Gm c) rfl (He.glo_ok X Gm (facs_glo c (by decide +kernel))) (b106 F) rfl fun z vs S Q E hcl hcx hl hp hq hx => (kB_program (G := G) rfl rfl rfl) z vs S Q E hcl hcx hp hq hx
theorem f106 (X : K.In h) (Gm : h.Ns mainGlobals mg) (c : He.SaysD (facs glos frees excs nums) fnl K) : FH P w K mg base G 5 "_law_program" 106 2 := by
  obtain ⟨fd, F⟩ := c.def_ 32 (d := d106) rfl
  exact fn_step (He.glo_ok X Gm (facs_glo c (by decide +kernel))) F.kp (b106 F) rfl (r106 X Gm c F)
theorem m107 (X : K.In h) (Gm : h.Ns mainGlobals mg) (c : He.SaysD (facs glos frees excs nums) fnl K) : MH P w K mg base G 0 g107 :=
  { fns := fns_nil, free := frees_ok X Gm c (by decide +kernel), cst := csts_ok X Gm c (by decide +kernel), exc := excs_ok X Gm c (by decide +kernel) }
theorem r107 (X : K.In h) (Gm : h.Ns mainGlobals mg) (c : He.SaysD (facs glos frees excs nums) fnl K) {fd : FuncData} (F : FunD K d107.name d107.qual d107.params d107.body d107.scope [] [] (He.fAd K d107.at_) fd) : FnOk P w K mg base (L2.CX P w) 1 (He.fAd K d107.at_) fd ["_law_form_here", "_law_counts_here"] (spUp K w mg 2 (G.fn 107)) :=
  fn_runA (G := G) (i := 107) (pre := pB_at.pre) (post := pB_at.post) (xp := pB_at.xp) F s107 rfl c107 rfl (m107 X Gm c) rfl (He.glo_ok X Gm (facs_glo c (by decide +kernel))) (b107 F) rfl fun z vs S Q E hcl hcx hl hp hq hx => (kB_at (G := G)) z vs S Q E hcl hcx hp hq hx
theorem f107 (X : K.In h) (Gm : h.Ns mainGlobals mg) (c : He.SaysD (facs glos frees excs nums) fnl K) : FH P w K mg base G 1 "_law_at" 107 2 := by
  obtain ⟨fd, F⟩ := c.def_ 33 (d := d107) rfl
  exact fn_step (He.glo_ok X Gm (facs_glo c (by decide +kernel))) F.kp (b107 F) rfl (r107 X Gm c F)
theorem m108 (X : K.In h) (Gm : h.Ns mainGlobals mg) (c : He.SaysD (facs glos frees excs nums) fnl K) : MH P w K mg base G 1 g108 :=
  { fns := fns_cons ((f107 X Gm c).mono (by decide)) (fns_nil), free := frees_ok X Gm c (by decide +kernel), cst := csts_ok X Gm c (by decide +kernel), exc := excs_ok X Gm c (by decide +kernel) }
theorem r108 (X : K.In h) (Gm : h.Ns mainGlobals mg) (c : He.SaysD (facs glos frees excs nums) fnl K) {fd : FuncData} (F : FunD K d108.name d108.qual d108.params d108.body d108.scope [] [] (He.fAd K d108.at_) fd) : FnOk P w K mg base (L2.CX P w) 2 (He.fAd K d108.at_) fd ["_law_loops_here"] (spUp K w mg 1 (G.fn 108)) :=
  fn_runA (G := G) (i := 108) (pre := pB_counts.pre) (post := pB_counts.post) (xp := pB_counts.xp) F s108 rfl c108 rfl (m108 X Gm c) rfl (He.glo_ok X Gm (facs_glo c (by decide +kernel))) (b108 F) rfl fun z vs S Q E hcl hcx hl hp hq hx => (kB_counts (G := G) rfl) z vs S Q E hcl hcx hp hq hx
theorem f108 (X : K.In h) (Gm : h.Ns mainGlobals mg) (c : He.SaysD (facs glos frees excs nums) fnl K) : FH P w K mg base G 2 "_law_counts" 108 1 := by
  obtain ⟨fd, F⟩ := c.def_ 34 (d := d108) rfl
  exact fn_step (He.glo_ok X Gm (facs_glo c (by decide +kernel))) F.kp (b108 F) rfl (r108 X Gm c F)
theorem m109 (X : K.In h) (Gm : h.Ns mainGlobals mg) (c : He.SaysD (facs glos frees excs nums) fnl K) : MH P w K mg base G 1 g109 :=
  { fns := fns_cons ((f107 X Gm c).mono (by decide)) (fns_nil), free := frees_ok X Gm c (by decide +kernel), cst := csts_ok X Gm c (by decide +kernel), exc := excs_ok X Gm c (by decide +kernel) }
theorem r109 (X : K.In h) (Gm : h.Ns mainGlobals mg) (c : He.SaysD (facs glos frees excs nums) fnl K) {fd : FuncData} (F : FunD K d109.name d109.qual d109.params d109.body d109.scope [] [] (He.fAd K d109.at_) fd) : FnOk P w K mg base (L2.CX P w) 2 (He.fAd K d109.at_) fd ["_law_table", "_law_place", "_law_counts_here"] (spUp K w mg 3 (G.fn 109)) :=
  fn_runA (G := G) (i := 109) (pre := pB_spot.pre) (post := pB_spot.post) (xp := pB_spot.xp) F s109 rfl c109 rfl (m109 X Gm c) rfl (He.glo_ok X Gm (facs_glo c (by decide +kernel))) (b109 F) rfl fun z vs S Q E hcl hcx hl hp hq hx => (kB_spot (G := G) rfl) z vs S Q E hcl hcx hp hq hx
theorem f109 (X : K.In h) (Gm : h.Ns mainGlobals mg) (c : He.SaysD (facs glos frees excs nums) fnl K) : FH P w K mg base G 2 "_law_spot" 109 3 := by
  obtain ⟨fd, F⟩ := c.def_ 35 (d := d109) rfl
  exact fn_step (He.glo_ok X Gm (facs_glo c (by decide +kernel))) F.kp (b109 F) rfl (r109 X Gm c F)
theorem m110 (X : K.In h) (Gm : h.Ns mainGlobals mg) (c : He.SaysD (facs glos frees excs nums) fnl K) : MH P w K mg base G 2 g110 :=
  { fns := fns_cons ((f108 X Gm c).mono (by decide)) (fns_cons ((f109 X Gm c).mono (by decide)) (fns_cons ((f107 X Gm c).mono (by decide)) (fns_nil))), free := frees_ok X Gm c (by decide +kernel), cst := csts_ok X Gm c (by decide +kernel), exc := excs_ok X Gm c (by decide +kernel) }
theorem r110 (X : K.In h) (Gm : h.Ns mainGlobals mg) (c : He.SaysD (facs glos frees excs nums) fnl K) {fd : FuncData} (F : FunD K d110.name d110.qual d110.params d110.body d110.scope [] [] (He.fAd K d110.at_) fd) : FnOk P w K mg base (L2.CX P w) 3 (He.fAd K d110.at_) fd ["_law_program_here"] (spUp K w mg 1 (G.fn 110)) :=
  fn_runA (G := G) (i := 110) (pre := pB_steps.pre) (post := pB_steps.post) (xp := pB_steps.xp) F s110 rfl c110 rfl (m110 X Gm c) rfl (He.glo_ok X Gm (facs_glo c (by decide +kernel))) (b110 F) rfl fun z vs S Q E hcl hcx hl hp hq hx => (kB_steps (G := G) rfl rfl rfl) z vs S Q E hcl hcx hp hq hx
theorem f110 (X : K.In h) (Gm : h.Ns mainGlobals mg) (c : He.SaysD (facs glos frees excs nums) fnl K) : FH P w K mg base G 3 "_law_steps" 110 1 := by
  obtain ⟨fd, F⟩ := c.def_ 36 (d := d110) rfl
  exact fn_step (He.glo_ok X Gm (facs_glo c (by decide +kernel))) F.kp (b110 F) rfl (r110 X Gm c F)
theorem m112 (X : K.In h) (Gm : h.Ns mainGlobals mg) (c : He.SaysD (facs glos frees excs nums) fnl K) : MH P w K mg base G 2 g112 :=
  { fns := fns_cons ((f102 X Gm c).mono (by decide)) (fns_nil), free := frees_ok X Gm c (by decide +kernel), cst := csts_ok X Gm c (by decide +kernel), exc := excs_ok X Gm c (by decide +kernel) }
theorem r112 (X : K.In h) (Gm : h.Ns mainGlobals mg) (c : He.SaysD (facs glos frees excs nums) fnl K) {fd : FuncData} (F : FunD K d112.name d112.qual d112.params d112.body d112.scope [] [] (He.fAd K d112.at_) fd) : FnOk P w K mg base (L2.CX P w) 3 (He.fAd K d112.at_) fd ["_law_pen_here", "_law_many"] (spUp K w mg 2 (G.fn 112)) :=
  fn_runA (G := G) (i := 112) (pre := pB_order.pre) (post := pB_order.post) (xp := pB_order.xp) F s112 rfl c112 rfl (m112 X Gm c) rfl (He.glo_ok X Gm (facs_glo c (by decide +kernel))) (b112 F) rfl fun z vs S Q E hcl hcx hl hp hq hx => (kB_order (G := G) rfl) z vs S Q E hcl hcx hp hq hx
theorem f112 (X : K.In h) (Gm : h.Ns mainGlobals mg) (c : He.SaysD (facs glos frees excs nums) fnl K) : FH P w K mg base G 3 "_law_order" 112 2 := by
  obtain ⟨fd, F⟩ := c.def_ 37 (d := d112) rfl
  exact fn_step (He.glo_ok X Gm (facs_glo c (by decide +kernel))) F.kp (b112 F) rfl (r112 X Gm c F)
theorem m111 (X : K.In h) (Gm : h.Ns mainGlobals mg) (c : He.SaysD (facs glos frees excs nums) fnl K) : MH P w K mg base G 0 g111 :=
  { fns := fns_nil, free := frees_ok X Gm c (by decide +kernel), cst := csts_ok X Gm c (by decide +kernel), exc := excs_ok X Gm c (by decide +kernel) }
theorem r111 (X : K.In h) (Gm : h.Ns mainGlobals mg) (c : He.SaysD (facs glos frees excs nums) fnl K) {fd : FuncData} (F : FunD K d111.name d111.qual d111.params d111.body d111.scope [] [] (He.fAd K d111.at_) fd) : FnOk P w K mg base (L2.CX P w) 1 (He.fAd K d111.at_) fd ["_law_one", "_law_other"] (spUp K w mg 2 (G.fn 111)) :=
  fn_runA (G := G) (i := 111) (pre := pB_touch.pre) (post := pB_touch.post) (xp := pB_touch.xp) F s111 rfl c111 rfl (m111 X Gm c) rfl (He.glo_ok X Gm (facs_glo c (by decide +kernel))) (b111 F) rfl fun z vs S Q E hcl hcx hl hp hq hx => (kB_touch (G := G)) z vs S Q E hcl hcx hp hq hx
theorem f111 (X : K.In h) (Gm : h.Ns mainGlobals mg) (c : He.SaysD (facs glos frees excs nums) fnl K) : FH P w K mg base G 1 "_law_touch" 111 2 := by
  obtain ⟨fd, F⟩ := c.def_ 38 (d := d111) rfl
  exact fn_step (He.glo_ok X Gm (facs_glo c (by decide +kernel))) F.kp (b111 F) rfl (r111 X Gm c F)
theorem m113 (X : K.In h) (Gm : h.Ns mainGlobals mg) (c : He.SaysD (facs glos frees excs nums) fnl K) : MH P w K mg base G 2 g113 :=
  { fns := fns_cons ((f102 X Gm c).mono (by decide)) (fns_cons ((f111 X Gm c).mono (by decide)) (fns_nil)), free := frees_ok X Gm c (by decide +kernel), cst := csts_ok X Gm c (by decide +kernel), exc := excs_ok X Gm c (by decide +kernel) }
theorem r113 (X : K.In h) (Gm : h.Ns mainGlobals mg) (c : He.SaysD (facs glos frees excs nums) fnl K) {fd : FuncData} (F : FunD K d113.name d113.qual d113.params d113.body d113.scope [] [] (He.fAd K d113.at_) fd) : FnOk P w K mg base (L2.CX P w) 3 (He.fAd K d113.at_) fd ["_law_pen_here", "_law_steps_here"] (spUp K w mg 2 (G.fn 113)) :=
  fn_runA (G := G) (i := 113) (pre := pB_picked.pre) (post := pB_picked.post) (xp := pB_picked.xp) F s113 rfl c113 rfl (m113 X Gm c) rfl (He.glo_ok X Gm (facs_glo c (by decide +kernel))) (b113 F) rfl fun z vs S Q E hcl hcx hl hp hq hx => (kB_picked (G := G) rfl rfl) z vs S Q E hcl hcx hp hq hx
theorem f113 (X : K.In h) (Gm : h.Ns mainGlobals mg) (c : He.SaysD (facs glos frees excs nums) fnl K) : FH P w K mg base G 3 "_law_picked" 113 2 := by
  obtain ⟨fd, F⟩ := c.def_ 39 (d := d113) rfl
  exact fn_step (He.glo_ok X Gm (facs_glo c (by decide +kernel))) F.kp (b113 F) rfl (r113 X Gm c F)
theorem m200 (X : K.In h) (Gm : h.Ns mainGlobals mg) (c : He.SaysD (facs glos frees excs nums) fnl K) : MH P w K mg base G 0 g200 :=
  { fns := fns_nil, free := frees_ok X Gm c (by decide +kernel), cst := csts_ok X Gm c (by decide +kernel), exc := excs_ok X Gm c (by decide +kernel) }
theorem r200 (X : K.In h) (Gm : h.Ns mainGlobals mg) (c : He.SaysD (facs glos frees excs nums) fnl K) {fd : FuncData} (F : FunD K d200.name d200.qual d200.params d200.body d200.scope [] [] (He.fAd K d200.at_) fd) : FnOk P w K mg base (L2.CX P w) 1 (He.fAd K d200.at_) fd ["_law_order_here"] (spUp K w mg 1 (G.fn 200)) :=
  fn_runA (G := G) (i := 200) (pre := p200.pre) (post := p200.post) (xp := p200.xp) F s200 rfl c200 rfl (m200 X Gm c) rfl (He.glo_ok X Gm (facs_glo c (by decide +kernel))) (b200 F) rfl fun z vs S Q E hcl hcx hl hp hq hx => (k200 (G := G)) z vs S Q E hcl hcx hp hq hx
theorem f200 (X : K.In h) (Gm : h.Ns mainGlobals mg) (c : He.SaysD (facs glos frees excs nums) fnl K) : FH P w K mg base G 1 "_law_exchanges" 200 1 := by
  obtain ⟨fd, F⟩ := c.def_ 40 (d := d200) rfl
  exact fn_step (He.glo_ok X Gm (facs_glo c (by decide +kernel))) F.kp (b200 F) rfl (r200 X Gm c F)
theorem m201 (X : K.In h) (Gm : h.Ns mainGlobals mg) (c : He.SaysD (facs glos frees excs nums) fnl K) : MH P w K mg base G 1 g201 :=
  { fns := fns_cons ((f111 X Gm c).mono (by decide)) (fns_nil), free := frees_ok X Gm c (by decide +kernel), cst := csts_ok X Gm c (by decide +kernel), exc := excs_ok X Gm c (by decide +kernel) }
theorem r201 (X : K.In h) (Gm : h.Ns mainGlobals mg) (c : He.SaysD (facs glos frees excs nums) fnl K) {fd : FuncData} (F : FunD K d201.name d201.qual d201.params d201.body d201.scope [] [] (He.fAd K d201.at_) fd) : FnOk P w K mg base (L2.CX P w) 2 (He.fAd K d201.at_) fd ["_law_steps_here", "_law_places", "_law_order_here"] (spUp K w mg 3 (G.fn 201)) :=
  fn_runA (G := G) (i := 201) (pre := p201.pre) (post := p201.post) (xp := p201.xp) F s201 rfl c201 rfl (m201 X Gm c) rfl (He.glo_ok X Gm (facs_glo c (by decide +kernel))) (b201 F) rfl fun z vs S Q E hcl hcx hl hp hq hx => (k201 (G := G) rfl) z vs S Q E hcl hcx hp hq hx
theorem f201 (X : K.In h) (Gm : h.Ns mainGlobals mg) (c : He.SaysD (facs glos frees excs nums) fnl K) : FH P w K mg base G 2 "_law_due" 201 3 := by
  obtain ⟨fd, F⟩ := c.def_ 41 (d := d201) rfl
  exact fn_step (He.glo_ok X Gm (facs_glo c (by decide +kernel))) F.kp (b201 F) rfl (r201 X Gm c F)
theorem m202 (X : K.In h) (Gm : h.Ns mainGlobals mg) (c : He.SaysD (facs glos frees excs nums) fnl K) : MH P w K mg base G 2 g202 :=
  { fns := fns_cons ((f102 X Gm c).mono (by decide)) (fns_nil), free := frees_ok X Gm c (by decide +kernel), cst := csts_ok X Gm c (by decide +kernel), exc := excs_ok X Gm c (by decide +kernel) }
theorem r202 (X : K.In h) (Gm : h.Ns mainGlobals mg) (c : He.SaysD (facs glos frees excs nums) fnl K) {fd : FuncData} (F : FunD K d202.name d202.qual d202.params d202.body d202.scope [] [] (He.fAd K d202.at_) fd) : FnOk P w K mg base (L2.CX P w) 3 (He.fAd K d202.at_) fd ["_law_pen_here", "_law_places", "_law_many"] (spUp K w mg 3 (G.fn 202)) :=
  fn_runA (G := G) (i := 202) (pre := p202.pre) (post := p202.post) (xp := p202.xp) F s202 rfl c202 rfl (m202 X Gm c) rfl (He.glo_ok X Gm (facs_glo c (by decide +kernel))) (b202 F) rfl fun z vs S Q E hcl hcx hl hp hq hx => (k202 (G := G) rfl) z vs S Q E hcl hcx hp hq hx
theorem f202 (X : K.In h) (Gm : h.Ns mainGlobals mg) (c : He.SaysD (facs glos frees excs nums) fnl K) : FH P w K mg base G 3 "_law_bent" 202 3 := by
  obtain ⟨fd, F⟩ := c.def_ 42 (d := d202) rfl
  exact fn_step (He.glo_ok X Gm (facs_glo c (by decide +kernel))) F.kp (b202 F) rfl (r202 X Gm c F)
theorem m203 (X : K.In h) (Gm : h.Ns mainGlobals mg) (c : He.SaysD (facs glos frees excs nums) fnl K) : MH P w K mg base G 17 g203 :=
  { fns := fns_cons ((f101 X Gm c).mono (by decide)) (fns_cons ((f106 X Gm c).mono (by decide)) (fns_cons ((f110 X Gm c).mono (by decide)) (fns_cons ((f16 X Gm c).mono (by decide)) (fns_cons ((f113 X Gm c).mono (by decide)) (fns_cons ((f200 X Gm c).mono (by decide)) (fns_cons ((f61 X Gm c).mono (by decide)) (fns_cons ((f202 X Gm c).mono (by decide)) (fns_cons ((f112 X Gm c).mono (by decide)) (fns_cons ((f201 X Gm c).mono (by decide)) (fns_nil)))))))))), free := frees_ok X Gm c (by decide +kernel), cst := csts_ok X Gm c (by decide +kernel), exc := excs_ok X Gm c (by decide +kernel) }
theorem r203 (X : K.In h) (Gm : h.Ns mainGlobals mg) (c : He.SaysD (facs glos frees excs nums) fnl K) {fd : FuncData} (F : FunD K d203.name d203.qual d203.params d203.body d203.scope [] [] (He.fAd K d203.at_) fd) : FnOk P w K mg base (L2.CX P w) 18 (He.fAd K d203.at_) fd ["_law_script"] (spUp K w mg 1 (G.fn 203)) :=
  fn_runA (G := G) (i := 203) (pre := p203.pre) (post := p203.post) (xp := p203.xp) F s203 rfl c203 rfl (m203 X Gm c) rfl (He.glo_ok X Gm (facs_glo c (by decide +kernel))) (b203 F) rfl fun z vs S Q E hcl hcx hl hp hq hx => (k203 (G := G) rfl rfl rfl rfl rfl rfl rfl rfl rfl rfl rfl) z vs S Q E hcl hcx hp hq hx
theorem f203 (X : K.In h) (Gm : h.Ns mainGlobals mg) (c : He.SaysD (facs glos frees excs nums) fnl K) : FH P w K mg base G 18 "law" 203 1 := by
  obtain ⟨fd, F⟩ := c.def_ 43 (d := d203) rfl
  exact fn_step (He.glo_ok X Gm (facs_glo c (by decide +kernel))) F.kp (b203 F) rfl (r203 X Gm c F)
end
abbrev R : PySem.W.OpenRow := PySem.W.OpenLaw.row PySem.Challenge.rw_nestturn_k37_exchanges_looked_at
abbrev hk : PySem.W.Hook := He.hookD 4 (facs glos frees excs nums) fnl
def ob (s : PySem.W.SharedT) : He.AlD := He.obsDG 4 (facs glos frees excs nums) fnl (HandSHeadRun.getT s)
theorem ob_eq (s : PySem.W.SharedT) : ob s = hk.obs s.abs := He.obsDG_eq (HandSHeadRun.getT_eq s)
def loos : List Str := "is_whole" :: "is_form" :: "comes_to" :: "is_bound" :: "is_loops" :: "counts_behind" :: "counts_of" :: "are_more" :: "how_many" :: "is_tuple_of" :: "are_widths" :: "is_cell" :: "is_great_form" :: "is_read" :: "is_deed" :: "is_nest" :: "program_of" :: "steps_of" :: "cell_at" :: "cells_of_step" :: "cells_of" :: "plain" :: "ask_row" :: "ask_order" :: "shared_cells" :: "leads" :: "_law_cell" :: "_law_pen" :: "_law_take" :: "_law_form" :: "_law_loops" :: "_law_deed" :: "_law_program" :: "_law_at" :: "_law_counts" :: "_law_spot" :: "_law_steps" :: "_law_order" :: "_law_touch" :: "_law_picked" :: "_law_exchanges" :: "_law_due" :: "_law_bent" :: "TurnError" :: "NoProgram" :: "TooMany" :: "NoOrder" :: "MOST_LOOPS" :: "FIRST" :: "OTHERS" :: "MOST_TABLES" :: "MOST_NESTS" :: "MOST_DEEDS" :: "MOST_READS" :: "MOST_STEPS" :: "PLACES" :: "GREAT" :: []
theorem run (w : World) : HandSHeadRun.RunEq R (PySem.W.view R.prog [64]) hk ob 3000 loos w := by
  intro os
  kernel_rfl
theorem facts {P : Program} {w : World} {K : PySem.W.Frag} {h : Heap} {mg : Mg} {f : Addr} (X : K.In h) (Gm : h.Ns mainGlobals mg) (hfa : mg ("law" : Str) = some (.ref f)) (c : He.SaysD (facs glos frees excs nums) fnl K) :
    ∃ fd : FuncData, (∀ (s : Shared) (v : Value), BindsTo s fd ⟨[v], []⟩ [("_law_script", v)]) ∧ ∀ base : Heap, FnOk P w K mg base CXA 18 f fd ["_law_script"] (spUp K w mg 1 (G.fn 203)) := by
  obtain ⟨fd, F⟩ := c.def_ 43 (d := d203) rfl
  have e := hfa.symm.trans (He.glo_ok X Gm (facs_glo c (by decide +kernel)))
  cases e
  have b := FunD.bindsA (ps := ["_law_script"]) F fun _ _ _ _ _ _ us hl => match us, hl with | [_], _ => rfl
  exact ⟨fd, fun s v => b s [v] rfl, fun base => cxa (r203 X Gm c F)⟩
end K37
open PySem PySem.W PySem.Calls PyProof.Rows
theorem PySem.Challenge.cw_nestturn_k37_exchanges_looked_at_holds : PySem.Challenge.rw_nestturn_k37_exchanges_looked_at.Holds := by
  w_on; o_law
  refine HandSHeadRun.head_any (r := OpenLaw.row PySem.Challenge.rw_nestturn_k37_exchanges_looked_at) (q := view (OpenLaw.row PySem.Challenge.rw_nestturn_k37_exchanges_looked_at).prog [64]) (H := K37.hk) (ob := K37.ob) (M := 3000) (loose := K37.loos) (d := HandSHeadRun.topDef (OpenLaw.row PySem.Challenge.rw_nestturn_k37_exchanges_looked_at).prog 64) (kwd := []) K37.ob_eq
    (by kernel_rfl) (fun s => by kernel_rfl) K37.run (by kernel_rfl) (by kernel_rfl) (by kernel_rfl) (by rfl) (by first | assumption | decide +kernel) (by decide +kernel) ⟨rfl, rfl, rfl, rfl, rfl, by decide +kernel⟩ ?hw ?hc
  case hw => w_witness2
  case hc =>
    refine L2.walk_ofE (l := PySem.Challenge.rw_nestturn_k37_exchanges_looked_at) (n := 63) (k := 18) (x := "_law_script") (CX := DL.CXA) rfl (by decide) (by kernel_rfl) ⟨rfl, by decide, by decide⟩ ?F (fun _ _ _ _ z => DL.cxa_none z)
    intro w mg fa h Y Gm hmg0
    obtain ⟨K, KX, c⟩ := Y
    have hmg : mg ("law" : PySem.Str) = some (.ref fa) := by
      have e : (HandSHeadRun.topDef (OpenLaw.row PySem.Challenge.rw_nestturn_k37_exchanges_looked_at).prog 64).name = ("law" : PySem.Str) := by kernel_rfl
      rw [← e]
      exact hmg0
    obtain ⟨fd, hb, hF⟩ := K37.facts (P := (PySem.Challenge.rw_nestturn_k37_exchanges_looked_at).prog) (w := w) KX Gm hmg c
    exact ⟨K, fd, DL.spUp K w mg 1 (K37.G.fn 203), KX, hb, fun H a ns hl _ hS => DL.law_upA hS ns ⟨rfl, hl⟩ fun r S' h => h, fun base _ _ => hF base⟩
end
