import PyProof.Rows.All
import Wide.All
import OpenK.AllK
import Wide.FinOn
import KE.KDictKeyed
import HandS.ForMost
import HandS.ForExc
import HandS.Wide
import HandS.Comp
import HandS.TupMul
import HandS.Deep
import HandS.IsInst
import HandS.More
import KE.GoesEnum
import KE.GoesMore
import HandS.RevRange
import HandS.Flow
import HandS.TryMany
import HandS.Defaults
import HandS.Head0
import HandS.Head1
import HandS.Head2
import HandS.HeadEnd
import HandS.HeadHook1
import HandS.HeadHook2
import PySem.Challenge.RW_nestturn_k02_what_is_loops
set_option Elab.async false
set_option linter.all false
section
set_option maxRecDepth 100000
/-! Data: python values as pure data over HandS's abstract heap. -/
namespace DL
open PySem PySem.Spec L2
open PyProof.Rows hiding St

/-- a value: tuples, and lists and dicts that nobody changes any more, are data; a list or dict that may be changed is a ref -/
inductive PV where
  | non | bl (b : Bool) | int (i : Int) | str (x : Str) | ty (n : String) | ref (a : Addr)
  | tup (xs : List PV) | lst (xs : List PV) | dct (ks vs : List PV)
/-- what may be changed -/
inductive MO where
  | lst (xs : List PV) | dct (ks vs : List PV) | ins (C : Addr) (ns : List Str) (vs : List PV)
abbrev Sto := Addr → Option MO
def upS (S : Sto) (a : Addr) (o : MO) : Sto := fun b => if b = a then some o else S b
def delS (S : Sto) (a : Addr) : Sto := fun b => if b = a then none else S b
theorem upS_same {S : Sto} {a : Addr} {o : MO} : upS S a o a = some o := by unfold upS; rw [if_pos rfl]
theorem upS_ne {S : Sto} {a b : Addr} {o : MO} (h : b ≠ a) : upS S a o b = S b := by unfold upS; rw [if_neg h]
theorem upS_upS {S : Sto} {a : Addr} {o u : MO} : upS (upS S a o) a u = upS S a u := by
  funext b; unfold upS; split <;> rfl
theorem delS_same {S : Sto} {a : Addr} : delS S a a = none := by unfold delS; rw [if_pos rfl]
theorem delS_ne {S : Sto} {a b : Addr} (h : b ≠ a) : delS S a b = S b := by unfold delS; rw [if_neg h]
theorem delS_upS {S : Sto} {a : Addr} {o : MO} (h : S a = none) : delS (upS S a o) a = S := by
  funext b; unfold delS upS
  by_cases e : b = a
  · subst e; rw [if_pos rfl, h]
  · rw [if_neg e, if_neg e]

/-- an entry of a dict, raw -/
abbrev DE := Int × Value × Value
/-- what is true of the heap where a dict with these entries stands (by its one object) -/
def DPhi (a : Addr) (es : List DE) : Heap → Prop := fun h => (a == sysModules) = false ∧ ∃ o arr ep, h.get? a = some o ∧ o.ExactDict ∧ o.data = .dict arr ep ∧ arr.toList.map (fun e => (e.hash, e.key, e.val)) = es
def KL (K : PySem.W.Frag) (a : Addr) (xs : List V) : Prop :=
  ∃ (o : Obj) (its : Array Value) (n : Nat), K.lookup a = some o ∧ o.cls = .type "list" ∧ o.dict = none ∧ o.data = .seq its n ∧ its.size ≤ sizeLine ∧ Vals xs its.toList
/-- a list that nobody changes -/
def FzL (K : PySem.W.Frag) (H : Hp) (S : Sto) (a : Addr) (vs : List V) : Prop := (Rd H a (.lst vs) ∧ S a = none) ∨ KL K a vs
theorem FzL.sq {K : PySem.W.Frag} {H : Hp} {S : Sto} {a : Addr} {vs : List V} (h : FzL K H S a vs) : SqL K H a vs := h.elim (fun h => .inl h.1) .inr

mutual
/-- a value as a key -/
def pvKey : PV → Option NestedKey
  | .non => some .none
  | .bl b => some (.num (if b then 1 else 0))
  | .int i => some (.num i)
  | .str x => some (.text x)
  | .tup xs => match pvKeys xs with
    | some ks => some (.tup ks)
    | none => none
  | _ => none
def pvKeys : List PV → Option (List NestedKey)
  | [] => some []
  | x :: xs => match pvKey x, pvKeys xs with
    | some k, some ks => some (k :: ks)
    | _, _ => none
end
def hashP (w : World) (x : PV) : Int := match pvKey x with
  | some k => k.hash w
  | none => 0

mutual
/-- v stands for the value x -/
def RepV (K : PySem.W.Frag) (w : World) (H : Hp) (S : Sto) : PV → V → Prop
  | .non, v => v = .non
  | .bl b, v => v = .bl b
  | .int i, v => v = .int i
  | .str x, v => v = .str x
  | .ty n, v => v = .ty n
  | .ref a, v => v = .ref a
  | .tup xs, v => ∃ a vs, v = .ref a ∧ SqT K H a vs ∧ RepVs K w H S xs vs
  | .lst xs, v => ∃ a vs, v = .ref a ∧ FzL K H S a vs ∧ RepVs K w H S xs vs
  | .dct ks vs, v => ∃ a es kvs vvs, v = .ref a ∧ H a = some (.ext (DPhi a es)) ∧ S a = none ∧ es.map (·.1) = ks.map (hashP w) ∧ Vals kvs (es.map (·.2.1)) ∧ Vals vvs (es.map (·.2.2)) ∧ RepVs K w H S ks kvs ∧ RepVs K w H S vs vvs
def RepVs (K : PySem.W.Frag) (w : World) (H : Hp) (S : Sto) : List PV → List V → Prop
  | [], [] => True
  | x :: xs, v :: vs => RepV K w H S x v ∧ RepVs K w H S xs vs
  | _, _ => False
end
def RepO (K : PySem.W.Frag) (w : World) (H : Hp) (S : Sto) (a : Addr) : MO → Prop
  | .lst xs => ∃ vs, H a = some (.lst vs) ∧ RepVs K w H S xs vs
  | .dct ks vs => ∃ es kvs vvs, H a = some (.ext (DPhi a es)) ∧ es.map (·.1) = ks.map (hashP w) ∧ Vals kvs (es.map (·.2.1)) ∧ Vals vvs (es.map (·.2.2)) ∧ RepVs K w H S ks kvs ∧ RepVs K w H S vs vvs
  | .ins C ns vs => ∃ dx fs, H a = some (.ins C dx fs) ∧ fs.map (·.1) = ns ∧ RepVs K w H S vs (fs.map (·.2))
/-- the store is held -/
def RepH (K : PySem.W.Frag) (w : World) (H : Hp) (S : Sto) : Prop := ∀ a o, S a = some o → RepO K w H S a o
/-- what values lean on stays -/
structure Ext (K : PySem.W.Frag) (S : Sto) (H : Hp) (S' : Sto) (H' : Hp) : Prop where
  tup : ∀ a vs, SqT K H a vs → SqT K H' a vs
  lst : ∀ a vs, Rd H a (.lst vs) → S a = none → Rd H' a (.lst vs) ∧ S' a = none
  dct : ∀ a es, H a = some (.ext (DPhi a es)) → S a = none → H' a = some (.ext (DPhi a es)) ∧ S' a = none

section
variable {K : PySem.W.Frag} {w : World} {H H' H2 : Hp} {S S' S2 : Sto}
theorem Ext.refl : Ext K S H S H := ⟨fun _ _ h => h, fun _ _ h n => ⟨h, n⟩, fun _ _ h n => ⟨h, n⟩⟩
theorem Ext.trans (a : Ext K S H S' H') (b : Ext K S' H' S2 H2) : Ext K S H S2 H2 :=
  ⟨fun x vs h => b.tup x vs (a.tup x vs h), fun x vs h n => let ⟨h1, n1⟩ := a.lst x vs h n; b.lst x vs h1 n1, fun x vs h n => let ⟨h1, n1⟩ := a.dct x vs h n; b.dct x vs h1 n1⟩
theorem FzL.mono (e : Ext K S H S' H') {a : Addr} {vs : List V} (h : FzL K H S a vs) : FzL K H' S' a vs := by
  rcases h with ⟨h, n⟩ | h
  · exact .inl (e.lst a vs h n)
  · exact .inr h
mutual
theorem RepV.mono (e : Ext K S H S' H') : ∀ (x : PV) (v : V), RepV K w H S x v → RepV K w H' S' x v
  | .non, _, h | .bl _, _, h | .int _, _, h | .str _, _, h | .ty _, _, h | .ref _, _, h => by simpa only [RepV] using h
  | .tup xs, v, h => by
    simp only [RepV] at h ⊢
    obtain ⟨a, vs, h1, h2, h3⟩ := h
    exact ⟨a, vs, h1, e.tup a vs h2, RepVs.mono e xs vs h3⟩
  | .lst xs, v, h => by
    simp only [RepV] at h ⊢
    obtain ⟨a, vs, h1, h2, h3⟩ := h
    exact ⟨a, vs, h1, h2.mono e, RepVs.mono e xs vs h3⟩
  | .dct ks xs, v, h => by
    simp only [RepV] at h ⊢
    obtain ⟨a, es, kvs, vvs, h1, h2, h3, h4, h5, h6, h7, h8⟩ := h
    obtain ⟨g2, g3⟩ := e.dct a es h2 h3
    exact ⟨a, es, kvs, vvs, h1, g2, g3, h4, h5, h6, RepVs.mono e ks kvs h7, RepVs.mono e xs vvs h8⟩
theorem RepVs.mono (e : Ext K S H S' H') : ∀ (xs : List PV) (vs : List V), RepVs K w H S xs vs → RepVs K w H' S' xs vs
  | [], [], _ => trivial
  | x :: xs, v :: vs, h => by
    simp only [RepVs] at h ⊢
    exact ⟨RepV.mono e x v h.1, RepVs.mono e xs vs h.2⟩
  | [], _ :: _, h => by simp only [RepVs] at h
  | _ :: _, [], h => by simp only [RepVs] at h
end
theorem RepVs.length : ∀ {xs : List PV} {vs : List V}, RepVs K w H S xs vs → xs.length = vs.length
  | [], [], _ => rfl
  | _ :: xs, _ :: vs, h => by
    simp only [RepVs] at h
    rw [List.length_cons, List.length_cons, RepVs.length h.2]
  | [], _ :: _, h => by simp only [RepVs] at h
  | _ :: _, [], h => by simp only [RepVs] at h
theorem RepVs.append : ∀ {xs ys : List PV} {vs us : List V}, RepVs K w H S xs vs → RepVs K w H S ys us → RepVs K w H S (xs ++ ys) (vs ++ us)
  | [], _, [], _, _, h => h
  | _ :: xs, _, _ :: vs, _, h, g => by
    simp only [RepVs] at h
    show RepVs K w H S (_ :: (xs ++ _)) (_ :: (vs ++ _))
    simp only [RepVs]
    exact ⟨h.1, RepVs.append h.2 g⟩
  | [], _, _ :: _, _, h, _ => by simp only [RepVs] at h
  | _ :: _, _, [], _, h, _ => by simp only [RepVs] at h
theorem RepVs.get : ∀ {xs : List PV} {vs : List V} {i : Nat} {x : PV}, RepVs K w H S xs vs → xs[i]? = some x → ∃ v, vs[i]? = some v ∧ RepV K w H S x v
  | [], [], _, _, _, e => by simp at e
  | y :: xs, v :: vs, 0, x, h, e => by
    simp only [RepVs] at h
    simp at e
    subst e
    exact ⟨v, rfl, h.1⟩
  | y :: xs, v :: vs, i + 1, x, h, e => by
    simp only [RepVs] at h
    obtain ⟨u, h1, h2⟩ := RepVs.get (i := i) (x := x) h.2 (by simpa using e)
    exact ⟨u, by simpa using h1, h2⟩
  | [], _ :: _, _, _, h, _ => by simp only [RepVs] at h
  | _ :: _, [], _, _, h, _ => by simp only [RepVs] at h
theorem RepVs.getV : ∀ {xs : List PV} {vs : List V} {i : Nat} {v : V}, RepVs K w H S xs vs → vs[i]? = some v → ∃ x, xs[i]? = some x ∧ RepV K w H S x v
  | [], [], _, _, _, e => by simp at e
  | y :: xs, u :: vs, 0, v, h, e => by
    simp only [RepVs] at h
    simp at e
    subst e
    exact ⟨y, rfl, h.1⟩
  | y :: xs, u :: vs, i + 1, v, h, e => by
    simp only [RepVs] at h
    obtain ⟨x, h1, h2⟩ := RepVs.getV (i := i) (v := v) h.2 (by simpa using e)
    exact ⟨x, by simpa using h1, h2⟩
  | [], _ :: _, _, _, h, _ => by simp only [RepVs] at h
  | _ :: _, [], _, _, h, _ => by simp only [RepVs] at h
theorem RepVs.take : ∀ (n : Nat) {xs : List PV} {vs : List V}, RepVs K w H S xs vs → RepVs K w H S (xs.take n) (vs.take n)
  | 0, _, _, _ => by simp only [List.take_zero, RepVs]
  | _ + 1, [], [], _ => by simp only [List.take_nil, RepVs]
  | n + 1, _ :: xs, _ :: vs, h => by
    simp only [RepVs, List.take_succ_cons] at h ⊢
    exact ⟨h.1, RepVs.take n h.2⟩
  | _ + 1, [], _ :: _, h => by simp only [RepVs] at h
  | _ + 1, _ :: _, [], h => by simp only [RepVs] at h
theorem RepVs.drop : ∀ (n : Nat) {xs : List PV} {vs : List V}, RepVs K w H S xs vs → RepVs K w H S (xs.drop n) (vs.drop n)
  | 0, _, _, h => h
  | _ + 1, [], [], _ => by simp only [List.drop_nil, RepVs]
  | n + 1, _ :: xs, _ :: vs, h => by
    simp only [RepVs] at h
    exact RepVs.drop n h.2
  | _ + 1, [], _ :: _, h => by simp only [RepVs] at h
  | _ + 1, _ :: _, [], h => by simp only [RepVs] at h
theorem RepVs.set : ∀ {xs : List PV} {vs : List V} (i : Nat) {x : PV} {v : V}, RepVs K w H S xs vs → RepV K w H S x v → RepVs K w H S (xs.set i x) (vs.set i v)
  | [], [], _, _, _, h, _ => h
  | _ :: xs, _ :: vs, 0, x, v, h, r => by
    simp only [RepVs, List.set_cons_zero] at h ⊢
    exact ⟨r, h.2⟩
  | _ :: xs, _ :: vs, i + 1, x, v, h, r => by
    simp only [RepVs, List.set_cons_succ] at h ⊢
    exact ⟨h.1, RepVs.set i h.2 r⟩
  | [], _ :: _, _, _, _, h, _ => by simp only [RepVs] at h
  | _ :: _, [], _, _, _, h, _ => by simp only [RepVs] at h
theorem RepVs.snoc {xs : List PV} {vs : List V} {x : PV} {v : V} (h : RepVs K w H S xs vs) (r : RepV K w H S x v) : RepVs K w H S (xs ++ [x]) (vs ++ [v]) :=
  h.append (by simp only [RepVs]; exact ⟨r, trivial⟩)
theorem RepVs.nil : RepVs K w H S [] [] := by simp only [RepVs]
theorem RepVs.cons {x : PV} {xs : List PV} {v : V} {vs : List V} (r : RepV K w H S x v) (h : RepVs K w H S xs vs) : RepVs K w H S (x :: xs) (v :: vs) := by simp only [RepVs]; exact ⟨r, h⟩
theorem RepVs.nil_inv {vs : List V} (h : RepVs K w H S [] vs) : vs = [] := by
  cases vs with
  | nil => rfl
  | cons _ _ => simp only [RepVs] at h
theorem RepVs.cons_inv {x : PV} {xs : List PV} {vs : List V} (h : RepVs K w H S (x :: xs) vs) : ∃ v us, vs = v :: us ∧ RepV K w H S x v ∧ RepVs K w H S xs us := by
  cases vs with
  | nil => simp only [RepVs] at h
  | cons v us => simp only [RepVs] at h; exact ⟨v, us, rfl, h.1, h.2⟩
theorem RepVs.ints : ∀ {ns : List Int} {vs : List V}, RepVs K w H S (ns.map PV.int) vs → vs = ns.map V.int
  | [], vs, h => h.nil_inv
  | n :: ns, vs, h => by
    obtain ⟨v, us, rfl, h1, h2⟩ := RepVs.cons_inv h
    simp only [RepV] at h1
    rw [h1, RepVs.ints h2, List.map_cons]
theorem RepVs.of_ints : ∀ {ns : List Int}, RepVs K w H S (ns.map PV.int) (ns.map V.int)
  | [] => .nil
  | n :: ns => .cons (by simp only [RepV]) RepVs.of_ints
theorem RepVs.bls : ∀ {ns : List Bool} {vs : List V}, RepVs K w H S (ns.map PV.bl) vs → vs = ns.map V.bl
  | [], vs, h => h.nil_inv
  | n :: ns, vs, h => by
    obtain ⟨v, us, rfl, h1, h2⟩ := RepVs.cons_inv h
    simp only [RepV] at h1
    rw [h1, RepVs.bls h2, List.map_cons]
theorem RepH.free (h : RepH K w H S) {p : Addr} (n : H p = none) : S p = none := by
  cases e : S p with
  | none => rfl
  | some o =>
    have x := h p o e
    cases o with
    | lst xs => obtain ⟨vs, q, _⟩ := x; rw [n] at q; cases q
    | dct ks vs => obtain ⟨es, _, _, q, _⟩ := x; rw [n] at q; cases q
    | ins C ns vs => obtain ⟨dx, fs, q, _⟩ := x; rw [n] at q; cases q
theorem RepO.mono (e : Ext K S H S' H') {a : Addr} {o : MO} (hH : H' a = H a) (h : RepO K w H S a o) : RepO K w H' S' a o := by
  cases o with
  | lst xs => obtain ⟨vs, q, r⟩ := h; exact ⟨vs, hH.trans q, RepVs.mono e xs vs r⟩
  | dct ks vs => obtain ⟨es, kvs, vvs, q, h1, h2, h3, r1, r2⟩ := h; exact ⟨es, kvs, vvs, hH.trans q, h1, h2, h3, RepVs.mono e ks kvs r1, RepVs.mono e vs vvs r2⟩
  | ins C ns vs => obtain ⟨dx, fs, q, h1, r⟩ := h; exact ⟨dx, fs, hH.trans q, h1, RepVs.mono e vs _ r⟩
theorem SqT.upd_new {a p : Addr} {o : HO} {vs : List V} (n : H p = none) (h : SqT K H a vs) : SqT K (upd H p o) a vs := by
  rcases h with (h | ⟨ob, h⟩) | h
  · exact .inl (.inl (by rw [upd_ne (ne_of_none h n)]; exact h))
  · exact .inl (.inr ⟨ob, by rw [upd_ne (ne_of_none h n)]; exact h⟩)
  · exact .inr h
theorem Rd.upd_new {a p : Addr} {o u : HO} (n : H p = none) (h : Rd H a u) : Rd (upd H p o) a u := by
  rcases h with h | ⟨ob, h⟩
  · exact .inl (by rw [upd_ne (ne_of_none h n)]; exact h)
  · exact .inr ⟨ob, by rw [upd_ne (ne_of_none h n)]; exact h⟩
/-- a new object, not told in the store -/
theorem Ext.new {p : Addr} {o : HO} (n : H p = none) : Ext K S H S (upd H p o) :=
  ⟨fun a vs h => SqT.upd_new n h, fun a vs h z => ⟨Rd.upd_new n h, z⟩, fun a es h z => ⟨by rw [upd_ne (ne_of_none h n)]; exact h, z⟩⟩
theorem Rd.there {a : Addr} {u : HO} (h : Rd H a u) : ∃ o, H a = some o := by
  rcases h with h | ⟨ob, h⟩
  · exact ⟨_, h⟩
  · exact ⟨_, h⟩
/-- a new object, told -/
theorem Ext.newS {p : Addr} {o : HO} {m : MO} (n : H p = none) : Ext K S H (upS S p m) (upd H p o) :=
  ⟨fun a vs h => SqT.upd_new n h, fun a vs h z => ⟨Rd.upd_new n h, by
      obtain ⟨u, q⟩ := Rd.there h
      rw [upS_ne (ne_of_none q n)]; exact z⟩, fun a es h z => ⟨by rw [upd_ne (ne_of_none h n)]; exact h, by rw [upS_ne (ne_of_none h n)]; exact z⟩⟩
theorem RepH.new (h : RepH K w H S) {p : Addr} {o : HO} (n : H p = none) : RepH K w (upd H p o) S := fun a m e => by
  have hp : a ≠ p := fun z => by rw [z, h.free n] at e; cases e
  exact (h a m e).mono (Ext.new n) (upd_ne hp)
theorem RepH.newS (h : RepH K w H S) {p : Addr} {o : HO} {m : MO} (n : H p = none) (r : RepO K w (upd H p o) (upS S p m) p m) : RepH K w (upd H p o) (upS S p m) := fun a q e => by
  by_cases hp : a = p
  · subst hp
    rw [upS_same] at e
    cases e
    exact r
  · rw [upS_ne hp] at e
    exact (h a q e).mono (Ext.newS n) (upd_ne hp)
/-- what a told object is in the abstract heap: no tuple, nothing locked -/
theorem RepO.noTup {a : Addr} {m : MO} (h : RepO K w H S a m) : (∀ vs, H a ≠ some (.tup vs)) ∧ (∀ ob u, H a ≠ some (.frz ob u)) := by
  cases m with
  | lst xs => obtain ⟨vs, q, _⟩ := h; exact ⟨(fun _ z => by rw [q] at z; cases z), fun _ _ z => by rw [q] at z; cases z⟩
  | dct ks vs => obtain ⟨es, _, _, q, _⟩ := h; exact ⟨(fun _ z => by rw [q] at z; cases z), fun _ _ z => by rw [q] at z; cases z⟩
  | ins C ns vs => obtain ⟨dx, fs, q, _⟩ := h; exact ⟨(fun _ z => by rw [q] at z; cases z), fun _ _ z => by rw [q] at z; cases z⟩
/-- a told object changed -/
theorem Ext.put (h : RepH K w H S) {a : Addr} {m m' : MO} {o : HO} (e : S a = some m) : Ext K S H (upS S a m') (upd H a o) := by
  obtain ⟨nt, nf⟩ := (h a m e).noTup
  refine ⟨fun b vs q => ?_, fun b vs q z => ?_, fun b es q z => ?_⟩
  · rcases q with (q | ⟨ob, q⟩) | q
    · have hb : b ≠ a := fun z => nt vs (z ▸ q)
      exact .inl (.inl (by rw [upd_ne hb]; exact q))
    · have hb : b ≠ a := fun z => nf _ _ (z ▸ q)
      exact .inl (.inr ⟨ob, by rw [upd_ne hb]; exact q⟩)
    · exact .inr q
  · have hb : b ≠ a := fun y => by rw [y, e] at z; cases z
    refine ⟨?_, by rw [upS_ne hb]; exact z⟩
    rcases q with q | ⟨ob, q⟩
    · exact .inl (by rw [upd_ne hb]; exact q)
    · exact .inr ⟨ob, by rw [upd_ne hb]; exact q⟩
  · have hb : b ≠ a := fun y => by rw [y, e] at z; cases z
    exact ⟨by rw [upd_ne hb]; exact q, by rw [upS_ne hb]; exact z⟩
theorem RepH.put (h : RepH K w H S) {a : Addr} {m m' : MO} {o : HO} (e : S a = some m) (r : RepO K w (upd H a o) (upS S a m') a m') : RepH K w (upd H a o) (upS S a m') := fun b q eb => by
  by_cases hp : b = a
  · subst hp
    rw [upS_same] at eb
    cases eb
    exact r
  · rw [upS_ne hp] at eb
    exact (h b q eb).mono (Ext.put h e) (upd_ne hp)
/-- a told object is told no more: it stays as it is from now on -/
theorem delS_none {S : Sto} {a b : Addr} (z : S b = none) : delS S a b = none := by
  by_cases hb : b = a
  · rw [hb, delS_same]
  · rw [delS_ne hb]; exact z
theorem Ext.del {a : Addr} : Ext K S H (delS S a) H := ⟨fun _ _ q => q, fun b vs q z => ⟨q, delS_none z⟩, fun b es q z => ⟨q, delS_none z⟩⟩
theorem RepH.del (h : RepH K w H S) {a : Addr} : RepH K w H (delS S a) := fun b q eb => by
  by_cases hp : b = a
  · rw [hp, delS_same] at eb; cases eb
  · rw [delS_ne hp] at eb
    exact (h b q eb).mono Ext.del rfl
/-- a list told no more is data -/
theorem RepH.frz (h : RepH K w H S) {a : Addr} {xs : List PV} (e : S a = some (.lst xs)) : RepV K w H (delS S a) (.lst xs) (.ref a) := by
  obtain ⟨vs, q, r⟩ := h a _ e
  simp only [RepV]
  exact ⟨a, vs, rfl, .inl ⟨.inl q, delS_same⟩, RepVs.mono Ext.del xs vs r⟩
theorem RepH.frzD (h : RepH K w H S) {a : Addr} {ks xs : List PV} (e : S a = some (.dct ks xs)) : RepV K w H (delS S a) (.dct ks xs) (.ref a) := by
  obtain ⟨es, kvs, vvs, q, h1, h2, h3, r1, r2⟩ := h a _ e
  simp only [RepV]
  exact ⟨a, es, kvs, vvs, rfl, q, delS_same, h1, h2, h3, RepVs.mono Ext.del ks kvs r1, RepVs.mono Ext.del xs vvs r2⟩
/-- less is told -/
theorem Ext.less (l : ∀ a, S' a = S a ∨ S' a = none) : Ext K S H S' H :=
  ⟨fun _ _ q => q, fun b vs q z => ⟨q, (l b).elim (fun y => y.trans z) id⟩, fun b es q z => ⟨q, (l b).elim (fun y => y.trans z) id⟩⟩
theorem RepH.less (h : RepH K w H S) (l : ∀ a, S' a = S a ∨ S' a = none) : RepH K w H S' := fun b q eb => by
  rcases l b with y | y
  · exact (h b q (by rw [← y]; exact eb)).mono (Ext.less l) rfl
  · rw [y] at eb; cases eb
end
/-- the slots -/
abbrev Sl := List (Option PV)
def RepSt (K : PySem.W.Frag) (w : World) (H : Hp) (S : Sto) : Sl → St → Prop
  | [], [] => True
  | some x :: σ, v :: τ => (∃ u, v = some u ∧ RepV K w H S x u) ∧ RepSt K w H S σ τ
  | none :: σ, _ :: τ => RepSt K w H S σ τ
  | _, _ => False
section
variable {K : PySem.W.Frag} {w : World} {H H' H2 : Hp} {S S' S2 : Sto}
theorem RepSt.mono (e : Ext K S H S' H') : ∀ {σ : Sl} {τ : St}, RepSt K w H S σ τ → RepSt K w H' S' σ τ
  | [], [], _ => trivial
  | some x :: σ, v :: τ, h => by
    obtain ⟨⟨u, h1, h2⟩, h3⟩ := h
    exact ⟨⟨u, h1, RepV.mono e x u h2⟩, RepSt.mono e h3⟩
  | none :: σ, v :: τ, h => RepSt.mono (σ := σ) (τ := τ) e h
  | some _ :: _, [], h => h
  | none :: _, [], h => h
  | [], _ :: _, h => h
theorem RepSt.get : ∀ {σ : Sl} {τ : St} {i : Nat} {x : PV}, RepSt K w H S σ τ → σ[i]? = some (some x) → ∃ v, τ[i]? = some (some v) ∧ RepV K w H S x v
  | [], [], _, _, _, e => by simp at e
  | some y :: σ, v :: τ, 0, x, h, e => by
    obtain ⟨⟨u, h1, h2⟩, h3⟩ := h
    simp at e
    subst e h1
    exact ⟨u, rfl, h2⟩
  | none :: σ, v :: τ, 0, x, h, e => by simp at e
  | some y :: σ, v :: τ, i + 1, x, h, e => RepSt.get (i := i) (x := x) h.2 (by simpa using e)
  | none :: σ, v :: τ, i + 1, x, h, e => RepSt.get (σ := σ) (i := i) (x := x) h (by simpa using e)
  | some _ :: _, [], _, _, h, _ => h.elim
  | none :: _, [], _, _, h, _ => h.elim
  | [], _ :: _, _, _, h, _ => h.elim
theorem RepSt.set : ∀ {σ : Sl} {τ : St} (i : Nat) {x : PV} {v : V}, RepSt K w H S σ τ → RepV K w H S x v → RepSt K w H S (σ.set i (some x)) (τ.set i (some v))
  | [], [], _, _, _, h, _ => h
  | some y :: σ, v :: τ, 0, x, u, h, r => ⟨⟨u, rfl, r⟩, h.2⟩
  | none :: σ, v :: τ, 0, x, u, h, r => ⟨⟨u, rfl, r⟩, h⟩
  | some y :: σ, v :: τ, i + 1, x, u, h, r => ⟨h.1, RepSt.set i h.2 r⟩
  | none :: σ, v :: τ, i + 1, x, u, h, r => RepSt.set (σ := σ) (τ := τ) i h r
  | some _ :: _, [], _, _, _, h, _ => h.elim
  | none :: _, [], _, _, _, h, _ => h.elim
  | [], _ :: _, _, _, _, h, _ => h.elim
theorem RepSt.unset : ∀ {σ : Sl} {τ : St} (i : Nat), RepSt K w H S σ τ → RepSt K w H S (σ.set i none) (τ.set i none)
  | [], [], _, h => h
  | some y :: σ, v :: τ, 0, h => h.2
  | none :: σ, v :: τ, 0, h => h
  | some y :: σ, v :: τ, i + 1, h => ⟨h.1, RepSt.unset i h.2⟩
  | none :: σ, v :: τ, i + 1, h => RepSt.unset (σ := σ) (τ := τ) i h
  | some _ :: _, [], _, h => h.elim
  | none :: _, [], _, h => h.elim
  | [], _ :: _, _, h => h.elim
def wipeS (σ : Sl) : List Nat → Sl
  | [] => σ
  | v :: vs => (wipeS σ vs).set v none
theorem RepSt.wipe {σ : Sl} {τ : St} (h : RepSt K w H S σ τ) : ∀ vs : List Nat, RepSt K w H S (wipeS σ vs) (L2.wipe τ vs)
  | [] => h
  | v :: vs => (RepSt.wipe h vs).unset v
theorem RepSt.length : ∀ {σ : Sl} {τ : St}, RepSt K w H S σ τ → σ.length = τ.length
  | [], [], _ => rfl
  | some y :: σ, v :: τ, h => by rw [List.length_cons, List.length_cons, RepSt.length h.2]
  | none :: σ, v :: τ, h => by rw [List.length_cons, List.length_cons, RepSt.length (σ := σ) (τ := τ) h]
  | some _ :: _, [], h => h.elim
  | none :: _, [], h => h.elim
  | [], _ :: _, h => h.elim
end
end DL
end
section
set_option maxRecDepth 100000
/-! The intermediate language and its weakest preconditions. -/
namespace DL
open PySem PySem.Spec L2
open PyProof.Rows hiding St

/-- an exception of an own class: the class's name, its own fields -/
structure Exn where
  name : Str
  fs : List (Str × PV)
abbrev Post := PV → Sto → Prop
abbrev XPost := Exn → Sto → Prop
abbrev SpD := List PV → Sto → Post → XPost → Prop

inductive BOp where | add | sub | mul | mod | fdiv | pow
  deriving DecidableEq
inductive COp where | eq | ne | lt | le | gt | ge | is | isnot | isin | notin
  deriving DecidableEq
inductive Bi where | len | tuple | list | all | any | sum | abs | max1 | min1 | max2 | min2 | int | str | dict | sorted | lenset | listrange | listzip
  deriving DecidableEq
inductive Me where | append | extend | pop | insert | clear | get | setdefault | update | values | keys | index | popat | remove | reverse | join | split
  deriving DecidableEq
/-- a target: a name's slot, a tuple of targets -/
inductive Tg where | nm (i : Nat) | tp (ts : List Tg)

mutual
inductive CE where
  | var (i : Nat) | cst (v : PV) | bin (o : BOp) (m : Bool) (a b : CE) | neg (a : CE) | cmp (o : COp) (a b : CE) | chn (a : CE) (l : CCs)
  | and (a b : CE) | or (a b : CE) | not (a : CE) | idx (a b : CE) | slc (m : Bool) (a : CE) (lo hi : CO)
  | tup (es : CEs) | lst (m : Bool) (es : CEs) | dct0 (m : Bool) | dct1 (m : Bool) (k v : CE) | call (f : Nat) (m : Bool) (es : CEs) | bi (b : Bi) (m : Bool) (es : CEs) | me (c : Me) (m : Bool) (o : CE) (es : CEs)
  | isi (e : CE) (ts : List String) | comp (m : Bool) (elt : CE) (tg : Tg) (it : CI) (cond : COT) (own : List Nat)
inductive CEs where
  | nil | cons (e : CE) (es : CEs)
inductive CCs where
  | one (o : COp) (e : CE) | more (o : COp) (e : CE) (l : CCs)
inductive CO where
  | none | some (e : CE)
inductive CT where
  | tst (e : CE) | not (a : CT) | and (a b : CT) | or (a b : CT)
inductive COT where
  | none | some (t : CT)
inductive CI where
  | seq (e : CE) | rng1 (e : CE) | rng2 (a b : CE) | rng3 (a b c : CE) | enum (e : CE) | zip (a b : CE) | revr (e : CE)
end
mutual
inductive CS where
  | asg (t : Tg) (e : CE) | par (i j : Nat) (a b : CE) | setI (o i e : CE) | setI2 (o i o' i' : CE) (a b : CE) | ex (e : CE) | ite (c : CT) (a b : CSs) | for (t : Tg) (it : CI) (b : CSs) | while (c : CT) (b : CSs)
  | ret (e : CE) | retN | pass | brk | cont | raise (x : Str) | raise1 (x f : Str) (e : CE) | try (b : CSs) (hs : CHs)
inductive CSs where
  | nil | cons (s : CS) (ss : CSs)
inductive CHs where
  | nil | cons (x : Str) (v : Option Nat) (b : CSs) (hs : CHs)
end

/-! ### by values -/
/-- the list that a value reads as -/
def dL (S : Sto) : PV → Option (List PV)
  | .lst xs => some xs
  | .ref a => match S a with
    | some (.lst xs) => some xs
    | _ => none
  | _ => none
/-- the list or tuple that a value reads as -/
def dQ (S : Sto) : PV → Option (List PV)
  | .tup xs => some xs
  | .lst xs => some xs
  | .ref a => match S a with
    | some (.lst xs) => some xs
    | _ => none
  | _ => none
def dD (S : Sto) : PV → Option (List PV × List PV)
  | .dct ks vs => some (ks, vs)
  | .ref a => match S a with
    | some (.dct ks vs) => some (ks, vs)
    | _ => none
  | _ => none
/-- what a value reads as, its own object told -/
def dV (S : Sto) : PV → PV
  | .ref a => match S a with
    | some (.lst xs) => .lst xs
    | some (.dct ks vs) => .dct ks vs
    | _ => .ref a
  | x => x
/-- a new list: to be changed, or not -/
def newL (m : Bool) (xs : List PV) (S : Sto) (Q : Post) : Prop := match m with
  | true => ∀ p, S p = none → Q (.ref p) (upS S p (.lst xs))
  | false => Q (.lst xs) S
def newD (m : Bool) (ks vs : List PV) (S : Sto) (Q : Post) : Prop := match m with
  | true => ∀ p, S p = none → Q (.ref p) (upS S p (.dct ks vs))
  | false => Q (.dct ks vs) S
/-- what a call hands back is frozen where it isn't to be changed -/
def frzQ (m : Bool) (Q : Post) : Post := fun v S => match m with
  | true => Q v S
  | false => match v with
    | .ref p => (match S p with
      | some (.lst xs) => Q (.lst xs) (delS S p)
      | some (.dct ks vs) => Q (.dct ks vs) (delS S p)
      | _ => Q (.ref p) S)
    | v => Q v S
mutual
def pvD : PV → Option PyData
  | .non => some .none
  | .bl b => some (.bool b)
  | .int i => some (.int i)
  | .str x => some (.str x)
  | .tup xs => match pvDs xs with
    | some ds => some (.tuple ds)
    | none => none
  | .lst xs => match pvDs xs with
    | some ds => some (.list ds)
    | none => none
  | _ => none
def pvDs : List PV → Option (List PyData)
  | [] => some []
  | x :: xs => match pvD x, pvDs xs with
    | some d, some ds => some (d :: ds)
    | _, _ => none
end
/-- numbers that may be multiplied -/
def mulOk (i j : Int) : Prop := CMul i j ∨ CMulW i j
def binD (o : BOp) (m : Bool) (x y : PV) (S : Sto) (Q : Post) : Prop := match o with
  | .add => (match x, y with
    | .int i, .int j => Q (.int (i + j)) S
    | .tup xs, .tup ys => xs.length + ys.length ≤ sizeLine ∧ Q (.tup (xs ++ ys)) S
    | .str a, .str b => a.length + b.length ≤ sizeLine ∧ Q (.str (a ++ b)) S
    | x, y => match dL S x, dL S y with
      | some xs, some ys => xs.length + ys.length ≤ sizeLine ∧ newL m (xs ++ ys) S Q
      | _, _ => False)
  | .sub => (match x, y with
    | .int i, .int j => Q (.int (i - j)) S
    | _, _ => False)
  | .mul => (match x, y with
    | .int i, .int j => mulOk i j ∧ Q (.int (i * j)) S
    | .tup xs, .int k => 0 ≤ k ∧ k < 2 ^ 62 ∧ xs.length * k.toNat ≤ sizeLine ∧ Q (.tup (List.replicate k.toNat xs).flatten) S
    | x, .int k => (match dL S x with
      | some xs => 0 ≤ k ∧ k < 2 ^ 62 ∧ xs.length * k.toNat ≤ sizeLine ∧ newL m (List.replicate k.toNat xs).flatten S Q
      | none => False)
    | _, _ => False)
  | .mod => (match x, y with
    | .int i, .int j => 0 < j ∧ Q (.int (i % j)) S
    | _, _ => False)
  | .fdiv => (match x, y with
    | .int i, .int j => CDivW i j ∧ Q (.int (i / j)) S
    | _, _ => False)
  | .pow => (match x, y with
    | .int i, .int j => CPow i j ∧ Q (.int (i ^ j.toNat)) S
    | _, _ => False)
mutual
/-- a tree that equals itself wherever it stands -/
def eqable : Nat → PV → Bool
  | _, .non => true
  | _, .bl _ => true
  | _, .int _ => true
  | _, .str _ => true
  | _, .ref _ => true
  | n + 1, .tup xs => eqables n xs
  | n + 1, .lst xs => eqables n xs
  | _, _ => false
def eqables : Nat → List PV → Bool
  | _, [] => true
  | n, x :: xs => eqable n x && eqables n xs
end
def eqSame (x y : PV) (S : Sto) : Prop := (∃ xs, dL S x = some xs ∧ dL S y = some xs ∧ eqables 20 xs = true) ∨ (∃ xs, x = .tup xs ∧ y = .tup xs ∧ eqables 20 xs = true) ∨ (dD S x = some ([], []) ∧ dD S y = some ([], []))
def eqDat (x y : PV) (S : Sto) (Q : Bool → Prop) : Prop := match pvD (dV S x), pvD (dV S y) with
  | some d, some e => SeqAt.shaped d = true ∧ SeqAt.shaped e = true ∧ Q (PyData.eqv d e)
  | _, _ => False
def eqD (x y : PV) (S : Sto) (Q : Bool → Prop) : Prop := match x, y with
  | .int i, .int j => Q (decide (i = j))
  | .bl i, .bl j => Q (decide (i = j))
  | x, y => eqDat x y S Q ∨ (eqSame x y S ∧ Q true)
/-- whether a value is among others -/
def inDs (d : PyData) (ds : List PyData) : Bool := ds.any fun e => PyData.eqv e d
def inD (x y : PV) (S : Sto) (Q : Bool → Prop) : Prop := match dQ S y with
    | some ys => (match pvD (dV S x), pvDs ys with
      | some d, some ds => SeqAt.shaped d = true ∧ SeqAt.shaped (.list ds) = true ∧ Q (inDs d ds)
      | _, _ => False)
    | none => match x, y with
      | .str a, .str b => Q (!(Builtin.Str.occurrences b a 0 b.length 1).isEmpty)
      | _, _ => False
def isNon : PV → Bool
  | .non => true
  | _ => false
def cmpD (o : COp) (x y : PV) (S : Sto) (Q : Bool → Prop) : Prop := match o with
  | .eq => eqD x y S Q
  | .ne => eqD x y S fun b => Q (!b)
  | .lt => (match x, y with
    | .int i, .int j => Q (decide (i < j))
    | _, _ => False)
  | .le => (match x, y with
    | .int i, .int j => Q (decide (i ≤ j))
    | _, _ => False)
  | .gt => (match x, y with
    | .int i, .int j => Q (decide (j < i))
    | _, _ => False)
  | .ge => (match x, y with
    | .int i, .int j => Q (decide (j ≤ i))
    | _, _ => False)
  | .is => (match y with
    | .non => Q (isNon x)
    | _ => False)
  | .isnot => (match y with
    | .non => Q (!isNon x)
    | _ => False)
  | .isin => inD x y S Q
  | .notin => inD x y S fun b => Q (!b)
def truD (x : PV) (S : Sto) (Q : Bool → Prop) : Prop := match x with
  | .non => Q false
  | .bl b => Q b
  | .int i => Q (i != 0)
  | .tup xs => Q (!xs.isEmpty)
  | x => match dL S x with
    | some xs => Q (!xs.isEmpty)
    | none => False
/-- the value at a key -/
def atKeyP (k : NestedKey) : List PV → List PV → Option PV
  | x :: ks, v :: vs => if (match pvKey x with
      | some k' => NestedKey.beq k' k
      | none => false) = true then some v else atKeyP k ks vs
  | _, _ => none
def putKeyP (k : NestedKey) (x v : PV) : List PV → List PV → List PV × List PV
  | y :: ks, u :: vs => if (match pvKey y with
      | some k' => NestedKey.beq k' k
      | none => false) = true then (y :: ks, v :: vs) else let r := putKeyP k x v ks vs; (y :: r.1, u :: r.2)
  | _, _ => ([x], [v])
def idxD (x y : PV) (S : Sto) (Q : PV → Prop) : Prop := match y with
  | .int i => (match x with
    | .str z => z.length ≤ sizeLine ∧ (match atI z.cps.toList i with
      | some c => Q (.str ⟨#[c]⟩)
      | none => False)
    | x => match dQ S x with
      | some xs => (match atI xs i with
        | some v => Q v
        | none => False)
      | none => False)
  | _ => False
def cutP (xs : List PV) (lo hi : Option Int) : List PV := (xs.drop (HT.sIx xs.length 0 lo)).take (HT.sIx xs.length xs.length hi - HT.sIx xs.length 0 lo)
def slcD (m : Bool) (x : PV) (lo hi : Option Int) (S : Sto) (Q : Post) : Prop := match x with
  | .tup xs => Q (.tup (cutP xs lo hi)) S
  | .str z => z.length ≤ sizeLine ∧ Q (.str (cutS z lo hi)) S
  | x => match dL S x with
    | some xs => newL m (cutP xs lo hi) S Q
    | none => False
/-- the built-in types of a value, its own first -/
def tyP (S : Sto) : PV → Option String
  | .non => some "NoneType"
  | .bl _ => some "bool"
  | .int _ => some "int"
  | .str _ => some "str"
  | .tup _ => some "tuple"
  | .lst _ => some "list"
  | .dct _ _ => some "dict"
  | .ref a => match S a with
    | some (.lst _) => some "list"
    | some (.dct _ _) => some "dict"
    | _ => none
  | .ty _ => none
def isT (t c : String) : Bool := t == c || (t == "bool" && c == "int")
/-- the type of a method's receiver -/
def meT : Me → String
  | .get | .setdefault | .update | .values | .keys => "dict"
  | .join | .split => "str"
  | _ => "list"
/-- the ints of a list of them -/
def intsP : List PV → Option (List Int)
  | [] => some []
  | .int i :: xs => match intsP xs with
    | some r => some (i :: r)
    | none => none
  | _ => none
def blsP : List PV → Option (List Bool)
  | [] => some []
  | .bl i :: xs => match blsP xs with
    | some r => some (i :: r)
    | none => none
  | _ => none
def maxI : Int → List Int → Int
  | m, [] => m
  | m, x :: xs => maxI (if x > m then x else m) xs
def minI : Int → List Int → Int
  | m, [] => m
  | m, x :: xs => minI (if x < m then x else m) xs
def biD (b : Bi) (m : Bool) (as : List PV) (S : Sto) (Q : Post) : Prop := match b, as with
  | .len, [.str z] => z.length ≤ sizeLine ∧ Q (.int z.length) S
  | .len, [x] => (match dQ S x with
    | some xs => Q (.int xs.length) S
    | none => False)
  | .tuple, [x] => (match dQ S x with
    | some xs => Q (.tup xs) S
    | none => False)
  | .list, [x] => (match dQ S x with
    | some xs => newL m xs S Q
    | none => False)
  | .all, [x] => (match dL S x with
    | some xs => (match blsP xs with
      | some bs => Q (.bl (bs.all id)) S
      | none => False)
    | none => False)
  | .any, [x] => (match dL S x with
    | some xs => (match blsP xs with
      | some bs => Q (.bl (bs.any id)) S
      | none => False)
    | none => False)
  | .sum, [x] => (match dL S x with
    | some xs => (match intsP xs with
      | some ns => Q (.int ns.sum) S
      | none => False)
    | none => False)
  | .max1, [x] => (match dL S x with
    | some xs => (match intsP xs with
      | some (n :: ns) => Q (.int (maxI n ns)) S
      | _ => False)
    | none => False)
  | .min1, [x] => (match dL S x with
    | some xs => (match intsP xs with
      | some (n :: ns) => Q (.int (minI n ns)) S
      | _ => False)
    | none => False)
  | .abs, [.int i] => Q (.int (if i < 0 then -i else i)) S
  | .max2, [.int i, .int j] => Q (.int (if j > i then j else i)) S
  | .min2, [.int i, .int j] => Q (.int (if j < i then j else i)) S
  | .int, [.int i] => Q (.int i) S
  | .int, [.bl k] => Q (.int (if k then 1 else 0)) S
  | _, _ => False
def meD (c : Me) (m : Bool) (o : PV) (as : List PV) (S : Sto) (Q : Post) : Prop := match c, as with
  | .append, [x] => (match o with
    | .ref a => (match S a with
      | some (.lst xs) => xs.length < sizeLine ∧ Q .non (upS S a (.lst (xs ++ [x])))
      | _ => False)
    | _ => False)
  | .extend, [x] => (match o with
    | .ref a => (match S a, dL S x with
      | some (.lst xs), some ys => xs.length + ys.length ≤ sizeLine ∧ Q .non (upS S a (.lst (xs ++ ys)))
      | _, _ => False)
    | _ => False)
  | .pop, [] => (match o with
    | .ref a => (match S a with
      | some (.lst xs) => (match xs.getLast? with
        | some v => Q v (upS S a (.lst xs.dropLast))
        | none => False)
      | _ => False)
    | _ => False)
  | .insert, [.int i, x] => (match o with
    | .ref a => (match S a with
      | some (.lst xs) => xs.length < sizeLine ∧ 0 ≤ i ∧ i < 2 ^ 63 ∧ Q .non (upS S a (.lst (xs.take i.toNat ++ [x] ++ xs.drop i.toNat)))
      | _ => False)
    | _ => False)
  | _, _ => False
/-- o[i] = v -/
def setID (o i v : PV) (S : Sto) (Q : Sto → Prop) : Prop := match o with
  | .ref a => (match S a with
    | some (.lst xs) => (match i with
      | .int k => (match ixN xs.length k with
        | some j => Q (upS S a (.lst (xs.set j v)))
        | none => False)
      | _ => False)
    | _ => False)
  | _ => False
mutual
/-- a value to a target -/
def tgD : Tg → PV → Sl → Sto → (Sl → Prop) → Prop
  | .nm i, v, σ, _, Q => Q (σ.set i (some v))
  | .tp ts, v, σ, S, Q => match dQ S v with
    | some xs => tgDs ts xs σ S Q
    | none => False
def tgDs : List Tg → List PV → Sl → Sto → (Sl → Prop) → Prop
  | [], [], σ, _, Q => Q σ
  | t :: ts, x :: xs, σ, S, Q => tgD t x σ S fun σ' => tgDs ts xs σ' S Q
  | _, _, _, _, _ => False
end
mutual
/-- the slots that a target sets -/
def Tg.slots : Tg → List Nat
  | .nm i => [i]
  | .tp ts => slotsOf ts
def slotsOf : List Tg → List Nat
  | [] => []
  | t :: ts => t.slots ++ slotsOf ts
end
/-- what is walked: the items, and that it stands as it was -/
structure Src where
  items : List PV
  ok : Sto → Prop
def itL {α : Type} (ok : Sto → Prop) (step : PV → α → Sto → (α → Sto → Prop) → Prop) (dn : α → Sto → Prop) : List PV → α → Sto → Prop
  | [], a, S => ok S ∧ dn a S
  | x :: xs, a, S => ok S ∧ step x a S fun a' S' => itL ok step dn xs a' S'
def rngP (lo : Int) (n : Nat) : List PV := (List.range n).map fun (k : Nat) => PV.int (lo + k)
def enumP : Nat → List PV → List PV
  | _, [] => []
  | n, x :: xs => .tup [.int n, x] :: enumP (n + 1) xs
def zipP : List PV → List PV → List PV
  | x :: xs, y :: ys => .tup [x, y] :: zipP xs ys
  | _, _ => []
/-- that a value reads as it did -/
def okL (x : PV) (xs : List PV) : Sto → Prop := match x with
  | .ref a => fun S => S a = some (.lst xs)
  | _ => fun _ => True

structure GE where
  fn : Nat → SpD
  sub : Str → Str → Bool

mutual
def wpE (G : GE) : CE → Sl → Sto → Post → XPost → Prop
  | .var i, σ, S, Q, _ => match σ[i]? with
    | some (some v) => Q v S
    | _ => False
  | .cst v, _, S, Q, _ => Q v S
  | .bin o m a b, σ, S, Q, E => wpE G a σ S (fun x S1 => wpE G b σ S1 (fun y S2 => binD o m x y S2 Q) E) E
  | .neg a, σ, S, Q, E => wpE G a σ S (fun x S1 => match x with
    | .int i => Q (.int (-i)) S1
    | _ => False) E
  | .cmp o a b, σ, S, Q, E => wpE G a σ S (fun x S1 => wpE G b σ S1 (fun y S2 => cmpD o x y S2 fun k => Q (.bl k) S2) E) E
  | .chn a l, σ, S, Q, E => wpE G a σ S (fun x S1 => wpL G l x σ S1 Q E) E
  | .and a b, σ, S, Q, E => wpE G a σ S (fun x S1 => match x with
    | .bl true => wpE G b σ S1 Q E
    | .bl false => Q (.bl false) S1
    | _ => False) E
  | .or a b, σ, S, Q, E => wpE G a σ S (fun x S1 => match x with
    | .bl true => Q (.bl true) S1
    | .bl false => wpE G b σ S1 Q E
    | _ => False) E
  | .not a, σ, S, Q, E => wpE G a σ S (fun x S1 => truD x S1 fun k => Q (.bl (!k)) S1) E
  | .idx a b, σ, S, Q, E => wpE G a σ S (fun x S1 => wpE G b σ S1 (fun y S2 => idxD x y S2 fun v => Q v S2) E) E
  | .slc m a lo hi, σ, S, Q, E => wpE G a σ S (fun x S1 => wpO G lo σ S1 (fun l S2 => wpO G hi σ S2 (fun h S3 => slcD m x l h S3 Q) E) E) E
  | .tup es, σ, S, Q, E => wpEs G es σ S (fun xs S1 => xs.length ≤ sizeLine ∧ Q (.tup xs) S1) E
  | .lst m es, σ, S, Q, E => wpEs G es σ S (fun xs S1 => xs.length ≤ sizeLine ∧ newL m xs S1 Q) E
  | .dct0 m, _, S, Q, _ => newD m [] [] S Q
  | .dct1 m k v, σ, S, Q, E => wpE G k σ S (fun x S1 => wpE G v σ S1 (fun y S2 => match pvKey x with
    | some k' => k'.depth ≤ 8 ∧ newD m [x] [y] S2 Q
    | none => False) E) E
  | .call f m es, σ, S, Q, E => wpEs G es σ S (fun xs S1 => G.fn f xs S1 (frzQ m Q) E) E
  | .bi b m es, σ, S, Q, E => wpEs G es σ S (fun xs S1 => biD b m xs S1 Q) E
  | .me c m o es, σ, S, Q, E => wpE G o σ S (fun x S1 => tyP S1 x = some (meT c) ∧ wpEs G es σ S1 (fun xs S2 => meD c m x xs S2 Q) E) E
  | .isi e ts, σ, S, Q, E => wpE G e σ S (fun x S1 => match tyP S1 x with
    | some t => Q (.bl (ts.any (isT t))) S1
    | none => False) E
  | .comp m elt tg it cond own, σ, S, Q, E => wpI G it σ S (fun src S1 => ∀ p, S1 p = none → itL src.ok (fun x acc S2 k => tgD tg x (wipeS σ own) S2 fun σ2 =>
      wpC G cond σ2 S2 fun b S3 => match b with
        | true => wpE G elt σ2 S3 (fun y S4 => S4 p = some (.lst acc) ∧ k (acc ++ [y]) (upS S4 p (.lst (acc ++ [y])))) (fun _ _ => False)
        | false => k acc S3) (fun acc S2 => S2 p = some (.lst acc) ∧ match m with
        | true => Q (.ref p) S2
        | false => Q (.lst acc) (delS S2 p)) src.items ([] : List PV) (upS S1 p (.lst []))) E
def wpL (G : GE) : CCs → PV → Sl → Sto → Post → XPost → Prop
  | .one o e, x, σ, S, Q, E => wpE G e σ S (fun y S2 => cmpD o x y S2 fun k => Q (.bl k) S2) E
  | .more o e l, x, σ, S, Q, E => wpE G e σ S (fun y S2 => cmpD o x y S2 fun k => match k with
    | true => wpL G l y σ S2 Q E
    | false => Q (.bl false) S2) E
def wpEs (G : GE) : CEs → Sl → Sto → (List PV → Sto → Prop) → XPost → Prop
  | .nil, _, S, Q, _ => Q [] S
  | .cons e es, σ, S, Q, E => wpE G e σ S (fun x S1 => wpEs G es σ S1 (fun xs S2 => Q (x :: xs) S2) E) E
def wpO (G : GE) : CO → Sl → Sto → (Option Int → Sto → Prop) → XPost → Prop
  | .none, _, S, Q, _ => Q none S
  | .some e, σ, S, Q, E => wpE G e σ S (fun x S1 => match x with
    | .int i => Q (some i) S1
    | _ => False) E
/-- a test -/
def wpT (G : GE) : CT → Sl → Sto → (Bool → Sto → Prop) → XPost → Prop
  | .tst e, σ, S, Q, E => wpE G e σ S (fun x S1 => truD x S1 fun b => Q b S1) E
  | .not a, σ, S, Q, E => wpT G a σ S (fun b S1 => Q (!b) S1) E
  | .and a b, σ, S, Q, E => wpT G a σ S (fun k S1 => match k with
    | true => wpT G b σ S1 Q E
    | false => Q false S1) E
  | .or a b, σ, S, Q, E => wpT G a σ S (fun k S1 => match k with
    | true => Q true S1
    | false => wpT G b σ S1 Q E) E
def wpC (G : GE) : COT → Sl → Sto → (Bool → Sto → Prop) → Prop
  | .none, _, S, Q => Q true S
  | .some e, σ, S, Q => wpT G e σ S Q (fun _ _ => False)
def wpI (G : GE) : CI → Sl → Sto → (Src → Sto → Prop) → XPost → Prop
  | .seq e, σ, S, Q, E => wpE G e σ S (fun x S1 => match dQ S1 x with
    | some xs => Q ⟨xs, okL x xs⟩ S1
    | none => False) E
  | .rng1 e, σ, S, Q, E => wpE G e σ S (fun x S1 => match x with
    | .int j => j ≤ sizeLine ∧ -(2 ^ 62) ≤ j ∧ Q ⟨rngP 0 j.toNat, fun _ => True⟩ S1
    | _ => False) E
  | .rng2 a b, σ, S, Q, E => wpE G a σ S (fun x S1 => wpE G b σ S1 (fun y S2 => match x, y with
    | .int i, .int j => -(2 ^ 62) ≤ i ∧ i < 2 ^ 62 ∧ -(2 ^ 62) ≤ j ∧ j < 2 ^ 62 ∧ (j - i).toNat ≤ sizeLine ∧ Q ⟨rngP i (j - i).toNat, fun _ => True⟩ S2
    | _, _ => False) E) E
  | .rng3 _ _ _, _, _, _, _ => False
  | .enum e, σ, S, Q, E => wpE G e σ S (fun x S1 => match dQ S1 x with
    | some xs => Q ⟨enumP 0 xs, okL x xs⟩ S1
    | none => False) E
  | .zip a b, σ, S, Q, E => wpE G a σ S (fun x S1 => wpE G b σ S1 (fun y S2 => match dQ S2 x, dQ S2 y with
    | some xs, some ys => Q ⟨zipP xs ys, fun S => okL x xs S ∧ okL y ys S⟩ S2
    | _, _ => False) E) E
  | .revr e, σ, S, Q, E => wpE G e σ S (fun x S1 => match x with
    | .int j => j ≤ sizeLine ∧ -(2 ^ 62) ≤ j ∧ Q ⟨(rngP 0 j.toNat).reverse, fun _ => True⟩ S1
    | _ => False) E
end
/-- what is wanted behind a statement -/
structure EndD where
  nx : Sl → Sto → Prop
  rt : Post
  bk : Sl → Sto → Prop := fun _ _ => False
  ct : Sl → Sto → Prop := fun _ _ => False
def whileN (c : Sl → Sto → (Bool → Sto → Prop) → Prop) (b : (Sl → Sto → Prop) → Sl → Sto → Prop) (dn : Sl → Sto → Prop) : Nat → Sl → Sto → Prop
  | 0, _, _ => False
  | n + 1, σ, S => c σ S fun k S1 => match k with
    | true => b (whileN c b dn n) σ S1
    | false => dn σ S1
abbrev XPS := Exn → Sl → Sto → Prop
mutual
def wpS (G : GE) : CS → EndD → XPS → Sl → Sto → Prop
  | .asg t e, D, E, σ, S => wpE G e σ S (fun v S1 => tgD t v σ S1 fun σ' => D.nx σ' S1) fun x => E x σ
  | .par i j a b, D, E, σ, S => wpE G a σ S (fun x S1 => wpE G b σ S1 (fun y S2 => D.nx ((σ.set i (some x)).set j (some y)) S2) fun x => E x σ) fun x => E x σ
  | .setI o i e, D, E, σ, S => wpE G e σ S (fun v S1 => wpE G o σ S1 (fun x S2 => wpE G i σ S2 (fun y S3 => setID x y v S3 fun S4 => D.nx σ S4) fun x => E x σ) fun x => E x σ) fun x => E x σ
  | .setI2 o i o' i' a b, D, E, σ, S => wpE G a σ S (fun v S1 => wpE G b σ S1 (fun u S2 => wpE G o σ S2 (fun x S3 => wpE G i σ S3 (fun y S4 => setID x y v S4 fun S5 =>
      wpE G o' σ S5 (fun x' S6 => wpE G i' σ S6 (fun y' S7 => setID x' y' u S7 fun S8 => D.nx σ S8) fun x => E x σ) fun x => E x σ) fun x => E x σ) fun x => E x σ) fun x => E x σ) fun x => E x σ
  | .ex e, D, E, σ, S => wpE G e σ S (fun _ S1 => D.nx σ S1) fun x => E x σ
  | .ite c a b, D, E, σ, S => wpT G c σ S (fun k S1 => match k with
    | true => wpSs G a D E σ S1
    | false => wpSs G b D E σ S1) fun x => E x σ
  | .for t it b, D, E, σ, S => wpI G it σ S (fun src S1 => itL src.ok (fun x σ S2 k => tgD t x σ S2 fun σ2 => wpSs G b { D with nx := k, ct := k, bk := D.nx } E σ2 S2) D.nx src.items σ S1) fun x => E x σ
  | .while c b, D, E, σ, S => ∃ n, whileN (fun σ S Q => wpT G c σ S Q fun x => E x σ) (fun k σ S => wpSs G b { D with nx := k, ct := k, bk := D.nx } E σ S) D.nx n σ S
  | .ret e, D, E, σ, S => wpE G e σ S D.rt fun x => E x σ
  | .retN, D, _, _, S => D.rt .non S
  | .pass, D, _, σ, S => D.nx σ S
  | .brk, D, _, σ, S => D.bk σ S
  | .cont, D, _, σ, S => D.ct σ S
  | .raise x, _, E, σ, S => E ⟨x, []⟩ σ S
  | .raise1 x f e, _, E, σ, S => wpE G e σ S (fun v S1 => E ⟨x, [(f, v)]⟩ σ S1) fun x => E x σ
  | .try b hs, D, E, σ, S => wpSs G b D (fun x σ' S1 => wpH G hs D E x σ' S1) σ S
def wpSs (G : GE) : CSs → EndD → XPS → Sl → Sto → Prop
  | .nil, D, _, σ, S => D.nx σ S
  | .cons s ss, D, E, σ, S => wpS G s { D with nx := fun σ' S' => wpSs G ss D E σ' S' } E σ S
def wpH (G : GE) : CHs → EndD → XPS → Exn → Sl → Sto → Prop
  | .nil, _, E, x, σ, S => E x σ S
  | .cons y _ b hs, D, E, x, σ, S => match G.sub x.name y with
    | true => wpSs G b D E σ S
    | false => wpH G hs D E x σ S
end
end DL
end
section
set_option maxRecDepth 100000
/-! From the written form to the intermediate language. -/
namespace DL
open PySem PySem.Spec L2
open PyProof.Rows hiding St

def slotOf : List Str → Str → Option Nat
  | [], _ => none
  | y :: ys, x => if y = x then some 0 else (slotOf ys x).map (· + 1)
theorem slotOf_ok : ∀ {N : List Str} {x : Str} {i : Nat}, slotOf N x = some i → N[i]? = some x
  | [], _, _, h => by cases h
  | y :: ys, x, i, h => by
    unfold slotOf at h
    split at h
    · rename_i e
      cases h
      rw [e]
      rfl
    · obtain ⟨j, h1, rfl⟩ := Option.map_eq_some_iff.mp h
      have h2 := slotOf_ok h1
      show ys[j]? = some x
      exact h2

/-- what is known ahead: the slots' names, the kinds of the names here, where a new list is to be changed, the defs, constants and built-ins -/
structure Gam where
  N : List Str
  names : List (Str × NameKind)
  blk : Option (List (Str × NameKind)) := none
  own : List Pos := []
  fns : List (Str × Nat × Nat)
  cst : List (Str × PV) := []
  free : List Str
  exc : List Str := []
def Gam.glob (Γ : Gam) (x : Str) : Bool := Γ.names.lookup x == some .globalImplicit
def Gam.vis (Γ : Gam) (x : Str) : Bool := Γ.names.lookup x == some .local || Γ.names.lookup x == some .cell || Γ.names.lookup x == some .free
def Gam.loc (Γ : Gam) (x : Str) : Bool := Γ.names.lookup x == some .local || Γ.names.lookup x == some .cell
def Gam.fnc (Γ : Gam) (x : Str) : Bool := Γ.names.lookup x == some .local || (match Γ.blk with
  | none => true
  | some nm => nm.lookup x == some .cell)
def dbg (x : Str) : Bool := x == ("__debug__" : Str)
def cdc (x : Str) : Bool := x == ("__classdict__" : Str)
/-- a built-in by its name -/
def Gam.bi (Γ : Gam) (x : Str) : Bool := Γ.glob x && Γ.free.contains x && !dbg x
def noStar : Expr → Bool
  | .Starred _ _ => false
  | _ => true
def noSlice : Expr → Bool
  | .Slice _ _ _ _ => false
  | _ => true
def noComp : Expr → Bool
  | .ListComp _ _ _ _ | .SetComp _ _ _ _ | .DictComp _ _ _ _ _ => false
  | _ => true
def isTupE : Expr → Bool
  | .Tuple _ _ _ => true
  | _ => false
def noSet : Expr → Bool
  | .Set _ _ _ => false
  | _ => true
/-- no super() -/
def noSup : Expr → Bool
  | .Call (.Name _ _) [] [] _ => false
  | _ => true
def opB : Operator → Option BOp
  | .Add => some .add
  | .Sub => some .sub
  | .Mult => some .mul
  | .Mod => some .mod
  | .FloorDiv => some .fdiv
  | .Pow => some .pow
  | _ => none
def opC : CmpOp → COp
  | .Eq => .eq
  | .NotEq => .ne
  | .Lt => .lt
  | .LtE => .le
  | .Gt => .gt
  | .GtE => .ge
  | .Is => .is
  | .IsNot => .isnot
  | .In => .isin
  | .NotIn => .notin
/-- the plain built-in functions and types: by name and number of arguments -/
def biTab : List (Str × Nat × Bi) := [("len", 1, .len), ("tuple", 1, .tuple), ("list", 1, .list), ("all", 1, .all), ("any", 1, .any), ("sum", 1, .sum), ("abs", 1, .abs), ("max", 1, .max1), ("min", 1, .min1), ("max", 2, .max2), ("min", 2, .min2), ("int", 1, .int)]
def biOf (x : Str) (n : Nat) : Option Bi := (biTab.find? fun e => e.1 == x && e.2.1 == n).map (·.2.2)
def meTab : List (Str × Nat × Me) := [("append", 1, .append), ("extend", 1, .extend), ("pop", 0, .pop), ("insert", 2, .insert)]
def meOf (x : Str) (n : Nat) : Option Me := (meTab.find? fun e => e.1 == x && e.2.1 == n).map (·.2.2)
theorem biOf_mem {x : Str} {n : Nat} {b : Bi} (h : biOf x n = some b) : (x, n, b) ∈ biTab := by
  obtain ⟨⟨y, m, c⟩, h1, rfl⟩ := Option.map_eq_some_iff.mp h
  have h2 := List.find?_some h1
  simp only [Bool.and_eq_true, beq_iff_eq] at h2
  rw [← h2.1, ← h2.2]
  exact List.mem_of_find?_eq_some h1
theorem meOf_mem {x : Str} {n : Nat} {b : Me} (h : meOf x n = some b) : (x, n, b) ∈ meTab := by
  obtain ⟨⟨y, m, c⟩, h1, rfl⟩ := Option.map_eq_some_iff.mp h
  have h2 := List.find?_some h1
  simp only [Bool.and_eq_true, beq_iff_eq] at h2
  rw [← h2.1, ← h2.2]
  exact List.mem_of_find?_eq_some h1
def tyOf (x : Str) : Option String :=
  if x = ("int" : Str) then some "int"
  else if x = ("bool" : Str) then some "bool"
  else if x = ("tuple" : Str) then some "tuple"
  else if x = ("list" : Str) then some "list"
  else if x = ("dict" : Str) then some "dict"
  else if x = ("str" : Str) then some "str"
  else none
def tysOf (Γ : Gam) : List Expr → Option (List String)
  | [] => some []
  | .Name x _ :: es => if Γ.bi x = true then (match tyOf x, tysOf Γ es with
    | some t, some ts => some (t :: ts)
    | _, _ => none) else none
  | _ :: _ => none
/-- the own names of a block, with their slots -/
def ownOf (N : List Str) : List (Str × NameKind) → List (Str × Nat)
  | [] => []
  | (x, k) :: r => match k with
    | .local | .cell => (match slotOf N x with
      | some i => (x, i) :: ownOf N r
      | none => ownOf N r)
    | _ => ownOf N r
/-- the scope in which a def or a block runs, as far as it matters -/
def scOf (Γ : Gam) : Scope := { kind := .function, names := Γ.names, isGenerator := false, isCoroutine := false }
def Gam.block (Γ : Gam) (scope : Scope) : Gam := { Γ with names := (relS scope (scOf Γ)).names, blk := some scope.names }

mutual
def compG : Nat → Gam → Expr → Option Tg
  | n + 1, Γ, .Name x _ => if (Γ.loc x && Γ.fnc x) = true then (slotOf Γ.N x).map .nm else none
  | n + 1, Γ, .Tuple es _ _ => if es.all noStar = true then (compGs n Γ es).map .tp else none
  | _, _, _ => none
def compGs : Nat → Gam → List Expr → Option (List Tg)
  | _, _, [] => some []
  | n + 1, Γ, e :: es => do
    let t ← compG n Γ e
    let ts ← compGs n Γ es
    return t :: ts
  | 0, _, _ :: _ => none
end
mutual
def compE : Nat → Gam → Expr → Option CE
  | n + 1, Γ, .Name x _ => if dbg x = true then none else if Γ.vis x = true then (if cdc x = true then none else (slotOf Γ.N x).map .var) else if Γ.glob x = true then (Γ.cst.lookup x).map .cst else none
  | n + 1, Γ, .Constant c _ _ => match c with
    | .none => some (.cst .non)
    | .bool b => some (.cst (.bl b))
    | .int i => some (.cst (.int i))
    | .str x => some (.cst (.str x))
    | _ => none
  | n + 1, Γ, .BinOp a op b pos => do
    let o ← opB op
    let ca ← compE n Γ a
    let cb ← compE n Γ b
    return .bin o (Γ.own.contains pos) ca cb
  | n + 1, Γ, .UnaryOp op a _ => match op with
    | .USub => (compE n Γ a).map .neg
    | .Not => (compE n Γ a).map .not
    | _ => none
  | n + 1, Γ, .BoolOp op es _ => compB n Γ op es
  | n + 1, Γ, .Compare a ops es _ => match ops, es with
    | [op], [b] => if behindInMarks op b = true then none else do
      let ca ← compE n Γ a
      let cb ← compE n Γ b
      return .cmp (opC op) ca cb
    | op :: op2 :: ops, b :: b2 :: bs => if lastMarks (op :: op2 :: ops) (b :: b2 :: bs) = true then none else do
      let ca ← compE n Γ a
      let cl ← compL n Γ (op :: op2 :: ops) (b :: b2 :: bs)
      return .chn ca cl
    | _, _ => none
  | n + 1, Γ, .Subscript a b pos => match b with
    | .Slice lo hi step _ => match step with
      | none => do
        let ca ← compE n Γ a
        let cl ← compO n Γ lo
        let ch ← compO n Γ hi
        return .slc (Γ.own.contains pos) ca cl ch
      | some _ => none
    | b => if noSlice b = true then do
        let ca ← compE n Γ a
        let cb ← compE n Γ b
        return .idx ca cb else none
  | n + 1, Γ, .Tuple es _ _ => if es.all noStar = true then (compEs n Γ es).map .tup else none
  | n + 1, Γ, .List es pos => if es.all noStar = true then (compEs n Γ es).map (.lst (Γ.own.contains pos)) else none
  | n + 1, Γ, .Dict ks vs pos => match ks, vs with
    | [], [] => some (.dct0 (Γ.own.contains pos))
    | _, _ => none
  | n + 1, Γ, .Call f args kws pos => match f, kws with
    | .Name x _, [] => if (args.all noStar && !args.isEmpty && Γ.glob x && !dbg x) = true then
        match Γ.fns.lookup x with
        | some (i, m) => if args.length = m then (compEs n Γ args).map (.call i (Γ.own.contains pos)) else none
        | none => if Γ.free.contains x = true then
            match x, args with
            | x, [a, t] => if x = ("isinstance" : Str) then (match t with
                | .Name y _ => if Γ.bi y = true then (match tyOf y with
                    | some ty => (compE n Γ a).map fun c => .isi c [ty]
                    | none => none) else none
                | .Tuple ts _ _ => (match tysOf Γ ts with
                    | some tys => if tys.length ≤ 8 then (compE n Γ a).map fun c => .isi c tys else none
                    | none => none)
                | _ => none) else do
                let b ← biOf x 2
                let cs ← compEs n Γ args
                return .bi b (Γ.own.contains pos) cs
            | x, args => do
              let b ← biOf x args.length
              let cs ← compEs n Γ args
              return .bi b (Γ.own.contains pos) cs
          else none
      else none
    | .Attribute o m apos, [] => if (args.all noStar && noSup o && apos.endLine == pos.line && decide (args.length < 29)) = true then do
        let c ← meOf m args.length
        let co ← compE n Γ o
        let cs ← compEs n Γ args
        return .me c (Γ.own.contains pos) co cs
      else none
    | _, _ => none
  | n + 1, Γ, .ListComp elt gens scope pos => match gens with
    | [⟨tg, it, ifs, a⟩] => if (a == 0 && blkC Γ.N (scOf Γ) scope (ownOf Γ.N scope.names) && noSet it) = true then do
        let ci ← compI n Γ (isTupE tg) it
        let ct ← compG n (Γ.block scope) tg
        let ce ← compE n (Γ.block scope) elt
        let cc ← compF n (Γ.block scope) ifs
        if (ct.slots.all fun i => ((ownOf Γ.N scope.names).map (·.2)).contains i) = true then return .comp (Γ.own.contains pos) ce ct ci cc ((ownOf Γ.N scope.names).map (·.2)) else none
      else none
    | _ => none
  | _, _, _ => none
def compEs : Nat → Gam → List Expr → Option CEs
  | _, _, [] => some .nil
  | n + 1, Γ, e :: es => do
    let c ← compE n Γ e
    let cs ← compEs n Γ es
    return .cons c cs
  | 0, _, _ :: _ => none
def compL : Nat → Gam → List CmpOp → List Expr → Option CCs
  | n + 1, Γ, [op], [e] => (compE n Γ e).map (.one (opC op))
  | n + 1, Γ, op :: ops, e :: es => do
    let c ← compE n Γ e
    let cl ← compL n Γ ops es
    return .more (opC op) c cl
  | _, _, _, _ => none
def compB : Nat → Gam → BoolOp → List Expr → Option CE
  | n + 1, Γ, _, [e] => compE n Γ e
  | n + 1, Γ, op, e :: es => do
    let c ← compE n Γ e
    let cs ← compB n Γ op es
    return (match op with
      | .And => .and c cs
      | .Or => .or c cs)
  | _, _, _, _ => none
def compO : Nat → Gam → Option Expr → Option CO
  | _, _, none => some .none
  | n + 1, Γ, some e => (compE n Γ e).map .some
  | 0, _, some _ => none
def compT : Nat → Gam → Expr → Option CT
  | n + 1, Γ, e => match e with
    | .UnaryOp .Not a _ => (compT n Γ a).map .not
    | .BoolOp op es _ => compTB n Γ op es
    | e => (compE n Γ e).map .tst
  | 0, _, _ => none
def compTB : Nat → Gam → BoolOp → List Expr → Option CT
  | n + 1, Γ, _, [e] => compT n Γ e
  | n + 1, Γ, op, e :: es => do
    let c ← compT n Γ e
    let cs ← compTB n Γ op es
    return (match op with
      | .And => .and c cs
      | .Or => .or c cs)
  | _, _, _, _ => none
def compF : Nat → Gam → List Expr → Option COT
  | _, _, [] => some .none
  | n + 1, Γ, [e] => (compT n Γ e).map .some
  | _, _, _ => none
def compI : Nat → Gam → Bool → Expr → Option CI
  | n + 1, Γ, tp, e => match e with
    | .Call (.Name x _) args [] pos => if (x = ("range" : Str) ∧ Γ.bi x = true ∧ Γ.fns.lookup x = none) then (match args with
        | [a] => if noStar a = true then (compE n Γ a).map .rng1 else none
        | [a, b] => if (noStar a && noStar b) = true then do
            let ca ← compE n Γ a
            let cb ← compE n Γ b
            return .rng2 ca cb else none
        | _ => none)
      else if (x = ("enumerate" : Str) ∧ Γ.bi x = true ∧ Γ.fns.lookup x = none) then (match args with
        | [a] => if (noStar a && tp) = true then (compE n Γ a).map .enum else none
        | _ => none)
      else if (x = ("zip" : Str) ∧ Γ.bi x = true ∧ Γ.fns.lookup x = none) then (match args with
        | [a, b] => if (noStar a && noStar b && tp) = true then do
            let ca ← compE n Γ a
            let cb ← compE n Γ b
            return .zip ca cb else none
        | _ => none)
      else (compE n Γ e).map .seq
    | e => (compE n Γ e).map .seq
  | 0, _, _, _ => none
end
mutual
def compS : Nat → Gam → Stmt → Option CS
  | n + 1, Γ, .Assign ts e _ => match ts with
    | [.Name x px] => do
      let t ← compG n Γ (.Name x px)
      let c ← compE n Γ e
      if (noComp e || Γ.names.lookup x == some .local) = true then return .asg t c else none
    | [.Tuple es k pt] => if noComp e = true then (match e with
        | .Tuple vs _ _ => (match es, vs with
          | [.Name x _, .Name y _], [_, _] => if (x != y && Γ.names.lookup x == some .local && Γ.names.lookup y == some .local && vs.all noStar && (vs.all (foldedForSure 8) || !vs.all (constantsAlone 8))) = true then do
              let t ← compG n Γ (.Tuple es k pt)
              let c ← compE n Γ e
              return .asg t c else none
          | _, _ => none)
        | e => do
          let t ← compG n Γ (.Tuple es k pt)
          let c ← compE n Γ e
          return .asg t c) else none
    | [.Subscript o i _] => if (noComp e && noSlice i) = true then do
        let co ← compE n Γ o
        let ci ← compE n Γ i
        let c ← compE n Γ e
        return .setI co ci c else none
    | _ => none
  | n + 1, Γ, .Expr e _ => if noComp e = true then (match e with
    | .Constant (.str _) _ _ => some .pass
    | e => (compE n Γ e).map .ex) else none
  | n + 1, Γ, .If c a b _ => do
    let cc ← compT n Γ c
    let ca ← compSs n Γ a
    let cb ← compSs n Γ b
    return .ite cc ca cb
  | n + 1, Γ, .For tg it b orelse _ => match orelse with
    | [] => if noSet it = true then do
        let ct ← compG n Γ tg
        let ci ← compI n Γ (isTupE tg) it
        let cb ← compSs n Γ b
        return .for ct ci cb else none
    | _ :: _ => none
  | n + 1, Γ, .While c b orelse _ => match orelse with
    | [] => do
      let cc ← compT n Γ c
      let cb ← compSs n Γ b
      return .while cc cb
    | _ :: _ => none
  | n + 1, Γ, .Return e _ => match e with
    | some e => (compE n Γ e).map .ret
    | none => some .retN
  | n + 1, Γ, .Raise e c _ => match e, c with
    | some (.Call (.Name x _) [.Constant (.str _) _ _] [] _), none => if (Γ.exc.contains x && Γ.glob x && !dbg x && Γ.blk.isNone) = true then some (.raise x) else none
    | _, _ => none
  | n + 1, Γ, .Pass _ => some .pass
  | n + 1, Γ, .Break _ => some .brk
  | n + 1, Γ, .Continue _ => some .cont
  | _, _, _ => none
def compSs : Nat → Gam → List Stmt → Option CSs
  | _, _, [] => some .nil
  | n + 1, Γ, s :: ss => do
    let c ← compS n Γ s
    let cs ← compSs n Γ ss
    return .cons c cs
  | 0, _, _ :: _ => none
end
end DL
end
section
set_option maxRecDepth 100000
set_option maxHeartbeats 4000000
/-! Rules that the hand layer lacks: tuples joined, repeated, cut in any case; lists of any kind joined and repeated. -/
namespace DL
open PySem PySem.Spec L2
open PyProof.Rows hiding St

theorem tuple_addW0 (l b : Addr) (items items2 : Array Value) (n n2 : Nat) (dd dd2 : Option Addr) (sl sl2 : Array (Option Value)) (hc0 : items.isEmpty = true) :
    Meets (Builtin.«tuple.__add__» ⟨[.ref l, .ref b], []⟩) (fun _ R s => s.heap.get? l = some { cls := .type "tuple", dict := dd, data := .seq items n, slots := sl } ∧ s.heap.get? b = some { cls := .type "tuple", dict := dd2, data := .seq items2 n2, slots := sl2 } ∧ R (.ok (.ret (Value.ref b))) { s with heap := s.heap, toks := s.toks }) :=
  .of_wp fun prog w A R s h => by obtain ⟨hp, g, d, tk, os⟩ := s; obtain ⟨hl, hb, h⟩ := h; have f1 := AutoSeq1.idx_int; have f2 := AutoSeq1.sub_tuple_tuple; have f3 := AutoSeq1.sub_list_list; have f4 := AutoSeq1.sub_tuple_list; have f5 := AutoSeq1.sub_list_tuple; wp_walk using wpAny_loadPart' hl, wpAny_loadPart' hb; exact ⟨_, rfl, h⟩
section
variable {prog : Program} {w : World} {A : Around} {E : Value → Shared → Prop} {s : Shared}
theorem cat_tup0 {t b : Addr} {vs ws : List Value} {Q : Value → Shared → Prop} (ht : IsTup s.heap t vs.toArray) (hb : IsTup s.heap b ws.toArray) (hv : vs = []) (h : Q (.ref b) s) :
    wpAny (model prog w) A (binaryOp .Add (.ref t) (.ref b)) Q E s := by
  obtain ⟨⟨cls, dd, data, sl⟩, ho, hc, n, hd⟩ := id ht
  obtain ⟨⟨cls2, dd2, data2, sl2⟩, ho2, hc2, n2, hd2⟩ := id hb
  simp only at hc hd hc2 hd2
  subst hc hd hc2 hd2
  exact concat_meets ⟨_, ho, rfl⟩ ⟨_, ho2, rfl⟩ noFill_tuple_add seq_tuple_add PySem.F.slot_tuple_add PySem.F.entry_tuple_add (PySem.F.args_tuple_add_2 _ _)
      (tuple_addW0 t b vs.toArray ws.toArray n n2 dd dd2 sl sl2 (by simp [hv])) ⟨ho, ho2, h⟩
end
/-- t + u of tuples -/
def rCatA (K : PySem.W.Frag) : R2 := fun x y H Q => ∃ a b xs ys, x = .ref a ∧ y = .ref b ∧ SqT K H a xs ∧ SqT K H b ys ∧ xs.length + ys.length ≤ sizeLine ∧
  (xs = [] → Q (.ref b) H) ∧ (ys = [] → Q (.ref a) H) ∧ (∀ p, H p = none → Q (.ref p) (upd H p (.tup (xs ++ ys))))
section
variable {X : Cx}
theorem op_catA : OpR X (binaryOp .Add) (rCatA X.K) := by
  intro pins s σ H x y v u Q I rx ry h
  obtain ⟨a, b, xs, ys, rfl, rfl, ha, hb, hz, q0, q1, q2⟩ := h
  by_cases hx : xs = []
  · cases rx
    cases ry
    obtain ⟨its, r1, p1, _⟩ := I.tuple ha
    obtain ⟨its2, r2, p2, _⟩ := I.tuple hb
    exact cat_tup0 p1 p2 (r1.nil_iff.mpr hx) ⟨.ref b, H, I, rfl, q0 hx⟩
  · exact op_catT pins s σ H _ _ v u Q I rx ry ⟨a, b, xs, ys, rfl, rfl, ha, hb, hx, hz, q1, fun _ => q2⟩

/-- xs + ys of lists -/
def rCatLA (K : PySem.W.Frag) : R2 := fun x y H Q => ∃ a b xs ys, x = .ref a ∧ y = .ref b ∧ SqL K H a xs ∧ SqL K H b ys ∧ xs.length + ys.length ≤ sizeLine ∧ ∀ p, H p = none → Q (.ref p) (upd H p (.lst (xs ++ ys)))
theorem op_catLA : OpR X (binaryOp .Add) (rCatLA X.K) := by
  intro pins s σ H x y v u Q I rx ry h
  obtain ⟨a, b, xs, ys, rfl, rfl, ha, hb, hz, q⟩ := h
  cases rx
  cases ry
  obtain ⟨its, r1, ⟨⟨cls, dd, data, sl⟩, n, ho, hc, hdn, hd⟩, _⟩ := I.list ha
  obtain ⟨its2, r2, ⟨⟨cls2, dd2, data2, sl2⟩, n2, ho2, hc2, hdn2, hd2⟩, _⟩ := I.list hb
  simp only at hc hd hc2 hd2
  subst hc hd hc2 hd2
  have e : its.toArray ++ its2.toArray = (its ++ its2).toArray := by simp
  have hsz : its.toArray.size + its2.toArray.size ≤ sizeLine := by rw [List.size_toArray, List.size_toArray, ← r1.length, ← r2.length]; exact hz
  refine concat_meets ⟨_, ho, rfl⟩ ⟨_, ho2, rfl⟩ noFill_list_add seq_list_add PySem.F.slot_list_add PySem.F.entry_list_add (PySem.F.args_list_add_2 _ _) (list_addW a b its.toArray its2.toArray n n2 dd dd2 sl sl2 hsz) ⟨ho, ho2, ?_⟩
  rw [e]
  refine ⟨.ref s.heap.objs.size, _, I.laid (t' := s.toks) (o := .lst (xs ++ ys)) (fun b ob q => Heap.get?_push_of_some _ q) (Nat.le_refl _) ?_, rfl, q _ (I.hok.fresh (Nat.le_refl _))⟩
  exact ⟨by rw [List.length_append]; exact hz, _, 0, r1.append r2, Heap.get?_push_size _ rfl⟩

theorem tuple_mulW1 (l : Addr) (items : Array Value) (n : Nat) (dd : Option Addr) (sl : Array (Option Value)) (x : Int) (u : Tok) (c0 : (decide (x < -(2 ^ 63)) || decide (x ≥ 2 ^ 63)) = false) (c1 : (items.isEmpty || x == 1) = true) :
    Meets (Builtin.«tuple.__mul__» ⟨[.ref l, .int x u], []⟩) (fun _ R s => s.heap.get? l = some { cls := .type "tuple", dict := dd, data := .seq items n, slots := sl } ∧ R (.ok (.ret (Value.ref l))) s) :=
  .of_wp fun prog w A R s h => by
    obtain ⟨hp, g, d, tk, os⟩ := s
    obtain ⟨hl, h⟩ := h
    have f1 := AutoSeq1.idx_int
    wp_walk using wpAny_loadPart' hl
    repeat (first
      | (refine wpAny_ite_false (decide_eq_false (by rw [c0]; exact Bool.false_ne_true)) ?_; wp_walk using wpAny_loadPart' hl)
      | (refine wpAny_ite_true (decide_eq_true c1) ?_; wp_walk using wpAny_loadPart' hl))
    exact ⟨_, rfl, h⟩
theorem tuple_mulW0 (l : Addr) (items : Array Value) (n : Nat) (dd : Option Addr) (sl : Array (Option Value)) (x : Int) (u : Tok) (c0 : (decide (x < -(2 ^ 63)) || decide (x ≥ 2 ^ 63)) = false) (c1 : (items.isEmpty || x == 1) = false) (c2 : (decide (x ≤ 0) || items.isEmpty) = true) :
    Meets (Builtin.«tuple.__mul__» ⟨[.ref l, .int x u], []⟩) (fun _ R s => s.heap.get? l = some { cls := .type "tuple", dict := dd, data := .seq items n, slots := sl } ∧
      R (.ok (.ret (Value.ref s.heap.objs.size))) { s with heap := s.heap.push { cls := Value.type "tuple", data := Data.seq #[] }, toks := s.toks }) :=
  .of_wp fun prog w A R s h => by
    obtain ⟨hp, g, d, tk, os⟩ := s
    obtain ⟨hl, h⟩ := h
    have f1 := AutoSeq1.idx_int
    wp_walk using wpAny_loadPart' hl
    repeat (first
      | (refine wpAny_ite_false (decide_eq_false (by rw [c0]; exact Bool.false_ne_true)) ?_; wp_walk using wpAny_loadPart' hl)
      | (refine wpAny_ite_false (decide_eq_false (by rw [c1]; exact Bool.false_ne_true)) ?_; wp_walk using wpAny_loadPart' hl)
      | (refine wpAny_ite_true (decide_eq_true c2) ?_; wp_walk using wpAny_loadPart' hl))
    exact ⟨_, rfl, h⟩
/-- t * k of a tuple -/
def rRepA (K : PySem.W.Frag) : R2 := fun x y H Q => ∃ l k xs, x = .ref l ∧ y = .int k ∧ SqT K H l xs ∧ 0 ≤ k ∧ k < 2 ^ 62 ∧ xs.length * k.toNat ≤ sizeLine ∧ (xs = [] ∨ k = 1 → Q (.ref l) H) ∧ ∀ p, H p = none → Q (.ref p) (upd H p (.tup (List.replicate k.toNat xs).flatten))
theorem op_repA : OpR X (binaryOp .Mult) (rRepA X.K) := by
  intro pins s σ H x y v u Q I rx ry h
  obtain ⟨l, k, xs, rfl, rfl, hT, h0, h1, hz, q1, q⟩ := h
  cases rx
  obtain ⟨t, rfl⟩ := ry
  obtain ⟨its, r, ⟨⟨cls, dd, data, sl⟩, ho, hc, n, hd⟩, hs⟩ := I.tuple hT
  simp only at hc hd
  subst hc hd
  have hle : its.length = xs.length := r.length.symm
  have hsz0 : its.toArray.size = xs.length := by rw [List.size_toArray, hle]
  have c0 : (decide (k < -(2 ^ 63)) || decide (k ≥ 2 ^ 63)) = false := by
    rw [decide_eq_false (by omega), decide_eq_false (by omega)] <;> rfl
  refine wpAny_binaryOp_repeat_ref (T := "tuple") (U := "int") (by decide) ⟨_, ho, rfl⟩ (fun s' => typeIs_int s' k t) noFill_tuple_mul F.fills_int_mul F.slot_int_rmul repeat_tuple F.slot_int_index.lookup
    (call_meets F.slot_int_rmul (typeIs_int s k t) F.entry_int_rmul (F.args_int_rmul_2 _ _) (int_rmul_tuple k t l its.toArray n dd sl) ⟨ho, rfl, ⟨_, ho, rfl⟩, ?_⟩)
  by_cases hA : xs = [] ∨ k = 1
  · have c1 : (its.toArray.isEmpty || k == 1) = true := by
      rcases hA with e | e
      · have : its = [] := List.eq_nil_of_length_eq_zero (by rw [hle, e]; rfl)
        subst this
        rfl
      · subst e
        simp
    exact call_meets F.slot_tuple_mul ⟨_, ho, rfl⟩ F.entry_tuple_mul (F.args_tuple_mul_2 _ _) (tuple_mulW1 l its.toArray n dd sl k t c0 c1) ⟨ho, ⟨.ref l, H, I, rfl, q1 hA⟩⟩
  · have hne : xs ≠ [] := fun e => hA (.inl e)
    have hk1 : k ≠ 1 := fun e => hA (.inr e)
    have hn : its ≠ [] := fun e => hne (by
      rw [e] at hle
      exact List.eq_nil_of_length_eq_zero hle.symm)
    have hi : its.toArray.isEmpty = false := by
      cases its with
      | nil => exact absurd rfl hn
      | cons a b => rfl
    have c1 : (its.toArray.isEmpty || k == 1) = false := by
      rw [hi, Bool.false_or]
      exact beq_eq_false_iff_ne.mpr hk1
    by_cases hk : k = 0
    · have c2 : (decide (k ≤ 0) || its.toArray.isEmpty) = true := by
        rw [decide_eq_true (by omega)]
        rfl
      refine call_meets F.slot_tuple_mul ⟨_, ho, rfl⟩ F.entry_tuple_mul (F.args_tuple_mul_2 _ _) (tuple_mulW0 l its.toArray n dd sl k t c0 c1 c2) ⟨ho, ?_⟩
      have q' := q s.heap.objs.size (I.hok.fresh (Nat.le_refl _))
      rw [show k.toNat = 0 by omega] at q'
      refine ⟨.ref s.heap.objs.size, _, I.laid (t' := s.toks) (o := .tup []) (fun b ob q => Heap.get?_push_of_some _ q) (Nat.le_refl _) ?_, rfl, q'⟩
      exact ⟨Nat.zero_le _, [], .nil, IsTup.new _ _⟩
    · have c2 : (decide (k ≤ 0) || its.toArray.isEmpty) = false := by
        rw [hi, Bool.or_false]
        exact decide_eq_false (by omega)
      have flen : (List.replicate k.toNat its).flatten.length ≤ sizeLine := by
        rw [PyProof.Rows.lm_len_rep_flat, hle, Nat.mul_comm]
        exact hz
      have hmul : ((its.toArray.size : Nat) : Int) * k ≤ 16777216 := by
        rw [hsz0]
        have e1 : (k.toNat : Int) = k := Int.toNat_of_nonneg h0
        have hz' : xs.length * k.toNat ≤ 16777216 := by rw [sizeLine_eq] at hz; exact hz
        have e2 : ((xs.length * k.toNat : Nat) : Int) ≤ 16777216 := by omega
        rw [Int.natCast_mul, e1] at e2
        exact e2
      have c4 : Builtin.Tuple.tupleTooMany (((its.toArray.size : Nat) : Int) * k) = false := by
        unfold Builtin.Tuple.tupleTooMany
        rw [sizeLine_eq]
        exact decide_eq_false (by omega)
      refine call_meets F.slot_tuple_mul ⟨_, ho, rfl⟩ F.entry_tuple_mul (F.args_tuple_mul_2 _ _) (tuple_mulW l its.toArray n dd sl k t c0 c1 c2 (by omega) c4 (by rw [size_rep, List.size_toArray]; exact flen)) ⟨ho, ?_⟩
      rw [size_rep]
      refine ⟨.ref s.heap.objs.size, _, I.laid (t' := s.toks) (o := .tup (List.replicate k.toNat xs).flatten) (fun b ob q => Heap.get?_push_of_some _ q) (Nat.le_refl _) ?_, rfl, q _ (I.hok.fresh (Nat.le_refl _))⟩
      exact ⟨by rw [PyProof.Rows.lm_len_rep_flat, Nat.mul_comm]; exact hz, _, r.rep k.toNat, IsTup.new _ _⟩
theorem list_mulA (l : Addr) (items : Array Value) (n : Nat) (dd : Option Addr) (sl : Array (Option Value)) (x : Int) (u : Tok) (h1 : ¬ (!Builtin.List.listFitsIndex x) = true) (h2 : ¬ items.size * x.toNat > (2 ^ 63 - 1) / 8) (h3 : ¬ Builtin.List.listTooLong (items.size * x.toNat) = true) :
    Meets (Builtin.«list.__mul__» ⟨[.ref l, .int x u], []⟩) (fun _ R s => s.heap.get? l = some { cls := .type "list", dict := dd, data := .seq items n, slots := sl } ∧
      R (.ok (.ret (Value.ref s.heap.objs.size))) { s with heap := s.heap.push { cls := Value.type "list", data := Data.seq (List.foldl (fun x1 x2 => x1 ++ x2) #[] (List.replicate (if items.isEmpty = true then 0 else x.toNat) items)) }, toks := s.toks }) :=
  .of_wp fun prog w A R s h => by
    obtain ⟨hp, g, d, tk, os⟩ := s
    obtain ⟨hl, h⟩ := h
    have f1 := AutoSeq1.idx_int
    have hsz := PySem.AutoListH.joined_fits h3
    wp_walk using wpAny_loadPart' hl
    repeat (first
      | (refine wpAny_ite_false (decide_eq_false h1) ?_; wp_walk using wpAny_loadPart' hl)
      | (refine wpAny_ite_false (decide_eq_false h2) ?_; wp_walk using wpAny_loadPart' hl)
      | (refine wpAny_ite_false (decide_eq_false h3) ?_; wp_walk using wpAny_loadPart' hl)
      | (refine wpAny_ite_false (decide_eq_false (Nat.not_lt.mpr hsz)) ?_; wp_walk using wpAny_loadPart' hl))
    exact ⟨_, rfl, h⟩
theorem int_rmul_listA (a : Int) (t : Tok) (l : Addr) (items : Array Value) (n : Nat) (dd : Option Addr) (sl : Array (Option Value)) :
    Meets (Builtin.«int.__rmul__» ⟨[.int a t, .ref l], []⟩) (fun _ R s => s.heap.get? l = some { cls := .type "list", dict := dd, data := .seq items n, slots := sl } ∧ R (.ok (.ret Value.notImplemented)) s) :=
  .of_wp fun prog w A R s h => by obtain ⟨hp, g, d, tk, os⟩ := s; obtain ⟨hl, h⟩ := h; wp_walk using wpAny_loadPart' hl; exact ⟨_, rfl, h⟩
/-- xs * k of a list -/
def rRepLA (K : PySem.W.Frag) : R2 := fun x y H Q => ∃ l k xs, x = .ref l ∧ y = .int k ∧ SqL K H l xs ∧ 0 ≤ k ∧ k < 2 ^ 62 ∧ xs.length * k.toNat ≤ sizeLine ∧ ∀ p, H p = none → Q (.ref p) (upd H p (.lst (List.replicate k.toNat xs).flatten))
theorem op_repLA : OpR X (binaryOp .Mult) (rRepLA X.K) := by
  intro pins s σ H x y v u Q I rx ry h
  obtain ⟨l, k, xs, rfl, rfl, hH, h1, h2, hz, q⟩ := h
  cases rx
  obtain ⟨t, rfl⟩ := ry
  obtain ⟨its, r, ⟨⟨cls, dd, data, sl⟩, n, e, hc, hdn, hd⟩, _⟩ := I.list hH
  simp only at hc hd
  subst hc hd
  have hl := r.length
  have hlen : its.toArray.size * k.toNat ≤ sizeLine := by rw [List.size_toArray, ← hl]; exact hz
  have hcap : ¬ its.toArray.size * k.toNat > (2 ^ 63 - 1) / 8 := by
    have : (sizeLine : Nat) ≤ (2 ^ 63 - 1) / 8 := by decide
    omega
  have hfit : ¬ (!Builtin.List.listFitsIndex k) = true := by
    rw [fitsIndex_both (by omega) (by omega)]
    exact Bool.false_ne_true
  have hlong : ¬ Builtin.List.listTooLong (its.toArray.size * k.toNat) = true := by
    rw [notLongL hlen]
    exact Bool.false_ne_true
  have hnew : List.foldl (fun x1 x2 => x1 ++ x2) #[] (List.replicate (if its.toArray.isEmpty = true then 0 else k.toNat) its.toArray) = (List.replicate k.toNat its).flatten.toArray := by
    have f0 : ∀ m : Nat, List.foldl (fun x1 x2 => x1 ++ x2) #[] (List.replicate m its.toArray) = (List.replicate m its).flatten.toArray := fun m => by
      have := foldl_rep its m []
      rw [List.nil_append] at this
      exact this
    rw [f0]
    cases its with
    | nil => simp
    | cons a r' => rw [if_neg (by simp)]
  refine wpAny_binaryOp_repeat_ref (T := "list") (U := "int") (by decide) ⟨_, e, rfl⟩ (fun s' => typeIs_int s' k t) noFill_list_mul F.fills_int_mul F.slot_int_rmul repeat_list F.slot_int_index.lookup
    (call_meets F.slot_int_rmul (typeIs_int s k t) F.entry_int_rmul (F.args_int_rmul_2 _ _) (int_rmul_listA k t l its.toArray n dd sl)
      ⟨e, rfl, ⟨_, e, rfl⟩, call_meets F.slot_list_mul ⟨_, e, rfl⟩ F.entry_list_mul (F.args_list_mul_2 _ _) (list_mulA l its.toArray n dd sl k t hfit hcap hlong) ⟨e, ?_⟩⟩)
  rw [hnew]
  refine ⟨.ref s.heap.objs.size, _, I.laid (t' := s.toks) (o := .lst (List.replicate k.toNat xs).flatten) (fun b ob q => Heap.get?_push_of_some _ q) (Nat.le_refl _) ?_, rfl, q _ (I.hok.fresh (Nat.le_refl _))⟩
  exact ⟨by rw [PyProof.Rows.lm_len_rep_flat, Nat.mul_comm]; exact hz, _, 0, r.rep k.toNat, Heap.get?_push_size _ rfl⟩

/-- t[lo:hi] of a tuple, the whole too -/
def rSlTA (K : PySem.W.Frag) : V → Option Int → Option Int → Hp → VK → Prop := fun x lo hi H Q => ∃ a xs, x = .ref a ∧ SqT K H a xs ∧
  ((HT.sIx xs.length 0 lo = 0 ∧ HT.sIx xs.length xs.length hi = xs.length) → Q (.ref a) H) ∧ ∀ p, H p = none → Q (.ref p) (upd H p (.tup (cutV xs lo hi)))
theorem getItem_tuple_whole {s : Shared} {t sl : Addr} {items : Array Value} {vl vu : Value} {lo hi : Option Int} {A : Around} {E : Value → Shared → Prop} {prog : Program} {w : World} {Q : Value → Shared → Prop} (ht : IsTup s.heap t items) (hs : s.heap.IsSliceOf sl vl vu .none) (pl : IsPart vl lo) (pu : IsPart vu hi)
    (hw : HT.sIx items.size 0 lo = 0 ∧ HT.sIx items.size items.size hi = items.size) (h : Q (.ref t) s) : wpAny (model prog w) A (getItem (.ref t) (.ref sl)) Q E s := by
  obtain ⟨os, hos, hcs, hds⟩ := id hs
  have hTs : s.TypeIs (.ref sl) "slice" := ⟨os, hos, hcs⟩
  unfold getItem
  try with_reducible refine wpAny_holding ?_
  first | refine wpAny_bind (wpAny_pure ?_) | skip
  refine wpAny_bind (wpAny_sequenceKey ht.typeIs (by decide) ?_)
  refine wpAny_bind (wpAny_callSpecial?_slot (name := Str.ofString "__getitem__") ht.typeIs PyProof.Rows.slot_tuple_getitem
    (wpAny_call_entry PyProof.Rows.slot_tuple_getitem ht.typeIs entry_tuple_getitem ?_ (args_tuple_getitem _ _)))
  show wpAny _ _ (Builtin.Tuple.tupleItemsOf (.ref t) >>= _) _ _ s
  refine wpAny_bind (tupleItemsOf_ ht ?_)
  refine wpAny_bind (wpAny_typeOf hTs ?_)
  rw [if_pos (by decide)]
  refine wpAny_bind (HT.sliceApplied_gen hs pl pu ?_)
  have hyes : ((((HT.sIx items.size 0 lo : Nat) : Int) == 0 && (1 : Int) == 1 && (HT.sIx items.size items.size hi - HT.sIx items.size 0 lo) == items.size) = true) := by
    rw [hw.1, hw.2]
    simp
  show wpAny _ _ (if (((HT.sIx items.size 0 lo : Nat) : Int) == 0 && (1 : Int) == 1 && (HT.sIx items.size items.size hi - HT.sIx items.size 0 lo) == items.size) = true then _ else _) _ _ s
  rw [if_pos hyes]
  refine wpAny_bind (m := Builtin.Tuple.tupleIsExact (.ref t)) (wpAny_bind (wpAny_typeOf ht.typeIs (wpAny_pure ?_)))
  rw [if_pos (by decide)]
  exact wpAny_bind (wpAny_rule (wpAny_pure ⟨_, rfl, wpAny_pure h⟩))
theorem sl_tupA : SlR X (rSlTA X.K) := by
  intro pins s σ H x v vl vu lo hi sl Q I rx hs pl pu h
  obtain ⟨a, xs, rfl, hx, q1, q2⟩ := h
  by_cases hw : HT.sIx xs.length 0 lo = 0 ∧ HT.sIx xs.length xs.length hi = xs.length
  · cases rx
    obtain ⟨its, r, ht, hz⟩ := I.tuple hx
    have hlen : its.toArray.size = xs.length := by rw [List.size_toArray]; exact r.length.symm
    refine ⟨"tuple", _, PyProof.Rows.slot_tuple_getitem.lookup, ht.typeIs, ?_⟩
    exact getItem_tuple_whole ht hs pl pu (by rw [hlen]; exact hw) ⟨.ref a, H, I, rfl, q1 hw⟩
  · exact sl_tup pins s σ H _ v vl vu lo hi sl Q I rx hs pl pu ⟨a, xs, rfl, hx, hw, q2⟩
end
end DL
end
section
set_option maxRecDepth 100000
set_option maxHeartbeats 1000000
/-! Soundness of the operations, by values. -/
namespace DL
open PySem PySem.Spec L2
open PyProof.Rows hiding St

/-- what follows with a value -/
def kV (K : PySem.W.Frag) (w : World) (S : Sto) (H : Hp) (Q' : Post) (Q : VK) : Prop := ∀ v H' v' S', RepV K w H' S' v' v → RepH K w H' S' → Ext K S H S' H' → Q' v' S' → Q v H'
theorem kV.mono {K : PySem.W.Frag} {w : World} {S S1 : Sto} {H H1 : Hp} {Q' : Post} {Q : VK} (k : kV K w S H Q' Q) (e : Ext K S H S1 H1) : kV K w S1 H1 Q' Q := fun v H' v' S' r h e' q => k v H' v' S' r h (e.trans e') q

section
variable {K : PySem.W.Frag} {w : World} {H H' : Hp} {S S' : Sto}
theorem dL_rep {x : PV} {v : V} {xs : List PV} (h : RepH K w H S) (r : RepV K w H S x v) (e : dL S x = some xs) : ∃ a vs, v = .ref a ∧ SqL K H a vs ∧ RepVs K w H S xs vs := by
  cases x with
  | lst ys =>
    simp only [dL, Option.some.injEq] at e
    subst e
    simp only [RepV] at r
    obtain ⟨a, vs, h1, h2, h3⟩ := r
    exact ⟨a, vs, h1, h2.sq, h3⟩
  | ref a =>
    simp only [dL] at e
    split at e
    · rename_i ys q
      cases e
      simp only [RepV] at r
      obtain ⟨vs, h1, h2⟩ := h a _ q
      exact ⟨a, vs, r, .inl (.inl h1), h2⟩
    · cases e
  | _ => simp [dL] at e
theorem dQ_rep {x : PV} {v : V} {xs : List PV} (h : RepH K w H S) (r : RepV K w H S x v) (e : dQ S x = some xs) : ∃ a vs, v = .ref a ∧ (SqL K H a vs ∨ SqT K H a vs) ∧ RepVs K w H S xs vs := by
  cases x with
  | tup ys =>
    simp only [dQ, Option.some.injEq] at e
    subst e
    simp only [RepV] at r
    obtain ⟨a, vs, h1, h2, h3⟩ := r
    exact ⟨a, vs, h1, .inr h2, h3⟩
  | lst ys =>
    obtain ⟨a, vs, h1, h2, h3⟩ := dL_rep h r (xs := xs) (by simpa [dL, dQ] using e)
    exact ⟨a, vs, h1, .inl h2, h3⟩
  | ref a =>
    obtain ⟨a, vs, h1, h2, h3⟩ := dL_rep h r (xs := xs) (by simpa [dL, dQ] using e)
    exact ⟨a, vs, h1, .inl h2, h3⟩
  | _ => simp [dQ] at e
theorem RepV.tup_of {a : Addr} {xs : List PV} {vs : List V} (h : SqT K H a vs) (r : RepVs K w H S xs vs) : RepV K w H S (.tup xs) (.ref a) := by
  simp only [RepV]
  exact ⟨a, vs, rfl, h, r⟩
/-- a new tuple -/
theorem new_tup {Q' : Post} {Q : VK} (hh : RepH K w H S) {xs : List PV} {vs : List V} (r : RepVs K w H S xs vs) (k : kV K w S H Q' Q) (q : Q' (.tup xs) S) : ∀ p, H p = none → Q (.ref p) (upd H p (.tup vs)) := fun p n =>
  k _ _ _ _ (RepV.tup_of (SqT.of upd_same) (RepVs.mono (Ext.new n) xs vs r)) (hh.new n) (Ext.new n) q
/-- a new list, frozen or not -/
theorem newL_ok {Q' : Post} {Q : VK} {m : Bool} (hh : RepH K w H S) {xs : List PV} {vs : List V} (r : RepVs K w H S xs vs) (k : kV K w S H Q' Q) (q : newL m xs S Q') : ∀ p, H p = none → Q (.ref p) (upd H p (.lst vs)) := fun p n => by
  cases m with
  | true =>
    have e : Ext K S H (upS S p (.lst xs)) (upd H p (.lst vs)) := Ext.newS n
    exact k _ _ (.ref p) _ (by simp only [RepV]) (hh.newS (m := .lst xs) n ⟨vs, upd_same, RepVs.mono e xs vs r⟩) e (q p (hh.free n))
  | false =>
    refine k _ _ (.lst xs) S ?_ (hh.new n) (Ext.new n) q
    simp only [RepV]
    exact ⟨p, vs, rfl, .inl ⟨.inl upd_same, hh.free n⟩, RepVs.mono (Ext.new n) xs vs r⟩
theorem RepVs.rep {xs : List PV} {vs : List V} (r : RepVs K w H S xs vs) : ∀ k : Nat, RepVs K w H S (List.replicate k xs).flatten (List.replicate k vs).flatten
  | 0 => .nil
  | k + 1 => by
    rw [List.replicate_succ, List.replicate_succ, List.flatten_cons, List.flatten_cons]
    exact r.append (RepVs.rep r k)
theorem RepVs.cut {xs : List PV} {vs : List V} (r : RepVs K w H S xs vs) (lo hi : Option Int) : RepVs K w H S (cutP xs lo hi) (cutV vs lo hi) := by
  unfold cutP cutV
  rw [r.length]
  exact (r.drop _).take _
end
/-- a two-place operation, by data -/
def rUp2 (K : PySem.W.Frag) (w : World) (f : PV → PV → Sto → Post → Prop) : R2 := fun x y H Q => ∃ x' y' S Q', RepV K w H S x' x ∧ RepV K w H S y' y ∧ RepH K w H S ∧ f x' y' S Q' ∧ kV K w S H Q' Q
def rUpN (K : PySem.W.Frag) (w : World) (f : List PV → Sto → Post → Prop) : List V → Hp → VK → Prop := fun xs H Q => ∃ xs' S Q', RepVs K w H S xs' xs ∧ RepH K w H S ∧ f xs' S Q' ∧ kV K w S H Q' Q
section
variable {X : Cx}
theorem op_mulA : OpR X (binaryOp .Mult) (rI mulOk fun i j => .int (i * j)) := by
  intro pins s σ H x y v u Q I rx ry h
  obtain ⟨i, j, rfl, rfl, hc, q⟩ := h
  rcases hc with hc | hc
  · exact op_mul pins s σ H _ _ v u Q I rx ry ⟨i, j, rfl, rfl, hc, q⟩
  · exact op_mulW pins s σ H _ _ v u Q I rx ry ⟨i, j, rfl, rfl, hc, q⟩
theorem bin_ok (o : BOp) (op : Operator) (ho : opB op = some o) (m : Bool) : OpR X (binaryOp op) (rUp2 X.K X.w (binD o m)) := by
  intro pins s σ H x y v u Q I rx ry h
  obtain ⟨x', y', S, Q', hx, hy, hh, hf, k⟩ := h
  have int_of : ∀ {i : Int} {z : V}, RepV X.K X.w H S (.int i) z → z = .int i := fun h => by simpa only [RepV] using h
  have fin : ∀ {i : Int} , Q' (.int i) S → Q (.int i) H := fun {i} q => k _ _ (.int i) S (by simp only [RepV]) hh Ext.refl q
  cases op <;> simp only [opB, Option.some.injEq, reduceCtorEq] at ho <;> subst ho
  · -- add
    simp only [binD] at hf
    split at hf
    · cases int_of hx
      cases int_of hy
      exact op_add pins s σ H _ _ v u Q I rx ry ⟨_, _, rfl, rfl, fin hf⟩
    · rename_i xs ys
      have hx' := hx
      have hy' := hy
      simp only [RepV] at hx hy
      obtain ⟨a, vs, rfl, ha, ra⟩ := hx
      obtain ⟨b, us, rfl, hb, rb⟩ := hy
      refine op_catA pins s σ H _ _ v u Q I rx ry ⟨a, b, vs, us, rfl, rfl, ha, hb, by rw [← ra.length, ← rb.length]; exact hf.1, fun e => ?_, fun e => ?_, new_tup hh (ra.append rb) k hf.2⟩
      · subst e
        have : xs = [] := List.eq_nil_of_length_eq_zero (by rw [ra.length]; rfl)
        subst this
        exact k _ _ _ S hy' hh Ext.refl (by simpa using hf.2)
      · subst e
        have : ys = [] := List.eq_nil_of_length_eq_zero (by rw [rb.length]; rfl)
        subst this
        exact k _ _ _ S hx' hh Ext.refl (by simpa using hf.2)
    · simp only [RepV] at hx hy
      subst hx hy
      exact op_add_str pins s σ H _ _ v u Q I rx ry ⟨_, _, rfl, rfl, hf.1, k _ _ (.str _) S (by simp only [RepV]) hh Ext.refl hf.2⟩
    · split at hf
      · rename_i xs ys e1 e2
        obtain ⟨a, vs, rfl, ha, ra⟩ := dL_rep hh hx e1
        obtain ⟨b, us, rfl, hb, rb⟩ := dL_rep hh hy e2
        exact op_catLA pins s σ H _ _ v u Q I rx ry ⟨a, b, vs, us, rfl, rfl, ha, hb, by rw [← ra.length, ← rb.length]; exact hf.1, newL_ok hh (ra.append rb) k hf.2⟩
      · exact hf.elim
  · -- sub
    simp only [binD] at hf
    split at hf
    · cases int_of hx
      cases int_of hy
      exact op_sub pins s σ H _ _ v u Q I rx ry ⟨_, _, rfl, rfl, fin hf⟩
    · exact hf.elim
  · -- mul
    simp only [binD] at hf
    split at hf
    · cases int_of hx
      cases int_of hy
      exact op_mulA pins s σ H _ _ v u Q I rx ry ⟨_, _, rfl, rfl, hf.1, fin hf.2⟩
    · rename_i xs j
      cases int_of hy
      have hx' := hx
      simp only [RepV] at hx
      obtain ⟨a, vs, rfl, ha, ra⟩ := hx
      refine op_repA pins s σ H _ _ v u Q I rx ry ⟨a, j, vs, rfl, rfl, ha, hf.1, hf.2.1, by rw [← ra.length]; exact hf.2.2.1, fun e => ?_, new_tup hh (ra.rep _) k hf.2.2.2⟩
      refine k _ _ (.tup xs) S hx' hh Ext.refl ?_
      have hq := hf.2.2.2
      rcases e with e | e
      · subst e
        have : xs = [] := List.eq_nil_of_length_eq_zero (by rw [ra.length]; rfl)
        subst this
        have : (List.replicate j.toNat ([] : List PV)).flatten = [] := by
          rw [List.flatten_eq_nil_iff]
          intro l hl
          exact (List.eq_of_mem_replicate hl)
        rw [this] at hq
        exact hq
      · subst e
        simpa using hq
    · split at hf
      · rename_i j _ _ xs e1
        cases int_of hy
        obtain ⟨a, vs, rfl, ha, ra⟩ := dL_rep hh hx e1
        exact op_repLA pins s σ H _ _ v u Q I rx ry ⟨a, _, vs, rfl, rfl, ha, hf.1, hf.2.1, by rw [← ra.length]; exact hf.2.2.1, newL_ok hh (ra.rep _) k hf.2.2.2⟩
      · exact hf.elim
    · exact hf.elim
  · -- mod
    simp only [binD] at hf
    split at hf
    · cases int_of hx
      cases int_of hy
      exact op_mod pins s σ H _ _ v u Q I rx ry ⟨_, _, rfl, rfl, hf.1, fin hf.2⟩
    · exact hf.elim
  · -- pow
    simp only [binD] at hf
    split at hf
    · cases int_of hx
      cases int_of hy
      exact op_pow pins s σ H _ _ v u Q I rx ry ⟨_, _, rfl, rfl, hf.1, fin hf.2⟩
    · exact hf.elim
  · -- floordiv
    simp only [binD] at hf
    split at hf
    · cases int_of hx
      cases int_of hy
      exact op_fdivW pins s σ H _ _ v u Q I rx ry ⟨_, _, rfl, rfl, hf.1, fin hf.2⟩
    · exact hf.elim
end

/-! ### comparisons -/
section
variable {K : PySem.W.Frag} {w : World} {H H' : Hp} {S S' : Sto}
mutual
theorem pvD_rep : ∀ (x : PV) (v : V) (d : PyData), RepV K w H S x v → pvD x = some d → Dp K H v d
  | .non, v, d, r, e => by
    simp only [pvD, Option.some.injEq] at e
    simp only [RepV] at r
    subst e r
    exact .non
  | .bl b, v, d, r, e => by
    simp only [pvD, Option.some.injEq] at e
    simp only [RepV] at r
    subst e r
    exact .bl b
  | .int b, v, d, r, e => by
    simp only [pvD, Option.some.injEq] at e
    simp only [RepV] at r
    subst e r
    exact .int b
  | .str b, v, d, r, e => by
    simp only [pvD, Option.some.injEq] at e
    simp only [RepV] at r
    subst e r
    exact .str b
  | .tup xs, v, d, r, e => by
    simp only [pvD] at e
    split at e
    · rename_i ds q
      cases e
      simp only [RepV] at r
      obtain ⟨a, vs, rfl, h1, h2⟩ := r
      exact .tup h1 (pvDs_rep xs vs ds h2 q)
    · cases e
  | .lst xs, v, d, r, e => by
    simp only [pvD] at e
    split at e
    · rename_i ds q
      cases e
      simp only [RepV] at r
      obtain ⟨a, vs, rfl, h1, h2⟩ := r
      exact .lst h1.sq (pvDs_rep xs vs ds h2 q)
    · cases e
  | .dct _ _, _, _, _, e => by simp [pvD] at e
  | .ref _, _, _, _, e => by simp [pvD] at e
  | .ty _, _, _, _, e => by simp [pvD] at e
theorem pvDs_rep : ∀ (xs : List PV) (vs : List V) (ds : List PyData), RepVs K w H S xs vs → pvDs xs = some ds → DpAll K H vs ds
  | [], vs, ds, r, e => by
    simp only [pvDs, Option.some.injEq] at e
    subst e
    rw [r.nil_inv]
    exact .nil
  | x :: xs, vs, ds, r, e => by
    simp only [pvDs] at e
    split at e
    · rename_i d ds' q1 q2
      cases e
      obtain ⟨v, us, rfl, r1, r2⟩ := r.cons_inv
      exact .cons (pvD_rep x v d r1 q1) (pvDs_rep xs us ds' r2 q2)
    · cases e
end
theorem dV_rep {x : PV} {v : V} {d : PyData} (h : RepH K w H S) (r : RepV K w H S x v) (e : pvD (dV S x) = some d) : Dp K H v d := by
  cases x with
  | ref a =>
    simp only [dV] at e
    split at e
    · rename_i xs q
      simp only [RepV] at r
      subst r
      obtain ⟨vs, h1, h2⟩ := h a _ q
      simp only [pvD] at e
      split at e
      · rename_i ds q2
        cases e
        exact .lst (.inl (.inl h1)) (pvDs_rep xs vs ds h2 q2)
      · cases e
    · simp [pvD] at e
    · simp [pvD] at e
  | non => exact pvD_rep _ v d r e
  | bl b => exact pvD_rep _ v d r e
  | int b => exact pvD_rep _ v d r e
  | str b => exact pvD_rep _ v d r e
  | tup b => exact pvD_rep _ v d r e
  | lst b => exact pvD_rep _ v d r e
  | dct _ _ => exact pvD_rep _ v d r e
  | ty _ => exact pvD_rep _ v d r e
theorem pvD_int {i : Int} {d : PyData} (h : pvD (.int i) = some d) : d = .int i := by simpa [pvD] using h.symm
end
def cmpP (o : COp) (x y : PV) (S : Sto) (Q : Post) : Prop := cmpD o x y S fun k => Q (.bl k) S
section
variable {X : Cx}
theorem DPhi.dictOf {P : Program} {w : World} {a : Addr} {h : Heap} (p : DPhi a [] h) : h.DictOf (mixKind P w) a ([] : List (Key × Value)) := by
  obtain ⟨_, o, arr, ep, e, x, d, m⟩ := p
  have ha : arr.toList = [] := by
    cases q : arr.toList with
    | nil => rfl
    | cons _ _ => rw [q] at m; simp at m
  have hb : arr = #[] := by simpa using ha
  subst hb
  exact ⟨o, #[], ep, e, x, d, fun _ he => by simp at he, .nil, List.nodup_nil⟩
section
variable {pins : List (Addr × Obj)} {σ : L2.St} {H : Hp} {S : Sto} {s : Shared}
mutual
theorem same_at (I : Inv X pins σ H s) : ∀ (n : Nat) (z : PV), eqable n z = true → ∀ (A : Around), A.units + n < cLine → ∀ {x y : V} {v u : Value}, RepV X.K X.w H S z x → RepV X.K X.w H S z y → RelV x v → RelV y u → SeqAt.EqAt A s v u true
  | _, .non, _, A, _, x, y, v, u, hx, hy, rx, ry => by simp only [RepV] at hx hy; subst hx hy; exact eqAt_same rx ry rfl
  | _, .bl _, _, A, _, x, y, v, u, hx, hy, rx, ry => by simp only [RepV] at hx hy; subst hx hy; exact eqAt_same rx ry rfl
  | _, .int _, _, A, _, x, y, v, u, hx, hy, rx, ry => by simp only [RepV] at hx hy; subst hx hy; exact eqAt_same rx ry rfl
  | _, .str _, _, A, _, x, y, v, u, hx, hy, rx, ry => by simp only [RepV] at hx hy; subst hx hy; exact eqAt_same rx ry rfl
  | _, .ref a, _, A, _, x, y, v, u, hx, hy, rx, ry => by
    simp only [RepV] at hx hy
    subst hx hy
    cases (show v = Value.ref a from rx)
    cases (show u = Value.ref a from ry)
    exact SeqAt.EqAt.same _
  | n + 1, .tup xs, h, A, hu, x, y, v, u, hx, hy, rx, ry => by
    simp only [RepV] at hx hy
    obtain ⟨a, vs, rfl, h1, h2⟩ := hx
    obtain ⟨b, us, rfl, h3, h4⟩ := hy
    cases (show v = Value.ref a from rx)
    cases (show u = Value.ref b from ry)
    by_cases e : a = b
    · subst e; exact SeqAt.EqAt.same _
    · obtain ⟨i1, r1, p1, _⟩ := I.tuple h1
      obtain ⟨i2, r2, p2, _⟩ := I.tuple h3
      have hl : i1.length = i2.length := by rw [← r1.length, ← r2.length, ← h2.length, ← h4.length]
      have key := SeqAt.RcAt.tuples (A := A) (e := fun _ => true) p1 p2 (by omega) fun j j1 j2 => by
        have := sames_at I n xs (by simpa only [eqable] using h) A.in1 (by show A.units + 1 + n < cLine; omega) h2 h4 r1 r2 j (by simpa using j1) (by simpa using j2)
        simpa using this
      have e2 : ((List.range (min i1.toArray.size i2.toArray.size)).all (fun _ => true) && i1.toArray.size == i2.toArray.size) = true := by simp [hl]
      rw [e2] at key
      exact SeqAt.EqAt.of_refs e key
  | n + 1, .lst xs, h, A, hu, x, y, v, u, hx, hy, rx, ry => by
    simp only [RepV] at hx hy
    obtain ⟨a, vs, rfl, h1, h2⟩ := hx
    obtain ⟨b, us, rfl, h3, h4⟩ := hy
    cases (show v = Value.ref a from rx)
    cases (show u = Value.ref b from ry)
    by_cases e : a = b
    · subst e; exact SeqAt.EqAt.same _
    · obtain ⟨i1, r1, p1, _⟩ := I.list h1.sq
      obtain ⟨i2, r2, p2, _⟩ := I.list h3.sq
      have hl : i1.length = i2.length := by rw [← r1.length, ← r2.length, ← h2.length, ← h4.length]
      have key := SeqAt.RcAt.lists (A := A) (e := fun _ => true) p1.isList p2.isList (by simpa using hl) (by omega) fun j j1 j2 => by
        have := sames_at I n xs (by simpa only [eqable] using h) A.in1 (by show A.units + 1 + n < cLine; omega) h2 h4 r1 r2 j (by simpa using j1) (by simpa using j2)
        simpa using this
      have e2 : ((List.range i1.toArray.size).all (fun _ => true)) = true := by simp
      rw [e2] at key
      exact SeqAt.EqAt.of_refs e key
  | 0, .tup _, h, _, _, _, _, _, _, _, _, _, _ => by simp [eqable] at h
  | 0, .lst _, h, _, _, _, _, _, _, _, _, _, _ => by simp [eqable] at h
  | n, .ty _, h, _, _, _, _, _, _, _, _, _, _ => by cases n <;> simp [eqable] at h
  | n, .dct _ _, h, _, _, _, _, _, _, _, _, _, _ => by cases n <;> simp [eqable] at h
theorem sames_at (I : Inv X pins σ H s) : ∀ (n : Nat) (zs : List PV), eqables n zs = true → ∀ (A : Around), A.units + n < cLine → ∀ {xs ys : List V} {vs us : List Value}, RepVs X.K X.w H S zs xs → RepVs X.K X.w H S zs ys → Vals xs vs → Vals ys us →
    ∀ j (h1 : j < vs.length) (h2 : j < us.length), SeqAt.EqAt A s vs[j] us[j] true
  | n, [], _, A, _, xs, ys, vs, us, hx, hy, rx, ry, j, j1, _ => by
    cases hx.nil_inv
    cases rx
    exact absurd j1 (Nat.not_lt_zero j)
  | n, z :: zs, h, A, hu, xs, ys, vs, us, hx, hy, rx, ry, j, j1, j2 => by
    simp only [eqables, Bool.and_eq_true] at h
    obtain ⟨x, xs', rfl, a1, a2⟩ := hx.cons_inv
    obtain ⟨y, ys', rfl, b1, b2⟩ := hy.cons_inv
    cases rx with
    | cons c1 c2 =>
      cases ry with
      | cons d1 d2 =>
        cases j with
        | zero => exact same_at I n z h.1 A hu a1 b1 c1 d1
        | succ j => exact sames_at I n zs h.2 A hu a2 b2 c2 d2 j (by simpa using j1) (by simpa using j2)
end
theorem dD_rep {x : PV} {v : V} (hh : RepH X.K X.w H S) (r : RepV X.K X.w H S x v) (e : dD S x = some ([], [])) : ∃ a, v = .ref a ∧ H a = some (.ext (DPhi a [])) := by
  cases x with
  | dct ks vs =>
    simp only [dD, Option.some.injEq, Prod.mk.injEq] at e
    obtain ⟨rfl, rfl⟩ := e
    simp only [RepV] at r
    obtain ⟨a, es, _, _, rfl, h1, _, h2, _⟩ := r
    have : es = [] := by simpa using h2
    subst this
    exact ⟨a, rfl, h1⟩
  | ref a =>
    simp only [RepV] at r
    simp only [dD] at e
    split at e
    · rename_i ks vs q
      simp only [Option.some.injEq, Prod.mk.injEq] at e
      obtain ⟨rfl, rfl⟩ := e
      obtain ⟨es, _, _, h1, h2, _⟩ := hh a _ q
      have : es = [] := by simpa using h2
      subst this
      exact ⟨a, r, h1⟩
    · cases e
  | _ => simp [dD] at e
/-- two that are the same, compared -/
theorem same_ok (hu : X.A.units + 64 < cLine) (ne : Bool) (I : Inv X pins σ H s) {x y : V} {x' y' : PV} {v u : Value} (hh : RepH X.K X.w H S) (hx : RepV X.K X.w H S x' x) (hy : RepV X.K X.w H S y' y) (rx : RelV x v) (ry : RelV y u) (hs : eqSame x' y' S)
    {Q : Value → Shared → Prop} (q : Q (.bool (!ne)) s) : wpAny (model X.prog X.w) X.A (compareOp (if ne then .NotEq else .Eq) v u) Q X.xe s := by
  rcases hs with ⟨xs, e1, e2, h⟩ | ⟨xs, e1, e2, h⟩ | ⟨e1, e2⟩
  · obtain ⟨a, vs, rfl, h1, h2⟩ := dL_rep hh hx e1
    obtain ⟨b, us, rfl, h3, h4⟩ := dL_rep hh hy e2
    cases (show v = Value.ref a from rx)
    cases (show u = Value.ref b from ry)
    obtain ⟨i1, r1, p1, _⟩ := I.list h1
    obtain ⟨i2, r2, p2, _⟩ := I.list h3
    have hl : i1.length = i2.length := by rw [← r1.length, ← r2.length, ← h2.length, ← h4.length]
    have he : ∀ j (j1 : j < i1.toArray.size) (j2 : j < i2.toArray.size), SeqAt.EqAt X.A.in1 s i1.toArray[j] i2.toArray[j] ((fun _ => true) j) := fun j j1 j2 => by
      have := sames_at I 20 xs h X.A.in1 (by show X.A.units + 1 + 20 < cLine; omega) h2 h4 r1 r2 j (by simpa using j1) (by simpa using j2)
      simpa using this
    have e2 : ((List.range i1.toArray.size).all (fun _ => true)) = true := by simp
    cases ne with
    | false =>
      have key := SeqAt.RcAt.lists (A := X.A) (e := fun _ => true) p1.isList p2.isList (by simpa using hl) (by omega) he
      rw [e2] at key
      exact key _ _ _ _ q
    | true =>
      have key := SeqAt.RcNeAt.lists (A := X.A) (e := fun _ => true) p1.isList p2.isList (by simpa using hl) (by omega) he
      rw [e2] at key
      exact key _ _ _ _ q
  · subst e1 e2
    simp only [RepV] at hx hy
    obtain ⟨a, vs, rfl, h1, h2⟩ := hx
    obtain ⟨b, us, rfl, h3, h4⟩ := hy
    cases (show v = Value.ref a from rx)
    cases (show u = Value.ref b from ry)
    obtain ⟨i1, r1, p1, _⟩ := I.tuple h1
    obtain ⟨i2, r2, p2, _⟩ := I.tuple h3
    have hl : i1.length = i2.length := by rw [← r1.length, ← r2.length, ← h2.length, ← h4.length]
    have he : ∀ j (j1 : j < i1.toArray.size) (j2 : j < i2.toArray.size), SeqAt.EqAt X.A.in1 s i1.toArray[j] i2.toArray[j] ((fun _ => true) j) := fun j j1 j2 => by
      have := sames_at I 20 xs h X.A.in1 (by show X.A.units + 1 + 20 < cLine; omega) h2 h4 r1 r2 j (by simpa using j1) (by simpa using j2)
      simpa using this
    have e2 : ((List.range (min i1.toArray.size i2.toArray.size)).all (fun _ => true) && i1.toArray.size == i2.toArray.size) = true := by simp [hl]
    cases ne with
    | false =>
      have key := SeqAt.RcAt.tuples (A := X.A) (e := fun _ => true) p1 p2 (by omega) he
      rw [e2] at key
      exact key _ _ _ _ q
    | true =>
      have key := SeqAt.RcNeAt.tuples (A := X.A) (e := fun _ => true) p1 p2 (by omega) he
      rw [e2] at key
      exact key _ _ _ _ q
  · obtain ⟨a, rfl, h1⟩ := dD_rep hh hx e1
    obtain ⟨b, rfl, h2⟩ := dD_rep hh hy e2
    cases (show v = Value.ref a from rx)
    cases (show u = Value.ref b from ry)
    obtain ⟨p1, _⟩ := (show ObjOk X.prog X.w H s.heap a (.ext (DPhi a [])) from I.hok a _ h1)
    obtain ⟨p2, _⟩ := (show ObjOk X.prog X.w H s.heap b (.ext (DPhi b [])) from I.hok b _ h2)
    cases ne with
    | false => exact PySem.W.keq_eq (knd := mixKind X.prog X.w) (r := true) p1.1 p2.1 p1.dictOf p2.dictOf (by omega) (fun _ => .nil) q
    | true => exact PySem.W.keq_ne (knd := mixKind X.prog X.w) (r := true) p1.1 p2.1 p1.dictOf p2.dictOf (by omega) (fun _ => .nil) q
end
theorem eq_ok (hu : X.A.units + 64 < cLine) : OpR X (compareOp .Eq) (rUp2 X.K X.w fun x y S Q => eqD x y S fun k => Q (.bl k) S) := by
  intro pins s σ H x y v u Q I rx ry h
  obtain ⟨x', y', S, Q', hx, hy, hh, hf, k⟩ := h
  have fin : ∀ {b : Bool}, Q' (.bl b) S → Q (.bl b) H := fun {i} q => k _ _ (.bl i) S (by simp only [RepV]) hh Ext.refl q
  simp only [eqD] at hf
  split at hf
  · simp only [RepV] at hx hy
    subst hx hy
    refine op_eq pins s σ H _ _ v u Q I rx ry ⟨rfl, ?_⟩
    simpa using fin hf
  · simp only [RepV] at hx hy
    subst hx hy
    refine op_eq pins s σ H _ _ v u Q I rx ry ⟨rfl, ?_⟩
    simpa using fin hf
  · rcases hf with hf | hf
    · unfold eqDat at hf
      split at hf
      · rename_i d e q1 q2
        exact op_eqD hu pins s σ H x y v u Q I rx ry ⟨d, e, dV_rep hh hx q1, dV_rep hh hy q2, hf.1, hf.2.1, fin hf.2.2⟩
      · exact hf.elim
    · exact same_ok hu false I hh hx hy rx ry hf.1 ⟨.bl true, H, I, rfl, fin hf.2⟩
theorem ne_ok (hu : X.A.units + 64 < cLine) : OpR X (compareOp .NotEq) (rUp2 X.K X.w fun x y S Q => eqD x y S fun k => Q (.bl (!k)) S) := by
  intro pins s σ H x y v u Q I rx ry h
  obtain ⟨x', y', S, Q', hx, hy, hh, hf, k⟩ := h
  have fin : ∀ {b : Bool}, Q' (.bl b) S → Q (.bl b) H := fun {i} q => k _ _ (.bl i) S (by simp only [RepV]) hh Ext.refl q
  simp only [eqD] at hf
  split at hf
  · simp only [RepV] at hx hy
    subst hx hy
    refine op_ne pins s σ H _ _ v u Q I rx ry ⟨rfl, ?_⟩
    simpa using fin hf
  · simp only [RepV] at hx hy
    subst hx hy
    refine op_ne pins s σ H _ _ v u Q I rx ry ⟨rfl, ?_⟩
    simpa using fin hf
  · rcases hf with hf | hf
    · unfold eqDat at hf
      split at hf
      · rename_i d e q1 q2
        exact op_neD hu pins s σ H x y v u Q I rx ry ⟨d, e, dV_rep hh hx q1, dV_rep hh hy q2, hf.1, hf.2.1, fin hf.2.2⟩
      · exact hf.elim
    · exact same_ok hu true I hh hx hy rx ry hf.1 ⟨.bl false, H, I, rfl, fin hf.2⟩
end
end DL
end
section
set_option maxRecDepth 100000
set_option maxHeartbeats 1000000
/-! Soundness of the operations, by values: the rest. -/
namespace DL
open PySem PySem.Spec L2
open PyProof.Rows hiding St

section
variable {X : Cx}
theorem cmp_int {f : PV → PV → Sto → Post → Prop} {op : CmpOp} {p : Int → Int → Bool} (ho : OpR X (compareOp op) (rI0 fun i j => .bl (p i j)))
    (hf : ∀ x y S Q, f x y S Q → ∃ i j, x = .int i ∧ y = .int j ∧ Q (.bl (p i j)) S) : OpR X (compareOp op) (rUp2 X.K X.w f) := by
  intro pins s σ H x y v u Q I rx ry h
  obtain ⟨x', y', S, Q', hx, hy, hh, h, k⟩ := h
  obtain ⟨i, j, rfl, rfl, q⟩ := hf _ _ _ _ h
  simp only [RepV] at hx hy
  subst hx hy
  exact ho pins s σ H _ _ v u Q I rx ry ⟨i, j, rfl, rfl, k _ _ (.bl _) S (by simp only [RepV]) hh Ext.refl q⟩
theorem isNon_rep {K : PySem.W.Frag} {w : World} {H : Hp} {S : Sto} {x : PV} {v : V} (r : RepV K w H S x v) : decide (v = .non) = isNon x := by
  cases x <;> simp only [RepV] at r
  case non => subst r; rfl
  case bl => subst r; rfl
  case int => subst r; rfl
  case str => subst r; rfl
  case ty => subst r; rfl
  case ref => subst r; rfl
  case tup => obtain ⟨a, vs, rfl, _⟩ := r; rfl
  case lst => obtain ⟨a, vs, rfl, _⟩ := r; rfl
  case dct => obtain ⟨a, es, _, _, rfl, _⟩ := r; rfl
theorem in_ok (hu : X.A.units + 65 < cLine) (neg : Bool) : OpR X (compareOp (if neg then .NotIn else .In)) (rUp2 X.K X.w fun x y S Q => inD x y S fun k => Q (.bl (if neg then !k else k)) S) := by
  intro pins s σ H x y v u Q I rx ry h
  obtain ⟨x', y', S, Q', hx, hy, hh, hf, k⟩ := h
  have fin : ∀ {b : Bool}, Q' (.bl b) S → Q (.bl b) H := fun {i} q => k _ _ (.bl i) S (by simp only [RepV]) hh Ext.refl q
  simp only [inD] at hf
  split at hf
  · rename_i ys q1
    split at hf
    · rename_i d ds q2 q3
      obtain ⟨sd, sl, hq⟩ := hf
      have hd := dV_rep hh hx q2
      obtain ⟨as, r1⟩ := Dp.reads I d x v hd rx
      obtain ⟨a, vs, rfl, hl, rs⟩ := dQ_rep hh hy q1
      have ha := pvDs_rep ys vs ds rs q3
      have lay : PyData.canLayAll0 ds = true := SeqAt.canLay_of_shaped sl
      rcases hl with hl | hl
      · obtain ⟨bs, r2⟩ := Dp.reads I (.list ds) _ u (.lst hl ha) ry
        cases neg with
        | false => exact SeqAt.in_list_reads r2 r1 lay (SeqAt.canLay_of_shaped sd) (room_in_shaped sd hu) ⟨.bl _, H, I, rfl, fin hq⟩
        | true => exact SeqAt.notIn_list_reads r2 r1 lay (SeqAt.canLay_of_shaped sd) (room_in_shaped sd hu) ⟨.bl _, H, I, rfl, fin hq⟩
      · obtain ⟨bs, r2⟩ := Dp.reads I (.tuple ds) _ u (.tup hl ha) ry
        cases neg with
        | false => exact SeqAt.in_tuple_reads r2 r1 lay (SeqAt.canLay_of_shaped sd) (room_in_shaped sd hu) ⟨.bl _, H, I, rfl, fin hq⟩
        | true => exact SeqAt.notIn_tuple_reads r2 r1 lay (SeqAt.canLay_of_shaped sd) (room_in_shaped sd hu) ⟨.bl _, H, I, rfl, fin hq⟩
    · exact hf.elim
  · split at hf
    · simp only [RepV] at hx hy
      subst hx hy
      cases neg with
      | false => exact op_in_str pins s σ H _ _ v u Q I rx ry ⟨_, _, rfl, rfl, fin hf⟩
      | true => exact op_notin_str pins s σ H _ _ v u Q I rx ry ⟨_, _, rfl, rfl, fin hf⟩
    · exact hf.elim
/-- any comparison -/
theorem cmp_ok (hu : X.A.units + 65 < cLine) (op : CmpOp) : OpR X (compareOp op) (rUp2 X.K X.w (cmpP (opC op))) := by
  cases op with
  | Eq => exact eq_ok (by omega)
  | NotEq => exact ne_ok (by omega)
  | Lt =>
    refine cmp_int op_lt fun x y S Q h => ?_
    simp only [cmpP, opC, cmpD] at h
    split at h
    · exact ⟨_, _, rfl, rfl, h⟩
    · exact h.elim
  | LtE =>
    refine cmp_int op_le fun x y S Q h => ?_
    simp only [cmpP, opC, cmpD] at h
    split at h
    · exact ⟨_, _, rfl, rfl, h⟩
    · exact h.elim
  | Gt =>
    refine cmp_int op_gt fun x y S Q h => ?_
    simp only [cmpP, opC, cmpD] at h
    split at h
    · exact ⟨_, _, rfl, rfl, h⟩
    · exact h.elim
  | GtE =>
    refine cmp_int op_ge fun x y S Q h => ?_
    simp only [cmpP, opC, cmpD] at h
    split at h
    · exact ⟨_, _, rfl, rfl, h⟩
    · exact h.elim
  | Is =>
    intro pins s σ H x y v u Q I rx ry h
    obtain ⟨x', y', S, Q', hx, hy, hh, hf, k⟩ := h
    simp only [cmpP, opC, cmpD] at hf
    split at hf
    · simp only [RepV] at hy
      subst hy
      refine op_isN pins s σ H _ _ v u Q I rx ry ⟨rfl, ?_⟩
      rw [isNon_rep hx]
      exact k _ _ (.bl _) S (by simp only [RepV]) hh Ext.refl hf
    · exact hf.elim
  | IsNot =>
    intro pins s σ H x y v u Q I rx ry h
    obtain ⟨x', y', S, Q', hx, hy, hh, hf, k⟩ := h
    simp only [cmpP, opC, cmpD] at hf
    split at hf
    · simp only [RepV] at hy
      subst hy
      refine op_notN pins s σ H _ _ v u Q I rx ry ⟨rfl, ?_⟩
      rw [isNon_rep hx]
      exact k _ _ (.bl _) S (by simp only [RepV]) hh Ext.refl hf
    · exact hf.elim
  | In =>
    have h := in_ok hu false (X := X)
    intro pins s σ H x y v u Q I rx ry ⟨x', y', S, Q', hx, hy, hh, hf, k⟩
    exact h pins s σ H x y v u Q I rx ry ⟨x', y', S, Q', hx, hy, hh, hf, k⟩
  | NotIn =>
    have h := in_ok hu true (X := X)
    intro pins s σ H x y v u Q I rx ry ⟨x', y', S, Q', hx, hy, hh, hf, k⟩
    exact h pins s σ H x y v u Q I rx ry ⟨x', y', S, Q', hx, hy, hh, hf, k⟩

/-! ### subscripts -/
theorem RepVs.atI {K : PySem.W.Frag} {w : World} {H : Hp} {S : Sto} {xs : List PV} {vs : List V} {i : Int} {x : PV} (r : RepVs K w H S xs vs) (e : L2.atI xs i = some x) : ∃ v, L2.atI vs i = some v ∧ RepV K w H S x v := by
  unfold L2.atI at e ⊢
  rw [← r.length]
  cases q : ixN xs.length i with
  | none => rw [q] at e; cases e
  | some j =>
    rw [q] at e
    exact r.get e
theorem idx_ok : IxR X (rUp2 X.K X.w fun x y S Q => idxD x y S fun v => Q v S) := by
  intro value slice pins s σ H x y v u Q I rx ry h hs
  obtain ⟨x', y', S, Q', hx, hy, hh, hf, k⟩ := h
  simp only [idxD] at hf
  split at hf
  · simp only [RepV] at hy
    subst hy
    split at hf
    · simp only [RepV] at hx
      subst hx
      obtain ⟨hz, hf⟩ := hf
      split at hf
      · rename_i c q
        exact ix_str value slice pins s σ H _ _ v u Q I rx ry ⟨_, _, c, rfl, rfl, hz, q, k _ _ (.str _) S (by simp only [RepV]) hh Ext.refl hf⟩ hs
      · exact hf.elim
    · split at hf
      · rename_i xs q
        split at hf
        · rename_i z q2
          obtain ⟨a, vs, rfl, hl, rs⟩ := dQ_rep hh hx q
          obtain ⟨z', q3, rz⟩ := rs.atI q2
          rcases hl with hl | hl
          · exact ix_list value slice pins s σ H _ _ v u Q I rx ry ⟨a, vs, _, z', rfl, rfl, hl, q3, k _ _ _ S rz hh Ext.refl hf⟩ hs
          · exact ix_tup value slice pins s σ H _ _ v u Q I rx ry ⟨a, vs, _, z', rfl, rfl, hl, q3, k _ _ _ S rz hh Ext.refl hf⟩ hs
        · exact hf.elim
      · exact hf.elim
  · exact hf.elim
def rUpSl (K : PySem.W.Frag) (w : World) (m : Bool) : V → Option Int → Option Int → Hp → VK → Prop := fun x lo hi H Q => ∃ x' S Q', RepV K w H S x' x ∧ RepH K w H S ∧ slcD m x' lo hi S Q' ∧ kV K w S H Q' Q
theorem slc_ok (m : Bool) : SlR X (rUpSl X.K X.w m) := by
  intro pins s σ H x v vl vu lo hi sl Q I rx hs pl pu h
  obtain ⟨x', S, Q', hx, hh, hf, k⟩ := h
  simp only [slcD] at hf
  split at hf
  · rename_i xs
    have hx' := hx
    simp only [RepV] at hx
    obtain ⟨a, vs, rfl, ha, ra⟩ := hx
    refine sl_tupA pins s σ H _ v vl vu lo hi sl Q I rx hs pl pu ⟨a, vs, rfl, ha, fun hw => ?_, new_tup hh (ra.cut lo hi) k hf⟩
    have : cutP xs lo hi = xs := by
      unfold cutP
      rw [ra.length, hw.1, hw.2, List.drop_zero, Nat.sub_zero, ← ra.length, List.take_length]
    rw [this] at hf
    exact k _ _ _ S hx' hh Ext.refl hf
  · simp only [RepV] at hx
    subst hx
    exact sl_str pins s σ H _ v vl vu lo hi sl Q I rx hs pl pu ⟨_, rfl, hf.1, k _ _ (.str _) S (by simp only [RepV]) hh Ext.refl hf.2⟩
  · split at hf
    · rename_i xs q
      obtain ⟨a, vs, rfl, ha, ra⟩ := dL_rep hh hx q
      exact sl_list pins s σ H _ v vl vu lo hi sl Q I rx hs pl pu ⟨a, vs, rfl, ha, newL_ok hh (ra.cut lo hi) k hf⟩
    · exact hf.elim

/-! ### isinstance -/
theorem DPhi.dict {a : Addr} {es : List DE} {h : Heap} (p : DPhi a es h) : ∃ o, h.get? a = some o ∧ o.ExactDict := let ⟨_, o, _, _, e, x, _⟩ := p; ⟨o, e, x⟩
theorem kit_rep {pins : List (Addr × Obj)} {σ : L2.St} {H : Hp} {S : Sto} {s : Shared} {x : PV} {v : V} {u : Value} {t : String} (I : Inv X pins σ H s) (hh : RepH X.K X.w H S) (r : RepV X.K X.w H S x v) (rx : RelV v u) (e : tyP S x = some t) :
    ∃ P : Heap → Prop, PySem.W.KitX X.K u (.type t) P ∧ P s.heap ∧ ∀ z, u ≠ .builtin z := by
  have lstOk : ∀ {a : Addr} {vs : List V}, SqL X.K H a vs → ∃ o, s.heap.get? a = some o ∧ o.cls = .type "list" := fun {a vs} q => by
    obtain ⟨its, _, pl, _⟩ := I.list q
    obtain ⟨o, n, e, c, _⟩ := pl
    exact ⟨o, e, c⟩
  have dctOk : ∀ {a : Addr} {es : List DE}, H a = some (.ext (DPhi a es)) → ∃ o, s.heap.get? a = some o ∧ o.cls = .type "dict" := fun {a es} q => by
    obtain ⟨p, _⟩ := (show ObjOk X.prog X.w H s.heap a (.ext (DPhi a es)) from I.hok a _ q)
    obtain ⟨o, e, x⟩ := p.dict
    exact ⟨o, e, x.1⟩
  cases x with
  | non => simp only [tyP, Option.some.injEq] at e; subst e; simp only [RepV] at r; subst r; cases (show u = Value.none from rx); exact ⟨_, PySem.W.kitx_none, True.intro, fun _ z => nomatch z⟩
  | bl y => simp only [tyP, Option.some.injEq] at e; subst e; simp only [RepV] at r; subst r; cases (show u = Value.bool y from rx); exact ⟨_, PySem.W.kitx_bool, True.intro, fun _ z => nomatch z⟩
  | int i => simp only [tyP, Option.some.injEq] at e; subst e; simp only [RepV] at r; subst r; obtain ⟨t, q⟩ := (show ∃ t, u = Value.int i t from rx); cases q; exact ⟨_, PySem.W.kitx_int, True.intro, fun _ z => nomatch z⟩
  | str y => simp only [tyP, Option.some.injEq] at e; subst e; simp only [RepV] at r; subst r; obtain ⟨t, q⟩ := (show ∃ t, u = Value.str y t from rx); cases q; exact ⟨_, PySem.W.kitx_str, True.intro, fun _ z => nomatch z⟩
  | tup xs =>
    simp only [tyP, Option.some.injEq] at e; subst e; simp only [RepV] at r
    obtain ⟨a, vs, rfl, h1, _⟩ := r
    cases (show u = Value.ref a from rx)
    obtain ⟨its, _, pl, _⟩ := I.tuple h1
    obtain ⟨o, h2, h3, _⟩ := pl
    exact ⟨_, PySem.W.kitx_tuple, ⟨o, h2, h3⟩, fun _ z => nomatch z⟩
  | lst xs =>
    simp only [tyP, Option.some.injEq] at e; subst e; simp only [RepV] at r
    obtain ⟨a, vs, rfl, h1, _⟩ := r
    cases (show u = Value.ref a from rx)
    exact ⟨_, PySem.W.kitx_list, lstOk h1.sq, fun _ z => nomatch z⟩
  | dct ks vs =>
    simp only [tyP, Option.some.injEq] at e; subst e; simp only [RepV] at r
    obtain ⟨a, es, _, _, rfl, h1, _⟩ := r
    cases (show u = Value.ref a from rx)
    exact ⟨_, PySem.W.kitx_dict, dctOk h1, fun _ z => nomatch z⟩
  | ref a =>
    simp only [RepV] at r; subst r
    cases (show u = Value.ref a from rx)
    simp only [tyP] at e
    split at e
    · rename_i xs q
      cases e
      obtain ⟨vs, h1, _⟩ := hh a _ q
      exact ⟨_, PySem.W.kitx_list, lstOk (.inl (.inl h1)), fun _ z => nomatch z⟩
    · rename_i ks vs q
      cases e
      obtain ⟨es, _, _, h1, _⟩ := hh a _ q
      exact ⟨_, PySem.W.kitx_dict, dctOk h1, fun _ z => nomatch z⟩
    · cases e
  | ty n => simp [tyP] at e
def tyNames : List String := ["NoneType", "bool", "int", "str", "tuple", "list", "dict"]
def clsNames : List String := ["int", "bool", "tuple", "list", "dict", "str"]
theorem kitB_all : (tyNames.all fun t => clsNames.all fun c => decide (kitB t c = some (isT t c))) = true := by decide +kernel
theorem tyP_mem {S : Sto} {x : PV} {t : String} (e : tyP S x = some t) : t ∈ tyNames := by
  cases x <;> simp only [tyP, Option.some.injEq, reduceCtorEq] at e
  case ref a =>
    split at e
    · cases e; decide
    · cases e; decide
    · cases e
  all_goals (subst e; decide)
theorem tyOf_mem {x : Str} {c : String} (e : tyOf x = some c) : c ∈ clsNames ∧ bootBuiltins x = some (.type c) := by
  unfold tyOf at e
  repeat' split at e
  all_goals (first | (cases e; done) | (rename_i q; cases e; subst q; exact ⟨by decide, by decide +kernel⟩) | cases e)
theorem kit_isT {K : PySem.W.Frag} {S : Sto} {x : PV} {t c : String} (e : tyP S x = some t) (hc : c ∈ clsNames) : PySem.W.kitOne K (.type t) (.type c) = some (isT t c) := by
  have h := List.all_eq_true.mp kitB_all t (tyP_mem e)
  exact kit_ty (of_decide_eq_true (List.all_eq_true.mp h c hc))
end
end DL
end
section
set_option maxRecDepth 100000
set_option maxHeartbeats 1000000
/-! Soundness of built-in functions, methods, stores, by values. -/
namespace DL
open PySem PySem.Spec L2
open PyProof.Rows hiding St

theorem intsP_ok : ∀ {xs : List PV} {ns : List Int}, intsP xs = some ns → xs = ns.map PV.int
  | [], ns, h => by
    simp only [intsP, Option.some.injEq] at h
    subst h
    rfl
  | x :: xs, ns, h => by
    cases x <;> simp only [intsP, reduceCtorEq] at h
    split at h
    · rename_i r q
      cases h
      rw [intsP_ok q]
      rfl
    · cases h
theorem intsP_map : ∀ (ns : List Int), intsP (ns.map PV.int) = some ns
  | [] => rfl
  | n :: ns => by
    simp only [List.map_cons, intsP]
    rw [intsP_map ns]
theorem blsP_ok : ∀ {xs : List PV} {ns : List Bool}, blsP xs = some ns → xs = ns.map PV.bl
  | [], ns, h => by
    simp only [blsP, Option.some.injEq] at h
    subst h
    rfl
  | x :: xs, ns, h => by
    cases x <;> simp only [blsP, reduceCtorEq] at h
    split at h
    · rename_i r q
      cases h
      rw [blsP_ok q]
      rfl
    · cases h
theorem blsP_map : ∀ (ns : List Bool), blsP (ns.map PV.bl) = some ns
  | [] => rfl
  | n :: ns => by
    simp only [List.map_cons, blsP]
    rw [blsP_map ns]
theorem maxI_spec : ∀ (ns : List Int) (n : Int), (maxI n ns ∈ n :: ns) ∧ ∀ y ∈ n :: ns, y ≤ maxI n ns
  | [], n => by
    refine ⟨by simp [maxI], fun y hy => ?_⟩
    simp only [List.mem_singleton] at hy
    subst hy
    exact Int.le_refl _
  | x :: ns, n => by
    obtain ⟨h1, h2⟩ := maxI_spec ns (if x > n then x else n)
    simp only [maxI]
    refine ⟨?_, fun y hy => ?_⟩
    · rcases List.mem_cons.mp h1 with e | e
      · rw [e]
        split
        · simp
        · simp
      · simp [e]
    · have hm := h2 (if x > n then x else n) (by simp)
      have h3 : n ≤ (if x > n then x else n) ∧ x ≤ (if x > n then x else n) := by
        by_cases q : x > n
        · rw [if_pos q]; omega
        · rw [if_neg q]; omega
      rcases List.mem_cons.mp hy with e | hy
      · rw [e]; omega
      · rcases List.mem_cons.mp hy with e | hy
        · rw [e]; omega
        · exact h2 y (by simp [hy])
theorem minI_spec : ∀ (ns : List Int) (n : Int), (minI n ns ∈ n :: ns) ∧ ∀ y ∈ n :: ns, minI n ns ≤ y
  | [], n => by
    refine ⟨by simp [minI], fun y hy => ?_⟩
    simp only [List.mem_singleton] at hy
    subst hy
    exact Int.le_refl _
  | x :: ns, n => by
    obtain ⟨h1, h2⟩ := minI_spec ns (if x < n then x else n)
    simp only [minI]
    refine ⟨?_, fun y hy => ?_⟩
    · rcases List.mem_cons.mp h1 with e | e
      · rw [e]
        split
        · simp
        · simp
      · simp [e]
    · have hm := h2 (if x < n then x else n) (by simp)
      have h3 : (if x < n then x else n) ≤ n ∧ (if x < n then x else n) ≤ x := by
        by_cases q : x < n
        · rw [if_pos q]; omega
        · rw [if_neg q]; omega
      rcases List.mem_cons.mp hy with e | hy
      · rw [e]; omega
      · rcases List.mem_cons.mp hy with e | hy
        · rw [e]; omega
        · exact h2 y (by simp [hy])
/-- the object that a built-in's name stands for -/
def biV : Bi → Value
  | .len => .builtin "len"
  | .tuple => .type "tuple"
  | .list => .type "list"
  | .all => .builtin "all"
  | .any => .builtin "any"
  | .sum => .builtin "sum"
  | .abs => .builtin "abs"
  | .max1 => .builtin "max"
  | .min1 => .builtin "min"
  | .max2 => .builtin "max"
  | .min2 => .builtin "min"
  | .int => .type "int"
  | _ => .none
section
variable {X : Cx}
theorem bi_ok (hc : X.calm = true) (b : Bi) (m : Bool) : CallR X (biV b) (rUpN X.K X.w (biD b m)) := by
  intro pins s σ H xs us Q I r h
  obtain ⟨xs', S, Q', hx, hh, hf, k⟩ := h
  have fin : ∀ {i : Int}, Q' (.int i) S → Q (.int i) H := fun {i} q => k _ _ (.int i) S (by simp only [RepV]) hh Ext.refl q
  have finB : ∀ {i : Bool}, Q' (.bl i) S → Q (.bl i) H := fun {i} q => k _ _ (.bl i) S (by simp only [RepV]) hh Ext.refl q
  unfold biD at hf
  split at hf
  · -- len of a text
    obtain ⟨v, _, rfl, r1, r2⟩ := hx.cons_inv
    cases r2.nil_inv
    simp only [RepV] at r1
    subst r1
    exact call_len pins s σ H _ us Q I r ⟨_, _, rfl, ⟨hf.1, rfl⟩, fin hf.2⟩
  · -- len
    obtain ⟨v, _, rfl, r1, r2⟩ := hx.cons_inv
    cases r2.nil_inv
    split at hf
    · rename_i ys q
      obtain ⟨a, vs, rfl, hl, rs⟩ := dQ_rep hh r1 q
      exact call_len_seq pins s σ H _ us Q I r ⟨a, vs, rfl, hl, by rw [← rs.length]; exact fin hf⟩
    · exact hf.elim
  · -- tuple
    obtain ⟨v, _, rfl, r1, r2⟩ := hx.cons_inv
    cases r2.nil_inv
    split at hf
    · rename_i ys q
      obtain ⟨a, vs, rfl, hl, rs⟩ := dQ_rep hh r1 q
      refine call_tuple_of pins s σ H _ us Q I r ⟨a, vs, rfl, ?_⟩
      rcases hl with hl | hl
      · exact .inl ⟨hl, new_tup hh rs k hf⟩
      · exact .inr ⟨hl, k _ _ _ S (RepV.tup_of hl rs) hh Ext.refl hf⟩
    · exact hf.elim
  · -- list
    obtain ⟨v, _, rfl, r1, r2⟩ := hx.cons_inv
    cases r2.nil_inv
    split at hf
    · rename_i ys q
      obtain ⟨a, vs, rfl, hl, rs⟩ := dQ_rep hh r1 q
      exact call_list_of pins s σ H _ us Q I r ⟨a, vs, rfl, hl, newL_ok hh rs k hf⟩
    · exact hf.elim
  · -- all
    obtain ⟨v, _, rfl, r1, r2⟩ := hx.cons_inv
    cases r2.nil_inv
    split at hf
    · rename_i ys q
      obtain ⟨a, vs, rfl, hl, rs⟩ := dL_rep hh r1 q
      split at hf
      · rename_i bs q2
        cases blsP_ok q2
        cases rs.bls
        exact cr_all hc pins s σ H _ us Q I r ⟨a, bs, rfl, hl, finB hf⟩
      · exact hf.elim
    · exact hf.elim
  · -- any
    obtain ⟨v, _, rfl, r1, r2⟩ := hx.cons_inv
    cases r2.nil_inv
    split at hf
    · rename_i ys q
      obtain ⟨a, vs, rfl, hl, rs⟩ := dL_rep hh r1 q
      split at hf
      · rename_i bs q2
        cases blsP_ok q2
        cases rs.bls
        exact cr_any hc pins s σ H _ us Q I r ⟨a, bs, rfl, hl, finB hf⟩
      · exact hf.elim
    · exact hf.elim
  · -- sum
    obtain ⟨v, _, rfl, r1, r2⟩ := hx.cons_inv
    cases r2.nil_inv
    split at hf
    · rename_i ys q
      obtain ⟨a, vs, rfl, hl, rs⟩ := dL_rep hh r1 q
      split at hf
      · rename_i bs q2
        cases intsP_ok q2
        cases rs.ints
        exact cr_sum hc pins s σ H _ us Q I r ⟨a, bs, rfl, hl, fin hf⟩
      · exact hf.elim
    · exact hf.elim
  · -- max
    obtain ⟨v, _, rfl, r1, r2⟩ := hx.cons_inv
    cases r2.nil_inv
    split at hf
    · rename_i ys q
      obtain ⟨a, vs, rfl, hl, rs⟩ := dL_rep hh r1 q
      split at hf
      · rename_i n ns q2
        cases intsP_ok q2
        cases rs.ints
        refine cr_max hc pins s σ H _ us Q I r ⟨a, n :: ns, rfl, hl, by simp, fun m h1 h2 => ?_⟩
        obtain ⟨g1, g2⟩ := maxI_spec ns n
        have e : m = maxI n ns := Int.le_antisymm (g2 m h1) (h2 _ g1)
        rw [e]
        exact fin hf
      · exact hf.elim
    · exact hf.elim
  · -- min
    obtain ⟨v, _, rfl, r1, r2⟩ := hx.cons_inv
    cases r2.nil_inv
    split at hf
    · rename_i ys q
      obtain ⟨a, vs, rfl, hl, rs⟩ := dL_rep hh r1 q
      split at hf
      · rename_i n ns q2
        cases intsP_ok q2
        cases rs.ints
        refine cr_min hc pins s σ H _ us Q I r ⟨a, n :: ns, rfl, hl, by simp, fun m h1 h2 => ?_⟩
        obtain ⟨g1, g2⟩ := minI_spec ns n
        have e : m = minI n ns := Int.le_antisymm (h2 _ g1) (g2 m h1)
        rw [e]
        exact fin hf
      · exact hf.elim
    · exact hf.elim
  · -- abs
    obtain ⟨v, _, rfl, r1, r2⟩ := hx.cons_inv
    cases r2.nil_inv
    simp only [RepV] at r1
    subst r1
    exact call_abs pins s σ H _ us Q I r ⟨_, rfl, fin hf⟩
  · -- max2
    obtain ⟨v, _, rfl, r1, r2⟩ := hx.cons_inv
    obtain ⟨v2, _, rfl, r3, r4⟩ := r2.cons_inv
    cases r4.nil_inv
    simp only [RepV] at r1 r3
    subst r1 r3
    exact call_max2 hc pins s σ H _ us Q I r ⟨_, _, rfl, fin hf⟩
  · obtain ⟨v, _, rfl, r1, r2⟩ := hx.cons_inv
    obtain ⟨v2, _, rfl, r3, r4⟩ := r2.cons_inv
    cases r4.nil_inv
    simp only [RepV] at r1 r3
    subst r1 r3
    exact call_min2 hc pins s σ H _ us Q I r ⟨_, _, rfl, fin hf⟩
  · obtain ⟨v, _, rfl, r1, r2⟩ := hx.cons_inv
    cases r2.nil_inv
    simp only [RepV] at r1
    subst r1
    exact call_int1 pins s σ H _ us Q I r (.inl ⟨_, rfl, fin hf⟩)
  · obtain ⟨v, _, rfl, r1, r2⟩ := hx.cons_inv
    cases r2.nil_inv
    simp only [RepV] at r1
    subst r1
    exact call_int1 pins s σ H _ us Q I r (.inr ⟨_, rfl, fin hf⟩)
  · exact hf.elim

/-! ### methods -/
/-- the method's own name -/
def meI : Me → String
  | .append => "list.append"
  | .extend => "list.extend"
  | .pop => "list.pop"
  | .insert => "list.insert"
  | _ => ""
def rUpM (K : PySem.W.Frag) (w : World) (f : PV → List PV → Sto → Post → Prop) : V → List V → Hp → VK → Prop := fun x xs H Q => ∃ x' xs' S Q', RepV K w H S x' x ∧ RepVs K w H S xs' xs ∧ RepH K w H S ∧ f x' xs' S Q' ∧ kV K w S H Q' Q
theorem put_ok {K : PySem.W.Frag} {w : World} {H : Hp} {S : Sto} {Q' : Post} {Q : VK} {a : Addr} {xs ys : List PV} {us : List V} {v' : PV} {v : V} (hh : RepH K w H S) (k : kV K w S H Q' Q) (e : S a = some (.lst xs)) (r : RepVs K w H S ys us) (rv : RepV K w H S v' v)
    (q : Q' v' (upS S a (.lst ys))) : Q v (upd H a (.lst us)) := by
  have ex : Ext K S H (upS S a (.lst ys)) (upd H a (.lst us)) := Ext.put hh e
  exact k _ _ v' _ (RepV.mono ex v' v rv) (hh.put (m' := .lst ys) e ⟨us, upd_same, RepVs.mono ex ys us r⟩) ex q
theorem RepVs.dropLast {K : PySem.W.Frag} {w : World} {H : Hp} {S : Sto} {xs : List PV} {vs : List V} (r : RepVs K w H S xs vs) : RepVs K w H S xs.dropLast vs.dropLast := by
  rw [List.dropLast_eq_take, List.dropLast_eq_take, r.length]
  exact r.take _
/-- a list to which another list of any kind is put -/
theorem list_extendA (l : Addr) (items : Array Value) (n : Nat) (b : Addr) (items2 : Array Value) (n2 : Nat) (dd2 : Option Addr) (sl2 : Array (Option Value)) (hc0 : ¬(!items.isEmpty && Builtin.List.listTooLong (items.size + items2.size)) = true) (hc1 : items.size ≤ sizeLine) (hs2 : items.size + items2.size ≤ sizeLine + 1) :
    Meets (Builtin.«list.extend» ⟨[.ref l, .ref b], []⟩) (fun _ R s => s.heap.get? l = some { cls := .type "list", dict := none, data := .seq items n, slots := #[] } ∧ s.heap.get? b = some { cls := .type "list", dict := dd2, data := .seq items2 n2, slots := sl2 } ∧ R (.ok (.ret Value.none)) { s with heap := s.heap.update l (Obj.mapSeq fun x => x ++ items2), toks := s.toks }) :=
  .of_wp fun prog w A R s h => by
    obtain ⟨hp, g, d, tk, os⟩ := s; obtain ⟨hl, hb, h⟩ := h; have f1 := AutoSeq1.idx_int; have f2 := AutoSeq1.sub_tuple_tuple; have f3 := AutoSeq1.sub_list_list; have f4 := AutoSeq1.sub_tuple_list; have f5 := AutoSeq1.sub_list_tuple;
    have hz' : (items ++ items2).size ≤ sizeLine + 1 := by rw [Array.size_append]; exact hs2
    wp_walk using (wpAny_updateSeq hl rfl (hz := hc1) (_hz' := hz')), wpAny_loadPart' hl, wpAny_loadPart' hb; exact ⟨_, rfl, h⟩
theorem me_ok (c : Me) (m : Bool) : MtR X (meI c) (rUpM X.K X.w (meD c m)) := by
  intro pins s σ H x xs v us Q I rx rxs h
  obtain ⟨x', xs', S, Q', hx, hxs, hh, hf, k⟩ := h
  unfold meD at hf
  split at hf
  · -- append
    split at hf
    · simp only [RepV] at hx
      subst hx
      split at hf
      · rename_i ys q
        obtain ⟨y, _, rfl, r1, r2⟩ := hxs.cons_inv
        cases r2.nil_inv
        obtain ⟨vs, h1, h2⟩ := hh _ _ q
        exact mt_append pins s σ H _ _ v us Q I rx rxs ⟨_, vs, y, rfl, rfl, h1, by rw [← h2.length]; exact hf.1, put_ok hh k q (h2.snoc r1) (by simp only [RepV]) hf.2⟩
      · exact hf.elim
    · exact hf.elim
  · -- extend
    split at hf
    · simp only [RepV] at hx
      subst hx
      split at hf
      · rename_i ys zs q q2
        obtain ⟨y, _, rfl, r1, r2⟩ := hxs.cons_inv
        cases r2.nil_inv
        obtain ⟨vs, h1, h2⟩ := hh _ _ q
        obtain ⟨b, ws, rfl, hb, rb⟩ := dL_rep hh r1 q2
        cases rx
        obtain ⟨u2, rfl, ru⟩ := rxs.one
        cases ru
        obtain ⟨z, its, n, r, hl, e⟩ := I.lstM h1
        obtain ⟨its2, rv2, ⟨⟨cls2, dd2, data2, sl2⟩, n2, e2, hc2, hdn2, hd2⟩, hz2⟩ := I.list hb
        simp only at hc2 hd2
        subst hc2 hd2
        have hl2 := rv2.length
        have l1 := h2.length
        have l2 := rb.length
        have hg := hf.1
        have hsz : its.toArray.size + its2.toArray.size ≤ sizeLine := by rw [List.size_toArray, List.size_toArray]; omega
        have hlong : ¬ (!its.toArray.isEmpty && Builtin.List.listTooLong (its.toArray.size + its2.toArray.size)) = true := by
          rw [notLongL hsz, Bool.and_false]
          exact Bool.false_ne_true
        refine call_meets F.slot_list_extend ⟨_, e, rfl⟩ F.entry_list_extend (F.args_list_extend_2 _ _)
          (list_extendA _ its.toArray n b its2.toArray n2 dd2 sl2 hlong (by rw [List.size_toArray]; omega) (by omega)) ⟨e, e2, ?_⟩
        refine ⟨.non, _, I.lset (its' := its ++ its2) h1 e (by simp) (r.append rv2) ?_, rfl, put_ok hh k q (h2.append rb) (by simp only [RepV]) hf.2⟩
        rw [List.length_append]
        omega
      · exact hf.elim
    · exact hf.elim
  · -- pop
    split at hf
    · simp only [RepV] at hx
      subst hx
      split at hf
      · rename_i ys q
        cases hxs.nil_inv
        obtain ⟨vs, h1, h2⟩ := hh _ _ q
        split at hf
        · rename_i z q2
          have q3 : ys[ys.length - 1]? = some z := by rw [← List.getLast?_eq_getElem?]; exact q2
          obtain ⟨zv, q4, rz⟩ := h2.get q3
          exact mt_pop pins s σ H _ _ v us Q I rx rxs ⟨_, vs, zv, rfl, rfl, h1, by rw [← h2.length]; exact q4, put_ok hh k q h2.dropLast rz hf⟩
        · exact hf.elim
      · exact hf.elim
    · exact hf.elim
  · -- insert
    split at hf
    · simp only [RepV] at hx
      subst hx
      split at hf
      · rename_i ys q
        obtain ⟨y, _, rfl, r1, r2⟩ := hxs.cons_inv
        obtain ⟨y2, _, rfl, r3, r4⟩ := r2.cons_inv
        cases r4.nil_inv
        simp only [RepV] at r1
        subst r1
        obtain ⟨vs, h1, h2⟩ := hh _ _ q
        obtain ⟨g1, g2, g3, g4⟩ := hf
        exact mt_insert pins s σ H _ _ v us Q I rx rxs ⟨_, vs, _, y2, rfl, rfl, h1, by rw [← h2.length]; exact g1, g2, g3, put_ok hh k q (((h2.take _).snoc r3).append (h2.drop _)) (by simp only [RepV]) g4⟩
      · exact hf.elim
    · exact hf.elim
  · exact hf.elim
/-- o[i] = v -/
def rUpSet (K : PySem.W.Frag) (w : World) : TSet := fun o i v H Q => ∃ o' i' v' S Q', RepV K w H S o' o ∧ RepV K w H S i' i ∧ RepV K w H S v' v ∧ RepH K w H S ∧ setID o' i' v' S Q' ∧ ∀ H' S', RepH K w H' S' → Ext K S H S' H' → Q' S' → Q H'
theorem set_ok : PSet X (rUpSet X.K X.w) := by
  intro pins s σ H o i v ov iv u Q I ro ri rv h
  obtain ⟨o', i', v', S, Q', ho, hi, hv, hh, hf, k⟩ := h
  unfold setID at hf
  split at hf
  · simp only [RepV] at ho
    subst ho
    split at hf
    · rename_i xs q
      split at hf
      · simp only [RepV] at hi
        subst hi
        split at hf
        · rename_i j q2
          obtain ⟨vs, h1, h2⟩ := hh _ _ q
          refine set_list pins s σ H _ _ v ov iv u Q I ro ri rv ⟨_, vs, _, j, rfl, rfl, h1, by rw [← h2.length]; exact q2, ?_⟩
          have ex : Ext X.K S H (upS S _ (.lst (xs.set j v'))) (upd H _ (.lst (vs.set j v))) := Ext.put hh q
          exact k _ _ (hh.put (m' := .lst (xs.set j v')) q ⟨_, upd_same, RepVs.mono ex _ _ (h2.set j hv)⟩) ex hf
        · exact hf.elim
      · exact hf.elim
    · exact hf.elim
  · exact hf.elim
/-- truth -/
theorem tru_rep {K : PySem.W.Frag} {w : World} {H : Hp} {S : Sto} {x : PV} {v : V} {Q : Bool → Prop} (hh : RepH K w H S) (r : RepV K w H S x v) (h : truD x S Q) : ∃ k, TruV K v H k ∧ Q k := by
  unfold truD at h
  split at h
  · simp only [RepV] at r; subst r; exact ⟨false, rfl, h⟩
  · simp only [RepV] at r; subst r; exact ⟨_, rfl, h⟩
  · simp only [RepV] at r; subst r; exact ⟨_, rfl, h⟩
  · rename_i xs
    simp only [RepV] at r
    obtain ⟨a, vs, rfl, h1, h2⟩ := r
    refine ⟨_, .inr (.inl ⟨vs, h1, rfl⟩), ?_⟩
    have : vs.isEmpty = xs.isEmpty := by
      cases xs with
      | nil => rw [h2.nil_inv]; rfl
      | cons _ _ => obtain ⟨_, _, rfl, _⟩ := h2.cons_inv; rfl
    rw [this]
    exact h
  · split at h
    · rename_i xs q
      obtain ⟨a, vs, rfl, h1, h2⟩ := dL_rep hh r q
      refine ⟨_, .inl ⟨vs, h1, rfl⟩, ?_⟩
      have : vs.isEmpty = xs.isEmpty := by
        cases xs with
        | nil => rw [h2.nil_inv]; rfl
        | cons _ _ => obtain ⟨_, _, rfl, _⟩ := h2.cons_inv; rfl
      rw [this]
      exact h
    · exact h.elim
end
end DL
end
section
set_option maxRecDepth 100000
set_option maxHeartbeats 1000000
/-! What is walked: lists and tuples in any mix. -/
namespace DL
open PySem PySem.Spec L2
open PyProof.Rows hiding St

/-- a list or a tuple, by a flag -/
def SqQ (t : Bool) (K : PySem.W.Frag) (H : Hp) (a : Addr) (xs : List V) : Prop := match t with
  | true => SqT K H a xs
  | false => SqL K H a xs
def ItQ (t : Bool) (h : Heap) (it a : Addr) (i : Nat) : Prop := match t with
  | true => h.IsTupleIter it a i
  | false => h.IsListIter it a i
def HpQ (t : Bool) (h : Heap) (a : Addr) (its : Array Value) : Prop := match t with
  | true => h.IsTuple a its
  | false => h.IsList a its
theorem ItQ.live {t : Bool} {h : Heap} {it a : Addr} {i : Nat} (x : ItQ t h it a i) : ∃ o, h.get? it = some o ∧ ∀ v, o.data ≠ .cell v := by
  cases t with
  | true => obtain ⟨o, e, c, d⟩ := x; exact ⟨o, e, fun v z => by rw [d] at z; cases z⟩
  | false => obtain ⟨o, e, c, d⟩ := x; exact ⟨o, e, fun v z => by rw [d] at z; cases z⟩
theorem ItQ.at {t : Bool} {h h' : Heap} {it a : Addr} {i : Nat} (x : ItQ t h it a i) (k : ∀ o, h.get? it = some o → h'.get? it = some o) : ItQ t h' it a i := by
  cases t with
  | true => exact Heap.IsTupleIter.at x k
  | false => exact Heap.IsListIter.at x k
theorem drawsQ {prog : Program} {w : World} {A : Around} (hh : A.handled = none) (t : Bool) (it a : Addr) (hne : a ≠ it) (items : Array Value) :
    Draws prog w A it [it, a] items.size (fun i v => items[i]? = some v) (fun i h => ItQ t h it a i ∧ HpQ t h a items) := by
  cases t with
  | true => exact Draws.tuple hh it a hne items
  | false => exact Draws.list hh it a hne items
section
variable {X : Cx} {pins : List (Addr × Obj)} {σ : L2.St} {H : Hp} {s : Shared}
theorem seqQ (I : Inv X pins σ H s) {t : Bool} {a : Addr} {xs : List V} (h : SqQ t X.K H a xs) : ∃ its : List Value, Vals xs its ∧ HpQ t s.heap a its.toArray ∧ xs.length ≤ sizeLine := by
  cases t with
  | true => obtain ⟨its, r, p, z⟩ := I.tuple h; exact ⟨its, r, p, z⟩
  | false => obtain ⟨its, r, p, z⟩ := I.list h; exact ⟨its, r, p.isList, z⟩
theorem seqQ_inj (I : Inv X pins σ H s) {t : Bool} {a : Addr} {xs ys : List V} (h : SqQ t X.K H a xs) (h' : SqQ t X.K H a ys) : xs = ys := by
  cases t with
  | true => exact I.tuple_inj h h'
  | false => exact I.list_inj h h'
end
/-- the sequence at a, as it stands at each turn -/
def Itq (t : Bool) (K : PySem.W.Frag) (a : Addr) : It :=
  ⟨fun i H => ∃ xs x, SqQ t K H a xs ∧ xs[i]? = some x, fun i H x H' => H' = H ∧ ∀ xs, SqQ t K H a xs → xs[i]? = some x, fun i H => ∃ xs, SqQ t K H a xs ∧ xs.length ≤ i⟩
/-- new pairs (i, item) -/
def Iteq (t : Bool) (K : PySem.W.Frag) (a : Addr) : It :=
  ⟨fun i H => ∃ (xs : List V) (x : V), SqQ t K H a xs ∧ xs[i]? = some x, fun i H v H' => ∃ T x, v = .ref T ∧ H T = none ∧ H' = upd H T (.tup [.int (i : Nat), x]) ∧ ∀ xs, SqQ t K H a xs → xs[i]? = some x, fun i H => ∃ xs : List V, SqQ t K H a xs ∧ xs.length = i⟩
/-- new pairs of items -/
def Itzq (t t2 : Bool) (K : PySem.W.Frag) (a b : Addr) : It :=
  ⟨fun i H => ∃ (xs ys : List V) (x y : V), SqQ t K H a xs ∧ SqQ t2 K H b ys ∧ xs[i]? = some x ∧ ys[i]? = some y,
    fun i H v H' => ∃ T x y, v = .ref T ∧ H T = none ∧ H' = upd H T (.tup [x, y]) ∧ (∀ xs, SqQ t K H a xs → xs[i]? = some x) ∧ ∀ ys, SqQ t2 K H b ys → ys[i]? = some y,
    fun i H => ∃ xs ys : List V, SqQ t K H a xs ∧ SqQ t2 K H b ys ∧ min xs.length ys.length = i⟩

/-- a Turn from WalksT, for iterators that give new tuples -/
theorem turn_ofT {P : Program} {w : World} {K : PySem.W.Frag} {elts : List Expr} {kk : Nat} {tpos : Pos} {J : It} {it : Addr} {fp wr : List Addr} {tn : Nat → Heap → Prop}
    (mem : it ∈ fp) (hw : ∀ b ∈ wr, b ∈ fp)
    (obj : ∀ i h, tn i h → ∀ b ∈ fp, ∃ o, h.get? b = some o ∧ ∀ v, o.data ≠ .cell v)
    (keep : ∀ i h h', tn i h → (∀ b ∈ fp, ∀ o, h.get? b = some o → h'.get? b = some o) → tn i h')
    (walk : ∀ (X : Cx), X.prog = P → X.w = w → X.K = K → X.A.handled = none → ∀ (i : Nat) (pins : List (Addr × Obj)) (s : Shared) (σ : L2.St) (H : Hp), Inv X pins σ H s → tn i s.heap → (J.go i H ∨ J.stop i H) →
      ∃ fpw n Pt St Mid, WalksT P w X.A it fpw wr n Pt St Mid ∧ (J.go i H → i < n) ∧ (J.stop i H → i = n) ∧ St i s.heap ∧ (∀ h, St (i + 1) h → tn (i + 1) h) ∧
        (J.go i H → ∀ vals, Pt i vals → ∃ vs, vs.length ≤ sizeLine ∧ Vals vs vals.toList ∧ ∀ T, H T = none → J.yld i H (.ref T) (upd H T (.tup vs))))
    (self : ∀ (A : Around) (i : Nat) (s : Shared) (Q : Value → Shared → Prop) (E : Value → Shared → Prop), tn i s.heap → Q (.ref it) s → wpAny (model P w) A (pyIter (.ref it)) Q E s) :
    Turn P w K (.Tuple elts kk tpos) J fp it tn where
  mem := mem
  obj := obj
  keep := keep
  item := by
    intro X hP hw' hK hc i pins s σ H E I hf st hg
    obtain ⟨fpw, n, Pt, St, Mid, W, hi, _, hst, hnext, hy⟩ := walk X hP hw' hK (I.ok.hd hc) i pins s σ H I st (.inl hg)
    subst hP hw' hK
    refine W.item i s _ _ (hi hg) hst fun T vals h' tk hPt hT isT mid kp => ?_
    obtain ⟨vs, hz, rv, hyld⟩ := hy hg vals hPt
    refine ⟨.ref T, rfl, W.go elts kk tpos i T { s with heap := h', toks := tk } _ _ mid fun h'' st' kp' => ?_⟩
    have hn : H T = none := I.hok.fresh hT
    have hTw : T ∉ wr := W.apart i T h' mid
    obtain ⟨o, e1, e2, m, e3⟩ := isT
    have e1' : h''.get? T = some o := kp' T o hTw e1
    have new : ObjOk X.prog X.w (upd H T (.tup vs)) h'' T (.tup vs) := by
      refine ⟨hz, vals.toList, rv, o, e1', e2, m, ?_⟩
      rw [e3, Array.toArray_toList]
    have I1 : Inv X pins σ (upd H T (.tup vs)) { s with heap := h'', toks := tk } :=
      I.turnedNew (ch := fp) (fun b ob hb q => kp' b ob (fun z => hb (hw b z)) (kp b ob (fun z => hb (hw b z)) q)) hf hT new
    refine ⟨.ref T, _, I1, rfl, hyld T hn, hnext _ st', fun b hb => ?_⟩
    have hbl : b < s.heap.objs.size := by
      obtain ⟨o, e, _⟩ := obj _ _ st b hb
      exact Heap.lt_size e
    rw [upd_ne (Nat.ne_of_lt (Nat.lt_of_lt_of_le hbl hT))]
    exact (hf b hb).1
  done := by
    intro X hP hw' hK hc i pins s σ H E I hf st hg
    obtain ⟨fpw, n, Pt, St, Mid, W, _, hi, hst, _, _⟩ := walk X hP hw' hK (I.ok.hd hc) i pins s σ H I st (.inr hg)
    subst hP hw' hK
    have e := hi hg
    subst e
    exact W.done s _ _ hst fun h' tk kp => ⟨rfl, I.turnedL (ch := fp) (fun b ob hb q => kp b ob (fun z => hb (hw b z)) q) hf⟩
  self := self
theorem turn_enumq {P : Program} {w : World} {K : PySem.W.Frag} {elts : List Expr} {kk : Nat} {tpos : Pos} (t : Bool) (a e it : Addr) (h1 : e ≠ it) (h2 : e ≠ a) (h3 : a ≠ it) :
    Turn P w K (.Tuple elts kk tpos) (Iteq t K a) [e, it] e (fun i h => (∃ old, IsEnum h e it (0 + (i : Int)) old) ∧ ItQ t h it a i) := by
  refine turn_ofT (wr := [e, it]) (by simp) (fun b hb => hb) (fun i h st b hb => ?_) (fun i h h' st k => ?_) (fun X hP hw hK hh i pins s σ H I st hg => ?_) (fun A i s Q E st h => let ⟨⟨_, he⟩, _⟩ := st; wpAny_pyIter_enum he h)
  · obtain ⟨⟨old, he⟩, hi⟩ := st
    have e' : b = e ∨ b = it := by simpa using hb
    rcases e' with z | z
    · rw [z]; exact ⟨_, he, fun v q => nomatch q⟩
    · rw [z]; exact hi.live
  · obtain ⟨⟨old, he⟩, hi⟩ := st
    exact ⟨⟨old, k e (by simp) _ he⟩, hi.at fun o q => k it (by simp) o q⟩
  · subst hP hw hK
    have hsq : ∃ xs, SqQ t X.K H a xs := by
      rcases hg with ⟨xs, x, q, _⟩ | ⟨xs, q, _⟩
      · exact ⟨xs, q⟩
      · exact ⟨xs, q⟩
    obtain ⟨xs, hsq⟩ := hsq
    obtain ⟨its, rv, hp, hz⟩ := seqQ I hsq
    have hl := rv.length
    refine ⟨_, _, _, _, _, WalksT.enumFrom (0 : Int) (drawsQ (A := X.A.in1) hh t it a h3 its.toArray) e h1 (by simp [h1, h2]) (by simp), fun hgo => ?_, fun hst => ?_, ⟨st.1, st.2, hp⟩, fun h q => ⟨q.1, q.2.1⟩, fun hgo vals hv => ?_⟩
    · obtain ⟨xs', x, q, hx⟩ := hgo
      cases seqQ_inj I hsq q
      have := (List.getElem?_eq_some_iff.mp hx).1
      simpa [← hl] using this
    · obtain ⟨xs', q, hx⟩ := hst
      cases seqQ_inj I hsq q
      simp [← hl, hx]
    · obtain ⟨tk, u, hu, rfl⟩ := hv
      obtain ⟨xs', x, q, hx⟩ := hgo
      cases seqQ_inj I hsq q
      obtain ⟨u', hu', ru⟩ := rv.get hx
      have e : u = u' := by
        have : its.toArray[i]? = some u := hu
        simp only [List.getElem?_toArray] at this
        rw [this] at hu'
        exact Option.some.inj hu'
      subst e
      refine ⟨[.int (0 + (i : Int)), x], by show 2 ≤ sizeLine; decide, .cons ⟨_, rfl⟩ (.cons ru .nil), fun T hT => ⟨T, x, rfl, hT, by rw [Int.zero_add], fun ys hy => by rw [seqQ_inj I hy hsq]; exact hx⟩⟩
theorem turn_zipq {P : Program} {w : World} {K : PySem.W.Frag} {elts : List Expr} {kk : Nat} {tpos : Pos} (t t2 : Bool) {a b z TI TO i1 i2 : Addr} (D : ZipSep2 z TI TO i1 i2 [i1, a] [i2, b]) (h3 : a ≠ i1) (h4 : b ≠ i2) :
    Turn P w K (.Tuple elts kk tpos) (Itzq t t2 K a b) [z, TI, TO, i1, i2] z (fun i h => IsZip h z TI TO .none ∧ IsTupOf2 h TI (.ref i1) (.ref i2) ∧ (∃ x y, IsTupOf2 h TO x y) ∧ ItQ t h i1 a i ∧ ItQ t2 h i2 b i) := by
  refine turn_ofT (wr := [z, TO, i1, i2]) (by simp) (fun b hb => by
      have e' : b = z ∨ b = TO ∨ b = i1 ∨ b = i2 := by simpa using hb
      rcases e' with q | q | q | q <;> simp [q]) (fun i h st c hc => ?_) (fun i h h' st k => ?_) (fun X hP hw hK hh i pins s σ H I st hg => ?_) (fun A i s Q E st h => wpAny_pyIter_zip st.1 h)
  · obtain ⟨hz, hTI, ⟨x, y, hTO⟩, h1, h2⟩ := st
    have e' : c = z ∨ c = TI ∨ c = TO ∨ c = i1 ∨ c = i2 := by simpa using hc
    rcases e' with q | q | q | q | q
    · rw [q]; exact ⟨_, hz, fun v q => nomatch q⟩
    · rw [q]; exact ⟨_, hTI, fun v q => nomatch q⟩
    · rw [q]; exact ⟨_, hTO, fun v q => nomatch q⟩
    · rw [q]; exact h1.live
    · rw [q]; exact h2.live
  · obtain ⟨hz, hTI, ⟨x, y, hTO⟩, h1, h2⟩ := st
    exact ⟨k z (by simp) _ hz, k TI (by simp) _ hTI, ⟨x, y, k TO (by simp) _ hTO⟩, h1.at fun o q => k i1 (by simp) o q, h2.at fun o q => k i2 (by simp) o q⟩
  · subst hP hw hK
    have hsq : ∃ xs ys, SqQ t X.K H a xs ∧ SqQ t2 X.K H b ys := by
      rcases hg with ⟨xs, ys, x, y, q, q2, _⟩ | ⟨xs, ys, q, q2, _⟩
      · exact ⟨xs, ys, q, q2⟩
      · exact ⟨xs, ys, q, q2⟩
    obtain ⟨xs, ys, hsq, hsq2⟩ := hsq
    obtain ⟨its, rv, hp, _⟩ := seqQ I hsq
    obtain ⟨its2, rv2, hp2, _⟩ := seqQ I hsq2
    have hl := rv.length
    have hl2 := rv2.length
    refine ⟨_, _, _, _, _, WalksT.zipD2 D (drawsQ (A := X.A.in1) hh t i1 a h3 its.toArray) (drawsQ (A := X.A.in1) hh t2 i2 b h4 its2.toArray), fun hgo => ?_, fun hst => ?_, ⟨st.1, st.2.1, st.2.2.1, ⟨st.2.2.2.1, hp⟩, st.2.2.2.2, hp2⟩, fun h q => ⟨q.1, q.2.1, q.2.2.1, q.2.2.2.1.1, q.2.2.2.2.1⟩, fun hgo vals hv => ?_⟩
    · obtain ⟨xs', ys', x, y, q, q2, hx, hy⟩ := hgo
      cases seqQ_inj I hsq q
      cases seqQ_inj I hsq2 q2
      have g1 := (List.getElem?_eq_some_iff.mp hx).1
      have g2 := (List.getElem?_eq_some_iff.mp hy).1
      simp only [List.size_toArray]
      omega
    · obtain ⟨xs', ys', q, q2, hx⟩ := hst
      cases seqQ_inj I hsq q
      cases seqQ_inj I hsq2 q2
      simp only [List.size_toArray]
      omega
    · obtain ⟨u1, u2, hu1, hu2, rfl⟩ := hv
      obtain ⟨xs', ys', x, y, q, q2, hx, hy⟩ := hgo
      cases seqQ_inj I hsq q
      cases seqQ_inj I hsq2 q2
      obtain ⟨u', hu', ru⟩ := rv.get hx
      obtain ⟨v', hv', rw'⟩ := rv2.get hy
      have e : u1 = u' := by
        have : its.toArray[i]? = some u1 := hu1
        simp only [List.getElem?_toArray] at this
        rw [this] at hu'
        exact Option.some.inj hu'
      have e2 : u2 = v' := by
        have : its2.toArray[i]? = some u2 := hu2
        simp only [List.getElem?_toArray] at this
        rw [this] at hv'
        exact Option.some.inj hv'
      subst e e2
      exact ⟨[x, y], by show 2 ≤ sizeLine; decide, .cons ru (.cons rw' .nil), fun T hT => ⟨T, x, y, rfl, hT, rfl, fun l hy' => by rw [seqQ_inj I hy' hsq]; exact hx, fun l hy' => by rw [seqQ_inj I hy' hsq2]; exact hy⟩⟩
/-! ### the forms of for and comprehensions -/
/-- the list or tuple that a value is -/
def HasQ (t : Bool) (K : PySem.W.Frag) (H : Hp) (x : V) (a : Addr) : Prop := x = .ref a ∧ ∃ xs, SqQ t K H a xs
def itOf (t : Bool) (K : PySem.W.Frag) (a : Addr) : It := match t with
  | true => Itt K a
  | false => Itl K a
def iSeq (K : PySem.W.Frag) (tl : TE) : TI := fun σ H R => tl σ H fun x H1 => ∃ t a, HasQ t K H1 x a ∧ R (itOf t K a) H1
def iEnumQ (K : PySem.W.Frag) (tl : TE) : TI := fun σ H R => tl σ H fun x H1 => ∃ t a, HasQ t K H1 x a ∧ R (Iteq t K a) H1
def iZipQ (K : PySem.W.Frag) (ta tb : TE) : TI := fun σ H R => ta σ H fun x H1 => tb σ H1 fun y H2 => ∃ t t2 a b, HasQ t K H2 x a ∧ HasQ t2 K H2 y b ∧ R (Itzq t t2 K a b) H2
section
variable {X : Cx} {tg l : Expr} {tl : TE}
theorem pi_seq (hl : PE X l tl) : PI X tg l (iSeq X.K tl) := by
  refine ⟨fun pins s σ H R I h => ?_⟩
  refine thn (hl.run pins s σ H _ I h) fun v s1 ⟨x, H1, I1, r1, q1⟩ => ?_
  obtain ⟨t, a, ⟨e, xs, hq⟩, q⟩ := q1
  subst e
  cases r1
  cases t with
  | true =>
    obtain ⟨its, rv, p, hz⟩ := I1.tuple hq
    refine wpAny_pyIter_tuple (show s1.heap.IsTuple a its.toArray from p) ?_
    refine ⟨s1.heap.objs.size, [s1.heap.objs.size], _, _, H1, rfl, I1.kept (t' := s1.toks) fun b o e => Heap.get?_push_of_some _ e, turn_tuple a _, ⟨_, Heap.get?_push_size _ rfl, rfl, rfl⟩, fun b hb => ?_, q⟩
    have e : b = s1.heap.objs.size := by simpa using hb
    subst e
    exact I1.fpOk (Nat.le_refl _) (I1.hok.fresh (Nat.le_refl _))
  | false =>
    obtain ⟨its, rv, p, hz⟩ := I1.list hq
    refine wpAny_pyIter_list p.isList ?_
    refine ⟨s1.heap.objs.size, [s1.heap.objs.size], _, _, H1, rfl, I1.kept (t' := s1.toks) fun b o e => Heap.get?_push_of_some _ e, turn_list a _, ⟨_, Heap.get?_push_size _ rfl, rfl, rfl⟩, fun b hb => ?_, q⟩
    have e : b = s1.heap.objs.size := by simpa using hb
    subst e
    exact I1.fpOk (Nat.le_refl _) (I1.hok.fresh (Nat.le_refl _))
end
theorem beginsQ (t : Bool) (a : Addr) (items : Array Value) : ∃ o, Begins (.ref a) o (fun h => HpQ t h a items) ∧ ∀ (h : Heap) (it : Addr), h.get? it = some o → ItQ t h it a 0 := by
  cases t with
  | true => exact ⟨_, begins_tuple a items, fun h it e => ⟨_, e, rfl, rfl⟩⟩
  | false => exact ⟨_, begins_list a items, fun h it e => ⟨_, e, rfl, rfl⟩⟩
theorem HpQ.lt {t : Bool} {h : Heap} {a : Addr} {its : Array Value} (x : HpQ t h a its) : a < h.objs.size := by
  cases t with
  | true => obtain ⟨o, e, _⟩ := x; exact Heap.lt_size e
  | false => obtain ⟨o, e, _⟩ := x; exact Heap.lt_size e
theorem meets_enum1 {v : Value} {o : Obj} {H : Heap → Prop} (B : Begins v o H) :
    Meets (Builtin.«enumerate.__new__» ⟨[.type "enumerate", v], []⟩) (fun _ R s => H s.heap ∧
      R (.ok (.ret (.ref (s.heap.push o).objs.size))) { s with heap := (s.heap.push o).push { cls := .type "enumerate", data := .fields #[.none, .bool false, .ref s.heap.objs.size, rawInt 0, .none, .none] } }) :=
  .of_wp fun prog w A R s h => by
    obtain ⟨hp, g, d, tk, os⟩ := s; obtain ⟨h1, h⟩ := h
    have hsub := sub_enumerate
    have q1 : ∀ {A' : Around} {E : Value → Shared → Prop} {Q : Value → Shared → Prop}, Q (.ref hp.objs.size) ⟨hp.push o, g, d, tk, os⟩ → wpAny (model prog w) A' (pyIter v) Q E ⟨hp, g, d, tk, os⟩ :=
      fun q => B.iter prog w _ _ ⟨hp, g, d, tk, os⟩ _ h1 q
    wp_walk using q1
    refine wpAny_stack_any fun st => wpAny_pure ?_
    split
    · rename_i c _ _ _ _ _
      cases (c == Value.type "enumerate")
      · wp_walk using q1
        exact ⟨_, rfl, h⟩
      · wp_walk using q1
        exact ⟨_, rfl, h⟩
    · wp_walk using q1
      exact ⟨_, rfl, h⟩
theorem enum_begins1 {prog : Program} {w : World} {A : Around} {E : Value → Shared → Prop} {s : Shared} {v : Value} {o : Obj} {H : Heap → Prop} {Q : Value → Shared → Prop} (B : Begins v o H) (h1 : H s.heap)
    (h : ∀ h', IsEnum h' (s.heap.objs.size + 1) s.heap.objs.size 0 .none → h'.get? s.heap.objs.size = some o → h'.objs.size = s.heap.objs.size + 2 →
      (∀ b o, s.heap.get? b = some o → h'.get? b = some o) → Q (.ref (s.heap.objs.size + 1)) { s with heap := h' }) :
    wpAny (model prog w) A (call (.type "enumerate") [v]) Q E s := by
  refine callType_new F.called_enumerate (by decide) (F.typeCall_enumerate_1 _) (F.newCall_enumerate_1 _) (fun obj => F.args_object_init_2 obj _) F.entry_enumerate_new
    (meets_enum1 B) ⟨h1, ?_⟩
  have hz : (s.heap.push o).objs.size = s.heap.objs.size + 1 := Heap.size_push ..
  show _ ∧ _
  rw [hz]
  have he : IsEnum ((s.heap.push o).push { cls := .type "enumerate", data := .fields #[.none, .bool false, .ref s.heap.objs.size, rawInt 0, .none, .none] }) (s.heap.objs.size + 1) s.heap.objs.size 0 .none := by
    have := Heap.get?_push_size (s.heap.push o) (o := { cls := .type "enumerate", data := .fields #[.none, .bool false, .ref s.heap.objs.size, rawInt 0, .none, .none] }) rfl
    rw [hz] at this; exact this
  refine ⟨⟨_, he, rfl⟩, h _ he (Heap.get?_push_of_some _ (Heap.get?_push_size _ B.free)) (by rw [Heap.size_push, hz]) fun b o x => Heap.get?_push_of_some _ (Heap.get?_push_of_some _ x)⟩
/-- arguments without stars -/
theorem star_ok : ∀ {es : List Expr} {env : Env}, es.all noStar = true → starEach es env = es.map fun e => (false, eval e env)
  | [], _, _ => rfl
  | e :: es, env, h => by
    rw [List.all_cons, Bool.and_eq_true] at h
    have ih := star_ok (es := es) (env := env) h.2
    cases e <;> first | (simp [noStar] at h; done) | (show (false, _) :: starEach es env = _; rw [ih]; rfl)
section
variable {X : Cx} {e e2 : Expr} {ta tb : TE} {p pos tpos : Pos} {elts : List Expr} {kk : Nat}
theorem pa1 (ha : PE X e ta) (n1 : noStar e = true) : PA X [e] (tCons ta tNil) := pa_cons ha pa_nil (by rw [star_ok (by simp [n1])]; rfl)
theorem pi_enumQ (hg : Gl X "enumerate") (hm : X.mg "enumerate" = none) (ha : PE X e ta) (n1 : noStar e = true) :
    PI X (.Tuple elts kk tpos) (.Call (.Name "enumerate" p) [e] [] pos) (iEnumQ X.K ta) := by
  refine ⟨fun pins s σ H R I h => ?_⟩
  have hs : starEach [e] X.env = [(false, eval e X.env)] := by rw [star_ok (by simp [n1])]; rfl
  refine Call_ (ld_blt I hg hm boot_enumerate (PyProof.Rows.callWith_type1 (thn ((pa1 ha n1).run pos pins s σ H (fun vs H1 => match vs with | [x] => ∃ t a, HasQ t X.K H1 x a ∧ R (Iteq t X.K a) H1 | _ => False) I ?_) fun us s1 ⟨vs, H1, I1, r1, q1⟩ => ?_) hs rfl))
  · exact h
  · obtain ⟨x, rfl⟩ : ∃ x, vs = [x] := by
      match vs, q1 with
      | [x], _ => exact ⟨x, rfl⟩
    obtain ⟨t, a, ⟨rfl, xs, hq⟩, q⟩ := q1
    obtain ⟨u, rfl, ru⟩ := vals1 r1
    cases ru
    obtain ⟨its, rv, hp, hz⟩ := seqQ I1 hq
    obtain ⟨o, B, hit⟩ := beginsQ t a its.toArray
    refine enum_begins1 B hp fun h' he ho hsz hk => wpAny_pyIter_enum he ?_
    have I2 : Inv X pins σ H1 { s1 with heap := h' } := I1.kept (t' := s1.toks) hk
    have la := hp.lt
    refine ⟨s1.heap.objs.size + 1, [s1.heap.objs.size + 1, s1.heap.objs.size], _, _, H1, rfl, I2, turn_enumq t a (s1.heap.objs.size + 1) s1.heap.objs.size (Nat.succ_ne_self _) (Nat.ne_of_gt (Nat.lt_succ_of_lt la)) (Nat.ne_of_lt la), ⟨⟨.none, he⟩, hit _ _ ho⟩, fun b hb => ?_, q⟩
    have e' : b = s1.heap.objs.size + 1 ∨ b = s1.heap.objs.size := by simpa using hb
    have hle : s1.heap.objs.size ≤ b := by
      rcases e' with z | z
      · rw [z]; exact Nat.le_add_right _ _
      · rw [z]; exact Nat.le_refl _
    exact I1.fpOk hle (I1.hok.fresh hle)
theorem pa2 (ha : PE X e ta) (hb : PE X e2 tb) (n1 : noStar e = true) (n2 : noStar e2 = true) : PA X [e, e2] (tCons ta (tCons tb tNil)) := pa_cons ha (pa1 hb n2) (by rw [star_ok (by simp [n1, n2]), star_ok (by simp [n2])]; rfl)
theorem pi_zipQ (hg : Gl X "zip") (hm : X.mg "zip" = none) (ha : PE X e ta) (hb : PE X e2 tb) (n1 : noStar e = true) (n2 : noStar e2 = true) :
    PI X (.Tuple elts kk tpos) (.Call (.Name "zip" p) [e, e2] [] pos) (iZipQ X.K ta tb) := by
  refine ⟨fun pins s σ H R I h => ?_⟩
  have hs : starEach [e, e2] X.env = (false, eval e X.env) :: starEach [e2] X.env := by rw [star_ok (by simp [n1, n2]), star_ok (by simp [n2])]; rfl
  have hpl : (backTo pos (starEach [e2] X.env)).any (·.1) = false := by rw [star_ok (by simp [n2])]; rfl
  refine Call_ (ld_blt I hg hm PyProof.Rows.boot_zip (PyProof.Rows.callWith_type1 (thn ((pa2 ha hb n1 n2).run pos pins s σ H (fun vs H2 => match vs with | [x, y] => ∃ t t2 a b, HasQ t X.K H2 x a ∧ HasQ t2 X.K H2 y b ∧ R (Itzq t t2 X.K a b) H2 | _ => False) I ?_) fun us s1 ⟨vs, H1, I1, r1, q1⟩ => ?_) hs hpl))
  · exact h
  · obtain ⟨x, y, rfl⟩ : ∃ x y, vs = [x, y] := by
      match vs, q1 with
      | [x, y], _ => exact ⟨x, y, rfl⟩
    obtain ⟨t, t2, a, b, ⟨rfl, xs, hqx⟩, ⟨rfl, ys, hqy⟩, q⟩ := q1
    obtain ⟨u, u2, rfl, ru, ru2⟩ := vals2 r1
    cases ru
    cases ru2
    obtain ⟨its, rv, hp, _⟩ := seqQ I1 hqx
    obtain ⟨its2, rv2, hp2, _⟩ := seqQ I1 hqy
    obtain ⟨o, B, hit⟩ := beginsQ t a its.toArray
    obtain ⟨o2, B2, hit2⟩ := beginsQ t2 b its2.toArray
    have la := hp.lt
    have lb := hp2.lt
    refine zip_begins2 B B2 hp hp2 fun h' hz hTI hTO h1 h2 hsz hk => wpAny_pyIter_zip hz ?_
    have I2 : Inv X pins σ H1 { s1 with heap := h' } := I1.kept (t' := s1.toks) hk
    have D := zip_sep2 (N := s1.heap.objs.size) (fp1 := [a]) (fp2 := [b]) (fun c hc => by rw [List.mem_singleton.mp hc]; exact la) (fun c hc => by rw [List.mem_singleton.mp hc]; exact lb)
    refine ⟨s1.heap.objs.size + 4, [s1.heap.objs.size + 4, s1.heap.objs.size + 2, s1.heap.objs.size + 3, s1.heap.objs.size, s1.heap.objs.size + 1], _, _, H1, rfl, I2, turn_zipq t t2 D (Nat.ne_of_lt la) (Nat.ne_of_lt (Nat.lt_succ_of_lt lb)), ⟨hz, hTI, ⟨_, _, hTO⟩, hit _ _ h1, hit2 _ _ h2⟩, fun c hcm => ?_, q⟩
    have e' : c = s1.heap.objs.size + 4 ∨ c = s1.heap.objs.size + 2 ∨ c = s1.heap.objs.size + 3 ∨ c = s1.heap.objs.size ∨ c = s1.heap.objs.size + 1 := by simpa using hcm
    have hle : s1.heap.objs.size ≤ c := by
      rcases e' with z | z | z | z | z
      · rw [z]; exact Nat.le_add_right _ _
      · rw [z]; exact Nat.le_add_right _ _
      · rw [z]; exact Nat.le_add_right _ _
      · rw [z]; exact Nat.le_refl _
      · rw [z]; exact Nat.le_add_right _ _
    exact I1.fpOk hle (I1.hok.fresh hle)
end
end DL
end
section
set_option maxRecDepth 100000
set_option maxHeartbeats 1000000
/-! Soundness: judgements, targets, what is walked. -/
namespace DL
open PySem PySem.Spec L2
open PyProof.Rows hiding St

abbrev Mg := Str → Option Value
def RepX (K : PySem.W.Frag) (w : World) (mg : Mg) (H : Hp) (S : Sto) (x : Exn) (cls : Value) (d : Option Addr) : Prop := mg x.name = some cls ∧ match x.fs with
  | [] => d = none
  | f :: fs => ∃ a gs, d = some a ∧ H a = some (.xd gs) ∧ gs.map (·.1) = (f :: fs).map (·.1) ∧ RepVs K w H S ((f :: fs).map (·.2)) (gs.map (·.2))
/-- what follows with an exception -/
def kX (K : PySem.W.Frag) (w : World) (mg : Mg) (S : Sto) (H : Hp) (τ : L2.St) (E' : XPost) (W : WX) : Prop := ∀ x cls d H' S', RepX K w mg H' S' x cls d → RepH K w H' S' → Ext K S H S' H' → E' x S' → W cls d τ H'
theorem kX.mono {K : PySem.W.Frag} {w : World} {mg : Mg} {S S1 : Sto} {H H1 : Hp} {τ : L2.St} {E' : XPost} {W : WX} (k : kX K w mg S H τ E' W) (e : Ext K S H S1 H1) : kX K w mg S1 H1 τ E' W := fun x cls d H' S' r h e' q => k x cls d H' S' r h (e.trans e') q
theorem kX.none {K : PySem.W.Frag} {w : World} {mg : Mg} {S : Sto} {H : Hp} {τ : L2.St} {W : WX} : kX K w mg S H τ (fun _ _ => False) W := fun _ _ _ _ _ _ _ _ q => q.elim
abbrev CEf := Sl → Sto → Post → XPost → Prop
section
variable (K : PySem.W.Frag) (w : World) (mg : Mg) (W : WX)
def upE (c : CEf) : TE := fun τ H Q => ∃ σ S Q' E', RepSt K w H S σ τ ∧ RepH K w H S ∧ c σ S Q' E' ∧ kV K w S H Q' Q ∧ kX K w mg S H τ E' W
def upT (c : Sl → Sto → (Bool → Sto → Prop) → XPost → Prop) : TT := fun τ H Q => ∃ σ S Q' E', RepSt K w H S σ τ ∧ RepH K w H S ∧ c σ S Q' E' ∧ (∀ b H' S', RepH K w H' S' → Ext K S H S' H' → Q' b S' → Q b H') ∧ kX K w mg S H τ E' W
def upA (n : Nat) (c : Sl → Sto → (List PV → Sto → Prop) → XPost → Prop) : TA := fun τ H Q => ∃ σ S Q' E', RepSt K w H S σ τ ∧ RepH K w H S ∧ c σ S Q' E' ∧ (∀ vs H' vs' S', vs.length = n → RepVs K w H' S' vs' vs → RepH K w H' S' → Ext K S H S' H' → Q' vs' S' → Q vs H') ∧ kX K w mg S H τ E' W
def upO (c : Sl → Sto → (Option Int → Sto → Prop) → XPost → Prop) : TO := fun τ H Q => ∃ σ S Q' E', RepSt K w H S σ τ ∧ RepH K w H S ∧ c σ S Q' E' ∧ (∀ o H' S', RepH K w H' S' → Ext K S H S' H' → Q' o S' → Q o H') ∧ kX K w mg S H τ E' W
/-- an iterator walks these items -/
structure SrcRep (J : It) (src : Src) (S0 : Sto) (H0 : Hp) : Prop where
  stop : ∀ i H S, Ext K S0 H0 S H → RepH K w H S → src.ok S → src.items.length = i → J.stop i H
  go : ∀ i H S, Ext K S0 H0 S H → RepH K w H S → src.ok S → i < src.items.length → J.go i H
  yld : ∀ i H S x v H', Ext K S0 H0 S H → RepH K w H S → src.ok S → src.items[i]? = some x → J.yld i H v H' → RepV K w H' S x v ∧ RepH K w H' S ∧ Ext K S H S H'
  sz : (∀ a xs, SqL K H0 a xs ∨ SqT K H0 a xs → xs.length ≤ sizeLine) → src.items.length ≤ sizeLine
def upI (c : Sl → Sto → (Src → Sto → Prop) → XPost → Prop) : TI := fun τ H R => ∃ σ S Q' E', RepSt K w H S σ τ ∧ RepH K w H S ∧ c σ S Q' E' ∧ (∀ J H' src S', SrcRep K w J src S' H' → RepH K w H' S' → Ext K S H S' H' → Q' src S' → R J H') ∧ kX K w mg S H τ E' W
def upG (t : Tg) : TG := fun v τ H Q => ∃ σ S x Q', RepSt K w H S σ τ ∧ RepH K w H S ∧ RepV K w H S x v ∧ tgD t x σ S Q' ∧ ∀ σ' τ', RepSt K w H S σ' τ' → (∀ vs : List Nat, (∀ i ∈ t.slots, i ∈ vs) → L2.wipe τ' vs = L2.wipe τ vs) → Q' σ' → Q τ' H
def upGs (ts : List Tg) : TGs := fun us τ H Q => ∃ σ S xs Q', RepSt K w H S σ τ ∧ RepH K w H S ∧ RepVs K w H S xs us ∧ tgDs ts xs σ S Q' ∧ ∀ σ' τ', RepSt K w H S σ' τ' → (∀ vs : List Nat, (∀ i ∈ slotsOf ts, i ∈ vs) → L2.wipe τ' vs = L2.wipe τ vs) → Q' σ' → Q τ' H
def spUp (m : Nat) (sp : SpD) : Sp := fun vs H Q E => vs.length = m ∧ ∃ vs' S Q' E', RepVs K w H S vs' vs ∧ RepH K w H S ∧ sp vs' S Q' E' ∧ kV K w S H Q' Q ∧ (∀ x cls d H' S', RepX K w mg H' S' x cls d → RepH K w H' S' → Ext K S H S' H' → E' x S' → E cls d H')
end
section
variable {X : Cx}
theorem PE.imp {e : Expr} {t t' : TE} (h : PE X e t) (hm : ∀ τ H Q, t' τ H Q → t τ H Q) : PE X e t' := ⟨fun pins s σ H Q I q => h.run pins s σ H Q I (hm _ _ _ q)⟩
theorem PT.imp {e : Expr} {t t' : TT} (h : PT X e t) (hm : ∀ τ H Q, t' τ H Q → t τ H Q) : PT X e t' := ⟨fun pins s σ H Q I q => h.run pins s σ H Q I (hm _ _ _ q)⟩
theorem PW.imp {e : Expr} {t t' : TT} (h : PW X e t) (hm : ∀ τ H Q, t' τ H Q → t τ H Q) : PW X e t' := ⟨fun wh pins s σ H Q I q => h.run wh pins s σ H Q I (hm _ _ _ q)⟩
theorem PA.imp {e : List Expr} {t t' : TA} (h : PA X e t) (hm : ∀ τ H Q, t' τ H Q → t τ H Q) : PA X e t' := ⟨fun p pins s σ H Q I q => h.run p pins s σ H Q I (hm _ _ _ q)⟩
theorem PO.imp {e : Option Expr} {t t' : TO} (h : PO X e t) (hm : ∀ τ H Q, t' τ H Q → t τ H Q) : PO X e t' := ⟨fun pins s σ H Q I q => h.run pins s σ H Q I (hm _ _ _ q)⟩
theorem PI.imp {tg e : Expr} {t t' : TI} (h : PI X tg e t) (hm : ∀ τ H Q, t' τ H Q → t τ H Q) : PI X tg e t' := ⟨fun pins s σ H Q I q => h.run pins s σ H Q I (hm _ _ _ q)⟩
theorem PG.imp {e : Expr} {t t' : TG} (h : PG X e t) (hm : ∀ v τ H Q, t' v τ H Q → t v τ H Q) : PG X e t' := ⟨fun pins s σ H v u Q I r q => h.run pins s σ H v u Q I r (hm _ _ _ _ q)⟩
theorem PGs.imp {e : List Expr} {t t' : TGs} (h : PGs X e t) (hm : ∀ v τ H Q, t' v τ H Q → t v τ H Q) : PGs X e t' := ⟨fun pins s σ H v u Q I r q => h.run pins s σ H v u Q I r (hm _ _ _ _ q)⟩
theorem PS.imp {e : Stmt} {t t' : TS} (h : PS X e t) (hm : ∀ D τ H, t' D τ H → t D τ H) : PS X e t' := ⟨fun pins s σ H D I q => h.run pins s σ H D I (hm _ _ _ q)⟩
theorem PSs.imp {e : List Stmt} {t t' : TS} (h : PSs X e t) (hm : ∀ D τ H, t' D τ H → t D τ H) : PSs X e t' := ⟨fun pins s σ H D I q => h.run pins s σ H D I (hm _ _ _ q)⟩
/-- the sequences that are read have a size -/
def Sane (K : PySem.W.Frag) (H : Hp) : Prop := ∀ a xs, SqL K H a xs ∨ SqT K H a xs → xs.length ≤ sizeLine
theorem Inv.sane {pins : List (Addr × Obj)} {σ : L2.St} {H : Hp} {s : Shared} (I : Inv X pins σ H s) : Sane X.K H := fun a xs h => by
  rcases h with h | h
  · obtain ⟨_, _, _, z⟩ := I.list h; exact z
  · obtain ⟨_, _, _, z⟩ := I.tuple h; exact z
theorem PI.sane {tg e : Expr} {t : TI} (h : PI X tg e t) : PI X tg e (fun τ H R => t τ H fun J H1 => Sane X.K H1 → R J H1) := by
  refine ⟨fun pins s σ H R I q => ?_⟩
  refine thn (h.run pins s σ H _ I q) fun v s1 h1 => thn h1 fun itv s2 ⟨it, fp, tn, J, H', e, I2, T, st, f, r⟩ => ?_
  exact ⟨it, fp, tn, J, H', e, I2, T, st, f, r (Inv.sane I2)⟩
end

/-! ### targets -/
theorem wipe_set {τ : L2.St} {i : Nat} {v : Option V} : ∀ {vs : List Nat}, i ∈ vs → L2.wipe (τ.set i v) vs = L2.wipe τ vs
  | [], h => by cases h
  | j :: vs, h => by
    by_cases hj : i ∈ vs
    · show (L2.wipe (τ.set i v) vs).set j none = (L2.wipe τ vs).set j none
      rw [wipe_set hj]
    · have e : i = j := by
        rcases List.mem_cons.mp h with e | e
        · exact e
        · exact absurd e hj
      subst e
      show (L2.wipe (τ.set i v) vs).set i none = (L2.wipe τ vs).set i none
      have h2 : ∀ (vs : List Nat), i ∉ vs → L2.wipe (τ.set i v) vs = (L2.wipe τ vs).set i v := by
        intro vs
        induction vs with
        | nil => intro _; rfl
        | cons k r ih =>
          intro hk
          have h1 : i ≠ k := fun e => hk (by simp [e])
          show (L2.wipe (τ.set i v) r).set k none = ((L2.wipe τ r).set k none).set i v
          rw [ih (fun q => hk (by simp [q])), List.set_comm _ _ h1]
      rw [h2 vs hj, List.set_set]
section
variable {X : Cx}
/-- a list or a tuple to targets -/
def gSeq (K : PySem.W.Frag) (n : Nat) (t : TGs) : TG := fun v σ H Q => ∃ a xs, v = .ref a ∧ (SqL K H a xs ∨ SqT K H a xs) ∧ xs.length = n ∧ t xs σ H Q
theorem assignEach_len : ∀ (es : List Expr) (env : Env), (assignEach es env).length = es.length
  | [], _ => rfl
  | e :: es, env => by
    cases e <;> (show (assignEach es env).length + 1 = es.length + 1; rw [assignEach_len es env])
theorem assignEach_plain : ∀ {es : List Expr} {env : Env}, es.all noStar = true → (assignEach es env).findIdx? (·.1) = none ∧ (assignEach es env).map (·.2) = es.map fun e => assign e env
  | [], _, _ => ⟨rfl, rfl⟩
  | e :: es, env, h => by
    rw [List.all_cons, Bool.and_eq_true] at h
    obtain ⟨h1, h2⟩ := assignEach_plain (env := env) h.2
    have e1 : assignEach (e :: es) env = (false, assign e env) :: assignEach es env := by
      cases e <;> first | rfl | (simp [noStar] at h; done)
    rw [e1]
    refine ⟨?_, ?_⟩
    · rw [List.findIdx?_cons]
      simp [h1]
    · rw [List.map_cons, List.map_cons, h2]
theorem pg_seq {es : List Expr} {k : Nat} {pos : Pos} {t : TGs} (hc : X.calm = true) (h : PGs X es t) (hs : es.all noStar = true) : PG X (.Tuple es k pos) (gSeq X.K es.length t) := by
  refine ⟨fun pins s σ H v u Q I r hw => ?_⟩
  obtain ⟨a, xs, e1, hq, hl, hw⟩ := hw
  rcases hq with hq | hq
  · exact (pg_lst hc h (assignEach_len es _) (assignEach_plain hs).1).run pins s σ H v u Q I r ⟨a, xs, e1, hq, hl, hw⟩
  · exact (pg_tup hc h (assignEach_len es _) (assignEach_plain hs).1).run pins s σ H v u Q I r ⟨a, xs, e1, hq, hl, hw⟩
theorem tgDs_len {S : Sto} : ∀ {ts : List Tg} {xs : List PV} {σ : Sl} {Q : Sl → Prop}, tgDs ts xs σ S Q → ts.length = xs.length → True := fun _ _ => trivial
end
end DL
end
section
set_option maxRecDepth 100000
set_option maxHeartbeats 1000000
/-! Soundness: the context; targets, what is walked. -/
namespace DL
open PySem PySem.Spec L2
open PyProof.Rows hiding St

structure Ok (X : Cx) (Γ : Gam) (G : GE) (k : Nat) (W : WX) : Prop where
  N : X.N = Γ.N
  nd : Γ.N.Nodup
  sc : X.env.scope.names = Γ.names
  kd : X.env.scope.kind = .function
  calm : X.calm = true
  room : Room k X.A
  fnc : ∀ x, Γ.fnc x = true → X.fn x = true ∨ X.env.scope.names.lookup x = some .local
  fns : ∀ x i m, Γ.fns.lookup x = some (i, m) → ∃ a fd ps, X.mg x = some (.ref a) ∧ PySem.W.keepIn X.K (.ref a) = true ∧ Binds X.K fd ps [] ∧ ps.length = m ∧ FnOk X.prog X.w X.K X.mg X.base (L2.CX X.prog X.w) k a fd ps (spUp X.K X.w X.mg m (G.fn i))
  free : ∀ x, Γ.free.contains x = true → X.mg x = none
  cst : ∀ x v, Γ.cst.lookup x = some v → ∃ u vv, X.mg x = some u ∧ RelV vv u ∧ ∀ H S, RepV X.K X.w H S v vv
  tk : Takes X W
section
variable {X : Cx} {Γ : Gam} {G : GE} {k : Nat} {W : WX}
theorem Ok.glob (ok : Ok X Γ G k W) {x : Str} (h : Γ.glob x = true) : Gl X x := by
  unfold Gam.glob at h
  show X.env.scope.names.lookup x = _
  rw [ok.sc]
  exact eq_of_beq h
theorem Ok.visN (ok : Ok X Γ G k W) {x : Str} (h : Γ.vis x = true) : Vis X.env.scope x := by
  unfold Gam.vis at h
  unfold Vis
  rw [ok.sc]
  simp only [Bool.or_eq_true, beq_iff_eq] at h
  rcases h with (h | h) | h
  · exact .inl h
  · exact .inr (.inl h)
  · exact .inr (.inr h)
theorem Ok.locN (ok : Ok X Γ G k W) {x : Str} (h : Γ.loc x = true) : L2.Loc X.env.scope x := by
  unfold Gam.loc at h
  unfold L2.Loc
  rw [ok.sc]
  simp only [Bool.or_eq_true, beq_iff_eq] at h
  exact h
theorem Ok.hu (ok : Ok X Γ G k W) : X.A.units + 65 < cLine := by have := ok.room.un; omega
theorem bi_split {x : Str} (h : Γ.bi x = true) : Γ.glob x = true ∧ Γ.free.contains x = true ∧ dbg x = false := by
  unfold Gam.bi at h
  simp only [Bool.and_eq_true, Bool.not_eq_true'] at h
  exact ⟨h.1.1, h.1.2, h.2⟩

/-! ### targets -/
theorem compG_sound : ∀ n : Nat,
    (∀ {Γ : Gam} {e : Expr} {t : Tg}, compG n Γ e = some t → ∀ {X : Cx} {W : WX}, Ok X Γ G k W → PG X e (upG X.K X.w t)) ∧
    (∀ {Γ : Gam} {es : List Expr} {ts : List Tg}, compGs n Γ es = some ts → es.all noStar = true → ∀ {X : Cx} {W : WX}, Ok X Γ G k W → PGs X es (upGs X.K X.w ts) ∧ es.length = ts.length) := by
  intro n
  induction n with
  | zero =>
    refine ⟨fun h => by simp [compG] at h, fun {Γ es ts} h hs {X W} ok => ?_⟩
    cases es with
    | nil =>
      simp only [compGs, Option.some.injEq] at h
      subst h
      refine ⟨PGs.imp pgs_nil fun us τ H Q q => ?_, rfl⟩
      obtain ⟨σ, S, xs, Q', hs, hh, hx, hc, hq⟩ := q
      cases xs with
      | nil => exact ⟨hx.nil_inv, hq σ τ hs (fun _ _ => rfl) (by simpa [tgDs] using hc)⟩
      | cons _ _ => simp [tgDs] at hc
    | cons _ _ => simp [compGs] at h
  | succ n ih =>
    refine ⟨fun {Γ e t} h {X W} ok => ?_, fun {Γ es ts} h hs {X W} ok => ?_⟩
    · cases e with
      | Name x p =>
        simp only [compG] at h
        split at h
        · rename_i hl
          rw [Bool.and_eq_true] at hl
          obtain ⟨i, hi, rfl⟩ := Option.map_eq_some_iff.mp h
          refine PG.imp (pg_name (i := i) (by rw [ok.N]; exact ok.nd) (by rw [ok.N]; exact slotOf_ok hi) (ok.locN hl.1) (ok.fnc x hl.2)) fun v τ H Q q => ?_
          obtain ⟨σ, S, x', Q', h1, h2, h3, h4, h5⟩ := q
          simp only [tgD] at h4
          exact h5 _ _ (h1.set i h3) (fun vs hv => wipe_set (hv i (by simp [Tg.slots]))) h4
        · cases h
      | Tuple es kk p =>
        simp only [compG] at h
        split at h
        · rename_i hs
          obtain ⟨ts, ht, rfl⟩ := Option.map_eq_some_iff.mp h
          obtain ⟨pg, hl⟩ := ih.2 ht hs ok
          refine PG.imp (pg_seq ok.calm pg hs) fun v τ H Q q => ?_
          obtain ⟨σ, S, x', Q', h1, h2, h3, h4, h5⟩ := q
          simp only [tgD] at h4
          split at h4
          · rename_i xs e1
            obtain ⟨a, vs, rfl, g1, g2⟩ := dQ_rep h2 h3 e1
            have hlen : ∀ {ts : List Tg} {xs : List PV} {σ : Sl} {Q : Sl → Prop}, tgDs ts xs σ S Q → ts.length = xs.length := by
              intro ts
              induction ts with
              | nil => intro xs σ Q q; cases xs with
                | nil => rfl
                | cons _ _ => simp [tgDs] at q
              | cons t ts iht => intro xs σ Q q; cases xs with
                | nil => simp [tgDs] at q
                | cons x xs =>
                  simp only [tgDs] at q
                  have : ∀ {t : Tg} {x : PV} {σ : Sl} {Q : Sl → Prop}, tgD t x σ S Q → ∃ σ', Q σ' := by
                    intro t
                    have key : ∀ (m : Nat), (∀ {t : Tg} {x : PV} {σ : Sl} {Q : Sl → Prop}, sizeOf t ≤ m → tgD t x σ S Q → ∃ σ', Q σ') ∧ (∀ {ts : List Tg} {xs : List PV} {σ : Sl} {Q : Sl → Prop}, sizeOf ts ≤ m → tgDs ts xs σ S Q → ∃ σ', Q σ') := by
                      intro m
                      induction m with
                      | zero =>
                        refine ⟨fun {t x σ Q} hz q => ?_, fun {ts xs σ Q} hz q => ?_⟩
                        · cases t <;> simp at hz
                        · cases ts <;> simp at hz
                      | succ m ihm =>
                        refine ⟨fun {t x σ Q} hz q => ?_, fun {ts xs σ Q} hz q => ?_⟩
                        · cases t with
                          | nm i => exact ⟨_, by simpa only [tgD] using q⟩
                          | tp ts =>
                            simp only [tgD] at q
                            split at q
                            · exact ihm.2 (by simp at hz; omega) q
                            · exact q.elim
                        · cases ts with
                          | nil => cases xs with
                            | nil => exact ⟨σ, by simpa only [tgDs] using q⟩
                            | cons _ _ => simp [tgDs] at q
                          | cons t ts => cases xs with
                            | nil => simp [tgDs] at q
                            | cons x xs =>
                              simp only [tgDs] at q
                              obtain ⟨σ', q'⟩ := ihm.1 (by simp at hz; omega) q
                              exact ihm.2 (by simp at hz; omega) q'
                    exact fun {x σ Q} q => (key (sizeOf t)).1 (Nat.le_refl _) q
                  obtain ⟨σ', q'⟩ := this q
                  rw [List.length_cons, List.length_cons, iht q']
            refine ⟨a, vs, rfl, g1, ?_, ⟨σ, S, xs, Q', h1, h2, g2, h4, fun σ' τ' r1 r2 r3 => h5 σ' τ' r1 (fun vs hv => r2 vs (by simpa [Tg.slots] using hv)) r3⟩⟩
            rw [← g2.length, hl, hlen h4]
          · exact h4.elim
        · cases h
      | _ => simp [compG] at h
    · cases es with
      | nil =>
        simp only [compGs, Option.some.injEq] at h
        subst h
        refine ⟨PGs.imp pgs_nil fun us τ H Q q => ?_, rfl⟩
        obtain ⟨σ, S, xs, Q', hs, hh, hx, hc, hq⟩ := q
        cases xs with
        | nil => exact ⟨hx.nil_inv, hq σ τ hs (fun _ _ => rfl) (by simpa [tgDs] using hc)⟩
        | cons _ _ => simp [tgDs] at hc
      | cons e es =>
        simp only [compGs, Option.bind_eq_bind, Option.bind_eq_some_iff, Option.pure_def, Option.some.injEq] at h
        obtain ⟨t, ht, ts', hts, rfl⟩ := h
        rw [List.all_cons, Bool.and_eq_true] at hs
        obtain ⟨pgs, hl⟩ := ih.2 hts hs.2 ok
        have pg := ih.1 ht ok
        refine ⟨PGs.imp (pgs_cons pg pgs (by
            have e1 : assignEach (e :: es) X.env = (false, assign e X.env) :: assignEach es X.env := by
              cases e <;> first | rfl | (simp [noStar] at hs; done)
            rw [e1]
            rfl)) fun us τ H Q q => ?_, by rw [List.length_cons, List.length_cons, hl]⟩
        obtain ⟨σ, S, xs, Q', h1, h2, h3, h4, h5⟩ := q
        cases xs with
        | nil => simp [tgDs] at h4
        | cons x xs =>
          simp only [tgDs] at h4
          obtain ⟨v, us', rfl, r1, r2⟩ := h3.cons_inv
          refine ⟨v, us', rfl, σ, S, x, _, h1, h2, r1, h4, fun σ' τ' g1 g2 g3 => ?_⟩
          refine ⟨σ', S, xs, Q', g1, h2, r2, g3, fun σ2 τ2 f1 f2 f3 => h5 σ2 τ2 f1 (fun vs hv => ?_) f3⟩
          rw [f2 vs (fun i hi => hv i (by simp [slotsOf, hi])), g2 vs (fun i hi => hv i (by simp [slotsOf, hi]))]

/-! ### what is walked -/
theorem okL_at {K : PySem.W.Frag} {w : World} {H0 H : Hp} {S0 S : Sto} {x : PV} {xs : List PV} {a : Addr} (h0 : RepH K w H0 S0) (r : RepV K w H0 S0 x (.ref a)) (e : dQ S0 x = some xs) :
    ∃ t, (∃ vs, SqQ t K H0 a vs) ∧ ∀ {H S}, Ext K S0 H0 S H → RepH K w H S → okL x xs S → ∃ vs, SqQ t K H a vs ∧ RepVs K w H S xs vs := by
  cases x with
  | tup ys =>
    simp only [dQ, Option.some.injEq] at e
    subst e
    simp only [RepV] at r
    obtain ⟨b, vs, e2, h2, h3⟩ := r
    cases e2
    exact ⟨true, ⟨vs, h2⟩, fun {H S} ex hh _ => ⟨vs, ex.tup _ _ h2, RepVs.mono ex _ _ h3⟩⟩
  | lst ys =>
    simp only [dQ, Option.some.injEq] at e
    subst e
    simp only [RepV] at r
    obtain ⟨b, vs, e2, h2, h3⟩ := r
    cases e2
    exact ⟨false, ⟨vs, h2.sq⟩, fun {H S} ex hh _ => ⟨vs, (h2.mono ex).sq, RepVs.mono ex _ _ h3⟩⟩
  | ref b =>
    simp only [RepV] at r
    cases r
    simp only [dQ] at e
    split at e
    · rename_i ys q
      cases e
      obtain ⟨vs, g1, g2⟩ := h0 a _ q
      refine ⟨false, ⟨vs, .inl (.inl g1)⟩, fun {H S} ex hh ok => ?_⟩
      obtain ⟨vs', g1, g2⟩ := hh a _ (show S a = some (.lst xs) from ok)
      exact ⟨vs', .inl (.inl g1), g2⟩
    · cases e
  | _ => simp [dQ] at e
theorem src_seq {K : PySem.W.Frag} {w : World} {H0 : Hp} {S0 : Sto} {x : PV} {xs : List PV} {v : V} (h0 : RepH K w H0 S0) (r : RepV K w H0 S0 x v) (e : dQ S0 x = some xs) : ∃ t a, HasQ t K H0 v a ∧ SrcRep K w (itOf t K a) ⟨xs, okL x xs⟩ S0 H0 := by
  obtain ⟨a, vs0, rfl, hl, rs⟩ := dQ_rep h0 r e
  obtain ⟨t, hq, hst⟩ := okL_at (H := H0) (S := S0) h0 r e
  refine ⟨t, a, ⟨rfl, hq⟩, fun i H S ex hh ok hi => ?_, fun i H S ex hh ok hi => ?_, fun i H S x v H' ex hh ok hi hy => ?_, fun hz => ?_⟩
  · obtain ⟨vs, h1, h2⟩ := hst ex hh ok
    have := h2.length
    cases t with
    | true => exact ⟨vs, h1, by have hi : xs.length = i := hi; omega⟩
    | false => exact ⟨vs, h1, by have hi : xs.length = i := hi; omega⟩
  · obtain ⟨vs, h1, h2⟩ := hst ex hh ok
    have hl := h2.length
    have hi : i < xs.length := hi
    have g : vs[i]? = some vs[i] := List.getElem?_eq_getElem (by omega)
    cases t with
    | true => exact ⟨vs, _, h1, g⟩
    | false => exact ⟨vs, _, h1, g⟩
  · obtain ⟨vs, h1, h2⟩ := hst ex hh ok
    obtain ⟨u, g1, g2⟩ := h2.get hi
    cases t with
    | true =>
      obtain ⟨rfl, y⟩ := hy
      have := (y vs h1).symm.trans g1
      cases this
      exact ⟨g2, hh, Ext.refl⟩
    | false =>
      obtain ⟨rfl, y⟩ := hy
      have := (y vs h1).symm.trans g1
      cases this
      exact ⟨g2, hh, Ext.refl⟩
  · show xs.length ≤ sizeLine
    rw [rs.length]
    exact hz a vs0 hl
theorem enumP_len : ∀ (xs : List PV) (n : Nat), (enumP n xs).length = xs.length
  | [], _ => rfl
  | x :: xs, n => by simp [enumP, enumP_len xs]
theorem enumP_get : ∀ (xs : List PV) (n i : Nat), (enumP n xs)[i]? = (xs[i]?).map fun x => PV.tup [.int ((n + i : Nat) : Int), x]
  | [], _, _ => by simp [enumP]
  | x :: xs, n, 0 => by simp [enumP]
  | x :: xs, n, i + 1 => by
    simp only [enumP, List.getElem?_cons_succ]
    rw [enumP_get xs (n + 1) i]
    have : n + 1 + i = n + (i + 1) := by omega
    rw [this]
theorem src_enum {K : PySem.W.Frag} {w : World} {H0 : Hp} {S0 : Sto} {x : PV} {xs : List PV} {v : V} (h0 : RepH K w H0 S0) (r : RepV K w H0 S0 x v) (e : dQ S0 x = some xs) : ∃ t a, HasQ t K H0 v a ∧ SrcRep K w (Iteq t K a) ⟨enumP 0 xs, okL x xs⟩ S0 H0 := by
  obtain ⟨a, vs0, rfl, hl, rs⟩ := dQ_rep h0 r e
  obtain ⟨t, hq, hst⟩ := okL_at (H := H0) (S := S0) h0 r e
  refine ⟨t, a, ⟨rfl, hq⟩, fun i H S ex hh ok hi => ?_, fun i H S ex hh ok hi => ?_, fun i H S x v H' ex hh ok hi hy => ?_, fun hz => ?_⟩
  · obtain ⟨vs, h1, h2⟩ := hst ex hh ok
    have hi : (enumP 0 xs).length = i := hi
    rw [enumP_len] at hi
    exact ⟨vs, h1, h2.length.symm.trans hi⟩
  · obtain ⟨vs, h1, h2⟩ := hst ex hh ok
    have hl := h2.length
    have hi : i < (enumP 0 xs).length := hi
    rw [enumP_len] at hi
    exact ⟨vs, _, h1, List.getElem?_eq_getElem (by omega)⟩
  · obtain ⟨vs, h1, h2⟩ := hst ex hh ok
    have hi : (enumP 0 xs)[i]? = some x := hi
    rw [enumP_get] at hi
    obtain ⟨z, hz, rfl⟩ := Option.map_eq_some_iff.mp hi
    obtain ⟨u, g1, g2⟩ := h2.get hz
    obtain ⟨T, u', rfl, hT, rfl, y⟩ := hy
    have := (y vs h1).symm.trans g1
    cases this
    have ex2 : Ext K S H S (upd H T (.tup [.int (i : Nat), u])) := Ext.new hT
    refine ⟨RepV.tup_of (SqT.of upd_same) (.cons (by simp only [RepV, Nat.zero_add]) (.cons (RepV.mono ex2 _ _ g2) .nil)), hh.new hT, ex2⟩
  · show (enumP 0 xs).length ≤ sizeLine
    rw [enumP_len, rs.length]
    exact hz a vs0 hl
theorem zipP_len : ∀ (xs ys : List PV), (zipP xs ys).length = min xs.length ys.length
  | [], ys => by simp [zipP]
  | x :: xs, [] => by simp [zipP]
  | x :: xs, y :: ys => by
    simp only [zipP, List.length_cons, zipP_len xs ys]
    omega
theorem zipP_get : ∀ (xs ys : List PV) (i : Nat) (z : PV), (zipP xs ys)[i]? = some z → ∃ x y, xs[i]? = some x ∧ ys[i]? = some y ∧ z = .tup [x, y]
  | [], _, _, _, h => by simp [zipP] at h
  | x :: xs, [], _, _, h => by simp [zipP] at h
  | x :: xs, y :: ys, 0, z, h => by
    simp [zipP] at h
    exact ⟨x, y, rfl, rfl, h.symm⟩
  | x :: xs, y :: ys, i + 1, z, h => by
    simp only [zipP, List.getElem?_cons_succ] at h
    exact zipP_get xs ys i z h
theorem src_zip {K : PySem.W.Frag} {w : World} {H0 : Hp} {S0 : Sto} {x y : PV} {xs ys : List PV} {v u : V} (h0 : RepH K w H0 S0) (r : RepV K w H0 S0 x v) (r2 : RepV K w H0 S0 y u) (e : dQ S0 x = some xs) (e2 : dQ S0 y = some ys) :
    ∃ t t2 a b, HasQ t K H0 v a ∧ HasQ t2 K H0 u b ∧ SrcRep K w (Itzq t t2 K a b) ⟨zipP xs ys, fun S => okL x xs S ∧ okL y ys S⟩ S0 H0 := by
  obtain ⟨a, vs0, rfl, hl, rs⟩ := dQ_rep h0 r e
  obtain ⟨b, us0, rfl, hl2, rs2⟩ := dQ_rep h0 r2 e2
  obtain ⟨t, hq, hst⟩ := okL_at (H := H0) (S := S0) h0 r e
  obtain ⟨t2, hq2, hst2⟩ := okL_at (H := H0) (S := S0) h0 r2 e2
  refine ⟨t, t2, a, b, ⟨rfl, hq⟩, ⟨rfl, hq2⟩, fun i H S ex hh ok hi => ?_, fun i H S ex hh ok hi => ?_, fun i H S x v H' ex hh ok hi hy => ?_, fun hz => ?_⟩
  · obtain ⟨vs, h1, h2⟩ := hst ex hh ok.1
    obtain ⟨us, h3, h4⟩ := hst2 ex hh ok.2
    have hi : (zipP xs ys).length = i := hi
    rw [zipP_len] at hi
    exact ⟨vs, us, h1, h3, by rw [← h2.length, ← h4.length]; exact hi⟩
  · obtain ⟨vs, h1, h2⟩ := hst ex hh ok.1
    obtain ⟨us, h3, h4⟩ := hst2 ex hh ok.2
    have hi : i < (zipP xs ys).length := hi
    rw [zipP_len] at hi
    have l1 := h2.length
    have l2 := h4.length
    exact ⟨vs, us, _, _, h1, h3, List.getElem?_eq_getElem (by omega), List.getElem?_eq_getElem (by omega)⟩
  · obtain ⟨vs, h1, h2⟩ := hst ex hh ok.1
    obtain ⟨us, h3, h4⟩ := hst2 ex hh ok.2
    obtain ⟨x1, y1, e1, e2, rfl⟩ := zipP_get _ _ _ _ hi
    obtain ⟨z1, g1, g2⟩ := h2.get e1
    obtain ⟨z2, g3, g4⟩ := h4.get e2
    obtain ⟨T, w1, w2, rfl, hT, eH, q1, q2⟩ := hy
    subst eH
    have z5 := (q1 vs h1).symm.trans g1
    have z6 := (q2 us h3).symm.trans g3
    obtain rfl : w1 = z1 := Option.some.inj z5
    obtain rfl : w2 = z2 := Option.some.inj z6
    have ex2 : Ext K S H S (upd H T (.tup [w1, w2])) := Ext.new hT
    exact ⟨RepV.tup_of (SqT.of upd_same) (.cons (RepV.mono ex2 _ _ g2) (.cons (RepV.mono ex2 _ _ g4) .nil)), hh.new hT, ex2⟩
  · show (zipP xs ys).length ≤ sizeLine
    rw [zipP_len]
    have := hz a vs0 hl
    rw [rs.length]
    omega
theorem rngP_len (lo : Int) (n : Nat) : (rngP lo n).length = n := by simp [rngP]
theorem rngP_get {lo : Int} {n i : Nat} {x : PV} (h : (rngP lo n)[i]? = some x) : i < n ∧ x = .int (lo + i) := by
  unfold rngP at h
  rw [List.getElem?_map] at h
  obtain ⟨j, hj, rfl⟩ := Option.map_eq_some_iff.mp h
  have hi := (List.getElem?_eq_some_iff.mp hj).1
  rw [List.getElem?_range (by simpa using hi)] at hj
  cases hj
  exact ⟨by simpa using hi, rfl⟩
theorem src_rng {K : PySem.W.Frag} {w : World} {H0 : Hp} {S0 : Sto} {lo : Int} {n : Nat} (hn : n ≤ sizeLine) : SrcRep K w (Itr lo n) ⟨rngP lo n, fun _ => True⟩ S0 H0 := by
  refine ⟨fun i H S ex hh ok hi => ?_, fun i H S ex hh ok hi => ?_, fun i H S x v H' ex hh ok hi hy => ?_, fun hz => ?_⟩
  · have hi : (rngP lo n).length = i := hi
    rw [rngP_len] at hi
    exact Nat.le_of_eq hi
  · have hi : i < (rngP lo n).length := hi
    rw [rngP_len] at hi
    exact hi
  · obtain ⟨rfl, rfl⟩ := hy
    obtain ⟨_, rfl⟩ := rngP_get hi
    exact ⟨by simp only [RepV], hh, Ext.refl⟩
  · show (rngP lo n).length ≤ sizeLine
    rw [rngP_len]
    exact hn
end
end DL
end
section
set_option maxRecDepth 100000
set_option maxHeartbeats 2000000
/-! Soundness: expressions. -/
namespace DL
open PySem PySem.Spec L2
open PyProof.Rows hiding St

section
variable {K : PySem.W.Frag} {w : World} {mg : Mg} {W : WX}
theorem tOp_up {ca cb : CEf} {f : PV → PV → Sto → Post → Prop} {τ : L2.St} {H : Hp} {Q : VK}
    (h : upE K w mg W (fun σ S Q E => ca σ S (fun x S1 => cb σ S1 (fun y S2 => f x y S2 Q) E) E) τ H Q) : tOp (rUp2 K w f) (upE K w mg W ca) (upE K w mg W cb) τ H Q := by
  obtain ⟨σ, S, Q', E', hs, hh, hc, hq, hx⟩ := h
  refine ⟨σ, S, _, E', hs, hh, hc, fun x H1 x' S1 rx hh1 e1 hb => ?_, hx⟩
  refine ⟨σ, S1, _, E', hs.mono e1, hh1, hb, fun y H2 y' S2 ry hh2 e2 hf => ?_, hx.mono e1⟩
  exact ⟨x', y', S2, Q', RepV.mono e2 _ _ rx, ry, hh2, hf, hq.mono (e1.trans e2)⟩
/-- a value that is a bool -/
def qB (Q : Bool → Sto → Prop) : Post := fun v S => match v with
  | .bl k => Q k S
  | _ => False
theorem tTest_up {ca cb : CEf} {o : COp} {τ : L2.St} {H : Hp} {Q : Bool → Hp → Prop}
    (h : upT K w mg W (fun σ S Q E => ca σ S (fun x S1 => cb σ S1 (fun y S2 => cmpD o x y S2 fun k => Q k S2) E) E) τ H Q) : tTest (tOp (rUp2 K w (cmpP o)) (upE K w mg W ca) (upE K w mg W cb)) τ H Q := by
  obtain ⟨σ, S, Q', E', hs, hh, hc, hq, hx⟩ := h
  refine ⟨σ, S, _, E', hs, hh, hc, fun x H1 x' S1 rx hh1 e1 hb => ?_, hx⟩
  refine ⟨σ, S1, _, E', hs.mono e1, hh1, hb, fun y H2 y' S2 ry hh2 e2 hf => ?_, hx.mono e1⟩
  refine ⟨x', y', S2, qB Q', RepV.mono e2 _ _ rx, ry, hh2, hf, fun v H' v' S' rv hh' e' q => ?_⟩
  cases v' <;> simp only [qB] at q
  simp only [RepV] at rv
  exact ⟨_, rv, hq _ _ _ hh' (e1.trans (e2.trans e')) q⟩
end

/-! ### the table of built-ins and methods -/
theorem biOf_boot {x : Str} {n : Nat} {b : Bi} (h : biOf x n = some b) : bootBuiltins x = some (biV b) ∧ x ≠ "__name__" ∧ ((∃ id, biV b = .builtin id) ∨ ∃ T, biV b = .type T) := by
  have h := biOf_mem h
  simp only [biTab, List.mem_cons, Prod.mk.injEq, List.not_mem_nil, or_false] at h
  rcases h with ⟨rfl, rfl, rfl⟩ | ⟨rfl, rfl, rfl⟩ | ⟨rfl, rfl, rfl⟩ | ⟨rfl, rfl, rfl⟩ | ⟨rfl, rfl, rfl⟩ | ⟨rfl, rfl, rfl⟩ | ⟨rfl, rfl, rfl⟩ | ⟨rfl, rfl, rfl⟩ | ⟨rfl, rfl, rfl⟩ | ⟨rfl, rfl, rfl⟩ | ⟨rfl, rfl, rfl⟩ | ⟨rfl, rfl, rfl⟩ <;>
    exact ⟨rfl, by decide, by first | exact .inl ⟨_, rfl⟩ | exact .inr ⟨_, rfl⟩⟩
theorem meOf_facts {x : Str} {n : Nat} {c : Me} (h : meOf x n = some c) : PlainAttrs (meT c) ∧ Slot (meT c) x (meI c) ∧ typeOf (.builtin (meI c)) = pure (.type "method_descriptor") := by
  have h := meOf_mem h
  simp only [meTab, List.mem_cons, Prod.mk.injEq, List.not_mem_nil, or_false] at h
  rcases h with ⟨rfl, rfl, rfl⟩ | ⟨rfl, rfl, rfl⟩ | ⟨rfl, rfl, rfl⟩ | ⟨rfl, rfl, rfl⟩
  · exact ⟨PySem.F.plainAttrs_list, PySem.F.slot_list_append, PySem.F.type_list_append⟩
  · exact ⟨PySem.F.plainAttrs_list, PySem.F.slot_list_extend, PySem.F.type_list_extend⟩
  · exact ⟨PySem.F.plainAttrs_list, PySem.F.slot_list_pop, PySem.F.type_list_pop⟩
  · exact ⟨PySem.F.plainAttrs_list, PySem.F.slot_list_insert, PySem.F.type_list_insert⟩
theorem back_plain : ∀ {es : List Expr} {env : Env} {pos : Pos}, es.all noStar = true → (backTo pos (starEach es env)).any (·.1) = false ∧ (backTo pos (starEach es env)).all (fun x => !x.1) = true := fun {es env pos} h => by
  rw [star_ok h]
  unfold backTo
  refine ⟨?_, ?_⟩
  · rw [List.map_map, List.any_map]
    simp
  · rw [List.map_map, List.all_map]
    simp
theorem base_plain {o : Expr} {attr : Str} {env : Env} (h : noSup o = true) : attributeBase o attr env (eval o env) = eval o env := by
  cases o <;> first
    | rfl
    | (rename_i f args kws pos
       cases f <;> first
         | rfl
         | (cases args <;> first
             | rfl
             | (cases kws <;> first
                 | rfl
                 | (simp [noSup] at h; done))))
theorem noSet_fold {e : Expr} {env : Env} (h : noSet e = true) : ∀ x, foldedSetIterable e env x = pure x := by
  intro x
  cases e <;> first | rfl | (simp [noSet] at h; done)
theorem noSlice_ix {b : Expr} (h : noSlice b = true) : PlainIx b := by
  intro o i
  cases b <;> first | rfl | (simp [noSlice] at h; done)

section
variable {X : Cx} {Γ : Gam} {G : GE} {k : Nat} {W : WX}
/-- a block runs in a context like that of its def -/
theorem Ok.block (ok : Ok X Γ G k W) {scope : Scope} {own : List (Str × Nat)} (hb : BlkOk Γ.N (scOf Γ) scope own) (s : Shared) (H : Hp) (C : Addr) (cl : List (Str × Addr)) (fp : List Addr) :
    Ok (X.blk s H scope (compEnvC scope cl C X.env) fp) (Γ.block scope) G k (fun _ _ _ _ => False) := by
  have hsc : (compEnvC scope cl C X.env).scope = relS scope X.env.scope := rfl
  have hn : (relS scope X.env.scope).names = (relS scope (scOf Γ)).names := by
    unfold relS scOf
    simp only [ok.sc, ok.kd]
  refine ⟨ok.N, ok.nd, ?_, ?_, ok.calm, ok.room, fun x hx => ?_, ok.fns, ok.free, ok.cst, takes_none5⟩
  · show (compEnvC scope cl C X.env).scope.names = _
    rw [hsc, hn]
    rfl
  · show (compEnvC scope cl C X.env).scope.kind = _
    rw [hsc]
    exact hb.kind
  · unfold Gam.fnc at hx
    simp only [Gam.block, Bool.or_eq_true, beq_iff_eq] at hx
    rcases hx with hx | hx
    · right
      show (compEnvC scope cl C X.env).scope.names.lookup x = _
      rw [hsc, hn]
      exact hx
    · left
      show (scope.names.lookup x == some NameKind.cell) = true
      rw [hx]
      rfl
theorem Ok.blkOk (ok : Ok X Γ G k W) {scope : Scope} {own : List (Str × Nat)} (hb : BlkOk Γ.N (scOf Γ) scope own) : BlkOk X.N X.env.scope scope own :=
  ⟨hb.kind, hb.uniq, fun p hp => by rw [ok.N]; exact hb.ix p hp, fun y hy e => by
    have := hb.free y hy e
    rw [ok.sc]
    exact this, fun y hy e => by rw [ok.N]; exact hb.own y hy e⟩

/-- isinstance with types -/
theorem isi_one : CallR X (.builtin "isinstance") (fun xs H Q => ∃ x' S Q' t v c, xs = [v, .ty c] ∧ c ∈ clsNames ∧ RepV X.K X.w H S x' v ∧ RepH X.K X.w H S ∧ tyP S x' = some t ∧ Q' (.bl (isT t c)) S ∧ kV X.K X.w S H Q' Q) := by
  intro pins s σ H xs us Q I r h
  obtain ⟨x', S, Q', t, v, c, rfl, hc, rv, hh, ht, hq, k⟩ := h
  obtain ⟨u1, u2, rfl, r1, r2⟩ := vals2 r
  cases (show u2 = Value.type c from r2)
  obtain ⟨P, Z, p, hx⟩ := kit_rep I hh rv r1 ht
  exact PySem.W.kia_one Z I.kIn p (kit_isT ht hc) (hx _) fun tk => ⟨.bl _, H, I.tok tk, rfl, k _ _ (.bl _) S (by simp only [RepV]) hh Ext.refl hq⟩
theorem kitAny_isT {K : PySem.W.Frag} {S : Sto} {x : PV} {t : String} (e : tyP S x = some t) : ∀ {cs : List String}, (∀ c ∈ cs, c ∈ clsNames) → PySem.W.kitAny K (.type t) (cs.map Value.type) = some (cs.any (isT t))
  | [], _ => rfl
  | c :: cs, h => by
    rw [List.map_cons, List.any_cons]
    unfold PySem.W.kitAny
    rw [kit_isT e (h c (by simp))]
    cases q : isT t c with
    | true => rfl
    | false =>
      show PySem.W.kitAny K (.type t) (cs.map Value.type) = _
      rw [kitAny_isT e fun c hc => h c (by simp [hc])]
      rfl
theorem vals_ty : ∀ {cs : List String} {us : List Value}, Vals (cs.map V.ty) us → us = cs.map Value.type
  | [], _, .nil => rfl
  | c :: cs, _, .cons r t => by
    rw [List.map_cons, ← vals_ty t]
    exact congrArg (· :: _) r
theorem isi_many : CallR X (.builtin "isinstance") (fun xs H Q => ∃ (x' : PV) (S : Sto) (Q' : Post) (t : String) (v : V) (tp : Addr) (cs : List String), xs = [v, .ref tp] ∧ H tp = some (.tup (cs.map V.ty)) ∧ (∀ c ∈ cs, c ∈ clsNames) ∧ RepV X.K X.w H S x' v ∧ RepH X.K X.w H S ∧ tyP S x' = some t ∧ Q' (.bl (cs.any (isT t))) S ∧ kV X.K X.w S H Q' Q) := by
  intro pins s σ H xs us Q I r h
  obtain ⟨x', S, Q', t, v, tp, cs, rfl, hT, hc, rv, hh, ht, hq, k⟩ := h
  obtain ⟨u1, u2, rfl, r1, r2⟩ := vals2 r
  cases (show u2 = Value.ref tp from r2)
  obtain ⟨P, Z, p, hx⟩ := kit_rep I hh rv r1 ht
  obtain ⟨_, its, rvs, o, h1, h2, n, h3⟩ := (show ObjOk X.prog X.w H s.heap tp (.tup (cs.map V.ty)) from I.hok tp _ hT)
  have e3 := vals_ty rvs
  subst e3
  obtain ⟨oc, od, dt, sl⟩ := o
  simp only at h2 h3
  subst h2 h3
  exact PySem.W.kia_tup Z I.kIn p h1 (kitAny_isT ht hc) (hx _) fun tk => ⟨.bl _, H, I.tok tk, rfl, k _ _ (.bl _) S (by simp only [RepV]) hh Ext.refl hq⟩
/-- written types as values -/
theorem tys_pa (ok : Ok X Γ G k W) : ∀ {es : List Expr} {ts : List String}, tysOf Γ es = some ts → (∀ c ∈ ts, c ∈ clsNames) ∧ PA X es (fun _ H Q => Q (ts.map V.ty) H)
  | [], ts, h => by
    simp only [tysOf, Option.some.injEq] at h
    subst h
    exact ⟨fun c hc => by simp at hc, pa_nil⟩
  | e :: es, ts, h => by
    cases e <;> simp only [tysOf, reduceCtorEq] at h
    rename_i x p
    split at h
    · rename_i hb
      split at h
      · rename_i t ts' q1 q2
        cases h
        obtain ⟨g1, g2, g3⟩ := bi_split hb
        obtain ⟨h1, h2⟩ := tyOf_mem q1
        obtain ⟨h3, h4⟩ := tys_pa ok q2
        have hn : x ≠ "__name__" := by
          intro e
          rw [e, show tyOf ("__name__" : Str) = none from by decide] at q1
          cases q1
        refine ⟨fun c hc => ?_, PA.imp (pa_cons (pe_bltn (v := .ty t) (ok.glob g1) (ok.free x g2) h2 rfl hn g3) h4 (by rfl)) fun τ H Q q => q⟩
        rcases List.mem_cons.mp hc with hc | hc
        · rw [hc]; exact h1
        · exact h3 c hc
      · cases h
    · cases h

/-- an expression whose test is its value's truth -/
def isTst : Expr → Bool
  | .UnaryOp .Not _ _ => false
  | .BoolOp _ _ _ => false
  | _ => true
/-- a value's truth -/
def wpV (G : GE) (c : CE) (σ : Sl) (S : Sto) (Q : Bool → Sto → Prop) (E : XPost) : Prop := wpE G c σ S (fun x S1 => truD x S1 fun b => Q b S1) E
structure Snd (G : GE) (k n : Nat) : Prop where
  e : ∀ {Γ : Gam} {e : Expr} {c : CE}, compE n Γ e = some c → ∀ {X : Cx} {W : WX}, Ok X Γ G k W → PE X e (upE X.K X.w X.mg W (wpE G c)) ∧ (isTst e = true → PT X e (upT X.K X.w X.mg W (wpV G c)))
  es : ∀ {Γ : Gam} {es : List Expr} {c : CEs}, compEs n Γ es = some c → es.all noStar = true → ∀ {X : Cx} {W : WX}, Ok X Γ G k W → PA X es (upA X.K X.w X.mg W es.length (wpEs G c))
  l : ∀ {Γ : Gam} {ops : List CmpOp} {es : List Expr} {c : CCs}, compL n Γ ops es = some c → ∀ {X : Cx} {W : WX}, Ok X Γ G k W →
    ∀ (pos : Pos) (pins : List (Addr × Obj)) (s : Shared) (τ : L2.St) (H : Hp) (x : V) (v : Value) (x' : PV) (σ : Sl) (S : Sto) (E' : XPost), Inv X pins τ H s → RelV x v → RepV X.K X.w H S x' x → RepSt X.K X.w H S σ τ → RepH X.K X.w H S → kX X.K X.w X.mg S H τ E' W →
      (∀ (Q' : Post) (Q : VK), wpL G c x' σ S Q' E' → kV X.K X.w S H Q' Q → wpAny (model X.prog X.w) X.A (compareChain pos v ops (evalEach es X.env)) (EP X pins τ Q) X.xe s) ∧
      (∀ (Q' : Bool → Sto → Prop) (Q : Bool → Hp → Prop), wpL G c x' σ S (qB Q') E' → (∀ b H' S', RepH X.K X.w H' S' → Ext X.K S H S' H' → Q' b S' → Q b H') → wpAny (model X.prog X.w) X.A (testChain pos v ops (evalEach es X.env)) (TP X pins τ Q) X.xe s)
  b : ∀ {Γ : Gam} {op : BoolOp} {es : List Expr} {c : CE}, compB n Γ op es = some c → ∀ {X : Cx} {W : WX}, Ok X Γ G k W → ∀ pos, PE X (.BoolOp op es pos) (upE X.K X.w X.mg W (wpE G c))
  t : ∀ {Γ : Gam} {e : Expr} {c : CT}, compT n Γ e = some c → ∀ {X : Cx} {W : WX}, Ok X Γ G k W → PT X e (upT X.K X.w X.mg W (wpT G c))
  tb : ∀ {Γ : Gam} {op : BoolOp} {es : List Expr} {c : CT}, compTB n Γ op es = some c → ∀ {X : Cx} {W : WX}, Ok X Γ G k W → ∀ pos, PW X (.BoolOp op es pos) (upT X.K X.w X.mg W (wpT G c))
  o : ∀ {Γ : Gam} {e : Option Expr} {c : CO}, compO n Γ e = some c → ∀ {X : Cx} {W : WX}, Ok X Γ G k W → PO X e (upO X.K X.w X.mg W (wpO G c))
  f : ∀ {Γ : Gam} {es : List Expr} {c : COT}, compF n Γ es = some c → ∀ {X : Cx}, Ok X Γ G k (fun _ _ _ _ => False) → PTs X es (upT X.K X.w X.mg (fun _ _ _ _ => False) fun σ S Q _ => wpC G c σ S Q)
  i : ∀ {Γ : Gam} {e : Expr} {tp : Bool} {c : CI}, compI n Γ tp e = some c → ∀ {tg : Expr}, (tp = true → isTupE tg = true) → ∀ {X : Cx} {W : WX}, Ok X Γ G k W → PI X tg e (upI X.K X.w X.mg W (wpI G c))

/-- a plain expression as a test -/
theorem plain_t {e : Expr} {c : CE} (h : PE X e (upE X.K X.w X.mg W (wpE G c))) (he : ∀ whole, isTrue e X.env whole = (do let v ← whole; standAt e.pos; holding [v] (truthy v))) : PT X e (upT X.K X.w X.mg W (wpV G c)) := by
  refine PT.imp (pt_truth h he) fun τ H Q q => ?_
  obtain ⟨σ, S, Q', E', hs, hh, hc, hq, hx⟩ := q
  refine ⟨σ, S, _, E', hs, hh, hc, fun v H' v' S' rv hh' e' q => ?_, hx⟩
  obtain ⟨kk, h1, h2⟩ := tru_rep hh' rv q
  exact ⟨kk, h1, hq _ _ _ hh' e' h2⟩
end
end DL
end
section
set_option maxRecDepth 100000
set_option maxHeartbeats 2000000
/-! Soundness: expressions, case by case. -/
namespace DL
open PySem PySem.Spec L2
open PyProof.Rows hiding St

section
variable {K : PySem.W.Frag} {w : World} {mg : Mg} {W : WX} {G : GE}
theorem upE_one {f : PV → Sto → Post → Prop} {ca : CEf} {r : V → Hp → VK → Prop} {τ : L2.St} {H : Hp} {Q : VK}
    (h : upE K w mg W (fun σ S Q E => ca σ S (fun x S1 => f x S1 Q) E) τ H Q) (hr : ∀ x x' S H Q' Q, RepV K w H S x' x → RepH K w H S → f x' S Q' → kV K w S H Q' Q → r x H Q) :
    upE K w mg W ca τ H fun x H1 => r x H1 Q := by
  obtain ⟨σ, S, Q', E', hs, hh, hc, hq, hx⟩ := h
  exact ⟨σ, S, _, E', hs, hh, hc, fun x H1 x' S1 rx hh1 e1 q => hr x x' S1 H1 Q' Q rx hh1 q (hq.mono e1), hx⟩
theorem kV.frz {S : Sto} {H : Hp} {Q' : Post} {Q : VK} (m : Bool) (k : kV K w S H Q' Q) : kV K w S H (frzQ m Q') Q := fun v H' v' S' r hh e q => by
  cases m with
  | true => exact k v H' v' S' r hh e q
  | false =>
    cases v' with
    | ref p =>
      simp only [frzQ] at q
      simp only [RepV] at r
      subst r
      split at q
      · rename_i xs e1
        exact k _ H' _ _ (hh.frz e1) hh.del (e.trans Ext.del) q
      · rename_i ks xs e1
        exact k _ H' _ _ (hh.frzD e1) hh.del (e.trans Ext.del) q
      · exact k _ H' _ _ (by simp only [RepV]) hh e q
    | _ => exact k v H' _ S' r hh e q
theorem tCons_up {n : Nat} {ce : CE} {ces : CEs} {τ : L2.St} {H : Hp} {Q : List V → Hp → Prop} (h : upA K w mg W (n + 1) (wpEs G (.cons ce ces)) τ H Q) :
    tCons (upE K w mg W (wpE G ce)) (upA K w mg W n (wpEs G ces)) τ H Q := by
  obtain ⟨σ, S, Q', E', hs, hh, hc, hq, hx⟩ := h
  simp only [wpEs] at hc
  refine ⟨σ, S, _, E', hs, hh, hc, fun x H1 x' S1 rx hh1 e1 h1 => ?_, hx⟩
  exact ⟨σ, S1, _, E', hs.mono e1, hh1, h1, fun vs H2 vs' S2 hl rv hh2 e2 h2 => hq (x :: vs) H2 (x' :: vs') S2 (by rw [List.length_cons, hl]) (.cons (RepV.mono e2 _ _ rx) rv) hh2 (e1.trans e2) h2, hx.mono e1⟩
theorem wpL_tru : ∀ (c : CCs) (x : PV) (σ : Sl) (S : Sto) (Q : Bool → Sto → Prop) (E : XPost), wpL G c x σ S (fun v S => truD v S fun b => Q b S) E = wpL G c x σ S (qB Q) E
  | .one o e, x, σ, S, Q, E => by
    simp only [wpL]
    rfl
  | .more o e l, x, σ, S, Q, E => by
    simp only [wpL]
    congr 1
    funext y S2
    congr 1
    funext k
    cases k with
    | true => exact wpL_tru l y σ S2 Q E
    | false => rfl
end

section
variable {X : Cx} {Γ : Gam} {G : GE} {k n : Nat} {W : WX}
theorem snd_es (ih : Snd G k n) {es : List Expr} {c : CEs} (h : compEs (n + 1) Γ es = some c) (hs : es.all noStar = true) (ok : Ok X Γ G k W) : PA X es (upA X.K X.w X.mg W es.length (wpEs G c)) := by
  cases es with
  | nil =>
    simp only [compEs, Option.some.injEq] at h
    subst h
    refine PA.imp pa_nil fun τ H Q q => ?_
    obtain ⟨σ, S, Q', E', hs, hh, hc, hq, hx⟩ := q
    simp only [wpEs] at hc
    exact hq [] H [] S rfl .nil hh Ext.refl hc
  | cons e es =>
    simp only [compEs, Option.bind_eq_bind, Option.bind_eq_some_iff, Option.pure_def, Option.some.injEq] at h
    obtain ⟨ce, h1, ces, h2, rfl⟩ := h
    rw [List.all_cons, Bool.and_eq_true] at hs
    refine PA.imp (pa_cons (ih.e h1 ok).1 (ih.es h2 hs.2 ok) (by rw [star_ok (by rw [List.all_cons, hs.1, hs.2]; rfl), star_ok hs.2]; rfl)) fun τ H Q q => tCons_up q
theorem snd_o (ih : Snd G k n) {e : Option Expr} {c : CO} (h : compO (n + 1) Γ e = some c) (ok : Ok X Γ G k W) : PO X e (upO X.K X.w X.mg W (wpO G c)) := by
  cases e with
  | none =>
    simp only [compO, Option.some.injEq] at h
    subst h
    refine PO.imp po_none fun τ H Q q => ?_
    obtain ⟨σ, S, Q', E', hs, hh, hc, hq, hx⟩ := q
    simp only [wpO] at hc
    exact hq none H S hh Ext.refl hc
  | some e =>
    simp only [compO] at h
    obtain ⟨ce, h1, rfl⟩ := Option.map_eq_some_iff.mp h
    refine PO.imp (po_some (ih.e h1 ok).1) fun τ H Q q => ?_
    obtain ⟨σ, S, Q', E', hs, hh, hc, hq, hx⟩ := q
    simp only [wpO] at hc
    refine ⟨σ, S, _, E', hs, hh, hc, fun x H1 x' S1 rx hh1 e1 h1 => ?_, hx⟩
    cases x' with
    | int i =>
      simp only [RepV] at rx
      exact ⟨i, rx, hq _ _ _ hh1 e1 h1⟩
    | _ => exact h1.elim
theorem snd_f (ih : Snd G k n) {es : List Expr} {c : COT} (h : compF (n + 1) Γ es = some c) (ok : Ok X Γ G k (fun _ _ _ _ => False)) : PTs X es (upT X.K X.w X.mg (fun _ _ _ _ => False) fun σ S Q _ => wpC G c σ S Q) := by
  match es, h with
  | [], h =>
    simp only [compF, Option.some.injEq] at h
    subst h
    refine ⟨fun pins s σ H Q I q => pts_nil.run pins s σ H Q I ?_⟩
    obtain ⟨σ, S, Q', E', hs, hh, hc, hq, hx⟩ := q
    simp only [wpC] at hc
    exact hq true H S hh Ext.refl hc
  | [e], h =>
    simp only [compF] at h
    obtain ⟨ce, h1, rfl⟩ := Option.map_eq_some_iff.mp h
    refine pts_one (PT.imp (ih.t h1 ok) fun τ H Q q => ?_)
    obtain ⟨σ, S, Q', E', hs, hh, hc, hq, hx⟩ := q
    simp only [wpC] at hc
    exact ⟨σ, S, Q', _, hs, hh, hc, hq, kX.none⟩
  | _ :: _ :: _, h => simp [compF] at h
theorem upT_and {ca cb : CT} {τ : L2.St} {H : Hp} {Q : Bool → Hp → Prop} (q : upT X.K X.w X.mg W (wpT G (.and ca cb)) τ H Q) : tAnd (upT X.K X.w X.mg W (wpT G ca)) (upT X.K X.w X.mg W (wpT G cb)) τ H Q := by
  obtain ⟨σ, S, Q', E', hs, hh, hc, hq, hx⟩ := q
  simp only [wpT] at hc
  refine ⟨σ, S, _, E', hs, hh, hc, fun b H1 S1 hh1 e1 q => ?_, hx⟩
  cases b with
  | true => exact ite_tt ⟨σ, S1, Q', E', hs.mono e1, hh1, q, fun b H2 S2 hh2 e2 q2 => hq b H2 S2 hh2 (e1.trans e2) q2, hx.mono e1⟩
  | false => exact ite_ff (hq _ _ _ hh1 e1 q)
theorem upT_or {ca cb : CT} {τ : L2.St} {H : Hp} {Q : Bool → Hp → Prop} (q : upT X.K X.w X.mg W (wpT G (.or ca cb)) τ H Q) : tOr (upT X.K X.w X.mg W (wpT G ca)) (upT X.K X.w X.mg W (wpT G cb)) τ H Q := by
  obtain ⟨σ, S, Q', E', hs, hh, hc, hq, hx⟩ := q
  simp only [wpT] at hc
  refine ⟨σ, S, _, E', hs, hh, hc, fun b H1 S1 hh1 e1 q => ?_, hx⟩
  cases b with
  | true => exact ite_tt (hq _ _ _ hh1 e1 q)
  | false => exact ite_ff ⟨σ, S1, Q', E', hs.mono e1, hh1, q, fun b H2 S2 hh2 e2 q2 => hq b H2 S2 hh2 (e1.trans e2) q2, hx.mono e1⟩
theorem upE_and {ca cb : CE} {τ : L2.St} {H : Hp} {Q : VK} (q : upE X.K X.w X.mg W (wpE G (.and ca cb)) τ H Q) : tAndV (upE X.K X.w X.mg W (wpE G ca)) (upE X.K X.w X.mg W (wpE G cb)) τ H Q := by
  obtain ⟨σ, S, Q', E', hs, hh, hc, hq, hx⟩ := q
  simp only [wpE] at hc
  refine ⟨σ, S, _, E', hs, hh, hc, fun v H1 v' S1 rv hh1 e1 q => ?_, hx⟩
  cases v' with
  | bl b =>
    simp only [RepV] at rv
    refine ⟨b, rv, ?_⟩
    cases b with
    | true => exact ite_tt ⟨σ, S1, Q', E', hs.mono e1, hh1, q, hq.mono e1, hx.mono e1⟩
    | false => exact ite_ff (hq _ _ (.bl false) S1 (by simp only [RepV]) hh1 e1 q)
  | _ => exact q.elim
theorem upE_or {ca cb : CE} {τ : L2.St} {H : Hp} {Q : VK} (q : upE X.K X.w X.mg W (wpE G (.or ca cb)) τ H Q) : tOrV (upE X.K X.w X.mg W (wpE G ca)) (upE X.K X.w X.mg W (wpE G cb)) τ H Q := by
  obtain ⟨σ, S, Q', E', hs, hh, hc, hq, hx⟩ := q
  simp only [wpE] at hc
  refine ⟨σ, S, _, E', hs, hh, hc, fun v H1 v' S1 rv hh1 e1 q => ?_, hx⟩
  cases v' with
  | bl b =>
    simp only [RepV] at rv
    refine ⟨b, rv, ?_⟩
    cases b with
    | true => exact ite_tt (hq _ _ (.bl true) S1 (by simp only [RepV]) hh1 e1 q)
    | false => exact ite_ff ⟨σ, S1, Q', E', hs.mono e1, hh1, q, hq.mono e1, hx.mono e1⟩
  | _ => exact q.elim
theorem snd_b (ih : Snd G k n) {op : BoolOp} {es : List Expr} {c : CE} (h : compB (n + 1) Γ op es = some c) (ok : Ok X Γ G k W) (pos : Pos) : PE X (.BoolOp op es pos) (upE X.K X.w X.mg W (wpE G c)) := by
  match es, h with
  | [], h => simp [compB] at h
  | [e], h =>
    simp only [compB] at h
    exact pe_one (ih.e h ok).1
  | e :: e2 :: es, h =>
    simp only [compB, Option.bind_eq_bind, Option.bind_eq_some_iff, Option.pure_def, Option.some.injEq] at h
    obtain ⟨ce, h1, cs, h2, rfl⟩ := h
    cases op with
    | And => exact PE.imp (pe_and (ih.e h1 ok).1 (ih.b h2 ok pos)) fun τ H Q q => upE_and q
    | Or => exact PE.imp (pe_or (ih.e h1 ok).1 (ih.b h2 ok pos)) fun τ H Q q => upE_or q
theorem snd_tb (ih : Snd G k n) {op : BoolOp} {es : List Expr} {c : CT} (h : compTB (n + 1) Γ op es = some c) (ok : Ok X Γ G k W) (pos : Pos) : PW X (.BoolOp op es pos) (upT X.K X.w X.mg W (wpT G c)) := by
  match es, h with
  | [], h => simp [compTB] at h
  | [e], h =>
    have h' : compT n Γ e = some c := by simpa only [compTB] using h
    cases op with
    | And => exact pw_and1 (ih.t h' ok)
    | Or => exact pw_or1 (ih.t h' ok)
  | e :: e2 :: es, h =>
    simp only [compTB, Option.bind_eq_bind, Option.bind_eq_some_iff, Option.pure_def, Option.some.injEq] at h
    obtain ⟨ce, h1, cs, h2, rfl⟩ := h
    cases op with
    | And => exact PW.imp (pw_and (ih.t h1 ok) (ih.tb h2 ok pos)) fun τ H Q q => upT_and q
    | Or => exact PW.imp (pw_or (ih.t h1 ok) (ih.tb h2 ok pos)) fun τ H Q q => upT_or q
theorem upT_tst {c : CE} {e : Expr} (h : PT X e (upT X.K X.w X.mg W (wpV G c))) : PT X e (upT X.K X.w X.mg W (wpT G (.tst c))) := by
  refine PT.imp h fun τ H Q q => ?_
  obtain ⟨σ, S, Q', E', hs, hh, hc, hq, hx⟩ := q
  simp only [wpT] at hc
  exact ⟨σ, S, Q', E', hs, hh, hc, hq, hx⟩
theorem snd_t (ih : Snd G k n) {e : Expr} {c : CT} (h : compT (n + 1) Γ e = some c) (ok : Ok X Γ G k W) : PT X e (upT X.K X.w X.mg W (wpT G c)) := by
  have base : isTst e = true → (compE n Γ e).map CT.tst = some c → PT X e (upT X.K X.w X.mg W (wpT G c)) := fun hi h => by
    obtain ⟨ce, h1, rfl⟩ := Option.map_eq_some_iff.mp h
    exact upT_tst ((ih.e h1 ok).2 hi)
  cases e with
  | UnaryOp op a pos =>
    cases op with
    | Not =>
      simp only [compT] at h
      obtain ⟨ce, h1, rfl⟩ := Option.map_eq_some_iff.mp h
      refine PT.imp (pt_not (ih.t h1 ok)) fun τ H Q q => ?_
      obtain ⟨σ, S, Q', E', hs, hh, hc, hq, hx⟩ := q
      simp only [wpT] at hc
      exact ⟨σ, S, _, E', hs, hh, hc, fun b H1 S1 hh1 e1 q => hq _ _ _ hh1 e1 q, hx⟩
    | _ => exact base rfl (by simpa only [compT] using h)
  | BoolOp op es pos =>
    simp only [compT] at h
    exact (ih.tb h ok pos).pt
  | _ => exact base rfl (by simpa only [compT] using h)
/-- a chain of comparisons -/
theorem snd_l (ih : Snd G k n) {ops : List CmpOp} {es : List Expr} {c : CCs} (h : compL (n + 1) Γ ops es = some c) (ok : Ok X Γ G k W)
    (pos : Pos) (pins : List (Addr × Obj)) (s : Shared) (τ : L2.St) (H : Hp) (x : V) (v : Value) (x' : PV) (σ : Sl) (S : Sto) (E' : XPost) (I : Inv X pins τ H s) (rv : RelV x v) (rx : RepV X.K X.w H S x' x) (hs : RepSt X.K X.w H S σ τ) (hh : RepH X.K X.w H S) (hx : kX X.K X.w X.mg S H τ E' W) :
      (∀ (Q' : Post) (Q : VK), wpL G c x' σ S Q' E' → kV X.K X.w S H Q' Q → wpAny (model X.prog X.w) X.A (compareChain pos v ops (evalEach es X.env)) (EP X pins τ Q) X.xe s) ∧
      (∀ (Q' : Bool → Sto → Prop) (Q : Bool → Hp → Prop), wpL G c x' σ S (qB Q') E' → (∀ b H' S', RepH X.K X.w H' S' → Ext X.K S H S' H' → Q' b S' → Q b H') → wpAny (model X.prog X.w) X.A (testChain pos v ops (evalEach es X.env)) (TP X pins τ Q) X.xe s) := by
  have hu := ok.hu
  match ops, es, h with
  | [op], [e], h =>
    simp only [compL] at h
    obtain ⟨ce, h1, rfl⟩ := Option.map_eq_some_iff.mp h
    have pe := (ih.e h1 ok).1
    refine ⟨fun Q' Q hc hq => ?_, fun Q' Q hc hq => ?_⟩
    · simp only [wpL] at hc
      refine chain_last (thn (pe.run pins s τ H (fun y H1 => rUp2 X.K X.w (cmpP (opC op)) x y H1 Q) I ⟨σ, S, _, E', hs, hh, hc, fun y H1 y' S1 ry hh1 e1 q => ⟨x', y', S1, Q', RepV.mono e1 _ _ rx, ry, hh1, q, hq.mono e1⟩, hx⟩) fun u s1 ⟨y, H1, I1, r1, q1⟩ => ?_)
      exact cmp_ok hu op pins s1 τ H1 x y v u Q I1 rv r1 q1
    · simp only [wpL] at hc
      refine test_last (thn (pe.run pins s τ H (fun y H1 => rUp2 X.K X.w (cmpP (opC op)) x y H1 fun z H2 => ∃ b, z = .bl b ∧ Q b H2) I ⟨σ, S, _, E', hs, hh, hc, fun y H1 y' S1 ry hh1 e1 q => ⟨x', y', S1, qB Q', RepV.mono e1 _ _ rx, ry, hh1, q, fun z H2 z' S2 rz hh2 e2 q2 => ?_⟩, hx⟩) fun u s1 ⟨y, H1, I1, r1, q1⟩ => ?_)
      · cases z' with
        | bl b =>
          simp only [RepV] at rz
          exact ⟨b, rz, hq _ _ _ hh2 (e1.trans e2) q2⟩
        | _ => exact q2.elim
      · refine thn (cmp_ok hu op pins s1 τ H1 x y v u _ I1 rv r1 q1) fun c s2 ⟨z, H2, I2, r2, b, e, q2⟩ => ?_
        subst e
        cases r2
        exact wpAny_truthy_bool ⟨H2, I2, q2⟩
  | op :: op2 :: ops, e :: e2 :: es, h =>
    simp only [compL, Option.bind_eq_bind, Option.bind_eq_some_iff, Option.pure_def, Option.some.injEq] at h
    obtain ⟨ce, h1, cl, h2, rfl⟩ := h
    have pe := (ih.e h1 ok).1
    have key : ∀ {Q' : Post}, wpL G (.more (opC op) ce cl) x' σ S Q' E' → ∀ {R : Value → Value → Shared → Prop},
        (∀ u s1 y H1 y' S1, Inv X pins τ H1 s1 → RelV y u → RepV X.K X.w H1 S1 y' y → RepSt X.K X.w H1 S1 σ τ → RepH X.K X.w H1 S1 → Ext X.K S H S1 H1 → kX X.K X.w X.mg S1 H1 τ E' W → wpL G cl y' σ S1 Q' E' → R u (.bool true) s1) →
        (∀ u s1 H1 S1, Inv X pins τ H1 s1 → RepH X.K X.w H1 S1 → Ext X.K S H S1 H1 → Q' (.bl false) S1 → R u (.bool false) s1) →
        wpAny (model X.prog X.w) X.A (eval e X.env) (fun u s1 => wpAny (model X.prog X.w) X.A (compareOp op v u) (fun c s2 => R u c s2) X.xe s1) X.xe s := by
      intro Q' hc R hT hF
      simp only [wpL] at hc
      refine thn (pe.run pins s τ H (fun y H1 => rUp2 X.K X.w (cmpP (opC op)) x y H1 fun z H2 => ∃ y' S2, RepV X.K X.w H2 S2 y' y ∧ RepSt X.K X.w H2 S2 σ τ ∧ RepH X.K X.w H2 S2 ∧ Ext X.K S H S2 H2 ∧ kX X.K X.w X.mg S2 H2 τ E' W ∧
          ((z = .bl true ∧ wpL G cl y' σ S2 Q' E') ∨ (z = .bl false ∧ Q' (.bl false) S2))) I ⟨σ, S, _, E', hs, hh, hc, fun y H1 y' S1 ry hh1 e1 q => ⟨x', y', S1, qB fun b S3 => match b with
            | true => wpL G cl y' σ S3 Q' E'
            | false => Q' (.bl false) S3, RepV.mono e1 _ _ rx, ry, hh1, q, fun z H2 z' S2 rz hh2 e2 q2 => ?_⟩, hx⟩) fun u s1 ⟨y, H1, I1, r1, q1⟩ => ?_
      · cases z' with
        | bl b =>
          simp only [RepV] at rz
          refine ⟨y', S2, RepV.mono e2 _ _ ry, hs.mono (e1.trans e2), hh2, e1.trans e2, hx.mono (e1.trans e2), ?_⟩
          cases b with
          | true => exact .inl ⟨rz, q2⟩
          | false => exact .inr ⟨rz, q2⟩
        | _ => exact q2.elim
      · refine thn (cmp_ok hu op pins s1 τ H1 x y v u _ I1 rv r1 q1) fun c s2 ⟨z, H2, I2, r2, y', S2, g1, g2, g3, g4, g5, g6⟩ => ?_
        rcases g6 with ⟨e, q⟩ | ⟨e, q⟩
        · subst e
          cases r2
          exact hT u s2 y H2 y' S2 I2 r1 g1 g2 g3 g4 g5 q
        · subst e
          cases r2
          exact hF u s2 H2 S2 I2 g3 g4 q
    refine ⟨fun Q' Q hc hq => ?_, fun Q' Q hc hq => ?_⟩
    · refine chain_link (thn (key hc (R := fun u c s2 => wpAny (model X.prog X.w) X.A (truthy c) (fun t s3 => if t then wpAny (model X.prog X.w) X.A (compareChain pos u (op2 :: ops) (eval e2 X.env :: evalEach es X.env)) (EP X pins τ Q) X.xe s3 else EP X pins τ Q c s3) X.xe s2) (fun u s1 y H1 y' S1 I1 ru ry hs1 hh1 e1 hx1 q => ?_) fun u s1 H1 S1 I1 hh1 e1 q => ?_) fun u s1 q => q)
      · refine wpAny_truthy_bool (ite_tt ?_)
        exact (ih.l h2 ok pos pins s1 τ H1 y u y' σ S1 E' I1 ru ry hs1 hh1 hx1).1 Q' Q q (hq.mono e1)
      · exact wpAny_truthy_bool (ite_ff ⟨.bl false, H1, I1, rfl, hq _ _ (.bl false) S1 (by simp only [RepV]) hh1 e1 q⟩)
    · refine test_link (thn (key hc (R := fun u c s2 => wpAny (model X.prog X.w) X.A (truthy c) (fun t s3 => if t then wpAny (model X.prog X.w) X.A (testChain pos u (op2 :: ops) (eval e2 X.env :: evalEach es X.env)) (TP X pins τ Q) X.xe s3 else TP X pins τ Q false s3) X.xe s2) (fun u s1 y H1 y' S1 I1 ru ry hs1 hh1 e1 hx1 q => ?_) fun u s1 H1 S1 I1 hh1 e1 q => ?_) fun u s1 q => q)
      · refine wpAny_truthy_bool (ite_tt ?_)
        exact (ih.l h2 ok pos pins s1 τ H1 y u y' σ S1 E' I1 ru ry hs1 hh1 hx1).2 Q' Q q fun b H' S' r e' q' => hq b H' S' r (e1.trans e') q'
      · exact wpAny_truthy_bool (ite_ff ⟨H1, I1, hq false H1 S1 hh1 e1 q⟩)
  | [], _, h => simp [compL] at h
  | [_], [], h => simp [compL] at h
  | [_], _ :: _ :: _, h =>
    simp only [compL, Option.bind_eq_bind, Option.bind_eq_some_iff] at h
    obtain ⟨_, _, _, h2, _⟩ := h
    cases n <;> simp [compL] at h2
  | _ :: _ :: _, [], h => simp [compL] at h
  | _ :: _ :: _, [_], h =>
    simp only [compL, Option.bind_eq_bind, Option.bind_eq_some_iff] at h
    obtain ⟨_, _, _, h2, _⟩ := h
    cases n <;> simp [compL] at h2
end
end DL
end
section
set_option maxRecDepth 100000
set_option maxHeartbeats 2000000
/-! Soundness: expressions, case by case, on. -/
namespace DL
open PySem PySem.Spec L2
open PyProof.Rows hiding St

section
variable {X : Cx} {Γ : Gam} {G : GE} {k n : Nat} {W : WX}
abbrev GoodE (G : GE) (X : Cx) (W : WX) (e : Expr) (c : CE) : Prop := PE X e (upE X.K X.w X.mg W (wpE G c)) ∧ (isTst e = true → PT X e (upT X.K X.w X.mg W (wpV G c)))
theorem good_plain {e : Expr} {c : CE} (h : PE X e (upE X.K X.w X.mg W (wpE G c))) (he : ∀ whole, isTrue e X.env whole = (do let v ← whole; standAt e.pos; holding [v] (truthy v))) : GoodE G X W e c := ⟨h, fun _ => plain_t h he⟩

theorem good_name {x : Str} {p : Pos} {c : CE} (h : compE (n + 1) Γ (.Name x p) = some c) (ok : Ok X Γ G k W) : GoodE G X W (.Name x p) c := by
  refine good_plain ?_ fun _ => rfl
  simp only [compE] at h
  split at h
  · cases h
  rename_i hd
  have hd : dbg x = false := by simpa using hd
  split at h
  · rename_i hv
    split at h
    · cases h
    rename_i hcd
    have hcd : cdc x = false := by simpa using hcd
    obtain ⟨i, hi, rfl⟩ := Option.map_eq_some_iff.mp h
    refine PE.imp (pe_var (i := i) (by rw [ok.N]; exact slotOf_ok hi) (ok.visN hv) hd hcd) fun τ H Q q => ?_
    obtain ⟨σ, S, Q', E', hs, hh, hc, hq, hx⟩ := q
    simp only [wpE] at hc
    split at hc
    · rename_i v e
      obtain ⟨u, h1, h2⟩ := hs.get e
      exact ⟨u, h1, hq _ _ _ _ h2 hh Ext.refl hc⟩
    · exact hc.elim
  · split at h
    · rename_i hg
      obtain ⟨v, hv, rfl⟩ := Option.map_eq_some_iff.mp h
      obtain ⟨u, vv, h1, h2, h3⟩ := ok.cst x v hv
      refine PE.imp (pe_glob (ok.glob hg) h1 h2 hd) fun τ H Q q => ?_
      obtain ⟨σ, S, Q', E', hs, hh, hc, hq, hx⟩ := q
      simp only [wpE] at hc
      exact hq _ _ _ _ (h3 H S) hh Ext.refl hc
    · cases h
theorem up_cst {v : PV} {u : V} {τ : L2.St} {H : Hp} {Q : VK} (hr : ∀ S, RepV X.K X.w H S v u) (q : upE X.K X.w X.mg W (wpE G (.cst v)) τ H Q) : Q u H := by
  obtain ⟨σ, S, Q', E', hs, hh, hc, hq, hx⟩ := q
  simp only [wpE] at hc
  exact hq _ _ _ _ (hr S) hh Ext.refl hc
theorem good_cst {cc : Const} {j : Nat} {p : Pos} {c : CE} (h : compE (n + 1) Γ (.Constant cc j p) = some c) : GoodE G X W (.Constant cc j p) c := by
  refine good_plain ?_ fun _ => rfl
  cases cc <;> simp only [compE, reduceCtorEq, Option.some.injEq] at h <;> subst h
  · exact PE.imp pe_non fun τ H Q q => up_cst (fun S => by simp only [RepV]) q
  · exact PE.imp pe_bl fun τ H Q q => up_cst (fun S => by simp only [RepV]) q
  · exact PE.imp pe_int fun τ H Q q => up_cst (fun S => by simp only [RepV]) q
  · exact PE.imp pe_str fun τ H Q q => up_cst (fun S => by simp only [RepV]) q
theorem good_bin (ih : Snd G k n) {a b : Expr} {op : Operator} {p : Pos} {c : CE} (h : compE (n + 1) Γ (.BinOp a op b p) = some c) (ok : Ok X Γ G k W) : GoodE G X W (.BinOp a op b p) c := by
  refine good_plain ?_ fun _ => rfl
  simp only [compE, Option.bind_eq_bind, Option.bind_eq_some_iff, Option.pure_def, Option.some.injEq] at h
  obtain ⟨o, ho, ca, h1, cb, h2, rfl⟩ := h
  exact PE.imp (pe_op (bin_ok o op ho (Γ.own.contains p)) (ih.e h1 ok).1 (ih.e h2 ok).1) fun τ H Q q => tOp_up (by simpa only [wpE] using q)
theorem good_un (ih : Snd G k n) {a : Expr} {op : UnaryOp} {p : Pos} {c : CE} (h : compE (n + 1) Γ (.UnaryOp op a p) = some c) (ok : Ok X Γ G k W) : GoodE G X W (.UnaryOp op a p) c := by
  cases op <;> simp only [compE, reduceCtorEq] at h
  · obtain ⟨ca, h1, rfl⟩ := Option.map_eq_some_iff.mp h
    refine ⟨PE.imp (pe_notT (ih.e h1 ok).1) fun τ H Q q => ?_, fun hi => by cases hi⟩
    obtain ⟨σ, S, Q', E', hs, hh, hc, hq, hx⟩ := q
    simp only [wpE] at hc
    refine ⟨σ, S, _, E', hs, hh, hc, fun v H1 v' S1 rv hh1 e1 q => ?_, hx⟩
    obtain ⟨kk, t1, t2⟩ := tru_rep hh1 rv q
    exact ⟨kk, t1, hq _ _ (.bl (!kk)) S1 (by simp only [RepV]) hh1 e1 t2⟩
  · obtain ⟨ca, h1, rfl⟩ := Option.map_eq_some_iff.mp h
    refine good_plain (PE.imp (pe_un un_neg (ih.e h1 ok).1) fun τ H Q q => ?_) fun _ => rfl
    obtain ⟨σ, S, Q', E', hs, hh, hc, hq, hx⟩ := q
    simp only [wpE] at hc
    refine ⟨σ, S, _, E', hs, hh, hc, fun v H1 v' S1 rv hh1 e1 q => ?_, hx⟩
    cases v' with
    | int i =>
      simp only [RepV] at rv
      exact ⟨i, rv, hq _ _ (.int (-i)) S1 (by simp only [RepV]) hh1 e1 q⟩
    | _ => exact q.elim
theorem good_cmp (ih : Snd G k n) {a : Expr} {ops : List CmpOp} {es : List Expr} {p : Pos} {c : CE} (h : compE (n + 1) Γ (.Compare a ops es p) = some c) (ok : Ok X Γ G k W) : GoodE G X W (.Compare a ops es p) c := by
  match ops, es, h with
  | [op], [b], h =>
    simp only [compE] at h
    split at h
    · cases h
    rename_i hm
    have hm : behindInMarks op b = false := by simpa using hm
    simp only [Option.bind_eq_bind, Option.bind_eq_some_iff, Option.pure_def, Option.some.injEq] at h
    obtain ⟨ca, h1, cb, h2, rfl⟩ := h
    refine ⟨PE.imp (pe_cmpR (cmp_ok ok.hu op) (ih.e h1 ok).1 (ih.e h2 ok).1 hm) fun τ H Q q => tOp_up (by simp only [wpE] at q; exact q), fun _ => PT.imp (pt_cmpR (cmp_ok ok.hu op) (ih.e h1 ok).1 (ih.e h2 ok).1 hm) fun τ H Q q => tTest_up ?_⟩
    obtain ⟨σ, S, Q', E', hs, hh, hc, hq, hx⟩ := q
    refine ⟨σ, S, Q', E', hs, hh, ?_, hq, hx⟩
    simpa only [wpV, wpE, truD] using hc
  | op :: op2 :: ops, b :: b2 :: bs, h =>
    simp only [compE] at h
    split at h
    · cases h
    rename_i hm
    have hm : lastMarks (op :: op2 :: ops) (b :: b2 :: bs) = false := by simpa using hm
    simp only [Option.bind_eq_bind, Option.bind_eq_some_iff, Option.pure_def, Option.some.injEq] at h
    obtain ⟨ca, h1, cl, h2, rfl⟩ := h
    have pe := (ih.e h1 ok).1
    refine ⟨⟨fun pins s τ H Q I q => ?_⟩, fun _ => ⟨fun pins s τ H Q I q => ?_⟩⟩
    · obtain ⟨σ, S, Q', E', hs, hh, hc, hq, hx⟩ := q
      simp only [wpE] at hc
      refine Compare_chain (thn (pe.run pins s τ H (fun x H1 => ∃ x' S1, RepV X.K X.w H1 S1 x' x ∧ RepSt X.K X.w H1 S1 σ τ ∧ RepH X.K X.w H1 S1 ∧ Ext X.K S H S1 H1 ∧ wpL G cl x' σ S1 Q' E') I ⟨σ, S, _, E', hs, hh, hc, fun x H1 x' S1 rx hh1 e1 q => ⟨x', S1, rx, hs.mono e1, hh1, e1, q⟩, hx⟩) fun v s1 ⟨x, H1, I1, r1, x', S1, g1, g2, g3, g4, g5⟩ => ?_) hm
      exact (ih.l h2 ok p pins s1 τ H1 x v x' σ S1 E' I1 r1 g1 g2 g3 (hx.mono g4)).1 Q' Q g5 (hq.mono g4)
    · obtain ⟨σ, S, Q', E', hs, hh, hc, hq, hx⟩ := q
      simp only [wpV, wpE] at hc
      refine isTrue_chain (thn (pe.run pins s τ H (fun x H1 => ∃ x' S1, RepV X.K X.w H1 S1 x' x ∧ RepSt X.K X.w H1 S1 σ τ ∧ RepH X.K X.w H1 S1 ∧ Ext X.K S H S1 H1 ∧ wpL G cl x' σ S1 (qB Q') E') I ⟨σ, S, _, E', hs, hh, hc, fun x H1 x' S1 rx hh1 e1 q => ⟨x', S1, rx, hs.mono e1, hh1, e1, by rw [← wpL_tru]; exact q⟩, hx⟩) fun v s1 ⟨x, H1, I1, r1, x', S1, g1, g2, g3, g4, g5⟩ => ?_) hm
      exact (ih.l h2 ok p pins s1 τ H1 x v x' σ S1 E' I1 r1 g1 g2 g3 (hx.mono g4)).2 Q' Q g5 fun b H' S' r e' q' => hq b H' S' r (g4.trans e') q'
  | [], _, h => simp [compE] at h
  | [_], [], h => simp [compE] at h
  | [_], _ :: _ :: _, h => simp [compE] at h
  | _ :: _ :: _, [], h => simp [compE] at h
  | _ :: _ :: _, [_], h => simp [compE] at h
theorem good_sub (ih : Snd G k n) {a b : Expr} {p : Pos} {c : CE} (h : compE (n + 1) Γ (.Subscript a b p) = some c) (ok : Ok X Γ G k W) : GoodE G X W (.Subscript a b p) c := by
  refine good_plain ?_ fun _ => rfl
  have base : noSlice b = true → (do
        let ca ← compE n Γ a
        let cb ← compE n Γ b
        return CE.idx ca cb) = some c → PE X (.Subscript a b p) (upE X.K X.w X.mg W (wpE G c)) := fun hn h => by
    simp only [Option.bind_eq_bind, Option.bind_eq_some_iff, Option.pure_def, Option.some.injEq] at h
    obtain ⟨ca, h1, cb, h2, rfl⟩ := h
    exact PE.imp (pe_ix idx_ok (ih.e h1 ok).1 (ih.e h2 ok).1 (noSlice_ix hn)) fun τ H Q q => tOp_up (by simpa only [wpE] using q)
  cases b with
  | Slice lo hi step p2 =>
    cases step with
    | some _ => simp [compE] at h
    | none =>
      simp only [compE, Option.bind_eq_bind, Option.bind_eq_some_iff, Option.pure_def, Option.some.injEq] at h
      obtain ⟨ca, h1, cl, h2, ch, h3, rfl⟩ := h
      refine PE.imp (pe_slice (slc_ok (Γ.own.contains p)) (ih.e h1 ok).1 (ih.o h2 ok) (ih.o h3 ok)) fun τ H Q q => ?_
      obtain ⟨σ, S, Q', E', hs, hh, hc, hq, hx⟩ := q
      simp only [wpE] at hc
      refine ⟨σ, S, _, E', hs, hh, hc, fun x H1 x' S1 rx hh1 e1 q1 => ?_, hx⟩
      refine ⟨σ, S1, _, E', hs.mono e1, hh1, q1, fun lo H2 S2 hh2 e2 q2 => ?_, hx.mono e1⟩
      refine ⟨σ, S2, _, E', hs.mono (e1.trans e2), hh2, q2, fun hi H3 S3 hh3 e3 q3 => ?_, hx.mono (e1.trans e2)⟩
      exact ⟨x', S3, Q', RepV.mono (e2.trans e3) _ _ rx, hh3, q3, hq.mono (e1.trans (e2.trans e3))⟩
  | _ => exact base rfl (by simpa [compE, noSlice] using h)
theorem good_tup (ih : Snd G k n) {es : List Expr} {kk : Nat} {p : Pos} {c : CE} (h : compE (n + 1) Γ (.Tuple es kk p) = some c) (ok : Ok X Γ G k W) : GoodE G X W (.Tuple es kk p) c := by
  refine good_plain ?_ fun _ => rfl
  simp only [compE] at h
  split at h
  · rename_i hs
    obtain ⟨cs, h1, rfl⟩ := Option.map_eq_some_iff.mp h
    refine PE.imp (pe_tup (ih.es h1 hs ok)) fun τ H Q q => ?_
    obtain ⟨σ, S, Q', E', hs, hh, hc, hq, hx⟩ := q
    simp only [wpE] at hc
    exact ⟨σ, S, _, E', hs, hh, hc, fun vs H1 vs' S1 hl rv hh1 e1 q => ⟨by rw [← rv.length]; exact q.1, new_tup hh1 rv (hq.mono e1) q.2⟩, hx⟩
  · cases h
theorem good_lst (ih : Snd G k n) {es : List Expr} {p : Pos} {c : CE} (h : compE (n + 1) Γ (.List es p) = some c) (ok : Ok X Γ G k W) : GoodE G X W (.List es p) c := by
  refine good_plain ?_ fun _ => rfl
  simp only [compE] at h
  split at h
  · rename_i hs
    obtain ⟨cs, h1, rfl⟩ := Option.map_eq_some_iff.mp h
    refine PE.imp (pe_lst (ih.es h1 hs ok)) fun τ H Q q => ?_
    obtain ⟨σ, S, Q', E', hs, hh, hc, hq, hx⟩ := q
    simp only [wpE] at hc
    exact ⟨σ, S, _, E', hs, hh, hc, fun vs H1 vs' S1 hl rv hh1 e1 q => ⟨by rw [← rv.length]; exact q.1, newL_ok hh1 rv (hq.mono e1) q.2⟩, hx⟩
  · cases h

theorem dct_empty {P : Program} {w : World} {H : Hp} (h : Heap) (hb : sysModules < h.objs.size) : ObjOk P w H (h.push { cls := .type "dict", data := .dict #[] }) h.objs.size (.ext (DPhi h.objs.size [])) :=
  ⟨⟨beq_eq_false_iff_ne.mpr (Ne.symm (Nat.ne_of_lt hb)), _, #[], 0, Heap.get?_push_size _ rfl, ⟨rfl, rfl, rfl⟩, rfl, rfl⟩, ⟨_, Heap.get?_push_size _ rfl⟩, fun h1 h2 ⟨n, o, arr, ep, e, x, d, m⟩ k => ⟨n, o, arr, ep, k o e, x, d, m⟩⟩
theorem good_dct {pos : Pos} {c : CE} (h : compE (n + 1) Γ (.Dict [] [] pos) = some c) : GoodE G X W (.Dict [] [] pos) c := by
  refine good_plain ?_ fun _ => rfl
  simp only [compE, Option.some.injEq] at h
  subst h
  refine ⟨fun pins s τ H Q I q => ?_⟩
  obtain ⟨σ, S, Q', E', hs, hh, hc, hq, hx⟩ := q
  simp only [wpE] at hc
  have hn : H s.heap.objs.size = none := I.hok.fresh (Nat.le_refl _)
  refine wpAny_Dict_empty ⟨.ref s.heap.objs.size, _, I.laid (a := s.heap.objs.size) (o := .ext (DPhi s.heap.objs.size [])) (t' := s.toks) (fun _ _ q => Heap.get?_push_of_some _ q) (Nat.le_refl _) (dct_empty s.heap I.big), rfl, ?_⟩
  unfold newD at hc
  split at hc
  · exact hq _ _ (.ref _) _ (by simp only [RepV]) (hh.newS (m := .dct [] []) hn ⟨[], [], [], upd_same, rfl, .nil, .nil, .nil, .nil⟩) (Ext.newS hn) (hc _ (hh.free hn))
  · refine hq _ _ (.dct [] []) S ?_ (hh.new hn) (Ext.new hn) hc
    simp only [RepV]
    exact ⟨_, [], [], [], rfl, upd_same, hh.free hn, rfl, .nil, .nil, .nil, .nil⟩

/-! ### calls -/
theorem noStar_cons {e : Expr} {es : List Expr} {env : Env} {pos : Pos} (h : (e :: es).all noStar = true) : starEach (e :: es) env = (false, eval e env) :: starEach es env ∧ (backTo pos (starEach es env)).any (·.1) = false := by
  have h2 : es.all noStar = true := by rw [List.all_cons, Bool.and_eq_true] at h; exact h.2
  exact ⟨by rw [star_ok h, star_ok h2]; rfl, (back_plain h2).1⟩
theorem good_bi {x : Str} {px pos : Pos} {e : Expr} {es : List Expr} {b : Bi} {m : Bool} {cs : CEs} (hb : biOf x (e :: es).length = some b) (ok : Ok X Γ G k W) (hg : Γ.glob x = true) (hf : Γ.free.contains x = true) (hd : dbg x = false)
    (ha : PA X (e :: es) (upA X.K X.w X.mg W (e :: es).length (wpEs G cs))) (hs : (e :: es).all noStar = true) : PE X (.Call (.Name x px) (e :: es) [] pos) (upE X.K X.w X.mg W (wpE G (.bi b m cs))) := by
  obtain ⟨b1, b2, b3⟩ := biOf_boot hb
  obtain ⟨s1, s2⟩ := noStar_cons (env := X.env) (pos := pos) hs
  have key : ∀ {τ : L2.St} {H : Hp} {Q : VK}, upE X.K X.w X.mg W (wpE G (.bi b m cs)) τ H Q → tCB (rUpN X.K X.w (biD b m)) (upA X.K X.w X.mg W (e :: es).length (wpEs G cs)) τ H Q := fun {τ H Q} q => by
    obtain ⟨σ, S, Q', E', hs, hh, hc, hq, hx⟩ := q
    simp only [wpE] at hc
    exact ⟨σ, S, _, E', hs, hh, hc, fun vs H1 vs' S1 hl rv hh1 e1 q => ⟨vs', S1, Q', rv, hh1, q, hq.mono e1⟩, hx⟩
  have hc := bi_ok (X := X) ok.calm b m
  rcases b3 with ⟨id, b3⟩ | ⟨T, b3⟩
  · rw [b3] at hc b1
    exact PE.imp (pe_callB hc (ok.glob hg) (ok.free x hf) b1 ha b2 hd s1 s2) fun τ H Q q => key q
  · rw [b3] at hc b1
    exact PE.imp (pe_callTy hc (ok.glob hg) (ok.free x hf) b1 ha b2 hd s1 s2) fun τ H Q q => key q
theorem good_own {x : Str} {px pos : Pos} {e : Expr} {es : List Expr} {i m : Nat} {mm : Bool} {cs : CEs} (hf : Γ.fns.lookup x = some (i, m)) (hm : (e :: es).length = m) (ok : Ok X Γ G k W) (hg : Γ.glob x = true) (hd : dbg x = false)
    (ha : PA X (e :: es) (upA X.K X.w X.mg W (e :: es).length (wpEs G cs))) (hs : (e :: es).all noStar = true) : PE X (.Call (.Name x px) (e :: es) [] pos) (upE X.K X.w X.mg W (wpE G (.call i mm cs))) := by
  obtain ⟨s1, s2⟩ := noStar_cons (env := X.env) (pos := pos) hs
  obtain ⟨a, fd, ps, f1, f2, f3, f4, f5⟩ := ok.fns x i m hf
  refine PE.imp (pe_callS f5 ok.room (ok.glob hg) f1 f2 f3 (fun σ => passAt ok.tk σ) ha hd s1 s2) fun τ H Q q => ?_
  obtain ⟨σ, S, Q', E', hs, hh, hc, hq, hx⟩ := q
  simp only [wpE] at hc
  refine ⟨σ, S, _, E', hs, hh, hc, fun vs H1 vs' S1 hl rv hh1 e1 q => ⟨hl.trans hm, vs', S1, _, E', rv, hh1, q, (hq.mono e1).frz mm, fun x cls d H' S' r hr e' q' => ?_⟩, hx⟩
  exact hx x cls d H' S' r hr (e1.trans e') q'
theorem good_isi {a t : Expr} {px pos : Pos} {x : Str} {tys : List String} {c : CE} (hx : x = ("isinstance" : Str)) (ok : Ok X Γ G k W) (hg : Γ.glob x = true) (hf : Γ.free.contains x = true) (ha : PE X a (upE X.K X.w X.mg W (wpE G c))) (hs : [a, t].all noStar = true)
    (ht : (∃ ty, tys = [ty] ∧ ty ∈ clsNames ∧ PE X t (tC (.ty ty))) ∨ ((∀ c ∈ tys, c ∈ clsNames) ∧ tys.length ≤ sizeLine ∧ PE X t (tTup (fun _ H Q => Q (tys.map V.ty) H)))) : PE X (.Call (.Name x px) [a, t] [] pos) (upE X.K X.w X.mg W (wpE G (.isi c tys))) := by
  obtain ⟨s1, s2⟩ := noStar_cons (env := X.env) (pos := pos) hs
  have hs2 : [t].all noStar = true := by
    rw [List.all_cons, Bool.and_eq_true] at hs
    exact hs.2
  obtain ⟨s3, s4⟩ := noStar_cons (env := X.env) (pos := pos) hs2
  subst hx
  have hboot : bootBuiltins ("isinstance" : Str) = some (.builtin "isinstance") := rfl
  rcases ht with ⟨ty, rfl, h1, h2⟩ | ⟨h1, hz, h2⟩
  · refine PE.imp (pe_callB isi_one (ok.glob hg) (ok.free _ hf) hboot (pa_cons ha (pa_cons h2 pa_nil s3) s1) (by decide) (by decide) s1 s2) fun τ H Q q => ?_
    obtain ⟨σ, S, Q', E', hs, hh, hc, hq, hx⟩ := q
    simp only [wpE] at hc
    refine ⟨σ, S, _, E', hs, hh, hc, fun v H1 v' S1 rv hh1 e1 q => ?_, hx⟩
    dsimp only at q
    split at q
    · rename_i t e
      exact ⟨v', S1, Q', t, v, ty, rfl, h1, rv, hh1, e, by simpa using q, hq.mono e1⟩
    · exact q.elim
  · refine PE.imp (pe_callB isi_many (ok.glob hg) (ok.free _ hf) hboot (pa_cons ha (pa_cons h2 pa_nil s3) s1) (by decide) (by decide) s1 s2) fun τ H Q q => ?_
    obtain ⟨σ, S, Q', E', hs, hh, hc, hq, hx⟩ := q
    simp only [wpE] at hc
    refine ⟨σ, S, _, E', hs, hh, hc, fun v H1 v' S1 rv hh1 e1 q => ⟨by rw [List.length_map]; exact hz, fun p hp => ?_⟩, hx⟩
    dsimp only at q
    split at q
    · rename_i t e
      have e2 : Ext X.K S1 H1 S1 (upd H1 p (.tup (tys.map V.ty))) := Ext.new hp
      exact ⟨v', S1, Q', t, v, p, tys, rfl, upd_same, h1, RepV.mono e2 _ _ rv, hh1.new hp, e, q, hq.mono (e1.trans e2)⟩
    · exact q.elim
theorem tyV_list {K : PySem.W.Frag} {w : World} {H : Hp} {S : Sto} {x : PV} {v : V} (hh : RepH K w H S) (r : RepV K w H S x v) (e : tyP S x = some "list") : tyV K "list" v H := by
  cases x with
  | lst xs =>
    simp only [RepV] at r
    obtain ⟨a, vs, rfl, h1, h2⟩ := r
    exact .inl ⟨rfl, vs, h1.sq⟩
  | ref a =>
    simp only [RepV] at r
    subst r
    simp only [tyP] at e
    split at e
    · rename_i xs q
      obtain ⟨vs, h1, _⟩ := hh a _ q
      exact .inl ⟨rfl, vs, .inl (.inl h1)⟩
    · rename_i ks vs q
      exact absurd (Option.some.inj e) (by decide)
    · cases e
  | _ => first | (cases e; done) | (exact absurd (Option.some.inj e) (by decide))
theorem meT_tab {x : Str} {n : Nat} {c : Me} (h : meOf x n = some c) : meT c = "list" := by
  have h := meOf_mem h
  simp only [meTab, List.mem_cons, Prod.mk.injEq, List.not_mem_nil, or_false] at h
  rcases h with ⟨rfl, rfl, rfl⟩ | ⟨rfl, rfl, rfl⟩ | ⟨rfl, rfl, rfl⟩ | ⟨rfl, rfl, rfl⟩ <;> rfl
theorem good_me {o : Expr} {x : Str} {apos pos : Pos} {es : List Expr} {c : Me} {m : Bool} {co : CE} {cs : CEs} (hc : meOf x es.length = some c) (ho : PE X o (upE X.K X.w X.mg W (wpE G co))) (ha : PA X es (upA X.K X.w X.mg W es.length (wpEs G cs)))
    (hn : es = [] → cs = .nil) (hs : es.all noStar = true) (hsup : noSup o = true) (hline : (apos.endLine == pos.line) = true) (hlen : es.length < 29) : PE X (.Call (.Attribute o x apos) es [] pos) (upE X.K X.w X.mg W (wpE G (.me c m co cs))) := by
  obtain ⟨f1, f2, f3⟩ := meOf_facts hc
  have hT := meT_tab hc
  rw [hT] at f1 f2
  cases es with
  | nil =>
    refine PE.imp (pe_bm0 f1 f2 f3 (me_ok c m) ho (base_plain hsup) hline) fun τ H Q q => ?_
    obtain ⟨σ, S, Q', E', hs, hh, hc, hq, hx⟩ := q
    simp only [wpE] at hc
    rw [hn rfl] at hc
    simp only [wpEs] at hc
    exact ⟨σ, S, _, E', hs, hh, hc, fun v H1 v' S1 rv hh1 e1 q => ⟨tyV_list hh1 rv (hT ▸ q.1), v', [], S1, Q', rv, .nil, hh1, q.2, hq.mono e1⟩, hx⟩
  | cons e es =>
    obtain ⟨s1, s2⟩ := noStar_cons (env := X.env) (pos := pos) hs
    refine PE.imp (pe_bm f1 f2 f3 (me_ok c m) ho ha (base_plain hsup) ?_ hline s1 s2) fun τ H Q q => ?_
    · rw [(back_plain hs).2]
      simp only [Bool.true_and, List.length_nil, Nat.add_zero, List.isEmpty_nil, if_true]
      rw [show (backToKw pos (keywordEach [] X.env)).all (fun x => x.1.isSome) = true from rfl, Bool.true_and]
      exact decide_eq_true (by omega)
    · obtain ⟨σ, S, Q', E', hs, hh, hc, hq, hx⟩ := q
      simp only [wpE] at hc
      refine ⟨σ, S, _, E', hs, hh, hc, fun v H1 v' S1 rv hh1 e1 q => ⟨tyV_list hh1 rv (hT ▸ q.1), ?_⟩, hx⟩
      exact ⟨σ, S1, _, E', hs.mono e1, hh1, q.2, fun vs H2 vs' S2 hl rvs hh2 e2 q2 => ⟨v', vs', S2, Q', RepV.mono e2 _ _ rv, rvs, hh2, q2, hq.mono (e1.trans e2)⟩, hx.mono e1⟩

/-! ### what is walked -/
theorem wipe_wipe {τ : L2.St} : ∀ {vs ws : List Nat}, (∀ i ∈ ws, i ∈ vs) → L2.wipe (L2.wipe τ ws) vs = L2.wipe τ vs
  | _, [], _ => rfl
  | vs, i :: ws, h => by
    show L2.wipe ((L2.wipe τ ws).set i none) vs = _
    rw [wipe_set (h i (by simp)), wipe_wipe fun j hj => h j (by simp [hj])]
theorem good_seq {e tg : Expr} {c : CE} (h : PE X e (upE X.K X.w X.mg W (wpE G c))) : PI X tg e (upI X.K X.w X.mg W (wpI G (.seq c))) := by
  refine PI.imp (pi_seq h) fun τ H R q => ?_
  obtain ⟨σ, S, Q', E', hs, hh, hc, hq, hx⟩ := q
  simp only [wpI] at hc
  refine ⟨σ, S, _, E', hs, hh, hc, fun v H1 v' S1 rv hh1 e1 q => ?_, hx⟩
  dsimp only at q
  split at q
  · rename_i xs e
    obtain ⟨t, a, g1, g2⟩ := src_seq hh1 rv e
    exact ⟨t, a, g1, hq _ _ _ _ g2 hh1 e1 q⟩
  · exact q.elim
theorem snd_i (ih : Snd G k n) {e : Expr} {tp : Bool} {c : CI} (h : compI (n + 1) Γ tp e = some c) {tg : Expr} (ht : tp = true → isTupE tg = true) (ok : Ok X Γ G k W) : PI X tg e (upI X.K X.w X.mg W (wpI G c)) := by
  have base : (compE n Γ e).map CI.seq = some c → PI X tg e (upI X.K X.w X.mg W (wpI G c)) := fun h => by
    obtain ⟨ce, h1, rfl⟩ := Option.map_eq_some_iff.mp h
    exact good_seq (ih.e h1 ok).1
  unfold compI at h
  split at h
  · rename_i x px args pos
    split at h
    · rename_i hb
      obtain ⟨rfl, hb, _⟩ := hb
      obtain ⟨hg, hf, hd⟩ := bi_split hb
      split at h
      · rename_i a
        split at h
        · rename_i hs
          obtain ⟨ca, h1, rfl⟩ := Option.map_eq_some_iff.mp h
          refine PI.imp (pi_range1 (ok.glob hg) (ok.free _ hf) (pa1 (ih.e h1 ok).1 hs) (by rw [star_ok (by simp [hs])]; rfl)) fun τ H R q => ?_
          obtain ⟨σ, S, Q', E', hs, hh, hc, hq, hx⟩ := q
          simp only [wpI] at hc
          refine ⟨σ, S, _, E', hs, hh, hc, fun v H1 v' S1 rv hh1 e1 q => ?_, hx⟩
          cases v' with
          | int j =>
            simp only [RepV] at rv
            subst rv
            obtain ⟨q1, q2, q3⟩ := q
            have hz : sizeLine < 2 ^ 62 := by decide
            exact ⟨j, rfl, q2, by omega, hq _ _ _ _ (src_rng (by omega)) hh1 e1 q3⟩
          | _ => exact q.elim
        · cases h
      · rename_i a b
        split at h
        · rename_i hs
          rw [Bool.and_eq_true] at hs
          simp only [Option.bind_eq_bind, Option.bind_eq_some_iff, Option.pure_def, Option.some.injEq] at h
          obtain ⟨ca, h1, cb, h2, rfl⟩ := h
          refine PI.imp (pi_range2 (ok.glob hg) (ok.free _ hf) (pa2 (ih.e h1 ok).1 (ih.e h2 ok).1 hs.1 hs.2) (by rw [star_ok (by simp [hs])]; rfl) (by rw [star_ok (by simp [hs])]; rfl)) fun τ H R q => ?_
          obtain ⟨σ, S, Q', E', hs, hh, hc, hq, hx⟩ := q
          simp only [wpI] at hc
          refine ⟨σ, S, _, E', hs, hh, hc, fun v H1 v' S1 rv hh1 e1 q => ?_, hx⟩
          refine ⟨σ, S1, _, E', hs.mono e1, hh1, q, fun u H2 u' S2 ru hh2 e2 q2 => ?_, hx.mono e1⟩
          dsimp only at q2
          split at q2
          · simp only [RepV] at rv ru
            subst rv ru
            obtain ⟨q1, q2, q3, q4, q5, q6⟩ := q2
            exact ⟨_, _, rfl, ⟨q1, q2, q3, q4⟩, hq _ _ _ _ (src_rng q5) hh2 (e1.trans e2) q6⟩
          · exact q2.elim
        · cases h
      · cases h
    · split at h
      · rename_i hb
        obtain ⟨rfl, hb, _⟩ := hb
        obtain ⟨hg, hf, hd⟩ := bi_split hb
        split at h
        · rename_i a
          split at h
          · rename_i hs
            rw [Bool.and_eq_true] at hs
            obtain ⟨ca, h1, rfl⟩ := Option.map_eq_some_iff.mp h
            have ht := ht hs.2
            cases tg <;> simp only [isTupE, reduceCtorEq] at ht
            refine PI.imp (pi_enumQ (ok.glob hg) (ok.free _ hf) (ih.e h1 ok).1 hs.1) fun τ H R q => ?_
            obtain ⟨σ, S, Q', E', hs, hh, hc, hq, hx⟩ := q
            simp only [wpI] at hc
            refine ⟨σ, S, _, E', hs, hh, hc, fun v H1 v' S1 rv hh1 e1 q => ?_, hx⟩
            dsimp only at q
            split at q
            · rename_i xs e
              obtain ⟨t, a, g1, g2⟩ := src_enum hh1 rv e
              exact ⟨t, a, g1, hq _ _ _ _ g2 hh1 e1 q⟩
            · exact q.elim
          · cases h
        · cases h
      · split at h
        · rename_i hb
          obtain ⟨rfl, hb, _⟩ := hb
          obtain ⟨hg, hf, hd⟩ := bi_split hb
          split at h
          · rename_i a b
            split at h
            · rename_i hs
              simp only [Bool.and_eq_true] at hs
              simp only [Option.bind_eq_bind, Option.bind_eq_some_iff, Option.pure_def, Option.some.injEq] at h
              obtain ⟨ca, h1, cb, h2, rfl⟩ := h
              have ht := ht hs.2
              cases tg <;> simp only [isTupE, reduceCtorEq] at ht
              refine PI.imp (pi_zipQ (ok.glob hg) (ok.free _ hf) (ih.e h1 ok).1 (ih.e h2 ok).1 hs.1.1 hs.1.2) fun τ H R q => ?_
              obtain ⟨σ, S, Q', E', hs, hh, hc, hq, hx⟩ := q
              simp only [wpI] at hc
              refine ⟨σ, S, _, E', hs, hh, hc, fun v H1 v' S1 rv hh1 e1 q => ?_, hx⟩
              refine ⟨σ, S1, _, E', hs.mono e1, hh1, q, fun u H2 u' S2 ru hh2 e2 q2 => ?_, hx.mono e1⟩
              dsimp only at q2
              split at q2
              · rename_i xs ys e3 e4
                obtain ⟨t, t2, a, b, g1, g2, g3⟩ := src_zip hh2 (RepV.mono e2 _ _ rv) ru e3 e4
                exact ⟨t, t2, a, b, g1, g2, hq _ _ _ _ g3 hh2 (e1.trans e2) q2⟩
              · exact q2.elim
            · cases h
          · cases h
        · exact base h
  · exact base h

/-! ### a list comprehension -/
theorem lc_up {ce : CE} {ct : Tg} {ci : CI} {cc : COT} {m : Bool} {own : List Nat} (hs : ∀ i ∈ ct.slots, i ∈ own) {τ : L2.St} {H : Hp} {Q : VK} (q : upE X.K X.w X.mg W (wpE G (.comp m ce ct ci cc own)) τ H Q) :
    tLc (fun τ H R => upI X.K X.w X.mg W (wpI G ci) τ H fun J H1 => Sane X.K H1 → R J H1) (upG X.K X.w ct) (upT X.K X.w X.mg (fun _ _ _ _ => False) fun σ S Q _ => wpC G cc σ S Q) (upE X.K X.w X.mg (fun _ _ _ _ => False) (wpE G ce)) own τ H Q := by
  obtain ⟨σ, S, Q', E', hs', hh, hc, hq, hx⟩ := q
  simp only [wpE] at hc
  refine ⟨σ, S, _, E', hs', hh, hc, fun J H1 src S1 sr hh1 e1 q sane D hD => ?_, hx⟩
  have q := q D (hh1.free hD)
  have hsz := sr.sz sane
  have eD : Ext X.K S1 H1 (upS S1 D (.lst [])) (upd H1 D (.lst [])) := Ext.newS hD
  refine ⟨fun i m H => ∃ S2 acc, RepH X.K X.w H S2 ∧ Ext X.K S1 H1 S2 H ∧ acc.length ≤ i ∧ i ≤ src.items.length ∧ m = src.items.length - i ∧ itL src.ok _ _ (src.items.drop i) acc S2, ⟨_, _, [], hh1.newS (m := .lst []) hD ⟨[], upd_same, .nil⟩, eD, Nat.le_refl _, Nat.zero_le _, rfl, q⟩, ?_⟩
  intro i mm H2 ⟨S2, acc, hh2, e2, hl, hi, hm, q⟩
  by_cases he : i = src.items.length
  · subst he
    rw [List.drop_length] at q
    obtain ⟨q1, q2, q3⟩ := q
    refine .inl ⟨sr.stop _ _ _ e2 hh2 q1 rfl, ?_⟩
    cases m with
    | true => exact hq _ _ (.ref D) S2 (by simp only [RepV]) hh2 (e1.trans e2) q3
    | false => exact hq _ _ _ _ (hh2.frz q2) hh2.del (e1.trans (e2.trans Ext.del)) q3
  · have hlt : i < src.items.length := by omega
    have hdrop : src.items.drop i = src.items[i] :: src.items.drop (i + 1) := (List.drop_eq_getElem_cons hlt)
    rw [hdrop] at q
    obtain ⟨q1, q2⟩ := q
    refine .inr ⟨sr.go _ _ _ e2 hh2 q1 hlt, fun H' => ∃ S' acc', RepH X.K X.w H' S' ∧ Ext X.K S1 H1 S' H' ∧ acc'.length ≤ i + 1 ∧ itL src.ok _ _ (src.items.drop (i + 1)) acc' S', fun H' ⟨S', acc', g1, g2, g3, g4⟩ => ⟨src.items.length - (i + 1), by omega, S', acc', g1, g2, g3, by omega, rfl, g4⟩, ?_⟩
    intro x H3 hy
    obtain ⟨rx, hh3, e3⟩ := sr.yld i H2 S2 src.items[i] x H3 e2 hh2 q1 (List.getElem?_eq_getElem hlt) hy
    have hst : RepSt X.K X.w H3 S2 (wipeS σ own) (L2.wipe τ own) := (hs'.mono (e1.trans (e2.trans e3))).wipe _
    refine ⟨_, S2, _, _, hst, hh3, rx, q2, fun σ' τ' g1 g2 g3 => ⟨(g2 _ hs).trans (wipe_wipe fun i hi => hi), ?_⟩⟩
    refine ⟨σ', S2, _, _, g1, hh3, g3, fun b H4 S4 hh4 e4 q4 => ?_, kX.none⟩
    cases b with
    | false => exact ite_ff ⟨S4, acc, hh4, e2.trans (e3.trans e4), by omega, q4⟩
    | true =>
      refine ite_tt ⟨σ', S4, _, _, g1.mono e4, hh4, q4, fun y H5 y' S5 ry hh5 e5 q5 => ?_, kX.none⟩
      obtain ⟨q6, q7⟩ := q5
      obtain ⟨vs, v1, v2⟩ := hh5 D _ q6
      have e6 : Ext X.K S5 H5 (upS S5 D (.lst (acc ++ [y']))) (upd H5 D (.lst (vs ++ [y]))) := Ext.put hh5 q6
      refine ⟨vs, v1, by rw [← v2.length]; omega, _, _, hh5.put (m' := .lst (acc ++ [y'])) q6 ⟨_, upd_same, RepVs.mono e6 _ _ (v2.snoc ry)⟩, e2.trans (e3.trans (e4.trans (e5.trans e6))), by rw [List.length_append, List.length_singleton]; omega, q7⟩
theorem good_lc (ih : Snd G k n) {elt tg it : Expr} {ifs : List Expr} {scope : Scope} {pos : Pos} {ce : CE} {ct : Tg} {ci : CI} {cc : COT} {m : Bool} {own : List (Str × Nat)} (ok : Ok X Γ G k W) (hb : blkC Γ.N (scOf Γ) scope own = true) (hn : noSet it = true)
    (h1 : compI n Γ (isTupE tg) it = some ci) (h2 : compG n (Γ.block scope) tg = some ct) (h3 : compE n (Γ.block scope) elt = some ce) (h4 : compF n (Γ.block scope) ifs = some cc) (hs : ∀ i ∈ ct.slots, i ∈ own.map (·.2)) :
    PE X (.ListComp elt [⟨tg, it, ifs, 0⟩] scope pos) (upE X.K X.w X.mg W (wpE G (.comp m ce ct ci cc (own.map (·.2))))) := by
  have hbk := blkOk_by hb
  refine PE.imp (pe_lc (g := upG X.K X.w ct) (tt := upT X.K X.w X.mg (fun _ _ _ _ => False) fun σ S Q _ => wpC G cc σ S Q) (te := upE X.K X.w X.mg (fun _ _ _ _ => False) (wpE G ce)) ok.calm (by rw [ok.N]; exact ok.nd) (PI.sane (ih.i h1 id ok)) (ok.blkOk hbk) (fun s H C cl fp => (compG_sound n).1 h2 (ok.block hbk s H C cl fp)) (fun s H C cl fp => ih.f h4 (ok.block hbk s H C cl fp))
    (fun s H C cl fp => (ih.e h3 (ok.block hbk s H C cl fp)).1) (noSet_fold hn)) fun τ H Q q => ?_
  exact lc_up hs q
end
end DL
end
section
set_option maxRecDepth 100000
set_option maxHeartbeats 2000000
/-! Soundness: expressions, all. -/
namespace DL
open PySem PySem.Spec L2
open PyProof.Rows hiding St

section
variable {X : Cx} {Γ : Gam} {G : GE} {k n : Nat} {W : WX}
theorem compEs_nil {n : Nat} {Γ : Gam} {es : List Expr} {c : CEs} (h : compEs n Γ es = some c) : es = [] → c = .nil := by
  rintro rfl
  cases n <;> simpa [compEs] using h.symm
theorem good_call (ih : Snd G k n) {f : Expr} {args : List Expr} {kws : List Keyword} {pos : Pos} {c : CE} (h : compE (n + 1) Γ (.Call f args kws pos) = some c) (ok : Ok X Γ G k W) : GoodE G X W (.Call f args kws pos) c := by
  refine good_plain ?_ fun _ => rfl
  unfold compE at h
  split at h
  · rename_i x px
    split at h
    · rename_i hc
      simp only [Bool.and_eq_true, Bool.not_eq_true'] at hc
      obtain ⟨⟨⟨hs, hne⟩, hg⟩, hd⟩ := hc
      cases args with
      | nil => cases hne
      | cons e es =>
        split at h
        · rename_i i m hf
          split at h
          · rename_i hm
            obtain ⟨cs, h1, rfl⟩ := Option.map_eq_some_iff.mp h
            exact good_own hf hm ok hg hd (ih.es h1 hs ok) hs
          · cases h
        · split at h
          · rename_i hfree
            have bi : ∀ {b : Bi} {cs : CEs}, biOf x (e :: es).length = some b → compEs n Γ (e :: es) = some cs → PE X (.Call (.Name x px) (e :: es) [] pos) (upE X.K X.w X.mg W (wpE G (.bi b (Γ.own.contains pos) cs))) := fun hb h1 => good_bi hb ok hg hfree hd (ih.es h1 hs ok) hs
            have other : (do
                let b ← biOf x (e :: es).length
                let cs ← compEs n Γ (e :: es)
                return CE.bi b (Γ.own.contains pos) cs) = some c → PE X (.Call (.Name x px) (e :: es) [] pos) (upE X.K X.w X.mg W (wpE G c)) := fun h => by
              simp only [Option.bind_eq_bind, Option.bind_eq_some_iff, Option.pure_def, Option.some.injEq] at h
              obtain ⟨b, hb, cs, h1, rfl⟩ := h
              exact bi hb h1
            rcases es with _ | ⟨t, _ | ⟨t2, es⟩⟩
            · exact other h
            · dsimp only at h
              split at h
              · rename_i hx
                split at h
                · rename_i y py
                  split at h
                  · rename_i hy
                    split at h
                    · rename_i ty e1
                      obtain ⟨ca, h1, rfl⟩ := Option.map_eq_some_iff.mp h
                      obtain ⟨m1, m2⟩ := tyOf_mem e1
                      obtain ⟨g1, g2, g3⟩ := bi_split hy
                      refine good_isi hx ok hg hfree (ih.e h1 ok).1 hs (.inl ⟨ty, rfl, m1, pe_bltn (ok.glob g1) (ok.free y g2) m2 rfl (fun z => ?_) g3⟩)
                      rw [z, show tyOf ("__name__" : Str) = none from by decide] at e1
                      cases e1
                    · cases h
                  · cases h
                · rename_i ts k1 k2
                  split at h
                  · rename_i tys e1
                    split at h
                    · rename_i hz
                      obtain ⟨ca, h1, rfl⟩ := Option.map_eq_some_iff.mp h
                      obtain ⟨m1, m2⟩ := tys_pa ok e1
                      have hsz : 8 ≤ sizeLine := by decide
                      exact good_isi hx ok hg hfree (ih.e h1 ok).1 hs (.inr ⟨m1, by omega, pe_tup m2⟩)
                    · cases h
                  · cases h
                · cases h
              · exact other h
            · exact other h
          · cases h
    · cases h
  · rename_i o m apos
    split at h
    · rename_i hc
      simp only [Bool.and_eq_true, decide_eq_true_eq] at hc
      obtain ⟨⟨⟨hs, hsup⟩, hline⟩, hlen⟩ := hc
      simp only [Option.bind_eq_bind, Option.bind_eq_some_iff, Option.pure_def, Option.some.injEq] at h
      obtain ⟨cm, hm, co, h1, cs, h2, rfl⟩ := h
      exact good_me hm (ih.e h1 ok).1 (ih.es h2 hs ok) (compEs_nil h2) hs hsup hline hlen
    · cases h
  · cases h
theorem snd_e (ih : Snd G k n) {e : Expr} {c : CE} (h : compE (n + 1) Γ e = some c) (ok : Ok X Γ G k W) : GoodE G X W e c := by
  cases e with
  | Name x p => exact good_name h ok
  | Constant cc j p => exact good_cst h
  | BinOp a op b p => exact good_bin ih h ok
  | UnaryOp op a p => exact good_un ih h ok
  | BoolOp op es p =>
    simp only [compE] at h
    exact ⟨ih.b h ok p, fun hi => by cases hi⟩
  | Compare a ops es p => exact good_cmp ih h ok
  | Subscript a b p => exact good_sub ih h ok
  | Tuple es kk p => exact good_tup ih h ok
  | List es p => exact good_lst ih h ok
  | Call f args kws p => exact good_call ih h ok
  | Dict ks vs p =>
    match ks, vs, h with
    | [], [], h => exact good_dct h
    | [], _ :: _, h => simp [compE] at h
    | _ :: _, _, h => simp [compE] at h
  | ListComp elt gens scope p =>
    refine good_plain ?_ fun _ => rfl
    match gens, h with
    | [⟨tg, it, ifs, a⟩], h =>
      simp only [compE] at h
      split at h
      · rename_i hc
        simp only [Bool.and_eq_true, beq_iff_eq] at hc
        obtain ⟨⟨rfl, hb⟩, hn⟩ := hc
        simp only [Option.bind_eq_bind, Option.bind_eq_some_iff] at h
        obtain ⟨ci, h1, ct, h2, ce, h3, cc, h4, h⟩ := h
        split at h
        · rename_i hs
          cases h
          exact good_lc ih ok hb hn h1 h2 h3 h4 fun i hi => by simpa using List.all_eq_true.mp hs i hi
        · cases h
      · cases h
    | [], h => simp [compE] at h
    | _ :: _ :: _, h => simp [compE] at h
  | _ => simp [compE] at h
theorem compF_zero {Γ : Gam} {e : Expr} {es : List Expr} : compF 0 Γ (e :: es) = none := by
  cases es <;> rfl
theorem snd_zero : Snd G k 0 := by
  refine ⟨fun h => ?_, fun {Γ es c} h hs {X W} ok => ?_, fun h => ?_, fun h => ?_, fun h => ?_, fun h => ?_, fun {Γ e c} h {X W} ok => ?_, fun {Γ es c} h {X} ok => ?_, fun h => ?_⟩
  · simp [compE] at h
  · cases es with
    | nil =>
      simp only [compEs, Option.some.injEq] at h
      subst h
      refine PA.imp pa_nil fun τ H Q q => ?_
      obtain ⟨σ, S, Q', E', hs, hh, hc, hq, hx⟩ := q
      simp only [wpEs] at hc
      exact hq [] H [] S rfl .nil hh Ext.refl hc
    | cons _ _ => simp [compEs] at h
  · simp [compL] at h
  · simp [compB] at h
  · simp [compT] at h
  · simp [compTB] at h
  · cases e with
    | none =>
      simp only [compO, Option.some.injEq] at h
      subst h
      refine PO.imp po_none fun τ H Q q => ?_
      obtain ⟨σ, S, Q', E', hs, hh, hc, hq, hx⟩ := q
      simp only [wpO] at hc
      exact hq none H S hh Ext.refl hc
    | some _ => simp [compO] at h
  · cases es with
    | nil =>
      simp only [compF, Option.some.injEq] at h
      subst h
      refine ⟨fun pins s σ H Q I q => pts_nil.run pins s σ H Q I ?_⟩
      obtain ⟨σ, S, Q', E', hs, hh, hc, hq, hx⟩ := q
      simp only [wpC] at hc
      exact hq true H S hh Ext.refl hc
    | cons _ _ => rw [compF_zero] at h; cases h
  · simp [compI] at h
theorem snd_all : ∀ n, Snd G k n
  | 0 => snd_zero
  | n + 1 => ⟨fun h _ _ ok => snd_e (snd_all n) h ok, fun h hs _ _ ok => snd_es (snd_all n) h hs ok, fun h _ _ ok => snd_l (snd_all n) h ok, fun h _ _ ok pos => snd_b (snd_all n) h ok pos, fun h _ _ ok => snd_t (snd_all n) h ok, fun h _ _ ok pos => snd_tb (snd_all n) h ok pos,
    fun h _ _ ok => snd_o (snd_all n) h ok, fun h _ ok => snd_f (snd_all n) h ok, fun h _ ht _ _ ok => snd_i (snd_all n) h ht ok⟩
end
end DL
end
section
set_option maxRecDepth 100000
set_option maxHeartbeats 2000000
/-! Soundness: statements. -/
namespace DL
open PySem PySem.Spec L2
open PyProof.Rows hiding St

abbrev CSf := EndD → XPS → Sl → Sto → Prop
section
variable (K : PySem.W.Frag) (w : World) (mg : Mg) (W : WX)
def kXS (S : Sto) (H : Hp) (E : XPS) : Prop := ∀ x cls d H' S' σ' τ', RepX K w mg H' S' x cls d → RepH K w H' S' → Ext K S H S' H' → RepSt K w H' S' σ' τ' → E x σ' S' → W cls d τ' H'
structure kD (S : Sto) (H : Hp) (D' : EndD) (D : Ends) : Prop where
  nx : ∀ σ' τ' H' S', RepSt K w H' S' σ' τ' → RepH K w H' S' → Ext K S H S' H' → D'.nx σ' S' → D.nx τ' H'
  rt : kV K w S H D'.rt D.rt
  bk : ∀ σ' τ' H' S', RepSt K w H' S' σ' τ' → RepH K w H' S' → Ext K S H S' H' → D'.bk σ' S' → D.bk τ' H'
  ct : ∀ σ' τ' H' S', RepSt K w H' S' σ' τ' → RepH K w H' S' → Ext K S H S' H' → D'.ct σ' S' → D.ct τ' H'
def upS_ (c : CSf) : TS := fun D τ H => ∃ σ S D' E', RepSt K w H S σ τ ∧ RepH K w H S ∧ c D' E' σ S ∧ kD K w S H D' D ∧ kXS K w mg W S H E'
end
section
variable {K : PySem.W.Frag} {w : World} {mg : Mg} {W : WX}
theorem kXS.mono {S S1 : Sto} {H H1 : Hp} {E : XPS} (k : kXS K w mg W S H E) (e : Ext K S H S1 H1) : kXS K w mg W S1 H1 E := fun x cls d H' S' σ' τ' r h e' r2 q => k x cls d H' S' σ' τ' r h (e.trans e') r2 q
theorem kXS.kX {S : Sto} {H : Hp} {E : XPS} {σ : Sl} {τ : L2.St} (k : kXS K w mg W S H E) (hs : RepSt K w H S σ τ) : kX K w mg S H τ (fun x => E x σ) W := fun x cls d H' S' r h e q => k x cls d H' S' σ τ r h e (hs.mono e) q
theorem kD.mono {S S1 : Sto} {H H1 : Hp} {D' : EndD} {D : Ends} (k : kD K w S H D' D) (e : Ext K S H S1 H1) : kD K w S1 H1 D' D :=
  ⟨fun a b c d r h e' q => k.nx a b c d r h (e.trans e') q, k.rt.mono e, fun a b c d r h e' q => k.bk a b c d r h (e.trans e') q, fun a b c d r h e' q => k.ct a b c d r h (e.trans e') q⟩
end
/-- what a def's body needs besides -/
structure OkS (X : Cx) (Γ : Gam) (G : GE) (k : Nat) (W : WX) : Prop extends Ok X Γ G k W where
  po : PassesOwn (model X.prog X.w) X.A X.env X.xe
  exc : ∀ x, Γ.exc.contains x = true → ∃ C, X.mg x = some (.ref C) ∧ ∀ (m : Str) (j : Nat) (p p2 pos : Pos), Gl X x → dbg x = false → PMk X (.Call (.Name x p) [.Constant (.str m) j p2] [] pos) (fun _ H Q => Q (.ref C) none H)
section
variable {X : Cx} {Γ : Gam} {G : GE} {k n : Nat} {W : WX}
theorem up_asg {c : CE} {t : Tg} {τ : L2.St} {H : Hp} {D : Ends} (q : upS_ X.K X.w X.mg W (wpS G (.asg t c)) D τ H) : tAsg (upE X.K X.w X.mg W (wpE G c)) (upG X.K X.w t) D τ H := by
  obtain ⟨σ, S, D', E', hs, hh, hc, hd, hx⟩ := q
  simp only [wpS] at hc
  exact ⟨σ, S, _, _, hs, hh, hc, fun v H1 v' S1 rv hh1 e1 q => ⟨σ, S1, v', _, hs.mono e1, hh1, rv, q, fun σ' τ' g1 g2 g3 => hd.nx _ _ _ _ g1 hh1 e1 g3⟩, hx.kX hs⟩
theorem noComp_sw {e : Expr} {t : Option Expr} {l : Nat} {env : Env} (h : noComp e = true) : swapsWith e t l env = pure false := by
  cases e <;> first | rfl | (simp [noComp] at h; done)
theorem noComp_sole {e t : Expr} {l : Nat} {env : Env} (h : noComp e = true) : swapsWithSole [t] e l env = pure false := noComp_sw (t := some t) h
theorem swap_none {es : List Expr} {kk : Nat} {pt : Pos} {e : Expr} {env : Env} (h : isTupE e = false) : swappedStores [.Tuple es kk pt] e env = pure none := by
  cases e <;> first | rfl | (simp [isTupE] at h; done)
theorem upG_name {i : Nat} {v : V} {τ : L2.St} {H : Hp} {Q : L2.St → Hp → Prop} (q : upG X.K X.w (.nm i) v τ H Q) : gName i v τ H Q := by
  obtain ⟨σ, S, x', Q', h1, h2, h3, h4, h5⟩ := q
  simp only [tgD] at h4
  exact h5 _ _ (h1.set i h3) (fun vs hv => wipe_set (hv i (by simp [Tg.slots]))) h4
theorem lc_sw {elt : Expr} {gs : List Comprehension} {scope : Scope} {pos py : Pos} {y : Str} {l : Nat} {env : Env} : ∃ b, swapsWith (.ListComp elt gs scope pos) (some (.Name y py)) l env = pure b := ⟨_, rfl⟩
theorem sound_asgN (ok : Ok X Γ G k W) {x : Str} {px pos : Pos} {e : Expr} {t : Tg} {c : CE} (h1 : compG n Γ (.Name x px) = some t) (h2 : compE n Γ e = some c) (h3 : (noComp e || Γ.names.lookup x == some .local) = true) :
    PS X (.Assign [.Name x px] e pos) (upS_ X.K X.w X.mg W (wpS G (.asg t c))) := by
  have ih := snd_all (G := G) (k := k) n
  cases n with
  | zero => simp [compG] at h1
  | succ n =>
  simp only [compG] at h1
  split at h1
  · rename_i hl
    rw [Bool.and_eq_true] at hl
    obtain ⟨i, hi, rfl⟩ := Option.map_eq_some_iff.mp h1
    have hN : X.N.Nodup := by rw [ok.N]; exact ok.nd
    have hi2 : X.N[i]? = some x := by rw [ok.N]; exact slotOf_ok hi
    have plain : swapsWith e (some (.Name x px)) pos.line X.env = pure false → PS X (.Assign [.Name x px] e pos) (upS_ X.K X.w X.mg W (wpS G (.asg (.nm i) c))) := fun hsw =>
      PS.imp (ps_set hN hi2 (ok.locN hl.1) (ih.e h2 ok).1 hsw (ok.fnc x hl.2)) fun D τ H q => by
        obtain ⟨σ, S, D', E', hs, hh, hc, hd, hx⟩ := q
        simp only [wpS] at hc
        refine ⟨σ, S, _, _, hs, hh, hc, fun v H1 v' S1 rv hh1 e1 q => ?_, hx.kX hs⟩
        simp only [tgD] at q
        exact hd.nx _ _ _ _ ((hs.mono e1).set i rv) hh1 e1 q
    by_cases hn : noComp e = true
    · exact plain (noComp_sw hn)
    · have hloc : X.env.scope.names.lookup x = some .local := by
        rw [ok.sc]
        simpa [hn] using h3
      cases e with
      | ListComp elt gens scope p =>
        obtain ⟨b, hb⟩ := lc_sw (elt := elt) (gs := gens) (scope := scope) (pos := p) (py := px) (y := x) (l := pos.line) (env := X.env)
        cases b with
        | false => exact plain hb
        | true =>
          match gens, h2, hb with
          | [⟨tg, it, ifs, a⟩], h2, hb =>
            simp only [compE] at h2
            split at h2
            · rename_i hc
              simp only [Bool.and_eq_true, beq_iff_eq] at hc
              obtain ⟨⟨rfl, hbl⟩, hns⟩ := hc
              simp only [Option.bind_eq_bind, Option.bind_eq_some_iff] at h2
              obtain ⟨ci, g1, ct, g2, ce, g3, cc, g4, h⟩ := h2
              split at h
              · rename_i hs
                cases h
                have hbk := blkOk_by hbl
                have ih := snd_all (G := G) (k := k) n
                refine PS.imp (ps_setLc (i := i) (g := upG X.K X.w ct) (tt := upT X.K X.w X.mg (fun _ _ _ _ => False) fun σ S Q _ => wpC G cc σ S Q) (te := upE X.K X.w X.mg (fun _ _ _ _ => False) (wpE G ce)) ok.calm hN hi2 hloc hb (PI.sane (ih.i g1 id ok)) (ok.blkOk hbk)
                  (fun s H C cl fp => (compG_sound n).1 g2 (ok.block hbk s H C cl fp)) (fun s H C cl fp => ih.f g4 (ok.block hbk s H C cl fp)) (fun s H C cl fp => (ih.e g3 (ok.block hbk s H C cl fp)).1) (noSet_fold hns)) fun D τ H q => ?_
                obtain ⟨σ, S, D', E', hs', hh, hc, hd, hx⟩ := q
                simp only [wpS] at hc
                refine lc_up (by simpa using hs) ⟨σ, S, _, _, hs', hh, hc, fun v H1 v' S1 rv hh1 e1 q => ?_, hx.kX hs'⟩
                simp only [tgD] at q
                exact hd.nx _ _ _ _ ((hs'.mono e1).set i rv) hh1 e1 q
              · cases h
            · cases h2
          | [], h2, _ => simp [compE] at h2
          | _ :: _ :: _, h2, _ => simp [compE] at h2
      | SetComp _ _ _ _ => simp [compE] at h2
      | DictComp _ _ _ _ _ => simp [compE] at h2
      | _ => exact absurd rfl hn
  · cases h1

theorem sound_asgT (ok : Ok X Γ G k W) {es : List Expr} {kk : Nat} {pt pos : Pos} {e : Expr} {t : Tg} {c : CE} (h1 : compG n Γ (.Tuple es kk pt) = some t) (h2 : compE n Γ e = some c) (h3 : noComp e = true) (h4 : isTupE e = false) :
    PS X (.Assign [.Tuple es kk pt] e pos) (upS_ X.K X.w X.mg W (wpS G (.asg t c))) :=
  PS.imp (ps_asg ((snd_all n).e h2 ok).1 ((compG_sound n).1 h1 ok) (noComp_sole h3) (swap_none h4)) fun D τ H q => up_asg q
theorem swap_names {x y : Str} {px py : Pos} {env : Env} {l : Nat} {f : Expr → Option Str} (hf : ∀ z p, f (.Name z p) = if (env.kindOf z == some .local && p.line == l) = true then some z else none) :
    [Expr.Name x px, Expr.Name y py].filterMap f = [x, y] ∨ ([Expr.Name x px, Expr.Name y py].filterMap f).length ≠ 2 := by
  simp only [List.filterMap_cons, List.filterMap_nil, hf]
  cases (env.kindOf x == some .local && px.line == l) <;> cases (env.kindOf y == some .local && py.line == l) <;> simp
theorem swap_two {x y : Str} {px py : Pos} {kk : Nat} {pt : Pos} {a b : Expr} {k2 : Nat} {p2 : Pos} {env : Env} (hx : x ≠ y) (hs : [a, b].all noStar = true) (hf : ([a, b].all (foldedForSure 8) || !([a, b].all (constantsAlone 8))) = true) :
    swappedStores [.Tuple [.Name x px, .Name y py] kk pt] (.Tuple [a, b] k2 p2) env = pure none ∨ swappedStores [.Tuple [.Name x px, .Name y py] kk pt] (.Tuple [a, b] k2 p2) env = pure (some [x, y]) := by
  have h0 : ([a, b].any fun | .Starred .. => true | _ => false) = false := by
    simp only [List.all_cons, List.all_nil, Bool.and_true, Bool.and_eq_true] at hs
    simp only [List.any_cons, List.any_nil, Bool.or_false, Bool.or_eq_false_iff]
    refine ⟨?_, ?_⟩
    · have := hs.1
      cases a <;> first | rfl | (simp [noStar] at this; done)
    · have := hs.2
      cases b <;> first | rfl | (simp [noStar] at this; done)
  unfold swappedStores
  simp only [List.length_cons, List.length_nil, pure_bind]
  generalize hA : ([a, b].any _) = an
  obtain rfl : an = false := hA.symm.trans h0
  generalize [a, b].all (foldedForSure 8) = f1 at *
  generalize [a, b].all (constantsAlone 8) = f2 at *
  have key := swap_names (x := x) (y := y) (px := px) (py := py) (env := env) (l := px.line) (f := fun x_1 => match x_1 with
    | Expr.Name id pos => if (env.kindOf id == some NameKind.local && pos.line == (Option.map (fun x => x.pos.line) [Expr.Name x px, Expr.Name y py].head?).getD 0) = true then some id else none
    | x => none) (fun z p => rfl)
  generalize List.filterMap _ [Expr.Name x px, Expr.Name y py] = nm at key ⊢
  have hed : ([x, y] : List Str).eraseDups = [x, y] := by
    have hxy : (y == x) = false := by
      rw [beq_eq_false_iff_ne]
      exact fun e => hx e.symm
    simp [List.eraseDups_cons, hxy]
  generalize (env.blockKind != ScopeKind.function) = b4
  rcases key with rfl | hl
  · rw [hed]
    cases b4 <;> cases f1 <;> cases f2 <;> first
      | (simp at hf; done)
      | exact .inl rfl
      | exact .inr rfl
  · left
    have hl2 : (nm.length != 0 + 1 + 1) = true := by simpa using hl
    rw [hl2]
    cases b4 <;> rfl
theorem sound_par (ok : Ok X Γ G k W) {x y : Str} {px py : Pos} {kk : Nat} {pt pos : Pos} {a b : Expr} {k2 : Nat} {p2 : Pos} {t : Tg} {c : CE} (h1 : compG n Γ (.Tuple [.Name x px, .Name y py] kk pt) = some t) (h2 : compE n Γ (.Tuple [a, b] k2 p2) = some c)
    (hxy : x ≠ y) (hx : Γ.names.lookup x = some .local) (hy : Γ.names.lookup y = some .local) (hs : [a, b].all noStar = true) (hf : ([a, b].all (foldedForSure 8) || !([a, b].all (constantsAlone 8))) = true) :
    PS X (.Assign [.Tuple [.Name x px, .Name y py] kk pt] (.Tuple [a, b] k2 p2) pos) (upS_ X.K X.w X.mg W (wpS G (.asg t c))) := by
  rcases swap_two (px := px) (py := py) (kk := kk) (pt := pt) (k2 := k2) (p2 := p2) (env := X.env) hxy hs hf with hw | hw
  · exact PS.imp (ps_asg ((snd_all n).e h2 ok).1 ((compG_sound n).1 h1 ok) rfl hw) fun D τ H q => up_asg q
  · match n, h1, h2 with
    | 0, h1, _ => simp [compG] at h1
    | 1, h1, _ => simp [compG, compGs] at h1
    | 2, h1, _ => simp [compG, compGs] at h1
    | 3, h1, _ => simp [compG, compGs] at h1
    | n + 4, h1, h2 =>
      have hn1 : (Γ.loc x && Γ.fnc x) = true := by
        unfold Gam.loc Gam.fnc
        rw [hx]
        rfl
      have hn2 : (Γ.loc y && Γ.fnc y) = true := by
        unfold Gam.loc Gam.fnc
        rw [hy]
        rfl
      simp only [compG, compGs, List.all_cons, List.all_nil, noStar, Bool.and_true, if_true, hn1, hn2, Option.bind_eq_bind, Option.map_eq_some_iff, Option.bind_eq_some_iff, Option.pure_def, Option.some.injEq] at h1
      obtain ⟨ts, ⟨t1, ⟨i, hi, rfl⟩, ts2, ⟨t2, ⟨j, hj, rfl⟩, ts3, rfl, rfl⟩, rfl⟩, rfl⟩ := h1
      simp only [compE, hs, if_true] at h2
      obtain ⟨cs, h5, rfl⟩ := Option.map_eq_some_iff.mp h2
      have hi := slotOf_ok hi
      have hj := slotOf_ok hj
      have hij : i ≠ j := fun e => hxy (by
        subst e
        exact Option.some.inj (hi.symm.trans hj))
      refine PS.imp (ps_par (i := i) (j := j) ok.calm (by rw [ok.N]; exact ok.nd) (by rw [ok.N]; exact hi) (by rw [ok.N]; exact hj) hij (by rw [ok.sc]; exact hx) (by rw [ok.sc]; exact hy) ((snd_all (n + 3)).es h5 hs ok) hw) fun D τ H q => ?_
      obtain ⟨σ, S, D', E', hs', hh, hc, hd, hxx⟩ := q
      simp only [wpS, wpE] at hc
      refine ⟨σ, S, _, _, hs', hh, hc, fun vs H1 vs' S1 hl rv hh1 e1 q => ?_, hxx.kX hs'⟩
      obtain ⟨q1, q⟩ := q
      simp only [tgD, dQ] at q
      match vs, hl, rv with
      | [v, u], _, rv =>
        match vs', rv, q with
        | [v', u'], rv, q =>
          simp only [tgDs, tgD] at q
          obtain ⟨_, _, e, r1, r2⟩ := rv.cons_inv
          cases e
          obtain ⟨_, _, e, r2, _⟩ := r2.cons_inv
          cases e
          exact ⟨v, u, rfl, hd.nx _ _ _ _ (((hs'.mono e1).set i r1).set j r2) hh1 e1 q⟩
        | [], rv, _ => exact absurd rv.length (by simp)
        | [_], rv, _ => exact absurd rv.length (by simp)
        | _ :: _ :: _ :: _, rv, _ => exact absurd rv.length (by simp)
theorem assign_sub {o i : Expr} {pi : Pos} {env : Env} {v : Value} (h : noSlice i = true) : assign (.Subscript o i pi) env v = (do
    let ov ← holding [v] (eval o env)
    let iv ← holding [v, ov] (eval i env)
    standAt pi
    holding [v, ov, iv] (setItem ov iv v)
    release [v, ov, iv] []) := by
  cases i <;> first | rfl | (simp [noSlice] at h; done)
theorem sound_setI (ok : Ok X Γ G k W) {o i e : Expr} {pi pos : Pos} {co ci c : CE} (h1 : compE n Γ o = some co) (h2 : compE n Γ i = some ci) (h3 : compE n Γ e = some c) (h4 : noComp e = true) (h5 : noSlice i = true) :
    PS X (.Assign [.Subscript o i pi] e pos) (upS_ X.K X.w X.mg W (wpS G (.setI co ci c))) := by
  have ih := snd_all (G := G) (k := k) n
  refine PS.imp (ps_asg (ih.e h3 ok).1 (pg_sub (ih.e h1 ok).1 (ih.e h2 ok).1 set_ok fun v => assign_sub h5) (noComp_sole h4) rfl) fun D τ H q => ?_
  obtain ⟨σ, S, D', E', hs, hh, hc, hd, hx⟩ := q
  simp only [wpS] at hc
  refine ⟨σ, S, _, _, hs, hh, hc, fun v H1 v' S1 rv hh1 e1 q1 => ?_, hx.kX hs⟩
  refine ⟨σ, S1, _, _, hs.mono e1, hh1, q1, fun x H2 x' S2 rx hh2 e2 q2 => ?_, (hx.mono e1).kX (hs.mono e1)⟩
  refine ⟨σ, S2, _, _, hs.mono (e1.trans e2), hh2, q2, fun y H3 y' S3 ry hh3 e3 q3 => ?_, (hx.mono (e1.trans e2)).kX (hs.mono (e1.trans e2))⟩
  exact ⟨x', y', v', S3, _, RepV.mono e3 _ _ rx, ry, RepV.mono (e2.trans e3) _ _ rv, hh3, q3, fun H4 S4 hh4 e4 q4 => hd.nx _ _ _ _ (hs.mono (e1.trans (e2.trans (e3.trans e4)))) hh4 (e1.trans (e2.trans (e3.trans e4))) q4⟩
theorem sound_for (ok : OkS X Γ G k W) {tg it : Expr} {b : List Stmt} {pos : Pos} {ct : Tg} {ci : CI} {cb : CSs} (h0 : noSet it = true) (h1 : compG n Γ tg = some ct) (h2 : compI n Γ (isTupE tg) it = some ci)
    (hb : PSs X b (upS_ X.K X.w X.mg W (wpSs G cb))) : PS X (.For tg it b [] pos) (upS_ X.K X.w X.mg W (wpS G (.for ct ci cb))) := by
  have ih := snd_all (G := G) (k := k) n
  refine PS.imp (ps_for ok.po ok.calm (ih.i h2 id ok.toOk) ((compG_sound n).1 h1 ok.toOk) hb (noSet_fold h0)) fun D τ H q => ?_
  obtain ⟨σ, S, D', E', hs, hh, hc, hd, hx⟩ := q
  simp only [wpS] at hc
  refine ⟨σ, S, _, _, hs, hh, hc, fun J H1 src S1 sr hh1 e1 q => ?_, hx.kX hs⟩
  refine ⟨fun i m τ2 H2 => ∃ σ2 S2, RepSt X.K X.w H2 S2 σ2 τ2 ∧ RepH X.K X.w H2 S2 ∧ Ext X.K S1 H1 S2 H2 ∧ i ≤ src.items.length ∧ m = src.items.length - i ∧ itL src.ok _ D'.nx (src.items.drop i) σ2 S2, ⟨_, σ, S1, hs.mono e1, hh1, Ext.refl, Nat.zero_le _, rfl, q⟩, ?_⟩
  intro i mm τ2 H2 ⟨σ2, S2, hs2, hh2, e2, hi, hm, q⟩
  by_cases he : i = src.items.length
  · subst he
    rw [List.drop_length] at q
    exact .inl ⟨sr.stop _ _ _ e2 hh2 q.1 rfl, hd.nx _ _ _ _ hs2 hh2 (e1.trans e2) q.2⟩
  · have hlt : i < src.items.length := by omega
    have hdrop : src.items.drop i = src.items[i] :: src.items.drop (i + 1) := (List.drop_eq_getElem_cons hlt)
    rw [hdrop] at q
    obtain ⟨q1, q2⟩ := q
    refine .inr ⟨sr.go _ _ _ e2 hh2 q1 hlt, fun τ' H' => ∃ σ' S', RepSt X.K X.w H' S' σ' τ' ∧ RepH X.K X.w H' S' ∧ Ext X.K S1 H1 S' H' ∧ itL src.ok _ D'.nx (src.items.drop (i + 1)) σ' S', fun τ' H' ⟨σ', S', g1, g2, g3, g4⟩ => ⟨src.items.length - (i + 1), by omega, σ', S', g1, g2, g3, by omega, rfl, g4⟩, ?_⟩
    intro x H3 hy
    obtain ⟨rx, hh3, e3⟩ := sr.yld i H2 S2 src.items[i] x H3 e2 hh2 q1 (List.getElem?_eq_getElem hlt) hy
    refine ⟨σ2, S2, _, _, hs2.mono e3, hh3, rx, q2, fun σ' τ' g1 g2 g3 => ?_⟩
    have e13 := e1.trans (e2.trans e3)
    refine ⟨σ', S2, _, _, g1, hh3, g3, ⟨fun σ4 τ4 H4 S4 r4 hh4 e4 q4 => ⟨σ4, S4, r4, hh4, e2.trans (e3.trans e4), q4⟩, (hd.mono e13).rt, fun σ4 τ4 H4 S4 r4 hh4 e4 q4 => hd.nx _ _ _ _ r4 hh4 (e13.trans e4) q4, fun σ4 τ4 H4 S4 r4 hh4 e4 q4 => ⟨σ4, S4, r4, hh4, e2.trans (e3.trans e4), q4⟩⟩, hx.mono e13⟩
theorem sound_while (ok : OkS X Γ G k W) {c : Expr} {b : List Stmt} {pos : Pos} {cc : CT} {cb : CSs} (h1 : compT n Γ c = some cc) (hb : PSs X b (upS_ X.K X.w X.mg W (wpSs G cb))) : PS X (.While c b [] pos) (upS_ X.K X.w X.mg W (wpS G (.while cc cb))) := by
  have ih := snd_all (G := G) (k := k) n
  refine PS.imp (ps_while ok.po (ih.t h1 ok.toOk) hb) fun D τ H q => ?_
  obtain ⟨σ, S, D', E', hs, hh, hc, hd, hx⟩ := q
  simp only [wpS] at hc
  obtain ⟨m0, hc⟩ := hc
  refine ⟨fun m τ2 H2 => ∃ σ2 S2, RepSt X.K X.w H2 S2 σ2 τ2 ∧ RepH X.K X.w H2 S2 ∧ Ext X.K S H S2 H2 ∧ whileN _ _ D'.nx m σ2 S2, ⟨m0, σ, S, hs, hh, Ext.refl, hc⟩, ?_⟩
  intro m τ2 H2 ⟨σ2, S2, hs2, hh2, e2, q⟩
  cases m with
  | zero => exact q.elim
  | succ m =>
    simp only [whileN] at q
    refine ⟨σ2, S2, _, _, hs2, hh2, q, fun kk H3 S3 hh3 e3 q3 => ?_, (hx.mono e2).kX hs2⟩
    have e23 := e2.trans e3
    cases kk with
    | false => exact ite_ff (hd.nx _ _ _ _ (hs2.mono e3) hh3 e23 q3)
    | true =>
      refine ite_tt ⟨fun τ' H' => ∃ σ' S', RepSt X.K X.w H' S' σ' τ' ∧ RepH X.K X.w H' S' ∧ Ext X.K S H S' H' ∧ whileN _ _ D'.nx m σ' S', fun τ' H' h => ⟨m, Nat.lt_succ_self m, h⟩, ?_⟩
      refine ⟨σ2, S3, _, _, hs2.mono e3, hh3, q3, ⟨fun σ4 τ4 H4 S4 r4 hh4 e4 q4 => ⟨σ4, S4, r4, hh4, e23.trans e4, q4⟩, (hd.mono e23).rt, fun σ4 τ4 H4 S4 r4 hh4 e4 q4 => hd.nx _ _ _ _ r4 hh4 (e23.trans e4) q4, fun σ4 τ4 H4 S4 r4 hh4 e4 q4 => ⟨σ4, S4, r4, hh4, e23.trans e4, q4⟩⟩, hx.mono e23⟩
end
end DL
end
section
set_option maxRecDepth 100000
set_option maxHeartbeats 2000000
/-! Soundness: statements, all. -/
namespace DL
open PySem PySem.Spec L2
open PyProof.Rows hiding St

section
variable {X : Cx} {Γ : Gam} {G : GE} {k n : Nat} {W : WX}
theorem sound_if (ok : Ok X Γ G k W) {c : Expr} {a b : List Stmt} {pos : Pos} {cc : CT} {ca cb : CSs} (h1 : compT n Γ c = some cc) (ha : PSs X a (upS_ X.K X.w X.mg W (wpSs G ca))) (hb : PSs X b (upS_ X.K X.w X.mg W (wpSs G cb))) :
    PS X (.If c a b pos) (upS_ X.K X.w X.mg W (wpS G (.ite cc ca cb))) := by
  refine PS.imp (ps_if ((snd_all n).t h1 ok) ha hb) fun D τ H q => ?_
  obtain ⟨σ, S, D', E', hs, hh, hc, hd, hx⟩ := q
  simp only [wpS] at hc
  refine ⟨σ, S, _, _, hs, hh, hc, fun v H1 S1 hh1 e1 q => ?_, hx.kX hs⟩
  cases v with
  | true => exact ite_tt ⟨σ, S1, D', E', hs.mono e1, hh1, q, hd.mono e1, hx.mono e1⟩
  | false => exact ite_ff ⟨σ, S1, D', E', hs.mono e1, hh1, q, hd.mono e1, hx.mono e1⟩
theorem sound_ex (ok : Ok X Γ G k W) {e : Expr} {pos : Pos} {c : CE} (h1 : compE n Γ e = some c) (h : noComp e = true) : PS X (.Expr e pos) (upS_ X.K X.w X.mg W (wpS G (.ex c))) := by
  refine PS.imp (ps_expr ((snd_all n).e h1 ok).1 (noComp_sw h)) fun D τ H q => ?_
  obtain ⟨σ, S, D', E', hs, hh, hc, hd, hx⟩ := q
  simp only [wpS] at hc
  exact ⟨σ, S, _, _, hs, hh, hc, fun v H1 v' S1 rv hh1 e1 q => hd.nx _ _ _ _ (hs.mono e1) hh1 e1 q, hx.kX hs⟩
theorem sound_ret (ok : Ok X Γ G k W) {e : Expr} {pos : Pos} {c : CE} (h1 : compE n Γ e = some c) : PS X (.Return (some e) pos) (upS_ X.K X.w X.mg W (wpS G (.ret c))) := by
  refine PS.imp (ps_ret ((snd_all n).e h1 ok).1) fun D τ H q => ?_
  obtain ⟨σ, S, D', E', hs, hh, hc, hd, hx⟩ := q
  simp only [wpS] at hc
  exact ⟨σ, S, _, _, hs, hh, hc, hd.rt, hx.kX hs⟩
theorem sound_raise (ok : OkS X Γ G k W) {x m : Str} {j : Nat} {p p2 pos pos2 : Pos} (h : (Γ.exc.contains x && Γ.glob x && !dbg x && Γ.blk.isNone) = true) :
    PS X (.Raise (some (.Call (.Name x p) [.Constant (.str m) j p2] [] pos2)) none pos) (upS_ X.K X.w X.mg W (wpS G (.raise x))) := by
  simp only [Bool.and_eq_true, Bool.not_eq_true'] at h
  obtain ⟨⟨⟨h1, h2⟩, h3⟩, h4⟩ := h
  obtain ⟨C, hC, hp⟩ := ok.exc x h1
  refine PS.imp (ps_raise ok.calm ok.tk (hp m j p p2 pos2 (ok.toOk.glob h2) h3)) fun D τ H q => ?_
  obtain ⟨σ, S, D', E', hs, hh, hc, hd, hx⟩ := q
  simp only [wpS] at hc
  exact hx ⟨x, []⟩ _ _ H S σ τ ⟨hC, rfl⟩ hh Ext.refl hs hc
theorem snd_s : ∀ n : Nat,
    (∀ {Γ : Gam} {s : Stmt} {c : CS}, compS n Γ s = some c → ∀ {X : Cx} {W : WX}, OkS X Γ G k W → PS X s (upS_ X.K X.w X.mg W (wpS G c))) ∧
    (∀ {Γ : Gam} {ss : List Stmt} {c : CSs}, compSs n Γ ss = some c → ∀ {X : Cx} {W : WX}, OkS X Γ G k W → PSs X ss (upS_ X.K X.w X.mg W (wpSs G c))) := by
  have pnil : ∀ {X : Cx} {W : WX}, PSs X [] (upS_ X.K X.w X.mg W (wpSs G .nil)) := fun {X W} => by
    refine PSs.imp pss_nil fun D τ H q => ?_
    obtain ⟨σ, S, D', E', hs, hh, hc, hd, hx⟩ := q
    simp only [wpSs] at hc
    exact hd.nx _ _ _ _ hs hh Ext.refl hc
  have ppass : ∀ {X : Cx} {W : WX} {st : Stmt}, PS X st tNext → PS X st (upS_ X.K X.w X.mg W (wpS G .pass)) := fun {X W st} h => by
    refine PS.imp h fun D τ H q => ?_
    obtain ⟨σ, S, D', E', hs, hh, hc, hd, hx⟩ := q
    simp only [wpS] at hc
    exact hd.nx _ _ _ _ hs hh Ext.refl hc
  intro n
  induction n with
  | zero =>
    refine ⟨fun h => by simp [compS] at h, fun {Γ ss c} h {X W} ok => ?_⟩
    cases ss with
    | nil =>
      simp only [compSs, Option.some.injEq] at h
      subst h
      exact pnil
    | cons _ _ => simp [compSs] at h
  | succ n ih =>
    refine ⟨fun {Γ s c} h {X W} ok => ?_, fun {Γ ss c} h {X W} ok => ?_⟩
    · cases s with
      | Assign ts e pos =>
        match ts, h with
        | [.Name x px], h =>
          simp only [compS, Option.bind_eq_bind, Option.bind_eq_some_iff] at h
          obtain ⟨t, h1, ce, h2, h⟩ := h
          split at h
          · rename_i h3
            cases h
            exact sound_asgN ok.toOk h1 h2 h3
          · cases h
        | [.Tuple es kk pt], h =>
          unfold compS at h
          try dsimp only at h
          split at h
          · rename_i hn
            split at h
            · rename_i vs k2 p2
              split at h
              · rename_i x px y py a b
                split at h
                · rename_i hc
                  simp only [Bool.and_eq_true, bne_iff_ne, ne_eq, beq_iff_eq] at hc
                  obtain ⟨⟨⟨⟨hxy, hx⟩, hy⟩, hs⟩, hf⟩ := hc
                  simp only [Option.bind_eq_bind, Option.bind_eq_some_iff, Option.pure_def, Option.some.injEq] at h
                  obtain ⟨t, h1, ce, h2, rfl⟩ := h
                  exact sound_par ok.toOk h1 h2 hxy hx hy hs hf
                · cases h
              · cases h
            · rename_i hne
              simp only [Option.bind_eq_bind, Option.bind_eq_some_iff, Option.pure_def, Option.some.injEq] at h
              obtain ⟨t, h1, ce, h2, rfl⟩ := h
              refine sound_asgT ok.toOk h1 h2 hn ?_
              cases e <;> first | rfl | exact absurd rfl (hne _ _ _)
          · cases h
        | [.Subscript o i pi], h =>
          unfold compS at h
          try dsimp only at h
          split at h
          · rename_i hn
            rw [Bool.and_eq_true] at hn
            simp only [Option.bind_eq_bind, Option.bind_eq_some_iff, Option.pure_def, Option.some.injEq] at h
            obtain ⟨co, h1, ci, h2, ce, h3, rfl⟩ := h
            exact sound_setI ok.toOk h1 h2 h3 hn.1 hn.2
          · cases h
        | [], h => simp [compS] at h
        | _ :: _ :: _, h => simp [compS] at h
        | [.BoolOp ..], h => simp [compS] at h
        | [.NamedExpr ..], h => simp [compS] at h
        | [.BinOp ..], h => simp [compS] at h
        | [.UnaryOp ..], h => simp [compS] at h
        | [.Lambda ..], h => simp [compS] at h
        | [.IfExp ..], h => simp [compS] at h
        | [.Dict ..], h => simp [compS] at h
        | [.Set ..], h => simp [compS] at h
        | [.ListComp ..], h => simp [compS] at h
        | [.SetComp ..], h => simp [compS] at h
        | [.DictComp ..], h => simp [compS] at h
        | [.GeneratorExp ..], h => simp [compS] at h
        | [.Await ..], h => simp [compS] at h
        | [.Yield ..], h => simp [compS] at h
        | [.YieldFrom ..], h => simp [compS] at h
        | [.Compare ..], h => simp [compS] at h
        | [.Call ..], h => simp [compS] at h
        | [.FormattedValue ..], h => simp [compS] at h
        | [.JoinedStr ..], h => simp [compS] at h
        | [.Constant ..], h => simp [compS] at h
        | [.Attribute ..], h => simp [compS] at h
        | [.Starred ..], h => simp [compS] at h
        | [.List ..], h => simp [compS] at h
        | [.Slice ..], h => simp [compS] at h
      | Expr e pos =>
        unfold compS at h
        try dsimp only at h
        split at h
        · rename_i hn
          split at h
          · cases h
            exact ppass ps_doc
          · obtain ⟨ce, h1, rfl⟩ := Option.map_eq_some_iff.mp h
            exact sound_ex ok.toOk h1 hn
        · cases h
      | If c a b pos =>
        simp only [compS, Option.bind_eq_bind, Option.bind_eq_some_iff, Option.pure_def, Option.some.injEq] at h
        obtain ⟨cc, h1, ca, h2, cb, h3, rfl⟩ := h
        exact sound_if ok.toOk h1 (ih.2 h2 ok) (ih.2 h3 ok)
      | For tg it b orelse pos =>
        cases orelse with
        | cons _ _ => simp [compS] at h
        | nil =>
          unfold compS at h
          try dsimp only at h
          split at h
          · rename_i h0
            simp only [Option.bind_eq_bind, Option.bind_eq_some_iff, Option.pure_def, Option.some.injEq] at h
            obtain ⟨ct, h1, ci, h2, cb, h3, rfl⟩ := h
            exact sound_for ok h0 h1 h2 (ih.2 h3 ok)
          · cases h
      | While c b orelse pos =>
        cases orelse with
        | cons _ _ => simp [compS] at h
        | nil =>
          simp only [compS, Option.bind_eq_bind, Option.bind_eq_some_iff, Option.pure_def, Option.some.injEq] at h
          obtain ⟨cc, h1, cb, h2, rfl⟩ := h
          exact sound_while ok h1 (ih.2 h2 ok)
      | Return e pos =>
        cases e with
        | some e =>
          simp only [compS] at h
          obtain ⟨ce, h1, rfl⟩ := Option.map_eq_some_iff.mp h
          exact sound_ret ok.toOk h1
        | none =>
          simp only [compS, Option.some.injEq] at h
          subst h
          refine PS.imp ps_retN fun D τ H q => ?_
          obtain ⟨σ, S, D', E', hs, hh, hc, hd, hx⟩ := q
          simp only [wpS] at hc
          exact hd.rt _ _ .non S (by simp only [RepV]) hh Ext.refl hc
      | Raise e c2 pos =>
        unfold compS at h
        try dsimp only at h
        split at h
        · split at h
          · rename_i hc
            cases h
            exact sound_raise ok hc
          · cases h
        · cases h
      | Pass pos =>
        simp only [compS, Option.some.injEq] at h
        subst h
        exact ppass ps_pass
      | Break pos =>
        simp only [compS, Option.some.injEq] at h
        subst h
        refine PS.imp ps_break fun D τ H q => ?_
        obtain ⟨σ, S, D', E', hs, hh, hc, hd, hx⟩ := q
        simp only [wpS] at hc
        exact hd.bk _ _ _ _ hs hh Ext.refl hc
      | Continue pos =>
        simp only [compS, Option.some.injEq] at h
        subst h
        refine PS.imp ps_continue fun D τ H q => ?_
        obtain ⟨σ, S, D', E', hs, hh, hc, hd, hx⟩ := q
        simp only [wpS] at hc
        exact hd.ct _ _ _ _ hs hh Ext.refl hc
      | _ => simp [compS] at h
    · cases ss with
      | nil =>
        simp only [compSs, Option.some.injEq] at h
        subst h
        exact pnil
      | cons s ss =>
        simp only [compSs, Option.bind_eq_bind, Option.bind_eq_some_iff, Option.pure_def, Option.some.injEq] at h
        obtain ⟨cs, h1, css, h2, rfl⟩ := h
        refine PSs.imp (pss_cons (ih.1 h1 ok) (ih.2 h2 ok)) fun D τ H q => ?_
        obtain ⟨σ, S, D', E', hs, hh, hc, hd, hx⟩ := q
        simp only [wpSs] at hc
        exact ⟨σ, S, _, E', hs, hh, hc, ⟨fun σ1 τ1 H1 S1 r1 hh1 e1 q1 => ⟨σ1, S1, D', E', r1, hh1, q1, hd.mono e1, hx.mono e1⟩, hd.rt, hd.bk, hd.ct⟩, hx⟩
end
end DL
end
section
set_option maxRecDepth 100000
set_option maxHeartbeats 2000000
/-! Defs: a promise by values, kept by its body's wp. -/
namespace DL
open PySem PySem.Spec L2
open PyProof.Rows hiding St

/-- a promise by values: what is asked, what is handed back, what is raised -/
def spR (pre : List PV → Sto → Prop) (post : List PV → Sto → PV → Sto → Prop) (xp : List PV → Sto → Exn → Sto → Prop := fun _ _ _ _ => False) : SpD := fun vs S Q E => pre vs S ∧ (∀ r S', post vs S r S' → Q r S') ∧ ∀ x S', xp vs S x S' → E x S'
/-- the first store tells no more than the second -/
def Less (S S' : Sto) : Prop := ∀ a, S a = S' a ∨ S a = none
/-- v1 in S1 may be taken for v2 in S2 -/
def Sub (S1 : Sto) (v1 : PV) (S2 : Sto) (v2 : PV) : Prop := ∀ (K : PySem.W.Frag) (w : World) (H : Hp) (v : V), RepV K w H S1 v1 v → RepH K w H S1 → RepV K w H S2 v2 v ∧ RepH K w H S2 ∧ Ext K S1 H S2 H
theorem Less.sub {S S' : Sto} (l : Less S S') {v : PV} : Sub S' v S v := fun K w H u r hh => ⟨RepV.mono (Ext.less l) _ _ r, hh.less l, Ext.less l⟩
def Cl (Q : Post) : Prop := ∀ v1 S1 v2 S2, Sub S1 v1 S2 v2 → Q v2 S2 → Q v1 S1
def ClX (E : XPost) : Prop := ∀ x S1 S2, Less S2 S1 → E x S2 → E x S1
theorem Cl.less {Q : Post} (h : Cl Q) {v : PV} {S S' : Sto} (l : Less S S') (q : Q v S) : Q v S' := h _ _ _ _ l.sub q
theorem Less.refl {S : Sto} : Less S S := fun _ => .inl rfl
theorem Less.up {S : Sto} {p : Addr} {o : MO} (h : S p = none) : Less S (upS S p o) := fun a => by
  by_cases e : a = p
  · subst e; exact .inr h
  · rw [upS_ne e]; exact .inl rfl
theorem Less.trans {S S' S2 : Sto} (a : Less S S') (b : Less S' S2) : Less S S2 := fun x => by
  rcases a x with h | h
  · rcases b x with g | g
    · exact .inl (h.trans g)
    · exact .inr (h.trans g)
  · exact .inr h
theorem RepX.less {K : PySem.W.Frag} {w : World} {mg : Mg} {H : Hp} {S S' : Sto} {x : Exn} {cls : Value} {d : Option Addr} (l : Less S' S) (r : RepX K w mg H S x cls d) : RepX K w mg H S' x cls d := by
  obtain ⟨nm, fs⟩ := x
  refine ⟨r.1, ?_⟩
  cases fs with
  | nil => exact r.2
  | cons f fs =>
    obtain ⟨a, gs, g1, g2, g3, g4⟩ := r.2
    exact ⟨a, gs, g1, g2, g3, RepVs.mono (Ext.less l) _ _ g4⟩
/-- the slots at a def's entry -/
def startS (N : List Str) (vs : List PV) : Sl := vs.map some ++ List.replicate (N.length - vs.length) none
theorem RepSt.app {K : PySem.W.Frag} {w : World} {H : Hp} {S : Sto} : ∀ {xs : List PV} {vs : List V} {σ : Sl} {τ : L2.St}, RepVs K w H S xs vs → RepSt K w H S σ τ → RepSt K w H S (xs.map some ++ σ) (vs.map some ++ τ)
  | [], vs, _, _, h, g => by rw [h.nil_inv]; exact g
  | x :: xs, vs, σ, τ, h, g => by
    obtain ⟨v, us, rfl, r1, r2⟩ := h.cons_inv
    exact ⟨⟨v, rfl, r1⟩, RepSt.app r2 g⟩
theorem RepSt.nones {K : PySem.W.Frag} {w : World} {H : Hp} {S : Sto} : ∀ n : Nat, RepSt K w H S (List.replicate n none) (List.replicate n none)
  | 0 => trivial
  | n + 1 => RepSt.nones n
theorem RepSt.start {K : PySem.W.Frag} {w : World} {H : Hp} {S : Sto} {xs : List PV} {vs : List V} (N : List Str) (r : RepVs K w H S xs vs) : RepSt K w H S (startS N xs) (L2.start N vs) := by
  unfold startS L2.start
  rw [r.length]
  exact RepSt.app r (RepSt.nones _)
/-- a def that stands and keeps its promise -/
def FH (P : Program) (w : World) (K : PySem.W.Frag) (mg : Mg) (base : Heap) (G : GE) (k : Nat) (x : Str) (i m : Nat) : Prop :=
  ∃ a fd ps, mg x = some (.ref a) ∧ PySem.W.keepIn K (.ref a) = true ∧ Binds K fd ps [] ∧ ps.length = m ∧ FnOk P w K mg base (L2.CX P w) k a fd ps (spUp K w mg m (G.fn i))
theorem FH.mono {P : Program} {w : World} {K : PySem.W.Frag} {mg : Mg} {base : Heap} {G : GE} {j k : Nat} {x : Str} {i m : Nat} (h : FH P w K mg base G j x i m) (l : j ≤ k) : FH P w K mg base G k x i m := by
  obtain ⟨a, fd, ps, h1, h2, h3, h4, h5⟩ := h
  exact ⟨a, fd, ps, h1, h2, h3, h4, h5.mono l⟩
/-- what is known of the module -/
structure MH (P : Program) (w : World) (K : PySem.W.Frag) (mg : Mg) (base : Heap) (G : GE) (k : Nat) (Γ : Gam) : Prop where
  fns : ∀ x i m, Γ.fns.lookup x = some (i, m) → FH P w K mg base G k x i m
  free : ∀ x, Γ.free.contains x = true → mg x = none
  cst : ∀ x v, Γ.cst.lookup x = some v → ∃ u vv, mg x = some u ∧ RelV vv u ∧ ∀ H S, RepV K w H S v vv
  exc : ∀ x, Γ.exc.contains x = true → ∃ C, mg x = some (.ref C) ∧ PySem.W.excIn K C He.veBase "ValueError.__new__" = true ∧ PySem.W.keepIn K (.ref C) = true ∧ PySem.W.subIn K (.ref C) (.type "BaseException") = some true ∧ PySem.W.typeIn K (.ref C) = some (.type "type")
/-- THE RULE: a def keeps its promise by its body's wp -/
theorem fn_run {P : Program} {w : World} {K : PySem.W.Frag} {mg : Mg} {base : Heap} {G : GE} {k n : Nat} {Γ : Gam} {x qual : Str} {params : Arguments} {body : List Stmt} {scope : Scope} {f : Addr} {fd : FuncData} {ps : List Str} {c : CSs} {i m : Nat}
    {pre : List PV → Sto → Prop} {post : List PV → Sto → PV → Sto → Prop} {xp : List PV → Sto → Exn → Sto → Prop}
    (F : FunD K x qual params body scope [] [] f fd) (S0 : FnScope Γ.N ps scope) (hn : scope.names = Γ.names) (hcomp : compSs n Γ body = some c) (hblk : Γ.blk = none) (M : MH P w K mg base G k Γ) (hm : ps.length = m) (hmg : mg x = some (.ref f))
    (hb : Binds K fd ps []) (hG : G.fn i = spR pre post xp)
    (hwp : ∀ vs S Q E, Cl Q → ClX E → vs.length = m → pre vs S → (∀ r S', post vs S r S' → Q r S') → (∀ x S', xp vs S x S' → E x S') → wpSs G c { nx := fun _ S => Q .non S, rt := Q } (fun x _ S => E x S) (startS Γ.N vs) S) :
    FnOk P w K mg base (L2.CX P w) (k + 1) f fd ps (spUp K w mg m (G.fn i)) := by
  refine F.ok S0 (fun vs H Q E h => ?_) fun cdv A outer s H vs Q E hr h => ?_
  · rw [hm]
    exact h.1
  · obtain ⟨hl, vs', S, Q', E', rv, hh, hsp, hq, hx⟩ := h
    rw [hG] at hsp
    obtain ⟨h1, h2, h3⟩ := hsp
    have okS : OkS (cxOf (L2.CX P w) P w K mg base Γ.N qual scope f cdv A outer s H E) Γ G k (fun cls d _ H => E cls d H) :=
      { N := rfl, nd := S0.nd, sc := hn, kd := S0.kind, calm := rfl, room := hr, fnc := fun _ _ => .inl rfl, fns := M.fns, free := M.free, cst := M.cst, tk := takes_of rfl rfl rfl rfl, po := passes_of rfl,
        exc := fun x hx => by
          obtain ⟨C, e1, e2, e3, e4, e5⟩ := M.exc x hx
          exact ⟨C, e1, fun m j p p2 pos hg hd => pmk_own PySem.F.excBase_ValueError e2 e1 e3 (raises_own e4 e5) hg hd⟩ }
    refine ⟨upS_ K w mg (fun cls d _ H => E cls d H) (wpSs G c), (snd_s n).2 hcomp okS, ?_⟩
    have hl2 : vs'.length = m := rv.length.trans hl
    let Q2 : Post := fun v' S' => ∀ v H', RepV K w H' S' v' v → RepH K w H' S' → Ext K S H S' H' → Q v H'
    let E2 : XPost := fun x S' => ∀ cls d H', RepX K w mg H' S' x cls d → RepH K w H' S' → Ext K S H S' H' → E cls d H'
    refine ⟨startS Γ.N vs', S, { nx := fun _ S => Q2 .non S, rt := Q2 }, fun x _ S => E2 x S, RepSt.start _ rv, hh, ?_, ⟨?_, ?_, ?_, ?_⟩, ?_⟩
    · refine hwp vs' S Q2 E2 (fun v1 S1 v2 S2 hs q v H' r hh' e => ?_) (fun x S1 S2 hs q cls d H' r hh' e => ?_) hl2 h1 (fun r S' hp v H' r' hh' e => hq v H' r S' r' hh' e (h2 r S' hp)) fun x S' hp cls d H' r' hh' e => hx x cls d H' S' r' hh' e (h3 x S' hp)
      · obtain ⟨g1, g2, g3⟩ := hs K w H' v r hh'
        exact q v H' g1 g2 (e.trans g3)
      · exact q cls d H' (RepX.less hs r) (hh'.less hs) (e.trans (Ext.less hs))
    · exact fun σ' τ' H' S' _ hh' e q => q _ H' (by simp only [RepV]) hh' e
    · exact fun v H' v' S' r hh' e q => q v H' r hh' e
    · exact fun _ _ _ _ _ _ _ q => q.elim
    · exact fun _ _ _ _ _ _ _ q => q.elim
    · exact fun x cls d H' S' σ' τ' r hh' e _ q => q cls d H' r hh' e
theorem fn_step {P : Program} {w : World} {K : PySem.W.Frag} {mg : Mg} {base : Heap} {G : GE} {k : Nat} {x : Str} {f : Addr} {fd : FuncData} {ps : List Str} {i m : Nat} (hmg : mg x = some (.ref f)) (kp : PySem.W.keepIn K (.ref f) = true) (hb : Binds K fd ps []) (hm : ps.length = m)
    (h : FnOk P w K mg base (L2.CX P w) k f fd ps (spUp K w mg m (G.fn i))) : FH P w K mg base G k x i m := ⟨f, fd, ps, hmg, kp, hb, hm, h⟩
theorem fns_nil {R : Str → Nat → Nat → Prop} : ∀ x i m, ([] : List (Str × Nat × Nat)).lookup x = some (i, m) → R x i m := fun _ _ _ h => by cases h
theorem fns_cons {R : Str → Nat → Nat → Prop} {y : Str} {j n : Nat} {l : List (Str × Nat × Nat)} (h : R y j n) (t : ∀ x i m, l.lookup x = some (i, m) → R x i m) : ∀ x i m, ((y, j, n) :: l).lookup x = some (i, m) → R x i m := fun x i m e => by
  rw [List.lookup_cons] at e
  split at e
  · rename_i q
    cases e
    rw [eq_of_beq q]
    exact h
  · exact t x i m e
/-- any program, any world -/
def CXA : CXT := fun outer H s E u s' => ∃ P w, L2.CX P w outer H s E u s'
theorem cxa {P : Program} {w : World} {K : PySem.W.Frag} {mg : Mg} {base : Heap} {k : Nat} {f : Addr} {fd : FuncData} {ps : List Str} {sp : Sp} (F : FnOk P w K mg base (L2.CX P w) k f fd ps sp) : FnOk P w K mg base CXA k f fd ps sp :=
  ⟨F.len, fun A outer s H args us vs Q E hr he hb hv hs => codeAny_mono (F.run A outer s H args us vs Q E hr he hb hv hs) fun r s' h => by
    cases r with
    | ok fl => cases fl <;> exact h
    | error e => exact ⟨P, w, h⟩⟩
theorem cxa_none {H : Hp} {s : Shared} {e : Value} {s' : Shared} (h : CXA [] H s (fun _ _ _ => False) e s') : False := by
  obtain ⟨_, _, _, _, _, _, _, _, _, _, _, _, _, _, z⟩ := h
  exact z
/-- the law's promise, at its script -/
theorem law_up {K : PySem.W.Frag} {w : World} {mg : Mg} {H : Hp} {a : Addr} {ns : List Int} {pre : List PV → Sto → Prop} {post : List PV → Sto → PV → Sto → Prop} (hS : SqL K H a (ns.map V.int)) (hp : pre [.lst (ns.map .int)] fun _ => none) (hq : ∀ r S', post [.lst (ns.map .int)] (fun _ => none) r S' → r = .bl true) :
    spUp K w mg 1 (spR pre post) [.ref a] H (fun v _ => v = .bl true) fun _ _ _ => False := by
  refine ⟨rfl, [.lst (ns.map .int)], fun _ => none, fun v _ => v = .bl true, fun _ _ => False, .cons ?_ .nil, fun b o e => (by cases e), ⟨hp, hq, fun _ _ h => h⟩, fun v H' v' S' r _ _ q => ?_, fun _ _ _ _ _ _ _ _ q => q⟩
  · simp only [RepV]
    refine ⟨a, ns.map V.int, rfl, ?_, RepVs.of_ints⟩
    rcases hS with h | h
    · exact .inl ⟨h, rfl⟩
    · exact .inr h
  · subst q
    simpa only [RepV] using r
section
variable {K : PySem.W.Frag} {h : Heap} {mg : Mg}
/-- the facts of a module: its defs by their names, the names that it leaves free, its exceptions, its numbers -/
def facs (glos frees excs : List Str) (nums : List (Str × Int)) : List He.Fa := glos.map .glo ++ (frees.map .free ++ (excs.map .exc ++ (excs.map .glo ++ nums.map fun p => .int p.1 p.2)))
section
variable {glos frees excs : List Str} {nums : List (Str × Int)} {fn : List He.DefD}
theorem facs_ok (c : He.SaysD (facs glos frees excs nums) fn K) {f : He.Fa} (hf : f ∈ facs glos frees excs nums) : f.ok K = true := by
  have c1 := (He.ba (show (((facs glos frees excs nums).all fun f => f.ok K) && fn.all fun d => d.ok K) = true from congrArg (fun z : He.AlD => z.1) c)).1
  exact List.all_eq_true.mp c1 _ hf
theorem facs_glo (c : He.SaysD (facs glos frees excs nums) fn K) {x : Str} (hx : glos.contains x = true) : (He.Fa.glo x).ok K = true :=
  facs_ok c (List.mem_append_left _ (List.mem_map.mpr ⟨x, by simpa using hx, rfl⟩))
theorem frees_ok (X : K.In h) (G : h.Ns mainGlobals mg) (c : He.SaysD (facs glos frees excs nums) fn K) {l : List Str} (hl : l.all (fun x => frees.contains x) = true) : ∀ x, l.contains x = true → mg x = none := fun x hx =>
  He.free_ok X G (facs_ok c (List.mem_append_right _ (List.mem_append_left _ (List.mem_map.mpr ⟨x, by simpa using List.all_eq_true.mp hl x (by simpa using hx), rfl⟩))))
theorem csts_ok {w : World} (X : K.In h) (G : h.Ns mainGlobals mg) (c : He.SaysD (facs glos frees excs nums) fn K) : ∀ {l : List (Str × PV)}, (l.all fun p => match p.2 with | .int i => nums.contains (p.1, i) | _ => false) = true →
    ∀ x v, l.lookup x = some v → ∃ u vv, mg x = some u ∧ RelV vv u ∧ ∀ H S, RepV K w H S v vv
  | [], _, _, _, e => by cases e
  | p :: l, hl, x, v, e => by
    rw [List.all_cons, Bool.and_eq_true] at hl
    rw [List.lookup_cons] at e
    split at e
    · rename_i q
      cases e
      obtain ⟨y, v⟩ := p
      have hx : x = y := eq_of_beq q
      subst hx
      cases v with
      | int i =>
        have hm : (x, i) ∈ nums := by simpa using hl.1
        obtain ⟨t, ht⟩ := He.int_ok X G (facs_ok c (List.mem_append_right _ (List.mem_append_right _ (List.mem_append_right _ (List.mem_append_right _ (List.mem_map.mpr ⟨(x, i), hm, rfl⟩))))))
        exact ⟨_, .int i, ht, ⟨t, rfl⟩, fun H S => by simp only [RepV]⟩
      | _ => exact nomatch hl.1
    · exact csts_ok X G c hl.2 x v e
theorem excs_ok (X : K.In h) (G : h.Ns mainGlobals mg) (c : He.SaysD (facs glos frees excs nums) fn K) {l : List Str} (hl : l.all (fun x => excs.contains x) = true) : ∀ x, l.contains x = true → ∃ C, mg x = some (.ref C) ∧ PySem.W.excIn K C He.veBase "ValueError.__new__" = true ∧
    PySem.W.keepIn K (.ref C) = true ∧ PySem.W.subIn K (.ref C) (.type "BaseException") = some true ∧ PySem.W.typeIn K (.ref C) = some (.type "type") := fun x hx => by
  have hm : x ∈ excs := by simpa using List.all_eq_true.mp hl x (by simpa using hx)
  have e1 := He.glo_ok X G (facs_ok c (f := .glo x) (List.mem_append_right _ (List.mem_append_right _ (List.mem_append_right _ (List.mem_append_left _ (List.mem_map.mpr ⟨x, hm, rfl⟩))))))
  have e2 := He.exc_ok (facs_ok c (f := .exc x) (List.mem_append_right _ (List.mem_append_right _ (List.mem_append_left _ (List.mem_map.mpr ⟨x, hm, rfl⟩)))))
  exact ⟨_, e1, e2⟩
end
end
/-- a tuple's parts, a list's, frozen: the store told no more at p -/
theorem Sub.frz {S : Sto} {p : Addr} {xs : List PV} (h : S p = some (.lst xs)) : Sub S (.ref p) (delS S p) (.lst xs) := fun K w H v r hh => by
  simp only [RepV] at r
  subst r
  exact ⟨hh.frz h, hh.del, Ext.del⟩
end DL
end
section
set_option maxRecDepth 100000
/-! For the plain laws: loops by an invariant, small rules. -/
namespace DL
open PySem PySem.Spec L2
open PyProof.Rows hiding St

/-- a walk by an invariant: I by the number of turns made -/
theorem itL_at {α : Type} {ok : Sto → Prop} {step : PV → α → Sto → (α → Sto → Prop) → Prop} {dn : α → Sto → Prop} {items : List PV} (I : Nat → α → Sto → Prop)
    (hok : ∀ i a S, I i a S → ok S) (hs : ∀ i x a S k, items[i]? = some x → I i a S → (∀ a' S', I (i + 1) a' S' → k a' S') → step x a S k) (hd : ∀ a S, I items.length a S → dn a S) :
    ∀ (n i : Nat) (a : α) (S : Sto), n = items.length - i → i ≤ items.length → I i a S → itL ok step dn (items.drop i) a S
  | 0, i, a, S, hn, hi, h => by
    have e : i = items.length := by omega
    subst e
    rw [List.drop_length]
    exact ⟨hok _ _ _ h, hd _ _ h⟩
  | n + 1, i, a, S, hn, hi, h => by
    have hlt : i < items.length := by omega
    rw [List.drop_eq_getElem_cons hlt]
    exact ⟨hok _ _ _ h, hs i _ a S _ (List.getElem?_eq_getElem hlt) h fun a' S' h' => itL_at I hok hs hd n (i + 1) a' S' (by omega) (by omega) h'⟩
theorem itL_inv {α : Type} {ok : Sto → Prop} {step : PV → α → Sto → (α → Sto → Prop) → Prop} {dn : α → Sto → Prop} {items : List PV} {a : α} {S : Sto} (I : Nat → α → Sto → Prop) (h0 : I 0 a S)
    (hok : ∀ i a S, I i a S → ok S) (hs : ∀ i x a S k, items[i]? = some x → I i a S → (∀ a' S', I (i + 1) a' S' → k a' S') → step x a S k) (hd : ∀ a S, I items.length a S → dn a S) : itL ok step dn items a S :=
  itL_at I hok hs hd _ 0 a S rfl (Nat.zero_le _) h0
theorem delS_upS_self {S : Sto} {p : Addr} {o u : MO} (h : S p = none) : delS (upS S p o) p = S := delS_upS h
theorem upS_get {S : Sto} {p a : Addr} {o m : MO} (h : S p = none) (e : S a = some m) : upS S p o a = some m := by
  rw [upS_ne (fun z => by rw [z, h] at e; cases e)]
  exact e
/-- a list comprehension that changes nothing: element by element -/
theorem comp_map {ok : Sto → Prop} {step : PV → List PV → Sto → (List PV → Sto → Prop) → Prop} {items : List PV} {S : Sto} {p : Addr} {dn : List PV → Sto → Prop} (f : PV → PV) (hp : S p = none) (hok : ∀ acc, ok (upS S p (.lst acc)))
    (hs : ∀ i x acc k, items[i]? = some x → acc = (items.take i).map f → k (acc ++ [f x]) (upS S p (.lst (acc ++ [f x]))) → step x acc (upS S p (.lst acc)) k) (hd : dn (items.map f) (upS S p (.lst (items.map f)))) :
    itL ok step dn items [] (upS S p (.lst [])) := by
  refine itL_inv (fun i acc S' => acc = (items.take i).map f ∧ S' = upS S p (.lst acc)) ⟨by simp, rfl⟩ (fun i acc S' h => h.2 ▸ hok acc) (fun i x acc S' k hx h hk => ?_) fun acc S' h => ?_
  · obtain ⟨h1, rfl⟩ := h
    refine hs i x acc k hx h1 (hk _ _ ⟨?_, rfl⟩)
    have hlt := (List.getElem?_eq_some_iff.mp hx).1
    rw [h1, List.take_add_one, hx]
    simp
  · obtain ⟨h1, rfl⟩ := h
    rw [List.take_length] at h1
    subst h1
    exact hd
/-- a comprehension whose parts are all of one kind -/
theorem comp_all {ok : Sto → Prop} {step : PV → List PV → Sto → (List PV → Sto → Prop) → Prop} {items : List PV} {S : Sto} {p : Addr} {dn : List PV → Sto → Prop} (R : PV → Prop) (hok : ∀ acc, ok (upS S p (.lst acc)))
    (hs : ∀ (i : Nat) x acc k, items[i]? = some x → (∀ y, R y → k (acc ++ [y]) (upS S p (.lst (acc ++ [y])))) → step x acc (upS S p (.lst acc)) k) (hd : ∀ acc, acc.length = items.length → (∀ y ∈ acc, R y) → dn acc (upS S p (.lst acc))) :
    itL ok step dn items [] (upS S p (.lst [])) := by
  refine itL_inv (fun i acc S' => acc.length = i ∧ (∀ y ∈ acc, R y) ∧ S' = upS S p (.lst acc)) ⟨rfl, fun y hy => by simp at hy, rfl⟩ (fun i acc S' h => h.2.2 ▸ hok acc) (fun i x acc S' k hx h hk => ?_) fun acc S' h => ?_
  · obtain ⟨h1, h2, rfl⟩ := h
    refine hs i x acc k hx fun y hy => hk _ _ ⟨by rw [List.length_append, h1]; rfl, fun z hz => ?_, rfl⟩
    rcases List.mem_append.mp hz with hz | hz
    · exact h2 z hz
    · rw [List.mem_singleton.mp hz]; exact hy
  · obtain ⟨h1, h2, rfl⟩ := h
    exact hd acc h1 h2
theorem cutP_mem {xs : List PV} {lo hi : Option Int} {y : PV} (h : y ∈ cutP xs lo hi) : y ∈ xs := List.mem_of_mem_drop (List.mem_of_mem_take h)
theorem enumP_mem {xs : List PV} {i : Nat} {x : PV} (h : (enumP 0 xs)[i]? = some x) : ∃ y ∈ xs, xs[i]? = some y ∧ x = .tup [.int (i : Nat), y] := by
  rw [enumP_get] at h
  obtain ⟨y, h1, rfl⟩ := Option.map_eq_some_iff.mp h
  exact ⟨y, List.mem_of_getElem? h1, h1, by rw [Nat.zero_add]⟩
/-- ints, and nothing else -/
theorem ints_of {xs : List PV} (h : ∀ y ∈ xs, ∃ i, y = PV.int i) : ∃ ns : List Int, xs = ns.map PV.int := by
  induction xs with
  | nil => exact ⟨[], rfl⟩
  | cons x xs ih =>
    obtain ⟨i, rfl⟩ := h x (by simp)
    obtain ⟨ns, rfl⟩ := ih fun y hy => h y (by simp [hy])
    exact ⟨i :: ns, rfl⟩
end DL
end
section
set_option maxRecDepth 100000
set_option maxHeartbeats 1000000
/-! The draws of a script: by a cell's own digits, or mixed. -/
namespace DL
open PySem PySem.Spec L2
open PyProof.Rows hiding St
local macro_rules | `(tactic| walk_at "wp") => `(tactic| simp only [wpSs, wpS, wpE, wpEs, wpT, wpC, wpO, wpL, wpI, wpH, List.getElem?_cons_zero, List.getElem?_cons_succ, List.set_cons_zero, List.set_cons_succ])
def irCell : CSs := (.cons (.ite (.tst (.cmp .lt (.var 1) (.bi .len false (.cons (.var 0) .nil)))) (.cons (.ret (.idx (.var 0) (.var 1))) .nil) .nil) (.cons (.ret (.cst (.int 0))) .nil))
def irPen (ic : Nat) : CSs := (.cons (.asg (.nm 1) (.bin .mod false (.bi .sum false (.cons (.comp false (.bin .mul false (.bin .add false (.bin .mod false (.var 3) (.cst (.int 2147483629))) (.cst (.int 1))) (.bin .add false (.bin .mul false (.var 2) (.var 2)) (.cst (.int 7)))) (.tp [(.nm 2), (.nm 3)]) (.enum (.slc false (.var 0) .none (.some (.cst (.int 63))))) .none [2, 3]) .nil)) (.cst (.int 2147483647)))) (.cons (.ret (.lst true (.cons (.var 0) (.cons (.cst (.int 1)) (.cons (.call ic false (.cons (.var 0) (.cons (.cst (.int 1)) .nil))) (.cons (.cst (.int 0)) (.cons (.bin .mod false (.call ic false (.cons (.var 0) (.cons (.cst (.int 0)) .nil))) (.cst (.int 2))) (.cons (.var 1) .nil)))))))) .nil))
def irTake (ic : Nat) : CSs := (.cons (.ite (.tst (.cmp .eq (.idx (.var 0) (.cst (.int 4))) (.cst (.int 1)))) (.cons (.setI (.var 0) (.cst (.int 5)) (.bin .mod false (.bin .add false (.bin .mul false (.idx (.var 0) (.cst (.int 5))) (.cst (.int 48271))) (.cst (.int 12345))) (.cst (.int 2147483647)))) (.cons (.ret (.bin .mod false (.bin .fdiv false (.bin .mod false (.bin .mul false (.idx (.var 0) (.cst (.int 5))) (.cst (.int 1181783497276652981))) (.cst (.int 2305843009213693951))) (.cst (.int 64))) (.var 1))) .nil)) .nil) (.cons (.ite (.tst (.cmp .eq (.idx (.var 0) (.cst (.int 3))) (.cst (.int 50)))) (.cons (.setI (.var 0) (.cst (.int 1)) (.bin .add false (.idx (.var 0) (.cst (.int 1))) (.cst (.int 1)))) (.cons (.setI (.var 0) (.cst (.int 2)) (.call ic false (.cons (.idx (.var 0) (.cst (.int 0))) (.cons (.idx (.var 0) (.cst (.int 1))) .nil)))) (.cons (.setI (.var 0) (.cst (.int 3)) (.cst (.int 0))) .nil))) .nil) (.cons (.setI (.var 0) (.cst (.int 3)) (.bin .add false (.idx (.var 0) (.cst (.int 3))) (.cst (.int 1)))) (.cons (.asg (.nm 2) (.bin .mod false (.idx (.var 0) (.cst (.int 2))) (.var 1))) (.cons (.setI (.var 0) (.cst (.int 2)) (.bin .fdiv false (.idx (.var 0) (.cst (.int 2))) (.var 1))) (.cons (.ret (.var 2)) .nil))))))
theorem atI_of {xs : List PV} {i : Int} {j : Nat} {v : PV} (h0 : 0 ≤ i) (e : i.toNat = j) (h : xs[j]? = some v) : L2.atI xs i = some v := by
  have : i = ((j : Nat) : Int) := by omega
  rw [this]
  exact atI_nat h
/-- a script's number, 0 behind its end -/
def cellPre : List PV → Sto → Prop := fun vs S => ∃ (ns : List Int) (k : Int), vs = [.lst (ns.map .int), .int k] ∧ 0 ≤ k
def cellPost : List PV → Sto → PV → Sto → Prop := fun vs S r S' => ∃ i, r = .int i ∧ S' = S
theorem w_cell {G : GE} {vs : List PV} {S : Sto} {Q : Post} {E : XPost} (hp : cellPre vs S) (hq : ∀ r S', cellPost vs S r S' → Q r S') : wpSs G irCell { nx := fun _ S => Q .non S, rt := Q } (fun x _ S => E x S) (startS ["_law_script", "_law_k"] vs) S := by
  obtain ⟨ns, k, rfl, hk⟩ := hp
  rw [show startS ["_law_script", "_law_k"] [.lst (ns.map .int), .int k] = [some (.lst (ns.map .int)), some (.int k)] from rfl]
  unfold irCell
  walk_at "wp"
  simp only [biD, dQ, cmpD, truD, idxD]
  by_cases h : k < ((ns.map PV.int).length : Int)
  · have h2 : k.toNat < ns.length := by simp at h; omega
    have e : L2.atI (ns.map PV.int) k = some (.int ns[k.toNat]) := atI_of hk rfl (by rw [List.getElem?_map, List.getElem?_eq_getElem h2]; rfl)
    simp only [h, decide_true, e]
    exact hq _ _ ⟨_, rfl, rfl⟩
  · simp only [h, decide_false]
    exact hq _ _ ⟨_, rfl, rfl⟩
theorem at6 (p0 p1 p2 p3 p4 p5 : PV) : L2.atI [p0, p1, p2, p3, p4, p5] 0 = some p0 ∧ L2.atI [p0, p1, p2, p3, p4, p5] 1 = some p1 ∧ L2.atI [p0, p1, p2, p3, p4, p5] 2 = some p2 ∧ L2.atI [p0, p1, p2, p3, p4, p5] 3 = some p3 ∧ L2.atI [p0, p1, p2, p3, p4, p5] 4 = some p4 ∧ L2.atI [p0, p1, p2, p3, p4, p5] 5 = some p5 := ⟨rfl, rfl, rfl, rfl, rfl, rfl⟩
theorem ix6 (p0 p1 p2 p3 p4 p5 : PV) : L2.ixN [p0, p1, p2, p3, p4, p5].length 0 = some 0 ∧ L2.ixN [p0, p1, p2, p3, p4, p5].length 1 = some 1 ∧ L2.ixN [p0, p1, p2, p3, p4, p5].length 2 = some 2 ∧ L2.ixN [p0, p1, p2, p3, p4, p5].length 3 = some 3 ∧ L2.ixN [p0, p1, p2, p3, p4, p5].length 4 = some 4 ∧ L2.ixN [p0, p1, p2, p3, p4, p5].length 5 = some 5 := ⟨rfl, rfl, rfl, rfl, rfl, rfl⟩
def PenL (l : List PV) : Prop := ∃ (ns : List Int) (k c2 c3 c4 c5 : Int), l = [.lst (ns.map .int), .int k, .int c2, .int c3, .int c4, .int c5] ∧ ns.length ≤ 63 ∧ 0 ≤ k ∧ 0 ≤ c5 ∧ c5 < 2147483647
def takePre : List PV → Sto → Prop := fun vs S => ∃ a l m, vs = [.ref a, .int m] ∧ S a = some (.lst l) ∧ PenL l ∧ 0 < m ∧ m < 2 ^ 64
def takePost : List PV → Sto → PV → Sto → Prop := fun vs S r S' => ∃ a m i l, vs = [.ref a, .int m] ∧ r = .int i ∧ 0 ≤ i ∧ i < m ∧ PenL l ∧ S' = upS S a (.lst l)
theorem w_take {G : GE} {ic : Nat} (hG : G.fn ic = spR cellPre cellPost) {vs : List PV} {S : Sto} {Q : Post} {E : XPost} (hp : takePre vs S) (hq : ∀ r S', takePost vs S r S' → Q r S') :
    wpSs G (irTake ic) { nx := fun _ S => Q .non S, rt := Q } (fun x _ S => E x S) (startS ["_law_pen_here", "_law_most", "_law_found"] vs) S := by
  obtain ⟨a, l, m, rfl, hS, ⟨ns, k, c2, c3, c4, c5, rfl, hn, hk, h0, h1⟩, hm, hm2⟩ := hp
  rw [show startS ["_law_pen_here", "_law_most", "_law_found"] [.ref a, .int m] = [some (.ref a), some (.int m), none] from rfl]
  have hdiv : ∀ i, CDivW i m := fun i => wide_div (b := 64) hm (by omega) (by decide) (by decide)
  have hdiv2 : ∀ i, CDivW i 64 := fun i => wide_div (b := 64) (by decide) (by decide) (by decide) (by decide)
  have fin : ∀ (i : Int) (l' : List PV) (S' : Sto), PenL l' → S' = upS S a (.lst l') → Q (.int (i % m)) S' := fun i l' S' hl e => hq _ _ ⟨a, m, i % m, l', rfl, rfl, Int.emod_nonneg _ (by omega), Int.emod_lt_of_pos _ hm, hl, e⟩
  unfold irTake
  walk_at "wp"
  simp only [idxD, dQ, hS, at6, cmpD, eqD, truD]
  by_cases c : c4 = 1
  · simp only [c, decide_true, binD, setID, hS, ix6, upS_same, at6, List.set_cons_zero, List.set_cons_succ]
    refine ⟨.inl (.inr (by decide)), by decide, .inl (.inr (by decide)), by decide, hdiv2 _, hm, fin _ _ _ ⟨ns, k, c2, c3, 1, _, rfl, hn, hk, Int.emod_nonneg _ (by decide), Int.emod_lt_of_pos _ (by decide)⟩ rfl⟩
  · have rest : ∀ (k c2 c3 : Int) (S' : Sto), 0 ≤ k → S' = upS S a (.lst [.lst (ns.map .int), .int k, .int c2, .int c3, .int c4, .int c5]) ∨ (S' = S ∧ S a = some (.lst [.lst (ns.map .int), .int k, .int c2, .int c3, .int c4, .int c5])) → S' a = some (.lst [.lst (ns.map .int), .int k, .int c2, .int c3, .int c4, .int c5]) ∧ ∀ l, upS S' a (.lst l) = upS S a (.lst l) := fun k c2 c3 S' hk h => by
      rcases h with rfl | ⟨rfl, h⟩
      · exact ⟨upS_same, fun l => upS_upS⟩
      · exact ⟨h, fun _ => rfl⟩
    by_cases c' : c3 = 50
    · simp only [c, c', decide_true, decide_false, binD, setID, hS, ix6, upS_same, at6, List.set_cons_zero, List.set_cons_succ, hG, spR]
      refine ⟨⟨ns, k + 1, rfl, by omega⟩, fun r S' h => ?_, fun _ _ h => h.elim⟩
      obtain ⟨i, rfl, rfl⟩ := h
      simp only [frzQ, binD, setID, upS_same, upS_upS, ix6, at6, List.set_cons_zero, List.set_cons_succ, tgD, List.getElem?_cons_zero, List.getElem?_cons_succ]
      exact ⟨hm, hdiv _, fin _ _ _ ⟨ns, k + 1, _, _, c4, c5, rfl, hn, by omega, h0, h1⟩ rfl⟩
    · simp only [c, c', decide_false, binD, setID, hS, ix6, upS_same, upS_upS, at6, List.set_cons_zero, List.set_cons_succ, tgD, List.getElem?_cons_zero, List.getElem?_cons_succ]
      exact ⟨hm, hdiv _, fin _ _ _ ⟨ns, k, _, _, c4, c5, rfl, hn, hk, h0, h1⟩ rfl⟩
/-- the pen made -/
def penPre : List PV → Sto → Prop := fun vs S => ∃ ns : List Int, vs = [.lst (ns.map .int)] ∧ ns.length ≤ 63
def penPost : List PV → Sto → PV → Sto → Prop := fun vs S r S' => ∃ a l, r = .ref a ∧ S a = none ∧ PenL l ∧ S' = upS S a (.lst l)
theorem w_pen {G : GE} {ic : Nat} (hG : G.fn ic = spR cellPre cellPost) {vs : List PV} {S : Sto} {Q : Post} {E : XPost} (hp : penPre vs S) (hq : ∀ r S', penPost vs S r S' → Q r S') :
    wpSs G (irPen ic) { nx := fun _ S => Q .non S, rt := Q } (fun x _ S => E x S) (startS ["_law_script", "_law_seed", "_law_k", "_law_cell"] vs) S := by
  obtain ⟨ns, rfl, hn⟩ := hp
  rw [show startS ["_law_script", "_law_seed", "_law_k", "_law_cell"] [.lst (ns.map .int)] = [some (.lst (ns.map .int)), none, none, none] from rfl]
  unfold irPen
  walk_at "wp"
  simp only [slcD, dL, newL, dQ]
  intro p hp
  refine comp_all (fun y => ∃ i, y = .int i) (fun acc => trivial) (fun i x acc k hx hk => ?_) fun acc hl hr => ?_
  · obtain ⟨y, hy, _, rfl⟩ := enumP_mem hx
    obtain ⟨c, _, rfl⟩ := List.mem_map.mp (cutP_mem hy)
    have hi : i < 63 := by
      have h1 := (List.getElem?_eq_some_iff.mp hx).1
      rw [enumP_len] at h1
      unfold cutP at h1
      simp at h1
      omega
    simp only [tgD, tgDs, dQ, wipeS, List.set_cons_zero, List.set_cons_succ, List.getElem?_cons_zero, List.getElem?_cons_succ, binD, upS_same, upS_upS]
    refine ⟨by decide, .inl (.inl ⟨by omega, by omega⟩), .inl (.inr ⟨?_, ?_⟩), trivial, hk _ ⟨_, rfl⟩⟩
    · have : (0 : Int) ≤ (i : Int) * (i : Int) := Int.mul_nonneg (by omega) (by omega)
      omega
    · have : (i : Int) * (i : Int) ≤ 63 * 63 := Int.mul_le_mul (by omega) (by omega) (by omega) (by omega)
      omega
  · obtain ⟨ms, rfl⟩ := ints_of hr
    refine ⟨upS_same, ?_⟩
    simp only [biD, dL, intsP_map, delS_upS hp, binD, tgD, List.set_cons_zero, List.set_cons_succ, List.getElem?_cons_zero, List.getElem?_cons_succ, hG, spR]
    refine ⟨by decide, ⟨ns, 1, rfl, by decide⟩, fun r S' h => ?_, fun _ _ h => h.elim⟩
    obtain ⟨i1, rfl, rfl⟩ := h
    simp only [frzQ]
    refine ⟨⟨ns, 0, rfl, by decide⟩, fun r S' h => ?_, fun _ _ h => h.elim⟩
    obtain ⟨i2, rfl, rfl⟩ := h
    simp only [frzQ]
    refine ⟨by decide, (by show 6 ≤ sizeLine; decide), fun q hq' => hq _ _ ⟨q, _, rfl, hq', ⟨ns, 1, i1, 0, _, _, rfl, hn, by decide, Int.emod_nonneg _ (by decide), Int.emod_lt_of_pos _ (by decide)⟩, rfl⟩⟩
theorem upS_comm2 {S : Sto} {a b : Addr} {o u : MO} (h : a ≠ b) : upS (upS S a o) b u = upS (upS S b u) a o := by
  funext c
  unfold upS
  by_cases h1 : c = a
  · subst h1
    simp [h]
  · simp [h1]
theorem upS_id {S : Sto} {a : Addr} {o : MO} (h : S a = some o) : upS S a o = S := by
  funext b
  unfold upS
  split
  · rename_i e; rw [e, h]
  · rfl
/-- a draw -/
theorem take_call {G : GE} {it : Nat} (h : G.fn it = spR takePre takePost) {a : Addr} {l : List PV} {m : Int} {S : Sto} {Q : Post} {E : XPost} (hS : S a = some (.lst l)) (hl : PenL l) (hm : 0 < m) (hm2 : m < 2 ^ 64)
    (k : ∀ i l', 0 ≤ i → i < m → PenL l' → Q (.int i) (upS S a (.lst l'))) : G.fn it [.ref a, .int m] S (frzQ false Q) E := by
  rw [h]
  refine ⟨⟨a, l, m, rfl, hS, hl, hm, hm2⟩, fun r S' h => ?_, fun _ _ h => h.elim⟩
  obtain ⟨_, _, i, l', e, rfl, h0, h1, hl', rfl⟩ := h
  cases e
  exact k i l' h0 h1 hl'
/-- a draw beside one told thing -/
theorem take_call2 {G : GE} {it : Nat} (h : G.fn it = spR takePre takePost) {a p : Addr} {o : MO} {l : List PV} {m : Int} {S : Sto} {Q : Post} {E : XPost} (hp : p ≠ a) (hl : PenL l) (hm : 0 < m) (hm2 : m < 2 ^ 64)
    (k : ∀ i l', 0 ≤ i → i < m → PenL l' → Q (.int i) (upS (upS S a (.lst l')) p o)) : G.fn it [.ref a, .int m] (upS (upS S a (.lst l)) p o) (frzQ false Q) E := by
  refine take_call h (by rw [upS_ne (Ne.symm hp)]; exact upS_same) hl hm hm2 fun i l' h0 h1 hl' => ?_
  rw [upS_comm2 hp, upS_upS]
  exact k i l' h0 h1 hl'
/-- a list comprehension whose parts draw -/
theorem comp_pen {ok : Sto → Prop} {step : PV → List PV → Sto → (List PV → Sto → Prop) → Prop} {items : List PV} {S : Sto} {a p : Addr} {l : List PV} {dn : List PV → Sto → Prop} (R : Nat → PV → Prop) (hp : p ≠ a) (hS : S a = some (.lst l)) (hl : PenL l) (hok : ∀ S', ok S')
    (hs : ∀ (i : Nat) x acc l k, items[i]? = some x → acc.length = i → PenL l → (∀ y l', R i y → PenL l' → k (acc ++ [y]) (upS (upS S a (.lst l')) p (.lst (acc ++ [y])))) → step x acc (upS (upS S a (.lst l)) p (.lst acc)) k)
    (hd : ∀ acc l, acc.length = items.length → (∀ (i : Nat) y, acc[i]? = some y → R i y) → PenL l → dn acc (upS (upS S a (.lst l)) p (.lst acc))) : itL ok step dn items [] (upS S p (.lst [])) := by
  refine itL_inv (fun i acc S' => acc.length = i ∧ (∀ (j : Nat) y, acc[j]? = some y → R j y) ∧ ∃ l, PenL l ∧ S' = upS (upS S a (.lst l)) p (.lst acc)) ⟨rfl, fun j y h => by simp at h, l, hl, by rw [upS_id hS]⟩ (fun _ _ S' _ => hok S') (fun i x acc S' k hx h hk => ?_) fun acc S' h => ?_
  · obtain ⟨h1, h2, l, hl, rfl⟩ := h
    refine hs i x acc l k hx h1 hl fun y l' hy hl' => hk _ _ ⟨by rw [List.length_append, h1]; rfl, fun j z hz => ?_, l', hl', rfl⟩
    by_cases hj : j < acc.length
    · rw [List.getElem?_append_left hj] at hz
      exact h2 j z hz
    · rw [List.getElem?_append_right (by omega)] at hz
      have hj2 : j - acc.length = 0 := by
        have := (List.getElem?_eq_some_iff.mp hz).1
        simp at this
        omega
      rw [hj2] at hz
      simp at hz
      subst hz
      have : j = i := by omega
      rw [this]
      exact hy
  · obtain ⟨h1, h2, l, hl, rfl⟩ := h
    exact hd acc l h1 h2 hl
end DL
end
section
set_option maxRecDepth 100000
set_option maxHeartbeats 1000000
/-! What is a form, a bound, loops: the program's own tests. -/
namespace DL
open PySem PySem.Spec L2
open PyProof.Rows hiding St wpS
local macro_rules | `(tactic| walk_at "wp") => `(tactic| simp only [wpSs, wpS, wpE, wpEs, wpT, wpC, wpO, wpL, wpI, wpH, List.getElem?_cons_zero, List.getElem?_cons_succ, List.set_cons_zero, List.set_cons_succ])
def irWhole : CSs := (.cons (.ret (.and (.isi (.var 0) ["int"]) (.not (.isi (.var 0) ["bool"])))) .nil)
def irForm (iw : Nat) : CSs := (.cons (.ite (.or (.not (.tst (.isi (.var 0) ["tuple"]))) (.tst (.cmp .ne (.bi .len false (.cons (.var 0) .nil)) (.bin .add false (.var 1) (.cst (.int 1)))))) (.cons (.ret (.cst (.bl false))) .nil) .nil) (.cons (.ret (.bi .all false (.cons (.comp false (.call iw false (.cons (.var 2) .nil)) (.nm 2) (.seq (.var 0)) .none [2]) .nil))) .nil))
def irBound (ifo : Nat) : CSs := (.cons (.ite (.or (.not (.tst (.call ifo false (.cons (.var 0) (.cons (.var 1) .nil))))) (.tst (.cmp .gt (.bi .abs false (.cons (.idx (.var 0) (.cst (.int 0))) .nil)) (.cst (.int 9))))) (.cons (.ret (.cst (.bl false))) .nil) .nil) (.cons (.ret (.bi .all false (.cons (.comp false (.cmp .le (.bi .abs false (.cons (.var 2) .nil)) (.cst (.int 2))) (.nm 2) (.seq (.slc false (.var 0) (.some (.cst (.int 1))) .none)) .none [2]) .nil))) .nil))
def irLoops (ib : Nat) : CSs := (.cons (.ite (.or (.not (.tst (.isi (.var 0) ["tuple"]))) (.not (.tst (.chn (.cst (.int 1)) (.more .le (.bi .len false (.cons (.var 0) .nil)) (.one .le (.cst (.int 3)))))))) (.cons (.ret (.cst (.bl false))) .nil) .nil) (.cons (.for (.tp [(.nm 1), (.nm 2)]) (.enum (.var 0)) (.cons (.ite (.or (.not (.tst (.isi (.var 2) ["tuple"]))) (.or (.tst (.cmp .ne (.bi .len false (.cons (.var 2) .nil)) (.cst (.int 2)))) (.or (.not (.tst (.call ib false (.cons (.idx (.var 2) (.cst (.int 0))) (.cons (.var 1) .nil))))) (.not (.tst (.call ib false (.cons (.idx (.var 2) (.cst (.int 1))) (.cons (.var 1) .nil)))))))) (.cons (.ret (.cst (.bl false))) .nil) .nil) .nil)) (.cons (.ret (.cst (.bl true))) .nil)))
mutual
/-- nothing that may be changed is in it -/
def puv : PV → Bool
  | .ref _ => false
  | .ty _ => false
  | .tup xs => puvs xs
  | .lst xs => puvs xs
  | .dct ks vs => puvs ks && puvs vs
  | _ => true
def puvs : List PV → Bool
  | [] => true
  | x :: xs => puv x && puvs xs
end
theorem puvs_mem : ∀ {xs : List PV}, puvs xs = true → ∀ y ∈ xs, puv y = true
  | [], _, _, h => by simp at h
  | x :: xs, h, y, hy => by
    simp only [puvs, Bool.and_eq_true] at h
    rcases List.mem_cons.mp hy with e | hy
    · rw [e]; exact h.1
    · exact puvs_mem h.2 y hy
theorem puvs_of : ∀ {xs : List PV}, (∀ y ∈ xs, puv y = true) → puvs xs = true
  | [], _ => rfl
  | x :: xs, h => by
    simp only [puvs, h x (by simp), Bool.true_and]
    exact puvs_of fun y hy => h y (List.mem_cons_of_mem _ hy)
def tyN : PV → String
  | .non => "NoneType"
  | .bl _ => "bool"
  | .int _ => "int"
  | .str _ => "str"
  | .tup _ => "tuple"
  | .lst _ => "list"
  | .dct _ _ => "dict"
  | _ => ""
theorem ty_pure {S : Sto} {x : PV} (h : puv x = true) : tyP S x = some (tyN x) := by
  cases x <;> first | rfl | (simp [puv] at h)
def isI : PV → Bool
  | .int _ => true
  | _ => false
def isTu : PV → Bool
  | .tup _ => true
  | _ => false
theorem isT_int (x : PV) : (isT (tyN x) "int" && !isT (tyN x) "bool") = isI x := by cases x <;> rfl
theorem isT_tup (x : PV) : isT (tyN x) "tuple" = isTu x := by cases x <;> rfl
theorem isI_is {x : PV} (h : isI x = true) : ∃ i, x = .int i := by cases x <;> first | exact ⟨_, rfl⟩ | cases h
/-! whole -/
def whoPre : List PV → Sto → Prop := fun vs S => ∃ x, vs = [x] ∧ puv x = true
def whoPost : List PV → Sto → PV → Sto → Prop := fun vs S r S' => ∃ x, vs = [x] ∧ r = .bl (isI x) ∧ S' = S
theorem w_whole {G : GE} {N : Str} {vs : List PV} {S : Sto} {Q : Post} {E : XPost} (hp : whoPre vs S) (hq : ∀ r S', whoPost vs S r S' → Q r S') : wpSs G irWhole { nx := fun _ S => Q .non S, rt := Q } (fun x _ S => E x S) (startS [N] vs) S := by
  obtain ⟨x, rfl, hx⟩ := hp
  rw [show startS [N] [x] = [some x] from rfl]
  have hq := hq _ _ ⟨x, rfl, rfl, rfl⟩
  rw [← isT_int] at hq
  unfold irWhole
  walk_at "wp"
  simp only [ty_pure hx, truD, List.any_cons, List.any_nil, Bool.or_false]
  cases h : isT (tyN x) "int" <;> simp [h] at hq ⊢ <;> exact hq
/-! form -/
def formP (x : PV) (d : Int) : Bool := match x with
  | .tup xs => decide ((xs.length : Int) = d + 1) && xs.all isI
  | _ => false
def fomPre : List PV → Sto → Prop := fun vs S => ∃ x d, vs = [x, .int d] ∧ puv x = true
def fomPost : List PV → Sto → PV → Sto → Prop := fun vs S r S' => ∃ x d, vs = [x, .int d] ∧ r = .bl (formP x d) ∧ S' = S
theorem blsP_map2 {α : Type} (g : α → Bool) : ∀ xs : List α, blsP (xs.map fun y => PV.bl (g y)) = some (xs.map g)
  | [] => rfl
  | x :: xs => by simp only [List.map_cons, blsP, blsP_map2 g xs]
theorem all_id {α : Type} (g : α → Bool) (xs : List α) : (xs.map g).all id = xs.all g := by simp [List.all_map]
theorem w_form {G : GE} {iw : Nat} {n1 n2 n3 : Str} (h0 : G.fn iw = spR whoPre whoPost) {vs : List PV} {S : Sto} {Q : Post} {E : XPost} (hp : fomPre vs S) (hq : ∀ r S', fomPost vs S r S' → Q r S') : wpSs G (irForm iw) { nx := fun _ S => Q .non S, rt := Q } (fun x _ S => E x S) (startS [n1, n2, n3] vs) S := by
  obtain ⟨x, d, rfl, hx⟩ := hp
  rw [show startS [n1, n2, n3] [x, .int d] = [some x, some (.int d), none] from rfl]
  have hq := hq _ _ ⟨x, d, rfl, rfl, rfl⟩
  unfold irForm
  walk_at "wp"
  simp only [ty_pure hx, truD, List.any_cons, List.any_nil, Bool.or_false, isT_tup]
  cases x with
  | tup xs =>
    simp only [isTu, Bool.not_true, biD, dQ, binD, cmpD, eqD]
    by_cases hl : (xs.length : Int) = d + 1
    · simp only [hl, decide_true, Bool.not_true]
      intro p hp
      refine comp_map (fun y => .bl (isI y)) hp (fun acc => trivial) (fun i x acc k hi ha hk => ?_) ?_
      · simp only [tgD, wipeS, List.set_cons_zero, List.set_cons_succ, List.getElem?_cons_zero, List.getElem?_cons_succ, h0, spR]
        refine ⟨⟨x, rfl, puvs_mem hx x (List.mem_of_getElem? hi)⟩, fun r S' h => ?_, fun _ _ h => h.elim⟩
        obtain ⟨z, e, rfl, rfl⟩ := h
        cases e
        simp only [frzQ, upS_same, upS_upS]
        exact ⟨trivial, hk⟩
      · refine ⟨upS_same, ?_⟩
        simp only [biD, dL, blsP_map2, delS_upS hp, all_id]
        have : formP (.tup xs) d = xs.all isI := by
          show (decide ((xs.length : Int) = d + 1) && xs.all isI) = _
          rw [decide_eq_true hl, Bool.true_and]
        rw [← this]
        exact hq
    · simp only [hl, decide_false, Bool.not_false]
      have : formP (.tup xs) d = false := by
        show (decide ((xs.length : Int) = d + 1) && xs.all isI) = _
        rw [decide_eq_false hl, Bool.false_and]
      rw [← this]
      exact hq
  | _ => exact hq
/-! bound -/
def absI (i : Int) : Int := if i < 0 then -i else i
def smallP (m : Int) : PV → Bool
  | .int b => decide (absI b ≤ m)
  | _ => false
def boundP (x : PV) (d : Int) : Bool := formP x d && match x with
  | .tup (a :: r) => smallP 9 a && r.all (smallP 2)
  | _ => false
def bouPre : List PV → Sto → Prop := fun vs S => ∃ x d, vs = [x, .int d] ∧ puv x = true ∧ 0 ≤ d
def bouPost : List PV → Sto → PV → Sto → Prop := fun vs S r S' => ∃ x d, vs = [x, .int d] ∧ r = .bl (boundP x d) ∧ S' = S
theorem cut1 (x : PV) (xs : List PV) : cutP (x :: xs) (some 1) none = xs := by
  unfold cutP
  rw [show HT.sIx (x :: xs).length 0 (some 1) = 1 from by
    rw [show (1 : Int) = ((1 : Nat) : Int) from rfl, HT.sIx_nat]
    simp, HT.sIx_none]
  simp
theorem w_bound {G : GE} {ifo : Nat} {n1 n2 n3 : Str} (h1 : G.fn ifo = spR fomPre fomPost) {vs : List PV} {S : Sto} {Q : Post} {E : XPost} (hp : bouPre vs S) (hq : ∀ r S', bouPost vs S r S' → Q r S') : wpSs G (irBound ifo) { nx := fun _ S => Q .non S, rt := Q } (fun x _ S => E x S) (startS [n1, n2, n3] vs) S := by
  obtain ⟨x, d, rfl, hx, hd⟩ := hp
  rw [show startS [n1, n2, n3] [x, .int d] = [some x, some (.int d), none] from rfl]
  have hq := hq _ _ ⟨x, d, rfl, rfl, rfl⟩
  unfold irBound
  walk_at "wp"
  simp only [h1, spR]
  refine ⟨⟨x, d, rfl, hx⟩, fun r S' h => ?_, fun _ _ h => h.elim⟩
  obtain ⟨_, _, e, rfl, rfl⟩ := h
  cases e
  simp only [frzQ, truD]
  cases hf : formP x d with
  | false =>
    simp only [Bool.not_false]
    have : boundP x d = false := by simp [boundP, hf]
    rw [← this]
    exact hq
  | true =>
    simp only [Bool.not_true]
    cases x with
    | tup xs =>
      have hf2 : (decide ((xs.length : Int) = d + 1) && xs.all isI) = true := hf
      rw [Bool.and_eq_true] at hf2
      obtain ⟨f1, f2⟩ := hf2
      have f1 := of_decide_eq_true f1
      cases xs with
      | nil => simp at f1; omega
      | cons a r =>
        rw [List.all_cons, Bool.and_eq_true] at f2
        obtain ⟨i, rfl⟩ := isI_is f2.1
        have a0 : L2.atI (PV.int i :: r) 0 = some (.int i) := atI_of (by decide) rfl rfl
        simp only [idxD, dQ, a0, biD, cmpD]
        have hB : boundP (.tup (.int i :: r)) d = (decide (absI i ≤ 9) && r.all (smallP 2)) := by
          unfold boundP
          rw [hf, Bool.true_and]
          rfl
        rw [hB] at hq
        by_cases c : absI i ≤ 9
        · have c' : ¬ (9 < if i < 0 then -i else i) := by unfold absI at c; omega
          simp only [c', decide_false, slcD, cut1]
          rw [decide_eq_true c, Bool.true_and] at hq
          intro p hp
          refine comp_map (fun y => .bl (smallP 2 y)) hp (fun acc => trivial) (fun i x acc k hi ha hk => ?_) ?_
          · obtain ⟨b, rfl⟩ := isI_is (List.all_eq_true.mp f2.2 x (List.mem_of_getElem? hi))
            simp only [tgD, wipeS, List.set_cons_zero, List.set_cons_succ, List.getElem?_cons_zero, List.getElem?_cons_succ, biD, cmpD, upS_same, upS_upS]
            exact ⟨trivial, hk⟩
          · refine ⟨upS_same, ?_⟩
            simp only [biD, dL, blsP_map2, delS_upS hp, all_id]
            exact hq
        · have c' : (9 < if i < 0 then -i else i) := by unfold absI at c; omega
          simp only [c', decide_true]
          rw [decide_eq_false c, Bool.false_and] at hq
          exact hq
    | _ => cases hf
/-! loops -/
def loopP (x : PV) (k : Nat) : Bool := match x with
  | .tup [a, b] => boundP a k && boundP b k
  | _ => false
def loopsFrom : Nat → List PV → Bool
  | _, [] => true
  | k, x :: xs => loopP x k && loopsFrom (k + 1) xs
def loopsP (x : PV) : Bool := match x with
  | .tup xs => decide (1 ≤ xs.length) && decide (xs.length ≤ 3) && loopsFrom 0 xs
  | _ => false
def looPre : List PV → Sto → Prop := fun vs S => ∃ x, vs = [x] ∧ puv x = true
def looPost : List PV → Sto → PV → Sto → Prop := fun vs S r S' => ∃ x, vs = [x] ∧ r = .bl (loopsP x) ∧ S' = S
theorem w_loops {G : GE} {ib : Nat} {n1 n2 n3 : Str} (h2 : G.fn ib = spR bouPre bouPost) {vs : List PV} {S : Sto} {Q : Post} {E : XPost} (hp : looPre vs S) (hq : ∀ r S', looPost vs S r S' → Q r S') : wpSs G (irLoops ib) { nx := fun _ S => Q .non S, rt := Q } (fun x _ S => E x S) (startS [n1, n2, n3] vs) S := by
  obtain ⟨x, rfl, hx⟩ := hp
  rw [show startS [n1, n2, n3] [x] = [some x, none, none] from rfl]
  have hq := hq _ _ ⟨x, rfl, rfl, rfl⟩
  unfold irLoops
  walk_at "wp"
  simp only [ty_pure hx, truD, List.any_cons, List.any_nil, Bool.or_false, isT_tup]
  cases x with
  | tup xs =>
    simp only [isTu, Bool.not_true, biD, dQ, cmpD]
    by_cases c1 : (1 : Int) ≤ (xs.length : Int)
    · by_cases c2 : (xs.length : Int) ≤ 3
      · simp only [c1, c2, decide_true, Bool.not_true]
        have hL : loopsP (.tup xs) = loopsFrom 0 xs := by
          show (decide (1 ≤ xs.length) && decide (xs.length ≤ 3) && loopsFrom 0 xs) = _
          rw [decide_eq_true (by omega), decide_eq_true (by omega)]
          rfl
        rw [hL] at hq
        refine itL_inv (fun i σ S' => S' = S ∧ ∃ z1 z2, σ = [some (.tup xs), z1, z2] ∧ loopsFrom 0 xs = loopsFrom i (xs.drop i)) ⟨rfl, none, none, rfl, rfl⟩ (fun _ _ _ _ => trivial) (fun i x σ S' k hi h hk => ?_) fun σ S' h => ?_
        · obtain ⟨rfl, z1, z2, rfl, he⟩ := h
          obtain ⟨y, hy, hyi, rfl⟩ := enumP_mem hi
          have hpy := puvs_mem hx y hy
          have hlt := (List.getElem?_eq_some_iff.mp hyi).1
          have hdrop : xs.drop i = y :: xs.drop (i + 1) := by
            rw [List.drop_eq_getElem_cons hlt, (List.getElem?_eq_some_iff.mp hyi).2]
          rw [hdrop] at he
          have he : loopsFrom 0 xs = (loopP y i && loopsFrom (i + 1) (xs.drop (i + 1))) := he
          have bad : loopP y i = false → Q (.bl false) S' := fun hb => by
            rw [he, hb, Bool.false_and] at hq
            exact hq
          have good : loopP y i = true → k [some (.tup xs), some (.int (i : Nat)), some y] S' := fun hb => hk _ _ ⟨rfl, _, _, rfl, by rw [he, hb, Bool.true_and]⟩
          simp only [tgD, tgDs, dQ, List.set_cons_zero, List.set_cons_succ, List.getElem?_cons_zero, List.getElem?_cons_succ, ty_pure hpy, List.any_cons, List.any_nil, Bool.or_false, isT_tup, truD]
          cases y with
          | tup ys =>
            simp only [isTu, Bool.not_true, biD, dQ, cmpD, eqD]
            by_cases c3 : (ys.length : Int) = 2
            · match ys, c3 with
              | [a, b], _ =>
                have a0 : L2.atI [a, b] 0 = some a := rfl
                have a1 : L2.atI [a, b] 1 = some b := rfl
                have hpa : puv a = true ∧ puv b = true := by
                  simp only [puv, puvs, Bool.and_true, Bool.and_eq_true] at hpy
                  exact hpy
                simp only [c3, decide_true, Bool.not_true, idxD, dQ, a0, a1, h2, spR]
                have hlp : loopP (.tup [a, b]) i = (boundP a i && boundP b i) := rfl
                rw [hlp] at bad good
                refine ⟨⟨a, _, rfl, hpa.1, by omega⟩, fun r S' h => ?_, fun _ _ h => h.elim⟩
                obtain ⟨_, _, e, rfl, rfl⟩ := h
                cases e
                simp only [frzQ]
                cases h1 : boundP a i with
                | false =>
                  simp only [Bool.not_false]
                  exact bad (by rw [h1]; rfl)
                | true =>
                  simp only [Bool.not_true]
                  refine ⟨⟨b, _, rfl, hpa.2, by omega⟩, fun r S' h => ?_, fun _ _ h => h.elim⟩
                  obtain ⟨_, _, e, rfl, rfl⟩ := h
                  cases e
                  simp only [frzQ]
                  cases h3 : boundP b i with
                  | false =>
                    simp only [Bool.not_false]
                    exact bad (by rw [h1, h3]; rfl)
                  | true =>
                    simp only [Bool.not_true]
                    exact good (by rw [h1, h3]; rfl)
            · simp only [c3, decide_false, Bool.not_false]
              refine bad ?_
              match ys, c3 with
              | [], _ => rfl
              | [_], _ => rfl
              | [_, _], c3 => exact absurd rfl c3
              | _ :: _ :: _ :: _, _ => rfl
          | _ => exact bad rfl
        · obtain ⟨rfl, z1, z2, rfl, he⟩ := h
          rw [enumP_len, List.drop_length] at he
          rw [he] at hq
          exact hq
      · simp only [c1, c2, decide_true, decide_false, Bool.not_false]
        have : loopsP (.tup xs) = false := by
          show (decide (1 ≤ xs.length) && decide (xs.length ≤ 3) && loopsFrom 0 xs) = _
          rw [decide_eq_false (by omega : ¬ xs.length ≤ 3), Bool.and_false, Bool.false_and]
        rw [← this]
        exact hq
    · simp only [c1, decide_false, Bool.not_false]
      have : loopsP (.tup xs) = false := by
        show (decide (1 ≤ xs.length) && decide (xs.length ≤ 3) && loopsFrom 0 xs) = _
        rw [decide_eq_false (by omega : ¬ 1 ≤ xs.length), Bool.false_and, Bool.false_and]
      rw [← this]
      exact hq
  | _ => exact hq
end DL
end
section
set_option maxRecDepth 100000
set_option maxHeartbeats 0
namespace K02
open PySem PySem.Spec L2 DL
open PyProof.Rows hiding St
def top (i : Nat) : Stmt := PySem.Challenge.pw_nestturn_k02_what_is_loops.main.body.getD i (.Pass ⟨0, 0, 0, 0⟩)
/-- is_whole(thing) -/
def g0 : Gam := { N := ["thing"], names := (defScope (top 4)).names, own := [], fns := [], cst := [], free := ["isinstance", "int", "bool"], exc := [] }
-- cst: []
/-- is_form(thing, d) -/
def g1 : Gam := { N := ["thing", "d", "number"], names := (defScope (top 5)).names, own := [], fns := [("is_whole", 0, 1)], cst := [], free := ["all", "isinstance", "tuple", "len"], exc := [] }
-- cst: []
/-- is_bound(thing, d) -/
def g2 : Gam := { N := ["thing", "d", "number"], names := (defScope (top 6)).names, own := [], fns := [("is_form", 1, 2)], cst := [("FIRST", .int 9), ("OTHERS", .int 2)], free := ["all", "abs"], exc := [] }
-- cst: ['FIRST', 'OTHERS']
/-- is_loops(thing) -/
def g3 : Gam := { N := ["thing", "k", "loop"], names := (defScope (top 7)).names, own := [], fns := [("is_bound", 2, 2)], cst := [("MOST_LOOPS", .int 3)], free := ["enumerate", "isinstance", "tuple", "len"], exc := [] }
-- cst: ['MOST_LOOPS']
/-- _law_cell_at(_law_script, _law_k) -/
def g4 : Gam := { N := ["_law_script", "_law_k"], names := (defScope (top 9)).names, own := [], fns := [], cst := [], free := ["len"], exc := [] }
-- cst: []
/-- _law_pen(_law_script) -/
def g5 : Gam := { N := ["_law_script", "_law_seed", "_law_k", "_law_cell"], names := (defScope (top 10)).names, own := [⟨29, 11, 29, 105⟩], fns := [("_law_cell_at", 4, 2)], cst := [], free := ["sum", "enumerate"], exc := [] }
-- cst: []
/-- _law_take(_law_pen_here, _law_most) -/
def g6 : Gam := { N := ["_law_pen_here", "_law_most", "_law_found"], names := (defScope (top 11)).names, own := [], fns := [("_law_cell_at", 4, 2)], cst := [], free := [], exc := [] }
-- cst: []
/-- _law_bound(_law_pen_here, _law_k) -/
def g7 : Gam := { N := ["_law_pen_here", "_law_k", "_law_j"], names := (defScope (top 12)).names, own := [], fns := [("_law_take", 6, 2)], cst := [], free := ["tuple", "range"], exc := [] }
-- cst: []
/-- _law_spoilt_form(_law_pen_here, _law_form) -/
def g8 : Gam := { N := ["_law_pen_here", "_law_form", "_law_at", "_law_beyond", "_law_odd", "_law_way"], names := (defScope (top 13)).names, own := [], fns := [("_law_take", 6, 2)], cst := [], free := ["len", "list", "abs"], exc := [] }
-- cst: []
/-- _law_spoilt(_law_pen_here, _law_loops) -/
def g9 : Gam := { N := ["_law_pen_here", "_law_loops", "_law_way", "_law_k", "_law_low", "_law_high", "_law_loop"], names := (defScope (top 14)).names, own := [], fns := [("_law_take", 6, 2), ("_law_spoilt_form", 8, 2)], cst := [], free := ["len", "list"], exc := [] }
-- cst: []
/-- _law_number_is(_law_thing) -/
def g10 : Gam := { N := ["_law_thing"], names := (defScope (top 15)).names, own := [], fns := [], cst := [], free := ["isinstance", "int", "bool"], exc := [] }
-- cst: []
/-- _law_bound_is(_law_thing, _law_k) -/
def g11 : Gam := { N := ["_law_thing", "_law_k", "_law_at", "_law_beyond"], names := (defScope (top 16)).names, own := [], fns := [("_law_number_is", 10, 1)], cst := [], free := ["range", "len", "isinstance", "tuple", "int"], exc := [] }
-- cst: []
/-- _law_due(_law_thing) -/
def g12 : Gam := { N := ["_law_thing", "_law_k"], names := (defScope (top 17)).names, own := [], fns := [("_law_bound_is", 11, 2)], cst := [], free := ["range", "len", "isinstance", "tuple"], exc := [] }
-- cst: []
/-- law(_law_script) -/
def g13 : Gam := { N := ["_law_script", "_law_pen_here", "_law_turn", "_law_loops", "_law_thing", "_law_found", "_law_k"], names := (defScope (top 18)).names, own := [⟨91, 20, 91, 41⟩], fns := [("_law_pen", 5, 1), ("is_loops", 3, 1), ("_law_take", 6, 2), ("_law_spoilt", 9, 2), ("_law_due", 12, 1), ("_law_bound", 7, 2)], cst := [], free := ["range", "tuple", "isinstance", "bool", "len"], exc := [] }
-- cst: []

def ir0 : CSs := (.cons (.ret (.and (.isi (.var 0) ["int"]) (.not (.isi (.var 0) ["bool"])))) .nil)
def ir1_1 : CSs := (.cons (.ret (.bi .all false (.cons (.comp false (.call 0 false (.cons (.var 2) .nil)) (.nm 2) (.seq (.var 0)) .none [2]) .nil))) .nil)
def ir1 : CSs := (.cons (.ite (.or (.not (.tst (.isi (.var 0) ["tuple"]))) (.tst (.cmp .ne (.bi .len false (.cons (.var 0) .nil)) (.bin .add false (.var 1) (.cst (.int 1)))))) (.cons (.ret (.cst (.bl false))) .nil) .nil) ir1_1)
def ir2_1 : CSs := (.cons (.ret (.bi .all false (.cons (.comp false (.cmp .le (.bi .abs false (.cons (.var 2) .nil)) (.cst (.int 2))) (.nm 2) (.seq (.slc false (.var 0) (.some (.cst (.int 1))) .none)) .none [2]) .nil))) .nil)
def ir2 : CSs := (.cons (.ite (.or (.not (.tst (.call 1 false (.cons (.var 0) (.cons (.var 1) .nil))))) (.tst (.cmp .gt (.bi .abs false (.cons (.idx (.var 0) (.cst (.int 0))) .nil)) (.cst (.int 9))))) (.cons (.ret (.cst (.bl false))) .nil) .nil) ir2_1)
def ir3_1 : CSs := (.cons (.ret (.cst (.bl true))) .nil)
def ir3_2 : CSs := (.cons (.for (.tp [(.nm 1), (.nm 2)]) (.enum (.var 0)) (.cons (.ite (.or (.not (.tst (.isi (.var 2) ["tuple"]))) (.or (.tst (.cmp .ne (.bi .len false (.cons (.var 2) .nil)) (.cst (.int 2)))) (.or (.not (.tst (.call 2 false (.cons (.idx (.var 2) (.cst (.int 0))) (.cons (.var 1) .nil))))) (.not (.tst (.call 2 false (.cons (.idx (.var 2) (.cst (.int 1))) (.cons (.var 1) .nil)))))))) (.cons (.ret (.cst (.bl false))) .nil) .nil) .nil)) ir3_1)
def ir3 : CSs := (.cons (.ite (.or (.not (.tst (.isi (.var 0) ["tuple"]))) (.not (.tst (.chn (.cst (.int 1)) (.more .le (.bi .len false (.cons (.var 0) .nil)) (.one .le (.cst (.int 3)))))))) (.cons (.ret (.cst (.bl false))) .nil) .nil) ir3_2)
def ir4_1 : CSs := (.cons (.ret (.cst (.int 0))) .nil)
def ir4 : CSs := (.cons (.ite (.tst (.cmp .lt (.var 1) (.bi .len false (.cons (.var 0) .nil)))) (.cons (.ret (.idx (.var 0) (.var 1))) .nil) .nil) ir4_1)
def ir5_1 : CSs := (.cons (.ret (.lst true (.cons (.var 0) (.cons (.cst (.int 1)) (.cons (.call 4 false (.cons (.var 0) (.cons (.cst (.int 1)) .nil))) (.cons (.cst (.int 0)) (.cons (.bin .mod false (.call 4 false (.cons (.var 0) (.cons (.cst (.int 0)) .nil))) (.cst (.int 2))) (.cons (.var 1) .nil)))))))) .nil)
def ir5 : CSs := (.cons (.asg (.nm 1) (.bin .mod false (.bi .sum false (.cons (.comp false (.bin .mul false (.bin .add false (.bin .mod false (.var 3) (.cst (.int 2147483629))) (.cst (.int 1))) (.bin .add false (.bin .mul false (.var 2) (.var 2)) (.cst (.int 7)))) (.tp [(.nm 2), (.nm 3)]) (.enum (.slc false (.var 0) .none (.some (.cst (.int 63))))) .none [2, 3]) .nil)) (.cst (.int 2147483647)))) ir5_1)
def ir6_1 : CSs := (.cons (.ret (.bin .mod false (.bin .fdiv false (.bin .mod false (.bin .mul false (.idx (.var 0) (.cst (.int 5))) (.cst (.int 1181783497276652981))) (.cst (.int 2305843009213693951))) (.cst (.int 64))) (.var 1))) .nil)
def ir6_2 : CSs := (.cons (.setI (.var 0) (.cst (.int 3)) (.cst (.int 0))) .nil)
def ir6_3 : CSs := (.cons (.setI (.var 0) (.cst (.int 2)) (.call 4 false (.cons (.idx (.var 0) (.cst (.int 0))) (.cons (.idx (.var 0) (.cst (.int 1))) .nil)))) ir6_2)
def ir6_4 : CSs := (.cons (.ret (.var 2)) .nil)
def ir6_5 : CSs := (.cons (.setI (.var 0) (.cst (.int 2)) (.bin .fdiv false (.idx (.var 0) (.cst (.int 2))) (.var 1))) ir6_4)
def ir6_6 : CSs := (.cons (.asg (.nm 2) (.bin .mod false (.idx (.var 0) (.cst (.int 2))) (.var 1))) ir6_5)
def ir6_7 : CSs := (.cons (.setI (.var 0) (.cst (.int 3)) (.bin .add false (.idx (.var 0) (.cst (.int 3))) (.cst (.int 1)))) ir6_6)
def ir6_8 : CSs := (.cons (.ite (.tst (.cmp .eq (.idx (.var 0) (.cst (.int 3))) (.cst (.int 50)))) (.cons (.setI (.var 0) (.cst (.int 1)) (.bin .add false (.idx (.var 0) (.cst (.int 1))) (.cst (.int 1)))) ir6_3) .nil) ir6_7)
def ir6 : CSs := (.cons (.ite (.tst (.cmp .eq (.idx (.var 0) (.cst (.int 4))) (.cst (.int 1)))) (.cons (.setI (.var 0) (.cst (.int 5)) (.bin .mod false (.bin .add false (.bin .mul false (.idx (.var 0) (.cst (.int 5))) (.cst (.int 48271))) (.cst (.int 12345))) (.cst (.int 2147483647)))) ir6_1) .nil) ir6_8)
def ir7 : CSs := (.cons (.ret (.bin .add false (.tup (.cons (.bin .sub false (.call 6 false (.cons (.var 0) (.cons (.cst (.int 19)) .nil))) (.cst (.int 9))) .nil)) (.bi .tuple false (.cons (.comp false (.bin .sub false (.call 6 false (.cons (.var 0) (.cons (.cst (.int 5)) .nil))) (.cst (.int 2))) (.nm 2) (.rng1 (.var 1)) .none [2]) .nil)))) .nil)
def ir8_1 : CSs := (.cons (.ret (.bin .add false (.bin .add false (.slc false (.var 1) .none (.some (.var 2))) (.tup (.cons (.var 4) .nil))) (.slc false (.var 1) (.some (.bin .add false (.var 2) (.cst (.int 1)))) .none))) .nil)
def ir8_2 : CSs := (.cons (.ite (.tst (.cmp .eq (.var 5) (.cst (.int 2)))) (.cons (.ret (.bi .list false (.cons (.var 1) .nil))) .nil) .nil) ir8_1)
def ir8_3 : CSs := (.cons (.ite (.tst (.cmp .eq (.var 5) (.cst (.int 1)))) (.cons (.ret (.slc false (.var 1) .none (.some (.neg (.cst (.int 1)))))) .nil) .nil) ir8_2)
def ir8_4 : CSs := (.cons (.ite (.tst (.cmp .eq (.var 5) (.cst (.int 0)))) (.cons (.ret (.bin .add false (.var 1) (.tup (.cons (.cst (.int 0)) .nil)))) .nil) .nil) ir8_3)
def ir8_5 : CSs := (.cons (.asg (.nm 5) (.call 6 false (.cons (.var 0) (.cons (.cst (.int 5)) .nil)))) ir8_4)
def ir8_6 : CSs := (.cons (.asg (.nm 4) (.idx (.lst false (.cons (.var 3) (.cons (.var 3) (.cons (.cst (.bl true)) (.cons (.cst (.bl false)) (.cons (.cst .non) (.cons (.cst (.str ("0" : Str))) (.cons (.tup (.cons (.cst (.int 0)) .nil)) (.cons (.lst false (.cons (.cst (.int 0)) .nil)) .nil))))))))) (.call 6 false (.cons (.var 0) (.cons (.cst (.int 8)) .nil))))) ir8_5)
def ir8_7 : CSs := (.cons (.ite (.and (.tst (.cmp .eq (.var 2) (.cst (.int 0)))) (.tst (.cmp .lt (.bi .abs false (.cons (.var 3) .nil)) (.cst (.int 10))))) (.cons (.asg (.nm 3) (.cst (.int 10))) .nil) .nil) ir8_6)
def ir8_8 : CSs := (.cons (.asg (.nm 3) (.idx (.lst false (.cons (.cst (.int 3)) (.cons (.neg (.cst (.int 3))) (.cons (.cst (.int 10)) (.cons (.neg (.cst (.int 10))) (.cons (.bin .pow false (.cst (.int 10)) (.cst (.int 40))) (.cons (.bin .sub false (.neg (.cst (.int 10))) (.bin .pow false (.cst (.int 10)) (.cst (.int 40)))) .nil))))))) (.call 6 false (.cons (.var 0) (.cons (.cst (.int 6)) .nil))))) ir8_7)
def ir8 : CSs := (.cons (.asg (.nm 2) (.call 6 false (.cons (.var 0) (.cons (.bi .len false (.cons (.var 1) .nil)) .nil)))) ir8_8)
def ir9_1 : CSs := (.cons (.ret (.bin .add false (.bin .add false (.slc false (.var 1) .none (.some (.var 3))) (.tup (.cons (.var 6) .nil))) (.slc false (.var 1) (.some (.bin .add false (.var 3) (.cst (.int 1)))) .none))) .nil)
def ir9_2 : CSs := (.cons (.ite (.tst (.cmp .eq (.var 2) (.cst (.int 1)))) (.cons (.asg (.nm 6) (.idx (.lst false (.cons (.tup (.cons (.var 4) .nil)) (.cons (.tup (.cons (.var 4) (.cons (.var 5) (.cons (.var 5) .nil)))) (.cons (.lst false (.cons (.var 4) (.cons (.var 5) .nil))) (.cons (.cst .non) (.cons (.var 4) (.cons (.dct0 false) .nil))))))) (.call 6 false (.cons (.var 0) (.cons (.cst (.int 6)) .nil))))) .nil) (.cons (.ite (.tst (.cmp .eq (.call 6 false (.cons (.var 0) (.cons (.cst (.int 2)) .nil))) (.cst (.int 0)))) (.cons (.asg (.nm 6) (.tup (.cons (.call 8 false (.cons (.var 0) (.cons (.var 4) .nil))) (.cons (.var 5) .nil)))) .nil) (.cons (.asg (.nm 6) (.tup (.cons (.var 4) (.cons (.call 8 false (.cons (.var 0) (.cons (.var 5) .nil))) .nil)))) .nil)) .nil)) ir9_1)
def ir9_3 : CSs := (.cons (.ite (.tst (.cmp .eq (.var 2) (.cst (.int 0)))) (.cons (.ret (.idx (.lst false (.cons (.tup .nil) (.cons (.bin .add false (.bin .add false (.bin .add false (.var 1) (.var 1)) (.var 1)) (.var 1)) (.cons (.bi .list false (.cons (.var 1) .nil)) (.cons (.idx (.var 1) (.cst (.int 0))) (.cons (.cst .non) (.cons (.cst (.bl true)) (.cons (.cst (.str ("loops" : Str))) (.cons (.cst (.int 3)) .nil))))))))) (.call 6 false (.cons (.var 0) (.cons (.cst (.int 8)) .nil))))) .nil) .nil) ir9_2)
def ir9_4 : CSs := (.cons (.asg (.tp [(.nm 4), (.nm 5)]) (.idx (.var 1) (.var 3))) ir9_3)
def ir9_5 : CSs := (.cons (.asg (.nm 3) (.call 6 false (.cons (.var 0) (.cons (.bi .len false (.cons (.var 1) .nil)) .nil)))) ir9_4)
def ir9 : CSs := (.cons (.asg (.nm 2) (.call 6 false (.cons (.var 0) (.cons (.cst (.int 7)) .nil)))) ir9_5)
def ir10 : CSs := (.cons (.ret (.and (.isi (.var 0) ["int"]) (.not (.isi (.var 0) ["bool"])))) .nil)
def ir11_1 : CSs := (.cons (.ite (.or (.not (.tst (.call 10 false (.cons (.idx (.var 0) (.var 2)) .nil)))) (.or (.tst (.cmp .gt (.idx (.var 0) (.var 2)) (.var 3))) (.tst (.cmp .lt (.idx (.var 0) (.var 2)) (.bin .sub false (.cst (.int 0)) (.var 3)))))) (.cons (.ret (.cst (.bl false))) .nil) .nil) .nil)
def ir11_2 : CSs := (.cons (.ret (.cst (.bl true))) .nil)
def ir11_3 : CSs := (.cons (.for (.nm 2) (.rng1 (.bi .len false (.cons (.var 0) .nil))) (.cons (.asg (.nm 3) (.idx (.lst false (.cons (.cst (.int 2)) (.cons (.cst (.int 9)) .nil))) (.bi .int false (.cons (.cmp .eq (.var 2) (.cst (.int 0))) .nil)))) ir11_1)) ir11_2)
def ir11 : CSs := (.cons (.ite (.or (.not (.tst (.isi (.var 0) ["tuple"]))) (.tst (.cmp .ne (.bi .len false (.cons (.var 0) .nil)) (.bin .add false (.var 1) (.cst (.int 1)))))) (.cons (.ret (.cst (.bl false))) .nil) .nil) ir11_3)
def ir12_1 : CSs := (.cons (.ite (.or (.not (.tst (.call 11 false (.cons (.idx (.idx (.var 0) (.var 1)) (.cst (.int 0))) (.cons (.var 1) .nil))))) (.not (.tst (.call 11 false (.cons (.idx (.idx (.var 0) (.var 1)) (.cst (.int 1))) (.cons (.var 1) .nil)))))) (.cons (.ret (.cst (.bl false))) .nil) .nil) .nil)
def ir12_2 : CSs := (.cons (.ret (.cst (.bl true))) .nil)
def ir12_3 : CSs := (.cons (.for (.nm 1) (.rng1 (.bi .len false (.cons (.var 0) .nil))) (.cons (.ite (.or (.not (.tst (.isi (.idx (.var 0) (.var 1)) ["tuple"]))) (.tst (.cmp .ne (.bi .len false (.cons (.idx (.var 0) (.var 1)) .nil)) (.cst (.int 2))))) (.cons (.ret (.cst (.bl false))) .nil) .nil) ir12_1)) ir12_2)
def ir12 : CSs := (.cons (.ite (.or (.not (.tst (.isi (.var 0) ["tuple"]))) (.or (.tst (.cmp .lt (.bi .len false (.cons (.var 0) .nil)) (.cst (.int 1)))) (.tst (.cmp .gt (.bi .len false (.cons (.var 0) .nil)) (.cst (.int 3)))))) (.cons (.ret (.cst (.bl false))) .nil) .nil) ir12_3)
def ir13_1 : CSs := (.cons (.ite (.or (.not (.tst (.isi (.var 5) ["bool"]))) (.or (.tst (.cmp .ne (.var 5) (.call 12 false (.cons (.var 4) .nil)))) (.tst (.cmp .ne (.call 3 false (.cons (.var 3) .nil)) (.cmp .lt (.bi .len false (.cons (.var 3) .nil)) (.cst (.int 4))))))) (.cons (.ret (.cst (.bl false))) .nil) .nil) .nil)
def ir13_2 : CSs := (.cons (.asg (.nm 5) (.call 3 false (.cons (.var 4) .nil))) ir13_1)
def ir13_3 : CSs := (.cons (.ite (.tst (.cmp .gt (.call 6 false (.cons (.var 1) (.cons (.cst (.int 3)) .nil))) (.cst (.int 0)))) (.cons (.asg (.nm 4) (.call 9 false (.cons (.var 1) (.cons (.var 3) .nil)))) .nil) .nil) ir13_2)
def ir13_4 : CSs := (.cons (.asg (.nm 4) (.var 3)) ir13_3)
def ir13_5 : CSs := (.cons (.ret (.cst (.bl true))) .nil)
def ir13_6 : CSs := (.cons (.for (.nm 2) (.rng1 (.cst (.int 10))) (.cons (.asg (.nm 3) (.bi .tuple false (.cons (.comp false (.tup (.cons (.call 7 false (.cons (.var 1) (.cons (.var 6) .nil))) (.cons (.call 7 false (.cons (.var 1) (.cons (.var 6) .nil))) .nil))) (.nm 6) (.rng1 (.bin .add false (.cst (.int 1)) (.call 6 false (.cons (.var 1) (.cons (.cst (.int 5)) .nil))))) .none [6]) .nil))) ir13_4)) ir13_5)
def ir13 : CSs := (.cons (.asg (.nm 1) (.call 5 true (.cons (.var 0) .nil))) ir13_6)
theorem c0 : compSs 60 g0 (defBody (top 4)) = some ir0 := by kernel_rfl
theorem s0 : FnScope g0.N ["thing"] (defScope (top 4)) := ⟨rfl, rfl, rfl, by decide +kernel, rfl, by decide +kernel, by decide +kernel⟩
def d0 : He.DefD := ⟨("is_whole", none), "is_whole", "is_whole", defArgs (top 4), defBody (top 4), defScope (top 4), [], []⟩
theorem b0 {K : PySem.W.Frag} {f : Addr} {fd : FuncData} (F : FunD K d0.name d0.qual d0.params d0.body d0.scope [] [] f fd) : Binds K fd ["thing"] [] := F.bindsN fun _ _ _ _ _ _ us hl => match us, hl with | [_], _ => rfl
theorem c1 : compSs 60 g1 (defBody (top 5)) = some ir1 := by kernel_rfl
theorem s1 : FnScope g1.N ["thing", "d"] (defScope (top 5)) := ⟨rfl, rfl, rfl, by decide +kernel, rfl, by decide +kernel, by decide +kernel⟩
def d1 : He.DefD := ⟨("is_form", none), "is_form", "is_form", defArgs (top 5), defBody (top 5), defScope (top 5), [], []⟩
theorem b1 {K : PySem.W.Frag} {f : Addr} {fd : FuncData} (F : FunD K d1.name d1.qual d1.params d1.body d1.scope [] [] f fd) : Binds K fd ["thing", "d"] [] := F.bindsN fun _ _ _ _ _ _ us hl => match us, hl with | [_, _], _ => rfl
theorem c2 : compSs 60 g2 (defBody (top 6)) = some ir2 := by kernel_rfl
theorem s2 : FnScope g2.N ["thing", "d"] (defScope (top 6)) := ⟨rfl, rfl, rfl, by decide +kernel, rfl, by decide +kernel, by decide +kernel⟩
def d2 : He.DefD := ⟨("is_bound", none), "is_bound", "is_bound", defArgs (top 6), defBody (top 6), defScope (top 6), [], []⟩
theorem b2 {K : PySem.W.Frag} {f : Addr} {fd : FuncData} (F : FunD K d2.name d2.qual d2.params d2.body d2.scope [] [] f fd) : Binds K fd ["thing", "d"] [] := F.bindsN fun _ _ _ _ _ _ us hl => match us, hl with | [_, _], _ => rfl
theorem c3 : compSs 60 g3 (defBody (top 7)) = some ir3 := by kernel_rfl
theorem s3 : FnScope g3.N ["thing"] (defScope (top 7)) := ⟨rfl, rfl, rfl, by decide +kernel, rfl, by decide +kernel, by decide +kernel⟩
def d3 : He.DefD := ⟨("is_loops", none), "is_loops", "is_loops", defArgs (top 7), defBody (top 7), defScope (top 7), [], []⟩
theorem b3 {K : PySem.W.Frag} {f : Addr} {fd : FuncData} (F : FunD K d3.name d3.qual d3.params d3.body d3.scope [] [] f fd) : Binds K fd ["thing"] [] := F.bindsN fun _ _ _ _ _ _ us hl => match us, hl with | [_], _ => rfl
theorem c4 : compSs 60 g4 (defBody (top 9)) = some ir4 := by kernel_rfl
theorem s4 : FnScope g4.N ["_law_script", "_law_k"] (defScope (top 9)) := ⟨rfl, rfl, rfl, by decide +kernel, rfl, by decide +kernel, by decide +kernel⟩
def d4 : He.DefD := ⟨("_law_cell_at", none), "_law_cell_at", "_law_cell_at", defArgs (top 9), defBody (top 9), defScope (top 9), [], []⟩
theorem b4 {K : PySem.W.Frag} {f : Addr} {fd : FuncData} (F : FunD K d4.name d4.qual d4.params d4.body d4.scope [] [] f fd) : Binds K fd ["_law_script", "_law_k"] [] := F.bindsN fun _ _ _ _ _ _ us hl => match us, hl with | [_, _], _ => rfl
theorem c5 : compSs 60 g5 (defBody (top 10)) = some ir5 := by kernel_rfl
theorem s5 : FnScope g5.N ["_law_script"] (defScope (top 10)) := ⟨rfl, rfl, rfl, by decide +kernel, rfl, by decide +kernel, by decide +kernel⟩
def d5 : He.DefD := ⟨("_law_pen", none), "_law_pen", "_law_pen", defArgs (top 10), defBody (top 10), defScope (top 10), [], []⟩
theorem b5 {K : PySem.W.Frag} {f : Addr} {fd : FuncData} (F : FunD K d5.name d5.qual d5.params d5.body d5.scope [] [] f fd) : Binds K fd ["_law_script"] [] := F.bindsN fun _ _ _ _ _ _ us hl => match us, hl with | [_], _ => rfl
theorem c6 : compSs 60 g6 (defBody (top 11)) = some ir6 := by kernel_rfl
theorem s6 : FnScope g6.N ["_law_pen_here", "_law_most"] (defScope (top 11)) := ⟨rfl, rfl, rfl, by decide +kernel, rfl, by decide +kernel, by decide +kernel⟩
def d6 : He.DefD := ⟨("_law_take", none), "_law_take", "_law_take", defArgs (top 11), defBody (top 11), defScope (top 11), [], []⟩
theorem b6 {K : PySem.W.Frag} {f : Addr} {fd : FuncData} (F : FunD K d6.name d6.qual d6.params d6.body d6.scope [] [] f fd) : Binds K fd ["_law_pen_here", "_law_most"] [] := F.bindsN fun _ _ _ _ _ _ us hl => match us, hl with | [_, _], _ => rfl
theorem c7 : compSs 60 g7 (defBody (top 12)) = some ir7 := by kernel_rfl
theorem s7 : FnScope g7.N ["_law_pen_here", "_law_k"] (defScope (top 12)) := ⟨rfl, rfl, rfl, by decide +kernel, rfl, by decide +kernel, by decide +kernel⟩
def d7 : He.DefD := ⟨("_law_bound", none), "_law_bound", "_law_bound", defArgs (top 12), defBody (top 12), defScope (top 12), [], []⟩
theorem b7 {K : PySem.W.Frag} {f : Addr} {fd : FuncData} (F : FunD K d7.name d7.qual d7.params d7.body d7.scope [] [] f fd) : Binds K fd ["_law_pen_here", "_law_k"] [] := F.bindsN fun _ _ _ _ _ _ us hl => match us, hl with | [_, _], _ => rfl
theorem c8 : compSs 60 g8 (defBody (top 13)) = some ir8 := by kernel_rfl
theorem s8 : FnScope g8.N ["_law_pen_here", "_law_form"] (defScope (top 13)) := ⟨rfl, rfl, rfl, by decide +kernel, rfl, by decide +kernel, by decide +kernel⟩
def d8 : He.DefD := ⟨("_law_spoilt_form", none), "_law_spoilt_form", "_law_spoilt_form", defArgs (top 13), defBody (top 13), defScope (top 13), [], []⟩
theorem b8 {K : PySem.W.Frag} {f : Addr} {fd : FuncData} (F : FunD K d8.name d8.qual d8.params d8.body d8.scope [] [] f fd) : Binds K fd ["_law_pen_here", "_law_form"] [] := F.bindsN fun _ _ _ _ _ _ us hl => match us, hl with | [_, _], _ => rfl
theorem c9 : compSs 60 g9 (defBody (top 14)) = some ir9 := by kernel_rfl
theorem s9 : FnScope g9.N ["_law_pen_here", "_law_loops"] (defScope (top 14)) := ⟨rfl, rfl, rfl, by decide +kernel, rfl, by decide +kernel, by decide +kernel⟩
def d9 : He.DefD := ⟨("_law_spoilt", none), "_law_spoilt", "_law_spoilt", defArgs (top 14), defBody (top 14), defScope (top 14), [], []⟩
theorem b9 {K : PySem.W.Frag} {f : Addr} {fd : FuncData} (F : FunD K d9.name d9.qual d9.params d9.body d9.scope [] [] f fd) : Binds K fd ["_law_pen_here", "_law_loops"] [] := F.bindsN fun _ _ _ _ _ _ us hl => match us, hl with | [_, _], _ => rfl
theorem c10 : compSs 60 g10 (defBody (top 15)) = some ir10 := by kernel_rfl
theorem s10 : FnScope g10.N ["_law_thing"] (defScope (top 15)) := ⟨rfl, rfl, rfl, by decide +kernel, rfl, by decide +kernel, by decide +kernel⟩
def d10 : He.DefD := ⟨("_law_number_is", none), "_law_number_is", "_law_number_is", defArgs (top 15), defBody (top 15), defScope (top 15), [], []⟩
theorem b10 {K : PySem.W.Frag} {f : Addr} {fd : FuncData} (F : FunD K d10.name d10.qual d10.params d10.body d10.scope [] [] f fd) : Binds K fd ["_law_thing"] [] := F.bindsN fun _ _ _ _ _ _ us hl => match us, hl with | [_], _ => rfl
theorem c11 : compSs 60 g11 (defBody (top 16)) = some ir11 := by kernel_rfl
theorem s11 : FnScope g11.N ["_law_thing", "_law_k"] (defScope (top 16)) := ⟨rfl, rfl, rfl, by decide +kernel, rfl, by decide +kernel, by decide +kernel⟩
def d11 : He.DefD := ⟨("_law_bound_is", none), "_law_bound_is", "_law_bound_is", defArgs (top 16), defBody (top 16), defScope (top 16), [], []⟩
theorem b11 {K : PySem.W.Frag} {f : Addr} {fd : FuncData} (F : FunD K d11.name d11.qual d11.params d11.body d11.scope [] [] f fd) : Binds K fd ["_law_thing", "_law_k"] [] := F.bindsN fun _ _ _ _ _ _ us hl => match us, hl with | [_, _], _ => rfl
theorem c12 : compSs 60 g12 (defBody (top 17)) = some ir12 := by kernel_rfl
theorem s12 : FnScope g12.N ["_law_thing"] (defScope (top 17)) := ⟨rfl, rfl, rfl, by decide +kernel, rfl, by decide +kernel, by decide +kernel⟩
def d12 : He.DefD := ⟨("_law_due", none), "_law_due", "_law_due", defArgs (top 17), defBody (top 17), defScope (top 17), [], []⟩
theorem b12 {K : PySem.W.Frag} {f : Addr} {fd : FuncData} (F : FunD K d12.name d12.qual d12.params d12.body d12.scope [] [] f fd) : Binds K fd ["_law_thing"] [] := F.bindsN fun _ _ _ _ _ _ us hl => match us, hl with | [_], _ => rfl
theorem c13 : compSs 60 g13 (defBody (top 18)) = some ir13 := by kernel_rfl
theorem s13 : FnScope g13.N ["_law_script"] (defScope (top 18)) := ⟨rfl, rfl, rfl, by decide +kernel, rfl, by decide +kernel, by decide +kernel⟩
def d13 : He.DefD := ⟨("law", none), "law", "law", defArgs (top 18), defBody (top 18), defScope (top 18), [], []⟩
theorem b13 {K : PySem.W.Frag} {f : Addr} {fd : FuncData} (F : FunD K d13.name d13.qual d13.params d13.body d13.scope [] [] f fd) : Binds K fd ["_law_script"] [] := F.bindsN fun _ _ _ _ _ _ us hl => match us, hl with | [_], _ => rfl
def fnl : List He.DefD := [d0, d1, d2, d3, d4, d5, d6, d7, d8, d9, d10, d11, d12, d13]
def glos : List Str := ["is_whole", "is_form", "is_bound", "is_loops", "_law_cell_at", "_law_pen", "_law_take", "_law_bound", "_law_spoilt_form", "_law_spoilt", "_law_number_is", "_law_bound_is", "_law_due", "law"]
def frees : List Str := ["isinstance", "int", "bool", "all", "tuple", "len", "abs", "enumerate", "sum", "range", "list"]
def excs : List Str := []
def nums : List (Str × Int) := [("FIRST", 9), ("OTHERS", 2), ("MOST_LOOPS", 3)]
end K02
end
section
set_option maxRecDepth 100000
set_option maxHeartbeats 1000000
namespace K02
open PySem PySem.Spec L2 DL
local macro_rules | `(tactic| walk_at "wp") => `(tactic| simp only [wpSs, wpS, wpE, wpEs, wpT, wpC, wpO, wpL, wpI, wpH, List.getElem?_cons_zero, List.getElem?_cons_succ, List.set_cons_zero, List.set_cons_succ])
/-! _law_bound -/
def GoodB (k : Nat) (r : PV) : Prop := ∃ (f : Int) (fs : List Int), r = .tup (.int f :: fs.map .int) ∧ fs.length = k ∧ boundP r k = true
def bPre : List PV → Sto → Prop := fun vs S => ∃ (a : Addr) (l : List PV) (k : Nat), vs = [.ref a, .int (k : Int)] ∧ S a = some (.lst l) ∧ PenL l ∧ k ≤ 10
def bPost : List PV → Sto → PV → Sto → Prop := fun vs S r S' => ∃ (a : Addr) (l : List PV) (k : Nat), vs = [.ref a, .int (k : Int)] ∧ GoodB k r ∧ PenL l ∧ S' = upS S a (.lst l)
theorem absI_le {i m : Int} (h1 : -m ≤ i) (h2 : i ≤ m) : absI i ≤ m := by unfold absI; split <;> omega
theorem good_b {f : Int} {fs : List Int} (h1 : absI f ≤ 9) (h2 : ∀ y ∈ fs, absI y ≤ 2) : boundP (.tup (.int f :: fs.map .int)) (fs.length : Nat) = true := by
  have e1 : (fs.map PV.int).all isI = true := by
    rw [List.all_eq_true]
    intro y hy
    obtain ⟨z, _, rfl⟩ := List.mem_map.mp hy
    rfl
  have e2 : (fs.map PV.int).all (smallP 2) = true := by
    rw [List.all_eq_true]
    intro y hy
    obtain ⟨z, hz, rfl⟩ := List.mem_map.mp hy
    exact decide_eq_true (h2 z hz)
  have e3 : formP (.tup (.int f :: fs.map .int)) (fs.length : Nat) = true := by
    show (decide ((((PV.int f :: fs.map .int).length : Nat) : Int) = (fs.length : Int) + 1) && (isI (.int f) && (fs.map PV.int).all isI)) = true
    rw [e1, decide_eq_true (by simp)]
    rfl
  unfold boundP
  rw [e3]
  show (true && (decide (absI f ≤ 9) && (fs.map PV.int).all (smallP 2))) = true
  rw [e2, decide_eq_true h1]
  rfl
theorem w7 {G : GE} (h6 : G.fn 6 = spR takePre takePost) {vs : List PV} {S : Sto} {Q : Post} {E : XPost} (hp : bPre vs S) (hq : ∀ r S', bPost vs S r S' → Q r S') : wpSs G ir7 { nx := fun _ S => Q .non S, rt := Q } (fun x _ S => E x S) (startS g7.N vs) S := by
  obtain ⟨a, l, k, rfl, hS, hl, hk10⟩ := hp
  rw [show startS g7.N [.ref a, .int (k : Int)] = [some (.ref a), some (.int (k : Int)), none] from rfl]
  have hz : 100 ≤ sizeLine := by decide
  unfold ir7
  walk_at "wp"
  refine take_call h6 hS hl (by decide) (by decide) fun f l1 f0 f1 hl1 => ?_
  simp only [binD]
  refine ⟨by show 1 ≤ sizeLine; omega, by omega, by omega, fun p hp => ?_⟩
  have hpa : p ≠ a := fun e => by rw [e, upS_same] at hp; cases hp
  refine comp_pen (fun _ y => ∃ i, y = .int i ∧ absI i ≤ 2) hpa upS_same hl1 (fun _ => trivial) (fun i x acc l k' hx ha hl hk => ?_) fun acc l2 hlen hr hl2 => ?_
  · simp only [tgD, wipeS, List.set_cons_zero, List.set_cons_succ, List.getElem?_cons_zero, List.getElem?_cons_succ]
    refine take_call2 h6 hpa hl (by decide) (by decide) fun j l' j0 j1 hl' => ?_
    simp only [upS_same, upS_upS] at hk ⊢
    exact ⟨trivial, hk _ l' ⟨_, rfl, absI_le (by omega) (by omega)⟩ hl'⟩
  · refine ⟨upS_same, ?_⟩
    rw [delS_upS (by rw [upS_upS, upS_ne hpa]; rw [upS_ne hpa] at hp; exact hp)]
    obtain ⟨fs, rfl⟩ := ints_of (xs := acc) fun y hy => by
      obtain ⟨j, hj⟩ := List.getElem?_of_mem hy
      obtain ⟨i, e, _⟩ := hr j y hj
      exact ⟨i, e⟩
    have hfl : fs.length = k := by
      simp only [List.length_map, rngP_len, Int.toNat_natCast] at hlen
      exact hlen
    simp only [biD, dQ, upS_upS]
    refine ⟨by simp; omega, hq _ _ ⟨a, l2, k, rfl, ⟨f - 9, fs, rfl, hfl, ?_⟩, hl2, rfl⟩⟩
    subst hfl
    refine good_b (absI_le (by omega) (by omega)) fun y hy => ?_
    obtain ⟨j, hj⟩ := List.getElem?_of_mem (List.mem_map.mpr ⟨y, hy, rfl⟩ : PV.int y ∈ fs.map PV.int)
    obtain ⟨i, e, h⟩ := hr j _ hj
    cases e
    exact h
theorem puvs_ints : ∀ ns : List Int, puvs (ns.map PV.int) = true
  | [] => rfl
  | n :: ns => by
    simp only [List.map_cons, puvs, puvs_ints ns]
    rfl
theorem puvs_app {xs ys : List PV} (h : puvs xs = true) (g : puvs ys = true) : puvs (xs ++ ys) = true := puvs_of fun y hy => by
  rcases List.mem_append.mp hy with hy | hy
  · exact puvs_mem h y hy
  · exact puvs_mem g y hy
theorem puvs_cut {xs : List PV} {lo hi : Option Int} (h : puvs xs = true) : puvs (cutP xs lo hi) = true := puvs_of fun y hy => puvs_mem h y (cutP_mem hy)
theorem idx_any {xs : List PV} {i : Int} {S : Sto} {Q : PV → Prop} (h0 : 0 ≤ i) (h1 : i < (xs.length : Int)) (h : ∀ y ∈ xs, Q y) : idxD (.lst xs) (.int i) S Q := by
  have hl : i.toNat < xs.length := by omega
  have e : L2.atI xs i = some xs[i.toNat] := atI_of h0 rfl (List.getElem?_eq_getElem hl)
  simp only [idxD, dQ, e]
  exact h _ (List.getElem_mem hl)
theorem cutP_le {xs : List PV} {lo hi : Option Int} : (cutP xs lo hi).length ≤ xs.length := by
  unfold cutP
  rw [List.length_take, List.length_drop]
  omega
/-! _law_spoilt_form -/
def sfPre : List PV → Sto → Prop := fun vs S => ∃ (a : Addr) (l : List PV) (f : Int) (fs : List Int), vs = [.ref a, .tup (.int f :: fs.map .int)] ∧ S a = some (.lst l) ∧ PenL l ∧ fs.length ≤ 10
def pPost : List PV → Sto → PV → Sto → Prop := fun vs S r S' => ∃ (a : Addr) (l : List PV) (x : PV), vs = [.ref a, x] ∧ puv r = true ∧ PenL l ∧ S' = upS S a (.lst l)
theorem w8 {G : GE} (h6 : G.fn 6 = spR takePre takePost) {vs : List PV} {S : Sto} {Q : Post} {E : XPost} (hp : sfPre vs S) (hq : ∀ r S', pPost vs S r S' → Q r S') : wpSs G ir8 { nx := fun _ S => Q .non S, rt := Q } (fun x _ S => E x S) (startS g8.N vs) S := by
  obtain ⟨a, l, f, fs, rfl, hS, hl, hf⟩ := hp
  rw [show startS g8.N [.ref a, .tup (.int f :: fs.map .int)] = [some (.ref a), some (.tup (.int f :: fs.map .int)), none, none, none, none] from rfl]
  have hz : 100 ≤ sizeLine := by decide
  have hform : puvs (.int f :: fs.map .int) = true := puvs_ints (f :: fs)
  have hflen : (PV.int f :: fs.map PV.int).length ≤ 11 := by simp; omega
  have hfl1 : (0 : Int) < ((PV.int f :: fs.map PV.int).length : Int) := by simp <;> omega
  have hfl2 : ((PV.int f :: fs.map PV.int).length : Int) < 2 ^ 64 := by omega
  have fin : ∀ r l, puv r = true → PenL l → Q r (upS S a (.lst l)) := fun r l h1 h2 => hq _ _ ⟨a, l, _, rfl, h1, h2, rfl⟩
  generalize PV.int f :: fs.map PV.int = form at hform hflen hfl1 hfl2 ⊢
  have k1 := fun hi => cutP_le (xs := form) (lo := none) (hi := hi)
  have k2 := fun lo => cutP_le (xs := form) (lo := lo) (hi := none)
  have rest : ∀ (b at_ : Int) (l2 : List PV), PenL l2 → wpSs G ir8_6 { nx := fun _ S => Q .non S, rt := Q } (fun x _ S => E x S) [some (.ref a), some (.tup form), some (.int at_), some (.int b), none, none] (upS S a (.lst l2)) := fun b at_ l2 hl2 => by
    unfold ir8_6
    walk_at "wp"
    refine ⟨by show 1 ≤ sizeLine; omega, by show 1 ≤ sizeLine; omega, by show 8 ≤ sizeLine; omega, ?_⟩
    refine take_call h6 upS_same hl2 (by decide) (by decide) fun i3 l3 i30 i31 hl3 => ?_
    refine idx_any i30 i31 fun odd ho => ?_
    have hop : puv odd = true := by
      simp only [List.mem_cons, List.not_mem_nil, or_false] at ho
      rcases ho with rfl | rfl | rfl | rfl | rfl | rfl | rfl | rfl <;> rfl
    simp only [tgD, List.set_cons_zero, List.set_cons_succ]
    unfold ir8_5
    walk_at "wp"
    rw [upS_upS]
    refine take_call h6 upS_same hl3 (by decide) (by decide) fun w l4 w0 w1 hl4 => ?_
    rw [upS_upS]
    simp only [tgD, List.set_cons_zero, List.set_cons_succ]
    unfold ir8_4 ir8_3 ir8_2 ir8_1
    walk_at "wp"
    simp only [cmpD, eqD, truD]
    by_cases c0 : w = 0
    · simp only [c0, decide_true, binD]
      exact ⟨by show 1 ≤ sizeLine; omega, by simp; omega, fin _ _ (puvs_app hform rfl) hl4⟩
    · by_cases c1 : w = 1
      · simp only [c1, decide_true, slcD]
        exact fin _ _ (puvs_cut hform) hl4
      · by_cases c2 : w = 2
        · simp only [c2, decide_true, biD, dQ, newL]
          exact fin _ _ hform hl4
        · simp only [c0, c1, c2, decide_false, slcD, binD]
          have q1 := k1 (some at_)
          have q2 := k2 (some (at_ + 1))
          exact ⟨by show 1 ≤ sizeLine; omega, by simp; omega, by simp; omega, fin _ _ (puvs_app (puvs_app (puvs_cut hform) (by simp [puvs, hop])) (puvs_cut hform)) hl4⟩
  unfold ir8
  walk_at "wp"
  simp only [biD, dQ]
  refine take_call h6 hS hl hfl1 hfl2 fun at_ l1 f0 f1 hl1 => ?_
  simp only [tgD, List.set_cons_zero, List.set_cons_succ]
  unfold ir8_8
  walk_at "wp"
  simp only [binD, newL]
  refine ⟨⟨by decide, by decide, by decide⟩, ⟨by decide, by decide, by decide⟩, by show 6 ≤ sizeLine; omega, ?_⟩
  refine take_call h6 upS_same hl1 (by decide) (by decide) fun i2 l2 i20 i21 hl2 => ?_
  refine idx_any i20 i21 fun beyond hb => ?_
  have hbi : ∃ b, beyond = .int b := by
    simp only [List.mem_cons, List.not_mem_nil, or_false] at hb
    rcases hb with rfl | rfl | rfl | rfl | rfl | rfl <;> exact ⟨_, rfl⟩
  obtain ⟨b, rfl⟩ := hbi
  simp only [tgD, List.set_cons_zero, List.set_cons_succ, upS_upS]
  unfold ir8_7
  walk_at "wp"
  simp only [cmpD, eqD, truD, biD]
  cases decide (at_ = 0) with
  | true =>
    cases decide ((if b < 0 then -b else b) < 10) with
    | true => exact rest _ _ _ hl2
    | false => exact rest _ _ _ hl2
  | false => exact rest _ _ _ hl2
/-! _law_spoilt -/
def GoodL (n : Nat) (ls : List PV) : Prop := ls.length = n ∧ ∀ (i : Nat) y, ls[i]? = some y → ∃ b1 b2, y = .tup [b1, b2] ∧ GoodB i b1 ∧ GoodB i b2
def spPre : List PV → Sto → Prop := fun vs S => ∃ (a : Addr) (l : List PV) (n : Nat) (ls : List PV), vs = [.ref a, .tup ls] ∧ S a = some (.lst l) ∧ PenL l ∧ GoodL n ls ∧ 0 < n ∧ n ≤ 5
theorem goodB_puv {k : Nat} {r : PV} (h : GoodB k r) : puv r = true := by
  obtain ⟨f, fs, rfl, _, _⟩ := h
  exact puvs_ints (f :: fs)
theorem goodL_puv {n : Nat} {ls : List PV} (h : GoodL n ls) : puvs ls = true := puvs_of fun y hy => by
  obtain ⟨i, hi⟩ := List.getElem?_of_mem hy
  obtain ⟨b1, b2, rfl, g1, g2⟩ := h.2 i y hi
  simp [puv, puvs, goodB_puv g1, goodB_puv g2]
theorem w9 {G : GE} (h6 : G.fn 6 = spR takePre takePost) (h8 : G.fn 8 = spR sfPre pPost) {vs : List PV} {S : Sto} {Q : Post} {E : XPost} (hp : spPre vs S) (hq : ∀ r S', pPost vs S r S' → Q r S') : wpSs G ir9 { nx := fun _ S => Q .non S, rt := Q } (fun x _ S => E x S) (startS g9.N vs) S := by
  obtain ⟨a, l, n, ls, rfl, hS, hl, hg, hn0, hn5⟩ := hp
  rw [show startS g9.N [.ref a, .tup ls] = [some (.ref a), some (.tup ls), none, none, none, none, none] from rfl]
  have hz : 100 ≤ sizeLine := by decide
  have hls := goodL_puv hg
  have hlen := hg.1
  have fin : ∀ r l, puv r = true → PenL l → Q r (upS S a (.lst l)) := fun r l h1 h2 => hq _ _ ⟨a, l, _, rfl, h1, h2, rfl⟩
  unfold ir9
  walk_at "wp"
  refine take_call h6 hS hl (by decide) (by decide) fun w l1 w0 w1 hl1 => ?_
  simp only [tgD, List.set_cons_zero, List.set_cons_succ]
  unfold ir9_5
  walk_at "wp"
  simp only [biD, dQ]
  refine take_call h6 upS_same hl1 (by omega) (by omega) fun k l2 k0 k1 hl2 => ?_
  obtain ⟨k, rfl⟩ : ∃ j : Nat, k = (j : Int) := ⟨k.toNat, by omega⟩
  have hk : k < ls.length := by omega
  obtain ⟨b1, b2, hy, g1, g2⟩ := hg.2 k _ (List.getElem?_eq_getElem hk)
  have hat : L2.atI ls (k : Int) = some (.tup [b1, b2]) := by
    rw [← hy]
    exact atI_nat (List.getElem?_eq_getElem hk)
  simp only [tgD, List.set_cons_zero, List.set_cons_succ, upS_upS]
  unfold ir9_4
  walk_at "wp"
  simp only [idxD, dQ, hat, tgD, tgDs, List.set_cons_zero, List.set_cons_succ]
  have p1 := goodB_puv g1
  have p2 := goodB_puv g2
  have rest : ∀ (x : PV) (l : List PV), puv x = true → PenL l → wpSs G ir9_1 { nx := fun _ S => Q .non S, rt := Q } (fun x _ S => E x S) [some (.ref a), some (.tup ls), some (.int w), some (.int (k : Int)), some b1, some b2, some x] (upS S a (.lst l)) := fun x l hx hl => by
    unfold ir9_1
    walk_at "wp"
    simp only [slcD, binD]
    have q1 := cutP_le (xs := ls) (lo := none) (hi := some (k : Int))
    have q2 := cutP_le (xs := ls) (lo := some ((k : Int) + 1)) (hi := none)
    exact ⟨by show 1 ≤ sizeLine; omega, by simp; omega, by simp; omega, fin _ _ (puvs_app (puvs_app (puvs_cut hls) (by simp [puvs, hx])) (puvs_cut hls)) hl⟩
  have hf : ∀ {b : PV}, GoodB k b → ∀ (l : List PV) {Q' : Post} {E' : XPost}, PenL l → (∀ r l, puv r = true → PenL l → Q' r (upS S a (.lst l))) → G.fn 8 [.ref a, b] (upS S a (.lst l)) (frzQ false Q') E' := fun {b} hb l {Q' E'} hl hq' => by
    obtain ⟨f, fs, rfl, h1, _⟩ := hb
    rw [h8]
    refine ⟨⟨a, l, f, fs, rfl, upS_same, hl, by omega⟩, fun r S' h => ?_, fun _ _ h => h.elim⟩
    obtain ⟨_, l', _, e, hr, hl', rfl⟩ := h
    cases e
    rw [upS_upS]
    have := hq' r l' hr hl'
    cases r <;> first | exact this | cases hr
  unfold ir9_3
  walk_at "wp"
  simp only [cmpD, eqD, truD]
  by_cases c0 : w = 0
  · have h0 : 0 < ls.length := by omega
    obtain ⟨v0, hv0⟩ : ∃ v, ls[0]? = some v := ⟨_, List.getElem?_eq_getElem h0⟩
    have e0 : L2.atI ls 0 = some v0 := atI_nat (j := 0) hv0
    have pv0 : puv v0 = true := puvs_mem hls _ (List.mem_of_getElem? hv0)
    simp only [c0, decide_true, binD, biD, dQ, newL, idxD, e0]
    refine ⟨by show 0 ≤ sizeLine; omega, by omega, by simp; omega, by simp; omega, by show 8 ≤ sizeLine; omega, ?_⟩
    refine take_call h6 upS_same hl2 (by decide) (by decide) fun i l3 i0 i1 hl3 => ?_
    rw [upS_upS]
    change idxD (PV.lst [PV.tup [], PV.tup (ls ++ ls ++ ls ++ ls), PV.lst ls, v0, PV.non, PV.bl true, PV.str ("loops" : Str), PV.int 3]) (.int i) (upS S a (.lst l3)) (fun v => Q v (upS S a (.lst l3)))
    refine idx_any i0 i1 fun x hx => fin _ _ ?_ hl3
    simp only [List.mem_cons, List.not_mem_nil, or_false] at hx
    rcases hx with rfl | rfl | rfl | rfl | rfl | rfl | rfl | rfl
    · rfl
    · exact puvs_app (puvs_app (puvs_app hls hls) hls) hls
    · exact hls
    · exact pv0
    · rfl
    · rfl
    · rfl
    · rfl
  · simp only [c0, decide_false]
    unfold ir9_2
    walk_at "wp"
    simp only [cmpD, eqD, truD]
    by_cases c1 : w = 1
    · simp only [c1, decide_true, newL, newD]
      refine ⟨by show 1 ≤ sizeLine; omega, by show 3 ≤ sizeLine; omega, by show 2 ≤ sizeLine; omega, by show 6 ≤ sizeLine; omega, ?_⟩
      refine take_call h6 upS_same hl2 (by decide) (by decide) fun i l3 i0 i1 hl3 => ?_
      refine idx_any i0 i1 fun x hx => ?_
      rw [upS_upS]
      refine rest x l3 ?_ hl3
      simp only [List.mem_cons, List.not_mem_nil, or_false] at hx
      rcases hx with rfl | rfl | rfl | rfl | rfl | rfl <;> simp [puv, puvs, p1, p2]
    · simp only [c1, decide_false]
      refine take_call h6 upS_same hl2 (by decide) (by decide) fun i l3 i0 i1 hl3 => ?_
      rw [upS_upS]
      by_cases c2 : i = 0
      · simp only [c2, decide_true]
        refine hf g1 l3 hl3 fun r l hr hl => ?_
        exact ⟨by show 2 ≤ sizeLine; omega, rest _ l (by simp [puv, puvs, hr, p2]) hl⟩
      · simp only [c2, decide_false]
        refine hf g2 l3 hl3 fun r l hr hl => ?_
        exact ⟨by show 2 ≤ sizeLine; omega, rest _ l (by simp [puv, puvs, hr, p1]) hl⟩
/-! _law_bound_is, _law_due -/
def bFrom : Nat → List PV → Bool
  | _, [] => true
  | i, x :: xs => smallP (if i = 0 then 9 else 2) x && bFrom (i + 1) xs
theorem bFrom_all : ∀ (xs : List PV) (i : Nat), bFrom (i + 1) xs = xs.all (smallP 2)
  | [], _ => rfl
  | x :: xs, i => by
    show (smallP (if i + 1 = 0 then 9 else 2) x && bFrom (i + 1 + 1) xs) = _
    rw [if_neg (by omega), bFrom_all xs (i + 1), List.all_cons]
theorem small_isI {m : Int} {x : PV} (h : smallP m x = true) : isI x = true := by
  cases x <;> first | rfl | cases h
theorem bFrom_bound {xs : List PV} {d : Int} (hl : (xs.length : Int) = d + 1) (hd : 0 ≤ d) : boundP (.tup xs) d = bFrom 0 xs := by
  cases xs with
  | nil => simp at hl; omega
  | cons a r =>
    show ((decide (((a :: r).length : Int) = d + 1) && (a :: r).all isI) && (smallP 9 a && r.all (smallP 2))) = (smallP (if 0 = 0 then 9 else 2) a && bFrom (0 + 1) r)
    rw [decide_eq_true hl, Bool.true_and, bFrom_all, if_pos rfl]
    cases h1 : smallP 9 a with
    | false => simp
    | true =>
      cases h2 : r.all (smallP 2) with
      | false => simp
      | true =>
        have e : (a :: r).all isI = true := by
          rw [List.all_cons, small_isI h1, Bool.true_and, List.all_eq_true]
          exact fun y hy => small_isI (List.all_eq_true.mp h2 y hy)
        rw [e]
        rfl
def bou2Pre : List PV → Sto → Prop := fun vs S => ∃ x d, vs = [x, .int d] ∧ puv x = true ∧ 0 ≤ d ∧ d < 10
theorem w11 {G : GE} (h10 : G.fn 10 = spR whoPre whoPost) {vs : List PV} {S : Sto} {Q : Post} {E : XPost} (hp : bou2Pre vs S) (hq : ∀ r S', bouPost vs S r S' → Q r S') : wpSs G ir11 { nx := fun _ S => Q .non S, rt := Q } (fun x _ S => E x S) (startS g11.N vs) S := by
  obtain ⟨x, d, rfl, hx, hd, hd10⟩ := hp
  rw [show startS g11.N [x, .int d] = [some x, some (.int d), none, none] from rfl]
  have hq := hq _ _ ⟨x, d, rfl, rfl, rfl⟩
  have hz : 100 ≤ sizeLine := by decide
  unfold ir11
  walk_at "wp"
  simp only [ty_pure hx, truD, List.any_cons, List.any_nil, Bool.or_false, isT_tup]
  cases x with
  | tup xs =>
    simp only [isTu, Bool.not_true, biD, dQ, binD, cmpD, eqD]
    by_cases hl : (xs.length : Int) = d + 1
    · simp only [hl, decide_true, Bool.not_true]
      rw [bFrom_bound hl hd] at hq
      unfold ir11_3
      walk_at "wp"
      simp only [biD, dQ]
      refine ⟨by omega, by omega, ?_⟩
      refine itL_inv (fun i σ S' => S' = S ∧ ∃ z2 z3, σ = [some (.tup xs), some (.int d), z2, z3] ∧ bFrom 0 xs = bFrom i (xs.drop i)) ⟨rfl, none, none, rfl, rfl⟩ (fun _ _ _ _ => trivial) (fun i x σ S' k hi h hk => ?_) fun σ S' h => ?_
      · obtain ⟨rfl, z2, z3, rfl, he⟩ := h
        obtain ⟨hi, rfl⟩ := rngP_get hi
        have hlt : i < xs.length := by omega
        obtain ⟨y, hy⟩ : ∃ y, xs[i]? = some y := ⟨_, List.getElem?_eq_getElem hlt⟩
        have hpy : puv y = true := puvs_mem hx y (List.mem_of_getElem? hy)
        have hat : L2.atI xs (0 + (i : Int)) = some y := atI_of (by omega) (by omega) hy
        have hdrop : xs.drop i = y :: xs.drop (i + 1) := by
          rw [List.drop_eq_getElem_cons hlt, (List.getElem?_eq_some_iff.mp hy).2]
        rw [hdrop] at he
        have he : bFrom 0 xs = (smallP (if i = 0 then 9 else 2) y && bFrom (i + 1) (xs.drop (i + 1))) := he
        have bad : smallP (if i = 0 then 9 else 2) y = false → Q (.bl false) S' := fun hb => by
          rw [he, hb, Bool.false_and] at hq
          exact hq
        have good : ∀ z2 z3, smallP (if i = 0 then 9 else 2) y = true → k [some (.tup xs), some (.int d), z2, z3] S' := fun z2 z3 hb => hk _ _ ⟨rfl, _, _, rfl, by rw [he, hb, Bool.true_and]⟩
        have hidx : L2.atI [PV.int 2, PV.int 9] (if decide ((0 : Int) + (i : Int) = 0) = true then 1 else 0) = some (.int (if i = 0 then 9 else 2)) := by
          by_cases h0 : i = 0
          · subst h0; rfl
          · rw [decide_eq_false (by omega), if_neg h0]; rfl
        simp only [tgD, List.set_cons_zero, List.set_cons_succ, List.getElem?_cons_zero, List.getElem?_cons_succ, cmpD, eqD, newL]
        refine ⟨by show 2 ≤ sizeLine; omega, ?_⟩
        simp only [biD, idxD, dQ, hidx]
        unfold ir11_1
        walk_at "wp"
        simp only [idxD, dQ, hat, h10, spR]
        refine ⟨⟨y, rfl, hpy⟩, fun r S'' h => ?_, fun _ _ h => h.elim⟩
        obtain ⟨_, e, rfl, rfl⟩ := h
        cases e
        simp only [frzQ, truD]
        cases hi2 : isI y with
        | false =>
          simp only [Bool.not_false]
          refine bad ?_
          cases hs : smallP (if i = 0 then 9 else 2) y with
          | false => rfl
          | true => rw [small_isI hs] at hi2; cases hi2
        | true =>
          obtain ⟨b, rfl⟩ := isI_is hi2
          simp only [Bool.not_true, cmpD, binD]
          generalize hm : (if i = 0 then (9 : Int) else 2) = m at bad good ⊢
          have hm0 : 0 ≤ m := by rw [← hm]; split <;> decide
          by_cases c1 : m < b
          · simp only [c1, decide_true]
            exact bad (decide_eq_false (by unfold absI; split <;> omega))
          · simp only [c1, decide_false]
            by_cases c2 : b < 0 - m
            · simp only [c2, decide_true]
              exact bad (decide_eq_false (by unfold absI; split <;> omega))
            · simp only [c2, decide_false]
              exact good _ _ (decide_eq_true (by unfold absI; split <;> omega))
      · obtain ⟨rfl, z2, z3, rfl, he⟩ := h
        have : (rngP 0 ((xs.length : Int)).toNat).length = xs.length := by rw [rngP_len]; simp
        rw [this, List.drop_length] at he
        rw [he] at hq
        unfold ir11_2
        walk_at "wp"
        exact hq
    · simp only [hl, decide_false, Bool.not_false]
      have : boundP (.tup xs) d = false := by
        have : formP (.tup xs) d = false := by
          show (decide ((xs.length : Int) = d + 1) && xs.all isI) = _
          rw [decide_eq_false hl, Bool.false_and]
        unfold boundP
        rw [this, Bool.false_and]
      rw [← this]
      exact hq
  | _ => exact hq
theorem w12 {G : GE} (h11 : G.fn 11 = spR bou2Pre bouPost) {vs : List PV} {S : Sto} {Q : Post} {E : XPost} (hp : looPre vs S) (hq : ∀ r S', looPost vs S r S' → Q r S') : wpSs G ir12 { nx := fun _ S => Q .non S, rt := Q } (fun x _ S => E x S) (startS g12.N vs) S := by
  obtain ⟨x, rfl, hx⟩ := hp
  rw [show startS g12.N [x] = [some x, none] from rfl]
  have hq := hq _ _ ⟨x, rfl, rfl, rfl⟩
  have hz : 100 ≤ sizeLine := by decide
  unfold ir12
  walk_at "wp"
  simp only [ty_pure hx, truD, List.any_cons, List.any_nil, Bool.or_false, isT_tup]
  cases x with
  | tup xs =>
    simp only [isTu, Bool.not_true, biD, dQ, cmpD]
    have no : ∀ h : loopsP (.tup xs) = false, Q (.bl false) S := fun h => by rw [h] at hq; exact hq
    by_cases c1 : (xs.length : Int) < 1
    · simp only [c1, decide_true]
      refine no ?_
      show (decide (1 ≤ xs.length) && decide (xs.length ≤ 3) && loopsFrom 0 xs) = _
      rw [decide_eq_false (by omega : ¬ 1 ≤ xs.length), Bool.false_and, Bool.false_and]
    · by_cases c2 : (3 : Int) < (xs.length : Int)
      · simp only [c1, c2, decide_true, decide_false]
        refine no ?_
        show (decide (1 ≤ xs.length) && decide (xs.length ≤ 3) && loopsFrom 0 xs) = _
        rw [decide_eq_false (by omega : ¬ xs.length ≤ 3), Bool.and_false, Bool.false_and]
      · simp only [c1, c2, decide_false]
        have hL : loopsP (.tup xs) = loopsFrom 0 xs := by
          show (decide (1 ≤ xs.length) && decide (xs.length ≤ 3) && loopsFrom 0 xs) = _
          rw [decide_eq_true (by omega), decide_eq_true (by omega)]
          rfl
        rw [hL] at hq
        unfold ir12_3
        walk_at "wp"
        simp only [biD, dQ]
        refine ⟨by omega, by omega, ?_⟩
        refine itL_inv (fun i σ S' => S' = S ∧ ∃ z1, σ = [some (.tup xs), z1] ∧ loopsFrom 0 xs = loopsFrom i (xs.drop i)) ⟨rfl, none, rfl, rfl⟩ (fun _ _ _ _ => trivial) (fun i x σ S' k hi h hk => ?_) fun σ S' h => ?_
        · obtain ⟨rfl, z1, rfl, he⟩ := h
          obtain ⟨hi, rfl⟩ := rngP_get hi
          have hlt : i < xs.length := by omega
          obtain ⟨y, hy⟩ : ∃ y, xs[i]? = some y := ⟨_, List.getElem?_eq_getElem hlt⟩
          have hpy : puv y = true := puvs_mem hx y (List.mem_of_getElem? hy)
          have hat : L2.atI xs (0 + (i : Int)) = some y := atI_of (by omega) (by omega) hy
          have hdrop : xs.drop i = y :: xs.drop (i + 1) := by
            rw [List.drop_eq_getElem_cons hlt, (List.getElem?_eq_some_iff.mp hy).2]
          rw [hdrop] at he
          have he : loopsFrom 0 xs = (loopP y i && loopsFrom (i + 1) (xs.drop (i + 1))) := he
          have bad : loopP y i = false → Q (.bl false) S' := fun hb => by
            rw [he, hb, Bool.false_and] at hq
            exact hq
          have good : ∀ z1, loopP y i = true → k [some (.tup xs), z1] S' := fun z1 hb => hk _ _ ⟨rfl, _, rfl, by rw [he, hb, Bool.true_and]⟩
          simp only [tgD, List.set_cons_zero, List.set_cons_succ, List.getElem?_cons_zero, List.getElem?_cons_succ, idxD, dQ, hat, ty_pure hpy, List.any_cons, List.any_nil, Bool.or_false, isT_tup, truD]
          cases y with
          | tup ys =>
            simp only [isTu, Bool.not_true, biD, dQ, cmpD, eqD]
            by_cases c3 : (ys.length : Int) = 2
            · match ys, c3 with
              | [a, b], _ =>
                have a0 : L2.atI [a, b] 0 = some a := rfl
                have a1 : L2.atI [a, b] 1 = some b := rfl
                have hpa : puv a = true ∧ puv b = true := by
                  simp only [puv, puvs, Bool.and_true, Bool.and_eq_true] at hpy
                  exact hpy
                have c3 : ((([a, b] : List PV).length : Nat) : Int) = 2 := rfl
                simp only [c3, decide_true, Bool.not_true]
                unfold ir12_1
                walk_at "wp"
                simp only [idxD, dQ, hat, a0, a1, h11, spR]
                have hlp : loopP (.tup [a, b]) i = (boundP a i && boundP b i) := rfl
                rw [hlp] at bad good
                rw [show ((0 : Int) + (i : Int)) = ((i : Nat) : Int) from by omega]
                refine ⟨⟨a, _, rfl, hpa.1, by omega, by omega⟩, fun r S' h => ?_, fun _ _ h => h.elim⟩
                obtain ⟨_, _, e, rfl, rfl⟩ := h
                cases e
                simp only [frzQ, truD]
                cases h1 : boundP a i with
                | false =>
                  simp only [Bool.not_false]
                  exact bad (by rw [h1]; rfl)
                | true =>
                  simp only [Bool.not_true]
                  refine ⟨⟨b, _, rfl, hpa.2, by omega, by omega⟩, fun r S' h => ?_, fun _ _ h => h.elim⟩
                  obtain ⟨_, _, e, rfl, rfl⟩ := h
                  cases e
                  simp only [frzQ, truD]
                  cases h3 : boundP b i with
                  | false =>
                    simp only [Bool.not_false]
                    exact bad (by rw [h1, h3]; rfl)
                  | true =>
                    simp only [Bool.not_true]
                    exact good _ (by rw [h1, h3]; rfl)
            · simp only [c3, decide_false, Bool.not_false]
              refine bad ?_
              match ys, c3 with
              | [], _ => rfl
              | [_], _ => rfl
              | [_, _], c3 => exact absurd rfl c3
              | _ :: _ :: _ :: _, _ => rfl
          | _ => exact bad rfl
        · obtain ⟨rfl, z1, rfl, he⟩ := h
          have : (rngP 0 ((xs.length : Int)).toNat).length = xs.length := by rw [rngP_len]; simp
          rw [this, List.drop_length] at he
          rw [he] at hq
          unfold ir12_2
          walk_at "wp"
          exact hq
  | _ => exact hq
/-! law -/
theorem good_loops : ∀ (ls : List PV) (k : Nat), (∀ (i : Nat) y, ls[i]? = some y → ∃ b1 b2, y = .tup [b1, b2] ∧ GoodB (k + i) b1 ∧ GoodB (k + i) b2) → loopsFrom k ls = true
  | [], _, _ => rfl
  | y :: ls, k, h => by
    obtain ⟨b1, b2, rfl, ⟨_, _, _, _, g1⟩, ⟨_, _, _, _, g2⟩⟩ := h 0 y rfl
    show (boundP b1 k && boundP b2 k && loopsFrom (k + 1) ls) = true
    rw [Nat.add_zero] at g1 g2
    rw [g1, g2, good_loops ls (k + 1) fun i y hy => by
      have := h (i + 1) y (by simpa using hy)
      rw [show k + 1 + i = k + (i + 1) from by omega]
      exact this]
    rfl
theorem goodL_loops {n : Nat} {ls : List PV} (h : GoodL n ls) (h0 : 0 < n) : loopsP (.tup ls) = decide ((n : Int) < 4) := by
  show (decide (1 ≤ ls.length) && decide (ls.length ≤ 3) && loopsFrom 0 ls) = _
  rw [good_loops ls 0 fun i y hy => by rw [Nat.zero_add]; exact h.2 i y hy, h.1, decide_eq_true (by omega : 1 ≤ n), Bool.true_and, Bool.and_true]
  by_cases c : n ≤ 3
  · rw [decide_eq_true c, decide_eq_true (by omega)]
  · rw [decide_eq_false c, decide_eq_false (by omega)]
def lawPre : List PV → Sto → Prop := fun vs S => ∃ ns : List Int, vs = [.lst (ns.map .int)] ∧ ns.length ≤ 63
def lawPost : List PV → Sto → PV → Sto → Prop := fun vs S r S' => r = .bl true ∧ S' = S
theorem Less.put {S S' : Sto} {a : Addr} {o : MO} (l : Less S S') (h : S a = none) : Less S (upS S' a o) := fun b => by
  by_cases e : b = a
  · subst e; exact .inr h
  · rw [upS_ne e]; exact l b
theorem w13 {G : GE} (h3 : G.fn 3 = spR looPre looPost) (h5 : G.fn 5 = spR penPre penPost) (h6 : G.fn 6 = spR takePre takePost) (h7 : G.fn 7 = spR bPre bPost) (h9 : G.fn 9 = spR spPre pPost) (h12 : G.fn 12 = spR looPre looPost)
    {vs : List PV} {S : Sto} {Q : Post} {E : XPost} (hcl : Cl Q) (hp : lawPre vs S) (hq : ∀ r S', lawPost vs S r S' → Q r S') : wpSs G ir13 { nx := fun _ S => Q .non S, rt := Q } (fun x _ S => E x S) (startS g13.N vs) S := by
  obtain ⟨ns, rfl, hn⟩ := hp
  rw [show startS g13.N [.lst (ns.map .int)] = [some (.lst (ns.map .int)), none, none, none, none, none, none] from rfl]
  have hz : 100 ≤ sizeLine := by decide
  unfold ir13
  walk_at "wp"
  simp only [h5, spR]
  refine ⟨⟨ns, rfl, hn⟩, fun r S' h => ?_, fun _ _ h => h.elim⟩
  obtain ⟨a, l, rfl, ha, hl, rfl⟩ := h
  simp only [frzQ, tgD, List.set_cons_zero, List.set_cons_succ]
  unfold ir13_6
  walk_at "wp"
  refine ⟨by omega, by omega, ?_⟩
  refine itL_inv (fun i σ S' => Less S S' ∧ (∃ l, S' a = some (.lst l) ∧ PenL l) ∧ ∃ z2 z3 z4 z5 z6, σ = [some (.lst (ns.map .int)), some (.ref a), z2, z3, z4, z5, z6]) ⟨Less.put Less.refl ha, ⟨l, upS_same, hl⟩, _, _, _, _, _, rfl⟩ (fun _ _ _ _ => trivial) (fun i x σ S' k hx h hk => ?_) fun σ S' h => ?_
  · obtain ⟨hS, ⟨l, hSa, hl⟩, z2, z3, z4, z5, z6, rfl⟩ := h
    simp only [tgD, List.set_cons_zero, List.set_cons_succ, List.getElem?_cons_zero, List.getElem?_cons_succ]
    refine take_call h6 hSa hl (by decide) (by decide) fun n l1 n0 n1 hl1 => ?_
    simp only [binD]
    obtain ⟨n, rfl⟩ : ∃ j : Nat, n = (j : Int) := ⟨n.toNat, by omega⟩
    have hn5 : n < 5 := by omega
    refine ⟨by omega, by omega, fun p hp => ?_⟩
    have hpa : p ≠ a := fun e => by rw [e, upS_same] at hp; cases hp
    refine comp_pen (fun i y => ∃ b1 b2, y = .tup [b1, b2] ∧ GoodB i b1 ∧ GoodB i b2) hpa upS_same hl1 (fun _ => trivial) (fun i x acc l k' hx ha' hl hk' => ?_) fun acc l2 hlen hr hl2 => ?_
    · obtain ⟨hi, rfl⟩ := rngP_get hx
      rw [show ((0 : Int) + (i : Int)) = ((i : Nat) : Int) from by omega]
      have hi5 : i ≤ 10 := by omega
      simp only [upS_upS] at hk' ⊢
      simp only [tgD, wipeS, List.set_cons_zero, List.set_cons_succ, List.getElem?_cons_zero, List.getElem?_cons_succ, h7, spR]
      have hne : ∀ (l : List PV) (o : MO), upS (upS S' a (.lst l)) p o a = some (.lst l) := fun l o => by rw [upS_ne (Ne.symm hpa), upS_same]
      refine ⟨⟨a, l, i, rfl, hne _ _, hl, hi5⟩, fun r S2 h => ?_, fun _ _ h => h.elim⟩
      obtain ⟨_, l3, i', e, hb1, hl3, rfl⟩ := h
      simp only [List.cons.injEq, PV.ref.injEq, PV.int.injEq, and_true] at e
      obtain ⟨rfl, e2⟩ := e
      have e2 : i' = i := by omega
      subst e2
      rw [upS_comm2 hpa, upS_upS]
      obtain ⟨f1, fs1, rfl, q1, q2⟩ := id hb1
      simp only [frzQ]
      refine ⟨⟨a, l3, i', rfl, hne _ _, hl3, hi5⟩, fun r S2 h => ?_, fun _ _ h => h.elim⟩
      obtain ⟨_, l4, i'', e, hb2, hl4, rfl⟩ := h
      simp only [List.cons.injEq, PV.ref.injEq, PV.int.injEq, and_true] at e
      obtain ⟨rfl, e2⟩ := e
      have e2 : i'' = i' := by omega
      subst e2
      rw [upS_comm2 hpa, upS_upS]
      obtain ⟨f2, fs2, rfl, q3, q4⟩ := id hb2
      simp only [frzQ, upS_same, upS_upS]
      exact ⟨by show 2 ≤ sizeLine; omega, trivial, hk' _ l4 ⟨_, _, rfl, hb1, hb2⟩ hl4⟩
    · refine ⟨upS_same, ?_⟩
      have hpS : S' p = none := by rw [← upS_ne (S := S') hpa]; exact hp
      rw [upS_upS, delS_upS (by rw [upS_ne hpa]; exact hpS)]
      have hgl : GoodL (n + 1) acc := ⟨by rw [hlen, rngP_len]; omega, hr⟩
      simp only [biD, dQ, tgD, List.set_cons_zero, List.set_cons_succ]
      unfold ir13_4
      walk_at "wp"
      simp only [tgD, List.set_cons_zero, List.set_cons_succ]
      have rest : ∀ (th : PV) (l : List PV), puv th = true → PenL l → wpSs G ir13_2 { nx := k, rt := Q, bk := fun _ S' => Q (.bl true) S', ct := k } (fun x _ S => E x S) [some (.lst (ns.map .int)), some (.ref a), some x, some (.tup acc), some th, z5, z6] (upS S' a (.lst l)) := fun th l hth hl => by
        have fin : ∀ z5, k [some (.lst (ns.map .int)), some (.ref a), some x, some (.tup acc), some th, z5, z6] (upS S' a (.lst l)) := fun z5 => hk _ _ ⟨Less.put hS ha, ⟨l, upS_same, hl⟩, _, _, _, _, _, rfl⟩
        unfold ir13_2
        walk_at "wp"
        simp only [h3, spR]
        refine ⟨⟨th, rfl, hth⟩, fun r S2 h => ?_, fun _ _ h => h.elim⟩
        obtain ⟨_, e, rfl, rfl⟩ := h
        cases e
        simp only [frzQ, tgD, List.set_cons_zero, List.set_cons_succ]
        unfold ir13_1
        walk_at "wp"
        simp only [tyP, List.any_cons, List.any_nil, Bool.or_false, show isT "bool" "bool" = true from rfl, truD, Bool.not_true, h12, h3, spR]
        refine ⟨⟨th, rfl, hth⟩, fun r S2 h => ?_, fun _ _ h => h.elim⟩
        obtain ⟨_, e, rfl, rfl⟩ := h
        cases e
        simp only [frzQ, cmpD, eqD, decide_true, Bool.not_true]
        refine ⟨⟨.tup acc, rfl, goodL_puv hgl⟩, fun r S2 h => ?_, fun _ _ h => h.elim⟩
        obtain ⟨_, e, rfl, rfl⟩ := h
        cases e
        have he : loopsP (.tup acc) = decide ((acc.length : Int) < 4) := by
          rw [goodL_loops hgl (by omega), hgl.1]
        simp only [frzQ, biD, dQ, he, decide_true, Bool.not_true]
        exact fin _
      unfold ir13_3
      walk_at "wp"
      refine take_call h6 upS_same hl2 (by decide) (by decide) fun w l3 w0 w1 hl3 => ?_
      simp only [cmpD, truD, upS_upS]
      by_cases c : (0 : Int) < w
      · simp only [c, decide_true, h9, spR]
        refine ⟨⟨a, l3, n + 1, acc, rfl, upS_same, hl3, hgl, by omega, by omega⟩, fun r S2 h => ?_, fun _ _ h => h.elim⟩
        obtain ⟨_, l4, _, e, hr', hl4, rfl⟩ := h
        cases e
        rw [upS_upS]
        have := rest r l4 hr' hl4
        cases r <;> first | exact this | cases hr'
      · simp only [c, decide_false]
        exact rest _ l3 (goodL_puv hgl) hl3
  · obtain ⟨hS, _, z2, z3, z4, z5, z6, rfl⟩ := h
    unfold ir13_5
    walk_at "wp"
    exact hcl.less hS (hq _ _ ⟨rfl, rfl⟩)
end K02
end
section
set_option maxRecDepth 100000
set_option maxHeartbeats 0
namespace K02
open PySem PySem.Spec L2 DL
def G : GE := { fn := fun i => match i with
  | 0 => spR whoPre whoPost
  | 1 => spR fomPre fomPost
  | 2 => spR bouPre bouPost
  | 3 => spR looPre looPost
  | 4 => spR cellPre cellPost
  | 5 => spR penPre penPost
  | 6 => spR takePre takePost
  | 7 => spR bPre bPost
  | 8 => spR sfPre pPost
  | 9 => spR spPre pPost
  | 10 => spR whoPre whoPost
  | 11 => spR bou2Pre bouPost
  | 12 => spR looPre looPost
  | 13 => spR lawPre lawPost
  | _ => fun _ _ _ _ => False, sub := fun _ _ => false }
section
variable {P : Program} {w : World} {K : PySem.W.Frag} {h : Heap} {mg : Mg} {base : Heap}
theorem m0 (X : K.In h) (Gm : h.Ns mainGlobals mg) (c : He.SaysD (facs glos frees excs nums) fnl K) : MH P w K mg base G 0 g0 :=
  { fns := fns_nil, free := frees_ok X Gm c (by decide +kernel), cst := csts_ok X Gm c (by decide +kernel), exc := excs_ok X Gm c (by decide +kernel) }
theorem r0 (X : K.In h) (Gm : h.Ns mainGlobals mg) (c : He.SaysD (facs glos frees excs nums) fnl K) {fd : FuncData} (F : FunD K d0.name d0.qual d0.params d0.body d0.scope [] [] (He.fAd K d0.at_) fd) : FnOk P w K mg base (L2.CX P w) 1 (He.fAd K d0.at_) fd ["thing"] (spUp K w mg 1 (G.fn 0)) :=
  fn_run F s0 rfl c0 rfl (m0 X Gm c) rfl (He.glo_ok X Gm (facs_glo c (by decide +kernel))) (b0 F) rfl fun vs S Q E hcl hcx hl hp hq hx => w_whole hp hq
theorem f0 (X : K.In h) (Gm : h.Ns mainGlobals mg) (c : He.SaysD (facs glos frees excs nums) fnl K) : FH P w K mg base G 1 "is_whole" 0 1 := by
  obtain ⟨fd, F⟩ := c.def_ 0 (d := d0) rfl
  exact fn_step (He.glo_ok X Gm (facs_glo c (by decide +kernel))) F.kp (b0 F) rfl (r0 X Gm c F)
theorem m1 (X : K.In h) (Gm : h.Ns mainGlobals mg) (c : He.SaysD (facs glos frees excs nums) fnl K) : MH P w K mg base G 1 g1 :=
  { fns := fns_cons ((f0 X Gm c).mono (by decide)) (fns_nil), free := frees_ok X Gm c (by decide +kernel), cst := csts_ok X Gm c (by decide +kernel), exc := excs_ok X Gm c (by decide +kernel) }
theorem r1 (X : K.In h) (Gm : h.Ns mainGlobals mg) (c : He.SaysD (facs glos frees excs nums) fnl K) {fd : FuncData} (F : FunD K d1.name d1.qual d1.params d1.body d1.scope [] [] (He.fAd K d1.at_) fd) : FnOk P w K mg base (L2.CX P w) 2 (He.fAd K d1.at_) fd ["thing", "d"] (spUp K w mg 2 (G.fn 1)) :=
  fn_run F s1 rfl c1 rfl (m1 X Gm c) rfl (He.glo_ok X Gm (facs_glo c (by decide +kernel))) (b1 F) rfl fun vs S Q E hcl hcx hl hp hq hx => w_form (iw := 0) rfl hp hq
theorem f1 (X : K.In h) (Gm : h.Ns mainGlobals mg) (c : He.SaysD (facs glos frees excs nums) fnl K) : FH P w K mg base G 2 "is_form" 1 2 := by
  obtain ⟨fd, F⟩ := c.def_ 1 (d := d1) rfl
  exact fn_step (He.glo_ok X Gm (facs_glo c (by decide +kernel))) F.kp (b1 F) rfl (r1 X Gm c F)
theorem m2 (X : K.In h) (Gm : h.Ns mainGlobals mg) (c : He.SaysD (facs glos frees excs nums) fnl K) : MH P w K mg base G 2 g2 :=
  { fns := fns_cons ((f1 X Gm c).mono (by decide)) (fns_nil), free := frees_ok X Gm c (by decide +kernel), cst := csts_ok X Gm c (by decide +kernel), exc := excs_ok X Gm c (by decide +kernel) }
theorem r2 (X : K.In h) (Gm : h.Ns mainGlobals mg) (c : He.SaysD (facs glos frees excs nums) fnl K) {fd : FuncData} (F : FunD K d2.name d2.qual d2.params d2.body d2.scope [] [] (He.fAd K d2.at_) fd) : FnOk P w K mg base (L2.CX P w) 3 (He.fAd K d2.at_) fd ["thing", "d"] (spUp K w mg 2 (G.fn 2)) :=
  fn_run F s2 rfl c2 rfl (m2 X Gm c) rfl (He.glo_ok X Gm (facs_glo c (by decide +kernel))) (b2 F) rfl fun vs S Q E hcl hcx hl hp hq hx => w_bound (ifo := 1) rfl hp hq
theorem f2 (X : K.In h) (Gm : h.Ns mainGlobals mg) (c : He.SaysD (facs glos frees excs nums) fnl K) : FH P w K mg base G 3 "is_bound" 2 2 := by
  obtain ⟨fd, F⟩ := c.def_ 2 (d := d2) rfl
  exact fn_step (He.glo_ok X Gm (facs_glo c (by decide +kernel))) F.kp (b2 F) rfl (r2 X Gm c F)
theorem m3 (X : K.In h) (Gm : h.Ns mainGlobals mg) (c : He.SaysD (facs glos frees excs nums) fnl K) : MH P w K mg base G 3 g3 :=
  { fns := fns_cons ((f2 X Gm c).mono (by decide)) (fns_nil), free := frees_ok X Gm c (by decide +kernel), cst := csts_ok X Gm c (by decide +kernel), exc := excs_ok X Gm c (by decide +kernel) }
theorem r3 (X : K.In h) (Gm : h.Ns mainGlobals mg) (c : He.SaysD (facs glos frees excs nums) fnl K) {fd : FuncData} (F : FunD K d3.name d3.qual d3.params d3.body d3.scope [] [] (He.fAd K d3.at_) fd) : FnOk P w K mg base (L2.CX P w) 4 (He.fAd K d3.at_) fd ["thing"] (spUp K w mg 1 (G.fn 3)) :=
  fn_run F s3 rfl c3 rfl (m3 X Gm c) rfl (He.glo_ok X Gm (facs_glo c (by decide +kernel))) (b3 F) rfl fun vs S Q E hcl hcx hl hp hq hx => w_loops (ib := 2) rfl hp hq
theorem f3 (X : K.In h) (Gm : h.Ns mainGlobals mg) (c : He.SaysD (facs glos frees excs nums) fnl K) : FH P w K mg base G 4 "is_loops" 3 1 := by
  obtain ⟨fd, F⟩ := c.def_ 3 (d := d3) rfl
  exact fn_step (He.glo_ok X Gm (facs_glo c (by decide +kernel))) F.kp (b3 F) rfl (r3 X Gm c F)
theorem m4 (X : K.In h) (Gm : h.Ns mainGlobals mg) (c : He.SaysD (facs glos frees excs nums) fnl K) : MH P w K mg base G 4 g4 :=
  { fns := fns_nil, free := frees_ok X Gm c (by decide +kernel), cst := csts_ok X Gm c (by decide +kernel), exc := excs_ok X Gm c (by decide +kernel) }
theorem r4 (X : K.In h) (Gm : h.Ns mainGlobals mg) (c : He.SaysD (facs glos frees excs nums) fnl K) {fd : FuncData} (F : FunD K d4.name d4.qual d4.params d4.body d4.scope [] [] (He.fAd K d4.at_) fd) : FnOk P w K mg base (L2.CX P w) 5 (He.fAd K d4.at_) fd ["_law_script", "_law_k"] (spUp K w mg 2 (G.fn 4)) :=
  fn_run F s4 rfl c4 rfl (m4 X Gm c) rfl (He.glo_ok X Gm (facs_glo c (by decide +kernel))) (b4 F) rfl fun vs S Q E hcl hcx hl hp hq hx => w_cell hp hq
theorem f4 (X : K.In h) (Gm : h.Ns mainGlobals mg) (c : He.SaysD (facs glos frees excs nums) fnl K) : FH P w K mg base G 5 "_law_cell_at" 4 2 := by
  obtain ⟨fd, F⟩ := c.def_ 4 (d := d4) rfl
  exact fn_step (He.glo_ok X Gm (facs_glo c (by decide +kernel))) F.kp (b4 F) rfl (r4 X Gm c F)
theorem m5 (X : K.In h) (Gm : h.Ns mainGlobals mg) (c : He.SaysD (facs glos frees excs nums) fnl K) : MH P w K mg base G 5 g5 :=
  { fns := fns_cons ((f4 X Gm c).mono (by decide)) (fns_nil), free := frees_ok X Gm c (by decide +kernel), cst := csts_ok X Gm c (by decide +kernel), exc := excs_ok X Gm c (by decide +kernel) }
theorem r5 (X : K.In h) (Gm : h.Ns mainGlobals mg) (c : He.SaysD (facs glos frees excs nums) fnl K) {fd : FuncData} (F : FunD K d5.name d5.qual d5.params d5.body d5.scope [] [] (He.fAd K d5.at_) fd) : FnOk P w K mg base (L2.CX P w) 6 (He.fAd K d5.at_) fd ["_law_script"] (spUp K w mg 1 (G.fn 5)) :=
  fn_run F s5 rfl c5 rfl (m5 X Gm c) rfl (He.glo_ok X Gm (facs_glo c (by decide +kernel))) (b5 F) rfl fun vs S Q E hcl hcx hl hp hq hx => w_pen (ic := 4) rfl hp hq
theorem f5 (X : K.In h) (Gm : h.Ns mainGlobals mg) (c : He.SaysD (facs glos frees excs nums) fnl K) : FH P w K mg base G 6 "_law_pen" 5 1 := by
  obtain ⟨fd, F⟩ := c.def_ 5 (d := d5) rfl
  exact fn_step (He.glo_ok X Gm (facs_glo c (by decide +kernel))) F.kp (b5 F) rfl (r5 X Gm c F)
theorem m6 (X : K.In h) (Gm : h.Ns mainGlobals mg) (c : He.SaysD (facs glos frees excs nums) fnl K) : MH P w K mg base G 6 g6 :=
  { fns := fns_cons ((f4 X Gm c).mono (by decide)) (fns_nil), free := frees_ok X Gm c (by decide +kernel), cst := csts_ok X Gm c (by decide +kernel), exc := excs_ok X Gm c (by decide +kernel) }
theorem r6 (X : K.In h) (Gm : h.Ns mainGlobals mg) (c : He.SaysD (facs glos frees excs nums) fnl K) {fd : FuncData} (F : FunD K d6.name d6.qual d6.params d6.body d6.scope [] [] (He.fAd K d6.at_) fd) : FnOk P w K mg base (L2.CX P w) 7 (He.fAd K d6.at_) fd ["_law_pen_here", "_law_most"] (spUp K w mg 2 (G.fn 6)) :=
  fn_run F s6 rfl c6 rfl (m6 X Gm c) rfl (He.glo_ok X Gm (facs_glo c (by decide +kernel))) (b6 F) rfl fun vs S Q E hcl hcx hl hp hq hx => w_take (ic := 4) rfl hp hq
theorem f6 (X : K.In h) (Gm : h.Ns mainGlobals mg) (c : He.SaysD (facs glos frees excs nums) fnl K) : FH P w K mg base G 7 "_law_take" 6 2 := by
  obtain ⟨fd, F⟩ := c.def_ 6 (d := d6) rfl
  exact fn_step (He.glo_ok X Gm (facs_glo c (by decide +kernel))) F.kp (b6 F) rfl (r6 X Gm c F)
theorem m7 (X : K.In h) (Gm : h.Ns mainGlobals mg) (c : He.SaysD (facs glos frees excs nums) fnl K) : MH P w K mg base G 7 g7 :=
  { fns := fns_cons ((f6 X Gm c).mono (by decide)) (fns_nil), free := frees_ok X Gm c (by decide +kernel), cst := csts_ok X Gm c (by decide +kernel), exc := excs_ok X Gm c (by decide +kernel) }
theorem r7 (X : K.In h) (Gm : h.Ns mainGlobals mg) (c : He.SaysD (facs glos frees excs nums) fnl K) {fd : FuncData} (F : FunD K d7.name d7.qual d7.params d7.body d7.scope [] [] (He.fAd K d7.at_) fd) : FnOk P w K mg base (L2.CX P w) 8 (He.fAd K d7.at_) fd ["_law_pen_here", "_law_k"] (spUp K w mg 2 (G.fn 7)) :=
  fn_run F s7 rfl c7 rfl (m7 X Gm c) rfl (He.glo_ok X Gm (facs_glo c (by decide +kernel))) (b7 F) rfl fun vs S Q E hcl hcx hl hp hq hx => w7 rfl hp hq
theorem f7 (X : K.In h) (Gm : h.Ns mainGlobals mg) (c : He.SaysD (facs glos frees excs nums) fnl K) : FH P w K mg base G 8 "_law_bound" 7 2 := by
  obtain ⟨fd, F⟩ := c.def_ 7 (d := d7) rfl
  exact fn_step (He.glo_ok X Gm (facs_glo c (by decide +kernel))) F.kp (b7 F) rfl (r7 X Gm c F)
theorem m8 (X : K.In h) (Gm : h.Ns mainGlobals mg) (c : He.SaysD (facs glos frees excs nums) fnl K) : MH P w K mg base G 8 g8 :=
  { fns := fns_cons ((f6 X Gm c).mono (by decide)) (fns_nil), free := frees_ok X Gm c (by decide +kernel), cst := csts_ok X Gm c (by decide +kernel), exc := excs_ok X Gm c (by decide +kernel) }
theorem r8 (X : K.In h) (Gm : h.Ns mainGlobals mg) (c : He.SaysD (facs glos frees excs nums) fnl K) {fd : FuncData} (F : FunD K d8.name d8.qual d8.params d8.body d8.scope [] [] (He.fAd K d8.at_) fd) : FnOk P w K mg base (L2.CX P w) 9 (He.fAd K d8.at_) fd ["_law_pen_here", "_law_form"] (spUp K w mg 2 (G.fn 8)) :=
  fn_run F s8 rfl c8 rfl (m8 X Gm c) rfl (He.glo_ok X Gm (facs_glo c (by decide +kernel))) (b8 F) rfl fun vs S Q E hcl hcx hl hp hq hx => w8 rfl hp hq
theorem f8 (X : K.In h) (Gm : h.Ns mainGlobals mg) (c : He.SaysD (facs glos frees excs nums) fnl K) : FH P w K mg base G 9 "_law_spoilt_form" 8 2 := by
  obtain ⟨fd, F⟩ := c.def_ 8 (d := d8) rfl
  exact fn_step (He.glo_ok X Gm (facs_glo c (by decide +kernel))) F.kp (b8 F) rfl (r8 X Gm c F)
theorem m9 (X : K.In h) (Gm : h.Ns mainGlobals mg) (c : He.SaysD (facs glos frees excs nums) fnl K) : MH P w K mg base G 9 g9 :=
  { fns := fns_cons ((f6 X Gm c).mono (by decide)) (fns_cons ((f8 X Gm c).mono (by decide)) (fns_nil)), free := frees_ok X Gm c (by decide +kernel), cst := csts_ok X Gm c (by decide +kernel), exc := excs_ok X Gm c (by decide +kernel) }
theorem r9 (X : K.In h) (Gm : h.Ns mainGlobals mg) (c : He.SaysD (facs glos frees excs nums) fnl K) {fd : FuncData} (F : FunD K d9.name d9.qual d9.params d9.body d9.scope [] [] (He.fAd K d9.at_) fd) : FnOk P w K mg base (L2.CX P w) 10 (He.fAd K d9.at_) fd ["_law_pen_here", "_law_loops"] (spUp K w mg 2 (G.fn 9)) :=
  fn_run F s9 rfl c9 rfl (m9 X Gm c) rfl (He.glo_ok X Gm (facs_glo c (by decide +kernel))) (b9 F) rfl fun vs S Q E hcl hcx hl hp hq hx => w9 rfl rfl hp hq
theorem f9 (X : K.In h) (Gm : h.Ns mainGlobals mg) (c : He.SaysD (facs glos frees excs nums) fnl K) : FH P w K mg base G 10 "_law_spoilt" 9 2 := by
  obtain ⟨fd, F⟩ := c.def_ 9 (d := d9) rfl
  exact fn_step (He.glo_ok X Gm (facs_glo c (by decide +kernel))) F.kp (b9 F) rfl (r9 X Gm c F)
theorem m10 (X : K.In h) (Gm : h.Ns mainGlobals mg) (c : He.SaysD (facs glos frees excs nums) fnl K) : MH P w K mg base G 10 g10 :=
  { fns := fns_nil, free := frees_ok X Gm c (by decide +kernel), cst := csts_ok X Gm c (by decide +kernel), exc := excs_ok X Gm c (by decide +kernel) }
theorem r10 (X : K.In h) (Gm : h.Ns mainGlobals mg) (c : He.SaysD (facs glos frees excs nums) fnl K) {fd : FuncData} (F : FunD K d10.name d10.qual d10.params d10.body d10.scope [] [] (He.fAd K d10.at_) fd) : FnOk P w K mg base (L2.CX P w) 11 (He.fAd K d10.at_) fd ["_law_thing"] (spUp K w mg 1 (G.fn 10)) :=
  fn_run F s10 rfl c10 rfl (m10 X Gm c) rfl (He.glo_ok X Gm (facs_glo c (by decide +kernel))) (b10 F) rfl fun vs S Q E hcl hcx hl hp hq hx => w_whole hp hq
theorem f10 (X : K.In h) (Gm : h.Ns mainGlobals mg) (c : He.SaysD (facs glos frees excs nums) fnl K) : FH P w K mg base G 11 "_law_number_is" 10 1 := by
  obtain ⟨fd, F⟩ := c.def_ 10 (d := d10) rfl
  exact fn_step (He.glo_ok X Gm (facs_glo c (by decide +kernel))) F.kp (b10 F) rfl (r10 X Gm c F)
theorem m11 (X : K.In h) (Gm : h.Ns mainGlobals mg) (c : He.SaysD (facs glos frees excs nums) fnl K) : MH P w K mg base G 11 g11 :=
  { fns := fns_cons ((f10 X Gm c).mono (by decide)) (fns_nil), free := frees_ok X Gm c (by decide +kernel), cst := csts_ok X Gm c (by decide +kernel), exc := excs_ok X Gm c (by decide +kernel) }
theorem r11 (X : K.In h) (Gm : h.Ns mainGlobals mg) (c : He.SaysD (facs glos frees excs nums) fnl K) {fd : FuncData} (F : FunD K d11.name d11.qual d11.params d11.body d11.scope [] [] (He.fAd K d11.at_) fd) : FnOk P w K mg base (L2.CX P w) 12 (He.fAd K d11.at_) fd ["_law_thing", "_law_k"] (spUp K w mg 2 (G.fn 11)) :=
  fn_run F s11 rfl c11 rfl (m11 X Gm c) rfl (He.glo_ok X Gm (facs_glo c (by decide +kernel))) (b11 F) rfl fun vs S Q E hcl hcx hl hp hq hx => w11 rfl hp hq
theorem f11 (X : K.In h) (Gm : h.Ns mainGlobals mg) (c : He.SaysD (facs glos frees excs nums) fnl K) : FH P w K mg base G 12 "_law_bound_is" 11 2 := by
  obtain ⟨fd, F⟩ := c.def_ 11 (d := d11) rfl
  exact fn_step (He.glo_ok X Gm (facs_glo c (by decide +kernel))) F.kp (b11 F) rfl (r11 X Gm c F)
theorem m12 (X : K.In h) (Gm : h.Ns mainGlobals mg) (c : He.SaysD (facs glos frees excs nums) fnl K) : MH P w K mg base G 12 g12 :=
  { fns := fns_cons ((f11 X Gm c).mono (by decide)) (fns_nil), free := frees_ok X Gm c (by decide +kernel), cst := csts_ok X Gm c (by decide +kernel), exc := excs_ok X Gm c (by decide +kernel) }
theorem r12 (X : K.In h) (Gm : h.Ns mainGlobals mg) (c : He.SaysD (facs glos frees excs nums) fnl K) {fd : FuncData} (F : FunD K d12.name d12.qual d12.params d12.body d12.scope [] [] (He.fAd K d12.at_) fd) : FnOk P w K mg base (L2.CX P w) 13 (He.fAd K d12.at_) fd ["_law_thing"] (spUp K w mg 1 (G.fn 12)) :=
  fn_run F s12 rfl c12 rfl (m12 X Gm c) rfl (He.glo_ok X Gm (facs_glo c (by decide +kernel))) (b12 F) rfl fun vs S Q E hcl hcx hl hp hq hx => w12 rfl hp hq
theorem f12 (X : K.In h) (Gm : h.Ns mainGlobals mg) (c : He.SaysD (facs glos frees excs nums) fnl K) : FH P w K mg base G 13 "_law_due" 12 1 := by
  obtain ⟨fd, F⟩ := c.def_ 12 (d := d12) rfl
  exact fn_step (He.glo_ok X Gm (facs_glo c (by decide +kernel))) F.kp (b12 F) rfl (r12 X Gm c F)
theorem m13 (X : K.In h) (Gm : h.Ns mainGlobals mg) (c : He.SaysD (facs glos frees excs nums) fnl K) : MH P w K mg base G 13 g13 :=
  { fns := fns_cons ((f5 X Gm c).mono (by decide)) (fns_cons ((f3 X Gm c).mono (by decide)) (fns_cons ((f6 X Gm c).mono (by decide)) (fns_cons ((f9 X Gm c).mono (by decide)) (fns_cons ((f12 X Gm c).mono (by decide)) (fns_cons ((f7 X Gm c).mono (by decide)) (fns_nil)))))), free := frees_ok X Gm c (by decide +kernel), cst := csts_ok X Gm c (by decide +kernel), exc := excs_ok X Gm c (by decide +kernel) }
theorem r13 (X : K.In h) (Gm : h.Ns mainGlobals mg) (c : He.SaysD (facs glos frees excs nums) fnl K) {fd : FuncData} (F : FunD K d13.name d13.qual d13.params d13.body d13.scope [] [] (He.fAd K d13.at_) fd) : FnOk P w K mg base (L2.CX P w) 14 (He.fAd K d13.at_) fd ["_law_script"] (spUp K w mg 1 (G.fn 13)) :=
  fn_run F s13 rfl c13 rfl (m13 X Gm c) rfl (He.glo_ok X Gm (facs_glo c (by decide +kernel))) (b13 F) rfl fun vs S Q E hcl hcx hl hp hq hx => w13 rfl rfl rfl rfl rfl rfl hcl hp hq
theorem f13 (X : K.In h) (Gm : h.Ns mainGlobals mg) (c : He.SaysD (facs glos frees excs nums) fnl K) : FH P w K mg base G 14 "law" 13 1 := by
  obtain ⟨fd, F⟩ := c.def_ 13 (d := d13) rfl
  exact fn_step (He.glo_ok X Gm (facs_glo c (by decide +kernel))) F.kp (b13 F) rfl (r13 X Gm c F)
end
abbrev R : PySem.W.OpenRow := PySem.W.OpenLaw.row PySem.Challenge.rw_nestturn_k02_what_is_loops
abbrev hk : PySem.W.Hook := He.hookD 4 (facs glos frees excs nums) fnl
def ob (s : PySem.W.SharedT) : He.AlD := He.obsDG 4 (facs glos frees excs nums) fnl (HandSHeadRun.getT s)
theorem ob_eq (s : PySem.W.SharedT) : ob s = hk.obs s.abs := He.obsDG_eq (HandSHeadRun.getT_eq s)
def loos : List Str := ["is_whole", "is_form", "is_bound", "is_loops", "_law_cell_at", "_law_pen", "_law_take", "_law_bound", "_law_spoilt_form", "_law_spoilt", "_law_number_is", "_law_bound_is", "_law_due", "MOST_LOOPS", "FIRST", "OTHERS"]
theorem run (w : World) : HandSHeadRun.RunEq R (PySem.W.view R.prog [18]) hk ob 600 loos w := by
  intro os
  kernel_rfl
theorem facts {P : Program} {w : World} {K : PySem.W.Frag} {h : Heap} {mg : Mg} {f : Addr} (X : K.In h) (Gm : h.Ns mainGlobals mg) (hfa : mg ("law" : Str) = some (.ref f)) (c : He.SaysD (facs glos frees excs nums) fnl K) :
    ∃ fd : FuncData, (∀ (s : Shared) (v : Value), BindsTo s fd ⟨[v], []⟩ [("_law_script", v)]) ∧ ∀ base : Heap, FnOk P w K mg base CXA 14 f fd ["_law_script"] (spUp K w mg 1 (G.fn 13)) := by
  obtain ⟨fd, F⟩ := c.def_ 13 (d := d13) rfl
  have e := hfa.symm.trans (He.glo_ok X Gm (facs_glo c (by decide +kernel)))
  cases e
  have b := FunD.bindsA (ps := ["_law_script"]) F fun _ _ _ _ _ _ us hl => match us, hl with | [_], _ => rfl
  exact ⟨fd, fun s v => b s [v] rfl, fun base => cxa (r13 X Gm c F)⟩
end K02
open PySem PySem.W PySem.Calls PyProof.Rows
theorem PySem.Challenge.cw_nestturn_k02_what_is_loops_holds : PySem.Challenge.rw_nestturn_k02_what_is_loops.Holds := by
  w_on; o_law
  refine HandSHeadRun.head_any (r := OpenLaw.row PySem.Challenge.rw_nestturn_k02_what_is_loops) (q := view (OpenLaw.row PySem.Challenge.rw_nestturn_k02_what_is_loops).prog [18]) (H := K02.hk) (ob := K02.ob) (M := 600) (loose := K02.loos) (d := HandSHeadRun.topDef (OpenLaw.row PySem.Challenge.rw_nestturn_k02_what_is_loops).prog 18) (kwd := []) K02.ob_eq
    (by kernel_rfl) (fun s => by kernel_rfl) K02.run (by kernel_rfl) (by kernel_rfl) (by kernel_rfl) (by rfl) (by first | assumption | decide +kernel) (by decide +kernel) ⟨rfl, rfl, rfl, rfl, rfl, by decide +kernel⟩ ?hw ?hc
  case hw => w_witness2
  case hc =>
    refine L2.walk_ofE (l := PySem.Challenge.rw_nestturn_k02_what_is_loops) (n := 63) (k := 14) (x := "_law_script") (CX := DL.CXA) rfl (by decide) (by kernel_rfl) ⟨rfl, by decide, by decide⟩ ?F (fun _ _ _ _ z => DL.cxa_none z)
    intro w mg fa h Y Gm hmg0
    obtain ⟨K, KX, c⟩ := Y
    have hmg : mg ("law" : PySem.Str) = some (.ref fa) := by
      have e : (HandSHeadRun.topDef (OpenLaw.row PySem.Challenge.rw_nestturn_k02_what_is_loops).prog 18).name = ("law" : PySem.Str) := by kernel_rfl
      rw [← e]
      exact hmg0
    obtain ⟨fd, hb, hF⟩ := K02.facts (P := (PySem.Challenge.rw_nestturn_k02_what_is_loops).prog) (w := w) KX Gm hmg c
    exact ⟨K, fd, DL.spUp K w mg 1 (K02.G.fn 13), KX, hb, fun H a ns hl _ hS => DL.law_up hS ⟨ns, rfl, hl⟩ fun r S' h => h.1, fun base _ _ => hF base⟩
end
