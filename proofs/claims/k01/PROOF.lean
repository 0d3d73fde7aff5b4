import PyProof.Rows.All
import Wide.All
import OpenK.AllK
import Wide.FinOn
import HandS.ForMost
import HandS.ForExc
import HandS.Wide
import HandS.WideBits
import HandS.TupAny
import HandS.IsInst
import HandS.Flow
import HandS.CallSlots
import HandS.Defaults
import HandS.Style
import HandS.Head0
import HandS.Head1
import HandS.Head2
import HandS.HeadEnd
import HandS.HeadHook1
import HandS.HeadHook2
import HandS.EndBits
import PySem.Challenge.RW_surdways_k01_roots_bounds
set_option Elab.async false
set_option linter.all false
set_option maxRecDepth 100000
set_option maxHeartbeats 8000000
set_option exponentiation.threshold 30000
/-! QA: pure values, the store, what they stand for in the heap. -/
namespace Q
open PySem PySem.Spec PyProof.Rows L2

/-- a value: tuples are pure, lists and dicts are cells of the store -/
inductive PV where
  | non | bl (b : Bool) | int (i : Int) | str (x : Str) | tup (xs : List PV) | ref (n : Nat) | fro (ns : List Int) | ty (n : String)
inductive Cell where
  | lst (xs : List PV) | dK (kvs : List (Key × PV)) | dT (kvs : List (List Key × PV))
abbrev Store := List Cell
structure Ex where
  cls : Str
  fs : List (Str × PV)
inductive Res (α : Type) where
  | ok (a : α) (M : Store) | exc (e : Ex) (M : Store) | bad
def Res.bind {α β : Type} : Res α → (α → Store → Res β) → Res β
  | .ok a M, f => f a M
  | .exc e M, _ => .exc e M
  | .bad, _ => .bad
@[simp] theorem Res.bind_ok {α β : Type} (a : α) (M : Store) (f : α → Store → Res β) : (Res.ok a M).bind f = f a M := rfl
@[simp] theorem Res.bind_exc {α β : Type} (e : Ex) (M : Store) (f : α → Store → Res β) : (Res.exc e M).bind f = .exc e M := rfl
@[simp] theorem Res.bind_bad {α β : Type} (f : α → Store → Res β) : (Res.bad : Res α).bind f = .bad := rfl
def Res.noexc {α : Type} : Res α → Res α
  | .exc _ _ => .bad
  | r => r
@[simp] theorem Res.noexc_ok {α : Type} (a : α) (M : Store) : (Res.ok a M).noexc = .ok a M := rfl
@[simp] theorem Res.noexc_bad {α : Type} : (Res.bad : Res α).noexc = .bad := rfl
theorem Res.bind_assoc {α β γ : Type} (r : Res α) (f : α → Store → Res β) (g : β → Store → Res γ) : (r.bind f).bind g = r.bind fun a M => (f a M).bind g := by
  cases r <;> rfl

/-! ### relation to the heap -/
/-- a list that stays as it is -/
def Fro (K : PySem.W.Frag) (H : Hp) (a : Addr) (xs : List V) : Prop :=
  (∃ o, H a = some (.frz o (.lst xs))) ∨ ∃ (o : Obj) (its : Array Value) (n : Nat), K.lookup a = some o ∧ o.cls = .type "list" ∧ o.dict = none ∧ o.data = .seq its n ∧ its.size ≤ sizeLine ∧ Vals xs its.toList
theorem Fro.sq {K : PySem.W.Frag} {H : Hp} {a : Addr} {xs : List V} (h : Fro K H a xs) : SqL K H a xs := by
  rcases h with ⟨o, h⟩ | h
  · exact .inl (.inr ⟨o, h⟩)
  · exact .inr h

/-- the written part, and which tuples of it may be met -/
structure Par where
  F : PySem.W.Frag
  kt : List PV → Prop
  ex : Str → Option Addr
def KTup (K : PySem.W.Frag) (a : Addr) (xs : List V) : Prop := ∃ (o : Obj) (its : Array Value) (n : Nat), K.lookup a = some o ∧ o.cls = .type "tuple" ∧ o.data = .seq its n ∧ its.size ≤ sizeLine ∧ Vals xs its.toList
/-- a tuple as it stands: tracked, or of the written part -/
def TupAt (K : Par) (H : Hp) (a : Addr) (xs : List PV) (vs : List V) : Prop := H a = some (.tup vs) ∨ (K.kt xs ∧ KTup K.F a vs)
theorem TupAt.sq {K : Par} {H : Hp} {a : Addr} {xs : List PV} {vs : List V} (h : TupAt K H a xs vs) : SqT K.F H a vs := by
  rcases h with h | ⟨_, h⟩
  · exact .inl (.inl h)
  · exact .inr h

mutual
def RelP (K : Par) (ρ : List Addr) (H : Hp) : PV → V → Prop
  | .non, v => v = .non
  | .bl b, v => v = .bl b
  | .int i, v => v = .int i
  | .str x, v => v = .str x
  | .tup xs, v => ∃ a vs, v = .ref a ∧ TupAt K H a xs vs ∧ RelPs K ρ H xs vs
  | .ref n, v => ∃ a, v = .ref a ∧ ρ[n]? = some a
  | .fro ns, v => ∃ a, v = .ref a ∧ Fro K.F H a (ns.map V.int)
  | .ty n, v => v = .ty n
def RelPs (K : Par) (ρ : List Addr) (H : Hp) : List PV → List V → Prop
  | [], vs => vs = []
  | x :: xs, vs => ∃ v r, vs = v :: r ∧ RelP K ρ H x v ∧ RelPs K ρ H xs r
end

/-- the heap has grown: what does not change stands; what is tracked beside the store stands -/
structure Ext (ρ : List Addr) (H : Hp) (ρ' : List Addr) (H' : Hp) : Prop where
  pre : ∃ t, ρ' = ρ ++ t ∧ ∀ p ∈ t, H p = none
  tups : ∀ a xs, H a = some (.tup xs) → H' a = some (.tup xs)
  frz : ∀ a o xs, H a = some (.frz o (.lst xs)) → H' a = some (.frz o (.lst xs))
  frame : ∀ a o, H a = some o → a ∉ ρ → H' a = some o
  dom : ∀ a, H' a = none → H a = none
section
variable {K : Par} {ρ ρ' ρ2 : List Addr} {H H' H2 : Hp}
theorem Ext.refl : Ext ρ H ρ H := ⟨⟨[], by simp, fun _ h => nomatch h⟩, fun _ _ h => h, fun _ _ _ h => h, fun _ _ h _ => h, fun _ h => h⟩
theorem Ext.trans (a : Ext ρ H ρ' H') (b : Ext ρ' H' ρ2 H2) : Ext ρ H ρ2 H2 := by
  obtain ⟨t, rfl, ht⟩ := a.pre
  obtain ⟨u, rfl, hu⟩ := b.pre
  refine ⟨⟨t ++ u, by simp, fun p hp => ?_⟩, fun x xs h => b.tups x xs (a.tups x xs h), fun x o xs h => b.frz x o xs (a.frz x o xs h), fun x o h hn => ?_, fun x h => a.dom x (b.dom x h)⟩
  · rcases List.mem_append.mp hp with h | h
    · exact ht p h
    · exact a.dom p (hu p h)
  · refine b.frame x o (a.frame x o h hn) fun hm => ?_
    rcases List.mem_append.mp hm with z | z
    · exact hn z
    · have := ht x z
      rw [h] at this
      cases this
theorem upd_none {H : Hp} {p a : Addr} {o : HO} (h : L2.upd H p o a = none) : H a = none := by
  by_cases e : a = p
  · rw [e, upd_same] at h
    cases h
  · rw [upd_ne e] at h
    exact h
theorem Ext.fresh1 {p : Addr} {o : HO} (h : H p = none) : Ext ρ H (ρ ++ [p]) (L2.upd H p o) :=
  ⟨⟨[p], rfl, fun q hq => by rw [show q = p by simpa using hq]; exact h⟩, fun a xs e => by rw [upd_ne (ne_of_none e h)]; exact e, fun a ob xs e => by rw [upd_ne (ne_of_none e h)]; exact e,
   fun a ob e _ => by rw [upd_ne (ne_of_none e h)]; exact e, fun a e => upd_none e⟩
theorem Ext.fresh0 {p : Addr} {o : HO} (h : H p = none) : Ext ρ H ρ (L2.upd H p o) :=
  ⟨⟨[], by simp, fun _ h => nomatch h⟩, fun a xs e => by rw [upd_ne (ne_of_none e h)]; exact e, fun a ob xs e => by rw [upd_ne (ne_of_none e h)]; exact e,
   fun a ob e _ => by rw [upd_ne (ne_of_none e h)]; exact e, fun a e => upd_none e⟩
def MutO : HO → Prop
  | .lst _ => True
  | .dK _ => True
  | .dT _ => True
  | _ => False
theorem Ext.upd {p : Addr} {o o' : HO} (hp : p ∈ ρ) (h : H p = some o) (m : MutO o) : Ext ρ H ρ (L2.upd H p o') := by
  have key : ∀ {a : Addr} {u : HO}, ¬ MutO u → H a = some u → a ≠ p := fun {a u} hn e z => by
    rw [z, h] at e
    cases e
    exact hn m
  exact ⟨⟨[], by simp, fun _ h => nomatch h⟩, fun a xs e => by rw [upd_ne (key (u := .tup xs) (fun z => z) e)]; exact e, fun a ob xs e => by rw [upd_ne (key (u := .frz ob (.lst xs)) (fun z => z) e)]; exact e,
    fun a ob e hn => by rw [upd_ne (fun (z : a = p) => hn (z ▸ hp))]; exact e, fun a e => upd_none e⟩
theorem Ext.get (x : Ext ρ H ρ' H') {n : Nat} {a : Addr} (h : ρ[n]? = some a) : ρ'[n]? = some a := by
  obtain ⟨t, rfl, _⟩ := x.pre
  have hn : n < ρ.length := (List.getElem?_eq_some_iff.mp h).1
  rw [List.getElem?_append_left hn]
  exact h
theorem Ext.sqT (x : Ext ρ H ρ' H') {a : Addr} {xs : List PV} {vs : List V} (h : TupAt K H a xs vs) : TupAt K H' a xs vs := by
  rcases h with h | h
  · exact .inl (x.tups a vs h)
  · exact .inr h
theorem Ext.fro (x : Ext ρ H ρ' H') {a : Addr} {vs : List V} (h : Fro K.F H a vs) : Fro K.F H' a vs := by
  rcases h with ⟨o, h⟩ | h
  · exact .inl ⟨o, x.frz a o vs h⟩
  · exact .inr h
mutual
theorem RelP.ext (x : Ext ρ H ρ' H') : ∀ (p : PV) {v : V}, RelP K ρ H p v → RelP K ρ' H' p v
  | .non, _, h => by rw [RelP] at h ⊢; exact h
  | .bl _, _, h => by rw [RelP] at h ⊢; exact h
  | .int _, _, h => by rw [RelP] at h ⊢; exact h
  | .str _, _, h => by rw [RelP] at h ⊢; exact h
  | .ty _, _, h => by rw [RelP] at h ⊢; exact h
  | .tup xs, _, h => by
    rw [RelP] at h ⊢
    obtain ⟨a, vs, e, hs, hr⟩ := h
    exact ⟨a, vs, e, x.sqT hs, RelPs.ext x xs hr⟩
  | .ref n, _, h => by
    rw [RelP] at h ⊢
    obtain ⟨a, e, hn⟩ := h
    exact ⟨a, e, x.get hn⟩
  | .fro ns, _, h => by
    rw [RelP] at h ⊢
    obtain ⟨a, e, hn⟩ := h
    exact ⟨a, e, x.fro hn⟩
theorem RelPs.ext (x : Ext ρ H ρ' H') : ∀ (ps : List PV) {vs : List V}, RelPs K ρ H ps vs → RelPs K ρ' H' ps vs
  | [], _, h => by rw [RelPs] at h ⊢; exact h
  | p :: ps, _, h => by
    rw [RelPs] at h ⊢
    obtain ⟨v, r, e, h1, h2⟩ := h
    exact ⟨v, r, e, RelP.ext x p h1, RelPs.ext x ps h2⟩
end
theorem relP_non {v : V} : RelP K ρ H .non v ↔ v = .non := by rw [RelP]
theorem relP_bl {b : Bool} {v : V} : RelP K ρ H (.bl b) v ↔ v = .bl b := by rw [RelP]
theorem relP_int {i : Int} {v : V} : RelP K ρ H (.int i) v ↔ v = .int i := by rw [RelP]
theorem relP_str {x : Str} {v : V} : RelP K ρ H (.str x) v ↔ v = .str x := by rw [RelP]
theorem relP_ty {n : String} {v : V} : RelP K ρ H (.ty n) v ↔ v = .ty n := by rw [RelP]
theorem relP_tup {xs : List PV} {v : V} : RelP K ρ H (.tup xs) v ↔ ∃ a vs, v = .ref a ∧ TupAt K H a xs vs ∧ RelPs K ρ H xs vs := by rw [RelP]
theorem relP_ref {n : Nat} {v : V} : RelP K ρ H (.ref n) v ↔ ∃ a, v = .ref a ∧ ρ[n]? = some a := by rw [RelP]
theorem relP_fro {ns : List Int} {v : V} : RelP K ρ H (.fro ns) v ↔ ∃ a, v = .ref a ∧ Fro K.F H a (ns.map V.int) := by rw [RelP]
theorem relPs_nil {vs : List V} : RelPs K ρ H [] vs ↔ vs = [] := by rw [RelPs]
theorem relPs_cons {x : PV} {xs : List PV} {vs : List V} : RelPs K ρ H (x :: xs) vs ↔ ∃ v r, vs = v :: r ∧ RelP K ρ H x v ∧ RelPs K ρ H xs r := by rw [RelPs]
theorem RelPs.mk {x : PV} {xs : List PV} {v : V} {r : List V} (h : RelP K ρ H x v) (t : RelPs K ρ H xs r) : RelPs K ρ H (x :: xs) (v :: r) := relPs_cons.mpr ⟨v, r, rfl, h, t⟩
theorem RelPs.nil : RelPs K ρ H [] [] := relPs_nil.mpr rfl
theorem RelPs.length : ∀ {xs : List PV} {vs : List V}, RelPs K ρ H xs vs → xs.length = vs.length
  | [], _, h => by rw [relPs_nil.mp h]; rfl
  | x :: xs, _, h => by
    obtain ⟨v, r, rfl, _, t⟩ := relPs_cons.mp h
    rw [List.length_cons, List.length_cons, RelPs.length t]
theorem RelPs.append : ∀ {xs ys : List PV} {vs ws : List V}, RelPs K ρ H xs vs → RelPs K ρ H ys ws → RelPs K ρ H (xs ++ ys) (vs ++ ws)
  | [], _, _, _, h, k => by rw [relPs_nil.mp h]; exact k
  | x :: xs, _, _, _, h, k => by
    obtain ⟨v, r, rfl, h1, t⟩ := relPs_cons.mp h
    exact .mk h1 (RelPs.append t k)
theorem RelPs.get : ∀ {xs : List PV} {vs : List V} {i : Nat} {x : PV}, RelPs K ρ H xs vs → xs[i]? = some x → ∃ v, vs[i]? = some v ∧ RelP K ρ H x v
  | [], _, _, _, _, e => by simp at e
  | x :: xs, _, 0, _, h, e => by
    obtain ⟨v, r, rfl, h1, t⟩ := relPs_cons.mp h
    simp at e
    subst e
    exact ⟨v, rfl, h1⟩
  | x :: xs, _, i + 1, _, h, e => by
    obtain ⟨v, r, rfl, h1, t⟩ := relPs_cons.mp h
    have := RelPs.get (i := i) t (by simpa using e)
    simpa using this
theorem RelPs.set : ∀ {xs : List PV} {vs : List V} {x : PV} {v : V} (i : Nat), RelPs K ρ H xs vs → RelP K ρ H x v → RelPs K ρ H (xs.set i x) (vs.set i v)
  | [], _, _, _, _, h, _ => by rw [relPs_nil.mp h]; exact .nil
  | y :: xs, _, _, _, 0, h, k => by
    obtain ⟨v, r, rfl, h1, t⟩ := relPs_cons.mp h
    exact .mk k t
  | y :: xs, _, _, _, i + 1, h, k => by
    obtain ⟨v, r, rfl, h1, t⟩ := relPs_cons.mp h
    exact .mk h1 (RelPs.set i t k)
theorem RelPs.take : ∀ {xs : List PV} {vs : List V} (i : Nat), RelPs K ρ H xs vs → RelPs K ρ H (xs.take i) (vs.take i)
  | _, _, 0, _ => by rw [List.take_zero, List.take_zero]; exact .nil
  | [], _, i + 1, h => by rw [relPs_nil.mp h]; exact .nil
  | y :: xs, _, i + 1, h => by
    obtain ⟨v, r, rfl, h1, t⟩ := relPs_cons.mp h
    exact .mk h1 (RelPs.take i t)
theorem RelPs.drop : ∀ {xs : List PV} {vs : List V} (i : Nat), RelPs K ρ H xs vs → RelPs K ρ H (xs.drop i) (vs.drop i)
  | _, _, 0, h => h
  | [], _, i + 1, h => by rw [relPs_nil.mp h]; exact .nil
  | y :: xs, _, i + 1, h => by
    obtain ⟨v, r, rfl, h1, t⟩ := relPs_cons.mp h
    exact RelPs.drop i t
theorem RelPs.ints : ∀ {ns : List Int} {vs : List V}, RelPs K ρ H (ns.map PV.int) vs ↔ vs = ns.map V.int
  | [], _ => relPs_nil
  | n :: ns, vs => by
    constructor
    · intro h
      obtain ⟨v, r, rfl, h1, t⟩ := relPs_cons.mp h
      rw [relP_int.mp h1, RelPs.ints.mp t]
      rfl
    · intro e
      subst e
      exact .mk (relP_int.mpr rfl) (RelPs.ints.mpr rfl)

/-! ### cells -/
def RelKV {κ : Type} (K : Par) (ρ : List Addr) (H : Hp) : List (κ × PV) → List (κ × V) → Prop := Paired fun p q => p.1 = q.1 ∧ RelP K ρ H p.2 q.2
theorem RelKV.ext {κ : Type} (x : Ext ρ H ρ' H') {l : List (κ × PV)} {r : List (κ × V)} (h : RelKV K ρ H l r) : RelKV K ρ' H' l r := Paired.mapP h fun _ _ z => ⟨z.1, z.2.ext x⟩
def RelC (K : Par) (ρ : List Addr) (H : Hp) : Cell → HO → Prop
  | .lst xs, o => ∃ vs, o = .lst vs ∧ RelPs K ρ H xs vs
  | .dK kvs, o => ∃ vs, o = .dK vs ∧ RelKV K ρ H kvs vs
  | .dT kvs, o => ∃ vs, o = .dT vs ∧ RelKV K ρ H kvs vs
theorem RelC.ext (x : Ext ρ H ρ' H') {c : Cell} {o : HO} (h : RelC K ρ H c o) : RelC K ρ' H' c o := by
  cases c with
  | lst xs => obtain ⟨vs, e, h⟩ := h; exact ⟨vs, e, h.ext x⟩
  | dK kvs => obtain ⟨vs, e, h⟩ := h; exact ⟨vs, e, h.ext x⟩
  | dT kvs => obtain ⟨vs, e, h⟩ := h; exact ⟨vs, e, h.ext x⟩
theorem RelC.mut {c : Cell} {o : HO} (h : RelC K ρ H c o) : MutO o := by
  cases c with
  | lst xs => obtain ⟨vs, e, h⟩ := h; subst e; trivial
  | dK kvs => obtain ⟨vs, e, h⟩ := h; subst e; trivial
  | dT kvs => obtain ⟨vs, e, h⟩ := h; subst e; trivial
structure RelM (K : Par) (ρ : List Addr) (H : Hp) (M : Store) : Prop where
  len : ρ.length = M.length
  nd : ρ.Nodup
  cell : ∀ (n : Nat) (a : Addr) (c : Cell), ρ[n]? = some a → M[n]? = some c → ∃ o, H a = some o ∧ RelC K ρ H c o
theorem RelM.at_ {M : Store} (r : RelM K ρ H M) {n : Nat} {c : Cell} (h : M[n]? = some c) : ∃ a o, ρ[n]? = some a ∧ H a = some o ∧ RelC K ρ H c o := by
  have hn : n < M.length := (List.getElem?_eq_some_iff.mp h).1
  have hn' : n < ρ.length := by rw [r.len]; exact hn
  obtain ⟨o, h1, h2⟩ := r.cell n ρ[n] c (by simp) h
  exact ⟨_, o, by simp, h1, h2⟩
theorem RelM.mem {M : Store} (r : RelM K ρ H M) {a : Addr} (h : a ∈ ρ) : ∃ o, H a = some o ∧ MutO o := by
  obtain ⟨n, hn, e⟩ := List.getElem_of_mem h
  have hm : n < M.length := by rw [← r.len]; exact hn
  obtain ⟨o, h1, h2⟩ := r.cell n a M[n] (by rw [List.getElem?_eq_getElem hn, e]) (by simp)
  exact ⟨o, h1, h2.mut⟩
theorem nodup_get {l : List Addr} (nd : l.Nodup) {i j : Nat} {a : Addr} (h1 : l[i]? = some a) (h2 : l[j]? = some a) : i = j := by
  obtain ⟨hi, e1⟩ := List.getElem?_eq_some_iff.mp h1
  obtain ⟨hj, e2⟩ := List.getElem?_eq_some_iff.mp h2
  exact (List.getElem_inj nd).mp (e1.trans e2.symm)
/-- nothing of the store is touched -/
theorem RelM.grow {M : Store} (r : RelM K ρ H M) {p : Addr} {o : HO} (h : H p = none) : RelM K ρ (upd H p o) M :=
  ⟨r.len, r.nd, fun n a c h1 h2 => by
    obtain ⟨u, e1, e2⟩ := r.cell n a c h1 h2
    exact ⟨u, by rw [upd_ne (ne_of_none e1 h)]; exact e1, e2.ext (.fresh0 h)⟩⟩
theorem RelM.set {M : Store} (r : RelM K ρ H M) {n : Nat} {a : Addr} {c c' : Cell} {o' : HO} (h1 : ρ[n]? = some a) (h2 : M[n]? = some c) (h : RelC K ρ H c' o') : RelM K ρ (upd H a o') (M.set n c') := by
  obtain ⟨o, e1, e2⟩ := r.cell n a c h1 h2
  have x : Ext ρ H ρ (upd H a o') := .upd (List.mem_of_getElem? h1) e1 e2.mut
  refine ⟨by rw [List.length_set]; exact r.len, r.nd, fun m b d k1 k2 => ?_⟩
  by_cases hm : m = n
  · subst hm
    rw [h1] at k1
    cases k1
    have hn : m < M.length := (List.getElem?_eq_some_iff.mp h2).1
    rw [List.getElem?_set_self hn] at k2
    cases k2
    exact ⟨o', upd_same, h.ext x⟩
  · rw [List.getElem?_set_ne (Ne.symm hm)] at k2
    obtain ⟨u, z1, z2⟩ := r.cell m b d k1 k2
    have hb : b ≠ a := fun z => hm (nodup_get r.nd k1 (z ▸ h1))
    exact ⟨u, by rw [upd_ne hb]; exact z1, z2.ext x⟩
theorem RelM.new {M : Store} (r : RelM K ρ H M) {p : Addr} {c : Cell} {o : HO} (h : H p = none) (hc : RelC K ρ H c o) : RelM K (ρ ++ [p]) (upd H p o) (M ++ [c]) := by
  have x : Ext ρ H (ρ ++ [p]) (upd H p o) := .fresh1 h
  have hp : p ∉ ρ := fun hm => by
    obtain ⟨u, e, _⟩ := r.mem hm
    rw [h] at e
    cases e
  refine ⟨by simp [r.len], List.nodup_append.mpr ⟨r.nd, by simp, fun a ha b hb => ?_⟩, fun n a d k1 k2 => ?_⟩
  · have : b = p := by simpa using hb
    subst this
    exact fun z => hp (z ▸ ha)
  · by_cases hn : n < ρ.length
    · rw [List.getElem?_append_left hn] at k1
      rw [List.getElem?_append_left (by rw [← r.len]; exact hn)] at k2
      obtain ⟨u, z1, z2⟩ := r.cell n a d k1 k2
      exact ⟨u, by rw [upd_ne (ne_of_none z1 h)]; exact z1, z2.ext x⟩
    · have hn2 : n < ρ.length + 1 := by
        have := (List.getElem?_eq_some_iff.mp k1).1
        simpa using this
      have en : n = ρ.length := by omega
      subst en
      rw [List.getElem?_append_right (Nat.le_refl _)] at k1
      rw [r.len, List.getElem?_append_right (Nat.le_refl _)] at k2
      simp at k1 k2
      subst k1 k2
      exact ⟨o, upd_same, hc.ext x⟩
theorem RelM.last {M : Store} (r : RelM K ρ H M) (p : Addr) : (ρ ++ [p])[M.length]? = some p := by
  rw [← r.len]
  simp
/-! ### environments -/
abbrev PEnv := List (Option PV)
def getV : PEnv → Nat → Option PV
  | [], _ => none
  | x :: _, 0 => x
  | _ :: r, n + 1 => getV r n
def setV : PEnv → Nat → PV → PEnv
  | [], _, _ => []
  | _ :: r, 0, v => some v :: r
  | x :: r, n + 1, v => x :: setV r n v
def wipeV : PEnv → Nat → PEnv
  | [], _ => []
  | _ :: r, 0 => none :: r
  | x :: r, n + 1 => x :: wipeV r n
inductive RelE (K : Par) (ρ : List Addr) (H : Hp) : PEnv → L2.St → Prop
  | nil : RelE K ρ H [] []
  | non {e : PEnv} {v : Option V} {σ : L2.St} (t : RelE K ρ H e σ) : RelE K ρ H (Option.none :: e) (v :: σ)
  | som {e : PEnv} {x : PV} {v : V} {σ : L2.St} (h : RelP K ρ H x v) (t : RelE K ρ H e σ) : RelE K ρ H (Option.some x :: e) (Option.some v :: σ)
theorem RelE.ext (x : Ext ρ H ρ' H') {e : PEnv} {σ : L2.St} (h : RelE K ρ H e σ) : RelE K ρ' H' e σ := by
  induction h with
  | nil => exact .nil
  | non _ ih => exact .non ih
  | som h _ ih => exact .som (h.ext x) ih
theorem RelE.get {e : PEnv} {σ : L2.St} (h : RelE K ρ H e σ) : ∀ {i : Nat} {x : PV}, getV e i = some x → ∃ v, σ[i]? = some (some v) ∧ RelP K ρ H x v := by
  induction h with
  | nil => intro i x e; cases e
  | non _ ih =>
    intro i x e
    cases i with
    | zero => cases e
    | succ i => simpa using ih e
  | som h _ ih =>
    intro i x e
    cases i with
    | zero => cases e; exact ⟨_, rfl, h⟩
    | succ i => simpa using ih e
theorem RelE.set {e : PEnv} {σ : L2.St} {x : PV} {v : V} (h : RelE K ρ H e σ) (r : RelP K ρ H x v) : ∀ i : Nat, RelE K ρ H (setV e i x) (σ.set i (some v)) := by
  induction h with
  | nil => intro i; exact .nil
  | non t ih =>
    intro i
    cases i with
    | zero => exact .som r t
    | succ i => exact .non (ih i)
  | som h t ih =>
    intro i
    cases i with
    | zero => exact .som r t
    | succ i => exact .som h (ih i)
theorem RelE.wipe {e : PEnv} {σ : L2.St} (h : RelE K ρ H e σ) : ∀ i : Nat, RelE K ρ H (wipeV e i) (σ.set i none) := by
  induction h with
  | nil => intro i; exact .nil
  | non t ih =>
    intro i
    cases i with
    | zero => exact .non t
    | succ i => exact .non (ih i)
  | som h t ih =>
    intro i
    cases i with
    | zero => exact .non t
    | succ i => exact .som h (ih i)
def wipeVs (e : PEnv) : List Nat → PEnv
  | [] => e
  | i :: is => wipeV (wipeVs e is) i
theorem RelE.wipes {e : PEnv} {σ : L2.St} (h : RelE K ρ H e σ) : ∀ is : List Nat, RelE K ρ H (wipeVs e is) (L2.wipe σ is)
  | [] => h
  | i :: is => (RelE.wipes h is).wipe i
theorem RelE.length {e : PEnv} {σ : L2.St} (h : RelE K ρ H e σ) : e.length = σ.length := by
  induction h with
  | nil => rfl
  | non _ ih => simp [ih]
  | som _ _ ih => simp [ih]
end
end Q

/-! QB: the small language and what it does. -/
namespace Q
open PySem PySem.Spec PyProof.Rows L2

inductive Bop where
  | add | sub | mul | fdiv | mod | pow | shl | shr
  deriving DecidableEq
inductive Cop where
  | lt | le | gt | ge | eq | ne | isin | notin
  deriving DecidableEq
inductive BI where
  | len | int | abs | tuple | list | isi | max | min | bool
  deriving DecidableEq
inductive Mt where
  | append | pop | extend
  deriving DecidableEq
mutual
inductive QE where
  | var (i : Nat) | int (i : Int) | bl (b : Bool) | non | str (x : Str) | ty (n : String)
  | bin (o : Bop) (a b : QE)
  | neg (a : QE)
  | cmp (o : Cop) (a b : QE)
  | chain (o o' : Cop) (a b c : QE)
  | isN (a : QE) | notN (a : QE)
  | and (a b : QE) | or (a b : QE) | not (a : QE)
  | ite (c a b : QE)
  | call (f : Nat) (as : QEs)
  | callK (f : Nat) (as ks : QEs) (pm : List Nat)
  | bi (b : BI) (as : QEs)
  | tup (as : QEs) | lst (as : QEs)
  | ix (a b : QE)
  | sl (a : QE) (lo hi : QO)
  | mt (m : Mt) (a : QE) (as : QEs)
  | bits (a : QE)
  | comp (elt : QE) (t : QT) (it : QI) (c : QO) (own : List Nat)
  | gc (a : QE)
inductive QEs where
  | nil | cons (a : QE) (r : QEs)
inductive QO where
  | none | some (a : QE)
inductive QT where
  | var (i : Nat) | tup (ts : QTs) | sub (a b : QE)
inductive QTs where
  | nil | cons (t : QT) (r : QTs)
inductive QI where
  | list (a : QE) | tup (a : QE) | rng1 (a : QE) | rng2 (a b : QE) | enum (a : QE)
end
mutual
inductive QS where
  | asg (t : QT) (e : QE)
  | par (i j : Nat) (a b : QE)
  | aug (i : Nat) (o : Bop) (e : QE)
  | expr (e : QE)
  | ret (e : QE) | retN
  | ite (c : QE) (a b : QSs)
  | whl (c : QE) (b : QSs)
  | for (t : QT) (it : QI) (b : QSs)
  | brk | cont | pass
inductive QSs where
  | nil | cons (s : QS) (r : QSs)
end

/-! ### values -/
mutual
def PV.beq : PV → PV → Bool
  | .non, .non => true
  | .bl a, .bl b => a == b
  | .int a, .int b => a == b
  | .str a, .str b => a == b
  | .tup xs, .tup ys => PV.beqs xs ys
  | .ref a, .ref b => a == b
  | .fro a, .fro b => a == b
  | .ty a, .ty b => a == b
  | _, _ => false
def PV.beqs : List PV → List PV → Bool
  | [], [] => true
  | x :: xs, y :: ys => PV.beq x y && PV.beqs xs ys
  | _, _ => false
end
mutual
theorem PV.beq_refl : ∀ x : PV, PV.beq x x = true
  | .non => by rw [PV.beq]
  | .bl _ => by rw [PV.beq]; simp
  | .int _ => by rw [PV.beq]; simp
  | .str _ => by rw [PV.beq]; simp
  | .tup xs => by rw [PV.beq]; exact PV.beqs_refl xs
  | .ref _ => by rw [PV.beq]; simp
  | .fro _ => by rw [PV.beq]; simp
  | .ty _ => by rw [PV.beq]; simp
theorem PV.beqs_refl : ∀ xs : List PV, PV.beqs xs xs = true
  | [] => by rw [PV.beqs]
  | x :: xs => by rw [PV.beqs, PV.beq_refl x, PV.beqs_refl xs]; rfl
end
mutual
theorem PV.eq_of_beq : ∀ {x y : PV}, PV.beq x y = true → x = y
  | .non, y, h => by cases y <;> first | rfl | (rw [PV.beq] at h; cases h; done) | (simp [PV.beq] at h)
  | .bl _, y, h => by cases y <;> simp [PV.beq] at h <;> simp [h]
  | .int _, y, h => by cases y <;> simp [PV.beq] at h <;> simp [h]
  | .str _, y, h => by cases y <;> simp [PV.beq] at h <;> simp [h]
  | .tup xs, y, h => by
    cases y with
    | tup ys =>
      rw [PV.beq] at h
      rw [PV.eq_of_beqs h]
    | _ => simp [PV.beq] at h
  | .ref _, y, h => by cases y <;> simp [PV.beq] at h <;> simp [h]
  | .fro _, y, h => by cases y <;> simp [PV.beq] at h <;> simp [h]
  | .ty _, y, h => by cases y <;> simp [PV.beq] at h <;> simp [h]
theorem PV.eq_of_beqs : ∀ {xs ys : List PV}, PV.beqs xs ys = true → xs = ys
  | [], ys, h => by cases ys <;> simp [PV.beqs] at h <;> rfl
  | x :: xs, ys, h => by
    cases ys with
    | nil => simp [PV.beqs] at h
    | cons y ys =>
      rw [PV.beqs, Bool.and_eq_true] at h
      rw [PV.eq_of_beq h.1, PV.eq_of_beqs h.2]
end
mutual
/-- no cell from n on -/
def PV.low (n : Nat) : PV → Bool
  | .tup xs => PV.lows n xs
  | .ref k => decide (k < n)
  | _ => true
def PV.lows (n : Nat) : List PV → Bool
  | [] => true
  | x :: xs => PV.low n x && PV.lows n xs
end
def Cell.low (n : Nat) : Cell → Bool
  | .lst xs => PV.lows n xs
  | .dK kvs => kvs.all fun p => p.2.low n
  | .dT kvs => kvs.all fun p => p.2.low n
def kvBeq {κ : Type} [DecidableEq κ] : List (κ × PV) → List (κ × PV) → Bool
  | [], [] => true
  | p :: r, q :: t => decide (p.1 = q.1) && (p.2.beq q.2 && kvBeq r t)
  | _, _ => false
def Cell.beq : Cell → Cell → Bool
  | .lst xs, .lst ys => PV.beqs xs ys
  | .dK a, .dK b => kvBeq a b
  | .dT a, .dT b => kvBeq a b
  | _, _ => false
theorem kvBeq_refl {κ : Type} [DecidableEq κ] : ∀ l : List (κ × PV), kvBeq l l = true
  | [] => rfl
  | p :: r => by simp [kvBeq, PV.beq_refl, kvBeq_refl r]
theorem kvBeq_eq {κ : Type} [DecidableEq κ] : ∀ {l r : List (κ × PV)}, kvBeq l r = true → l = r
  | [], [], _ => rfl
  | [], _ :: _, h => by simp [kvBeq] at h
  | _ :: _, [], h => by simp [kvBeq] at h
  | (a, x) :: l, (b, y) :: r, h => by
    simp [kvBeq] at h
    rw [h.1, PV.eq_of_beq h.2.1, kvBeq_eq h.2.2]
theorem Cell.beq_refl (c : Cell) : c.beq c = true := by
  cases c with
  | lst xs => exact PV.beqs_refl xs
  | dK l => exact kvBeq_refl l
  | dT l => exact kvBeq_refl l
theorem Cell.eq_of_beq {c d : Cell} (h : c.beq d = true) : c = d := by
  cases c <;> cases d <;> simp [Cell.beq] at h
  · rw [PV.eq_of_beqs h]
  · rw [kvBeq_eq h]
  · rw [kvBeq_eq h]
/-- cells beyond those that stood ahead may go -/
def gcOk (n : Nat) : Store → Store → Bool
  | [], [] => true
  | c :: cs, d :: ds => (Cell.beq c d || d.low n) && gcOk n cs ds
  | _, _ => false
def gcR (M : Store) (pv : PV) (M' : Store) : Res PV :=
  if M'.length ≤ M.length then .ok pv M'
  else if pv.low M.length && gcOk M.length M (M'.take M.length) then .ok pv (M'.take M.length) else .ok pv M'

def PV.isNon : PV → Bool
  | .non => true
  | _ => false
def truV : PV → Store → Option Bool
  | .non, _ => some false
  | .bl b, _ => some b
  | .int i, _ => some (i != 0)
  | .str x, _ => if x.length ≤ sizeLine then some (x.length != 0) else none
  | .tup xs, _ => some (!xs.isEmpty)
  | .ref n, M => match M[n]? with
    | some (.lst xs) => some (!xs.isEmpty)
    | some (.dK kvs) => some (!kvs.isEmpty)
    | _ => none
  | .fro ns, _ => some (!ns.isEmpty)
  | .ty _, _ => none
def truR (v : PV) (M : Store) : Res Bool := match truV v M with
  | some b => .ok b M
  | none => .bad
instance (i j : Int) : Decidable (CMulW i j) := inferInstanceAs (Decidable (_ < _))

def lists2 (M : Store) (a b : Nat) : Option (List PV × List PV) := match M[a]?, M[b]? with
  | some (.lst xs), some (.lst ys) => some (xs, ys)
  | _, _ => none
def addV : PV → PV → Store → Res PV
  | .int i, .int j, M => .ok (.int (i + j)) M
  | .str x, .str y, M => if x.length + y.length ≤ sizeLine then .ok (.str (x ++ y)) M else .bad
  | .tup xs, .tup ys, M => if xs.length + ys.length ≤ sizeLine then .ok (.tup (xs ++ ys)) M else .bad
  | .ref a, .ref b, M => match lists2 M a b with
    | some (xs, ys) => if xs.length + ys.length ≤ sizeLine then .ok (.ref M.length) (M ++ [.lst (xs ++ ys)]) else .bad
    | none => .bad
  | _, _, _ => .bad
def subV : PV → PV → Store → Res PV
  | .int i, .int j, M => .ok (.int (i - j)) M
  | _, _, _ => .bad
def mulV : PV → PV → Store → Res PV
  | .int i, .int j, M => if CMulW i j then .ok (.int (i * j)) M else .bad
  | .ref a, .int k, M => match M[a]? with
    | some (.lst xs) => if -(2 ^ 63) ≤ k ∧ k < 2 ^ 63 ∧ xs.length * k.toNat ≤ sizeLine then .ok (.ref M.length) (M ++ [.lst (List.replicate k.toNat xs).flatten]) else .bad
    | _ => .bad
  | _, _, _ => .bad
def fdivV : PV → PV → Store → Res PV
  | .int i, .int j, M => if 0 < j ∧ Builtin.divisionGoesByPylong i j = false then .ok (.int (i / j)) M else .bad
  | _, _, _ => .bad
def modV : PV → PV → Store → Res PV
  | .int i, .int j, M => if 0 < j then .ok (.int (i % j)) M else .bad
  | _, _, _ => .bad
def powV : PV → PV → Store → Res PV
  | .int i, .int j, M => if 0 ≤ j ∧ j ≤ 1000000 ∧ i.natAbs < 2 ^ 64 then .ok (.int (i ^ j.toNat)) M else .bad
  | _, _, _ => .bad
def shlV : PV → PV → Store → Res PV
  | .int i, .int j, M => if 0 ≤ j ∧ (Builtin.Int.intBits i : Int) + j ≤ 2 ^ 27 then .ok (.int (i * 2 ^ j.toNat)) M else .bad
  | _, _, _ => .bad
def shrV : PV → PV → Store → Res PV
  | .int i, .int j, M => if 0 ≤ j then .ok (.int (i / 2 ^ j.toNat)) M else .bad
  | _, _, _ => .bad
def binV : Bop → PV → PV → Store → Res PV
  | .add => addV | .sub => subV | .mul => mulV | .fdiv => fdivV | .mod => modV | .pow => powV | .shl => shlV | .shr => shrV

/-! ### == -/
mutual
def toD : PV → Option PyData
  | .non => some .none
  | .bl b => some (.bool b)
  | .int i => some (.int i)
  | .str x => some (.str x)
  | .tup xs => (toDs xs).map .tuple
  | _ => none
def toDs : List PV → Option (List PyData)
  | [] => some []
  | x :: xs => match toD x, toDs xs with
    | some d, some ds => some (d :: ds)
    | _, _ => none
end
def toDM (M : Store) : PV → Option PyData
  | .ref n => match M[n]? with
    | some (.lst xs) => (toDs xs).map .list
    | _ => none
  | x => toD x
def eqV (M : Store) (x y : PV) : Option Bool := match x, y with
  | .int i, .int j => some (decide (i = j))
  | .str i, .str j => some (decide (i = j))
  | .bl i, .bl j => some (decide (i = j))
  | x, y => match toDM M x, toDM M y with
    | some d, some e => if SeqAt.shaped d && SeqAt.shaped e then some (PyData.eqv d e) else none
    | _, _ => none
def flatP : PV → Bool
  | .non | .bl _ | .int _ | .str _ => true
  | _ => false
def eqF : PV → PV → Bool
  | .non, .non => true
  | .bl a, .bl b => a == b
  | .bl a, .int b => (if a then 1 else 0) == b
  | .int a, .bl b => a == (if b then 1 else 0)
  | .int a, .int b => a == b
  | .str a, .str b => a == b
  | _, _ => false
def inL (x : PV) (xs : List PV) : Option Bool := if flatP x && xs.all flatP then some (xs.any fun y => eqF y x) else none
def keyP : PV → Option Key
  | .int i => some (.inl i)
  | .str x => some (.inr x)
  | _ => none
def hasK {κ : Type} [DecidableEq κ] (kvs : List (κ × PV)) (k : κ) : Bool := kvs.any fun p => decide (p.1 = k)
def getK {κ : Type} [DecidableEq κ] (kvs : List (κ × PV)) (k : κ) : Option PV := (kvs.find? fun p => decide (p.1 = k)).map (·.2)
def inV (M : Store) (x y : PV) : Option Bool := match y with
  | .tup ys => inL x ys
  | .ref n => match M[n]? with
    | some (.lst ys) => inL x ys
    | some (.dK kvs) => (keyP x).map fun k => (getK kvs k).isSome
    | _ => none
  | _ => none
def ltV (x y : PV) : Option Bool := match x, y with
  | .int i, .int j => some (decide (i < j))
  | .str x, .str y => some (decide (x.cps.toList < y.cps.toList))
  | _, _ => none
def leV (x y : PV) : Option Bool := match x, y with
  | .int i, .int j => some (decide (i ≤ j))
  | _, _ => none
def cmpB (M : Store) : Cop → PV → PV → Option Bool
  | .lt, x, y => ltV x y
  | .le, x, y => leV x y
  | .gt, x, y => ltV y x
  | .ge, x, y => leV y x
  | .eq, x, y => eqV M x y
  | .ne, x, y => (eqV M x y).map fun b => !b
  | .isin, x, y => inV M x y
  | .notin, x, y => (inV M x y).map fun b => !b
def cmpV (o : Cop) (x y : PV) (M : Store) : Res PV := match cmpB M o x y with
  | some b => .ok (.bl b) M
  | none => .bad

/-! ### built-ins -/
def tyName : PV → Store → Option String
  | .non, _ => some "NoneType"
  | .bl _, _ => some "bool"
  | .int _, _ => some "int"
  | .str _, _ => some "str"
  | .tup _, _ => some "tuple"
  | .ref n, M => match M[n]? with
    | some (.lst _) => some "list"
    | some (.dK _) => some "dict"
    | some (.dT _) => some "dict"
    | none => none
  | .fro _, _ => some "list"
  | .ty _, _ => none
def isiB (t n : String) : Bool := t == n || (t == "bool" && n == "int")
def isiOk (n : String) : Bool := n == "int" || n == "bool" || n == "str" || n == "tuple" || n == "list" || n == "dict"
def seqP : PV → Store → Option (List PV)
  | .tup xs, _ => some xs
  | .ref n, M => match M[n]? with
    | some (.lst xs) => some xs
    | _ => none
  | .fro ns, _ => some (ns.map .int)
  | _, _ => none
def lenP : PV → Store → Option Nat
  | .str x, _ => if x.length ≤ sizeLine then some x.length else none
  | .ref n, M => match M[n]? with
    | some (.lst xs) => some xs.length
    | some (.dK kvs) => some kvs.length
    | _ => none
  | x, M => (seqP x M).map List.length
def okO (o : Option PV) (M : Store) : Res PV := match o with
  | some v => .ok v M
  | none => .bad
def biV : BI → List PV → Store → Res PV
  | .len, [x], M => okO ((lenP x M).map fun (n : Nat) => PV.int (n : Int)) M
  | .int, [.int i], M => .ok (.int i) M
  | .int, [.bl b], M => .ok (.int (if b then 1 else 0)) M
  | .bool, [.int i], M => .ok (.bl (i != 0)) M
  | .bool, [.bl b], M => .ok (.bl b) M
  | .abs, [.int i], M => .ok (.int (if i < 0 then -i else i)) M
  | .max, [.int i, .int j], M => .ok (.int (if j > i then j else i)) M
  | .min, [.int i, .int j], M => .ok (.int (if j < i then j else i)) M
  | .tuple, [x], M => okO ((seqP x M).map .tup) M
  | .list, [x], M => match seqP x M with
    | some xs => .ok (.ref M.length) (M ++ [.lst xs])
    | none => .bad
  | .isi, [x, .ty n], M => match tyName x M with
    | some t => if isiOk n then .ok (.bl (isiB t n)) M else .bad
    | none => .bad
  | _, _, _ => .bad
def ixV (x i : PV) (M : Store) : Res PV := match i with
  | .int k => match x with
    | .str z => if z.length ≤ sizeLine then (match atI z.cps.toList k with
      | some c => .ok (.str ⟨#[c]⟩) M
      | none => .bad) else .bad
    | .ref n => match M[n]? with
      | some (.lst xs) => okO (atI xs k) M
      | some (.dK kvs) => okO (getK kvs (.inl k)) M
      | _ => .bad
    | x => match seqP x M with
      | some xs => okO (atI xs k) M
      | none => .bad
  | .str k => match x with
    | .ref n => match M[n]? with
      | some (.dK kvs) => okO (getK kvs (.inr k)) M
      | _ => .bad
    | _ => .bad
  | _ => .bad
def cutL {α : Type} (xs : List α) (lo hi : Option Int) : List α := (xs.drop (HT.sIx xs.length 0 lo)).take (HT.sIx xs.length xs.length hi - HT.sIx xs.length 0 lo)
def slV (x : PV) (lo hi : Option Int) (M : Store) : Res PV := match x with
  | .tup xs => .ok (.tup (cutL xs lo hi)) M
  | x => match seqP x M with
    | some xs => .ok (.ref M.length) (M ++ [.lst (cutL xs lo hi)])
    | none => .bad
def isLst (M : Store) : PV → Bool
  | .ref n => match M[n]? with
    | some (.lst _) => true
    | _ => false
  | _ => false
def mtV : Mt → PV → List PV → Store → Res PV
  | .append, .ref n, [y], M => match M[n]? with
    | some (.lst xs) => if xs.length < sizeLine then .ok .non (M.set n (.lst (xs ++ [y]))) else .bad
    | _ => .bad
  | .pop, .ref n, [], M => match M[n]? with
    | some (.lst xs) => match xs[xs.length - 1]? with
      | some y => .ok y (M.set n (.lst xs.dropLast))
      | none => .bad
    | _ => .bad
  | .extend, .ref n, [.ref b], M => match lists2 M n b with
    | some (xs, ys) => if xs.length + ys.length ≤ sizeLine then .ok .non (M.set n (.lst (xs ++ ys))) else .bad
    | none => .bad
  | _, _, _, _ => .bad

/-! ### what is walked: the items, and the list that must stay -/
structure Src where
  items : List PV
  cell : Option (Nat × List PV)
def Src.still (s : Src) (M : Store) : Bool := match s.cell with
  | none => true
  | some (n, xs) => match M[n]? with
    | some c => Cell.beq c (.lst xs)
    | none => false
def listSrc (x : PV) (M : Store) : Res Src := match x with
  | .ref n => match M[n]? with
    | some (.lst xs) => .ok ⟨xs, some (n, xs)⟩ M
    | _ => .bad
  | .fro ns => .ok ⟨ns.map .int, none⟩ M
  | _ => .bad
def tupSrc (x : PV) (M : Store) : Res Src := match x with
  | .tup xs => .ok ⟨xs, none⟩ M
  | _ => .bad
def rngItems (lo : Int) (n : Nat) : List PV := (List.range n).map fun (k : Nat) => .int (lo + k)
def rngSrc (x y : PV) (M : Store) : Res Src := match x, y with
  | .int i, .int j => if -(2 ^ 62) ≤ i ∧ i < 2 ^ 62 ∧ -(2 ^ 62) ≤ j ∧ j < 2 ^ 62 then .ok ⟨rngItems i (j - i).toNat, none⟩ M else .bad
  | _, _ => .bad
def enumFrom (k : Nat) : List PV → List PV
  | [] => []
  | x :: xs => .tup [.int k, x] :: enumFrom (k + 1) xs
def enumSrc (x : PV) (M : Store) : Res Src := (listSrc x M).bind fun s M => .ok ⟨enumFrom 0 s.items, s.cell⟩ M

/-- a state behind a statement -/
inductive RS where
  | nx (e : PEnv) (M : Store) | rt (v : PV) (M : Store) | bk (e : PEnv) (M : Store) | ct (e : PEnv) (M : Store) | exc (x : Ex) (e : PEnv) (M : Store) | bad
def RS.seq : RS → (PEnv → Store → RS) → RS
  | .nx e M, f => f e M
  | .rt v M, _ => .rt v M
  | .bk e M, _ => .bk e M
  | .ct e M, _ => .ct e M
  | .exc x e M, _ => .exc x e M
  | .bad, _ => .bad
@[simp] theorem RS.seq_nx (e : PEnv) (M : Store) (f : PEnv → Store → RS) : (RS.nx e M).seq f = f e M := rfl
@[simp] theorem RS.seq_rt (v : PV) (M : Store) (f : PEnv → Store → RS) : (RS.rt v M).seq f = .rt v M := rfl
@[simp] theorem RS.seq_bk (e : PEnv) (M : Store) (f : PEnv → Store → RS) : (RS.bk e M).seq f = .bk e M := rfl
@[simp] theorem RS.seq_ct (e : PEnv) (M : Store) (f : PEnv → Store → RS) : (RS.ct e M).seq f = .ct e M := rfl
@[simp] theorem RS.seq_exc (x : Ex) (e : PEnv) (M : Store) (f : PEnv → Store → RS) : (RS.exc x e M).seq f = .exc x e M := rfl
@[simp] theorem RS.seq_bad (f : PEnv → Store → RS) : RS.bad.seq f = .bad := rfl
/-- an expression within a statement -/
def Res.to {α : Type} (r : Res α) (e : PEnv) (f : α → Store → RS) : RS := match r with
  | .ok a M => f a M
  | .exc x M => .exc x e M
  | .bad => .bad
@[simp] theorem Res.to_ok {α : Type} (a : α) (M : Store) (e : PEnv) (f : α → Store → RS) : (Res.ok a M).to e f = f a M := rfl
@[simp] theorem Res.to_exc {α : Type} (x : Ex) (M : Store) (e : PEnv) (f : α → Store → RS) : (Res.exc x M : Res α).to e f = .exc x e M := rfl
@[simp] theorem Res.to_bad {α : Type} (e : PEnv) (f : α → Store → RS) : (Res.bad : Res α).to e f = .bad := rfl

def putP {κ : Type} [DecidableEq κ] (kvs : List (κ × PV)) (k : κ) (v : PV) : List (κ × PV) :=
  if (kvs.any fun kv => decide (kv.1 = k)) = true then kvs.map (fun kv => if kv.1 = k then (kv.1, v) else kv) else kvs ++ [(k, v)]
/-- o[i] = v -/
def setI (o i v : PV) (M : Store) : Res PV := match o with
  | .ref n => match M[n]? with
    | some (.lst xs) => match i with
      | .int k => match ixN xs.length k with
        | some j => .ok .non (M.set n (.lst (xs.set j v)))
        | none => .bad
      | _ => .bad
    | some (.dK kvs) => match keyP i with
      | some k => if kvs.length < sizeLine then .ok .non (M.set n (.dK (putP kvs k v))) else .bad
      | none => .bad
    | _ => .bad
  | _ => .bad
def augV : Bop → PV → PV → Store → Res PV
  | .add, .int i, .int j, M => .ok (.int (i + j)) M
  | .add, .str x, .str y, M => if x.length + y.length ≤ sizeLine then .ok (.str (x ++ y)) M else .bad
  | .sub, .int i, .int j, M => .ok (.int (i - j)) M
  | .mul, .int i, .int j, M => if CMulW i j then .ok (.int (i * j)) M else .bad
  | .fdiv, .int i, .int j, M => if 0 < j ∧ Builtin.divisionGoesByPylong i j = false then .ok (.int (i / j)) M else .bad
  | .mod, .int i, .int j, M => if 0 < j then .ok (.int (i % j)) M else .bad
  | _, _, _, _ => .bad
/-- the items one by one: kept where the test holds -/
def compL (still : Store → Bool) (tgt : PV → Store → Res PEnv) (test : PEnv → Store → Res Bool) (elt : PEnv → Store → Res PV) : List PV → List PV → Store → Res (List PV)
  | [], acc, M => if still M then .ok acc M else .bad
  | x :: xs, acc, M => if still M then (tgt x M).noexc.bind fun e M => (test e M).noexc.bind fun b M => if b then (elt e M).noexc.bind fun y M => if acc.length < sizeLine then compL still tgt test elt xs (acc ++ [y]) M else .bad
    else compL still tgt test elt xs acc M else .bad
/-- a target of names alone -/
def setItems : PEnv → List Nat → List PV → Option PEnv
  | e, [], [] => some e
  | e, i :: is, v :: vs => setItems (setV e i v) is vs
  | _, _, _ => none
def permL {α : Type} (xs : List α) : List Nat → Option (List α)
  | [] => some []
  | i :: is => match xs[i]?, permL xs is with
    | some x, some r => some (x :: r)
    | _, _ => none

variable (cl : Nat → List PV → Store → Res PV)
mutual
def evE : QE → PEnv → Store → Res PV
  | .var i, e, M => match getV e i with
    | some v => .ok v M
    | none => .bad
  | .int i, _, M => .ok (.int i) M
  | .bl b, _, M => .ok (.bl b) M
  | .non, _, M => .ok .non M
  | .str x, _, M => .ok (.str x) M
  | .ty n, _, M => .ok (.ty n) M
  | .bin o a b, e, M => (evE a e M).bind fun x M => (evE b e M).bind fun y M => binV o x y M
  | .neg a, e, M => (evE a e M).bind fun x M => match x with
    | .int i => .ok (.int (-i)) M
    | _ => .bad
  | .cmp o a b, e, M => (evE a e M).bind fun x M => (evE b e M).bind fun y M => cmpV o x y M
  | .chain o o' a b c, e, M => (evE a e M).bind fun x M => (evE b e M).bind fun y M => (cmpV o x y M).bind fun t M => match t with
    | .bl true => (evE c e M).bind fun z M => cmpV o' y z M
    | .bl false => .ok (.bl false) M
    | _ => .bad
  | .isN a, e, M => (evE a e M).bind fun x M => .ok (.bl x.isNon) M
  | .notN a, e, M => (evE a e M).bind fun x M => .ok (.bl (!x.isNon)) M
  | .and a b, e, M => (evE a e M).bind fun x M => (truR x M).bind fun c M => match c with
    | true => evE b e M
    | false => .ok x M
  | .or a b, e, M => (evE a e M).bind fun x M => (truR x M).bind fun c M => match c with
    | true => .ok x M
    | false => evE b e M
  | .not a, e, M => (evE a e M).bind fun x M => (truR x M).bind fun c M => .ok (.bl (!c)) M
  | .ite c a b, e, M => (evE c e M).bind fun x M => (truR x M).bind fun t M => match t with
    | true => evE a e M
    | false => evE b e M
  | .call f as, e, M => (evEs as e M).bind fun xs M => cl f xs M
  | .callK f as ks pm, e, M => (evEs as e M).bind fun xs M => (evEs ks e M).bind fun ys M => match permL (xs ++ ys) pm with
    | some zs => cl f zs M
    | none => .bad
  | .bi b as, e, M => (evEs as e M).bind fun xs M => biV b xs M
  | .tup as, e, M => (evEs as e M).bind fun xs M => if xs.length ≤ sizeLine then .ok (.tup xs) M else .bad
  | .lst as, e, M => (evEs as e M).bind fun xs M => if xs.length ≤ sizeLine then .ok (.ref M.length) (M ++ [.lst xs]) else .bad
  | .ix a b, e, M => (evE a e M).bind fun x M => (evE b e M).bind fun y M => ixV x y M
  | .sl a lo hi, e, M => (evE a e M).bind fun x M => (evO lo e M).bind fun l M => (evO hi e M).bind fun h M => slV x l h M
  | .mt m a as, e, M => (evE a e M).bind fun x M => if isLst M x then (evEs as e M).bind fun xs M => mtV m x xs M else .bad
  | .bits a, e, M => (evE a e M).bind fun x M => match x with
    | .int i => .ok (.int (Builtin.Int.intBits i : Nat)) M
    | _ => .bad
  | .comp elt t it c own, e, M => (evI it e M).bind fun src M =>
      (compL src.still (fun x M => evT t x (wipeVs e own) M) (fun e' M => evC c e' M) (fun e' M => evE elt e' M) src.items [] M).bind fun ys M => .ok (.ref M.length) (M ++ [.lst ys])
  | .gc a, e, M => (evE a e M).bind fun x M' => gcR M x M'
def evEs : QEs → PEnv → Store → Res (List PV)
  | .nil, _, M => .ok [] M
  | .cons a r, e, M => (evE a e M).bind fun x M => (evEs r e M).bind fun xs M => .ok (x :: xs) M
/-- a part of a slice -/
def evO : QO → PEnv → Store → Res (Option Int)
  | .none, _, M => .ok none M
  | .some a, e, M => (evE a e M).bind fun x M => match x with
    | .int i => .ok (some i) M
    | _ => .bad
/-- a comprehension's test -/
def evC : QO → PEnv → Store → Res Bool
  | .none, _, M => .ok true M
  | .some a, e, M => (evE a e M).bind fun x M => truR x M
/-- a target -/
def evT : QT → PV → PEnv → Store → Res PEnv
  | .var i, v, e, M => .ok (setV e i v) M
  | .tup ts, v, e, M => match v with
    | .tup xs => evTs ts xs e M
    | .ref n => match M[n]? with
      | some (.lst xs) => evTs ts xs e M
      | _ => .bad
    | _ => .bad
  | .sub a b, v, e, M => (evE a e M).bind fun o M => (evE b e M).bind fun i M => (setI o i v M).bind fun _ M => .ok e M
def evTs : QTs → List PV → PEnv → Store → Res PEnv
  | .nil, [], e, M => .ok e M
  | .cons t r, v :: vs, e, M => (evT t v e M).noexc.bind fun e M => (evTs r vs e M).noexc
  | _, _, _, _ => .bad
def evI : QI → PEnv → Store → Res Src
  | .list a, e, M => (evE a e M).bind fun x M => listSrc x M
  | .tup a, e, M => (evE a e M).bind fun x M => tupSrc x M
  | .rng1 a, e, M => (evE a e M).bind fun x M => rngSrc (.int 0) x M
  | .rng2 a b, e, M => (evE a e M).bind fun x M => (evE b e M).bind fun y M => rngSrc x y M
  | .enum a, e, M => (evE a e M).bind fun x M => enumSrc x M
end
/-- while -/
def whileL (c : PEnv → Store → Res PV) (b : PEnv → Store → RS) : Nat → PEnv → Store → RS
  | 0, _, _ => .bad
  | n + 1, e, M => (c e M).to e fun x M => (truR x M).to e fun t M => match t with
    | false => .nx e M
    | true => match b e M with
      | .nx e M => whileL c b n e M
      | .ct e M => whileL c b n e M
      | .bk e M => .nx e M
      | r => r
/-- for -/
def forL (still : Store → Bool) (tgt : PV → PEnv → Store → Res PEnv) (b : PEnv → Store → RS) : List PV → PEnv → Store → RS
  | [], e, M => if still M then .nx e M else .bad
  | x :: xs, e, M => if still M then (tgt x e M).to e fun e M => match b e M with
      | .nx e M => forL still tgt b xs e M
      | .ct e M => forL still tgt b xs e M
      | .bk e M => .nx e M
      | r => r
    else .bad
/-- the turns of a while: more than anyone needs -/
@[irreducible] def bigW : Nat := 2 ^ 2000000
mutual
def exS : QS → PEnv → Store → RS
  | .asg t a, e, M => (evE cl a e M).to e fun x M => (evT cl t x e M).to e fun e M => .nx e M
  | .par i j a b, e, M => (evE cl a e M).to e fun x M => (evE cl b e M).to e fun y M => .nx (setV (setV e i x) j y) M
  | .aug i o a, e, M => match getV e i with
    | some x => (evE cl a e M).to e fun y M => (augV o x y M).to e fun z M => .nx (setV e i z) M
    | none => .bad
  | .expr a, e, M => (evE cl a e M).to e fun _ M => .nx e M
  | .ret a, e, M => (evE cl a e M).to e fun x M => .rt x M
  | .retN, _, M => .rt .non M
  | .ite c a b, e, M => (evE cl c e M).to e fun x M => (truR x M).to e fun t M => match t with
    | true => exSs a e M
    | false => exSs b e M
  | .whl c b, e, M => whileL (fun e M => evE cl c e M) (fun e M => exSs b e M) bigW e M
  | .for t it b, e, M => (evI cl it e M).to e fun src M => forL src.still (fun x e M => evT cl t x e M) (fun e M => exSs b e M) src.items e M
  | .brk, e, M => .bk e M
  | .cont, e, M => .ct e M
  | .pass, e, M => .nx e M
def exSs : QSs → PEnv → Store → RS
  | .nil, e, M => .nx e M
  | .cons s r, e, M => (exS s e M).seq fun e M => exSs r e M
end
/-- a def: its slots, its body -/
structure QF where
  slots : Nat
  pars : Nat
  body : QSs
def startV (n : Nat) (xs : List PV) : PEnv := xs.map some ++ List.replicate (n - xs.length) none
def exF (f : QF) (xs : List PV) (M : Store) : Res PV := if xs.length = f.pars then (match exSs cl f.body (startV f.slots xs) M with
    | .rt v M' => gcR M v M'
    | .nx _ M' => gcR M .non M'
    | .exc x _ M' => .exc x M'
    | _ => .bad) else .bad
/-- the defs of a program, called to a depth -/
def den (T : Nat → Option QF) : Nat → Nat → List PV → Store → Res PV
  | 0, _, _, _ => .bad
  | n + 1, f, xs, M => match T f with
    | some q => exF (den T n) q xs M
    | none => .bad
end Q

/-! QC: what the operations do is what the model does. -/
namespace Q
open PySem PySem.Spec PyProof.Rows L2

/-! ### posts -/
def Post {α β : Type} (K : Par) (R : List Addr → Hp → α → β → Prop) (WE : Ex → List Addr → Hp → Prop) (Q : β → Hp → Prop) (ρ : List Addr) (H : Hp) : Res α → Prop
  | .ok a M' => ∀ b ρ' H', RelM K ρ' H' M' → R ρ' H' a b → Ext ρ H ρ' H' → Q b H'
  | .exc x M' => ∀ ρ' H', RelM K ρ' H' M' → Ext ρ H ρ' H' → WE x ρ' H'
  | .bad => False
section
variable {α β γ δ : Type} {K : Par} {ρ ρ' ρ1 : List Addr} {H H' H1 : Hp} {WE : Ex → List Addr → Hp → Prop}
theorem Post.shift {R : List Addr → Hp → α → β → Prop} {Q : β → Hp → Prop} {r : Res α} (x : Ext ρ H ρ1 H1) (h : Post K R WE Q ρ H r) : Post K R WE Q ρ1 H1 r := by
  cases r with
  | ok a M => exact fun b ρ' H' m r y => h b ρ' H' m r (x.trans y)
  | exc e M => exact fun ρ' H' m y => h ρ' H' m (x.trans y)
  | bad => exact h
theorem Post.bind {R : List Addr → Hp → α → β → Prop} {R2 : List Addr → Hp → γ → δ → Prop} {Q : β → Hp → Prop} {Q2 : δ → Hp → Prop} {r : Res α} {f : α → Store → Res γ} (h : Post K R2 WE Q2 ρ H (r.bind f))
    (k : ∀ a M1 b ρ1 H1, RelM K ρ1 H1 M1 → R ρ1 H1 a b → Ext ρ H ρ1 H1 → Post K R2 WE Q2 ρ1 H1 (f a M1) → Q b H1) : Post K R WE Q ρ H r := by
  cases r with
  | ok a M => exact fun b ρ' H' m r y => k a M b ρ' H' m r y (Post.shift y h)
  | exc e M => exact h
  | bad => exact h
theorem Post.mono {R : List Addr → Hp → α → β → Prop} {Q Q' : β → Hp → Prop} {r : Res α} (h : Post K R WE Q ρ H r) (k : ∀ b H, Q b H → Q' b H) : Post K R WE Q' ρ H r := by
  cases r with
  | ok a M => exact fun b ρ' H' m r y => k _ _ (h b ρ' H' m r y)
  | exc e M => exact h
  | bad => exact h
end
abbrev RP (K : Par) : List Addr → Hp → PV → V → Prop := RelP K
abbrev RPs (K : Par) : List Addr → Hp → List PV → List V → Prop := RelPs K
abbrev REq {α : Type} : List Addr → Hp → α → α → Prop := fun _ _ a b => a = b

/-! ### by values -/
/-- a result of an operation on values -/
def rG (K : Par) (g : PV → PV → Store → Res PV) : R2 := fun v w H Q => ∃ ρ M x y WE, RelP K ρ H x v ∧ RelP K ρ H y w ∧ RelM K ρ H M ∧ Post K (RP K) WE Q ρ H (g x y M)
def OpOk (X : Cx) (K : Par) (f : Value → Value → Sem Value) (g : PV → PV → Store → Res PV) : Prop := OpR X f (rG K g)
section
variable {X : Cx} {K : Par} {ρ : List Addr} {H : Hp} {M : Store} {WE : Ex → List Addr → Hp → Prop} {Q : VK}
theorem put_ok {pv : PV} {v : V} (m : RelM K ρ H M) (r : RelP K ρ H pv v) (h : Post K (RP K) WE Q ρ H (.ok pv M)) : Q v H := h v ρ H m r .refl
theorem put_int {i : Int} (m : RelM K ρ H M) (h : Post K (RP K) WE Q ρ H (.ok (.int i) M)) : Q (.int i) H := put_ok m (relP_int.mpr rfl) h
theorem put_bl {i : Bool} (m : RelM K ρ H M) (h : Post K (RP K) WE Q ρ H (.ok (.bl i) M)) : Q (.bl i) H := put_ok m (relP_bl.mpr rfl) h
theorem put_str {i : Str} (m : RelM K ρ H M) (h : Post K (RP K) WE Q ρ H (.ok (.str i) M)) : Q (.str i) H := put_ok m (relP_str.mpr rfl) h
theorem put_non (m : RelM K ρ H M) (h : Post K (RP K) WE Q ρ H (.ok .non M)) : Q .non H := put_ok m (relP_non.mpr rfl) h
/-- a new tuple -/
theorem put_tup {xs : List PV} {vs : List V} {p : Addr} (m : RelM K ρ H M) (r : RelPs K ρ H xs vs) (hp : H p = none) (h : Post K (RP K) WE Q ρ H (.ok (.tup xs) M)) : Q (.ref p) (upd H p (.tup vs)) :=
  h (.ref p) ρ _ (m.grow hp) (relP_tup.mpr ⟨p, vs, rfl, .inl upd_same, r.ext (.fresh0 hp)⟩) (.fresh0 hp)
/-- a new list -/
theorem put_lst {xs : List PV} {vs : List V} {p : Addr} (m : RelM K ρ H M) (r : RelPs K ρ H xs vs) (hp : H p = none) (h : Post K (RP K) WE Q ρ H (.ok (.ref M.length) (M ++ [.lst xs]))) : Q (.ref p) (upd H p (.lst vs)) :=
  h (.ref p) (ρ ++ [p]) _ (m.new (c := .lst xs) hp ⟨vs, rfl, r⟩) (relP_ref.mpr ⟨p, rfl, m.last p⟩) (.fresh1 hp)
/-- a list's cell -/
theorem cell_lst {n : Nat} {a : Addr} {xs : List PV} (m : RelM K ρ H M) (hn : ρ[n]? = some a) (h : M[n]? = some (.lst xs)) : ∃ vs, H a = some (.lst vs) ∧ RelPs K ρ H xs vs := by
  obtain ⟨o, e, vs, rfl, r⟩ := m.cell n a _ hn h
  exact ⟨vs, e, r⟩
theorem cell_dK {n : Nat} {a : Addr} {kvs : List (Key × PV)} (m : RelM K ρ H M) (hn : ρ[n]? = some a) (h : M[n]? = some (.dK kvs)) : ∃ vs, H a = some (.dK vs) ∧ RelKV K ρ H kvs vs := by
  obtain ⟨o, e, vs, rfl, r⟩ := m.cell n a _ hn h
  exact ⟨vs, e, r⟩
/-- a cell is changed -/
theorem put_set {n : Nat} {a : Addr} {c c' : Cell} {o' : HO} {pv : PV} {v : V} (m : RelM K ρ H M) (hn : ρ[n]? = some a) (h1 : M[n]? = some c) (hc : RelC K ρ H c' o') (r : RelP K ρ H pv v)
    (h : Post K (RP K) WE Q ρ H (.ok pv (M.set n c'))) : Q v (upd H a o') := by
  obtain ⟨o, e, rc⟩ := m.cell n a c hn h1
  have x : Ext ρ H ρ (upd H a o') := .upd (List.mem_of_getElem? hn) e rc.mut
  exact h v ρ _ (m.set hn h1 hc) (r.ext x) x
theorem lists2_some {a b : Nat} {xs ys : List PV} (h : lists2 M a b = some (xs, ys)) : M[a]? = some (.lst xs) ∧ M[b]? = some (.lst ys) := by
  unfold lists2 at h
  split at h
  · rename_i e1 e2
    cases h
    exact ⟨e1, e2⟩
  · cases h
theorem op_fdivG : OpR X (binaryOp .FloorDiv) (rI (fun i j => 0 < j ∧ Builtin.divisionGoesByPylong i j = false) fun i j => .int (i / j)) := opI fun i j _ _ _ _ _ hc q => by
  have h1 : (0 : Int) < j := hc.1
  exact floordiv_int (by omega) (by rw [Int.fdiv_eq_ediv_of_nonneg i (by omega)]; exact q) (.inl hc.2)
theorem iop_fdivG : OpR X (inplaceOp .FloorDiv) (rI (fun i j => 0 < j ∧ Builtin.divisionGoesByPylong i j = false) fun i j => .int (i / j)) := opI fun i j _ _ _ _ _ hc q => by
  have h1 : (0 : Int) < j := hc.1
  exact ifloordiv_int (by omega) (by rw [Int.fdiv_eq_ediv_of_nonneg i (by omega)]; exact q) (.inl hc.2)
theorem iop_mulW : OpR X (inplaceOp .Mult) (rI CMulW fun i j => .int (i * j)) := opI fun _ _ _ _ _ _ _ hc q => imul_int q hc.ok
theorem ok_add (hK : X.K = K.F) : OpOk X K (binaryOp .Add) addV := by
  intro pins s σ H v w u1 u2 Q I ru rw ⟨ρ, M, x, y, WE, rx, ry, m, h⟩
  unfold addV at h
  split at h
  · rw [relP_int] at rx ry
    subst rx ry
    exact op_add pins s σ H _ _ u1 u2 Q I ru rw ⟨_, _, rfl, rfl, put_int m h⟩
  · rw [relP_str] at rx ry
    subst rx ry
    split at h
    · exact op_add_str pins s σ H _ _ u1 u2 Q I ru rw ⟨_, _, rfl, rfl, (by assumption), put_str m h⟩
    · exact h.elim
  · rename_i xs ys
    rw [relP_tup] at rx ry
    obtain ⟨a, vs, rfl, ha, r1⟩ := rx
    obtain ⟨b, ws, rfl, hb, r2⟩ := ry
    split at h
    · rename_i hz
      refine op_catA pins s σ H _ _ u1 u2 Q I ru rw ⟨a, b, vs, ws, rfl, rfl, by rw [hK]; exact ha.sq, by rw [hK]; exact hb.sq, by rw [← r1.length, ← r2.length]; exact hz, fun e => ?_, fun _ e => ?_, fun _ _ p hp => put_tup m (r1.append r2) hp h⟩
      · subst e
        have e2 : xs = [] := List.eq_nil_of_length_eq_zero r1.length
        subst e2
        exact put_ok m (relP_tup.mpr ⟨b, ws, rfl, hb, r2⟩) h
      · subst e
        have e2 : ys = [] := List.eq_nil_of_length_eq_zero r2.length
        subst e2
        rw [List.append_nil] at h
        exact put_ok m (relP_tup.mpr ⟨a, vs, rfl, ha, r1⟩) h
    · exact h.elim
  · rw [relP_ref] at rx ry
    obtain ⟨a, rfl, ha⟩ := rx
    obtain ⟨b, rfl, hb⟩ := ry
    split at h
    · rename_i e
      obtain ⟨e1, e2⟩ := lists2_some e
      obtain ⟨vs, k1, r1⟩ := cell_lst m ha e1
      obtain ⟨ws, k2, r2⟩ := cell_lst m hb e2
      split at h
      · rename_i hz
        exact op_cat pins s σ H _ _ u1 u2 Q I ru rw ⟨a, b, vs, ws, rfl, rfl, k1, k2, by rw [← r1.length, ← r2.length]; exact hz, fun p hp => put_lst m (r1.append r2) hp h⟩
      · exact h.elim
    · exact h.elim
  · exact h.elim
theorem ok_sub : OpOk X K (binaryOp .Sub) subV := by
  intro pins s σ H v w u1 u2 Q I ru rw ⟨ρ, M, x, y, WE, rx, ry, m, h⟩
  unfold subV at h
  split at h
  · rw [relP_int] at rx ry
    subst rx ry
    exact op_sub pins s σ H _ _ u1 u2 Q I ru rw ⟨_, _, rfl, rfl, put_int m h⟩
  · exact h.elim
theorem flatRep : ∀ {xs : List PV} {vs : List V}, RelPs K ρ H xs vs → ∀ k : Nat, RelPs K ρ H (List.replicate k xs).flatten (List.replicate k vs).flatten
  | _, _, _, 0 => .nil
  | xs, vs, h, k + 1 => by
    rw [List.replicate_succ, List.replicate_succ, List.flatten_cons, List.flatten_cons]
    exact h.append (flatRep h k)
theorem ok_mul : OpOk X K (binaryOp .Mult) mulV := by
  intro pins s σ H v w u1 u2 Q I ru rw ⟨ρ, M, x, y, WE, rx, ry, m, h⟩
  unfold mulV at h
  split at h
  · rw [relP_int] at rx ry
    subst rx ry
    split at h
    · exact op_mulW pins s σ H _ _ u1 u2 Q I ru rw ⟨_, _, rfl, rfl, (by assumption), put_int m h⟩
    · exact h.elim
  · rw [relP_int] at ry
    subst ry
    rw [relP_ref] at rx
    obtain ⟨a, rfl, ha⟩ := rx
    split at h
    · rename_i e
      obtain ⟨vs, k1, r1⟩ := cell_lst m ha e
      split at h
      · rename_i hz
        exact op_rep pins s σ H _ _ u1 u2 Q I ru rw ⟨a, _, vs, rfl, rfl, k1, hz.1, hz.2.1, by rw [← r1.length]; exact hz.2.2, fun p hp => put_lst m (flatRep r1 _) hp h⟩
      · exact h.elim
    · exact h.elim
  · exact h.elim
theorem ok_int2 {f : Value → Value → Sem Value} {C : Int → Int → Prop} [∀ i j, Decidable (C i j)] {gi : Int → Int → Int} {g : PV → PV → Store → Res PV} (ho : OpR X f (rI C fun i j => .int (gi i j)))
    (hg : ∀ x y M, g x y M = match x, y with | .int i, .int j => (if C i j then .ok (.int (gi i j)) M else .bad) | _, _ => .bad) : OpOk X K f g := by
  intro pins s σ H v w u1 u2 Q I ru rw ⟨ρ, M, x, y, WE, rx, ry, m, h⟩
  rw [hg] at h
  split at h
  · rw [relP_int] at rx ry
    subst rx ry
    split at h
    · exact ho pins s σ H _ _ u1 u2 Q I ru rw ⟨_, _, rfl, rfl, (by assumption), put_int m h⟩
    · exact h.elim
  · exact h.elim
theorem ok_fdiv : OpOk X K (binaryOp .FloorDiv) fdivV := ok_int2 op_fdivG fun x y M => by cases x <;> cases y <;> rfl
theorem ok_mod : OpOk X K (binaryOp .Mod) modV := ok_int2 op_mod fun x y M => by cases x <;> cases y <;> rfl
theorem ok_pow : OpOk X K (binaryOp .Pow) powV := by
  have : ∀ i j, Decidable (CPow i j) := fun i j => inferInstanceAs (Decidable (_ ∧ _ ∧ _))
  exact ok_int2 (C := fun i j => 0 ≤ j ∧ j ≤ 1000000 ∧ i.natAbs < 2 ^ 64) op_pow fun x y M => by cases x <;> cases y <;> rfl
theorem ok_shl : OpOk X K (binaryOp .LShift) shlV := ok_int2 (C := fun i j => 0 ≤ j ∧ (Builtin.Int.intBits i : Int) + j ≤ 2 ^ 27) op_shlW fun x y M => by cases x <;> cases y <;> rfl
theorem ok_shr : OpOk X K (binaryOp .RShift) shrV := ok_int2 op_shr fun x y M => by cases x <;> cases y <;> rfl
def opOf : Bop → Operator
  | .add => .Add | .sub => .Sub | .mul => .Mult | .fdiv => .FloorDiv | .mod => .Mod | .pow => .Pow | .shl => .LShift | .shr => .RShift
theorem ok_bin (hK : X.K = K.F) (o : Bop) : OpOk X K (binaryOp (opOf o)) (binV o) := by
  cases o
  · exact ok_add hK
  · exact ok_sub
  · exact ok_mul
  · exact ok_fdiv
  · exact ok_mod
  · exact ok_pow
  · exact ok_shl
  · exact ok_shr
end
end Q

/-! QD: comparisons, truth, built-ins, subscripts, methods. -/
namespace Q
open PySem PySem.Spec PyProof.Rows L2
section
variable {X : Cx} {K : Par} {ρ : List Addr} {H : Hp} {M : Store} {WE : Ex → List Addr → Hp → Prop} {Q : VK}

/-! ### == -/
mutual
theorem toD_ok : ∀ (x : PV) {v : V} {d : PyData}, RelP K ρ H x v → toD x = some d → Dp K.F H v d
  | .non, v, d, r, e => by
    rw [relP_non] at r
    rw [toD] at e
    cases e
    subst r
    exact .non
  | .bl b, v, d, r, e => by
    rw [relP_bl] at r
    rw [toD] at e
    cases e
    subst r
    exact .bl b
  | .int b, v, d, r, e => by
    rw [relP_int] at r
    rw [toD] at e
    cases e
    subst r
    exact .int b
  | .str b, v, d, r, e => by
    rw [relP_str] at r
    rw [toD] at e
    cases e
    subst r
    exact .str b
  | .tup xs, v, d, r, e => by
    rw [relP_tup] at r
    obtain ⟨a, vs, rfl, ha, rs⟩ := r
    rw [toD, Option.map_eq_some_iff] at e
    obtain ⟨ds, e1, rfl⟩ := e
    exact .tup ha.sq (toDs_ok xs rs e1)
  | .ref n, v, d, r, e => by rw [toD] at e <;> first | cases e | (intros; contradiction)
  | .fro n, v, d, r, e => by rw [toD] at e <;> first | cases e | (intros; contradiction)
  | .ty n, v, d, r, e => by rw [toD] at e <;> first | cases e | (intros; contradiction)
theorem toDs_ok : ∀ (xs : List PV) {vs : List V} {ds : List PyData}, RelPs K ρ H xs vs → toDs xs = some ds → DpAll K.F H vs ds
  | [], vs, ds, r, e => by
    rw [relPs_nil] at r
    rw [toDs] at e
    cases e
    subst r
    exact .nil
  | x :: xs, vs, ds, r, e => by
    rw [relPs_cons] at r
    obtain ⟨v, r', rfl, h1, h2⟩ := r
    rw [toDs] at e
    split at e
    · rename_i d ds' e1 e2
      cases e
      exact .cons (toD_ok x h1 e1) (toDs_ok xs h2 e2)
    · cases e
end
theorem toDM_ok {x : PV} {v : V} {d : PyData} (m : RelM K ρ H M) (r : RelP K ρ H x v) (e : toDM M x = some d) : Dp K.F H v d := by
  unfold toDM at e
  split at e
  · rw [relP_ref] at r
    obtain ⟨a, rfl, ha⟩ := r
    split at e
    · rename_i e1
      obtain ⟨vs, k1, r1⟩ := cell_lst m ha e1
      rw [Option.map_eq_some_iff] at e
      obtain ⟨ds, e2, rfl⟩ := e
      exact .lst (.of k1) (toDs_ok _ r1 e2)
    · cases e
  · exact toD_ok _ r e
theorem eqD_some {x y : PV} {b : Bool} (h : eqV M x y = some b) : (∃ i j, x = .int i ∧ y = .int j ∧ b = decide (i = j)) ∨ (∃ i j, x = .str i ∧ y = .str j ∧ b = decide (i = j)) ∨ (∃ i j, x = .bl i ∧ y = .bl j ∧ b = decide (i = j)) ∨
    ∃ d e, toDM M x = some d ∧ toDM M y = some e ∧ SeqAt.shaped d = true ∧ SeqAt.shaped e = true ∧ b = PyData.eqv d e := by
  unfold eqV at h
  split at h
  · cases h; exact .inl ⟨_, _, rfl, rfl, rfl⟩
  · cases h; exact .inr (.inl ⟨_, _, rfl, rfl, rfl⟩)
  · cases h; exact .inr (.inr (.inl ⟨_, _, rfl, rfl, rfl⟩))
  · split at h
    · split at h
      · rename_i d e e1 e2 hs
        rw [Bool.and_eq_true] at hs
        cases h
        exact .inr (.inr (.inr ⟨_, _, e1, e2, hs.1, hs.2, rfl⟩))
      · cases h
    · cases h
theorem dec_i {i j : Int} : decide (V.int i = V.int j) = decide (i = j) := by rw [dec_int]; rw [Bool.eq_iff_iff]; simp
theorem dec_s {i j : Str} : decide (V.str i = V.str j) = decide (i = j) := by rw [dec_str]; rw [Bool.eq_iff_iff]; simp
theorem dec_b {i j : Bool} : decide (V.bl i = V.bl j) = decide (i = j) := by rw [dec_bl]; rw [Bool.eq_iff_iff]; simp
theorem ok_eq (hK : X.K = K.F) (hu : X.A.units + 64 < cLine) : OpOk X K (compareOp .Eq) (cmpV .eq) := by
  intro pins s σ H v w u1 u2 Q I ru rw' ⟨ρ, M, x, y, WE, rx, ry, m, h⟩
  unfold cmpV at h
  split at h
  · rename_i b e
    rcases eqD_some e with ⟨i, j, rfl, rfl, rfl⟩ | ⟨i, j, rfl, rfl, rfl⟩ | ⟨i, j, rfl, rfl, rfl⟩ | ⟨d, e', e1, e2, s1, s2, rfl⟩
    · rw [relP_int] at rx ry
      subst rx ry
      exact op_eq pins s σ H _ _ u1 u2 Q I ru rw' ⟨rfl, by rw [dec_i]; exact put_bl m h⟩
    · rw [relP_str] at rx ry
      subst rx ry
      exact op_eq pins s σ H _ _ u1 u2 Q I ru rw' ⟨rfl, by rw [dec_s]; exact put_bl m h⟩
    · rw [relP_bl] at rx ry
      subst rx ry
      exact op_eq pins s σ H _ _ u1 u2 Q I ru rw' ⟨rfl, by rw [dec_b]; exact put_bl m h⟩
    · refine op_eqD hu pins s σ H _ _ u1 u2 Q I ru rw' ⟨d, e', ?_, ?_, s1, s2, put_bl m h⟩
      · rw [hK]; exact toDM_ok m rx e1
      · rw [hK]; exact toDM_ok m ry e2
  · exact h.elim
theorem ok_ne (hK : X.K = K.F) (hu : X.A.units + 64 < cLine) : OpOk X K (compareOp .NotEq) (cmpV .ne) := by
  intro pins s σ H v w u1 u2 Q I ru rw' ⟨ρ, M, x, y, WE, rx, ry, m, h⟩
  unfold cmpV at h
  split at h
  · rename_i b e
    have e' : (eqV M x y).map (fun b => !b) = some b := e
    rw [Option.map_eq_some_iff] at e'
    obtain ⟨b', e3, rfl⟩ := e'
    rcases eqD_some e3 with ⟨i, j, rfl, rfl, rfl⟩ | ⟨i, j, rfl, rfl, rfl⟩ | ⟨i, j, rfl, rfl, rfl⟩ | ⟨d, e', e1, e2, s1, s2, rfl⟩
    · rw [relP_int] at rx ry
      subst rx ry
      exact op_ne pins s σ H _ _ u1 u2 Q I ru rw' ⟨rfl, by rw [dec_i]; exact put_bl m h⟩
    · rw [relP_str] at rx ry
      subst rx ry
      exact op_ne pins s σ H _ _ u1 u2 Q I ru rw' ⟨rfl, by rw [dec_s]; exact put_bl m h⟩
    · rw [relP_bl] at rx ry
      subst rx ry
      exact op_ne pins s σ H _ _ u1 u2 Q I ru rw' ⟨rfl, by rw [dec_b]; exact put_bl m h⟩
    · refine op_neD hu pins s σ H _ _ u1 u2 Q I ru rw' ⟨d, e', ?_, ?_, s1, s2, put_bl m h⟩
      · rw [hK]; exact toDM_ok m rx e1
      · rw [hK]; exact toDM_ok m ry e2
  · exact h.elim
theorem ltV_some {x y : PV} {b : Bool} (h : ltV x y = some b) : (∃ i j, x = .int i ∧ y = .int j ∧ b = decide (i < j)) ∨ (∃ i j, x = .str i ∧ y = .str j ∧ b = decide (i.cps.toList < j.cps.toList)) := by
  unfold ltV at h
  split at h
  · cases h; exact .inl ⟨_, _, rfl, rfl, rfl⟩
  · cases h; exact .inr ⟨_, _, rfl, rfl, rfl⟩
  · cases h
theorem ok_lt : OpOk X K (compareOp .Lt) (cmpV .lt) := by
  intro pins s σ H v w u1 u2 Q I ru rw' ⟨ρ, M, x, y, WE, rx, ry, m, h⟩
  unfold cmpV at h
  split at h
  · rename_i b e
    rcases ltV_some e with ⟨i, j, rfl, rfl, rfl⟩ | ⟨i, j, rfl, rfl, rfl⟩
    · rw [relP_int] at rx ry
      subst rx ry
      exact op_lt pins s σ H _ _ u1 u2 Q I ru rw' ⟨_, _, rfl, rfl, put_bl m h⟩
    · rw [relP_str] at rx ry
      subst rx ry
      exact op_lt_str pins s σ H _ _ u1 u2 Q I ru rw' ⟨_, _, rfl, rfl, put_bl m h⟩
  · exact h.elim
theorem ok_gt : OpOk X K (compareOp .Gt) (cmpV .gt) := by
  intro pins s σ H v w u1 u2 Q I ru rw' ⟨ρ, M, x, y, WE, rx, ry, m, h⟩
  unfold cmpV at h
  split at h
  · rename_i b e
    rcases ltV_some e with ⟨i, j, rfl, rfl, rfl⟩ | ⟨i, j, rfl, rfl, rfl⟩
    · rw [relP_int] at rx ry
      subst rx ry
      exact op_gt pins s σ H _ _ u1 u2 Q I ru rw' ⟨_, _, rfl, rfl, put_bl m h⟩
    · rw [relP_str] at rx ry
      subst rx ry
      exact op_gt_str pins s σ H _ _ u1 u2 Q I ru rw' ⟨_, _, rfl, rfl, put_bl m h⟩
  · exact h.elim
theorem leV_some {x y : PV} {b : Bool} (h : leV x y = some b) : ∃ i j, x = .int i ∧ y = .int j ∧ b = decide (i ≤ j) := by
  unfold leV at h
  split at h
  · cases h; exact ⟨_, _, rfl, rfl, rfl⟩
  · cases h
theorem ok_le : OpOk X K (compareOp .LtE) (cmpV .le) := by
  intro pins s σ H v w u1 u2 Q I ru rw' ⟨ρ, M, x, y, WE, rx, ry, m, h⟩
  unfold cmpV at h
  split at h
  · rename_i b e
    obtain ⟨i, j, rfl, rfl, rfl⟩ := leV_some e
    rw [relP_int] at rx ry
    subst rx ry
    exact op_le pins s σ H _ _ u1 u2 Q I ru rw' ⟨_, _, rfl, rfl, put_bl m h⟩
  · exact h.elim
theorem ok_ge : OpOk X K (compareOp .GtE) (cmpV .ge) := by
  intro pins s σ H v w u1 u2 Q I ru rw' ⟨ρ, M, x, y, WE, rx, ry, m, h⟩
  unfold cmpV at h
  split at h
  · rename_i b e
    obtain ⟨i, j, rfl, rfl, rfl⟩ := leV_some e
    rw [relP_int] at rx ry
    subst rx ry
    exact op_ge pins s σ H _ _ u1 u2 Q I ru rw' ⟨_, _, rfl, rfl, put_bl m h⟩
  · exact h.elim
/-! ### in -/
theorem flat_ok {x : PV} {v : V} (r : RelP K ρ H x v) (f : flatP x = true) : flatV v = true := by
  cases x with
  | non => rw [relP_non] at r; subst r; rfl
  | bl b => rw [relP_bl] at r; subst r; rfl
  | int b => rw [relP_int] at r; subst r; rfl
  | str b => rw [relP_str] at r; subst r; rfl
  | _ => cases f
theorem flats_ok : ∀ {xs : List PV} {vs : List V}, RelPs K ρ H xs vs → xs.all flatP = true → vs.all flatV = true
  | [], _, r, _ => by rw [relPs_nil.mp r]; rfl
  | x :: xs, _, r, f => by
    obtain ⟨v, r', rfl, h1, h2⟩ := relPs_cons.mp r
    rw [List.all_cons, Bool.and_eq_true] at f ⊢
    exact ⟨flat_ok h1 f.1, flats_ok h2 f.2⟩
theorem eqF_ok {x y : PV} {v w : V} (r : RelP K ρ H x v) (q : RelP K ρ H y w) (f : flatP x = true) (g : flatP y = true) : L2.eqV w v = eqF y x := by
  cases x <;> simp only [flatP] at f <;> first | (cases f; done) | skip
  all_goals
    cases y <;> simp only [flatP] at g <;> first | (cases g; done) | skip
  all_goals
    simp only [relP_non, relP_bl, relP_int, relP_str] at r q
    subst r q
    rfl
theorem any_ok {x : PV} {v : V} (r : RelP K ρ H x v) (f : flatP x = true) : ∀ {xs : List PV} {vs : List V}, RelPs K ρ H xs vs → xs.all flatP = true → L2.inV v vs = xs.any fun y => eqF y x
  | [], _, r', _ => by rw [relPs_nil.mp r']; rfl
  | y :: xs, _, r', g => by
    obtain ⟨w, ws, rfl, h1, h2⟩ := relPs_cons.mp r'
    rw [List.all_cons, Bool.and_eq_true] at g
    show ((L2.eqV w v) || L2.inV v ws) = _
    rw [List.any_cons, eqF_ok r h1 f g.1, any_ok r f h2 g.2]
theorem inL_some {x : PV} {xs : List PV} {b : Bool} (h : inL x xs = some b) : flatP x = true ∧ xs.all flatP = true ∧ b = xs.any fun y => eqF y x := by
  unfold inL at h
  split at h
  · rename_i hs
    rw [Bool.and_eq_true] at hs
    cases h
    exact ⟨hs.1, hs.2, rfl⟩
  · cases h
theorem getK_ok {κ : Type} [DecidableEq κ] {kvs : List (κ × PV)} {vs : List (κ × V)} (r : RelKV K ρ H kvs vs) (k : κ) : (∀ x, getK kvs k = some x → ∃ v, valV vs k = some v ∧ RelP K ρ H x v) ∧ (getK kvs k).isSome = (valV vs k).isSome := by
  unfold RelKV at r
  induction r with
  | nil => exact ⟨fun x e => (by cases e), rfl⟩
  | @cons p q ps qs h t ih =>
    by_cases e : p.1 = k
    · have e2 : q.1 = k := h.1.symm.trans e
      rw [valV_pos e2]
      have e3 : getK (p :: ps) k = some p.2 := by simp [getK, List.find?_cons, e]
      rw [e3]
      exact ⟨fun x z => by cases z; exact ⟨_, rfl, h.2⟩, rfl⟩
    · have e2 : ¬ q.1 = k := fun z => e (h.1.trans z)
      rw [valV_neg e2]
      have e3 : getK (p :: ps) k = getK ps k := by simp [getK, List.find?_cons, e]
      rw [e3]
      exact ih
theorem keyP_some {x : PV} {k : Key} {v : V} (r : RelP K ρ H x v) (h : keyP x = some k) : v = kV k := by
  unfold keyP at h
  split at h
  · cases h; rw [relP_int] at r; exact r
  · cases h; rw [relP_str] at r; exact r
  · cases h
theorem inV_some {x y : PV} {v w : V} {b : Bool} (m : RelM K ρ H M) (rx : RelP K ρ H x v) (ry : RelP K ρ H y w) (h : inV M x y = some b) :
    (∃ p vs, w = .ref p ∧ (SqL K.F H p vs ∨ SqT K.F H p vs) ∧ flatV v = true ∧ vs.all flatV = true ∧ b = L2.inV v vs) ∨ ∃ a o, w = .ref a ∧ DGet H a v o ∧ b = o.isSome := by
  unfold inV at h
  split at h
  · obtain ⟨f, g, rfl⟩ := inL_some h
    rw [relP_tup] at ry
    obtain ⟨a, vs, rfl, ha, rs⟩ := ry
    exact .inl ⟨a, vs, rfl, .inr ha.sq, flat_ok rx f, flats_ok rs g, (any_ok rx f rs g).symm⟩
  · rw [relP_ref] at ry
    obtain ⟨a, rfl, ha⟩ := ry
    split at h
    · rename_i e
      obtain ⟨vs, k1, r1⟩ := cell_lst m ha e
      obtain ⟨f, g, rfl⟩ := inL_some h
      exact .inl ⟨a, vs, rfl, .inl (.of k1), flat_ok rx f, flats_ok r1 g, (any_ok rx f r1 g).symm⟩
    · rename_i e
      obtain ⟨vs, k1, r1⟩ := cell_dK m ha e
      rw [Option.map_eq_some_iff] at h
      obtain ⟨k, ek, rfl⟩ := h
      have ev := keyP_some rx ek
      subst ev
      exact .inr ⟨a, _, rfl, DGet.k k1, (getK_ok r1 k).2⟩
    · cases h
  · cases h
theorem ok_in (hK : X.K = K.F) (hu : X.A.units + 64 < cLine) : OpOk X K (compareOp .In) (cmpV .isin) := by
  intro pins s σ H v w u1 u2 Q I ru rw' ⟨ρ, M, x, y, WE, rx, ry, m, h⟩
  unfold cmpV at h
  split at h
  · rename_i b e
    rcases inV_some m rx ry e with ⟨p, vs, rfl, hq, f, g, rfl⟩ | ⟨a, o, rfl, g, rfl⟩
    · rw [← hK] at hq
      exact op_in_seq pins s σ H _ _ u1 u2 Q I ru rw' ⟨p, vs, rfl, hq, f, g, put_bl m h⟩
    · cases rw'
      exact d_in (by omega) I g ru fun s' I' => ⟨.bl o.isSome, H, I', rfl, put_bl m h⟩
  · exact h.elim
theorem ok_notin (hK : X.K = K.F) (hu : X.A.units + 64 < cLine) : OpOk X K (compareOp .NotIn) (cmpV .notin) := by
  intro pins s σ H v w u1 u2 Q I ru rw' ⟨ρ, M, x, y, WE, rx, ry, m, h⟩
  unfold cmpV at h
  split at h
  · rename_i b e
    have e' : (inV M x y).map (fun b => !b) = some b := e
    rw [Option.map_eq_some_iff] at e'
    obtain ⟨b', e3, rfl⟩ := e'
    rcases inV_some m rx ry e3 with ⟨p, vs, rfl, hq, f, g, rfl⟩ | ⟨a, o, rfl, g, rfl⟩
    · rw [← hK] at hq
      exact op_notIn_seq pins s σ H _ _ u1 u2 Q I ru rw' ⟨p, vs, rfl, hq, f, g, put_bl m h⟩
    · cases rw'
      exact d_notIn (by omega) I g ru fun s' I' => ⟨.bl (!o.isSome), H, I', rfl, put_bl m h⟩
  · exact h.elim
def cmOf : Cop → CmpOp
  | .lt => .Lt | .le => .LtE | .gt => .Gt | .ge => .GtE | .eq => .Eq | .ne => .NotEq | .isin => .In | .notin => .NotIn
theorem ok_cmp (hK : X.K = K.F) (hu : X.A.units + 64 < cLine) (o : Cop) : OpOk X K (compareOp (cmOf o)) (cmpV o) := by
  cases o
  · exact ok_lt
  · exact ok_le
  · exact ok_gt
  · exact ok_ge
  · exact ok_eq hK hu
  · exact ok_ne hK hu
  · exact ok_in hK hu
  · exact ok_notin hK hu
/-! ### truth -/
theorem isE {α β : Type} {xs : List α} {vs : List β} (h : xs.length = vs.length) : (!xs.isEmpty) = !vs.isEmpty := by
  cases xs with
  | nil => cases vs with
    | nil => rfl
    | cons _ _ => cases h
  | cons _ _ => cases vs with
    | nil => cases h
    | cons _ _ => rfl
theorem tru_some {x : PV} {v : V} {b : Bool} (hK : X.K = K.F) (m : RelM K ρ H M) (r : RelP K ρ H x v) (h : truV x M = some b) : TruV X.K v H b := by
  rw [hK]
  unfold truV at h
  split at h
  · cases h; rw [relP_non] at r; subst r; rfl
  · cases h; rw [relP_bl] at r; subst r; rfl
  · cases h; rw [relP_int] at r; subst r; rfl
  · rw [relP_str] at r
    subst r
    split at h
    · cases h
      rename_i x _ hl
      refine ⟨hl, ?_⟩
      rw [Bool.eq_iff_iff]
      simp [Str.length]
    · cases h
  · cases h
    rw [relP_tup] at r
    obtain ⟨a, vs, rfl, ha, rs⟩ := r
    refine .inr (.inl ⟨vs, ha.sq, ?_⟩)
    exact isE rs.length
  · rw [relP_ref] at r
    obtain ⟨a, rfl, ha⟩ := r
    split at h
    · rename_i e
      cases h
      obtain ⟨vs, k1, r1⟩ := cell_lst m ha e
      refine .inl ⟨vs, .of k1, ?_⟩
      exact isE r1.length
    · rename_i e
      cases h
      obtain ⟨vs, k1, r1⟩ := cell_dK m ha e
      refine .inr (.inr ⟨vs, k1, ?_⟩)
      exact isE (Paired.length r1)
    · cases h
  · cases h
    rw [relP_fro] at r
    obtain ⟨a, rfl, ha⟩ := r
    refine .inl ⟨_, ha.sq, ?_⟩
    simp
  · cases h
end
end Q

/-! QF: built-ins, subscripts, slices, methods by values. -/
namespace Q
open PySem PySem.Spec PyProof.Rows L2
def rC (K : Par) (g : List PV → Store → Res PV) : List V → Hp → VK → Prop := fun vs H Q => ∃ ρ M xs WE, RelPs K ρ H xs vs ∧ RelM K ρ H M ∧ Post K (RP K) WE Q ρ H (g xs M)
def rM (K : Par) (g : PV → List PV → Store → Res PV) : V → List V → Hp → VK → Prop := fun v vs H Q => ∃ ρ M x xs WE, RelP K ρ H x v ∧ RelPs K ρ H xs vs ∧ RelM K ρ H M ∧ Post K (RP K) WE Q ρ H (g x xs M)
section
variable {X : Cx} {K : Par} {ρ : List Addr} {H : Hp} {M : Store} {WE : Ex → List Addr → Hp → Prop} {Q : VK}
theorem relPs1 {x : PV} {vs : List V} (r : RelPs K ρ H [x] vs) : ∃ v, vs = [v] ∧ RelP K ρ H x v := by
  obtain ⟨v, r', rfl, h1, h2⟩ := relPs_cons.mp r
  rw [relPs_nil.mp h2]
  exact ⟨v, rfl, h1⟩
theorem relPs2 {x y : PV} {vs : List V} (r : RelPs K ρ H [x, y] vs) : ∃ v w, vs = [v, w] ∧ RelP K ρ H x v ∧ RelP K ρ H y w := by
  obtain ⟨v, r', rfl, h1, h2⟩ := relPs_cons.mp r
  obtain ⟨w, rfl, h3⟩ := relPs1 h2
  exact ⟨v, w, rfl, h1, h3⟩
theorem relPs0 {vs : List V} (r : RelPs K ρ H [] vs) : vs = [] := relPs_nil.mp r
theorem okO_some {o : Option PV} {M : Store} (h : Post K (RP K) WE Q ρ H (okO o M)) : ∃ x, o = some x ∧ Post K (RP K) WE Q ρ H (.ok x M) := by
  cases o with
  | none => exact h.elim
  | some x => exact ⟨x, rfl, h⟩
theorem seqP_ok {x : PV} {v : V} {xs : List PV} (m : RelM K ρ H M) (r : RelP K ρ H x v) (e : seqP x M = some xs) : ∃ a vs, v = .ref a ∧ RelPs K ρ H xs vs ∧ ((∃ e : x = .tup xs, TupAt K H a xs vs) ∨ (SqL K.F H a vs)) := by
  unfold seqP at e
  split at e
  · cases e
    rw [relP_tup] at r
    obtain ⟨a, vs, rfl, ha, rs⟩ := r
    exact ⟨a, vs, rfl, rs, .inl ⟨rfl, ha⟩⟩
  · rw [relP_ref] at r
    obtain ⟨a, rfl, ha⟩ := r
    split at e
    · rename_i e1
      cases e
      obtain ⟨vs, k1, r1⟩ := cell_lst m ha e1
      exact ⟨a, vs, rfl, r1, .inr (.of k1)⟩
    · cases e
  · cases e
    rw [relP_fro] at r
    obtain ⟨a, rfl, ha⟩ := r
    exact ⟨a, _, rfl, RelPs.ints.mpr rfl, .inr ha.sq⟩
  · cases e
theorem sq_or {a : Addr} {x : PV} {xs : List PV} {vs : List V} (h : (∃ e : x = .tup xs, TupAt K H a xs vs) ∨ (SqL K.F H a vs)) : SqL K.F H a vs ∨ SqT K.F H a vs := by
  rcases h with ⟨_, h⟩ | h
  · exact .inr h.sq
  · exact .inl h
/-! ### built-ins -/
theorem ok_len (hK : X.K = K.F) : CallR X (.builtin "len") (rC K (biV .len)) := by
  intro pins s σ H vs us Q I ru ⟨ρ, M, xs, WE, rx, m, h⟩
  unfold biV at h
  split at h <;> first | (rename_i e; cases e; done) | skip
  · obtain ⟨v, rfl, r9⟩ := relPs1 rx
    clear rx
    obtain ⟨y, e, h⟩ := okO_some h
    rw [Option.map_eq_some_iff] at e
    obtain ⟨n, e, rfl⟩ := e
    unfold lenP at e
    split at e
    · rw [relP_str] at r9
      subst r9
      split at e
      · cases e
        exact call_len_str pins s σ H _ us Q I ru ⟨_, rfl, (by assumption), put_int m h⟩
      · cases e
    · rw [relP_ref] at r9
      obtain ⟨a, rfl, ha⟩ := r9
      split at e
      · rename_i e1
        cases e
        obtain ⟨ws, k1, r1⟩ := cell_lst m ha e1
        exact call_len_seq pins s σ H _ us Q I ru ⟨a, ws, rfl, .inl (.of k1), by rw [← r1.length]; exact put_int m h⟩
      · rename_i e1
        cases e
        obtain ⟨ws, k1, r1⟩ := cell_dK m ha e1
        obtain ⟨u, rfl, ru'⟩ := vals1 ru
        cases ru'
        have hl : _ = _ := Paired.length r1
        exact d_len I (.inl k1) fun t s' I' => ⟨.int _, H, I', ⟨t, rfl⟩, by rw [← hl]; exact put_int m h⟩
      · cases e
    · rw [Option.map_eq_some_iff] at e
      obtain ⟨ys, e, rfl⟩ := e
      obtain ⟨a, ws, rfl, r1, hs⟩ := seqP_ok m r9 e
      have hs := sq_or hs
      rw [← hK] at hs
      exact call_len_seq pins s σ H _ us Q I ru ⟨a, ws, rfl, hs, by rw [← r1.length]; exact put_int m h⟩
  all_goals exact h.elim
theorem ok_int : CallR X (.type "int") (rC K (biV .int)) := by
  intro pins s σ H vs us Q I ru ⟨ρ, M, xs, WE, rx, m, h⟩
  unfold biV at h
  split at h <;> first | (rename_i e; cases e; done) | skip
  · obtain ⟨v, rfl, r9⟩ := relPs1 rx
    rw [relP_int] at r9
    subst r9
    exact call_int1 pins s σ H _ us Q I ru (.inl ⟨_, rfl, put_int m h⟩)
  · obtain ⟨v, rfl, r9⟩ := relPs1 rx
    rw [relP_bl] at r9
    subst r9
    exact call_int1 pins s σ H _ us Q I ru (.inr ⟨_, rfl, put_int m h⟩)
  all_goals exact h.elim
theorem ok_bool : CallR X (.type "bool") (rC K (biV .bool)) := by
  intro pins s σ H vs us Q I ru ⟨ρ, M, xs, WE, rx, m, h⟩
  unfold biV at h
  split at h <;> first | (rename_i e; cases e; done) | skip
  · obtain ⟨v, rfl, r9⟩ := relPs1 rx
    rw [relP_int] at r9
    subst r9
    exact call_bool1 pins s σ H _ us Q I ru (.inl ⟨_, rfl, put_bl m h⟩)
  · obtain ⟨v, rfl, r9⟩ := relPs1 rx
    rw [relP_bl] at r9
    subst r9
    exact call_bool1 pins s σ H _ us Q I ru (.inr ⟨_, rfl, put_bl m h⟩)
  all_goals exact h.elim
theorem ok_abs : CallR X (.builtin "abs") (rC K (biV .abs)) := by
  intro pins s σ H vs us Q I ru ⟨ρ, M, xs, WE, rx, m, h⟩
  unfold biV at h
  split at h <;> first | (rename_i e; cases e; done) | skip
  · obtain ⟨v, rfl, r9⟩ := relPs1 rx
    rw [relP_int] at r9
    subst r9
    exact call_abs pins s σ H _ us Q I ru ⟨_, rfl, put_int m h⟩
  all_goals exact h.elim
theorem ok_max (hc : X.calm = true) : CallR X (.builtin "max") (rC K (biV .max)) := by
  intro pins s σ H vs us Q I ru ⟨ρ, M, xs, WE, rx, m, h⟩
  unfold biV at h
  split at h <;> first | (rename_i e; cases e; done) | skip
  · obtain ⟨v, w, rfl, r9, ry⟩ := relPs2 rx
    rw [relP_int] at r9 ry
    subst r9 ry
    exact call_max2 hc pins s σ H _ us Q I ru ⟨_, _, rfl, put_int m h⟩
  all_goals exact h.elim
theorem ok_min (hc : X.calm = true) : CallR X (.builtin "min") (rC K (biV .min)) := by
  intro pins s σ H vs us Q I ru ⟨ρ, M, xs, WE, rx, m, h⟩
  unfold biV at h
  split at h <;> first | (rename_i e; cases e; done) | skip
  · obtain ⟨v, w, rfl, r9, ry⟩ := relPs2 rx
    rw [relP_int] at r9 ry
    subst r9 ry
    exact call_min2 hc pins s σ H _ us Q I ru ⟨_, _, rfl, put_int m h⟩
  all_goals exact h.elim
theorem ok_tuple (hK : X.K = K.F) : CallR X (.type "tuple") (rC K (biV .tuple)) := by
  intro pins s σ H vs us Q I ru ⟨ρ, M, xs, WE, rx, m, h⟩
  unfold biV at h
  split at h <;> first | (rename_i e; cases e; done) | skip
  · obtain ⟨v, rfl, r9⟩ := relPs1 rx
    obtain ⟨y, e, h⟩ := okO_some h
    rw [Option.map_eq_some_iff] at e
    obtain ⟨ys, e, rfl⟩ := e
    obtain ⟨a, ws, rfl, r1, hs⟩ := seqP_ok m r9 e
    rcases hs with ⟨ex, hs⟩ | hs
    · subst ex
      refine call_tuple_of pins s σ H _ us Q I ru ⟨a, ws, rfl, .inr ⟨by rw [hK]; exact hs.sq, put_ok m r9 h⟩⟩
    · exact call_tuple_of pins s σ H _ us Q I ru ⟨a, ws, rfl, .inl ⟨by rw [hK]; exact hs, fun l hl => put_tup m r1 hl h⟩⟩
  all_goals exact h.elim
theorem ok_list (hK : X.K = K.F) : CallR X (.type "list") (rC K (biV .list)) := by
  intro pins s σ H vs us Q I ru ⟨ρ, M, xs, WE, rx, m, h⟩
  unfold biV at h
  split at h <;> first | (rename_i e; cases e; done) | skip
  · obtain ⟨v, rfl, r9⟩ := relPs1 rx
    split at h
    · rename_i e
      obtain ⟨a, ws, rfl, r1, hs⟩ := seqP_ok m r9 e
      exact call_list_of pins s σ H _ us Q I ru ⟨a, ws, rfl, by rw [hK]; exact sq_or hs, fun l hl => put_lst m r1 hl h⟩
    · exact h.elim
  all_goals exact h.elim
theorem ty_ok {x : PV} {v : V} {t : String} (m : RelM K ρ H M) (r : RelP K ρ H x v) (e : tyName x M = some t) : TyX K.F H v (.type t) ∧ (t = "NoneType" ∨ t = "bool" ∨ t = "int" ∨ t = "str" ∨ t = "tuple" ∨ t = "list" ∨ t = "dict") := by
  unfold tyName at e
  split at e
  · cases e; rw [relP_non] at r; subst r; exact ⟨.base .non, by simp⟩
  · cases e; rw [relP_bl] at r; subst r; exact ⟨.base (.bl _), by simp⟩
  · cases e; rw [relP_int] at r; subst r; exact ⟨.base (.int _), by simp⟩
  · cases e; rw [relP_str] at r; subst r; exact ⟨.base (.str _), by simp⟩
  · cases e
    rw [relP_tup] at r
    obtain ⟨a, vs, rfl, ha, rs⟩ := r
    refine ⟨?_, by simp⟩
    rcases ha with ha | ⟨_, o, its, n, k1, k2, _⟩
    · exact .base (.tup ha)
    · exact .kTuple k1 k2
  · rw [relP_ref] at r
    obtain ⟨a, rfl, ha⟩ := r
    split at e
    · rename_i e1
      cases e
      obtain ⟨vs, k1, r1⟩ := cell_lst m ha e1
      exact ⟨.base (.lst k1), by simp⟩
    · rename_i e1
      cases e
      obtain ⟨vs, k1, r1⟩ := cell_dK m ha e1
      exact ⟨.base (.dK k1), by simp⟩
    · rename_i e1
      cases e
      obtain ⟨o, k1, vs, rfl, r1⟩ := m.cell _ a _ ha e1
      exact ⟨.base (.dT k1), by simp⟩
    · cases e
  · cases e
    rw [relP_fro] at r
    obtain ⟨a, rfl, ha⟩ := r
    refine ⟨?_, by simp⟩
    rcases ha with ⟨o, ha⟩ | ⟨o, its, n, k1, k2, _⟩
    · exact .base (.frz ha)
    · exact .kList k1 k2
  · cases e
theorem isi_kit {t n : String} (ht : t = "NoneType" ∨ t = "bool" ∨ t = "int" ∨ t = "str" ∨ t = "tuple" ∨ t = "list" ∨ t = "dict") (hn : isiOk n = true) : kitB t n = some (isiB t n) := by
  have hn' : n = "int" ∨ n = "bool" ∨ n = "str" ∨ n = "tuple" ∨ n = "list" ∨ n = "dict" := by
    unfold isiOk at hn
    simp only [Bool.or_eq_true, beq_iff_eq] at hn
    rcases hn with ((((h | h) | h) | h) | h) | h <;> simp [h]
  rcases hn' with rfl | rfl | rfl | rfl | rfl | rfl <;> rcases ht with rfl | rfl | rfl | rfl | rfl | rfl | rfl <;> decide +kernel
theorem ok_isi (hK : X.K = K.F) : CallR X (.builtin "isinstance") (rC K (biV .isi)) := by
  intro pins s σ H vs us Q I ru ⟨ρ, M, xs, WE, rx, m, h⟩
  unfold biV at h
  split at h <;> first | (rename_i e; cases e; done) | skip
  · obtain ⟨v, w, rfl, r9, ry⟩ := relPs2 rx
    rw [relP_ty] at ry
    subst ry
    split at h
    · rename_i e
      split at h
      · rename_i hn
        obtain ⟨ty, ht⟩ := ty_ok m r9 e
        rw [← hK] at ty
        exact call_isi pins s σ H _ us Q I ru ⟨v, _, _, _, _, rfl, .ty _, ty, kit_ty (isi_kit ht hn), put_bl m h⟩
      · exact h.elim
    · exact h.elim
  all_goals exact h.elim
def biVal : BI → Value
  | .len => .builtin "len" | .int => .type "int" | .abs => .builtin "abs" | .tuple => .type "tuple" | .list => .type "list" | .isi => .builtin "isinstance" | .max => .builtin "max" | .min => .builtin "min" | .bool => .type "bool"
theorem ok_bi (hK : X.K = K.F) (hc : X.calm = true) (b : BI) : CallR X (biVal b) (rC K (biV b)) := by
  cases b
  · exact ok_len hK
  · exact ok_int
  · exact ok_abs
  · exact ok_tuple hK
  · exact ok_list hK
  · exact ok_isi hK
  · exact ok_max hc
  · exact ok_min hc
  · exact ok_bool
/-! ### subscripts -/
theorem atI_ok {xs : List PV} {vs : List V} {i : Int} {x : PV} (r : RelPs K ρ H xs vs) (h : atI xs i = some x) : ∃ v, atI vs i = some v ∧ RelP K ρ H x v := by
  unfold atI at h ⊢
  rw [← r.length]
  cases e : ixN xs.length i with
  | none => rw [e] at h; cases h
  | some j =>
    rw [e] at h
    exact r.get h
theorem ix_dict (hu : X.A.units + 1 < cLine) : IxR X (fun x y H Q => ∃ a v, x = .ref a ∧ DGet H a y (some v) ∧ Q v H) := by
  intro value slice pins s σ H x y v u Q I rx ry h hs
  obtain ⟨a, z, rfl, g, q⟩ := h
  cases rx
  have hT := dict_typeIs I g
  unfold subscriptTail
  refine wpAny_bind ?_
  rw [getitemInPython_of_ne hT.not_modules]
  refine wpAny_bind (wpAny_specialOf hT PySem.F.slot_dict_getitem.lookup ?_)
  have fin : wpAny (model X.prog X.w) X.A (subscripted slice false (.ref a) u) (fun r s₃ => wpAny (model X.prog X.w) X.A (letTemporaryGo value (.ref a) r >>= fun _ => pure r) (EP X pins σ Q) X.xe s₃) X.xe s := by
    rw [hs]
    exact wpAny_operating (wpAny_mono (d_getItem hu I g ry fun w' s3 I3 rw' => (show EP X pins σ Q w' s3 from ⟨z, H, I3, rw', q⟩)) (fun r s₃ h₃ => wpAny_bind (wpAny_letTemporaryGo (wpAny_pure h₃))) fun _ _ x => x)
  first
    | exact wpAny_pure (wpAny_bind fin)
    | exact wpAny_bind (wpAny_pure (wpAny_bind fin))
    | exact wpAny_bind fin
theorem ok_ix (hK : X.K = K.F) (hu : X.A.units + 64 < cLine) : IxR X (rG K ixV) := by
  intro value slice pins s σ H v w u1 u2 Q I ru rw' ⟨ρ, M, x, y, WE, rx, ry, m, h⟩ hs
  unfold ixV at h
  split at h
  · rw [relP_int] at ry
    subst ry
    split at h
    · rw [relP_str] at rx
      subst rx
      split at h
      · rename_i hz
        split at h
        · rename_i c e
          exact ix_str value slice pins s σ H _ _ u1 u2 Q I ru rw' ⟨_, _, c, rfl, rfl, hz, e, put_str m h⟩ hs
        · exact h.elim
      · exact h.elim
    · have rx0 := rx
      rw [relP_ref] at rx
      obtain ⟨a, rfl, ha⟩ := rx
      split at h
      · rename_i e1
        obtain ⟨vs, k1, r1⟩ := cell_lst m ha e1
        obtain ⟨z, e, h⟩ := okO_some h
        obtain ⟨z', e2, r2⟩ := atI_ok r1 e
        exact ix_list value slice pins s σ H _ _ u1 u2 Q I ru rw' ⟨a, vs, _, z', rfl, rfl, .of k1, e2, put_ok m r2 h⟩ hs
      · rename_i e1
        obtain ⟨vs, k1, r1⟩ := cell_dK m ha e1
        obtain ⟨z, e, h⟩ := okO_some h
        obtain ⟨z', e2, r2⟩ := (getK_ok r1 _).1 z e
        exact ix_dict (by omega) value slice pins s σ H _ _ u1 u2 Q I ru rw' ⟨a, z', rfl, by rw [← e2]; exact DGet.k (k := .inl _) k1, put_ok m r2 h⟩ hs
      · exact h.elim
    · split at h
      · rename_i e1
        obtain ⟨z, e, h⟩ := okO_some h
        obtain ⟨a, ws, rfl, r1, hsq⟩ := seqP_ok m rx e1
        obtain ⟨z', e2, r2⟩ := atI_ok r1 e
        rcases sq_or hsq with q | q
        · exact ix_list value slice pins s σ H _ _ u1 u2 Q I ru rw' ⟨a, ws, _, z', rfl, rfl, by rw [hK]; exact q, e2, put_ok m r2 h⟩ hs
        · exact ix_tup value slice pins s σ H _ _ u1 u2 Q I ru rw' ⟨a, ws, _, z', rfl, rfl, by rw [hK]; exact q, e2, put_ok m r2 h⟩ hs
      · exact h.elim
  · rw [relP_str] at ry
    subst ry
    split at h
    · rw [relP_ref] at rx
      obtain ⟨a, rfl, ha⟩ := rx
      split at h
      · rename_i e1
        obtain ⟨vs, k1, r1⟩ := cell_dK m ha e1
        obtain ⟨z, e, h⟩ := okO_some h
        obtain ⟨z', e2, r2⟩ := (getK_ok r1 _).1 z e
        exact ix_dict (by omega) value slice pins s σ H _ _ u1 u2 Q I ru rw' ⟨a, z', rfl, by rw [← e2]; exact DGet.k (k := .inr _) k1, put_ok m r2 h⟩ hs
      · exact h.elim
    · exact h.elim
  · exact h.elim
/-! ### slices -/
def rS (K : Par) : V → Option Int → Option Int → Hp → VK → Prop := fun v lo hi H Q => ∃ ρ M x WE, RelP K ρ H x v ∧ RelM K ρ H M ∧ Post K (RP K) WE Q ρ H (slV x lo hi M)
theorem cut_ok {xs : List PV} {vs : List V} (r : RelPs K ρ H xs vs) (lo hi : Option Int) : RelPs K ρ H (cutL xs lo hi) (cutV vs lo hi) := by
  unfold cutL cutV
  rw [← r.length]
  exact (r.drop _).take _
theorem ok_sl (hK : X.K = K.F) : SlR X (rS K) := by
  intro pins s σ H v u vl vu lo hi sl Q I rv hs pl pu ⟨ρ, M, x, WE, rx, m, h⟩
  unfold slV at h
  split at h
  · rename_i xs
    have rx0 := rx
    rw [relP_tup] at rx
    obtain ⟨a, vs, rfl, ha, rs⟩ := rx
    refine sl_tupA pins s σ H _ u vl vu lo hi sl Q I rv hs pl pu ⟨a, vs, rfl, by rw [hK]; exact ha.sq, fun hw => ?_, fun _ p hp => put_tup m (cut_ok rs lo hi) hp h⟩
    have e : cutL xs lo hi = xs := by
      unfold cutL
      rw [rs.length, hw.1, hw.2, List.drop_zero, ← rs.length]
      simp
    rw [e] at h
    exact put_ok m rx0 h
  · split at h
    · rename_i hne _ xs e
      obtain ⟨a, ws, rfl, r1, hsq⟩ := seqP_ok m rx e
      rcases hsq with ⟨ex, _⟩ | q
      · exact (hne _ ex).elim
      · exact sl_list pins s σ H _ u vl vu lo hi sl Q I rv hs pl pu ⟨a, ws, rfl, by rw [hK]; exact q, fun p hp => put_lst m (cut_ok r1 lo hi) hp h⟩
    · exact h.elim
/-! ### methods -/
theorem dropLast_ok : ∀ {xs : List PV} {vs : List V}, RelPs K ρ H xs vs → RelPs K ρ H xs.dropLast vs.dropLast
  | [], _, r => by rw [relPs_nil.mp r]; exact .nil
  | [x], _, r => by
    obtain ⟨v, rfl, _⟩ := relPs1 r
    exact .nil
  | x :: y :: xs, _, r => by
    obtain ⟨v, r', rfl, h1, h2⟩ := relPs_cons.mp r
    have ih := dropLast_ok h2
    obtain ⟨w, r2, rfl, h3, h4⟩ := relPs_cons.mp h2
    exact .mk h1 ih
theorem RelC.l {xs : List PV} {vs : List V} (r : RelPs K ρ H xs vs) : RelC K ρ H (.lst xs) (.lst vs) := ⟨_, rfl, r⟩
theorem ok_append : MtR X "list.append" (rM K (mtV .append)) := by
  intro pins s σ H v vs u us Q I ru rus ⟨ρ, M, x, xs, WE, rx, rxs, m, h⟩
  unfold mtV at h
  split at h <;> first | (rename_i e; cases e; done) | skip
  · rw [relP_ref] at rx
    obtain ⟨a, rfl, ha⟩ := rx
    obtain ⟨w, rfl, ry⟩ := relPs1 rxs
    split at h
    · rename_i e1
      obtain ⟨ws, k1, r1⟩ := cell_lst m ha e1
      split at h
      · rename_i hz
        exact mt_append pins s σ H _ _ u us Q I ru rus ⟨a, ws, w, rfl, rfl, k1, by rw [← r1.length]; exact hz, put_set m ha e1 (.l (r1.append (.mk ry .nil))) (relP_non.mpr rfl) h⟩
      · exact h.elim
    · exact h.elim
  all_goals exact h.elim
theorem ok_pop : MtR X "list.pop" (rM K (mtV .pop)) := by
  intro pins s σ H v vs u us Q I ru rus ⟨ρ, M, x, xs, WE, rx, rxs, m, h⟩
  unfold mtV at h
  split at h <;> first | (rename_i e; cases e; done) | skip
  · rw [relP_ref] at rx
    obtain ⟨a, rfl, ha⟩ := rx
    have ev := relPs0 rxs
    subst ev
    split at h
    · rename_i e1
      obtain ⟨ws, k1, r1⟩ := cell_lst m ha e1
      split at h
      · rename_i y e2
        obtain ⟨w, e3, r3⟩ := r1.get e2
        exact mt_pop pins s σ H _ _ u us Q I ru rus ⟨a, ws, w, rfl, rfl, k1, by rw [← r1.length]; exact e3, put_set m ha e1 (.l (dropLast_ok r1)) r3 h⟩
      · exact h.elim
    · exact h.elim
  all_goals exact h.elim
theorem ok_extend : MtR X "list.extend" (rM K (mtV .extend)) := by
  intro pins s σ H v vs u us Q I ru rus ⟨ρ, M, x, xs, WE, rx, rxs, m, h⟩
  unfold mtV at h
  split at h <;> first | (rename_i e; cases e; done) | skip
  · rw [relP_ref] at rx
    obtain ⟨a, rfl, ha⟩ := rx
    obtain ⟨w, rfl, ry⟩ := relPs1 rxs
    rw [relP_ref] at ry
    obtain ⟨b, rfl, hb⟩ := ry
    split at h
    · rename_i e
      obtain ⟨e1, e2⟩ := lists2_some e
      obtain ⟨ws, k1, r1⟩ := cell_lst m ha e1
      obtain ⟨zs, k2, r2⟩ := cell_lst m hb e2
      split at h
      · rename_i hz
        exact mt_extend pins s σ H _ _ u us Q I ru rus ⟨a, b, ws, zs, rfl, rfl, k1, k2, by rw [← r1.length, ← r2.length]; exact hz, put_set m ha e1 (.l (r1.append r2)) (relP_non.mpr rfl) h⟩
      · exact h.elim
    · exact h.elim
  all_goals exact h.elim
end
end Q

/-! QG: readings over the evaluator, construct by construct. -/
namespace Q
open PySem PySem.Spec PyProof.Rows L2

structure FI where
  name : Str
  ps : List Str
/-- what the text is known to stand among: the defs, the names that stay built-in, the calls by keywords -/
structure Pg where
  fns : Nat → Option FI
  free : List Str
  kws : Nat → List (Nat × List Str × List Nat)
def RelX (K : Par) (ρ : List Addr) (H : Hp) (x : Ex) (cls : Value) (d : Option Addr) : Prop := ∃ C dx vs, K.ex x.cls = some C ∧ cls = .ref C ∧ d = some dx ∧ H dx = some (.xd vs) ∧ RelKV K ρ H x.fs vs
def spD (K : Par) (g : List PV → Store → Res PV) : Sp := fun vs H Q E => ∃ ρ M xs, RelPs K ρ H xs vs ∧ RelM K ρ H M ∧ Post K (RP K) (fun x ρ' H' => ∀ cls d, RelX K ρ' H' x cls d → E cls d H') Q ρ H (g xs M)
def KB (fd : FuncData) (ps : List Str) (c : Nat) (ks : List Str) (pm : List Nat) : Prop :=
  ∀ us ws : List Value, us.length = c → ws.length = ks.length → ∃ zs, permL (us ++ ws) pm = some zs ∧ bindArgs fd ⟨us, ks.zip ws⟩ = pure (ps.zip zs)
structure PrOk (P : Program) (w : World) (K : Par) (mg : Str → Option Value) (base : Heap) (n : Nat) (pr : Pg) (cl : Nat → List PV → Store → Res PV) : Prop where
  fn : ∀ f i, pr.fns f = some i → ∃ ad fd, mg i.name = some (.ref ad) ∧ PySem.W.keepIn K.F (.ref ad) = true ∧ Binds K.F fd i.ps [] ∧ FnOk P w K.F mg base (CX P w) n ad fd i.ps (spD K (cl f)) ∧
    ∀ c ks pm, (c, ks, pm) ∈ pr.kws f → KB fd i.ps c ks pm
  free : ∀ x ∈ pr.free, mg x = none
/-- where the text stands -/
structure XOk (K : Par) (n : Nat) (pr : Pg) (cl : Nat → List PV → Store → Res PV) (W : WX) (N : List Str) (sc : Scope) (fnf : Str → Bool) (X : Cx) : Prop where
  pr : PrOk X.prog X.w K X.mg X.base n pr cl
  K : X.K = K.F
  N : X.N = N
  sc : X.env.scope = sc
  fn : X.fn = fnf
  calm : X.calm = true
  nd : X.N.Nodup
  room : Room n X.A
  tk : Takes X W
  kind : X.env.scope.kind = .function

def WEx (K : Par) (W : WX) (σ : L2.St) : Ex → List Addr → Hp → Prop := fun x ρ H => ∀ cls d, RelX K ρ H x cls d → W cls d σ H
def tR {α β : Type} (K : Par) (R : List Addr → Hp → α → β → Prop) (W : WX) (ev : PEnv → Store → Res α) : L2.St → Hp → (β → Hp → Prop) → Prop := fun σ H Q => ∃ ρ e M, RelE K ρ H e σ ∧ RelM K ρ H M ∧ Post K R (WEx K W σ) Q ρ H (ev e M)
abbrev tEx (K : Par) (W : WX) (ev : PEnv → Store → Res PV) : TE := tR K (RP K) W ev
abbrev tAx (K : Par) (W : WX) (ev : PEnv → Store → Res (List PV)) : TA := tR K (RPs K) W ev
abbrev tTx (K : Par) (W : WX) (ev : PEnv → Store → Res Bool) : TT := tR K REq W ev
abbrev tOx (K : Par) (W : WX) (ev : PEnv → Store → Res (Option Int)) : TO := tR K REq W ev

section
variable {X : Cx} {e : Expr}
theorem _root_.L2.PE.imp {t t' : TE} (h : PE X e t) (k : ∀ σ H Q, t' σ H Q → t σ H Q) : PE X e t' := ⟨fun pins s σ H Q I hq => h.run pins s σ H Q I (k σ H Q hq)⟩
theorem _root_.L2.PT.imp {t t' : TT} (h : PT X e t) (k : ∀ σ H Q, t' σ H Q → t σ H Q) : PT X e t' := ⟨fun pins s σ H Q I hq => h.run pins s σ H Q I (k σ H Q hq)⟩
theorem _root_.L2.PW.imp {t t' : TT} (h : PW X e t) (k : ∀ σ H Q, t' σ H Q → t σ H Q) : PW X e t' := ⟨fun wh pins s σ H Q I hq => h.run wh pins s σ H Q I (k σ H Q hq)⟩
theorem _root_.L2.PA.imp {es : List Expr} {t t' : TA} (h : PA X es t) (k : ∀ σ H Q, t' σ H Q → t σ H Q) : PA X es t' := ⟨fun pos pins s σ H Q I hq => h.run pos pins s σ H Q I (k σ H Q hq)⟩
theorem _root_.L2.PO.imp {o : Option Expr} {t t' : TO} (h : PO X o t) (k : ∀ σ H Q, t' σ H Q → t σ H Q) : PO X o t' := ⟨fun pins s σ H Q I hq => h.run pins s σ H Q I (k σ H Q hq)⟩
theorem _root_.L2.PK.imp {ks : List Keyword} {t t' : TA} (h : PK X ks t) (k : ∀ σ H Q, t' σ H Q → t σ H Q) : PK X ks t' := ⟨fun pos pins s σ H Q I hq => h.run pos pins s σ H Q I (k σ H Q hq)⟩
theorem _root_.L2.PTs.imp {es : List Expr} {t t' : TT} (h : PTs X es t) (k : ∀ σ H Q, t' σ H Q → t σ H Q) : PTs X es t' := ⟨fun pins s σ H Q I hq => h.run pins s σ H Q I (k σ H Q hq)⟩
theorem _root_.L2.PG.imp {t t' : TG} (h : PG X e t) (k : ∀ v σ H Q, t' v σ H Q → t v σ H Q) : PG X e t' := ⟨fun pins s σ H v u Q I r hq => h.run pins s σ H v u Q I r (k v σ H Q hq)⟩
theorem _root_.L2.PGs.imp {es : List Expr} {t t' : TGs} (h : PGs X es t) (k : ∀ v σ H Q, t' v σ H Q → t v σ H Q) : PGs X es t' := ⟨fun pins s σ H v u Q I r hq => h.run pins s σ H v u Q I r (k v σ H Q hq)⟩
theorem _root_.L2.PI.imp {tg : Expr} {t t' : TI} (h : PI X tg e t) (k : ∀ σ H R, t' σ H R → t σ H R) : PI X tg e t' := ⟨fun pins s σ H R I hq => h.run pins s σ H R I (k σ H R hq)⟩
theorem _root_.L2.PS.imp {st : Stmt} {t t' : TS} (h : PS X st t) (k : ∀ D σ H, t' D σ H → t D σ H) : PS X st t' := ⟨fun pins s σ H D I hq => h.run pins s σ H D I (k D σ H hq)⟩
theorem _root_.L2.PSs.imp {st : List Stmt} {t t' : TS} (h : PSs X st t) (k : ∀ D σ H, t' D σ H → t D σ H) : PSs X st t' := ⟨fun pins s σ H D I hq => h.run pins s σ H D I (k D σ H hq)⟩
end

section
variable {K : Par} {n : Nat} {pr : Pg} {cl : Nat → List PV → Store → Res PV} {W : WX} {N : List Str} {sc : Scope} {fnf : Str → Bool} {X : Cx} {pos : Pos} {a b c : Expr} {ea eb ec : PEnv → Store → Res PV}
theorem XOk.units (x : XOk K n pr cl W N sc fnf X) : X.A.units + 64 < cLine := x.room.units

def tst (ev : PEnv → Store → Res PV) : PEnv → Store → Res Bool := fun e M => (ev e M).bind fun x M => truR x M
/-- what hands back a truth value -/
def BoolEv (ev : PEnv → Store → Res PV) : Prop := ∀ e M, ∃ r : Res Bool, ev e M = r.bind fun k M => .ok (.bl k) M
theorem bool_read {σ : L2.St} {H : Hp} {Q : Bool → Hp → Prop} {ev : PEnv → Store → Res PV} (hb : BoolEv ev) (h : tTx K W (tst ev) σ H Q) : tEx K W ev σ H (fun x H1 => ∃ k, x = .bl k ∧ Q k H1) := by
  obtain ⟨ρ, e, M, he, hm, hp⟩ := h
  refine ⟨ρ, e, M, he, hm, ?_⟩
  obtain ⟨r, er⟩ := hb e M
  unfold tst at hp
  rw [er] at hp ⊢
  cases r with
  | ok k M' =>
    intro z ρ3 H3 m3 r3 x3
    rw [relP_bl.mp r3]
    exact ⟨k, rfl, hp k ρ3 H3 m3 rfl x3⟩
  | exc x M' => exact hp
  | bad => exact hp
theorem _root_.L2.PE.eq {ev ev' : PEnv → Store → Res PV} (h : PE X a (tEx K W ev)) (k : ∀ e M, ev' e M = ev e M) : PE X a (tEx K W ev') := by
  rw [show ev' = ev from funext fun e => funext fun M => k e M]
  exact h
theorem _root_.L2.PT.eq {ev ev' : PEnv → Store → Res PV} (h : PT X a (tTx K W (tst ev))) (k : ∀ e M, ev' e M = ev e M) : PT X a (tTx K W (tst ev')) := by
  rw [show ev' = ev from funext fun e => funext fun M => k e M]
  exact h
theorem _root_.L2.PW.eq {ev ev' : PEnv → Store → Res PV} (h : PW X a (tTx K W (tst ev))) (k : ∀ e M, ev' e M = ev e M) : PW X a (tTx K W (tst ev')) := by
  rw [show ev' = ev from funext fun e => funext fun M => k e M]
  exact h
theorem bool_bind {α : Type} {r : Res α} {f : α → Store → Res PV} (h : ∀ x M, ∃ r : Res Bool, f x M = r.bind fun k M => .ok (.bl k) M) : ∃ q : Res Bool, r.bind f = q.bind fun k M => .ok (.bl k) M := by
  cases r with
  | ok x M1 => exact h x M1
  | exc x M1 => exact ⟨.exc x M1, rfl⟩
  | bad => exact ⟨.bad, rfl⟩
theorem bool_ok {k : Bool} {M : Store} : ∃ r : Res Bool, (.ok (.bl k) M : Res PV) = r.bind fun k M => .ok (.bl k) M := ⟨.ok k M, rfl⟩
theorem bool_bad : ∃ r : Res Bool, (.bad : Res PV) = r.bind fun k M => .ok (.bl k) M := ⟨.bad, rfl⟩
theorem bool_cmp {o : Cop} {x y : PV} {M : Store} : ∃ r : Res Bool, cmpV o x y M = r.bind fun k M => .ok (.bl k) M := by
  unfold cmpV
  cases cmpB M o x y with
  | none => exact bool_bad
  | some b => exact bool_ok
/-! ### names and constants -/
theorem g_const {v : PV} {u : V} {ev : PEnv → Store → Res PV} (h : PE X a (tC u)) (hv : ∀ e M, ev e M = .ok v M) (r : ∀ ρ H, RelP K ρ H v u) : PE X a (tEx K W ev) :=
  h.imp fun σ H Q ⟨ρ, e, M, he, hm, hp⟩ => by
    rw [hv] at hp
    exact hp u ρ H hm (r ρ H) .refl
theorem g_var {i : Nat} {x : Str} (hN : X.N[i]? = some x) (hv : Vis X.env.scope x) (hd : (x == ("__debug__" : Str)) = false) (hcd : (x == ("__classdict__" : Str)) = false) : PE X (.Name x pos) (tEx K W (evE cl (.var i))) :=
  (pe_var hN hv hd hcd).imp fun σ H Q ⟨ρ, e, M, he, hm, hp⟩ => by
    rw [evE] at hp
    split at hp
    · rename_i v hg
      obtain ⟨u, h1, h2⟩ := he.get hg
      exact ⟨u, h1, hp u ρ H hm h2 .refl⟩
    · exact hp.elim
/-! ### operators -/
theorem g_bin {op : Operator} {g : PV → PV → Store → Res PV} (ho : OpOk X K (binaryOp op) g) (ha : PE X a (tEx K W ea)) (hb : PE X b (tEx K W eb)) :
    PE X (.BinOp a op b pos) (tEx K W fun e M => (ea e M).bind fun x M => (eb e M).bind fun y M => g x y M) :=
  (pe_op ho ha hb).imp fun σ H Q ⟨ρ, e, M, he, hm, hp⟩ => ⟨ρ, e, M, he, hm, hp.bind fun x M1 v ρ1 H1 m1 r1 x1 h1 =>
    ⟨ρ1, e, M1, he.ext x1, m1, h1.bind fun y M2 u ρ2 H2 m2 r2 x2 h2 => ⟨ρ2, M2, x, y, _, r1.ext x2, r2, m2, h2⟩⟩⟩
theorem cmp_read {g : PV → PV → Store → Res PV} {σ : L2.St} {H : Hp} {Q : VK} (h : tEx K W (fun e M => (ea e M).bind fun x M => (eb e M).bind fun y M => g x y M) σ H Q) : tOp (rG K g) (tEx K W ea) (tEx K W eb) σ H Q := by
  obtain ⟨ρ, e, M, he, hm, hp⟩ := h
  exact ⟨ρ, e, M, he, hm, hp.bind fun x M1 v ρ1 H1 m1 r1 x1 h1 =>
    ⟨ρ1, e, M1, he.ext x1, m1, h1.bind fun y M2 u ρ2 H2 m2 r2 x2 h2 => ⟨ρ2, M2, x, y, _, r1.ext x2, r2, m2, h2⟩⟩⟩
theorem g_cmp {op : CmpOp} {g : PV → PV → Store → Res PV} (ho : OpOk X K (compareOp op) g) (ha : PE X a (tEx K W ea)) (hb : PE X b (tEx K W eb)) (hm : behindInMarks op b = false) :
    PE X (.Compare a [op] [b] pos) (tEx K W fun e M => (ea e M).bind fun x M => (eb e M).bind fun y M => g x y M) :=
  (pe_cmpR ho ha hb hm).imp fun σ H Q z => cmp_read z
theorem truR_ok {x : PV} {M : Store} : (∃ b, truV x M = some b ∧ truR x M = .ok b M) ∨ truR x M = .bad := by
  unfold truR
  cases h : truV x M with
  | none => exact .inr rfl
  | some b => exact .inl ⟨b, rfl, rfl⟩
/-- a comparison hands back a truth value -/
theorem cmp_bl {o : Cop} {x y : PV} {M : Store} : (∃ b, cmpV o x y M = .ok (.bl b) M) ∨ cmpV o x y M = .bad := by
  unfold cmpV
  cases cmpB M o x y with
  | none => exact .inr rfl
  | some b => exact .inl ⟨b, rfl⟩
theorem gt_cmp {o : Cop} (ho : OpOk X K (compareOp (cmOf o)) (cmpV o)) (ha : PE X a (tEx K W ea)) (hb : PE X b (tEx K W eb)) (hm : behindInMarks (cmOf o) b = false) :
    PT X (.Compare a [cmOf o] [b] pos) (tTx K W (tst fun e M => (ea e M).bind fun x M => (eb e M).bind fun y M => cmpV o x y M)) :=
  (pt_cmpR ho ha hb hm).imp fun σ H Q z => cmp_read (bool_read (fun _ _ => bool_bind fun _ _ => bool_bind fun _ _ => bool_cmp) z)
theorem chain_read {o o' : Cop} {σ : L2.St} {H : Hp} {Q : VK} (h : tEx K W (fun e M => (ea e M).bind fun x M => (eb e M).bind fun y M => (cmpV o x y M).bind fun t M => match t with
      | .bl true => (ec e M).bind fun z M => cmpV o' y z M
      | .bl false => .ok (.bl false) M
      | _ => .bad) σ H Q) : tChain (rG K (cmpV o)) (rG K (cmpV o')) (tEx K W ea) (tEx K W eb) (tEx K W ec) σ H Q := by
  obtain ⟨ρ, e, M, he, hm, hp⟩ := h
  exact ⟨ρ, e, M, he, hm, hp.bind fun x M1 v ρ1 H1 m1 r1 x1 h1 =>
    ⟨ρ1, e, M1, he.ext x1, m1, h1.bind fun y M2 u ρ2 H2 m2 r2 x2 h2 => ⟨ρ2, M2, x, y, fun _ _ _ => True, r1.ext x2, r2, m2, by
      rcases cmp_bl (o := o) (x := x) (y := y) (M := M2) with ⟨k, e1⟩ | e1
      · rw [e1] at h2 ⊢
        intro z ρ3 H3 m3 r3 x3
        rw [relP_bl.mp r3]
        refine ⟨k, rfl, ?_⟩
        cases k with
        | true =>
          rw [if_pos rfl]
          have h2' : Post K (RP K) (WEx K W σ) Q ρ2 H2 ((ec e M2).bind fun z M => cmpV o' y z M) := h2
          exact ⟨ρ3, e, M2, (he.ext x1).ext (x2.trans x3), m3, (h2'.shift x3).bind fun z M3 w ρ4 H4 m4 r4 x4 h4 => ⟨ρ4, M3, y, z, _, r2.ext (x3.trans x4), r4, m4, h4⟩⟩
        | false =>
          rw [if_neg (by decide)]
          exact put_bl m3 (h2.shift x3)
      · rw [e1] at h2
        exact h2.elim⟩⟩⟩
theorem g_chain {o o' : Cop} (ho : OpOk X K (compareOp (cmOf o)) (cmpV o)) (ho' : OpOk X K (compareOp (cmOf o')) (cmpV o')) (ha : PE X a (tEx K W ea)) (hb : PE X b (tEx K W eb)) (hc : PE X c (tEx K W ec)) (hm : lastMarks [cmOf o, cmOf o'] [b, c] = false) :
    PE X (.Compare a [cmOf o, cmOf o'] [b, c] pos) (tEx K W fun e M => (ea e M).bind fun x M => (eb e M).bind fun y M => (cmpV o x y M).bind fun t M => match t with
      | .bl true => (ec e M).bind fun z M => cmpV o' y z M
      | .bl false => .ok (.bl false) M
      | _ => .bad) :=
  (pe_chain ho ho' ha hb hc hm).imp fun σ H Q z => chain_read z
theorem gt_chain {o o' : Cop} (ho : OpOk X K (compareOp (cmOf o)) (cmpV o)) (ho' : OpOk X K (compareOp (cmOf o')) (cmpV o')) (ha : PE X a (tEx K W ea)) (hb : PE X b (tEx K W eb)) (hc : PE X c (tEx K W ec)) (hm : lastMarks [cmOf o, cmOf o'] [b, c] = false) :
    PT X (.Compare a [cmOf o, cmOf o'] [b, c] pos) (tTx K W (tst fun e M => (ea e M).bind fun x M => (eb e M).bind fun y M => (cmpV o x y M).bind fun t M => match t with
      | .bl true => (ec e M).bind fun z M => cmpV o' y z M
      | .bl false => .ok (.bl false) M
      | _ => .bad)) :=
  (pt_chain ho ho' ha hb hc hm).imp fun σ H Q z => chain_read (bool_read (fun e M => bool_bind fun x M => bool_bind fun y M => bool_bind fun t M => by
    split
    · exact bool_bind fun _ _ => bool_cmp
    · exact bool_ok
    · exact bool_bad) z)
theorem isNon (K : Par) {ρ : List Addr} {H : Hp} {x : PV} {v : V} (r : RelP K ρ H x v) : x.isNon = decide (v = .non) := by
  cases x
  · rw [relP_non] at r; subst r; rfl
  · rw [relP_bl] at r; subst r; rfl
  · rw [relP_int] at r; subst r; rfl
  · rw [relP_str] at r; subst r; rfl
  · rw [relP_tup] at r; obtain ⟨a, vs, rfl, _⟩ := r; rfl
  · rw [relP_ref] at r; obtain ⟨a, rfl, _⟩ := r; rfl
  · rw [relP_fro] at r; obtain ⟨a, rfl, _⟩ := r; rfl
  · rw [relP_ty] at r; subst r; rfl
theorem isN_read {σ : L2.St} {H : Hp} {Q : VK} (h : tEx K W (fun e M => (ea e M).bind fun x M => .ok (.bl x.isNon) M) σ H Q) : tIsN (tEx K W ea) σ H Q := by
  obtain ⟨ρ, e, M, he, hm, hp⟩ := h
  exact ⟨ρ, e, M, he, hm, hp.bind fun x M1 v ρ1 H1 m1 r1 x1 h1 => by
    rw [← isNon K r1]
    exact put_bl m1 h1⟩
theorem notN_read {σ : L2.St} {H : Hp} {Q : VK} (h : tEx K W (fun e M => (ea e M).bind fun x M => .ok (.bl (!x.isNon)) M) σ H Q) : tNotN (tEx K W ea) σ H Q := by
  obtain ⟨ρ, e, M, he, hm, hp⟩ := h
  exact ⟨ρ, e, M, he, hm, hp.bind fun x M1 v ρ1 H1 m1 r1 x1 h1 => by
    rw [← isNon K r1]
    exact put_bl m1 h1⟩
theorem g_isN {j : Nat} {pos' : Pos} (ha : PE X a (tEx K W ea)) : PE X (.Compare a [.Is] [.Constant .none j pos'] pos) (tEx K W fun e M => (ea e M).bind fun x M => .ok (.bl x.isNon) M) :=
  (pe_cmp (pc_isN ha) rfl).imp fun σ H Q z => isN_read z
theorem gt_isN {j : Nat} {pos' : Pos} (ha : PE X a (tEx K W ea)) : PT X (.Compare a [.Is] [.Constant .none j pos'] pos) (tTx K W (tst fun e M => (ea e M).bind fun x M => .ok (.bl x.isNon) M)) :=
  (pt_cmp (pc_isN ha) rfl).imp fun σ H Q z => isN_read (bool_read (fun _ _ => bool_bind fun _ _ => bool_ok) z)
theorem g_notN {j : Nat} {pos' : Pos} (ha : PE X a (tEx K W ea)) : PE X (.Compare a [.IsNot] [.Constant .none j pos'] pos) (tEx K W fun e M => (ea e M).bind fun x M => .ok (.bl (!x.isNon)) M) :=
  (pe_cmp (pc_notN ha) rfl).imp fun σ H Q z => notN_read z
theorem gt_notN {j : Nat} {pos' : Pos} (ha : PE X a (tEx K W ea)) : PT X (.Compare a [.IsNot] [.Constant .none j pos'] pos) (tTx K W (tst fun e M => (ea e M).bind fun x M => .ok (.bl (!x.isNon)) M)) :=
  (pt_cmp (pc_notN ha) rfl).imp fun σ H Q z => notN_read (bool_read (fun _ _ => bool_bind fun _ _ => bool_ok) z)
/-! ### and, or, not, if -/
theorem g_and {x y : Expr} {r : List Expr} (hK : X.K = K.F) (ha : PE X x (tEx K W ea)) (hb : PE X (.BoolOp .And (y :: r) pos) (tEx K W eb)) :
    PE X (.BoolOp .And (x :: y :: r) pos) (tEx K W fun e M => (ea e M).bind fun x M => (truR x M).bind fun c M => match c with
      | true => eb e M
      | false => .ok x M) :=
  (pe_andT ha hb).imp fun σ H Q ⟨ρ, e, M, he, hm, hp⟩ => ⟨ρ, e, M, he, hm, hp.bind fun x M1 v ρ1 H1 m1 r1 x1 h1 => by
    rcases truR_ok (x := x) (M := M1) with ⟨k, e1, e2⟩ | e2
    · rw [e2] at h1
      refine ⟨k, tru_some hK m1 r1 e1, ?_⟩
      cases k with
      | true => rw [if_pos rfl]; exact ⟨ρ1, e, M1, he.ext x1, m1, h1⟩
      | false => rw [if_neg (by decide)]; exact put_ok m1 r1 h1
    · rw [e2] at h1
      exact h1.elim⟩
theorem g_or {x y : Expr} {r : List Expr} (hK : X.K = K.F) (ha : PE X x (tEx K W ea)) (hb : PE X (.BoolOp .Or (y :: r) pos) (tEx K W eb)) :
    PE X (.BoolOp .Or (x :: y :: r) pos) (tEx K W fun e M => (ea e M).bind fun x M => (truR x M).bind fun c M => match c with
      | true => .ok x M
      | false => eb e M) :=
  (pe_orT ha hb).imp fun σ H Q ⟨ρ, e, M, he, hm, hp⟩ => ⟨ρ, e, M, he, hm, hp.bind fun x M1 v ρ1 H1 m1 r1 x1 h1 => by
    rcases truR_ok (x := x) (M := M1) with ⟨k, e1, e2⟩ | e2
    · rw [e2] at h1
      refine ⟨k, tru_some hK m1 r1 e1, ?_⟩
      cases k with
      | true => rw [if_pos rfl]; exact put_ok m1 r1 h1
      | false => rw [if_neg (by decide)]; exact ⟨ρ1, e, M1, he.ext x1, m1, h1⟩
    · rw [e2] at h1
      exact h1.elim⟩
theorem g_not (hK : X.K = K.F) (ha : PE X a (tEx K W ea)) : PE X (.UnaryOp .Not a pos) (tEx K W fun e M => (ea e M).bind fun x M => (truR x M).bind fun c M => .ok (.bl (!c)) M) :=
  (pe_notT ha).imp fun σ H Q ⟨ρ, e, M, he, hm, hp⟩ => ⟨ρ, e, M, he, hm, hp.bind fun x M1 v ρ1 H1 m1 r1 x1 h1 => by
    rcases truR_ok (x := x) (M := M1) with ⟨k, e1, e2⟩ | e2
    · rw [e2] at h1
      exact ⟨k, tru_some hK m1 r1 e1, put_bl m1 h1⟩
    · rw [e2] at h1
      exact h1.elim⟩
theorem gt_plain (hK : X.K = K.F) (ha : PE X a (tEx K W ea)) (he : ∀ whole, isTrue a X.env whole = (do let v ← whole; standAt a.pos; holding [v] (truthy v))) : PT X a (tTx K W (tst ea)) :=
  (pt_truth ha he).imp fun σ H Q ⟨ρ, e, M, he, hm, hp⟩ => ⟨ρ, e, M, he, hm, Post.bind (R := RP K) (show Post K REq (WEx K W σ) Q ρ H ((ea e M).bind fun x M => truR x M) from hp) fun x M1 v ρ1 H1 m1 r1 x1 h1 => by
    rcases truR_ok (x := x) (M := M1) with ⟨k, e1, e2⟩ | e2
    · rw [e2] at h1
      exact ⟨k, tru_some hK m1 r1 e1, h1 k ρ1 H1 m1 rfl .refl⟩
    · rw [e2] at h1
      exact h1.elim⟩
theorem tst_and (e : PEnv) (M : Store) : tst (fun e M => (ea e M).bind fun x M => (truR x M).bind fun c M => match c with
      | true => eb e M
      | false => .ok x M) e M = (tst ea e M).bind fun c M => match c with
      | true => tst eb e M
      | false => .ok false M := by
  unfold tst
  rw [Res.bind_assoc, Res.bind_assoc]
  congr 1
  funext x M1
  rcases truR_ok (x := x) (M := M1) with ⟨k, e1, e2⟩ | e2
  · rw [e2]
    cases k with
    | true => rfl
    | false => show truR x M1 = _; rw [e2]; rfl
  · rw [e2]; rfl
theorem tst_or (e : PEnv) (M : Store) : tst (fun e M => (ea e M).bind fun x M => (truR x M).bind fun c M => match c with
      | true => .ok x M
      | false => eb e M) e M = (tst ea e M).bind fun c M => match c with
      | true => .ok true M
      | false => tst eb e M := by
  unfold tst
  rw [Res.bind_assoc, Res.bind_assoc]
  congr 1
  funext x M1
  rcases truR_ok (x := x) (M := M1) with ⟨k, e1, e2⟩ | e2
  · rw [e2]
    cases k with
    | true => show truR x M1 = _; rw [e2]; rfl
    | false => rfl
  · rw [e2]; rfl
theorem tst_not (e : PEnv) (M : Store) : tst (fun e M => (ea e M).bind fun x M => (truR x M).bind fun c M => .ok (.bl (!c)) M) e M = (tst ea e M).bind fun c M => .ok (!c) M := by
  unfold tst
  rw [Res.bind_assoc, Res.bind_assoc]
  congr 1
  funext x M1
  rcases truR_ok (x := x) (M := M1) with ⟨k, e1, e2⟩ | e2
  · rw [e2]; rfl
  · rw [e2]; rfl
theorem gw_and {x y : Expr} {r : List Expr} {eb : PEnv → Store → Res PV} (ha : PT X x (tTx K W (tst ea))) (hb : PW X (.BoolOp .And (y :: r) pos) (tTx K W (tst eb))) :
    PW X (.BoolOp .And (x :: y :: r) pos) (tTx K W (tst fun e M => (ea e M).bind fun x M => (truR x M).bind fun c M => match c with
      | true => eb e M
      | false => .ok x M)) :=
  (pw_and ha hb).imp fun σ H Q ⟨ρ, e, M, he, hm, hp⟩ => by
    rw [tst_and] at hp
    refine ⟨ρ, e, M, he, hm, hp.bind fun k M1 v ρ1 H1 m1 r1 x1 h1 => ?_⟩
    have r1 : k = v := r1
    subst r1
    cases k with
    | true => rw [if_pos rfl]; exact ⟨ρ1, e, M1, he.ext x1, m1, h1⟩
    | false => rw [if_neg (by decide)]; exact h1 false ρ1 H1 m1 rfl .refl
theorem gw_or {x y : Expr} {r : List Expr} {eb : PEnv → Store → Res PV} (ha : PT X x (tTx K W (tst ea))) (hb : PW X (.BoolOp .Or (y :: r) pos) (tTx K W (tst eb))) :
    PW X (.BoolOp .Or (x :: y :: r) pos) (tTx K W (tst fun e M => (ea e M).bind fun x M => (truR x M).bind fun c M => match c with
      | true => .ok x M
      | false => eb e M)) :=
  (pw_or ha hb).imp fun σ H Q ⟨ρ, e, M, he, hm, hp⟩ => by
    rw [tst_or] at hp
    refine ⟨ρ, e, M, he, hm, hp.bind fun k M1 v ρ1 H1 m1 r1 x1 h1 => ?_⟩
    have r1 : k = v := r1
    subst r1
    cases k with
    | true => rw [if_pos rfl]; exact h1 true ρ1 H1 m1 rfl .refl
    | false => rw [if_neg (by decide)]; exact ⟨ρ1, e, M1, he.ext x1, m1, h1⟩
theorem gt_not (ha : PT X a (tTx K W (tst ea))) : PT X (.UnaryOp .Not a pos) (tTx K W (tst fun e M => (ea e M).bind fun x M => (truR x M).bind fun c M => .ok (.bl (!c)) M)) :=
  (pt_not ha).imp fun σ H Q ⟨ρ, e, M, he, hm, hp⟩ => by
    rw [tst_not] at hp
    refine ⟨ρ, e, M, he, hm, hp.bind fun k M1 v ρ1 H1 m1 r1 x1 h1 => ?_⟩
    have r1 : k = v := r1
    subst r1
    exact h1 _ ρ1 H1 m1 rfl .refl
theorem g_ite (hc : PT X c (tTx K W (tst ec))) (ha : PE X a (tEx K W ea)) (hb : PE X b (tEx K W eb)) : PE X (.IfExp c a b pos) (tEx K W fun e M => (ec e M).bind fun x M => (truR x M).bind fun t M => match t with
    | true => ea e M
    | false => eb e M) :=
  (pe_ifExp hc ha hb).imp fun σ H Q ⟨ρ, e, M, he, hm, hp⟩ => by
    dsimp only at hp
    rw [← Res.bind_assoc] at hp
    refine ⟨ρ, e, M, he, hm, Post.bind (R := REq) hp fun k M1 v ρ1 H1 m1 r1 x1 h1 => ?_⟩
    have r1 : k = v := r1
    subst r1
    cases k with
    | true => rw [if_pos rfl]; exact ⟨ρ1, e, M1, he.ext x1, m1, h1⟩
    | false => rw [if_neg (by decide)]; exact ⟨ρ1, e, M1, he.ext x1, m1, h1⟩
theorem g_neg (ha : PE X a (tEx K W ea)) : PE X (.UnaryOp .USub a pos) (tEx K W fun e M => (ea e M).bind fun x M => match x with
    | .int i => .ok (.int (-i)) M
    | _ => .bad) :=
  (pe_un un_neg ha).imp fun σ H Q ⟨ρ, e, M, he, hm, hp⟩ => ⟨ρ, e, M, he, hm, hp.bind fun x M1 v ρ1 H1 m1 r1 x1 h1 => by
    cases x with
    | int i =>
      exact ⟨i, relP_int.mp r1, put_int m1 h1⟩
    | _ => exact h1.elim⟩
/-! ### arguments, displays, calls -/
theorem g_anil : PA X [] (tAx K W fun _ M => .ok [] M) :=
  pa_nil.imp fun σ H Q ⟨ρ, e, M, he, hm, hp⟩ => hp [] ρ H hm .nil .refl
theorem g_acons {es : List Expr} {er : PEnv → Store → Res (List PV)} (ha : PE X a (tEx K W ea)) (hr : PA X es (tAx K W er)) (hs : starEach (a :: es) X.env = (false, eval a X.env) :: starEach es X.env) :
    PA X (a :: es) (tAx K W fun e M => (ea e M).bind fun x M => (er e M).bind fun xs M => .ok (x :: xs) M) :=
  (pa_cons ha hr hs).imp fun σ H Q ⟨ρ, e, M, he, hm, hp⟩ => ⟨ρ, e, M, he, hm, hp.bind fun x M1 v ρ1 H1 m1 r1 x1 h1 =>
    ⟨ρ1, e, M1, he.ext x1, m1, h1.bind fun xs M2 us ρ2 H2 m2 r2 x2 h2 => h2 (v :: us) ρ2 H2 m2 (.mk (r1.ext x2) r2) .refl⟩⟩
theorem g_tup {es : List Expr} {k : Nat} {er : PEnv → Store → Res (List PV)} (hr : PA X es (tAx K W er)) : PE X (.Tuple es k pos) (tEx K W fun e M => (er e M).bind fun xs M => if xs.length ≤ sizeLine then .ok (.tup xs) M else .bad) :=
  (pe_tup hr).imp fun σ H Q ⟨ρ, e, M, he, hm, hp⟩ => ⟨ρ, e, M, he, hm, hp.bind fun xs M1 vs ρ1 H1 m1 r1 x1 h1 => by
    split at h1
    · rename_i hz
      exact ⟨by rw [← r1.length]; exact hz, fun p hp => put_tup m1 r1 hp h1⟩
    · exact h1.elim⟩
theorem g_lst {es : List Expr} {er : PEnv → Store → Res (List PV)} (hr : PA X es (tAx K W er)) : PE X (.List es pos) (tEx K W fun e M => (er e M).bind fun xs M => if xs.length ≤ sizeLine then .ok (.ref M.length) (M ++ [.lst xs]) else .bad) :=
  (pe_lst hr).imp fun σ H Q ⟨ρ, e, M, he, hm, hp⟩ => ⟨ρ, e, M, he, hm, hp.bind fun xs M1 vs ρ1 H1 m1 r1 x1 h1 => by
    split at h1
    · rename_i hz
      exact ⟨by rw [← r1.length]; exact hz, fun p hp => put_lst m1 r1 hp h1⟩
    · exact h1.elim⟩
theorem g_call {f : Nat} {x : Str} {p : Pos} {i : FI} {es : List Expr} {er : PEnv → Store → Res (List PV)} (xo : XOk K n pr cl W N sc fnf X) (hf : pr.fns f = some i) (hx : i.name = x) (hg : Gl X x) (ha : PA X (a :: es) (tAx K W er)) (hdb : (x == ("__debug__" : Str)) = false)
    (he : starEach (a :: es) X.env = (false, eval a X.env) :: starEach es X.env) (hpl : (backTo pos (starEach es X.env)).any (·.1) = false) :
    PE X (.Call (.Name x p) (a :: es) [] pos) (tEx K W fun e M => (er e M).bind fun xs M => cl f xs M) := by
  obtain ⟨ad, fd, h1, h2, h3, h4, _⟩ := xo.pr.fn f i hf
  subst hx
  rw [← xo.K] at h2 h3 h4
  exact (pe_callSD (E := WE W) (dvs := []) (ds := []) h4 xo.room hg h1 h2 h3 .nil (fun σ => passAt xo.tk σ) ha hdb he hpl).imp fun σ H Q ⟨ρ, e, M, he, hm, hp⟩ => ⟨ρ, e, M, he, hm, hp.bind fun xs M1 vs ρ1 H1 m1 r1 x1 h1 =>
    ⟨ρ1, M1, xs, by rw [List.append_nil]; exact r1, m1, h1⟩⟩
theorem g_bi {b : BI} {id : String} {x : Str} {p : Pos} {es : List Expr} {er : PEnv → Store → Res (List PV)} (hv : biVal b = .builtin id) (xo : XOk K n pr cl W N sc fnf X) (hg : Gl X x) (hm : X.mg x = none) (hb : bootBuiltins x = some (.builtin id)) (ha : PA X (a :: es) (tAx K W er))
    (hn : x ≠ "__name__") (hdb : (x == ("__debug__" : Str)) = false) (he : starEach (a :: es) X.env = (false, eval a X.env) :: starEach es X.env) (hpl : (backTo pos (starEach es X.env)).any (·.1) = false) :
    PE X (.Call (.Name x p) (a :: es) [] pos) (tEx K W fun e M => (er e M).bind fun xs M => biV b xs M) := by
  have hc := ok_bi (X := X) (K := K) xo.K xo.calm b
  rw [hv] at hc
  exact (pe_callB hc hg hm hb ha hn hdb he hpl).imp fun σ H Q ⟨ρ, e, M, he, hm, hp⟩ => ⟨ρ, e, M, he, hm, hp.bind fun xs M1 vs ρ1 H1 m1 r1 x1 h1 => ⟨ρ1, M1, xs, _, r1, m1, h1⟩⟩
theorem g_biT {b : BI} {T : String} {x : Str} {p : Pos} {es : List Expr} {er : PEnv → Store → Res (List PV)} (hv : biVal b = .type T) (xo : XOk K n pr cl W N sc fnf X) (hg : Gl X x) (hm : X.mg x = none) (hb : bootBuiltins x = some (.type T)) (ha : PA X (a :: es) (tAx K W er))
    (hn : x ≠ "__name__") (hdb : (x == ("__debug__" : Str)) = false) (he : starEach (a :: es) X.env = (false, eval a X.env) :: starEach es X.env) (hpl : (backTo pos (starEach es X.env)).any (·.1) = false) :
    PE X (.Call (.Name x p) (a :: es) [] pos) (tEx K W fun e M => (er e M).bind fun xs M => biV b xs M) := by
  have hc := ok_bi (X := X) (K := K) xo.K xo.calm b
  rw [hv] at hc
  exact (pe_callTy hc hg hm hb ha hn hdb he hpl).imp fun σ H Q ⟨ρ, e, M, he, hm, hp⟩ => ⟨ρ, e, M, he, hm, hp.bind fun xs M1 vs ρ1 H1 m1 r1 x1 h1 => ⟨ρ1, M1, xs, _, r1, m1, h1⟩⟩
/-! ### subscripts, slices, methods -/
theorem g_ix (hK : X.K = K.F) (hu : X.A.units + 64 < cLine) (ha : PE X a (tEx K W ea)) (hb : PE X b (tEx K W eb)) (hs : PlainIx b) : PE X (.Subscript a b pos) (tEx K W fun e M => (ea e M).bind fun x M => (eb e M).bind fun y M => ixV x y M) :=
  (pe_ix (ok_ix hK hu) ha hb hs).imp fun σ H Q ⟨ρ, e, M, he, hm, hp⟩ => ⟨ρ, e, M, he, hm, hp.bind fun x M1 v ρ1 H1 m1 r1 x1 h1 =>
    ⟨ρ1, e, M1, he.ext x1, m1, h1.bind fun y M2 u ρ2 H2 m2 r2 x2 h2 => ⟨ρ2, M2, x, y, _, r1.ext x2, r2, m2, h2⟩⟩⟩
theorem g_onone : PO X none (tOx K W fun _ M => .ok none M) :=
  po_none.imp fun σ H Q ⟨ρ, e, M, he, hm, hp⟩ => hp none ρ H hm rfl .refl
theorem g_osome (ha : PE X a (tEx K W ea)) : PO X (some a) (tOx K W fun e M => (ea e M).bind fun x M => match x with
    | .int i => .ok (some i) M
    | _ => .bad) :=
  (po_some ha).imp fun σ H Q ⟨ρ, e, M, he, hm, hp⟩ => ⟨ρ, e, M, he, hm, hp.bind fun x M1 v ρ1 H1 m1 r1 x1 h1 => by
    cases x with
    | int i =>
      exact ⟨i, relP_int.mp r1, h1 (some i) ρ1 H1 m1 rfl .refl⟩
    | _ => exact h1.elim⟩
theorem g_sl {lo hi : Option Expr} {p2 : Pos} {el eh : PEnv → Store → Res (Option Int)} (hK : X.K = K.F) (ha : PE X a (tEx K W ea)) (hl : PO X lo (tOx K W el)) (hh : PO X hi (tOx K W eh)) :
    PE X (.Subscript a (.Slice lo hi none p2) pos) (tEx K W fun e M => (ea e M).bind fun x M => (el e M).bind fun l M => (eh e M).bind fun h M => slV x l h M) :=
  (pe_slice (ok_sl hK) ha hl hh).imp fun σ H Q ⟨ρ, e, M, he, hm, hp⟩ => ⟨ρ, e, M, he, hm, hp.bind fun x M1 v ρ1 H1 m1 r1 x1 h1 =>
    ⟨ρ1, e, M1, he.ext x1, m1, h1.bind fun l M2 l' ρ2 H2 m2 r2 x2 h2 => ⟨ρ2, e, M2, (he.ext x1).ext x2, m2, h2.bind fun h M3 h' ρ3 H3 m3 r3 x3 h3 => by
      have e1 : l = l' := r2
      have e2 : h = h' := r3
      subst e1 e2
      exact ⟨ρ3, M3, x, _, r1.ext (x2.trans x3), m3, h3⟩⟩⟩⟩
/-- the receiver of a list's method -/
theorem list_ty {x : PV} {M : Store} {ρ : List Addr} {H : Hp} {v : V} (rm : RelM K ρ H M) (r : RelP K ρ H x v) (h : isLst M x = true) (hK : X.K = K.F) : tyV X.K "list" v H := by
  unfold isLst at h
  split at h
  · split at h
    · rename_i e
      rw [relP_ref] at r
      obtain ⟨a, rfl, ha⟩ := r
      obtain ⟨vs, k1, _⟩ := cell_lst rm ha e
      exact .inl ⟨rfl, _, .of k1⟩
    · cases h
  · cases h
def mtName : Mt → Str
  | .append => "append" | .pop => "pop" | .extend => "extend"
def mtId : Mt → String
  | .append => "list.append" | .pop => "list.pop" | .extend => "list.extend"
theorem ok_mt (m : Mt) : MtR X (mtId m) (rM K (mtV m)) := by
  cases m
  · exact ok_append
  · exact ok_pop
  · exact ok_extend
theorem mt_slot (m : Mt) : Slot "list" (mtName m) (mtId m) ∧ typeOf (.builtin (mtId m)) = pure (.type "method_descriptor") := by
  cases m
  · exact ⟨PySem.F.slot_list_append, PySem.F.type_list_append⟩
  · exact ⟨PySem.F.slot_list_pop, PySem.F.type_list_pop⟩
  · exact ⟨PySem.F.slot_list_extend, PySem.F.type_list_extend⟩
theorem g_mt0 {m : Mt} {apos : Pos} (hK : X.K = K.F) (ha : PE X a (tEx K W ea)) (hbase : attributeBase a (mtName m) X.env (eval a X.env) = eval a X.env) (hline : (apos.endLine == pos.line) = true) :
    PE X (.Call (.Attribute a (mtName m) apos) [] [] pos) (tEx K W fun e M => (ea e M).bind fun x M => if isLst M x then mtV m x [] M else .bad) :=
  (pe_bm0 PySem.F.plainAttrs_list (mt_slot m).1 (mt_slot m).2 (ok_mt (K := K) m) ha hbase hline).imp fun σ H Q ⟨ρ, e, M, he, hm, hp⟩ => ⟨ρ, e, M, he, hm, hp.bind fun x M1 v ρ1 H1 m1 r1 x1 h1 => by
    split at h1
    · rename_i hl
      exact ⟨list_ty m1 r1 hl hK, ρ1, M1, x, [], _, r1, .nil, m1, h1⟩
    · exact h1.elim⟩
theorem g_mt {m : Mt} {apos : Pos} {e0 : Expr} {es : List Expr} {er : PEnv → Store → Res (List PV)} (hK : X.K = K.F) (ha : PE X a (tEx K W ea)) (hr : PA X (e0 :: es) (tAx K W er)) (hbase : attributeBase a (mtName m) X.env (eval a X.env) = eval a X.env)
    (hfew : ((backTo pos (starEach (e0 :: es) X.env)).all (fun x => !x.1) && (backToKw pos (keywordEach [] X.env)).all (fun x => x.1.isSome)
      && decide ((e0 :: es).length + ([] : List Keyword).length + (if ([] : List Keyword).isEmpty then 0 else 1) < 30)) = true) (hline : (apos.endLine == pos.line) = true) (hst : starEach (e0 :: es) X.env = (false, eval e0 X.env) :: starEach es X.env) (hpl : (backTo pos (starEach es X.env)).any (·.1) = false) :
    PE X (.Call (.Attribute a (mtName m) apos) (e0 :: es) [] pos) (tEx K W fun e M => (ea e M).bind fun x M => if isLst M x then (er e M).bind fun xs M => mtV m x xs M else .bad) :=
  (pe_bm PySem.F.plainAttrs_list (mt_slot m).1 (mt_slot m).2 (ok_mt (K := K) m) ha hr hbase hfew hline hst hpl).imp fun σ H Q ⟨ρ, e, M, he, hm, hp⟩ => ⟨ρ, e, M, he, hm, hp.bind fun x M1 v ρ1 H1 m1 r1 x1 h1 => by
    split at h1
    · rename_i hl
      exact ⟨list_ty m1 r1 hl hK, ρ1, e, M1, he.ext x1, m1, h1.bind fun xs M2 vs ρ2 H2 m2 r2 x2 h2 => ⟨ρ2, M2, x, xs, _, r1.ext x2, r2, m2, h2⟩⟩
    · exact h1.elim⟩
theorem g_bits {apos : Pos} (ha : PE X a (tEx K W ea)) (hbase : attributeBase a "bit_length" X.env (eval a X.env) = eval a X.env) (hline : (apos.endLine == pos.line) = true) : PE X (.Call (.Attribute a "bit_length" apos) [] [] pos) (tEx K W fun e M => (ea e M).bind fun x M => match x with
    | .int i => .ok (.int (Builtin.Int.intBits i : Nat)) M
    | _ => .bad) :=
  (pe_bits ha hbase hline).imp fun σ H Q ⟨ρ, e, M, he, hm, hp⟩ => ⟨ρ, e, M, he, hm, hp.bind fun x M1 v ρ1 H1 m1 r1 x1 h1 => by
    cases x with
    | int i =>
      exact ⟨i, relP_int.mp r1, put_int m1 h1⟩
    | _ => exact h1.elim⟩
end
end Q

/-! QH: targets, what is walked, comprehensions, cells that go. -/
namespace Q
open PySem PySem.Spec PyProof.Rows L2
section
variable {K : Par} {n : Nat} {pr : Pg} {cl : Nat → List PV → Store → Res PV} {W : WX} {N : List Str} {sc : Scope} {fnf : Str → Bool} {X : Cx} {pos : Pos} {a b c : Expr} {ea eb ec : PEnv → Store → Res PV}
variable {ρ ρ' : List Addr} {H H' : Hp} {M : Store} {WE : Ex → List Addr → Hp → Prop} {Q : VK}

/-! ### o[i] = v -/
theorem putP_ok {κ : Type} [DecidableEq κ] {kvs : List (κ × PV)} {vs : List (κ × V)} (r : RelKV K ρ H kvs vs) (k : κ) {x : PV} {v : V} (rv : RelP K ρ H x v) : RelKV K ρ H (putP kvs k x) (putK vs k v) := by
  have hany : (kvs.any fun kv => decide (kv.1 = k)) = vs.any fun kv => decide (kv.1 = k) := by
    unfold RelKV at r
    induction r with
    | nil => rfl
    | @cons p q ps qs h t ih => rw [List.any_cons, List.any_cons, h.1, ih]
  unfold putP putK
  rw [hany]
  split
  · rename_i hz
    unfold RelKV at r ⊢
    clear hany hz
    induction r with
    | nil => exact .nil
    | @cons p q ps qs h t ih =>
      rw [List.map_cons, List.map_cons]
      refine .cons ?_ ih
      by_cases e : p.1 = k
      · rw [if_pos e, if_pos (h.1.symm.trans e)]
        exact ⟨h.1, rv⟩
      · rw [if_neg e, if_neg fun z => e (h.1.trans z)]
        exact h
  · rename_i hz
    unfold RelKV at r ⊢
    clear hany hz
    induction r with
    | nil => exact .cons ⟨rfl, rv⟩ .nil
    | @cons p q ps qs h t ih => exact .cons h ih
def rSetG (K : Par) : TSet := fun o i v H Q => ∃ ρ M x y z WE, RelP K ρ H x o ∧ RelP K ρ H y i ∧ RelP K ρ H z v ∧ RelM K ρ H M ∧ Post K (RP K) WE (fun _ H' => Q H') ρ H (setI x y z M)
theorem set_ok (hu : X.A.units + 64 < cLine) : PSet X (rSetG K) := by
  intro pins s σ H o i v ov iv u Q I ro ri rv ⟨ρ, M, x, y, z, WE, rx, ry, rz, m, h⟩
  unfold setI at h
  split at h
  · rw [relP_ref] at rx
    obtain ⟨a, rfl, ha⟩ := rx
    split at h
    · rename_i e1
      obtain ⟨vs, k1, r1⟩ := cell_lst m ha e1
      split at h
      · rw [relP_int] at ry
        subst ry
        split at h
        · rename_i j e2
          refine set_list pins s σ H _ _ _ ov iv u Q I ro ri rv ⟨a, vs, _, j, rfl, rfl, k1, by rw [← r1.length]; exact e2, ?_⟩
          exact put_set (Q := fun _ H' => Q H') (pv := .non) (v := .non) m ha e1 (.l (r1.set j rz)) (relP_non.mpr rfl) h
        · exact h.elim
      · exact h.elim
    · rename_i e1
      obtain ⟨vs, k1, r1⟩ := cell_dK m ha e1
      split at h
      · rename_i k ek
        have ev := keyP_some ry ek
        subst ev
        split at h
        · rename_i hz
          cases ro
          have hl : _ = _ := Paired.length r1
          refine d_setItem (by omega) I (DPut.k (k := k) (v := v) k1 (by rw [← hl]; exact hz)) ri rv fun s' I' => ⟨_, I', ?_⟩
          exact put_set (Q := fun _ H' => Q H') (pv := .non) (v := .non) (c' := .dK (putP _ k z)) m ha e1 ⟨_, rfl, putP_ok r1 k rz⟩ (relP_non.mpr rfl) h
        · exact h.elim
      · exact h.elim
    · exact h.elim
  · exact h.elim
/-! ### targets -/
/-- the slots behind a target: those of the environment, the others as they were -/
def RG (K : Par) (σ0 : L2.St) (sl : List Nat) : List Addr → Hp → PEnv → L2.St → Prop := fun ρ H e σ => RelE K ρ H e σ ∧ σ.length = σ0.length ∧ ∀ j, j ∉ sl → σ[j]? = σ0[j]?
def tTgt (K : Par) (W : WX) (sl : List Nat) (ev : PV → PEnv → Store → Res PEnv) : TG := fun v σ H Q => ∃ ρ e M x, RelE K ρ H e σ ∧ RelM K ρ H M ∧ RelP K ρ H x v ∧ Post K (RG K σ sl) (WEx K W σ) Q ρ H (ev x e M)
def tTgts (K : Par) (W : WX) (sl : List Nat) (ev : List PV → PEnv → Store → Res PEnv) : TGs := fun vs σ H Q => ∃ ρ e M xs, RelE K ρ H e σ ∧ RelM K ρ H M ∧ RelPs K ρ H xs vs ∧ Post K (RG K σ sl) (WEx K W σ) Q ρ H (ev xs e M)
theorem _root_.L2.PG.or {t t' : TG} (h : PG X a t) (h' : PG X a t') : PG X a (fun v σ H Q => t v σ H Q ∨ t' v σ H Q) := ⟨fun pins s σ H v u Q I r hq => by
  rcases hq with hq | hq
  · exact h.run pins s σ H v u Q I r hq
  · exact h'.run pins s σ H v u Q I r hq⟩
theorem t_var {i : Nat} {x : Str} (hN : X.N.Nodup) (hi : X.N[i]? = some x) (hx : Loc X.env.scope x) (hf : X.fn x = true ∨ X.env.scope.names.lookup x = some .local) : PG X (.Name x pos) (tTgt K W [i] fun v e M => .ok (setV e i v) M) :=
  (pg_name hN hi hx hf).imp fun v σ H Q ⟨ρ, e, M, x, he, hm, hx, hp⟩ => hp (σ.set i (some v)) ρ H hm ⟨he.set hx i, List.length_set, fun j hj => by
    have : j ≠ i := fun z => hj (by simp [z])
    rw [List.getElem?_set_ne (Ne.symm this)]⟩ .refl
theorem t_nil : PGs X [] (tTgts K W [] fun vs e M => match vs with | [] => .ok e M | _ => .bad) :=
  pgs_nil.imp fun vs σ H Q ⟨ρ, e, M, xs, he, hm, hx, hp⟩ => by
    cases xs with
    | nil => exact ⟨relPs_nil.mp hx, hp σ ρ H hm ⟨he, rfl, fun _ _ => rfl⟩ .refl⟩
    | cons _ _ => exact hp.elim
theorem t_cons {es : List Expr} {s1 s2 : List Nat} {et : PV → PEnv → Store → Res PEnv} {er : List PV → PEnv → Store → Res PEnv} (ht : PG X a (tTgt K W s1 et)) (hr : PGs X es (tTgts K W s2 er)) (hs : (assignEach (a :: es) X.env).map (·.2) = assign a X.env :: (assignEach es X.env).map (·.2)) :
    PGs X (a :: es) (tTgts K W (s1 ++ s2) fun vs e M => match vs with
      | v :: vs => (et v e M).noexc.bind fun e M => (er vs e M).noexc
      | [] => .bad) :=
  (pgs_cons ht hr hs).imp fun vs σ H Q ⟨ρ, e, M, xs, he, hm, hx, hp⟩ => by
    cases xs with
    | nil => exact hp.elim
    | cons x xs =>
      obtain ⟨v, r, rfl, h1, h2⟩ := relPs_cons.mp hx
      refine ⟨v, r, rfl, ρ, e, M, x, he, hm, h1, ?_⟩
      have hp' : Post K (RG K σ (s1 ++ s2)) (WEx K W σ) Q ρ H ((et x e M).noexc.bind fun e M => (er xs e M).noexc) := hp
      cases h5 : et x e M with
      | exc y M2 => rw [h5] at hp'; exact hp'.elim
      | bad => rw [h5] at hp'; exact hp'.elim
      | ok e1 M1 =>
        rw [h5] at hp'
        intro σ1 ρ1 H1 m1 r1 x1
        have h3 : Post K (RG K σ (s1 ++ s2)) (WEx K W σ) Q ρ1 H1 (er xs e1 M1).noexc := hp'.shift x1
        refine ⟨ρ1, e1, M1, xs, r1.1, m1, h2.ext x1, ?_⟩
        cases h4 : er xs e1 M1 with
        | ok e2 M2 =>
          rw [h4] at h3
          exact fun σ2 ρ2 H2 m2 r2 x2 => h3 σ2 ρ2 H2 m2 ⟨r2.1, r2.2.1.trans r1.2.1, fun j hj => (r2.2.2 j fun z => hj (List.mem_append_right _ z)).trans (r1.2.2 j fun z => hj (List.mem_append_left _ z))⟩ x2
        | exc y M2 => rw [h4] at h3; exact h3.elim
        | bad => rw [h4] at h3; exact h3
theorem t_tup {es : List Expr} {k : Nat} {sl : List Nat} {er : List PV → PEnv → Store → Res PEnv} (hc : X.calm = true) (hK : X.K = K.F) (hr : PGs X es (tTgts K W sl er)) (hn : (assignEach es X.env).length = es.length) (hst : (assignEach es X.env).findIdx? (·.1) = none)
    (hl : ∀ xs e M, xs.length ≠ es.length → er xs e M = .bad) : PG X (.Tuple es k pos) (tTgt K W sl fun v e M => match v with
      | .tup xs => er xs e M
      | .ref n => match M[n]? with
        | some (.lst xs) => er xs e M
        | _ => .bad
      | _ => .bad) :=
  ((pg_tup hc hr hn hst).or (pg_lst hc hr hn hst)).imp fun v σ H Q ⟨ρ, e, M, x, he, hm, hx, hp⟩ => by
    have len : ∀ xs, Post K (RG K σ sl) (WEx K W σ) Q ρ H (er xs e M) → xs.length = es.length := fun xs h => by
      by_cases z : xs.length = es.length
      · exact z
      · rw [hl xs e M z] at h
        exact h.elim
    dsimp only at hp
    split at hp
    · rw [relP_tup] at hx
      obtain ⟨ad, vs, rfl, ha, rs⟩ := hx
      exact .inl ⟨ad, vs, rfl, by rw [hK]; exact ha.sq, by rw [← rs.length]; exact len _ hp, ρ, e, M, _, he, hm, rs, hp⟩
    · rw [relP_ref] at hx
      obtain ⟨ad, rfl, ha⟩ := hx
      split at hp
      · rename_i e1
        obtain ⟨vs, k1, r1⟩ := cell_lst hm ha e1
        exact .inr ⟨ad, vs, rfl, .of k1, by rw [← r1.length]; exact len _ hp, ρ, e, M, _, he, hm, r1, hp⟩
      · exact hp.elim
    · exact hp.elim
theorem t_sub (hu : X.A.units + 64 < cLine) (ha : PE X a (tEx K W ea)) (hb : PE X b (tEx K W eb)) (hsub : ∀ t, PSet X t → PG X (.Subscript a b pos) (gSub (tEx K W ea) (tEx K W eb) t)) :
    PG X (.Subscript a b pos) (tTgt K W [] fun v e M => (ea e M).bind fun o M => (eb e M).bind fun i M => (setI o i v M).bind fun _ M => .ok e M) :=
  (hsub _ (set_ok (K := K) hu)).imp fun v σ H Q ⟨ρ, e, M, x, he, hm, hx, hp⟩ =>
    ⟨ρ, e, M, he, hm, Post.bind (R := RP K) (show Post K (RG K σ []) (WEx K W σ) Q ρ H ((ea e M).bind fun o M => (eb e M).bind fun i M => (setI o i x M).bind fun _ M => .ok e M) from hp) fun o M1 ov ρ1 H1 m1 r1 x1 h1 =>
      ⟨ρ1, e, M1, he.ext x1, m1, Post.bind (R := RP K) h1 fun i M2 iv ρ2 H2 m2 r2 x2 h2 => ⟨ρ2, M2, o, i, x, WEx K W σ, r1.ext x2, r2, hx.ext (x1.trans x2), m2,
        Post.bind (R := RP K) h2 fun y M3 _ ρ3 H3 m3 r3 x3 h3 => h3 σ ρ3 H3 m3 ⟨he.ext (x1.trans (x2.trans x3)), rfl, fun _ _ => rfl⟩ .refl⟩⟩⟩
/-! ### what is walked -/
def SrcJ (K : Par) (ρ1 : List Addr) (H1 : Hp) (s : Src) (J : It) : Prop := ∀ (ρ : List Addr) (H : Hp) (M : Store), Ext ρ1 H1 ρ H → RelM K ρ H M → s.still M = true →
  (∀ (i : Nat) (x : PV), s.items[i]? = some x → J.go i H ∧ ∀ v H', J.yld i H v H' → RelM K ρ H' M ∧ RelP K ρ H' x v ∧ Ext ρ H ρ H') ∧ (∀ i : Nat, s.items.length ≤ i → J.stop i H)
def tIx (K : Par) (W : WX) (ev : PEnv → Store → Res Src) : TI := tR K (SrcJ K) W ev
theorem still_cell {s : Src} {k : Nat} {xs : List PV} (e : s.cell = some (k, xs)) (h : s.still M = true) : M[k]? = some (.lst xs) := by
  unfold Src.still at h
  rw [e] at h
  dsimp only at h
  split at h
  · rename_i c ec
    rw [ec, Cell.eq_of_beq h]
  · cases h
/-- a list that is read -/
theorem src_list (hK : X.K = K.F) {x : PV} {v : V} {Qi : It → Hp → Prop} (hm : RelM K ρ H M) (hx : RelP K ρ H x v) (hp : Post K (SrcJ K) WE Qi ρ H (listSrc x M)) : ∃ a, v = .ref a ∧ (∃ xs, SqL X.K H a xs) ∧ Qi (Itl X.K a) H := by
  rw [hK]
  unfold listSrc at hp
  split at hp
  · rw [relP_ref] at hx
    obtain ⟨ad, rfl, ha⟩ := hx
    split at hp
    · rename_i xs e1
      obtain ⟨vs, k1, r1⟩ := cell_lst hm ha e1
      refine ⟨ad, rfl, ⟨vs, .of k1⟩, hp _ ρ H hm (fun ρ2 H2 M2 x2 m2 st => ?_) .refl⟩
      have e2 := still_cell (s := ⟨xs, some (_, xs)⟩) rfl st
      obtain ⟨ws, k2, r2⟩ := cell_lst m2 (x2.get ha) e2
      refine ⟨fun i y hy => ?_, fun i hi => ⟨ws, .of k2, by rw [← r2.length]; exact hi⟩⟩
      obtain ⟨w, hw, rw'⟩ := r2.get hy
      refine ⟨⟨ws, w, .of k2, hw⟩, fun v H' hy' => ?_⟩
      obtain ⟨rfl, hv⟩ := hy'
      have := hv ws (.of k2)
      rw [hw] at this
      cases this
      exact ⟨m2, rw', .refl⟩
    · exact hp.elim
  · rename_i ns
    rw [relP_fro] at hx
    obtain ⟨ad, rfl, ha⟩ := hx
    refine ⟨ad, rfl, ⟨_, ha.sq⟩, hp _ ρ H hm (fun ρ2 H2 M2 x2 m2 st => ?_) .refl⟩
    have ha2 := x2.fro ha
    refine ⟨fun i y hy => ?_, fun i hi => ⟨_, ha2.sq, by simpa using hi⟩⟩
    obtain ⟨w, hw, rw'⟩ := RelPs.get (K := K) (ρ := ρ2) (H := H2) (RelPs.ints.mpr rfl) hy
    refine ⟨⟨_, w, ha2.sq, hw⟩, fun v H' hy' => ?_⟩
    obtain ⟨rfl, hv⟩ := hy'
    have := hv _ ha2.sq
    rw [hw] at this
    cases this
    exact ⟨m2, rw', .refl⟩
  · exact hp.elim
theorem i_list {tg : Expr} (hK : X.K = K.F) (ha : PE X a (tEx K W ea)) : PI X tg a (tIx K W fun e M => (ea e M).bind fun x M => listSrc x M) :=
  (pi_list ha).imp fun σ H R ⟨ρ, e, M, he, hm, hp⟩ => ⟨ρ, e, M, he, hm, Post.bind (R := RP K) hp fun x M1 v ρ1 H1 m1 r1 x1 h1 => src_list hK m1 r1 h1⟩
theorem i_tup {tg : Expr} (hK : X.K = K.F) (ha : PE X a (tEx K W ea)) : PI X tg a (tIx K W fun e M => (ea e M).bind fun x M => tupSrc x M) :=
  (pi_tup ha).imp fun σ H R ⟨ρ, e, M, he, hm, hp⟩ => ⟨ρ, e, M, he, hm, Post.bind (R := RP K) hp fun x M1 v ρ1 H1 m1 r1 x1 h1 => by
    rw [hK]
    unfold tupSrc at h1
    split at h1
    · rename_i xs
      have r1' : RelP K ρ1 H1 (.tup xs) v := r1
      rw [relP_tup] at r1'
      obtain ⟨ad, vs, rfl, ha, rs⟩ := r1'
      refine ⟨ad, rfl, ⟨vs, ha.sq⟩, h1 _ ρ1 H1 m1 (fun ρ2 H2 M2 x2 m2 st => ?_) .refl⟩
      have ha2 := (x2.sqT ha).sq
      have rs2 := rs.ext x2
      refine ⟨fun i y hy => ?_, fun i hi => ⟨vs, ha2, by rw [← rs.length]; exact hi⟩⟩
      obtain ⟨w, hw, rw'⟩ := rs2.get hy
      refine ⟨⟨vs, w, ha2, hw⟩, fun v H' hy' => ?_⟩
      obtain ⟨rfl, hv⟩ := hy'
      have := hv vs ha2
      rw [hw] at this
      cases this
      exact ⟨m2, rw', .refl⟩
    · exact h1.elim⟩
theorem rng_src {lo : Int} {k : Nat} : SrcJ K ρ H ⟨rngItems lo k, none⟩ (Itr lo k) := fun ρ2 H2 M2 x2 m2 st => by
  refine ⟨fun i y hy => ?_, fun i hi => ?_⟩
  · have hy' : (rngItems lo k)[i]? = some y := hy
    unfold rngItems at hy'
    rw [List.getElem?_map, Option.map_eq_some_iff] at hy'
    obtain ⟨j, hj, rfl⟩ := hy'
    have hlt := (List.getElem?_eq_some_iff.mp hj).1
    rw [List.length_range] at hlt
    rw [List.getElem?_range hlt] at hj
    cases hj
    refine ⟨hlt, fun v H' hy' => ?_⟩
    obtain ⟨rfl, rfl⟩ := hy'
    exact ⟨m2, relP_int.mpr rfl, .refl⟩
  · have hi' : (rngItems lo k).length ≤ i := hi
    unfold rngItems at hi'
    rw [List.length_map, List.length_range] at hi'
    exact hi'
theorem i_rng1 {tg : Expr} {p : Pos} (hg : Gl X "range") (hm : X.mg "range" = none) (ha : PA X [a] (tCons (tEx K W ea) tNil)) (hs : starEach [a] X.env = [(false, eval a X.env)]) : PI X tg (.Call (.Name "range" p) [a] [] pos) (tIx K W fun e M => (ea e M).bind fun x M => rngSrc (.int 0) x M) :=
  (pi_range1 hg hm ha hs).imp fun σ H R ⟨ρ, e, M, he, hm, hp⟩ => ⟨ρ, e, M, he, hm, Post.bind (R := RP K) hp fun x M1 v ρ1 H1 m1 r1 x1 h1 => by
    unfold rngSrc at h1
    split at h1
    · rename_i i j e1
      cases e1
      have r1' : RelP K ρ1 H1 (.int j) v := r1
      rw [relP_int] at r1'
      subst r1'
      split at h1
      · rename_i hb
        refine ⟨j, rfl, hb.2.2.1, hb.2.2.2, ?_⟩
        have := h1 (Itr 0 (j - 0).toNat) ρ1 H1 m1 rng_src .refl
        rwa [Int.sub_zero] at this
      · exact h1.elim
    · exact h1.elim⟩
theorem i_rng2 {tg : Expr} {p : Pos} (hg : Gl X "range") (hm : X.mg "range" = none) (ha : PA X [a, b] (tCons (tEx K W ea) (tCons (tEx K W eb) tNil))) (hs : starEach [a, b] X.env = [(false, eval a X.env), (false, eval b X.env)]) (hs2 : starEach [b] X.env = [(false, eval b X.env)]) :
    PI X tg (.Call (.Name "range" p) [a, b] [] pos) (tIx K W fun e M => (ea e M).bind fun x M => (eb e M).bind fun y M => rngSrc x y M) :=
  (pi_range2 hg hm ha hs hs2).imp fun σ H R ⟨ρ, e, M, he, hm, hp⟩ => ⟨ρ, e, M, he, hm, Post.bind (R := RP K) hp fun x M1 v ρ1 H1 m1 r1 x1 h1 =>
    ⟨ρ1, e, M1, he.ext x1, m1, Post.bind (R := RP K) h1 fun y M2 u ρ2 H2 m2 r2 x2 h2 => by
      unfold rngSrc at h2
      split at h2
      · rename_i i j
        have r1' : RelP K ρ1 H1 (.int i) v := r1
        have r2' : RelP K ρ2 H2 (.int j) u := r2
        rw [relP_int] at r1' r2'
        subst r1' r2'
        split at h2
        · rename_i hb
          exact ⟨i, j, rfl, ⟨hb.1, hb.2.1, hb.2.2.1, hb.2.2.2⟩, h2 (Itr i (j - i).toNat) ρ2 H2 m2 rng_src .refl⟩
        · exact h2.elim
      · exact h2.elim⟩⟩
theorem enum_get : ∀ (xs : List PV) (k i : Nat) (y : PV), (enumFrom k xs)[i]? = some y → ∃ x, xs[i]? = some x ∧ y = .tup [.int ((k + i : Nat) : Int), x]
  | [], _, _, _, h => by simp [enumFrom] at h
  | x :: xs, k, 0, y, h => by
    simp [enumFrom] at h
    exact ⟨x, rfl, by rw [← h]; rfl⟩
  | x :: xs, k, i + 1, y, h => by
    have h' : (enumFrom (k + 1) xs)[i]? = some y := by simpa [enumFrom] using h
    obtain ⟨z, h1, h2⟩ := enum_get xs (k + 1) i y h'
    refine ⟨z, by simpa using h1, ?_⟩
    rw [h2, show k + 1 + i = k + (i + 1) by omega]
theorem enum_len : ∀ (xs : List PV) (k : Nat), (enumFrom k xs).length = xs.length
  | [], _ => rfl
  | x :: xs, k => by simp [enumFrom, enum_len xs (k + 1)]
theorem i_enum {elts : List Expr} {kk : Nat} {tpos p : Pos} (hK : X.K = K.F) (hg : Gl X "enumerate") (hm : X.mg "enumerate" = none) (ha : PA X [a] (tCons (tEx K W ea) tNil)) (hs : starEach [a] X.env = [(false, eval a X.env)]) :
    PI X (.Tuple elts kk tpos) (.Call (.Name "enumerate" p) [a] [] pos) (tIx K W fun e M => (ea e M).bind fun x M => enumSrc x M) :=
  (pi_enum hg hm ha hs).imp fun σ H R ⟨ρ, e, M, he, hm, hp⟩ => ⟨ρ, e, M, he, hm, Post.bind (R := RP K) hp fun x M1 v ρ1 H1 m1 r1 x1 h1 => by
    have h1' : Post K (SrcJ K) (WEx K W σ) R ρ1 H1 ((listSrc x M1).bind fun s M => .ok ⟨enumFrom 0 s.items, s.cell⟩ M) := h1
    obtain ⟨ad, ev, ⟨xs, hsq⟩, q⟩ := src_list (X := X) (Qi := fun J H' => ∀ ad, v = .ref ad → J = Itl X.K ad → R (Ite X.K ad) H') hK m1 r1 (Post.bind h1' fun s M2 J ρ2 H2 m2 r2 x2 h2 => fun ad _ eJ => by
      refine h2 (Ite X.K ad) ρ2 H2 m2 (fun ρ3 H3 M3 x3 m3 st => ?_) .refl
      have st' : s.still M3 = true := st
      obtain ⟨g1, g2⟩ := r2 ρ3 H3 M3 x3 m3 st'
      rw [eJ] at g1 g2
      refine ⟨fun i y hy => ?_, fun i hi => g2 i (by have := enum_len s.items 0; rw [← this]; exact hi)⟩
      obtain ⟨z, hz, rfl⟩ := enum_get s.items 0 i y hy
      obtain ⟨⟨xs, w, k1, k2⟩, k3⟩ := g1 i z hz
      refine ⟨⟨xs, w, k1, k2⟩, fun v H' hy' => ?_⟩
      obtain ⟨T, u, rfl, hT, rfl, hu⟩ := hy'
      obtain ⟨_, ru, _⟩ := k3 u H3 ⟨rfl, hu⟩
      have gx : Ext ρ3 H3 ρ3 (upd H3 T (.tup [.int (i : Nat), u])) := .fresh0 hT
      exact ⟨m3.grow hT, relP_tup.mpr ⟨T, _, rfl, .inl upd_same, .mk (relP_int.mpr (by rw [Nat.zero_add])) (.mk (ru.ext gx) .nil)⟩, gx⟩)
    subst ev
    exact ⟨ad, xs, rfl, hsq, q ad rfl rfl⟩⟩
end
end Q

/-! QI: comprehensions, cells that go, statements, loops. -/
namespace Q
open PySem PySem.Spec PyProof.Rows L2
section
variable {K : Par} {n : Nat} {pr : Pg} {cl : Nat → List PV → Store → Res PV} {W : WX} {N : List Str} {sc : Scope} {fnf : Str → Bool} {X : Cx} {pos : Pos} {a b c : Expr} {ea eb ec : PEnv → Store → Res PV}
variable {ρ ρ' ρ1 : List Addr} {H H' H1 : Hp} {M : Store} {WE : Ex → List Addr → Hp → Prop} {Q : VK}

/-! ### slots wiped -/
theorem wipe_at (σ : L2.St) (j : Nat) : ∀ vs : List Nat, j < σ.length → (L2.wipe σ vs)[j]? = if j ∈ vs then some none else σ[j]?
  | [], h => by simp [L2.wipe]
  | v :: vs, h => by
    unfold L2.wipe
    by_cases e : v = j
    · subst e
      rw [List.getElem?_set_self (by rw [wipe_length]; exact h)]
      simp
    · rw [List.getElem?_set_ne e, wipe_at σ j vs h]
      have : ¬ j = v := fun z => e z.symm
      simp [this]
theorem wipe_agree {σ0 σ : L2.St} {vs sl : List Nat} (hl : σ.length = σ0.length) (h : ∀ j, j ∉ sl → σ[j]? = (L2.wipe σ0 vs)[j]?) (hs : ∀ j ∈ sl, j ∈ vs) : L2.wipe σ vs = L2.wipe σ0 vs := by
  apply List.ext_getElem?
  intro j
  by_cases hj : j < σ.length
  · rw [wipe_at σ j vs hj, wipe_at σ0 j vs (by omega)]
    split
    · rfl
    · rename_i hn
      rw [h j fun z => hn (hs j z), wipe_at σ0 j vs (by omega), if_neg hn]
  · rw [List.getElem?_eq_none (by rw [wipe_length]; omega), List.getElem?_eq_none (by rw [wipe_length]; omega)]
/-- beside the store: a list is made -/
theorem Ext.beside {ρ1 ρ : List Addr} {H1 H : Hp} {D : Addr} {o : HO} (x : Ext ρ1 H1 ρ H) (h : H1 D = none) : Ext ρ1 H1 ρ (L2.upd H D o) :=
  ⟨x.pre, fun a xs e => by rw [upd_ne (ne_of_none e h)]; exact x.tups a xs e, fun a ob xs e => by rw [upd_ne (ne_of_none e h)]; exact x.frz a ob xs e,
   fun a ob e hn => by rw [upd_ne (ne_of_none e h)]; exact x.frame a ob e hn, fun a e => x.dom a (upd_none e)⟩
theorem RelM.notin {D : Addr} (m : RelM K ρ H M) (h : H D = none) : D ∉ ρ := fun hm => by
  obtain ⟨o, e, _⟩ := m.mem hm
  rw [h] at e
  cases e
/-- a change of what no cell holds -/
theorem RelP.beside {D : Addr} {o o' : HO} (hD : H D = some o) (ho : MutO o) : ∀ (p : PV) {v : V}, RelP K ρ H p v → RelP K ρ (L2.upd H D o') p v := fun p v r => by
  have x : Ext ρ (fun b => if b = D then none else H b) ρ (L2.upd H D o') := by
    refine ⟨⟨[], by simp, fun _ z => nomatch z⟩, ?_, ?_, ?_, ?_⟩
    · intro a xs e
      have hne : a ≠ D := fun z => by simp [z] at e
      simp [hne] at e
      rw [upd_ne hne]
      exact e
    · intro a ob xs e
      have hne : a ≠ D := fun z => by simp [z] at e
      simp [hne] at e
      rw [upd_ne hne]
      exact e
    · intro a ob e _
      have hne : a ≠ D := fun z => by simp [z] at e
      simp [hne] at e
      rw [upd_ne hne]
      exact e
    · intro a e
      by_cases hne : a = D
      · simp [hne]
      · rw [upd_ne hne] at e
        simp [hne, e]
  have back : ∀ (p : PV) {v : V}, RelP K ρ H p v → RelP K ρ (fun b => if b = D then none else H b) p v := by
    have key : ∀ {a : Addr} {u : HO}, ¬ MutO u → H a = some u → (if a = D then none else H a) = some u := fun {a u} hn e => by
      have hne : a ≠ D := fun z => by
        rw [z, hD] at e
        cases e
        exact hn ho
      rw [if_neg hne]
      exact e
    have x2 : Ext ρ H ρ (fun b => if b = D then none else H b) → True := fun _ => trivial
    intro p v r
    exact relP_back key p r
  exact RelP.ext x p (back p r)
where
  relP_back {K : Par} {ρ : List Addr} {H H' : Hp} (key : ∀ {a : Addr} {u : HO}, ¬ MutO u → H a = some u → H' a = some u) : ∀ (p : PV) {v : V}, RelP K ρ H p v → RelP K ρ H' p v := by
    have tup : ∀ {a : Addr} {xs : List PV} {vs : List V}, TupAt K H a xs vs → TupAt K H' a xs vs := fun h => by
      rcases h with h | h
      · exact .inl (key (u := .tup _) (fun z => z) h)
      · exact .inr h
    have fro : ∀ {a : Addr} {vs : List V}, Fro K.F H a vs → Fro K.F H' a vs := fun h => by
      rcases h with ⟨o, h⟩ | h
      · exact .inl ⟨o, key (u := .frz o (.lst _)) (fun z => z) h⟩
      · exact .inr h
    exact relP_of tup fro
  relP_of {K : Par} {ρ : List Addr} {H H' : Hp} (tup : ∀ {a : Addr} {xs : List PV} {vs : List V}, TupAt K H a xs vs → TupAt K H' a xs vs) (fro : ∀ {a : Addr} {vs : List V}, Fro K.F H a vs → Fro K.F H' a vs) : ∀ (p : PV) {v : V}, RelP K ρ H p v → RelP K ρ H' p v
    | .non, _, h => by rw [RelP] at h ⊢; exact h
    | .bl _, _, h => by rw [RelP] at h ⊢; exact h
    | .int _, _, h => by rw [RelP] at h ⊢; exact h
    | .str _, _, h => by rw [RelP] at h ⊢; exact h
    | .ty _, _, h => by rw [RelP] at h ⊢; exact h
    | .tup xs, _, h => by
      rw [RelP] at h ⊢
      obtain ⟨a, vs, e, hs, hr⟩ := h
      exact ⟨a, vs, e, tup hs, relPs_of tup fro xs hr⟩
    | .ref n, _, h => by rw [RelP] at h ⊢; exact h
    | .fro ns, _, h => by
      rw [RelP] at h ⊢
      obtain ⟨a, e, hn⟩ := h
      exact ⟨a, e, fro hn⟩
  relPs_of {K : Par} {ρ : List Addr} {H H' : Hp} (tup : ∀ {a : Addr} {xs : List PV} {vs : List V}, TupAt K H a xs vs → TupAt K H' a xs vs) (fro : ∀ {a : Addr} {vs : List V}, Fro K.F H a vs → Fro K.F H' a vs) : ∀ (ps : List PV) {vs : List V}, RelPs K ρ H ps vs → RelPs K ρ H' ps vs
    | [], _, h => by rw [RelPs] at h ⊢; exact h
    | p :: ps, _, h => by
      rw [RelPs] at h ⊢
      obtain ⟨v, r, e, h1, h2⟩ := h
      exact ⟨v, r, e, relP_of tup fro p h1, relPs_of tup fro ps h2⟩
theorem RelPs.beside {D : Addr} {o o' : HO} (hD : H D = some o) (ho : MutO o) : ∀ {ps : List PV} {vs : List V}, RelPs K ρ H ps vs → RelPs K ρ (L2.upd H D o') ps vs
  | [], _, h => by rw [relPs_nil.mp h]; exact .nil
  | p :: ps, _, h => by
    obtain ⟨v, r, rfl, h1, h2⟩ := relPs_cons.mp h
    exact .mk (RelP.beside hD ho p h1) (RelPs.beside hD ho h2)
theorem RelM.beside {D : Addr} {o o' : HO} (m : RelM K ρ H M) (hD : H D = some o) (ho : MutO o) (hn : D ∉ ρ) : RelM K ρ (L2.upd H D o') M :=
  ⟨m.len, m.nd, fun k ad c h1 h2 => by
    obtain ⟨u, e1, e2⟩ := m.cell k ad c h1 h2
    have hne : ad ≠ D := fun z => hn (z ▸ List.mem_of_getElem? h1)
    refine ⟨u, by rw [upd_ne hne]; exact e1, ?_⟩
    cases c with
    | lst xs => obtain ⟨vs, e, r⟩ := e2; exact ⟨vs, e, r.beside hD ho⟩
    | dK l => obtain ⟨vs, e, r⟩ := e2; exact ⟨vs, e, Paired.mapP r fun _ _ z => ⟨z.1, RelP.beside hD ho _ z.2⟩⟩
    | dT l => obtain ⟨vs, e, r⟩ := e2; exact ⟨vs, e, Paired.mapP r fun _ _ z => ⟨z.1, RelP.beside hD ho _ z.2⟩⟩⟩
/-! ### [elt for t in it if c] -/
abbrev W0 : WX := fun _ _ _ _ => False
theorem comp_read {wi : TI} {g : TG} {tt : TT} {te : TE} {sl own : List Nat} {ei : PEnv → Store → Res Src} {et : PV → PEnv → Store → Res PEnv} {etst : PEnv → Store → Res Bool} {eelt : PEnv → Store → Res PV} (hs : ∀ j ∈ sl, j ∈ own) {σ : L2.St}
    (hwi : wi = tIx K W ei) (hg : g = tTgt K W0 sl et) (htt : tt = tTx K W0 etst) (hte : te = tEx K W0 eelt)
    (h : tEx K W (fun e M => (ei e M).bind fun src M => (compL src.still (fun x M => et x (wipeVs e own) M) etst eelt src.items [] M).bind fun ys M => .ok (.ref M.length) (M ++ [.lst ys])) σ H Q) :
    tLc wi g tt te own σ H Q := by
  subst hwi hg htt hte
  obtain ⟨ρ, e, M, he, hm, hp⟩ := h
  refine ⟨ρ, e, M, he, hm, Post.bind (R := SrcJ K) hp fun src M1 J ρ1 H1 m1 rJ x1 h1 => fun D hD => ?_⟩
  have he1 := he.ext x1
  clear hp hm he x1
  have h1 : Post K (RP K) (WEx K W σ) Q ρ1 H1 ((compL src.still (fun x M => et x (wipeVs e own) M) etst eelt (src.items.drop 0) [] M1).bind fun ys M => .ok (.ref M.length) (M ++ [.lst ys])) := by
    rw [List.drop_zero]
    exact h1
  refine ⟨fun i m Hc => ∃ ρc Mc acc vs, RelM K ρc Hc Mc ∧ Ext ρ1 H1 ρc Hc ∧ D ∉ ρc ∧ Hc D = some (.lst vs) ∧ RelPs K ρc Hc acc vs ∧ i ≤ src.items.length ∧ m = src.items.length - i ∧
    Post K (RP K) (WEx K W σ) Q ρ1 H1 ((compL src.still (fun x M => et x (wipeVs e own) M) etst eelt (src.items.drop i) acc Mc).bind fun ys M => .ok (.ref M.length) (M ++ [.lst ys])),
    ⟨src.items.length, ρ1, M1, [], [], m1.grow hD, Ext.fresh0 hD, m1.notin hD, upd_same, .nil, Nat.zero_le _, rfl, h1⟩, ?_⟩
  rintro i m Hc ⟨ρc, Mc, acc, vs, mc, xc, nD, hDc, rc, hi, rfl, hp⟩
  by_cases hlt : i < src.items.length
  · rw [List.drop_eq_getElem_cons hlt] at hp
    have hget : src.items[i]? = some src.items[i] := List.getElem?_eq_getElem hlt
    generalize src.items[i] = x at hp hget
    unfold compL at hp
    split at hp
    · rename_i st
      obtain ⟨g1, g2⟩ := rJ ρc Hc Mc xc mc st
      obtain ⟨go, yl⟩ := g1 i x hget
      refine .inr ⟨go, fun H' => ∃ m', m' < src.items.length - i ∧ ∃ ρc Mc acc vs, RelM K ρc H' Mc ∧ Ext ρ1 H1 ρc H' ∧ D ∉ ρc ∧ H' D = some (.lst vs) ∧ RelPs K ρc H' acc vs ∧ i + 1 ≤ src.items.length ∧ m' = src.items.length - (i + 1) ∧
        Post K (RP K) (WEx K W σ) Q ρ1 H1 ((compL src.still (fun x M => et x (wipeVs e own) M) etst eelt (src.items.drop (i + 1)) acc Mc).bind fun ys M => .ok (.ref M.length) (M ++ [.lst ys])), fun H' z => z, fun v H2 hy => ?_⟩
      obtain ⟨m2, r2, x2⟩ := yl v H2 hy
      have he2 := (he1.ext (xc.trans x2)).wipes own
      refine ⟨ρc, wipeVs e own, Mc, x, he2, m2, r2, ?_⟩
      dsimp only
      cases h3 : et x (wipeVs e own) Mc with
      | bad => rw [h3] at hp; exact hp.elim
      | exc y M3 => rw [h3] at hp; exact hp.elim
      | ok e3 M3 =>
        rw [h3] at hp
        intro σ3 ρ3 H3 m3 r3 x3
        refine ⟨wipe_agree (by rw [r3.2.1, wipe_length]) r3.2.2 hs, ρ3, e3, M3, r3.1, m3, ?_⟩
        simp only [Res.noexc_ok, Res.bind_ok] at hp
        cases h4 : etst e3 M3 with
        | bad => rw [h4] at hp; exact hp.elim
        | exc y M4 => rw [h4] at hp; exact hp.elim
        | ok k M4 =>
          rw [h4] at hp
          simp only [Res.noexc_ok, Res.bind_ok] at hp
          intro k' ρ4 H4 m4 r4 x4
          have r4 : k = k' := r4
          subst r4
          have x14 : Ext ρ1 H1 ρ4 H4 := xc.trans (x2.trans (x3.trans x4))
          have xc4 : Ext ρc Hc ρ4 H4 := x2.trans (x3.trans x4)
          have hD4 : H4 D = some (.lst vs) := xc4.frame D _ hDc nD
          have nD4 : D ∉ ρ4 := fun hm => by
            obtain ⟨t, rfl, ht⟩ := xc4.pre
            rcases List.mem_append.mp hm with z | z
            · exact nD z
            · have := ht D z
              rw [hDc] at this
              cases this
          cases k with
          | false =>
            rw [if_neg (by decide)]
            rw [if_neg (by decide)] at hp
            exact ⟨src.items.length - (i + 1), by omega, ρ4, M4, acc, vs, m4, x14, nD4, hD4, rc.ext xc4, hlt, rfl, hp⟩
          | true =>
            rw [if_pos rfl]
            rw [if_pos rfl] at hp
            refine ⟨ρ4, e3, M4, r3.1.ext x4, m4, ?_⟩
            cases h5 : eelt e3 M4 with
            | bad => rw [h5] at hp; exact hp.elim
            | exc y M5 => rw [h5] at hp; exact hp.elim
            | ok y M5 =>
              rw [h5] at hp
              simp only [Res.noexc_ok, Res.bind_ok] at hp
              intro w ρ5 H5 m5 r5 x5
              split at hp
              · rename_i hz
                have hD5 : H5 D = some (.lst vs) := x5.frame D _ hD4 nD4
                have nD5 : D ∉ ρ5 := fun hm => by
                  obtain ⟨t, rfl, ht⟩ := x5.pre
                  rcases List.mem_append.mp hm with z | z
                  · exact nD4 z
                  · have := ht D z
                    rw [hD4] at this
                    cases this
                have rc5 := rc.ext (xc4.trans x5)
                refine ⟨vs, hD5, by rw [← rc.length]; exact hz, src.items.length - (i + 1), by omega, ρ5, M5, acc ++ [y], vs ++ [w], m5.beside hD5 trivial nD5, (x14.trans x5).beside hD, nD5, upd_same,
                  (rc5.append (.mk r5 .nil)).beside hD5 trivial, hlt, rfl, hp⟩
              · exact hp.elim
    · exact hp.elim
  · have ei : i = src.items.length := by omega
    subst ei
    rw [List.drop_length] at hp
    unfold compL at hp
    split at hp
    · rename_i st
      obtain ⟨g1, g2⟩ := rJ ρc Hc Mc xc mc st
      refine .inl ⟨g2 _ (Nat.le_refl _), ?_⟩
      -- the list becomes a cell
      have mn : RelM K (ρc ++ [D]) Hc (Mc ++ [.lst acc]) := by
        obtain ⟨t, rfl, ht⟩ := xc.pre
        refine ⟨by have := mc.len; simp at this ⊢; omega, List.nodup_append.mpr ⟨mc.nd, by simp, fun p hp q hq => ?_⟩, fun k ad d k1 k2 => ?_⟩
        · have : q = D := by simpa using hq
          subst this
          exact fun z => nD (z ▸ hp)
        · have hpre : ∀ {p : PV} {v : V}, RelP K (ρ1 ++ t) Hc p v → RelP K ((ρ1 ++ t) ++ [D]) Hc p v := fun {p v} r => RelP_pre p r
          by_cases hk : k < (ρ1 ++ t).length
          · rw [List.getElem?_append_left hk] at k1
            rw [List.getElem?_append_left (by rw [← mc.len]; exact hk)] at k2
            obtain ⟨u, z1, z2⟩ := mc.cell k ad d k1 k2
            refine ⟨u, z1, ?_⟩
            cases d with
            | lst xs => obtain ⟨ws, e, r⟩ := z2; exact ⟨ws, e, RelPs_pre r⟩
            | dK l => obtain ⟨ws, e, r⟩ := z2; exact ⟨ws, e, Paired.mapP r fun _ _ z => ⟨z.1, hpre z.2⟩⟩
            | dT l => obtain ⟨ws, e, r⟩ := z2; exact ⟨ws, e, Paired.mapP r fun _ _ z => ⟨z.1, hpre z.2⟩⟩
          · have hn2 : k < (ρ1 ++ t).length + 1 := by
              have := (List.getElem?_eq_some_iff.mp k1).1
              rw [List.length_append] at this
              exact this
            have en : k = (ρ1 ++ t).length := by omega
            subst en
            rw [List.getElem?_append_right (Nat.le_refl _)] at k1
            rw [mc.len, List.getElem?_append_right (Nat.le_refl _)] at k2
            simp at k1 k2
            subst k1 k2
            exact ⟨_, hDc, vs, rfl, RelPs_pre rc⟩
      refine hp (.ref D) (ρc ++ [D]) Hc mn (relP_ref.mpr ⟨D, rfl, mc.last D⟩) ?_
      obtain ⟨t, ht, hf⟩ := xc.pre
      exact ⟨⟨t ++ [D], by rw [ht, List.append_assoc], fun p hp => by
        rcases List.mem_append.mp hp with z | z
        · exact hf p z
        · rw [show p = D by simpa using z]; exact hD⟩, xc.tups, xc.frz, xc.frame, xc.dom⟩
    · exact hp.elim
where
  RelP_pre {K : Par} {ρ t : List Addr} {H : Hp} : ∀ (p : PV) {v : V}, RelP K ρ H p v → RelP K (ρ ++ t) H p v
    | .non, _, h => by rw [RelP] at h ⊢; exact h
    | .bl _, _, h => by rw [RelP] at h ⊢; exact h
    | .int _, _, h => by rw [RelP] at h ⊢; exact h
    | .str _, _, h => by rw [RelP] at h ⊢; exact h
    | .ty _, _, h => by rw [RelP] at h ⊢; exact h
    | .tup xs, _, h => by
      rw [RelP] at h ⊢
      obtain ⟨a, vs, e, hs, hr⟩ := h
      exact ⟨a, vs, e, hs, RelPs_pre' xs hr⟩
    | .ref n, _, h => by
      rw [RelP] at h ⊢
      obtain ⟨a, e, hn⟩ := h
      have hn' : n < ρ.length := (List.getElem?_eq_some_iff.mp hn).1
      exact ⟨a, e, by rw [List.getElem?_append_left hn']; exact hn⟩
    | .fro ns, _, h => by rw [RelP] at h ⊢; exact h
  RelPs_pre' {K : Par} {ρ t : List Addr} {H : Hp} : ∀ (ps : List PV) {vs : List V}, RelPs K ρ H ps vs → RelPs K (ρ ++ t) H ps vs
    | [], _, h => by rw [RelPs] at h ⊢; exact h
    | p :: ps, _, h => by
      rw [RelPs] at h ⊢
      obtain ⟨v, r, e, h1, h2⟩ := h
      exact ⟨v, r, e, RelP_pre p h1, RelPs_pre' ps h2⟩
  RelPs_pre {K : Par} {ρ t : List Addr} {H : Hp} {ps : List PV} {vs : List V} (h : RelPs K ρ H ps vs) : RelPs K (ρ ++ t) H ps vs := RelPs_pre' ps h
end
end Q

/-! QJ: cells that go, statements, loops. -/
namespace Q
open PySem PySem.Spec PyProof.Rows L2
section
variable {K : Par} {n : Nat} {pr : Pg} {cl : Nat → List PV → Store → Res PV} {W : WX} {N : List Str} {sc : Scope} {fnf : Str → Bool} {X : Cx} {pos : Pos} {a b c : Expr} {ea eb ec : PEnv → Store → Res PV}
variable {ρ ρ' ρ1 : List Addr} {H H' H1 : Hp} {M : Store} {WE : Ex → List Addr → Hp → Prop} {Q : VK}

/-! ### cells that go -/
mutual
theorem low_back {t : List Addr} : ∀ (p : PV) {v : V}, RelP K (ρ ++ t) H p v → p.low ρ.length = true → RelP K ρ H p v
  | .non, _, h, _ => by rw [RelP] at h ⊢; exact h
  | .bl _, _, h, _ => by rw [RelP] at h ⊢; exact h
  | .int _, _, h, _ => by rw [RelP] at h ⊢; exact h
  | .str _, _, h, _ => by rw [RelP] at h ⊢; exact h
  | .ty _, _, h, _ => by rw [RelP] at h ⊢; exact h
  | .tup xs, _, h, l => by
    rw [RelP] at h ⊢
    rw [PV.low] at l
    obtain ⟨a, vs, e, hs, hr⟩ := h
    exact ⟨a, vs, e, hs, lows_back xs hr l⟩
  | .ref n, _, h, l => by
    rw [RelP] at h ⊢
    rw [PV.low] at l
    obtain ⟨a, e, hn⟩ := h
    rw [List.getElem?_append_left (of_decide_eq_true l)] at hn
    exact ⟨a, e, hn⟩
  | .fro ns, _, h, _ => by rw [RelP] at h ⊢; exact h
theorem lows_back {t : List Addr} : ∀ (ps : List PV) {vs : List V}, RelPs K (ρ ++ t) H ps vs → PV.lows ρ.length ps = true → RelPs K ρ H ps vs
  | [], _, h, _ => by rw [RelPs] at h ⊢; exact h
  | p :: ps, _, h, l => by
    rw [RelPs] at h ⊢
    rw [PV.lows, Bool.and_eq_true] at l
    obtain ⟨v, r, e, h1, h2⟩ := h
    exact ⟨v, r, e, low_back p h1 l.1, lows_back ps h2 l.2⟩
end
mutual
theorem is_low : ∀ (p : PV) {v : V}, RelP K ρ H p v → p.low ρ.length = true
  | .non, _, _ => by simp [PV.low]
  | .bl _, _, _ => by simp [PV.low]
  | .int _, _, _ => by simp [PV.low]
  | .str _, _, _ => by simp [PV.low]
  | .ty _, _, _ => by simp [PV.low]
  | .fro _, _, _ => by simp [PV.low]
  | .tup xs, _, h => by
    rw [RelP] at h
    rw [PV.low]
    obtain ⟨a, vs, e, hs, hr⟩ := h
    exact are_low xs hr
  | .ref n, _, h => by
    rw [RelP] at h
    rw [PV.low]
    obtain ⟨a, e, hn⟩ := h
    exact decide_eq_true (List.getElem?_eq_some_iff.mp hn).1
theorem are_low : ∀ (ps : List PV) {vs : List V}, RelPs K ρ H ps vs → PV.lows ρ.length ps = true
  | [], _, _ => by rw [PV.lows]
  | p :: ps, _, h => by
    rw [RelPs] at h
    obtain ⟨v, r, e, h1, h2⟩ := h
    rw [PV.lows, is_low p h1, are_low ps h2]
    rfl
end
theorem kv_low {κ : Type} {l : List (κ × PV)} {r : List (κ × V)} (h : RelKV K ρ H l r) : (l.all fun p => p.2.low ρ.length) = true := by
  unfold RelKV at h
  induction h with
  | nil => rfl
  | @cons p q ps qs h t ih => rw [List.all_cons, is_low _ h.2, ih]; rfl
theorem kv_back {κ : Type} {t : List Addr} {l : List (κ × PV)} {r : List (κ × V)} (h : RelKV K (ρ ++ t) H l r) (hl : (l.all fun p => p.2.low ρ.length) = true) : RelKV K ρ H l r := by
  unfold RelKV at h ⊢
  induction h with
  | nil => exact .nil
  | @cons p q ps qs h t ih =>
    rw [List.all_cons, Bool.and_eq_true] at hl
    exact .cons ⟨h.1, low_back _ h.2 hl.1⟩ (ih hl.2)
theorem cell_low {d : Cell} {o : HO} (h : RelC K ρ H d o) : d.low ρ.length = true := by
  cases d with
  | lst xs => obtain ⟨vs, _, r⟩ := h; exact are_low xs r
  | dK l => obtain ⟨vs, _, r⟩ := h; exact kv_low r
  | dT l => obtain ⟨vs, _, r⟩ := h; exact kv_low r
theorem cell_back {t : List Addr} {d : Cell} {o : HO} (h : RelC K (ρ ++ t) H d o) (hl : d.low ρ.length = true) : RelC K ρ H d o := by
  cases d with
  | lst xs => obtain ⟨vs, e, r⟩ := h; exact ⟨vs, e, lows_back xs r hl⟩
  | dK l => obtain ⟨vs, e, r⟩ := h; exact ⟨vs, e, kv_back r hl⟩
  | dT l => obtain ⟨vs, e, r⟩ := h; exact ⟨vs, e, kv_back r hl⟩
theorem gcOk_at {n : Nat} : ∀ {cs ds : Store} {i : Nat} {d : Cell}, gcOk n cs ds = true → ds[i]? = some d → cs[i]? = some d ∨ d.low n = true
  | [], [], i, d, _, e => by simp at e
  | [], _ :: _, i, d, h, e => by simp [gcOk] at h
  | _ :: _, [], i, d, h, e => by simp at e
  | c :: cs, d' :: ds, 0, d, h, e => by
    simp at e
    subst e
    rw [gcOk, Bool.and_eq_true, Bool.or_eq_true] at h
    rcases h.1 with z | z
    · exact .inl (by rw [Cell.eq_of_beq z]; rfl)
    · exact .inr z
  | c :: cs, d' :: ds, i + 1, d, h, e => by
    rw [gcOk, Bool.and_eq_true] at h
    have := gcOk_at (i := i) h.2 (by simpa using e)
    simpa using this
theorem gc_post {r : Res PV} (m : RelM K ρ H M) (h : Post K (RP K) WE Q ρ H (r.bind fun x M' => gcR M x M')) : Post K (RP K) WE Q ρ H r := by
  cases r with
  | exc x M' => exact h
  | bad => exact h
  | ok x M' =>
    have h : Post K (RP K) WE Q ρ H (gcR M x M') := h
    unfold gcR at h
    split at h
    · exact h
    · split at h
      · rename_i hc
        rw [Bool.and_eq_true] at hc
        intro v ρ' H' m' r' x'
        obtain ⟨t, rfl, ht⟩ := x'.pre
        have hlen : M.length = ρ.length := m.len.symm
        rw [hlen] at hc h
        refine h v ρ H' ⟨?_, m.nd, fun k ad d k1 k2 => ?_⟩ (low_back x r' hc.1) ⟨⟨[], by simp, fun _ z => nomatch z⟩, x'.tups, x'.frz, x'.frame, x'.dom⟩
        · have := m'.len
          rw [List.length_append] at this
          rw [List.length_take]
          omega
        · have hk : k < ρ.length := (List.getElem?_eq_some_iff.mp k1).1
          have k2' : M'[k]? = some d := by
            rw [List.getElem?_take, if_pos hk] at k2
            exact k2
          obtain ⟨o, z1, z2⟩ := m'.cell k ad d (by rw [List.getElem?_append_left hk]; exact k1) k2'
          refine ⟨o, z1, cell_back z2 ?_⟩
          rcases gcOk_at hc.2 k2 with z | z
          · obtain ⟨_, _, q⟩ := m.cell k ad d k1 z
            exact cell_low q
          · exact z
      · exact h
theorem g_gc (ha : PE X a (tEx K W ea)) : PE X a (tEx K W fun e M => (ea e M).bind fun x M' => gcR M x M') :=
  ha.imp fun σ H Q ⟨ρ, e, M, he, hm, hp⟩ => ⟨ρ, e, M, he, hm, gc_post hm hp⟩
/-! ### statements -/
def PostS (K : Par) (W : WX) (D : Ends) (ρ : List Addr) (H : Hp) : RS → Prop
  | .nx e M => ∀ σ' ρ' H', RelE K ρ' H' e σ' → RelM K ρ' H' M → Ext ρ H ρ' H' → D.nx σ' H'
  | .bk e M => ∀ σ' ρ' H', RelE K ρ' H' e σ' → RelM K ρ' H' M → Ext ρ H ρ' H' → D.bk σ' H'
  | .ct e M => ∀ σ' ρ' H', RelE K ρ' H' e σ' → RelM K ρ' H' M → Ext ρ H ρ' H' → D.ct σ' H'
  | .rt x M => ∀ v ρ' H', RelM K ρ' H' M → RelP K ρ' H' x v → Ext ρ H ρ' H' → D.rt v H'
  | .exc x e M => ∀ σ' ρ' H' cls d, RelE K ρ' H' e σ' → RelM K ρ' H' M → Ext ρ H ρ' H' → RelX K ρ' H' x cls d → W cls d σ' H'
  | .bad => False
def tSx (K : Par) (W : WX) (ev : PEnv → Store → RS) : TS := fun D σ H => ∃ ρ e M, RelE K ρ H e σ ∧ RelM K ρ H M ∧ PostS K W D ρ H (ev e M)
theorem PostS.shift {D : Ends} {r : RS} (x : Ext ρ H ρ1 H1) (h : PostS K W D ρ H r) : PostS K W D ρ1 H1 r := by
  cases r with
  | nx e M => exact fun σ' ρ' H' he hm y => h σ' ρ' H' he hm (x.trans y)
  | bk e M => exact fun σ' ρ' H' he hm y => h σ' ρ' H' he hm (x.trans y)
  | ct e M => exact fun σ' ρ' H' he hm y => h σ' ρ' H' he hm (x.trans y)
  | rt v M => exact fun v ρ' H' hm hr y => h v ρ' H' hm hr (x.trans y)
  | exc x' e M => exact fun σ' ρ' H' cls d he hm y => h σ' ρ' H' cls d he hm (x.trans y)
  | bad => exact h
/-- an expression within a statement -/
theorem PostS.to {α β : Type} {R : List Addr → Hp → α → β → Prop} {D : Ends} {r : Res α} {e : PEnv} {σ : L2.St} {f : α → Store → RS} {Q : β → Hp → Prop} (he : RelE K ρ H e σ) (h : PostS K W D ρ H (r.to e f))
    (k : ∀ a M1 b ρ1 H1, RelM K ρ1 H1 M1 → R ρ1 H1 a b → Ext ρ H ρ1 H1 → PostS K W D ρ1 H1 (f a M1) → Q b H1) : Post K R (WEx K W σ) Q ρ H r := by
  cases r with
  | ok a M => exact fun b ρ' H' m r y => k a M b ρ' H' m r y (PostS.shift y h)
  | exc x M => exact fun ρ' H' m y cls d rx => h σ ρ' H' cls d (he.ext y) m y rx
  | bad => exact h
theorem s_asg {sl : List Nat} {et : PV → PEnv → Store → Res PEnv} {tg : Expr} (he : PE X a (tEx K W ea)) (hg : PG X tg (tTgt K W sl et)) (hs : swapsWithSole [tg] a pos.line X.env = pure false) (hw : swappedStores [tg] a X.env = pure none) (h1 : (assignEach [tg] X.env).map (·.2) = [assign tg X.env]) :
    PS X (.Assign [tg] a pos) (tSx K W fun e M => (ea e M).to e fun x M => (et x e M).to e fun e M => .nx e M) :=
  (ps_asg he hg hs hw h1).imp fun D σ H ⟨ρ, e, M, he, hm, hp⟩ => ⟨ρ, e, M, he, hm, PostS.to he hp fun x M1 v ρ1 H1 m1 r1 x1 h1 =>
    ⟨ρ1, e, M1, x, he.ext x1, m1, r1, PostS.to (he.ext x1) h1 fun e2 M2 σ2 ρ2 H2 m2 r2 x2 h2 => h2 σ2 ρ2 H2 r2.1 m2 .refl⟩⟩
theorem s_expr (he : PE X a (tEx K W ea)) (hs : swapsWith a none pos.line X.env = pure false) : PS X (.Expr a pos) (tSx K W fun e M => (ea e M).to e fun _ M => .nx e M) :=
  (ps_expr he hs).imp fun D σ H ⟨ρ, e, M, he, hm, hp⟩ => ⟨ρ, e, M, he, hm, PostS.to he hp fun x M1 v ρ1 H1 m1 r1 x1 h1 => h1 σ ρ1 H1 (he.ext x1) m1 .refl⟩
theorem s_ret (he : PE X a (tEx K W ea)) : PS X (.Return (some a) pos) (tSx K W fun e M => (ea e M).to e fun x M => .rt x M) :=
  (ps_ret he).imp fun D σ H ⟨ρ, e, M, he, hm, hp⟩ => ⟨ρ, e, M, he, hm, PostS.to he hp fun x M1 v ρ1 H1 m1 r1 x1 h1 => h1 v ρ1 H1 m1 r1 .refl⟩
theorem s_retN : PS X (.Return none pos) (tSx K W fun _ M => .rt .non M) :=
  ps_retN.imp fun D σ H ⟨ρ, e, M, he, hm, hp⟩ => hp .non ρ H hm (relP_non.mpr rfl) .refl
theorem s_brk : PS X (.Break pos) (tSx K W fun e M => .bk e M) := ps_break.imp fun D σ H ⟨ρ, e, M, he, hm, hp⟩ => hp σ ρ H he hm .refl
theorem s_cont : PS X (.Continue pos) (tSx K W fun e M => .ct e M) := ps_continue.imp fun D σ H ⟨ρ, e, M, he, hm, hp⟩ => hp σ ρ H he hm .refl
theorem s_pass : PS X (.Pass pos) (tSx K W fun e M => .nx e M) := ps_pass.imp fun D σ H ⟨ρ, e, M, he, hm, hp⟩ => hp σ ρ H he hm .refl
theorem s_nil : PSs X [] (tSx K W fun e M => .nx e M) := pss_nil.imp fun D σ H ⟨ρ, e, M, he, hm, hp⟩ => hp σ ρ H he hm .refl
theorem s_cons {s : Stmt} {r : List Stmt} {es er : PEnv → Store → RS} (h1 : PS X s (tSx K W es)) (h2 : PSs X r (tSx K W er)) : PSs X (s :: r) (tSx K W fun e M => (es e M).seq fun e M => er e M) :=
  (pss_cons h1 h2).imp fun D σ H ⟨ρ, e, M, he, hm, hp⟩ => ⟨ρ, e, M, he, hm, by
    cases h3 : es e M with
    | nx e1 M1 =>
      dsimp only at hp
      rw [h3] at hp
      exact fun σ1 ρ1 H1 he1 hm1 x1 => ⟨ρ1, e1, M1, he1, hm1, PostS.shift x1 hp⟩
    | bk e1 M1 => dsimp only at hp; rw [h3] at hp; exact hp
    | ct e1 M1 => dsimp only at hp; rw [h3] at hp; exact hp
    | rt v M1 => dsimp only at hp; rw [h3] at hp; exact hp
    | exc x e1 M1 => dsimp only at hp; rw [h3] at hp; exact hp
    | bad => dsimp only at hp; rw [h3] at hp; exact hp⟩
theorem tst_to {D : Ends} {e : PEnv} {f : Bool → Store → RS} (h : PostS K W D ρ H ((ea e M).to e fun x M => (truR x M).to e fun t M => f t M)) : PostS K W D ρ H ((tst ea e M).to e f) := by
  unfold tst
  cases h1 : ea e M with
  | ok x M1 =>
    rw [h1] at h
    exact h
  | exc x M1 => rw [h1] at h; exact h
  | bad => rw [h1] at h; exact h
theorem s_ite {p q : List Stmt} {ep eq : PEnv → Store → RS} (hc : PT X c (tTx K W (tst ec))) (hp : PSs X p (tSx K W ep)) (hq : PSs X q (tSx K W eq)) : PS X (.If c p q pos) (tSx K W fun e M => (ec e M).to e fun x M => (truR x M).to e fun t M => match t with
    | true => ep e M
    | false => eq e M) :=
  (ps_if hc hp hq).imp fun D σ H ⟨ρ, e, M, he, hm, hp⟩ => ⟨ρ, e, M, he, hm, PostS.to (R := REq) he (tst_to hp) fun k M1 k' ρ1 H1 m1 r1 x1 h1 => by
    have r1 : k = k' := r1
    subst r1
    cases k with
    | true => rw [if_pos rfl]; exact ⟨ρ1, e, M1, he.ext x1, m1, h1⟩
    | false => rw [if_neg (by decide)]; exact ⟨ρ1, e, M1, he.ext x1, m1, h1⟩⟩
theorem s_whl {p : List Stmt} {ep : PEnv → Store → RS} {B : Nat} (hpo : PassesOwn (model X.prog X.w) X.A X.env X.xe) (hc : PT X c (tTx K W (tst ec))) (hp : PSs X p (tSx K W ep)) : PS X (.While c p [] pos) (tSx K W fun e M => whileL ec ep B e M) :=
  (ps_while hpo hc hp).imp fun D σ H ⟨ρ, e, M, he, hm, hp⟩ => by
    refine ⟨fun m σ H => ∃ ρ e M, RelE K ρ H e σ ∧ RelM K ρ H M ∧ PostS K W D ρ H (whileL ec ep m e M), ⟨B, ρ, e, M, he, hm, hp⟩, ?_⟩
    rintro m σ H ⟨ρ, e, M, he, hm, hp⟩
    cases m with
    | zero => exact hp.elim
    | succ m =>
      refine ⟨ρ, e, M, he, hm, PostS.to (R := REq) he (tst_to hp) fun k M1 k' ρ1 H1 m1 r1 x1 h1 => ?_⟩
      have r1 : k = k' := r1
      subst r1
      cases k with
      | false => rw [if_neg (by decide)]; exact h1 σ ρ1 H1 (he.ext x1) m1 .refl
      | true =>
        rw [if_pos rfl]
        refine ⟨fun σ H => ∃ ρ e M, RelE K ρ H e σ ∧ RelM K ρ H M ∧ PostS K W D ρ H (whileL ec ep m e M), fun σ' H' z => ⟨m, Nat.lt_succ_self _, z⟩, ρ1, e, M1, he.ext x1, m1, ?_⟩
        cases h3 : ep e M1 with
        | nx e2 M2 =>
          simp only [h3] at h1
          exact fun σ2 ρ2 H2 he2 hm2 x2 => ⟨ρ2, e2, M2, he2, hm2, PostS.shift x2 h1⟩
        | ct e2 M2 =>
          simp only [h3] at h1
          exact fun σ2 ρ2 H2 he2 hm2 x2 => ⟨ρ2, e2, M2, he2, hm2, PostS.shift x2 h1⟩
        | bk e2 M2 => simp only [h3] at h1; exact h1
        | rt v M2 => simp only [h3] at h1; exact h1
        | exc x e2 M2 => simp only [h3] at h1; exact h1
        | bad => simp only [h3] at h1; exact h1
theorem s_for {tg it : Expr} {p : List Stmt} {sl : List Nat} {ei : PEnv → Store → Res Src} {et : PV → PEnv → Store → Res PEnv} {ep : PEnv → Store → RS} (hpo : PassesOwn (model X.prog X.w) X.A X.env X.xe) (hc : X.calm = true) (hi : PI X tg it (tIx K W ei)) (hg : PG X tg (tTgt K W sl et))
    (hp : PSs X p (tSx K W ep)) (hs : ∀ x, foldedSetIterable it X.env x = pure x) : PS X (.For tg it p [] pos) (tSx K W fun e M => (ei e M).to e fun src M => forL src.still et ep src.items e M) :=
  (ps_for hpo hc hi hg hp hs).imp fun D σ H ⟨ρ, e, M, he, hm, hp⟩ => by
    refine ⟨ρ, e, M, he, hm, PostS.to he hp fun src M1 J ρ1 H1 m1 rJ x1 h1 => ?_⟩
    have he1 := he.ext x1
    clear hp hm he x1
    refine ⟨fun i m σ Hc => ∃ ρc ec Mc, RelE K ρc Hc ec σ ∧ RelM K ρc Hc Mc ∧ Ext ρ1 H1 ρc Hc ∧ i ≤ src.items.length ∧ m = src.items.length - i ∧ PostS K W D ρc Hc (forL src.still et ep (src.items.drop i) ec Mc),
      ⟨src.items.length, ρ1, e, M1, he1, m1, .refl, Nat.zero_le _, rfl, by rw [List.drop_zero]; exact h1⟩, ?_⟩
    rintro i m σc Hc ⟨ρc, e2, Mc, hec, mc, xc, hi, rfl, hp⟩
    by_cases hlt : i < src.items.length
    · rw [List.drop_eq_getElem_cons hlt] at hp
      have hget : src.items[i]? = some src.items[i] := List.getElem?_eq_getElem hlt
      generalize src.items[i] = x at hp hget
      unfold forL at hp
      split at hp
      · rename_i st
        obtain ⟨g1, g2⟩ := rJ ρc Hc Mc xc mc st
        obtain ⟨go, yl⟩ := g1 i x hget
        refine .inr ⟨go, fun σ H' => ∃ ρc ec Mc, RelE K ρc H' ec σ ∧ RelM K ρc H' Mc ∧ Ext ρ1 H1 ρc H' ∧ i + 1 ≤ src.items.length ∧ PostS K W D ρc H' (forL src.still et ep (src.items.drop (i + 1)) ec Mc),
          fun σ' H' ⟨ρc, ec, Mc, z1, z2, z3, z4, z5⟩ => ⟨src.items.length - (i + 1), by omega, ρc, ec, Mc, z1, z2, z3, z4, rfl, z5⟩, fun v H2 hy => ?_⟩
        obtain ⟨m2, r2, x2⟩ := yl v H2 hy
        refine ⟨ρc, e2, Mc, x, hec.ext x2, m2, r2, PostS.to (hec.ext x2) (PostS.shift x2 hp) fun e3 M3 σ3 ρ3 H3 m3 r3 x3 h3 => ?_⟩
        refine ⟨ρ3, e3, M3, r3.1, m3, ?_⟩
        have x13 : Ext ρ1 H1 ρ3 H3 := xc.trans (x2.trans x3)
        cases h4 : ep e3 M3 with
        | nx e4 M4 =>
          simp only [h4] at h3
          exact fun σ4 ρ4 H4 he4 hm4 x4 => ⟨ρ4, e4, M4, he4, hm4, x13.trans x4, hlt, PostS.shift x4 h3⟩
        | ct e4 M4 =>
          simp only [h4] at h3
          exact fun σ4 ρ4 H4 he4 hm4 x4 => ⟨ρ4, e4, M4, he4, hm4, x13.trans x4, hlt, PostS.shift x4 h3⟩
        | bk e4 M4 => simp only [h4] at h3; exact h3
        | rt v M4 => simp only [h4] at h3; exact h3
        | exc x e4 M4 => simp only [h4] at h3; exact h3
        | bad => simp only [h4] at h3; exact h3
      · exact hp.elim
    · have ei : i = src.items.length := by omega
      subst ei
      rw [List.drop_length] at hp
      unfold forL at hp
      split at hp
      · rename_i st
        obtain ⟨g1, g2⟩ := rJ ρc Hc Mc xc mc st
        exact .inl ⟨g2 _ (Nat.le_refl _), hp σc ρc Hc hec mc .refl⟩
      · exact hp.elim
/-! ### op= -/
theorem aug_ok (o : Bop) : PIp X (opOf o) (rG K (augV o)) := by
  intro pins s σ H v w u1 u2 Q I ru rw' ⟨ρ, M, x, y, WE, rx, ry, m, h⟩
  unfold augV at h
  split at h
  · rw [relP_int] at rx ry
    subst rx ry
    exact iop_add pins s σ H _ _ u1 u2 Q I ru rw' ⟨_, _, rfl, rfl, put_int m h⟩
  · rw [relP_str] at rx ry
    subst rx ry
    split at h
    · exact iop_add_str pins s σ H _ _ u1 u2 Q I ru rw' ⟨_, _, rfl, rfl, (by assumption), put_str m h⟩
    · exact h.elim
  · rw [relP_int] at rx ry
    subst rx ry
    exact iop_sub pins s σ H _ _ u1 u2 Q I ru rw' ⟨_, _, rfl, rfl, put_int m h⟩
  · rw [relP_int] at rx ry
    subst rx ry
    split at h
    · exact iop_mulW pins s σ H _ _ u1 u2 Q I ru rw' ⟨_, _, rfl, rfl, (by assumption), put_int m h⟩
    · exact h.elim
  · rw [relP_int] at rx ry
    subst rx ry
    split at h
    · exact iop_fdivG pins s σ H _ _ u1 u2 Q I ru rw' ⟨_, _, rfl, rfl, (by assumption), put_int m h⟩
    · exact h.elim
  · rw [relP_int] at rx ry
    subst rx ry
    split at h
    · exact iop_mod pins s σ H _ _ u1 u2 Q I ru rw' ⟨_, _, rfl, rfl, (by assumption), put_int m h⟩
    · exact h.elim
  · exact h.elim
theorem s_aug {i : Nat} {x : Str} {o : Bop} {pos' : Pos} (hN : X.N.Nodup) (hi : X.N[i]? = some x) (hx : Loc X.env.scope x) (he : PE X a (tEx K W ea)) (hf : X.fn x = true ∨ X.env.scope.names.lookup x = some .local) : PS X (.AugAssign (.Name x pos') (opOf o) a pos) (tSx K W fun e M => match getV e i with
    | some x => (ea e M).to e fun y M => (augV o x y M).to e fun z M => .nx (setV e i z) M
    | none => .bad) :=
  (ps_aug hN hi hx he (aug_ok (K := K) o) hf).imp fun D σ H ⟨ρ, e, M, he, hm, hp⟩ => by
    dsimp only at hp
    split at hp
    · rename_i x hg
      obtain ⟨u, h1, h2⟩ := he.get hg
      refine ⟨u, h1, ρ, e, M, he, hm, PostS.to he hp fun y M1 v ρ1 H1 m1 r1 x1 h3 => ⟨ρ1, M1, x, y, WEx K W σ, h2.ext x1, r1, m1, PostS.to (he.ext x1) h3 fun z M2 w ρ2 H2 m2 r2 x2 h4 => ?_⟩⟩
      exact h4 _ ρ2 H2 ((he.ext (x1.trans x2)).set r2 i) m2 .refl
    · exact hp.elim
theorem s_par {i j : Nat} {x y : Str} {px py pt : Pos} {kt k2 : Nat} {pt2 : Pos} (hc : X.calm = true) (hN : X.N.Nodup) (hi : X.N[i]? = some x) (hj : X.N[j]? = some y) (hij : i ≠ j) (hx : X.env.scope.names.lookup x = some .local) (hy : X.env.scope.names.lookup y = some .local)
    (ha : PE X a (tEx K W ea)) (hb : PE X b (tEx K W eb)) (h1 : starEach [a, b] X.env = (false, eval a X.env) :: starEach [b] X.env) (h2 : starEach [b] X.env = (false, eval b X.env) :: starEach [] X.env)
    (hw : swappedStores [.Tuple [.Name x px, .Name y py] kt pt] (.Tuple [a, b] k2 pt2) X.env = pure (some [x, y])) (hs : swapsWithSole [.Tuple [.Name x px, .Name y py] kt pt] (.Tuple [a, b] k2 pt2) pos.line X.env = pure false) :
    PS X (.Assign [.Tuple [.Name x px, .Name y py] kt pt] (.Tuple [a, b] k2 pt2) pos) (tSx K W fun e M => (ea e M).to e fun x M => (eb e M).to e fun y M => .nx (setV (setV e i x) j y) M) :=
  (ps_par hc hN hi hj hij hx hy (pa_cons ha (pa_cons hb pa_nil h2) h1) hw hs).imp fun D σ H ⟨ρ, e, M, he, hm, hp⟩ => ⟨ρ, e, M, he, hm, PostS.to he hp fun x M1 v ρ1 H1 m1 r1 x1 h1 =>
    ⟨ρ1, e, M1, he.ext x1, m1, PostS.to (he.ext x1) h1 fun y M2 w ρ2 H2 m2 r2 x2 h2 => ⟨v, w, rfl, h2 _ ρ2 H2 (((he.ext (x1.trans x2)).set (r1.ext x2) i).set r2 j) m2 .refl⟩⟩⟩
end
end Q

/-! QKc: calls by keywords, calls with nothing. -/
namespace Q
open PySem PySem.Spec PyProof.Rows L2
theorem permL_get {α β : Type} {R : α → β → Prop} {xs : List α} {us : List β} (h : ∀ (i : Nat) (x : α), xs[i]? = some x → ∃ u, us[i]? = some u ∧ R x u) :
    ∀ {pm : List Nat} {ys : List α}, permL xs pm = some ys → ∃ zs, permL us pm = some zs ∧ ys.length = zs.length ∧ ∀ (i : Nat) (y : α), ys[i]? = some y → ∃ z, zs[i]? = some z ∧ R y z
  | [], ys, e => by
    unfold permL at e
    cases e
    exact ⟨[], rfl, rfl, fun i y h => by simp at h⟩
  | i :: is, ys, e => by
    unfold permL at e
    split at e
    · rename_i x r h1 h2
      cases e
      obtain ⟨u, k1, k2⟩ := h i x h1
      obtain ⟨zs, k3, k4, k5⟩ := permL_get h h2
      refine ⟨u :: zs, by unfold permL; rw [k1, k3], by simp [k4], fun j y hj => ?_⟩
      cases j with
      | zero => simp at hj; subst hj; exact ⟨u, rfl, k2⟩
      | succ j => simpa using k5 j y (by simpa using hj)
    · cases e
theorem vals_of : ∀ {xs : List V} {us : List Value}, xs.length = us.length → (∀ (i : Nat) (x : V), xs[i]? = some x → ∃ u, us[i]? = some u ∧ RelV x u) → Vals xs us
  | [], [], _, _ => .nil
  | [], _ :: _, h, _ => by simp at h
  | _ :: _, [], h, _ => by simp at h
  | x :: xs, u :: us, h, k => by
    obtain ⟨w, e, r⟩ := k 0 x rfl
    simp at e
    subst e
    exact .cons r (vals_of (by simpa using h) fun i y hy => by simpa using k (i + 1) y (by simpa using hy))
theorem relPs_of {K : Par} {ρ : List Addr} {H : Hp} : ∀ {xs : List PV} {us : List V}, xs.length = us.length → (∀ (i : Nat) (x : PV), xs[i]? = some x → ∃ u, us[i]? = some u ∧ RelP K ρ H x u) → RelPs K ρ H xs us
  | [], [], _, _ => .nil
  | [], _ :: _, h, _ => by simp at h
  | _ :: _, [], h, _ => by simp at h
  | x :: xs, u :: us, h, k => by
    obtain ⟨w, e, r⟩ := k 0 x rfl
    simp at e
    subst e
    exact .mk r (relPs_of (by simpa using h) fun i y hy => by simpa using k (i + 1) y (by simpa using hy))
section
variable {X : Cx} {k : Nat} {f : Addr} {fd : FuncData} {ps : List Str} {sp : Sp} {E : L2.St → XK} {x : Str} {p pos : Pos} {t tk : TA} {CX : CXT}
def tCallSK (sp : Sp) (c : Nat) (ks : List Str) (pm : List Nat) (E : L2.St → XK) (t tk : TA) : TE := fun σ H Q => t σ H fun vs H1 => tk σ H1 fun zs H2 => vs.length = c ∧ zs.length = ks.length ∧ ∃ ys, permL (vs ++ zs) pm = some ys ∧ sp ys H2 Q (E σ)
theorem run_fnSK {pins : List (Addr × Obj)} {σ : L2.St} {H : Hp} {s : Shared} {Q : VK} {us ws : List Value} {vs zs ys : List V} {ks : List Str} {pm : List Nat} {c : Nat} (F : FnOk X.prog X.w X.K X.mg X.base CX k f fd ps sp) (hr : Room k X.A) (hb : KB fd ps c ks pm) (hx : ∀ σ, PassesAt CX X σ (E σ))
    (I : Inv X pins σ H s) (r : Vals vs us) (rz : Vals zs ws) (l1 : vs.length = c) (l2 : zs.length = ks.length) (hp : permL (vs ++ zs) pm = some ys) (h : sp ys H Q (E σ)) : wpAny (model X.prog X.w) X.A (call (.ref f) us (ks.zip ws)) (EP X pins σ Q) X.xe s := by
  obtain ⟨gs, e1, e2⟩ := hb us ws (by rw [← r.length]; exact l1) (by rw [← rz.length]; exact l2)
  have ra := r.append rz
  obtain ⟨gs', e3, l3, g3⟩ := permL_get (R := RelV) (fun i x hi => ra.get hi) hp
  rw [e1] at e3
  cases e3
  refine wpAny_call (codeAny_mono (F.run X.A X.stack s H ⟨us, ks.zip ws⟩ gs ys Q (E σ) hr I.env0 (.of_eq e2) (vals_of l3 g3) h) fun r s' hq => ?_)
  cases r with
  | error e => exact hx σ pins H s e s' I hq
  | ok fl =>
    cases fl with
    | ret u => exact I.after hq
    | next => exact False.elim hq
    | brk => exact False.elim hq
    | cont => exact False.elim hq
theorem pe_callSK {ks : List Str} {pm : List Nat} {c : Nat} {kws : List Keyword} {e : Expr} {es : List Expr} (F : FnOk X.prog X.w X.K X.mg X.base CX k f fd ps sp) (hr : Room k X.A) (hg : Gl X x) (hm : X.mg x = some (.ref f)) (hk : PySem.W.keepIn X.K (.ref f) = true) (hb : KB fd ps c ks pm) (hx : ∀ σ, PassesAt CX X σ (E σ))
    (ha : PA X (e :: es) t) (hkw : PK X kws tk) (hall : (backToKw pos (keywordEach kws X.env)).all (·.1.isSome) = true) (hks : (backToKw pos (keywordEach kws X.env)).filterMap (·.1) = ks)
    (hdb : (x == ("__debug__" : Str)) = false) (he : starEach (e :: es) X.env = (false, eval e X.env) :: starEach es X.env)
    (hpl : ((backTo pos (starEach (e :: es) X.env)).any (·.1) || (backToKw pos (keywordEach kws X.env)).any (·.1.isNone)) = false) :
    PE X (.Call (.Name x p) (e :: es) kws pos) (tCallSK sp c ks pm E t tk) := by
  refine ⟨fun pins s σ H Q I h => ?_⟩
  refine wpAny_Call_Name_kw (ld_glob I hg hm ?_ hdb)
  refine PySem.W.callWith_KW (h₀ := X.base) I.ok.mod.kin hk hall (thn (ha.run pos pins s σ H _ I h) fun us s1 ⟨vs, H1, I1, r, q⟩ => ?_) hpl he
  refine thn (hkw.run pos pins s1 σ H1 _ I1 q) fun ws s2 ⟨zs, H2, I2, rz, l1, l2, ys, hp, q2⟩ => ⟨I2.kIn, ?_⟩
  rw [hks]
  exact run_fnSK F hr hb hx I2 r rz l1 l2 hp q2
theorem pe_callSK0 {ks : List Str} {pm : List Nat} {kws : List Keyword} (F : FnOk X.prog X.w X.K X.mg X.base CX k f fd ps sp) (hr : Room k X.A) (hg : Gl X x) (hm : X.mg x = some (.ref f)) (hk : PySem.W.keepIn X.K (.ref f) = true) (hb : KB fd ps 0 ks pm) (hx : ∀ σ, PassesAt CX X σ (E σ))
    (hkw : PK X kws tk) (hall : (backToKw pos (keywordEach kws X.env)).all (·.1.isSome) = true) (hks : (backToKw pos (keywordEach kws X.env)).filterMap (·.1) = ks)
    (hdb : (x == ("__debug__" : Str)) = false) (hpl : ((backTo pos (starEach [] X.env)).any (·.1) || (backToKw pos (keywordEach kws X.env)).any (·.1.isNone)) = false) :
    PE X (.Call (.Name x p) [] kws pos) (tCallSK sp 0 ks pm E tNil tk) := by
  refine ⟨fun pins s σ H Q I h => ?_⟩
  refine wpAny_Call_Name_kw (ld_glob I hg hm ?_ hdb)
  refine PySem.W.callWith_KW0 (h₀ := X.base) I.ok.mod.kin hk hall ?_ hpl
  have h : tk σ H fun zs H2 => ([] : List V).length = 0 ∧ zs.length = ks.length ∧ ∃ ys, permL ([] ++ zs) pm = some ys ∧ sp ys H2 Q (E σ) := h
  refine thn (hkw.run pos pins s σ H _ I h) fun ws s2 ⟨zs, H2, I2, rz, l1, l2, ys, hp, q2⟩ => ⟨I2.kIn, ?_⟩
  rw [hks]
  exact run_fnSK (us := []) F hr hb hx I2 .nil rz l1 l2 hp q2
end
section
variable {K : Par} {n : Nat} {pr : Pg} {cl : Nat → List PV → Store → Res PV} {W : WX} {N : List Str} {sc : Scope} {fnf : Str → Bool} {X : Cx} {pos : Pos} {a b c : Expr} {ea eb ec : PEnv → Store → Res PV}
theorem g_knil : PK X [] (tAx K W fun _ M => .ok [] M) :=
  pk_nil.imp fun σ H Q ⟨ρ, e, M, he, hm, hp⟩ => hp [] ρ H hm .nil .refl
theorem g_kcons {nm : Option Str} {kpos : Pos} {kws : List Keyword} {er : PEnv → Store → Res (List PV)} (ha : PE X a (tEx K W ea)) (hr : PK X kws (tAx K W er)) :
    PK X (⟨nm, a, kpos⟩ :: kws) (tAx K W fun e M => (ea e M).bind fun x M => (er e M).bind fun xs M => .ok (x :: xs) M) :=
  (pk_cons ha hr).imp fun σ H Q ⟨ρ, e, M, he, hm, hp⟩ => ⟨ρ, e, M, he, hm, hp.bind fun x M1 v ρ1 H1 m1 r1 x1 h1 =>
    ⟨ρ1, e, M1, he.ext x1, m1, h1.bind fun xs M2 us ρ2 H2 m2 r2 x2 h2 => h2 (v :: us) ρ2 H2 m2 (.mk (r1.ext x2) r2) .refl⟩⟩
theorem len_guard {α β : Type} {r : Res (List α)} {g : List α → Store → Res β} {c : Nat} (h : ∀ xs M', r = .ok xs M' → xs.length = c) : r.bind g = r.bind fun xs M => if xs.length = c then g xs M else .bad := by
  cases r with
  | ok xs M' => simp [h xs M' rfl]
  | exc x M' => rfl
  | bad => rfl
theorem g_callK {f : Nat} {x : Str} {p : Pos} {i : FI} {e0 : Expr} {es : List Expr} {kws : List Keyword} {er ek : PEnv → Store → Res (List PV)} {cn : Nat} {ks : List Str} {pm : List Nat} (xo : XOk K n pr cl W N sc fnf X) (hf : pr.fns f = some i) (hx : i.name = x) (hg : Gl X x) (hkw : (cn, ks, pm) ∈ pr.kws f) (ha : PA X (e0 :: es) (tAx K W er)) (hk : PK X kws (tAx K W ek))
    (la : ∀ e M xs M', er e M = .ok xs M' → xs.length = cn) (lk : ∀ e M xs M', ek e M = .ok xs M' → xs.length = ks.length)
    (hall : (backToKw pos (keywordEach kws X.env)).all (·.1.isSome) = true) (hks : (backToKw pos (keywordEach kws X.env)).filterMap (·.1) = ks) (hdb : (x == ("__debug__" : Str)) = false)
    (he : starEach (e0 :: es) X.env = (false, eval e0 X.env) :: starEach es X.env) (hpl : ((backTo pos (starEach (e0 :: es) X.env)).any (·.1) || (backToKw pos (keywordEach kws X.env)).any (·.1.isNone)) = false) :
    PE X (.Call (.Name x p) (e0 :: es) kws pos) (tEx K W fun e M => (er e M).bind fun xs M => (ek e M).bind fun ys M => match permL (xs ++ ys) pm with
      | some zs => cl f zs M
      | none => .bad) := by
  obtain ⟨ad, fd, h1, h2, h3, h4, h5⟩ := xo.pr.fn f i hf
  subst hx
  rw [← xo.K] at h2 h3 h4
  refine (pe_callSK (E := WE W) h4 xo.room hg h1 h2 (h5 cn ks pm hkw) (fun σ => passAt xo.tk σ) ha hk hall hks hdb he hpl).imp fun σ H Q ⟨ρ, e, M, hee, hm, hp⟩ => ⟨ρ, e, M, hee, hm, ?_⟩
  dsimp only at hp
  rw [len_guard (la e M)] at hp
  refine hp.bind fun xs M1 vs ρ1 H1 m1 r1 x1 hq => ?_
  split at hq
  · rename_i l1
    rw [len_guard (lk e M1)] at hq
    refine ⟨ρ1, e, M1, hee.ext x1, m1, hq.bind fun ys M2 ws ρ2 H2 m2 r2 x2 hq2 => ?_⟩
    split at hq2
    · rename_i l2
      refine ⟨by rw [← r1.length]; exact l1, by rw [← r2.length]; exact l2, ?_⟩
      split at hq2
      · rename_i zs hz
        have ra := (RelPs.ext x2 _ r1).append r2
        obtain ⟨gs, e1, e2, e3⟩ := permL_get (R := RelP K ρ2 H2) (fun i x hi => ra.get hi) hz
        exact ⟨gs, e1, ρ2, M2, zs, relPs_of e2 e3, m2, hq2⟩
      · exact hq2.elim
    · exact hq2.elim
  · exact hq.elim
theorem g_callK0 {f : Nat} {x : Str} {p : Pos} {i : FI} {kws : List Keyword} {ek : PEnv → Store → Res (List PV)} {ks : List Str} {pm : List Nat} (xo : XOk K n pr cl W N sc fnf X) (hf : pr.fns f = some i) (hx : i.name = x) (hg : Gl X x) (hkw : (0, ks, pm) ∈ pr.kws f) (hk : PK X kws (tAx K W ek))
    (lk : ∀ e M xs M', ek e M = .ok xs M' → xs.length = ks.length)
    (hall : (backToKw pos (keywordEach kws X.env)).all (·.1.isSome) = true) (hks : (backToKw pos (keywordEach kws X.env)).filterMap (·.1) = ks) (hdb : (x == ("__debug__" : Str)) = false)
    (hpl : ((backTo pos (starEach [] X.env)).any (·.1) || (backToKw pos (keywordEach kws X.env)).any (·.1.isNone)) = false) :
    PE X (.Call (.Name x p) [] kws pos) (tEx K W fun e M => (ek e M).bind fun ys M => match permL ys pm with
      | some zs => cl f zs M
      | none => .bad) := by
  obtain ⟨ad, fd, h1, h2, h3, h4, h5⟩ := xo.pr.fn f i hf
  subst hx
  rw [← xo.K] at h2 h3 h4
  refine (pe_callSK0 (E := WE W) h4 xo.room hg h1 h2 (h5 0 ks pm hkw) (fun σ => passAt xo.tk σ) hk hall hks hdb hpl).imp fun σ H Q ⟨ρ, e, M, hee, hm, hq⟩ => ?_
  dsimp only at hq
  rw [len_guard (lk e M)] at hq
  show tAx K W ek σ H _
  refine ⟨ρ, e, M, hee, hm, hq.bind fun ys M2 ws ρ2 H2 m2 r2 x2 hq2 => ?_⟩
  split at hq2
  · rename_i l2
    refine ⟨rfl, by rw [← r2.length]; exact l2, ?_⟩
    split at hq2
    · rename_i zs hz
      obtain ⟨gs, e1, e2, e3⟩ := permL_get (R := RelP K ρ2 H2) (fun i x hi => r2.get hi) hz
      exact ⟨gs, e1, ρ2, M2, zs, relPs_of e2 e3, m2, hq2⟩
    · exact hq2.elim
  · exact hq2.elim
end
end Q

/-! QK: a text is what it is said to be; then it does what the evaluator says. -/
namespace Q
open PySem PySem.Spec PyProof.Rows L2

structure Ctx where
  sc : Scope
  N : List Str
  fnf : Str → Bool
  pr : Pg
def isLoc (sc : Scope) (x : Str) : Bool := match sc.names.lookup x with
  | some .local => true
  | _ => false
def isCel (sc : Scope) (x : Str) : Bool := match sc.names.lookup x with
  | some .cell => true
  | _ => false
def isFree (sc : Scope) (x : Str) : Bool := match sc.names.lookup x with
  | some .free => true
  | _ => false
def isGlo (sc : Scope) (x : Str) : Bool := match sc.names.lookup x with
  | some .globalImplicit => true
  | _ => false
theorem isLoc_ok {sc : Scope} {x : Str} (h : isLoc sc x = true) : sc.names.lookup x = some .local := by
  unfold isLoc at h
  split at h
  · assumption
  · cases h
theorem isCel_ok {sc : Scope} {x : Str} (h : isCel sc x = true) : sc.names.lookup x = some .cell := by
  unfold isCel at h
  split at h
  · assumption
  · cases h
theorem isFree_ok {sc : Scope} {x : Str} (h : isFree sc x = true) : sc.names.lookup x = some .free := by
  unfold isFree at h
  split at h
  · assumption
  · cases h
theorem isGlo_ok {sc : Scope} {x : Str} (h : isGlo sc x = true) : sc.names.lookup x = some .globalImplicit := by
  unfold isGlo at h
  split at h
  · assumption
  · cases h
def notStar : Expr → Bool
  | .Starred _ _ => false
  | _ => true
def notSlice : Expr → Bool
  | .Slice _ _ _ _ => false
  | _ => true
def notSet : Expr → Bool
  | .Set _ _ _ => false
  | _ => true
def notComp : Expr → Bool
  | .ListComp _ _ _ _ => false
  | .SetComp _ _ _ _ => false
  | .DictComp _ _ _ _ _ => false
  | _ => true
def notCall0 : Expr → Bool
  | .Call (.Name _ _) [] [] _ => false
  | _ => true
theorem star_cons {e : Expr} {es : List Expr} {env : Env} (h : notStar e = true) : starEach (e :: es) env = (false, eval e env) :: starEach es env := by
  cases e <;> first | rfl | cases h
theorem asg_cons {e : Expr} {es : List Expr} {env : Env} (h : notStar e = true) : assignEach (e :: es) env = (false, assign e env) :: assignEach es env := by
  cases e <;> first | rfl | cases h
theorem star_plain {env : Env} {pos : Pos} : ∀ {es : List Expr}, es.all notStar = true → (backTo pos (starEach es env)).any (·.1) = false
  | [], _ => rfl
  | e :: es, h => by
    rw [List.all_cons, Bool.and_eq_true] at h
    rw [star_cons h.1]
    show (false || (backTo pos (starEach es env)).any (·.1)) = false
    rw [star_plain h.2]
    rfl
theorem star_len {env : Env} : ∀ {es : List Expr}, es.all notStar = true → (starEach es env).all (fun x => !x.1) = true
  | [], _ => rfl
  | e :: es, h => by
    rw [List.all_cons, Bool.and_eq_true] at h
    rw [star_cons h.1]
    show (true && (starEach es env).all (fun x => !x.1)) = true
    rw [star_len h.2]
    rfl
theorem few_ok {env : Env} {pos : Pos} {es : List Expr} (h : es.all notStar = true) (hl : es.length < 29) :
    ((backTo pos (starEach es env)).all (fun x => !x.1) && (backToKw pos (keywordEach [] env)).all (fun x => x.1.isSome)
      && decide (es.length + ([] : List Keyword).length + (if ([] : List Keyword).isEmpty then 0 else 1) < 30)) = true := by
  have h1 : (backTo pos (starEach es env)).all (fun x => !x.1) = true := by
    unfold backTo
    rw [List.all_map]
    exact star_len h
  rw [h1]
  have h2 : decide (es.length + ([] : List Keyword).length + (if ([] : List Keyword).isEmpty then 0 else 1) < 30) = true := decide_eq_true (by simp; omega)
  rw [h2]
  rfl
theorem asg_len {env : Env} : ∀ {es : List Expr}, es.all notStar = true → (assignEach es env).length = es.length ∧ (assignEach es env).findIdx? (·.1) = none
  | [], _ => ⟨rfl, rfl⟩
  | e :: es, h => by
    rw [List.all_cons, Bool.and_eq_true] at h
    obtain ⟨h1, h2⟩ := asg_len (env := env) h.2
    rw [asg_cons h.1]
    exact ⟨by rw [List.length_cons, h1]; rfl, by simp [List.findIdx?_cons, h2]⟩
theorem slice_ok {e : Expr} (h : notSlice e = true) : PlainIx e := by
  intro o i
  cases e <;> first | rfl | cases h
theorem set_plain {e : Expr} {env : Env} (h : notSet e = true) : ∀ x, foldedSetIterable e env x = pure x := by
  intro x
  cases e <;> first | rfl | cases h
theorem base_ok {e : Expr} {f : Str} {env : Env} (h : notCall0 e = true) : attributeBase e f env (eval e env) = eval e env := by
  cases e with
  | Call fn as ks p =>
    cases fn with
    | Name x q =>
      cases as with
      | cons _ _ => rfl
      | nil => cases ks with
        | cons _ _ => rfl
        | nil => cases h
    | _ => rfl
  | _ => rfl
theorem swaps_plain {e : Expr} {t : Option Expr} {l : Nat} {env : Env} (h : notComp e = true) : swapsWith e t l env = pure false := by
  cases e <;> first | rfl | cases h

/-! ### the checks -/
def relOwn (N : List Str) (own : List Nat) : List (Str × Nat) := own.filterMap fun i => N[i]?.map fun x => (x, i)
theorem relOwn_snd {N : List Str} : ∀ {own : List Nat}, (own.all fun i => decide (i < N.length)) = true → (relOwn N own).map (·.2) = own
  | [], _ => rfl
  | i :: is, h => by
    rw [List.all_cons, Bool.and_eq_true] at h
    have hi : i < N.length := of_decide_eq_true h.1
    unfold relOwn
    rw [List.filterMap_cons, List.getElem?_eq_getElem hi]
    show i :: (relOwn N is).map (·.2) = _
    rw [relOwn_snd h.2]
def Ctx.blk (c : Ctx) (scope : Scope) : Ctx := { c with sc := relS scope c.sc, fnf := fun x => scope.names.lookup x == some .cell }
mutual
def QT.slots : QT → List Nat
  | .var i => [i]
  | .tup ts => QTs.slots ts
  | .sub _ _ => []
def QTs.slots : QTs → List Nat
  | .nil => []
  | .cons t r => QT.slots t ++ QTs.slots r
end
/-- a test that is told by its parts, or by its value -/
def QE.tst : QE → Bool
  | .ite _ _ _ => false
  | .and a b => QE.tst a && QE.tst b
  | .or a b => QE.tst a && QE.tst b
  | .not a => QE.tst a
  | _ => true
def plainT : Expr → Bool
  | .UnaryOp .Not _ _ => false
  | .BoolOp _ _ _ => false
  | .IfExp _ _ _ _ => false
  | .Compare _ _ _ _ => false
  | _ => true
theorem plainT_ok {e : Expr} {env : Env} (h : plainT e = true) : ∀ whole, isTrue e env whole = (do let v ← whole; standAt e.pos; holding [v] (truthy v)) := by
  intro whole
  cases e with
  | UnaryOp op x p => cases op <;> first | rfl | cases h
  | BoolOp _ _ _ => cases h
  | IfExp _ _ _ _ => cases h
  | Compare _ _ _ _ => cases h
  | _ => rfl
def biName : BI → Str
  | .len => "len" | .int => "int" | .abs => "abs" | .tuple => "tuple" | .list => "list" | .isi => "isinstance" | .max => "max" | .min => "min" | .bool => "bool"
def tyStr (n : String) : Str := Str.ofString n
def strIs (x y : Str) : Bool := decide (x = y)
def kwNames : List Keyword → List Str
  | [] => []
  | ⟨some x, _, _⟩ :: r => x :: kwNames r
  | ⟨none, _, _⟩ :: r => kwNames r
theorem kw_names {env : Env} {pos : Pos} : ∀ kws : List Keyword, (backToKw pos (keywordEach kws env)).filterMap (·.1) = kwNames kws
  | [] => rfl
  | ⟨some x, v, p⟩ :: r => by
    show x :: (backToKw pos (keywordEach r env)).filterMap (·.1) = _
    rw [kw_names r]
    rfl
  | ⟨none, v, p⟩ :: r => by
    show (backToKw pos (keywordEach r env)).filterMap (·.1) = _
    rw [kw_names r]
    rfl
mutual
def okE (c : Ctx) : QE → Expr → Bool
  | .var i, e => match e with
    | .Name x _ => decide (c.N[i]? = some x) && ((isLoc c.sc x || isCel c.sc x || isFree c.sc x) && ((x == ("__debug__" : Str)) == false && (x == ("__classdict__" : Str)) == false))
    | _ => false
  | .int i, e => match e with
    | .Constant (.int j) _ _ => decide (i = j)
    | _ => false
  | .bl b, e => match e with
    | .Constant (.bool k) _ _ => b == k
    | _ => false
  | .non, e => match e with
    | .Constant .none _ _ => true
    | _ => false
  | .str x, e => match e with
    | .Constant (.str y) _ _ => decide (x = y)
    | _ => false
  | .ty n, e => match e with
    | .Name x _ => isGlo c.sc x && (decide (x ∈ c.pr.free) && (decide (bootBuiltins x = some (.type n)) && (decide (x ≠ "__name__") && (x == ("__debug__" : Str)) == false)))
    | _ => false
  | .bin o a b, e => match e with
    | .BinOp x op y _ => decide (op = opOf o) && (okE c a x && okE c b y)
    | _ => false
  | .neg a, e => match e with
    | .UnaryOp .USub x _ => okE c a x
    | _ => false
  | .cmp o a b, e => match e with
    | .Compare x [op] [y] _ => decide (op = cmOf o) && (okE c a x && (okE c b y && (behindInMarks op y == false)))
    | _ => false
  | .chain o o' a b d, e => match e with
    | .Compare x [op, op'] [y, z] _ => decide (op = cmOf o) && (decide (op' = cmOf o') && (okE c a x && (okE c b y && (okE c d z && (lastMarks [op, op'] [y, z] == false)))))
    | _ => false
  | .isN a, e => match e with
    | .Compare x [.Is] [.Constant .none _ _] _ => okE c a x
    | _ => false
  | .notN a, e => match e with
    | .Compare x [.IsNot] [.Constant .none _ _] _ => okE c a x
    | _ => false
  | .and a b, e => match e with
    | .BoolOp .And (x :: y :: r) p => okE c a x && (match r with
      | [] => okE c b y
      | _ => okE c b (.BoolOp .And (y :: r) p))
    | _ => false
  | .or a b, e => match e with
    | .BoolOp .Or (x :: y :: r) p => okE c a x && (match r with
      | [] => okE c b y
      | _ => okE c b (.BoolOp .Or (y :: r) p))
    | _ => false
  | .not a, e => match e with
    | .UnaryOp .Not x _ => okE c a x
    | _ => false
  | .ite t a b, e => match e with
    | .IfExp x y z _ => QE.tst t && (okE c t x && (okE c a y && okE c b z))
    | _ => false
  | .call f as, e => match e with
    | .Call (.Name x _) (e0 :: es) [] _ => (match c.pr.fns f with
      | some i => strIs i.name x
      | none => false) && (isGlo c.sc x && ((x == ("__debug__" : Str)) == false && ((e0 :: es).all notStar && okEs c as (e0 :: es))))
    | _ => false
  | .callK f as ks pm, e => match e with
    | .Call (.Name x _) es kws _ => (match c.pr.fns f with
      | some i => strIs i.name x
      | none => false) && (isGlo c.sc x && ((x == ("__debug__" : Str)) == false && (es.all notStar && (decide ((es.length, kwNames kws, pm) ∈ c.pr.kws f) && (okEs c as es && okKs c ks kws)))))
    | _ => false
  | .bi b as, e => match e with
    | .Call (.Name x _) (e0 :: es) [] _ => strIs (biName b) x && (isGlo c.sc x && (decide (x ∈ c.pr.free) && ((e0 :: es).all notStar && okEs c as (e0 :: es))))
    | _ => false
  | .tup as, e => match e with
    | .Tuple es _ _ => es.all notStar && okEs c as es
    | _ => false
  | .lst as, e => match e with
    | .List es _ => es.all notStar && okEs c as es
    | _ => false
  | .ix a b, e => match e with
    | .Subscript x y _ => notSlice y && (okE c a x && okE c b y)
    | _ => false
  | .sl a lo hi, e => match e with
    | .Subscript x (.Slice l h none _) _ => okE c a x && (okO' c lo l && okO' c hi h)
    | _ => false
  | .mt m a as, e => match e with
    | .Call (.Attribute x nm apos) es [] pos => strIs (mtName m) nm && (notCall0 x && ((apos.endLine == pos.line) && (okE c a x && (es.all notStar && (decide (es.length < 29) && okEs c as es)))))
    | _ => false
  | .bits a, e => match e with
    | .Call (.Attribute x nm apos) [] [] pos => strIs nm "bit_length" && (notCall0 x && ((apos.endLine == pos.line) && okE c a x))
    | _ => false
  | .comp elt t it d own, e => match e with
    | .ListComp ee [⟨tg, ie, ifs, k⟩] scope _ => decide (k = 0) && (blkC c.N c.sc scope (relOwn c.N own) && ((own.all fun i => decide (i < c.N.length)) && ((QT.slots t).all (fun j => decide (j ∈ own)) && (notSet ie && (okI c tg it ie && (okT (c.blk scope) t tg && (okC (c.blk scope) d ifs && okE (c.blk scope) elt ee)))))))
    | _ => false
  | .gc a, e => plainT e && okE c a e
def okEs (c : Ctx) : QEs → List Expr → Bool
  | .nil, es => match es with
    | [] => true
    | _ => false
  | .cons a r, es => match es with
    | e :: es => okE c a e && okEs c r es
    | [] => false
def okKs (c : Ctx) : QEs → List Keyword → Bool
  | .nil, es => match es with
    | [] => true
    | _ => false
  | .cons a r, es => match es with
    | ⟨some _, e, _⟩ :: es => okE c a e && okKs c r es
    | _ => false
def okO' (c : Ctx) : QO → Option Expr → Bool
  | .none, o => match o with
    | none => true
    | some _ => false
  | .some a, o => match o with
    | some e => okE c a e
    | none => false
def okC (c : Ctx) : QO → List Expr → Bool
  | .none, es => match es with
    | [] => true
    | _ => false
  | .some a, es => match es with
    | [e] => QE.tst a && okE c a e
    | _ => false
def okT (c : Ctx) : QT → Expr → Bool
  | .var i, e => match e with
    | .Name x _ => decide (c.N[i]? = some x) && (isLoc c.sc x || (isCel c.sc x && c.fnf x))
    | _ => false
  | .tup ts, e => match e with
    | .Tuple es _ _ => es.all notStar && okTs c ts es
    | _ => false
  | .sub a b, e => match e with
    | .Subscript x y _ => notSlice y && (okE c a x && okE c b y)
    | _ => false
def okTs (c : Ctx) : QTs → List Expr → Bool
  | .nil, es => match es with
    | [] => true
    | _ => false
  | .cons t r, es => match es with
    | e :: es => okT c t e && okTs c r es
    | [] => false
def okI (c : Ctx) (tg : Expr) : QI → Expr → Bool
  | .list a, e => okE c a e
  | .tup a, e => okE c a e
  | .rng1 a, e => match e with
    | .Call (.Name x _) [y] [] _ => strIs x "range" && (isGlo c.sc x && (decide (x ∈ c.pr.free) && (notStar y && okE c a y)))
    | _ => false
  | .rng2 a b, e => match e with
    | .Call (.Name x _) [y, z] [] _ => strIs x "range" && (isGlo c.sc x && (decide (x ∈ c.pr.free) && (notStar y && (notStar z && (okE c a y && okE c b z)))))
    | _ => false
  | .enum a, e => match e, tg with
    | .Call (.Name x _) [y] [] _, .Tuple _ _ _ => strIs x "enumerate" && (isGlo c.sc x && (decide (x ∈ c.pr.free) && (notStar y && okE c a y)))
    | _, _ => false
end
end Q

/-! QL: expressions do what the evaluator says. -/
namespace Q
open PySem PySem.Spec PyProof.Rows L2
theorem an {a b : Bool} (h : (a && b) = true) : a = true ∧ b = true := Bool.and_eq_true_iff.mp h
theorem nf {a : Bool} (h : (a == false) = true) : a = false := by
  cases a
  · rfl
  · cases h
section
variable {K : Par} {n : Nat} {cl : Nat → List PV → Store → Res PV} {W : WX} {X : Cx}
theorem XOk.blk {pr : Pg} {N : List Str} {sc : Scope} {fnf : Str → Bool} (xo : XOk K n pr cl W N sc fnf X) {scope : Scope} (hk : scope.kind = .function) (s : Shared) (H : Hp) (C : Addr) (l : List (Str × Addr)) (fp : List Addr) :
    XOk K n pr cl W0 N (relS scope sc) (fun x => scope.names.lookup x == some .cell) (X.blk s H scope (compEnvC scope l C X.env) fp) where
  pr := xo.pr
  K := xo.K
  N := xo.N
  sc := by
    show relS scope X.env.scope = relS scope sc
    rw [xo.sc]
  fn := rfl
  calm := xo.calm
  nd := xo.nd
  room := xo.room
  tk := fun u s' ⟨_, _, _, _, _, _, _, _, _, _, _, _, _, _, _, _, w⟩ => w.elim
  kind := hk
variable {pr : Pg} {N : List Str} {sc : Scope} {fnf : Str → Bool}
theorem XOk.gl (xo : XOk K n pr cl W N sc fnf X) {x : Str} (h : isGlo sc x = true) : Gl X x := by
  show X.env.scope.names.lookup x = some .globalImplicit
  rw [xo.sc]
  exact isGlo_ok h
theorem XOk.slot (xo : XOk K n pr cl W N sc fnf X) {x : Str} {i : Nat} (h : decide (N[i]? = some x) = true) : X.N[i]? = some x := by
  rw [xo.N]
  exact of_decide_eq_true h
theorem pe_ty {v : V} {u : Value} {x : Str} {pos : Pos} (hg : Gl X x) (hm : X.mg x = none) (hv : bootBuiltins x = some u) (r : RelV v u) (hn : x ≠ "__name__") (hd : (x == ("__debug__" : Str)) = false) : PE X (.Name x pos) (tC v) := pe_bltn hg hm hv r hn hd
/-- a test by the value -/
theorem both {e : Expr} {ev : PEnv → Store → Res PV} (hK : X.K = K.F) (h : PE X e (tEx K W ev)) (hp : plainT e = true) {b : Bool} : PE X e (tEx K W ev) ∧ (b = true → PT X e (tTx K W (tst ev))) := ⟨h, fun _ => gt_plain hK h (plainT_ok hp)⟩
theorem bi_cases (b : BI) : (∃ id, biVal b = .builtin id ∧ bootBuiltins (biName b) = some (.builtin id)) ∨ (∃ T, biVal b = .type T ∧ bootBuiltins (biName b) = some (.type T)) := by
  cases b
  · exact .inl ⟨_, rfl, by decide +kernel⟩
  · exact .inr ⟨_, rfl, by decide +kernel⟩
  · exact .inl ⟨_, rfl, by decide +kernel⟩
  · exact .inr ⟨_, rfl, by decide +kernel⟩
  · exact .inr ⟨_, rfl, by decide +kernel⟩
  · exact .inl ⟨_, rfl, by decide +kernel⟩
  · exact .inl ⟨_, rfl, by decide +kernel⟩
  · exact .inl ⟨_, rfl, by decide +kernel⟩
  · exact .inr ⟨_, rfl, by decide +kernel⟩
theorem bi_name (b : BI) : biName b ≠ "__name__" ∧ (biName b == ("__debug__" : Str)) = false := by
  cases b <;> exact ⟨by decide +kernel, by decide +kernel⟩
end
section
variable {K : Par} {n : Nat} {cl : Nat → List PV → Store → Res PV}
theorem evTs_len (cl : Nat → List PV → Store → Res PV) {c : Ctx} : ∀ {ts : QTs} {es : List Expr}, okTs c ts es = true → ∀ xs e M, xs.length ≠ es.length → evTs cl ts xs e M = .bad
  | .nil, es, h, xs, e, M, hl => by
    unfold okTs at h
    split at h
    · cases xs with
      | nil => exact absurd rfl hl
      | cons x xs => unfold evTs; rfl
    · cases h
  | .cons t r, es, h, xs, e, M, hl => by
    unfold okTs at h
    split at h
    · obtain ⟨h1, h2⟩ := an h
      cases xs with
      | nil => unfold evTs; rfl
      | cons x xs =>
        unfold evTs
        cases h3 : evT cl t x e M with
        | ok e1 M1 =>
          show (evTs cl r xs e1 M1).noexc = .bad
          rw [evTs_len cl h2 xs e1 M1 (by simp at hl; exact hl)]
          rfl
        | exc y M1 => rfl
        | bad => rfl
    · cases h
theorem qt_star {c : Ctx} {t : QT} {e : Expr} (h : okT c t e = true) : notStar e = true := by
  cases t <;> (unfold okT at h; split at h <;> first | rfl | cases h)
def QEs.len : QEs → Nat
  | .nil => 0
  | .cons _ r => r.len + 1
theorem evEs_len (cl : Nat → List PV → Store → Res PV) : ∀ {as : QEs} {e : PEnv} {M : Store} {xs : List PV} {M' : Store}, evEs cl as e M = .ok xs M' → xs.length = as.len
  | .nil, e, M, xs, M', h => by
    unfold evEs at h
    cases h
    rfl
  | .cons a r, e, M, xs, M', h => by
    unfold evEs at h
    cases h1 : evE cl a e M with
    | ok x M1 =>
      rw [h1] at h
      simp only [Res.bind_ok] at h
      cases h2 : evEs cl r e M1 with
      | ok ys M2 =>
        rw [h2] at h
        simp only [Res.bind_ok] at h
        cases h
        rw [List.length_cons, evEs_len cl h2]
        rfl
      | exc y M2 => rw [h2] at h; cases h
      | bad => rw [h2] at h; cases h
    | exc y M1 => rw [h1] at h; cases h
    | bad => rw [h1] at h; cases h
theorem okEs_len {c : Ctx} : ∀ {as : QEs} {es : List Expr}, okEs c as es = true → as.len = es.length
  | .nil, es, h => by
    unfold okEs at h
    split at h
    · rfl
    · cases h
  | .cons a r, es, h => by
    unfold okEs at h
    split at h
    · rw [List.length_cons, ← okEs_len (an h).2]; rfl
    · cases h
theorem okKs_len {c : Ctx} : ∀ {as : QEs} {es : List Keyword}, okKs c as es = true → as.len = (kwNames es).length
  | .nil, es, h => by
    unfold okKs at h
    split at h
    · rfl
    · cases h
  | .cons a r, es, h => by
    unfold okKs at h
    split at h
    · unfold kwNames
      rw [List.length_cons, ← okKs_len (an h).2]; rfl
    · cases h
theorem kw_all {c : Ctx} {env : Env} {pos : Pos} : ∀ {as : QEs} {es : List Keyword}, okKs c as es = true → (backToKw pos (keywordEach es env)).all (·.1.isSome) = true
  | .nil, es, h => by
    unfold okKs at h
    split at h
    · rfl
    · cases h
  | .cons a r, es, h => by
    unfold okKs at h
    split at h
    · rename_i x e p es
      show (true && (backToKw pos (keywordEach es env)).all (·.1.isSome)) = true
      rw [kw_all (an h).2]; rfl
    · cases h
theorem kw_any {c : Ctx} {env : Env} {pos : Pos} : ∀ {as : QEs} {es : List Keyword}, okKs c as es = true → (backToKw pos (keywordEach es env)).any (·.1.isNone) = false
  | .nil, es, h => by
    unfold okKs at h
    split at h
    · rfl
    · cases h
  | .cons a r, es, h => by
    unfold okKs at h
    split at h
    · rename_i x e p es
      show (false || (backToKw pos (keywordEach es env)).any (·.1.isNone)) = false
      rw [kw_any (an h).2]; rfl
    · cases h
mutual
theorem sE : ∀ (q : QE) (c : Ctx) (W : WX) (X : Cx), XOk K n c.pr cl W c.N c.sc c.fnf X → ∀ e : Expr, okE c q e = true → PE X e (tEx K W (evE cl q)) ∧ (q.tst = true → PT X e (tTx K W (tst (evE cl q))))
  | .var i, c, W, X, xo, e, h => by
    unfold okE at h
    split at h
    · rename_i x p
      obtain ⟨h1, h⟩ := an h
      obtain ⟨h2, h⟩ := an h
      obtain ⟨h3, h4⟩ := an h
      refine both xo.K (g_var (xo.slot h1) ?_ (nf h3) (nf h4)) rfl
      rw [xo.sc]
      rw [Bool.or_eq_true, Bool.or_eq_true] at h2
      rcases h2 with (h2 | h2) | h2
      · exact .inl (isLoc_ok h2)
      · exact .inr (.inl (isCel_ok h2))
      · exact .inr (.inr (isFree_ok h2))
    · cases h
  | .int i, c, W, X, xo, e, h => by
    unfold okE at h
    split at h
    · have e1 := of_decide_eq_true h
      subst e1
      exact both xo.K (g_const (v := .int _) pe_int (fun e M => by unfold evE; rfl) fun ρ H => relP_int.mpr rfl) rfl
    · cases h
  | .bl b, c, W, X, xo, e, h => by
    unfold okE at h
    split at h
    · have e1 := eq_of_beq h
      subst e1
      exact both xo.K (g_const (v := .bl _) pe_bl (fun e M => by unfold evE; rfl) fun ρ H => relP_bl.mpr rfl) rfl
    · cases h
  | .non, c, W, X, xo, e, h => by
    unfold okE at h
    split at h
    · exact both xo.K (g_const (v := .non) pe_non (fun e M => by unfold evE; rfl) fun ρ H => relP_non.mpr rfl) rfl
    · cases h
  | .str x, c, W, X, xo, e, h => by
    unfold okE at h
    split at h
    · have e1 := of_decide_eq_true h
      subst e1
      exact both xo.K (g_const (v := .str _) pe_str (fun e M => by unfold evE; rfl) fun ρ H => relP_str.mpr rfl) rfl
    · cases h
  | .ty t, c, W, X, xo, e, h => by
    unfold okE at h
    split at h
    · obtain ⟨h1, h⟩ := an h
      obtain ⟨h2, h⟩ := an h
      obtain ⟨h3, h⟩ := an h
      obtain ⟨h4, h5⟩ := an h
      exact both xo.K (g_const (v := .ty t) (pe_ty (v := .ty t) (xo.gl h1) (xo.pr.free _ (of_decide_eq_true h2)) (of_decide_eq_true h3) rfl (of_decide_eq_true h4) (nf h5)) (fun e M => by unfold evE; rfl) fun ρ H => relP_ty.mpr rfl) rfl
    · cases h
  | .bin o a b, c, W, X, xo, e, h => by
    unfold okE at h
    split at h
    · obtain ⟨h1, h⟩ := an h
      obtain ⟨h2, h3⟩ := an h
      have e1 := of_decide_eq_true h1
      subst e1
      exact both xo.K ((g_bin (ok_bin xo.K o) (sE a c W X xo _ h2).1 (sE b c W X xo _ h3).1).eq fun e M => by (conv => lhs; unfold evE); first | done | rfl) rfl
    · cases h
  | .neg a, c, W, X, xo, e, h => by
    unfold okE at h
    split at h
    · exact both xo.K ((g_neg (sE a c W X xo _ h).1).eq fun e M => by (conv => lhs; unfold evE); first | done | rfl) rfl
    · cases h
  | .cmp o a b, c, W, X, xo, e, h => by
    unfold okE at h
    split at h
    · obtain ⟨h1, h⟩ := an h
      obtain ⟨h2, h⟩ := an h
      obtain ⟨h3, h4⟩ := an h
      have e1 := of_decide_eq_true h1
      subst e1
      have ho := ok_cmp (X := X) (K := K) xo.K xo.units o
      exact ⟨(g_cmp ho (sE a c W X xo _ h2).1 (sE b c W X xo _ h3).1 (nf h4)).eq fun e M => by (conv => lhs; unfold evE); first | done | rfl, fun _ => (gt_cmp ho (sE a c W X xo _ h2).1 (sE b c W X xo _ h3).1 (nf h4)).eq fun e M => by (conv => lhs; unfold evE); first | done | rfl⟩
    · cases h
  | .chain o o' a b d, c, W, X, xo, e, h => by
    unfold okE at h
    split at h
    · obtain ⟨h1, h⟩ := an h
      obtain ⟨h2, h⟩ := an h
      obtain ⟨h3, h⟩ := an h
      obtain ⟨h4, h⟩ := an h
      obtain ⟨h5, h6⟩ := an h
      have e1 := of_decide_eq_true h1
      have e2 := of_decide_eq_true h2
      subst e1 e2
      have ho := ok_cmp (X := X) (K := K) xo.K xo.units o
      have ho' := ok_cmp (X := X) (K := K) xo.K xo.units o'
      have ha := (sE a c W X xo _ h3).1
      have hb := (sE b c W X xo _ h4).1
      have hd := (sE d c W X xo _ h5).1
      exact ⟨(g_chain ho ho' ha hb hd (nf h6)).eq fun e M => by (conv => lhs; unfold evE); first | done | rfl, fun _ => (gt_chain ho ho' ha hb hd (nf h6)).eq fun e M => by (conv => lhs; unfold evE); first | done | rfl⟩
    · cases h
  | .isN a, c, W, X, xo, e, h => by
    unfold okE at h
    split at h
    · exact ⟨(g_isN (sE a c W X xo _ h).1).eq fun e M => by (conv => lhs; unfold evE); first | done | rfl, fun _ => (gt_isN (sE a c W X xo _ h).1).eq fun e M => by (conv => lhs; unfold evE); first | done | rfl⟩
    · cases h
  | .notN a, c, W, X, xo, e, h => by
    unfold okE at h
    split at h
    · exact ⟨(g_notN (sE a c W X xo _ h).1).eq fun e M => by (conv => lhs; unfold evE); first | done | rfl, fun _ => (gt_notN (sE a c W X xo _ h).1).eq fun e M => by (conv => lhs; unfold evE); first | done | rfl⟩
    · cases h
  | .and a b, c, W, X, xo, e, h => by
    unfold okE at h
    split at h
    · rename_i x y r p
      obtain ⟨h1, h⟩ := an h
      have ha := sE a c W X xo _ h1
      have hb : PE X (.BoolOp .And (y :: r) p) (tEx K W (evE cl b)) ∧ (b.tst = true → PW X (.BoolOp .And (y :: r) p) (tTx K W (tst (evE cl b)))) := by
        cases r with
        | nil =>
          have hb := sE b c W X xo _ h
          exact ⟨pe_one hb.1, fun ht => pw_and1 (hb.2 ht)⟩
        | cons z r =>
          have hb := sE b c W X xo _ h
          exact ⟨hb.1, fun ht => sW b c W X xo _ _ _ h ht⟩
      refine ⟨(g_and xo.K ha.1 hb.1).eq fun e M => by (conv => lhs; unfold evE); first | done | rfl, fun ht => ?_⟩
      unfold QE.tst at ht
      obtain ⟨t1, t2⟩ := an ht
      exact PW.pt ((gw_and (ha.2 t1) (hb.2 t2)).eq fun e M => by (conv => lhs; unfold evE); first | done | rfl)
    · cases h
  | .or a b, c, W, X, xo, e, h => by
    unfold okE at h
    split at h
    · rename_i x y r p
      obtain ⟨h1, h⟩ := an h
      have ha := sE a c W X xo _ h1
      have hb : PE X (.BoolOp .Or (y :: r) p) (tEx K W (evE cl b)) ∧ (b.tst = true → PW X (.BoolOp .Or (y :: r) p) (tTx K W (tst (evE cl b)))) := by
        cases r with
        | nil =>
          have hb := sE b c W X xo _ h
          exact ⟨pe_one hb.1, fun ht => pw_or1 (hb.2 ht)⟩
        | cons z r =>
          have hb := sE b c W X xo _ h
          exact ⟨hb.1, fun ht => sW b c W X xo _ _ _ h ht⟩
      refine ⟨(g_or xo.K ha.1 hb.1).eq fun e M => by (conv => lhs; unfold evE); first | done | rfl, fun ht => ?_⟩
      unfold QE.tst at ht
      obtain ⟨t1, t2⟩ := an ht
      exact PW.pt ((gw_or (ha.2 t1) (hb.2 t2)).eq fun e M => by (conv => lhs; unfold evE); first | done | rfl)
    · cases h
  | .not a, c, W, X, xo, e, h => by
    unfold okE at h
    split at h
    · have ha := sE a c W X xo _ h
      exact ⟨(g_not xo.K ha.1).eq fun e M => by (conv => lhs; unfold evE); first | done | rfl, fun ht => (gt_not (ha.2 (by unfold QE.tst at ht; exact ht))).eq fun e M => by (conv => lhs; unfold evE); first | done | rfl⟩
    · cases h
  | .ite t a b, c, W, X, xo, e, h => by
    unfold okE at h
    split at h
    · obtain ⟨h1, h⟩ := an h
      obtain ⟨h2, h⟩ := an h
      obtain ⟨h3, h4⟩ := an h
      exact ⟨(g_ite ((sE t c W X xo _ h2).2 h1) (sE a c W X xo _ h3).1 (sE b c W X xo _ h4).1).eq fun e M => by (conv => lhs; unfold evE); first | done | rfl, fun ht => by unfold QE.tst at ht; cases ht⟩
    · cases h
  | .call f as, c, W, X, xo, e, h => by
    unfold okE at h
    split at h
    · obtain ⟨h1, h⟩ := an h
      obtain ⟨h2, h⟩ := an h
      obtain ⟨h3, h⟩ := an h
      obtain ⟨h4, h5⟩ := an h
      split at h1
      · rename_i i hf
        have hA := sEs as c W X xo _ h4 h5
        have hs := h4
        rw [List.all_cons, Bool.and_eq_true] at hs
        exact both xo.K ((g_call xo hf (of_decide_eq_true h1) (xo.gl h2) hA (nf h3) (star_cons hs.1) (star_plain hs.2)).eq fun e M => by (conv => lhs; unfold evE); first | done | rfl) rfl
      · cases h1
    · cases h
  | .callK f as ks pm, c, W, X, xo, e, h => by
    unfold okE at h
    split at h
    · rename_i x p es kws pos
      obtain ⟨h1, h⟩ := an h
      obtain ⟨h2, h⟩ := an h
      obtain ⟨h3, h⟩ := an h
      obtain ⟨h4, h⟩ := an h
      obtain ⟨h5, h⟩ := an h
      obtain ⟨h6, h7⟩ := an h
      split at h1
      · rename_i i hf
        have hA := sEs as c W X xo _ h4 h6
        have hk := sKs ks c W X xo _ h7
        have hall := fun pos => kw_all (env := X.env) (pos := pos) h7
        have hany := fun pos => kw_any (env := X.env) (pos := pos) h7
        cases es with
        | nil =>
          cases as with
          | nil =>
            exact both xo.K ((g_callK0 xo hf (of_decide_eq_true h1) (xo.gl h2) (of_decide_eq_true h5) hk (fun e M xs M' e1 => by rw [evEs_len cl e1, okKs_len h7]) (hall _) (kw_names kws) (nf h3) (by rw [hany]; rfl)).eq fun e M => by
              have hnil : evEs cl .nil e M = .ok [] M := by unfold evEs; rfl
              (conv => lhs; unfold evE)
              show (evEs cl .nil e M).bind _ = _
              rw [hnil]
              rfl) rfl
          | cons _ _ => unfold okEs at h6; cases h6
        | cons e0 es =>
          have hs := h4
          rw [List.all_cons, Bool.and_eq_true] at hs
          exact both xo.K ((g_callK xo hf (of_decide_eq_true h1) (xo.gl h2) (of_decide_eq_true h5) hA hk (fun e M xs M' e1 => by rw [evEs_len cl e1, okEs_len h6]) (fun e M xs M' e1 => by rw [evEs_len cl e1, okKs_len h7]) (hall _) (kw_names kws) (nf h3) (star_cons hs.1) (by rw [hany, star_plain h4]; rfl)).eq fun e M => by (conv => lhs; unfold evE); first | done | rfl) rfl
      · cases h1
    · cases h
  | .bi b as, c, W, X, xo, e, h => by
    unfold okE at h
    split at h
    · obtain ⟨h1, h⟩ := an h
      obtain ⟨h2, h⟩ := an h
      obtain ⟨h3, h⟩ := an h
      obtain ⟨h4, h5⟩ := an h
      have e1 : biName b = _ := of_decide_eq_true h1
      subst e1
      have hA := sEs as c W X xo _ h4 h5
      have hs := h4
      rw [List.all_cons, Bool.and_eq_true] at hs
      have hm := xo.pr.free _ (of_decide_eq_true h3)
      obtain ⟨n1, n2⟩ := bi_name b
      rcases bi_cases b with ⟨id, k1, k2⟩ | ⟨T, k1, k2⟩
      · exact both xo.K ((g_bi k1 xo (xo.gl h2) hm k2 hA n1 n2 (star_cons hs.1) (star_plain hs.2)).eq fun e M => by (conv => lhs; unfold evE); first | done | rfl) rfl
      · exact both xo.K ((g_biT k1 xo (xo.gl h2) hm k2 hA n1 n2 (star_cons hs.1) (star_plain hs.2)).eq fun e M => by (conv => lhs; unfold evE); first | done | rfl) rfl
    · cases h
  | .tup as, c, W, X, xo, e, h => by
    unfold okE at h
    split at h
    · obtain ⟨h1, h2⟩ := an h
      exact both xo.K ((g_tup (sEs as c W X xo _ h1 h2)).eq fun e M => by (conv => lhs; unfold evE); first | done | rfl) rfl
    · cases h
  | .lst as, c, W, X, xo, e, h => by
    unfold okE at h
    split at h
    · obtain ⟨h1, h2⟩ := an h
      exact both xo.K ((g_lst (sEs as c W X xo _ h1 h2)).eq fun e M => by (conv => lhs; unfold evE); first | done | rfl) rfl
    · cases h
  | .ix a b, c, W, X, xo, e, h => by
    unfold okE at h
    split at h
    · obtain ⟨h1, h⟩ := an h
      obtain ⟨h2, h3⟩ := an h
      exact both xo.K ((g_ix xo.K xo.units (sE a c W X xo _ h2).1 (sE b c W X xo _ h3).1 (slice_ok h1)).eq fun e M => by (conv => lhs; unfold evE); first | done | rfl) rfl
    · cases h
  | .sl a lo hi, c, W, X, xo, e, h => by
    unfold okE at h
    split at h
    · obtain ⟨h1, h⟩ := an h
      obtain ⟨h2, h3⟩ := an h
      exact both xo.K ((g_sl xo.K (sE a c W X xo _ h1).1 (sO lo c W X xo _ h2) (sO hi c W X xo _ h3)).eq fun e M => by (conv => lhs; unfold evE); first | done | rfl) rfl
    · cases h
  | .mt m a as, c, W, X, xo, e, h => by
    unfold okE at h
    split at h
    · rename_i x nm apos es pos
      obtain ⟨h1, h⟩ := an h
      obtain ⟨h2, h⟩ := an h
      obtain ⟨h3, h⟩ := an h
      obtain ⟨h4, h⟩ := an h
      obtain ⟨h5, h⟩ := an h
      obtain ⟨h6, h7⟩ := an h
      have e1 : mtName m = _ := of_decide_eq_true h1
      subst e1
      have ha := (sE a c W X xo _ h4).1
      have hA := sEs as c W X xo _ h5 h7
      cases es with
      | nil =>
        cases as with
        | nil => exact both xo.K ((g_mt0 xo.K ha (base_ok h2) h3).eq fun e M => by (conv => lhs; unfold evE evEs); first | done | rfl) rfl
        | cons _ _ => unfold okEs at h7; cases h7
      | cons e0 es =>
        have hs := h5
        rw [List.all_cons, Bool.and_eq_true] at hs
        exact both xo.K ((g_mt xo.K ha hA (base_ok h2) (few_ok h5 (of_decide_eq_true h6)) h3 (star_cons hs.1) (star_plain hs.2)).eq fun e M => by (conv => lhs; unfold evE); first | done | rfl) rfl
    · cases h
  | .bits a, c, W, X, xo, e, h => by
    unfold okE at h
    split at h
    · obtain ⟨h1, h⟩ := an h
      obtain ⟨h2, h⟩ := an h
      obtain ⟨h3, h4⟩ := an h
      have e1 := of_decide_eq_true h1
      subst e1
      exact both xo.K ((g_bits (sE a c W X xo _ h4).1 (base_ok h2) h3).eq fun e M => by (conv => lhs; unfold evE); first | done | rfl) rfl
    · cases h
  | .comp elt t it d own, c, W, X, xo, e, h => by
    unfold okE at h
    split at h
    · rename_i ee tg ie ifs k scope pos
      obtain ⟨h0, h⟩ := an h
      obtain ⟨h1, h⟩ := an h
      obtain ⟨h2, h⟩ := an h
      obtain ⟨h3, h⟩ := an h
      obtain ⟨h4, h⟩ := an h
      obtain ⟨h5, h⟩ := an h
      obtain ⟨h6, h⟩ := an h
      obtain ⟨h7, h8⟩ := an h
      have e0 := of_decide_eq_true h0
      subst e0
      have hb := blkOk_by h1
      have hb' : BlkOk X.N X.env.scope scope (relOwn c.N own) := by
        rw [xo.N, xo.sc]
        exact hb
      have hi := sI it tg c W X xo _ h5
      have hg := fun s H C l fp => sT t (c.blk scope) W0 _ (xo.blk hb.kind s H C l fp) _ h6
      have ht := fun s H C l fp => sC d (c.blk scope) W0 _ (xo.blk hb.kind s H C l fp) _ h7
      have he := fun s H C l fp => (sE elt (c.blk scope) W0 _ (xo.blk hb.kind s H C l fp) _ h8).1
      refine both xo.K (PE.imp (pe_lc xo.calm xo.nd hi hb' hg ht he (set_plain h4)) fun σ H Q z => ?_) rfl
      rw [relOwn_snd h2]
      refine comp_read (sl := QT.slots t) (fun j hj => of_decide_eq_true (List.all_eq_true.mp h3 j hj)) rfl rfl rfl rfl ?_
      rw [show (fun e M => (evI cl it e M).bind fun src M => (compL src.still (fun x M => evT cl t x (wipeVs e own) M) (fun e' M => evC cl d e' M) (fun e' M => evE cl elt e' M) src.items [] M).bind fun ys M => .ok (.ref M.length) (M ++ [.lst ys])) = evE cl (.comp elt t it d own) from by
        funext e M
        (conv => rhs; unfold evE)
        first | done | rfl]
      exact z
    · cases h
  | .gc a, c, W, X, xo, e, h => by
    unfold okE at h
    obtain ⟨h1, h2⟩ := an h
    exact both xo.K ((g_gc (sE a c W X xo _ h2).1).eq fun e M => by (conv => lhs; unfold evE); first | done | rfl) h1
/-- a further part of an and, an or -/
theorem sW : ∀ (q : QE) (c : Ctx) (W : WX) (X : Cx), XOk K n c.pr cl W c.N c.sc c.fnf X → ∀ (op : BoolOp) (xs : List Expr) (p : Pos), okE c q (.BoolOp op xs p) = true → q.tst = true → PW X (.BoolOp op xs p) (tTx K W (tst (evE cl q)))
  | .and a b, c, W, X, xo, op, xs, p, h, ht => by
    unfold okE at h
    split at h
    · rename_i x y r p' heq
      cases heq
      obtain ⟨h1, h⟩ := an h
      unfold QE.tst at ht
      obtain ⟨t1, t2⟩ := an ht
      have ha := (sE a c W X xo _ h1).2 t1
      have hb : PW X (.BoolOp .And (y :: r) p) (tTx K W (tst (evE cl b))) := by
        cases r with
        | nil => exact pw_and1 ((sE b c W X xo _ h).2 t2)
        | cons z r => exact sW b c W X xo _ _ _ h t2
      exact (gw_and ha hb).eq fun e M => by (conv => lhs; unfold evE); first | done | rfl
    · cases h
  | .or a b, c, W, X, xo, op, xs, p, h, ht => by
    unfold okE at h
    split at h
    · rename_i x y r p' heq
      cases heq
      obtain ⟨h1, h⟩ := an h
      unfold QE.tst at ht
      obtain ⟨t1, t2⟩ := an ht
      have ha := (sE a c W X xo _ h1).2 t1
      have hb : PW X (.BoolOp .Or (y :: r) p) (tTx K W (tst (evE cl b))) := by
        cases r with
        | nil => exact pw_or1 ((sE b c W X xo _ h).2 t2)
        | cons z r => exact sW b c W X xo _ _ _ h t2
      exact (gw_or ha hb).eq fun e M => by (conv => lhs; unfold evE); first | done | rfl
    · cases h
  | .var _, _, _, _, _, _, _, _, h, _ => by unfold okE at h; cases h
  | .int _, _, _, _, _, _, _, _, h, _ => by unfold okE at h; cases h
  | .bl _, _, _, _, _, _, _, _, h, _ => by unfold okE at h; cases h
  | .non, _, _, _, _, _, _, _, h, _ => by unfold okE at h; cases h
  | .str _, _, _, _, _, _, _, _, h, _ => by unfold okE at h; cases h
  | .ty _, _, _, _, _, _, _, _, h, _ => by unfold okE at h; cases h
  | .bin _ _ _, _, _, _, _, _, _, _, h, _ => by unfold okE at h; cases h
  | .neg _, _, _, _, _, _, _, _, h, _ => by unfold okE at h; cases h
  | .cmp _ _ _, _, _, _, _, _, _, _, h, _ => by unfold okE at h; cases h
  | .chain _ _ _ _ _, _, _, _, _, _, _, _, h, _ => by unfold okE at h; cases h
  | .isN _, _, _, _, _, _, _, _, h, _ => by unfold okE at h; cases h
  | .notN _, _, _, _, _, _, _, _, h, _ => by unfold okE at h; cases h
  | .not _, _, _, _, _, _, _, _, h, _ => by unfold okE at h; cases h
  | .ite _ _ _, _, _, _, _, _, _, _, h, _ => by unfold okE at h; cases h
  | .call _ _, _, _, _, _, _, _, _, h, _ => by unfold okE at h; cases h
  | .callK _ _ _ _, _, _, _, _, _, _, _, h, _ => by unfold okE at h; cases h
  | .bi _ _, _, _, _, _, _, _, _, h, _ => by unfold okE at h; cases h
  | .tup _, _, _, _, _, _, _, _, h, _ => by unfold okE at h; cases h
  | .lst _, _, _, _, _, _, _, _, h, _ => by unfold okE at h; cases h
  | .ix _ _, _, _, _, _, _, _, _, h, _ => by unfold okE at h; cases h
  | .sl _ _ _, _, _, _, _, _, _, _, h, _ => by unfold okE at h; cases h
  | .mt _ _ _, _, _, _, _, _, _, _, h, _ => by unfold okE at h; cases h
  | .bits _, _, _, _, _, _, _, _, h, _ => by unfold okE at h; cases h
  | .comp _ _ _ _ _, _, _, _, _, _, _, _, h, _ => by unfold okE at h; cases h
  | .gc _, _, _, _, _, _, _, _, h, _ => by
    unfold okE at h
    obtain ⟨h1, h2⟩ := an h
    cases h1
theorem sEs : ∀ (q : QEs) (c : Ctx) (W : WX) (X : Cx), XOk K n c.pr cl W c.N c.sc c.fnf X → ∀ es : List Expr, es.all notStar = true → okEs c q es = true → PA X es (tAx K W (evEs cl q))
  | .nil, c, W, X, xo, es, hs, h => by
    unfold okEs at h
    split at h
    · rw [show evEs cl .nil = fun _ M => .ok [] M from by funext e M; unfold evEs; rfl]
      exact g_anil
    · cases h
  | .cons a r, c, W, X, xo, es, hs, h => by
    unfold okEs at h
    split at h
    · rename_i e es
      obtain ⟨h1, h2⟩ := an h
      rw [List.all_cons, Bool.and_eq_true] at hs
      rw [show evEs cl (.cons a r) = fun e M => (evE cl a e M).bind fun x M => (evEs cl r e M).bind fun xs M => .ok (x :: xs) M from by funext e M; (conv => lhs; unfold evEs); first | done | rfl]
      exact g_acons (sE a c W X xo _ h1).1 (sEs r c W X xo _ hs.2 h2) (star_cons hs.1)
    · cases h
theorem sKs : ∀ (q : QEs) (c : Ctx) (W : WX) (X : Cx), XOk K n c.pr cl W c.N c.sc c.fnf X → ∀ ks : List Keyword, okKs c q ks = true → PK X ks (tAx K W (evEs cl q))
  | .nil, c, W, X, xo, es, h => by
    unfold okKs at h
    split at h
    · rw [show evEs cl .nil = fun _ M => .ok [] M from by funext e M; unfold evEs; rfl]
      exact g_knil
    · cases h
  | .cons a r, c, W, X, xo, es, h => by
    unfold okKs at h
    split at h
    · rename_i x e p es
      obtain ⟨h1, h2⟩ := an h
      rw [show evEs cl (.cons a r) = fun e M => (evE cl a e M).bind fun x M => (evEs cl r e M).bind fun xs M => .ok (x :: xs) M from by funext e M; (conv => lhs; unfold evEs); first | done | rfl]
      exact g_kcons (sE a c W X xo _ h1).1 (sKs r c W X xo _ h2)
    · cases h
theorem sO : ∀ (q : QO) (c : Ctx) (W : WX) (X : Cx), XOk K n c.pr cl W c.N c.sc c.fnf X → ∀ o : Option Expr, okO' c q o = true → PO X o (tOx K W (evO cl q))
  | .none, c, W, X, xo, o, h => by
    unfold okO' at h
    split at h
    · rw [show evO cl .none = fun _ M => .ok none M from by funext e M; (conv => lhs; unfold evO); first | done | rfl]
      exact g_onone
    · cases h
  | .some a, c, W, X, xo, o, h => by
    unfold okO' at h
    split at h
    · rw [show evO cl (.some a) = fun e M => (evE cl a e M).bind fun x M => match x with
        | .int i => .ok (some i) M
        | _ => .bad from by funext e M; (conv => lhs; unfold evO); first | done | rfl]
      exact g_osome (sE a c W X xo _ h).1
    · cases h
theorem sC : ∀ (q : QO) (c : Ctx) (W : WX) (X : Cx), XOk K n c.pr cl W c.N c.sc c.fnf X → ∀ es : List Expr, okC c q es = true → PTs X es (tTx K W (evC cl q))
  | .none, c, W, X, xo, es, h => by
    unfold okC at h
    split at h
    · rw [show evC cl .none = fun _ M => .ok true M from by funext e M; unfold evC; rfl]
      exact pts_nil.imp fun σ H Q ⟨ρ, e, M, he, hm, hp⟩ => hp true ρ H hm rfl .refl
    · cases h
  | .some a, c, W, X, xo, es, h => by
    unfold okC at h
    split at h
    · obtain ⟨h1, h2⟩ := an h
      rw [show evC cl (.some a) = tst (evE cl a) from by funext e M; unfold tst; (conv => lhs; unfold evC); first | done | rfl]
      exact pts_one ((sE a c W X xo _ h2).2 h1)
    · cases h
theorem sT : ∀ (q : QT) (c : Ctx) (W : WX) (X : Cx), XOk K n c.pr cl W c.N c.sc c.fnf X → ∀ e : Expr, okT c q e = true → PG X e (tTgt K W (QT.slots q) (evT cl q))
  | .var i, c, W, X, xo, e, h => by
    unfold okT at h
    split at h
    · obtain ⟨h1, h2⟩ := an h
      rw [show evT cl (.var i) = fun v e M => .ok (setV e i v) M from by funext v e M; (conv => lhs; unfold evT); first | done | rfl, show QT.slots (.var i) = [i] from by unfold QT.slots; rfl]
      rw [Bool.or_eq_true] at h2
      rcases h2 with h2 | h2
      · have k := isLoc_ok h2
        rw [← xo.sc] at k
        exact t_var xo.nd (xo.slot h1) (.inl k) (.inr k)
      · obtain ⟨h3, h4⟩ := an h2
        have k := isCel_ok h3
        rw [← xo.sc] at k
        exact t_var xo.nd (xo.slot h1) (.inr k) (.inl (by rw [xo.fn]; exact h4))
    · cases h
  | .tup ts, c, W, X, xo, e, h => by
    unfold okT at h
    split at h
    · obtain ⟨h1, h2⟩ := an h
      rw [show evT cl (.tup ts) = fun v e M => match v with
        | .tup xs => evTs cl ts xs e M
        | .ref n => match M[n]? with
          | some (.lst xs) => evTs cl ts xs e M
          | _ => .bad
        | _ => .bad from by funext v e M; (conv => lhs; unfold evT); first | done | rfl, show QT.slots (.tup ts) = QTs.slots ts from by conv => lhs; unfold QT.slots]
      obtain ⟨l1, l2⟩ := asg_len (env := X.env) h1
      exact t_tup xo.calm xo.K (sTs ts c W X xo _ h2) l1 l2 (evTs_len cl h2)
    · cases h
  | .sub a b, c, W, X, xo, e, h => by
    unfold okT at h
    split at h
    · rename_i x y pos
      obtain ⟨h1, h⟩ := an h
      obtain ⟨h2, h3⟩ := an h
      rw [show evT cl (.sub a b) = fun v e M => (evE cl a e M).bind fun o M => (evE cl b e M).bind fun i M => (setI o i v M).bind fun _ M => .ok e M from by funext v e M; (conv => lhs; unfold evT); first | done | rfl, show QT.slots (.sub a b) = [] from by unfold QT.slots; rfl]
      have ha := (sE a c W X xo _ h2).1
      have hb := (sE b c W X xo _ h3).1
      refine t_sub xo.units ha hb fun t ht => pg_sub ha hb ht fun v => ?_
      cases y <;> first | rfl | cases h1
    · cases h
theorem sTs : ∀ (q : QTs) (c : Ctx) (W : WX) (X : Cx), XOk K n c.pr cl W c.N c.sc c.fnf X → ∀ es : List Expr, okTs c q es = true → PGs X es (tTgts K W (QTs.slots q) (evTs cl q))
  | .nil, c, W, X, xo, es, h => by
    unfold okTs at h
    split at h
    · rw [show evTs cl .nil = fun vs e M => match vs with
        | [] => .ok e M
        | _ => .bad from by funext vs e M; cases vs <;> (unfold evTs; rfl), show QTs.slots .nil = [] from by unfold QTs.slots; rfl]
      exact t_nil
    · cases h
  | .cons t r, c, W, X, xo, es, h => by
    unfold okTs at h
    split at h
    · obtain ⟨h1, h2⟩ := an h
      rw [show evTs cl (.cons t r) = fun vs e M => match vs with
        | v :: vs => (evT cl t v e M).noexc.bind fun e M => (evTs cl r vs e M).noexc
        | [] => .bad from by funext vs e M; cases vs <;> ((conv => lhs; unfold evTs); first | done | rfl), show QTs.slots (.cons t r) = QT.slots t ++ QTs.slots r from by conv => lhs; unfold QTs.slots]
      exact t_cons (sT t c W X xo _ h1) (sTs r c W X xo _ h2) (by rw [asg_cons (qt_star h1)]; rfl)
    · cases h
theorem sI : ∀ (q : QI) (tg : Expr) (c : Ctx) (W : WX) (X : Cx), XOk K n c.pr cl W c.N c.sc c.fnf X → ∀ e : Expr, okI c tg q e = true → PI X tg e (tIx K W (evI cl q))
  | .list a, tg, c, W, X, xo, e, h => by
    unfold okI at h
    rw [show evI cl (.list a) = fun e M => (evE cl a e M).bind fun x M => listSrc x M from by funext e M; (conv => lhs; unfold evI); first | done | rfl]
    exact i_list xo.K (sE a c W X xo _ h).1
  | .tup a, tg, c, W, X, xo, e, h => by
    unfold okI at h
    rw [show evI cl (.tup a) = fun e M => (evE cl a e M).bind fun x M => tupSrc x M from by funext e M; (conv => lhs; unfold evI); first | done | rfl]
    exact i_tup xo.K (sE a c W X xo _ h).1
  | .rng1 a, tg, c, W, X, xo, e, h => by
    unfold okI at h
    split at h
    · obtain ⟨h1, h⟩ := an h
      obtain ⟨h2, h⟩ := an h
      obtain ⟨h3, h⟩ := an h
      obtain ⟨h4, h5⟩ := an h
      have e1 := of_decide_eq_true h1
      subst e1
      rw [show evI cl (.rng1 a) = fun e M => (evE cl a e M).bind fun x M => rngSrc (.int 0) x M from by funext e M; (conv => lhs; unfold evI); first | done | rfl]
      exact i_rng1 (xo.gl h2) (xo.pr.free _ (of_decide_eq_true h3)) (pa_cons (sE a c W X xo _ h5).1 pa_nil (star_cons h4)) (star_cons h4)
    · cases h
  | .rng2 a b, tg, c, W, X, xo, e, h => by
    unfold okI at h
    split at h
    · obtain ⟨h1, h⟩ := an h
      obtain ⟨h2, h⟩ := an h
      obtain ⟨h3, h⟩ := an h
      obtain ⟨h4, h⟩ := an h
      obtain ⟨h5, h⟩ := an h
      obtain ⟨h6, h7⟩ := an h
      have e1 := of_decide_eq_true h1
      subst e1
      rw [show evI cl (.rng2 a b) = fun e M => (evE cl a e M).bind fun x M => (evE cl b e M).bind fun y M => rngSrc x y M from by funext e M; (conv => lhs; unfold evI); first | done | rfl]
      exact i_rng2 (xo.gl h2) (xo.pr.free _ (of_decide_eq_true h3)) (pa_cons (sE a c W X xo _ h6).1 (pa_cons (sE b c W X xo _ h7).1 pa_nil (star_cons h5)) (star_cons h4)) (by rw [star_cons h4, star_cons h5]; rfl) (star_cons h5)
    · cases h
  | .enum a, tg, c, W, X, xo, e, h => by
    unfold okI at h
    split at h
    · obtain ⟨h1, h⟩ := an h
      obtain ⟨h2, h⟩ := an h
      obtain ⟨h3, h⟩ := an h
      obtain ⟨h4, h5⟩ := an h
      have e1 := of_decide_eq_true h1
      subst e1
      rw [show evI cl (.enum a) = fun e M => (evE cl a e M).bind fun x M => enumSrc x M from by funext e M; (conv => lhs; unfold evI); first | done | rfl]
      exact i_enum xo.K (xo.gl h2) (xo.pr.free _ (of_decide_eq_true h3)) (pa_cons (sE a c W X xo _ h5).1 pa_nil (star_cons h4)) (star_cons h4)
    · cases h
end
end
end Q

/-! QM: statements do what the evaluator says; defs. -/
namespace Q
open PySem PySem.Spec PyProof.Rows L2

def locName (c : Ctx) : Expr → Bool
  | .Name id _ => isLoc c.sc id
  | _ => false
def notPair (c : Ctx) (tg e : Expr) : Bool := match tg, e with
  | .Tuple ts _ _, .Tuple vs _ _ => vs.all (foldedForSure 8) || (!(ts.length == 2 || ts.length == 3) || !(ts.all (locName c)))
  | .List _ _, .Tuple _ _ _ => false
  | _, _ => true
theorem names_short {c : Ctx} {env : Env} {l : Nat} (hs : env.scope = c.sc) : ∀ {ts : List Expr}, ts.all (locName c) = false → (ts.filterMap fun
    | .Name id pos => if env.kindOf id == some .local && pos.line == l then some id else none
    | _ => none).length < ts.length
  | [], h => by cases h
  | t :: ts, h => by
    have le : ∀ ts : List Expr, (ts.filterMap fun
      | .Name id pos => if env.kindOf id == some .local && pos.line == l then some id else none
      | _ => none).length ≤ ts.length := fun ts => List.length_filterMap_le _ _
    rw [List.all_cons, Bool.and_eq_false_iff] at h
    rw [List.filterMap_cons]
    split
    · have := le ts
      rw [List.length_cons]
      omega
    · rename_i id hid
      rcases h with h | h
      · exfalso
        cases t with
        | Name x p =>
          have hid : (if env.kindOf x == some .local && p.line == l then some x else none) = some id := hid
          split at hid
          · rename_i hk
            obtain ⟨hk, _⟩ := an hk
            have hk : env.kindOf x = some .local := eq_of_beq hk
            have hk : env.scope.names.lookup x = some .local := hk
            rw [hs] at hk
            have h : isLoc c.sc x = false := h
            unfold isLoc at h
            rw [hk] at h
            cases h
          · cases hid
        | _ => cases hid
      · rw [List.length_cons, List.length_cons]
        have := names_short (l := l) hs h
        omega
theorem swapped_none {c : Ctx} {tg e : Expr} {env : Env} (h : notPair c tg e = true) (hs : env.scope = c.sc) : swappedStores [tg] e env = pure none := by
  cases tg with
  | Tuple ts k p =>
    cases e with
    | Tuple vs k2 p2 =>
      unfold swappedStores
      dsimp only
      have h : (vs.all (foldedForSure 8) || (!(ts.length == 2 || ts.length == 3) || !(ts.all (locName c)))) = true := h
      split
      · rfl
      · rename_i h1
        split
        · rfl
        · split
          · rfl
          · rename_i h3
            split
            · rfl
            · rename_i h4
              exfalso
              rw [Bool.or_eq_true, Bool.or_eq_true] at h
              rcases h with h | h | h
              · exact h4 h
              · apply h1
                rw [h]
                rfl
              · have h : ts.all (locName c) = false := by
                  cases hb : ts.all (locName c) with
                  | false => rfl
                  | true => rw [hb] at h; cases h
                apply h3
                have := names_short (l := (ts.head?.map (·.pos.line)).getD 0) hs h
                rw [Bool.or_eq_true]
                left
                exact bne_iff_ne.mpr (Nat.ne_of_lt this)
    | _ => rfl
  | List ts p =>
    cases e with
    | Tuple vs k2 p2 => cases h
    | _ => rfl
  | _ => rfl

/-! ### the checks -/
/-- how a comprehension is stored -/
def asgC (c : Ctx) (tg e : Expr) : Bool := match tg, e with
  | .Name y py, .ListComp _ _ scope pos => isLoc c.sc y && ((py.line == pos.line) && ((scope.names.any fun (n, k) => n == y && (k == .local || k == .cell)) == false))
  | _, _ => false
def isCompQ : QE → Bool
  | .comp _ _ _ _ _ => true
  | _ => false
/-- no swap of the comprehension's value and the target -/
def noSwap (c : Ctx) (tg e : Expr) : Bool := notComp e || (match tg with
  | .Name y _ => isCel c.sc y
  | _ => true)
mutual
def okS (c : Ctx) : QS → Stmt → Bool
  | .asg t a, s => match s with
    | .Assign [tg] e _ => okE c a e && (okT c t tg && (notPair c tg e && (noSwap c tg e || (isCompQ a && (c.sc.kind == .function && asgC c tg e)))))
    | _ => false
  | .par i j a b, s => match s with
    | .Assign [.Tuple [.Name x px, .Name y py] _ _] (.Tuple [ea, eb] _ _) _ => okE c a ea && (okE c b eb && (decide (c.N[i]? = some x) && (decide (c.N[j]? = some y) && (decide (i ≠ j) && (isLoc c.sc x && (isLoc c.sc y && (notStar ea && (notStar eb && ((px.line == py.line) && (c.sc.kind == .function && ([ea, eb].all (foldedForSure 8) == false && ([ea, eb].all (constantsAlone 8) == false && (x == y) == false))))))))))))
    | _ => false
  | .aug i o a, s => match s with
    | .AugAssign (.Name x _) op e _ => decide (op = opOf o) && (okE c a e && (decide (c.N[i]? = some x) && (isLoc c.sc x || (isCel c.sc x && c.fnf x))))
    | _ => false
  | .expr a, s => match s with
    | .Expr e _ => okE c a e && notComp e
    | _ => false
  | .ret a, s => match s with
    | .Return (some e) _ => okE c a e
    | _ => false
  | .retN, s => match s with
    | .Return none _ => true
    | _ => false
  | .ite t a b, s => match s with
    | .If e p q _ => QE.tst t && (okE c t e && (okSs c a p && okSs c b q))
    | _ => false
  | .whl t b, s => match s with
    | .While e p [] _ => QE.tst t && (okE c t e && okSs c b p)
    | _ => false
  | .for t it b, s => match s with
    | .For tg e p [] _ => okI c tg it e && (okT c t tg && (notSet e && okSs c b p))
    | _ => false
  | .brk, s => match s with
    | .Break _ => true
    | _ => false
  | .cont, s => match s with
    | .Continue _ => true
    | _ => false
  | .pass, s => match s with
    | .Pass _ => true
    | .Expr (.Constant (.str _) _ _) _ => true
    | _ => false
def okSs (c : Ctx) : QSs → List Stmt → Bool
  | .nil, ss => match ss with
    | [] => true
    | _ => false
  | .cons s r, ss => match ss with
    | x :: xs => okS c s x && okSs c r xs
    | [] => false
end
section
variable {K : Par} {n : Nat} {cl : Nat → List PV → Store → Res PV} {W : WX} {X : Cx}
theorem noSwap_ok {c : Ctx} {tg e : Expr} {l : Nat} {env : Env} (h : noSwap c tg e = true) (hs : env.scope = c.sc) : swapsWithSole [tg] e l env = pure false := by
  unfold noSwap at h
  rw [Bool.or_eq_true] at h
  rcases h with h | h
  · exact swaps_plain h
  · show swapsWith e (some tg) l env = pure false
    cases tg with
    | Name y p =>
      have h : isCel c.sc y = true := h
      have hk : env.kindOf y = some .cell := by
        have := isCel_ok h
        rw [← hs] at this
        exact this
      have hne : (env.kindOf y == some NameKind.local) = false := by rw [hk]; rfl
      unfold swapsWith
      cases e <;> first | rfl | (dsimp only; rw [hne, Bool.and_false]; rfl)
    | _ => cases e <;> first | rfl
theorem swapped_two {x y : Str} {px py pt pt2 : Pos} {kt k2 : Nat} {a b : Expr} {env : Env} (hb : env.blockKind = .function) (kx : env.kindOf x = some .local) (ky : env.kindOf y = some .local) (ha : notStar a = true) (hb2 : notStar b = true) (hl : (py.line == px.line) = true)
    (h1 : [a, b].all (foldedForSure 8) = false) (h2 : [a, b].all (constantsAlone 8) = false) (hxy : (x == y) = false) : swappedStores [.Tuple [.Name x px, .Name y py] kt pt] (.Tuple [a, b] k2 pt2) env = pure (some [x, y]) := by
  unfold swappedStores
  dsimp only
  have es : ∀ a : Expr, notStar a = true → (match a with | .Starred .. => true | _ => false) = false := fun a h => by
    cases a <;> first | rfl | cases h
  have hl' : py.line = px.line := eq_of_beq hl
  have e2 : (env.kindOf x == some NameKind.local && px.line == px.line) = true := by rw [kx]; simp
  have e3 : (env.kindOf y == some NameKind.local && py.line == px.line) = true := by rw [ky, hl]; rfl
  have hyx : (y == x) = false := by
    cases hq : y == x with
    | false => rfl
    | true => rw [eq_of_beq hq] at hxy; rw [beq_self_eq_true] at hxy; cases hxy
  have hne : (env.blockKind != ScopeKind.function) = false := by rw [hb]; rfl
  split
  · rename_i hq
    rw [hne] at hq
    cases hq
  · split
    · rename_i hq
      rw [List.any_cons, List.any_cons, List.any_nil, Bool.or_eq_true, Bool.or_eq_true] at hq
      rcases hq with hq | hq | hq
      · exact absurd (hq.symm.trans (es a ha)) (by decide)
      · exact absurd (hq.symm.trans (es b hb2)) (by decide)
      · cases hq
    · split
      · rename_i hq
        exfalso
        simp [Expr.pos, kx, ky, hl', List.eraseDups, List.eraseDupsBy, List.eraseDupsBy.loop, hyx, hxy] at hq
      · split
        · rename_i hq
          rw [h1] at hq
          cases hq
        · split
          · rename_i hq
            rw [h2] at hq
            cases hq
          · simp [Expr.pos, kx, ky, hl']
/-- name = [..] -/
theorem s_lc {i : Nat} {elt : QE} {t : QT} {it : QI} {d : QO} {own : List Nat} {c : Ctx} {y : Str} {py : Pos} {ee tg ie : Expr} {ifs : List Expr} {scope : Scope} {pos spos : Pos} {k : Int} (xo : XOk K n c.pr cl W c.N c.sc c.fnf X)
    (h : okE c (.comp elt t it d own) (.ListComp ee [⟨tg, ie, ifs, k⟩] scope pos) = true) (hi : decide (c.N[i]? = some y) = true) (hk : c.sc.kind = .function) (ha : asgC c (.Name y py) (.ListComp ee [⟨tg, ie, ifs, k⟩] scope pos) = true) :
    PS X (.Assign [.Name y py] (.ListComp ee [⟨tg, ie, ifs, k⟩] scope pos) spos) (tSx K W fun e M => (evE cl (.comp elt t it d own) e M).to e fun x M => .nx (setV e i x) M) := by
  unfold okE at h
  obtain ⟨h0, h⟩ := an h
  obtain ⟨h1, h⟩ := an h
  obtain ⟨h2, h⟩ := an h
  obtain ⟨h3, h⟩ := an h
  obtain ⟨h4, h⟩ := an h
  obtain ⟨h5, h⟩ := an h
  obtain ⟨h6, h⟩ := an h
  obtain ⟨h7, h8⟩ := an h
  have e0 := of_decide_eq_true h0
  subst e0
  have hb := blkOk_by h1
  have hb' : BlkOk X.N X.env.scope scope (relOwn c.N own) := by
    rw [xo.N, xo.sc]
    exact hb
  have hit := sI it tg c W X xo _ h5
  have hg := fun s H C l fp => sT t (c.blk scope) W0 _ (xo.blk hb.kind s H C l fp) _ h6
  have ht := fun s H C l fp => sC d (c.blk scope) W0 _ (xo.blk hb.kind s H C l fp) _ h7
  have he := fun s H C l fp => (sE elt (c.blk scope) W0 _ (xo.blk hb.kind s H C l fp) _ h8).1
  unfold asgC at ha
  obtain ⟨a1, ha⟩ := an ha
  obtain ⟨a2, a3⟩ := an ha
  have ly : X.env.scope.names.lookup y = some .local := by rw [xo.sc]; exact isLoc_ok a1
  refine (ps_setLc xo.calm xo.nd (xo.slot hi) ly (sw_true (by rw [xo.sc]; exact hk) ly a2 (nf a3)) hit hb' hg ht he (set_plain h4)).imp fun D σ H z => ?_
  obtain ⟨ρ, e, M, hee, hm, hp⟩ := z
  show tLc _ _ _ _ _ σ H fun x H1 => gName i x σ H1 D.nx
  rw [relOwn_snd h2]
  refine comp_read (sl := QT.slots t) (fun j hj => of_decide_eq_true (List.all_eq_true.mp h3 j hj)) rfl rfl rfl rfl ?_
  rw [show (fun e M => (evI cl it e M).bind fun src M => (compL src.still (fun x M => evT cl t x (wipeVs e own) M) (fun e' M => evC cl d e' M) (fun e' M => evE cl elt e' M) src.items [] M).bind fun ys M => .ok (.ref M.length) (M ++ [.lst ys])) = evE cl (.comp elt t it d own) from by
    funext e M
    (conv => rhs; unfold evE)
    first | done | rfl]
  exact ⟨ρ, e, M, hee, hm, PostS.to hee hp fun x M1 v ρ1 H1 m1 r1 x1 h1 => h1 _ ρ1 H1 ((hee.ext x1).set r1 i) m1 .refl⟩
mutual
theorem sS : ∀ (q : QS) (c : Ctx) (W : WX) (X : Cx), XOk K n c.pr cl W c.N c.sc c.fnf X → PassesOwn (model X.prog X.w) X.A X.env X.xe → ∀ s : Stmt, okS c q s = true → PS X s (tSx K W (exS cl q))
  | .asg t a, c, W, X, xo, po, s, h => by
    unfold okS at h
    split at h
    · rename_i tg e pos
      obtain ⟨h1, h⟩ := an h
      obtain ⟨h2, h⟩ := an h
      obtain ⟨h3, h4⟩ := an h
      rw [Bool.or_eq_true] at h4
      rcases h4 with h4 | h4
      · rw [show exS cl (.asg t a) = fun e M => (evE cl a e M).to e fun x M => (evT cl t x e M).to e fun e M => .nx e M from by funext e M; (conv => lhs; unfold exS); first | done | rfl]
        exact s_asg (sE a c W X xo _ h1).1 (sT t c W X xo _ h2) (noSwap_ok h4 xo.sc) (swapped_none h3 xo.sc) (by rw [asg_cons (qt_star h2)]; rfl)
      · obtain ⟨k0, h4⟩ := an h4
        obtain ⟨k1, k2⟩ := an h4
        have hk : c.sc.kind = .function := eq_of_beq k1
        have k3 := k2
        unfold asgC at k3
        split at k3
        · rename_i y py ee gs scope lpos
          cases a with
          | comp elt t' it d own =>
            have h1' := h1
            unfold okE at h1'
            split at h1'
            · rename_i heq
              cases heq
              cases t with
              | var i =>
                unfold okT at h2
                obtain ⟨h21, _⟩ := an h2
                rw [show exS cl (.asg (.var i) (.comp elt t' it d own)) = fun e M => (evE cl (.comp elt t' it d own) e M).to e fun x M => .nx (setV e i x) M from by
                  funext e M
                  (conv => lhs; unfold exS)
                  rfl]
                exact s_lc xo h1 h21 hk k2
              | _ => unfold okT at h2; cases h2
            · cases h1'
          | _ => cases k0
        · cases k3
    · cases h
  | .par i j a b, c, W, X, xo, po, s, h => by
    unfold okS at h
    split at h
    · rename_i x px y py kt pt ea eb k2 pt2 pos
      obtain ⟨h1, h⟩ := an h
      obtain ⟨h2, h⟩ := an h
      obtain ⟨h3, h⟩ := an h
      obtain ⟨h4, h⟩ := an h
      obtain ⟨h5, h⟩ := an h
      obtain ⟨h6, h⟩ := an h
      obtain ⟨h7, h⟩ := an h
      obtain ⟨h8, h⟩ := an h
      obtain ⟨h9, h⟩ := an h
      obtain ⟨h10, h⟩ := an h
      obtain ⟨h11, h⟩ := an h
      obtain ⟨h12, h⟩ := an h
      obtain ⟨h13, h14⟩ := an h
      rw [show exS cl (.par i j a b) = fun e M => (evE cl a e M).to e fun x M => (evE cl b e M).to e fun y M => .nx (setV (setV e i x) j y) M from by funext e M; (conv => lhs; unfold exS); first | done | rfl]
      have lx : X.env.scope.names.lookup x = some .local := by rw [xo.sc]; exact isLoc_ok h6
      have ly : X.env.scope.names.lookup y = some .local := by rw [xo.sc]; exact isLoc_ok h7
      have hb : X.env.blockKind = .function := by unfold Env.blockKind; rw [xo.sc, eq_of_beq h11]; rfl
      have kx : X.env.kindOf x = some .local := lx
      have ky : X.env.kindOf y = some .local := ly
      have hl : (py.line == px.line) = true := by rw [eq_of_beq h10]; exact beq_self_eq_true _
      refine s_par xo.calm xo.nd (xo.slot h3) (xo.slot h4) (of_decide_eq_true h5) lx ly (sE a c W X xo _ h1).1 (sE b c W X xo _ h2).1 (star_cons h8) (star_cons h9) ?_ rfl
      exact swapped_two hb kx ky h8 h9 hl (nf h12) (nf h13) (nf h14)
    · cases h
  | .aug i o a, c, W, X, xo, po, s, h => by
    unfold okS at h
    split at h
    · obtain ⟨h1, h⟩ := an h
      obtain ⟨h2, h⟩ := an h
      obtain ⟨h3, h4⟩ := an h
      have e1 := of_decide_eq_true h1
      subst e1
      rw [show exS cl (.aug i o a) = fun e M => match getV e i with
        | some x => (evE cl a e M).to e fun y M => (augV o x y M).to e fun z M => .nx (setV e i z) M
        | none => .bad from by funext e M; (conv => lhs; unfold exS); first | done | rfl]
      rw [Bool.or_eq_true] at h4
      rcases h4 with h4 | h4
      · have k := isLoc_ok h4
        rw [← xo.sc] at k
        exact s_aug xo.nd (xo.slot h3) (.inl k) (sE a c W X xo _ h2).1 (.inr k)
      · obtain ⟨h5, h6⟩ := an h4
        have k := isCel_ok h5
        rw [← xo.sc] at k
        exact s_aug xo.nd (xo.slot h3) (.inr k) (sE a c W X xo _ h2).1 (.inl (by rw [xo.fn]; exact h6))
    · cases h
  | .expr a, c, W, X, xo, po, s, h => by
    unfold okS at h
    split at h
    · obtain ⟨h1, h2⟩ := an h
      rw [show exS cl (.expr a) = fun e M => (evE cl a e M).to e fun _ M => .nx e M from by funext e M; (conv => lhs; unfold exS); first | done | rfl]
      exact s_expr (sE a c W X xo _ h1).1 (swaps_plain h2)
    · cases h
  | .ret a, c, W, X, xo, po, s, h => by
    unfold okS at h
    split at h
    · rw [show exS cl (.ret a) = fun e M => (evE cl a e M).to e fun x M => .rt x M from by funext e M; (conv => lhs; unfold exS); first | done | rfl]
      exact s_ret (sE a c W X xo _ h).1
    · cases h
  | .retN, c, W, X, xo, po, s, h => by
    unfold okS at h
    split at h
    · rw [show exS cl .retN = fun _ M => .rt .non M from by funext e M; (conv => lhs; unfold exS); first | done | rfl]
      exact s_retN
    · cases h
  | .ite t a b, c, W, X, xo, po, s, h => by
    unfold okS at h
    split at h
    · obtain ⟨h1, h⟩ := an h
      obtain ⟨h2, h⟩ := an h
      obtain ⟨h3, h4⟩ := an h
      rw [show exS cl (.ite t a b) = fun e M => (evE cl t e M).to e fun x M => (truR x M).to e fun k M => match k with
        | true => exSs cl a e M
        | false => exSs cl b e M from by funext e M; (conv => lhs; unfold exS); first | done | rfl]
      exact s_ite ((sE t c W X xo _ h2).2 h1) (sSs a c W X xo po _ h3) (sSs b c W X xo po _ h4)
    · cases h
  | .whl t b, c, W, X, xo, po, s, h => by
    unfold okS at h
    split at h
    · obtain ⟨h1, h⟩ := an h
      obtain ⟨h2, h3⟩ := an h
      rw [show exS cl (.whl t b) = fun e M => whileL (fun e M => evE cl t e M) (fun e M => exSs cl b e M) bigW e M from by funext e M; (conv => lhs; unfold exS); first | done | rfl]
      exact s_whl po ((sE t c W X xo _ h2).2 h1) (sSs b c W X xo po _ h3)
    · cases h
  | .for t it b, c, W, X, xo, po, s, h => by
    unfold okS at h
    split at h
    · obtain ⟨h1, h⟩ := an h
      obtain ⟨h2, h⟩ := an h
      obtain ⟨h3, h4⟩ := an h
      rw [show exS cl (.for t it b) = fun e M => (evI cl it e M).to e fun src M => forL src.still (fun x e M => evT cl t x e M) (fun e M => exSs cl b e M) src.items e M from by funext e M; (conv => lhs; unfold exS); first | done | rfl]
      exact s_for po xo.calm (sI it _ c W X xo _ h1) (sT t c W X xo _ h2) (sSs b c W X xo po _ h4) (set_plain h3)
    · cases h
  | .brk, c, W, X, xo, po, s, h => by
    unfold okS at h
    split at h
    · rw [show exS cl .brk = fun e M => .bk e M from by funext e M; (conv => lhs; unfold exS); first | done | rfl]
      exact s_brk
    · cases h
  | .cont, c, W, X, xo, po, s, h => by
    unfold okS at h
    split at h
    · rw [show exS cl .cont = fun e M => .ct e M from by funext e M; (conv => lhs; unfold exS); first | done | rfl]
      exact s_cont
    · cases h
  | .pass, c, W, X, xo, po, s, h => by
    rw [show exS cl .pass = fun e M => .nx e M from by funext e M; (conv => lhs; unfold exS); first | done | rfl]
    unfold okS at h
    split at h
    · exact s_pass
    · exact ps_doc.imp fun D σ H ⟨ρ, e, M, he, hm, hp⟩ => hp σ ρ H he hm .refl
    · cases h
theorem sSs : ∀ (q : QSs) (c : Ctx) (W : WX) (X : Cx), XOk K n c.pr cl W c.N c.sc c.fnf X → PassesOwn (model X.prog X.w) X.A X.env X.xe → ∀ ss : List Stmt, okSs c q ss = true → PSs X ss (tSx K W (exSs cl q))
  | .nil, c, W, X, xo, po, ss, h => by
    unfold okSs at h
    split at h
    · rw [show exSs cl .nil = fun e M => .nx e M from by funext e M; (conv => lhs; unfold exSs); first | done | rfl]
      exact s_nil
    · cases h
  | .cons s r, c, W, X, xo, po, ss, h => by
    unfold okSs at h
    split at h
    · obtain ⟨h1, h2⟩ := an h
      rw [show exSs cl (.cons s r) = fun e M => (exS cl s e M).seq fun e M => exSs cl r e M from by funext e M; (conv => lhs; unfold exSs); first | done | rfl]
      exact s_cons (sS s c W X xo po _ h1) (sSs r c W X xo po _ h2)
    · cases h
end
end
end Q

/-! QN: defs, the program, a law's end. -/
namespace Q
open PySem PySem.Spec PyProof.Rows L2

def nodupB : List Str → Bool
  | [] => true
  | x :: xs => !(xs.contains x) && nodupB xs
theorem nodupB_ok : ∀ {xs : List Str}, nodupB xs = true → xs.Nodup
  | [], _ => List.nodup_nil
  | x :: xs, h => by
    obtain ⟨h1, h2⟩ := an h
    refine List.nodup_cons.mpr ⟨fun hm => ?_, nodupB_ok h2⟩
    have : xs.contains x = true := by simpa using hm
    rw [this] at h1
    cases h1
def isFreeK : NameKind → Bool
  | .free => true
  | _ => false
def fnScopeB (N P : List Str) (sc : Scope) : Bool := sc.kind == .function && ((sc.isCoroutine == false) && ((sc.isGenerator == false) && (nodupB N && (decide (N.take P.length = P) && ((P.all fun x => isLoc sc x || isCel sc x) && (sc.names.all fun y => !(isFreeK y.2)))))))
theorem fnScopeB_ok {N P : List Str} {sc : Scope} (h : fnScopeB N P sc = true) : FnScope N P sc := by
  obtain ⟨h1, h⟩ := an h
  obtain ⟨h2, h⟩ := an h
  obtain ⟨h3, h⟩ := an h
  obtain ⟨h4, h⟩ := an h
  obtain ⟨h5, h⟩ := an h
  obtain ⟨h6, h7⟩ := an h
  refine ⟨eq_of_beq h1, nf h2, nf h3, nodupB_ok h4, of_decide_eq_true h5, fun x hx => ?_, fun y hy e => ?_⟩
  · have := List.all_eq_true.mp h6 x hx
    rw [Bool.or_eq_true] at this
    rcases this with k | k
    · exact .inl (isLoc_ok k)
    · exact .inr (isCel_ok k)
  · have := List.all_eq_true.mp h7 y hy
    rw [e] at this
    cases this
/-- a def of the text, and what it is said to be -/
structure DD where
  id : Nat
  name : Str
  st : Stmt
  q : QF
  N : List Str
  ps : List Str
  kws : List (Nat × List Str × List Nat) := []
def defArgs' (s : Stmt) : Arguments := defArgs s
def DD.okB (pr : Pg) (d : DD) : Bool := fnScopeB d.N d.ps (defScope d.st) && (okSs ⟨defScope d.st, d.N, fun _ => true, pr⟩ d.q.body (defBody d.st) && (d.q.slots == d.N.length && d.q.pars == d.ps.length))
/-- how it takes its values -/
def DD.Bd (d : DD) : Prop := ∀ (kV doc pm : Value) (an : Option Addr) (cdv ct : Value) (us : List Value), us.length = d.ps.length → bindArgs (PySem.W.fnOf d.name d.name (defArgs d.st) (defBody d.st) (defScope d.st) .none kV doc pm an cdv ct) ⟨us, []⟩ = pure (d.ps.zip us)
def DD.Kw (d : DD) : Prop := ∀ z ∈ d.kws, ∀ (dV kV doc pm : Value) (an : Option Addr) (cdv ct : Value), dV = .none → KB (PySem.W.fnOf d.name d.name (defArgs d.st) (defBody d.st) (defScope d.st) dV kV doc pm an cdv ct) d.ps z.1 z.2.1 z.2.2
section
variable {P : Program} {w : World} {K : Par} {mg : Str → Option Value} {base : Heap} {n : Nat} {pr : Pg} {cl : Nat → List PV → Store → Res PV}
theorem rel_start {ρ : List Addr} {H : Hp} : ∀ {xs : List PV} {vs : List V} {k : Nat}, RelPs K ρ H xs vs → RelE K ρ H (xs.map some ++ List.replicate k none) (vs.map some ++ List.replicate k none)
  | [], vs, k, h => by
    rw [relPs_nil.mp h]
    show RelE K ρ H (List.replicate k none) (List.replicate k none)
    induction k with
    | zero => exact .nil
    | succ k ih => exact .non ih
  | x :: xs, vs, k, h => by
    obtain ⟨v, r, rfl, h1, h2⟩ := relPs_cons.mp h
    exact .som h1 (rel_start h2)
theorem fn_ok {d : DD} {f : Addr} {fd : FuncData} (pk : PrOk P w K mg base n pr cl) (F : FunD K.F d.name d.name (defArgs d.st) (defBody d.st) (defScope d.st) [] [] f fd) (h : d.okB pr = true) : FnOk P w K.F mg base (CX P w) (n + 1) f fd d.ps (spD K (exF cl d.q)) := by
  obtain ⟨h1, h⟩ := an h
  obtain ⟨h2, h⟩ := an h
  obtain ⟨h3, h4⟩ := an h
  have e3 : d.q.slots = d.N.length := eq_of_beq h3
  have e4 : d.q.pars = d.ps.length := eq_of_beq h4
  have S := fnScopeB_ok h1
  refine F.ok S (fun vs H Q E h => ?_) fun cdv A outer s H vs Q E hr hsp => ?_
  · obtain ⟨ρ, M, xs, hx, hm, hp⟩ := h
    unfold exF at hp
    split at hp
    · rename_i hl
      rw [← hx.length, hl, e4]
    · exact hp.elim
  · have xo : XOk K n pr cl (fun cls d _ H => E cls d H) d.N (defScope d.st) (fun _ => true) (cxOf (CX P w) P w K.F mg base d.N d.name (defScope d.st) f cdv A outer s H E) :=
      { pr := pk, K := rfl, N := rfl, sc := rfl, fn := rfl, calm := rfl, nd := S.nd, room := hr, tk := takes_of rfl rfl rfl rfl, kind := S.kind }
    refine ⟨_, sSs (K := K) d.q.body ⟨defScope d.st, d.N, fun _ => true, pr⟩ _ _ xo (passes_of rfl) _ h2, ?_⟩
    obtain ⟨ρ, M, xs, hx, hm, hp⟩ := hsp
    unfold exF at hp
    split at hp
    · rename_i hl
      refine ⟨ρ, startV d.q.slots xs, M, ?_, hm, ?_⟩
      · unfold startV L2.start
        rw [e3, hx.length]
        exact rel_start hx
      · cases hq : exSs cl d.q.body (startV d.q.slots xs) M with
        | nx e M' =>
          rw [hq] at hp
          have hp : Post K (RP K) _ Q ρ H ((Res.ok PV.non M' : Res PV).bind fun x M' => gcR M x M') := hp
          have hp := gc_post hm hp
          exact fun σ' ρ' H' he' hm' x' => hp .non ρ' H' hm' (relP_non.mpr rfl) x'
        | rt v M' =>
          rw [hq] at hp
          have hp : Post K (RP K) _ Q ρ H ((Res.ok v M' : Res PV).bind fun x M' => gcR M x M') := hp
          have hp := gc_post hm hp
          exact fun u ρ' H' hm' hr' x' => hp u ρ' H' hm' hr' x'
        | bk e M' => rw [hq] at hp; exact hp.elim
        | ct e M' => rw [hq] at hp; exact hp.elim
        | exc x e M' =>
          rw [hq] at hp
          exact fun σ' ρ' H' cls dd he' hm' x' rx => hp ρ' H' hm' x' cls dd rx
        | bad => rw [hq] at hp; exact hp.elim
    · exact hp.elim
end
/-! ### the program -/
def look (ds : List DD) (f : Nat) : Option DD := ds.find? fun d => d.id == f
theorem look_mem {ds : List DD} {f : Nat} {d : DD} (h : look ds f = some d) : d ∈ ds := List.mem_of_find?_eq_some h
def tabs (ds : List DD) (f : Nat) : Option QF := (look ds f).map (·.q)
def fis (ds : List DD) (f : Nat) : Option FI := (look ds f).map fun d => ⟨d.name, d.ps⟩
def kwsOf (ds : List DD) (f : Nat) : List (Nat × List Str × List Nat) := match look ds f with
  | some d => d.kws
  | none => []
def pgOf (ds : List DD) (free : List Str) : Pg := ⟨fis ds, free, kwsOf ds⟩
def DD.D (d : DD) : He.DefD := ⟨(d.name, none), d.name, d.name, defArgs d.st, defBody d.st, defScope d.st, [], []⟩
def factsOf (ds : List DD) (free : List Str) : List He.Fa := ds.map (fun d => .glo d.name) ++ free.map .free
theorem pr_ok {P : Program} {w : World} {F : PySem.W.Frag} {K : Par} {mg : Str → Option Value} {h base : Heap} {ds : List DD} {free : List Str} (hF : K.F = F) (X : F.In h) (G : h.Ns mainGlobals mg) (c : He.SaysD (factsOf ds free) (ds.map DD.D) F)
    (hok : ds.all (DD.okB (pgOf ds free)) = true) (hb : ∀ d ∈ ds, d.Bd ∧ d.Kw) : ∀ n : Nat, PrOk P w K mg base n (pgOf ds free) (den (tabs ds) n) := by
  subst hF
  have hfree : ∀ x ∈ free, mg x = none := fun x hx => by
    obtain ⟨i, hi, e⟩ := List.getElem_of_mem hx
    exact He.free_ok X G (c.fact (ds.length + i) (f := .free x) (by unfold factsOf; rw [List.getElem?_append_right (by simp)]; simp [hi, e]))
  have hdef : ∀ d ∈ ds, ∃ fd, FunD K.F d.name d.name (defArgs d.st) (defBody d.st) (defScope d.st) [] [] (He.ga K.F d.name) fd ∧ mg d.name = some (.ref (He.ga K.F d.name)) := fun d hd => by
    obtain ⟨f, hl, e⟩ := List.getElem_of_mem hd
    have hd : ds[f]? = some d := by rw [List.getElem?_eq_getElem hl, e]
    obtain ⟨fd, F⟩ := c.def_ f (d := d.D) (by rw [List.getElem?_map, hd]; rfl)
    exact ⟨fd, F, He.glo_ok X G (c.fact f (f := .glo d.name) (by
      unfold factsOf
      rw [List.getElem?_append_left (by simpa using hl), List.getElem?_map, hd]
      rfl))⟩
  have hkw : ∀ (f : Nat) (d : DD) (fd : FuncData), look ds f = some d → FunD K.F d.name d.name (defArgs d.st) (defBody d.st) (defScope d.st) [] [] (He.ga K.F d.name) fd → ∀ c' ks pm, (c', ks, pm) ∈ kwsOf ds f → KB fd d.ps c' ks pm := fun f d fd hd F c' ks pm hk => by
    unfold kwsOf at hk
    rw [hd] at hk
    obtain ⟨oc, od, dV, kV, doc, pm', an, cdv, ct, osl, rfl, lk, hcd, hD, hK⟩ := F.ex
    rcases hD with ⟨_, e⟩ | ⟨e, _⟩
    · exact (hb d (look_mem hd)).2 _ hk dV kV doc pm' an cdv ct e
    · exact absurd rfl e
  intro n
  induction n with
  | zero =>
    refine ⟨fun f i hi => ?_, hfree⟩
    have hi : (look ds f).map (fun d => (⟨d.name, d.ps⟩ : FI)) = some i := hi
    cases hd : look ds f with
    | none => rw [hd] at hi; cases hi
    | some d =>
      rw [hd] at hi
      cases hi
      have hmem := look_mem hd
      obtain ⟨fd, F, hm⟩ := hdef d hmem
      refine ⟨_, fd, hm, F.kp, FunD.bindsN F fun kV doc pm an cdv ct us hl => (hb d hmem).1 kV doc pm an cdv ct us hl, ⟨fun vs H Q E z => ?_, fun A outer s H args us vs Q E _ _ _ _ z => ?_⟩, hkw f d fd hd F⟩
      · obtain ⟨ρ, M, xs, _, _, hp⟩ := z
        exact hp.elim
      · obtain ⟨ρ, M, xs, _, _, hp⟩ := z
        exact hp.elim
  | succ n ih =>
    refine ⟨fun f i hi => ?_, hfree⟩
    have hi : (look ds f).map (fun d => (⟨d.name, d.ps⟩ : FI)) = some i := hi
    cases hd : look ds f with
    | none => rw [hd] at hi; cases hi
    | some d =>
      rw [hd] at hi
      cases hi
      have hmem := look_mem hd
      obtain ⟨fd, F, hm⟩ := hdef d hmem
      have e1 : den (tabs ds) (n + 1) f = exF (den (tabs ds) n) d.q := by
        funext xs M
        (conv => lhs; unfold den)
        unfold tabs
        rw [hd]
        rfl
      rw [e1]
      exact ⟨_, fd, hm, F.kp, FunD.bindsN F fun kV doc pm an cdv ct us hl => (hb d hmem).1 kV doc pm an cdv ct us hl, fn_ok ih F (List.all_eq_true.mp hok d hmem), hkw f d fd hd F⟩
end Q

/-! QO: a law's end. -/
namespace Q
open PySem PySem.Spec PyProof.Rows L2
theorem law_sp {K : Par} {g : List PV → Store → Res PV} {H : Hp} {a : Addr} {ns : List Int} (hO : Only H) (hS : SqL K.F H a (ns.map V.int)) (hg : ∃ M', g [.fro ns] [] = .ok (.bl true) M') : spD K g [.ref a] H (fun v _ => v = .bl true) fun _ _ _ => False := by
  obtain ⟨M', e⟩ := hg
  refine ⟨[], [], [.fro ns], .mk (relP_fro.mpr ⟨a, rfl, ?_⟩) .nil, ⟨rfl, List.nodup_nil, fun n a c h => by simp at h⟩, ?_⟩
  · rcases hS with (h | h) | h
    · rcases hO a with z | ⟨o, xs, z⟩
      · rw [z] at h; cases h
      · rw [z] at h; cases h
    · exact .inl h
    · exact .inr h
  · rw [e]
    intro v ρ' H' m r x
    exact relP_bl.mp r
theorem walk_q {l : PySem.W.OpenLaw} {m n : Nat} {q : Program} {loose : List Str} {XP : (Str → Option Value) → Heap → Prop} {YP : World → Heap → Prop} {d : DefRec} {ds : List DD} {free : List Str} {fl : Nat} {dl : DD} {x : Str}
    (hn : l.most = some m) (hn2 : m ≤ sizeLine) (hdf : d.params.defaults = []) (hr : Room (n + 1) callerA) (hY : ∀ w h, YP w h → ∃ K : PySem.W.Frag, K.In h ∧ He.SaysD (factsOf ds free) (ds.map DD.D) K)
    (hname : d.name = dl.name) (hd : look ds fl = some dl) (hps : dl.ps = [x]) (hok : ds.all (DD.okB (pgOf ds free)) = true) (hb : ∀ d ∈ ds, d.Bd ∧ d.Kw)
    (hlaw : ∀ ns : List Int, ns.length ≤ m → (∀ z ∈ ns, Builtin.Int.intBits z ≤ 1048576) → ∃ M', den (tabs ds) (n + 1) fl [.fro ns] [] = .ok (.bl true) M') :
    PySem.W.WalkO q loose XP YP l.row.toRowW d [] (fun f vs => PySem.call f vs) := by
  refine Att.attach_callB hn hdf fun w s₀ s₁ mg mb fa o pm cd doc a vs ns G Y ho hdd hcd hmg hobj hints hlen hbits hg => ?_
  obtain ⟨K, KX, c⟩ := hY w _ Y
  have hmem := look_mem hd
  obtain ⟨fi, hl, e⟩ := List.getElem_of_mem hmem
  have hdi : ds[fi]? = some dl := by rw [List.getElem?_eq_getElem hl, e]
  obtain ⟨fd, F⟩ := c.def_ fi (d := dl.D) (by rw [List.getElem?_map, hdi]; rfl)
  have h1 : mg dl.name = some (.ref (He.ga K dl.name)) := He.glo_ok KX G.T.g (c.fact fi (f := .glo dl.name) (by
      unfold factsOf
      rw [List.getElem?_append_left (by simpa using hl), List.getElem?_map, hdi]
      rfl))
  rw [hname] at hmg
  rw [hmg] at h1
  cases h1
  have F : FunD K dl.name dl.name (defArgs dl.st) (defBody dl.st) (defScope dl.st) [] [] (He.ga K dl.name) fd := F
  have e1 : den (tabs ds) (n + 1) fl = exF (den (tabs ds) n) dl.q := by
    funext xs M
    (conv => lhs; unfold den)
    unfold tabs
    rw [hd]
    rfl
  have hb1 := FunD.bindsA (ps := dl.ps) F fun kV doc pm an cdv ct us hl => (hb dl hmem).1 kV doc pm an cdv ct us hl
  rw [hps] at hb1
  refine law_call (x := x) (sp := spD { F := K, kt := fun _ => False, ex := fun _ => none } (den (tabs ds) (n + 1) fl)) (CX := L2.CX l.prog w) KX G.T.g G.T.b G.T.builtins G.T.nolimit hg hobj hints (Nat.le_trans hlen hn2) hr (fun base KB NB => ?_) (fun s v => hb1 s [v] rfl)
    (fun H hO hS => law_sp (K := { F := K, kt := fun _ => False, ex := fun _ => none }) hO hS (hlaw ns hlen hbits)) (fun H e s' ⟨_, _, _, _, _, _, _, _, _, _, _, _, z⟩ => z)
  have pk := pr_ok (P := l.prog) (w := w) (K := { F := K, kt := fun _ => False, ex := fun _ => none }) (mg := mg) (base := base) rfl KX G.T.g c hok hb n
  have := fn_ok pk F (List.all_eq_true.mp hok dl hmem)
  rw [← e1, hps] at this
  exact this
end Q

/-! QP: a calculus of what the evaluator hands back. -/
namespace Q
open PySem PySem.Spec PyProof.Rows L2

def Res.Sat {α : Type} (r : Res α) (Q : α → Store → Prop) : Prop := match r with
  | .ok a M => Q a M
  | _ => False
/-- what holds behind a statement -/
structure En where
  nx : PEnv → Store → Prop := fun _ _ => False
  rt : PV → Store → Prop := fun _ _ => False
  bk : PEnv → Store → Prop := fun _ _ => False
  ct : PEnv → Store → Prop := fun _ _ => False
def RS.Sat (r : RS) (D : En) : Prop := match r with
  | .nx e M => D.nx e M
  | .rt v M => D.rt v M
  | .bk e M => D.bk e M
  | .ct e M => D.ct e M
  | _ => False
section
variable {α β : Type} {Q Q' : α → Store → Prop} {D D' : En}
@[simp] theorem sat_ok {a : α} {M : Store} : (Res.ok a M).Sat Q = Q a M := rfl
@[simp] theorem sat_bad : (Res.bad : Res α).Sat Q = False := rfl
theorem Res.Sat.mono {r : Res α} (h : r.Sat Q) (k : ∀ a M, Q a M → Q' a M) : r.Sat Q' := by
  cases r with
  | ok a M => exact k a M h
  | exc x M => exact h.elim
  | bad => exact h.elim
theorem Res.Sat.out {r : Res α} (h : r.Sat Q) : ∃ a M, r = .ok a M ∧ Q a M := by
  cases r with
  | ok a M => exact ⟨a, M, rfl, h⟩
  | exc x M => exact h.elim
  | bad => exact h.elim
@[simp] theorem sat_bind {r : Res β} {f : β → Store → Res α} : (r.bind f).Sat Q = r.Sat fun a M => (f a M).Sat Q := by
  cases r <;> rfl
@[simp] theorem sat_noexc {r : Res α} : r.noexc.Sat Q = r.Sat Q := by
  cases r <;> rfl
@[simp] theorem sat_guard {c : Prop} [Decidable c] {r : Res α} : (if c then r else .bad).Sat Q = (c ∧ r.Sat Q) := by
  by_cases h : c
  · simp [h]
  · simp [h]
theorem sat_if {c : Prop} [Decidable c] {r s : Res α} (h1 : c → r.Sat Q) (h2 : ¬c → s.Sat Q) : (if c then r else s).Sat Q := by
  by_cases h : c
  · rw [if_pos h]; exact h1 h
  · rw [if_neg h]; exact h2 h
@[simp] theorem rs_nx {e : PEnv} {M : Store} : (RS.nx e M).Sat D = D.nx e M := rfl
@[simp] theorem rs_rt {v : PV} {M : Store} : (RS.rt v M).Sat D = D.rt v M := rfl
@[simp] theorem rs_bk {e : PEnv} {M : Store} : (RS.bk e M).Sat D = D.bk e M := rfl
@[simp] theorem rs_ct {e : PEnv} {M : Store} : (RS.ct e M).Sat D = D.ct e M := rfl
@[simp] theorem rs_bad : RS.bad.Sat D = False := rfl
@[simp] theorem rs_to {r : Res α} {e : PEnv} {f : α → Store → RS} : (r.to e f).Sat D = r.Sat fun a M => (f a M).Sat D := by
  cases r <;> rfl
@[simp] theorem rs_seq {r : RS} {f : PEnv → Store → RS} : (r.seq f).Sat D = r.Sat { D with nx := fun e M => (f e M).Sat D } := by
  cases r <;> rfl
@[simp] theorem rs_guard {c : Prop} [Decidable c] {r : RS} : (if c then r else .bad).Sat D = (c ∧ r.Sat D) := by
  by_cases h : c
  · simp [h]
  · simp [h]
theorem RS.Sat.mono {r : RS} (h : r.Sat D) (n : ∀ e M, D.nx e M → D'.nx e M) (t : ∀ v M, D.rt v M → D'.rt v M) (b : ∀ e M, D.bk e M → D'.bk e M) (c : ∀ e M, D.ct e M → D'.ct e M) : r.Sat D' := by
  cases r with
  | nx e M => exact n e M h
  | rt v M => exact t v M h
  | bk e M => exact b e M h
  | ct e M => exact c e M h
  | exc x e M => exact h.elim
  | bad => exact h.elim
end
/-- a def's call -/
theorem den_sat {T : Nat → Option QF} {n f : Nat} {q : QF} {xs : List PV} {M : Store} {Q : PV → Store → Prop} (h : T f = some q) (hl : xs.length = q.pars)
    (hb : (exSs (den T n) q.body (startV q.slots xs) M).Sat { nx := fun _ M' => (gcR M .non M').Sat Q, rt := fun v M' => (gcR M v M').Sat Q }) : (den T (n + 1) f xs M).Sat Q := by
  unfold den
  rw [h]
  show (exF (den T n) q xs M).Sat Q
  unfold exF
  rw [if_pos hl]
  cases h1 : exSs (den T n) q.body (startV q.slots xs) M with
  | nx e M' => rw [h1] at hb; exact hb
  | rt v M' => rw [h1] at hb; exact hb
  | bk e M' => rw [h1] at hb; exact hb.elim
  | ct e M' => rw [h1] at hb; exact hb.elim
  | exc x e M' => rw [h1] at hb; exact hb.elim
  | bad => rw [h1] at hb; exact hb.elim
/-! ### loops -/
theorem while_sat {c : PEnv → Store → Res PV} {b : PEnv → Store → RS} {D : En} (I : Nat → PEnv → Store → Prop)
    (h : ∀ n e M, I n e M → (c e M).Sat fun x M1 => (truR x M1).Sat fun t M2 => match t with
      | false => D.nx e M2
      | true => (b e M2).Sat { nx := fun e' M' => ∃ m, m < n ∧ I m e' M', ct := fun e' M' => ∃ m, m < n ∧ I m e' M', bk := D.nx, rt := D.rt }) :
    ∀ (k n : Nat) e M, n < k → I n e M → (whileL c b k e M).Sat D
  | 0, n, e, M, hk, _ => absurd hk (Nat.not_lt_zero n)
  | k + 1, n, e, M, hk, hI => by
    have h1 := h n e M hI
    unfold whileL
    rw [rs_to]
    refine h1.mono fun x M1 h2 => ?_
    rw [rs_to]
    refine h2.mono fun t M2 h3 => ?_
    cases t with
    | false => exact h3
    | true =>
      dsimp only at h3 ⊢
      cases h4 : b e M2 with
      | nx e' M' =>
        rw [h4] at h3
        obtain ⟨m, hm, hI'⟩ := h3
        exact while_sat I h k m e' M' (by omega) hI'
      | ct e' M' =>
        rw [h4] at h3
        obtain ⟨m, hm, hI'⟩ := h3
        exact while_sat I h k m e' M' (by omega) hI'
      | bk e' M' => rw [h4] at h3; exact h3
      | rt v M' => rw [h4] at h3; exact h3
      | exc x e' M' => rw [h4] at h3; exact h3.elim
      | bad => rw [h4] at h3; exact h3.elim
theorem for_sat {still : Store → Bool} {tgt : PV → PEnv → Store → Res PEnv} {b : PEnv → Store → RS} {D : En} {xs : List PV} (I : Nat → PEnv → Store → Prop) (hst : ∀ i e M, i ≤ xs.length → I i e M → still M = true)
    (h : ∀ i x e M, xs[i]? = some x → I i e M → (tgt x e M).Sat fun e' M' => (b e' M').Sat { nx := fun e2 M2 => I (i + 1) e2 M2, ct := fun e2 M2 => I (i + 1) e2 M2, bk := D.nx, rt := D.rt })
    (hd : ∀ e M, I xs.length e M → D.nx e M) {e : PEnv} {M : Store} (h0 : I 0 e M) : (forL still tgt b xs e M).Sat D := by
  have key : ∀ (ys zs : List PV), xs = zs ++ ys → ∀ e M, I zs.length e M → (forL still tgt b ys e M).Sat D := by
    intro ys
    induction ys with
    | nil =>
      intro zs hz e M hI
      have : xs.length = zs.length := by rw [hz]; simp
      unfold forL
      rw [if_pos (hst _ e M (by omega) hI)]
      exact hd e M (by rw [this]; exact hI)
    | cons y ys ih =>
      intro zs hz e M hI
      have hl : xs.length = zs.length + (ys.length + 1) := by rw [hz]; simp
      have hg : xs[zs.length]? = some y := by rw [hz]; simp
      unfold forL
      rw [if_pos (hst _ e M (by omega) hI), rs_to]
      refine (h _ y e M hg hI).mono fun e1 M1 h1 => ?_
      have nxt : ∀ e2 M2, I (zs.length + 1) e2 M2 → (forL still tgt b ys e2 M2).Sat D := fun e2 M2 h2 => ih (zs ++ [y]) (by rw [hz]; simp) e2 M2 (by simpa using h2)
      cases h4 : b e1 M1 with
      | nx e' M' => rw [h4] at h1; exact nxt e' M' h1
      | ct e' M' => rw [h4] at h1; exact nxt e' M' h1
      | bk e' M' => rw [h4] at h1; exact h1
      | rt v M' => rw [h4] at h1; exact h1
      | exc x e' M' => rw [h4] at h1; exact h1.elim
      | bad => rw [h4] at h1; exact h1.elim
  exact key xs [] (by simp) e M h0
theorem comp_sat {still : Store → Bool} {tgt : PV → Store → Res PEnv} {test : PEnv → Store → Res Bool} {elt : PEnv → Store → Res PV} {Q : List PV → Store → Prop} {xs : List PV} (I : Nat → List PV → Store → Prop) (hst : ∀ i acc M, i ≤ xs.length → I i acc M → still M = true)
    (h : ∀ i x acc M, xs[i]? = some x → I i acc M → (tgt x M).Sat fun e M => (test e M).Sat fun k M => match k with
      | true => (elt e M).Sat fun y M => acc.length < sizeLine ∧ I (i + 1) (acc ++ [y]) M
      | false => I (i + 1) acc M)
    (hd : ∀ acc M, I xs.length acc M → Q acc M) {M : Store} (h0 : I 0 [] M) : (compL still tgt test elt xs [] M).Sat Q := by
  have key : ∀ (ys zs : List PV), xs = zs ++ ys → ∀ acc M, I zs.length acc M → (compL still tgt test elt ys acc M).Sat Q := by
    intro ys
    induction ys with
    | nil =>
      intro zs hz acc M hI
      have : xs.length = zs.length := by rw [hz]; simp
      unfold compL
      rw [if_pos (hst _ acc M (by omega) hI)]
      exact hd acc M (by rw [this]; exact hI)
    | cons y ys ih =>
      intro zs hz acc M hI
      have hl : xs.length = zs.length + (ys.length + 1) := by rw [hz]; simp
      have hg : xs[zs.length]? = some y := by rw [hz]; simp
      unfold compL
      rw [if_pos (hst _ acc M (by omega) hI), sat_bind, sat_noexc]
      refine (h _ y acc M hg hI).mono fun e1 M1 h1 => ?_
      rw [sat_bind, sat_noexc]
      refine h1.mono fun k M2 h2 => ?_
      have nxt : ∀ acc2 M2, I (zs.length + 1) acc2 M2 → (compL still tgt test elt ys acc2 M2).Sat Q := fun acc2 M2 h2 => ih (zs ++ [y]) (by rw [hz]; simp) acc2 M2 (by simpa using h2)
      cases k with
      | true =>
        rw [if_pos rfl, sat_bind, sat_noexc]
        refine Res.Sat.mono h2 fun z M3 h3 => ?_
        rw [if_pos h3.1]
        exact nxt _ M3 h3.2
      | false =>
        rw [if_neg (by decide)]
        exact nxt _ M2 h2
  exact key xs [] (by simp) [] M h0

/-! ### the store -/
theorem st_new {M : Store} {xs : Store} : (M ++ xs)[M.length]? = xs[0]? := by
  rw [List.getElem?_append_right (Nat.le_refl _), Nat.sub_self]
theorem st_newk {M : Store} {xs : Store} (k : Nat) : (M ++ xs)[M.length + k]? = xs[k]? := by
  rw [List.getElem?_append_right (Nat.le_add_right _ _), Nat.add_sub_cancel_left]
theorem st_set {M : Store} {xs : Store} {c : Cell} : (M ++ xs).set M.length c = M ++ xs.set 0 c := by
  rw [List.set_append_right _ _ (Nat.le_refl _), Nat.sub_self]
theorem st_setk {M : Store} {xs : Store} {c : Cell} (k : Nat) : (M ++ xs).set (M.length + k) c = M ++ xs.set k c := by
  rw [List.set_append_right _ _ (Nat.le_add_right _ _), Nat.add_sub_cancel_left]
theorem st_new0 {M r : Store} {c : Cell} : (M ++ c :: r)[M.length]? = some c := by
  rw [st_new]
  rfl
theorem st_set0 {M r : Store} {c d : Cell} : (M ++ c :: r).set M.length d = M ++ d :: r := by
  rw [st_set]
  rfl
theorem st_old {M : Store} {xs : Store} {d : Nat} (h : d < M.length) : (M ++ xs)[d]? = M[d]? := List.getElem?_append_left h
theorem st_old_set {M : Store} {xs : Store} {d : Nat} {c : Cell} (h : d < M.length) : (M ++ xs).set d c = M.set d c ++ xs := List.set_append_left _ _ h
theorem gcOk_refl {n : Nat} : ∀ M : Store, gcOk n M M = true
  | [] => rfl
  | c :: cs => by rw [gcOk, Cell.beq_refl, gcOk_refl cs]; rfl
theorem gcOk_of {n : Nat} : ∀ {M M1 : Store}, M1.length = M.length → (∀ (i : Nat) (c : Cell), M1[i]? = some c → M[i]? = some c ∨ c.low n = true) → gcOk n M M1 = true
  | [], [], _, _ => rfl
  | [], _ :: _, h, _ => by simp at h
  | _ :: _, [], h, _ => by simp at h
  | c :: cs, d :: ds, h, k => by
    rw [gcOk, Bool.and_eq_true, Bool.or_eq_true]
    refine ⟨?_, gcOk_of (by simpa using h) fun i c hi => by simpa using k (i + 1) c (by simpa using hi)⟩
    rcases k 0 d rfl with z | z
    · simp at z
      rw [z]
      exact .inl (Cell.beq_refl d)
    · exact .inr z
theorem gc_keep {M : Store} {v : PV} {ex : Store} (h : v.low M.length = true) : gcR M v (M ++ ex) = .ok v M := by
  unfold gcR
  split
  · rename_i hl
    have : ex = [] := by
      rw [List.length_append] at hl
      exact List.eq_nil_of_length_eq_zero (by omega)
    rw [this, List.append_nil]
  · rw [List.take_left, h, gcOk_refl]
    rfl
theorem gc_same {M : Store} {v : PV} : gcR M v M = .ok v M := by
  unfold gcR
  rw [if_pos (Nat.le_refl _)]
theorem gc_evo {M M1 : Store} {v : PV} {ex : Store} (hl : M1.length = M.length) (hc : ∀ (i : Nat) (c : Cell), M1[i]? = some c → M[i]? = some c ∨ c.low M.length = true) (h : v.low M.length = true) : gcR M v (M1 ++ ex) = .ok v M1 := by
  unfold gcR
  split
  · rename_i hl2
    have : ex = [] := by
      rw [List.length_append] at hl2
      exact List.eq_nil_of_length_eq_zero (by omega)
    rw [this, List.append_nil]
  · rw [← hl, List.take_left, hl, h, gcOk_of hl hc]
    rfl
/-- what goes out as it is -/
theorem gc_out {M M' : Store} {v : PV} (h : gcR M v M' = .ok v M') {Q : PV → Store → Prop} (q : Q v M') : (gcR M v M').Sat Q := by
  rw [h]
  exact q
/-! ### numbers' sizes -/
theorem log2_le {x k : Nat} (h : x < 2 ^ k) : x.log2 ≤ k := by
  by_cases e : x = 0
  · subst e
    simp
  · have := (Nat.log2_lt e).mpr h
    omega
theorem cmul {i j : Int} {a b : Nat} (hi : i.natAbs < 2 ^ a) (hj : j.natAbs < 2 ^ b) (h : a + b < 1000000) : CMulW i j := by
  show i.natAbs.log2 + j.natAbs.log2 < 1000000
  have := log2_le hi
  have := log2_le hj
  omega
theorem pylong_small {i j : Int} (h : j.natAbs < 2 ^ 9000) : Builtin.divisionGoesByPylong i j = false := by
  unfold Builtin.divisionGoesByPylong
  have hd : (if (j == 0) = true then 0 else j.natAbs.log2 / 30 + 1) ≤ 300 := by
    split
    · omega
    · rename_i hne
      have hj : j.natAbs ≠ 0 := fun e => hne (by rw [Int.natAbs_eq_zero.mp e]; rfl)
      have := (Nat.log2_lt hj).mpr h
      omega
  have : decide ((if (j == 0) = true then 0 else j.natAbs.log2 / 30 + 1) > 300) = false := decide_eq_false (by omega)
  dsimp only
  rw [this]
  rfl
end Q
namespace Q
open PySem PySem.Spec PyProof.Rows L2
/-! ### values -/
section
variable (cl : Nat → List PV → Store → Res PV) {e : PEnv} {M : Store}
theorem getV0 {x : Option PV} {r : PEnv} : getV (x :: r) 0 = x := rfl
theorem getVs {x : Option PV} {r : PEnv} {n : Nat} : getV (x :: r) (n + 1) = getV r n := rfl
theorem setV0 {x : Option PV} {r : PEnv} {v : PV} : setV (x :: r) 0 v = some v :: r := rfl
theorem setVs {x : Option PV} {r : PEnv} {n : Nat} {v : PV} : setV (x :: r) (n + 1) v = x :: setV r n v := rfl
def stV : Nat → List PV → PEnv
  | 0, _ => []
  | n + 1, [] => none :: stV n []
  | n + 1, x :: xs => some x :: stV n xs
theorem startV_eq : ∀ (n : Nat) (xs : List PV), xs.length ≤ n → startV n xs = stV n xs
  | 0, [], _ => rfl
  | 0, _ :: _, h => by simp at h
  | n + 1, [], _ => by
    have := startV_eq n [] (by simp)
    unfold startV at this ⊢
    simp at this
    unfold stV
    rw [← this]
    simp [List.replicate_succ]
  | n + 1, x :: xs, h => by
    have := startV_eq n xs (by simpa using h)
    unfold startV at this ⊢
    unfold stV
    rw [← this]
    simp
theorem add_int {i j : Int} : binV .add (.int i) (.int j) M = .ok (.int (i + j)) M := rfl
theorem sub_int {i j : Int} : binV .sub (.int i) (.int j) M = .ok (.int (i - j)) M := rfl
theorem mul_int {i j : Int} : binV .mul (.int i) (.int j) M = if CMulW i j then .ok (.int (i * j)) M else .bad := rfl
theorem fdiv_int {i j : Int} : binV .fdiv (.int i) (.int j) M = if 0 < j ∧ Builtin.divisionGoesByPylong i j = false then .ok (.int (i / j)) M else .bad := rfl
theorem mod_int {i j : Int} : binV .mod (.int i) (.int j) M = if 0 < j then .ok (.int (i % j)) M else .bad := rfl
theorem pow_int {i j : Int} : binV .pow (.int i) (.int j) M = if 0 ≤ j ∧ j ≤ 1000000 ∧ i.natAbs < 2 ^ 64 then .ok (.int (i ^ j.toNat)) M else .bad := rfl
theorem shl_int {i j : Int} : binV .shl (.int i) (.int j) M = if 0 ≤ j ∧ (Builtin.Int.intBits i : Int) + j ≤ 2 ^ 27 then .ok (.int (i * 2 ^ j.toNat)) M else .bad := rfl
theorem shr_int {i j : Int} : binV .shr (.int i) (.int j) M = if 0 ≤ j then .ok (.int (i / 2 ^ j.toNat)) M else .bad := rfl
theorem lt_int {i j : Int} : cmpV .lt (.int i) (.int j) M = .ok (.bl (decide (i < j))) M := rfl
theorem le_int {i j : Int} : cmpV .le (.int i) (.int j) M = .ok (.bl (decide (i ≤ j))) M := rfl
theorem gt_int {i j : Int} : cmpV .gt (.int i) (.int j) M = .ok (.bl (decide (j < i))) M := rfl
theorem ge_int {i j : Int} : cmpV .ge (.int i) (.int j) M = .ok (.bl (decide (j ≤ i))) M := rfl
theorem eq_int {i j : Int} : cmpV .eq (.int i) (.int j) M = .ok (.bl (decide (i = j))) M := rfl
theorem ne_int {i j : Int} : cmpV .ne (.int i) (.int j) M = .ok (.bl (!decide (i = j))) M := rfl
theorem eq_bl {i j : Bool} : cmpV .eq (.bl i) (.bl j) M = .ok (.bl (decide (i = j))) M := rfl
theorem ne_bl {i j : Bool} : cmpV .ne (.bl i) (.bl j) M = .ok (.bl (!decide (i = j))) M := rfl
theorem eq_str {i j : Str} : cmpV .eq (.str i) (.str j) M = .ok (.bl (decide (i = j))) M := rfl
theorem ne_str {i j : Str} : cmpV .ne (.str i) (.str j) M = .ok (.bl (!decide (i = j))) M := rfl
theorem tru_bl {b : Bool} : truR (.bl b) M = .ok b M := rfl
theorem tru_int {i : Int} : truR (.int i) M = .ok (i != 0) M := rfl
theorem tru_non : truR .non M = .ok false M := rfl
theorem tru_tup {xs : List PV} : truR (.tup xs) M = .ok (!xs.isEmpty) M := rfl
theorem aug_add {i j : Int} : augV .add (.int i) (.int j) M = .ok (.int (i + j)) M := rfl
theorem aug_sub {i j : Int} : augV .sub (.int i) (.int j) M = .ok (.int (i - j)) M := rfl
theorem bi_len_tup {xs : List PV} : biV .len [.tup xs] M = .ok (.int (xs.length : Nat)) M := rfl
theorem bi_int {i : Int} : biV .int [.int i] M = .ok (.int i) M := rfl
theorem bi_int_bl {b : Bool} : biV .int [.bl b] M = .ok (.int (if b then 1 else 0)) M := rfl
theorem bi_abs {i : Int} : biV .abs [.int i] M = .ok (.int (if i < 0 then -i else i)) M := rfl
theorem bi_max {i j : Int} : biV .max [.int i, .int j] M = .ok (.int (if j > i then j else i)) M := rfl
theorem bi_min {i j : Int} : biV .min [.int i, .int j] M = .ok (.int (if j < i then j else i)) M := rfl
theorem bi_isi {x : PV} {t n : String} (h : tyName x M = some t) (h2 : isiOk n = true) : biV .isi [x, .ty n] M = .ok (.bl (isiB t n)) M := by
  show (match tyName x M with
    | some t => if isiOk n then Res.ok (PV.bl (isiB t n)) M else Res.bad
    | none => Res.bad) = _
  rw [h]
  simp [h2]
theorem ix_tup {xs : List PV} {k : Int} : ixV (.tup xs) (.int k) M = okO (atI xs k) M := rfl
end
end Q

/-! QR: the calculus by steps: the store is boxed, so a rewriting never goes ahead of the state. -/
namespace Q
open PySem PySem.Spec PyProof.Rows L2
structure Bx where
  M : Store
structure Jn where
  rt : PV → Bx → Prop := fun _ _ => False
  bk : PEnv → Bx → Prop := fun _ _ => False
  ct : PEnv → Bx → Prop := fun _ _ => False
section
variable (cl : Nat → List PV → Store → Res PV)
structure E (q : QE) (e : PEnv) (B : Bx) (k : PV → Bx → Prop) : Prop where
  out : (evE cl q e B.M).Sat fun v M => k v ⟨M⟩
theorem E_eq (q : QE) (e : PEnv) (B : Bx) (k : PV → Bx → Prop) : E cl q e B k = ((evE cl q e B.M).Sat fun v M => k v ⟨M⟩) := propext ⟨fun h => h.out, fun h => ⟨h⟩⟩
structure Es (q : QEs) (e : PEnv) (B : Bx) (k : List PV → Bx → Prop) : Prop where
  out : (evEs cl q e B.M).Sat fun v M => k v ⟨M⟩
theorem Es_eq (q : QEs) (e : PEnv) (B : Bx) (k : List PV → Bx → Prop) : Es cl q e B k = ((evEs cl q e B.M).Sat fun v M => k v ⟨M⟩) := propext ⟨fun h => h.out, fun h => ⟨h⟩⟩
structure EO (q : QO) (e : PEnv) (B : Bx) (k : Option Int → Bx → Prop) : Prop where
  out : (evO cl q e B.M).Sat fun v M => k v ⟨M⟩
theorem EO_eq (q : QO) (e : PEnv) (B : Bx) (k : Option Int → Bx → Prop) : EO cl q e B k = ((evO cl q e B.M).Sat fun v M => k v ⟨M⟩) := propext ⟨fun h => h.out, fun h => ⟨h⟩⟩
structure Tg (t : QT) (v : PV) (e : PEnv) (B : Bx) (k : PEnv → Bx → Prop) : Prop where
  out : (evT cl t v e B.M).Sat fun v M => k v ⟨M⟩
theorem Tg_eq (t : QT) (v : PV) (e : PEnv) (B : Bx) (k : PEnv → Bx → Prop) : Tg cl t v e B k = ((evT cl t v e B.M).Sat fun v M => k v ⟨M⟩) := propext ⟨fun h => h.out, fun h => ⟨h⟩⟩
structure Tgs (t : QTs) (v : List PV) (e : PEnv) (B : Bx) (k : PEnv → Bx → Prop) : Prop where
  out : (evTs cl t v e B.M).Sat fun v M => k v ⟨M⟩
theorem Tgs_eq (t : QTs) (v : List PV) (e : PEnv) (B : Bx) (k : PEnv → Bx → Prop) : Tgs cl t v e B k = ((evTs cl t v e B.M).Sat fun v M => k v ⟨M⟩) := propext ⟨fun h => h.out, fun h => ⟨h⟩⟩
structure It (t : QI) (e : PEnv) (B : Bx) (k : Src → Bx → Prop) : Prop where
  out : (evI cl t e B.M).Sat fun v M => k v ⟨M⟩
theorem It_eq (t : QI) (e : PEnv) (B : Bx) (k : Src → Bx → Prop) : It cl t e B k = ((evI cl t e B.M).Sat fun v M => k v ⟨M⟩) := propext ⟨fun h => h.out, fun h => ⟨h⟩⟩
structure Cl (f : Nat) (xs : List PV) (B : Bx) (k : PV → Bx → Prop) : Prop where
  out : (cl f xs B.M).Sat fun v M => k v ⟨M⟩
theorem Cl_eq (f : Nat) (xs : List PV) (B : Bx) (k : PV → Bx → Prop) : Cl cl f xs B k = ((cl f xs B.M).Sat fun v M => k v ⟨M⟩) := propext ⟨fun h => h.out, fun h => ⟨h⟩⟩
structure Op (o : Bop) (x y : PV) (B : Bx) (k : PV → Bx → Prop) : Prop where
  out : (binV o x y B.M).Sat fun v M => k v ⟨M⟩
theorem Op_eq (o : Bop) (x y : PV) (B : Bx) (k : PV → Bx → Prop) : Op o x y B k = ((binV o x y B.M).Sat fun v M => k v ⟨M⟩) := propext ⟨fun h => h.out, fun h => ⟨h⟩⟩
structure Cm (o : Cop) (x y : PV) (B : Bx) (k : PV → Bx → Prop) : Prop where
  out : (cmpV o x y B.M).Sat fun v M => k v ⟨M⟩
theorem Cm_eq (o : Cop) (x y : PV) (B : Bx) (k : PV → Bx → Prop) : Cm o x y B k = ((cmpV o x y B.M).Sat fun v M => k v ⟨M⟩) := propext ⟨fun h => h.out, fun h => ⟨h⟩⟩
structure Tr (x : PV) (B : Bx) (k : Bool → Bx → Prop) : Prop where
  out : (truR x B.M).Sat fun v M => k v ⟨M⟩
theorem Tr_eq (x : PV) (B : Bx) (k : Bool → Bx → Prop) : Tr x B k = ((truR x B.M).Sat fun v M => k v ⟨M⟩) := propext ⟨fun h => h.out, fun h => ⟨h⟩⟩
structure Au (o : Bop) (x y : PV) (B : Bx) (k : PV → Bx → Prop) : Prop where
  out : (augV o x y B.M).Sat fun v M => k v ⟨M⟩
theorem Au_eq (o : Bop) (x y : PV) (B : Bx) (k : PV → Bx → Prop) : Au o x y B k = ((augV o x y B.M).Sat fun v M => k v ⟨M⟩) := propext ⟨fun h => h.out, fun h => ⟨h⟩⟩
structure Bi (b : BI) (xs : List PV) (B : Bx) (k : PV → Bx → Prop) : Prop where
  out : (biV b xs B.M).Sat fun v M => k v ⟨M⟩
theorem Bi_eq (b : BI) (xs : List PV) (B : Bx) (k : PV → Bx → Prop) : Bi b xs B k = ((biV b xs B.M).Sat fun v M => k v ⟨M⟩) := propext ⟨fun h => h.out, fun h => ⟨h⟩⟩
structure Ix (x i : PV) (B : Bx) (k : PV → Bx → Prop) : Prop where
  out : (ixV x i B.M).Sat fun v M => k v ⟨M⟩
theorem Ix_eq (x i : PV) (B : Bx) (k : PV → Bx → Prop) : Ix x i B k = ((ixV x i B.M).Sat fun v M => k v ⟨M⟩) := propext ⟨fun h => h.out, fun h => ⟨h⟩⟩
structure Sl (x : PV) (lo hi : Option Int) (B : Bx) (k : PV → Bx → Prop) : Prop where
  out : (slV x lo hi B.M).Sat fun v M => k v ⟨M⟩
theorem Sl_eq (x : PV) (lo hi : Option Int) (B : Bx) (k : PV → Bx → Prop) : Sl x lo hi B k = ((slV x lo hi B.M).Sat fun v M => k v ⟨M⟩) := propext ⟨fun h => h.out, fun h => ⟨h⟩⟩
structure Se (o i v : PV) (B : Bx) (k : Bx → Prop) : Prop where
  out : (setI o i v B.M).Sat fun _ M => k ⟨M⟩
theorem Se_eq (o i v : PV) (B : Bx) (k : Bx → Prop) : Se o i v B k = ((setI o i v B.M).Sat fun _ M => k ⟨M⟩) := propext ⟨fun h => h.out, fun h => ⟨h⟩⟩
structure Gc (M0 : Store) (x : PV) (B : Bx) (k : PV → Bx → Prop) : Prop where
  out : (gcR M0 x B.M).Sat fun v M => k v ⟨M⟩
theorem Gc_eq (M0 : Store) (x : PV) (B : Bx) (k : PV → Bx → Prop) : Gc M0 x B k = ((gcR M0 x B.M).Sat fun v M => k v ⟨M⟩) := propext ⟨fun h => h.out, fun h => ⟨h⟩⟩
def Ng (x : PV) (B : Bx) (k : PV → Bx → Prop) : Prop := match x with
  | .int i => k (.int (-i)) B
  | _ => False
def Bt (x : PV) (B : Bx) (k : PV → Bx → Prop) : Prop := match x with
  | .int i => k (.int (Builtin.Int.intBits i : Nat)) B
  | _ => False
def In (x : PV) (B : Bx) (k : Option Int → Bx → Prop) : Prop := match x with
  | .int i => k (some i) B
  | _ => False
structure Src1 (f : PV → Store → Res Src) (x : PV) (B : Bx) (k : Src → Bx → Prop) : Prop where
  out : (f x B.M).Sat fun v M => k v ⟨M⟩
theorem Src1_eq (f : PV → Store → Res Src) (x : PV) (B : Bx) (k : Src → Bx → Prop) : Src1 f x B k = ((f x B.M).Sat fun v M => k v ⟨M⟩) := propext ⟨fun h => h.out, fun h => ⟨h⟩⟩
def Cond (b : Bool) (P R : Prop) : Prop := match b with
  | true => P
  | false => R
structure Cmp (elt : QE) (t : QT) (c : QO) (own : List Nat) (src : Src) (e : PEnv) (B : Bx) (k : List PV → Bx → Prop) : Prop where
  out : (compL src.still (fun x M => evT cl t x (wipeVs e own) M) (fun e' M => evC cl c e' M) (fun e' M => evE cl elt e' M) src.items [] B.M).Sat fun v M => k v ⟨M⟩
theorem Cmp_eq (elt : QE) (t : QT) (c : QO) (own : List Nat) (src : Src) (e : PEnv) (B : Bx) (k : List PV → Bx → Prop) : Cmp cl elt t c own src e B k = ((compL src.still (fun x M => evT cl t x (wipeVs e own) M) (fun e' M => evC cl c e' M) (fun e' M => evE cl elt e' M) src.items [] B.M).Sat fun v M => k v ⟨M⟩) := propext ⟨fun h => h.out, fun h => ⟨h⟩⟩
def TupK (xs : List PV) (B : Bx) (k : PV → Bx → Prop) : Prop := xs.length ≤ sizeLine ∧ k (.tup xs) B
structure S (s : QS) (e : PEnv) (B : Bx) (N : PEnv → Bx → Prop) (D : Jn) : Prop where
  out : (exS cl s e B.M).Sat { nx := fun e M => N e ⟨M⟩, rt := fun v M => D.rt v ⟨M⟩, bk := fun e M => D.bk e ⟨M⟩, ct := fun e M => D.ct e ⟨M⟩ }
theorem S_eq (s : QS) (e : PEnv) (B : Bx) (N : PEnv → Bx → Prop) (D : Jn) : S cl s e B N D = ((exS cl s e B.M).Sat { nx := fun e M => N e ⟨M⟩, rt := fun v M => D.rt v ⟨M⟩, bk := fun e M => D.bk e ⟨M⟩, ct := fun e M => D.ct e ⟨M⟩ }) := propext ⟨fun h => h.out, fun h => ⟨h⟩⟩
structure Ss (s : QSs) (e : PEnv) (B : Bx) (N : PEnv → Bx → Prop) (D : Jn) : Prop where
  out : (exSs cl s e B.M).Sat { nx := fun e M => N e ⟨M⟩, rt := fun v M => D.rt v ⟨M⟩, bk := fun e M => D.bk e ⟨M⟩, ct := fun e M => D.ct e ⟨M⟩ }
theorem Ss_eq (s : QSs) (e : PEnv) (B : Bx) (N : PEnv → Bx → Prop) (D : Jn) : Ss cl s e B N D = ((exSs cl s e B.M).Sat { nx := fun e M => N e ⟨M⟩, rt := fun v M => D.rt v ⟨M⟩, bk := fun e M => D.bk e ⟨M⟩, ct := fun e M => D.ct e ⟨M⟩ }) := propext ⟨fun h => h.out, fun h => ⟨h⟩⟩
structure Wh (c : QE) (b : QSs) (e : PEnv) (B : Bx) (N : PEnv → Bx → Prop) (D : Jn) : Prop where
  out : (whileL (fun e M => evE cl c e M) (fun e M => exSs cl b e M) bigW e B.M).Sat { nx := fun e M => N e ⟨M⟩, rt := fun v M => D.rt v ⟨M⟩, bk := fun e M => D.bk e ⟨M⟩, ct := fun e M => D.ct e ⟨M⟩ }
theorem Wh_eq (c : QE) (b : QSs) (e : PEnv) (B : Bx) (N : PEnv → Bx → Prop) (D : Jn) : Wh cl c b e B N D = ((whileL (fun e M => evE cl c e M) (fun e M => exSs cl b e M) bigW e B.M).Sat { nx := fun e M => N e ⟨M⟩, rt := fun v M => D.rt v ⟨M⟩, bk := fun e M => D.bk e ⟨M⟩, ct := fun e M => D.ct e ⟨M⟩ }) := propext ⟨fun h => h.out, fun h => ⟨h⟩⟩
structure Fo (t : QT) (src : Src) (b : QSs) (e : PEnv) (B : Bx) (N : PEnv → Bx → Prop) (D : Jn) : Prop where
  out : (forL src.still (fun x e M => evT cl t x e M) (fun e M => exSs cl b e M) src.items e B.M).Sat { nx := fun e M => N e ⟨M⟩, rt := fun v M => D.rt v ⟨M⟩, bk := fun e M => D.bk e ⟨M⟩, ct := fun e M => D.ct e ⟨M⟩ }
theorem Fo_eq (t : QT) (src : Src) (b : QSs) (e : PEnv) (B : Bx) (N : PEnv → Bx → Prop) (D : Jn) : Fo cl t src b e B N D = ((forL src.still (fun x e M => evT cl t x e M) (fun e M => exSs cl b e M) src.items e B.M).Sat { nx := fun e M => N e ⟨M⟩, rt := fun v M => D.rt v ⟨M⟩, bk := fun e M => D.bk e ⟨M⟩, ct := fun e M => D.ct e ⟨M⟩ }) := propext ⟨fun h => h.out, fun h => ⟨h⟩⟩
end
section
variable {cl : Nat → List PV → Store → Res PV} {e : PEnv} {M : Store} {k : PV → Bx → Prop} {N : PEnv → Bx → Prop} {D : Jn}
/-! ### expressions -/
def VarK (o : Option PV) (B : Bx) (k : PV → Bx → Prop) : Prop := match o with
  | some v => k v B
  | none => False
theorem e_var {i : Nat} : E cl (.var i) e ⟨M⟩ k = VarK (getV e i) ⟨M⟩ k := by
  simp only [E_eq]
  unfold VarK
  unfold evE
  cases getV e i <;> rfl
theorem varK {v : PV} {B : Bx} : VarK (some v) B k = k v B := rfl
theorem e_int {i : Int} : E cl (.int i) e ⟨M⟩ k = k (.int i) ⟨M⟩ := by simp only [E_eq]; unfold evE; rfl
theorem e_bl {b : Bool} : E cl (.bl b) e ⟨M⟩ k = k (.bl b) ⟨M⟩ := by simp only [E_eq]; unfold evE; rfl
theorem e_non : E cl .non e ⟨M⟩ k = k .non ⟨M⟩ := by simp only [E_eq]; unfold evE; rfl
theorem e_str {x : Str} : E cl (.str x) e ⟨M⟩ k = k (.str x) ⟨M⟩ := by simp only [E_eq]; unfold evE; rfl
theorem e_ty {x : String} : E cl (.ty x) e ⟨M⟩ k = k (.ty x) ⟨M⟩ := by simp only [E_eq]; unfold evE; rfl
theorem e_bin {o : Bop} {a b : QE} : E cl (.bin o a b) e ⟨M⟩ k = E cl a e ⟨M⟩ fun x B => E cl b e B fun y B => Op o x y B k := by
  simp only [E_eq, Op_eq]
  (conv => lhs; unfold evE)
  simp only [sat_bind]
theorem e_neg {a : QE} : E cl (.neg a) e ⟨M⟩ k = E cl a e ⟨M⟩ fun x B => Ng x B k := by
  simp only [E_eq]
  unfold Ng
  (conv => lhs; unfold evE)
  simp only [sat_bind]
  congr 1
  funext x M
  cases x <;> rfl
theorem e_cmp {o : Cop} {a b : QE} : E cl (.cmp o a b) e ⟨M⟩ k = E cl a e ⟨M⟩ fun x B => E cl b e B fun y B => Cm o x y B k := by
  simp only [E_eq, Cm_eq]
  (conv => lhs; unfold evE)
  simp only [sat_bind]
theorem cm_bl {o : Cop} {x y : PV} : (∃ b, cmpV o x y M = .ok (.bl b) M) ∨ cmpV o x y M = .bad := by
  unfold cmpV
  cases cmpB M o x y with
  | none => exact .inr rfl
  | some b => exact .inl ⟨b, rfl⟩
def Ch (v : PV) (B : Bx) (t : Bx → Prop) (k : PV → Bx → Prop) : Prop := match v with
  | .bl b => Cond b (t B) (k (.bl false) B)
  | _ => False
theorem e_chain {o o' : Cop} {a b c : QE} : E cl (.chain o o' a b c) e ⟨M⟩ k = E cl a e ⟨M⟩ fun x B => E cl b e B fun y B => Cm o x y B fun v B => Ch v B (fun B => E cl c e B fun z B => Cm o' y z B k) k := by
  simp only [E_eq, Cm_eq]
  (conv => lhs; unfold evE)
  simp only [sat_bind]
  congr 1
  funext x M
  congr 1
  funext y M
  congr 1
  funext v M
  unfold Ch
  cases v with
  | bl b => cases b <;> (try simp only [sat_bind]) <;> rfl
  | _ => rfl
theorem e_isN {a : QE} : E cl (.isN a) e ⟨M⟩ k = E cl a e ⟨M⟩ fun x B => k (.bl x.isNon) B := by
  simp only [E_eq]
  (conv => lhs; unfold evE)
  simp only [sat_bind]
  rfl
theorem e_notN {a : QE} : E cl (.notN a) e ⟨M⟩ k = E cl a e ⟨M⟩ fun x B => k (.bl (!x.isNon)) B := by
  simp only [E_eq]
  (conv => lhs; unfold evE)
  simp only [sat_bind]
  rfl
theorem e_and {a b : QE} : E cl (.and a b) e ⟨M⟩ k = E cl a e ⟨M⟩ fun x B => Tr x B fun c B => Cond c (E cl b e B k) (k x B) := by
  simp only [E_eq, Tr_eq]
  (conv => lhs; unfold evE)
  simp only [sat_bind]
  congr 1
  funext x M
  congr 1
  funext c M
  cases c <;> rfl
theorem e_or {a b : QE} : E cl (.or a b) e ⟨M⟩ k = E cl a e ⟨M⟩ fun x B => Tr x B fun c B => Cond c (k x B) (E cl b e B k) := by
  simp only [E_eq, Tr_eq]
  (conv => lhs; unfold evE)
  simp only [sat_bind]
  congr 1
  funext x M
  congr 1
  funext c M
  cases c <;> rfl
theorem e_not {a : QE} : E cl (.not a) e ⟨M⟩ k = E cl a e ⟨M⟩ fun x B => Tr x B fun c B => k (.bl (!c)) B := by
  simp only [E_eq, Tr_eq]
  (conv => lhs; unfold evE)
  simp only [sat_bind]
  rfl
theorem e_ite {c a b : QE} : E cl (.ite c a b) e ⟨M⟩ k = E cl c e ⟨M⟩ fun x B => Tr x B fun c B => Cond c (E cl a e B k) (E cl b e B k) := by
  simp only [E_eq, Tr_eq]
  (conv => lhs; unfold evE)
  simp only [sat_bind]
  congr 1
  funext x M
  congr 1
  funext c M
  cases c <;> rfl
theorem e_call {f : Nat} {as : QEs} : E cl (.call f as) e ⟨M⟩ k = Es cl as e ⟨M⟩ fun xs B => Cl cl f xs B k := by
  simp only [E_eq, Es_eq, Cl_eq]
  (conv => lhs; unfold evE)
  simp only [sat_bind]
def Prm (o : Option (List PV)) (P : List PV → Prop) : Prop := match o with
  | some zs => P zs
  | none => False
theorem prm_some {zs : List PV} {P : List PV → Prop} : Prm (some zs) P = P zs := rfl
theorem e_callK {f : Nat} {as ks : QEs} {pm : List Nat} : E cl (.callK f as ks pm) e ⟨M⟩ k = Es cl as e ⟨M⟩ fun xs B => Es cl ks e B fun ys B => Prm (permL (xs ++ ys) pm) fun zs => Cl cl f zs B k := by
  simp only [E_eq, Es_eq, Cl_eq]
  (conv => lhs; unfold evE)
  simp only [sat_bind]
  congr 1
  funext xs M
  congr 1
  funext ys M
  unfold Prm
  cases permL (xs ++ ys) pm <;> rfl
theorem e_bi {b : BI} {as : QEs} : E cl (.bi b as) e ⟨M⟩ k = Es cl as e ⟨M⟩ fun xs B => Bi b xs B k := by
  simp only [E_eq, Es_eq, Bi_eq]
  (conv => lhs; unfold evE)
  simp only [sat_bind]
theorem e_tup {as : QEs} : E cl (.tup as) e ⟨M⟩ k = Es cl as e ⟨M⟩ fun xs B => TupK xs B k := by
  simp only [E_eq, Es_eq]
  unfold TupK
  (conv => lhs; unfold evE)
  simp only [sat_bind, sat_guard, sat_ok]
def LstK (xs : List PV) (B : Bx) (k : PV → Bx → Prop) : Prop := xs.length ≤ sizeLine ∧ k (.ref B.M.length) ⟨B.M ++ [.lst xs]⟩
theorem e_lst {as : QEs} : E cl (.lst as) e ⟨M⟩ k = Es cl as e ⟨M⟩ fun xs B => LstK xs B k := by
  simp only [E_eq, Es_eq]
  unfold LstK
  (conv => lhs; unfold evE)
  simp only [sat_bind, sat_guard, sat_ok]
theorem lstK {xs : List PV} : LstK xs ⟨M⟩ k = (xs.length ≤ sizeLine ∧ k (.ref M.length) ⟨M ++ [.lst xs]⟩) := rfl
theorem tupK {xs : List PV} : TupK xs ⟨M⟩ k = (xs.length ≤ sizeLine ∧ k (.tup xs) ⟨M⟩) := rfl
theorem e_ix {a b : QE} : E cl (.ix a b) e ⟨M⟩ k = E cl a e ⟨M⟩ fun x B => E cl b e B fun y B => Ix x y B k := by
  simp only [E_eq, Ix_eq]
  (conv => lhs; unfold evE)
  simp only [sat_bind]
theorem e_sl {a : QE} {lo hi : QO} : E cl (.sl a lo hi) e ⟨M⟩ k = E cl a e ⟨M⟩ fun x B => EO cl lo e B fun l B => EO cl hi e B fun h B => Sl x l h B k := by
  simp only [E_eq, EO_eq, Sl_eq]
  (conv => lhs; unfold evE)
  simp only [sat_bind]
theorem eo_none {k : Option Int → Bx → Prop} : EO cl .none e ⟨M⟩ k = k none ⟨M⟩ := by simp only [EO_eq]; unfold evO; rfl
theorem eo_some {a : QE} {k : Option Int → Bx → Prop} : EO cl (.some a) e ⟨M⟩ k = E cl a e ⟨M⟩ fun x B => In x B k := by
  simp only [EO_eq, E_eq]
  unfold In
  (conv => lhs; unfold evO)
  simp only [sat_bind]
  congr 1
  funext x M
  cases x <;> rfl
theorem in_int {i : Int} {k : Option Int → Bx → Prop} : In (.int i) ⟨M⟩ k = k (some i) ⟨M⟩ := rfl
structure Lst? (x : PV) (B : Bx) (P : Bx → Prop) : Prop where
  out : isLst B.M x = true ∧ P B
theorem Lstq_eq (x : PV) (B : Bx) (P : Bx → Prop) : Lst? x B P = (isLst B.M x = true ∧ P B) := propext ⟨fun h => h.out, fun h => ⟨h⟩⟩
structure MtK (m : Mt) (x : PV) (xs : List PV) (B : Bx) (k : PV → Bx → Prop) : Prop where
  out : (mtV m x xs B.M).Sat fun v M => k v ⟨M⟩
theorem MtK_eq (m : Mt) (x : PV) (xs : List PV) (B : Bx) (k : PV → Bx → Prop) : MtK m x xs B k = ((mtV m x xs B.M).Sat fun v M => k v ⟨M⟩) := propext ⟨fun h => h.out, fun h => ⟨h⟩⟩
theorem e_mt {m : Mt} {a : QE} {as : QEs} : E cl (.mt m a as) e ⟨M⟩ k = E cl a e ⟨M⟩ fun x B => Lst? x B fun B => Es cl as e B fun xs B => MtK m x xs B k := by
  simp only [E_eq, Es_eq, MtK_eq, Lstq_eq]
  (conv => lhs; unfold evE)
  simp only [sat_bind, sat_guard]
theorem e_bits {a : QE} : E cl (.bits a) e ⟨M⟩ k = E cl a e ⟨M⟩ fun x B => Bt x B k := by
  simp only [E_eq]
  unfold Bt
  (conv => lhs; unfold evE)
  simp only [sat_bind]
  congr 1
  funext x M
  cases x <;> rfl
theorem bt_int {i : Int} : Bt (.int i) ⟨M⟩ k = k (.int (Builtin.Int.intBits i : Nat)) ⟨M⟩ := rfl
theorem ng_int {i : Int} : Ng (.int i) ⟨M⟩ k = k (.int (-i)) ⟨M⟩ := rfl
theorem e_comp {elt : QE} {t : QT} {it : QI} {c : QO} {own : List Nat} : E cl (.comp elt t it c own) e ⟨M⟩ k = It cl it e ⟨M⟩ fun src B => Cmp cl elt t c own src e B fun ys B => k (.ref B.M.length) ⟨B.M ++ [.lst ys]⟩ := by
  simp only [E_eq, It_eq, Cmp_eq]
  (conv => lhs; unfold evE)
  simp only [sat_bind, sat_ok]
theorem e_gc {a : QE} : E cl (.gc a) e ⟨M⟩ k = E cl a e ⟨M⟩ fun x B => Gc M x B k := by
  simp only [E_eq, Gc_eq]
  (conv => lhs; unfold evE)
  simp only [sat_bind]
theorem es_nil {k : List PV → Bx → Prop} : Es cl .nil e ⟨M⟩ k = k [] ⟨M⟩ := by simp only [Es_eq]; unfold evEs; rfl
theorem es_cons {a : QE} {r : QEs} {k : List PV → Bx → Prop} : Es cl (.cons a r) e ⟨M⟩ k = E cl a e ⟨M⟩ fun x B => Es cl r e B fun xs B => k (x :: xs) B := by
  simp only [Es_eq, E_eq]
  (conv => lhs; unfold evEs)
  simp only [sat_bind]
  rfl
/-! ### targets, sources -/
theorem tg_var {i : Nat} {v : PV} : Tg cl (.var i) v e ⟨M⟩ N = N (setV e i v) ⟨M⟩ := by
  simp only [Tg_eq]
  unfold evT
  rfl
theorem tg_tup {ts : QTs} {xs : List PV} : Tg cl (.tup ts) (.tup xs) e ⟨M⟩ N = Tgs cl ts xs e ⟨M⟩ N := by
  simp only [Tg_eq, Tgs_eq]
  (conv => lhs; unfold evT)
theorem tg_ref {ts : QTs} {n : Nat} {xs : List PV} (h : M[n]? = some (.lst xs)) : Tg cl (.tup ts) (.ref n) e ⟨M⟩ N = Tgs cl ts xs e ⟨M⟩ N := by
  simp only [Tg_eq, Tgs_eq]
  (conv => lhs; unfold evT)
  simp only [h]
theorem tg_sub {a b : QE} {v : PV} : Tg cl (.sub a b) v e ⟨M⟩ N = E cl a e ⟨M⟩ fun o B => E cl b e B fun i B => Se o i v B fun B => N e B := by
  simp only [Tg_eq, E_eq, Se_eq]
  (conv => lhs; unfold evT)
  simp only [sat_bind]
  rfl
theorem tgs_nil : Tgs cl .nil [] e ⟨M⟩ N = N e ⟨M⟩ := by simp only [Tgs_eq]; unfold evTs; rfl
theorem tgs_cons {t : QT} {r : QTs} {v : PV} {vs : List PV} : Tgs cl (.cons t r) (v :: vs) e ⟨M⟩ N = Tg cl t v e ⟨M⟩ fun e B => Tgs cl r vs e B N := by
  simp only [Tgs_eq, Tg_eq]
  (conv => lhs; unfold evTs)
  simp only [sat_bind, sat_noexc]
theorem it_list {a : QE} {k : Src → Bx → Prop} : It cl (.list a) e ⟨M⟩ k = E cl a e ⟨M⟩ fun x B => Src1 listSrc x B k := by
  simp only [It_eq, E_eq, Src1_eq]
  (conv => lhs; unfold evI)
  simp only [sat_bind]
theorem it_tup {a : QE} {k : Src → Bx → Prop} : It cl (.tup a) e ⟨M⟩ k = E cl a e ⟨M⟩ fun x B => Src1 tupSrc x B k := by
  simp only [It_eq, E_eq, Src1_eq]
  (conv => lhs; unfold evI)
  simp only [sat_bind]
theorem it_rng1 {a : QE} {k : Src → Bx → Prop} : It cl (.rng1 a) e ⟨M⟩ k = E cl a e ⟨M⟩ fun x B => Src1 (rngSrc (.int 0)) x B k := by
  simp only [It_eq, E_eq, Src1_eq]
  (conv => lhs; unfold evI)
  simp only [sat_bind]
theorem it_rng2 {a b : QE} {k : Src → Bx → Prop} : It cl (.rng2 a b) e ⟨M⟩ k = E cl a e ⟨M⟩ fun x B => E cl b e B fun y B => Src1 (rngSrc x) y B k := by
  simp only [It_eq, E_eq, Src1_eq]
  (conv => lhs; unfold evI)
  simp only [sat_bind]
theorem it_enum {a : QE} {k : Src → Bx → Prop} : It cl (.enum a) e ⟨M⟩ k = E cl a e ⟨M⟩ fun x B => Src1 enumSrc x B k := by
  simp only [It_eq, E_eq, Src1_eq]
  (conv => lhs; unfold evI)
  simp only [sat_bind]
theorem src_tup {xs : List PV} {k : Src → Bx → Prop} : Src1 tupSrc (.tup xs) ⟨M⟩ k = k ⟨xs, none⟩ ⟨M⟩ := by rw [Src1_eq]; rfl
theorem src_fro {ns : List Int} {k : Src → Bx → Prop} : Src1 listSrc (.fro ns) ⟨M⟩ k = k ⟨ns.map .int, none⟩ ⟨M⟩ := by rw [Src1_eq]; rfl
theorem src_ref {n : Nat} {xs : List PV} (h : M[n]? = some (.lst xs)) {k : Src → Bx → Prop} : Src1 listSrc (.ref n) ⟨M⟩ k = k ⟨xs, some (n, xs)⟩ ⟨M⟩ := by
  simp only [Src1_eq]
  unfold listSrc
  simp only [h, sat_ok]
theorem src_rng {i j : Int} {k : Src → Bx → Prop} : Src1 (rngSrc (.int i)) (.int j) ⟨M⟩ k = ((-4611686018427387904 ≤ i ∧ i < 4611686018427387904 ∧ -4611686018427387904 ≤ j ∧ j < 4611686018427387904) ∧ k ⟨rngItems i (j - i).toNat, none⟩ ⟨M⟩) := by
  have e : (2 : Int) ^ 62 = 4611686018427387904 := by decide
  simp only [Src1_eq]
  unfold rngSrc
  rw [e]
  simp only [sat_guard, sat_ok]
theorem src_enum {x : PV} {k : Src → Bx → Prop} : Src1 enumSrc x ⟨M⟩ k = Src1 listSrc x ⟨M⟩ fun s B => k ⟨enumFrom 0 s.items, s.cell⟩ B := by
  simp only [Src1_eq]
  unfold enumSrc
  simp only [sat_bind, sat_ok]
/-! ### operations -/
theorem op_add {i j : Int} : Op .add (.int i) (.int j) ⟨M⟩ k = k (.int (i + j)) ⟨M⟩ := by rw [Op_eq]; rfl
theorem op_sub {i j : Int} : Op .sub (.int i) (.int j) ⟨M⟩ k = k (.int (i - j)) ⟨M⟩ := by rw [Op_eq]; rfl
theorem op_mul {i j : Int} : Op .mul (.int i) (.int j) ⟨M⟩ k = (CMulW i j ∧ k (.int (i * j)) ⟨M⟩) := by
  rw [Op_eq]; rw [mul_int, sat_guard]; rfl
theorem op_fdiv {i j : Int} : Op .fdiv (.int i) (.int j) ⟨M⟩ k = ((0 < j ∧ Builtin.divisionGoesByPylong i j = false) ∧ k (.int (i / j)) ⟨M⟩) := by
  rw [Op_eq]; rw [fdiv_int, sat_guard]; rfl
theorem op_mod {i j : Int} : Op .mod (.int i) (.int j) ⟨M⟩ k = (0 < j ∧ k (.int (i % j)) ⟨M⟩) := by
  rw [Op_eq]; rw [mod_int, sat_guard]; rfl
theorem op_pow {i j : Int} : Op .pow (.int i) (.int j) ⟨M⟩ k = ((0 ≤ j ∧ j ≤ 1000000 ∧ i.natAbs < 2 ^ 64) ∧ k (.int (i ^ j.toNat)) ⟨M⟩) := by
  rw [Op_eq]; rw [pow_int, sat_guard]; rfl
theorem op_shl {i j : Int} : Op .shl (.int i) (.int j) ⟨M⟩ k = ((0 ≤ j ∧ (Builtin.Int.intBits i : Int) + j ≤ 134217728) ∧ k (.int (i * 2 ^ j.toNat)) ⟨M⟩) := by
  have e : (2 : Int) ^ 27 = 134217728 := by decide
  rw [Op_eq]; rw [shl_int, e, sat_guard]; rfl
theorem op_shr {i j : Int} : Op .shr (.int i) (.int j) ⟨M⟩ k = (0 ≤ j ∧ k (.int (i / 2 ^ j.toNat)) ⟨M⟩) := by
  rw [Op_eq]; rw [shr_int, sat_guard]; rfl
theorem op_addl {a b : Nat} {xs ys : List PV} (ha : M[a]? = some (.lst xs)) (hb : M[b]? = some (.lst ys)) : Op .add (.ref a) (.ref b) ⟨M⟩ k = (xs.length + ys.length ≤ sizeLine ∧ k (.ref M.length) ⟨M ++ [.lst (xs ++ ys)]⟩) := by
  simp only [Op_eq]
  show (addV (.ref a) (.ref b) M).Sat _ = _
  unfold addV lists2
  simp only [ha, hb, sat_guard, sat_ok]
theorem op_addt {xs ys : List PV} : Op .add (.tup xs) (.tup ys) ⟨M⟩ k = (xs.length + ys.length ≤ sizeLine ∧ k (.tup (xs ++ ys)) ⟨M⟩) := by
  simp only [Op_eq]
  show (addV (.tup xs) (.tup ys) M).Sat _ = _
  unfold addV
  simp only [sat_guard, sat_ok]
theorem cm_lt {i j : Int} : Cm .lt (.int i) (.int j) ⟨M⟩ k = k (.bl (decide (i < j))) ⟨M⟩ := by rw [Cm_eq]; rfl
theorem cm_le {i j : Int} : Cm .le (.int i) (.int j) ⟨M⟩ k = k (.bl (decide (i ≤ j))) ⟨M⟩ := by rw [Cm_eq]; rfl
theorem cm_gt {i j : Int} : Cm .gt (.int i) (.int j) ⟨M⟩ k = k (.bl (decide (j < i))) ⟨M⟩ := by rw [Cm_eq]; rfl
theorem cm_ge {i j : Int} : Cm .ge (.int i) (.int j) ⟨M⟩ k = k (.bl (decide (j ≤ i))) ⟨M⟩ := by rw [Cm_eq]; rfl
theorem cm_eq {i j : Int} : Cm .eq (.int i) (.int j) ⟨M⟩ k = k (.bl (decide (i = j))) ⟨M⟩ := by rw [Cm_eq]; rfl
theorem cm_ne {i j : Int} : Cm .ne (.int i) (.int j) ⟨M⟩ k = k (.bl (!decide (i = j))) ⟨M⟩ := by rw [Cm_eq]; rfl
theorem cm_eq_bl {i j : Bool} : Cm .eq (.bl i) (.bl j) ⟨M⟩ k = k (.bl (decide (i = j))) ⟨M⟩ := by rw [Cm_eq]; rfl
theorem cm_ne_bl {i j : Bool} : Cm .ne (.bl i) (.bl j) ⟨M⟩ k = k (.bl (!decide (i = j))) ⟨M⟩ := by rw [Cm_eq]; rfl
theorem cm_eq_str {i j : Str} : Cm .eq (.str i) (.str j) ⟨M⟩ k = k (.bl (decide (i = j))) ⟨M⟩ := by rw [Cm_eq]; rfl
theorem cm_ne_str {i j : Str} : Cm .ne (.str i) (.str j) ⟨M⟩ k = k (.bl (!decide (i = j))) ⟨M⟩ := by rw [Cm_eq]; rfl
theorem tr_bl {b : Bool} {k : Bool → Bx → Prop} : Tr (.bl b) ⟨M⟩ k = k b ⟨M⟩ := by rw [Tr_eq]; rfl
theorem tr_int {i : Int} {k : Bool → Bx → Prop} : Tr (.int i) ⟨M⟩ k = k (i != 0) ⟨M⟩ := by rw [Tr_eq]; rfl
theorem tr_non {k : Bool → Bx → Prop} : Tr .non ⟨M⟩ k = k false ⟨M⟩ := by rw [Tr_eq]; rfl
theorem ch_bl {b : Bool} {t : Bx → Prop} : Ch (.bl b) ⟨M⟩ t k = Cond b (t ⟨M⟩) (k (.bl false) ⟨M⟩) := rfl
theorem cond_dec {p : Prop} [Decidable p] {P R : Prop} : Cond (decide p) P R = ((p → P) ∧ (¬p → R)) := by
  by_cases h : p
  · simp [h, Cond]
  · simp [h, Cond]
theorem cond_not {b : Bool} {P R : Prop} : Cond (!b) P R = Cond b R P := by cases b <;> rfl
theorem cond_t {P R : Prop} : Cond true P R = P := rfl
theorem cond_f {P R : Prop} : Cond false P R = R := rfl
theorem cond_ne {i : Int} {P R : Prop} : Cond (i != 0) P R = ((i ≠ 0 → P) ∧ (i = 0 → R)) := by
  by_cases h : i = 0
  · simp [h, Cond]
  · have : (i != 0) = true := by simpa using h
    rw [this]; simp [h, Cond]
theorem au_add {i j : Int} : Au .add (.int i) (.int j) ⟨M⟩ k = k (.int (i + j)) ⟨M⟩ := by rw [Au_eq]; rfl
theorem au_sub {i j : Int} : Au .sub (.int i) (.int j) ⟨M⟩ k = k (.int (i - j)) ⟨M⟩ := by rw [Au_eq]; rfl
theorem b_len_tup {xs : List PV} : Bi .len [.tup xs] ⟨M⟩ k = k (.int (xs.length : Nat)) ⟨M⟩ := by rw [Bi_eq]; rfl
theorem b_len_ref {n : Nat} {xs : List PV} (h : M[n]? = some (.lst xs)) : Bi .len [.ref n] ⟨M⟩ k = k (.int (xs.length : Nat)) ⟨M⟩ := by
  simp only [Bi_eq]
  show (okO ((lenP (.ref n) M).map fun (n : Nat) => PV.int (n : Int)) M).Sat _ = _
  unfold lenP
  simp only [h]
  rfl
theorem b_int {i : Int} : Bi .int [.int i] ⟨M⟩ k = k (.int i) ⟨M⟩ := by rw [Bi_eq]; rfl
theorem b_int_bl {b : Bool} : Bi .int [.bl b] ⟨M⟩ k = k (.int (if b then 1 else 0)) ⟨M⟩ := by rw [Bi_eq]; rfl
theorem b_abs {i : Int} : Bi .abs [.int i] ⟨M⟩ k = k (.int (if i < 0 then -i else i)) ⟨M⟩ := by rw [Bi_eq]; rfl
theorem b_max {i j : Int} : Bi .max [.int i, .int j] ⟨M⟩ k = k (.int (if j > i then j else i)) ⟨M⟩ := by rw [Bi_eq]; rfl
theorem b_min {i j : Int} : Bi .min [.int i, .int j] ⟨M⟩ k = k (.int (if j < i then j else i)) ⟨M⟩ := by rw [Bi_eq]; rfl
theorem b_isi {x : PV} {t n : String} (h : tyName x M = some t) (h2 : isiOk n = true) : Bi .isi [x, .ty n] ⟨M⟩ k = k (.bl (isiB t n)) ⟨M⟩ := by
  simp only [Bi_eq]
  rw [bi_isi h h2]
  rfl
def At (o : Option PV) (B : Bx) (k : PV → Bx → Prop) : Prop := match o with
  | some v => k v B
  | none => False
theorem at_some {v : PV} {B : Bx} : At (some v) B k = k v B := rfl
theorem at_of {o : Option PV} {v : PV} {B : Bx} (h : o = some v) (q : k v B) : At o B k := by rw [h]; exact q
theorem x_tup {xs : List PV} {i : Int} : Ix (.tup xs) (.int i) ⟨M⟩ k = At (atI xs i) ⟨M⟩ k := by
  simp only [Ix_eq]
  unfold At
  show (okO (atI xs i) M).Sat _ = _
  cases atI xs i <;> rfl
theorem x_ref {n : Nat} {xs : List PV} {i : Int} (h : M[n]? = some (.lst xs)) : Ix (.ref n) (.int i) ⟨M⟩ k = At (atI xs i) ⟨M⟩ k := by
  simp only [Ix_eq]
  unfold At
  show (match M[n]? with
      | some (.lst xs) => okO (atI xs i) M
      | some (.dK kvs) => okO (getK kvs (.inl i)) M
      | _ => Res.bad).Sat _ = _
  simp only [h]
  cases atI xs i <;> rfl
theorem l_ref {n : Nat} {xs : List PV} {P : Bx → Prop} (h : M[n]? = some (.lst xs)) : Lst? (.ref n) ⟨M⟩ P = P ⟨M⟩ := by
  simp only [Lstq_eq]
  unfold isLst
  simp only [h, true_and]
theorem m_append {n : Nat} {xs : List PV} {y : PV} (h : M[n]? = some (.lst xs)) : MtK .append (.ref n) [y] ⟨M⟩ k = (xs.length < sizeLine ∧ k .non ⟨M.set n (.lst (xs ++ [y]))⟩) := by
  simp only [MtK_eq]
  unfold mtV
  simp only [h, sat_guard, sat_ok]
theorem m_pop {n : Nat} {xs : List PV} {y : PV} (h : M[n]? = some (.lst (xs ++ [y]))) : MtK .pop (.ref n) [] ⟨M⟩ k = k y ⟨M.set n (.lst xs)⟩ := by
  simp only [MtK_eq]
  unfold mtV
  simp [h, sat_ok]
theorem m_extend {n b : Nat} {xs ys : List PV} (h : M[n]? = some (.lst xs)) (hb : M[b]? = some (.lst ys)) : MtK .extend (.ref n) [.ref b] ⟨M⟩ k = (xs.length + ys.length ≤ sizeLine ∧ k .non ⟨M.set n (.lst (xs ++ ys))⟩) := by
  simp only [MtK_eq]
  unfold mtV lists2
  simp only [h, hb, sat_guard, sat_ok]
theorem se_lst {n : Nat} {xs : List PV} {i : Int} {j : Nat} {v : PV} {P : Bx → Prop} (h : M[n]? = some (.lst xs)) (hi : ixN xs.length i = some j) : Se (.ref n) (.int i) v ⟨M⟩ P = P ⟨M.set n (.lst (xs.set j v))⟩ := by
  simp only [Se_eq]
  unfold setI
  simp only [h, hi, sat_ok]
theorem sl_fro {ns : List Int} {lo hi : Option Int} : Sl (.fro ns) lo hi ⟨M⟩ k = k (.ref M.length) ⟨M ++ [.lst (cutL (ns.map .int) lo hi)]⟩ := by rw [Sl_eq]; rfl
theorem gc_pure {x : PV} : Gc M x ⟨M⟩ k = k x ⟨M⟩ := by
  simp only [Gc_eq]
  rw [gc_same]
  rfl
theorem gc_drop {x : PV} {ex : Store} (h : x.low M.length = true) : Gc M x ⟨M ++ ex⟩ k = k x ⟨M⟩ := by
  simp only [Gc_eq]
  rw [gc_keep h]
  rfl
theorem gc_ref {M' : Store} {j : Nat} : Gc M (.ref (M.length + j)) ⟨M'⟩ k = k (.ref (M.length + j)) ⟨M'⟩ := by
  simp only [Gc_eq]
  unfold gcR
  have h : PV.low M.length (.ref (M.length + j)) = false := by
    rw [PV.low]
    exact decide_eq_false (by omega)
  rw [h]
  split <;> rfl
theorem gc_ref0 {M' : Store} : Gc M (.ref M.length) ⟨M'⟩ k = k (.ref M.length) ⟨M'⟩ := gc_ref (j := 0)
/-! ### statements -/
theorem ss_nil : Ss cl .nil e ⟨M⟩ N D = N e ⟨M⟩ := by simp only [Ss_eq]; unfold exSs; rfl
theorem ss_cons {s : QS} {r : QSs} : Ss cl (.cons s r) e ⟨M⟩ N D = S cl s e ⟨M⟩ (fun e B => Ss cl r e B N D) D := by
  simp only [Ss_eq, S_eq]
  (conv => lhs; unfold exSs)
  rw [rs_seq]
theorem s_asgv {i : Nat} {a : QE} : S cl (.asg (.var i) a) e ⟨M⟩ N D = E cl a e ⟨M⟩ fun x B => N (setV e i x) B := by
  simp only [S_eq, E_eq]
  (conv => lhs; unfold exS)
  simp only [rs_to]
  rfl
theorem s_asgt {t : QT} {a : QE} : S cl (.asg t a) e ⟨M⟩ N D = E cl a e ⟨M⟩ fun x B => Tg cl t x e B N := by
  simp only [S_eq, E_eq, Tg_eq]
  (conv => lhs; unfold exS)
  simp only [rs_to]
  rfl
theorem s_para {i j : Nat} {a b : QE} : S cl (.par i j a b) e ⟨M⟩ N D = E cl a e ⟨M⟩ fun x B => E cl b e B fun y B => N (setV (setV e i x) j y) B := by
  simp only [S_eq, E_eq]
  (conv => lhs; unfold exS)
  simp only [rs_to]
  rfl
theorem s_auga {i : Nat} {o : Bop} {a : QE} : S cl (.aug i o a) e ⟨M⟩ N D = VarK (getV e i) ⟨M⟩ fun x B => E cl a e B fun y B => Au o x y B fun z B => N (setV e i z) B := by
  simp only [S_eq, E_eq, Au_eq]
  unfold VarK
  (conv => lhs; unfold exS)
  cases getV e i with
  | none => rfl
  | some x =>
    simp only [rs_to]
    rfl
theorem s_exp {a : QE} : S cl (.expr a) e ⟨M⟩ N D = E cl a e ⟨M⟩ fun _ B => N e B := by
  simp only [S_eq, E_eq]
  (conv => lhs; unfold exS)
  simp only [rs_to]
  rfl
theorem s_retE {a : QE} : S cl (.ret a) e ⟨M⟩ N D = E cl a e ⟨M⟩ fun x B => D.rt x B := by
  simp only [S_eq, E_eq]
  (conv => lhs; unfold exS)
  simp only [rs_to]
  rfl
theorem s_retNon : S cl .retN e ⟨M⟩ N D = D.rt .non ⟨M⟩ := by simp only [S_eq]; unfold exS; rfl
theorem s_if {c : QE} {a b : QSs} : S cl (.ite c a b) e ⟨M⟩ N D = E cl c e ⟨M⟩ fun x B => Tr x B fun t B => Cond t (Ss cl a e B N D) (Ss cl b e B N D) := by
  simp only [S_eq, E_eq, Tr_eq, Ss_eq]
  (conv => lhs; unfold exS)
  simp only [rs_to]
  congr 1
  funext x M
  congr 1
  funext t M
  cases t <;> rfl
theorem s_while {c : QE} {b : QSs} : S cl (.whl c b) e ⟨M⟩ N D = Wh cl c b e ⟨M⟩ N D := by
  simp only [S_eq, Wh_eq]
  (conv => lhs; unfold exS)
theorem s_fo {t : QT} {it : QI} {b : QSs} : S cl (.for t it b) e ⟨M⟩ N D = It cl it e ⟨M⟩ fun src B => Fo cl t src b e B N D := by
  simp only [S_eq, It_eq, Fo_eq]
  (conv => lhs; unfold exS)
  simp only [rs_to]
theorem s_break : S cl .brk e ⟨M⟩ N D = D.bk e ⟨M⟩ := by simp only [S_eq]; unfold exS; rfl
theorem s_conti : S cl .cont e ⟨M⟩ N D = D.ct e ⟨M⟩ := by simp only [S_eq]; unfold exS; rfl
theorem s_ps : S cl .pass e ⟨M⟩ N D = N e ⟨M⟩ := by simp only [S_eq]; unfold exS; rfl
theorem gc_chg {c c' : Cell} {ex : Store} {x : PV} (hx : x.low (M.length + 1) = true) (hc : c'.low (M.length + 1) = true) : Gc (M ++ [c]) x ⟨M ++ (c' :: ex)⟩ k = k x ⟨M ++ [c']⟩ := by
  simp only [Gc_eq]
  have e : M ++ c' :: ex = (M ++ [c']) ++ ex := by simp
  rw [e, gc_evo (by simp) (fun i d hi => ?_) (by simpa using hx)]
  · rfl
  · by_cases h : i < M.length
    · left
      rw [List.getElem?_append_left h] at hi ⊢
      exact hi
    · right
      have hl := (List.getElem?_eq_some_iff.mp hi).1
      have ei : i = M.length := by simp at hl; omega
      subst ei
      rw [st_new] at hi
      simp at hi
      subst hi
      simpa using hc
theorem isi_non_int  : Bi .isi [.non, .ty "int"] ⟨M⟩ k = k (.bl false) ⟨M⟩ := b_isi (t := "NoneType") rfl (by decide)
theorem isi_non_bool  : Bi .isi [.non, .ty "bool"] ⟨M⟩ k = k (.bl false) ⟨M⟩ := b_isi (t := "NoneType") rfl (by decide)
theorem isi_non_str  : Bi .isi [.non, .ty "str"] ⟨M⟩ k = k (.bl false) ⟨M⟩ := b_isi (t := "NoneType") rfl (by decide)
theorem isi_non_tuple  : Bi .isi [.non, .ty "tuple"] ⟨M⟩ k = k (.bl false) ⟨M⟩ := b_isi (t := "NoneType") rfl (by decide)
theorem isi_non_list  : Bi .isi [.non, .ty "list"] ⟨M⟩ k = k (.bl false) ⟨M⟩ := b_isi (t := "NoneType") rfl (by decide)
theorem isi_non_dict  : Bi .isi [.non, .ty "dict"] ⟨M⟩ k = k (.bl false) ⟨M⟩ := b_isi (t := "NoneType") rfl (by decide)
theorem isi_bl_int {b : Bool} : Bi .isi [.bl b, .ty "int"] ⟨M⟩ k = k (.bl true) ⟨M⟩ := b_isi (t := "bool") rfl (by decide)
theorem isi_bl_bool {b : Bool} : Bi .isi [.bl b, .ty "bool"] ⟨M⟩ k = k (.bl true) ⟨M⟩ := b_isi (t := "bool") rfl (by decide)
theorem isi_bl_str {b : Bool} : Bi .isi [.bl b, .ty "str"] ⟨M⟩ k = k (.bl false) ⟨M⟩ := b_isi (t := "bool") rfl (by decide)
theorem isi_bl_tuple {b : Bool} : Bi .isi [.bl b, .ty "tuple"] ⟨M⟩ k = k (.bl false) ⟨M⟩ := b_isi (t := "bool") rfl (by decide)
theorem isi_bl_list {b : Bool} : Bi .isi [.bl b, .ty "list"] ⟨M⟩ k = k (.bl false) ⟨M⟩ := b_isi (t := "bool") rfl (by decide)
theorem isi_bl_dict {b : Bool} : Bi .isi [.bl b, .ty "dict"] ⟨M⟩ k = k (.bl false) ⟨M⟩ := b_isi (t := "bool") rfl (by decide)
theorem isi_int_int {i : Int} : Bi .isi [.int i, .ty "int"] ⟨M⟩ k = k (.bl true) ⟨M⟩ := b_isi (t := "int") rfl (by decide)
theorem isi_int_bool {i : Int} : Bi .isi [.int i, .ty "bool"] ⟨M⟩ k = k (.bl false) ⟨M⟩ := b_isi (t := "int") rfl (by decide)
theorem isi_int_str {i : Int} : Bi .isi [.int i, .ty "str"] ⟨M⟩ k = k (.bl false) ⟨M⟩ := b_isi (t := "int") rfl (by decide)
theorem isi_int_tuple {i : Int} : Bi .isi [.int i, .ty "tuple"] ⟨M⟩ k = k (.bl false) ⟨M⟩ := b_isi (t := "int") rfl (by decide)
theorem isi_int_list {i : Int} : Bi .isi [.int i, .ty "list"] ⟨M⟩ k = k (.bl false) ⟨M⟩ := b_isi (t := "int") rfl (by decide)
theorem isi_int_dict {i : Int} : Bi .isi [.int i, .ty "dict"] ⟨M⟩ k = k (.bl false) ⟨M⟩ := b_isi (t := "int") rfl (by decide)
theorem isi_str_int {x : Str} : Bi .isi [.str x, .ty "int"] ⟨M⟩ k = k (.bl false) ⟨M⟩ := b_isi (t := "str") rfl (by decide)
theorem isi_str_bool {x : Str} : Bi .isi [.str x, .ty "bool"] ⟨M⟩ k = k (.bl false) ⟨M⟩ := b_isi (t := "str") rfl (by decide)
theorem isi_str_str {x : Str} : Bi .isi [.str x, .ty "str"] ⟨M⟩ k = k (.bl true) ⟨M⟩ := b_isi (t := "str") rfl (by decide)
theorem isi_str_tuple {x : Str} : Bi .isi [.str x, .ty "tuple"] ⟨M⟩ k = k (.bl false) ⟨M⟩ := b_isi (t := "str") rfl (by decide)
theorem isi_str_list {x : Str} : Bi .isi [.str x, .ty "list"] ⟨M⟩ k = k (.bl false) ⟨M⟩ := b_isi (t := "str") rfl (by decide)
theorem isi_str_dict {x : Str} : Bi .isi [.str x, .ty "dict"] ⟨M⟩ k = k (.bl false) ⟨M⟩ := b_isi (t := "str") rfl (by decide)
theorem isi_tup_int {xs : List PV} : Bi .isi [.tup xs, .ty "int"] ⟨M⟩ k = k (.bl false) ⟨M⟩ := b_isi (t := "tuple") rfl (by decide)
theorem isi_tup_bool {xs : List PV} : Bi .isi [.tup xs, .ty "bool"] ⟨M⟩ k = k (.bl false) ⟨M⟩ := b_isi (t := "tuple") rfl (by decide)
theorem isi_tup_str {xs : List PV} : Bi .isi [.tup xs, .ty "str"] ⟨M⟩ k = k (.bl false) ⟨M⟩ := b_isi (t := "tuple") rfl (by decide)
theorem isi_tup_tuple {xs : List PV} : Bi .isi [.tup xs, .ty "tuple"] ⟨M⟩ k = k (.bl true) ⟨M⟩ := b_isi (t := "tuple") rfl (by decide)
theorem isi_tup_list {xs : List PV} : Bi .isi [.tup xs, .ty "list"] ⟨M⟩ k = k (.bl false) ⟨M⟩ := b_isi (t := "tuple") rfl (by decide)
theorem isi_tup_dict {xs : List PV} : Bi .isi [.tup xs, .ty "dict"] ⟨M⟩ k = k (.bl false) ⟨M⟩ := b_isi (t := "tuple") rfl (by decide)
theorem isi_fro_int {xs : List Int} : Bi .isi [.fro xs, .ty "int"] ⟨M⟩ k = k (.bl false) ⟨M⟩ := b_isi (t := "list") rfl (by decide)
theorem isi_fro_bool {xs : List Int} : Bi .isi [.fro xs, .ty "bool"] ⟨M⟩ k = k (.bl false) ⟨M⟩ := b_isi (t := "list") rfl (by decide)
theorem isi_fro_str {xs : List Int} : Bi .isi [.fro xs, .ty "str"] ⟨M⟩ k = k (.bl false) ⟨M⟩ := b_isi (t := "list") rfl (by decide)
theorem isi_fro_tuple {xs : List Int} : Bi .isi [.fro xs, .ty "tuple"] ⟨M⟩ k = k (.bl false) ⟨M⟩ := b_isi (t := "list") rfl (by decide)
theorem isi_fro_list {xs : List Int} : Bi .isi [.fro xs, .ty "list"] ⟨M⟩ k = k (.bl true) ⟨M⟩ := b_isi (t := "list") rfl (by decide)
theorem isi_fro_dict {xs : List Int} : Bi .isi [.fro xs, .ty "dict"] ⟨M⟩ k = k (.bl false) ⟨M⟩ := b_isi (t := "list") rfl (by decide)
/-! ### by what stands in a cell -/
def CL (o : Option Cell) (P : List PV → Prop) (R : List (Key × PV) → Prop) : Prop := match o with
  | some (.lst xs) => P xs
  | some (.dK kvs) => R kvs
  | _ => False
theorem cl_lst {xs : List PV} {P : List PV → Prop} {R : List (Key × PV) → Prop} : CL (some (.lst xs)) P R = P xs := rfl
theorem cl_dK {xs : List (Key × PV)} {P : List PV → Prop} {R : List (Key × PV) → Prop} : CL (some (.dK xs)) P R = R xs := rfl
theorem cx_ref {n : Nat} {i : Int} : Ix (.ref n) (.int i) ⟨M⟩ k = CL M[n]? (fun xs => At (atI xs i) ⟨M⟩ k) (fun kvs => At (getK kvs (.inl i)) ⟨M⟩ k) := by
  simp only [Ix_eq]
  show (match M[n]? with
      | some (.lst xs) => okO (atI xs i) M
      | some (.dK kvs) => okO (getK kvs (.inl i)) M
      | _ => Res.bad).Sat _ = _
  unfold CL At
  split
  · rename_i xs h
    dsimp only
    cases atI xs i <;> rfl
  · rename_i kvs h
    dsimp only
    cases getK kvs (.inl i) <;> rfl
  · rename_i h1 h2
    cases hM : M[n]? with
    | none => rfl
    | some c =>
      cases c with
      | lst xs => exact absurd hM (h1 xs)
      | dK l => exact absurd hM (h2 l)
      | dT l => rfl
theorem cx_str {n : Nat} {i : Str} : Ix (.ref n) (.str i) ⟨M⟩ k = CL M[n]? (fun _ => False) (fun kvs => At (getK kvs (.inr i)) ⟨M⟩ k) := by
  simp only [Ix_eq]
  show (match M[n]? with
      | some (.dK kvs) => okO (getK kvs (.inr i)) M
      | _ => Res.bad).Sat _ = _
  unfold CL At
  cases hM : M[n]? with
  | none => rfl
  | some c =>
    cases c with
    | dK l =>
      dsimp only
      cases getK l (.inr i) <;> rfl
    | _ => rfl
theorem cop_add {a b : Nat} : Op .add (.ref a) (.ref b) ⟨M⟩ k = CL M[a]? (fun xs => CL M[b]? (fun ys => xs.length + ys.length ≤ sizeLine ∧ k (.ref M.length) ⟨M ++ [.lst (xs ++ ys)]⟩) fun _ => False) fun _ => False := by
  simp only [Op_eq]
  show (addV (.ref a) (.ref b) M).Sat _ = _
  unfold addV lists2 CL
  dsimp only
  cases ha : M[a]? with
  | none => cases hb : M[b]? <;> rfl
  | some c =>
    cases c with
    | lst xs =>
      cases hb : M[b]? with
      | none => rfl
      | some c =>
        cases c with
        | lst ys => simp only [sat_guard, sat_ok]
        | _ => rfl
    | _ => cases hb : M[b]? <;> rfl
theorem cb_len {n : Nat} : Bi .len [.ref n] ⟨M⟩ k = CL M[n]? (fun xs => k (.int (xs.length : Nat)) ⟨M⟩) (fun xs => k (.int (xs.length : Nat)) ⟨M⟩) := by
  simp only [Bi_eq]
  show (okO ((lenP (.ref n) M).map fun (n : Nat) => PV.int (n : Int)) M).Sat _ = _
  unfold lenP CL
  dsimp only
  cases h : M[n]? with
  | none => rfl
  | some c => cases c <;> rfl
theorem cl_q {n : Nat} {P : Bx → Prop} : Lst? (.ref n) ⟨M⟩ P = CL M[n]? (fun _ => P ⟨M⟩) fun _ => False := by
  simp only [Lstq_eq]
  unfold isLst CL
  dsimp only
  cases h : M[n]? with
  | none => simp
  | some c => cases c <;> simp
theorem cm_append {n : Nat} {y : PV} : MtK .append (.ref n) [y] ⟨M⟩ k = CL M[n]? (fun xs => xs.length < sizeLine ∧ k .non ⟨M.set n (.lst (xs ++ [y]))⟩) fun _ => False := by
  simp only [MtK_eq]
  unfold mtV CL
  dsimp only
  cases h : M[n]? with
  | none => rfl
  | some c =>
    cases c with
    | lst xs => simp only [sat_guard, sat_ok]
    | _ => rfl
def PopK (xs : List PV) (n : Nat) (B : Bx) (k : PV → Bx → Prop) : Prop := match xs[xs.length - 1]? with
  | some y => k y ⟨B.M.set n (.lst xs.dropLast)⟩
  | none => False
theorem cm_pop {n : Nat} : MtK .pop (.ref n) [] ⟨M⟩ k = CL M[n]? (fun xs => PopK xs n ⟨M⟩ k) fun _ => False := by
  simp only [MtK_eq]
  unfold mtV CL PopK
  dsimp only
  cases h : M[n]? with
  | none => rfl
  | some c =>
    cases c with
    | lst xs =>
      dsimp only
      cases h2 : xs[xs.length - 1]? <;> rfl
    | _ => rfl
theorem pop_snoc {xs : List PV} {y : PV} {n : Nat} : PopK (xs ++ [y]) n ⟨M⟩ k = k y ⟨M.set n (.lst xs)⟩ := by
  unfold PopK
  simp
theorem cm_extend {n b : Nat} : MtK .extend (.ref n) [.ref b] ⟨M⟩ k = CL M[n]? (fun xs => CL M[b]? (fun ys => xs.length + ys.length ≤ sizeLine ∧ k .non ⟨M.set n (.lst (xs ++ ys))⟩) fun _ => False) fun _ => False := by
  simp only [MtK_eq]
  unfold mtV lists2 CL
  dsimp only
  cases ha : M[n]? with
  | none => cases hb : M[b]? <;> rfl
  | some c =>
    cases c with
    | lst xs =>
      cases hb : M[b]? with
      | none => rfl
      | some c =>
        cases c with
        | lst ys => simp only [sat_guard, sat_ok]
        | _ => rfl
    | _ => cases hb : M[b]? <;> rfl
def IxS (o : Option Nat) (P : Nat → Prop) : Prop := match o with
  | some j => P j
  | none => False
theorem ixs {j : Nat} {P : Nat → Prop} : IxS (some j) P = P j := rfl
theorem cse_lst {n : Nat} {xs : List PV} {i : Int} {v : PV} {P : Bx → Prop} (h : M[n]? = some (.lst xs)) : Se (.ref n) (.int i) v ⟨M⟩ P = IxS (ixN xs.length i) fun j => P ⟨M.set n (.lst (xs.set j v))⟩ := by
  simp only [Se_eq]
  unfold setI IxS
  simp only [h]
  cases ixN xs.length i <;> rfl
theorem csrc {n : Nat} {k : Src → Bx → Prop} : Src1 listSrc (.ref n) ⟨M⟩ k = CL M[n]? (fun xs => k ⟨xs, some (n, xs)⟩ ⟨M⟩) fun _ => False := by
  simp only [Src1_eq]
  unfold listSrc CL
  dsimp only
  cases h : M[n]? with
  | none => rfl
  | some c =>
    cases c with
    | lst xs => rfl
    | _ => rfl
theorem ctg {ts : QTs} {n : Nat} : Tg cl (.tup ts) (.ref n) e ⟨M⟩ N = CL M[n]? (fun xs => Tgs cl ts xs e ⟨M⟩ N) fun _ => False := by
  simp only [Tg_eq, Tgs_eq]
  unfold CL
  (conv => lhs; unfold evT)
  dsimp only
  cases h : M[n]? with
  | none => rfl
  | some c => cases c <;> rfl
/-! ### loops, calls -/
theorem wh_rule {c : QE} {b : QSs} (I : Nat → PEnv → Bx → Prop) (n : Nat) (hn : n < bigW) (h0 : I n e ⟨M⟩)
    (h : ∀ n e M, I n e ⟨M⟩ → E cl c e ⟨M⟩ fun x B => Tr x B fun t B => Cond t (Ss cl b e B (fun e B => ∃ m, m < n ∧ I m e B) { rt := D.rt, bk := N, ct := fun e B => ∃ m, m < n ∧ I m e B }) (N e B)) : Wh cl c b e ⟨M⟩ N D := by
  simp only [Wh_eq]
  generalize bigW = w at hn ⊢
  refine while_sat (fun n e M => I n e ⟨M⟩) (fun n e M hI => ?_) w n e M hn h0
  refine Res.Sat.mono (h n e M hI).out fun x M1 h1 => ?_
  refine Res.Sat.mono h1.out fun t M2 h2 => ?_
  cases t with
  | true => exact Ss.out h2
  | false => exact h2
theorem fo_rule {t : QT} {src : Src} {b : QSs} (I : Nat → PEnv → Bx → Prop) (h0 : I 0 e ⟨M⟩) (hst : ∀ i e M, i ≤ src.items.length → I i e ⟨M⟩ → src.still M = true)
    (h : ∀ i x e M, src.items[i]? = some x → I i e ⟨M⟩ → Tg cl t x e ⟨M⟩ fun e B => Ss cl b e B (fun e B => I (i + 1) e B) { rt := D.rt, bk := N, ct := fun e B => I (i + 1) e B })
    (hd : ∀ e M, I src.items.length e ⟨M⟩ → N e ⟨M⟩) : Fo cl t src b e ⟨M⟩ N D := by
  refine ⟨for_sat (fun i e M => I i e ⟨M⟩) hst (fun i x e M hx hI => ?_) hd h0⟩
  exact Res.Sat.mono (h i x e M hx hI).out fun e' M' h1 => h1.out
theorem cmp_rule {elt : QE} {t : QT} {c : QO} {own : List Nat} {src : Src} {k : List PV → Bx → Prop} (I : Nat → List PV → Bx → Prop) (h0 : I 0 [] ⟨M⟩) (hst : ∀ i acc M, i ≤ src.items.length → I i acc ⟨M⟩ → src.still M = true)
    (h : ∀ i x acc M, src.items[i]? = some x → I i acc ⟨M⟩ → Tg cl t x (wipeVs e own) ⟨M⟩ fun e' B => match c with
      | .none => E cl elt e' B fun y B => acc.length < sizeLine ∧ I (i + 1) (acc ++ [y]) B
      | .some c => E cl c e' B fun z B => Tr z B fun t B => Cond t (E cl elt e' B fun y B => acc.length < sizeLine ∧ I (i + 1) (acc ++ [y]) B) (I (i + 1) acc B))
    (hd : ∀ acc M, I src.items.length acc ⟨M⟩ → k acc ⟨M⟩) : Cmp cl elt t c own src e ⟨M⟩ k := by
  refine ⟨comp_sat (fun i acc M => I i acc ⟨M⟩) hst (fun i x acc M hx hI => ?_) hd h0⟩
  refine Res.Sat.mono (h i x acc M hx hI).out fun e' M' h1 => ?_
  cases c with
  | none =>
    unfold evC
    exact E.out h1
  | some c =>
    unfold evC
    rw [sat_bind]
    refine Res.Sat.mono (E.out h1) fun z M1 h2 => ?_
    refine Res.Sat.mono h2.out fun t M2 h3 => ?_
    cases t with
    | true => exact E.out h3
    | false => exact h3
/-- what a def does at values and a store -/
structure Does (T : Nat → Option QF) (n f : Nat) (xs : List PV) (M : Store) (k : PV → Store → Prop) : Prop where
  out : (den T n f xs M).Sat k
theorem cl_of {T : Nat → Option QF} {n f : Nat} {xs : List PV} {k' : PV → Store → Prop} (h : Does T n f xs M k') (q : ∀ v M', k' v M' → k v ⟨M'⟩) : Cl (den T n) f xs ⟨M⟩ k := ⟨Res.Sat.mono h.out q⟩
theorem does_of {T : Nat → Option QF} {n f : Nat} {q : QF} {xs : List PV} {k : PV → Store → Prop} (h : T f = some q) (hl : xs.length = q.pars) (hs : Nat.ble xs.length q.slots = true)
    (hb : Ss (den T n) q.body (stV q.slots xs) ⟨M⟩ (fun _ B => Gc M .non B fun v B => k v B.M) { rt := fun v B => Gc M v B fun v B => k v B.M }) : Does T (n + 1) f xs M k := by
  refine ⟨den_sat h hl ?_⟩
  rw [startV_eq _ _ (Nat.le_of_ble_eq_true hs)]
  exact RS.Sat.mono hb.out (fun e M h => h.out) (fun v M h => h.out) (fun e M h => h.elim) (fun e M h => h.elim)
theorem does_ok {T : Nat → Option QF} {n f : Nat} {xs : List PV} {v : PV} {M' : Store} (h : Does T n f xs M fun w N => w = v ∧ N = M') : den T n f xs M = .ok v M' := by
  obtain ⟨a, N, e, rfl, rfl⟩ := Res.Sat.out h.out
  exact e
end
end Q

namespace Q
theorem newton_ge {t x f : Int} (ht : 0 < t) (hx : 0 ≤ x) (hf : f = (t + x / t) / 2) : x < (f + 1) * (f + 1) := by
  have h1 : x < (x / t + 1) * t := Int.lt_ediv_add_one_mul_self x ht
  have h0 : 0 ≤ x / t := Int.ediv_nonneg hx (Int.le_of_lt ht)
  generalize x / t = q at h1 h0 hf
  have h2 : t + (q + 1) ≤ 2 * (f + 1) := by omega
  have h3 : (t + (q + 1)) * (t + (q + 1)) ≤ (2 * (f + 1)) * (2 * (f + 1)) := Int.mul_self_le_mul_self (by omega) h2
  have h4 : 0 ≤ (t - (q + 1)) * (t - (q + 1)) := by
    rcases Int.le_total 0 (t - (q + 1)) with h | h
    · exact Int.mul_nonneg h h
    · exact Int.mul_nonneg_of_nonpos_of_nonpos h h
  grind
theorem sq_mono {a b : Int} (ha : 0 ≤ a) (h : a ≤ b) : a * a ≤ b * b := Int.mul_self_le_mul_self ha h
theorem root_uniq {x r s : Int} (hr : 0 ≤ r) (hs : 0 ≤ s) (h1 : r * r ≤ x) (h2 : x < (r + 1) * (r + 1)) (h3 : s * s ≤ x) (h4 : x < (s + 1) * (s + 1)) : r = s := by
  rcases Int.lt_trichotomy r s with h | h | h
  · have := sq_mono (a := r + 1) (b := s) (by omega) (by omega)
    omega
  · exact h
  · have := sq_mono (a := s + 1) (b := r) (by omega) (by omega)
    omega
theorem le_root {x r t : Int} (hr : 0 ≤ r) (ht : 0 ≤ t) (h1 : r * r ≤ x) (h2 : x < (t + 1) * (t + 1)) : r ≤ t := by
  apply Int.not_lt.mp
  intro h
  have := sq_mono (a := t + 1) (b := r) (by omega) (by omega)
  omega
theorem lt_of_sq {a b : Int} (hb : 0 ≤ b) (h : a * a < b * b) : a < b := by
  apply Int.not_le.mp
  intro hh
  have := sq_mono (a := b) (b := a) hb hh
  omega
theorem le_of_div {t x f : Int} (ht : 0 < t) (hf : f = (t + x / t) / 2) (h : t ≤ f) : t * t ≤ x := by
  have h1 : t ≤ x / t := by omega
  have h2 : x / t * t ≤ x := Int.ediv_mul_le x (by omega)
  have h3 : t * t ≤ x / t * t := Int.mul_le_mul_of_nonneg_right h1 (by omega)
  omega
theorem natAbs_lt_of {a : Int} {b : Nat} (h0 : 0 ≤ a) (h : a < (b : Int)) : a.natAbs < b := by omega
end Q

/-! QS: numbers' sizes, places, the draws' state. -/
namespace Q
open PySem PySem.Spec PyProof.Rows L2
theorem bits_pos {x : Int} (h : x ≠ 0) : Builtin.Int.intBits x = x.natAbs.log2 + 1 := by
  unfold Builtin.Int.intBits
  have : x.natAbs ≠ 0 := by omega
  simp [h]
theorem lt_bits (x : Int) : x.natAbs < 2 ^ Builtin.Int.intBits x := by
  by_cases h : x = 0
  · subst h; decide
  · rw [bits_pos h]
    exact Nat.lt_log2_self
theorem bits_le {x : Int} {k : Nat} (h : x.natAbs < 2 ^ k) : Builtin.Int.intBits x ≤ k := by
  by_cases e : x = 0
  · subst e; exact Nat.zero_le _
  · rw [bits_pos e]
    have := (Nat.log2_lt (n := x.natAbs) (k := k) (by omega)).mpr h
    omega
theorem one_bits : Builtin.Int.intBits 1 = 1 := by decide +kernel
theorem p2_lt {a b : Nat} (h : a < b) : 2 ^ a < 2 ^ b := Nat.pow_lt_pow_right (by decide) h
theorem p2_le {a b : Nat} (h : a ≤ b) : 2 ^ a ≤ 2 ^ b := Nat.pow_le_pow_right (by decide) h
theorem lt_p2 {n a b : Nat} (h : n < 2 ^ a) (k : a ≤ b) : n < 2 ^ b := Nat.lt_of_lt_of_le h (p2_le k)
theorem big_lt {k n : Nat} (hn : n < 2 ^ k) (hk : k ≤ 2000000) : n < bigW := by
  unfold bigW
  exact lt_p2 hn hk
theorem big_of {n : Nat} (hn : n ≤ 1000000000000000000) : n < bigW := big_lt (k := 64) (by omega) (by decide)
theorem natAbs_pow {k : Nat} : ((2 : Int) ^ k).natAbs = 2 ^ k := by
  rw [Int.natAbs_pow]; rfl
theorem pow2_pos (k : Nat) : (0 : Int) < 2 ^ k := Int.pow_pos (by decide)
theorem abs_add {a b : Int} {k : Nat} (ha : a.natAbs < 2 ^ k) (hb : b.natAbs < 2 ^ k) : (a + b).natAbs < 2 ^ (k + 1) := by
  rw [Nat.pow_succ]
  omega
theorem abs_sub {a b : Int} {k : Nat} (ha : a.natAbs < 2 ^ k) (hb : b.natAbs < 2 ^ k) : (a - b).natAbs < 2 ^ (k + 1) := by
  rw [Nat.pow_succ]
  omega
theorem abs_mul {a b : Int} {j k : Nat} (ha : a.natAbs < 2 ^ j) (hb : b.natAbs < 2 ^ k) : (a * b).natAbs < 2 ^ (j + k) := by
  rw [Int.natAbs_mul, Nat.pow_add]
  exact Nat.mul_lt_mul_of_lt_of_le ha (Nat.le_of_lt hb) (Nat.lt_of_le_of_lt (Nat.zero_le _) hb)
theorem abs_mono {a b : Int} {k : Nat} (h0 : 0 ≤ a) (h : a ≤ b) (hb : b.natAbs < 2 ^ k) : a.natAbs < 2 ^ k := by omega
theorem abs_pow {j : Nat} : ((2 : Int) ^ j).natAbs < 2 ^ (j + 1) := by
  rw [natAbs_pow]
  exact p2_lt (by omega)
theorem nat_sq_lt {a k : Nat} (h : a * a < 2 ^ (k + k)) : a < 2 ^ k := by
  apply Nat.not_le.mp
  intro hh
  have := Nat.mul_self_le_mul_self hh
  rw [← Nat.pow_add] at this
  omega
/-! ### places -/
theorem at0 {α : Type} {x : α} {r : List α} : atI (x :: r) 0 = some x := by
  unfold atI ixN
  simp
theorem at1 {α : Type} {x y : α} {r : List α} : atI (x :: y :: r) 1 = some y := by
  unfold atI ixN
  simp
  rw [if_pos (by omega)]
  rfl
theorem at2 {α : Type} {x y z : α} {r : List α} : atI (x :: y :: z :: r) 2 = some z := by
  unfold atI ixN
  simp
  rw [if_pos (by omega)]
  rfl
theorem at3 {α : Type} {x y z w : α} {r : List α} : atI (x :: y :: z :: w :: r) 3 = some w := by
  unfold atI ixN
  simp
  rw [if_pos (by omega)]
  rfl
theorem at_in {α : Type} {xs : List α} {i : Int} (h0 : 0 ≤ i) (h : i < xs.length) : ∃ v, atI xs i = some v ∧ v ∈ xs := by
  unfold atI ixN
  rw [if_pos h0, if_pos h]
  have hl : i.toNat < xs.length := by omega
  exact ⟨xs[i.toNat], by simp [hl], List.getElem_mem hl⟩
theorem at_nat {α : Type} {xs : List α} {i : Nat} (h : i < xs.length) : atI xs (i : Int) = some xs[i] := by
  unfold atI ixN
  rw [if_pos (by omega), if_pos (by omega)]
  simp [h]
theorem at_get {α : Type} {xs : List α} {i : Int} (h0 : 0 ≤ i) : atI xs i = xs[i.toNat]? := by
  unfold atI ixN
  rw [if_pos h0]
  by_cases h : i < xs.length
  · rw [if_pos h]; rfl
  · rw [if_neg h, List.getElem?_eq_none (by omega)]; rfl
/-! ### the store -/
theorem set_self {M : Store} {d : Nat} {c x : Cell} (h : M[d]? = some x) : (M.set d c)[d]? = some c := List.getElem?_set_self (List.getElem?_eq_some_iff.mp h).1
theorem set_other {M : Store} {d p : Nat} {c : Cell} (h : d ≠ p) : (M.set d c)[p]? = M[p]? := List.getElem?_set_ne h
/-- the draws' state: the list at d, its pool at p -/
structure Dice (p d : Nat) (M : Store) : Prop where
  ne : p < d
  ex : ∃ (m k : Int) (pool : List Int), M[d]? = some (.lst [.int m, .int k, .ref p]) ∧ M[p]? = some (.lst (pool.map .int)) ∧ 0 ≤ m ∧ m < 2147483647 ∧ 0 ≤ k ∧ ∀ z ∈ pool, 0 ≤ z ∧ z < 1000
/-- only the draws' state has changed -/
structure Evo (p d : Nat) (M M' : Store) : Prop where
  len : M'.length = M.length
  same : ∀ i, i ≠ d → M'[i]? = M[i]?
  dice : Dice p d M'
section
variable {p d : Nat} {M M1 M2 ex : Store}
theorem Dice.lt (h : Dice p d M) : d < M.length := by
  obtain ⟨_, m, k, pool, h1, _⟩ := h
  exact (List.getElem?_eq_some_iff.mp h1).1
theorem Dice.app (h : Dice p d M) (ex : Store) : Dice p d (M ++ ex) := by
  have hl := h.lt
  obtain ⟨hn, m, k, pool, h1, h2, r⟩ := h
  exact ⟨hn, m, k, pool, by rw [List.getElem?_append_left hl]; exact h1, by rw [List.getElem?_append_left (by omega)]; exact h2, r⟩
theorem Evo.refl (h : Dice p d M) : Evo p d M M := ⟨rfl, fun _ _ => rfl, h⟩
theorem Evo.trans (a : Evo p d M M1) (b : Evo p d M1 M2) : Evo p d M M2 := ⟨b.len.trans a.len, fun i hi => (b.same i hi).trans (a.same i hi), b.dice⟩
theorem Evo.lt (a : Evo p d M M1) : d < M.length := by rw [← a.len]; exact a.dice.lt
theorem Evo.split (a : Evo p d (M ++ ex) M2) (hd : Dice p d M) : ∃ M1, M2 = M1 ++ ex ∧ Evo p d M M1 := by
  have hl : d < M.length := hd.lt
  have hlen := a.len
  rw [List.length_append] at hlen
  have e : M2 = M2.take M.length ++ ex := by
    apply List.ext_getElem?
    intro i
    by_cases hi : i < M.length
    · rw [List.getElem?_append_left (by rw [List.length_take]; omega), List.getElem?_take, if_pos hi]
    · have hne : i ≠ d := by omega
      rw [a.same i hne, List.getElem?_append_right (by omega), List.getElem?_append_right (by rw [List.length_take]; omega), List.length_take]
      congr 1
      omega
  refine ⟨M2.take M.length, e, by rw [List.length_take]; omega, fun i hi => ?_, ?_⟩
  · by_cases h : i < M.length
    · rw [List.getElem?_take, if_pos h, a.same i hi, List.getElem?_append_left h]
    · rw [List.getElem?_eq_none (by rw [List.length_take]; omega), List.getElem?_eq_none (by omega)]
  · obtain ⟨hn, m, k, pool, h1, h2, r⟩ := a.dice
    exact ⟨hn, m, k, pool, by rw [List.getElem?_take, if_pos hl]; exact h1, by rw [List.getElem?_take, if_pos (by omega)]; exact h2, r⟩
theorem Evo.app (a : Evo p d M M1) (ex : Store) : Evo p d (M ++ ex) (M1 ++ ex) := by
  refine ⟨by rw [List.length_append, List.length_append, a.len], fun i hi => ?_, a.dice.app ex⟩
  by_cases h : i < M.length
  · rw [List.getElem?_append_left h, List.getElem?_append_left (by rw [a.len]; exact h)]
    exact a.same i hi
  · rw [List.getElem?_append_right (by rw [a.len]; omega), List.getElem?_append_right (by omega), a.len]
theorem Evo.gc (a : Evo p d M M1) {v : PV} (hv : v.low M.length = true) {k : PV → Bx → Prop} : Gc M v ⟨M1 ++ ex⟩ k = k v ⟨M1⟩ := by
  simp only [Gc_eq]
  rw [gc_evo a.len (fun i c hc => ?_) hv]
  · rfl
  · by_cases h : i = d
    · subst h
      obtain ⟨hn, m, k, pool, h1, _⟩ := a.dice
      rw [h1] at hc
      cases hc
      right
      have := a.lt
      simp [Cell.low, PV.lows, PV.low]
      omega
    · left
      rw [← a.same i h]
      exact hc
theorem Evo.gc0 (a : Evo p d M M1) {v : PV} {k : PV → Bx → Prop} : Gc M v ⟨M1⟩ k = k v ⟨M1⟩ := by
  simp only [Gc_eq]
  unfold gcR
  rw [if_pos (by rw [a.len]; exact Nat.le_refl _)]
  rfl
end
/-! ### plain values: of them a comparison is made -/
mutual
def PV.plain : PV → Bool
  | .non | .bl _ | .int _ | .str _ => true
  | .tup xs => PV.plains xs
  | _ => false
def PV.plains : List PV → Bool
  | [] => true
  | x :: xs => PV.plain x && PV.plains xs
end
mutual
def PV.sz : PV → Nat
  | .tup xs => 1 + PV.szs xs
  | _ => 1
def PV.szs : List PV → Nat
  | [] => 0
  | x :: xs => PV.sz x + PV.szs xs
end
theorem plain_low : ∀ {x : PV} {n : Nat}, x.plain = true → x.low n = true
  | .non, _, _ => by simp [PV.low]
  | .bl _, _, _ => by simp [PV.low]
  | .int _, _, _ => by simp [PV.low]
  | .str _, _, _ => by simp [PV.low]
  | .tup xs, n, h => by
    rw [PV.plain] at h
    rw [PV.low]
    exact plains_low h
where plains_low : ∀ {xs : List PV} {n : Nat}, PV.plains xs = true → PV.lows n xs = true
  | [], _, _ => by rw [PV.lows]
  | x :: xs, n, h => by
    rw [PV.plains, Bool.and_eq_true] at h
    rw [PV.lows, plain_low h.1, plains_low h.2]
    rfl
theorem sz_pos (x : PV) : 0 < x.sz := by
  cases x <;> rw [PV.sz] <;> first | omega | (intro xs e; cases e)
theorem szs_append : ∀ {xs ys : List PV}, PV.szs (xs ++ ys) = PV.szs xs + PV.szs ys
  | [], ys => by simp [PV.szs]
  | x :: xs, ys => by
    rw [List.cons_append, PV.szs, PV.szs, szs_append]
    omega
theorem szs_len : ∀ {xs : List PV}, xs.length ≤ PV.szs xs
  | [] => Nat.zero_le _
  | x :: xs => by
    rw [PV.szs, List.length_cons]
    have := sz_pos x
    have := szs_len (xs := xs)
    omega
theorem plains_get : ∀ {xs : List PV} {i : Nat} {x : PV}, PV.plains xs = true → xs[i]? = some x → x.plain = true
  | [], _, _, _, h => by simp at h
  | y :: xs, 0, x, hp, h => by
    rw [PV.plains, Bool.and_eq_true] at hp
    simp at h
    subst h
    exact hp.1
  | y :: xs, i + 1, x, hp, h => by
    rw [PV.plains, Bool.and_eq_true] at hp
    exact plains_get hp.2 (by simpa using h)
/-- pairs of the same -/
def twin (xs : List PV) : List PV := xs.map fun x => .tup [x, x]
theorem twin_append {xs ys : List PV} : twin (xs ++ ys) = twin xs ++ twin ys := List.map_append
theorem twin_len {xs : List PV} : (twin xs).length = xs.length := List.length_map _
theorem plains_app : ∀ {xs ys : List PV}, PV.plains xs = true → PV.plains ys = true → PV.plains (xs ++ ys) = true
  | [], ys, _, h => h
  | x :: xs, ys, h, k => by
    rw [PV.plains, Bool.and_eq_true] at h
    rw [List.cons_append, PV.plains, h.1, plains_app h.2 k]
    rfl
theorem plains_of_mem : ∀ {xs : List PV}, (∀ x ∈ xs, x.plain = true) → PV.plains xs = true
  | [], _ => by rw [PV.plains]
  | x :: xs, h => by
    rw [PV.plains, h x (List.mem_cons_self ..), plains_of_mem fun y hy => h y (List.mem_cons_of_mem _ hy)]
    rfl
theorem plains_mem {xs : List PV} (h : PV.plains xs = true) : ∀ x ∈ xs, x.plain = true := fun x hx => by
  obtain ⟨i, hi, e⟩ := List.getElem_of_mem hx
  exact plains_get (i := i) h (by rw [List.getElem?_eq_getElem hi, e])
theorem snoc_cases {α : Type} (xs : List α) : xs = [] ∨ ∃ ys y, xs = ys ++ [y] := by
  rcases List.eq_nil_or_concat xs with h | ⟨ys, y, h⟩
  · exact .inl h
  · exact .inr ⟨ys, y, by simpa using h⟩
theorem twin_low {n : Nat} : ∀ {xs : List PV}, PV.plains xs = true → (Cell.lst (twin xs)).low n = true
  | [], _ => by simp [twin, Cell.low, PV.lows]
  | x :: xs, h => by
    rw [PV.plains, Bool.and_eq_true] at h
    have h1 := plain_low (n := n) h.1
    have h2 : PV.lows n (twin xs) = true := twin_low (n := n) h.2
    show PV.lows n (.tup [x, x] :: twin xs) = true
    simp [PV.lows, PV.low, h1, h2]
theorem twin_get {xs : List PV} {i : Nat} {x : PV} (h : xs[i]? = some x) : twin (xs.take (i + 1)) = twin (xs.take i) ++ [.tup [x, x]] := by
  rw [List.take_succ, h]
  simp [twin]
theorem szs_one {x : PV} : PV.szs [x] = x.sz := by simp [PV.szs]
theorem rng_get {lo : Int} {n i : Nat} {x : PV} (h : (rngItems lo n)[i]? = some x) : x = .int (lo + i) ∧ i < n := by
  unfold rngItems at h
  rw [List.getElem?_map] at h
  cases h1 : (List.range n)[i]? with
  | none => rw [h1] at h; cases h
  | some k =>
    rw [h1] at h
    cases h
    have hl := (List.getElem?_eq_some_iff.mp h1).1
    have := (List.getElem?_eq_some_iff.mp h1).2
    simp at this hl
    subst this
    exact ⟨rfl, hl⟩
theorem rng_len {lo : Int} {n : Nat} : (rngItems lo n).length = n := by simp [rngItems]
end Q

namespace Q
open PySem PySem.Spec PyProof.Rows L2
def q_whole_root_w1 : QSs := (.cons (.asg (.var 2) (.bin .fdiv (.bin .add (.var 1) (.bin .fdiv (.var 0) (.var 1))) (.int 2))) (.cons (.ite (.cmp .ge (.var 2) (.var 1)) (.cons (.ret (.var 1)) .nil) .nil) (.cons (.asg (.var 1) (.var 2)) .nil)))
def q_whole_root : QF := ⟨3, 1, (.cons (.ite (.cmp .lt (.var 0) (.int 2)) (.cons (.ret (.var 0)) .nil) .nil) (.cons (.asg (.var 1) (.bin .shl (.int 1) (.bin .fdiv (.bin .add (.bits (.var 0)) (.int 1)) (.int 2)))) (.cons (.whl (.bl true) q_whole_root_w1) .nil)))⟩
def q_is_square : QF := ⟨2, 1, (.cons (.asg (.var 1) (.call 0 (.cons (.var 0) .nil))) (.cons (.ret (.cmp .eq (.bin .mul (.var 1) (.var 1)) (.var 0))) .nil))⟩
def q_root_bounds : QF := ⟨4, 2, (.cons (.asg (.var 2) (.bin .shl (.var 0) (.bin .mul (.int 2) (.var 1)))) (.cons (.asg (.var 3) (.call 0 (.cons (.var 2) .nil))) (.cons (.ret (.tup (.cons (.var 3) (.cons (.bin .add (.var 3) (.bi .int (.cons (.cmp .ne (.bin .mul (.var 3) (.var 3)) (.var 2)) .nil))) .nil)))) .nil)))⟩
def q_law_dice_f2 : QSs := (.cons (.asg (.var 1) (.bin .mod (.bi .int (.cons (.bin .add (.bin .add (.bin .add (.bin .mul (.var 1) (.int 16807)) (.bin .mod (.bi .int (.cons (.var 5) .nil)) (.int 1000003))) (.bin .mul (.int 167) (.var 7))) (.var 3)) .nil)) (.int 2147483647))) (.cons (.ite (.var 6) (.cons (.expr (.mt .append (.var 2) (.cons (.bin .mod (.bi .int (.cons (.var 5) .nil)) (.int 1000)) .nil))) (.cons (.asg (.var 5) (.bin .fdiv (.var 5) (.int 1000))) .nil)) (.cons (.ite (.chain .lt .lt (.int 0) (.var 7) (.int 6)) (.cons (.expr (.mt .append (.var 2) (.cons (.bin .mod (.bi .int (.cons (.bin .fdiv (.var 1) (.int 17)) .nil)) (.int 1000)) .nil))) .nil) .nil) .nil)) .nil))
def q_law_dice_f1 : QSs := (.cons (.asg (.var 5) (.bin .mod (.bi .int (.cons (.var 4) .nil)) (.bin .pow (.int 10) (.int 60)))) (.cons (.asg (.var 6) (.cmp .ge (.var 5) (.bin .pow (.int 10) (.int 18)))) (.cons (.for (.var 7) (.rng1 (.int 20)) q_law_dice_f2) .nil)))
def q_law_dice : QF := ⟨8, 1, (.cons (.asg (.var 1) (.int 1409)) (.cons (.asg (.var 2) (.lst .nil)) (.cons (.for (.tup (.cons (.var 3) (.cons (.var 4) .nil))) (.enum (.sl (.var 0) .none (.some (.int 63)))) q_law_dice_f1) (.cons (.ret (.lst (.cons (.var 1) (.cons (.int 0) (.cons (.var 2) .nil))))) .nil))))⟩
def q_law_draw : QF := ⟨3, 2, (.cons (.asg (.var 2) (.ix (.var 0) (.int 1))) (.cons (.asg (.sub (.var 0) (.int 1)) (.bin .add (.var 2) (.int 1))) (.cons (.ite (.cmp .lt (.var 2) (.bi .len (.cons (.ix (.var 0) (.int 2)) .nil))) (.cons (.ret (.bin .mod (.bi .int (.cons (.ix (.ix (.var 0) (.int 2)) (.var 2)) .nil)) (.var 1))) .nil) .nil) (.cons (.asg (.sub (.var 0) (.int 0)) (.bin .mod (.bi .int (.cons (.bin .add (.bin .mul (.ix (.var 0) (.int 0)) (.int 48271)) (.int 211)) .nil)) (.int 2147483647))) (.cons (.ret (.bin .mod (.bi .int (.cons (.bin .fdiv (.ix (.var 0) (.int 0)) (.int 13)) .nil)) (.var 1))) .nil)))))⟩
def q_law_same_w1 : QSs := (.cons (.asg (.tup (.cons (.var 3) (.cons (.var 4) .nil))) (.mt .pop (.var 2) .nil)) (.cons (.ite (.isN (.var 4)) (.cons (.ite (.notN (.var 3)) (.cons (.ret (.bl false)) .nil) .nil) .nil) (.cons (.ite (.or (.bi .isi (.cons (.var 4) (.cons (.ty "bool") .nil))) (.bi .isi (.cons (.var 3) (.cons (.ty "bool") .nil)))) (.cons (.ite (.or (.not (.bi .isi (.cons (.var 4) (.cons (.ty "bool") .nil)))) (.or (.not (.bi .isi (.cons (.var 3) (.cons (.ty "bool") .nil)))) (.cmp .ne (.var 3) (.var 4)))) (.cons (.ret (.bl false)) .nil) .nil) .nil) (.cons (.ite (.bi .isi (.cons (.var 4) (.cons (.ty "int") .nil))) (.cons (.ite (.or (.not (.bi .isi (.cons (.var 3) (.cons (.ty "int") .nil)))) (.cmp .ne (.var 3) (.var 4))) (.cons (.ret (.bl false)) .nil) .nil) .nil) (.cons (.ite (.bi .isi (.cons (.var 4) (.cons (.ty "str") .nil))) (.cons (.ite (.or (.not (.bi .isi (.cons (.var 3) (.cons (.ty "str") .nil)))) (.cmp .ne (.var 3) (.var 4))) (.cons (.ret (.bl false)) .nil) .nil) .nil) (.cons (.ite (.or (.cmp .ne (.bi .isi (.cons (.var 3) (.cons (.ty "list") .nil))) (.bi .isi (.cons (.var 4) (.cons (.ty "list") .nil)))) (.cmp .ne (.bi .isi (.cons (.var 3) (.cons (.ty "tuple") .nil))) (.bi .isi (.cons (.var 4) (.cons (.ty "tuple") .nil))))) (.cons (.ret (.bl false)) .nil) .nil) (.cons (.ite (.cmp .ne (.bi .len (.cons (.var 3) .nil)) (.bi .len (.cons (.var 4) .nil))) (.cons (.ret (.bl false)) .nil) .nil) (.cons (.expr (.gc (.mt .extend (.var 2) (.cons (.comp (.tup (.cons (.ix (.var 3) (.var 5)) (.cons (.ix (.var 4) (.var 5)) .nil))) (.var 5) (.rng1 (.bi .len (.cons (.var 4) .nil))) .none [5]) .nil)))) .nil)))) .nil)) .nil)) .nil)) .nil))
def q_law_same : QF := ⟨6, 2, (.cons (.asg (.var 2) (.lst (.cons (.tup (.cons (.var 0) (.cons (.var 1) .nil))) .nil))) (.cons (.whl (.cmp .gt (.bi .len (.cons (.var 2) .nil)) (.int 0)) q_law_same_w1) (.cons (.ret (.bl true)) .nil)))⟩
def q_law_great_f1 : QSs := (.cons (.asg (.var 2) (.bin .add (.bin .mul (.var 2) (.int 1000000000)) (.call 4 (.cons (.var 0) (.cons (.int 1000000000) .nil))))) .nil)
def q_law_great : QF := ⟨4, 2, (.cons (.asg (.var 2) (.bin .add (.int 1) (.call 4 (.cons (.var 0) (.cons (.int 999999999) .nil))))) (.cons (.for (.var 3) (.rng1 (.var 1)) q_law_great_f1) (.cons (.ret (.var 2)) .nil)))⟩
def q_law_root_w1 : QSs := (.cons (.asg (.var 1) (.bin .mul (.var 1) (.int 65536))) .nil)
def q_law_root_w2 : QSs := (.cons (.asg (.var 3) (.bin .fdiv (.bin .add (.var 2) (.var 1)) (.int 2))) (.cons (.ite (.cmp .le (.bin .mul (.var 3) (.var 3)) (.var 0)) (.cons (.asg (.var 2) (.var 3)) .nil) (.cons (.asg (.var 1) (.var 3)) .nil)) .nil))
def q_law_root : QF := ⟨4, 1, (.cons (.asg (.var 1) (.int 1)) (.cons (.whl (.cmp .le (.bin .mul (.var 1) (.var 1)) (.var 0)) q_law_root_w1) (.cons (.asg (.var 2) (.bin .fdiv (.var 1) (.int 65536))) (.cons (.whl (.cmp .gt (.bin .sub (.var 1) (.var 2)) (.int 1)) q_law_root_w2) (.cons (.ret (.ite (.cmp .gt (.var 0) (.int 0)) (.var 2) (.int 0))) .nil)))))⟩
def q_law_beside : QF := ⟨2, 1, (.cons (.asg (.var 1) (.lst (.cons (.tup (.cons (.bin .mul (.var 0) (.var 0)) (.cons (.var 0) (.cons (.bl true) .nil)))) (.cons (.tup (.cons (.bin .sub (.bin .mul (.var 0) (.var 0)) (.int 1)) (.cons (.bin .sub (.var 0) (.int 1)) (.cons (.bl false) .nil)))) (.cons (.tup (.cons (.bin .add (.bin .mul (.var 0) (.var 0)) (.int 1)) (.cons (.var 0) (.cons (.bl false) .nil)))) .nil))))) (.cons (.ret (.bin .add (.var 1) (.lst (.cons (.tup (.cons (.bin .add (.bin .mul (.var 0) (.var 0)) (.bin .mul (.int 2) (.var 0))) (.cons (.var 0) (.cons (.bl false) .nil)))) (.cons (.tup (.cons (.bin .add (.bin .add (.bin .mul (.var 0) (.var 0)) (.bin .mul (.int 2) (.var 0))) (.int 1)) (.cons (.bin .add (.var 0) (.int 1)) (.cons (.bl true) .nil)))) .nil))))) .nil))⟩
def q_law_rooted_f1 : QSs := (.cons (.asg (.tup (.cons (.var 5) (.cons (.var 6) (.cons (.var 7) .nil)))) (.ix (.var 2) (.bin .mod (.bi .int (.cons (.bin .add (.var 3) (.bin .mul (.int 2) (.var 4))) .nil)) (.int 5)))) (.cons (.ite (.not (.call 5 (.cons (.tup (.cons (.call 0 (.cons (.var 5) .nil)) (.cons (.call 1 (.cons (.var 5) .nil)) .nil))) (.cons (.tup (.cons (.var 6) (.cons (.var 7) .nil))) .nil)))) (.cons (.ret (.bl false)) .nil) .nil) .nil))
def q_law_rooted : QF := ⟨8, 2, (.cons (.asg (.var 2) (.call 8 (.cons (.var 1) .nil))) (.cons (.asg (.var 3) (.call 4 (.cons (.var 0) (.cons (.int 5) .nil)))) (.cons (.for (.var 4) (.rng1 (.int 2)) q_law_rooted_f1) (.cons (.ret (.bl true)) .nil))))⟩
def q_law_bounded : QF := ⟨4, 2, (.cons (.asg (.var 2) (.bin .shl (.var 0) (.bin .mul (.int 2) (.var 1)))) (.cons (.asg (.var 3) (.call 7 (.cons (.var 2) .nil))) (.cons (.ret (.tup (.cons (.var 3) (.cons (.ite (.cmp .eq (.bin .mul (.var 3) (.var 3)) (.var 2)) (.var 3) (.bin .add (.var 3) (.int 1))) .nil)))) .nil)))⟩
def q_law_bounds : QF := ⟨7, 2, (.cons (.asg (.var 2) (.bin .add (.int 1) (.call 4 (.cons (.var 0) (.cons (.gc (.ix (.lst (.cons (.int 20) (.cons (.int 1000) (.cons (.int 1000000000) .nil)))) (.call 4 (.cons (.var 0) (.cons (.int 3) .nil))))) .nil))))) (.cons (.ite (.cmp .eq (.call 4 (.cons (.var 0) (.cons (.int 3) .nil))) (.int 0)) (.cons (.asg (.var 3) (.bin .add (.int 1) (.call 4 (.cons (.var 0) (.cons (.int 31622) .nil))))) (.cons (.asg (.var 2) (.bin .mul (.var 3) (.var 3))) .nil)) .nil) (.cons (.asg (.var 4) (.call 10 (.cons (.var 2) (.cons (.var 1) .nil)))) (.cons (.ite (.not (.call 5 (.cons (.call 2 (.cons (.var 2) (.cons (.var 1) .nil))) (.cons (.var 4) .nil)))) (.cons (.ret (.bl false)) .nil) .nil) (.cons (.asg (.var 5) (.call 4 (.cons (.var 0) (.cons (.bin .add (.var 1) (.int 1)) .nil)))) (.cons (.asg (.var 6) (.callK 2 .nil (.cons (.bin .sub (.var 1) (.var 5)) (.cons (.var 2) .nil)) [1, 0])) (.cons (.ite (.not (.call 5 (.cons (.var 6) (.cons (.call 10 (.cons (.var 2) (.cons (.bin .sub (.var 1) (.var 5)) .nil))) .nil)))) (.cons (.ret (.bl false)) .nil) .nil) (.cons (.ret (.and (.cmp .le (.bin .shl (.ix (.var 6) (.int 0)) (.var 5)) (.ix (.var 4) (.int 0))) (.cmp .le (.ix (.var 4) (.int 1)) (.bin .shl (.ix (.var 6) (.int 1)) (.var 5))))) .nil))))))))⟩
def q_law_f1 : QSs := (.cons (.ite (.not (.call 9 (.cons (.var 1) (.cons (.bin .add (.int 1) (.call 6 (.cons (.var 1) (.cons (.var 6) .nil)))) .nil)))) (.cons (.ret (.bl false)) .nil) .nil) .nil)
def q_law_f2 : QSs := (.cons (.ite (.not (.call 11 (.cons (.var 1) (.cons (.var 7) .nil)))) (.cons (.ret (.bl false)) .nil) .nil) .nil)
def q_law : QF := ⟨9, 1, (.cons (.asg (.var 1) (.call 3 (.cons (.var 0) .nil))) (.cons (.asg (.var 2) (.lst (.cons (.tup (.cons (.int 0) (.cons (.int 0) (.cons (.bl true) .nil)))) (.cons (.tup (.cons (.int 1) (.cons (.int 1) (.cons (.bl true) .nil)))) (.cons (.tup (.cons (.int 2) (.cons (.int 1) (.cons (.bl false) .nil)))) (.cons (.tup (.cons (.int 3) (.cons (.int 1) (.cons (.bl false) .nil)))) (.cons (.tup (.cons (.int 4) (.cons (.int 2) (.cons (.bl true) .nil)))) (.cons (.tup (.cons (.int 8) (.cons (.int 2) (.cons (.bl false) .nil)))) (.cons (.tup (.cons (.int 9) (.cons (.int 3) (.cons (.bl true) .nil)))) (.cons (.tup (.cons (.int 15) (.cons (.int 3) (.cons (.bl false) .nil)))) (.cons (.tup (.cons (.int 16) (.cons (.int 4) (.cons (.bl true) .nil)))) .nil))))))))))) (.cons (.asg (.tup (.cons (.var 3) (.cons (.var 4) (.cons (.var 5) .nil)))) (.ix (.var 2) (.call 4 (.cons (.var 1) (.cons (.int 9) .nil))))) (.cons (.ite (.or (.not (.call 5 (.cons (.tup (.cons (.callK 0 .nil (.cons (.var 3) .nil) [0]) (.cons (.callK 1 .nil (.cons (.var 3) .nil) [0]) .nil))) (.cons (.tup (.cons (.var 4) (.cons (.var 5) .nil))) .nil)))) (.not (.call 5 (.cons (.tup (.cons (.call 0 (.cons (.int 0) .nil)) (.cons (.call 1 (.cons (.int 0) .nil)) .nil))) (.cons (.tup (.cons (.int 0) (.cons (.bl true) .nil))) .nil))))) (.cons (.ret (.bl false)) .nil) .nil) (.cons (.ite (.not (.call 5 (.cons (.tup (.cons (.call 2 (.cons (.int 2) (.cons (.int 0) .nil))) (.cons (.call 2 (.cons (.int 2) (.cons (.int 3) .nil))) (.cons (.call 2 (.cons (.int 9) (.cons (.int 1) .nil))) (.cons (.call 2 (.cons (.int 1) (.cons (.int 0) .nil))) .nil))))) (.cons (.tup (.cons (.tup (.cons (.int 1) (.cons (.int 2) .nil))) (.cons (.tup (.cons (.int 11) (.cons (.int 12) .nil))) (.cons (.tup (.cons (.int 6) (.cons (.int 6) .nil))) (.cons (.tup (.cons (.int 1) (.cons (.int 1) .nil))) .nil))))) .nil)))) (.cons (.ret (.bl false)) .nil) .nil) (.cons (.asg (.var 3) (.call 4 (.cons (.var 1) (.cons (.int 100) .nil)))) (.cons (.asg (.var 4) (.gc (.bi .len (.cons (.comp (.var 8) (.var 8) (.rng2 (.int 1) (.int 12)) (.some (.cmp .le (.bin .mul (.var 8) (.var 8)) (.var 3))) [8]) .nil)))) (.cons (.ite (.not (.call 5 (.cons (.tup (.cons (.call 0 (.cons (.var 3) .nil)) (.cons (.call 1 (.cons (.var 3) .nil)) .nil))) (.cons (.tup (.cons (.var 4) (.cons (.cmp .eq (.bin .mul (.var 4) (.var 4)) (.var 3)) .nil))) .nil)))) (.cons (.ret (.bl false)) .nil) .nil) (.cons (.for (.var 6) (.tup (.tup (.cons (.int 0) (.cons (.int 1) (.cons (.call 4 (.cons (.var 1) (.cons (.int 12) .nil))) (.cons (.bin .add (.int 20) (.call 4 (.cons (.var 1) (.cons (.int 30) .nil)))) .nil)))))) q_law_f1) (.cons (.ite (.or (.not (.call 9 (.cons (.var 1) (.cons (.bin .add (.int 2) (.call 4 (.cons (.var 1) (.cons (.int 9) .nil)))) .nil)))) (.not (.call 9 (.cons (.var 1) (.cons (.bin .shl (.int 1) (.bin .add (.int 1) (.call 4 (.cons (.var 1) (.cons (.int 200) .nil))))) .nil))))) (.cons (.ret (.bl false)) .nil) .nil) (.cons (.for (.var 7) (.tup (.tup (.cons (.int 0) (.cons (.call 4 (.cons (.var 1) (.cons (.int 9) .nil))) (.cons (.call 4 (.cons (.var 1) (.cons (.int 201) .nil))) .nil))))) q_law_f2) (.cons (.ite (.cmp .ne (.call 4 (.cons (.var 1) (.cons (.int 7) .nil))) (.int 4)) (.cons (.ret (.bl true)) .nil) .nil) (.cons (.ret (.and (.call 9 (.cons (.var 1) (.cons (.call 6 (.cons (.var 1) (.cons (.int 270) .nil))) .nil))) (.call 11 (.cons (.var 1) (.cons (.int 4000) .nil))))) .nil)))))))))))))⟩
def top (i : Nat) : Stmt := PySem.Challenge.pw_surdways_k01_roots_bounds.main.body.getD i (.Pass ⟨0, 0, 0, 0⟩)
def dq_whole_root : DD := ⟨0, "whole_root", top 1, q_whole_root, ["n", "told", "fresh"], ["n"], [(0, ["n"], [0])]⟩
def dq_is_square : DD := ⟨1, "is_square", top 2, q_is_square, ["n", "root"], ["n"], [(0, ["n"], [0])]⟩
def dq_root_bounds : DD := ⟨2, "root_bounds", top 3, q_root_bounds, ["n", "b", "wide", "root"], ["n", "b"], [(0, ["b", "n"], [1, 0])]⟩
def dq_law_dice : DD := ⟨3, "_law_dice", top 5, q_law_dice, ["script", "mixed", "pool", "at", "given", "cell", "great", "lap"], ["script"], []⟩
def dq_law_draw : DD := ⟨4, "_law_draw", top 6, q_law_draw, ["dice", "many", "at"], ["dice", "many"], []⟩
def dq_law_same : DD := ⟨5, "_law_same", top 7, q_law_same, ["told", "due", "waiting", "one", "other", "at"], ["told", "due"], []⟩
def dq_law_great : DD := ⟨6, "_law_great", top 8, q_law_great, ["dice", "many", "told", "lap"], ["dice", "many"], []⟩
def dq_law_root : DD := ⟨7, "_law_root", top 9, q_law_root, ["number", "high", "low", "middle"], ["number"], []⟩
def dq_law_beside : DD := ⟨8, "_law_beside", top 10, q_law_beside, ["root", "told"], ["root"], []⟩
def dq_law_rooted : DD := ⟨9, "_law_rooted", top 11, q_law_rooted, ["dice", "root", "rows", "at", "lap", "number", "due", "square"], ["dice", "root"], []⟩
def dq_law_bounded : DD := ⟨10, "_law_bounded", top 12, q_law_bounded, ["n", "b", "number", "root"], ["n", "b"], []⟩
def dq_law_bounds : DD := ⟨11, "_law_bounds", top 13, q_law_bounds, ["dice", "b", "n", "root", "due", "less", "told"], ["dice", "b"], []⟩
def dq_law : DD := ⟨12, "law", top 14, q_law, ["script", "dice", "rows", "number", "due", "square", "many", "b", "one"], ["script"], []⟩
def ds : List DD := [dq_whole_root, dq_is_square, dq_root_bounds, dq_law_dice, dq_law_draw, dq_law_same, dq_law_great, dq_law_root, dq_law_beside, dq_law_rooted, dq_law_bounded, dq_law_bounds, dq_law]
def free : List Str := ["int", "enumerate", "range", "len", "isinstance", "bool", "str", "tuple", "list"]
theorem bdq_whole_root : dq_whole_root.Bd := fun _ _ _ _ _ _ us hl => match us, hl with | [_], _ => rfl
theorem kwq_whole_root : dq_whole_root.Kw := by
  intro z hz
  have hz : z ∈ ([(0, ["n"], [0])] : List (Nat × List Str × List Nat)) := hz
  simp only [List.mem_cons, List.not_mem_nil, or_false] at hz
  rcases hz with rfl
  · intro dV kV doc pm an cdv ct hd us ws h1 h2; subst hd; exact match us, ws, h1, h2 with | [], [_], _, _ => ⟨_, rfl, rfl⟩
theorem bdq_is_square : dq_is_square.Bd := fun _ _ _ _ _ _ us hl => match us, hl with | [_], _ => rfl
theorem kwq_is_square : dq_is_square.Kw := by
  intro z hz
  have hz : z ∈ ([(0, ["n"], [0])] : List (Nat × List Str × List Nat)) := hz
  simp only [List.mem_cons, List.not_mem_nil, or_false] at hz
  rcases hz with rfl
  · intro dV kV doc pm an cdv ct hd us ws h1 h2; subst hd; exact match us, ws, h1, h2 with | [], [_], _, _ => ⟨_, rfl, rfl⟩
theorem bdq_root_bounds : dq_root_bounds.Bd := fun _ _ _ _ _ _ us hl => match us, hl with | [_, _], _ => rfl
theorem kwq_root_bounds : dq_root_bounds.Kw := by
  intro z hz
  have hz : z ∈ ([(0, ["b", "n"], [1, 0])] : List (Nat × List Str × List Nat)) := hz
  simp only [List.mem_cons, List.not_mem_nil, or_false] at hz
  rcases hz with rfl
  · intro dV kV doc pm an cdv ct hd us ws h1 h2; subst hd; exact match us, ws, h1, h2 with | [], [_, _], _, _ => ⟨_, rfl, rfl⟩
theorem bdq_law_dice : dq_law_dice.Bd := fun _ _ _ _ _ _ us hl => match us, hl with | [_], _ => rfl
theorem kwq_law_dice : dq_law_dice.Kw := fun z hz => nomatch hz
theorem bdq_law_draw : dq_law_draw.Bd := fun _ _ _ _ _ _ us hl => match us, hl with | [_, _], _ => rfl
theorem kwq_law_draw : dq_law_draw.Kw := fun z hz => nomatch hz
theorem bdq_law_same : dq_law_same.Bd := fun _ _ _ _ _ _ us hl => match us, hl with | [_, _], _ => rfl
theorem kwq_law_same : dq_law_same.Kw := fun z hz => nomatch hz
theorem bdq_law_great : dq_law_great.Bd := fun _ _ _ _ _ _ us hl => match us, hl with | [_, _], _ => rfl
theorem kwq_law_great : dq_law_great.Kw := fun z hz => nomatch hz
theorem bdq_law_root : dq_law_root.Bd := fun _ _ _ _ _ _ us hl => match us, hl with | [_], _ => rfl
theorem kwq_law_root : dq_law_root.Kw := fun z hz => nomatch hz
theorem bdq_law_beside : dq_law_beside.Bd := fun _ _ _ _ _ _ us hl => match us, hl with | [_], _ => rfl
theorem kwq_law_beside : dq_law_beside.Kw := fun z hz => nomatch hz
theorem bdq_law_rooted : dq_law_rooted.Bd := fun _ _ _ _ _ _ us hl => match us, hl with | [_, _], _ => rfl
theorem kwq_law_rooted : dq_law_rooted.Kw := fun z hz => nomatch hz
theorem bdq_law_bounded : dq_law_bounded.Bd := fun _ _ _ _ _ _ us hl => match us, hl with | [_, _], _ => rfl
theorem kwq_law_bounded : dq_law_bounded.Kw := fun z hz => nomatch hz
theorem bdq_law_bounds : dq_law_bounds.Bd := fun _ _ _ _ _ _ us hl => match us, hl with | [_, _], _ => rfl
theorem kwq_law_bounds : dq_law_bounds.Kw := fun z hz => nomatch hz
theorem bdq_law : dq_law.Bd := fun _ _ _ _ _ _ us hl => match us, hl with | [_], _ => rfl
theorem kwq_law : dq_law.Kw := fun z hz => nomatch hz
theorem all_bd : ∀ d ∈ ds, d.Bd ∧ d.Kw := by
  intro d hd
  have hd : d ∈ ([dq_whole_root, dq_is_square, dq_root_bounds, dq_law_dice, dq_law_draw, dq_law_same, dq_law_great, dq_law_root, dq_law_beside, dq_law_rooted, dq_law_bounded, dq_law_bounds, dq_law] : List DD) := hd
  simp only [List.mem_cons, List.not_mem_nil, or_false] at hd
  rcases hd with rfl | rfl | rfl | rfl | rfl | rfl | rfl | rfl | rfl | rfl | rfl | rfl | rfl
  · exact ⟨bdq_whole_root, kwq_whole_root⟩
  · exact ⟨bdq_is_square, kwq_is_square⟩
  · exact ⟨bdq_root_bounds, kwq_root_bounds⟩
  · exact ⟨bdq_law_dice, kwq_law_dice⟩
  · exact ⟨bdq_law_draw, kwq_law_draw⟩
  · exact ⟨bdq_law_same, kwq_law_same⟩
  · exact ⟨bdq_law_great, kwq_law_great⟩
  · exact ⟨bdq_law_root, kwq_law_root⟩
  · exact ⟨bdq_law_beside, kwq_law_beside⟩
  · exact ⟨bdq_law_rooted, kwq_law_rooted⟩
  · exact ⟨bdq_law_bounded, kwq_law_bounded⟩
  · exact ⟨bdq_law_bounds, kwq_law_bounds⟩
  · exact ⟨bdq_law, kwq_law⟩

theorem all_ok : ds.all (DD.okB (pgOf ds free)) = true := by decide +kernel
end Q

namespace Q
open PySem PySem.Spec PyProof.Rows L2
/-! whole_root: the whole root -/
def IsRoot (x r : Int) : Prop := 0 ≤ r ∧ r * r ≤ x ∧ x < (r + 1) * (r + 1)
theorem IsRoot.uniq {x r s : Int} (a : IsRoot x r) (b : IsRoot x s) : r = s := root_uniq a.1 b.1 a.2.1 a.2.2 b.2.1 b.2.2
theorem IsRoot.small {x r : Int} {k : Nat} (a : IsRoot x r) (h : x.natAbs < 2 ^ (k + k)) : r.natAbs < 2 ^ k := by
  apply nat_sq_lt
  have h1 : ((r.natAbs * r.natAbs : Nat) : Int) = r * r := by
    rw [Int.natCast_mul]
    have := a.1
    rw [show ((r.natAbs : Nat) : Int) = r by omega]
  have := a.2.1
  omega
theorem whole_root_do {T : Nat → Option QF} (h0 : T 0 = some q_whole_root) {n : Nat} {M : Store} {x : Int} (hx : 0 ≤ x) (hb : x.natAbs < 2 ^ 17000) : Does T (n + 1) 0 [.int x] M fun v M' => M' = M ∧ ∃ r : Int, v = .int r ∧ IsRoot x r := by
  refine does_of h0 rfl rfl ?_
  simp only [ss_nil, ss_cons, s_asgv, s_asgt, s_para, s_auga, s_exp, s_retE, s_retNon, s_if, s_while, s_fo, s_break, s_conti, s_ps, e_var, varK, e_int, e_bl, e_non, e_str, e_ty, e_bin, e_neg, e_cmp, e_chain, e_isN, e_notN, e_and, e_or, e_not, e_ite, e_call, e_callK, prm_some, e_bi, e_tup, e_lst, lstK, tupK, e_ix, e_sl, eo_none, eo_some, in_int, e_mt, e_bits, bt_int, ng_int, e_comp, e_gc, es_nil, es_cons, tg_var, tg_tup, tg_sub, tgs_nil, tgs_cons, it_list, it_tup, it_rng1, it_rng2, it_enum, src_tup, src_fro, src_rng, src_enum, op_add, op_sub, op_mul, op_fdiv, op_mod, op_pow, op_shl, op_shr, op_addt, cm_lt, cm_le, cm_gt, cm_ge, cm_eq, cm_ne, cm_eq_bl, cm_ne_bl, cm_eq_str, cm_ne_str, tr_bl, tr_int, tr_non, ch_bl, cond_dec, cond_not, cond_t, cond_f, cond_ne, au_add, au_sub, b_len_tup, b_int, b_int_bl, b_abs, b_max, b_min, at_some, x_tup, isi_non_int, isi_non_bool, isi_non_str, isi_non_tuple, isi_non_list, isi_non_dict, isi_bl_int, isi_bl_bool, isi_bl_str, isi_bl_tuple, isi_bl_list, isi_bl_dict, isi_int_int, isi_int_bool, isi_int_str, isi_int_tuple, isi_int_list, isi_int_dict, isi_str_int, isi_str_bool, isi_str_str, isi_str_tuple, isi_str_list, isi_str_dict, isi_tup_int, isi_tup_bool, isi_tup_str, isi_tup_tuple, isi_tup_list, isi_tup_dict, isi_fro_int, isi_fro_bool, isi_fro_str, isi_fro_tuple, isi_fro_list, isi_fro_dict, PV.isNon, eq_self, decide_true, Bool.not_true, Bool.not_false, sl_fro, gc_pure, cl_lst, cl_dK, cx_ref, cx_str, cop_add, cb_len, cl_q, cm_append, cm_pop, pop_snoc, cm_extend, csrc, ctg, ixs, gc_ref, gc_ref0, sizeLine_eq, Nat.reduceLeDiff, Int.reduceLT, Int.reduceLE, true_and, and_true, st_new0, st_newk, st_set0, st_setk, List.getElem?_cons_zero, List.getElem?_cons_succ, List.append_assoc, List.cons_append, List.nil_append, List.append_nil, List.length_append, List.length_cons, List.length_nil, Nat.zero_add, Nat.reduceAdd, List.set_cons_zero, List.set_cons_succ, stV, getV0, getVs, setV0, setVs, q_whole_root]
  refine ⟨fun h => ⟨x, rfl, hx, ?_, ?_⟩, fun h => ⟨pylong_small (by decide +kernel), ⟨by omega, ?_⟩, ?_⟩⟩
  · rcases (by omega : x = 0 ∨ x = 1) with e | e <;> subst e <;> decide
  · rcases (by omega : x = 0 ∨ x = 1) with e | e <;> subst e <;> decide
  · have := bits_le hb
    rw [one_bits]
    omega
  · have hbit := bits_le hb
    have hlt := lt_bits x
    generalize hk : (((Builtin.Int.intBits x : Nat) : Int) + 1) / 2 = kk
    have hk2 : Builtin.Int.intBits x ≤ kk.toNat + kk.toNat ∧ kk.toNat ≤ 8501 := by omega
    generalize kk.toNat = k at hk2
    have hp : (0 : Int) < 2 ^ k := pow2_pos k
    have hx2 : x < 2 ^ k * 2 ^ k := by
      have h1 : x.natAbs < 2 ^ (k + k) := lt_p2 hlt hk2.1
      have h2 : (x.natAbs : Int) < ((2 ^ (k + k) : Nat) : Int) := by exact_mod_cast h1
      rw [Int.natCast_pow, Int.pow_add] at h2
      have h3 : (x.natAbs : Int) = x := by omega
      rw [h3] at h2
      exact h2
    have ht : ((1 : Int) * 2 ^ k).natAbs < 2 ^ 8502 := by
      rw [Int.one_mul, natAbs_pow]
      exact p2_lt (a := k) (b := 8502) (by omega)
    refine wh_rule (fun m e B => ∃ (t : Int) (o : Option PV), e = [some (.int x), some (.int t), o] ∧ B = ⟨M⟩ ∧ 0 < t ∧ x < (t + 1) * (t + 1) ∧ t.natAbs < 2 ^ 8502 ∧ m = t.natAbs) _ (big_lt ht (by decide)) ⟨_, _, rfl, rfl, by omega, ?_, ht, rfl⟩ ?_
    · have : (2 : Int) ^ k * 2 ^ k ≤ (1 * 2 ^ k + 1) * (1 * 2 ^ k + 1) := sq_mono (by omega) (by omega)
      omega
    · rintro m e M' ⟨t, o, rfl, eM, ht, hxt, hts, rfl⟩
      cases eM
      have hq : 0 ≤ x / t := Int.ediv_nonneg hx (by omega)
      simp only [ss_nil, ss_cons, s_asgv, s_asgt, s_para, s_auga, s_exp, s_retE, s_retNon, s_if, s_while, s_fo, s_break, s_conti, s_ps, e_var, varK, e_int, e_bl, e_non, e_str, e_ty, e_bin, e_neg, e_cmp, e_chain, e_isN, e_notN, e_and, e_or, e_not, e_ite, e_call, e_callK, prm_some, e_bi, e_tup, e_lst, lstK, tupK, e_ix, e_sl, eo_none, eo_some, in_int, e_mt, e_bits, bt_int, ng_int, e_comp, e_gc, es_nil, es_cons, tg_var, tg_tup, tg_sub, tgs_nil, tgs_cons, it_list, it_tup, it_rng1, it_rng2, it_enum, src_tup, src_fro, src_rng, src_enum, op_add, op_sub, op_mul, op_fdiv, op_mod, op_pow, op_shl, op_shr, op_addt, cm_lt, cm_le, cm_gt, cm_ge, cm_eq, cm_ne, cm_eq_bl, cm_ne_bl, cm_eq_str, cm_ne_str, tr_bl, tr_int, tr_non, ch_bl, cond_dec, cond_not, cond_t, cond_f, cond_ne, au_add, au_sub, b_len_tup, b_int, b_int_bl, b_abs, b_max, b_min, at_some, x_tup, isi_non_int, isi_non_bool, isi_non_str, isi_non_tuple, isi_non_list, isi_non_dict, isi_bl_int, isi_bl_bool, isi_bl_str, isi_bl_tuple, isi_bl_list, isi_bl_dict, isi_int_int, isi_int_bool, isi_int_str, isi_int_tuple, isi_int_list, isi_int_dict, isi_str_int, isi_str_bool, isi_str_str, isi_str_tuple, isi_str_list, isi_str_dict, isi_tup_int, isi_tup_bool, isi_tup_str, isi_tup_tuple, isi_tup_list, isi_tup_dict, isi_fro_int, isi_fro_bool, isi_fro_str, isi_fro_tuple, isi_fro_list, isi_fro_dict, PV.isNon, eq_self, decide_true, Bool.not_true, Bool.not_false, sl_fro, gc_pure, cl_lst, cl_dK, cx_ref, cx_str, cop_add, cb_len, cl_q, cm_append, cm_pop, pop_snoc, cm_extend, csrc, ctg, ixs, gc_ref, gc_ref0, sizeLine_eq, Nat.reduceLeDiff, Int.reduceLT, Int.reduceLE, true_and, and_true, st_new0, st_newk, st_set0, st_setk, List.getElem?_cons_zero, List.getElem?_cons_succ, List.append_assoc, List.cons_append, List.nil_append, List.append_nil, List.length_append, List.length_cons, List.length_nil, Nat.zero_add, Nat.reduceAdd, List.set_cons_zero, List.set_cons_succ, stV, getV0, getVs, setV0, setVs, q_whole_root_w1]
      refine ⟨⟨ht, pylong_small (Nat.lt_trans hts (p2_lt (a := 8502) (b := 9000) (by decide)))⟩, pylong_small (by decide +kernel), fun h => ⟨t, rfl, by omega, le_of_div ht rfl h, hxt⟩, fun h => ⟨_, ?_, _, _, rfl, ?_, newton_ge ht hx rfl, ?_, rfl⟩⟩
      · omega
      · have := newton_ge ht hx (f := (t + x / t) / 2) rfl
        apply Int.not_le.mp
        intro h0
        have h00 : (t + x / t) / 2 = 0 := by omega
        rw [h00] at this
        omega
      · omega
theorem is_square_do {T : Nat → Option QF} (h0 : T 0 = some q_whole_root) (h1 : T 1 = some q_is_square) {n : Nat} {M : Store} {x : Int} (hx : 0 ≤ x) (hb : x.natAbs < 2 ^ 17000) : Does T (n + 2) 1 [.int x] M fun v M' => M' = M ∧ ∃ r : Int, v = .bl (decide (r * r = x)) ∧ IsRoot x r := by
  refine does_of h1 rfl rfl ?_
  simp only [ss_nil, ss_cons, s_asgv, s_asgt, s_para, s_auga, s_exp, s_retE, s_retNon, s_if, s_while, s_fo, s_break, s_conti, s_ps, e_var, varK, e_int, e_bl, e_non, e_str, e_ty, e_bin, e_neg, e_cmp, e_chain, e_isN, e_notN, e_and, e_or, e_not, e_ite, e_call, e_callK, prm_some, e_bi, e_tup, e_lst, lstK, tupK, e_ix, e_sl, eo_none, eo_some, in_int, e_mt, e_bits, bt_int, ng_int, e_comp, e_gc, es_nil, es_cons, tg_var, tg_tup, tg_sub, tgs_nil, tgs_cons, it_list, it_tup, it_rng1, it_rng2, it_enum, src_tup, src_fro, src_rng, src_enum, op_add, op_sub, op_mul, op_fdiv, op_mod, op_pow, op_shl, op_shr, op_addt, cm_lt, cm_le, cm_gt, cm_ge, cm_eq, cm_ne, cm_eq_bl, cm_ne_bl, cm_eq_str, cm_ne_str, tr_bl, tr_int, tr_non, ch_bl, cond_dec, cond_not, cond_t, cond_f, cond_ne, au_add, au_sub, b_len_tup, b_int, b_int_bl, b_abs, b_max, b_min, at_some, x_tup, isi_non_int, isi_non_bool, isi_non_str, isi_non_tuple, isi_non_list, isi_non_dict, isi_bl_int, isi_bl_bool, isi_bl_str, isi_bl_tuple, isi_bl_list, isi_bl_dict, isi_int_int, isi_int_bool, isi_int_str, isi_int_tuple, isi_int_list, isi_int_dict, isi_str_int, isi_str_bool, isi_str_str, isi_str_tuple, isi_str_list, isi_str_dict, isi_tup_int, isi_tup_bool, isi_tup_str, isi_tup_tuple, isi_tup_list, isi_tup_dict, isi_fro_int, isi_fro_bool, isi_fro_str, isi_fro_tuple, isi_fro_list, isi_fro_dict, PV.isNon, eq_self, decide_true, Bool.not_true, Bool.not_false, sl_fro, gc_pure, cl_lst, cl_dK, cx_ref, cx_str, cop_add, cb_len, cl_q, cm_append, cm_pop, pop_snoc, cm_extend, csrc, ctg, ixs, gc_ref, gc_ref0, sizeLine_eq, Nat.reduceLeDiff, Int.reduceLT, Int.reduceLE, true_and, and_true, st_new0, st_newk, st_set0, st_setk, List.getElem?_cons_zero, List.getElem?_cons_succ, List.append_assoc, List.cons_append, List.nil_append, List.append_nil, List.length_append, List.length_cons, List.length_nil, Nat.zero_add, Nat.reduceAdd, List.set_cons_zero, List.set_cons_succ, stV, getV0, getVs, setV0, setVs, q_is_square]
  refine cl_of (whole_root_do h0 hx hb) ?_
  rintro v M' ⟨rfl, r, rfl, hr⟩
  have hs := hr.small (k := 8500) hb
  simp only [ss_nil, ss_cons, s_asgv, s_asgt, s_para, s_auga, s_exp, s_retE, s_retNon, s_if, s_while, s_fo, s_break, s_conti, s_ps, e_var, varK, e_int, e_bl, e_non, e_str, e_ty, e_bin, e_neg, e_cmp, e_chain, e_isN, e_notN, e_and, e_or, e_not, e_ite, e_call, e_callK, prm_some, e_bi, e_tup, e_lst, lstK, tupK, e_ix, e_sl, eo_none, eo_some, in_int, e_mt, e_bits, bt_int, ng_int, e_comp, e_gc, es_nil, es_cons, tg_var, tg_tup, tg_sub, tgs_nil, tgs_cons, it_list, it_tup, it_rng1, it_rng2, it_enum, src_tup, src_fro, src_rng, src_enum, op_add, op_sub, op_mul, op_fdiv, op_mod, op_pow, op_shl, op_shr, op_addt, cm_lt, cm_le, cm_gt, cm_ge, cm_eq, cm_ne, cm_eq_bl, cm_ne_bl, cm_eq_str, cm_ne_str, tr_bl, tr_int, tr_non, ch_bl, cond_dec, cond_not, cond_t, cond_f, cond_ne, au_add, au_sub, b_len_tup, b_int, b_int_bl, b_abs, b_max, b_min, at_some, x_tup, isi_non_int, isi_non_bool, isi_non_str, isi_non_tuple, isi_non_list, isi_non_dict, isi_bl_int, isi_bl_bool, isi_bl_str, isi_bl_tuple, isi_bl_list, isi_bl_dict, isi_int_int, isi_int_bool, isi_int_str, isi_int_tuple, isi_int_list, isi_int_dict, isi_str_int, isi_str_bool, isi_str_str, isi_str_tuple, isi_str_list, isi_str_dict, isi_tup_int, isi_tup_bool, isi_tup_str, isi_tup_tuple, isi_tup_list, isi_tup_dict, isi_fro_int, isi_fro_bool, isi_fro_str, isi_fro_tuple, isi_fro_list, isi_fro_dict, PV.isNon, eq_self, decide_true, Bool.not_true, Bool.not_false, sl_fro, gc_pure, cl_lst, cl_dK, cx_ref, cx_str, cop_add, cb_len, cl_q, cm_append, cm_pop, pop_snoc, cm_extend, csrc, ctg, ixs, gc_ref, gc_ref0, sizeLine_eq, Nat.reduceLeDiff, Int.reduceLT, Int.reduceLE, true_and, and_true, st_new0, st_newk, st_set0, st_setk, List.getElem?_cons_zero, List.getElem?_cons_succ, List.append_assoc, List.cons_append, List.nil_append, List.append_nil, List.length_append, List.length_cons, List.length_nil, Nat.zero_add, Nat.reduceAdd, List.set_cons_zero, List.set_cons_succ, stV, getV0, getVs, setV0, setVs]
  exact ⟨cmul hs hs (by decide), r, rfl, hr⟩
theorem root_bounds_do {T : Nat → Option QF} (h0 : T 0 = some q_whole_root) (h1 : T 2 = some q_root_bounds) {n : Nat} {M : Store} {x b : Int} (hx : 0 ≤ x) (hb : 0 ≤ b) (hs : (x * 2 ^ (2 * b).toNat).natAbs < 2 ^ 17000) (hbs : b ≤ 10000) (hxs : x.natAbs < 2 ^ 17000) :
    Does T (n + 2) 2 [.int x, .int b] M fun v M' => M' = M ∧ ∃ r : Int, v = .tup [.int r, .int (r + if r * r = x * 2 ^ (2 * b).toNat then 0 else 1)] ∧ IsRoot (x * 2 ^ (2 * b).toNat) r := by
  refine does_of h1 rfl rfl ?_
  simp only [ss_nil, ss_cons, s_asgv, s_asgt, s_para, s_auga, s_exp, s_retE, s_retNon, s_if, s_while, s_fo, s_break, s_conti, s_ps, e_var, varK, e_int, e_bl, e_non, e_str, e_ty, e_bin, e_neg, e_cmp, e_chain, e_isN, e_notN, e_and, e_or, e_not, e_ite, e_call, e_callK, prm_some, e_bi, e_tup, e_lst, lstK, tupK, e_ix, e_sl, eo_none, eo_some, in_int, e_mt, e_bits, bt_int, ng_int, e_comp, e_gc, es_nil, es_cons, tg_var, tg_tup, tg_sub, tgs_nil, tgs_cons, it_list, it_tup, it_rng1, it_rng2, it_enum, src_tup, src_fro, src_rng, src_enum, op_add, op_sub, op_mul, op_fdiv, op_mod, op_pow, op_shl, op_shr, op_addt, cm_lt, cm_le, cm_gt, cm_ge, cm_eq, cm_ne, cm_eq_bl, cm_ne_bl, cm_eq_str, cm_ne_str, tr_bl, tr_int, tr_non, ch_bl, cond_dec, cond_not, cond_t, cond_f, cond_ne, au_add, au_sub, b_len_tup, b_int, b_int_bl, b_abs, b_max, b_min, at_some, x_tup, isi_non_int, isi_non_bool, isi_non_str, isi_non_tuple, isi_non_list, isi_non_dict, isi_bl_int, isi_bl_bool, isi_bl_str, isi_bl_tuple, isi_bl_list, isi_bl_dict, isi_int_int, isi_int_bool, isi_int_str, isi_int_tuple, isi_int_list, isi_int_dict, isi_str_int, isi_str_bool, isi_str_str, isi_str_tuple, isi_str_list, isi_str_dict, isi_tup_int, isi_tup_bool, isi_tup_str, isi_tup_tuple, isi_tup_list, isi_tup_dict, isi_fro_int, isi_fro_bool, isi_fro_str, isi_fro_tuple, isi_fro_list, isi_fro_dict, PV.isNon, eq_self, decide_true, Bool.not_true, Bool.not_false, sl_fro, gc_pure, cl_lst, cl_dK, cx_ref, cx_str, cop_add, cb_len, cl_q, cm_append, cm_pop, pop_snoc, cm_extend, csrc, ctg, ixs, gc_ref, gc_ref0, sizeLine_eq, Nat.reduceLeDiff, Int.reduceLT, Int.reduceLE, true_and, and_true, st_new0, st_newk, st_set0, st_setk, List.getElem?_cons_zero, List.getElem?_cons_succ, List.append_assoc, List.cons_append, List.nil_append, List.append_nil, List.length_append, List.length_cons, List.length_nil, Nat.zero_add, Nat.reduceAdd, List.set_cons_zero, List.set_cons_succ, stV, getV0, getVs, setV0, setVs, q_root_bounds]
  have hbit := bits_le hxs
  refine ⟨cmul (a := 2) (b := 20) (by decide) (by omega) (by decide), ⟨by omega, by omega⟩, ?_⟩
  have hx2 : 0 ≤ x * 2 ^ (2 * b).toNat := Int.mul_nonneg hx (Int.le_of_lt (pow2_pos _))
  refine cl_of (whole_root_do h0 hx2 hs) ?_
  rintro v M' ⟨rfl, r, rfl, hr⟩
  have hrs := hr.small (k := 8500) hs
  simp only [ss_nil, ss_cons, s_asgv, s_asgt, s_para, s_auga, s_exp, s_retE, s_retNon, s_if, s_while, s_fo, s_break, s_conti, s_ps, e_var, varK, e_int, e_bl, e_non, e_str, e_ty, e_bin, e_neg, e_cmp, e_chain, e_isN, e_notN, e_and, e_or, e_not, e_ite, e_call, e_callK, prm_some, e_bi, e_tup, e_lst, lstK, tupK, e_ix, e_sl, eo_none, eo_some, in_int, e_mt, e_bits, bt_int, ng_int, e_comp, e_gc, es_nil, es_cons, tg_var, tg_tup, tg_sub, tgs_nil, tgs_cons, it_list, it_tup, it_rng1, it_rng2, it_enum, src_tup, src_fro, src_rng, src_enum, op_add, op_sub, op_mul, op_fdiv, op_mod, op_pow, op_shl, op_shr, op_addt, cm_lt, cm_le, cm_gt, cm_ge, cm_eq, cm_ne, cm_eq_bl, cm_ne_bl, cm_eq_str, cm_ne_str, tr_bl, tr_int, tr_non, ch_bl, cond_dec, cond_not, cond_t, cond_f, cond_ne, au_add, au_sub, b_len_tup, b_int, b_int_bl, b_abs, b_max, b_min, at_some, x_tup, isi_non_int, isi_non_bool, isi_non_str, isi_non_tuple, isi_non_list, isi_non_dict, isi_bl_int, isi_bl_bool, isi_bl_str, isi_bl_tuple, isi_bl_list, isi_bl_dict, isi_int_int, isi_int_bool, isi_int_str, isi_int_tuple, isi_int_list, isi_int_dict, isi_str_int, isi_str_bool, isi_str_str, isi_str_tuple, isi_str_list, isi_str_dict, isi_tup_int, isi_tup_bool, isi_tup_str, isi_tup_tuple, isi_tup_list, isi_tup_dict, isi_fro_int, isi_fro_bool, isi_fro_str, isi_fro_tuple, isi_fro_list, isi_fro_dict, PV.isNon, eq_self, decide_true, Bool.not_true, Bool.not_false, sl_fro, gc_pure, cl_lst, cl_dK, cx_ref, cx_str, cop_add, cb_len, cl_q, cm_append, cm_pop, pop_snoc, cm_extend, csrc, ctg, ixs, gc_ref, gc_ref0, sizeLine_eq, Nat.reduceLeDiff, Int.reduceLT, Int.reduceLE, true_and, and_true, st_new0, st_newk, st_set0, st_setk, List.getElem?_cons_zero, List.getElem?_cons_succ, List.append_assoc, List.cons_append, List.nil_append, List.append_nil, List.length_append, List.length_cons, List.length_nil, Nat.zero_add, Nat.reduceAdd, List.set_cons_zero, List.set_cons_succ, stV, getV0, getVs, setV0, setVs]
  refine ⟨cmul hrs hrs (by decide), r, ?_, hr⟩
  by_cases h : r * r = x * 2 ^ (2 * b).toNat
  · simp [h]
  · simp [h]
end Q

namespace Q
open PySem PySem.Spec PyProof.Rows L2
/-! the draws -/
theorem law_draw_do {T : Nat → Option QF} (h0 : T 4 = some q_law_draw) {n : Nat} {M : Store} {p d : Nat} {many : Int} (hd : Dice p d M) (hm : 0 < many) :
    Does T (n + 1) 4 [.ref d, .int many] M fun v M' => ∃ z : Int, v = .int z ∧ 0 ≤ z ∧ z < many ∧ Evo p d M M' := by
  have hlt := hd.lt
  obtain ⟨hn, m, k, pool, h1, h2, hm0, hm1, hk, hp⟩ := hd
  have hne : d ≠ p := by omega
  refine does_of h0 rfl rfl ?_
  have s1 := set_self (c := .lst [.int m, .int (k + 1), .ref p]) h1
  have s2 : (M.set d (.lst [.int m, .int (k + 1), .ref p]))[p]? = some (.lst (pool.map .int)) := by rw [set_other hne]; exact h2
  simp only [ss_nil, ss_cons, s_asgv, s_asgt, s_para, s_auga, s_exp, s_retE, s_retNon, s_if, s_while, s_fo, s_break, s_conti, s_ps, e_var, varK, e_int, e_bl, e_non, e_str, e_ty, e_bin, e_neg, e_cmp, e_chain, e_isN, e_notN, e_and, e_or, e_not, e_ite, e_call, e_callK, prm_some, e_bi, e_tup, e_lst, lstK, tupK, e_ix, e_sl, eo_none, eo_some, in_int, e_mt, e_bits, bt_int, ng_int, e_comp, e_gc, es_nil, es_cons, tg_var, tg_tup, tg_sub, tgs_nil, tgs_cons, it_list, it_tup, it_rng1, it_rng2, it_enum, src_tup, src_fro, src_rng, src_enum, op_add, op_sub, op_mul, op_fdiv, op_mod, op_pow, op_shl, op_shr, op_addt, cm_lt, cm_le, cm_gt, cm_ge, cm_eq, cm_ne, cm_eq_bl, cm_ne_bl, cm_eq_str, cm_ne_str, tr_bl, tr_int, tr_non, ch_bl, cond_dec, cond_not, cond_t, cond_f, cond_ne, au_add, au_sub, b_len_tup, b_int, b_int_bl, b_abs, b_max, b_min, at_some, x_tup, isi_non_int, isi_non_bool, isi_non_str, isi_non_tuple, isi_non_list, isi_non_dict, isi_bl_int, isi_bl_bool, isi_bl_str, isi_bl_tuple, isi_bl_list, isi_bl_dict, isi_int_int, isi_int_bool, isi_int_str, isi_int_tuple, isi_int_list, isi_int_dict, isi_str_int, isi_str_bool, isi_str_str, isi_str_tuple, isi_str_list, isi_str_dict, isi_tup_int, isi_tup_bool, isi_tup_str, isi_tup_tuple, isi_tup_list, isi_tup_dict, isi_fro_int, isi_fro_bool, isi_fro_str, isi_fro_tuple, isi_fro_list, isi_fro_dict, PV.isNon, eq_self, decide_true, Bool.not_true, Bool.not_false, sl_fro, gc_pure, cl_lst, cl_dK, cx_ref, cx_str, cop_add, cb_len, cl_q, cm_append, cm_pop, pop_snoc, cm_extend, csrc, ctg, ixs, gc_ref, gc_ref0, sizeLine_eq, Nat.reduceLeDiff, Int.reduceLT, Int.reduceLE, true_and, and_true, st_new0, st_newk, st_set0, st_setk, List.getElem?_cons_zero, List.getElem?_cons_succ, List.append_assoc, List.cons_append, List.nil_append, List.append_nil, List.length_append, List.length_cons, List.length_nil, Nat.zero_add, Nat.reduceAdd, List.set_cons_zero, List.set_cons_succ, stV, getV0, getVs, setV0, setVs, q_law_draw, h1, at1, se_lst h1 (i := 1) (j := 1) rfl, s1, at2, s2, List.length_map]
  refine ⟨fun hlt2 => ?_, fun hge => ?_⟩
  · obtain ⟨v, hv, hmem⟩ := at_in (xs := pool.map PV.int) (i := k) hk (by rw [List.length_map]; exact hlt2)
    rw [hv]
    obtain ⟨z, hz, rfl⟩ := List.mem_map.mp hmem
    simp only [ss_nil, ss_cons, s_asgv, s_asgt, s_para, s_auga, s_exp, s_retE, s_retNon, s_if, s_while, s_fo, s_break, s_conti, s_ps, e_var, varK, e_int, e_bl, e_non, e_str, e_ty, e_bin, e_neg, e_cmp, e_chain, e_isN, e_notN, e_and, e_or, e_not, e_ite, e_call, e_callK, prm_some, e_bi, e_tup, e_lst, lstK, tupK, e_ix, e_sl, eo_none, eo_some, in_int, e_mt, e_bits, bt_int, ng_int, e_comp, e_gc, es_nil, es_cons, tg_var, tg_tup, tg_sub, tgs_nil, tgs_cons, it_list, it_tup, it_rng1, it_rng2, it_enum, src_tup, src_fro, src_rng, src_enum, op_add, op_sub, op_mul, op_fdiv, op_mod, op_pow, op_shl, op_shr, op_addt, cm_lt, cm_le, cm_gt, cm_ge, cm_eq, cm_ne, cm_eq_bl, cm_ne_bl, cm_eq_str, cm_ne_str, tr_bl, tr_int, tr_non, ch_bl, cond_dec, cond_not, cond_t, cond_f, cond_ne, au_add, au_sub, b_len_tup, b_int, b_int_bl, b_abs, b_max, b_min, at_some, x_tup, isi_non_int, isi_non_bool, isi_non_str, isi_non_tuple, isi_non_list, isi_non_dict, isi_bl_int, isi_bl_bool, isi_bl_str, isi_bl_tuple, isi_bl_list, isi_bl_dict, isi_int_int, isi_int_bool, isi_int_str, isi_int_tuple, isi_int_list, isi_int_dict, isi_str_int, isi_str_bool, isi_str_str, isi_str_tuple, isi_str_list, isi_str_dict, isi_tup_int, isi_tup_bool, isi_tup_str, isi_tup_tuple, isi_tup_list, isi_tup_dict, isi_fro_int, isi_fro_bool, isi_fro_str, isi_fro_tuple, isi_fro_list, isi_fro_dict, PV.isNon, eq_self, decide_true, Bool.not_true, Bool.not_false, sl_fro, gc_pure, cl_lst, cl_dK, cx_ref, cx_str, cop_add, cb_len, cl_q, cm_append, cm_pop, pop_snoc, cm_extend, csrc, ctg, ixs, gc_ref, gc_ref0, sizeLine_eq, Nat.reduceLeDiff, Int.reduceLT, Int.reduceLE, true_and, and_true, st_new0, st_newk, st_set0, st_setk, List.getElem?_cons_zero, List.getElem?_cons_succ, List.append_assoc, List.cons_append, List.nil_append, List.append_nil, List.length_append, List.length_cons, List.length_nil, Nat.zero_add, Nat.reduceAdd, List.set_cons_zero, List.set_cons_succ, stV, getV0, getVs, setV0, setVs]
    refine ⟨hm, ?_⟩
    have ev : Evo p d M (M.set d (.lst [.int m, .int (k + 1), .ref p])) := ⟨List.length_set, fun i hi => set_other (Ne.symm hi), hn, m, k + 1, pool, s1, s2, hm0, hm1, by omega, hp⟩
    rw [ev.gc0]
    exact ⟨_, rfl, Int.emod_nonneg _ (by omega), Int.emod_lt_of_pos _ hm, ev⟩
  · have hmn : m.natAbs < 2 ^ 31 := by omega
    have s3 := set_self (c := .lst [.int ((m * 48271 + 211) % 2147483647), .int (k + 1), .ref p]) s1
    simp only [ss_nil, ss_cons, s_asgv, s_asgt, s_para, s_auga, s_exp, s_retE, s_retNon, s_if, s_while, s_fo, s_break, s_conti, s_ps, e_var, varK, e_int, e_bl, e_non, e_str, e_ty, e_bin, e_neg, e_cmp, e_chain, e_isN, e_notN, e_and, e_or, e_not, e_ite, e_call, e_callK, prm_some, e_bi, e_tup, e_lst, lstK, tupK, e_ix, e_sl, eo_none, eo_some, in_int, e_mt, e_bits, bt_int, ng_int, e_comp, e_gc, es_nil, es_cons, tg_var, tg_tup, tg_sub, tgs_nil, tgs_cons, it_list, it_tup, it_rng1, it_rng2, it_enum, src_tup, src_fro, src_rng, src_enum, op_add, op_sub, op_mul, op_fdiv, op_mod, op_pow, op_shl, op_shr, op_addt, cm_lt, cm_le, cm_gt, cm_ge, cm_eq, cm_ne, cm_eq_bl, cm_ne_bl, cm_eq_str, cm_ne_str, tr_bl, tr_int, tr_non, ch_bl, cond_dec, cond_not, cond_t, cond_f, cond_ne, au_add, au_sub, b_len_tup, b_int, b_int_bl, b_abs, b_max, b_min, at_some, x_tup, isi_non_int, isi_non_bool, isi_non_str, isi_non_tuple, isi_non_list, isi_non_dict, isi_bl_int, isi_bl_bool, isi_bl_str, isi_bl_tuple, isi_bl_list, isi_bl_dict, isi_int_int, isi_int_bool, isi_int_str, isi_int_tuple, isi_int_list, isi_int_dict, isi_str_int, isi_str_bool, isi_str_str, isi_str_tuple, isi_str_list, isi_str_dict, isi_tup_int, isi_tup_bool, isi_tup_str, isi_tup_tuple, isi_tup_list, isi_tup_dict, isi_fro_int, isi_fro_bool, isi_fro_str, isi_fro_tuple, isi_fro_list, isi_fro_dict, PV.isNon, eq_self, decide_true, Bool.not_true, Bool.not_false, sl_fro, gc_pure, cl_lst, cl_dK, cx_ref, cx_str, cop_add, cb_len, cl_q, cm_append, cm_pop, pop_snoc, cm_extend, csrc, ctg, ixs, gc_ref, gc_ref0, sizeLine_eq, Nat.reduceLeDiff, Int.reduceLT, Int.reduceLE, true_and, and_true, st_new0, st_newk, st_set0, st_setk, List.getElem?_cons_zero, List.getElem?_cons_succ, List.append_assoc, List.cons_append, List.nil_append, List.append_nil, List.length_append, List.length_cons, List.length_nil, Nat.zero_add, Nat.reduceAdd, List.set_cons_zero, List.set_cons_succ, stV, getV0, getVs, setV0, setVs, at0, se_lst s1 (i := 0) (j := 0) rfl, s3]
    refine ⟨cmul hmn (b := 16) (by decide) (by decide), pylong_small (by decide +kernel), hm, ?_⟩
    have hr0 := Int.emod_nonneg (m * 48271 + 211) (b := 2147483647) (by decide)
    have hr1 := Int.emod_lt_of_pos (m * 48271 + 211) (b := 2147483647) (by decide)
    have ev : Evo p d M ((M.set d (.lst [.int m, .int (k + 1), .ref p])).set d (.lst [.int ((m * 48271 + 211) % 2147483647), .int (k + 1), .ref p])) :=
      ⟨by rw [List.length_set, List.length_set], fun i hi => by rw [set_other (Ne.symm hi), set_other (Ne.symm hi)], hn, _, k + 1, pool, s3, by rw [set_other hne]; exact s2, hr0, hr1, by omega, hp⟩
    rw [ev.gc0]
    exact ⟨_, rfl, Int.emod_nonneg _ (by omega), Int.emod_lt_of_pos _ hm, ev⟩
/-! a great number -/
theorem law_great_do {T : Nat → Option QF} (h0 : T 4 = some q_law_draw) (h1 : T 6 = some q_law_great) {n : Nat} {M : Store} {p d : Nat} {many : Int} (hd : Dice p d M) (hm : 0 ≤ many) (hm2 : many ≤ 300) :
    Does T (n + 2) 6 [.ref d, .int many] M fun v M' => ∃ z : Int, v = .int z ∧ 1 ≤ z ∧ (1 ≤ many → 2 ≤ z) ∧ z.natAbs < 2 ^ (30 * (many.toNat + 1)) ∧ Evo p d M M' := by
  refine does_of h1 rfl rfl ?_
  simp only [ss_nil, ss_cons, s_asgv, s_asgt, s_para, s_auga, s_exp, s_retE, s_retNon, s_if, s_while, s_fo, s_break, s_conti, s_ps, e_var, varK, e_int, e_bl, e_non, e_str, e_ty, e_bin, e_neg, e_cmp, e_chain, e_isN, e_notN, e_and, e_or, e_not, e_ite, e_call, e_callK, prm_some, e_bi, e_tup, e_lst, lstK, tupK, e_ix, e_sl, eo_none, eo_some, in_int, e_mt, e_bits, bt_int, ng_int, e_comp, e_gc, es_nil, es_cons, tg_var, tg_tup, tg_sub, tgs_nil, tgs_cons, it_list, it_tup, it_rng1, it_rng2, it_enum, src_tup, src_fro, src_rng, src_enum, op_add, op_sub, op_mul, op_fdiv, op_mod, op_pow, op_shl, op_shr, op_addt, cm_lt, cm_le, cm_gt, cm_ge, cm_eq, cm_ne, cm_eq_bl, cm_ne_bl, cm_eq_str, cm_ne_str, tr_bl, tr_int, tr_non, ch_bl, cond_dec, cond_not, cond_t, cond_f, cond_ne, au_add, au_sub, b_len_tup, b_int, b_int_bl, b_abs, b_max, b_min, at_some, x_tup, isi_non_int, isi_non_bool, isi_non_str, isi_non_tuple, isi_non_list, isi_non_dict, isi_bl_int, isi_bl_bool, isi_bl_str, isi_bl_tuple, isi_bl_list, isi_bl_dict, isi_int_int, isi_int_bool, isi_int_str, isi_int_tuple, isi_int_list, isi_int_dict, isi_str_int, isi_str_bool, isi_str_str, isi_str_tuple, isi_str_list, isi_str_dict, isi_tup_int, isi_tup_bool, isi_tup_str, isi_tup_tuple, isi_tup_list, isi_tup_dict, isi_fro_int, isi_fro_bool, isi_fro_str, isi_fro_tuple, isi_fro_list, isi_fro_dict, PV.isNon, eq_self, decide_true, Bool.not_true, Bool.not_false, sl_fro, gc_pure, cl_lst, cl_dK, cx_ref, cx_str, cop_add, cb_len, cl_q, cm_append, cm_pop, pop_snoc, cm_extend, csrc, ctg, ixs, gc_ref, gc_ref0, sizeLine_eq, Nat.reduceLeDiff, Int.reduceLT, Int.reduceLE, true_and, and_true, st_new0, st_newk, st_set0, st_setk, List.getElem?_cons_zero, List.getElem?_cons_succ, List.append_assoc, List.cons_append, List.nil_append, List.append_nil, List.length_append, List.length_cons, List.length_nil, Nat.zero_add, Nat.reduceAdd, List.set_cons_zero, List.set_cons_succ, stV, getV0, getVs, setV0, setVs, q_law_great]
  refine cl_of (law_draw_do h0 hd (by decide)) ?_
  rintro v M1 ⟨z, rfl, hz0, hz1, ev1⟩
  simp only [ss_nil, ss_cons, s_asgv, s_asgt, s_para, s_auga, s_exp, s_retE, s_retNon, s_if, s_while, s_fo, s_break, s_conti, s_ps, e_var, varK, e_int, e_bl, e_non, e_str, e_ty, e_bin, e_neg, e_cmp, e_chain, e_isN, e_notN, e_and, e_or, e_not, e_ite, e_call, e_callK, prm_some, e_bi, e_tup, e_lst, lstK, tupK, e_ix, e_sl, eo_none, eo_some, in_int, e_mt, e_bits, bt_int, ng_int, e_comp, e_gc, es_nil, es_cons, tg_var, tg_tup, tg_sub, tgs_nil, tgs_cons, it_list, it_tup, it_rng1, it_rng2, it_enum, src_tup, src_fro, src_rng, src_enum, op_add, op_sub, op_mul, op_fdiv, op_mod, op_pow, op_shl, op_shr, op_addt, cm_lt, cm_le, cm_gt, cm_ge, cm_eq, cm_ne, cm_eq_bl, cm_ne_bl, cm_eq_str, cm_ne_str, tr_bl, tr_int, tr_non, ch_bl, cond_dec, cond_not, cond_t, cond_f, cond_ne, au_add, au_sub, b_len_tup, b_int, b_int_bl, b_abs, b_max, b_min, at_some, x_tup, isi_non_int, isi_non_bool, isi_non_str, isi_non_tuple, isi_non_list, isi_non_dict, isi_bl_int, isi_bl_bool, isi_bl_str, isi_bl_tuple, isi_bl_list, isi_bl_dict, isi_int_int, isi_int_bool, isi_int_str, isi_int_tuple, isi_int_list, isi_int_dict, isi_str_int, isi_str_bool, isi_str_str, isi_str_tuple, isi_str_list, isi_str_dict, isi_tup_int, isi_tup_bool, isi_tup_str, isi_tup_tuple, isi_tup_list, isi_tup_dict, isi_fro_int, isi_fro_bool, isi_fro_str, isi_fro_tuple, isi_fro_list, isi_fro_dict, PV.isNon, eq_self, decide_true, Bool.not_true, Bool.not_false, sl_fro, gc_pure, cl_lst, cl_dK, cx_ref, cx_str, cop_add, cb_len, cl_q, cm_append, cm_pop, pop_snoc, cm_extend, csrc, ctg, ixs, gc_ref, gc_ref0, sizeLine_eq, Nat.reduceLeDiff, Int.reduceLT, Int.reduceLE, true_and, and_true, st_new0, st_newk, st_set0, st_setk, List.getElem?_cons_zero, List.getElem?_cons_succ, List.append_assoc, List.cons_append, List.nil_append, List.append_nil, List.length_append, List.length_cons, List.length_nil, Nat.zero_add, Nat.reduceAdd, List.set_cons_zero, List.set_cons_succ, stV, getV0, getVs, setV0, setVs]
  refine ⟨⟨by omega, by omega⟩, ?_⟩
  have p30 : (1000000000 : Nat) < 2 ^ 30 := by decide
  refine fo_rule (fun i e B => ∃ (M2 : Store) (t : Int) (o : Option PV), e = [some (.ref d), some (.int many), some (.int t), o] ∧ B = ⟨M2⟩ ∧ Evo p d M M2 ∧ 1 ≤ t ∧ (1 ≤ i → 2 ≤ t) ∧ t.natAbs < 2 ^ (30 * (i + 1))) ⟨_, _, _, rfl, rfl, ev1, by omega, fun h => absurd h (by omega), ?_⟩ (fun _ _ _ _ _ => rfl) ?_ ?_
  · omega
  · rintro i x e M' hx ⟨M2, t, o, rfl, eM, ev2, ht, ht2, hts⟩
    cases eM
    simp only [ss_nil, ss_cons, s_asgv, s_asgt, s_para, s_auga, s_exp, s_retE, s_retNon, s_if, s_while, s_fo, s_break, s_conti, s_ps, e_var, varK, e_int, e_bl, e_non, e_str, e_ty, e_bin, e_neg, e_cmp, e_chain, e_isN, e_notN, e_and, e_or, e_not, e_ite, e_call, e_callK, prm_some, e_bi, e_tup, e_lst, lstK, tupK, e_ix, e_sl, eo_none, eo_some, in_int, e_mt, e_bits, bt_int, ng_int, e_comp, e_gc, es_nil, es_cons, tg_var, tg_tup, tg_sub, tgs_nil, tgs_cons, it_list, it_tup, it_rng1, it_rng2, it_enum, src_tup, src_fro, src_rng, src_enum, op_add, op_sub, op_mul, op_fdiv, op_mod, op_pow, op_shl, op_shr, op_addt, cm_lt, cm_le, cm_gt, cm_ge, cm_eq, cm_ne, cm_eq_bl, cm_ne_bl, cm_eq_str, cm_ne_str, tr_bl, tr_int, tr_non, ch_bl, cond_dec, cond_not, cond_t, cond_f, cond_ne, au_add, au_sub, b_len_tup, b_int, b_int_bl, b_abs, b_max, b_min, at_some, x_tup, isi_non_int, isi_non_bool, isi_non_str, isi_non_tuple, isi_non_list, isi_non_dict, isi_bl_int, isi_bl_bool, isi_bl_str, isi_bl_tuple, isi_bl_list, isi_bl_dict, isi_int_int, isi_int_bool, isi_int_str, isi_int_tuple, isi_int_list, isi_int_dict, isi_str_int, isi_str_bool, isi_str_str, isi_str_tuple, isi_str_list, isi_str_dict, isi_tup_int, isi_tup_bool, isi_tup_str, isi_tup_tuple, isi_tup_list, isi_tup_dict, isi_fro_int, isi_fro_bool, isi_fro_str, isi_fro_tuple, isi_fro_list, isi_fro_dict, PV.isNon, eq_self, decide_true, Bool.not_true, Bool.not_false, sl_fro, gc_pure, cl_lst, cl_dK, cx_ref, cx_str, cop_add, cb_len, cl_q, cm_append, cm_pop, pop_snoc, cm_extend, csrc, ctg, ixs, gc_ref, gc_ref0, sizeLine_eq, Nat.reduceLeDiff, Int.reduceLT, Int.reduceLE, true_and, and_true, st_new0, st_newk, st_set0, st_setk, List.getElem?_cons_zero, List.getElem?_cons_succ, List.append_assoc, List.cons_append, List.nil_append, List.append_nil, List.length_append, List.length_cons, List.length_nil, Nat.zero_add, Nat.reduceAdd, List.set_cons_zero, List.set_cons_succ, stV, getV0, getVs, setV0, setVs, q_law_great_f1]
    have hi : i < 300 := by
      have := (List.getElem?_eq_some_iff.mp hx).1
      simp [rngItems] at this
      omega
    refine ⟨cmul (b := 30) hts (by decide) (by omega), ?_⟩
    refine cl_of (law_draw_do h0 ev2.dice (by decide)) ?_
    rintro v M3 ⟨z, rfl, hz0, hz1, ev3⟩
    simp only [ss_nil, ss_cons, s_asgv, s_asgt, s_para, s_auga, s_exp, s_retE, s_retNon, s_if, s_while, s_fo, s_break, s_conti, s_ps, e_var, varK, e_int, e_bl, e_non, e_str, e_ty, e_bin, e_neg, e_cmp, e_chain, e_isN, e_notN, e_and, e_or, e_not, e_ite, e_call, e_callK, prm_some, e_bi, e_tup, e_lst, lstK, tupK, e_ix, e_sl, eo_none, eo_some, in_int, e_mt, e_bits, bt_int, ng_int, e_comp, e_gc, es_nil, es_cons, tg_var, tg_tup, tg_sub, tgs_nil, tgs_cons, it_list, it_tup, it_rng1, it_rng2, it_enum, src_tup, src_fro, src_rng, src_enum, op_add, op_sub, op_mul, op_fdiv, op_mod, op_pow, op_shl, op_shr, op_addt, cm_lt, cm_le, cm_gt, cm_ge, cm_eq, cm_ne, cm_eq_bl, cm_ne_bl, cm_eq_str, cm_ne_str, tr_bl, tr_int, tr_non, ch_bl, cond_dec, cond_not, cond_t, cond_f, cond_ne, au_add, au_sub, b_len_tup, b_int, b_int_bl, b_abs, b_max, b_min, at_some, x_tup, isi_non_int, isi_non_bool, isi_non_str, isi_non_tuple, isi_non_list, isi_non_dict, isi_bl_int, isi_bl_bool, isi_bl_str, isi_bl_tuple, isi_bl_list, isi_bl_dict, isi_int_int, isi_int_bool, isi_int_str, isi_int_tuple, isi_int_list, isi_int_dict, isi_str_int, isi_str_bool, isi_str_str, isi_str_tuple, isi_str_list, isi_str_dict, isi_tup_int, isi_tup_bool, isi_tup_str, isi_tup_tuple, isi_tup_list, isi_tup_dict, isi_fro_int, isi_fro_bool, isi_fro_str, isi_fro_tuple, isi_fro_list, isi_fro_dict, PV.isNon, eq_self, decide_true, Bool.not_true, Bool.not_false, sl_fro, gc_pure, cl_lst, cl_dK, cx_ref, cx_str, cop_add, cb_len, cl_q, cm_append, cm_pop, pop_snoc, cm_extend, csrc, ctg, ixs, gc_ref, gc_ref0, sizeLine_eq, Nat.reduceLeDiff, Int.reduceLT, Int.reduceLE, true_and, and_true, st_new0, st_newk, st_set0, st_setk, List.getElem?_cons_zero, List.getElem?_cons_succ, List.append_assoc, List.cons_append, List.nil_append, List.append_nil, List.length_append, List.length_cons, List.length_nil, Nat.zero_add, Nat.reduceAdd, List.set_cons_zero, List.set_cons_succ, stV, getV0, getVs, setV0, setVs]
    refine ⟨M3, _, _, rfl, rfl, ev2.trans ev3, by omega, fun _ => by omega, ?_⟩
    have e1 : 30 * (i + 1 + 1) = 30 * (i + 1) + 30 := by omega
    rw [e1, Nat.pow_add]
    generalize 2 ^ (30 * (i + 1)) = w at hts
    have e2 : (2 : Nat) ^ 30 = 1073741824 := by decide
    rw [e2]
    omega
  · rintro e M' ⟨M2, t, o, rfl, eM, ev2, ht, ht2, hts⟩
    cases eM
    simp only [ss_nil, ss_cons, s_asgv, s_asgt, s_para, s_auga, s_exp, s_retE, s_retNon, s_if, s_while, s_fo, s_break, s_conti, s_ps, e_var, varK, e_int, e_bl, e_non, e_str, e_ty, e_bin, e_neg, e_cmp, e_chain, e_isN, e_notN, e_and, e_or, e_not, e_ite, e_call, e_callK, prm_some, e_bi, e_tup, e_lst, lstK, tupK, e_ix, e_sl, eo_none, eo_some, in_int, e_mt, e_bits, bt_int, ng_int, e_comp, e_gc, es_nil, es_cons, tg_var, tg_tup, tg_sub, tgs_nil, tgs_cons, it_list, it_tup, it_rng1, it_rng2, it_enum, src_tup, src_fro, src_rng, src_enum, op_add, op_sub, op_mul, op_fdiv, op_mod, op_pow, op_shl, op_shr, op_addt, cm_lt, cm_le, cm_gt, cm_ge, cm_eq, cm_ne, cm_eq_bl, cm_ne_bl, cm_eq_str, cm_ne_str, tr_bl, tr_int, tr_non, ch_bl, cond_dec, cond_not, cond_t, cond_f, cond_ne, au_add, au_sub, b_len_tup, b_int, b_int_bl, b_abs, b_max, b_min, at_some, x_tup, isi_non_int, isi_non_bool, isi_non_str, isi_non_tuple, isi_non_list, isi_non_dict, isi_bl_int, isi_bl_bool, isi_bl_str, isi_bl_tuple, isi_bl_list, isi_bl_dict, isi_int_int, isi_int_bool, isi_int_str, isi_int_tuple, isi_int_list, isi_int_dict, isi_str_int, isi_str_bool, isi_str_str, isi_str_tuple, isi_str_list, isi_str_dict, isi_tup_int, isi_tup_bool, isi_tup_str, isi_tup_tuple, isi_tup_list, isi_tup_dict, isi_fro_int, isi_fro_bool, isi_fro_str, isi_fro_tuple, isi_fro_list, isi_fro_dict, PV.isNon, eq_self, decide_true, Bool.not_true, Bool.not_false, sl_fro, gc_pure, cl_lst, cl_dK, cx_ref, cx_str, cop_add, cb_len, cl_q, cm_append, cm_pop, pop_snoc, cm_extend, csrc, ctg, ixs, gc_ref, gc_ref0, sizeLine_eq, Nat.reduceLeDiff, Int.reduceLT, Int.reduceLE, true_and, and_true, st_new0, st_newk, st_set0, st_setk, List.getElem?_cons_zero, List.getElem?_cons_succ, List.append_assoc, List.cons_append, List.nil_append, List.append_nil, List.length_append, List.length_cons, List.length_nil, Nat.zero_add, Nat.reduceAdd, List.set_cons_zero, List.set_cons_succ, stV, getV0, getVs, setV0, setVs]
    rw [ev2.gc0]
    have hl : (rngItems 0 (many - 0).toNat).length = many.toNat := by simp [rngItems]
    dsimp only at ht2 hts
    rw [hl] at ht2 hts
    exact ⟨t, rfl, ht, fun h => ht2 (by omega), hts, ev2⟩
/-! the root once more, by halves -/
theorem law_root_do {T : Nat → Option QF} (h0 : T 7 = some q_law_root) {n : Nat} {M : Store} {x : Int} (hx : 0 ≤ x) (hb : x.natAbs < 2 ^ 17000) : Does T (n + 1) 7 [.int x] M fun v M' => M' = M ∧ ∃ r : Int, v = .int r ∧ IsRoot x r := by
  refine does_of h0 rfl rfl ?_
  simp only [ss_nil, ss_cons, s_asgv, s_asgt, s_para, s_auga, s_exp, s_retE, s_retNon, s_if, s_while, s_fo, s_break, s_conti, s_ps, e_var, varK, e_int, e_bl, e_non, e_str, e_ty, e_bin, e_neg, e_cmp, e_chain, e_isN, e_notN, e_and, e_or, e_not, e_ite, e_call, e_callK, prm_some, e_bi, e_tup, e_lst, lstK, tupK, e_ix, e_sl, eo_none, eo_some, in_int, e_mt, e_bits, bt_int, ng_int, e_comp, e_gc, es_nil, es_cons, tg_var, tg_tup, tg_sub, tgs_nil, tgs_cons, it_list, it_tup, it_rng1, it_rng2, it_enum, src_tup, src_fro, src_rng, src_enum, op_add, op_sub, op_mul, op_fdiv, op_mod, op_pow, op_shl, op_shr, op_addt, cm_lt, cm_le, cm_gt, cm_ge, cm_eq, cm_ne, cm_eq_bl, cm_ne_bl, cm_eq_str, cm_ne_str, tr_bl, tr_int, tr_non, ch_bl, cond_dec, cond_not, cond_t, cond_f, cond_ne, au_add, au_sub, b_len_tup, b_int, b_int_bl, b_abs, b_max, b_min, at_some, x_tup, isi_non_int, isi_non_bool, isi_non_str, isi_non_tuple, isi_non_list, isi_non_dict, isi_bl_int, isi_bl_bool, isi_bl_str, isi_bl_tuple, isi_bl_list, isi_bl_dict, isi_int_int, isi_int_bool, isi_int_str, isi_int_tuple, isi_int_list, isi_int_dict, isi_str_int, isi_str_bool, isi_str_str, isi_str_tuple, isi_str_list, isi_str_dict, isi_tup_int, isi_tup_bool, isi_tup_str, isi_tup_tuple, isi_tup_list, isi_tup_dict, isi_fro_int, isi_fro_bool, isi_fro_str, isi_fro_tuple, isi_fro_list, isi_fro_dict, PV.isNon, eq_self, decide_true, Bool.not_true, Bool.not_false, sl_fro, gc_pure, cl_lst, cl_dK, cx_ref, cx_str, cop_add, cb_len, cl_q, cm_append, cm_pop, pop_snoc, cm_extend, csrc, ctg, ixs, gc_ref, gc_ref0, sizeLine_eq, Nat.reduceLeDiff, Int.reduceLT, Int.reduceLE, true_and, and_true, st_new0, st_newk, st_set0, st_setk, List.getElem?_cons_zero, List.getElem?_cons_succ, List.append_assoc, List.cons_append, List.nil_append, List.append_nil, List.length_append, List.length_cons, List.length_nil, Nat.zero_add, Nat.reduceAdd, List.set_cons_zero, List.set_cons_succ, stV, getV0, getVs, setV0, setVs, q_law_root]
  have hbig : (x * 65536 + 2).toNat < 2 ^ 17020 := by
    have e1 : (17020 : Nat) = 17000 + 20 := rfl
    rw [e1, Nat.pow_add]
    generalize 2 ^ 17000 = w at hb
    have e2 : (2 : Nat) ^ 20 = 1048576 := by decide
    rw [e2]
    omega
  have small : ∀ h : Int, 0 ≤ h → h * h ≤ x → h.natAbs < 2 ^ 8500 := fun h h0 h1 => by
    apply nat_sq_lt
    have e : ((h.natAbs * h.natAbs : Nat) : Int) = h * h := by
      rw [Int.natCast_mul, show ((h.natAbs : Nat) : Int) = h by omega]
    have e3 : (2 : Nat) ^ (8500 + 8500) = 2 ^ 17000 := rfl
    rw [e3]
    omega
  refine wh_rule (fun m e B => ∃ (h g : Int) (o1 o2 : Option PV), e = [some (.int x), some (.int h), o1, o2] ∧ B = ⟨M⟩ ∧ g = h / 65536 ∧ 0 ≤ g ∧ g * g ≤ x ∧ 1 ≤ h ∧ (h = 1 ∨ h = 65536 * g) ∧ m = (x * 65536 + 2 - h).toNat) _ ?_ ⟨1, 0, none, none, rfl, rfl, by decide, by decide, by omega, by decide, .inl rfl, rfl⟩ ?_
  · exact big_lt (Nat.lt_of_le_of_lt (by omega) hbig) (by decide)
  · rintro m e M' ⟨h, g, o1, o2, rfl, eM, eg, hg0, hg, hh, hhg, rfl⟩
    cases eM
    have hhs : h.natAbs < 2 ^ 8517 := by
      have := small g hg0 hg
      have e1 : (8517 : Nat) = 8500 + 17 := rfl
      rw [e1, Nat.pow_add]
      generalize 2 ^ 8500 = w at this
      have e2 : (2 : Nat) ^ 17 = 131072 := by decide
      rw [e2]
      omega
    simp only [ss_nil, ss_cons, s_asgv, s_asgt, s_para, s_auga, s_exp, s_retE, s_retNon, s_if, s_while, s_fo, s_break, s_conti, s_ps, e_var, varK, e_int, e_bl, e_non, e_str, e_ty, e_bin, e_neg, e_cmp, e_chain, e_isN, e_notN, e_and, e_or, e_not, e_ite, e_call, e_callK, prm_some, e_bi, e_tup, e_lst, lstK, tupK, e_ix, e_sl, eo_none, eo_some, in_int, e_mt, e_bits, bt_int, ng_int, e_comp, e_gc, es_nil, es_cons, tg_var, tg_tup, tg_sub, tgs_nil, tgs_cons, it_list, it_tup, it_rng1, it_rng2, it_enum, src_tup, src_fro, src_rng, src_enum, op_add, op_sub, op_mul, op_fdiv, op_mod, op_pow, op_shl, op_shr, op_addt, cm_lt, cm_le, cm_gt, cm_ge, cm_eq, cm_ne, cm_eq_bl, cm_ne_bl, cm_eq_str, cm_ne_str, tr_bl, tr_int, tr_non, ch_bl, cond_dec, cond_not, cond_t, cond_f, cond_ne, au_add, au_sub, b_len_tup, b_int, b_int_bl, b_abs, b_max, b_min, at_some, x_tup, isi_non_int, isi_non_bool, isi_non_str, isi_non_tuple, isi_non_list, isi_non_dict, isi_bl_int, isi_bl_bool, isi_bl_str, isi_bl_tuple, isi_bl_list, isi_bl_dict, isi_int_int, isi_int_bool, isi_int_str, isi_int_tuple, isi_int_list, isi_int_dict, isi_str_int, isi_str_bool, isi_str_str, isi_str_tuple, isi_str_list, isi_str_dict, isi_tup_int, isi_tup_bool, isi_tup_str, isi_tup_tuple, isi_tup_list, isi_tup_dict, isi_fro_int, isi_fro_bool, isi_fro_str, isi_fro_tuple, isi_fro_list, isi_fro_dict, PV.isNon, eq_self, decide_true, Bool.not_true, Bool.not_false, sl_fro, gc_pure, cl_lst, cl_dK, cx_ref, cx_str, cop_add, cb_len, cl_q, cm_append, cm_pop, pop_snoc, cm_extend, csrc, ctg, ixs, gc_ref, gc_ref0, sizeLine_eq, Nat.reduceLeDiff, Int.reduceLT, Int.reduceLE, true_and, and_true, st_new0, st_newk, st_set0, st_setk, List.getElem?_cons_zero, List.getElem?_cons_succ, List.append_assoc, List.cons_append, List.nil_append, List.append_nil, List.length_append, List.length_cons, List.length_nil, Nat.zero_add, Nat.reduceAdd, List.set_cons_zero, List.set_cons_succ, stV, getV0, getVs, setV0, setVs, q_law_root_w1]
    refine ⟨cmul hhs hhs (by decide), fun hle => ⟨cmul (b := 17) hhs (by decide) (by decide), _, ?_, h * 65536, h, _, _, rfl, by omega, by omega, hle, by omega, by omega, rfl⟩, fun hgt => ⟨pylong_small (by decide +kernel), ?_⟩⟩
    · have hhx : h ≤ x := Int.le_trans (by have := sq_mono (a := 1) (b := h) (by omega) (by omega); have h2 : 1 * h ≤ h * h := Int.mul_le_mul_of_nonneg_right hh (by omega); omega) hle
      omega
    · rw [← eg]
      have hx2 : x < h * h := by omega
      refine wh_rule (fun m e B => ∃ (h g : Int) (o : Option PV), e = [some (.int x), some (.int h), some (.int g), o] ∧ B = ⟨M⟩ ∧ 0 ≤ g ∧ g < h ∧ g * g ≤ x ∧ x < h * h ∧ h.natAbs < 2 ^ 8517 ∧ m = (h - g).natAbs) _ (big_lt (Nat.lt_of_le_of_lt (by omega) hhs) (by decide)) ⟨h, g, o2, rfl, rfl, hg0, by omega, hg, hx2, hhs, rfl⟩ ?_
      rintro m e M'' ⟨h, g, o, rfl, eM, hg0, hgh, hg, hx2, hhs, rfl⟩
      cases eM
      simp only [ss_nil, ss_cons, s_asgv, s_asgt, s_para, s_auga, s_exp, s_retE, s_retNon, s_if, s_while, s_fo, s_break, s_conti, s_ps, e_var, varK, e_int, e_bl, e_non, e_str, e_ty, e_bin, e_neg, e_cmp, e_chain, e_isN, e_notN, e_and, e_or, e_not, e_ite, e_call, e_callK, prm_some, e_bi, e_tup, e_lst, lstK, tupK, e_ix, e_sl, eo_none, eo_some, in_int, e_mt, e_bits, bt_int, ng_int, e_comp, e_gc, es_nil, es_cons, tg_var, tg_tup, tg_sub, tgs_nil, tgs_cons, it_list, it_tup, it_rng1, it_rng2, it_enum, src_tup, src_fro, src_rng, src_enum, op_add, op_sub, op_mul, op_fdiv, op_mod, op_pow, op_shl, op_shr, op_addt, cm_lt, cm_le, cm_gt, cm_ge, cm_eq, cm_ne, cm_eq_bl, cm_ne_bl, cm_eq_str, cm_ne_str, tr_bl, tr_int, tr_non, ch_bl, cond_dec, cond_not, cond_t, cond_f, cond_ne, au_add, au_sub, b_len_tup, b_int, b_int_bl, b_abs, b_max, b_min, at_some, x_tup, isi_non_int, isi_non_bool, isi_non_str, isi_non_tuple, isi_non_list, isi_non_dict, isi_bl_int, isi_bl_bool, isi_bl_str, isi_bl_tuple, isi_bl_list, isi_bl_dict, isi_int_int, isi_int_bool, isi_int_str, isi_int_tuple, isi_int_list, isi_int_dict, isi_str_int, isi_str_bool, isi_str_str, isi_str_tuple, isi_str_list, isi_str_dict, isi_tup_int, isi_tup_bool, isi_tup_str, isi_tup_tuple, isi_tup_list, isi_tup_dict, isi_fro_int, isi_fro_bool, isi_fro_str, isi_fro_tuple, isi_fro_list, isi_fro_dict, PV.isNon, eq_self, decide_true, Bool.not_true, Bool.not_false, sl_fro, gc_pure, cl_lst, cl_dK, cx_ref, cx_str, cop_add, cb_len, cl_q, cm_append, cm_pop, pop_snoc, cm_extend, csrc, ctg, ixs, gc_ref, gc_ref0, sizeLine_eq, Nat.reduceLeDiff, Int.reduceLT, Int.reduceLE, true_and, and_true, st_new0, st_newk, st_set0, st_setk, List.getElem?_cons_zero, List.getElem?_cons_succ, List.append_assoc, List.cons_append, List.nil_append, List.append_nil, List.length_append, List.length_cons, List.length_nil, Nat.zero_add, Nat.reduceAdd, List.set_cons_zero, List.set_cons_succ, stV, getV0, getVs, setV0, setVs, q_law_root_w2]
      refine ⟨fun h1 => ⟨pylong_small (by decide +kernel), ?_⟩, fun h1 => ?_⟩
      · have hm : ((g + h) / 2).natAbs < 2 ^ 8517 := by omega
        refine ⟨cmul hm hm (by decide), fun hle => ?_, fun hgt => ?_⟩
        · exact ⟨_, by omega, h, (g + h) / 2, _, rfl, by omega, by omega, hle, hx2, hhs, rfl⟩
        · exact ⟨_, by omega, (g + h) / 2, g, _, rfl, by omega, by omega, hg, by omega, hm, rfl⟩
      · have e1 : h = g + 1 := by omega
        subst e1
        exact ⟨fun _ => ⟨g, rfl, hg0, hg, hx2⟩, fun h0 => ⟨0, rfl, by decide, by omega, by omega⟩⟩
/-! the rows beside a root -/
def Row (v : PV) : Prop := ∃ (x r : Int) (b : Bool), v = .tup [.int x, .int r, .bl b] ∧ IsRoot x r ∧ b = decide (r * r = x) ∧ 0 ≤ x ∧ x.natAbs < 2 ^ 17000
theorem law_beside_do {T : Nat → Option QF} (h0 : T 8 = some q_law_beside) {n : Nat} {M : Store} {r : Int} (hr : 2 ≤ r) (hb : r.natAbs < 2 ^ 8400) : Does T (n + 1) 8 [.int r] M fun v M' => ∃ (c0 c1 : Cell) (rows : List PV), v = .ref (M.length + 2) ∧ M' = M ++ [c0, c1, .lst rows] ∧ rows.length = 5 ∧ ∀ z ∈ rows, Row z := by
  refine does_of h0 rfl rfl ?_
  have hm := cmul hb hb (by decide)
  simp only [ss_nil, ss_cons, s_asgv, s_asgt, s_para, s_auga, s_exp, s_retE, s_retNon, s_if, s_while, s_fo, s_break, s_conti, s_ps, e_var, varK, e_int, e_bl, e_non, e_str, e_ty, e_bin, e_neg, e_cmp, e_chain, e_isN, e_notN, e_and, e_or, e_not, e_ite, e_call, e_callK, prm_some, e_bi, e_tup, e_lst, lstK, tupK, e_ix, e_sl, eo_none, eo_some, in_int, e_mt, e_bits, bt_int, ng_int, e_comp, e_gc, es_nil, es_cons, tg_var, tg_tup, tg_sub, tgs_nil, tgs_cons, it_list, it_tup, it_rng1, it_rng2, it_enum, src_tup, src_fro, src_rng, src_enum, op_add, op_sub, op_mul, op_fdiv, op_mod, op_pow, op_shl, op_shr, op_addt, cm_lt, cm_le, cm_gt, cm_ge, cm_eq, cm_ne, cm_eq_bl, cm_ne_bl, cm_eq_str, cm_ne_str, tr_bl, tr_int, tr_non, ch_bl, cond_dec, cond_not, cond_t, cond_f, cond_ne, au_add, au_sub, b_len_tup, b_int, b_int_bl, b_abs, b_max, b_min, at_some, x_tup, isi_non_int, isi_non_bool, isi_non_str, isi_non_tuple, isi_non_list, isi_non_dict, isi_bl_int, isi_bl_bool, isi_bl_str, isi_bl_tuple, isi_bl_list, isi_bl_dict, isi_int_int, isi_int_bool, isi_int_str, isi_int_tuple, isi_int_list, isi_int_dict, isi_str_int, isi_str_bool, isi_str_str, isi_str_tuple, isi_str_list, isi_str_dict, isi_tup_int, isi_tup_bool, isi_tup_str, isi_tup_tuple, isi_tup_list, isi_tup_dict, isi_fro_int, isi_fro_bool, isi_fro_str, isi_fro_tuple, isi_fro_list, isi_fro_dict, PV.isNon, eq_self, decide_true, Bool.not_true, Bool.not_false, sl_fro, gc_pure, cl_lst, cl_dK, cx_ref, cx_str, cop_add, cb_len, cl_q, cm_append, cm_pop, pop_snoc, cm_extend, csrc, ctg, ixs, gc_ref, gc_ref0, sizeLine_eq, Nat.reduceLeDiff, Int.reduceLT, Int.reduceLE, true_and, and_true, st_new0, st_newk, st_set0, st_setk, List.getElem?_cons_zero, List.getElem?_cons_succ, List.append_assoc, List.cons_append, List.nil_append, List.append_nil, List.length_append, List.length_cons, List.length_nil, Nat.zero_add, Nat.reduceAdd, List.set_cons_zero, List.set_cons_succ, stV, getV0, getVs, setV0, setVs, q_law_beside]
  have hm2 : CMulW 2 r := cmul (a := 2) (by decide) hb (by decide)
  refine ⟨hm, hm, hm, hm, hm2, hm, hm2, _, _, _, rfl, rfl, fun z hz => ?_⟩
  have hsq : (r * r).natAbs < 2 ^ 16800 := abs_mul hb hb
  have h1 : 2 * r ≤ r * r := Int.mul_le_mul_of_nonneg_right hr (by omega)
  have h2 : (r + 1) * (r + 1) = r * r + 2 * r + 1 := by grind
  have h3 : (r - 1) * (r - 1) = r * r - 2 * r + 1 := by grind
  have h4 : (r + 1 + 1) * (r + 1 + 1) = r * r + 4 * r + 4 := by grind
  have h5 : (r - 1 + 1) * (r - 1 + 1) = r * r := by grind
  have hsz : ∀ x : Int, 0 ≤ x → x ≤ r * r + 2 * r + 1 → x.natAbs < 2 ^ 17000 := fun x hx0 hx => by
    have e1 : (17000 : Nat) = 16800 + 200 := rfl
    rw [e1, Nat.pow_add]
    have e2 : 8 ≤ 2 ^ 200 := by decide
    generalize 2 ^ 200 = u at e2
    generalize 2 ^ 16800 = w at hsq
    have : w * 8 ≤ w * u := Nat.mul_le_mul_left w e2
    omega
  simp only [List.mem_cons, List.not_mem_nil, or_false] at hz
  rcases hz with rfl | rfl | rfl | rfl | rfl
  · exact ⟨_, _, _, rfl, ⟨by omega, by omega, by omega⟩, by simp, by omega, hsz _ (by omega) (by omega)⟩
  · exact ⟨_, _, _, rfl, ⟨by omega, by omega, by omega⟩, (decide_eq_false (by omega)).symm, by omega, hsz _ (by omega) (by omega)⟩
  · exact ⟨_, _, _, rfl, ⟨by omega, by omega, by omega⟩, (decide_eq_false (by omega)).symm, by omega, hsz _ (by omega) (by omega)⟩
  · exact ⟨_, _, _, rfl, ⟨by omega, by omega, by omega⟩, (decide_eq_false (by omega)).symm, by omega, hsz _ (by omega) (by omega)⟩
  · exact ⟨_, _, _, rfl, ⟨by omega, by omega, by omega⟩, (decide_eq_true (by omega)).symm, by omega, hsz _ (by omega) (by omega)⟩
end Q

namespace Q
open PySem PySem.Spec PyProof.Rows L2
theorem law_same_do {T : Nat → Option QF} (h0 : T 5 = some q_law_same) {n : Nat} {M : Store} {x : PV} (hx : x.plain = true) (hs : x.sz ≤ 1000000) : Does T (n + 1) 5 [x, x] M fun v M' => v = .bl true ∧ M' = M := by
  refine does_of h0 rfl rfl ?_
  simp only [ss_nil, ss_cons, s_asgv, s_asgt, s_para, s_auga, s_exp, s_retE, s_retNon, s_if, s_while, s_fo, s_break, s_conti, s_ps, e_var, varK, e_int, e_bl, e_non, e_str, e_ty, e_bin, e_neg, e_cmp, e_chain, e_isN, e_notN, e_and, e_or, e_not, e_ite, e_call, e_callK, prm_some, e_bi, e_tup, e_lst, lstK, tupK, e_ix, e_sl, eo_none, eo_some, in_int, e_mt, e_bits, bt_int, ng_int, e_comp, e_gc, es_nil, es_cons, tg_var, tg_tup, tg_sub, tgs_nil, tgs_cons, it_list, it_tup, it_rng1, it_rng2, it_enum, src_tup, src_fro, src_rng, src_enum, op_add, op_sub, op_mul, op_fdiv, op_mod, op_pow, op_shl, op_shr, op_addt, cm_lt, cm_le, cm_gt, cm_ge, cm_eq, cm_ne, cm_eq_bl, cm_ne_bl, cm_eq_str, cm_ne_str, tr_bl, tr_int, tr_non, ch_bl, cond_dec, cond_not, cond_t, cond_f, cond_ne, au_add, au_sub, b_len_tup, b_int, b_int_bl, b_abs, b_max, b_min, at_some, x_tup, isi_non_int, isi_non_bool, isi_non_str, isi_non_tuple, isi_non_list, isi_non_dict, isi_bl_int, isi_bl_bool, isi_bl_str, isi_bl_tuple, isi_bl_list, isi_bl_dict, isi_int_int, isi_int_bool, isi_int_str, isi_int_tuple, isi_int_list, isi_int_dict, isi_str_int, isi_str_bool, isi_str_str, isi_str_tuple, isi_str_list, isi_str_dict, isi_tup_int, isi_tup_bool, isi_tup_str, isi_tup_tuple, isi_tup_list, isi_tup_dict, isi_fro_int, isi_fro_bool, isi_fro_str, isi_fro_tuple, isi_fro_list, isi_fro_dict, PV.isNon, eq_self, decide_true, Bool.not_true, Bool.not_false, sl_fro, gc_pure, cl_lst, cl_dK, cx_ref, cx_str, cop_add, cb_len, cl_q, cm_append, cm_pop, pop_snoc, cm_extend, csrc, ctg, ixs, gc_ref, gc_ref0, sizeLine_eq, Nat.reduceLeDiff, Int.reduceLT, Int.reduceLE, true_and, and_true, st_new0, st_newk, st_set0, st_setk, List.getElem?_cons_zero, List.getElem?_cons_succ, List.append_assoc, List.cons_append, List.nil_append, List.append_nil, List.length_append, List.length_cons, List.length_nil, Nat.zero_add, Nat.reduceAdd, List.set_cons_zero, List.set_cons_succ, stV, getV0, getVs, setV0, setVs, q_law_same]
  refine wh_rule (fun m e B => ∃ (st : List PV) (o3 o4 o5 : Option PV), e = [some x, some x, some (.ref M.length), o3, o4, o5] ∧ B = ⟨M ++ [.lst (twin st)]⟩ ∧ PV.plains st = true ∧ PV.szs st ≤ 1000000 ∧ m = PV.szs st) _ (big_of (by rw [szs_one]; omega)) ⟨[x], none, none, none, rfl, rfl, by simp [PV.plains, hx], by simpa [PV.szs] using hs, rfl⟩ ?_
  rintro m e M' ⟨st, o3, o4, o5, rfl, eM, hp, hz, rfl⟩
  cases eM
  simp only [ss_nil, ss_cons, s_asgv, s_asgt, s_para, s_auga, s_exp, s_retE, s_retNon, s_if, s_while, s_fo, s_break, s_conti, s_ps, e_var, varK, e_int, e_bl, e_non, e_str, e_ty, e_bin, e_neg, e_cmp, e_chain, e_isN, e_notN, e_and, e_or, e_not, e_ite, e_call, e_callK, prm_some, e_bi, e_tup, e_lst, lstK, tupK, e_ix, e_sl, eo_none, eo_some, in_int, e_mt, e_bits, bt_int, ng_int, e_comp, e_gc, es_nil, es_cons, tg_var, tg_tup, tg_sub, tgs_nil, tgs_cons, it_list, it_tup, it_rng1, it_rng2, it_enum, src_tup, src_fro, src_rng, src_enum, op_add, op_sub, op_mul, op_fdiv, op_mod, op_pow, op_shl, op_shr, op_addt, cm_lt, cm_le, cm_gt, cm_ge, cm_eq, cm_ne, cm_eq_bl, cm_ne_bl, cm_eq_str, cm_ne_str, tr_bl, tr_int, tr_non, ch_bl, cond_dec, cond_not, cond_t, cond_f, cond_ne, au_add, au_sub, b_len_tup, b_int, b_int_bl, b_abs, b_max, b_min, at_some, x_tup, isi_non_int, isi_non_bool, isi_non_str, isi_non_tuple, isi_non_list, isi_non_dict, isi_bl_int, isi_bl_bool, isi_bl_str, isi_bl_tuple, isi_bl_list, isi_bl_dict, isi_int_int, isi_int_bool, isi_int_str, isi_int_tuple, isi_int_list, isi_int_dict, isi_str_int, isi_str_bool, isi_str_str, isi_str_tuple, isi_str_list, isi_str_dict, isi_tup_int, isi_tup_bool, isi_tup_str, isi_tup_tuple, isi_tup_list, isi_tup_dict, isi_fro_int, isi_fro_bool, isi_fro_str, isi_fro_tuple, isi_fro_list, isi_fro_dict, PV.isNon, eq_self, decide_true, Bool.not_true, Bool.not_false, sl_fro, gc_pure, cl_lst, cl_dK, cx_ref, cx_str, cop_add, cb_len, cl_q, cm_append, cm_pop, pop_snoc, cm_extend, csrc, ctg, ixs, gc_ref, gc_ref0, sizeLine_eq, Nat.reduceLeDiff, Int.reduceLT, Int.reduceLE, true_and, and_true, st_new0, st_newk, st_set0, st_setk, List.getElem?_cons_zero, List.getElem?_cons_succ, List.append_assoc, List.cons_append, List.nil_append, List.append_nil, List.length_append, List.length_cons, List.length_nil, Nat.zero_add, Nat.reduceAdd, List.set_cons_zero, List.set_cons_succ, stV, getV0, getVs, setV0, setVs]
  rcases snoc_cases st with rfl | ⟨ys, y, rfl⟩
  · refine ⟨fun h => absurd h (by simp [twin]), fun _ => ?_⟩
    rw [gc_drop (by simp [PV.low])]
    exact ⟨rfl, rfl⟩
  · refine ⟨fun _ => ?_, fun h => absurd (by rw [twin_len]; simp) h⟩
    have e1 : twin (ys ++ [y]) = twin ys ++ [.tup [y, y]] := by rw [twin_append]; rfl
    rw [e1]
    rw [szs_append] at hz
    have hsz : PV.szs [y] = y.sz := by simp [PV.szs]
    have hpy : y.plain = true := plains_get (i := ys.length) hp (by simp)
    have hpys : PV.plains ys = true := plains_of_mem fun z hz => plains_mem hp z (by simp [hz])
    have hy := sz_pos y
    simp only [ss_nil, ss_cons, s_asgv, s_asgt, s_para, s_auga, s_exp, s_retE, s_retNon, s_if, s_while, s_fo, s_break, s_conti, s_ps, e_var, varK, e_int, e_bl, e_non, e_str, e_ty, e_bin, e_neg, e_cmp, e_chain, e_isN, e_notN, e_and, e_or, e_not, e_ite, e_call, e_callK, prm_some, e_bi, e_tup, e_lst, lstK, tupK, e_ix, e_sl, eo_none, eo_some, in_int, e_mt, e_bits, bt_int, ng_int, e_comp, e_gc, es_nil, es_cons, tg_var, tg_tup, tg_sub, tgs_nil, tgs_cons, it_list, it_tup, it_rng1, it_rng2, it_enum, src_tup, src_fro, src_rng, src_enum, op_add, op_sub, op_mul, op_fdiv, op_mod, op_pow, op_shl, op_shr, op_addt, cm_lt, cm_le, cm_gt, cm_ge, cm_eq, cm_ne, cm_eq_bl, cm_ne_bl, cm_eq_str, cm_ne_str, tr_bl, tr_int, tr_non, ch_bl, cond_dec, cond_not, cond_t, cond_f, cond_ne, au_add, au_sub, b_len_tup, b_int, b_int_bl, b_abs, b_max, b_min, at_some, x_tup, isi_non_int, isi_non_bool, isi_non_str, isi_non_tuple, isi_non_list, isi_non_dict, isi_bl_int, isi_bl_bool, isi_bl_str, isi_bl_tuple, isi_bl_list, isi_bl_dict, isi_int_int, isi_int_bool, isi_int_str, isi_int_tuple, isi_int_list, isi_int_dict, isi_str_int, isi_str_bool, isi_str_str, isi_str_tuple, isi_str_list, isi_str_dict, isi_tup_int, isi_tup_bool, isi_tup_str, isi_tup_tuple, isi_tup_list, isi_tup_dict, isi_fro_int, isi_fro_bool, isi_fro_str, isi_fro_tuple, isi_fro_list, isi_fro_dict, PV.isNon, eq_self, decide_true, Bool.not_true, Bool.not_false, sl_fro, gc_pure, cl_lst, cl_dK, cx_ref, cx_str, cop_add, cb_len, cl_q, cm_append, cm_pop, pop_snoc, cm_extend, csrc, ctg, ixs, gc_ref, gc_ref0, sizeLine_eq, Nat.reduceLeDiff, Int.reduceLT, Int.reduceLE, true_and, and_true, st_new0, st_newk, st_set0, st_setk, List.getElem?_cons_zero, List.getElem?_cons_succ, List.append_assoc, List.cons_append, List.nil_append, List.append_nil, List.length_append, List.length_cons, List.length_nil, Nat.zero_add, Nat.reduceAdd, List.set_cons_zero, List.set_cons_succ, stV, getV0, getVs, setV0, setVs, q_law_same_w1]
    cases y with
    | ref k => cases hpy
    | fro k => cases hpy
    | ty k => cases hpy
    | non =>
      simp only [ss_nil, ss_cons, s_asgv, s_asgt, s_para, s_auga, s_exp, s_retE, s_retNon, s_if, s_while, s_fo, s_break, s_conti, s_ps, e_var, varK, e_int, e_bl, e_non, e_str, e_ty, e_bin, e_neg, e_cmp, e_chain, e_isN, e_notN, e_and, e_or, e_not, e_ite, e_call, e_callK, prm_some, e_bi, e_tup, e_lst, lstK, tupK, e_ix, e_sl, eo_none, eo_some, in_int, e_mt, e_bits, bt_int, ng_int, e_comp, e_gc, es_nil, es_cons, tg_var, tg_tup, tg_sub, tgs_nil, tgs_cons, it_list, it_tup, it_rng1, it_rng2, it_enum, src_tup, src_fro, src_rng, src_enum, op_add, op_sub, op_mul, op_fdiv, op_mod, op_pow, op_shl, op_shr, op_addt, cm_lt, cm_le, cm_gt, cm_ge, cm_eq, cm_ne, cm_eq_bl, cm_ne_bl, cm_eq_str, cm_ne_str, tr_bl, tr_int, tr_non, ch_bl, cond_dec, cond_not, cond_t, cond_f, cond_ne, au_add, au_sub, b_len_tup, b_int, b_int_bl, b_abs, b_max, b_min, at_some, x_tup, isi_non_int, isi_non_bool, isi_non_str, isi_non_tuple, isi_non_list, isi_non_dict, isi_bl_int, isi_bl_bool, isi_bl_str, isi_bl_tuple, isi_bl_list, isi_bl_dict, isi_int_int, isi_int_bool, isi_int_str, isi_int_tuple, isi_int_list, isi_int_dict, isi_str_int, isi_str_bool, isi_str_str, isi_str_tuple, isi_str_list, isi_str_dict, isi_tup_int, isi_tup_bool, isi_tup_str, isi_tup_tuple, isi_tup_list, isi_tup_dict, isi_fro_int, isi_fro_bool, isi_fro_str, isi_fro_tuple, isi_fro_list, isi_fro_dict, PV.isNon, eq_self, decide_true, Bool.not_true, Bool.not_false, sl_fro, gc_pure, cl_lst, cl_dK, cx_ref, cx_str, cop_add, cb_len, cl_q, cm_append, cm_pop, pop_snoc, cm_extend, csrc, ctg, ixs, gc_ref, gc_ref0, sizeLine_eq, Nat.reduceLeDiff, Int.reduceLT, Int.reduceLE, true_and, and_true, st_new0, st_newk, st_set0, st_setk, List.getElem?_cons_zero, List.getElem?_cons_succ, List.append_assoc, List.cons_append, List.nil_append, List.append_nil, List.length_append, List.length_cons, List.length_nil, Nat.zero_add, Nat.reduceAdd, List.set_cons_zero, List.set_cons_succ, stV, getV0, getVs, setV0, setVs]
      exact ⟨_, by rw [szs_append]; omega, ys, _, _, _, rfl, rfl, hpys, by omega, rfl⟩
    | bl b =>
      simp only [ss_nil, ss_cons, s_asgv, s_asgt, s_para, s_auga, s_exp, s_retE, s_retNon, s_if, s_while, s_fo, s_break, s_conti, s_ps, e_var, varK, e_int, e_bl, e_non, e_str, e_ty, e_bin, e_neg, e_cmp, e_chain, e_isN, e_notN, e_and, e_or, e_not, e_ite, e_call, e_callK, prm_some, e_bi, e_tup, e_lst, lstK, tupK, e_ix, e_sl, eo_none, eo_some, in_int, e_mt, e_bits, bt_int, ng_int, e_comp, e_gc, es_nil, es_cons, tg_var, tg_tup, tg_sub, tgs_nil, tgs_cons, it_list, it_tup, it_rng1, it_rng2, it_enum, src_tup, src_fro, src_rng, src_enum, op_add, op_sub, op_mul, op_fdiv, op_mod, op_pow, op_shl, op_shr, op_addt, cm_lt, cm_le, cm_gt, cm_ge, cm_eq, cm_ne, cm_eq_bl, cm_ne_bl, cm_eq_str, cm_ne_str, tr_bl, tr_int, tr_non, ch_bl, cond_dec, cond_not, cond_t, cond_f, cond_ne, au_add, au_sub, b_len_tup, b_int, b_int_bl, b_abs, b_max, b_min, at_some, x_tup, isi_non_int, isi_non_bool, isi_non_str, isi_non_tuple, isi_non_list, isi_non_dict, isi_bl_int, isi_bl_bool, isi_bl_str, isi_bl_tuple, isi_bl_list, isi_bl_dict, isi_int_int, isi_int_bool, isi_int_str, isi_int_tuple, isi_int_list, isi_int_dict, isi_str_int, isi_str_bool, isi_str_str, isi_str_tuple, isi_str_list, isi_str_dict, isi_tup_int, isi_tup_bool, isi_tup_str, isi_tup_tuple, isi_tup_list, isi_tup_dict, isi_fro_int, isi_fro_bool, isi_fro_str, isi_fro_tuple, isi_fro_list, isi_fro_dict, PV.isNon, eq_self, decide_true, Bool.not_true, Bool.not_false, sl_fro, gc_pure, cl_lst, cl_dK, cx_ref, cx_str, cop_add, cb_len, cl_q, cm_append, cm_pop, pop_snoc, cm_extend, csrc, ctg, ixs, gc_ref, gc_ref0, sizeLine_eq, Nat.reduceLeDiff, Int.reduceLT, Int.reduceLE, true_and, and_true, st_new0, st_newk, st_set0, st_setk, List.getElem?_cons_zero, List.getElem?_cons_succ, List.append_assoc, List.cons_append, List.nil_append, List.append_nil, List.length_append, List.length_cons, List.length_nil, Nat.zero_add, Nat.reduceAdd, List.set_cons_zero, List.set_cons_succ, stV, getV0, getVs, setV0, setVs]
      exact ⟨_, by rw [szs_append]; omega, ys, _, _, _, rfl, rfl, hpys, by omega, rfl⟩
    | int b =>
      simp only [ss_nil, ss_cons, s_asgv, s_asgt, s_para, s_auga, s_exp, s_retE, s_retNon, s_if, s_while, s_fo, s_break, s_conti, s_ps, e_var, varK, e_int, e_bl, e_non, e_str, e_ty, e_bin, e_neg, e_cmp, e_chain, e_isN, e_notN, e_and, e_or, e_not, e_ite, e_call, e_callK, prm_some, e_bi, e_tup, e_lst, lstK, tupK, e_ix, e_sl, eo_none, eo_some, in_int, e_mt, e_bits, bt_int, ng_int, e_comp, e_gc, es_nil, es_cons, tg_var, tg_tup, tg_sub, tgs_nil, tgs_cons, it_list, it_tup, it_rng1, it_rng2, it_enum, src_tup, src_fro, src_rng, src_enum, op_add, op_sub, op_mul, op_fdiv, op_mod, op_pow, op_shl, op_shr, op_addt, cm_lt, cm_le, cm_gt, cm_ge, cm_eq, cm_ne, cm_eq_bl, cm_ne_bl, cm_eq_str, cm_ne_str, tr_bl, tr_int, tr_non, ch_bl, cond_dec, cond_not, cond_t, cond_f, cond_ne, au_add, au_sub, b_len_tup, b_int, b_int_bl, b_abs, b_max, b_min, at_some, x_tup, isi_non_int, isi_non_bool, isi_non_str, isi_non_tuple, isi_non_list, isi_non_dict, isi_bl_int, isi_bl_bool, isi_bl_str, isi_bl_tuple, isi_bl_list, isi_bl_dict, isi_int_int, isi_int_bool, isi_int_str, isi_int_tuple, isi_int_list, isi_int_dict, isi_str_int, isi_str_bool, isi_str_str, isi_str_tuple, isi_str_list, isi_str_dict, isi_tup_int, isi_tup_bool, isi_tup_str, isi_tup_tuple, isi_tup_list, isi_tup_dict, isi_fro_int, isi_fro_bool, isi_fro_str, isi_fro_tuple, isi_fro_list, isi_fro_dict, PV.isNon, eq_self, decide_true, Bool.not_true, Bool.not_false, sl_fro, gc_pure, cl_lst, cl_dK, cx_ref, cx_str, cop_add, cb_len, cl_q, cm_append, cm_pop, pop_snoc, cm_extend, csrc, ctg, ixs, gc_ref, gc_ref0, sizeLine_eq, Nat.reduceLeDiff, Int.reduceLT, Int.reduceLE, true_and, and_true, st_new0, st_newk, st_set0, st_setk, List.getElem?_cons_zero, List.getElem?_cons_succ, List.append_assoc, List.cons_append, List.nil_append, List.append_nil, List.length_append, List.length_cons, List.length_nil, Nat.zero_add, Nat.reduceAdd, List.set_cons_zero, List.set_cons_succ, stV, getV0, getVs, setV0, setVs]
      exact ⟨_, by rw [szs_append]; omega, ys, _, _, _, rfl, rfl, hpys, by omega, rfl⟩
    | str b =>
      simp only [ss_nil, ss_cons, s_asgv, s_asgt, s_para, s_auga, s_exp, s_retE, s_retNon, s_if, s_while, s_fo, s_break, s_conti, s_ps, e_var, varK, e_int, e_bl, e_non, e_str, e_ty, e_bin, e_neg, e_cmp, e_chain, e_isN, e_notN, e_and, e_or, e_not, e_ite, e_call, e_callK, prm_some, e_bi, e_tup, e_lst, lstK, tupK, e_ix, e_sl, eo_none, eo_some, in_int, e_mt, e_bits, bt_int, ng_int, e_comp, e_gc, es_nil, es_cons, tg_var, tg_tup, tg_sub, tgs_nil, tgs_cons, it_list, it_tup, it_rng1, it_rng2, it_enum, src_tup, src_fro, src_rng, src_enum, op_add, op_sub, op_mul, op_fdiv, op_mod, op_pow, op_shl, op_shr, op_addt, cm_lt, cm_le, cm_gt, cm_ge, cm_eq, cm_ne, cm_eq_bl, cm_ne_bl, cm_eq_str, cm_ne_str, tr_bl, tr_int, tr_non, ch_bl, cond_dec, cond_not, cond_t, cond_f, cond_ne, au_add, au_sub, b_len_tup, b_int, b_int_bl, b_abs, b_max, b_min, at_some, x_tup, isi_non_int, isi_non_bool, isi_non_str, isi_non_tuple, isi_non_list, isi_non_dict, isi_bl_int, isi_bl_bool, isi_bl_str, isi_bl_tuple, isi_bl_list, isi_bl_dict, isi_int_int, isi_int_bool, isi_int_str, isi_int_tuple, isi_int_list, isi_int_dict, isi_str_int, isi_str_bool, isi_str_str, isi_str_tuple, isi_str_list, isi_str_dict, isi_tup_int, isi_tup_bool, isi_tup_str, isi_tup_tuple, isi_tup_list, isi_tup_dict, isi_fro_int, isi_fro_bool, isi_fro_str, isi_fro_tuple, isi_fro_list, isi_fro_dict, PV.isNon, eq_self, decide_true, Bool.not_true, Bool.not_false, sl_fro, gc_pure, cl_lst, cl_dK, cx_ref, cx_str, cop_add, cb_len, cl_q, cm_append, cm_pop, pop_snoc, cm_extend, csrc, ctg, ixs, gc_ref, gc_ref0, sizeLine_eq, Nat.reduceLeDiff, Int.reduceLT, Int.reduceLE, true_and, and_true, st_new0, st_newk, st_set0, st_setk, List.getElem?_cons_zero, List.getElem?_cons_succ, List.append_assoc, List.cons_append, List.nil_append, List.append_nil, List.length_append, List.length_cons, List.length_nil, Nat.zero_add, Nat.reduceAdd, List.set_cons_zero, List.set_cons_succ, stV, getV0, getVs, setV0, setVs]
      exact ⟨_, by rw [szs_append]; omega, ys, _, _, _, rfl, rfl, hpys, by omega, rfl⟩
    | tup xs =>
      simp only [ss_nil, ss_cons, s_asgv, s_asgt, s_para, s_auga, s_exp, s_retE, s_retNon, s_if, s_while, s_fo, s_break, s_conti, s_ps, e_var, varK, e_int, e_bl, e_non, e_str, e_ty, e_bin, e_neg, e_cmp, e_chain, e_isN, e_notN, e_and, e_or, e_not, e_ite, e_call, e_callK, prm_some, e_bi, e_tup, e_lst, lstK, tupK, e_ix, e_sl, eo_none, eo_some, in_int, e_mt, e_bits, bt_int, ng_int, e_comp, e_gc, es_nil, es_cons, tg_var, tg_tup, tg_sub, tgs_nil, tgs_cons, it_list, it_tup, it_rng1, it_rng2, it_enum, src_tup, src_fro, src_rng, src_enum, op_add, op_sub, op_mul, op_fdiv, op_mod, op_pow, op_shl, op_shr, op_addt, cm_lt, cm_le, cm_gt, cm_ge, cm_eq, cm_ne, cm_eq_bl, cm_ne_bl, cm_eq_str, cm_ne_str, tr_bl, tr_int, tr_non, ch_bl, cond_dec, cond_not, cond_t, cond_f, cond_ne, au_add, au_sub, b_len_tup, b_int, b_int_bl, b_abs, b_max, b_min, at_some, x_tup, isi_non_int, isi_non_bool, isi_non_str, isi_non_tuple, isi_non_list, isi_non_dict, isi_bl_int, isi_bl_bool, isi_bl_str, isi_bl_tuple, isi_bl_list, isi_bl_dict, isi_int_int, isi_int_bool, isi_int_str, isi_int_tuple, isi_int_list, isi_int_dict, isi_str_int, isi_str_bool, isi_str_str, isi_str_tuple, isi_str_list, isi_str_dict, isi_tup_int, isi_tup_bool, isi_tup_str, isi_tup_tuple, isi_tup_list, isi_tup_dict, isi_fro_int, isi_fro_bool, isi_fro_str, isi_fro_tuple, isi_fro_list, isi_fro_dict, PV.isNon, eq_self, decide_true, Bool.not_true, Bool.not_false, sl_fro, gc_pure, cl_lst, cl_dK, cx_ref, cx_str, cop_add, cb_len, cl_q, cm_append, cm_pop, pop_snoc, cm_extend, csrc, ctg, ixs, gc_ref, gc_ref0, sizeLine_eq, Nat.reduceLeDiff, Int.reduceLT, Int.reduceLE, true_and, and_true, st_new0, st_newk, st_set0, st_setk, List.getElem?_cons_zero, List.getElem?_cons_succ, List.append_assoc, List.cons_append, List.nil_append, List.append_nil, List.length_append, List.length_cons, List.length_nil, Nat.zero_add, Nat.reduceAdd, List.set_cons_zero, List.set_cons_succ, stV, getV0, getVs, setV0, setVs]
      have hxs : PV.plains xs = true := by rw [PV.plain] at hpy; exact hpy
      have hsx : PV.szs [PV.tup xs] = 1 + PV.szs xs := by rw [szs_one, PV.sz]
      have hlx := szs_len (xs := xs)
      have hly := szs_len (xs := ys)
      refine ⟨⟨by omega, by omega⟩, ?_⟩
      have hn : ((xs.length : Int) - 0).toNat = xs.length := by omega
      rw [hn]
      refine cmp_rule (fun i acc B => B = ⟨M ++ [.lst (twin ys)]⟩ ∧ acc = twin (xs.take i)) ⟨rfl, rfl⟩ (fun _ _ _ _ _ => rfl) ?_ ?_
      · rintro i v acc M' hv ⟨eM, rfl⟩
        cases eM
        obtain ⟨rfl, hi⟩ := rng_get hv
        simp only [wipeVs, wipeV]
        have hg : atI xs ((0 : Int) + (i : Int)) = some xs[i] := by rw [Int.zero_add]; exact at_nat hi
        simp only [ss_nil, ss_cons, s_asgv, s_asgt, s_para, s_auga, s_exp, s_retE, s_retNon, s_if, s_while, s_fo, s_break, s_conti, s_ps, e_var, varK, e_int, e_bl, e_non, e_str, e_ty, e_bin, e_neg, e_cmp, e_chain, e_isN, e_notN, e_and, e_or, e_not, e_ite, e_call, e_callK, prm_some, e_bi, e_tup, e_lst, lstK, tupK, e_ix, e_sl, eo_none, eo_some, in_int, e_mt, e_bits, bt_int, ng_int, e_comp, e_gc, es_nil, es_cons, tg_var, tg_tup, tg_sub, tgs_nil, tgs_cons, it_list, it_tup, it_rng1, it_rng2, it_enum, src_tup, src_fro, src_rng, src_enum, op_add, op_sub, op_mul, op_fdiv, op_mod, op_pow, op_shl, op_shr, op_addt, cm_lt, cm_le, cm_gt, cm_ge, cm_eq, cm_ne, cm_eq_bl, cm_ne_bl, cm_eq_str, cm_ne_str, tr_bl, tr_int, tr_non, ch_bl, cond_dec, cond_not, cond_t, cond_f, cond_ne, au_add, au_sub, b_len_tup, b_int, b_int_bl, b_abs, b_max, b_min, at_some, x_tup, isi_non_int, isi_non_bool, isi_non_str, isi_non_tuple, isi_non_list, isi_non_dict, isi_bl_int, isi_bl_bool, isi_bl_str, isi_bl_tuple, isi_bl_list, isi_bl_dict, isi_int_int, isi_int_bool, isi_int_str, isi_int_tuple, isi_int_list, isi_int_dict, isi_str_int, isi_str_bool, isi_str_str, isi_str_tuple, isi_str_list, isi_str_dict, isi_tup_int, isi_tup_bool, isi_tup_str, isi_tup_tuple, isi_tup_list, isi_tup_dict, isi_fro_int, isi_fro_bool, isi_fro_str, isi_fro_tuple, isi_fro_list, isi_fro_dict, PV.isNon, eq_self, decide_true, Bool.not_true, Bool.not_false, sl_fro, gc_pure, cl_lst, cl_dK, cx_ref, cx_str, cop_add, cb_len, cl_q, cm_append, cm_pop, pop_snoc, cm_extend, csrc, ctg, ixs, gc_ref, gc_ref0, sizeLine_eq, Nat.reduceLeDiff, Int.reduceLT, Int.reduceLE, true_and, and_true, st_new0, st_newk, st_set0, st_setk, List.getElem?_cons_zero, List.getElem?_cons_succ, List.append_assoc, List.cons_append, List.nil_append, List.append_nil, List.length_append, List.length_cons, List.length_nil, Nat.zero_add, Nat.reduceAdd, List.set_cons_zero, List.set_cons_succ, stV, getV0, getVs, setV0, setVs, hg, wipeVs, wipeV]
        refine ⟨?_, ?_⟩
        · rw [twin_len, List.length_take]
          omega
        · exact (twin_get (by simp [hi])).symm
      · rintro acc M' ⟨eM, rfl⟩
        cases eM
        dsimp only
        rw [rng_len, List.take_length]
        simp only [ss_nil, ss_cons, s_asgv, s_asgt, s_para, s_auga, s_exp, s_retE, s_retNon, s_if, s_while, s_fo, s_break, s_conti, s_ps, e_var, varK, e_int, e_bl, e_non, e_str, e_ty, e_bin, e_neg, e_cmp, e_chain, e_isN, e_notN, e_and, e_or, e_not, e_ite, e_call, e_callK, prm_some, e_bi, e_tup, e_lst, lstK, tupK, e_ix, e_sl, eo_none, eo_some, in_int, e_mt, e_bits, bt_int, ng_int, e_comp, e_gc, es_nil, es_cons, tg_var, tg_tup, tg_sub, tgs_nil, tgs_cons, it_list, it_tup, it_rng1, it_rng2, it_enum, src_tup, src_fro, src_rng, src_enum, op_add, op_sub, op_mul, op_fdiv, op_mod, op_pow, op_shl, op_shr, op_addt, cm_lt, cm_le, cm_gt, cm_ge, cm_eq, cm_ne, cm_eq_bl, cm_ne_bl, cm_eq_str, cm_ne_str, tr_bl, tr_int, tr_non, ch_bl, cond_dec, cond_not, cond_t, cond_f, cond_ne, au_add, au_sub, b_len_tup, b_int, b_int_bl, b_abs, b_max, b_min, at_some, x_tup, isi_non_int, isi_non_bool, isi_non_str, isi_non_tuple, isi_non_list, isi_non_dict, isi_bl_int, isi_bl_bool, isi_bl_str, isi_bl_tuple, isi_bl_list, isi_bl_dict, isi_int_int, isi_int_bool, isi_int_str, isi_int_tuple, isi_int_list, isi_int_dict, isi_str_int, isi_str_bool, isi_str_str, isi_str_tuple, isi_str_list, isi_str_dict, isi_tup_int, isi_tup_bool, isi_tup_str, isi_tup_tuple, isi_tup_list, isi_tup_dict, isi_fro_int, isi_fro_bool, isi_fro_str, isi_fro_tuple, isi_fro_list, isi_fro_dict, PV.isNon, eq_self, decide_true, Bool.not_true, Bool.not_false, sl_fro, gc_pure, cl_lst, cl_dK, cx_ref, cx_str, cop_add, cb_len, cl_q, cm_append, cm_pop, pop_snoc, cm_extend, csrc, ctg, ixs, gc_ref, gc_ref0, sizeLine_eq, Nat.reduceLeDiff, Int.reduceLT, Int.reduceLE, true_and, and_true, st_new0, st_newk, st_set0, st_setk, List.getElem?_cons_zero, List.getElem?_cons_succ, List.append_assoc, List.cons_append, List.nil_append, List.append_nil, List.length_append, List.length_cons, List.length_nil, Nat.zero_add, Nat.reduceAdd, List.set_cons_zero, List.set_cons_succ, stV, getV0, getVs, setV0, setVs]
        refine ⟨by rw [twin_len, twin_len]; omega, ?_⟩
        rw [gc_chg (by simp [PV.low]) (by rw [← twin_append]; exact twin_low (plains_app hpys hxs))]
        simp only [ss_nil, ss_cons, s_asgv, s_asgt, s_para, s_auga, s_exp, s_retE, s_retNon, s_if, s_while, s_fo, s_break, s_conti, s_ps, e_var, varK, e_int, e_bl, e_non, e_str, e_ty, e_bin, e_neg, e_cmp, e_chain, e_isN, e_notN, e_and, e_or, e_not, e_ite, e_call, e_callK, prm_some, e_bi, e_tup, e_lst, lstK, tupK, e_ix, e_sl, eo_none, eo_some, in_int, e_mt, e_bits, bt_int, ng_int, e_comp, e_gc, es_nil, es_cons, tg_var, tg_tup, tg_sub, tgs_nil, tgs_cons, it_list, it_tup, it_rng1, it_rng2, it_enum, src_tup, src_fro, src_rng, src_enum, op_add, op_sub, op_mul, op_fdiv, op_mod, op_pow, op_shl, op_shr, op_addt, cm_lt, cm_le, cm_gt, cm_ge, cm_eq, cm_ne, cm_eq_bl, cm_ne_bl, cm_eq_str, cm_ne_str, tr_bl, tr_int, tr_non, ch_bl, cond_dec, cond_not, cond_t, cond_f, cond_ne, au_add, au_sub, b_len_tup, b_int, b_int_bl, b_abs, b_max, b_min, at_some, x_tup, isi_non_int, isi_non_bool, isi_non_str, isi_non_tuple, isi_non_list, isi_non_dict, isi_bl_int, isi_bl_bool, isi_bl_str, isi_bl_tuple, isi_bl_list, isi_bl_dict, isi_int_int, isi_int_bool, isi_int_str, isi_int_tuple, isi_int_list, isi_int_dict, isi_str_int, isi_str_bool, isi_str_str, isi_str_tuple, isi_str_list, isi_str_dict, isi_tup_int, isi_tup_bool, isi_tup_str, isi_tup_tuple, isi_tup_list, isi_tup_dict, isi_fro_int, isi_fro_bool, isi_fro_str, isi_fro_tuple, isi_fro_list, isi_fro_dict, PV.isNon, eq_self, decide_true, Bool.not_true, Bool.not_false, sl_fro, gc_pure, cl_lst, cl_dK, cx_ref, cx_str, cop_add, cb_len, cl_q, cm_append, cm_pop, pop_snoc, cm_extend, csrc, ctg, ixs, gc_ref, gc_ref0, sizeLine_eq, Nat.reduceLeDiff, Int.reduceLT, Int.reduceLE, true_and, and_true, st_new0, st_newk, st_set0, st_setk, List.getElem?_cons_zero, List.getElem?_cons_succ, List.append_assoc, List.cons_append, List.nil_append, List.append_nil, List.length_append, List.length_cons, List.length_nil, Nat.zero_add, Nat.reduceAdd, List.set_cons_zero, List.set_cons_succ, stV, getV0, getVs, setV0, setVs]
        exact ⟨PV.szs ys + PV.szs xs, by rw [szs_append]; omega, ys ++ xs, _, _, _, rfl, by rw [twin_append], plains_app hpys hxs, by rw [szs_append]; omega, by rw [szs_append]⟩
end Q

namespace Q
open PySem PySem.Spec PyProof.Rows L2
theorem law_rooted_do {T : Nat → Option QF} (h0 : T 0 = some q_whole_root) (h1 : T 1 = some q_is_square) (h4 : T 4 = some q_law_draw) (h5 : T 5 = some q_law_same) (h8 : T 8 = some q_law_beside) (h9 : T 9 = some q_law_rooted) {n : Nat} {M : Store} {p d : Nat} {r : Int} (hd : Dice p d M) (hr : 2 ≤ r) (hb : r.natAbs < 2 ^ 8400) :
    Does T (n + 3) 9 [.ref d, .int r] M fun v M' => v = .bl true ∧ Evo p d M M' := by
  refine does_of h9 rfl rfl ?_
  simp only [ss_nil, ss_cons, s_asgv, s_asgt, s_para, s_auga, s_exp, s_retE, s_retNon, s_if, s_while, s_fo, s_break, s_conti, s_ps, e_var, varK, e_int, e_bl, e_non, e_str, e_ty, e_bin, e_neg, e_cmp, e_chain, e_isN, e_notN, e_and, e_or, e_not, e_ite, e_call, e_callK, prm_some, e_bi, e_tup, e_lst, lstK, tupK, e_ix, e_sl, eo_none, eo_some, in_int, e_mt, e_bits, bt_int, ng_int, e_comp, e_gc, es_nil, es_cons, tg_var, tg_tup, tg_sub, tgs_nil, tgs_cons, it_list, it_tup, it_rng1, it_rng2, it_enum, src_tup, src_fro, src_rng, src_enum, op_add, op_sub, op_mul, op_fdiv, op_mod, op_pow, op_shl, op_shr, op_addt, cm_lt, cm_le, cm_gt, cm_ge, cm_eq, cm_ne, cm_eq_bl, cm_ne_bl, cm_eq_str, cm_ne_str, tr_bl, tr_int, tr_non, ch_bl, cond_dec, cond_not, cond_t, cond_f, cond_ne, au_add, au_sub, b_len_tup, b_int, b_int_bl, b_abs, b_max, b_min, at_some, x_tup, isi_non_int, isi_non_bool, isi_non_str, isi_non_tuple, isi_non_list, isi_non_dict, isi_bl_int, isi_bl_bool, isi_bl_str, isi_bl_tuple, isi_bl_list, isi_bl_dict, isi_int_int, isi_int_bool, isi_int_str, isi_int_tuple, isi_int_list, isi_int_dict, isi_str_int, isi_str_bool, isi_str_str, isi_str_tuple, isi_str_list, isi_str_dict, isi_tup_int, isi_tup_bool, isi_tup_str, isi_tup_tuple, isi_tup_list, isi_tup_dict, isi_fro_int, isi_fro_bool, isi_fro_str, isi_fro_tuple, isi_fro_list, isi_fro_dict, PV.isNon, eq_self, decide_true, Bool.not_true, Bool.not_false, sl_fro, gc_pure, cl_lst, cl_dK, cx_ref, cx_str, cop_add, cb_len, cl_q, cm_append, cm_pop, pop_snoc, cm_extend, csrc, ctg, ixs, gc_ref, gc_ref0, sizeLine_eq, Nat.reduceLeDiff, Int.reduceLT, Int.reduceLE, true_and, and_true, st_new0, st_newk, st_set0, st_setk, List.getElem?_cons_zero, List.getElem?_cons_succ, List.append_assoc, List.cons_append, List.nil_append, List.append_nil, List.length_append, List.length_cons, List.length_nil, Nat.zero_add, Nat.reduceAdd, List.set_cons_zero, List.set_cons_succ, stV, getV0, getVs, setV0, setVs, q_law_rooted]
  refine cl_of (law_beside_do h8 hr hb) ?_
  rintro v M1 ⟨c0, c1, rows, rfl, rfl, hl, hrow⟩
  simp only [ss_nil, ss_cons, s_asgv, s_asgt, s_para, s_auga, s_exp, s_retE, s_retNon, s_if, s_while, s_fo, s_break, s_conti, s_ps, e_var, varK, e_int, e_bl, e_non, e_str, e_ty, e_bin, e_neg, e_cmp, e_chain, e_isN, e_notN, e_and, e_or, e_not, e_ite, e_call, e_callK, prm_some, e_bi, e_tup, e_lst, lstK, tupK, e_ix, e_sl, eo_none, eo_some, in_int, e_mt, e_bits, bt_int, ng_int, e_comp, e_gc, es_nil, es_cons, tg_var, tg_tup, tg_sub, tgs_nil, tgs_cons, it_list, it_tup, it_rng1, it_rng2, it_enum, src_tup, src_fro, src_rng, src_enum, op_add, op_sub, op_mul, op_fdiv, op_mod, op_pow, op_shl, op_shr, op_addt, cm_lt, cm_le, cm_gt, cm_ge, cm_eq, cm_ne, cm_eq_bl, cm_ne_bl, cm_eq_str, cm_ne_str, tr_bl, tr_int, tr_non, ch_bl, cond_dec, cond_not, cond_t, cond_f, cond_ne, au_add, au_sub, b_len_tup, b_int, b_int_bl, b_abs, b_max, b_min, at_some, x_tup, isi_non_int, isi_non_bool, isi_non_str, isi_non_tuple, isi_non_list, isi_non_dict, isi_bl_int, isi_bl_bool, isi_bl_str, isi_bl_tuple, isi_bl_list, isi_bl_dict, isi_int_int, isi_int_bool, isi_int_str, isi_int_tuple, isi_int_list, isi_int_dict, isi_str_int, isi_str_bool, isi_str_str, isi_str_tuple, isi_str_list, isi_str_dict, isi_tup_int, isi_tup_bool, isi_tup_str, isi_tup_tuple, isi_tup_list, isi_tup_dict, isi_fro_int, isi_fro_bool, isi_fro_str, isi_fro_tuple, isi_fro_list, isi_fro_dict, PV.isNon, eq_self, decide_true, Bool.not_true, Bool.not_false, sl_fro, gc_pure, cl_lst, cl_dK, cx_ref, cx_str, cop_add, cb_len, cl_q, cm_append, cm_pop, pop_snoc, cm_extend, csrc, ctg, ixs, gc_ref, gc_ref0, sizeLine_eq, Nat.reduceLeDiff, Int.reduceLT, Int.reduceLE, true_and, and_true, st_new0, st_newk, st_set0, st_setk, List.getElem?_cons_zero, List.getElem?_cons_succ, List.append_assoc, List.cons_append, List.nil_append, List.append_nil, List.length_append, List.length_cons, List.length_nil, Nat.zero_add, Nat.reduceAdd, List.set_cons_zero, List.set_cons_succ, stV, getV0, getVs, setV0, setVs]
  refine cl_of (law_draw_do h4 (hd.app _) (by decide)) ?_
  rintro v M2 ⟨z, rfl, hz0, hz1, ev⟩
  obtain ⟨M3, rfl, ev'⟩ := ev.split hd
  simp only [ss_nil, ss_cons, s_asgv, s_asgt, s_para, s_auga, s_exp, s_retE, s_retNon, s_if, s_while, s_fo, s_break, s_conti, s_ps, e_var, varK, e_int, e_bl, e_non, e_str, e_ty, e_bin, e_neg, e_cmp, e_chain, e_isN, e_notN, e_and, e_or, e_not, e_ite, e_call, e_callK, prm_some, e_bi, e_tup, e_lst, lstK, tupK, e_ix, e_sl, eo_none, eo_some, in_int, e_mt, e_bits, bt_int, ng_int, e_comp, e_gc, es_nil, es_cons, tg_var, tg_tup, tg_sub, tgs_nil, tgs_cons, it_list, it_tup, it_rng1, it_rng2, it_enum, src_tup, src_fro, src_rng, src_enum, op_add, op_sub, op_mul, op_fdiv, op_mod, op_pow, op_shl, op_shr, op_addt, cm_lt, cm_le, cm_gt, cm_ge, cm_eq, cm_ne, cm_eq_bl, cm_ne_bl, cm_eq_str, cm_ne_str, tr_bl, tr_int, tr_non, ch_bl, cond_dec, cond_not, cond_t, cond_f, cond_ne, au_add, au_sub, b_len_tup, b_int, b_int_bl, b_abs, b_max, b_min, at_some, x_tup, isi_non_int, isi_non_bool, isi_non_str, isi_non_tuple, isi_non_list, isi_non_dict, isi_bl_int, isi_bl_bool, isi_bl_str, isi_bl_tuple, isi_bl_list, isi_bl_dict, isi_int_int, isi_int_bool, isi_int_str, isi_int_tuple, isi_int_list, isi_int_dict, isi_str_int, isi_str_bool, isi_str_str, isi_str_tuple, isi_str_list, isi_str_dict, isi_tup_int, isi_tup_bool, isi_tup_str, isi_tup_tuple, isi_tup_list, isi_tup_dict, isi_fro_int, isi_fro_bool, isi_fro_str, isi_fro_tuple, isi_fro_list, isi_fro_dict, PV.isNon, eq_self, decide_true, Bool.not_true, Bool.not_false, sl_fro, gc_pure, cl_lst, cl_dK, cx_ref, cx_str, cop_add, cb_len, cl_q, cm_append, cm_pop, pop_snoc, cm_extend, csrc, ctg, ixs, gc_ref, gc_ref0, sizeLine_eq, Nat.reduceLeDiff, Int.reduceLT, Int.reduceLE, true_and, and_true, st_new0, st_newk, st_set0, st_setk, List.getElem?_cons_zero, List.getElem?_cons_succ, List.append_assoc, List.cons_append, List.nil_append, List.append_nil, List.length_append, List.length_cons, List.length_nil, Nat.zero_add, Nat.reduceAdd, List.set_cons_zero, List.set_cons_succ, stV, getV0, getVs, setV0, setVs]
  have hlen := ev'.len
  refine fo_rule (fun i e B => ∃ (o4 o5 o6 o7 : Option PV), e = [some (.ref d), some (.int r), some (.ref (M.length + 2)), some (.int z), o4, o5, o6, o7] ∧ B = ⟨M3 ++ [c0, c1, .lst rows]⟩) ⟨_, _, _, _, rfl, rfl⟩ (fun _ _ _ _ _ => rfl) ?_ ?_
  · rintro i x e M' hx ⟨o4, o5, o6, o7, rfl, eM⟩
    cases eM
    obtain ⟨rfl, hi⟩ := rng_get hx
    rw [← hlen]
    simp only [ss_nil, ss_cons, s_asgv, s_asgt, s_para, s_auga, s_exp, s_retE, s_retNon, s_if, s_while, s_fo, s_break, s_conti, s_ps, e_var, varK, e_int, e_bl, e_non, e_str, e_ty, e_bin, e_neg, e_cmp, e_chain, e_isN, e_notN, e_and, e_or, e_not, e_ite, e_call, e_callK, prm_some, e_bi, e_tup, e_lst, lstK, tupK, e_ix, e_sl, eo_none, eo_some, in_int, e_mt, e_bits, bt_int, ng_int, e_comp, e_gc, es_nil, es_cons, tg_var, tg_tup, tg_sub, tgs_nil, tgs_cons, it_list, it_tup, it_rng1, it_rng2, it_enum, src_tup, src_fro, src_rng, src_enum, op_add, op_sub, op_mul, op_fdiv, op_mod, op_pow, op_shl, op_shr, op_addt, cm_lt, cm_le, cm_gt, cm_ge, cm_eq, cm_ne, cm_eq_bl, cm_ne_bl, cm_eq_str, cm_ne_str, tr_bl, tr_int, tr_non, ch_bl, cond_dec, cond_not, cond_t, cond_f, cond_ne, au_add, au_sub, b_len_tup, b_int, b_int_bl, b_abs, b_max, b_min, at_some, x_tup, isi_non_int, isi_non_bool, isi_non_str, isi_non_tuple, isi_non_list, isi_non_dict, isi_bl_int, isi_bl_bool, isi_bl_str, isi_bl_tuple, isi_bl_list, isi_bl_dict, isi_int_int, isi_int_bool, isi_int_str, isi_int_tuple, isi_int_list, isi_int_dict, isi_str_int, isi_str_bool, isi_str_str, isi_str_tuple, isi_str_list, isi_str_dict, isi_tup_int, isi_tup_bool, isi_tup_str, isi_tup_tuple, isi_tup_list, isi_tup_dict, isi_fro_int, isi_fro_bool, isi_fro_str, isi_fro_tuple, isi_fro_list, isi_fro_dict, PV.isNon, eq_self, decide_true, Bool.not_true, Bool.not_false, sl_fro, gc_pure, cl_lst, cl_dK, cx_ref, cx_str, cop_add, cb_len, cl_q, cm_append, cm_pop, pop_snoc, cm_extend, csrc, ctg, ixs, gc_ref, gc_ref0, sizeLine_eq, Nat.reduceLeDiff, Int.reduceLT, Int.reduceLE, true_and, and_true, st_new0, st_newk, st_set0, st_setk, List.getElem?_cons_zero, List.getElem?_cons_succ, List.append_assoc, List.cons_append, List.nil_append, List.append_nil, List.length_append, List.length_cons, List.length_nil, Nat.zero_add, Nat.reduceAdd, List.set_cons_zero, List.set_cons_succ, stV, getV0, getVs, setV0, setVs, q_law_rooted_f1]
    have hi2 : i < 2 := hi
    have e0 : (0 : Int) ≤ (z + 2 * (0 + (i : Int))) % 5 := Int.emod_nonneg _ (by decide)
    have e1 : (z + 2 * (0 + (i : Int))) % 5 < 5 := Int.emod_lt_of_pos _ (by decide)
    obtain ⟨v, hv, hm⟩ := at_in (xs := rows) e0 (by rw [hl]; exact e1)
    obtain ⟨x, rt, b, rfl, hroot, rfl, hx0, hxs⟩ := hrow _ hm
    simp only [ss_nil, ss_cons, s_asgv, s_asgt, s_para, s_auga, s_exp, s_retE, s_retNon, s_if, s_while, s_fo, s_break, s_conti, s_ps, e_var, varK, e_int, e_bl, e_non, e_str, e_ty, e_bin, e_neg, e_cmp, e_chain, e_isN, e_notN, e_and, e_or, e_not, e_ite, e_call, e_callK, prm_some, e_bi, e_tup, e_lst, lstK, tupK, e_ix, e_sl, eo_none, eo_some, in_int, e_mt, e_bits, bt_int, ng_int, e_comp, e_gc, es_nil, es_cons, tg_var, tg_tup, tg_sub, tgs_nil, tgs_cons, it_list, it_tup, it_rng1, it_rng2, it_enum, src_tup, src_fro, src_rng, src_enum, op_add, op_sub, op_mul, op_fdiv, op_mod, op_pow, op_shl, op_shr, op_addt, cm_lt, cm_le, cm_gt, cm_ge, cm_eq, cm_ne, cm_eq_bl, cm_ne_bl, cm_eq_str, cm_ne_str, tr_bl, tr_int, tr_non, ch_bl, cond_dec, cond_not, cond_t, cond_f, cond_ne, au_add, au_sub, b_len_tup, b_int, b_int_bl, b_abs, b_max, b_min, at_some, x_tup, isi_non_int, isi_non_bool, isi_non_str, isi_non_tuple, isi_non_list, isi_non_dict, isi_bl_int, isi_bl_bool, isi_bl_str, isi_bl_tuple, isi_bl_list, isi_bl_dict, isi_int_int, isi_int_bool, isi_int_str, isi_int_tuple, isi_int_list, isi_int_dict, isi_str_int, isi_str_bool, isi_str_str, isi_str_tuple, isi_str_list, isi_str_dict, isi_tup_int, isi_tup_bool, isi_tup_str, isi_tup_tuple, isi_tup_list, isi_tup_dict, isi_fro_int, isi_fro_bool, isi_fro_str, isi_fro_tuple, isi_fro_list, isi_fro_dict, PV.isNon, eq_self, decide_true, Bool.not_true, Bool.not_false, sl_fro, gc_pure, cl_lst, cl_dK, cx_ref, cx_str, cop_add, cb_len, cl_q, cm_append, cm_pop, pop_snoc, cm_extend, csrc, ctg, ixs, gc_ref, gc_ref0, sizeLine_eq, Nat.reduceLeDiff, Int.reduceLT, Int.reduceLE, true_and, and_true, st_new0, st_newk, st_set0, st_setk, List.getElem?_cons_zero, List.getElem?_cons_succ, List.append_assoc, List.cons_append, List.nil_append, List.append_nil, List.length_append, List.length_cons, List.length_nil, Nat.zero_add, Nat.reduceAdd, List.set_cons_zero, List.set_cons_succ, stV, getV0, getVs, setV0, setVs, hv]
    refine ⟨cmul (a := 2) (b := 3) (by decide) (by omega) (by decide), ?_⟩
    refine cl_of (whole_root_do h0 hx0 hxs) ?_
    rintro v M4 ⟨rfl, r1, rfl, hr1⟩
    simp only [ss_nil, ss_cons, s_asgv, s_asgt, s_para, s_auga, s_exp, s_retE, s_retNon, s_if, s_while, s_fo, s_break, s_conti, s_ps, e_var, varK, e_int, e_bl, e_non, e_str, e_ty, e_bin, e_neg, e_cmp, e_chain, e_isN, e_notN, e_and, e_or, e_not, e_ite, e_call, e_callK, prm_some, e_bi, e_tup, e_lst, lstK, tupK, e_ix, e_sl, eo_none, eo_some, in_int, e_mt, e_bits, bt_int, ng_int, e_comp, e_gc, es_nil, es_cons, tg_var, tg_tup, tg_sub, tgs_nil, tgs_cons, it_list, it_tup, it_rng1, it_rng2, it_enum, src_tup, src_fro, src_rng, src_enum, op_add, op_sub, op_mul, op_fdiv, op_mod, op_pow, op_shl, op_shr, op_addt, cm_lt, cm_le, cm_gt, cm_ge, cm_eq, cm_ne, cm_eq_bl, cm_ne_bl, cm_eq_str, cm_ne_str, tr_bl, tr_int, tr_non, ch_bl, cond_dec, cond_not, cond_t, cond_f, cond_ne, au_add, au_sub, b_len_tup, b_int, b_int_bl, b_abs, b_max, b_min, at_some, x_tup, isi_non_int, isi_non_bool, isi_non_str, isi_non_tuple, isi_non_list, isi_non_dict, isi_bl_int, isi_bl_bool, isi_bl_str, isi_bl_tuple, isi_bl_list, isi_bl_dict, isi_int_int, isi_int_bool, isi_int_str, isi_int_tuple, isi_int_list, isi_int_dict, isi_str_int, isi_str_bool, isi_str_str, isi_str_tuple, isi_str_list, isi_str_dict, isi_tup_int, isi_tup_bool, isi_tup_str, isi_tup_tuple, isi_tup_list, isi_tup_dict, isi_fro_int, isi_fro_bool, isi_fro_str, isi_fro_tuple, isi_fro_list, isi_fro_dict, PV.isNon, eq_self, decide_true, Bool.not_true, Bool.not_false, sl_fro, gc_pure, cl_lst, cl_dK, cx_ref, cx_str, cop_add, cb_len, cl_q, cm_append, cm_pop, pop_snoc, cm_extend, csrc, ctg, ixs, gc_ref, gc_ref0, sizeLine_eq, Nat.reduceLeDiff, Int.reduceLT, Int.reduceLE, true_and, and_true, st_new0, st_newk, st_set0, st_setk, List.getElem?_cons_zero, List.getElem?_cons_succ, List.append_assoc, List.cons_append, List.nil_append, List.append_nil, List.length_append, List.length_cons, List.length_nil, Nat.zero_add, Nat.reduceAdd, List.set_cons_zero, List.set_cons_succ, stV, getV0, getVs, setV0, setVs]
    refine cl_of (is_square_do h0 h1 hx0 hxs) ?_
    rintro v M4 ⟨rfl, r2, rfl, hr2⟩
    have e1 := hr1.uniq hroot
    have e2 := hr2.uniq hroot
    subst e1
    subst e2
    simp only [ss_nil, ss_cons, s_asgv, s_asgt, s_para, s_auga, s_exp, s_retE, s_retNon, s_if, s_while, s_fo, s_break, s_conti, s_ps, e_var, varK, e_int, e_bl, e_non, e_str, e_ty, e_bin, e_neg, e_cmp, e_chain, e_isN, e_notN, e_and, e_or, e_not, e_ite, e_call, e_callK, prm_some, e_bi, e_tup, e_lst, lstK, tupK, e_ix, e_sl, eo_none, eo_some, in_int, e_mt, e_bits, bt_int, ng_int, e_comp, e_gc, es_nil, es_cons, tg_var, tg_tup, tg_sub, tgs_nil, tgs_cons, it_list, it_tup, it_rng1, it_rng2, it_enum, src_tup, src_fro, src_rng, src_enum, op_add, op_sub, op_mul, op_fdiv, op_mod, op_pow, op_shl, op_shr, op_addt, cm_lt, cm_le, cm_gt, cm_ge, cm_eq, cm_ne, cm_eq_bl, cm_ne_bl, cm_eq_str, cm_ne_str, tr_bl, tr_int, tr_non, ch_bl, cond_dec, cond_not, cond_t, cond_f, cond_ne, au_add, au_sub, b_len_tup, b_int, b_int_bl, b_abs, b_max, b_min, at_some, x_tup, isi_non_int, isi_non_bool, isi_non_str, isi_non_tuple, isi_non_list, isi_non_dict, isi_bl_int, isi_bl_bool, isi_bl_str, isi_bl_tuple, isi_bl_list, isi_bl_dict, isi_int_int, isi_int_bool, isi_int_str, isi_int_tuple, isi_int_list, isi_int_dict, isi_str_int, isi_str_bool, isi_str_str, isi_str_tuple, isi_str_list, isi_str_dict, isi_tup_int, isi_tup_bool, isi_tup_str, isi_tup_tuple, isi_tup_list, isi_tup_dict, isi_fro_int, isi_fro_bool, isi_fro_str, isi_fro_tuple, isi_fro_list, isi_fro_dict, PV.isNon, eq_self, decide_true, Bool.not_true, Bool.not_false, sl_fro, gc_pure, cl_lst, cl_dK, cx_ref, cx_str, cop_add, cb_len, cl_q, cm_append, cm_pop, pop_snoc, cm_extend, csrc, ctg, ixs, gc_ref, gc_ref0, sizeLine_eq, Nat.reduceLeDiff, Int.reduceLT, Int.reduceLE, true_and, and_true, st_new0, st_newk, st_set0, st_setk, List.getElem?_cons_zero, List.getElem?_cons_succ, List.append_assoc, List.cons_append, List.nil_append, List.append_nil, List.length_append, List.length_cons, List.length_nil, Nat.zero_add, Nat.reduceAdd, List.set_cons_zero, List.set_cons_succ, stV, getV0, getVs, setV0, setVs]
    refine cl_of (law_same_do h5 (by simp [PV.plain, PV.plains]) (by simp [PV.sz, PV.szs])) ?_
    rintro v M4 ⟨rfl, rfl⟩
    simp only [ss_nil, ss_cons, s_asgv, s_asgt, s_para, s_auga, s_exp, s_retE, s_retNon, s_if, s_while, s_fo, s_break, s_conti, s_ps, e_var, varK, e_int, e_bl, e_non, e_str, e_ty, e_bin, e_neg, e_cmp, e_chain, e_isN, e_notN, e_and, e_or, e_not, e_ite, e_call, e_callK, prm_some, e_bi, e_tup, e_lst, lstK, tupK, e_ix, e_sl, eo_none, eo_some, in_int, e_mt, e_bits, bt_int, ng_int, e_comp, e_gc, es_nil, es_cons, tg_var, tg_tup, tg_sub, tgs_nil, tgs_cons, it_list, it_tup, it_rng1, it_rng2, it_enum, src_tup, src_fro, src_rng, src_enum, op_add, op_sub, op_mul, op_fdiv, op_mod, op_pow, op_shl, op_shr, op_addt, cm_lt, cm_le, cm_gt, cm_ge, cm_eq, cm_ne, cm_eq_bl, cm_ne_bl, cm_eq_str, cm_ne_str, tr_bl, tr_int, tr_non, ch_bl, cond_dec, cond_not, cond_t, cond_f, cond_ne, au_add, au_sub, b_len_tup, b_int, b_int_bl, b_abs, b_max, b_min, at_some, x_tup, isi_non_int, isi_non_bool, isi_non_str, isi_non_tuple, isi_non_list, isi_non_dict, isi_bl_int, isi_bl_bool, isi_bl_str, isi_bl_tuple, isi_bl_list, isi_bl_dict, isi_int_int, isi_int_bool, isi_int_str, isi_int_tuple, isi_int_list, isi_int_dict, isi_str_int, isi_str_bool, isi_str_str, isi_str_tuple, isi_str_list, isi_str_dict, isi_tup_int, isi_tup_bool, isi_tup_str, isi_tup_tuple, isi_tup_list, isi_tup_dict, isi_fro_int, isi_fro_bool, isi_fro_str, isi_fro_tuple, isi_fro_list, isi_fro_dict, PV.isNon, eq_self, decide_true, Bool.not_true, Bool.not_false, sl_fro, gc_pure, cl_lst, cl_dK, cx_ref, cx_str, cop_add, cb_len, cl_q, cm_append, cm_pop, pop_snoc, cm_extend, csrc, ctg, ixs, gc_ref, gc_ref0, sizeLine_eq, Nat.reduceLeDiff, Int.reduceLT, Int.reduceLE, true_and, and_true, st_new0, st_newk, st_set0, st_setk, List.getElem?_cons_zero, List.getElem?_cons_succ, List.append_assoc, List.cons_append, List.nil_append, List.append_nil, List.length_append, List.length_cons, List.length_nil, Nat.zero_add, Nat.reduceAdd, List.set_cons_zero, List.set_cons_succ, stV, getV0, getVs, setV0, setVs]
    exact ⟨_, _, _, _, rfl⟩
  · rintro e M' ⟨o4, o5, o6, o7, rfl, eM⟩
    cases eM
    simp only [ss_nil, ss_cons, s_asgv, s_asgt, s_para, s_auga, s_exp, s_retE, s_retNon, s_if, s_while, s_fo, s_break, s_conti, s_ps, e_var, varK, e_int, e_bl, e_non, e_str, e_ty, e_bin, e_neg, e_cmp, e_chain, e_isN, e_notN, e_and, e_or, e_not, e_ite, e_call, e_callK, prm_some, e_bi, e_tup, e_lst, lstK, tupK, e_ix, e_sl, eo_none, eo_some, in_int, e_mt, e_bits, bt_int, ng_int, e_comp, e_gc, es_nil, es_cons, tg_var, tg_tup, tg_sub, tgs_nil, tgs_cons, it_list, it_tup, it_rng1, it_rng2, it_enum, src_tup, src_fro, src_rng, src_enum, op_add, op_sub, op_mul, op_fdiv, op_mod, op_pow, op_shl, op_shr, op_addt, cm_lt, cm_le, cm_gt, cm_ge, cm_eq, cm_ne, cm_eq_bl, cm_ne_bl, cm_eq_str, cm_ne_str, tr_bl, tr_int, tr_non, ch_bl, cond_dec, cond_not, cond_t, cond_f, cond_ne, au_add, au_sub, b_len_tup, b_int, b_int_bl, b_abs, b_max, b_min, at_some, x_tup, isi_non_int, isi_non_bool, isi_non_str, isi_non_tuple, isi_non_list, isi_non_dict, isi_bl_int, isi_bl_bool, isi_bl_str, isi_bl_tuple, isi_bl_list, isi_bl_dict, isi_int_int, isi_int_bool, isi_int_str, isi_int_tuple, isi_int_list, isi_int_dict, isi_str_int, isi_str_bool, isi_str_str, isi_str_tuple, isi_str_list, isi_str_dict, isi_tup_int, isi_tup_bool, isi_tup_str, isi_tup_tuple, isi_tup_list, isi_tup_dict, isi_fro_int, isi_fro_bool, isi_fro_str, isi_fro_tuple, isi_fro_list, isi_fro_dict, PV.isNon, eq_self, decide_true, Bool.not_true, Bool.not_false, sl_fro, gc_pure, cl_lst, cl_dK, cx_ref, cx_str, cop_add, cb_len, cl_q, cm_append, cm_pop, pop_snoc, cm_extend, csrc, ctg, ixs, gc_ref, gc_ref0, sizeLine_eq, Nat.reduceLeDiff, Int.reduceLT, Int.reduceLE, true_and, and_true, st_new0, st_newk, st_set0, st_setk, List.getElem?_cons_zero, List.getElem?_cons_succ, List.append_assoc, List.cons_append, List.nil_append, List.append_nil, List.length_append, List.length_cons, List.length_nil, Nat.zero_add, Nat.reduceAdd, List.set_cons_zero, List.set_cons_succ, stV, getV0, getVs, setV0, setVs]
    rw [ev'.gc (by simp [PV.low])]
    exact ⟨rfl, ev'⟩
theorem law_bounded_do {T : Nat → Option QF} (h7 : T 7 = some q_law_root) (h10 : T 10 = some q_law_bounded) {n : Nat} {M : Store} {x b : Int} (hx : 0 ≤ x) (hb : 0 ≤ b) (hs : (x * 2 ^ (2 * b).toNat).natAbs < 2 ^ 17000) (hbs : b ≤ 10000) (hxs : x.natAbs < 2 ^ 17000) :
    Does T (n + 2) 10 [.int x, .int b] M fun v M' => M' = M ∧ ∃ r : Int, v = .tup [.int r, .int (r + if r * r = x * 2 ^ (2 * b).toNat then 0 else 1)] ∧ IsRoot (x * 2 ^ (2 * b).toNat) r := by
  refine does_of h10 rfl rfl ?_
  simp only [ss_nil, ss_cons, s_asgv, s_asgt, s_para, s_auga, s_exp, s_retE, s_retNon, s_if, s_while, s_fo, s_break, s_conti, s_ps, e_var, varK, e_int, e_bl, e_non, e_str, e_ty, e_bin, e_neg, e_cmp, e_chain, e_isN, e_notN, e_and, e_or, e_not, e_ite, e_call, e_callK, prm_some, e_bi, e_tup, e_lst, lstK, tupK, e_ix, e_sl, eo_none, eo_some, in_int, e_mt, e_bits, bt_int, ng_int, e_comp, e_gc, es_nil, es_cons, tg_var, tg_tup, tg_sub, tgs_nil, tgs_cons, it_list, it_tup, it_rng1, it_rng2, it_enum, src_tup, src_fro, src_rng, src_enum, op_add, op_sub, op_mul, op_fdiv, op_mod, op_pow, op_shl, op_shr, op_addt, cm_lt, cm_le, cm_gt, cm_ge, cm_eq, cm_ne, cm_eq_bl, cm_ne_bl, cm_eq_str, cm_ne_str, tr_bl, tr_int, tr_non, ch_bl, cond_dec, cond_not, cond_t, cond_f, cond_ne, au_add, au_sub, b_len_tup, b_int, b_int_bl, b_abs, b_max, b_min, at_some, x_tup, isi_non_int, isi_non_bool, isi_non_str, isi_non_tuple, isi_non_list, isi_non_dict, isi_bl_int, isi_bl_bool, isi_bl_str, isi_bl_tuple, isi_bl_list, isi_bl_dict, isi_int_int, isi_int_bool, isi_int_str, isi_int_tuple, isi_int_list, isi_int_dict, isi_str_int, isi_str_bool, isi_str_str, isi_str_tuple, isi_str_list, isi_str_dict, isi_tup_int, isi_tup_bool, isi_tup_str, isi_tup_tuple, isi_tup_list, isi_tup_dict, isi_fro_int, isi_fro_bool, isi_fro_str, isi_fro_tuple, isi_fro_list, isi_fro_dict, PV.isNon, eq_self, decide_true, Bool.not_true, Bool.not_false, sl_fro, gc_pure, cl_lst, cl_dK, cx_ref, cx_str, cop_add, cb_len, cl_q, cm_append, cm_pop, pop_snoc, cm_extend, csrc, ctg, ixs, gc_ref, gc_ref0, sizeLine_eq, Nat.reduceLeDiff, Int.reduceLT, Int.reduceLE, true_and, and_true, st_new0, st_newk, st_set0, st_setk, List.getElem?_cons_zero, List.getElem?_cons_succ, List.append_assoc, List.cons_append, List.nil_append, List.append_nil, List.length_append, List.length_cons, List.length_nil, Nat.zero_add, Nat.reduceAdd, List.set_cons_zero, List.set_cons_succ, stV, getV0, getVs, setV0, setVs, q_law_bounded]
  have hbit := bits_le hxs
  refine ⟨cmul (a := 2) (b := 20) (by decide) (by omega) (by decide), ⟨by omega, by omega⟩, ?_⟩
  have hx2 : 0 ≤ x * 2 ^ (2 * b).toNat := Int.mul_nonneg hx (Int.le_of_lt (pow2_pos _))
  refine cl_of (law_root_do h7 hx2 hs) ?_
  rintro v M' ⟨rfl, r, rfl, hr⟩
  have hrs := hr.small (k := 8500) hs
  simp only [ss_nil, ss_cons, s_asgv, s_asgt, s_para, s_auga, s_exp, s_retE, s_retNon, s_if, s_while, s_fo, s_break, s_conti, s_ps, e_var, varK, e_int, e_bl, e_non, e_str, e_ty, e_bin, e_neg, e_cmp, e_chain, e_isN, e_notN, e_and, e_or, e_not, e_ite, e_call, e_callK, prm_some, e_bi, e_tup, e_lst, lstK, tupK, e_ix, e_sl, eo_none, eo_some, in_int, e_mt, e_bits, bt_int, ng_int, e_comp, e_gc, es_nil, es_cons, tg_var, tg_tup, tg_sub, tgs_nil, tgs_cons, it_list, it_tup, it_rng1, it_rng2, it_enum, src_tup, src_fro, src_rng, src_enum, op_add, op_sub, op_mul, op_fdiv, op_mod, op_pow, op_shl, op_shr, op_addt, cm_lt, cm_le, cm_gt, cm_ge, cm_eq, cm_ne, cm_eq_bl, cm_ne_bl, cm_eq_str, cm_ne_str, tr_bl, tr_int, tr_non, ch_bl, cond_dec, cond_not, cond_t, cond_f, cond_ne, au_add, au_sub, b_len_tup, b_int, b_int_bl, b_abs, b_max, b_min, at_some, x_tup, isi_non_int, isi_non_bool, isi_non_str, isi_non_tuple, isi_non_list, isi_non_dict, isi_bl_int, isi_bl_bool, isi_bl_str, isi_bl_tuple, isi_bl_list, isi_bl_dict, isi_int_int, isi_int_bool, isi_int_str, isi_int_tuple, isi_int_list, isi_int_dict, isi_str_int, isi_str_bool, isi_str_str, isi_str_tuple, isi_str_list, isi_str_dict, isi_tup_int, isi_tup_bool, isi_tup_str, isi_tup_tuple, isi_tup_list, isi_tup_dict, isi_fro_int, isi_fro_bool, isi_fro_str, isi_fro_tuple, isi_fro_list, isi_fro_dict, PV.isNon, eq_self, decide_true, Bool.not_true, Bool.not_false, sl_fro, gc_pure, cl_lst, cl_dK, cx_ref, cx_str, cop_add, cb_len, cl_q, cm_append, cm_pop, pop_snoc, cm_extend, csrc, ctg, ixs, gc_ref, gc_ref0, sizeLine_eq, Nat.reduceLeDiff, Int.reduceLT, Int.reduceLE, true_and, and_true, st_new0, st_newk, st_set0, st_setk, List.getElem?_cons_zero, List.getElem?_cons_succ, List.append_assoc, List.cons_append, List.nil_append, List.append_nil, List.length_append, List.length_cons, List.length_nil, Nat.zero_add, Nat.reduceAdd, List.set_cons_zero, List.set_cons_succ, stV, getV0, getVs, setV0, setVs]
  refine ⟨cmul hrs hrs (by decide), fun h => ⟨r, ?_, hr⟩, fun h => ⟨r, ?_, hr⟩⟩
  · simp [h]
  · simp [h]
/-! the bounds nest -/
theorem bounds_nest {l : Nat} {N N' r r' : Int} (hN : N = N' * 2 ^ l * 2 ^ l) (h : IsRoot N r) (h' : IsRoot N' r') : r' * 2 ^ l ≤ r ∧ r + (if r * r = N then 0 else 1) ≤ (r' + if r' * r' = N' then 0 else 1) * 2 ^ l := by
  have hp := pow2_pos l
  generalize (2 : Int) ^ l = w at hp hN
  obtain ⟨h0, h1, h2⟩ := h
  obtain ⟨h0', h1', h2'⟩ := h'
  have m1 : (r' * w) * (r' * w) ≤ N := by
    have : r' * r' * (w * w) ≤ N' * (w * w) := Int.mul_le_mul_of_nonneg_right h1' (Int.mul_nonneg (by omega) (by omega))
    have e1 : r' * w * (r' * w) = r' * r' * (w * w) := by grind
    have e2 : N = N' * (w * w) := by grind
    omega
  have n0 : 0 ≤ r' * w := Int.mul_nonneg h0' (by omega)
  refine ⟨le_root n0 h0 m1 h2, ?_⟩
  -- the upper one
  have key : ∀ u : Int, 0 ≤ u → N ≤ u * u → r + (if r * r = N then 0 else 1) ≤ u := fun u hu hle => by
    by_cases e : r * r = N
    · rw [if_pos e]
      apply Int.not_lt.mp
      intro hlt
      have := sq_mono (a := u + 1) (b := r) (by omega) (by omega)
      have e2 : (u + 1) * (u + 1) = u * u + 2 * u + 1 := by grind
      omega
    · rw [if_neg e]
      apply Int.not_lt.mp
      intro hlt
      have := sq_mono (a := u) (b := r) hu (by omega)
      omega
  by_cases e : r' * r' = N'
  · rw [if_pos e]
    have e0 : r' + 0 = r' := by omega
    rw [e0]
    refine key _ n0 ?_
    have e1 : r' * w * (r' * w) = r' * r' * w * w := by grind
    rw [e1, e, hN]
    exact Int.le_refl _
  · rw [if_neg e]
    refine key _ (Int.mul_nonneg (by omega) (by omega)) ?_
    have e1 : (r' + 1) * w * ((r' + 1) * w) = (r' + 1) * (r' + 1) * (w * w) := by grind
    have : N' * (w * w) ≤ (r' + 1) * (r' + 1) * (w * w) := Int.mul_le_mul_of_nonneg_right (by omega) (Int.mul_nonneg (by omega) (by omega))
    have e2 : N = N' * (w * w) := by grind
    omega
end Q

namespace Q
open PySem PySem.Spec PyProof.Rows L2
def QSs.drop : Nat → QSs → QSs
  | 0, s => s
  | _ + 1, .nil => .nil
  | n + 1, .cons _ r => r.drop n
theorem bounds_pow {x b l : Int} (hl : 0 ≤ l) (hb : l ≤ b) : x * 2 ^ (2 * b).toNat = x * 2 ^ (2 * (b - l)).toNat * 2 ^ l.toNat * 2 ^ l.toNat := by
  have e : (2 * b).toNat = (2 * (b - l)).toNat + l.toNat + l.toNat := by omega
  rw [e, Int.pow_add, Int.pow_add]
  grind
theorem size_pow {x b : Int} (hx : x.natAbs < 2 ^ 30) (hb : b ≤ 8000) (hb0 : 0 ≤ b) : (x * 2 ^ (2 * b).toNat).natAbs < 2 ^ 17000 := by
  have h := abs_mul hx (abs_pow (j := (2 * b).toNat))
  exact lt_p2 h (by omega)
theorem law_bounds_do {T : Nat → Option QF} (h0 : T 0 = some q_whole_root) (h2 : T 2 = some q_root_bounds) (h4 : T 4 = some q_law_draw) (h5 : T 5 = some q_law_same) (h7 : T 7 = some q_law_root) (h10 : T 10 = some q_law_bounded) (h11 : T 11 = some q_law_bounds) {n : Nat} {M : Store} {p d : Nat} {b : Int} (hd : Dice p d M) (hb0 : 0 ≤ b) (hb : b ≤ 5000) :
    Does T (n + 3) 11 [.ref d, .int b] M fun v M' => v = .bl true ∧ Evo p d M M' := by
  refine does_of h11 rfl rfl ?_
  have key : ∀ (x : Int) (o : Option PV) (M3 : Store), 1 ≤ x → x ≤ 1000000000 → Evo p d M M3 → Ss (den T (n + 2)) (QSs.drop 2 q_law_bounds.body) [some (.ref d), some (.int b), some (.int x), o, none, none, none] ⟨M3⟩ (fun _ B => Gc M .non B fun v B => v = .bl true ∧ Evo p d M B.M) { rt := fun v B => Gc M v B fun v B => v = .bl true ∧ Evo p d M B.M } := by
    intro x o M3 hx0 hx ev
    have hxs : x.natAbs < 2 ^ 30 := by
      have : (2 : Nat) ^ 30 = 1073741824 := by decide
      omega
    have hxs2 : x.natAbs < 2 ^ 17000 := lt_p2 hxs (by decide)
    simp only [ss_nil, ss_cons, s_asgv, s_asgt, s_para, s_auga, s_exp, s_retE, s_retNon, s_if, s_while, s_fo, s_break, s_conti, s_ps, e_var, varK, e_int, e_bl, e_non, e_str, e_ty, e_bin, e_neg, e_cmp, e_chain, e_isN, e_notN, e_and, e_or, e_not, e_ite, e_call, e_callK, prm_some, e_bi, e_tup, e_lst, lstK, tupK, e_ix, e_sl, eo_none, eo_some, in_int, e_mt, e_bits, bt_int, ng_int, e_comp, e_gc, es_nil, es_cons, tg_var, tg_tup, tg_sub, tgs_nil, tgs_cons, it_list, it_tup, it_rng1, it_rng2, it_enum, src_tup, src_fro, src_rng, src_enum, op_add, op_sub, op_mul, op_fdiv, op_mod, op_pow, op_shl, op_shr, op_addt, cm_lt, cm_le, cm_gt, cm_ge, cm_eq, cm_ne, cm_eq_bl, cm_ne_bl, cm_eq_str, cm_ne_str, tr_bl, tr_int, tr_non, ch_bl, cond_dec, cond_not, cond_t, cond_f, cond_ne, au_add, au_sub, b_len_tup, b_int, b_int_bl, b_abs, b_max, b_min, at_some, x_tup, isi_non_int, isi_non_bool, isi_non_str, isi_non_tuple, isi_non_list, isi_non_dict, isi_bl_int, isi_bl_bool, isi_bl_str, isi_bl_tuple, isi_bl_list, isi_bl_dict, isi_int_int, isi_int_bool, isi_int_str, isi_int_tuple, isi_int_list, isi_int_dict, isi_str_int, isi_str_bool, isi_str_str, isi_str_tuple, isi_str_list, isi_str_dict, isi_tup_int, isi_tup_bool, isi_tup_str, isi_tup_tuple, isi_tup_list, isi_tup_dict, isi_fro_int, isi_fro_bool, isi_fro_str, isi_fro_tuple, isi_fro_list, isi_fro_dict, PV.isNon, eq_self, decide_true, Bool.not_true, Bool.not_false, sl_fro, gc_pure, cl_lst, cl_dK, cx_ref, cx_str, cop_add, cb_len, cl_q, cm_append, cm_pop, pop_snoc, cm_extend, csrc, ctg, ixs, gc_ref, gc_ref0, sizeLine_eq, Nat.reduceLeDiff, Int.reduceLT, Int.reduceLE, true_and, and_true, st_new0, st_newk, st_set0, st_setk, List.getElem?_cons_zero, List.getElem?_cons_succ, List.append_assoc, List.cons_append, List.nil_append, List.append_nil, List.length_append, List.length_cons, List.length_nil, Nat.zero_add, Nat.reduceAdd, List.set_cons_zero, List.set_cons_succ, stV, getV0, getVs, setV0, setVs, q_law_bounds, QSs.drop]
    refine cl_of (law_bounded_do h7 h10 (by omega) hb0 (size_pow hxs (by omega) hb0) (by omega) hxs2) ?_
    rintro v M4 ⟨rfl, r, rfl, hr⟩
    simp only [ss_nil, ss_cons, s_asgv, s_asgt, s_para, s_auga, s_exp, s_retE, s_retNon, s_if, s_while, s_fo, s_break, s_conti, s_ps, e_var, varK, e_int, e_bl, e_non, e_str, e_ty, e_bin, e_neg, e_cmp, e_chain, e_isN, e_notN, e_and, e_or, e_not, e_ite, e_call, e_callK, prm_some, e_bi, e_tup, e_lst, lstK, tupK, e_ix, e_sl, eo_none, eo_some, in_int, e_mt, e_bits, bt_int, ng_int, e_comp, e_gc, es_nil, es_cons, tg_var, tg_tup, tg_sub, tgs_nil, tgs_cons, it_list, it_tup, it_rng1, it_rng2, it_enum, src_tup, src_fro, src_rng, src_enum, op_add, op_sub, op_mul, op_fdiv, op_mod, op_pow, op_shl, op_shr, op_addt, cm_lt, cm_le, cm_gt, cm_ge, cm_eq, cm_ne, cm_eq_bl, cm_ne_bl, cm_eq_str, cm_ne_str, tr_bl, tr_int, tr_non, ch_bl, cond_dec, cond_not, cond_t, cond_f, cond_ne, au_add, au_sub, b_len_tup, b_int, b_int_bl, b_abs, b_max, b_min, at_some, x_tup, isi_non_int, isi_non_bool, isi_non_str, isi_non_tuple, isi_non_list, isi_non_dict, isi_bl_int, isi_bl_bool, isi_bl_str, isi_bl_tuple, isi_bl_list, isi_bl_dict, isi_int_int, isi_int_bool, isi_int_str, isi_int_tuple, isi_int_list, isi_int_dict, isi_str_int, isi_str_bool, isi_str_str, isi_str_tuple, isi_str_list, isi_str_dict, isi_tup_int, isi_tup_bool, isi_tup_str, isi_tup_tuple, isi_tup_list, isi_tup_dict, isi_fro_int, isi_fro_bool, isi_fro_str, isi_fro_tuple, isi_fro_list, isi_fro_dict, PV.isNon, eq_self, decide_true, Bool.not_true, Bool.not_false, sl_fro, gc_pure, cl_lst, cl_dK, cx_ref, cx_str, cop_add, cb_len, cl_q, cm_append, cm_pop, pop_snoc, cm_extend, csrc, ctg, ixs, gc_ref, gc_ref0, sizeLine_eq, Nat.reduceLeDiff, Int.reduceLT, Int.reduceLE, true_and, and_true, st_new0, st_newk, st_set0, st_setk, List.getElem?_cons_zero, List.getElem?_cons_succ, List.append_assoc, List.cons_append, List.nil_append, List.append_nil, List.length_append, List.length_cons, List.length_nil, Nat.zero_add, Nat.reduceAdd, List.set_cons_zero, List.set_cons_succ, stV, getV0, getVs, setV0, setVs]
    refine cl_of (root_bounds_do h0 h2 (by omega) hb0 (size_pow hxs (by omega) hb0) (by omega) hxs2) ?_
    rintro v M4 ⟨rfl, r2, rfl, hr2⟩
    have e1 := hr2.uniq hr
    subst e1
    simp only [ss_nil, ss_cons, s_asgv, s_asgt, s_para, s_auga, s_exp, s_retE, s_retNon, s_if, s_while, s_fo, s_break, s_conti, s_ps, e_var, varK, e_int, e_bl, e_non, e_str, e_ty, e_bin, e_neg, e_cmp, e_chain, e_isN, e_notN, e_and, e_or, e_not, e_ite, e_call, e_callK, prm_some, e_bi, e_tup, e_lst, lstK, tupK, e_ix, e_sl, eo_none, eo_some, in_int, e_mt, e_bits, bt_int, ng_int, e_comp, e_gc, es_nil, es_cons, tg_var, tg_tup, tg_sub, tgs_nil, tgs_cons, it_list, it_tup, it_rng1, it_rng2, it_enum, src_tup, src_fro, src_rng, src_enum, op_add, op_sub, op_mul, op_fdiv, op_mod, op_pow, op_shl, op_shr, op_addt, cm_lt, cm_le, cm_gt, cm_ge, cm_eq, cm_ne, cm_eq_bl, cm_ne_bl, cm_eq_str, cm_ne_str, tr_bl, tr_int, tr_non, ch_bl, cond_dec, cond_not, cond_t, cond_f, cond_ne, au_add, au_sub, b_len_tup, b_int, b_int_bl, b_abs, b_max, b_min, at_some, x_tup, isi_non_int, isi_non_bool, isi_non_str, isi_non_tuple, isi_non_list, isi_non_dict, isi_bl_int, isi_bl_bool, isi_bl_str, isi_bl_tuple, isi_bl_list, isi_bl_dict, isi_int_int, isi_int_bool, isi_int_str, isi_int_tuple, isi_int_list, isi_int_dict, isi_str_int, isi_str_bool, isi_str_str, isi_str_tuple, isi_str_list, isi_str_dict, isi_tup_int, isi_tup_bool, isi_tup_str, isi_tup_tuple, isi_tup_list, isi_tup_dict, isi_fro_int, isi_fro_bool, isi_fro_str, isi_fro_tuple, isi_fro_list, isi_fro_dict, PV.isNon, eq_self, decide_true, Bool.not_true, Bool.not_false, sl_fro, gc_pure, cl_lst, cl_dK, cx_ref, cx_str, cop_add, cb_len, cl_q, cm_append, cm_pop, pop_snoc, cm_extend, csrc, ctg, ixs, gc_ref, gc_ref0, sizeLine_eq, Nat.reduceLeDiff, Int.reduceLT, Int.reduceLE, true_and, and_true, st_new0, st_newk, st_set0, st_setk, List.getElem?_cons_zero, List.getElem?_cons_succ, List.append_assoc, List.cons_append, List.nil_append, List.append_nil, List.length_append, List.length_cons, List.length_nil, Nat.zero_add, Nat.reduceAdd, List.set_cons_zero, List.set_cons_succ, stV, getV0, getVs, setV0, setVs]
    refine cl_of (law_same_do h5 (by simp [PV.plain, PV.plains]) (by simp [PV.sz, PV.szs])) ?_
    rintro v M4 ⟨rfl, rfl⟩
    simp only [ss_nil, ss_cons, s_asgv, s_asgt, s_para, s_auga, s_exp, s_retE, s_retNon, s_if, s_while, s_fo, s_break, s_conti, s_ps, e_var, varK, e_int, e_bl, e_non, e_str, e_ty, e_bin, e_neg, e_cmp, e_chain, e_isN, e_notN, e_and, e_or, e_not, e_ite, e_call, e_callK, prm_some, e_bi, e_tup, e_lst, lstK, tupK, e_ix, e_sl, eo_none, eo_some, in_int, e_mt, e_bits, bt_int, ng_int, e_comp, e_gc, es_nil, es_cons, tg_var, tg_tup, tg_sub, tgs_nil, tgs_cons, it_list, it_tup, it_rng1, it_rng2, it_enum, src_tup, src_fro, src_rng, src_enum, op_add, op_sub, op_mul, op_fdiv, op_mod, op_pow, op_shl, op_shr, op_addt, cm_lt, cm_le, cm_gt, cm_ge, cm_eq, cm_ne, cm_eq_bl, cm_ne_bl, cm_eq_str, cm_ne_str, tr_bl, tr_int, tr_non, ch_bl, cond_dec, cond_not, cond_t, cond_f, cond_ne, au_add, au_sub, b_len_tup, b_int, b_int_bl, b_abs, b_max, b_min, at_some, x_tup, isi_non_int, isi_non_bool, isi_non_str, isi_non_tuple, isi_non_list, isi_non_dict, isi_bl_int, isi_bl_bool, isi_bl_str, isi_bl_tuple, isi_bl_list, isi_bl_dict, isi_int_int, isi_int_bool, isi_int_str, isi_int_tuple, isi_int_list, isi_int_dict, isi_str_int, isi_str_bool, isi_str_str, isi_str_tuple, isi_str_list, isi_str_dict, isi_tup_int, isi_tup_bool, isi_tup_str, isi_tup_tuple, isi_tup_list, isi_tup_dict, isi_fro_int, isi_fro_bool, isi_fro_str, isi_fro_tuple, isi_fro_list, isi_fro_dict, PV.isNon, eq_self, decide_true, Bool.not_true, Bool.not_false, sl_fro, gc_pure, cl_lst, cl_dK, cx_ref, cx_str, cop_add, cb_len, cl_q, cm_append, cm_pop, pop_snoc, cm_extend, csrc, ctg, ixs, gc_ref, gc_ref0, sizeLine_eq, Nat.reduceLeDiff, Int.reduceLT, Int.reduceLE, true_and, and_true, st_new0, st_newk, st_set0, st_setk, List.getElem?_cons_zero, List.getElem?_cons_succ, List.append_assoc, List.cons_append, List.nil_append, List.append_nil, List.length_append, List.length_cons, List.length_nil, Nat.zero_add, Nat.reduceAdd, List.set_cons_zero, List.set_cons_succ, stV, getV0, getVs, setV0, setVs]
    refine cl_of (law_draw_do h4 ev.dice (by omega)) ?_
    rintro v M5 ⟨l, rfl, hl0, hl1, ev2⟩
    have ev3 := ev.trans ev2
    simp only [ss_nil, ss_cons, s_asgv, s_asgt, s_para, s_auga, s_exp, s_retE, s_retNon, s_if, s_while, s_fo, s_break, s_conti, s_ps, e_var, varK, e_int, e_bl, e_non, e_str, e_ty, e_bin, e_neg, e_cmp, e_chain, e_isN, e_notN, e_and, e_or, e_not, e_ite, e_call, e_callK, prm_some, e_bi, e_tup, e_lst, lstK, tupK, e_ix, e_sl, eo_none, eo_some, in_int, e_mt, e_bits, bt_int, ng_int, e_comp, e_gc, es_nil, es_cons, tg_var, tg_tup, tg_sub, tgs_nil, tgs_cons, it_list, it_tup, it_rng1, it_rng2, it_enum, src_tup, src_fro, src_rng, src_enum, op_add, op_sub, op_mul, op_fdiv, op_mod, op_pow, op_shl, op_shr, op_addt, cm_lt, cm_le, cm_gt, cm_ge, cm_eq, cm_ne, cm_eq_bl, cm_ne_bl, cm_eq_str, cm_ne_str, tr_bl, tr_int, tr_non, ch_bl, cond_dec, cond_not, cond_t, cond_f, cond_ne, au_add, au_sub, b_len_tup, b_int, b_int_bl, b_abs, b_max, b_min, at_some, x_tup, isi_non_int, isi_non_bool, isi_non_str, isi_non_tuple, isi_non_list, isi_non_dict, isi_bl_int, isi_bl_bool, isi_bl_str, isi_bl_tuple, isi_bl_list, isi_bl_dict, isi_int_int, isi_int_bool, isi_int_str, isi_int_tuple, isi_int_list, isi_int_dict, isi_str_int, isi_str_bool, isi_str_str, isi_str_tuple, isi_str_list, isi_str_dict, isi_tup_int, isi_tup_bool, isi_tup_str, isi_tup_tuple, isi_tup_list, isi_tup_dict, isi_fro_int, isi_fro_bool, isi_fro_str, isi_fro_tuple, isi_fro_list, isi_fro_dict, PV.isNon, eq_self, decide_true, Bool.not_true, Bool.not_false, sl_fro, gc_pure, cl_lst, cl_dK, cx_ref, cx_str, cop_add, cb_len, cl_q, cm_append, cm_pop, pop_snoc, cm_extend, csrc, ctg, ixs, gc_ref, gc_ref0, sizeLine_eq, Nat.reduceLeDiff, Int.reduceLT, Int.reduceLE, true_and, and_true, st_new0, st_newk, st_set0, st_setk, List.getElem?_cons_zero, List.getElem?_cons_succ, List.append_assoc, List.cons_append, List.nil_append, List.append_nil, List.length_append, List.length_cons, List.length_nil, Nat.zero_add, Nat.reduceAdd, List.set_cons_zero, List.set_cons_succ, stV, getV0, getVs, setV0, setVs, permL]
    refine cl_of (root_bounds_do h0 h2 (by omega) (by omega) (size_pow hxs (by omega) (by omega)) (by omega) hxs2) ?_
    rintro v M6 ⟨rfl, r3, rfl, hr3⟩
    simp only [ss_nil, ss_cons, s_asgv, s_asgt, s_para, s_auga, s_exp, s_retE, s_retNon, s_if, s_while, s_fo, s_break, s_conti, s_ps, e_var, varK, e_int, e_bl, e_non, e_str, e_ty, e_bin, e_neg, e_cmp, e_chain, e_isN, e_notN, e_and, e_or, e_not, e_ite, e_call, e_callK, prm_some, e_bi, e_tup, e_lst, lstK, tupK, e_ix, e_sl, eo_none, eo_some, in_int, e_mt, e_bits, bt_int, ng_int, e_comp, e_gc, es_nil, es_cons, tg_var, tg_tup, tg_sub, tgs_nil, tgs_cons, it_list, it_tup, it_rng1, it_rng2, it_enum, src_tup, src_fro, src_rng, src_enum, op_add, op_sub, op_mul, op_fdiv, op_mod, op_pow, op_shl, op_shr, op_addt, cm_lt, cm_le, cm_gt, cm_ge, cm_eq, cm_ne, cm_eq_bl, cm_ne_bl, cm_eq_str, cm_ne_str, tr_bl, tr_int, tr_non, ch_bl, cond_dec, cond_not, cond_t, cond_f, cond_ne, au_add, au_sub, b_len_tup, b_int, b_int_bl, b_abs, b_max, b_min, at_some, x_tup, isi_non_int, isi_non_bool, isi_non_str, isi_non_tuple, isi_non_list, isi_non_dict, isi_bl_int, isi_bl_bool, isi_bl_str, isi_bl_tuple, isi_bl_list, isi_bl_dict, isi_int_int, isi_int_bool, isi_int_str, isi_int_tuple, isi_int_list, isi_int_dict, isi_str_int, isi_str_bool, isi_str_str, isi_str_tuple, isi_str_list, isi_str_dict, isi_tup_int, isi_tup_bool, isi_tup_str, isi_tup_tuple, isi_tup_list, isi_tup_dict, isi_fro_int, isi_fro_bool, isi_fro_str, isi_fro_tuple, isi_fro_list, isi_fro_dict, PV.isNon, eq_self, decide_true, Bool.not_true, Bool.not_false, sl_fro, gc_pure, cl_lst, cl_dK, cx_ref, cx_str, cop_add, cb_len, cl_q, cm_append, cm_pop, pop_snoc, cm_extend, csrc, ctg, ixs, gc_ref, gc_ref0, sizeLine_eq, Nat.reduceLeDiff, Int.reduceLT, Int.reduceLE, true_and, and_true, st_new0, st_newk, st_set0, st_setk, List.getElem?_cons_zero, List.getElem?_cons_succ, List.append_assoc, List.cons_append, List.nil_append, List.append_nil, List.length_append, List.length_cons, List.length_nil, Nat.zero_add, Nat.reduceAdd, List.set_cons_zero, List.set_cons_succ, stV, getV0, getVs, setV0, setVs]
    refine cl_of (law_bounded_do h7 h10 (by omega) (by omega) (size_pow hxs (by omega) (by omega)) (by omega) hxs2) ?_
    rintro v M7 ⟨rfl, r4, rfl, hr4⟩
    have e1 := hr4.uniq hr3
    subst e1
    simp only [ss_nil, ss_cons, s_asgv, s_asgt, s_para, s_auga, s_exp, s_retE, s_retNon, s_if, s_while, s_fo, s_break, s_conti, s_ps, e_var, varK, e_int, e_bl, e_non, e_str, e_ty, e_bin, e_neg, e_cmp, e_chain, e_isN, e_notN, e_and, e_or, e_not, e_ite, e_call, e_callK, prm_some, e_bi, e_tup, e_lst, lstK, tupK, e_ix, e_sl, eo_none, eo_some, in_int, e_mt, e_bits, bt_int, ng_int, e_comp, e_gc, es_nil, es_cons, tg_var, tg_tup, tg_sub, tgs_nil, tgs_cons, it_list, it_tup, it_rng1, it_rng2, it_enum, src_tup, src_fro, src_rng, src_enum, op_add, op_sub, op_mul, op_fdiv, op_mod, op_pow, op_shl, op_shr, op_addt, cm_lt, cm_le, cm_gt, cm_ge, cm_eq, cm_ne, cm_eq_bl, cm_ne_bl, cm_eq_str, cm_ne_str, tr_bl, tr_int, tr_non, ch_bl, cond_dec, cond_not, cond_t, cond_f, cond_ne, au_add, au_sub, b_len_tup, b_int, b_int_bl, b_abs, b_max, b_min, at_some, x_tup, isi_non_int, isi_non_bool, isi_non_str, isi_non_tuple, isi_non_list, isi_non_dict, isi_bl_int, isi_bl_bool, isi_bl_str, isi_bl_tuple, isi_bl_list, isi_bl_dict, isi_int_int, isi_int_bool, isi_int_str, isi_int_tuple, isi_int_list, isi_int_dict, isi_str_int, isi_str_bool, isi_str_str, isi_str_tuple, isi_str_list, isi_str_dict, isi_tup_int, isi_tup_bool, isi_tup_str, isi_tup_tuple, isi_tup_list, isi_tup_dict, isi_fro_int, isi_fro_bool, isi_fro_str, isi_fro_tuple, isi_fro_list, isi_fro_dict, PV.isNon, eq_self, decide_true, Bool.not_true, Bool.not_false, sl_fro, gc_pure, cl_lst, cl_dK, cx_ref, cx_str, cop_add, cb_len, cl_q, cm_append, cm_pop, pop_snoc, cm_extend, csrc, ctg, ixs, gc_ref, gc_ref0, sizeLine_eq, Nat.reduceLeDiff, Int.reduceLT, Int.reduceLE, true_and, and_true, st_new0, st_newk, st_set0, st_setk, List.getElem?_cons_zero, List.getElem?_cons_succ, List.append_assoc, List.cons_append, List.nil_append, List.append_nil, List.length_append, List.length_cons, List.length_nil, Nat.zero_add, Nat.reduceAdd, List.set_cons_zero, List.set_cons_succ, stV, getV0, getVs, setV0, setVs]
    refine cl_of (law_same_do h5 (by simp [PV.plain, PV.plains]) (by simp [PV.sz, PV.szs])) ?_
    rintro v M8 ⟨rfl, rfl⟩
    have hbs := size_pow (x := x) (b := b - l) hxs (by omega) (by omega)
    have hrs := hr4.small (k := 8500) hbs
    have hnest := bounds_nest (bounds_pow (x := x) hl0 (by omega)) hr2 hr4
    simp only [ss_nil, ss_cons, s_asgv, s_asgt, s_para, s_auga, s_exp, s_retE, s_retNon, s_if, s_while, s_fo, s_break, s_conti, s_ps, e_var, varK, e_int, e_bl, e_non, e_str, e_ty, e_bin, e_neg, e_cmp, e_chain, e_isN, e_notN, e_and, e_or, e_not, e_ite, e_call, e_callK, prm_some, e_bi, e_tup, e_lst, lstK, tupK, e_ix, e_sl, eo_none, eo_some, in_int, e_mt, e_bits, bt_int, ng_int, e_comp, e_gc, es_nil, es_cons, tg_var, tg_tup, tg_sub, tgs_nil, tgs_cons, it_list, it_tup, it_rng1, it_rng2, it_enum, src_tup, src_fro, src_rng, src_enum, op_add, op_sub, op_mul, op_fdiv, op_mod, op_pow, op_shl, op_shr, op_addt, cm_lt, cm_le, cm_gt, cm_ge, cm_eq, cm_ne, cm_eq_bl, cm_ne_bl, cm_eq_str, cm_ne_str, tr_bl, tr_int, tr_non, ch_bl, cond_dec, cond_not, cond_t, cond_f, cond_ne, au_add, au_sub, b_len_tup, b_int, b_int_bl, b_abs, b_max, b_min, at_some, x_tup, isi_non_int, isi_non_bool, isi_non_str, isi_non_tuple, isi_non_list, isi_non_dict, isi_bl_int, isi_bl_bool, isi_bl_str, isi_bl_tuple, isi_bl_list, isi_bl_dict, isi_int_int, isi_int_bool, isi_int_str, isi_int_tuple, isi_int_list, isi_int_dict, isi_str_int, isi_str_bool, isi_str_str, isi_str_tuple, isi_str_list, isi_str_dict, isi_tup_int, isi_tup_bool, isi_tup_str, isi_tup_tuple, isi_tup_list, isi_tup_dict, isi_fro_int, isi_fro_bool, isi_fro_str, isi_fro_tuple, isi_fro_list, isi_fro_dict, PV.isNon, eq_self, decide_true, Bool.not_true, Bool.not_false, sl_fro, gc_pure, cl_lst, cl_dK, cx_ref, cx_str, cop_add, cb_len, cl_q, cm_append, cm_pop, pop_snoc, cm_extend, csrc, ctg, ixs, gc_ref, gc_ref0, sizeLine_eq, Nat.reduceLeDiff, Int.reduceLT, Int.reduceLE, true_and, and_true, st_new0, st_newk, st_set0, st_setk, List.getElem?_cons_zero, List.getElem?_cons_succ, List.append_assoc, List.cons_append, List.nil_append, List.append_nil, List.length_append, List.length_cons, List.length_nil, Nat.zero_add, Nat.reduceAdd, List.set_cons_zero, List.set_cons_succ, stV, getV0, getVs, setV0, setVs, at0, at1]
    have hb1 := bits_le hrs
    have hu : (r4 + if r4 * r4 = x * 2 ^ (2 * (b - l)).toNat then (0 : Int) else 1).natAbs < 2 ^ (8500 + 1) := by
      refine abs_add hrs ?_
      have : (1 : Nat) < 2 ^ 8500 := Nat.one_lt_two_pow (by decide)
      split <;> omega
    have hb2 := bits_le hu
    refine ⟨⟨hl0, by omega⟩, fun _ => ⟨⟨hl0, by omega⟩, ?_⟩, fun hn => absurd hnest.1 hn⟩
    rw [ev3.gc0]
    exact ⟨by rw [decide_eq_true hnest.2], ev3⟩
  simp only [ss_nil, ss_cons, s_asgv, s_asgt, s_para, s_auga, s_exp, s_retE, s_retNon, s_if, s_while, s_fo, s_break, s_conti, s_ps, e_var, varK, e_int, e_bl, e_non, e_str, e_ty, e_bin, e_neg, e_cmp, e_chain, e_isN, e_notN, e_and, e_or, e_not, e_ite, e_call, e_callK, prm_some, e_bi, e_tup, e_lst, lstK, tupK, e_ix, e_sl, eo_none, eo_some, in_int, e_mt, e_bits, bt_int, ng_int, e_comp, e_gc, es_nil, es_cons, tg_var, tg_tup, tg_sub, tgs_nil, tgs_cons, it_list, it_tup, it_rng1, it_rng2, it_enum, src_tup, src_fro, src_rng, src_enum, op_add, op_sub, op_mul, op_fdiv, op_mod, op_pow, op_shl, op_shr, op_addt, cm_lt, cm_le, cm_gt, cm_ge, cm_eq, cm_ne, cm_eq_bl, cm_ne_bl, cm_eq_str, cm_ne_str, tr_bl, tr_int, tr_non, ch_bl, cond_dec, cond_not, cond_t, cond_f, cond_ne, au_add, au_sub, b_len_tup, b_int, b_int_bl, b_abs, b_max, b_min, at_some, x_tup, isi_non_int, isi_non_bool, isi_non_str, isi_non_tuple, isi_non_list, isi_non_dict, isi_bl_int, isi_bl_bool, isi_bl_str, isi_bl_tuple, isi_bl_list, isi_bl_dict, isi_int_int, isi_int_bool, isi_int_str, isi_int_tuple, isi_int_list, isi_int_dict, isi_str_int, isi_str_bool, isi_str_str, isi_str_tuple, isi_str_list, isi_str_dict, isi_tup_int, isi_tup_bool, isi_tup_str, isi_tup_tuple, isi_tup_list, isi_tup_dict, isi_fro_int, isi_fro_bool, isi_fro_str, isi_fro_tuple, isi_fro_list, isi_fro_dict, PV.isNon, eq_self, decide_true, Bool.not_true, Bool.not_false, sl_fro, gc_pure, cl_lst, cl_dK, cx_ref, cx_str, cop_add, cb_len, cl_q, cm_append, cm_pop, pop_snoc, cm_extend, csrc, ctg, ixs, gc_ref, gc_ref0, sizeLine_eq, Nat.reduceLeDiff, Int.reduceLT, Int.reduceLE, true_and, and_true, st_new0, st_newk, st_set0, st_setk, List.getElem?_cons_zero, List.getElem?_cons_succ, List.append_assoc, List.cons_append, List.nil_append, List.append_nil, List.length_append, List.length_cons, List.length_nil, Nat.zero_add, Nat.reduceAdd, List.set_cons_zero, List.set_cons_succ, stV, getV0, getVs, setV0, setVs, q_law_bounds]
  refine cl_of (law_draw_do h4 (hd.app _) (by decide)) ?_
  rintro v M1 ⟨z, rfl, hz0, hz1, ev⟩
  obtain ⟨M1, rfl, ev1⟩ := ev.split hd
  have hlen := ev1.len
  rw [← hlen]
  simp only [ss_nil, ss_cons, s_asgv, s_asgt, s_para, s_auga, s_exp, s_retE, s_retNon, s_if, s_while, s_fo, s_break, s_conti, s_ps, e_var, varK, e_int, e_bl, e_non, e_str, e_ty, e_bin, e_neg, e_cmp, e_chain, e_isN, e_notN, e_and, e_or, e_not, e_ite, e_call, e_callK, prm_some, e_bi, e_tup, e_lst, lstK, tupK, e_ix, e_sl, eo_none, eo_some, in_int, e_mt, e_bits, bt_int, ng_int, e_comp, e_gc, es_nil, es_cons, tg_var, tg_tup, tg_sub, tgs_nil, tgs_cons, it_list, it_tup, it_rng1, it_rng2, it_enum, src_tup, src_fro, src_rng, src_enum, op_add, op_sub, op_mul, op_fdiv, op_mod, op_pow, op_shl, op_shr, op_addt, cm_lt, cm_le, cm_gt, cm_ge, cm_eq, cm_ne, cm_eq_bl, cm_ne_bl, cm_eq_str, cm_ne_str, tr_bl, tr_int, tr_non, ch_bl, cond_dec, cond_not, cond_t, cond_f, cond_ne, au_add, au_sub, b_len_tup, b_int, b_int_bl, b_abs, b_max, b_min, at_some, x_tup, isi_non_int, isi_non_bool, isi_non_str, isi_non_tuple, isi_non_list, isi_non_dict, isi_bl_int, isi_bl_bool, isi_bl_str, isi_bl_tuple, isi_bl_list, isi_bl_dict, isi_int_int, isi_int_bool, isi_int_str, isi_int_tuple, isi_int_list, isi_int_dict, isi_str_int, isi_str_bool, isi_str_str, isi_str_tuple, isi_str_list, isi_str_dict, isi_tup_int, isi_tup_bool, isi_tup_str, isi_tup_tuple, isi_tup_list, isi_tup_dict, isi_fro_int, isi_fro_bool, isi_fro_str, isi_fro_tuple, isi_fro_list, isi_fro_dict, PV.isNon, eq_self, decide_true, Bool.not_true, Bool.not_false, sl_fro, gc_pure, cl_lst, cl_dK, cx_ref, cx_str, cop_add, cb_len, cl_q, cm_append, cm_pop, pop_snoc, cm_extend, csrc, ctg, ixs, gc_ref, gc_ref0, sizeLine_eq, Nat.reduceLeDiff, Int.reduceLT, Int.reduceLE, true_and, and_true, st_new0, st_newk, st_set0, st_setk, List.getElem?_cons_zero, List.getElem?_cons_succ, List.append_assoc, List.cons_append, List.nil_append, List.append_nil, List.length_append, List.length_cons, List.length_nil, Nat.zero_add, Nat.reduceAdd, List.set_cons_zero, List.set_cons_succ, stV, getV0, getVs, setV0, setVs]
  obtain ⟨v, hv, hm⟩ := at_in (xs := [PV.int 20, .int 1000, .int 1000000000]) hz0 hz1
  have hv2 : ∃ y : Int, v = .int y ∧ 20 ≤ y ∧ y ≤ 1000000000 := by
    simp only [List.mem_cons, List.not_mem_nil, or_false] at hm
    rcases hm with rfl | rfl | rfl
    · exact ⟨_, rfl, by decide, by decide⟩
    · exact ⟨_, rfl, by decide, by decide⟩
    · exact ⟨_, rfl, by decide, by decide⟩
  obtain ⟨y, rfl, hy0, hy1⟩ := hv2
  simp only [ss_nil, ss_cons, s_asgv, s_asgt, s_para, s_auga, s_exp, s_retE, s_retNon, s_if, s_while, s_fo, s_break, s_conti, s_ps, e_var, varK, e_int, e_bl, e_non, e_str, e_ty, e_bin, e_neg, e_cmp, e_chain, e_isN, e_notN, e_and, e_or, e_not, e_ite, e_call, e_callK, prm_some, e_bi, e_tup, e_lst, lstK, tupK, e_ix, e_sl, eo_none, eo_some, in_int, e_mt, e_bits, bt_int, ng_int, e_comp, e_gc, es_nil, es_cons, tg_var, tg_tup, tg_sub, tgs_nil, tgs_cons, it_list, it_tup, it_rng1, it_rng2, it_enum, src_tup, src_fro, src_rng, src_enum, op_add, op_sub, op_mul, op_fdiv, op_mod, op_pow, op_shl, op_shr, op_addt, cm_lt, cm_le, cm_gt, cm_ge, cm_eq, cm_ne, cm_eq_bl, cm_ne_bl, cm_eq_str, cm_ne_str, tr_bl, tr_int, tr_non, ch_bl, cond_dec, cond_not, cond_t, cond_f, cond_ne, au_add, au_sub, b_len_tup, b_int, b_int_bl, b_abs, b_max, b_min, at_some, x_tup, isi_non_int, isi_non_bool, isi_non_str, isi_non_tuple, isi_non_list, isi_non_dict, isi_bl_int, isi_bl_bool, isi_bl_str, isi_bl_tuple, isi_bl_list, isi_bl_dict, isi_int_int, isi_int_bool, isi_int_str, isi_int_tuple, isi_int_list, isi_int_dict, isi_str_int, isi_str_bool, isi_str_str, isi_str_tuple, isi_str_list, isi_str_dict, isi_tup_int, isi_tup_bool, isi_tup_str, isi_tup_tuple, isi_tup_list, isi_tup_dict, isi_fro_int, isi_fro_bool, isi_fro_str, isi_fro_tuple, isi_fro_list, isi_fro_dict, PV.isNon, eq_self, decide_true, Bool.not_true, Bool.not_false, sl_fro, gc_pure, cl_lst, cl_dK, cx_ref, cx_str, cop_add, cb_len, cl_q, cm_append, cm_pop, pop_snoc, cm_extend, csrc, ctg, ixs, gc_ref, gc_ref0, sizeLine_eq, Nat.reduceLeDiff, Int.reduceLT, Int.reduceLE, true_and, and_true, st_new0, st_newk, st_set0, st_setk, List.getElem?_cons_zero, List.getElem?_cons_succ, List.append_assoc, List.cons_append, List.nil_append, List.append_nil, List.length_append, List.length_cons, List.length_nil, Nat.zero_add, Nat.reduceAdd, List.set_cons_zero, List.set_cons_succ, stV, getV0, getVs, setV0, setVs, hv]
  rw [ev1.gc (by simp [PV.low])]
  simp only [ss_nil, ss_cons, s_asgv, s_asgt, s_para, s_auga, s_exp, s_retE, s_retNon, s_if, s_while, s_fo, s_break, s_conti, s_ps, e_var, varK, e_int, e_bl, e_non, e_str, e_ty, e_bin, e_neg, e_cmp, e_chain, e_isN, e_notN, e_and, e_or, e_not, e_ite, e_call, e_callK, prm_some, e_bi, e_tup, e_lst, lstK, tupK, e_ix, e_sl, eo_none, eo_some, in_int, e_mt, e_bits, bt_int, ng_int, e_comp, e_gc, es_nil, es_cons, tg_var, tg_tup, tg_sub, tgs_nil, tgs_cons, it_list, it_tup, it_rng1, it_rng2, it_enum, src_tup, src_fro, src_rng, src_enum, op_add, op_sub, op_mul, op_fdiv, op_mod, op_pow, op_shl, op_shr, op_addt, cm_lt, cm_le, cm_gt, cm_ge, cm_eq, cm_ne, cm_eq_bl, cm_ne_bl, cm_eq_str, cm_ne_str, tr_bl, tr_int, tr_non, ch_bl, cond_dec, cond_not, cond_t, cond_f, cond_ne, au_add, au_sub, b_len_tup, b_int, b_int_bl, b_abs, b_max, b_min, at_some, x_tup, isi_non_int, isi_non_bool, isi_non_str, isi_non_tuple, isi_non_list, isi_non_dict, isi_bl_int, isi_bl_bool, isi_bl_str, isi_bl_tuple, isi_bl_list, isi_bl_dict, isi_int_int, isi_int_bool, isi_int_str, isi_int_tuple, isi_int_list, isi_int_dict, isi_str_int, isi_str_bool, isi_str_str, isi_str_tuple, isi_str_list, isi_str_dict, isi_tup_int, isi_tup_bool, isi_tup_str, isi_tup_tuple, isi_tup_list, isi_tup_dict, isi_fro_int, isi_fro_bool, isi_fro_str, isi_fro_tuple, isi_fro_list, isi_fro_dict, PV.isNon, eq_self, decide_true, Bool.not_true, Bool.not_false, sl_fro, gc_pure, cl_lst, cl_dK, cx_ref, cx_str, cop_add, cb_len, cl_q, cm_append, cm_pop, pop_snoc, cm_extend, csrc, ctg, ixs, gc_ref, gc_ref0, sizeLine_eq, Nat.reduceLeDiff, Int.reduceLT, Int.reduceLE, true_and, and_true, st_new0, st_newk, st_set0, st_setk, List.getElem?_cons_zero, List.getElem?_cons_succ, List.append_assoc, List.cons_append, List.nil_append, List.append_nil, List.length_append, List.length_cons, List.length_nil, Nat.zero_add, Nat.reduceAdd, List.set_cons_zero, List.set_cons_succ, stV, getV0, getVs, setV0, setVs]
  refine cl_of (law_draw_do h4 ev1.dice (by omega)) ?_
  rintro v M2 ⟨w, rfl, hw0, hw1, ev2⟩
  simp only [ss_nil, ss_cons, s_asgv, s_asgt, s_para, s_auga, s_exp, s_retE, s_retNon, s_if, s_while, s_fo, s_break, s_conti, s_ps, e_var, varK, e_int, e_bl, e_non, e_str, e_ty, e_bin, e_neg, e_cmp, e_chain, e_isN, e_notN, e_and, e_or, e_not, e_ite, e_call, e_callK, prm_some, e_bi, e_tup, e_lst, lstK, tupK, e_ix, e_sl, eo_none, eo_some, in_int, e_mt, e_bits, bt_int, ng_int, e_comp, e_gc, es_nil, es_cons, tg_var, tg_tup, tg_sub, tgs_nil, tgs_cons, it_list, it_tup, it_rng1, it_rng2, it_enum, src_tup, src_fro, src_rng, src_enum, op_add, op_sub, op_mul, op_fdiv, op_mod, op_pow, op_shl, op_shr, op_addt, cm_lt, cm_le, cm_gt, cm_ge, cm_eq, cm_ne, cm_eq_bl, cm_ne_bl, cm_eq_str, cm_ne_str, tr_bl, tr_int, tr_non, ch_bl, cond_dec, cond_not, cond_t, cond_f, cond_ne, au_add, au_sub, b_len_tup, b_int, b_int_bl, b_abs, b_max, b_min, at_some, x_tup, isi_non_int, isi_non_bool, isi_non_str, isi_non_tuple, isi_non_list, isi_non_dict, isi_bl_int, isi_bl_bool, isi_bl_str, isi_bl_tuple, isi_bl_list, isi_bl_dict, isi_int_int, isi_int_bool, isi_int_str, isi_int_tuple, isi_int_list, isi_int_dict, isi_str_int, isi_str_bool, isi_str_str, isi_str_tuple, isi_str_list, isi_str_dict, isi_tup_int, isi_tup_bool, isi_tup_str, isi_tup_tuple, isi_tup_list, isi_tup_dict, isi_fro_int, isi_fro_bool, isi_fro_str, isi_fro_tuple, isi_fro_list, isi_fro_dict, PV.isNon, eq_self, decide_true, Bool.not_true, Bool.not_false, sl_fro, gc_pure, cl_lst, cl_dK, cx_ref, cx_str, cop_add, cb_len, cl_q, cm_append, cm_pop, pop_snoc, cm_extend, csrc, ctg, ixs, gc_ref, gc_ref0, sizeLine_eq, Nat.reduceLeDiff, Int.reduceLT, Int.reduceLE, true_and, and_true, st_new0, st_newk, st_set0, st_setk, List.getElem?_cons_zero, List.getElem?_cons_succ, List.append_assoc, List.cons_append, List.nil_append, List.append_nil, List.length_append, List.length_cons, List.length_nil, Nat.zero_add, Nat.reduceAdd, List.set_cons_zero, List.set_cons_succ, stV, getV0, getVs, setV0, setVs]
  refine cl_of (law_draw_do h4 ev2.dice (by decide)) ?_
  rintro v M3 ⟨t, rfl, ht0, ht1, ev3⟩
  simp only [ss_nil, ss_cons, s_asgv, s_asgt, s_para, s_auga, s_exp, s_retE, s_retNon, s_if, s_while, s_fo, s_break, s_conti, s_ps, e_var, varK, e_int, e_bl, e_non, e_str, e_ty, e_bin, e_neg, e_cmp, e_chain, e_isN, e_notN, e_and, e_or, e_not, e_ite, e_call, e_callK, prm_some, e_bi, e_tup, e_lst, lstK, tupK, e_ix, e_sl, eo_none, eo_some, in_int, e_mt, e_bits, bt_int, ng_int, e_comp, e_gc, es_nil, es_cons, tg_var, tg_tup, tg_sub, tgs_nil, tgs_cons, it_list, it_tup, it_rng1, it_rng2, it_enum, src_tup, src_fro, src_rng, src_enum, op_add, op_sub, op_mul, op_fdiv, op_mod, op_pow, op_shl, op_shr, op_addt, cm_lt, cm_le, cm_gt, cm_ge, cm_eq, cm_ne, cm_eq_bl, cm_ne_bl, cm_eq_str, cm_ne_str, tr_bl, tr_int, tr_non, ch_bl, cond_dec, cond_not, cond_t, cond_f, cond_ne, au_add, au_sub, b_len_tup, b_int, b_int_bl, b_abs, b_max, b_min, at_some, x_tup, isi_non_int, isi_non_bool, isi_non_str, isi_non_tuple, isi_non_list, isi_non_dict, isi_bl_int, isi_bl_bool, isi_bl_str, isi_bl_tuple, isi_bl_list, isi_bl_dict, isi_int_int, isi_int_bool, isi_int_str, isi_int_tuple, isi_int_list, isi_int_dict, isi_str_int, isi_str_bool, isi_str_str, isi_str_tuple, isi_str_list, isi_str_dict, isi_tup_int, isi_tup_bool, isi_tup_str, isi_tup_tuple, isi_tup_list, isi_tup_dict, isi_fro_int, isi_fro_bool, isi_fro_str, isi_fro_tuple, isi_fro_list, isi_fro_dict, PV.isNon, eq_self, decide_true, Bool.not_true, Bool.not_false, sl_fro, gc_pure, cl_lst, cl_dK, cx_ref, cx_str, cop_add, cb_len, cl_q, cm_append, cm_pop, pop_snoc, cm_extend, csrc, ctg, ixs, gc_ref, gc_ref0, sizeLine_eq, Nat.reduceLeDiff, Int.reduceLT, Int.reduceLE, true_and, and_true, st_new0, st_newk, st_set0, st_setk, List.getElem?_cons_zero, List.getElem?_cons_succ, List.append_assoc, List.cons_append, List.nil_append, List.append_nil, List.length_append, List.length_cons, List.length_nil, Nat.zero_add, Nat.reduceAdd, List.set_cons_zero, List.set_cons_succ, stV, getV0, getVs, setV0, setVs]
  refine ⟨fun ht => ?_, fun ht => ?_⟩
  · refine cl_of (law_draw_do h4 ev3.dice (by decide)) ?_
    rintro v M4 ⟨u, rfl, hu0, hu1, ev4⟩
    simp only [ss_nil, ss_cons, s_asgv, s_asgt, s_para, s_auga, s_exp, s_retE, s_retNon, s_if, s_while, s_fo, s_break, s_conti, s_ps, e_var, varK, e_int, e_bl, e_non, e_str, e_ty, e_bin, e_neg, e_cmp, e_chain, e_isN, e_notN, e_and, e_or, e_not, e_ite, e_call, e_callK, prm_some, e_bi, e_tup, e_lst, lstK, tupK, e_ix, e_sl, eo_none, eo_some, in_int, e_mt, e_bits, bt_int, ng_int, e_comp, e_gc, es_nil, es_cons, tg_var, tg_tup, tg_sub, tgs_nil, tgs_cons, it_list, it_tup, it_rng1, it_rng2, it_enum, src_tup, src_fro, src_rng, src_enum, op_add, op_sub, op_mul, op_fdiv, op_mod, op_pow, op_shl, op_shr, op_addt, cm_lt, cm_le, cm_gt, cm_ge, cm_eq, cm_ne, cm_eq_bl, cm_ne_bl, cm_eq_str, cm_ne_str, tr_bl, tr_int, tr_non, ch_bl, cond_dec, cond_not, cond_t, cond_f, cond_ne, au_add, au_sub, b_len_tup, b_int, b_int_bl, b_abs, b_max, b_min, at_some, x_tup, isi_non_int, isi_non_bool, isi_non_str, isi_non_tuple, isi_non_list, isi_non_dict, isi_bl_int, isi_bl_bool, isi_bl_str, isi_bl_tuple, isi_bl_list, isi_bl_dict, isi_int_int, isi_int_bool, isi_int_str, isi_int_tuple, isi_int_list, isi_int_dict, isi_str_int, isi_str_bool, isi_str_str, isi_str_tuple, isi_str_list, isi_str_dict, isi_tup_int, isi_tup_bool, isi_tup_str, isi_tup_tuple, isi_tup_list, isi_tup_dict, isi_fro_int, isi_fro_bool, isi_fro_str, isi_fro_tuple, isi_fro_list, isi_fro_dict, PV.isNon, eq_self, decide_true, Bool.not_true, Bool.not_false, sl_fro, gc_pure, cl_lst, cl_dK, cx_ref, cx_str, cop_add, cb_len, cl_q, cm_append, cm_pop, pop_snoc, cm_extend, csrc, ctg, ixs, gc_ref, gc_ref0, sizeLine_eq, Nat.reduceLeDiff, Int.reduceLT, Int.reduceLE, true_and, and_true, st_new0, st_newk, st_set0, st_setk, List.getElem?_cons_zero, List.getElem?_cons_succ, List.append_assoc, List.cons_append, List.nil_append, List.append_nil, List.length_append, List.length_cons, List.length_nil, Nat.zero_add, Nat.reduceAdd, List.set_cons_zero, List.set_cons_succ, stV, getV0, getVs, setV0, setVs]
    have hsq := sq_mono (a := 1 + u) (b := 31622) (by omega) (by omega)
    have hsq2 := sq_mono (a := 1) (b := 1 + u) (by omega) (by omega)
    refine ⟨cmul (a := 20) (b := 20) (by omega) (by omega) (by decide), ?_⟩
    have k2 := key ((1 + u) * (1 + u)) (some (.int (1 + u))) _ (by omega) (by omega) (((ev1.trans ev2).trans ev3).trans ev4)
    simp only [ss_nil, ss_cons, s_asgv, s_asgt, s_para, s_auga, s_exp, s_retE, s_retNon, s_if, s_while, s_fo, s_break, s_conti, s_ps, e_var, varK, e_int, e_bl, e_non, e_str, e_ty, e_bin, e_neg, e_cmp, e_chain, e_isN, e_notN, e_and, e_or, e_not, e_ite, e_call, e_callK, prm_some, e_bi, e_tup, e_lst, lstK, tupK, e_ix, e_sl, eo_none, eo_some, in_int, e_mt, e_bits, bt_int, ng_int, e_comp, e_gc, es_nil, es_cons, tg_var, tg_tup, tg_sub, tgs_nil, tgs_cons, it_list, it_tup, it_rng1, it_rng2, it_enum, src_tup, src_fro, src_rng, src_enum, op_add, op_sub, op_mul, op_fdiv, op_mod, op_pow, op_shl, op_shr, op_addt, cm_lt, cm_le, cm_gt, cm_ge, cm_eq, cm_ne, cm_eq_bl, cm_ne_bl, cm_eq_str, cm_ne_str, tr_bl, tr_int, tr_non, ch_bl, cond_dec, cond_not, cond_t, cond_f, cond_ne, au_add, au_sub, b_len_tup, b_int, b_int_bl, b_abs, b_max, b_min, at_some, x_tup, isi_non_int, isi_non_bool, isi_non_str, isi_non_tuple, isi_non_list, isi_non_dict, isi_bl_int, isi_bl_bool, isi_bl_str, isi_bl_tuple, isi_bl_list, isi_bl_dict, isi_int_int, isi_int_bool, isi_int_str, isi_int_tuple, isi_int_list, isi_int_dict, isi_str_int, isi_str_bool, isi_str_str, isi_str_tuple, isi_str_list, isi_str_dict, isi_tup_int, isi_tup_bool, isi_tup_str, isi_tup_tuple, isi_tup_list, isi_tup_dict, isi_fro_int, isi_fro_bool, isi_fro_str, isi_fro_tuple, isi_fro_list, isi_fro_dict, PV.isNon, eq_self, decide_true, Bool.not_true, Bool.not_false, sl_fro, gc_pure, cl_lst, cl_dK, cx_ref, cx_str, cop_add, cb_len, cl_q, cm_append, cm_pop, pop_snoc, cm_extend, csrc, ctg, ixs, gc_ref, gc_ref0, sizeLine_eq, Nat.reduceLeDiff, Int.reduceLT, Int.reduceLE, true_and, and_true, st_new0, st_newk, st_set0, st_setk, List.getElem?_cons_zero, List.getElem?_cons_succ, List.append_assoc, List.cons_append, List.nil_append, List.append_nil, List.length_append, List.length_cons, List.length_nil, Nat.zero_add, Nat.reduceAdd, List.set_cons_zero, List.set_cons_succ, stV, getV0, getVs, setV0, setVs, q_law_bounds, QSs.drop] at k2
    exact k2
  · have k2 := key (1 + w) none _ (by omega) (by omega) ((ev1.trans ev2).trans ev3)
    simp only [ss_nil, ss_cons, s_asgv, s_asgt, s_para, s_auga, s_exp, s_retE, s_retNon, s_if, s_while, s_fo, s_break, s_conti, s_ps, e_var, varK, e_int, e_bl, e_non, e_str, e_ty, e_bin, e_neg, e_cmp, e_chain, e_isN, e_notN, e_and, e_or, e_not, e_ite, e_call, e_callK, prm_some, e_bi, e_tup, e_lst, lstK, tupK, e_ix, e_sl, eo_none, eo_some, in_int, e_mt, e_bits, bt_int, ng_int, e_comp, e_gc, es_nil, es_cons, tg_var, tg_tup, tg_sub, tgs_nil, tgs_cons, it_list, it_tup, it_rng1, it_rng2, it_enum, src_tup, src_fro, src_rng, src_enum, op_add, op_sub, op_mul, op_fdiv, op_mod, op_pow, op_shl, op_shr, op_addt, cm_lt, cm_le, cm_gt, cm_ge, cm_eq, cm_ne, cm_eq_bl, cm_ne_bl, cm_eq_str, cm_ne_str, tr_bl, tr_int, tr_non, ch_bl, cond_dec, cond_not, cond_t, cond_f, cond_ne, au_add, au_sub, b_len_tup, b_int, b_int_bl, b_abs, b_max, b_min, at_some, x_tup, isi_non_int, isi_non_bool, isi_non_str, isi_non_tuple, isi_non_list, isi_non_dict, isi_bl_int, isi_bl_bool, isi_bl_str, isi_bl_tuple, isi_bl_list, isi_bl_dict, isi_int_int, isi_int_bool, isi_int_str, isi_int_tuple, isi_int_list, isi_int_dict, isi_str_int, isi_str_bool, isi_str_str, isi_str_tuple, isi_str_list, isi_str_dict, isi_tup_int, isi_tup_bool, isi_tup_str, isi_tup_tuple, isi_tup_list, isi_tup_dict, isi_fro_int, isi_fro_bool, isi_fro_str, isi_fro_tuple, isi_fro_list, isi_fro_dict, PV.isNon, eq_self, decide_true, Bool.not_true, Bool.not_false, sl_fro, gc_pure, cl_lst, cl_dK, cx_ref, cx_str, cop_add, cb_len, cl_q, cm_append, cm_pop, pop_snoc, cm_extend, csrc, ctg, ixs, gc_ref, gc_ref0, sizeLine_eq, Nat.reduceLeDiff, Int.reduceLT, Int.reduceLE, true_and, and_true, st_new0, st_newk, st_set0, st_setk, List.getElem?_cons_zero, List.getElem?_cons_succ, List.append_assoc, List.cons_append, List.nil_append, List.append_nil, List.length_append, List.length_cons, List.length_nil, Nat.zero_add, Nat.reduceAdd, List.set_cons_zero, List.set_cons_succ, stV, getV0, getVs, setV0, setVs, q_law_bounds, QSs.drop] at k2
    exact k2
end Q

namespace Q
open PySem PySem.Spec PyProof.Rows L2
theorem enumF_get : ∀ {xs : List PV} {k i : Nat} {x : PV}, (enumFrom k xs)[i]? = some x → ∃ y, xs[i]? = some y ∧ x = .tup [.int ((k + i : Nat) : Int), y]
  | [], k, i, x, h => by simp [enumFrom] at h
  | y :: xs, k, 0, x, h => by
    simp [enumFrom] at h
    exact ⟨y, rfl, by simp [h]⟩
  | y :: xs, k, i + 1, x, h => by
    unfold enumFrom at h
    obtain ⟨z, h1, h2⟩ := enumF_get (i := i) (k := k + 1) (by simpa using h)
    exact ⟨z, by simpa using h1, by rw [h2]; congr 4; omega⟩
theorem enumF_len : ∀ {xs : List PV} {k : Nat}, (enumFrom k xs).length = xs.length
  | [], _ => rfl
  | x :: xs, k => by
    unfold enumFrom
    rw [List.length_cons, List.length_cons, enumF_len]
theorem cut_mem {α : Type} {xs : List α} {lo hi : Option Int} {x : α} (h : x ∈ cutL xs lo hi) : x ∈ xs := by
  unfold cutL at h
  exact List.mem_of_mem_drop (List.mem_of_mem_take h)
theorem cut_len {α : Type} {xs : List α} {lo hi : Option Int} : (cutL xs lo hi).length ≤ xs.length := by
  unfold cutL
  rw [List.length_take, List.length_drop]
  omega
theorem law_dice_do {T : Nat → Option QF} (h3 : T 3 = some q_law_dice) {n : Nat} {M : Store} {ns : List Int} (hl : ns.length ≤ 63) :
    Does T (n + 1) 3 [.fro ns] M fun v M' => v = .ref (M.length + 2) ∧ ∃ c0 c1 c2 : Cell, M' = M ++ [c0, c1, c2] ∧ Dice M.length (M.length + 2) M' := by
  refine does_of h3 rfl rfl ?_
  simp only [ss_nil, ss_cons, s_asgv, s_asgt, s_para, s_auga, s_exp, s_retE, s_retNon, s_if, s_while, s_fo, s_break, s_conti, s_ps, e_var, varK, e_int, e_bl, e_non, e_str, e_ty, e_bin, e_neg, e_cmp, e_chain, e_isN, e_notN, e_and, e_or, e_not, e_ite, e_call, e_callK, prm_some, e_bi, e_tup, e_lst, lstK, tupK, e_ix, e_sl, eo_none, eo_some, in_int, e_mt, e_bits, bt_int, ng_int, e_comp, e_gc, es_nil, es_cons, tg_var, tg_tup, tg_sub, tgs_nil, tgs_cons, it_list, it_tup, it_rng1, it_rng2, it_enum, src_tup, src_fro, src_rng, src_enum, op_add, op_sub, op_mul, op_fdiv, op_mod, op_pow, op_shl, op_shr, op_addt, cm_lt, cm_le, cm_gt, cm_ge, cm_eq, cm_ne, cm_eq_bl, cm_ne_bl, cm_eq_str, cm_ne_str, tr_bl, tr_int, tr_non, ch_bl, cond_dec, cond_not, cond_t, cond_f, cond_ne, au_add, au_sub, b_len_tup, b_int, b_int_bl, b_abs, b_max, b_min, at_some, x_tup, isi_non_int, isi_non_bool, isi_non_str, isi_non_tuple, isi_non_list, isi_non_dict, isi_bl_int, isi_bl_bool, isi_bl_str, isi_bl_tuple, isi_bl_list, isi_bl_dict, isi_int_int, isi_int_bool, isi_int_str, isi_int_tuple, isi_int_list, isi_int_dict, isi_str_int, isi_str_bool, isi_str_str, isi_str_tuple, isi_str_list, isi_str_dict, isi_tup_int, isi_tup_bool, isi_tup_str, isi_tup_tuple, isi_tup_list, isi_tup_dict, isi_fro_int, isi_fro_bool, isi_fro_str, isi_fro_tuple, isi_fro_list, isi_fro_dict, PV.isNon, eq_self, decide_true, Bool.not_true, Bool.not_false, sl_fro, gc_pure, cl_lst, cl_dK, cx_ref, cx_str, cop_add, cb_len, cl_q, cm_append, cm_pop, pop_snoc, cm_extend, csrc, ctg, ixs, gc_ref, gc_ref0, sizeLine_eq, Nat.reduceLeDiff, Int.reduceLT, Int.reduceLE, true_and, and_true, st_new0, st_newk, st_set0, st_setk, List.getElem?_cons_zero, List.getElem?_cons_succ, List.append_assoc, List.cons_append, List.nil_append, List.append_nil, List.length_append, List.length_cons, List.length_nil, Nat.zero_add, Nat.reduceAdd, List.set_cons_zero, List.set_cons_succ, stV, getV0, getVs, setV0, setVs, q_law_dice]
  have hsl : (cutL (ns.map PV.int) none (some 63)).length ≤ 63 := Nat.le_trans cut_len (by rw [List.length_map]; exact hl)
  have hmem : ∀ y ∈ cutL (ns.map PV.int) none (some 63), ∃ g : Int, y = .int g := fun y hy => by
    obtain ⟨g, _, e⟩ := List.mem_map.mp (cut_mem hy)
    exact ⟨g, e.symm⟩
  generalize cutL (ns.map PV.int) none (some 63) = sl at hsl hmem
  refine fo_rule (fun i e B => ∃ (mixed : Int) (pool : List Int) (o3 o4 o5 o6 o7 : Option PV), e = [some (.fro ns), some (.int mixed), some (.ref M.length), o3, o4, o5, o6, o7] ∧ B = ⟨M ++ [.lst (pool.map .int), .lst sl]⟩ ∧ 0 ≤ mixed ∧ mixed < 2147483647 ∧ (∀ z ∈ pool, 0 ≤ z ∧ z < 1000) ∧ pool.length ≤ 20 * i)
    ⟨1409, [], none, none, none, none, none, rfl, rfl, by decide, by decide, (fun z hz => nomatch hz), by simp⟩ ?_ ?_ ?_
  · rintro i e M' hi ⟨mixed, pool, o3, o4, o5, o6, o7, rfl, eM, _⟩
    cases eM
    unfold Src.still
    dsimp only
    rw [st_newk]
    exact Cell.beq_refl _
  · rintro i x e M' hx ⟨mixed, pool, o3, o4, o5, o6, o7, rfl, eM, hm0, hm1, hp, hpl⟩
    cases eM
    obtain ⟨y, hy, rfl⟩ := enumF_get hx
    have hi : i < 63 := Nat.lt_of_lt_of_le (List.getElem?_eq_some_iff.mp hy).1 hsl
    obtain ⟨g, rfl⟩ := hmem y (List.mem_of_getElem? hy)
    have p60 : (10 : Int) ^ (Int.toNat 60) = 1000000000000000000000000000000000000000000000000000000000000 := by decide
    have p18 : (10 : Int) ^ (Int.toNat 18) = 1000000000000000000 := by decide
    simp only [ss_nil, ss_cons, s_asgv, s_asgt, s_para, s_auga, s_exp, s_retE, s_retNon, s_if, s_while, s_fo, s_break, s_conti, s_ps, e_var, varK, e_int, e_bl, e_non, e_str, e_ty, e_bin, e_neg, e_cmp, e_chain, e_isN, e_notN, e_and, e_or, e_not, e_ite, e_call, e_callK, prm_some, e_bi, e_tup, e_lst, lstK, tupK, e_ix, e_sl, eo_none, eo_some, in_int, e_mt, e_bits, bt_int, ng_int, e_comp, e_gc, es_nil, es_cons, tg_var, tg_tup, tg_sub, tgs_nil, tgs_cons, it_list, it_tup, it_rng1, it_rng2, it_enum, src_tup, src_fro, src_rng, src_enum, op_add, op_sub, op_mul, op_fdiv, op_mod, op_pow, op_shl, op_shr, op_addt, cm_lt, cm_le, cm_gt, cm_ge, cm_eq, cm_ne, cm_eq_bl, cm_ne_bl, cm_eq_str, cm_ne_str, tr_bl, tr_int, tr_non, ch_bl, cond_dec, cond_not, cond_t, cond_f, cond_ne, au_add, au_sub, b_len_tup, b_int, b_int_bl, b_abs, b_max, b_min, at_some, x_tup, isi_non_int, isi_non_bool, isi_non_str, isi_non_tuple, isi_non_list, isi_non_dict, isi_bl_int, isi_bl_bool, isi_bl_str, isi_bl_tuple, isi_bl_list, isi_bl_dict, isi_int_int, isi_int_bool, isi_int_str, isi_int_tuple, isi_int_list, isi_int_dict, isi_str_int, isi_str_bool, isi_str_str, isi_str_tuple, isi_str_list, isi_str_dict, isi_tup_int, isi_tup_bool, isi_tup_str, isi_tup_tuple, isi_tup_list, isi_tup_dict, isi_fro_int, isi_fro_bool, isi_fro_str, isi_fro_tuple, isi_fro_list, isi_fro_dict, PV.isNon, eq_self, decide_true, Bool.not_true, Bool.not_false, sl_fro, gc_pure, cl_lst, cl_dK, cx_ref, cx_str, cop_add, cb_len, cl_q, cm_append, cm_pop, pop_snoc, cm_extend, csrc, ctg, ixs, gc_ref, gc_ref0, sizeLine_eq, Nat.reduceLeDiff, Int.reduceLT, Int.reduceLE, true_and, and_true, st_new0, st_newk, st_set0, st_setk, List.getElem?_cons_zero, List.getElem?_cons_succ, List.append_assoc, List.cons_append, List.nil_append, List.append_nil, List.length_append, List.length_cons, List.length_nil, Nat.zero_add, Nat.reduceAdd, List.set_cons_zero, List.set_cons_succ, stV, getV0, getVs, setV0, setVs, q_law_dice_f1, p60, p18]
    have hg0 : (0 : Int) ≤ g % 1000000000000000000000000000000000000000000000000000000000000 := Int.emod_nonneg _ (by decide)
    have hg1 : g % 1000000000000000000000000000000000000000000000000000000000000 < 1000000000000000000000000000000000000000000000000000000000000 := Int.emod_lt_of_pos _ (by decide)
    generalize g % 1000000000000000000000000000000000000000000000000000000000000 = cell0 at hg0 hg1
    generalize decide ((1000000000000000000 : Int) ≤ cell0) = great
    refine ⟨by decide, by decide, ?_⟩
    refine fo_rule (fun j e B => ∃ (mixed cell : Int) (pool : List Int) (o7 : Option PV), e = [some (.fro ns), some (.int mixed), some (.ref M.length), some (.int (i : Int)), some (.int g), some (.int cell), some (.bl great), o7] ∧ B = ⟨M ++ [.lst (pool.map .int), .lst sl]⟩ ∧ 0 ≤ mixed ∧ mixed < 2147483647 ∧ (∀ z ∈ pool, 0 ≤ z ∧ z < 1000) ∧ pool.length ≤ 20 * i + j)
      ⟨mixed, cell0, pool, o7, rfl, rfl, hm0, hm1, hp, by omega⟩ (fun _ _ _ _ _ => rfl) ?_ ?_
    · rintro j x e M' hx ⟨mixed, cell, pool, o7, rfl, eM, hm0, hm1, hp, hpl⟩
      cases eM
      obtain ⟨rfl, hj⟩ := rng_get hx
      have hj2 : j < 20 := hj
      simp only [ss_nil, ss_cons, s_asgv, s_asgt, s_para, s_auga, s_exp, s_retE, s_retNon, s_if, s_while, s_fo, s_break, s_conti, s_ps, e_var, varK, e_int, e_bl, e_non, e_str, e_ty, e_bin, e_neg, e_cmp, e_chain, e_isN, e_notN, e_and, e_or, e_not, e_ite, e_call, e_callK, prm_some, e_bi, e_tup, e_lst, lstK, tupK, e_ix, e_sl, eo_none, eo_some, in_int, e_mt, e_bits, bt_int, ng_int, e_comp, e_gc, es_nil, es_cons, tg_var, tg_tup, tg_sub, tgs_nil, tgs_cons, it_list, it_tup, it_rng1, it_rng2, it_enum, src_tup, src_fro, src_rng, src_enum, op_add, op_sub, op_mul, op_fdiv, op_mod, op_pow, op_shl, op_shr, op_addt, cm_lt, cm_le, cm_gt, cm_ge, cm_eq, cm_ne, cm_eq_bl, cm_ne_bl, cm_eq_str, cm_ne_str, tr_bl, tr_int, tr_non, ch_bl, cond_dec, cond_not, cond_t, cond_f, cond_ne, au_add, au_sub, b_len_tup, b_int, b_int_bl, b_abs, b_max, b_min, at_some, x_tup, isi_non_int, isi_non_bool, isi_non_str, isi_non_tuple, isi_non_list, isi_non_dict, isi_bl_int, isi_bl_bool, isi_bl_str, isi_bl_tuple, isi_bl_list, isi_bl_dict, isi_int_int, isi_int_bool, isi_int_str, isi_int_tuple, isi_int_list, isi_int_dict, isi_str_int, isi_str_bool, isi_str_str, isi_str_tuple, isi_str_list, isi_str_dict, isi_tup_int, isi_tup_bool, isi_tup_str, isi_tup_tuple, isi_tup_list, isi_tup_dict, isi_fro_int, isi_fro_bool, isi_fro_str, isi_fro_tuple, isi_fro_list, isi_fro_dict, PV.isNon, eq_self, decide_true, Bool.not_true, Bool.not_false, sl_fro, gc_pure, cl_lst, cl_dK, cx_ref, cx_str, cop_add, cb_len, cl_q, cm_append, cm_pop, pop_snoc, cm_extend, csrc, ctg, ixs, gc_ref, gc_ref0, sizeLine_eq, Nat.reduceLeDiff, Int.reduceLT, Int.reduceLE, true_and, and_true, st_new0, st_newk, st_set0, st_setk, List.getElem?_cons_zero, List.getElem?_cons_succ, List.append_assoc, List.cons_append, List.nil_append, List.append_nil, List.length_append, List.length_cons, List.length_nil, Nat.zero_add, Nat.reduceAdd, List.set_cons_zero, List.set_cons_succ, stV, getV0, getVs, setV0, setVs, q_law_dice_f2]
      have r0 := Int.emod_nonneg (mixed * 16807 + cell % 1000003 + 167 * (0 + (j : Int)) + (i : Int)) (b := 2147483647) (by decide)
      have r1 := Int.emod_lt_of_pos (mixed * 16807 + cell % 1000003 + 167 * (0 + (j : Int)) + (i : Int)) (b := 2147483647) (by decide)
      have hpush : ∀ w : Int, 0 ≤ w → w < 1000 → (∀ z ∈ pool ++ [w], 0 ≤ z ∧ z < 1000) ∧ (pool ++ [w]).length ≤ 20 * i + (j + 1) := fun w h0 h1 => by
        refine ⟨fun z hz => ?_, by rw [List.length_append, List.length_singleton]; omega⟩
        rcases List.mem_append.mp hz with h | h
        · exact hp z h
        · rw [List.mem_singleton.mp h]
          exact ⟨h0, h1⟩
      have hmap : ∀ w : Int, pool.map PV.int ++ [PV.int w] = (pool ++ [w]).map PV.int := fun w => by simp
      refine ⟨cmul (a := 31) (b := 15) (by omega) (by decide) (by decide), cmul (a := 8) (b := 5) (by decide) (by omega) (by decide), ?_⟩
      cases great with
      | true =>
        simp only [ss_nil, ss_cons, s_asgv, s_asgt, s_para, s_auga, s_exp, s_retE, s_retNon, s_if, s_while, s_fo, s_break, s_conti, s_ps, e_var, varK, e_int, e_bl, e_non, e_str, e_ty, e_bin, e_neg, e_cmp, e_chain, e_isN, e_notN, e_and, e_or, e_not, e_ite, e_call, e_callK, prm_some, e_bi, e_tup, e_lst, lstK, tupK, e_ix, e_sl, eo_none, eo_some, in_int, e_mt, e_bits, bt_int, ng_int, e_comp, e_gc, es_nil, es_cons, tg_var, tg_tup, tg_sub, tgs_nil, tgs_cons, it_list, it_tup, it_rng1, it_rng2, it_enum, src_tup, src_fro, src_rng, src_enum, op_add, op_sub, op_mul, op_fdiv, op_mod, op_pow, op_shl, op_shr, op_addt, cm_lt, cm_le, cm_gt, cm_ge, cm_eq, cm_ne, cm_eq_bl, cm_ne_bl, cm_eq_str, cm_ne_str, tr_bl, tr_int, tr_non, ch_bl, cond_dec, cond_not, cond_t, cond_f, cond_ne, au_add, au_sub, b_len_tup, b_int, b_int_bl, b_abs, b_max, b_min, at_some, x_tup, isi_non_int, isi_non_bool, isi_non_str, isi_non_tuple, isi_non_list, isi_non_dict, isi_bl_int, isi_bl_bool, isi_bl_str, isi_bl_tuple, isi_bl_list, isi_bl_dict, isi_int_int, isi_int_bool, isi_int_str, isi_int_tuple, isi_int_list, isi_int_dict, isi_str_int, isi_str_bool, isi_str_str, isi_str_tuple, isi_str_list, isi_str_dict, isi_tup_int, isi_tup_bool, isi_tup_str, isi_tup_tuple, isi_tup_list, isi_tup_dict, isi_fro_int, isi_fro_bool, isi_fro_str, isi_fro_tuple, isi_fro_list, isi_fro_dict, PV.isNon, eq_self, decide_true, Bool.not_true, Bool.not_false, sl_fro, gc_pure, cl_lst, cl_dK, cx_ref, cx_str, cop_add, cb_len, cl_q, cm_append, cm_pop, pop_snoc, cm_extend, csrc, ctg, ixs, gc_ref, gc_ref0, sizeLine_eq, Nat.reduceLeDiff, Int.reduceLT, Int.reduceLE, true_and, and_true, st_new0, st_newk, st_set0, st_setk, List.getElem?_cons_zero, List.getElem?_cons_succ, List.append_assoc, List.cons_append, List.nil_append, List.append_nil, List.length_append, List.length_cons, List.length_nil, Nat.zero_add, Nat.reduceAdd, List.set_cons_zero, List.set_cons_succ, stV, getV0, getVs, setV0, setVs]
        refine ⟨by rw [List.length_map]; omega, pylong_small (by decide +kernel), _, _, pool ++ [cell % 1000], _, rfl, by rw [hmap], r0, r1, hpush _ (Int.emod_nonneg _ (by decide)) (Int.emod_lt_of_pos _ (by decide))⟩
      | false =>
        simp only [ss_nil, ss_cons, s_asgv, s_asgt, s_para, s_auga, s_exp, s_retE, s_retNon, s_if, s_while, s_fo, s_break, s_conti, s_ps, e_var, varK, e_int, e_bl, e_non, e_str, e_ty, e_bin, e_neg, e_cmp, e_chain, e_isN, e_notN, e_and, e_or, e_not, e_ite, e_call, e_callK, prm_some, e_bi, e_tup, e_lst, lstK, tupK, e_ix, e_sl, eo_none, eo_some, in_int, e_mt, e_bits, bt_int, ng_int, e_comp, e_gc, es_nil, es_cons, tg_var, tg_tup, tg_sub, tgs_nil, tgs_cons, it_list, it_tup, it_rng1, it_rng2, it_enum, src_tup, src_fro, src_rng, src_enum, op_add, op_sub, op_mul, op_fdiv, op_mod, op_pow, op_shl, op_shr, op_addt, cm_lt, cm_le, cm_gt, cm_ge, cm_eq, cm_ne, cm_eq_bl, cm_ne_bl, cm_eq_str, cm_ne_str, tr_bl, tr_int, tr_non, ch_bl, cond_dec, cond_not, cond_t, cond_f, cond_ne, au_add, au_sub, b_len_tup, b_int, b_int_bl, b_abs, b_max, b_min, at_some, x_tup, isi_non_int, isi_non_bool, isi_non_str, isi_non_tuple, isi_non_list, isi_non_dict, isi_bl_int, isi_bl_bool, isi_bl_str, isi_bl_tuple, isi_bl_list, isi_bl_dict, isi_int_int, isi_int_bool, isi_int_str, isi_int_tuple, isi_int_list, isi_int_dict, isi_str_int, isi_str_bool, isi_str_str, isi_str_tuple, isi_str_list, isi_str_dict, isi_tup_int, isi_tup_bool, isi_tup_str, isi_tup_tuple, isi_tup_list, isi_tup_dict, isi_fro_int, isi_fro_bool, isi_fro_str, isi_fro_tuple, isi_fro_list, isi_fro_dict, PV.isNon, eq_self, decide_true, Bool.not_true, Bool.not_false, sl_fro, gc_pure, cl_lst, cl_dK, cx_ref, cx_str, cop_add, cb_len, cl_q, cm_append, cm_pop, pop_snoc, cm_extend, csrc, ctg, ixs, gc_ref, gc_ref0, sizeLine_eq, Nat.reduceLeDiff, Int.reduceLT, Int.reduceLE, true_and, and_true, st_new0, st_newk, st_set0, st_setk, List.getElem?_cons_zero, List.getElem?_cons_succ, List.append_assoc, List.cons_append, List.nil_append, List.append_nil, List.length_append, List.length_cons, List.length_nil, Nat.zero_add, Nat.reduceAdd, List.set_cons_zero, List.set_cons_succ, stV, getV0, getVs, setV0, setVs]
        refine ⟨fun _ => ⟨fun _ => ⟨pylong_small (by decide +kernel), by rw [List.length_map]; omega, _, _, pool ++ [_], _, rfl, by rw [hmap], r0, r1, hpush _ (Int.emod_nonneg _ (by decide)) (Int.emod_lt_of_pos _ (by decide))⟩, fun _ => ⟨_, _, pool, _, rfl, rfl, r0, r1, hp, by omega⟩⟩, fun _ => ⟨_, _, pool, _, rfl, rfl, r0, r1, hp, by omega⟩⟩
    · rintro e M' ⟨mixed, cell, pool, o7, rfl, eM, hm0, hm1, hp, hpl⟩
      cases eM
      simp only [ss_nil, ss_cons, s_asgv, s_asgt, s_para, s_auga, s_exp, s_retE, s_retNon, s_if, s_while, s_fo, s_break, s_conti, s_ps, e_var, varK, e_int, e_bl, e_non, e_str, e_ty, e_bin, e_neg, e_cmp, e_chain, e_isN, e_notN, e_and, e_or, e_not, e_ite, e_call, e_callK, prm_some, e_bi, e_tup, e_lst, lstK, tupK, e_ix, e_sl, eo_none, eo_some, in_int, e_mt, e_bits, bt_int, ng_int, e_comp, e_gc, es_nil, es_cons, tg_var, tg_tup, tg_sub, tgs_nil, tgs_cons, it_list, it_tup, it_rng1, it_rng2, it_enum, src_tup, src_fro, src_rng, src_enum, op_add, op_sub, op_mul, op_fdiv, op_mod, op_pow, op_shl, op_shr, op_addt, cm_lt, cm_le, cm_gt, cm_ge, cm_eq, cm_ne, cm_eq_bl, cm_ne_bl, cm_eq_str, cm_ne_str, tr_bl, tr_int, tr_non, ch_bl, cond_dec, cond_not, cond_t, cond_f, cond_ne, au_add, au_sub, b_len_tup, b_int, b_int_bl, b_abs, b_max, b_min, at_some, x_tup, isi_non_int, isi_non_bool, isi_non_str, isi_non_tuple, isi_non_list, isi_non_dict, isi_bl_int, isi_bl_bool, isi_bl_str, isi_bl_tuple, isi_bl_list, isi_bl_dict, isi_int_int, isi_int_bool, isi_int_str, isi_int_tuple, isi_int_list, isi_int_dict, isi_str_int, isi_str_bool, isi_str_str, isi_str_tuple, isi_str_list, isi_str_dict, isi_tup_int, isi_tup_bool, isi_tup_str, isi_tup_tuple, isi_tup_list, isi_tup_dict, isi_fro_int, isi_fro_bool, isi_fro_str, isi_fro_tuple, isi_fro_list, isi_fro_dict, PV.isNon, eq_self, decide_true, Bool.not_true, Bool.not_false, sl_fro, gc_pure, cl_lst, cl_dK, cx_ref, cx_str, cop_add, cb_len, cl_q, cm_append, cm_pop, pop_snoc, cm_extend, csrc, ctg, ixs, gc_ref, gc_ref0, sizeLine_eq, Nat.reduceLeDiff, Int.reduceLT, Int.reduceLE, true_and, and_true, st_new0, st_newk, st_set0, st_setk, List.getElem?_cons_zero, List.getElem?_cons_succ, List.append_assoc, List.cons_append, List.nil_append, List.append_nil, List.length_append, List.length_cons, List.length_nil, Nat.zero_add, Nat.reduceAdd, List.set_cons_zero, List.set_cons_succ, stV, getV0, getVs, setV0, setVs]
      have hl20 : pool.length ≤ 20 * (i + 1) := by
        have : (rngItems 0 ((20 : Int) - 0).toNat).length = 20 := by rw [rng_len]; rfl
        dsimp only at hpl
        rw [this] at hpl
        omega
      exact ⟨_, pool, _, _, _, _, _, rfl, rfl, hm0, hm1, hp, hl20⟩
  · rintro e M' ⟨mixed, pool, o3, o4, o5, o6, o7, rfl, eM, hm0, hm1, hp, hpl⟩
    cases eM
    simp only [ss_nil, ss_cons, s_asgv, s_asgt, s_para, s_auga, s_exp, s_retE, s_retNon, s_if, s_while, s_fo, s_break, s_conti, s_ps, e_var, varK, e_int, e_bl, e_non, e_str, e_ty, e_bin, e_neg, e_cmp, e_chain, e_isN, e_notN, e_and, e_or, e_not, e_ite, e_call, e_callK, prm_some, e_bi, e_tup, e_lst, lstK, tupK, e_ix, e_sl, eo_none, eo_some, in_int, e_mt, e_bits, bt_int, ng_int, e_comp, e_gc, es_nil, es_cons, tg_var, tg_tup, tg_sub, tgs_nil, tgs_cons, it_list, it_tup, it_rng1, it_rng2, it_enum, src_tup, src_fro, src_rng, src_enum, op_add, op_sub, op_mul, op_fdiv, op_mod, op_pow, op_shl, op_shr, op_addt, cm_lt, cm_le, cm_gt, cm_ge, cm_eq, cm_ne, cm_eq_bl, cm_ne_bl, cm_eq_str, cm_ne_str, tr_bl, tr_int, tr_non, ch_bl, cond_dec, cond_not, cond_t, cond_f, cond_ne, au_add, au_sub, b_len_tup, b_int, b_int_bl, b_abs, b_max, b_min, at_some, x_tup, isi_non_int, isi_non_bool, isi_non_str, isi_non_tuple, isi_non_list, isi_non_dict, isi_bl_int, isi_bl_bool, isi_bl_str, isi_bl_tuple, isi_bl_list, isi_bl_dict, isi_int_int, isi_int_bool, isi_int_str, isi_int_tuple, isi_int_list, isi_int_dict, isi_str_int, isi_str_bool, isi_str_str, isi_str_tuple, isi_str_list, isi_str_dict, isi_tup_int, isi_tup_bool, isi_tup_str, isi_tup_tuple, isi_tup_list, isi_tup_dict, isi_fro_int, isi_fro_bool, isi_fro_str, isi_fro_tuple, isi_fro_list, isi_fro_dict, PV.isNon, eq_self, decide_true, Bool.not_true, Bool.not_false, sl_fro, gc_pure, cl_lst, cl_dK, cx_ref, cx_str, cop_add, cb_len, cl_q, cm_append, cm_pop, pop_snoc, cm_extend, csrc, ctg, ixs, gc_ref, gc_ref0, sizeLine_eq, Nat.reduceLeDiff, Int.reduceLT, Int.reduceLE, true_and, and_true, st_new0, st_newk, st_set0, st_setk, List.getElem?_cons_zero, List.getElem?_cons_succ, List.append_assoc, List.cons_append, List.nil_append, List.append_nil, List.length_append, List.length_cons, List.length_nil, Nat.zero_add, Nat.reduceAdd, List.set_cons_zero, List.set_cons_succ, stV, getV0, getVs, setV0, setVs]
    refine ⟨_, _, _, rfl, by omega, mixed, 0, pool, ?_, ?_, hm0, hm1, by decide, hp⟩
    · rw [st_newk]
      rfl
    · rw [st_new0]
end Q

namespace Q
open PySem PySem.Spec PyProof.Rows L2
theorem gc_val {M M' : Store} {v : PV} {P : PV → Prop} (h : P v) : Gc M v ⟨M'⟩ fun v _ => P v := by
  refine ⟨?_⟩
  unfold gcR
  split
  · exact h
  · split <;> exact h
theorem root_ex {x : Int} (hx : 0 ≤ x) (hb : x.natAbs < 2 ^ 17000) : ∃ r, IsRoot x r := by
  obtain ⟨_, _, _, _, r, _, h⟩ := (whole_root_do (T := fun _ => some q_whole_root) (n := 0) (M := []) rfl hx hb).out.out
  exact ⟨r, h⟩
theorem law_do {ns : List Int} {n : Nat} (hl : ns.length ≤ 63) : Does (tabs ds) (n + 4) 12 [.fro ns] [] fun v _ => v = .bl true := by
  have h0 : tabs ds 0 = some q_whole_root := rfl
  have h1 : tabs ds 1 = some q_is_square := rfl
  have h2 : tabs ds 2 = some q_root_bounds := rfl
  have h3 : tabs ds 3 = some q_law_dice := rfl
  have h4 : tabs ds 4 = some q_law_draw := rfl
  have h5 : tabs ds 5 = some q_law_same := rfl
  have h6 : tabs ds 6 = some q_law_great := rfl
  have h7 : tabs ds 7 = some q_law_root := rfl
  have h8 : tabs ds 8 = some q_law_beside := rfl
  have h9 : tabs ds 9 = some q_law_rooted := rfl
  have h10 : tabs ds 10 = some q_law_bounded := rfl
  have h11 : tabs ds 11 = some q_law_bounds := rfl
  generalize hT : tabs ds = T at *
  have h12 : T 12 = some q_law := by rw [← hT]; rfl
  clear hT
  refine does_of h12 rfl rfl ?_
  simp only [ss_nil, ss_cons, s_asgv, s_asgt, s_para, s_auga, s_exp, s_retE, s_retNon, s_if, s_while, s_fo, s_break, s_conti, s_ps, e_var, varK, e_int, e_bl, e_non, e_str, e_ty, e_bin, e_neg, e_cmp, e_chain, e_isN, e_notN, e_and, e_or, e_not, e_ite, e_call, e_callK, prm_some, e_bi, e_tup, e_lst, lstK, tupK, e_ix, e_sl, eo_none, eo_some, in_int, e_mt, e_bits, bt_int, ng_int, e_comp, e_gc, es_nil, es_cons, tg_var, tg_tup, tg_sub, tgs_nil, tgs_cons, it_list, it_tup, it_rng1, it_rng2, it_enum, src_tup, src_fro, src_rng, src_enum, op_add, op_sub, op_mul, op_fdiv, op_mod, op_pow, op_shl, op_shr, op_addt, cm_lt, cm_le, cm_gt, cm_ge, cm_eq, cm_ne, cm_eq_bl, cm_ne_bl, cm_eq_str, cm_ne_str, tr_bl, tr_int, tr_non, ch_bl, cond_dec, cond_not, cond_t, cond_f, cond_ne, au_add, au_sub, b_len_tup, b_int, b_int_bl, b_abs, b_max, b_min, at_some, x_tup, isi_non_int, isi_non_bool, isi_non_str, isi_non_tuple, isi_non_list, isi_non_dict, isi_bl_int, isi_bl_bool, isi_bl_str, isi_bl_tuple, isi_bl_list, isi_bl_dict, isi_int_int, isi_int_bool, isi_int_str, isi_int_tuple, isi_int_list, isi_int_dict, isi_str_int, isi_str_bool, isi_str_str, isi_str_tuple, isi_str_list, isi_str_dict, isi_tup_int, isi_tup_bool, isi_tup_str, isi_tup_tuple, isi_tup_list, isi_tup_dict, isi_fro_int, isi_fro_bool, isi_fro_str, isi_fro_tuple, isi_fro_list, isi_fro_dict, PV.isNon, eq_self, decide_true, Bool.not_true, Bool.not_false, sl_fro, gc_pure, cl_lst, cl_dK, cx_ref, cx_str, cop_add, cb_len, cl_q, cm_append, cm_pop, pop_snoc, cm_extend, csrc, ctg, ixs, gc_ref, gc_ref0, sizeLine_eq, Nat.reduceLeDiff, Int.reduceLT, Int.reduceLE, true_and, and_true, st_new0, st_newk, st_set0, st_setk, List.getElem?_cons_zero, List.getElem?_cons_succ, List.append_assoc, List.cons_append, List.nil_append, List.append_nil, List.length_append, List.length_cons, List.length_nil, Nat.zero_add, Nat.reduceAdd, List.set_cons_zero, List.set_cons_succ, stV, getV0, getVs, setV0, setVs, q_law]
  refine cl_of (law_dice_do h3 hl) ?_
  rintro v M ⟨rfl, c0, c1, c2, hM, hd⟩
  clear hM
  generalize ([] : Store).length = p at hd
  generalize p + 2 = d at hd
  simp only [ss_nil, ss_cons, s_asgv, s_asgt, s_para, s_auga, s_exp, s_retE, s_retNon, s_if, s_while, s_fo, s_break, s_conti, s_ps, e_var, varK, e_int, e_bl, e_non, e_str, e_ty, e_bin, e_neg, e_cmp, e_chain, e_isN, e_notN, e_and, e_or, e_not, e_ite, e_call, e_callK, prm_some, e_bi, e_tup, e_lst, lstK, tupK, e_ix, e_sl, eo_none, eo_some, in_int, e_mt, e_bits, bt_int, ng_int, e_comp, e_gc, es_nil, es_cons, tg_var, tg_tup, tg_sub, tgs_nil, tgs_cons, it_list, it_tup, it_rng1, it_rng2, it_enum, src_tup, src_fro, src_rng, src_enum, op_add, op_sub, op_mul, op_fdiv, op_mod, op_pow, op_shl, op_shr, op_addt, cm_lt, cm_le, cm_gt, cm_ge, cm_eq, cm_ne, cm_eq_bl, cm_ne_bl, cm_eq_str, cm_ne_str, tr_bl, tr_int, tr_non, ch_bl, cond_dec, cond_not, cond_t, cond_f, cond_ne, au_add, au_sub, b_len_tup, b_int, b_int_bl, b_abs, b_max, b_min, at_some, x_tup, isi_non_int, isi_non_bool, isi_non_str, isi_non_tuple, isi_non_list, isi_non_dict, isi_bl_int, isi_bl_bool, isi_bl_str, isi_bl_tuple, isi_bl_list, isi_bl_dict, isi_int_int, isi_int_bool, isi_int_str, isi_int_tuple, isi_int_list, isi_int_dict, isi_str_int, isi_str_bool, isi_str_str, isi_str_tuple, isi_str_list, isi_str_dict, isi_tup_int, isi_tup_bool, isi_tup_str, isi_tup_tuple, isi_tup_list, isi_tup_dict, isi_fro_int, isi_fro_bool, isi_fro_str, isi_fro_tuple, isi_fro_list, isi_fro_dict, PV.isNon, eq_self, decide_true, Bool.not_true, Bool.not_false, sl_fro, gc_pure, cl_lst, cl_dK, cx_ref, cx_str, cop_add, cb_len, cl_q, cm_append, cm_pop, pop_snoc, cm_extend, csrc, ctg, ixs, gc_ref, gc_ref0, sizeLine_eq, Nat.reduceLeDiff, Int.reduceLT, Int.reduceLE, true_and, and_true, st_new0, st_newk, st_set0, st_setk, List.getElem?_cons_zero, List.getElem?_cons_succ, List.append_assoc, List.cons_append, List.nil_append, List.append_nil, List.length_append, List.length_cons, List.length_nil, Nat.zero_add, Nat.reduceAdd, List.set_cons_zero, List.set_cons_succ, stV, getV0, getVs, setV0, setVs]
  refine cl_of (law_draw_do h4 (hd.app _) (by decide)) ?_
  rintro v M1 ⟨z, rfl, hz0, hz1, ev⟩
  have hrows := ev.same M.length (by have := hd.lt; omega)
  rw [st_new0] at hrows
  have hd1 := ev.dice
  have hall : ∀ v ∈ [PV.tup [.int 0, .int 0, .bl true], .tup [.int 1, .int 1, .bl true], .tup [.int 2, .int 1, .bl false], .tup [.int 3, .int 1, .bl false], .tup [.int 4, .int 2, .bl true], .tup [.int 8, .int 2, .bl false], .tup [.int 9, .int 3, .bl true], .tup [.int 15, .int 3, .bl false], .tup [.int 16, .int 4, .bl true]], Row v := by
    have sm : ∀ x : Int, 0 ≤ x → x < 17 → x.natAbs < 2 ^ 17000 := fun x h0 h1 => lt_p2 (a := 5) (by omega) (by decide)
    intro v hv
    simp only [List.mem_cons, List.not_mem_nil, or_false] at hv
    rcases hv with rfl | rfl | rfl | rfl | rfl | rfl | rfl | rfl | rfl <;> exact ⟨_, _, _, rfl, ⟨by decide, by decide, by decide⟩, by decide, by decide, sm _ (by decide) (by decide)⟩
  obtain ⟨v, hv, hm⟩ := at_in hz0 (show z < ([PV.tup [.int 0, .int 0, .bl true], .tup [.int 1, .int 1, .bl true], .tup [.int 2, .int 1, .bl false], .tup [.int 3, .int 1, .bl false], .tup [.int 4, .int 2, .bl true], .tup [.int 8, .int 2, .bl false], .tup [.int 9, .int 3, .bl true], .tup [.int 15, .int 3, .bl false], .tup [.int 16, .int 4, .bl true]] : List PV).length from hz1)
  obtain ⟨x, r, b, rfl, hroot, rfl, hx0, hxs⟩ := hall v hm
  simp only [ss_nil, ss_cons, s_asgv, s_asgt, s_para, s_auga, s_exp, s_retE, s_retNon, s_if, s_while, s_fo, s_break, s_conti, s_ps, e_var, varK, e_int, e_bl, e_non, e_str, e_ty, e_bin, e_neg, e_cmp, e_chain, e_isN, e_notN, e_and, e_or, e_not, e_ite, e_call, e_callK, prm_some, e_bi, e_tup, e_lst, lstK, tupK, e_ix, e_sl, eo_none, eo_some, in_int, e_mt, e_bits, bt_int, ng_int, e_comp, e_gc, es_nil, es_cons, tg_var, tg_tup, tg_sub, tgs_nil, tgs_cons, it_list, it_tup, it_rng1, it_rng2, it_enum, src_tup, src_fro, src_rng, src_enum, op_add, op_sub, op_mul, op_fdiv, op_mod, op_pow, op_shl, op_shr, op_addt, cm_lt, cm_le, cm_gt, cm_ge, cm_eq, cm_ne, cm_eq_bl, cm_ne_bl, cm_eq_str, cm_ne_str, tr_bl, tr_int, tr_non, ch_bl, cond_dec, cond_not, cond_t, cond_f, cond_ne, au_add, au_sub, b_len_tup, b_int, b_int_bl, b_abs, b_max, b_min, at_some, x_tup, isi_non_int, isi_non_bool, isi_non_str, isi_non_tuple, isi_non_list, isi_non_dict, isi_bl_int, isi_bl_bool, isi_bl_str, isi_bl_tuple, isi_bl_list, isi_bl_dict, isi_int_int, isi_int_bool, isi_int_str, isi_int_tuple, isi_int_list, isi_int_dict, isi_str_int, isi_str_bool, isi_str_str, isi_str_tuple, isi_str_list, isi_str_dict, isi_tup_int, isi_tup_bool, isi_tup_str, isi_tup_tuple, isi_tup_list, isi_tup_dict, isi_fro_int, isi_fro_bool, isi_fro_str, isi_fro_tuple, isi_fro_list, isi_fro_dict, PV.isNon, eq_self, decide_true, Bool.not_true, Bool.not_false, sl_fro, gc_pure, cl_lst, cl_dK, cx_ref, cx_str, cop_add, cb_len, cl_q, cm_append, cm_pop, pop_snoc, cm_extend, csrc, ctg, ixs, gc_ref, gc_ref0, sizeLine_eq, Nat.reduceLeDiff, Int.reduceLT, Int.reduceLE, true_and, and_true, st_new0, st_newk, st_set0, st_setk, List.getElem?_cons_zero, List.getElem?_cons_succ, List.append_assoc, List.cons_append, List.nil_append, List.append_nil, List.length_append, List.length_cons, List.length_nil, Nat.zero_add, Nat.reduceAdd, List.set_cons_zero, List.set_cons_succ, stV, getV0, getVs, setV0, setVs, hrows, hv, permL]
  clear hall hv hrows ev
  generalize M.length = rr
  clear hd hm
  refine cl_of (whole_root_do h0 hx0 hxs) ?_
  rintro v M2 ⟨rfl, r1, rfl, hr1⟩
  simp only [ss_nil, ss_cons, s_asgv, s_asgt, s_para, s_auga, s_exp, s_retE, s_retNon, s_if, s_while, s_fo, s_break, s_conti, s_ps, e_var, varK, e_int, e_bl, e_non, e_str, e_ty, e_bin, e_neg, e_cmp, e_chain, e_isN, e_notN, e_and, e_or, e_not, e_ite, e_call, e_callK, prm_some, e_bi, e_tup, e_lst, lstK, tupK, e_ix, e_sl, eo_none, eo_some, in_int, e_mt, e_bits, bt_int, ng_int, e_comp, e_gc, es_nil, es_cons, tg_var, tg_tup, tg_sub, tgs_nil, tgs_cons, it_list, it_tup, it_rng1, it_rng2, it_enum, src_tup, src_fro, src_rng, src_enum, op_add, op_sub, op_mul, op_fdiv, op_mod, op_pow, op_shl, op_shr, op_addt, cm_lt, cm_le, cm_gt, cm_ge, cm_eq, cm_ne, cm_eq_bl, cm_ne_bl, cm_eq_str, cm_ne_str, tr_bl, tr_int, tr_non, ch_bl, cond_dec, cond_not, cond_t, cond_f, cond_ne, au_add, au_sub, b_len_tup, b_int, b_int_bl, b_abs, b_max, b_min, at_some, x_tup, isi_non_int, isi_non_bool, isi_non_str, isi_non_tuple, isi_non_list, isi_non_dict, isi_bl_int, isi_bl_bool, isi_bl_str, isi_bl_tuple, isi_bl_list, isi_bl_dict, isi_int_int, isi_int_bool, isi_int_str, isi_int_tuple, isi_int_list, isi_int_dict, isi_str_int, isi_str_bool, isi_str_str, isi_str_tuple, isi_str_list, isi_str_dict, isi_tup_int, isi_tup_bool, isi_tup_str, isi_tup_tuple, isi_tup_list, isi_tup_dict, isi_fro_int, isi_fro_bool, isi_fro_str, isi_fro_tuple, isi_fro_list, isi_fro_dict, PV.isNon, eq_self, decide_true, Bool.not_true, Bool.not_false, sl_fro, gc_pure, cl_lst, cl_dK, cx_ref, cx_str, cop_add, cb_len, cl_q, cm_append, cm_pop, pop_snoc, cm_extend, csrc, ctg, ixs, gc_ref, gc_ref0, sizeLine_eq, Nat.reduceLeDiff, Int.reduceLT, Int.reduceLE, true_and, and_true, st_new0, st_newk, st_set0, st_setk, List.getElem?_cons_zero, List.getElem?_cons_succ, List.append_assoc, List.cons_append, List.nil_append, List.append_nil, List.length_append, List.length_cons, List.length_nil, Nat.zero_add, Nat.reduceAdd, List.set_cons_zero, List.set_cons_succ, stV, getV0, getVs, setV0, setVs, permL]
  refine cl_of (is_square_do h0 h1 hx0 hxs) ?_
  rintro v M2 ⟨rfl, r2, rfl, hr2⟩
  have e1 := hr1.uniq hroot
  have e2 := hr2.uniq hroot
  subst e1
  subst e2
  simp only [ss_nil, ss_cons, s_asgv, s_asgt, s_para, s_auga, s_exp, s_retE, s_retNon, s_if, s_while, s_fo, s_break, s_conti, s_ps, e_var, varK, e_int, e_bl, e_non, e_str, e_ty, e_bin, e_neg, e_cmp, e_chain, e_isN, e_notN, e_and, e_or, e_not, e_ite, e_call, e_callK, prm_some, e_bi, e_tup, e_lst, lstK, tupK, e_ix, e_sl, eo_none, eo_some, in_int, e_mt, e_bits, bt_int, ng_int, e_comp, e_gc, es_nil, es_cons, tg_var, tg_tup, tg_sub, tgs_nil, tgs_cons, it_list, it_tup, it_rng1, it_rng2, it_enum, src_tup, src_fro, src_rng, src_enum, op_add, op_sub, op_mul, op_fdiv, op_mod, op_pow, op_shl, op_shr, op_addt, cm_lt, cm_le, cm_gt, cm_ge, cm_eq, cm_ne, cm_eq_bl, cm_ne_bl, cm_eq_str, cm_ne_str, tr_bl, tr_int, tr_non, ch_bl, cond_dec, cond_not, cond_t, cond_f, cond_ne, au_add, au_sub, b_len_tup, b_int, b_int_bl, b_abs, b_max, b_min, at_some, x_tup, isi_non_int, isi_non_bool, isi_non_str, isi_non_tuple, isi_non_list, isi_non_dict, isi_bl_int, isi_bl_bool, isi_bl_str, isi_bl_tuple, isi_bl_list, isi_bl_dict, isi_int_int, isi_int_bool, isi_int_str, isi_int_tuple, isi_int_list, isi_int_dict, isi_str_int, isi_str_bool, isi_str_str, isi_str_tuple, isi_str_list, isi_str_dict, isi_tup_int, isi_tup_bool, isi_tup_str, isi_tup_tuple, isi_tup_list, isi_tup_dict, isi_fro_int, isi_fro_bool, isi_fro_str, isi_fro_tuple, isi_fro_list, isi_fro_dict, PV.isNon, eq_self, decide_true, Bool.not_true, Bool.not_false, sl_fro, gc_pure, cl_lst, cl_dK, cx_ref, cx_str, cop_add, cb_len, cl_q, cm_append, cm_pop, pop_snoc, cm_extend, csrc, ctg, ixs, gc_ref, gc_ref0, sizeLine_eq, Nat.reduceLeDiff, Int.reduceLT, Int.reduceLE, true_and, and_true, st_new0, st_newk, st_set0, st_setk, List.getElem?_cons_zero, List.getElem?_cons_succ, List.append_assoc, List.cons_append, List.nil_append, List.append_nil, List.length_append, List.length_cons, List.length_nil, Nat.zero_add, Nat.reduceAdd, List.set_cons_zero, List.set_cons_succ, stV, getV0, getVs, setV0, setVs]
  refine cl_of (law_same_do h5 (by simp [PV.plain, PV.plains]) (by simp [PV.sz, PV.szs])) ?_
  rintro v M2 ⟨rfl, rfl⟩
  simp only [ss_nil, ss_cons, s_asgv, s_asgt, s_para, s_auga, s_exp, s_retE, s_retNon, s_if, s_while, s_fo, s_break, s_conti, s_ps, e_var, varK, e_int, e_bl, e_non, e_str, e_ty, e_bin, e_neg, e_cmp, e_chain, e_isN, e_notN, e_and, e_or, e_not, e_ite, e_call, e_callK, prm_some, e_bi, e_tup, e_lst, lstK, tupK, e_ix, e_sl, eo_none, eo_some, in_int, e_mt, e_bits, bt_int, ng_int, e_comp, e_gc, es_nil, es_cons, tg_var, tg_tup, tg_sub, tgs_nil, tgs_cons, it_list, it_tup, it_rng1, it_rng2, it_enum, src_tup, src_fro, src_rng, src_enum, op_add, op_sub, op_mul, op_fdiv, op_mod, op_pow, op_shl, op_shr, op_addt, cm_lt, cm_le, cm_gt, cm_ge, cm_eq, cm_ne, cm_eq_bl, cm_ne_bl, cm_eq_str, cm_ne_str, tr_bl, tr_int, tr_non, ch_bl, cond_dec, cond_not, cond_t, cond_f, cond_ne, au_add, au_sub, b_len_tup, b_int, b_int_bl, b_abs, b_max, b_min, at_some, x_tup, isi_non_int, isi_non_bool, isi_non_str, isi_non_tuple, isi_non_list, isi_non_dict, isi_bl_int, isi_bl_bool, isi_bl_str, isi_bl_tuple, isi_bl_list, isi_bl_dict, isi_int_int, isi_int_bool, isi_int_str, isi_int_tuple, isi_int_list, isi_int_dict, isi_str_int, isi_str_bool, isi_str_str, isi_str_tuple, isi_str_list, isi_str_dict, isi_tup_int, isi_tup_bool, isi_tup_str, isi_tup_tuple, isi_tup_list, isi_tup_dict, isi_fro_int, isi_fro_bool, isi_fro_str, isi_fro_tuple, isi_fro_list, isi_fro_dict, PV.isNon, eq_self, decide_true, Bool.not_true, Bool.not_false, sl_fro, gc_pure, cl_lst, cl_dK, cx_ref, cx_str, cop_add, cb_len, cl_q, cm_append, cm_pop, pop_snoc, cm_extend, csrc, ctg, ixs, gc_ref, gc_ref0, sizeLine_eq, Nat.reduceLeDiff, Int.reduceLT, Int.reduceLE, true_and, and_true, st_new0, st_newk, st_set0, st_setk, List.getElem?_cons_zero, List.getElem?_cons_succ, List.append_assoc, List.cons_append, List.nil_append, List.append_nil, List.length_append, List.length_cons, List.length_nil, Nat.zero_add, Nat.reduceAdd, List.set_cons_zero, List.set_cons_succ, stV, getV0, getVs, setV0, setVs]
  have z17 : (0 : Int).natAbs < 2 ^ 17000 := Nat.two_pow_pos _
  refine cl_of (whole_root_do h0 (Int.le_refl 0) z17) ?_
  rintro v M3 ⟨rfl, r3, rfl, hr3⟩
  simp only [ss_nil, ss_cons, s_asgv, s_asgt, s_para, s_auga, s_exp, s_retE, s_retNon, s_if, s_while, s_fo, s_break, s_conti, s_ps, e_var, varK, e_int, e_bl, e_non, e_str, e_ty, e_bin, e_neg, e_cmp, e_chain, e_isN, e_notN, e_and, e_or, e_not, e_ite, e_call, e_callK, prm_some, e_bi, e_tup, e_lst, lstK, tupK, e_ix, e_sl, eo_none, eo_some, in_int, e_mt, e_bits, bt_int, ng_int, e_comp, e_gc, es_nil, es_cons, tg_var, tg_tup, tg_sub, tgs_nil, tgs_cons, it_list, it_tup, it_rng1, it_rng2, it_enum, src_tup, src_fro, src_rng, src_enum, op_add, op_sub, op_mul, op_fdiv, op_mod, op_pow, op_shl, op_shr, op_addt, cm_lt, cm_le, cm_gt, cm_ge, cm_eq, cm_ne, cm_eq_bl, cm_ne_bl, cm_eq_str, cm_ne_str, tr_bl, tr_int, tr_non, ch_bl, cond_dec, cond_not, cond_t, cond_f, cond_ne, au_add, au_sub, b_len_tup, b_int, b_int_bl, b_abs, b_max, b_min, at_some, x_tup, isi_non_int, isi_non_bool, isi_non_str, isi_non_tuple, isi_non_list, isi_non_dict, isi_bl_int, isi_bl_bool, isi_bl_str, isi_bl_tuple, isi_bl_list, isi_bl_dict, isi_int_int, isi_int_bool, isi_int_str, isi_int_tuple, isi_int_list, isi_int_dict, isi_str_int, isi_str_bool, isi_str_str, isi_str_tuple, isi_str_list, isi_str_dict, isi_tup_int, isi_tup_bool, isi_tup_str, isi_tup_tuple, isi_tup_list, isi_tup_dict, isi_fro_int, isi_fro_bool, isi_fro_str, isi_fro_tuple, isi_fro_list, isi_fro_dict, PV.isNon, eq_self, decide_true, Bool.not_true, Bool.not_false, sl_fro, gc_pure, cl_lst, cl_dK, cx_ref, cx_str, cop_add, cb_len, cl_q, cm_append, cm_pop, pop_snoc, cm_extend, csrc, ctg, ixs, gc_ref, gc_ref0, sizeLine_eq, Nat.reduceLeDiff, Int.reduceLT, Int.reduceLE, true_and, and_true, st_new0, st_newk, st_set0, st_setk, List.getElem?_cons_zero, List.getElem?_cons_succ, List.append_assoc, List.cons_append, List.nil_append, List.append_nil, List.length_append, List.length_cons, List.length_nil, Nat.zero_add, Nat.reduceAdd, List.set_cons_zero, List.set_cons_succ, stV, getV0, getVs, setV0, setVs]
  refine cl_of (is_square_do h0 h1 (Int.le_refl 0) z17) ?_
  rintro v M3 ⟨rfl, r4, rfl, hr4⟩
  have hz : IsRoot 0 0 := ⟨by decide, by decide, by decide⟩
  have e1 := hr3.uniq hz
  have e2 := hr4.uniq hz
  subst e1
  subst e2
  have ez : decide ((0 : Int) * 0 = 0) = true := by decide
  rw [ez]
  simp only [ss_nil, ss_cons, s_asgv, s_asgt, s_para, s_auga, s_exp, s_retE, s_retNon, s_if, s_while, s_fo, s_break, s_conti, s_ps, e_var, varK, e_int, e_bl, e_non, e_str, e_ty, e_bin, e_neg, e_cmp, e_chain, e_isN, e_notN, e_and, e_or, e_not, e_ite, e_call, e_callK, prm_some, e_bi, e_tup, e_lst, lstK, tupK, e_ix, e_sl, eo_none, eo_some, in_int, e_mt, e_bits, bt_int, ng_int, e_comp, e_gc, es_nil, es_cons, tg_var, tg_tup, tg_sub, tgs_nil, tgs_cons, it_list, it_tup, it_rng1, it_rng2, it_enum, src_tup, src_fro, src_rng, src_enum, op_add, op_sub, op_mul, op_fdiv, op_mod, op_pow, op_shl, op_shr, op_addt, cm_lt, cm_le, cm_gt, cm_ge, cm_eq, cm_ne, cm_eq_bl, cm_ne_bl, cm_eq_str, cm_ne_str, tr_bl, tr_int, tr_non, ch_bl, cond_dec, cond_not, cond_t, cond_f, cond_ne, au_add, au_sub, b_len_tup, b_int, b_int_bl, b_abs, b_max, b_min, at_some, x_tup, isi_non_int, isi_non_bool, isi_non_str, isi_non_tuple, isi_non_list, isi_non_dict, isi_bl_int, isi_bl_bool, isi_bl_str, isi_bl_tuple, isi_bl_list, isi_bl_dict, isi_int_int, isi_int_bool, isi_int_str, isi_int_tuple, isi_int_list, isi_int_dict, isi_str_int, isi_str_bool, isi_str_str, isi_str_tuple, isi_str_list, isi_str_dict, isi_tup_int, isi_tup_bool, isi_tup_str, isi_tup_tuple, isi_tup_list, isi_tup_dict, isi_fro_int, isi_fro_bool, isi_fro_str, isi_fro_tuple, isi_fro_list, isi_fro_dict, PV.isNon, eq_self, decide_true, Bool.not_true, Bool.not_false, sl_fro, gc_pure, cl_lst, cl_dK, cx_ref, cx_str, cop_add, cb_len, cl_q, cm_append, cm_pop, pop_snoc, cm_extend, csrc, ctg, ixs, gc_ref, gc_ref0, sizeLine_eq, Nat.reduceLeDiff, Int.reduceLT, Int.reduceLE, true_and, and_true, st_new0, st_newk, st_set0, st_setk, List.getElem?_cons_zero, List.getElem?_cons_succ, List.append_assoc, List.cons_append, List.nil_append, List.append_nil, List.length_append, List.length_cons, List.length_nil, Nat.zero_add, Nat.reduceAdd, List.set_cons_zero, List.set_cons_succ, stV, getV0, getVs, setV0, setVs]
  refine cl_of (law_same_do h5 (by simp [PV.plain, PV.plains]) (by simp [PV.sz, PV.szs])) ?_
  rintro v M3 ⟨rfl, rfl⟩
  simp only [ss_nil, ss_cons, s_asgv, s_asgt, s_para, s_auga, s_exp, s_retE, s_retNon, s_if, s_while, s_fo, s_break, s_conti, s_ps, e_var, varK, e_int, e_bl, e_non, e_str, e_ty, e_bin, e_neg, e_cmp, e_chain, e_isN, e_notN, e_and, e_or, e_not, e_ite, e_call, e_callK, prm_some, e_bi, e_tup, e_lst, lstK, tupK, e_ix, e_sl, eo_none, eo_some, in_int, e_mt, e_bits, bt_int, ng_int, e_comp, e_gc, es_nil, es_cons, tg_var, tg_tup, tg_sub, tgs_nil, tgs_cons, it_list, it_tup, it_rng1, it_rng2, it_enum, src_tup, src_fro, src_rng, src_enum, op_add, op_sub, op_mul, op_fdiv, op_mod, op_pow, op_shl, op_shr, op_addt, cm_lt, cm_le, cm_gt, cm_ge, cm_eq, cm_ne, cm_eq_bl, cm_ne_bl, cm_eq_str, cm_ne_str, tr_bl, tr_int, tr_non, ch_bl, cond_dec, cond_not, cond_t, cond_f, cond_ne, au_add, au_sub, b_len_tup, b_int, b_int_bl, b_abs, b_max, b_min, at_some, x_tup, isi_non_int, isi_non_bool, isi_non_str, isi_non_tuple, isi_non_list, isi_non_dict, isi_bl_int, isi_bl_bool, isi_bl_str, isi_bl_tuple, isi_bl_list, isi_bl_dict, isi_int_int, isi_int_bool, isi_int_str, isi_int_tuple, isi_int_list, isi_int_dict, isi_str_int, isi_str_bool, isi_str_str, isi_str_tuple, isi_str_list, isi_str_dict, isi_tup_int, isi_tup_bool, isi_tup_str, isi_tup_tuple, isi_tup_list, isi_tup_dict, isi_fro_int, isi_fro_bool, isi_fro_str, isi_fro_tuple, isi_fro_list, isi_fro_dict, PV.isNon, eq_self, decide_true, Bool.not_true, Bool.not_false, sl_fro, gc_pure, cl_lst, cl_dK, cx_ref, cx_str, cop_add, cb_len, cl_q, cm_append, cm_pop, pop_snoc, cm_extend, csrc, ctg, ixs, gc_ref, gc_ref0, sizeLine_eq, Nat.reduceLeDiff, Int.reduceLT, Int.reduceLE, true_and, and_true, st_new0, st_newk, st_set0, st_setk, List.getElem?_cons_zero, List.getElem?_cons_succ, List.append_assoc, List.cons_append, List.nil_append, List.append_nil, List.length_append, List.length_cons, List.length_nil, Nat.zero_add, Nat.reduceAdd, List.set_cons_zero, List.set_cons_succ, stV, getV0, getVs, setV0, setVs]
  clear hr3 hr4 hr1 hr2
  refine cl_of (root_bounds_do h0 h2 (x := 2) (b := 0) (by decide) (by decide) (size_pow (by decide) (by decide) (by decide)) (by decide) (lt_p2 (a := 5) (by decide) (by decide))) ?_
  rintro v M4 ⟨rfl, a1, rfl, ha1⟩
  simp only [ss_nil, ss_cons, s_asgv, s_asgt, s_para, s_auga, s_exp, s_retE, s_retNon, s_if, s_while, s_fo, s_break, s_conti, s_ps, e_var, varK, e_int, e_bl, e_non, e_str, e_ty, e_bin, e_neg, e_cmp, e_chain, e_isN, e_notN, e_and, e_or, e_not, e_ite, e_call, e_callK, prm_some, e_bi, e_tup, e_lst, lstK, tupK, e_ix, e_sl, eo_none, eo_some, in_int, e_mt, e_bits, bt_int, ng_int, e_comp, e_gc, es_nil, es_cons, tg_var, tg_tup, tg_sub, tgs_nil, tgs_cons, it_list, it_tup, it_rng1, it_rng2, it_enum, src_tup, src_fro, src_rng, src_enum, op_add, op_sub, op_mul, op_fdiv, op_mod, op_pow, op_shl, op_shr, op_addt, cm_lt, cm_le, cm_gt, cm_ge, cm_eq, cm_ne, cm_eq_bl, cm_ne_bl, cm_eq_str, cm_ne_str, tr_bl, tr_int, tr_non, ch_bl, cond_dec, cond_not, cond_t, cond_f, cond_ne, au_add, au_sub, b_len_tup, b_int, b_int_bl, b_abs, b_max, b_min, at_some, x_tup, isi_non_int, isi_non_bool, isi_non_str, isi_non_tuple, isi_non_list, isi_non_dict, isi_bl_int, isi_bl_bool, isi_bl_str, isi_bl_tuple, isi_bl_list, isi_bl_dict, isi_int_int, isi_int_bool, isi_int_str, isi_int_tuple, isi_int_list, isi_int_dict, isi_str_int, isi_str_bool, isi_str_str, isi_str_tuple, isi_str_list, isi_str_dict, isi_tup_int, isi_tup_bool, isi_tup_str, isi_tup_tuple, isi_tup_list, isi_tup_dict, isi_fro_int, isi_fro_bool, isi_fro_str, isi_fro_tuple, isi_fro_list, isi_fro_dict, PV.isNon, eq_self, decide_true, Bool.not_true, Bool.not_false, sl_fro, gc_pure, cl_lst, cl_dK, cx_ref, cx_str, cop_add, cb_len, cl_q, cm_append, cm_pop, pop_snoc, cm_extend, csrc, ctg, ixs, gc_ref, gc_ref0, sizeLine_eq, Nat.reduceLeDiff, Int.reduceLT, Int.reduceLE, true_and, and_true, st_new0, st_newk, st_set0, st_setk, List.getElem?_cons_zero, List.getElem?_cons_succ, List.append_assoc, List.cons_append, List.nil_append, List.append_nil, List.length_append, List.length_cons, List.length_nil, Nat.zero_add, Nat.reduceAdd, List.set_cons_zero, List.set_cons_succ, stV, getV0, getVs, setV0, setVs]
  refine cl_of (root_bounds_do h0 h2 (x := 2) (b := 3) (by decide) (by decide) (size_pow (by decide) (by decide) (by decide)) (by decide) (lt_p2 (a := 5) (by decide) (by decide))) ?_
  rintro v M4 ⟨rfl, a2, rfl, ha2⟩
  simp only [ss_nil, ss_cons, s_asgv, s_asgt, s_para, s_auga, s_exp, s_retE, s_retNon, s_if, s_while, s_fo, s_break, s_conti, s_ps, e_var, varK, e_int, e_bl, e_non, e_str, e_ty, e_bin, e_neg, e_cmp, e_chain, e_isN, e_notN, e_and, e_or, e_not, e_ite, e_call, e_callK, prm_some, e_bi, e_tup, e_lst, lstK, tupK, e_ix, e_sl, eo_none, eo_some, in_int, e_mt, e_bits, bt_int, ng_int, e_comp, e_gc, es_nil, es_cons, tg_var, tg_tup, tg_sub, tgs_nil, tgs_cons, it_list, it_tup, it_rng1, it_rng2, it_enum, src_tup, src_fro, src_rng, src_enum, op_add, op_sub, op_mul, op_fdiv, op_mod, op_pow, op_shl, op_shr, op_addt, cm_lt, cm_le, cm_gt, cm_ge, cm_eq, cm_ne, cm_eq_bl, cm_ne_bl, cm_eq_str, cm_ne_str, tr_bl, tr_int, tr_non, ch_bl, cond_dec, cond_not, cond_t, cond_f, cond_ne, au_add, au_sub, b_len_tup, b_int, b_int_bl, b_abs, b_max, b_min, at_some, x_tup, isi_non_int, isi_non_bool, isi_non_str, isi_non_tuple, isi_non_list, isi_non_dict, isi_bl_int, isi_bl_bool, isi_bl_str, isi_bl_tuple, isi_bl_list, isi_bl_dict, isi_int_int, isi_int_bool, isi_int_str, isi_int_tuple, isi_int_list, isi_int_dict, isi_str_int, isi_str_bool, isi_str_str, isi_str_tuple, isi_str_list, isi_str_dict, isi_tup_int, isi_tup_bool, isi_tup_str, isi_tup_tuple, isi_tup_list, isi_tup_dict, isi_fro_int, isi_fro_bool, isi_fro_str, isi_fro_tuple, isi_fro_list, isi_fro_dict, PV.isNon, eq_self, decide_true, Bool.not_true, Bool.not_false, sl_fro, gc_pure, cl_lst, cl_dK, cx_ref, cx_str, cop_add, cb_len, cl_q, cm_append, cm_pop, pop_snoc, cm_extend, csrc, ctg, ixs, gc_ref, gc_ref0, sizeLine_eq, Nat.reduceLeDiff, Int.reduceLT, Int.reduceLE, true_and, and_true, st_new0, st_newk, st_set0, st_setk, List.getElem?_cons_zero, List.getElem?_cons_succ, List.append_assoc, List.cons_append, List.nil_append, List.append_nil, List.length_append, List.length_cons, List.length_nil, Nat.zero_add, Nat.reduceAdd, List.set_cons_zero, List.set_cons_succ, stV, getV0, getVs, setV0, setVs]
  refine cl_of (root_bounds_do h0 h2 (x := 9) (b := 1) (by decide) (by decide) (size_pow (by decide) (by decide) (by decide)) (by decide) (lt_p2 (a := 5) (by decide) (by decide))) ?_
  rintro v M4 ⟨rfl, a3, rfl, ha3⟩
  simp only [ss_nil, ss_cons, s_asgv, s_asgt, s_para, s_auga, s_exp, s_retE, s_retNon, s_if, s_while, s_fo, s_break, s_conti, s_ps, e_var, varK, e_int, e_bl, e_non, e_str, e_ty, e_bin, e_neg, e_cmp, e_chain, e_isN, e_notN, e_and, e_or, e_not, e_ite, e_call, e_callK, prm_some, e_bi, e_tup, e_lst, lstK, tupK, e_ix, e_sl, eo_none, eo_some, in_int, e_mt, e_bits, bt_int, ng_int, e_comp, e_gc, es_nil, es_cons, tg_var, tg_tup, tg_sub, tgs_nil, tgs_cons, it_list, it_tup, it_rng1, it_rng2, it_enum, src_tup, src_fro, src_rng, src_enum, op_add, op_sub, op_mul, op_fdiv, op_mod, op_pow, op_shl, op_shr, op_addt, cm_lt, cm_le, cm_gt, cm_ge, cm_eq, cm_ne, cm_eq_bl, cm_ne_bl, cm_eq_str, cm_ne_str, tr_bl, tr_int, tr_non, ch_bl, cond_dec, cond_not, cond_t, cond_f, cond_ne, au_add, au_sub, b_len_tup, b_int, b_int_bl, b_abs, b_max, b_min, at_some, x_tup, isi_non_int, isi_non_bool, isi_non_str, isi_non_tuple, isi_non_list, isi_non_dict, isi_bl_int, isi_bl_bool, isi_bl_str, isi_bl_tuple, isi_bl_list, isi_bl_dict, isi_int_int, isi_int_bool, isi_int_str, isi_int_tuple, isi_int_list, isi_int_dict, isi_str_int, isi_str_bool, isi_str_str, isi_str_tuple, isi_str_list, isi_str_dict, isi_tup_int, isi_tup_bool, isi_tup_str, isi_tup_tuple, isi_tup_list, isi_tup_dict, isi_fro_int, isi_fro_bool, isi_fro_str, isi_fro_tuple, isi_fro_list, isi_fro_dict, PV.isNon, eq_self, decide_true, Bool.not_true, Bool.not_false, sl_fro, gc_pure, cl_lst, cl_dK, cx_ref, cx_str, cop_add, cb_len, cl_q, cm_append, cm_pop, pop_snoc, cm_extend, csrc, ctg, ixs, gc_ref, gc_ref0, sizeLine_eq, Nat.reduceLeDiff, Int.reduceLT, Int.reduceLE, true_and, and_true, st_new0, st_newk, st_set0, st_setk, List.getElem?_cons_zero, List.getElem?_cons_succ, List.append_assoc, List.cons_append, List.nil_append, List.append_nil, List.length_append, List.length_cons, List.length_nil, Nat.zero_add, Nat.reduceAdd, List.set_cons_zero, List.set_cons_succ, stV, getV0, getVs, setV0, setVs]
  refine cl_of (root_bounds_do h0 h2 (x := 1) (b := 0) (by decide) (by decide) (size_pow (by decide) (by decide) (by decide)) (by decide) (lt_p2 (a := 5) (by decide) (by decide))) ?_
  rintro v M4 ⟨rfl, a4, rfl, ha4⟩
  have f1 := ha1.uniq (s := 1) ⟨by decide, by decide, by decide⟩
  have f2 := ha2.uniq (s := 11) ⟨by decide, by decide, by decide⟩
  have f3 := ha3.uniq (s := 6) ⟨by decide, by decide, by decide⟩
  have f4 := ha4.uniq (s := 1) ⟨by decide, by decide, by decide⟩
  subst f1
  subst f2
  subst f3
  subst f4
  rw [show ((1 : Int) + if (1 : Int) * 1 = 2 * 2 ^ ((2 : Int) * 0).toNat then 0 else 1) = 2 from by decide, show ((11 : Int) + if (11 : Int) * 11 = 2 * 2 ^ ((2 : Int) * 3).toNat then 0 else 1) = 12 from by decide,
    show ((6 : Int) + if (6 : Int) * 6 = 9 * 2 ^ ((2 : Int) * 1).toNat then 0 else 1) = 6 from by decide, show ((1 : Int) + if (1 : Int) * 1 = 1 * 2 ^ ((2 : Int) * 0).toNat then 0 else 1) = 1 from by decide]
  clear ha1 ha2 ha3 ha4
  simp only [ss_nil, ss_cons, s_asgv, s_asgt, s_para, s_auga, s_exp, s_retE, s_retNon, s_if, s_while, s_fo, s_break, s_conti, s_ps, e_var, varK, e_int, e_bl, e_non, e_str, e_ty, e_bin, e_neg, e_cmp, e_chain, e_isN, e_notN, e_and, e_or, e_not, e_ite, e_call, e_callK, prm_some, e_bi, e_tup, e_lst, lstK, tupK, e_ix, e_sl, eo_none, eo_some, in_int, e_mt, e_bits, bt_int, ng_int, e_comp, e_gc, es_nil, es_cons, tg_var, tg_tup, tg_sub, tgs_nil, tgs_cons, it_list, it_tup, it_rng1, it_rng2, it_enum, src_tup, src_fro, src_rng, src_enum, op_add, op_sub, op_mul, op_fdiv, op_mod, op_pow, op_shl, op_shr, op_addt, cm_lt, cm_le, cm_gt, cm_ge, cm_eq, cm_ne, cm_eq_bl, cm_ne_bl, cm_eq_str, cm_ne_str, tr_bl, tr_int, tr_non, ch_bl, cond_dec, cond_not, cond_t, cond_f, cond_ne, au_add, au_sub, b_len_tup, b_int, b_int_bl, b_abs, b_max, b_min, at_some, x_tup, isi_non_int, isi_non_bool, isi_non_str, isi_non_tuple, isi_non_list, isi_non_dict, isi_bl_int, isi_bl_bool, isi_bl_str, isi_bl_tuple, isi_bl_list, isi_bl_dict, isi_int_int, isi_int_bool, isi_int_str, isi_int_tuple, isi_int_list, isi_int_dict, isi_str_int, isi_str_bool, isi_str_str, isi_str_tuple, isi_str_list, isi_str_dict, isi_tup_int, isi_tup_bool, isi_tup_str, isi_tup_tuple, isi_tup_list, isi_tup_dict, isi_fro_int, isi_fro_bool, isi_fro_str, isi_fro_tuple, isi_fro_list, isi_fro_dict, PV.isNon, eq_self, decide_true, Bool.not_true, Bool.not_false, sl_fro, gc_pure, cl_lst, cl_dK, cx_ref, cx_str, cop_add, cb_len, cl_q, cm_append, cm_pop, pop_snoc, cm_extend, csrc, ctg, ixs, gc_ref, gc_ref0, sizeLine_eq, Nat.reduceLeDiff, Int.reduceLT, Int.reduceLE, true_and, and_true, st_new0, st_newk, st_set0, st_setk, List.getElem?_cons_zero, List.getElem?_cons_succ, List.append_assoc, List.cons_append, List.nil_append, List.append_nil, List.length_append, List.length_cons, List.length_nil, Nat.zero_add, Nat.reduceAdd, List.set_cons_zero, List.set_cons_succ, stV, getV0, getVs, setV0, setVs]
  refine cl_of (law_same_do h5 (by simp [PV.plain, PV.plains]) (by simp [PV.sz, PV.szs])) ?_
  rintro v M4 ⟨rfl, rfl⟩
  simp only [ss_nil, ss_cons, s_asgv, s_asgt, s_para, s_auga, s_exp, s_retE, s_retNon, s_if, s_while, s_fo, s_break, s_conti, s_ps, e_var, varK, e_int, e_bl, e_non, e_str, e_ty, e_bin, e_neg, e_cmp, e_chain, e_isN, e_notN, e_and, e_or, e_not, e_ite, e_call, e_callK, prm_some, e_bi, e_tup, e_lst, lstK, tupK, e_ix, e_sl, eo_none, eo_some, in_int, e_mt, e_bits, bt_int, ng_int, e_comp, e_gc, es_nil, es_cons, tg_var, tg_tup, tg_sub, tgs_nil, tgs_cons, it_list, it_tup, it_rng1, it_rng2, it_enum, src_tup, src_fro, src_rng, src_enum, op_add, op_sub, op_mul, op_fdiv, op_mod, op_pow, op_shl, op_shr, op_addt, cm_lt, cm_le, cm_gt, cm_ge, cm_eq, cm_ne, cm_eq_bl, cm_ne_bl, cm_eq_str, cm_ne_str, tr_bl, tr_int, tr_non, ch_bl, cond_dec, cond_not, cond_t, cond_f, cond_ne, au_add, au_sub, b_len_tup, b_int, b_int_bl, b_abs, b_max, b_min, at_some, x_tup, isi_non_int, isi_non_bool, isi_non_str, isi_non_tuple, isi_non_list, isi_non_dict, isi_bl_int, isi_bl_bool, isi_bl_str, isi_bl_tuple, isi_bl_list, isi_bl_dict, isi_int_int, isi_int_bool, isi_int_str, isi_int_tuple, isi_int_list, isi_int_dict, isi_str_int, isi_str_bool, isi_str_str, isi_str_tuple, isi_str_list, isi_str_dict, isi_tup_int, isi_tup_bool, isi_tup_str, isi_tup_tuple, isi_tup_list, isi_tup_dict, isi_fro_int, isi_fro_bool, isi_fro_str, isi_fro_tuple, isi_fro_list, isi_fro_dict, PV.isNon, eq_self, decide_true, Bool.not_true, Bool.not_false, sl_fro, gc_pure, cl_lst, cl_dK, cx_ref, cx_str, cop_add, cb_len, cl_q, cm_append, cm_pop, pop_snoc, cm_extend, csrc, ctg, ixs, gc_ref, gc_ref0, sizeLine_eq, Nat.reduceLeDiff, Int.reduceLT, Int.reduceLE, true_and, and_true, st_new0, st_newk, st_set0, st_setk, List.getElem?_cons_zero, List.getElem?_cons_succ, List.append_assoc, List.cons_append, List.nil_append, List.append_nil, List.length_append, List.length_cons, List.length_nil, Nat.zero_add, Nat.reduceAdd, List.set_cons_zero, List.set_cons_succ, stV, getV0, getVs, setV0, setVs]
  refine cl_of (law_draw_do h4 hd1 (by decide)) ?_
  rintro v M5 ⟨num, rfl, hn0, hn1, ev⟩
  have hd2 := ev.dice
  clear ev
  have hns : num.natAbs < 2 ^ 17000 := lt_p2 (a := 7) (by omega) (by decide)
  obtain ⟨rn, hrn⟩ := root_ex hn0 hns
  have hrn9 : rn ≤ 9 := by
    apply Int.not_lt.mp
    intro h
    have := sq_mono (a := 10) (b := rn) (by decide) (by omega)
    have := hrn.2.1
    omega
  have hrn0 := hrn.1
  simp only [ss_nil, ss_cons, s_asgv, s_asgt, s_para, s_auga, s_exp, s_retE, s_retNon, s_if, s_while, s_fo, s_break, s_conti, s_ps, e_var, varK, e_int, e_bl, e_non, e_str, e_ty, e_bin, e_neg, e_cmp, e_chain, e_isN, e_notN, e_and, e_or, e_not, e_ite, e_call, e_callK, prm_some, e_bi, e_tup, e_lst, lstK, tupK, e_ix, e_sl, eo_none, eo_some, in_int, e_mt, e_bits, bt_int, ng_int, e_comp, e_gc, es_nil, es_cons, tg_var, tg_tup, tg_sub, tgs_nil, tgs_cons, it_list, it_tup, it_rng1, it_rng2, it_enum, src_tup, src_fro, src_rng, src_enum, op_add, op_sub, op_mul, op_fdiv, op_mod, op_pow, op_shl, op_shr, op_addt, cm_lt, cm_le, cm_gt, cm_ge, cm_eq, cm_ne, cm_eq_bl, cm_ne_bl, cm_eq_str, cm_ne_str, tr_bl, tr_int, tr_non, ch_bl, cond_dec, cond_not, cond_t, cond_f, cond_ne, au_add, au_sub, b_len_tup, b_int, b_int_bl, b_abs, b_max, b_min, at_some, x_tup, isi_non_int, isi_non_bool, isi_non_str, isi_non_tuple, isi_non_list, isi_non_dict, isi_bl_int, isi_bl_bool, isi_bl_str, isi_bl_tuple, isi_bl_list, isi_bl_dict, isi_int_int, isi_int_bool, isi_int_str, isi_int_tuple, isi_int_list, isi_int_dict, isi_str_int, isi_str_bool, isi_str_str, isi_str_tuple, isi_str_list, isi_str_dict, isi_tup_int, isi_tup_bool, isi_tup_str, isi_tup_tuple, isi_tup_list, isi_tup_dict, isi_fro_int, isi_fro_bool, isi_fro_str, isi_fro_tuple, isi_fro_list, isi_fro_dict, PV.isNon, eq_self, decide_true, Bool.not_true, Bool.not_false, sl_fro, gc_pure, cl_lst, cl_dK, cx_ref, cx_str, cop_add, cb_len, cl_q, cm_append, cm_pop, pop_snoc, cm_extend, csrc, ctg, ixs, gc_ref, gc_ref0, sizeLine_eq, Nat.reduceLeDiff, Int.reduceLT, Int.reduceLE, true_and, and_true, st_new0, st_newk, st_set0, st_setk, List.getElem?_cons_zero, List.getElem?_cons_succ, List.append_assoc, List.cons_append, List.nil_append, List.append_nil, List.length_append, List.length_cons, List.length_nil, Nat.zero_add, Nat.reduceAdd, List.set_cons_zero, List.set_cons_succ, stV, getV0, getVs, setV0, setVs]
  refine cmp_rule (fun i acc B => B = ⟨M5⟩ ∧ acc.length = min i rn.toNat) ⟨rfl, by simp⟩ (fun _ _ _ _ _ => rfl) ?_ ?_
  · rintro i v acc M' hv ⟨eM, hacc⟩
    cases eM
    obtain ⟨rfl, hi⟩ := rng_get hv
    have hi2 : i < 11 := hi
    simp only [ss_nil, ss_cons, s_asgv, s_asgt, s_para, s_auga, s_exp, s_retE, s_retNon, s_if, s_while, s_fo, s_break, s_conti, s_ps, e_var, varK, e_int, e_bl, e_non, e_str, e_ty, e_bin, e_neg, e_cmp, e_chain, e_isN, e_notN, e_and, e_or, e_not, e_ite, e_call, e_callK, prm_some, e_bi, e_tup, e_lst, lstK, tupK, e_ix, e_sl, eo_none, eo_some, in_int, e_mt, e_bits, bt_int, ng_int, e_comp, e_gc, es_nil, es_cons, tg_var, tg_tup, tg_sub, tgs_nil, tgs_cons, it_list, it_tup, it_rng1, it_rng2, it_enum, src_tup, src_fro, src_rng, src_enum, op_add, op_sub, op_mul, op_fdiv, op_mod, op_pow, op_shl, op_shr, op_addt, cm_lt, cm_le, cm_gt, cm_ge, cm_eq, cm_ne, cm_eq_bl, cm_ne_bl, cm_eq_str, cm_ne_str, tr_bl, tr_int, tr_non, ch_bl, cond_dec, cond_not, cond_t, cond_f, cond_ne, au_add, au_sub, b_len_tup, b_int, b_int_bl, b_abs, b_max, b_min, at_some, x_tup, isi_non_int, isi_non_bool, isi_non_str, isi_non_tuple, isi_non_list, isi_non_dict, isi_bl_int, isi_bl_bool, isi_bl_str, isi_bl_tuple, isi_bl_list, isi_bl_dict, isi_int_int, isi_int_bool, isi_int_str, isi_int_tuple, isi_int_list, isi_int_dict, isi_str_int, isi_str_bool, isi_str_str, isi_str_tuple, isi_str_list, isi_str_dict, isi_tup_int, isi_tup_bool, isi_tup_str, isi_tup_tuple, isi_tup_list, isi_tup_dict, isi_fro_int, isi_fro_bool, isi_fro_str, isi_fro_tuple, isi_fro_list, isi_fro_dict, PV.isNon, eq_self, decide_true, Bool.not_true, Bool.not_false, sl_fro, gc_pure, cl_lst, cl_dK, cx_ref, cx_str, cop_add, cb_len, cl_q, cm_append, cm_pop, pop_snoc, cm_extend, csrc, ctg, ixs, gc_ref, gc_ref0, sizeLine_eq, Nat.reduceLeDiff, Int.reduceLT, Int.reduceLE, true_and, and_true, st_new0, st_newk, st_set0, st_setk, List.getElem?_cons_zero, List.getElem?_cons_succ, List.append_assoc, List.cons_append, List.nil_append, List.append_nil, List.length_append, List.length_cons, List.length_nil, Nat.zero_add, Nat.reduceAdd, List.set_cons_zero, List.set_cons_succ, stV, getV0, getVs, setV0, setVs, wipeVs, wipeV]
    refine ⟨cmul (a := 5) (b := 5) (by omega) (by omega) (by decide), fun hle => ⟨by omega, ?_⟩, fun hgt => ?_⟩
    · have := le_root (r := 1 + (i : Int)) (t := rn) (by omega) hrn0 hle hrn.2.2
      omega
    · have : ¬ (1 + (i : Int) ≤ rn) := fun h => hgt (Int.le_trans (sq_mono (by omega) h) hrn.2.1)
      omega
  · rintro acc M' ⟨eM, hacc⟩
    cases eM
    have hacc2 : acc.length = min 11 rn.toNat := by rw [hacc, rng_len]; rfl
    have hlen : (acc.length : Int) = rn := by omega
    simp only [ss_nil, ss_cons, s_asgv, s_asgt, s_para, s_auga, s_exp, s_retE, s_retNon, s_if, s_while, s_fo, s_break, s_conti, s_ps, e_var, varK, e_int, e_bl, e_non, e_str, e_ty, e_bin, e_neg, e_cmp, e_chain, e_isN, e_notN, e_and, e_or, e_not, e_ite, e_call, e_callK, prm_some, e_bi, e_tup, e_lst, lstK, tupK, e_ix, e_sl, eo_none, eo_some, in_int, e_mt, e_bits, bt_int, ng_int, e_comp, e_gc, es_nil, es_cons, tg_var, tg_tup, tg_sub, tgs_nil, tgs_cons, it_list, it_tup, it_rng1, it_rng2, it_enum, src_tup, src_fro, src_rng, src_enum, op_add, op_sub, op_mul, op_fdiv, op_mod, op_pow, op_shl, op_shr, op_addt, cm_lt, cm_le, cm_gt, cm_ge, cm_eq, cm_ne, cm_eq_bl, cm_ne_bl, cm_eq_str, cm_ne_str, tr_bl, tr_int, tr_non, ch_bl, cond_dec, cond_not, cond_t, cond_f, cond_ne, au_add, au_sub, b_len_tup, b_int, b_int_bl, b_abs, b_max, b_min, at_some, x_tup, isi_non_int, isi_non_bool, isi_non_str, isi_non_tuple, isi_non_list, isi_non_dict, isi_bl_int, isi_bl_bool, isi_bl_str, isi_bl_tuple, isi_bl_list, isi_bl_dict, isi_int_int, isi_int_bool, isi_int_str, isi_int_tuple, isi_int_list, isi_int_dict, isi_str_int, isi_str_bool, isi_str_str, isi_str_tuple, isi_str_list, isi_str_dict, isi_tup_int, isi_tup_bool, isi_tup_str, isi_tup_tuple, isi_tup_list, isi_tup_dict, isi_fro_int, isi_fro_bool, isi_fro_str, isi_fro_tuple, isi_fro_list, isi_fro_dict, PV.isNon, eq_self, decide_true, Bool.not_true, Bool.not_false, sl_fro, gc_pure, cl_lst, cl_dK, cx_ref, cx_str, cop_add, cb_len, cl_q, cm_append, cm_pop, pop_snoc, cm_extend, csrc, ctg, ixs, gc_ref, gc_ref0, sizeLine_eq, Nat.reduceLeDiff, Int.reduceLT, Int.reduceLE, true_and, and_true, st_new0, st_newk, st_set0, st_setk, List.getElem?_cons_zero, List.getElem?_cons_succ, List.append_assoc, List.cons_append, List.nil_append, List.append_nil, List.length_append, List.length_cons, List.length_nil, Nat.zero_add, Nat.reduceAdd, List.set_cons_zero, List.set_cons_succ, stV, getV0, getVs, setV0, setVs]
    rw [gc_drop (by simp [PV.low]), hlen]
    simp only [ss_nil, ss_cons, s_asgv, s_asgt, s_para, s_auga, s_exp, s_retE, s_retNon, s_if, s_while, s_fo, s_break, s_conti, s_ps, e_var, varK, e_int, e_bl, e_non, e_str, e_ty, e_bin, e_neg, e_cmp, e_chain, e_isN, e_notN, e_and, e_or, e_not, e_ite, e_call, e_callK, prm_some, e_bi, e_tup, e_lst, lstK, tupK, e_ix, e_sl, eo_none, eo_some, in_int, e_mt, e_bits, bt_int, ng_int, e_comp, e_gc, es_nil, es_cons, tg_var, tg_tup, tg_sub, tgs_nil, tgs_cons, it_list, it_tup, it_rng1, it_rng2, it_enum, src_tup, src_fro, src_rng, src_enum, op_add, op_sub, op_mul, op_fdiv, op_mod, op_pow, op_shl, op_shr, op_addt, cm_lt, cm_le, cm_gt, cm_ge, cm_eq, cm_ne, cm_eq_bl, cm_ne_bl, cm_eq_str, cm_ne_str, tr_bl, tr_int, tr_non, ch_bl, cond_dec, cond_not, cond_t, cond_f, cond_ne, au_add, au_sub, b_len_tup, b_int, b_int_bl, b_abs, b_max, b_min, at_some, x_tup, isi_non_int, isi_non_bool, isi_non_str, isi_non_tuple, isi_non_list, isi_non_dict, isi_bl_int, isi_bl_bool, isi_bl_str, isi_bl_tuple, isi_bl_list, isi_bl_dict, isi_int_int, isi_int_bool, isi_int_str, isi_int_tuple, isi_int_list, isi_int_dict, isi_str_int, isi_str_bool, isi_str_str, isi_str_tuple, isi_str_list, isi_str_dict, isi_tup_int, isi_tup_bool, isi_tup_str, isi_tup_tuple, isi_tup_list, isi_tup_dict, isi_fro_int, isi_fro_bool, isi_fro_str, isi_fro_tuple, isi_fro_list, isi_fro_dict, PV.isNon, eq_self, decide_true, Bool.not_true, Bool.not_false, sl_fro, gc_pure, cl_lst, cl_dK, cx_ref, cx_str, cop_add, cb_len, cl_q, cm_append, cm_pop, pop_snoc, cm_extend, csrc, ctg, ixs, gc_ref, gc_ref0, sizeLine_eq, Nat.reduceLeDiff, Int.reduceLT, Int.reduceLE, true_and, and_true, st_new0, st_newk, st_set0, st_setk, List.getElem?_cons_zero, List.getElem?_cons_succ, List.append_assoc, List.cons_append, List.nil_append, List.append_nil, List.length_append, List.length_cons, List.length_nil, Nat.zero_add, Nat.reduceAdd, List.set_cons_zero, List.set_cons_succ, stV, getV0, getVs, setV0, setVs]
    refine cl_of (whole_root_do h0 hn0 hns) ?_
    rintro v M6 ⟨rfl, r5, rfl, hr5⟩
    simp only [ss_nil, ss_cons, s_asgv, s_asgt, s_para, s_auga, s_exp, s_retE, s_retNon, s_if, s_while, s_fo, s_break, s_conti, s_ps, e_var, varK, e_int, e_bl, e_non, e_str, e_ty, e_bin, e_neg, e_cmp, e_chain, e_isN, e_notN, e_and, e_or, e_not, e_ite, e_call, e_callK, prm_some, e_bi, e_tup, e_lst, lstK, tupK, e_ix, e_sl, eo_none, eo_some, in_int, e_mt, e_bits, bt_int, ng_int, e_comp, e_gc, es_nil, es_cons, tg_var, tg_tup, tg_sub, tgs_nil, tgs_cons, it_list, it_tup, it_rng1, it_rng2, it_enum, src_tup, src_fro, src_rng, src_enum, op_add, op_sub, op_mul, op_fdiv, op_mod, op_pow, op_shl, op_shr, op_addt, cm_lt, cm_le, cm_gt, cm_ge, cm_eq, cm_ne, cm_eq_bl, cm_ne_bl, cm_eq_str, cm_ne_str, tr_bl, tr_int, tr_non, ch_bl, cond_dec, cond_not, cond_t, cond_f, cond_ne, au_add, au_sub, b_len_tup, b_int, b_int_bl, b_abs, b_max, b_min, at_some, x_tup, isi_non_int, isi_non_bool, isi_non_str, isi_non_tuple, isi_non_list, isi_non_dict, isi_bl_int, isi_bl_bool, isi_bl_str, isi_bl_tuple, isi_bl_list, isi_bl_dict, isi_int_int, isi_int_bool, isi_int_str, isi_int_tuple, isi_int_list, isi_int_dict, isi_str_int, isi_str_bool, isi_str_str, isi_str_tuple, isi_str_list, isi_str_dict, isi_tup_int, isi_tup_bool, isi_tup_str, isi_tup_tuple, isi_tup_list, isi_tup_dict, isi_fro_int, isi_fro_bool, isi_fro_str, isi_fro_tuple, isi_fro_list, isi_fro_dict, PV.isNon, eq_self, decide_true, Bool.not_true, Bool.not_false, sl_fro, gc_pure, cl_lst, cl_dK, cx_ref, cx_str, cop_add, cb_len, cl_q, cm_append, cm_pop, pop_snoc, cm_extend, csrc, ctg, ixs, gc_ref, gc_ref0, sizeLine_eq, Nat.reduceLeDiff, Int.reduceLT, Int.reduceLE, true_and, and_true, st_new0, st_newk, st_set0, st_setk, List.getElem?_cons_zero, List.getElem?_cons_succ, List.append_assoc, List.cons_append, List.nil_append, List.append_nil, List.length_append, List.length_cons, List.length_nil, Nat.zero_add, Nat.reduceAdd, List.set_cons_zero, List.set_cons_succ, stV, getV0, getVs, setV0, setVs]
    refine cl_of (is_square_do h0 h1 hn0 hns) ?_
    rintro v M6 ⟨rfl, r6, rfl, hr6⟩
    have e1 := hr5.uniq hrn
    have e2 := hr6.uniq hrn
    subst e1
    subst e2
    simp only [ss_nil, ss_cons, s_asgv, s_asgt, s_para, s_auga, s_exp, s_retE, s_retNon, s_if, s_while, s_fo, s_break, s_conti, s_ps, e_var, varK, e_int, e_bl, e_non, e_str, e_ty, e_bin, e_neg, e_cmp, e_chain, e_isN, e_notN, e_and, e_or, e_not, e_ite, e_call, e_callK, prm_some, e_bi, e_tup, e_lst, lstK, tupK, e_ix, e_sl, eo_none, eo_some, in_int, e_mt, e_bits, bt_int, ng_int, e_comp, e_gc, es_nil, es_cons, tg_var, tg_tup, tg_sub, tgs_nil, tgs_cons, it_list, it_tup, it_rng1, it_rng2, it_enum, src_tup, src_fro, src_rng, src_enum, op_add, op_sub, op_mul, op_fdiv, op_mod, op_pow, op_shl, op_shr, op_addt, cm_lt, cm_le, cm_gt, cm_ge, cm_eq, cm_ne, cm_eq_bl, cm_ne_bl, cm_eq_str, cm_ne_str, tr_bl, tr_int, tr_non, ch_bl, cond_dec, cond_not, cond_t, cond_f, cond_ne, au_add, au_sub, b_len_tup, b_int, b_int_bl, b_abs, b_max, b_min, at_some, x_tup, isi_non_int, isi_non_bool, isi_non_str, isi_non_tuple, isi_non_list, isi_non_dict, isi_bl_int, isi_bl_bool, isi_bl_str, isi_bl_tuple, isi_bl_list, isi_bl_dict, isi_int_int, isi_int_bool, isi_int_str, isi_int_tuple, isi_int_list, isi_int_dict, isi_str_int, isi_str_bool, isi_str_str, isi_str_tuple, isi_str_list, isi_str_dict, isi_tup_int, isi_tup_bool, isi_tup_str, isi_tup_tuple, isi_tup_list, isi_tup_dict, isi_fro_int, isi_fro_bool, isi_fro_str, isi_fro_tuple, isi_fro_list, isi_fro_dict, PV.isNon, eq_self, decide_true, Bool.not_true, Bool.not_false, sl_fro, gc_pure, cl_lst, cl_dK, cx_ref, cx_str, cop_add, cb_len, cl_q, cm_append, cm_pop, pop_snoc, cm_extend, csrc, ctg, ixs, gc_ref, gc_ref0, sizeLine_eq, Nat.reduceLeDiff, Int.reduceLT, Int.reduceLE, true_and, and_true, st_new0, st_newk, st_set0, st_setk, List.getElem?_cons_zero, List.getElem?_cons_succ, List.append_assoc, List.cons_append, List.nil_append, List.append_nil, List.length_append, List.length_cons, List.length_nil, Nat.zero_add, Nat.reduceAdd, List.set_cons_zero, List.set_cons_succ, stV, getV0, getVs, setV0, setVs]
    refine ⟨cmul (a := 5) (b := 5) (by omega) (by omega) (by decide), ?_⟩
    refine cl_of (law_same_do h5 (by simp [PV.plain, PV.plains]) (by simp [PV.sz, PV.szs])) ?_
    rintro v M6 ⟨rfl, rfl⟩
    simp only [ss_nil, ss_cons, s_asgv, s_asgt, s_para, s_auga, s_exp, s_retE, s_retNon, s_if, s_while, s_fo, s_break, s_conti, s_ps, e_var, varK, e_int, e_bl, e_non, e_str, e_ty, e_bin, e_neg, e_cmp, e_chain, e_isN, e_notN, e_and, e_or, e_not, e_ite, e_call, e_callK, prm_some, e_bi, e_tup, e_lst, lstK, tupK, e_ix, e_sl, eo_none, eo_some, in_int, e_mt, e_bits, bt_int, ng_int, e_comp, e_gc, es_nil, es_cons, tg_var, tg_tup, tg_sub, tgs_nil, tgs_cons, it_list, it_tup, it_rng1, it_rng2, it_enum, src_tup, src_fro, src_rng, src_enum, op_add, op_sub, op_mul, op_fdiv, op_mod, op_pow, op_shl, op_shr, op_addt, cm_lt, cm_le, cm_gt, cm_ge, cm_eq, cm_ne, cm_eq_bl, cm_ne_bl, cm_eq_str, cm_ne_str, tr_bl, tr_int, tr_non, ch_bl, cond_dec, cond_not, cond_t, cond_f, cond_ne, au_add, au_sub, b_len_tup, b_int, b_int_bl, b_abs, b_max, b_min, at_some, x_tup, isi_non_int, isi_non_bool, isi_non_str, isi_non_tuple, isi_non_list, isi_non_dict, isi_bl_int, isi_bl_bool, isi_bl_str, isi_bl_tuple, isi_bl_list, isi_bl_dict, isi_int_int, isi_int_bool, isi_int_str, isi_int_tuple, isi_int_list, isi_int_dict, isi_str_int, isi_str_bool, isi_str_str, isi_str_tuple, isi_str_list, isi_str_dict, isi_tup_int, isi_tup_bool, isi_tup_str, isi_tup_tuple, isi_tup_list, isi_tup_dict, isi_fro_int, isi_fro_bool, isi_fro_str, isi_fro_tuple, isi_fro_list, isi_fro_dict, PV.isNon, eq_self, decide_true, Bool.not_true, Bool.not_false, sl_fro, gc_pure, cl_lst, cl_dK, cx_ref, cx_str, cop_add, cb_len, cl_q, cm_append, cm_pop, pop_snoc, cm_extend, csrc, ctg, ixs, gc_ref, gc_ref0, sizeLine_eq, Nat.reduceLeDiff, Int.reduceLT, Int.reduceLE, true_and, and_true, st_new0, st_newk, st_set0, st_setk, List.getElem?_cons_zero, List.getElem?_cons_succ, List.append_assoc, List.cons_append, List.nil_append, List.append_nil, List.length_append, List.length_cons, List.length_nil, Nat.zero_add, Nat.reduceAdd, List.set_cons_zero, List.set_cons_succ, stV, getV0, getVs, setV0, setVs]
    refine cl_of (law_draw_do h4 hd2 (by decide)) ?_
    rintro v M7 ⟨y1, rfl, hy10, hy11, ev1⟩
    simp only [ss_nil, ss_cons, s_asgv, s_asgt, s_para, s_auga, s_exp, s_retE, s_retNon, s_if, s_while, s_fo, s_break, s_conti, s_ps, e_var, varK, e_int, e_bl, e_non, e_str, e_ty, e_bin, e_neg, e_cmp, e_chain, e_isN, e_notN, e_and, e_or, e_not, e_ite, e_call, e_callK, prm_some, e_bi, e_tup, e_lst, lstK, tupK, e_ix, e_sl, eo_none, eo_some, in_int, e_mt, e_bits, bt_int, ng_int, e_comp, e_gc, es_nil, es_cons, tg_var, tg_tup, tg_sub, tgs_nil, tgs_cons, it_list, it_tup, it_rng1, it_rng2, it_enum, src_tup, src_fro, src_rng, src_enum, op_add, op_sub, op_mul, op_fdiv, op_mod, op_pow, op_shl, op_shr, op_addt, cm_lt, cm_le, cm_gt, cm_ge, cm_eq, cm_ne, cm_eq_bl, cm_ne_bl, cm_eq_str, cm_ne_str, tr_bl, tr_int, tr_non, ch_bl, cond_dec, cond_not, cond_t, cond_f, cond_ne, au_add, au_sub, b_len_tup, b_int, b_int_bl, b_abs, b_max, b_min, at_some, x_tup, isi_non_int, isi_non_bool, isi_non_str, isi_non_tuple, isi_non_list, isi_non_dict, isi_bl_int, isi_bl_bool, isi_bl_str, isi_bl_tuple, isi_bl_list, isi_bl_dict, isi_int_int, isi_int_bool, isi_int_str, isi_int_tuple, isi_int_list, isi_int_dict, isi_str_int, isi_str_bool, isi_str_str, isi_str_tuple, isi_str_list, isi_str_dict, isi_tup_int, isi_tup_bool, isi_tup_str, isi_tup_tuple, isi_tup_list, isi_tup_dict, isi_fro_int, isi_fro_bool, isi_fro_str, isi_fro_tuple, isi_fro_list, isi_fro_dict, PV.isNon, eq_self, decide_true, Bool.not_true, Bool.not_false, sl_fro, gc_pure, cl_lst, cl_dK, cx_ref, cx_str, cop_add, cb_len, cl_q, cm_append, cm_pop, pop_snoc, cm_extend, csrc, ctg, ixs, gc_ref, gc_ref0, sizeLine_eq, Nat.reduceLeDiff, Int.reduceLT, Int.reduceLE, true_and, and_true, st_new0, st_newk, st_set0, st_setk, List.getElem?_cons_zero, List.getElem?_cons_succ, List.append_assoc, List.cons_append, List.nil_append, List.append_nil, List.length_append, List.length_cons, List.length_nil, Nat.zero_add, Nat.reduceAdd, List.set_cons_zero, List.set_cons_succ, stV, getV0, getVs, setV0, setVs]
    refine cl_of (law_draw_do h4 ev1.dice (by decide)) ?_
    rintro v M8 ⟨y2, rfl, hy20, hy21, ev2⟩
    simp only [ss_nil, ss_cons, s_asgv, s_asgt, s_para, s_auga, s_exp, s_retE, s_retNon, s_if, s_while, s_fo, s_break, s_conti, s_ps, e_var, varK, e_int, e_bl, e_non, e_str, e_ty, e_bin, e_neg, e_cmp, e_chain, e_isN, e_notN, e_and, e_or, e_not, e_ite, e_call, e_callK, prm_some, e_bi, e_tup, e_lst, lstK, tupK, e_ix, e_sl, eo_none, eo_some, in_int, e_mt, e_bits, bt_int, ng_int, e_comp, e_gc, es_nil, es_cons, tg_var, tg_tup, tg_sub, tgs_nil, tgs_cons, it_list, it_tup, it_rng1, it_rng2, it_enum, src_tup, src_fro, src_rng, src_enum, op_add, op_sub, op_mul, op_fdiv, op_mod, op_pow, op_shl, op_shr, op_addt, cm_lt, cm_le, cm_gt, cm_ge, cm_eq, cm_ne, cm_eq_bl, cm_ne_bl, cm_eq_str, cm_ne_str, tr_bl, tr_int, tr_non, ch_bl, cond_dec, cond_not, cond_t, cond_f, cond_ne, au_add, au_sub, b_len_tup, b_int, b_int_bl, b_abs, b_max, b_min, at_some, x_tup, isi_non_int, isi_non_bool, isi_non_str, isi_non_tuple, isi_non_list, isi_non_dict, isi_bl_int, isi_bl_bool, isi_bl_str, isi_bl_tuple, isi_bl_list, isi_bl_dict, isi_int_int, isi_int_bool, isi_int_str, isi_int_tuple, isi_int_list, isi_int_dict, isi_str_int, isi_str_bool, isi_str_str, isi_str_tuple, isi_str_list, isi_str_dict, isi_tup_int, isi_tup_bool, isi_tup_str, isi_tup_tuple, isi_tup_list, isi_tup_dict, isi_fro_int, isi_fro_bool, isi_fro_str, isi_fro_tuple, isi_fro_list, isi_fro_dict, PV.isNon, eq_self, decide_true, Bool.not_true, Bool.not_false, sl_fro, gc_pure, cl_lst, cl_dK, cx_ref, cx_str, cop_add, cb_len, cl_q, cm_append, cm_pop, pop_snoc, cm_extend, csrc, ctg, ixs, gc_ref, gc_ref0, sizeLine_eq, Nat.reduceLeDiff, Int.reduceLT, Int.reduceLE, true_and, and_true, st_new0, st_newk, st_set0, st_setk, List.getElem?_cons_zero, List.getElem?_cons_succ, List.append_assoc, List.cons_append, List.nil_append, List.append_nil, List.length_append, List.length_cons, List.length_nil, Nat.zero_add, Nat.reduceAdd, List.set_cons_zero, List.set_cons_succ, stV, getV0, getVs, setV0, setVs]
    refine fo_rule (fun i e B => ∃ (o6 : Option PV) (M' : Store), e = [some (.fro ns), some (.ref d), some (.ref rr), some (.int num), some (.int r6), some (.bl (decide (r2 * r2 = x))), o6, none, none] ∧ B = ⟨M'⟩ ∧ Dice p d M') ⟨_, _, rfl, rfl, ev2.dice⟩ (fun _ _ _ _ _ => rfl) ?_ ?_
    · rintro i v e M' hv ⟨o6, M', rfl, eM, hd⟩
      cases eM
      have hv2 : ∃ m : Int, v = .int m ∧ 0 ≤ m ∧ m ≤ 50 := by
        have := List.mem_of_getElem? hv
        simp only [List.mem_cons, List.not_mem_nil, or_false] at this
        rcases this with rfl | rfl | rfl | rfl
        · exact ⟨_, rfl, by decide, by decide⟩
        · exact ⟨_, rfl, by decide, by decide⟩
        · exact ⟨_, rfl, by omega, by omega⟩
        · exact ⟨_, rfl, by omega, by omega⟩
      obtain ⟨m, rfl, hm0, hm1⟩ := hv2
      simp only [ss_nil, ss_cons, s_asgv, s_asgt, s_para, s_auga, s_exp, s_retE, s_retNon, s_if, s_while, s_fo, s_break, s_conti, s_ps, e_var, varK, e_int, e_bl, e_non, e_str, e_ty, e_bin, e_neg, e_cmp, e_chain, e_isN, e_notN, e_and, e_or, e_not, e_ite, e_call, e_callK, prm_some, e_bi, e_tup, e_lst, lstK, tupK, e_ix, e_sl, eo_none, eo_some, in_int, e_mt, e_bits, bt_int, ng_int, e_comp, e_gc, es_nil, es_cons, tg_var, tg_tup, tg_sub, tgs_nil, tgs_cons, it_list, it_tup, it_rng1, it_rng2, it_enum, src_tup, src_fro, src_rng, src_enum, op_add, op_sub, op_mul, op_fdiv, op_mod, op_pow, op_shl, op_shr, op_addt, cm_lt, cm_le, cm_gt, cm_ge, cm_eq, cm_ne, cm_eq_bl, cm_ne_bl, cm_eq_str, cm_ne_str, tr_bl, tr_int, tr_non, ch_bl, cond_dec, cond_not, cond_t, cond_f, cond_ne, au_add, au_sub, b_len_tup, b_int, b_int_bl, b_abs, b_max, b_min, at_some, x_tup, isi_non_int, isi_non_bool, isi_non_str, isi_non_tuple, isi_non_list, isi_non_dict, isi_bl_int, isi_bl_bool, isi_bl_str, isi_bl_tuple, isi_bl_list, isi_bl_dict, isi_int_int, isi_int_bool, isi_int_str, isi_int_tuple, isi_int_list, isi_int_dict, isi_str_int, isi_str_bool, isi_str_str, isi_str_tuple, isi_str_list, isi_str_dict, isi_tup_int, isi_tup_bool, isi_tup_str, isi_tup_tuple, isi_tup_list, isi_tup_dict, isi_fro_int, isi_fro_bool, isi_fro_str, isi_fro_tuple, isi_fro_list, isi_fro_dict, PV.isNon, eq_self, decide_true, Bool.not_true, Bool.not_false, sl_fro, gc_pure, cl_lst, cl_dK, cx_ref, cx_str, cop_add, cb_len, cl_q, cm_append, cm_pop, pop_snoc, cm_extend, csrc, ctg, ixs, gc_ref, gc_ref0, sizeLine_eq, Nat.reduceLeDiff, Int.reduceLT, Int.reduceLE, true_and, and_true, st_new0, st_newk, st_set0, st_setk, List.getElem?_cons_zero, List.getElem?_cons_succ, List.append_assoc, List.cons_append, List.nil_append, List.append_nil, List.length_append, List.length_cons, List.length_nil, Nat.zero_add, Nat.reduceAdd, List.set_cons_zero, List.set_cons_succ, stV, getV0, getVs, setV0, setVs, q_law_f1]
      refine cl_of (law_great_do h4 h6 hd hm0 (by omega)) ?_
      rintro v M9 ⟨g, rfl, hg1, _, hgs, ev3⟩
      simp only [ss_nil, ss_cons, s_asgv, s_asgt, s_para, s_auga, s_exp, s_retE, s_retNon, s_if, s_while, s_fo, s_break, s_conti, s_ps, e_var, varK, e_int, e_bl, e_non, e_str, e_ty, e_bin, e_neg, e_cmp, e_chain, e_isN, e_notN, e_and, e_or, e_not, e_ite, e_call, e_callK, prm_some, e_bi, e_tup, e_lst, lstK, tupK, e_ix, e_sl, eo_none, eo_some, in_int, e_mt, e_bits, bt_int, ng_int, e_comp, e_gc, es_nil, es_cons, tg_var, tg_tup, tg_sub, tgs_nil, tgs_cons, it_list, it_tup, it_rng1, it_rng2, it_enum, src_tup, src_fro, src_rng, src_enum, op_add, op_sub, op_mul, op_fdiv, op_mod, op_pow, op_shl, op_shr, op_addt, cm_lt, cm_le, cm_gt, cm_ge, cm_eq, cm_ne, cm_eq_bl, cm_ne_bl, cm_eq_str, cm_ne_str, tr_bl, tr_int, tr_non, ch_bl, cond_dec, cond_not, cond_t, cond_f, cond_ne, au_add, au_sub, b_len_tup, b_int, b_int_bl, b_abs, b_max, b_min, at_some, x_tup, isi_non_int, isi_non_bool, isi_non_str, isi_non_tuple, isi_non_list, isi_non_dict, isi_bl_int, isi_bl_bool, isi_bl_str, isi_bl_tuple, isi_bl_list, isi_bl_dict, isi_int_int, isi_int_bool, isi_int_str, isi_int_tuple, isi_int_list, isi_int_dict, isi_str_int, isi_str_bool, isi_str_str, isi_str_tuple, isi_str_list, isi_str_dict, isi_tup_int, isi_tup_bool, isi_tup_str, isi_tup_tuple, isi_tup_list, isi_tup_dict, isi_fro_int, isi_fro_bool, isi_fro_str, isi_fro_tuple, isi_fro_list, isi_fro_dict, PV.isNon, eq_self, decide_true, Bool.not_true, Bool.not_false, sl_fro, gc_pure, cl_lst, cl_dK, cx_ref, cx_str, cop_add, cb_len, cl_q, cm_append, cm_pop, pop_snoc, cm_extend, csrc, ctg, ixs, gc_ref, gc_ref0, sizeLine_eq, Nat.reduceLeDiff, Int.reduceLT, Int.reduceLE, true_and, and_true, st_new0, st_newk, st_set0, st_setk, List.getElem?_cons_zero, List.getElem?_cons_succ, List.append_assoc, List.cons_append, List.nil_append, List.append_nil, List.length_append, List.length_cons, List.length_nil, Nat.zero_add, Nat.reduceAdd, List.set_cons_zero, List.set_cons_succ, stV, getV0, getVs, setV0, setVs]
      refine cl_of (law_rooted_do h0 h1 h4 h5 h8 h9 ev3.dice (by omega) ?_) ?_
      · have h1 : (1 : Int).natAbs < 2 ^ 2000 := Nat.one_lt_two_pow (by decide)
        exact lt_p2 (abs_add h1 (lt_p2 hgs (by omega))) (by decide)
      · rintro v M10 ⟨rfl, ev4⟩
        simp only [ss_nil, ss_cons, s_asgv, s_asgt, s_para, s_auga, s_exp, s_retE, s_retNon, s_if, s_while, s_fo, s_break, s_conti, s_ps, e_var, varK, e_int, e_bl, e_non, e_str, e_ty, e_bin, e_neg, e_cmp, e_chain, e_isN, e_notN, e_and, e_or, e_not, e_ite, e_call, e_callK, prm_some, e_bi, e_tup, e_lst, lstK, tupK, e_ix, e_sl, eo_none, eo_some, in_int, e_mt, e_bits, bt_int, ng_int, e_comp, e_gc, es_nil, es_cons, tg_var, tg_tup, tg_sub, tgs_nil, tgs_cons, it_list, it_tup, it_rng1, it_rng2, it_enum, src_tup, src_fro, src_rng, src_enum, op_add, op_sub, op_mul, op_fdiv, op_mod, op_pow, op_shl, op_shr, op_addt, cm_lt, cm_le, cm_gt, cm_ge, cm_eq, cm_ne, cm_eq_bl, cm_ne_bl, cm_eq_str, cm_ne_str, tr_bl, tr_int, tr_non, ch_bl, cond_dec, cond_not, cond_t, cond_f, cond_ne, au_add, au_sub, b_len_tup, b_int, b_int_bl, b_abs, b_max, b_min, at_some, x_tup, isi_non_int, isi_non_bool, isi_non_str, isi_non_tuple, isi_non_list, isi_non_dict, isi_bl_int, isi_bl_bool, isi_bl_str, isi_bl_tuple, isi_bl_list, isi_bl_dict, isi_int_int, isi_int_bool, isi_int_str, isi_int_tuple, isi_int_list, isi_int_dict, isi_str_int, isi_str_bool, isi_str_str, isi_str_tuple, isi_str_list, isi_str_dict, isi_tup_int, isi_tup_bool, isi_tup_str, isi_tup_tuple, isi_tup_list, isi_tup_dict, isi_fro_int, isi_fro_bool, isi_fro_str, isi_fro_tuple, isi_fro_list, isi_fro_dict, PV.isNon, eq_self, decide_true, Bool.not_true, Bool.not_false, sl_fro, gc_pure, cl_lst, cl_dK, cx_ref, cx_str, cop_add, cb_len, cl_q, cm_append, cm_pop, pop_snoc, cm_extend, csrc, ctg, ixs, gc_ref, gc_ref0, sizeLine_eq, Nat.reduceLeDiff, Int.reduceLT, Int.reduceLE, true_and, and_true, st_new0, st_newk, st_set0, st_setk, List.getElem?_cons_zero, List.getElem?_cons_succ, List.append_assoc, List.cons_append, List.nil_append, List.append_nil, List.length_append, List.length_cons, List.length_nil, Nat.zero_add, Nat.reduceAdd, List.set_cons_zero, List.set_cons_succ, stV, getV0, getVs, setV0, setVs]
        exact ⟨_, _, rfl, rfl, ev4.dice⟩
    · rintro e M' ⟨o6, M', rfl, eM, hd⟩
      cases eM
      simp only [ss_nil, ss_cons, s_asgv, s_asgt, s_para, s_auga, s_exp, s_retE, s_retNon, s_if, s_while, s_fo, s_break, s_conti, s_ps, e_var, varK, e_int, e_bl, e_non, e_str, e_ty, e_bin, e_neg, e_cmp, e_chain, e_isN, e_notN, e_and, e_or, e_not, e_ite, e_call, e_callK, prm_some, e_bi, e_tup, e_lst, lstK, tupK, e_ix, e_sl, eo_none, eo_some, in_int, e_mt, e_bits, bt_int, ng_int, e_comp, e_gc, es_nil, es_cons, tg_var, tg_tup, tg_sub, tgs_nil, tgs_cons, it_list, it_tup, it_rng1, it_rng2, it_enum, src_tup, src_fro, src_rng, src_enum, op_add, op_sub, op_mul, op_fdiv, op_mod, op_pow, op_shl, op_shr, op_addt, cm_lt, cm_le, cm_gt, cm_ge, cm_eq, cm_ne, cm_eq_bl, cm_ne_bl, cm_eq_str, cm_ne_str, tr_bl, tr_int, tr_non, ch_bl, cond_dec, cond_not, cond_t, cond_f, cond_ne, au_add, au_sub, b_len_tup, b_int, b_int_bl, b_abs, b_max, b_min, at_some, x_tup, isi_non_int, isi_non_bool, isi_non_str, isi_non_tuple, isi_non_list, isi_non_dict, isi_bl_int, isi_bl_bool, isi_bl_str, isi_bl_tuple, isi_bl_list, isi_bl_dict, isi_int_int, isi_int_bool, isi_int_str, isi_int_tuple, isi_int_list, isi_int_dict, isi_str_int, isi_str_bool, isi_str_str, isi_str_tuple, isi_str_list, isi_str_dict, isi_tup_int, isi_tup_bool, isi_tup_str, isi_tup_tuple, isi_tup_list, isi_tup_dict, isi_fro_int, isi_fro_bool, isi_fro_str, isi_fro_tuple, isi_fro_list, isi_fro_dict, PV.isNon, eq_self, decide_true, Bool.not_true, Bool.not_false, sl_fro, gc_pure, cl_lst, cl_dK, cx_ref, cx_str, cop_add, cb_len, cl_q, cm_append, cm_pop, pop_snoc, cm_extend, csrc, ctg, ixs, gc_ref, gc_ref0, sizeLine_eq, Nat.reduceLeDiff, Int.reduceLT, Int.reduceLE, true_and, and_true, st_new0, st_newk, st_set0, st_setk, List.getElem?_cons_zero, List.getElem?_cons_succ, List.append_assoc, List.cons_append, List.nil_append, List.append_nil, List.length_append, List.length_cons, List.length_nil, Nat.zero_add, Nat.reduceAdd, List.set_cons_zero, List.set_cons_succ, stV, getV0, getVs, setV0, setVs]
      refine cl_of (law_draw_do h4 hd (by decide)) ?_
      rintro v M9 ⟨y3, rfl, hy30, hy31, ev3⟩
      simp only [ss_nil, ss_cons, s_asgv, s_asgt, s_para, s_auga, s_exp, s_retE, s_retNon, s_if, s_while, s_fo, s_break, s_conti, s_ps, e_var, varK, e_int, e_bl, e_non, e_str, e_ty, e_bin, e_neg, e_cmp, e_chain, e_isN, e_notN, e_and, e_or, e_not, e_ite, e_call, e_callK, prm_some, e_bi, e_tup, e_lst, lstK, tupK, e_ix, e_sl, eo_none, eo_some, in_int, e_mt, e_bits, bt_int, ng_int, e_comp, e_gc, es_nil, es_cons, tg_var, tg_tup, tg_sub, tgs_nil, tgs_cons, it_list, it_tup, it_rng1, it_rng2, it_enum, src_tup, src_fro, src_rng, src_enum, op_add, op_sub, op_mul, op_fdiv, op_mod, op_pow, op_shl, op_shr, op_addt, cm_lt, cm_le, cm_gt, cm_ge, cm_eq, cm_ne, cm_eq_bl, cm_ne_bl, cm_eq_str, cm_ne_str, tr_bl, tr_int, tr_non, ch_bl, cond_dec, cond_not, cond_t, cond_f, cond_ne, au_add, au_sub, b_len_tup, b_int, b_int_bl, b_abs, b_max, b_min, at_some, x_tup, isi_non_int, isi_non_bool, isi_non_str, isi_non_tuple, isi_non_list, isi_non_dict, isi_bl_int, isi_bl_bool, isi_bl_str, isi_bl_tuple, isi_bl_list, isi_bl_dict, isi_int_int, isi_int_bool, isi_int_str, isi_int_tuple, isi_int_list, isi_int_dict, isi_str_int, isi_str_bool, isi_str_str, isi_str_tuple, isi_str_list, isi_str_dict, isi_tup_int, isi_tup_bool, isi_tup_str, isi_tup_tuple, isi_tup_list, isi_tup_dict, isi_fro_int, isi_fro_bool, isi_fro_str, isi_fro_tuple, isi_fro_list, isi_fro_dict, PV.isNon, eq_self, decide_true, Bool.not_true, Bool.not_false, sl_fro, gc_pure, cl_lst, cl_dK, cx_ref, cx_str, cop_add, cb_len, cl_q, cm_append, cm_pop, pop_snoc, cm_extend, csrc, ctg, ixs, gc_ref, gc_ref0, sizeLine_eq, Nat.reduceLeDiff, Int.reduceLT, Int.reduceLE, true_and, and_true, st_new0, st_newk, st_set0, st_setk, List.getElem?_cons_zero, List.getElem?_cons_succ, List.append_assoc, List.cons_append, List.nil_append, List.append_nil, List.length_append, List.length_cons, List.length_nil, Nat.zero_add, Nat.reduceAdd, List.set_cons_zero, List.set_cons_succ, stV, getV0, getVs, setV0, setVs]
      refine cl_of (law_rooted_do h0 h1 h4 h5 h8 h9 ev3.dice (by omega) (lt_p2 (a := 5) (by omega) (by decide))) ?_
      rintro v M10 ⟨rfl, ev4⟩
      simp only [ss_nil, ss_cons, s_asgv, s_asgt, s_para, s_auga, s_exp, s_retE, s_retNon, s_if, s_while, s_fo, s_break, s_conti, s_ps, e_var, varK, e_int, e_bl, e_non, e_str, e_ty, e_bin, e_neg, e_cmp, e_chain, e_isN, e_notN, e_and, e_or, e_not, e_ite, e_call, e_callK, prm_some, e_bi, e_tup, e_lst, lstK, tupK, e_ix, e_sl, eo_none, eo_some, in_int, e_mt, e_bits, bt_int, ng_int, e_comp, e_gc, es_nil, es_cons, tg_var, tg_tup, tg_sub, tgs_nil, tgs_cons, it_list, it_tup, it_rng1, it_rng2, it_enum, src_tup, src_fro, src_rng, src_enum, op_add, op_sub, op_mul, op_fdiv, op_mod, op_pow, op_shl, op_shr, op_addt, cm_lt, cm_le, cm_gt, cm_ge, cm_eq, cm_ne, cm_eq_bl, cm_ne_bl, cm_eq_str, cm_ne_str, tr_bl, tr_int, tr_non, ch_bl, cond_dec, cond_not, cond_t, cond_f, cond_ne, au_add, au_sub, b_len_tup, b_int, b_int_bl, b_abs, b_max, b_min, at_some, x_tup, isi_non_int, isi_non_bool, isi_non_str, isi_non_tuple, isi_non_list, isi_non_dict, isi_bl_int, isi_bl_bool, isi_bl_str, isi_bl_tuple, isi_bl_list, isi_bl_dict, isi_int_int, isi_int_bool, isi_int_str, isi_int_tuple, isi_int_list, isi_int_dict, isi_str_int, isi_str_bool, isi_str_str, isi_str_tuple, isi_str_list, isi_str_dict, isi_tup_int, isi_tup_bool, isi_tup_str, isi_tup_tuple, isi_tup_list, isi_tup_dict, isi_fro_int, isi_fro_bool, isi_fro_str, isi_fro_tuple, isi_fro_list, isi_fro_dict, PV.isNon, eq_self, decide_true, Bool.not_true, Bool.not_false, sl_fro, gc_pure, cl_lst, cl_dK, cx_ref, cx_str, cop_add, cb_len, cl_q, cm_append, cm_pop, pop_snoc, cm_extend, csrc, ctg, ixs, gc_ref, gc_ref0, sizeLine_eq, Nat.reduceLeDiff, Int.reduceLT, Int.reduceLE, true_and, and_true, st_new0, st_newk, st_set0, st_setk, List.getElem?_cons_zero, List.getElem?_cons_succ, List.append_assoc, List.cons_append, List.nil_append, List.append_nil, List.length_append, List.length_cons, List.length_nil, Nat.zero_add, Nat.reduceAdd, List.set_cons_zero, List.set_cons_succ, stV, getV0, getVs, setV0, setVs]
      refine cl_of (law_draw_do h4 ev4.dice (by decide)) ?_
      rintro v M11 ⟨y4, rfl, hy40, hy41, ev5⟩
      simp only [ss_nil, ss_cons, s_asgv, s_asgt, s_para, s_auga, s_exp, s_retE, s_retNon, s_if, s_while, s_fo, s_break, s_conti, s_ps, e_var, varK, e_int, e_bl, e_non, e_str, e_ty, e_bin, e_neg, e_cmp, e_chain, e_isN, e_notN, e_and, e_or, e_not, e_ite, e_call, e_callK, prm_some, e_bi, e_tup, e_lst, lstK, tupK, e_ix, e_sl, eo_none, eo_some, in_int, e_mt, e_bits, bt_int, ng_int, e_comp, e_gc, es_nil, es_cons, tg_var, tg_tup, tg_sub, tgs_nil, tgs_cons, it_list, it_tup, it_rng1, it_rng2, it_enum, src_tup, src_fro, src_rng, src_enum, op_add, op_sub, op_mul, op_fdiv, op_mod, op_pow, op_shl, op_shr, op_addt, cm_lt, cm_le, cm_gt, cm_ge, cm_eq, cm_ne, cm_eq_bl, cm_ne_bl, cm_eq_str, cm_ne_str, tr_bl, tr_int, tr_non, ch_bl, cond_dec, cond_not, cond_t, cond_f, cond_ne, au_add, au_sub, b_len_tup, b_int, b_int_bl, b_abs, b_max, b_min, at_some, x_tup, isi_non_int, isi_non_bool, isi_non_str, isi_non_tuple, isi_non_list, isi_non_dict, isi_bl_int, isi_bl_bool, isi_bl_str, isi_bl_tuple, isi_bl_list, isi_bl_dict, isi_int_int, isi_int_bool, isi_int_str, isi_int_tuple, isi_int_list, isi_int_dict, isi_str_int, isi_str_bool, isi_str_str, isi_str_tuple, isi_str_list, isi_str_dict, isi_tup_int, isi_tup_bool, isi_tup_str, isi_tup_tuple, isi_tup_list, isi_tup_dict, isi_fro_int, isi_fro_bool, isi_fro_str, isi_fro_tuple, isi_fro_list, isi_fro_dict, PV.isNon, eq_self, decide_true, Bool.not_true, Bool.not_false, sl_fro, gc_pure, cl_lst, cl_dK, cx_ref, cx_str, cop_add, cb_len, cl_q, cm_append, cm_pop, pop_snoc, cm_extend, csrc, ctg, ixs, gc_ref, gc_ref0, sizeLine_eq, Nat.reduceLeDiff, Int.reduceLT, Int.reduceLE, true_and, and_true, st_new0, st_newk, st_set0, st_setk, List.getElem?_cons_zero, List.getElem?_cons_succ, List.append_assoc, List.cons_append, List.nil_append, List.append_nil, List.length_append, List.length_cons, List.length_nil, Nat.zero_add, Nat.reduceAdd, List.set_cons_zero, List.set_cons_succ, stV, getV0, getVs, setV0, setVs]
      rw [one_bits]
      refine ⟨⟨by omega, by omega⟩, ?_⟩
      have hp4 : (2 : Int) ≤ 1 * 2 ^ (1 + y4).toNat := by
        have e : (1 + y4).toNat = y4.toNat + 1 := by omega
        rw [e, Int.pow_succ]
        have := pow2_pos y4.toNat
        omega
      have hp5 : ((1 : Int) * 2 ^ (1 + y4).toNat).natAbs < 2 ^ 8400 := by
        rw [Int.one_mul]
        exact lt_p2 abs_pow (by omega)
      refine cl_of (law_rooted_do h0 h1 h4 h5 h8 h9 ev5.dice hp4 hp5) ?_
      rintro v M12 ⟨rfl, ev6⟩
      simp only [ss_nil, ss_cons, s_asgv, s_asgt, s_para, s_auga, s_exp, s_retE, s_retNon, s_if, s_while, s_fo, s_break, s_conti, s_ps, e_var, varK, e_int, e_bl, e_non, e_str, e_ty, e_bin, e_neg, e_cmp, e_chain, e_isN, e_notN, e_and, e_or, e_not, e_ite, e_call, e_callK, prm_some, e_bi, e_tup, e_lst, lstK, tupK, e_ix, e_sl, eo_none, eo_some, in_int, e_mt, e_bits, bt_int, ng_int, e_comp, e_gc, es_nil, es_cons, tg_var, tg_tup, tg_sub, tgs_nil, tgs_cons, it_list, it_tup, it_rng1, it_rng2, it_enum, src_tup, src_fro, src_rng, src_enum, op_add, op_sub, op_mul, op_fdiv, op_mod, op_pow, op_shl, op_shr, op_addt, cm_lt, cm_le, cm_gt, cm_ge, cm_eq, cm_ne, cm_eq_bl, cm_ne_bl, cm_eq_str, cm_ne_str, tr_bl, tr_int, tr_non, ch_bl, cond_dec, cond_not, cond_t, cond_f, cond_ne, au_add, au_sub, b_len_tup, b_int, b_int_bl, b_abs, b_max, b_min, at_some, x_tup, isi_non_int, isi_non_bool, isi_non_str, isi_non_tuple, isi_non_list, isi_non_dict, isi_bl_int, isi_bl_bool, isi_bl_str, isi_bl_tuple, isi_bl_list, isi_bl_dict, isi_int_int, isi_int_bool, isi_int_str, isi_int_tuple, isi_int_list, isi_int_dict, isi_str_int, isi_str_bool, isi_str_str, isi_str_tuple, isi_str_list, isi_str_dict, isi_tup_int, isi_tup_bool, isi_tup_str, isi_tup_tuple, isi_tup_list, isi_tup_dict, isi_fro_int, isi_fro_bool, isi_fro_str, isi_fro_tuple, isi_fro_list, isi_fro_dict, PV.isNon, eq_self, decide_true, Bool.not_true, Bool.not_false, sl_fro, gc_pure, cl_lst, cl_dK, cx_ref, cx_str, cop_add, cb_len, cl_q, cm_append, cm_pop, pop_snoc, cm_extend, csrc, ctg, ixs, gc_ref, gc_ref0, sizeLine_eq, Nat.reduceLeDiff, Int.reduceLT, Int.reduceLE, true_and, and_true, st_new0, st_newk, st_set0, st_setk, List.getElem?_cons_zero, List.getElem?_cons_succ, List.append_assoc, List.cons_append, List.nil_append, List.append_nil, List.length_append, List.length_cons, List.length_nil, Nat.zero_add, Nat.reduceAdd, List.set_cons_zero, List.set_cons_succ, stV, getV0, getVs, setV0, setVs]
      refine cl_of (law_draw_do h4 ev6.dice (by decide)) ?_
      rintro v M13 ⟨y5, rfl, hy50, hy51, ev7⟩
      simp only [ss_nil, ss_cons, s_asgv, s_asgt, s_para, s_auga, s_exp, s_retE, s_retNon, s_if, s_while, s_fo, s_break, s_conti, s_ps, e_var, varK, e_int, e_bl, e_non, e_str, e_ty, e_bin, e_neg, e_cmp, e_chain, e_isN, e_notN, e_and, e_or, e_not, e_ite, e_call, e_callK, prm_some, e_bi, e_tup, e_lst, lstK, tupK, e_ix, e_sl, eo_none, eo_some, in_int, e_mt, e_bits, bt_int, ng_int, e_comp, e_gc, es_nil, es_cons, tg_var, tg_tup, tg_sub, tgs_nil, tgs_cons, it_list, it_tup, it_rng1, it_rng2, it_enum, src_tup, src_fro, src_rng, src_enum, op_add, op_sub, op_mul, op_fdiv, op_mod, op_pow, op_shl, op_shr, op_addt, cm_lt, cm_le, cm_gt, cm_ge, cm_eq, cm_ne, cm_eq_bl, cm_ne_bl, cm_eq_str, cm_ne_str, tr_bl, tr_int, tr_non, ch_bl, cond_dec, cond_not, cond_t, cond_f, cond_ne, au_add, au_sub, b_len_tup, b_int, b_int_bl, b_abs, b_max, b_min, at_some, x_tup, isi_non_int, isi_non_bool, isi_non_str, isi_non_tuple, isi_non_list, isi_non_dict, isi_bl_int, isi_bl_bool, isi_bl_str, isi_bl_tuple, isi_bl_list, isi_bl_dict, isi_int_int, isi_int_bool, isi_int_str, isi_int_tuple, isi_int_list, isi_int_dict, isi_str_int, isi_str_bool, isi_str_str, isi_str_tuple, isi_str_list, isi_str_dict, isi_tup_int, isi_tup_bool, isi_tup_str, isi_tup_tuple, isi_tup_list, isi_tup_dict, isi_fro_int, isi_fro_bool, isi_fro_str, isi_fro_tuple, isi_fro_list, isi_fro_dict, PV.isNon, eq_self, decide_true, Bool.not_true, Bool.not_false, sl_fro, gc_pure, cl_lst, cl_dK, cx_ref, cx_str, cop_add, cb_len, cl_q, cm_append, cm_pop, pop_snoc, cm_extend, csrc, ctg, ixs, gc_ref, gc_ref0, sizeLine_eq, Nat.reduceLeDiff, Int.reduceLT, Int.reduceLE, true_and, and_true, st_new0, st_newk, st_set0, st_setk, List.getElem?_cons_zero, List.getElem?_cons_succ, List.append_assoc, List.cons_append, List.nil_append, List.append_nil, List.length_append, List.length_cons, List.length_nil, Nat.zero_add, Nat.reduceAdd, List.set_cons_zero, List.set_cons_succ, stV, getV0, getVs, setV0, setVs]
      refine cl_of (law_draw_do h4 ev7.dice (by decide)) ?_
      rintro v M14 ⟨y6, rfl, hy60, hy61, ev8⟩
      simp only [ss_nil, ss_cons, s_asgv, s_asgt, s_para, s_auga, s_exp, s_retE, s_retNon, s_if, s_while, s_fo, s_break, s_conti, s_ps, e_var, varK, e_int, e_bl, e_non, e_str, e_ty, e_bin, e_neg, e_cmp, e_chain, e_isN, e_notN, e_and, e_or, e_not, e_ite, e_call, e_callK, prm_some, e_bi, e_tup, e_lst, lstK, tupK, e_ix, e_sl, eo_none, eo_some, in_int, e_mt, e_bits, bt_int, ng_int, e_comp, e_gc, es_nil, es_cons, tg_var, tg_tup, tg_sub, tgs_nil, tgs_cons, it_list, it_tup, it_rng1, it_rng2, it_enum, src_tup, src_fro, src_rng, src_enum, op_add, op_sub, op_mul, op_fdiv, op_mod, op_pow, op_shl, op_shr, op_addt, cm_lt, cm_le, cm_gt, cm_ge, cm_eq, cm_ne, cm_eq_bl, cm_ne_bl, cm_eq_str, cm_ne_str, tr_bl, tr_int, tr_non, ch_bl, cond_dec, cond_not, cond_t, cond_f, cond_ne, au_add, au_sub, b_len_tup, b_int, b_int_bl, b_abs, b_max, b_min, at_some, x_tup, isi_non_int, isi_non_bool, isi_non_str, isi_non_tuple, isi_non_list, isi_non_dict, isi_bl_int, isi_bl_bool, isi_bl_str, isi_bl_tuple, isi_bl_list, isi_bl_dict, isi_int_int, isi_int_bool, isi_int_str, isi_int_tuple, isi_int_list, isi_int_dict, isi_str_int, isi_str_bool, isi_str_str, isi_str_tuple, isi_str_list, isi_str_dict, isi_tup_int, isi_tup_bool, isi_tup_str, isi_tup_tuple, isi_tup_list, isi_tup_dict, isi_fro_int, isi_fro_bool, isi_fro_str, isi_fro_tuple, isi_fro_list, isi_fro_dict, PV.isNon, eq_self, decide_true, Bool.not_true, Bool.not_false, sl_fro, gc_pure, cl_lst, cl_dK, cx_ref, cx_str, cop_add, cb_len, cl_q, cm_append, cm_pop, pop_snoc, cm_extend, csrc, ctg, ixs, gc_ref, gc_ref0, sizeLine_eq, Nat.reduceLeDiff, Int.reduceLT, Int.reduceLE, true_and, and_true, st_new0, st_newk, st_set0, st_setk, List.getElem?_cons_zero, List.getElem?_cons_succ, List.append_assoc, List.cons_append, List.nil_append, List.append_nil, List.length_append, List.length_cons, List.length_nil, Nat.zero_add, Nat.reduceAdd, List.set_cons_zero, List.set_cons_succ, stV, getV0, getVs, setV0, setVs]
      refine fo_rule (fun i e B => ∃ (o7 : Option PV) (M' : Store), e = [some (.fro ns), some (.ref d), some (.ref rr), some (.int num), some (.int r6), some (.bl (decide (r2 * r2 = x))), o6, o7, none] ∧ B = ⟨M'⟩ ∧ Dice p d M') ⟨_, _, rfl, rfl, ev8.dice⟩ (fun _ _ _ _ _ => rfl) ?_ ?_
      · rintro i v e M' hv ⟨o7, M', rfl, eM, hd⟩
        cases eM
        have hv2 : ∃ m : Int, v = .int m ∧ 0 ≤ m ∧ m ≤ 5000 := by
          have := List.mem_of_getElem? hv
          simp only [List.mem_cons, List.not_mem_nil, or_false] at this
          rcases this with rfl | rfl | rfl
          · exact ⟨_, rfl, by decide, by decide⟩
          · exact ⟨_, rfl, by omega, by omega⟩
          · exact ⟨_, rfl, by omega, by omega⟩
        obtain ⟨m, rfl, hm0, hm1⟩ := hv2
        simp only [ss_nil, ss_cons, s_asgv, s_asgt, s_para, s_auga, s_exp, s_retE, s_retNon, s_if, s_while, s_fo, s_break, s_conti, s_ps, e_var, varK, e_int, e_bl, e_non, e_str, e_ty, e_bin, e_neg, e_cmp, e_chain, e_isN, e_notN, e_and, e_or, e_not, e_ite, e_call, e_callK, prm_some, e_bi, e_tup, e_lst, lstK, tupK, e_ix, e_sl, eo_none, eo_some, in_int, e_mt, e_bits, bt_int, ng_int, e_comp, e_gc, es_nil, es_cons, tg_var, tg_tup, tg_sub, tgs_nil, tgs_cons, it_list, it_tup, it_rng1, it_rng2, it_enum, src_tup, src_fro, src_rng, src_enum, op_add, op_sub, op_mul, op_fdiv, op_mod, op_pow, op_shl, op_shr, op_addt, cm_lt, cm_le, cm_gt, cm_ge, cm_eq, cm_ne, cm_eq_bl, cm_ne_bl, cm_eq_str, cm_ne_str, tr_bl, tr_int, tr_non, ch_bl, cond_dec, cond_not, cond_t, cond_f, cond_ne, au_add, au_sub, b_len_tup, b_int, b_int_bl, b_abs, b_max, b_min, at_some, x_tup, isi_non_int, isi_non_bool, isi_non_str, isi_non_tuple, isi_non_list, isi_non_dict, isi_bl_int, isi_bl_bool, isi_bl_str, isi_bl_tuple, isi_bl_list, isi_bl_dict, isi_int_int, isi_int_bool, isi_int_str, isi_int_tuple, isi_int_list, isi_int_dict, isi_str_int, isi_str_bool, isi_str_str, isi_str_tuple, isi_str_list, isi_str_dict, isi_tup_int, isi_tup_bool, isi_tup_str, isi_tup_tuple, isi_tup_list, isi_tup_dict, isi_fro_int, isi_fro_bool, isi_fro_str, isi_fro_tuple, isi_fro_list, isi_fro_dict, PV.isNon, eq_self, decide_true, Bool.not_true, Bool.not_false, sl_fro, gc_pure, cl_lst, cl_dK, cx_ref, cx_str, cop_add, cb_len, cl_q, cm_append, cm_pop, pop_snoc, cm_extend, csrc, ctg, ixs, gc_ref, gc_ref0, sizeLine_eq, Nat.reduceLeDiff, Int.reduceLT, Int.reduceLE, true_and, and_true, st_new0, st_newk, st_set0, st_setk, List.getElem?_cons_zero, List.getElem?_cons_succ, List.append_assoc, List.cons_append, List.nil_append, List.append_nil, List.length_append, List.length_cons, List.length_nil, Nat.zero_add, Nat.reduceAdd, List.set_cons_zero, List.set_cons_succ, stV, getV0, getVs, setV0, setVs, q_law_f2]
        refine cl_of (law_bounds_do h0 h2 h4 h5 h7 h10 h11 hd hm0 hm1) ?_
        rintro v M15 ⟨rfl, ev9⟩
        simp only [ss_nil, ss_cons, s_asgv, s_asgt, s_para, s_auga, s_exp, s_retE, s_retNon, s_if, s_while, s_fo, s_break, s_conti, s_ps, e_var, varK, e_int, e_bl, e_non, e_str, e_ty, e_bin, e_neg, e_cmp, e_chain, e_isN, e_notN, e_and, e_or, e_not, e_ite, e_call, e_callK, prm_some, e_bi, e_tup, e_lst, lstK, tupK, e_ix, e_sl, eo_none, eo_some, in_int, e_mt, e_bits, bt_int, ng_int, e_comp, e_gc, es_nil, es_cons, tg_var, tg_tup, tg_sub, tgs_nil, tgs_cons, it_list, it_tup, it_rng1, it_rng2, it_enum, src_tup, src_fro, src_rng, src_enum, op_add, op_sub, op_mul, op_fdiv, op_mod, op_pow, op_shl, op_shr, op_addt, cm_lt, cm_le, cm_gt, cm_ge, cm_eq, cm_ne, cm_eq_bl, cm_ne_bl, cm_eq_str, cm_ne_str, tr_bl, tr_int, tr_non, ch_bl, cond_dec, cond_not, cond_t, cond_f, cond_ne, au_add, au_sub, b_len_tup, b_int, b_int_bl, b_abs, b_max, b_min, at_some, x_tup, isi_non_int, isi_non_bool, isi_non_str, isi_non_tuple, isi_non_list, isi_non_dict, isi_bl_int, isi_bl_bool, isi_bl_str, isi_bl_tuple, isi_bl_list, isi_bl_dict, isi_int_int, isi_int_bool, isi_int_str, isi_int_tuple, isi_int_list, isi_int_dict, isi_str_int, isi_str_bool, isi_str_str, isi_str_tuple, isi_str_list, isi_str_dict, isi_tup_int, isi_tup_bool, isi_tup_str, isi_tup_tuple, isi_tup_list, isi_tup_dict, isi_fro_int, isi_fro_bool, isi_fro_str, isi_fro_tuple, isi_fro_list, isi_fro_dict, PV.isNon, eq_self, decide_true, Bool.not_true, Bool.not_false, sl_fro, gc_pure, cl_lst, cl_dK, cx_ref, cx_str, cop_add, cb_len, cl_q, cm_append, cm_pop, pop_snoc, cm_extend, csrc, ctg, ixs, gc_ref, gc_ref0, sizeLine_eq, Nat.reduceLeDiff, Int.reduceLT, Int.reduceLE, true_and, and_true, st_new0, st_newk, st_set0, st_setk, List.getElem?_cons_zero, List.getElem?_cons_succ, List.append_assoc, List.cons_append, List.nil_append, List.append_nil, List.length_append, List.length_cons, List.length_nil, Nat.zero_add, Nat.reduceAdd, List.set_cons_zero, List.set_cons_succ, stV, getV0, getVs, setV0, setVs]
        exact ⟨_, _, rfl, rfl, ev9.dice⟩
      · rintro e M' ⟨o7, M', rfl, eM, hd⟩
        cases eM
        simp only [ss_nil, ss_cons, s_asgv, s_asgt, s_para, s_auga, s_exp, s_retE, s_retNon, s_if, s_while, s_fo, s_break, s_conti, s_ps, e_var, varK, e_int, e_bl, e_non, e_str, e_ty, e_bin, e_neg, e_cmp, e_chain, e_isN, e_notN, e_and, e_or, e_not, e_ite, e_call, e_callK, prm_some, e_bi, e_tup, e_lst, lstK, tupK, e_ix, e_sl, eo_none, eo_some, in_int, e_mt, e_bits, bt_int, ng_int, e_comp, e_gc, es_nil, es_cons, tg_var, tg_tup, tg_sub, tgs_nil, tgs_cons, it_list, it_tup, it_rng1, it_rng2, it_enum, src_tup, src_fro, src_rng, src_enum, op_add, op_sub, op_mul, op_fdiv, op_mod, op_pow, op_shl, op_shr, op_addt, cm_lt, cm_le, cm_gt, cm_ge, cm_eq, cm_ne, cm_eq_bl, cm_ne_bl, cm_eq_str, cm_ne_str, tr_bl, tr_int, tr_non, ch_bl, cond_dec, cond_not, cond_t, cond_f, cond_ne, au_add, au_sub, b_len_tup, b_int, b_int_bl, b_abs, b_max, b_min, at_some, x_tup, isi_non_int, isi_non_bool, isi_non_str, isi_non_tuple, isi_non_list, isi_non_dict, isi_bl_int, isi_bl_bool, isi_bl_str, isi_bl_tuple, isi_bl_list, isi_bl_dict, isi_int_int, isi_int_bool, isi_int_str, isi_int_tuple, isi_int_list, isi_int_dict, isi_str_int, isi_str_bool, isi_str_str, isi_str_tuple, isi_str_list, isi_str_dict, isi_tup_int, isi_tup_bool, isi_tup_str, isi_tup_tuple, isi_tup_list, isi_tup_dict, isi_fro_int, isi_fro_bool, isi_fro_str, isi_fro_tuple, isi_fro_list, isi_fro_dict, PV.isNon, eq_self, decide_true, Bool.not_true, Bool.not_false, sl_fro, gc_pure, cl_lst, cl_dK, cx_ref, cx_str, cop_add, cb_len, cl_q, cm_append, cm_pop, pop_snoc, cm_extend, csrc, ctg, ixs, gc_ref, gc_ref0, sizeLine_eq, Nat.reduceLeDiff, Int.reduceLT, Int.reduceLE, true_and, and_true, st_new0, st_newk, st_set0, st_setk, List.getElem?_cons_zero, List.getElem?_cons_succ, List.append_assoc, List.cons_append, List.nil_append, List.append_nil, List.length_append, List.length_cons, List.length_nil, Nat.zero_add, Nat.reduceAdd, List.set_cons_zero, List.set_cons_succ, stV, getV0, getVs, setV0, setVs]
        refine cl_of (law_draw_do h4 hd (by decide)) ?_
        rintro v M15 ⟨y7, rfl, hy70, hy71, ev9⟩
        simp only [ss_nil, ss_cons, s_asgv, s_asgt, s_para, s_auga, s_exp, s_retE, s_retNon, s_if, s_while, s_fo, s_break, s_conti, s_ps, e_var, varK, e_int, e_bl, e_non, e_str, e_ty, e_bin, e_neg, e_cmp, e_chain, e_isN, e_notN, e_and, e_or, e_not, e_ite, e_call, e_callK, prm_some, e_bi, e_tup, e_lst, lstK, tupK, e_ix, e_sl, eo_none, eo_some, in_int, e_mt, e_bits, bt_int, ng_int, e_comp, e_gc, es_nil, es_cons, tg_var, tg_tup, tg_sub, tgs_nil, tgs_cons, it_list, it_tup, it_rng1, it_rng2, it_enum, src_tup, src_fro, src_rng, src_enum, op_add, op_sub, op_mul, op_fdiv, op_mod, op_pow, op_shl, op_shr, op_addt, cm_lt, cm_le, cm_gt, cm_ge, cm_eq, cm_ne, cm_eq_bl, cm_ne_bl, cm_eq_str, cm_ne_str, tr_bl, tr_int, tr_non, ch_bl, cond_dec, cond_not, cond_t, cond_f, cond_ne, au_add, au_sub, b_len_tup, b_int, b_int_bl, b_abs, b_max, b_min, at_some, x_tup, isi_non_int, isi_non_bool, isi_non_str, isi_non_tuple, isi_non_list, isi_non_dict, isi_bl_int, isi_bl_bool, isi_bl_str, isi_bl_tuple, isi_bl_list, isi_bl_dict, isi_int_int, isi_int_bool, isi_int_str, isi_int_tuple, isi_int_list, isi_int_dict, isi_str_int, isi_str_bool, isi_str_str, isi_str_tuple, isi_str_list, isi_str_dict, isi_tup_int, isi_tup_bool, isi_tup_str, isi_tup_tuple, isi_tup_list, isi_tup_dict, isi_fro_int, isi_fro_bool, isi_fro_str, isi_fro_tuple, isi_fro_list, isi_fro_dict, PV.isNon, eq_self, decide_true, Bool.not_true, Bool.not_false, sl_fro, gc_pure, cl_lst, cl_dK, cx_ref, cx_str, cop_add, cb_len, cl_q, cm_append, cm_pop, pop_snoc, cm_extend, csrc, ctg, ixs, gc_ref, gc_ref0, sizeLine_eq, Nat.reduceLeDiff, Int.reduceLT, Int.reduceLE, true_and, and_true, st_new0, st_newk, st_set0, st_setk, List.getElem?_cons_zero, List.getElem?_cons_succ, List.append_assoc, List.cons_append, List.nil_append, List.append_nil, List.length_append, List.length_cons, List.length_nil, Nat.zero_add, Nat.reduceAdd, List.set_cons_zero, List.set_cons_succ, stV, getV0, getVs, setV0, setVs]
        refine ⟨fun _ => ?_, fun _ => gc_val rfl⟩
        refine cl_of (law_great_do h4 h6 ev9.dice (by decide) (by decide)) ?_
        rintro v M16 ⟨g, rfl, _, hg2, hgs, ev10⟩
        simp only [ss_nil, ss_cons, s_asgv, s_asgt, s_para, s_auga, s_exp, s_retE, s_retNon, s_if, s_while, s_fo, s_break, s_conti, s_ps, e_var, varK, e_int, e_bl, e_non, e_str, e_ty, e_bin, e_neg, e_cmp, e_chain, e_isN, e_notN, e_and, e_or, e_not, e_ite, e_call, e_callK, prm_some, e_bi, e_tup, e_lst, lstK, tupK, e_ix, e_sl, eo_none, eo_some, in_int, e_mt, e_bits, bt_int, ng_int, e_comp, e_gc, es_nil, es_cons, tg_var, tg_tup, tg_sub, tgs_nil, tgs_cons, it_list, it_tup, it_rng1, it_rng2, it_enum, src_tup, src_fro, src_rng, src_enum, op_add, op_sub, op_mul, op_fdiv, op_mod, op_pow, op_shl, op_shr, op_addt, cm_lt, cm_le, cm_gt, cm_ge, cm_eq, cm_ne, cm_eq_bl, cm_ne_bl, cm_eq_str, cm_ne_str, tr_bl, tr_int, tr_non, ch_bl, cond_dec, cond_not, cond_t, cond_f, cond_ne, au_add, au_sub, b_len_tup, b_int, b_int_bl, b_abs, b_max, b_min, at_some, x_tup, isi_non_int, isi_non_bool, isi_non_str, isi_non_tuple, isi_non_list, isi_non_dict, isi_bl_int, isi_bl_bool, isi_bl_str, isi_bl_tuple, isi_bl_list, isi_bl_dict, isi_int_int, isi_int_bool, isi_int_str, isi_int_tuple, isi_int_list, isi_int_dict, isi_str_int, isi_str_bool, isi_str_str, isi_str_tuple, isi_str_list, isi_str_dict, isi_tup_int, isi_tup_bool, isi_tup_str, isi_tup_tuple, isi_tup_list, isi_tup_dict, isi_fro_int, isi_fro_bool, isi_fro_str, isi_fro_tuple, isi_fro_list, isi_fro_dict, PV.isNon, eq_self, decide_true, Bool.not_true, Bool.not_false, sl_fro, gc_pure, cl_lst, cl_dK, cx_ref, cx_str, cop_add, cb_len, cl_q, cm_append, cm_pop, pop_snoc, cm_extend, csrc, ctg, ixs, gc_ref, gc_ref0, sizeLine_eq, Nat.reduceLeDiff, Int.reduceLT, Int.reduceLE, true_and, and_true, st_new0, st_newk, st_set0, st_setk, List.getElem?_cons_zero, List.getElem?_cons_succ, List.append_assoc, List.cons_append, List.nil_append, List.append_nil, List.length_append, List.length_cons, List.length_nil, Nat.zero_add, Nat.reduceAdd, List.set_cons_zero, List.set_cons_succ, stV, getV0, getVs, setV0, setVs]
        refine cl_of (law_rooted_do h0 h1 h4 h5 h8 h9 ev10.dice (hg2 (by decide)) (lt_p2 hgs (by decide))) ?_
        rintro v M17 ⟨rfl, ev11⟩
        simp only [ss_nil, ss_cons, s_asgv, s_asgt, s_para, s_auga, s_exp, s_retE, s_retNon, s_if, s_while, s_fo, s_break, s_conti, s_ps, e_var, varK, e_int, e_bl, e_non, e_str, e_ty, e_bin, e_neg, e_cmp, e_chain, e_isN, e_notN, e_and, e_or, e_not, e_ite, e_call, e_callK, prm_some, e_bi, e_tup, e_lst, lstK, tupK, e_ix, e_sl, eo_none, eo_some, in_int, e_mt, e_bits, bt_int, ng_int, e_comp, e_gc, es_nil, es_cons, tg_var, tg_tup, tg_sub, tgs_nil, tgs_cons, it_list, it_tup, it_rng1, it_rng2, it_enum, src_tup, src_fro, src_rng, src_enum, op_add, op_sub, op_mul, op_fdiv, op_mod, op_pow, op_shl, op_shr, op_addt, cm_lt, cm_le, cm_gt, cm_ge, cm_eq, cm_ne, cm_eq_bl, cm_ne_bl, cm_eq_str, cm_ne_str, tr_bl, tr_int, tr_non, ch_bl, cond_dec, cond_not, cond_t, cond_f, cond_ne, au_add, au_sub, b_len_tup, b_int, b_int_bl, b_abs, b_max, b_min, at_some, x_tup, isi_non_int, isi_non_bool, isi_non_str, isi_non_tuple, isi_non_list, isi_non_dict, isi_bl_int, isi_bl_bool, isi_bl_str, isi_bl_tuple, isi_bl_list, isi_bl_dict, isi_int_int, isi_int_bool, isi_int_str, isi_int_tuple, isi_int_list, isi_int_dict, isi_str_int, isi_str_bool, isi_str_str, isi_str_tuple, isi_str_list, isi_str_dict, isi_tup_int, isi_tup_bool, isi_tup_str, isi_tup_tuple, isi_tup_list, isi_tup_dict, isi_fro_int, isi_fro_bool, isi_fro_str, isi_fro_tuple, isi_fro_list, isi_fro_dict, PV.isNon, eq_self, decide_true, Bool.not_true, Bool.not_false, sl_fro, gc_pure, cl_lst, cl_dK, cx_ref, cx_str, cop_add, cb_len, cl_q, cm_append, cm_pop, pop_snoc, cm_extend, csrc, ctg, ixs, gc_ref, gc_ref0, sizeLine_eq, Nat.reduceLeDiff, Int.reduceLT, Int.reduceLE, true_and, and_true, st_new0, st_newk, st_set0, st_setk, List.getElem?_cons_zero, List.getElem?_cons_succ, List.append_assoc, List.cons_append, List.nil_append, List.append_nil, List.length_append, List.length_cons, List.length_nil, Nat.zero_add, Nat.reduceAdd, List.set_cons_zero, List.set_cons_succ, stV, getV0, getVs, setV0, setVs]
        refine cl_of (law_bounds_do h0 h2 h4 h5 h7 h10 h11 ev11.dice (by decide) (by decide)) ?_
        rintro v M18 ⟨rfl, ev12⟩
        exact gc_val rfl
end Q

namespace Q
open PySem PySem.Spec PyProof.Rows L2
abbrev R : PySem.W.OpenRow := PySem.W.OpenLaw.row PySem.Challenge.rw_surdways_k01_roots_bounds
abbrev hk : PySem.W.Hook := He.hookD 4 (factsOf ds free) (ds.map DD.D)
def ob (s : PySem.W.SharedT) : He.AlD := He.obsDG 4 (factsOf ds free) (ds.map DD.D) (HandSHeadRun.getT s)
theorem ob_eq (s : PySem.W.SharedT) : ob s = hk.obs s.abs := He.obsDG_eq (HandSHeadRun.getT_eq s)
def loose : List Str := ["whole_root", "is_square", "root_bounds", "_law_dice", "_law_draw", "_law_same", "_law_great", "_law_root", "_law_beside", "_law_rooted", "_law_bounded", "_law_bounds"]
theorem run (w : World) : HandSHeadRun.RunEq R (PySem.W.view R.prog [14]) hk ob 1000 loose w := by
  intro os
  kernel_rfl
theorem k01_law (ns : List Int) (h1 : ns.length ≤ 63) (h2 : ∀ z ∈ ns, Builtin.Int.intBits z ≤ 1048576) : ∃ M', den (tabs ds) (19 + 1) 12 [.fro ns] [] = .ok (.bl true) M' := by
  obtain ⟨v, M, e, h⟩ := (law_do (ns := ns) (n := 16) h1).out.out
  exact ⟨M, by rw [← h]; exact e⟩
end Q
open PySem PySem.W PySem.Calls PyProof.Rows
theorem PySem.Challenge.cw_surdways_k01_roots_bounds_holds : PySem.Challenge.rw_surdways_k01_roots_bounds.Holds := by
  w_on; o_law
  refine HandSHeadRun.head_any (r := OpenLaw.row PySem.Challenge.rw_surdways_k01_roots_bounds) (q := view (OpenLaw.row PySem.Challenge.rw_surdways_k01_roots_bounds).prog [14]) (H := Q.hk) (ob := Q.ob) (M := 1000) (loose := Q.loose) (d := HandSHeadRun.topDef (OpenLaw.row PySem.Challenge.rw_surdways_k01_roots_bounds).prog 14) (kwd := []) Q.ob_eq
    (by kernel_rfl) (fun s => by kernel_rfl) Q.run (by kernel_rfl) (by kernel_rfl) (by kernel_rfl) (by rfl) (by first | assumption | decide +kernel) (by decide +kernel) ⟨rfl, rfl, rfl, rfl, rfl, by decide +kernel⟩ ?hw ?hc
  case hw => w_witness2
  case hc =>
    exact Q.walk_q (l := PySem.Challenge.rw_surdways_k01_roots_bounds) (m := 63) (n := 19) (x := "script") (dl := Q.dq_law) (fl := 12) (ds := Q.ds) (free := Q.free) rfl (by decide) (by kernel_rfl) ⟨rfl, by decide, by decide⟩ (fun w h y => y) (by kernel_rfl) rfl rfl Q.all_ok Q.all_bd Q.k01_law

