import PyProof.Rows.All
import Wide.All
import OpenK.AllK
import Wide.FinOn
import HandS.ForMost
import HandS.ForExc
import HandS.Wide
import HandS.WideBits
import HandS.TupAny
import HandS.IsInst
import HandS.Flow
import HandS.CallSlots
import HandS.SortInts
import HandS.More
import HandS.SetFor
import HandS.Strs
import HandS.Defaults
import HandS.Style
import HandS.Head0
import HandS.Head1
import HandS.Head2
import HandS.HeadEnd
import HandS.HeadHook1
import HandS.HeadHook2
import HandS.EndBits
import PySem.Challenge.RW_surdways_k02_kernels
set_option Elab.async false
set_option linter.all false
set_option maxRecDepth 100000
set_option maxHeartbeats 8000000
set_option exponentiation.threshold 30000
/-! QA: pure values, the store, what they stand for in the heap. -/
namespace Q
open PySem PySem.Spec PyProof.Rows L2

/-- a value: tuples are pure, lists and dicts are cells of the store -/
inductive PV where
  | non | bl (b : Bool) | int (i : Int) | str (x : Str) | tup (xs : List PV) | ref (n : Nat) | fro (ns : List Int) | ty (n : String)
inductive Cell where
  | lst (xs : List PV) | dK (lk : Bool) (kvs : List (Key × PV)) | dT (lk : Bool) (kvs : List (List Key × PV))
abbrev Store := List Cell
structure Ex where
  cls : Str
  fs : List (Str × PV)
inductive Res (α : Type) where
  | ok (a : α) (M : Store) | exc (e : Ex) (M : Store) | bad
def Res.bind {α β : Type} : Res α → (α → Store → Res β) → Res β
  | .ok a M, f => f a M
  | .exc e M, _ => .exc e M
  | .bad, _ => .bad
@[simp] theorem Res.bind_ok {α β : Type} (a : α) (M : Store) (f : α → Store → Res β) : (Res.ok a M).bind f = f a M := rfl
@[simp] theorem Res.bind_exc {α β : Type} (e : Ex) (M : Store) (f : α → Store → Res β) : (Res.exc e M).bind f = .exc e M := rfl
@[simp] theorem Res.bind_bad {α β : Type} (f : α → Store → Res β) : (Res.bad : Res α).bind f = .bad := rfl
def Res.noexc {α : Type} : Res α → Res α
  | .exc _ _ => .bad
  | r => r
@[simp] theorem Res.noexc_ok {α : Type} (a : α) (M : Store) : (Res.ok a M).noexc = .ok a M := rfl
@[simp] theorem Res.noexc_bad {α : Type} : (Res.bad : Res α).noexc = .bad := rfl
theorem Res.bind_assoc {α β γ : Type} (r : Res α) (f : α → Store → Res β) (g : β → Store → Res γ) : (r.bind f).bind g = r.bind fun a M => (f a M).bind g := by
  cases r <;> rfl

/-! ### relation to the heap -/
/-- a list that stays as it is -/
def Fro (K : PySem.W.Frag) (H : Hp) (a : Addr) (xs : List V) : Prop :=
  (∃ o, H a = some (.frz o (.lst xs))) ∨ ∃ (o : Obj) (its : Array Value) (n : Nat), K.lookup a = some o ∧ o.cls = .type "list" ∧ o.dict = none ∧ o.data = .seq its n ∧ its.size ≤ sizeLine ∧ Vals xs its.toList
theorem Fro.sq {K : PySem.W.Frag} {H : Hp} {a : Addr} {xs : List V} (h : Fro K H a xs) : SqL K H a xs := by
  rcases h with ⟨o, h⟩ | h
  · exact .inl (.inr ⟨o, h⟩)
  · exact .inr h

/-- the written part, and which tuples of it may be met -/
structure Par where
  F : PySem.W.Frag
  kt : List PV → Prop
  ex : Str → Option Addr
def KTup (K : PySem.W.Frag) (a : Addr) (xs : List V) : Prop := ∃ (o : Obj) (its : Array Value) (n : Nat), K.lookup a = some o ∧ o.cls = .type "tuple" ∧ o.data = .seq its n ∧ its.size ≤ sizeLine ∧ Vals xs its.toList
/-- a tuple as it stands: tracked, or of the written part -/
def TupAt (K : Par) (H : Hp) (a : Addr) (xs : List PV) (vs : List V) : Prop := H a = some (.tup vs) ∨ (K.kt xs ∧ KTup K.F a vs)
theorem TupAt.sq {K : Par} {H : Hp} {a : Addr} {xs : List PV} {vs : List V} (h : TupAt K H a xs vs) : SqT K.F H a vs := by
  rcases h with h | ⟨_, h⟩
  · exact .inl (.inl h)
  · exact .inr h

mutual
def RelP (K : Par) (ρ : List Addr) (H : Hp) : PV → V → Prop
  | .non, v => v = .non
  | .bl b, v => v = .bl b
  | .int i, v => v = .int i
  | .str x, v => v = .str x
  | .tup xs, v => ∃ a vs, v = .ref a ∧ TupAt K H a xs vs ∧ RelPs K ρ H xs vs
  | .ref n, v => ∃ a, v = .ref a ∧ ρ[n]? = some a
  | .fro ns, v => ∃ a, v = .ref a ∧ Fro K.F H a (ns.map V.int)
  | .ty n, v => v = .ty n
def RelPs (K : Par) (ρ : List Addr) (H : Hp) : List PV → List V → Prop
  | [], vs => vs = []
  | x :: xs, vs => ∃ v r, vs = v :: r ∧ RelP K ρ H x v ∧ RelPs K ρ H xs r
end

/-- the heap has grown: what does not change stands; what is tracked beside the store stands -/
structure Ext (ρ : List Addr) (H : Hp) (ρ' : List Addr) (H' : Hp) : Prop where
  pre : ∃ t, ρ' = ρ ++ t ∧ ∀ p ∈ t, H p = none
  tups : ∀ a xs, H a = some (.tup xs) → H' a = some (.tup xs)
  frz : ∀ a o xs, H a = some (.frz o xs) → H' a = some (.frz o xs)
  frame : ∀ a o, H a = some o → a ∉ ρ → H' a = some o
  dom : ∀ a, H' a = none → H a = none
section
variable {K : Par} {ρ ρ' ρ2 : List Addr} {H H' H2 : Hp}
theorem Ext.refl : Ext ρ H ρ H := ⟨⟨[], by simp, fun _ h => nomatch h⟩, fun _ _ h => h, fun _ _ _ h => h, fun _ _ h _ => h, fun _ h => h⟩
theorem Ext.trans (a : Ext ρ H ρ' H') (b : Ext ρ' H' ρ2 H2) : Ext ρ H ρ2 H2 := by
  obtain ⟨t, rfl, ht⟩ := a.pre
  obtain ⟨u, rfl, hu⟩ := b.pre
  refine ⟨⟨t ++ u, by simp, fun p hp => ?_⟩, fun x xs h => b.tups x xs (a.tups x xs h), fun x o xs h => b.frz x o xs (a.frz x o xs h), fun x o h hn => ?_, fun x h => a.dom x (b.dom x h)⟩
  · rcases List.mem_append.mp hp with h | h
    · exact ht p h
    · exact a.dom p (hu p h)
  · refine b.frame x o (a.frame x o h hn) fun hm => ?_
    rcases List.mem_append.mp hm with z | z
    · exact hn z
    · have := ht x z
      rw [h] at this
      cases this
theorem upd_none {H : Hp} {p a : Addr} {o : HO} (h : L2.upd H p o a = none) : H a = none := by
  by_cases e : a = p
  · rw [e, upd_same] at h
    cases h
  · rw [upd_ne e] at h
    exact h
theorem Ext.fresh1 {p : Addr} {o : HO} (h : H p = none) : Ext ρ H (ρ ++ [p]) (L2.upd H p o) :=
  ⟨⟨[p], rfl, fun q hq => by rw [show q = p by simpa using hq]; exact h⟩, fun a xs e => by rw [upd_ne (ne_of_none e h)]; exact e, fun a ob xs e => by rw [upd_ne (ne_of_none e h)]; exact e,
   fun a ob e _ => by rw [upd_ne (ne_of_none e h)]; exact e, fun a e => upd_none e⟩
theorem Ext.fresh0 {p : Addr} {o : HO} (h : H p = none) : Ext ρ H ρ (L2.upd H p o) :=
  ⟨⟨[], by simp, fun _ h => nomatch h⟩, fun a xs e => by rw [upd_ne (ne_of_none e h)]; exact e, fun a ob xs e => by rw [upd_ne (ne_of_none e h)]; exact e,
   fun a ob e _ => by rw [upd_ne (ne_of_none e h)]; exact e, fun a e => upd_none e⟩
def MutO : HO → Prop
  | .lst _ => True
  | .dK _ => True
  | .dT _ => True
  | .frz _ (.dK _) => True
  | .frz _ (.dT _) => True
  | _ => False
/-- what may be changed -/
def OpnO : HO → Prop
  | .lst _ => True
  | .dK _ => True
  | .dT _ => True
  | _ => False
theorem Ext.upd {p : Addr} {o o' : HO} (hp : p ∈ ρ) (h : H p = some o) (m : OpnO o) : Ext ρ H ρ (L2.upd H p o') := by
  have key : ∀ {a : Addr} {u : HO}, ¬ OpnO u → H a = some u → a ≠ p := fun {a u} hn e z => by
    rw [z, h] at e
    cases e
    exact hn m
  exact ⟨⟨[], by simp, fun _ h => nomatch h⟩, fun a xs e => by rw [upd_ne (key (u := .tup xs) (fun z => z) e)]; exact e, fun a ob xs e => by rw [upd_ne (key (u := .frz ob xs) (fun z => z) e)]; exact e,
    fun a ob e hn => by rw [upd_ne (fun (z : a = p) => hn (z ▸ hp))]; exact e, fun a e => upd_none e⟩
theorem Ext.get (x : Ext ρ H ρ' H') {n : Nat} {a : Addr} (h : ρ[n]? = some a) : ρ'[n]? = some a := by
  obtain ⟨t, rfl, _⟩ := x.pre
  have hn : n < ρ.length := (List.getElem?_eq_some_iff.mp h).1
  rw [List.getElem?_append_left hn]
  exact h
theorem Ext.sqT (x : Ext ρ H ρ' H') {a : Addr} {xs : List PV} {vs : List V} (h : TupAt K H a xs vs) : TupAt K H' a xs vs := by
  rcases h with h | h
  · exact .inl (x.tups a vs h)
  · exact .inr h
theorem Ext.fro (x : Ext ρ H ρ' H') {a : Addr} {vs : List V} (h : Fro K.F H a vs) : Fro K.F H' a vs := by
  rcases h with ⟨o, h⟩ | h
  · exact .inl ⟨o, x.frz a o (.lst vs) h⟩
  · exact .inr h
mutual
theorem RelP.ext (x : Ext ρ H ρ' H') : ∀ (p : PV) {v : V}, RelP K ρ H p v → RelP K ρ' H' p v
  | .non, _, h => by rw [RelP] at h ⊢; exact h
  | .bl _, _, h => by rw [RelP] at h ⊢; exact h
  | .int _, _, h => by rw [RelP] at h ⊢; exact h
  | .str _, _, h => by rw [RelP] at h ⊢; exact h
  | .ty _, _, h => by rw [RelP] at h ⊢; exact h
  | .tup xs, _, h => by
    rw [RelP] at h ⊢
    obtain ⟨a, vs, e, hs, hr⟩ := h
    exact ⟨a, vs, e, x.sqT hs, RelPs.ext x xs hr⟩
  | .ref n, _, h => by
    rw [RelP] at h ⊢
    obtain ⟨a, e, hn⟩ := h
    exact ⟨a, e, x.get hn⟩
  | .fro ns, _, h => by
    rw [RelP] at h ⊢
    obtain ⟨a, e, hn⟩ := h
    exact ⟨a, e, x.fro hn⟩
theorem RelPs.ext (x : Ext ρ H ρ' H') : ∀ (ps : List PV) {vs : List V}, RelPs K ρ H ps vs → RelPs K ρ' H' ps vs
  | [], _, h => by rw [RelPs] at h ⊢; exact h
  | p :: ps, _, h => by
    rw [RelPs] at h ⊢
    obtain ⟨v, r, e, h1, h2⟩ := h
    exact ⟨v, r, e, RelP.ext x p h1, RelPs.ext x ps h2⟩
end
theorem relP_non {v : V} : RelP K ρ H .non v ↔ v = .non := by rw [RelP]
theorem relP_bl {b : Bool} {v : V} : RelP K ρ H (.bl b) v ↔ v = .bl b := by rw [RelP]
theorem relP_int {i : Int} {v : V} : RelP K ρ H (.int i) v ↔ v = .int i := by rw [RelP]
theorem relP_str {x : Str} {v : V} : RelP K ρ H (.str x) v ↔ v = .str x := by rw [RelP]
theorem relP_ty {n : String} {v : V} : RelP K ρ H (.ty n) v ↔ v = .ty n := by rw [RelP]
theorem relP_tup {xs : List PV} {v : V} : RelP K ρ H (.tup xs) v ↔ ∃ a vs, v = .ref a ∧ TupAt K H a xs vs ∧ RelPs K ρ H xs vs := by rw [RelP]
theorem relP_ref {n : Nat} {v : V} : RelP K ρ H (.ref n) v ↔ ∃ a, v = .ref a ∧ ρ[n]? = some a := by rw [RelP]
theorem relP_fro {ns : List Int} {v : V} : RelP K ρ H (.fro ns) v ↔ ∃ a, v = .ref a ∧ Fro K.F H a (ns.map V.int) := by rw [RelP]
theorem relPs_nil {vs : List V} : RelPs K ρ H [] vs ↔ vs = [] := by rw [RelPs]
theorem relPs_cons {x : PV} {xs : List PV} {vs : List V} : RelPs K ρ H (x :: xs) vs ↔ ∃ v r, vs = v :: r ∧ RelP K ρ H x v ∧ RelPs K ρ H xs r := by rw [RelPs]
theorem RelPs.mk {x : PV} {xs : List PV} {v : V} {r : List V} (h : RelP K ρ H x v) (t : RelPs K ρ H xs r) : RelPs K ρ H (x :: xs) (v :: r) := relPs_cons.mpr ⟨v, r, rfl, h, t⟩
theorem RelPs.nil : RelPs K ρ H [] [] := relPs_nil.mpr rfl
theorem RelPs.length : ∀ {xs : List PV} {vs : List V}, RelPs K ρ H xs vs → xs.length = vs.length
  | [], _, h => by rw [relPs_nil.mp h]; rfl
  | x :: xs, _, h => by
    obtain ⟨v, r, rfl, _, t⟩ := relPs_cons.mp h
    rw [List.length_cons, List.length_cons, RelPs.length t]
theorem RelPs.append : ∀ {xs ys : List PV} {vs ws : List V}, RelPs K ρ H xs vs → RelPs K ρ H ys ws → RelPs K ρ H (xs ++ ys) (vs ++ ws)
  | [], _, _, _, h, k => by rw [relPs_nil.mp h]; exact k
  | x :: xs, _, _, _, h, k => by
    obtain ⟨v, r, rfl, h1, t⟩ := relPs_cons.mp h
    exact .mk h1 (RelPs.append t k)
theorem RelPs.get : ∀ {xs : List PV} {vs : List V} {i : Nat} {x : PV}, RelPs K ρ H xs vs → xs[i]? = some x → ∃ v, vs[i]? = some v ∧ RelP K ρ H x v
  | [], _, _, _, _, e => by simp at e
  | x :: xs, _, 0, _, h, e => by
    obtain ⟨v, r, rfl, h1, t⟩ := relPs_cons.mp h
    simp at e
    subst e
    exact ⟨v, rfl, h1⟩
  | x :: xs, _, i + 1, _, h, e => by
    obtain ⟨v, r, rfl, h1, t⟩ := relPs_cons.mp h
    have := RelPs.get (i := i) t (by simpa using e)
    simpa using this
theorem RelPs.set : ∀ {xs : List PV} {vs : List V} {x : PV} {v : V} (i : Nat), RelPs K ρ H xs vs → RelP K ρ H x v → RelPs K ρ H (xs.set i x) (vs.set i v)
  | [], _, _, _, _, h, _ => by rw [relPs_nil.mp h]; exact .nil
  | y :: xs, _, _, _, 0, h, k => by
    obtain ⟨v, r, rfl, h1, t⟩ := relPs_cons.mp h
    exact .mk k t
  | y :: xs, _, _, _, i + 1, h, k => by
    obtain ⟨v, r, rfl, h1, t⟩ := relPs_cons.mp h
    exact .mk h1 (RelPs.set i t k)
theorem RelPs.take : ∀ {xs : List PV} {vs : List V} (i : Nat), RelPs K ρ H xs vs → RelPs K ρ H (xs.take i) (vs.take i)
  | _, _, 0, _ => by rw [List.take_zero, List.take_zero]; exact .nil
  | [], _, i + 1, h => by rw [relPs_nil.mp h]; exact .nil
  | y :: xs, _, i + 1, h => by
    obtain ⟨v, r, rfl, h1, t⟩ := relPs_cons.mp h
    exact .mk h1 (RelPs.take i t)
theorem RelPs.drop : ∀ {xs : List PV} {vs : List V} (i : Nat), RelPs K ρ H xs vs → RelPs K ρ H (xs.drop i) (vs.drop i)
  | _, _, 0, h => h
  | [], _, i + 1, h => by rw [relPs_nil.mp h]; exact .nil
  | y :: xs, _, i + 1, h => by
    obtain ⟨v, r, rfl, h1, t⟩ := relPs_cons.mp h
    exact RelPs.drop i t
theorem RelPs.ints : ∀ {ns : List Int} {vs : List V}, RelPs K ρ H (ns.map PV.int) vs ↔ vs = ns.map V.int
  | [], _ => relPs_nil
  | n :: ns, vs => by
    constructor
    · intro h
      obtain ⟨v, r, rfl, h1, t⟩ := relPs_cons.mp h
      rw [relP_int.mp h1, RelPs.ints.mp t]
      rfl
    · intro e
      subst e
      exact .mk (relP_int.mpr rfl) (RelPs.ints.mpr rfl)

/-! ### cells -/
def RelKV {κ : Type} (K : Par) (ρ : List Addr) (H : Hp) : List (κ × PV) → List (κ × V) → Prop := Paired fun p q => p.1 = q.1 ∧ RelP K ρ H p.2 q.2
theorem RelKV.ext {κ : Type} (x : Ext ρ H ρ' H') {l : List (κ × PV)} {r : List (κ × V)} (h : RelKV K ρ H l r) : RelKV K ρ' H' l r := Paired.mapP h fun _ _ z => ⟨z.1, z.2.ext x⟩
/-- as it stands: locked, or not -/
def Lk (lk : Bool) (o u : HO) : Prop := match lk with
  | true => ∃ ob, o = .frz ob u
  | false => o = u
def RelC (K : Par) (ρ : List Addr) (H : Hp) : Cell → HO → Prop
  | .lst xs, o => ∃ vs, o = .lst vs ∧ RelPs K ρ H xs vs
  | .dK lk kvs, o => ∃ vs, Lk lk o (.dK vs) ∧ RelKV K ρ H kvs vs
  | .dT lk kvs, o => ∃ vs, Lk lk o (.dT vs) ∧ RelKV K ρ H kvs vs
theorem RelC.ext (x : Ext ρ H ρ' H') {c : Cell} {o : HO} (h : RelC K ρ H c o) : RelC K ρ' H' c o := by
  cases c with
  | lst xs => obtain ⟨vs, e, h⟩ := h; exact ⟨vs, e, h.ext x⟩
  | dK lk kvs => obtain ⟨vs, e, h⟩ := h; exact ⟨vs, e, h.ext x⟩
  | dT lk kvs => obtain ⟨vs, e, h⟩ := h; exact ⟨vs, e, h.ext x⟩
theorem RelC.mut {c : Cell} {o : HO} (h : RelC K ρ H c o) : MutO o := by
  cases c with
  | lst xs => obtain ⟨vs, e, h⟩ := h; subst e; trivial
  | dK lk kvs =>
    obtain ⟨vs, e, h⟩ := h
    cases lk with
    | false => rw [show o = _ from e]; trivial
    | true => obtain ⟨ob, e⟩ := e; rw [e]; trivial
  | dT lk kvs =>
    obtain ⟨vs, e, h⟩ := h
    cases lk with
    | false => rw [show o = _ from e]; trivial
    | true => obtain ⟨ob, e⟩ := e; rw [e]; trivial
/-- not locked -/
def Cell.opn : Cell → Bool
  | .lst _ => true
  | .dK lk _ => !lk
  | .dT lk _ => !lk
theorem RelC.opn {c : Cell} {o : HO} (h : RelC K ρ H c o) (hc : c.opn = true) : OpnO o := by
  cases c with
  | lst xs => obtain ⟨vs, e, h⟩ := h; subst e; trivial
  | dK lk kvs =>
    obtain ⟨vs, e, h⟩ := h
    cases lk with
    | false => rw [show o = _ from e]; trivial
    | true => cases hc
  | dT lk kvs =>
    obtain ⟨vs, e, h⟩ := h
    cases lk with
    | false => rw [show o = _ from e]; trivial
    | true => cases hc
structure RelM (K : Par) (ρ : List Addr) (H : Hp) (M : Store) : Prop where
  len : ρ.length = M.length
  nd : ρ.Nodup
  cell : ∀ (n : Nat) (a : Addr) (c : Cell), ρ[n]? = some a → M[n]? = some c → ∃ o, H a = some o ∧ RelC K ρ H c o
theorem RelM.at_ {M : Store} (r : RelM K ρ H M) {n : Nat} {c : Cell} (h : M[n]? = some c) : ∃ a o, ρ[n]? = some a ∧ H a = some o ∧ RelC K ρ H c o := by
  have hn : n < M.length := (List.getElem?_eq_some_iff.mp h).1
  have hn' : n < ρ.length := by rw [r.len]; exact hn
  obtain ⟨o, h1, h2⟩ := r.cell n ρ[n] c (by simp) h
  exact ⟨_, o, by simp, h1, h2⟩
theorem RelM.mem {M : Store} (r : RelM K ρ H M) {a : Addr} (h : a ∈ ρ) : ∃ o, H a = some o ∧ MutO o := by
  obtain ⟨n, hn, e⟩ := List.getElem_of_mem h
  have hm : n < M.length := by rw [← r.len]; exact hn
  obtain ⟨o, h1, h2⟩ := r.cell n a M[n] (by rw [List.getElem?_eq_getElem hn, e]) (by simp)
  exact ⟨o, h1, h2.mut⟩
theorem nodup_get {l : List Addr} (nd : l.Nodup) {i j : Nat} {a : Addr} (h1 : l[i]? = some a) (h2 : l[j]? = some a) : i = j := by
  obtain ⟨hi, e1⟩ := List.getElem?_eq_some_iff.mp h1
  obtain ⟨hj, e2⟩ := List.getElem?_eq_some_iff.mp h2
  exact (List.getElem_inj nd).mp (e1.trans e2.symm)
/-- nothing of the store is touched -/
theorem RelM.grow {M : Store} (r : RelM K ρ H M) {p : Addr} {o : HO} (h : H p = none) : RelM K ρ (upd H p o) M :=
  ⟨r.len, r.nd, fun n a c h1 h2 => by
    obtain ⟨u, e1, e2⟩ := r.cell n a c h1 h2
    exact ⟨u, by rw [upd_ne (ne_of_none e1 h)]; exact e1, e2.ext (.fresh0 h)⟩⟩
theorem RelM.set {M : Store} (r : RelM K ρ H M) {n : Nat} {a : Addr} {c c' : Cell} {o' : HO} (h1 : ρ[n]? = some a) (h2 : M[n]? = some c) (h : RelC K ρ H c' o') (hc : c.opn = true := by rfl) : RelM K ρ (upd H a o') (M.set n c') := by
  obtain ⟨o, e1, e2⟩ := r.cell n a c h1 h2
  have x : Ext ρ H ρ (upd H a o') := .upd (List.mem_of_getElem? h1) e1 (e2.opn hc)
  refine ⟨by rw [List.length_set]; exact r.len, r.nd, fun m b d k1 k2 => ?_⟩
  by_cases hm : m = n
  · subst hm
    rw [h1] at k1
    cases k1
    have hn : m < M.length := (List.getElem?_eq_some_iff.mp h2).1
    rw [List.getElem?_set_self hn] at k2
    cases k2
    exact ⟨o', upd_same, h.ext x⟩
  · rw [List.getElem?_set_ne (Ne.symm hm)] at k2
    obtain ⟨u, z1, z2⟩ := r.cell m b d k1 k2
    have hb : b ≠ a := fun z => hm (nodup_get r.nd k1 (z ▸ h1))
    exact ⟨u, by rw [upd_ne hb]; exact z1, z2.ext x⟩
theorem RelM.new {M : Store} (r : RelM K ρ H M) {p : Addr} {c : Cell} {o : HO} (h : H p = none) (hc : RelC K ρ H c o) : RelM K (ρ ++ [p]) (upd H p o) (M ++ [c]) := by
  have x : Ext ρ H (ρ ++ [p]) (upd H p o) := .fresh1 h
  have hp : p ∉ ρ := fun hm => by
    obtain ⟨u, e, _⟩ := r.mem hm
    rw [h] at e
    cases e
  refine ⟨by simp [r.len], List.nodup_append.mpr ⟨r.nd, by simp, fun a ha b hb => ?_⟩, fun n a d k1 k2 => ?_⟩
  · have : b = p := by simpa using hb
    subst this
    exact fun z => hp (z ▸ ha)
  · by_cases hn : n < ρ.length
    · rw [List.getElem?_append_left hn] at k1
      rw [List.getElem?_append_left (by rw [← r.len]; exact hn)] at k2
      obtain ⟨u, z1, z2⟩ := r.cell n a d k1 k2
      exact ⟨u, by rw [upd_ne (ne_of_none z1 h)]; exact z1, z2.ext x⟩
    · have hn2 : n < ρ.length + 1 := by
        have := (List.getElem?_eq_some_iff.mp k1).1
        simpa using this
      have en : n = ρ.length := by omega
      subst en
      rw [List.getElem?_append_right (Nat.le_refl _)] at k1
      rw [r.len, List.getElem?_append_right (Nat.le_refl _)] at k2
      simp at k1 k2
      subst k1 k2
      exact ⟨o, upd_same, hc.ext x⟩
theorem RelM.last {M : Store} (r : RelM K ρ H M) (p : Addr) : (ρ ++ [p])[M.length]? = some p := by
  rw [← r.len]
  simp
/-! ### environments -/
abbrev PEnv := List (Option PV)
def getV : PEnv → Nat → Option PV
  | [], _ => none
  | x :: _, 0 => x
  | _ :: r, n + 1 => getV r n
def setV : PEnv → Nat → PV → PEnv
  | [], _, _ => []
  | _ :: r, 0, v => some v :: r
  | x :: r, n + 1, v => x :: setV r n v
def wipeV : PEnv → Nat → PEnv
  | [], _ => []
  | _ :: r, 0 => none :: r
  | x :: r, n + 1 => x :: wipeV r n
inductive RelE (K : Par) (ρ : List Addr) (H : Hp) : PEnv → L2.St → Prop
  | nil : RelE K ρ H [] []
  | non {e : PEnv} {v : Option V} {σ : L2.St} (t : RelE K ρ H e σ) : RelE K ρ H (Option.none :: e) (v :: σ)
  | som {e : PEnv} {x : PV} {v : V} {σ : L2.St} (h : RelP K ρ H x v) (t : RelE K ρ H e σ) : RelE K ρ H (Option.some x :: e) (Option.some v :: σ)
theorem RelE.ext (x : Ext ρ H ρ' H') {e : PEnv} {σ : L2.St} (h : RelE K ρ H e σ) : RelE K ρ' H' e σ := by
  induction h with
  | nil => exact .nil
  | non _ ih => exact .non ih
  | som h _ ih => exact .som (h.ext x) ih
theorem RelE.get {e : PEnv} {σ : L2.St} (h : RelE K ρ H e σ) : ∀ {i : Nat} {x : PV}, getV e i = some x → ∃ v, σ[i]? = some (some v) ∧ RelP K ρ H x v := by
  induction h with
  | nil => intro i x e; cases e
  | non _ ih =>
    intro i x e
    cases i with
    | zero => cases e
    | succ i => simpa using ih e
  | som h _ ih =>
    intro i x e
    cases i with
    | zero => cases e; exact ⟨_, rfl, h⟩
    | succ i => simpa using ih e
theorem RelE.set {e : PEnv} {σ : L2.St} {x : PV} {v : V} (h : RelE K ρ H e σ) (r : RelP K ρ H x v) : ∀ i : Nat, RelE K ρ H (setV e i x) (σ.set i (some v)) := by
  induction h with
  | nil => intro i; exact .nil
  | non t ih =>
    intro i
    cases i with
    | zero => exact .som r t
    | succ i => exact .non (ih i)
  | som h t ih =>
    intro i
    cases i with
    | zero => exact .som r t
    | succ i => exact .som h (ih i)
theorem RelE.wipe {e : PEnv} {σ : L2.St} (h : RelE K ρ H e σ) : ∀ i : Nat, RelE K ρ H (wipeV e i) (σ.set i none) := by
  induction h with
  | nil => intro i; exact .nil
  | non t ih =>
    intro i
    cases i with
    | zero => exact .non t
    | succ i => exact .non (ih i)
  | som h t ih =>
    intro i
    cases i with
    | zero => exact .non t
    | succ i => exact .som h (ih i)
def wipeVs (e : PEnv) : List Nat → PEnv
  | [] => e
  | i :: is => wipeV (wipeVs e is) i
theorem RelE.wipes {e : PEnv} {σ : L2.St} (h : RelE K ρ H e σ) : ∀ is : List Nat, RelE K ρ H (wipeVs e is) (L2.wipe σ is)
  | [] => h
  | i :: is => (RelE.wipes h is).wipe i
theorem RelE.length {e : PEnv} {σ : L2.St} (h : RelE K ρ H e σ) : e.length = σ.length := by
  induction h with
  | nil => rfl
  | non _ ih => simp [ih]
  | som _ _ ih => simp [ih]
end
end Q

/-! QB: the small language and what it does. -/
namespace Q
open PySem PySem.Spec PyProof.Rows L2

inductive Bop where
  | add | sub | mul | fdiv | mod | pow | shl | shr
  deriving DecidableEq
inductive Cop where
  | lt | le | gt | ge | eq | ne | isin | notin
  deriving DecidableEq
inductive BI where
  | len | int | abs | tuple | list | isi | max | min | bool | sorted | sum
  deriving DecidableEq
inductive DKind where
  | keys | vals | items
  deriving DecidableEq
inductive Mt where
  | append | pop | extend | insert
  deriving DecidableEq
mutual
inductive QE where
  | var (i : Nat) | int (i : Int) | bl (b : Bool) | non | str (x : Str) | ty (n : String)
  | bin (o : Bop) (a b : QE)
  | neg (a : QE)
  | cmp (o : Cop) (a b : QE)
  | chain (o o' : Cop) (a b c : QE)
  | isN (a : QE) | notN (a : QE)
  | and (a b : QE) | or (a b : QE) | not (a : QE)
  | ite (c a b : QE)
  | call (f : Nat) (as : QEs)
  | callK (f : Nat) (as ks : QEs) (pm : List Nat)
  | bi (b : BI) (as : QEs)
  | tup (as : QEs) | lst (as : QEs)
  | ix (a b : QE)
  | sl (a : QE) (lo hi : QO)
  | mt (m : Mt) (a : QE) (as : QEs)
  | bits (a : QE)
  | comp (elt : QE) (t : QT) (it : QI) (c : QO) (own : List Nat)
  | gc (a : QE)
  | dnew | get1 (a k : QE) | get2 (a k x : QE)
  | sset (a : QE)
inductive QEs where
  | nil | cons (a : QE) (r : QEs)
inductive QO where
  | none | some (a : QE)
inductive QT where
  | var (i : Nat) | tup (ts : QTs) | sub (a b : QE)
inductive QTs where
  | nil | cons (t : QT) (r : QTs)
inductive QI where
  | list (a : QE) | tup (a : QE) | rng1 (a : QE) | rng2 (a b : QE) | enum (a : QE)
end
mutual
inductive QS where
  | asg (t : QT) (e : QE)
  | par (i j : Nat) (a b : QE)
  | aug (i : Nat) (o : Bop) (e : QE)
  | expr (e : QE)
  | ret (e : QE) | retN
  | ite (c : QE) (a b : QSs)
  | whl (c : QE) (b : QSs)
  | for (t : QT) (it : QI) (b : QSs)
  | ford (kd : DKind) (t : QT) (i : Nat) (b : QSs)
  | brk | cont | pass
inductive QSs where
  | nil | cons (s : QS) (r : QSs)
end

/-! ### values -/
mutual
def PV.beq : PV → PV → Bool
  | .non, .non => true
  | .bl a, .bl b => a == b
  | .int a, .int b => a == b
  | .str a, .str b => a == b
  | .tup xs, .tup ys => PV.beqs xs ys
  | .ref a, .ref b => a == b
  | .fro a, .fro b => a == b
  | .ty a, .ty b => a == b
  | _, _ => false
def PV.beqs : List PV → List PV → Bool
  | [], [] => true
  | x :: xs, y :: ys => PV.beq x y && PV.beqs xs ys
  | _, _ => false
end
mutual
theorem PV.beq_refl : ∀ x : PV, PV.beq x x = true
  | .non => by rw [PV.beq]
  | .bl _ => by rw [PV.beq]; simp
  | .int _ => by rw [PV.beq]; simp
  | .str _ => by rw [PV.beq]; simp
  | .tup xs => by rw [PV.beq]; exact PV.beqs_refl xs
  | .ref _ => by rw [PV.beq]; simp
  | .fro _ => by rw [PV.beq]; simp
  | .ty _ => by rw [PV.beq]; simp
theorem PV.beqs_refl : ∀ xs : List PV, PV.beqs xs xs = true
  | [] => by rw [PV.beqs]
  | x :: xs => by rw [PV.beqs, PV.beq_refl x, PV.beqs_refl xs]; rfl
end
mutual
theorem PV.eq_of_beq : ∀ {x y : PV}, PV.beq x y = true → x = y
  | .non, y, h => by cases y <;> first | rfl | (rw [PV.beq] at h; cases h; done) | (simp [PV.beq] at h)
  | .bl _, y, h => by cases y <;> simp [PV.beq] at h <;> simp [h]
  | .int _, y, h => by cases y <;> simp [PV.beq] at h <;> simp [h]
  | .str _, y, h => by cases y <;> simp [PV.beq] at h <;> simp [h]
  | .tup xs, y, h => by
    cases y with
    | tup ys =>
      rw [PV.beq] at h
      rw [PV.eq_of_beqs h]
    | _ => simp [PV.beq] at h
  | .ref _, y, h => by cases y <;> simp [PV.beq] at h <;> simp [h]
  | .fro _, y, h => by cases y <;> simp [PV.beq] at h <;> simp [h]
  | .ty _, y, h => by cases y <;> simp [PV.beq] at h <;> simp [h]
theorem PV.eq_of_beqs : ∀ {xs ys : List PV}, PV.beqs xs ys = true → xs = ys
  | [], ys, h => by cases ys <;> simp [PV.beqs] at h <;> rfl
  | x :: xs, ys, h => by
    cases ys with
    | nil => simp [PV.beqs] at h
    | cons y ys =>
      rw [PV.beqs, Bool.and_eq_true] at h
      rw [PV.eq_of_beq h.1, PV.eq_of_beqs h.2]
end
mutual
/-- no cell from n on -/
def PV.low (n : Nat) : PV → Bool
  | .tup xs => PV.lows n xs
  | .ref k => decide (k < n)
  | _ => true
def PV.lows (n : Nat) : List PV → Bool
  | [] => true
  | x :: xs => PV.low n x && PV.lows n xs
end
def Cell.low (n : Nat) : Cell → Bool
  | .lst xs => PV.lows n xs
  | .dK _ kvs => kvs.all fun p => p.2.low n
  | .dT _ kvs => kvs.all fun p => p.2.low n
def kvBeq {κ : Type} [DecidableEq κ] : List (κ × PV) → List (κ × PV) → Bool
  | [], [] => true
  | p :: r, q :: t => decide (p.1 = q.1) && (p.2.beq q.2 && kvBeq r t)
  | _, _ => false
def Cell.beq : Cell → Cell → Bool
  | .lst xs, .lst ys => PV.beqs xs ys
  | .dK k a, .dK l b => k == l && kvBeq a b
  | .dT k a, .dT l b => k == l && kvBeq a b
  | _, _ => false
theorem kvBeq_refl {κ : Type} [DecidableEq κ] : ∀ l : List (κ × PV), kvBeq l l = true
  | [] => rfl
  | p :: r => by simp [kvBeq, PV.beq_refl, kvBeq_refl r]
theorem kvBeq_eq {κ : Type} [DecidableEq κ] : ∀ {l r : List (κ × PV)}, kvBeq l r = true → l = r
  | [], [], _ => rfl
  | [], _ :: _, h => by simp [kvBeq] at h
  | _ :: _, [], h => by simp [kvBeq] at h
  | (a, x) :: l, (b, y) :: r, h => by
    simp [kvBeq] at h
    rw [h.1, PV.eq_of_beq h.2.1, kvBeq_eq h.2.2]
theorem Cell.beq_refl (c : Cell) : c.beq c = true := by
  cases c with
  | lst xs => exact PV.beqs_refl xs
  | dK k l => simp [Cell.beq, kvBeq_refl l]
  | dT k l => simp [Cell.beq, kvBeq_refl l]
theorem Cell.eq_of_beq {c d : Cell} (h : c.beq d = true) : c = d := by
  cases c <;> cases d <;> simp [Cell.beq] at h
  · rw [PV.eq_of_beqs h]
  · rw [h.1, kvBeq_eq h.2]
  · rw [h.1, kvBeq_eq h.2]
/-- cells beyond those that stood ahead may go -/
def gcOk (n : Nat) : Store → Store → Bool
  | [], [] => true
  | c :: cs, d :: ds => (Cell.beq c d || d.low n) && gcOk n cs ds
  | _, _ => false
def gcR (M : Store) (pv : PV) (M' : Store) : Res PV :=
  if M'.length ≤ M.length then .ok pv M'
  else if pv.low M.length && gcOk M.length M (M'.take M.length) then .ok pv (M'.take M.length) else .ok pv M'

def PV.isNon : PV → Bool
  | .non => true
  | _ => false
def truV : PV → Store → Option Bool
  | .non, _ => some false
  | .bl b, _ => some b
  | .int i, _ => some (i != 0)
  | .str x, _ => if x.length ≤ sizeLine then some (x.length != 0) else none
  | .tup xs, _ => some (!xs.isEmpty)
  | .ref n, M => match M[n]? with
    | some (.lst xs) => some (!xs.isEmpty)
    | some (.dK false kvs) => some (!kvs.isEmpty)
    | _ => none
  | .fro ns, _ => some (!ns.isEmpty)
  | .ty _, _ => none
def truR (v : PV) (M : Store) : Res Bool := match truV v M with
  | some b => .ok b M
  | none => .bad
instance (i j : Int) : Decidable (CMulW i j) := inferInstanceAs (Decidable (_ < _))

def lists2 (M : Store) (a b : Nat) : Option (List PV × List PV) := match M[a]?, M[b]? with
  | some (.lst xs), some (.lst ys) => some (xs, ys)
  | _, _ => none
def addV : PV → PV → Store → Res PV
  | .int i, .int j, M => .ok (.int (i + j)) M
  | .str x, .str y, M => if x.length + y.length ≤ sizeLine then .ok (.str (x ++ y)) M else .bad
  | .tup xs, .tup ys, M => if xs.length + ys.length ≤ sizeLine then .ok (.tup (xs ++ ys)) M else .bad
  | .ref a, .ref b, M => match lists2 M a b with
    | some (xs, ys) => if xs.length + ys.length ≤ sizeLine then .ok (.ref M.length) (M ++ [.lst (xs ++ ys)]) else .bad
    | none => .bad
  | _, _, _ => .bad
def subV : PV → PV → Store → Res PV
  | .int i, .int j, M => .ok (.int (i - j)) M
  | _, _, _ => .bad
def mulV : PV → PV → Store → Res PV
  | .int i, .int j, M => if CMulW i j then .ok (.int (i * j)) M else .bad
  | .ref a, .int k, M => match M[a]? with
    | some (.lst xs) => if -(2 ^ 63) ≤ k ∧ k < 2 ^ 63 ∧ xs.length * k.toNat ≤ sizeLine then .ok (.ref M.length) (M ++ [.lst (List.replicate k.toNat xs).flatten]) else .bad
    | _ => .bad
  | _, _, _ => .bad
def fdivV : PV → PV → Store → Res PV
  | .int i, .int j, M => if 0 < j ∧ Builtin.divisionGoesByPylong i j = false then .ok (.int (i / j)) M else .bad
  | _, _, _ => .bad
def modV : PV → PV → Store → Res PV
  | .int i, .int j, M => if 0 < j then .ok (.int (i % j)) M else .bad
  | _, _, _ => .bad
def powV : PV → PV → Store → Res PV
  | .int i, .int j, M => if 0 ≤ j ∧ j ≤ 1000000 ∧ i.natAbs < 2 ^ 64 then .ok (.int (i ^ j.toNat)) M else .bad
  | _, _, _ => .bad
def shlV : PV → PV → Store → Res PV
  | .int i, .int j, M => if 0 ≤ j ∧ (Builtin.Int.intBits i : Int) + j ≤ 2 ^ 27 then .ok (.int (i * 2 ^ j.toNat)) M else .bad
  | _, _, _ => .bad
def shrV : PV → PV → Store → Res PV
  | .int i, .int j, M => if 0 ≤ j then .ok (.int (i / 2 ^ j.toNat)) M else .bad
  | _, _, _ => .bad
def binV : Bop → PV → PV → Store → Res PV
  | .add => addV | .sub => subV | .mul => mulV | .fdiv => fdivV | .mod => modV | .pow => powV | .shl => shlV | .shr => shrV

/-! ### == -/
mutual
def toD : PV → Option PyData
  | .non => some .none
  | .bl b => some (.bool b)
  | .int i => some (.int i)
  | .str x => some (.str x)
  | .tup xs => (toDs xs).map .tuple
  | _ => none
def toDs : List PV → Option (List PyData)
  | [] => some []
  | x :: xs => match toD x, toDs xs with
    | some d, some ds => some (d :: ds)
    | _, _ => none
end
def toDM (M : Store) : PV → Option PyData
  | .ref n => match M[n]? with
    | some (.lst xs) => (toDs xs).map .list
    | _ => none
  | x => toD x
def eqV (M : Store) (x y : PV) : Option Bool := match x, y with
  | .int i, .int j => some (decide (i = j))
  | .str i, .str j => some (decide (i = j))
  | .bl i, .bl j => some (decide (i = j))
  | x, y => match toDM M x, toDM M y with
    | some d, some e => if SeqAt.shaped d && SeqAt.shaped e then some (PyData.eqv d e) else none
    | _, _ => none
def flatP : PV → Bool
  | .non | .bl _ | .int _ | .str _ => true
  | _ => false
def eqF : PV → PV → Bool
  | .non, .non => true
  | .bl a, .bl b => a == b
  | .bl a, .int b => (if a then 1 else 0) == b
  | .int a, .bl b => a == (if b then 1 else 0)
  | .int a, .int b => a == b
  | .str a, .str b => a == b
  | _, _ => false
def inL (x : PV) (xs : List PV) : Option Bool := if flatP x && xs.all flatP then some (xs.any fun y => eqF y x) else none
def keyP : PV → Option Key
  | .int i => some (.inl i)
  | .str x => some (.inr x)
  | _ => none
def hasK {κ : Type} [DecidableEq κ] (kvs : List (κ × PV)) (k : κ) : Bool := kvs.any fun p => decide (p.1 = k)
def getK {κ : Type} [DecidableEq κ] (kvs : List (κ × PV)) (k : κ) : Option PV := (kvs.find? fun p => decide (p.1 = k)).map (·.2)
def inV (M : Store) (x y : PV) : Option Bool := match y with
  | .tup ys => inL x ys
  | .ref n => match M[n]? with
    | some (.lst ys) => inL x ys
    | some (.dK _ kvs) => (keyP x).map fun k => (getK kvs k).isSome
    | _ => none
  | _ => none
def ltV (x y : PV) : Option Bool := match x, y with
  | .int i, .int j => some (decide (i < j))
  | .str x, .str y => some (decide (x.cps.toList < y.cps.toList))
  | _, _ => none
def leV (x y : PV) : Option Bool := match x, y with
  | .int i, .int j => some (decide (i ≤ j))
  | _, _ => none
def cmpB (M : Store) : Cop → PV → PV → Option Bool
  | .lt, x, y => ltV x y
  | .le, x, y => leV x y
  | .gt, x, y => ltV y x
  | .ge, x, y => leV y x
  | .eq, x, y => eqV M x y
  | .ne, x, y => (eqV M x y).map fun b => !b
  | .isin, x, y => inV M x y
  | .notin, x, y => (inV M x y).map fun b => !b
def cmpV (o : Cop) (x y : PV) (M : Store) : Res PV := match cmpB M o x y with
  | some b => .ok (.bl b) M
  | none => .bad

/-! ### built-ins -/
def tyName : PV → Store → Option String
  | .non, _ => some "NoneType"
  | .bl _, _ => some "bool"
  | .int _, _ => some "int"
  | .str _, _ => some "str"
  | .tup _, _ => some "tuple"
  | .ref n, M => match M[n]? with
    | some (.lst _) => some "list"
    | some (.dK false _) => some "dict"
    | some (.dT false _) => some "dict"
    | _ => none
  | .fro _, _ => some "list"
  | .ty _, _ => none
def isiB (t n : String) : Bool := t == n || (t == "bool" && n == "int")
def isiOk (n : String) : Bool := n == "int" || n == "bool" || n == "str" || n == "tuple" || n == "list" || n == "dict"
def seqP : PV → Store → Option (List PV)
  | .tup xs, _ => some xs
  | .ref n, M => match M[n]? with
    | some (.lst xs) => some xs
    | _ => none
  | .fro ns, _ => some (ns.map .int)
  | _, _ => none
def lenP : PV → Store → Option Nat
  | .str x, _ => if x.length ≤ sizeLine then some x.length else none
  | .ref n, M => match M[n]? with
    | some (.lst xs) => some xs.length
    | some (.dK _ kvs) => some kvs.length
    | _ => none
  | x, M => (seqP x M).map List.length
def insI (x : Int) : List Int → List Int
  | [] => [x]
  | y :: ys => if x ≤ y then x :: y :: ys else y :: insI x ys
def sortI : List Int → List Int
  | [] => []
  | x :: xs => insI x (sortI xs)
def intsP : List PV → Option (List Int)
  | [] => some []
  | .int i :: r => (intsP r).map (i :: ·)
  | _ :: _ => none
def intKs : List (Key × PV) → Option (List Int)
  | [] => some []
  | (.inl i, _) :: r => (intKs r).map (i :: ·)
  | _ :: _ => none
def sortV (x : PV) (M : Store) : Res PV := match x with
  | .ref n => match M[n]? with
    | some (.lst xs) => match intsP xs with
      | some ns => .ok (.ref M.length) (M ++ [.lst ((sortI ns).map .int)])
      | none => .bad
    | some (.dK _ kvs) => match intKs kvs with
      | some ns => if ns.length < 64 then .ok (.ref M.length) (M ++ [.lst ((sortI ns).map .int)]) else .bad
      | none => .bad
    | _ => .bad
  | _ => .bad
/-- sorted(set(x)) -/
def insU (x : Int) : List Int → List Int
  | [] => [x]
  | y :: ys => if x < y then x :: y :: ys else if x = y then y :: ys else y :: insU x ys
def sortU : List Int → List Int
  | [] => []
  | x :: xs => insU x (sortU xs)
def ssetV (x : PV) (M : Store) : Res PV := match x with
  | .tup xs => match intsP xs with
    | some ns => if ns.length < 64 then .ok (.ref M.length) (M ++ [.lst ((sortU ns).map .int)]) else .bad
    | none => .bad
  | _ => .bad
def sumV (x : PV) (M : Store) : Res PV := match seqP x M with
  | some xs => match x with
    | .tup _ => .bad
    | _ => match intsP xs with
      | some ns => .ok (.int ns.sum) M
      | none => .bad
  | none => .bad
def okO (o : Option PV) (M : Store) : Res PV := match o with
  | some v => .ok v M
  | none => .bad
def biV : BI → List PV → Store → Res PV
  | .len, [x], M => okO ((lenP x M).map fun (n : Nat) => PV.int (n : Int)) M
  | .int, [.int i], M => .ok (.int i) M
  | .int, [.bl b], M => .ok (.int (if b then 1 else 0)) M
  | .bool, [.int i], M => .ok (.bl (i != 0)) M
  | .bool, [.bl b], M => .ok (.bl b) M
  | .abs, [.int i], M => .ok (.int (if i < 0 then -i else i)) M
  | .max, [.int i, .int j], M => .ok (.int (if j > i then j else i)) M
  | .min, [.int i, .int j], M => .ok (.int (if j < i then j else i)) M
  | .tuple, [x], M => okO ((seqP x M).map .tup) M
  | .list, [x], M => match seqP x M with
    | some xs => .ok (.ref M.length) (M ++ [.lst xs])
    | none => .bad
  | .sorted, [x], M => sortV x M
  | .sum, [x], M => sumV x M
  | .isi, [x, .ty n], M => match tyName x M with
    | some t => if isiOk n then .ok (.bl (isiB t n)) M else .bad
    | none => .bad
  | _, _, _ => .bad
def ixV (x i : PV) (M : Store) : Res PV := match i with
  | .int k => match x with
    | .str z => if z.length ≤ sizeLine then (match atI z.cps.toList k with
      | some c => .ok (.str ⟨#[c]⟩) M
      | none => .bad) else .bad
    | .ref n => match M[n]? with
      | some (.lst xs) => okO (atI xs k) M
      | some (.dK _ kvs) => okO (getK kvs (.inl k)) M
      | _ => .bad
    | x => match seqP x M with
      | some xs => okO (atI xs k) M
      | none => .bad
  | .str k => match x with
    | .ref n => match M[n]? with
      | some (.dK _ kvs) => okO (getK kvs (.inr k)) M
      | _ => .bad
    | _ => .bad
  | _ => .bad
def cutL {α : Type} (xs : List α) (lo hi : Option Int) : List α := (xs.drop (HT.sIx xs.length 0 lo)).take (HT.sIx xs.length xs.length hi - HT.sIx xs.length 0 lo)
def slV (x : PV) (lo hi : Option Int) (M : Store) : Res PV := match x with
  | .tup xs => .ok (.tup (cutL xs lo hi)) M
  | x => match seqP x M with
    | some xs => .ok (.ref M.length) (M ++ [.lst (cutL xs lo hi)])
    | none => .bad
def isDct (M : Store) : PV → Bool
  | .ref n => match M[n]? with
    | some (.dK _ _) => true
    | _ => false
  | _ => false
def getDV (x k d : PV) (M : Store) : Res PV := match x with
  | .ref n => match M[n]? with
    | some (.dK _ kvs) => match keyP k with
      | some k => .ok ((getK kvs k).getD d) M
      | none => .bad
    | _ => .bad
  | _ => .bad
def keyPV : Key → PV
  | .inl i => .int i
  | .inr x => .str x
def dItems (kd : DKind) (kvs : List (Key × PV)) : List PV := match kd with
  | .keys => kvs.map fun p => keyPV p.1
  | .vals => kvs.map fun p => p.2
  | .items => kvs.map fun p => .tup [keyPV p.1, p.2]
def isLst (M : Store) : PV → Bool
  | .ref n => match M[n]? with
    | some (.lst _) => true
    | _ => false
  | _ => false
def mtV : Mt → PV → List PV → Store → Res PV
  | .append, .ref n, [y], M => match M[n]? with
    | some (.lst xs) => if xs.length < sizeLine then .ok .non (M.set n (.lst (xs ++ [y]))) else .bad
    | _ => .bad
  | .pop, .ref n, [], M => match M[n]? with
    | some (.lst xs) => match xs[xs.length - 1]? with
      | some y => .ok y (M.set n (.lst xs.dropLast))
      | none => .bad
    | _ => .bad
  | .insert, .ref n, [.int i, y], M => match M[n]? with
    | some (.lst xs) => if xs.length < sizeLine ∧ 0 ≤ i ∧ i < 2 ^ 63 then .ok .non (M.set n (.lst (xs.take i.toNat ++ [y] ++ xs.drop i.toNat))) else .bad
    | _ => .bad
  | .extend, .ref n, [.ref b], M => match lists2 M n b with
    | some (xs, ys) => if xs.length + ys.length ≤ sizeLine then .ok .non (M.set n (.lst (xs ++ ys))) else .bad
    | none => .bad
  | _, _, _, _ => .bad

/-! ### what is walked: the items, and the list that must stay -/
structure Src where
  items : List PV
  cell : Option (Nat × Cell)
def Src.still (s : Src) (M : Store) : Bool := match s.cell with
  | none => true
  | some (n, xs) => match M[n]? with
    | some c => Cell.beq c xs
    | none => false
def listSrc (x : PV) (M : Store) : Res Src := match x with
  | .ref n => match M[n]? with
    | some (.lst xs) => .ok ⟨xs, some (n, .lst xs)⟩ M
    | _ => .bad
  | .fro ns => .ok ⟨ns.map .int, none⟩ M
  | _ => .bad
def tupSrc (x : PV) (M : Store) : Res Src := match x with
  | .tup xs => .ok ⟨xs, none⟩ M
  | _ => .bad
def rngItems (lo : Int) (n : Nat) : List PV := (List.range n).map fun (k : Nat) => .int (lo + k)
def rngSrc (x y : PV) (M : Store) : Res Src := match x, y with
  | .int i, .int j => if -(2 ^ 62) ≤ i ∧ i < 2 ^ 62 ∧ -(2 ^ 62) ≤ j ∧ j < 2 ^ 62 then .ok ⟨rngItems i (j - i).toNat, none⟩ M else .bad
  | _, _ => .bad
def enumFrom (k : Nat) : List PV → List PV
  | [] => []
  | x :: xs => .tup [.int k, x] :: enumFrom (k + 1) xs
def enumSrc (x : PV) (M : Store) : Res Src := (listSrc x M).bind fun s M => .ok ⟨enumFrom 0 s.items, s.cell⟩ M

/-- a state behind a statement -/
inductive RS where
  | nx (e : PEnv) (M : Store) | rt (v : PV) (M : Store) | bk (e : PEnv) (M : Store) | ct (e : PEnv) (M : Store) | exc (x : Ex) (e : PEnv) (M : Store) | bad
def RS.seq : RS → (PEnv → Store → RS) → RS
  | .nx e M, f => f e M
  | .rt v M, _ => .rt v M
  | .bk e M, _ => .bk e M
  | .ct e M, _ => .ct e M
  | .exc x e M, _ => .exc x e M
  | .bad, _ => .bad
@[simp] theorem RS.seq_nx (e : PEnv) (M : Store) (f : PEnv → Store → RS) : (RS.nx e M).seq f = f e M := rfl
@[simp] theorem RS.seq_rt (v : PV) (M : Store) (f : PEnv → Store → RS) : (RS.rt v M).seq f = .rt v M := rfl
@[simp] theorem RS.seq_bk (e : PEnv) (M : Store) (f : PEnv → Store → RS) : (RS.bk e M).seq f = .bk e M := rfl
@[simp] theorem RS.seq_ct (e : PEnv) (M : Store) (f : PEnv → Store → RS) : (RS.ct e M).seq f = .ct e M := rfl
@[simp] theorem RS.seq_exc (x : Ex) (e : PEnv) (M : Store) (f : PEnv → Store → RS) : (RS.exc x e M).seq f = .exc x e M := rfl
@[simp] theorem RS.seq_bad (f : PEnv → Store → RS) : RS.bad.seq f = .bad := rfl
/-- an expression within a statement -/
def Res.to {α : Type} (r : Res α) (e : PEnv) (f : α → Store → RS) : RS := match r with
  | .ok a M => f a M
  | .exc x M => .exc x e M
  | .bad => .bad
@[simp] theorem Res.to_ok {α : Type} (a : α) (M : Store) (e : PEnv) (f : α → Store → RS) : (Res.ok a M).to e f = f a M := rfl
@[simp] theorem Res.to_exc {α : Type} (x : Ex) (M : Store) (e : PEnv) (f : α → Store → RS) : (Res.exc x M : Res α).to e f = .exc x e M := rfl
@[simp] theorem Res.to_bad {α : Type} (e : PEnv) (f : α → Store → RS) : (Res.bad : Res α).to e f = .bad := rfl

def putP {κ : Type} [DecidableEq κ] (kvs : List (κ × PV)) (k : κ) (v : PV) : List (κ × PV) :=
  if (kvs.any fun kv => decide (kv.1 = k)) = true then kvs.map (fun kv => if kv.1 = k then (kv.1, v) else kv) else kvs ++ [(k, v)]
/-- o[i] = v -/
def setI (o i v : PV) (M : Store) : Res PV := match o with
  | .ref n => match M[n]? with
    | some (.lst xs) => match i with
      | .int k => match ixN xs.length k with
        | some j => .ok .non (M.set n (.lst (xs.set j v)))
        | none => .bad
      | _ => .bad
    | some (.dK false kvs) => match keyP i with
      | some k => if kvs.length < sizeLine then .ok .non (M.set n (.dK false (putP kvs k v))) else .bad
      | none => .bad
    | _ => .bad
  | _ => .bad
def augV : Bop → PV → PV → Store → Res PV
  | .add, .int i, .int j, M => .ok (.int (i + j)) M
  | .add, .str x, .str y, M => if x.length + y.length ≤ sizeLine then .ok (.str (x ++ y)) M else .bad
  | .sub, .int i, .int j, M => .ok (.int (i - j)) M
  | .mul, .int i, .int j, M => if CMulW i j then .ok (.int (i * j)) M else .bad
  | .fdiv, .int i, .int j, M => if 0 < j ∧ Builtin.divisionGoesByPylong i j = false then .ok (.int (i / j)) M else .bad
  | .mod, .int i, .int j, M => if 0 < j then .ok (.int (i % j)) M else .bad
  | _, _, _, _ => .bad
/-- the items one by one: kept where the test holds -/
def compL (still : Store → Bool) (tgt : PV → Store → Res PEnv) (test : PEnv → Store → Res Bool) (elt : PEnv → Store → Res PV) : List PV → List PV → Store → Res (List PV)
  | [], acc, M => if still M then .ok acc M else .bad
  | x :: xs, acc, M => if still M then (tgt x M).noexc.bind fun e M => (test e M).noexc.bind fun b M => if b then (elt e M).noexc.bind fun y M => if acc.length < sizeLine then compL still tgt test elt xs (acc ++ [y]) M else .bad
    else compL still tgt test elt xs acc M else .bad
/-- a target of names alone -/
def setItems : PEnv → List Nat → List PV → Option PEnv
  | e, [], [] => some e
  | e, i :: is, v :: vs => setItems (setV e i v) is vs
  | _, _, _ => none
def permL {α : Type} (xs : List α) : List Nat → Option (List α)
  | [] => some []
  | i :: is => match xs[i]?, permL xs is with
    | some x, some r => some (x :: r)
    | _, _ => none

variable (cl : Nat → List PV → Store → Res PV)
mutual
def evE : QE → PEnv → Store → Res PV
  | .var i, e, M => match getV e i with
    | some v => .ok v M
    | none => .bad
  | .int i, _, M => .ok (.int i) M
  | .bl b, _, M => .ok (.bl b) M
  | .non, _, M => .ok .non M
  | .str x, _, M => .ok (.str x) M
  | .ty n, _, M => .ok (.ty n) M
  | .bin o a b, e, M => (evE a e M).bind fun x M => (evE b e M).bind fun y M => binV o x y M
  | .neg a, e, M => (evE a e M).bind fun x M => match x with
    | .int i => .ok (.int (-i)) M
    | _ => .bad
  | .cmp o a b, e, M => (evE a e M).bind fun x M => (evE b e M).bind fun y M => cmpV o x y M
  | .chain o o' a b c, e, M => (evE a e M).bind fun x M => (evE b e M).bind fun y M => (cmpV o x y M).bind fun t M => match t with
    | .bl true => (evE c e M).bind fun z M => cmpV o' y z M
    | .bl false => .ok (.bl false) M
    | _ => .bad
  | .isN a, e, M => (evE a e M).bind fun x M => .ok (.bl x.isNon) M
  | .notN a, e, M => (evE a e M).bind fun x M => .ok (.bl (!x.isNon)) M
  | .and a b, e, M => (evE a e M).bind fun x M => (truR x M).bind fun c M => match c with
    | true => evE b e M
    | false => .ok x M
  | .or a b, e, M => (evE a e M).bind fun x M => (truR x M).bind fun c M => match c with
    | true => .ok x M
    | false => evE b e M
  | .not a, e, M => (evE a e M).bind fun x M => (truR x M).bind fun c M => .ok (.bl (!c)) M
  | .ite c a b, e, M => (evE c e M).bind fun x M => (truR x M).bind fun t M => match t with
    | true => evE a e M
    | false => evE b e M
  | .call f as, e, M => (evEs as e M).bind fun xs M => cl f xs M
  | .callK f as ks pm, e, M => (evEs as e M).bind fun xs M => (evEs ks e M).bind fun ys M => match permL (xs ++ ys) pm with
    | some zs => cl f zs M
    | none => .bad
  | .bi b as, e, M => (evEs as e M).bind fun xs M => biV b xs M
  | .tup as, e, M => (evEs as e M).bind fun xs M => if xs.length ≤ sizeLine then .ok (.tup xs) M else .bad
  | .lst as, e, M => (evEs as e M).bind fun xs M => if xs.length ≤ sizeLine then .ok (.ref M.length) (M ++ [.lst xs]) else .bad
  | .ix a b, e, M => (evE a e M).bind fun x M => (evE b e M).bind fun y M => ixV x y M
  | .sl a lo hi, e, M => (evE a e M).bind fun x M => (evO lo e M).bind fun l M => (evO hi e M).bind fun h M => slV x l h M
  | .mt m a as, e, M => (evE a e M).bind fun x M => if isLst M x then (evEs as e M).bind fun xs M => mtV m x xs M else .bad
  | .bits a, e, M => (evE a e M).bind fun x M => match x with
    | .int i => .ok (.int (Builtin.Int.intBits i : Nat)) M
    | _ => .bad
  | .comp elt t it c own, e, M => (evI it e M).bind fun src M =>
      (compL src.still (fun x M => evT t x (wipeVs e own) M) (fun e' M => evC c e' M) (fun e' M => evE elt e' M) src.items [] M).bind fun ys M => .ok (.ref M.length) (M ++ [.lst ys])
  | .gc a, e, M => (evE a e M).bind fun x M' => gcR M x M'
  | .dnew, _, M => .ok (.ref M.length) (M ++ [.dK false []])
  | .get1 a k, e, M => (evE a e M).bind fun x M => if isDct M x then (evE k e M).bind fun y M => getDV x y .non M else .bad
  | .get2 a k d, e, M => (evE a e M).bind fun x M => if isDct M x then (evE k e M).bind fun y M => (evE d e M).bind fun z M => getDV x y z M else .bad
  | .sset a, e, M => (evE a e M).bind fun x M => ssetV x M
def evEs : QEs → PEnv → Store → Res (List PV)
  | .nil, _, M => .ok [] M
  | .cons a r, e, M => (evE a e M).bind fun x M => (evEs r e M).bind fun xs M => .ok (x :: xs) M
/-- a part of a slice -/
def evO : QO → PEnv → Store → Res (Option Int)
  | .none, _, M => .ok none M
  | .some a, e, M => (evE a e M).bind fun x M => match x with
    | .int i => .ok (some i) M
    | _ => .bad
/-- a comprehension's test -/
def evC : QO → PEnv → Store → Res Bool
  | .none, _, M => .ok true M
  | .some a, e, M => (evE a e M).bind fun x M => truR x M
/-- a target -/
def evT : QT → PV → PEnv → Store → Res PEnv
  | .var i, v, e, M => .ok (setV e i v) M
  | .tup ts, v, e, M => match v with
    | .tup xs => evTs ts xs e M
    | .ref n => match M[n]? with
      | some (.lst xs) => evTs ts xs e M
      | _ => .bad
    | _ => .bad
  | .sub a b, v, e, M => (evE a e M).bind fun o M => (evE b e M).bind fun i M => (setI o i v M).bind fun _ M => .ok e M
def evTs : QTs → List PV → PEnv → Store → Res PEnv
  | .nil, [], e, M => .ok e M
  | .cons t r, v :: vs, e, M => (evT t v e M).noexc.bind fun e M => (evTs r vs e M).noexc
  | _, _, _, _ => .bad
def evI : QI → PEnv → Store → Res Src
  | .list a, e, M => (evE a e M).bind fun x M => listSrc x M
  | .tup a, e, M => (evE a e M).bind fun x M => tupSrc x M
  | .rng1 a, e, M => (evE a e M).bind fun x M => rngSrc (.int 0) x M
  | .rng2 a b, e, M => (evE a e M).bind fun x M => (evE b e M).bind fun y M => rngSrc x y M
  | .enum a, e, M => (evE a e M).bind fun x M => enumSrc x M
end
/-- while -/
def whileL (c : PEnv → Store → Res PV) (b : PEnv → Store → RS) : Nat → PEnv → Store → RS
  | 0, _, _ => .bad
  | n + 1, e, M => (c e M).to e fun x M => (truR x M).to e fun t M => match t with
    | false => .nx e M
    | true => match b e M with
      | .nx e M => whileL c b n e M
      | .ct e M => whileL c b n e M
      | .bk e M => .nx e M
      | r => r
/-- for -/
def forL (still : Store → Bool) (tgt : PV → PEnv → Store → Res PEnv) (b : PEnv → Store → RS) : List PV → PEnv → Store → RS
  | [], e, M => if still M then .nx e M else .bad
  | x :: xs, e, M => if still M then (tgt x e M).to e fun e M => match b e M with
      | .nx e M => forL still tgt b xs e M
      | .ct e M => forL still tgt b xs e M
      | .bk e M => .nx e M
      | r => r
    else .bad
/-- a dict's cell, locked while it is walked -/
def lockOk (n : Nat) (kvs : List (Key × PV)) (M : Store) : Bool := match M[n]? with
  | some c => Cell.beq c (.dK true kvs)
  | none => false
def RS.unlock (n : Nat) (kvs : List (Key × PV)) : RS → RS
  | .nx e M => if lockOk n kvs M then .nx e (M.set n (.dK false kvs)) else .bad
  | .rt v M => if lockOk n kvs M then .rt v (M.set n (.dK false kvs)) else .bad
  | .bk e M => if lockOk n kvs M then .bk e (M.set n (.dK false kvs)) else .bad
  | .ct e M => if lockOk n kvs M then .ct e (M.set n (.dK false kvs)) else .bad
  | _ => .bad
/-- the turns of a while: more than anyone needs -/
@[irreducible] def bigW : Nat := 2 ^ 2000000
mutual
def exS : QS → PEnv → Store → RS
  | .asg t a, e, M => (evE cl a e M).to e fun x M => (evT cl t x e M).to e fun e M => .nx e M
  | .par i j a b, e, M => (evE cl a e M).to e fun x M => (evE cl b e M).to e fun y M => .nx (setV (setV e i x) j y) M
  | .aug i o a, e, M => match getV e i with
    | some x => (evE cl a e M).to e fun y M => (augV o x y M).to e fun z M => .nx (setV e i z) M
    | none => .bad
  | .expr a, e, M => (evE cl a e M).to e fun _ M => .nx e M
  | .ret a, e, M => (evE cl a e M).to e fun x M => .rt x M
  | .retN, _, M => .rt .non M
  | .ite c a b, e, M => (evE cl c e M).to e fun x M => (truR x M).to e fun t M => match t with
    | true => exSs a e M
    | false => exSs b e M
  | .whl c b, e, M => whileL (fun e M => evE cl c e M) (fun e M => exSs b e M) bigW e M
  | .for t it b, e, M => (evI cl it e M).to e fun src M => forL src.still (fun x e M => evT cl t x e M) (fun e M => exSs b e M) src.items e M
  | .ford kd t i b, e, M => match getV e i with
    | some (.ref n) => match M[n]? with
      | some (.dK false kvs) => (forL (lockOk n kvs) (fun x e M => evT cl t x e M) (fun e M => exSs b e M) (dItems kd kvs) e (M.set n (.dK true kvs))).unlock n kvs
      | _ => .bad
    | _ => .bad
  | .brk, e, M => .bk e M
  | .cont, e, M => .ct e M
  | .pass, e, M => .nx e M
def exSs : QSs → PEnv → Store → RS
  | .nil, e, M => .nx e M
  | .cons s r, e, M => (exS s e M).seq fun e M => exSs r e M
end
/-- a def: its slots, its body -/
structure QF where
  slots : Nat
  pars : Nat
  body : QSs
def startV (n : Nat) (xs : List PV) : PEnv := xs.map some ++ List.replicate (n - xs.length) none
def exF (f : QF) (xs : List PV) (M : Store) : Res PV := if xs.length = f.pars then (match exSs cl f.body (startV f.slots xs) M with
    | .rt v M' => gcR M v M'
    | .nx _ M' => gcR M .non M'
    | .exc x _ M' => .exc x M'
    | _ => .bad) else .bad
/-- the defs of a program, called to a depth -/
def den (T : Nat → Option QF) : Nat → Nat → List PV → Store → Res PV
  | 0, _, _, _ => .bad
  | n + 1, f, xs, M => match T f with
    | some q => exF (den T n) q xs M
    | none => .bad
end Q

/-! QC: what the operations do is what the model does. -/
namespace Q
open PySem PySem.Spec PyProof.Rows L2

/-! ### posts -/
def Post {α β : Type} (K : Par) (R : List Addr → Hp → α → β → Prop) (WE : Ex → List Addr → Hp → Prop) (Q : β → Hp → Prop) (ρ : List Addr) (H : Hp) : Res α → Prop
  | .ok a M' => ∀ b ρ' H', RelM K ρ' H' M' → R ρ' H' a b → Ext ρ H ρ' H' → Q b H'
  | .exc x M' => ∀ ρ' H', RelM K ρ' H' M' → Ext ρ H ρ' H' → WE x ρ' H'
  | .bad => False
section
variable {α β γ δ : Type} {K : Par} {ρ ρ' ρ1 : List Addr} {H H' H1 : Hp} {WE : Ex → List Addr → Hp → Prop}
theorem Post.shift {R : List Addr → Hp → α → β → Prop} {Q : β → Hp → Prop} {r : Res α} (x : Ext ρ H ρ1 H1) (h : Post K R WE Q ρ H r) : Post K R WE Q ρ1 H1 r := by
  cases r with
  | ok a M => exact fun b ρ' H' m r y => h b ρ' H' m r (x.trans y)
  | exc e M => exact fun ρ' H' m y => h ρ' H' m (x.trans y)
  | bad => exact h
theorem Post.bind {R : List Addr → Hp → α → β → Prop} {R2 : List Addr → Hp → γ → δ → Prop} {Q : β → Hp → Prop} {Q2 : δ → Hp → Prop} {r : Res α} {f : α → Store → Res γ} (h : Post K R2 WE Q2 ρ H (r.bind f))
    (k : ∀ a M1 b ρ1 H1, RelM K ρ1 H1 M1 → R ρ1 H1 a b → Ext ρ H ρ1 H1 → Post K R2 WE Q2 ρ1 H1 (f a M1) → Q b H1) : Post K R WE Q ρ H r := by
  cases r with
  | ok a M => exact fun b ρ' H' m r y => k a M b ρ' H' m r y (Post.shift y h)
  | exc e M => exact h
  | bad => exact h
theorem Post.mono {R : List Addr → Hp → α → β → Prop} {Q Q' : β → Hp → Prop} {r : Res α} (h : Post K R WE Q ρ H r) (k : ∀ b H, Q b H → Q' b H) : Post K R WE Q' ρ H r := by
  cases r with
  | ok a M => exact fun b ρ' H' m r y => k _ _ (h b ρ' H' m r y)
  | exc e M => exact h
  | bad => exact h
end
abbrev RP (K : Par) : List Addr → Hp → PV → V → Prop := RelP K
abbrev RPs (K : Par) : List Addr → Hp → List PV → List V → Prop := RelPs K
abbrev REq {α : Type} : List Addr → Hp → α → α → Prop := fun _ _ a b => a = b

/-! ### by values -/
/-- a result of an operation on values -/
def rG (K : Par) (g : PV → PV → Store → Res PV) : R2 := fun v w H Q => ∃ ρ M x y WE, RelP K ρ H x v ∧ RelP K ρ H y w ∧ RelM K ρ H M ∧ Post K (RP K) WE Q ρ H (g x y M)
def OpOk (X : Cx) (K : Par) (f : Value → Value → Sem Value) (g : PV → PV → Store → Res PV) : Prop := OpR X f (rG K g)
section
variable {X : Cx} {K : Par} {ρ : List Addr} {H : Hp} {M : Store} {WE : Ex → List Addr → Hp → Prop} {Q : VK}
theorem put_ok {pv : PV} {v : V} (m : RelM K ρ H M) (r : RelP K ρ H pv v) (h : Post K (RP K) WE Q ρ H (.ok pv M)) : Q v H := h v ρ H m r .refl
theorem put_int {i : Int} (m : RelM K ρ H M) (h : Post K (RP K) WE Q ρ H (.ok (.int i) M)) : Q (.int i) H := put_ok m (relP_int.mpr rfl) h
theorem put_bl {i : Bool} (m : RelM K ρ H M) (h : Post K (RP K) WE Q ρ H (.ok (.bl i) M)) : Q (.bl i) H := put_ok m (relP_bl.mpr rfl) h
theorem put_str {i : Str} (m : RelM K ρ H M) (h : Post K (RP K) WE Q ρ H (.ok (.str i) M)) : Q (.str i) H := put_ok m (relP_str.mpr rfl) h
theorem put_non (m : RelM K ρ H M) (h : Post K (RP K) WE Q ρ H (.ok .non M)) : Q .non H := put_ok m (relP_non.mpr rfl) h
/-- a new tuple -/
theorem put_tup {xs : List PV} {vs : List V} {p : Addr} (m : RelM K ρ H M) (r : RelPs K ρ H xs vs) (hp : H p = none) (h : Post K (RP K) WE Q ρ H (.ok (.tup xs) M)) : Q (.ref p) (upd H p (.tup vs)) :=
  h (.ref p) ρ _ (m.grow hp) (relP_tup.mpr ⟨p, vs, rfl, .inl upd_same, r.ext (.fresh0 hp)⟩) (.fresh0 hp)
/-- a new list -/
theorem put_lst {xs : List PV} {vs : List V} {p : Addr} (m : RelM K ρ H M) (r : RelPs K ρ H xs vs) (hp : H p = none) (h : Post K (RP K) WE Q ρ H (.ok (.ref M.length) (M ++ [.lst xs]))) : Q (.ref p) (upd H p (.lst vs)) :=
  h (.ref p) (ρ ++ [p]) _ (m.new (c := .lst xs) hp ⟨vs, rfl, r⟩) (relP_ref.mpr ⟨p, rfl, m.last p⟩) (.fresh1 hp)
/-- a list's cell -/
theorem cell_lst {n : Nat} {a : Addr} {xs : List PV} (m : RelM K ρ H M) (hn : ρ[n]? = some a) (h : M[n]? = some (.lst xs)) : ∃ vs, H a = some (.lst vs) ∧ RelPs K ρ H xs vs := by
  obtain ⟨o, e, vs, rfl, r⟩ := m.cell n a _ hn h
  exact ⟨vs, e, r⟩
theorem cell_dK {n : Nat} {a : Addr} {lk : Bool} {kvs : List (Key × PV)} (m : RelM K ρ H M) (hn : ρ[n]? = some a) (h : M[n]? = some (.dK lk kvs)) : ∃ vs, Rd H a (.dK vs) ∧ RelKV K ρ H kvs vs := by
  obtain ⟨o, e, vs, hl, r⟩ := m.cell n a _ hn h
  cases lk with
  | false =>
    rw [show o = _ from hl] at e
    exact ⟨vs, .inl e, r⟩
  | true =>
    obtain ⟨ob, hl⟩ := hl
    rw [hl] at e
    exact ⟨vs, .inr ⟨ob, e⟩, r⟩
theorem cell_dKf {n : Nat} {a : Addr} {kvs : List (Key × PV)} (m : RelM K ρ H M) (hn : ρ[n]? = some a) (h : M[n]? = some (.dK false kvs)) : ∃ vs, H a = some (.dK vs) ∧ RelKV K ρ H kvs vs := by
  obtain ⟨o, e, vs, hl, r⟩ := m.cell n a _ hn h
  rw [show o = _ from hl] at e
  exact ⟨vs, e, r⟩
theorem cell_dTf {n : Nat} {a : Addr} {kvs : List (List Key × PV)} (m : RelM K ρ H M) (hn : ρ[n]? = some a) (h : M[n]? = some (.dT false kvs)) : ∃ vs, H a = some (.dT vs) ∧ RelKV K ρ H kvs vs := by
  obtain ⟨o, e, vs, hl, r⟩ := m.cell n a _ hn h
  rw [show o = _ from hl] at e
  exact ⟨vs, e, r⟩
theorem _root_.L2.DGet.kR {H : Hp} {a : Addr} {kvs : List (Key × V)} {k : Key} (e : Rd H a (.dK kvs)) : DGet H a (kV k) (valV kvs k) := .inl ⟨kvs, k, e, rfl, rfl⟩
/-- a cell is changed -/
theorem put_setC {n : Nat} {a : Addr} {c c' : Cell} {o' : HO} {pv : PV} {v : V} (m : RelM K ρ H M) (hn : ρ[n]? = some a) (h1 : M[n]? = some c) (hop : c.opn = true) (hc : RelC K ρ H c' o') (r : RelP K ρ H pv v)
    (h : Post K (RP K) WE Q ρ H (.ok pv (M.set n c'))) : Q v (upd H a o') := by
  obtain ⟨o, e, rc⟩ := m.cell n a c hn h1
  have x : Ext ρ H ρ (upd H a o') := .upd (List.mem_of_getElem? hn) e (rc.opn hop)
  exact h v ρ _ (m.set hn h1 hc hop) (r.ext x) x
theorem put_set {n : Nat} {a : Addr} {xs : List PV} {c' : Cell} {o' : HO} {pv : PV} {v : V} (m : RelM K ρ H M) (hn : ρ[n]? = some a) (h1 : M[n]? = some (.lst xs)) (hc : RelC K ρ H c' o') (r : RelP K ρ H pv v)
    (h : Post K (RP K) WE Q ρ H (.ok pv (M.set n c'))) : Q v (upd H a o') := put_setC m hn h1 rfl hc r h
theorem lists2_some {a b : Nat} {xs ys : List PV} (h : lists2 M a b = some (xs, ys)) : M[a]? = some (.lst xs) ∧ M[b]? = some (.lst ys) := by
  unfold lists2 at h
  split at h
  · rename_i e1 e2
    cases h
    exact ⟨e1, e2⟩
  · cases h
theorem op_fdivG : OpR X (binaryOp .FloorDiv) (rI (fun i j => 0 < j ∧ Builtin.divisionGoesByPylong i j = false) fun i j => .int (i / j)) := opI fun i j _ _ _ _ _ hc q => by
  have h1 : (0 : Int) < j := hc.1
  exact floordiv_int (by omega) (by rw [Int.fdiv_eq_ediv_of_nonneg i (by omega)]; exact q) (.inl hc.2)
theorem iop_fdivG : OpR X (inplaceOp .FloorDiv) (rI (fun i j => 0 < j ∧ Builtin.divisionGoesByPylong i j = false) fun i j => .int (i / j)) := opI fun i j _ _ _ _ _ hc q => by
  have h1 : (0 : Int) < j := hc.1
  exact ifloordiv_int (by omega) (by rw [Int.fdiv_eq_ediv_of_nonneg i (by omega)]; exact q) (.inl hc.2)
theorem iop_mulW : OpR X (inplaceOp .Mult) (rI CMulW fun i j => .int (i * j)) := opI fun _ _ _ _ _ _ _ hc q => imul_int q hc.ok
theorem ok_add (hK : X.K = K.F) : OpOk X K (binaryOp .Add) addV := by
  intro pins s σ H v w u1 u2 Q I ru rw ⟨ρ, M, x, y, WE, rx, ry, m, h⟩
  unfold addV at h
  split at h
  · rw [relP_int] at rx ry
    subst rx ry
    exact op_add pins s σ H _ _ u1 u2 Q I ru rw ⟨_, _, rfl, rfl, put_int m h⟩
  · rw [relP_str] at rx ry
    subst rx ry
    split at h
    · exact op_add_str pins s σ H _ _ u1 u2 Q I ru rw ⟨_, _, rfl, rfl, (by assumption), put_str m h⟩
    · exact h.elim
  · rename_i xs ys
    rw [relP_tup] at rx ry
    obtain ⟨a, vs, rfl, ha, r1⟩ := rx
    obtain ⟨b, ws, rfl, hb, r2⟩ := ry
    split at h
    · rename_i hz
      refine op_catA pins s σ H _ _ u1 u2 Q I ru rw ⟨a, b, vs, ws, rfl, rfl, by rw [hK]; exact ha.sq, by rw [hK]; exact hb.sq, by rw [← r1.length, ← r2.length]; exact hz, fun e => ?_, fun _ e => ?_, fun _ _ p hp => put_tup m (r1.append r2) hp h⟩
      · subst e
        have e2 : xs = [] := List.eq_nil_of_length_eq_zero r1.length
        subst e2
        exact put_ok m (relP_tup.mpr ⟨b, ws, rfl, hb, r2⟩) h
      · subst e
        have e2 : ys = [] := List.eq_nil_of_length_eq_zero r2.length
        subst e2
        rw [List.append_nil] at h
        exact put_ok m (relP_tup.mpr ⟨a, vs, rfl, ha, r1⟩) h
    · exact h.elim
  · rw [relP_ref] at rx ry
    obtain ⟨a, rfl, ha⟩ := rx
    obtain ⟨b, rfl, hb⟩ := ry
    split at h
    · rename_i e
      obtain ⟨e1, e2⟩ := lists2_some e
      obtain ⟨vs, k1, r1⟩ := cell_lst m ha e1
      obtain ⟨ws, k2, r2⟩ := cell_lst m hb e2
      split at h
      · rename_i hz
        exact op_cat pins s σ H _ _ u1 u2 Q I ru rw ⟨a, b, vs, ws, rfl, rfl, k1, k2, by rw [← r1.length, ← r2.length]; exact hz, fun p hp => put_lst m (r1.append r2) hp h⟩
      · exact h.elim
    · exact h.elim
  · exact h.elim
theorem ok_sub : OpOk X K (binaryOp .Sub) subV := by
  intro pins s σ H v w u1 u2 Q I ru rw ⟨ρ, M, x, y, WE, rx, ry, m, h⟩
  unfold subV at h
  split at h
  · rw [relP_int] at rx ry
    subst rx ry
    exact op_sub pins s σ H _ _ u1 u2 Q I ru rw ⟨_, _, rfl, rfl, put_int m h⟩
  · exact h.elim
theorem flatRep : ∀ {xs : List PV} {vs : List V}, RelPs K ρ H xs vs → ∀ k : Nat, RelPs K ρ H (List.replicate k xs).flatten (List.replicate k vs).flatten
  | _, _, _, 0 => .nil
  | xs, vs, h, k + 1 => by
    rw [List.replicate_succ, List.replicate_succ, List.flatten_cons, List.flatten_cons]
    exact h.append (flatRep h k)
theorem ok_mul : OpOk X K (binaryOp .Mult) mulV := by
  intro pins s σ H v w u1 u2 Q I ru rw ⟨ρ, M, x, y, WE, rx, ry, m, h⟩
  unfold mulV at h
  split at h
  · rw [relP_int] at rx ry
    subst rx ry
    split at h
    · exact op_mulW pins s σ H _ _ u1 u2 Q I ru rw ⟨_, _, rfl, rfl, (by assumption), put_int m h⟩
    · exact h.elim
  · rw [relP_int] at ry
    subst ry
    rw [relP_ref] at rx
    obtain ⟨a, rfl, ha⟩ := rx
    split at h
    · rename_i e
      obtain ⟨vs, k1, r1⟩ := cell_lst m ha e
      split at h
      · rename_i hz
        exact op_rep pins s σ H _ _ u1 u2 Q I ru rw ⟨a, _, vs, rfl, rfl, k1, hz.1, hz.2.1, by rw [← r1.length]; exact hz.2.2, fun p hp => put_lst m (flatRep r1 _) hp h⟩
      · exact h.elim
    · exact h.elim
  · exact h.elim
theorem ok_int2 {f : Value → Value → Sem Value} {C : Int → Int → Prop} [∀ i j, Decidable (C i j)] {gi : Int → Int → Int} {g : PV → PV → Store → Res PV} (ho : OpR X f (rI C fun i j => .int (gi i j)))
    (hg : ∀ x y M, g x y M = match x, y with | .int i, .int j => (if C i j then .ok (.int (gi i j)) M else .bad) | _, _ => .bad) : OpOk X K f g := by
  intro pins s σ H v w u1 u2 Q I ru rw ⟨ρ, M, x, y, WE, rx, ry, m, h⟩
  rw [hg] at h
  split at h
  · rw [relP_int] at rx ry
    subst rx ry
    split at h
    · exact ho pins s σ H _ _ u1 u2 Q I ru rw ⟨_, _, rfl, rfl, (by assumption), put_int m h⟩
    · exact h.elim
  · exact h.elim
theorem ok_fdiv : OpOk X K (binaryOp .FloorDiv) fdivV := ok_int2 op_fdivG fun x y M => by cases x <;> cases y <;> rfl
theorem ok_mod : OpOk X K (binaryOp .Mod) modV := ok_int2 op_mod fun x y M => by cases x <;> cases y <;> rfl
theorem ok_pow : OpOk X K (binaryOp .Pow) powV := by
  have : ∀ i j, Decidable (CPow i j) := fun i j => inferInstanceAs (Decidable (_ ∧ _ ∧ _))
  exact ok_int2 (C := fun i j => 0 ≤ j ∧ j ≤ 1000000 ∧ i.natAbs < 2 ^ 64) op_pow fun x y M => by cases x <;> cases y <;> rfl
theorem ok_shl : OpOk X K (binaryOp .LShift) shlV := ok_int2 (C := fun i j => 0 ≤ j ∧ (Builtin.Int.intBits i : Int) + j ≤ 2 ^ 27) op_shlW fun x y M => by cases x <;> cases y <;> rfl
theorem ok_shr : OpOk X K (binaryOp .RShift) shrV := ok_int2 op_shr fun x y M => by cases x <;> cases y <;> rfl
def opOf : Bop → Operator
  | .add => .Add | .sub => .Sub | .mul => .Mult | .fdiv => .FloorDiv | .mod => .Mod | .pow => .Pow | .shl => .LShift | .shr => .RShift
theorem ok_bin (hK : X.K = K.F) (o : Bop) : OpOk X K (binaryOp (opOf o)) (binV o) := by
  cases o
  · exact ok_add hK
  · exact ok_sub
  · exact ok_mul
  · exact ok_fdiv
  · exact ok_mod
  · exact ok_pow
  · exact ok_shl
  · exact ok_shr
end
end Q

/-! QD: comparisons, truth, built-ins, subscripts, methods. -/
namespace Q
open PySem PySem.Spec PyProof.Rows L2
section
variable {X : Cx} {K : Par} {ρ : List Addr} {H : Hp} {M : Store} {WE : Ex → List Addr → Hp → Prop} {Q : VK}

/-! ### == -/
mutual
theorem toD_ok : ∀ (x : PV) {v : V} {d : PyData}, RelP K ρ H x v → toD x = some d → Dp K.F H v d
  | .non, v, d, r, e => by
    rw [relP_non] at r
    rw [toD] at e
    cases e
    subst r
    exact .non
  | .bl b, v, d, r, e => by
    rw [relP_bl] at r
    rw [toD] at e
    cases e
    subst r
    exact .bl b
  | .int b, v, d, r, e => by
    rw [relP_int] at r
    rw [toD] at e
    cases e
    subst r
    exact .int b
  | .str b, v, d, r, e => by
    rw [relP_str] at r
    rw [toD] at e
    cases e
    subst r
    exact .str b
  | .tup xs, v, d, r, e => by
    rw [relP_tup] at r
    obtain ⟨a, vs, rfl, ha, rs⟩ := r
    rw [toD, Option.map_eq_some_iff] at e
    obtain ⟨ds, e1, rfl⟩ := e
    exact .tup ha.sq (toDs_ok xs rs e1)
  | .ref n, v, d, r, e => by rw [toD] at e <;> first | cases e | (intros; contradiction)
  | .fro n, v, d, r, e => by rw [toD] at e <;> first | cases e | (intros; contradiction)
  | .ty n, v, d, r, e => by rw [toD] at e <;> first | cases e | (intros; contradiction)
theorem toDs_ok : ∀ (xs : List PV) {vs : List V} {ds : List PyData}, RelPs K ρ H xs vs → toDs xs = some ds → DpAll K.F H vs ds
  | [], vs, ds, r, e => by
    rw [relPs_nil] at r
    rw [toDs] at e
    cases e
    subst r
    exact .nil
  | x :: xs, vs, ds, r, e => by
    rw [relPs_cons] at r
    obtain ⟨v, r', rfl, h1, h2⟩ := r
    rw [toDs] at e
    split at e
    · rename_i d ds' e1 e2
      cases e
      exact .cons (toD_ok x h1 e1) (toDs_ok xs h2 e2)
    · cases e
end
theorem toDM_ok {x : PV} {v : V} {d : PyData} (m : RelM K ρ H M) (r : RelP K ρ H x v) (e : toDM M x = some d) : Dp K.F H v d := by
  unfold toDM at e
  split at e
  · rw [relP_ref] at r
    obtain ⟨a, rfl, ha⟩ := r
    split at e
    · rename_i e1
      obtain ⟨vs, k1, r1⟩ := cell_lst m ha e1
      rw [Option.map_eq_some_iff] at e
      obtain ⟨ds, e2, rfl⟩ := e
      exact .lst (.of k1) (toDs_ok _ r1 e2)
    · cases e
  · exact toD_ok _ r e
theorem eqD_some {x y : PV} {b : Bool} (h : eqV M x y = some b) : (∃ i j, x = .int i ∧ y = .int j ∧ b = decide (i = j)) ∨ (∃ i j, x = .str i ∧ y = .str j ∧ b = decide (i = j)) ∨ (∃ i j, x = .bl i ∧ y = .bl j ∧ b = decide (i = j)) ∨
    ∃ d e, toDM M x = some d ∧ toDM M y = some e ∧ SeqAt.shaped d = true ∧ SeqAt.shaped e = true ∧ b = PyData.eqv d e := by
  unfold eqV at h
  split at h
  · cases h; exact .inl ⟨_, _, rfl, rfl, rfl⟩
  · cases h; exact .inr (.inl ⟨_, _, rfl, rfl, rfl⟩)
  · cases h; exact .inr (.inr (.inl ⟨_, _, rfl, rfl, rfl⟩))
  · split at h
    · split at h
      · rename_i d e e1 e2 hs
        rw [Bool.and_eq_true] at hs
        cases h
        exact .inr (.inr (.inr ⟨_, _, e1, e2, hs.1, hs.2, rfl⟩))
      · cases h
    · cases h
theorem dec_i {i j : Int} : decide (V.int i = V.int j) = decide (i = j) := by rw [dec_int]; rw [Bool.eq_iff_iff]; simp
theorem dec_s {i j : Str} : decide (V.str i = V.str j) = decide (i = j) := by rw [dec_str]; rw [Bool.eq_iff_iff]; simp
theorem dec_b {i j : Bool} : decide (V.bl i = V.bl j) = decide (i = j) := by rw [dec_bl]; rw [Bool.eq_iff_iff]; simp
theorem ok_eq (hK : X.K = K.F) (hu : X.A.units + 64 < cLine) : OpOk X K (compareOp .Eq) (cmpV .eq) := by
  intro pins s σ H v w u1 u2 Q I ru rw' ⟨ρ, M, x, y, WE, rx, ry, m, h⟩
  unfold cmpV at h
  split at h
  · rename_i b e
    rcases eqD_some e with ⟨i, j, rfl, rfl, rfl⟩ | ⟨i, j, rfl, rfl, rfl⟩ | ⟨i, j, rfl, rfl, rfl⟩ | ⟨d, e', e1, e2, s1, s2, rfl⟩
    · rw [relP_int] at rx ry
      subst rx ry
      exact op_eq pins s σ H _ _ u1 u2 Q I ru rw' ⟨rfl, by rw [dec_i]; exact put_bl m h⟩
    · rw [relP_str] at rx ry
      subst rx ry
      exact op_eq pins s σ H _ _ u1 u2 Q I ru rw' ⟨rfl, by rw [dec_s]; exact put_bl m h⟩
    · rw [relP_bl] at rx ry
      subst rx ry
      exact op_eq pins s σ H _ _ u1 u2 Q I ru rw' ⟨rfl, by rw [dec_b]; exact put_bl m h⟩
    · refine op_eqD hu pins s σ H _ _ u1 u2 Q I ru rw' ⟨d, e', ?_, ?_, s1, s2, put_bl m h⟩
      · rw [hK]; exact toDM_ok m rx e1
      · rw [hK]; exact toDM_ok m ry e2
  · exact h.elim
theorem ok_ne (hK : X.K = K.F) (hu : X.A.units + 64 < cLine) : OpOk X K (compareOp .NotEq) (cmpV .ne) := by
  intro pins s σ H v w u1 u2 Q I ru rw' ⟨ρ, M, x, y, WE, rx, ry, m, h⟩
  unfold cmpV at h
  split at h
  · rename_i b e
    have e' : (eqV M x y).map (fun b => !b) = some b := e
    rw [Option.map_eq_some_iff] at e'
    obtain ⟨b', e3, rfl⟩ := e'
    rcases eqD_some e3 with ⟨i, j, rfl, rfl, rfl⟩ | ⟨i, j, rfl, rfl, rfl⟩ | ⟨i, j, rfl, rfl, rfl⟩ | ⟨d, e', e1, e2, s1, s2, rfl⟩
    · rw [relP_int] at rx ry
      subst rx ry
      exact op_ne pins s σ H _ _ u1 u2 Q I ru rw' ⟨rfl, by rw [dec_i]; exact put_bl m h⟩
    · rw [relP_str] at rx ry
      subst rx ry
      exact op_ne pins s σ H _ _ u1 u2 Q I ru rw' ⟨rfl, by rw [dec_s]; exact put_bl m h⟩
    · rw [relP_bl] at rx ry
      subst rx ry
      exact op_ne pins s σ H _ _ u1 u2 Q I ru rw' ⟨rfl, by rw [dec_b]; exact put_bl m h⟩
    · refine op_neD hu pins s σ H _ _ u1 u2 Q I ru rw' ⟨d, e', ?_, ?_, s1, s2, put_bl m h⟩
      · rw [hK]; exact toDM_ok m rx e1
      · rw [hK]; exact toDM_ok m ry e2
  · exact h.elim
theorem ltV_some {x y : PV} {b : Bool} (h : ltV x y = some b) : (∃ i j, x = .int i ∧ y = .int j ∧ b = decide (i < j)) ∨ (∃ i j, x = .str i ∧ y = .str j ∧ b = decide (i.cps.toList < j.cps.toList)) := by
  unfold ltV at h
  split at h
  · cases h; exact .inl ⟨_, _, rfl, rfl, rfl⟩
  · cases h; exact .inr ⟨_, _, rfl, rfl, rfl⟩
  · cases h
theorem ok_lt : OpOk X K (compareOp .Lt) (cmpV .lt) := by
  intro pins s σ H v w u1 u2 Q I ru rw' ⟨ρ, M, x, y, WE, rx, ry, m, h⟩
  unfold cmpV at h
  split at h
  · rename_i b e
    rcases ltV_some e with ⟨i, j, rfl, rfl, rfl⟩ | ⟨i, j, rfl, rfl, rfl⟩
    · rw [relP_int] at rx ry
      subst rx ry
      exact op_lt pins s σ H _ _ u1 u2 Q I ru rw' ⟨_, _, rfl, rfl, put_bl m h⟩
    · rw [relP_str] at rx ry
      subst rx ry
      exact op_lt_str pins s σ H _ _ u1 u2 Q I ru rw' ⟨_, _, rfl, rfl, put_bl m h⟩
  · exact h.elim
theorem ok_gt : OpOk X K (compareOp .Gt) (cmpV .gt) := by
  intro pins s σ H v w u1 u2 Q I ru rw' ⟨ρ, M, x, y, WE, rx, ry, m, h⟩
  unfold cmpV at h
  split at h
  · rename_i b e
    rcases ltV_some e with ⟨i, j, rfl, rfl, rfl⟩ | ⟨i, j, rfl, rfl, rfl⟩
    · rw [relP_int] at rx ry
      subst rx ry
      exact op_gt pins s σ H _ _ u1 u2 Q I ru rw' ⟨_, _, rfl, rfl, put_bl m h⟩
    · rw [relP_str] at rx ry
      subst rx ry
      exact op_gt_str pins s σ H _ _ u1 u2 Q I ru rw' ⟨_, _, rfl, rfl, put_bl m h⟩
  · exact h.elim
theorem leV_some {x y : PV} {b : Bool} (h : leV x y = some b) : ∃ i j, x = .int i ∧ y = .int j ∧ b = decide (i ≤ j) := by
  unfold leV at h
  split at h
  · cases h; exact ⟨_, _, rfl, rfl, rfl⟩
  · cases h
theorem ok_le : OpOk X K (compareOp .LtE) (cmpV .le) := by
  intro pins s σ H v w u1 u2 Q I ru rw' ⟨ρ, M, x, y, WE, rx, ry, m, h⟩
  unfold cmpV at h
  split at h
  · rename_i b e
    obtain ⟨i, j, rfl, rfl, rfl⟩ := leV_some e
    rw [relP_int] at rx ry
    subst rx ry
    exact op_le pins s σ H _ _ u1 u2 Q I ru rw' ⟨_, _, rfl, rfl, put_bl m h⟩
  · exact h.elim
theorem ok_ge : OpOk X K (compareOp .GtE) (cmpV .ge) := by
  intro pins s σ H v w u1 u2 Q I ru rw' ⟨ρ, M, x, y, WE, rx, ry, m, h⟩
  unfold cmpV at h
  split at h
  · rename_i b e
    obtain ⟨i, j, rfl, rfl, rfl⟩ := leV_some e
    rw [relP_int] at rx ry
    subst rx ry
    exact op_ge pins s σ H _ _ u1 u2 Q I ru rw' ⟨_, _, rfl, rfl, put_bl m h⟩
  · exact h.elim
/-! ### in -/
theorem flat_ok {x : PV} {v : V} (r : RelP K ρ H x v) (f : flatP x = true) : flatV v = true := by
  cases x with
  | non => rw [relP_non] at r; subst r; rfl
  | bl b => rw [relP_bl] at r; subst r; rfl
  | int b => rw [relP_int] at r; subst r; rfl
  | str b => rw [relP_str] at r; subst r; rfl
  | _ => cases f
theorem flats_ok : ∀ {xs : List PV} {vs : List V}, RelPs K ρ H xs vs → xs.all flatP = true → vs.all flatV = true
  | [], _, r, _ => by rw [relPs_nil.mp r]; rfl
  | x :: xs, _, r, f => by
    obtain ⟨v, r', rfl, h1, h2⟩ := relPs_cons.mp r
    rw [List.all_cons, Bool.and_eq_true] at f ⊢
    exact ⟨flat_ok h1 f.1, flats_ok h2 f.2⟩
theorem eqF_ok {x y : PV} {v w : V} (r : RelP K ρ H x v) (q : RelP K ρ H y w) (f : flatP x = true) (g : flatP y = true) : L2.eqV w v = eqF y x := by
  cases x <;> simp only [flatP] at f <;> first | (cases f; done) | skip
  all_goals
    cases y <;> simp only [flatP] at g <;> first | (cases g; done) | skip
  all_goals
    simp only [relP_non, relP_bl, relP_int, relP_str] at r q
    subst r q
    rfl
theorem any_ok {x : PV} {v : V} (r : RelP K ρ H x v) (f : flatP x = true) : ∀ {xs : List PV} {vs : List V}, RelPs K ρ H xs vs → xs.all flatP = true → L2.inV v vs = xs.any fun y => eqF y x
  | [], _, r', _ => by rw [relPs_nil.mp r']; rfl
  | y :: xs, _, r', g => by
    obtain ⟨w, ws, rfl, h1, h2⟩ := relPs_cons.mp r'
    rw [List.all_cons, Bool.and_eq_true] at g
    show ((L2.eqV w v) || L2.inV v ws) = _
    rw [List.any_cons, eqF_ok r h1 f g.1, any_ok r f h2 g.2]
theorem inL_some {x : PV} {xs : List PV} {b : Bool} (h : inL x xs = some b) : flatP x = true ∧ xs.all flatP = true ∧ b = xs.any fun y => eqF y x := by
  unfold inL at h
  split at h
  · rename_i hs
    rw [Bool.and_eq_true] at hs
    cases h
    exact ⟨hs.1, hs.2, rfl⟩
  · cases h
theorem getK_ok {κ : Type} [DecidableEq κ] {kvs : List (κ × PV)} {vs : List (κ × V)} (r : RelKV K ρ H kvs vs) (k : κ) : (∀ x, getK kvs k = some x → ∃ v, valV vs k = some v ∧ RelP K ρ H x v) ∧ (getK kvs k).isSome = (valV vs k).isSome := by
  unfold RelKV at r
  induction r with
  | nil => exact ⟨fun x e => (by cases e), rfl⟩
  | @cons p q ps qs h t ih =>
    by_cases e : p.1 = k
    · have e2 : q.1 = k := h.1.symm.trans e
      rw [valV_pos e2]
      have e3 : getK (p :: ps) k = some p.2 := by simp [getK, List.find?_cons, e]
      rw [e3]
      exact ⟨fun x z => by cases z; exact ⟨_, rfl, h.2⟩, rfl⟩
    · have e2 : ¬ q.1 = k := fun z => e (h.1.trans z)
      rw [valV_neg e2]
      have e3 : getK (p :: ps) k = getK ps k := by simp [getK, List.find?_cons, e]
      rw [e3]
      exact ih
theorem keyP_some {x : PV} {k : Key} {v : V} (r : RelP K ρ H x v) (h : keyP x = some k) : v = kV k := by
  unfold keyP at h
  split at h
  · cases h; rw [relP_int] at r; exact r
  · cases h; rw [relP_str] at r; exact r
  · cases h
theorem inV_some {x y : PV} {v w : V} {b : Bool} (m : RelM K ρ H M) (rx : RelP K ρ H x v) (ry : RelP K ρ H y w) (h : inV M x y = some b) :
    (∃ p vs, w = .ref p ∧ (SqL K.F H p vs ∨ SqT K.F H p vs) ∧ flatV v = true ∧ vs.all flatV = true ∧ b = L2.inV v vs) ∨ ∃ a o, w = .ref a ∧ DGet H a v o ∧ b = o.isSome := by
  unfold inV at h
  split at h
  · obtain ⟨f, g, rfl⟩ := inL_some h
    rw [relP_tup] at ry
    obtain ⟨a, vs, rfl, ha, rs⟩ := ry
    exact .inl ⟨a, vs, rfl, .inr ha.sq, flat_ok rx f, flats_ok rs g, (any_ok rx f rs g).symm⟩
  · rw [relP_ref] at ry
    obtain ⟨a, rfl, ha⟩ := ry
    split at h
    · rename_i e
      obtain ⟨vs, k1, r1⟩ := cell_lst m ha e
      obtain ⟨f, g, rfl⟩ := inL_some h
      exact .inl ⟨a, vs, rfl, .inl (.of k1), flat_ok rx f, flats_ok r1 g, (any_ok rx f r1 g).symm⟩
    · rename_i e
      obtain ⟨vs, k1, r1⟩ := cell_dK m ha e
      rw [Option.map_eq_some_iff] at h
      obtain ⟨k, ek, rfl⟩ := h
      have ev := keyP_some rx ek
      subst ev
      exact .inr ⟨a, _, rfl, DGet.kR k1, (getK_ok r1 k).2⟩
    · cases h
  · cases h
theorem ok_in (hK : X.K = K.F) (hu : X.A.units + 64 < cLine) : OpOk X K (compareOp .In) (cmpV .isin) := by
  intro pins s σ H v w u1 u2 Q I ru rw' ⟨ρ, M, x, y, WE, rx, ry, m, h⟩
  unfold cmpV at h
  split at h
  · rename_i b e
    rcases inV_some m rx ry e with ⟨p, vs, rfl, hq, f, g, rfl⟩ | ⟨a, o, rfl, g, rfl⟩
    · rw [← hK] at hq
      exact op_in_seq pins s σ H _ _ u1 u2 Q I ru rw' ⟨p, vs, rfl, hq, f, g, put_bl m h⟩
    · cases rw'
      exact d_in (by omega) I g ru fun s' I' => ⟨.bl o.isSome, H, I', rfl, put_bl m h⟩
  · exact h.elim
theorem ok_notin (hK : X.K = K.F) (hu : X.A.units + 64 < cLine) : OpOk X K (compareOp .NotIn) (cmpV .notin) := by
  intro pins s σ H v w u1 u2 Q I ru rw' ⟨ρ, M, x, y, WE, rx, ry, m, h⟩
  unfold cmpV at h
  split at h
  · rename_i b e
    have e' : (inV M x y).map (fun b => !b) = some b := e
    rw [Option.map_eq_some_iff] at e'
    obtain ⟨b', e3, rfl⟩ := e'
    rcases inV_some m rx ry e3 with ⟨p, vs, rfl, hq, f, g, rfl⟩ | ⟨a, o, rfl, g, rfl⟩
    · rw [← hK] at hq
      exact op_notIn_seq pins s σ H _ _ u1 u2 Q I ru rw' ⟨p, vs, rfl, hq, f, g, put_bl m h⟩
    · cases rw'
      exact d_notIn (by omega) I g ru fun s' I' => ⟨.bl (!o.isSome), H, I', rfl, put_bl m h⟩
  · exact h.elim
def cmOf : Cop → CmpOp
  | .lt => .Lt | .le => .LtE | .gt => .Gt | .ge => .GtE | .eq => .Eq | .ne => .NotEq | .isin => .In | .notin => .NotIn
theorem ok_cmp (hK : X.K = K.F) (hu : X.A.units + 64 < cLine) (o : Cop) : OpOk X K (compareOp (cmOf o)) (cmpV o) := by
  cases o
  · exact ok_lt
  · exact ok_le
  · exact ok_gt
  · exact ok_ge
  · exact ok_eq hK hu
  · exact ok_ne hK hu
  · exact ok_in hK hu
  · exact ok_notin hK hu
/-! ### truth -/
theorem isE {α β : Type} {xs : List α} {vs : List β} (h : xs.length = vs.length) : (!xs.isEmpty) = !vs.isEmpty := by
  cases xs with
  | nil => cases vs with
    | nil => rfl
    | cons _ _ => cases h
  | cons _ _ => cases vs with
    | nil => cases h
    | cons _ _ => rfl
theorem tru_some {x : PV} {v : V} {b : Bool} (hK : X.K = K.F) (m : RelM K ρ H M) (r : RelP K ρ H x v) (h : truV x M = some b) : TruV X.K v H b := by
  rw [hK]
  unfold truV at h
  split at h
  · cases h; rw [relP_non] at r; subst r; rfl
  · cases h; rw [relP_bl] at r; subst r; rfl
  · cases h; rw [relP_int] at r; subst r; rfl
  · rw [relP_str] at r
    subst r
    split at h
    · cases h
      rename_i x _ hl
      refine ⟨hl, ?_⟩
      rw [Bool.eq_iff_iff]
      simp [Str.length]
    · cases h
  · cases h
    rw [relP_tup] at r
    obtain ⟨a, vs, rfl, ha, rs⟩ := r
    refine .inr (.inl ⟨vs, ha.sq, ?_⟩)
    exact isE rs.length
  · rw [relP_ref] at r
    obtain ⟨a, rfl, ha⟩ := r
    split at h
    · rename_i e
      cases h
      obtain ⟨vs, k1, r1⟩ := cell_lst m ha e
      refine .inl ⟨vs, .of k1, ?_⟩
      exact isE r1.length
    · rename_i e
      cases h
      obtain ⟨vs, k1, r1⟩ := cell_dKf m ha e
      refine .inr (.inr ⟨vs, k1, ?_⟩)
      exact isE (Paired.length r1)
    · cases h
  · cases h
    rw [relP_fro] at r
    obtain ⟨a, rfl, ha⟩ := r
    refine .inl ⟨_, ha.sq, ?_⟩
    simp
  · cases h
end
end Q

/-! QF: built-ins, subscripts, slices, methods by values. -/
namespace Q
open PySem PySem.Spec PyProof.Rows L2
def rC (K : Par) (g : List PV → Store → Res PV) : List V → Hp → VK → Prop := fun vs H Q => ∃ ρ M xs WE, RelPs K ρ H xs vs ∧ RelM K ρ H M ∧ Post K (RP K) WE Q ρ H (g xs M)
def rM (K : Par) (g : PV → List PV → Store → Res PV) : V → List V → Hp → VK → Prop := fun v vs H Q => ∃ ρ M x xs WE, RelP K ρ H x v ∧ RelPs K ρ H xs vs ∧ RelM K ρ H M ∧ Post K (RP K) WE Q ρ H (g x xs M)
section
variable {X : Cx} {K : Par} {ρ : List Addr} {H : Hp} {M : Store} {WE : Ex → List Addr → Hp → Prop} {Q : VK}
theorem relPs1 {x : PV} {vs : List V} (r : RelPs K ρ H [x] vs) : ∃ v, vs = [v] ∧ RelP K ρ H x v := by
  obtain ⟨v, r', rfl, h1, h2⟩ := relPs_cons.mp r
  rw [relPs_nil.mp h2]
  exact ⟨v, rfl, h1⟩
theorem relPs2 {x y : PV} {vs : List V} (r : RelPs K ρ H [x, y] vs) : ∃ v w, vs = [v, w] ∧ RelP K ρ H x v ∧ RelP K ρ H y w := by
  obtain ⟨v, r', rfl, h1, h2⟩ := relPs_cons.mp r
  obtain ⟨w, rfl, h3⟩ := relPs1 h2
  exact ⟨v, w, rfl, h1, h3⟩
theorem relPs0 {vs : List V} (r : RelPs K ρ H [] vs) : vs = [] := relPs_nil.mp r
theorem okO_some {o : Option PV} {M : Store} (h : Post K (RP K) WE Q ρ H (okO o M)) : ∃ x, o = some x ∧ Post K (RP K) WE Q ρ H (.ok x M) := by
  cases o with
  | none => exact h.elim
  | some x => exact ⟨x, rfl, h⟩
theorem seqP_ok {x : PV} {v : V} {xs : List PV} (m : RelM K ρ H M) (r : RelP K ρ H x v) (e : seqP x M = some xs) : ∃ a vs, v = .ref a ∧ RelPs K ρ H xs vs ∧ ((∃ e : x = .tup xs, TupAt K H a xs vs) ∨ (SqL K.F H a vs)) := by
  unfold seqP at e
  split at e
  · cases e
    rw [relP_tup] at r
    obtain ⟨a, vs, rfl, ha, rs⟩ := r
    exact ⟨a, vs, rfl, rs, .inl ⟨rfl, ha⟩⟩
  · rw [relP_ref] at r
    obtain ⟨a, rfl, ha⟩ := r
    split at e
    · rename_i e1
      cases e
      obtain ⟨vs, k1, r1⟩ := cell_lst m ha e1
      exact ⟨a, vs, rfl, r1, .inr (.of k1)⟩
    · cases e
  · cases e
    rw [relP_fro] at r
    obtain ⟨a, rfl, ha⟩ := r
    exact ⟨a, _, rfl, RelPs.ints.mpr rfl, .inr ha.sq⟩
  · cases e
theorem sq_or {a : Addr} {x : PV} {xs : List PV} {vs : List V} (h : (∃ e : x = .tup xs, TupAt K H a xs vs) ∨ (SqL K.F H a vs)) : SqL K.F H a vs ∨ SqT K.F H a vs := by
  rcases h with ⟨_, h⟩ | h
  · exact .inr h.sq
  · exact .inl h
/-! ### built-ins -/
theorem ok_len (hK : X.K = K.F) : CallR X (.builtin "len") (rC K (biV .len)) := by
  intro pins s σ H vs us Q I ru ⟨ρ, M, xs, WE, rx, m, h⟩
  unfold biV at h
  split at h <;> first | (rename_i e; cases e; done) | skip
  · obtain ⟨v, rfl, r9⟩ := relPs1 rx
    clear rx
    obtain ⟨y, e, h⟩ := okO_some h
    rw [Option.map_eq_some_iff] at e
    obtain ⟨n, e, rfl⟩ := e
    unfold lenP at e
    split at e
    · rw [relP_str] at r9
      subst r9
      split at e
      · cases e
        exact call_len_str pins s σ H _ us Q I ru ⟨_, rfl, (by assumption), put_int m h⟩
      · cases e
    · rw [relP_ref] at r9
      obtain ⟨a, rfl, ha⟩ := r9
      split at e
      · rename_i e1
        cases e
        obtain ⟨ws, k1, r1⟩ := cell_lst m ha e1
        exact call_len_seq pins s σ H _ us Q I ru ⟨a, ws, rfl, .inl (.of k1), by rw [← r1.length]; exact put_int m h⟩
      · rename_i e1
        cases e
        obtain ⟨ws, k1, r1⟩ := cell_dK m ha e1
        obtain ⟨u, rfl, ru'⟩ := vals1 ru
        cases ru'
        have hl : _ = _ := Paired.length r1
        exact d_len I k1 fun t s' I' => ⟨.int _, H, I', ⟨t, rfl⟩, by rw [← hl]; exact put_int m h⟩
      · cases e
    · rw [Option.map_eq_some_iff] at e
      obtain ⟨ys, e, rfl⟩ := e
      obtain ⟨a, ws, rfl, r1, hs⟩ := seqP_ok m r9 e
      have hs := sq_or hs
      rw [← hK] at hs
      exact call_len_seq pins s σ H _ us Q I ru ⟨a, ws, rfl, hs, by rw [← r1.length]; exact put_int m h⟩
  all_goals exact h.elim
theorem ok_int : CallR X (.type "int") (rC K (biV .int)) := by
  intro pins s σ H vs us Q I ru ⟨ρ, M, xs, WE, rx, m, h⟩
  unfold biV at h
  split at h <;> first | (rename_i e; cases e; done) | skip
  · obtain ⟨v, rfl, r9⟩ := relPs1 rx
    rw [relP_int] at r9
    subst r9
    exact call_int1 pins s σ H _ us Q I ru (.inl ⟨_, rfl, put_int m h⟩)
  · obtain ⟨v, rfl, r9⟩ := relPs1 rx
    rw [relP_bl] at r9
    subst r9
    exact call_int1 pins s σ H _ us Q I ru (.inr ⟨_, rfl, put_int m h⟩)
  all_goals exact h.elim
theorem ok_bool : CallR X (.type "bool") (rC K (biV .bool)) := by
  intro pins s σ H vs us Q I ru ⟨ρ, M, xs, WE, rx, m, h⟩
  unfold biV at h
  split at h <;> first | (rename_i e; cases e; done) | skip
  · obtain ⟨v, rfl, r9⟩ := relPs1 rx
    rw [relP_int] at r9
    subst r9
    exact call_bool1 pins s σ H _ us Q I ru (.inl ⟨_, rfl, put_bl m h⟩)
  · obtain ⟨v, rfl, r9⟩ := relPs1 rx
    rw [relP_bl] at r9
    subst r9
    exact call_bool1 pins s σ H _ us Q I ru (.inr ⟨_, rfl, put_bl m h⟩)
  all_goals exact h.elim
theorem ok_abs : CallR X (.builtin "abs") (rC K (biV .abs)) := by
  intro pins s σ H vs us Q I ru ⟨ρ, M, xs, WE, rx, m, h⟩
  unfold biV at h
  split at h <;> first | (rename_i e; cases e; done) | skip
  · obtain ⟨v, rfl, r9⟩ := relPs1 rx
    rw [relP_int] at r9
    subst r9
    exact call_abs pins s σ H _ us Q I ru ⟨_, rfl, put_int m h⟩
  all_goals exact h.elim
theorem ok_max (hc : X.calm = true) : CallR X (.builtin "max") (rC K (biV .max)) := by
  intro pins s σ H vs us Q I ru ⟨ρ, M, xs, WE, rx, m, h⟩
  unfold biV at h
  split at h <;> first | (rename_i e; cases e; done) | skip
  · obtain ⟨v, w, rfl, r9, ry⟩ := relPs2 rx
    rw [relP_int] at r9 ry
    subst r9 ry
    exact call_max2 hc pins s σ H _ us Q I ru ⟨_, _, rfl, put_int m h⟩
  all_goals exact h.elim
theorem ok_min (hc : X.calm = true) : CallR X (.builtin "min") (rC K (biV .min)) := by
  intro pins s σ H vs us Q I ru ⟨ρ, M, xs, WE, rx, m, h⟩
  unfold biV at h
  split at h <;> first | (rename_i e; cases e; done) | skip
  · obtain ⟨v, w, rfl, r9, ry⟩ := relPs2 rx
    rw [relP_int] at r9 ry
    subst r9 ry
    exact call_min2 hc pins s σ H _ us Q I ru ⟨_, _, rfl, put_int m h⟩
  all_goals exact h.elim
theorem ok_tuple (hK : X.K = K.F) : CallR X (.type "tuple") (rC K (biV .tuple)) := by
  intro pins s σ H vs us Q I ru ⟨ρ, M, xs, WE, rx, m, h⟩
  unfold biV at h
  split at h <;> first | (rename_i e; cases e; done) | skip
  · obtain ⟨v, rfl, r9⟩ := relPs1 rx
    obtain ⟨y, e, h⟩ := okO_some h
    rw [Option.map_eq_some_iff] at e
    obtain ⟨ys, e, rfl⟩ := e
    obtain ⟨a, ws, rfl, r1, hs⟩ := seqP_ok m r9 e
    rcases hs with ⟨ex, hs⟩ | hs
    · subst ex
      refine call_tuple_of pins s σ H _ us Q I ru ⟨a, ws, rfl, .inr ⟨by rw [hK]; exact hs.sq, put_ok m r9 h⟩⟩
    · exact call_tuple_of pins s σ H _ us Q I ru ⟨a, ws, rfl, .inl ⟨by rw [hK]; exact hs, fun l hl => put_tup m r1 hl h⟩⟩
  all_goals exact h.elim
theorem ok_list (hK : X.K = K.F) : CallR X (.type "list") (rC K (biV .list)) := by
  intro pins s σ H vs us Q I ru ⟨ρ, M, xs, WE, rx, m, h⟩
  unfold biV at h
  split at h <;> first | (rename_i e; cases e; done) | skip
  · obtain ⟨v, rfl, r9⟩ := relPs1 rx
    split at h
    · rename_i e
      obtain ⟨a, ws, rfl, r1, hs⟩ := seqP_ok m r9 e
      exact call_list_of pins s σ H _ us Q I ru ⟨a, ws, rfl, by rw [hK]; exact sq_or hs, fun l hl => put_lst m r1 hl h⟩
    · exact h.elim
  all_goals exact h.elim
theorem ty_ok {x : PV} {v : V} {t : String} (m : RelM K ρ H M) (r : RelP K ρ H x v) (e : tyName x M = some t) : TyX K.F H v (.type t) ∧ (t = "NoneType" ∨ t = "bool" ∨ t = "int" ∨ t = "str" ∨ t = "tuple" ∨ t = "list" ∨ t = "dict") := by
  unfold tyName at e
  split at e
  · cases e; rw [relP_non] at r; subst r; exact ⟨.base .non, by simp⟩
  · cases e; rw [relP_bl] at r; subst r; exact ⟨.base (.bl _), by simp⟩
  · cases e; rw [relP_int] at r; subst r; exact ⟨.base (.int _), by simp⟩
  · cases e; rw [relP_str] at r; subst r; exact ⟨.base (.str _), by simp⟩
  · cases e
    rw [relP_tup] at r
    obtain ⟨a, vs, rfl, ha, rs⟩ := r
    refine ⟨?_, by simp⟩
    rcases ha with ha | ⟨_, o, its, n, k1, k2, _⟩
    · exact .base (.tup ha)
    · exact .kTuple k1 k2
  · rw [relP_ref] at r
    obtain ⟨a, rfl, ha⟩ := r
    split at e
    · rename_i e1
      cases e
      obtain ⟨vs, k1, r1⟩ := cell_lst m ha e1
      exact ⟨.base (.lst k1), by simp⟩
    · rename_i e1
      cases e
      obtain ⟨vs, k1, r1⟩ := cell_dKf m ha e1
      exact ⟨.base (.dK k1), by simp⟩
    · rename_i e1
      cases e
      obtain ⟨vs, k1, r1⟩ := cell_dTf m ha e1
      exact ⟨.base (.dT k1), by simp⟩
    · cases e
  · cases e
    rw [relP_fro] at r
    obtain ⟨a, rfl, ha⟩ := r
    refine ⟨?_, by simp⟩
    rcases ha with ⟨o, ha⟩ | ⟨o, its, n, k1, k2, _⟩
    · exact .base (.frz ha)
    · exact .kList k1 k2
  · cases e
theorem isi_kit {t n : String} (ht : t = "NoneType" ∨ t = "bool" ∨ t = "int" ∨ t = "str" ∨ t = "tuple" ∨ t = "list" ∨ t = "dict") (hn : isiOk n = true) : kitB t n = some (isiB t n) := by
  have hn' : n = "int" ∨ n = "bool" ∨ n = "str" ∨ n = "tuple" ∨ n = "list" ∨ n = "dict" := by
    unfold isiOk at hn
    simp only [Bool.or_eq_true, beq_iff_eq] at hn
    rcases hn with ((((h | h) | h) | h) | h) | h <;> simp [h]
  rcases hn' with rfl | rfl | rfl | rfl | rfl | rfl <;> rcases ht with rfl | rfl | rfl | rfl | rfl | rfl | rfl <;> decide +kernel
theorem ok_isi (hK : X.K = K.F) : CallR X (.builtin "isinstance") (rC K (biV .isi)) := by
  intro pins s σ H vs us Q I ru ⟨ρ, M, xs, WE, rx, m, h⟩
  unfold biV at h
  split at h <;> first | (rename_i e; cases e; done) | skip
  · obtain ⟨v, w, rfl, r9, ry⟩ := relPs2 rx
    rw [relP_ty] at ry
    subst ry
    split at h
    · rename_i e
      split at h
      · rename_i hn
        obtain ⟨ty, ht⟩ := ty_ok m r9 e
        rw [← hK] at ty
        exact call_isi pins s σ H _ us Q I ru ⟨v, _, _, _, _, rfl, .ty _, ty, kit_ty (isi_kit ht hn), put_bl m h⟩
      · exact h.elim
    · exact h.elim
  all_goals exact h.elim
theorem insI_perm (x : Int) : ∀ l : List Int, (insI x l).Perm (x :: l)
  | [] => List.Perm.refl _
  | y :: ys => by
    unfold insI
    split
    · exact List.Perm.refl _
    · exact ((insI_perm x ys).cons y).trans (List.Perm.swap x y ys)
theorem sortI_perm : ∀ l : List Int, (sortI l).Perm l
  | [] => List.Perm.refl _
  | x :: xs => by
    unfold sortI
    exact (insI_perm x _).trans ((sortI_perm xs).cons x)
theorem insI_sorted (x : Int) : ∀ {l : List Int}, l.Pairwise (· ≤ ·) → (insI x l).Pairwise (· ≤ ·)
  | [], _ => List.pairwise_singleton _ _
  | y :: ys, h => by
    obtain ⟨h1, h2⟩ := List.pairwise_cons.mp h
    unfold insI
    split
    · rename_i hx
      exact List.pairwise_cons.mpr ⟨fun z hz => by
        rcases List.mem_cons.mp hz with e | hz
        · rw [e]; exact hx
        · exact Int.le_trans hx (h1 z hz), h⟩
    · rename_i hx
      refine List.pairwise_cons.mpr ⟨fun z hz => ?_, insI_sorted x h2⟩
      rcases List.mem_cons.mp ((insI_perm x ys).mem_iff.mp hz) with e | hz
      · rw [e]; omega
      · exact h1 z hz
theorem sortI_sorted : ∀ l : List Int, (sortI l).Pairwise (· ≤ ·)
  | [] => List.Pairwise.nil
  | x :: xs => by
    unfold sortI
    exact insI_sorted x (sortI_sorted xs)
theorem sort_uniq : ∀ {l r : List Int}, l.Perm r → l.Pairwise (· ≤ ·) → r.Pairwise (· ≤ ·) → l = r
  | [], r, p, _, _ => (List.Perm.nil_eq p)
  | x :: l, [], p, _, _ => absurd p.length_eq (by simp)
  | x :: l, y :: r, p, h, k => by
    obtain ⟨h1, h2⟩ := List.pairwise_cons.mp h
    obtain ⟨k1, k2⟩ := List.pairwise_cons.mp k
    have e : x = y := by
      have a : x ∈ y :: r := p.mem_iff.mp (List.mem_cons_self ..)
      have b : y ∈ x :: l := p.mem_iff.mpr (List.mem_cons_self ..)
      rcases List.mem_cons.mp a with a | a
      · exact a
      · rcases List.mem_cons.mp b with b | b
        · exact b.symm
        · have := k1 x a
          have := h1 y b
          omega
    subst e
    rw [sort_uniq (List.Perm.cons_inv p) h2 k2]
theorem sort_is {l r : List Int} (p : l.Perm r) (h : l.Pairwise (· ≤ ·)) : l = sortI r := sort_uniq (p.trans (sortI_perm r).symm) h (sortI_sorted r)
theorem intsP_map : ∀ {xs : List PV} {ns : List Int}, intsP xs = some ns → xs = ns.map PV.int
  | [], ns, h => by cases h; rfl
  | .int i :: r, ns, h => by
    unfold intsP at h
    rw [Option.map_eq_some_iff] at h
    obtain ⟨ms, h1, rfl⟩ := h
    rw [intsP_map h1]
    rfl
  | .non :: r, ns, h => by cases h
  | .bl _ :: r, ns, h => by cases h
  | .str _ :: r, ns, h => by cases h
  | .tup _ :: r, ns, h => by cases h
  | .ref _ :: r, ns, h => by cases h
  | .fro _ :: r, ns, h => by cases h
  | .ty _ :: r, ns, h => by cases h
theorem intsP_of : ∀ {ns : List Int}, intsP (ns.map PV.int) = some ns
  | [] => rfl
  | n :: ns => by
    show (intsP (ns.map PV.int)).map (n :: ·) = _
    rw [intsP_of]
    rfl
theorem intKs_map : ∀ {kvs : List (Key × PV)} {ns : List Int}, intKs kvs = some ns → kvs.map (·.1) = ns.map Sum.inl
  | [], ns, h => by cases h; rfl
  | (.inl i, v) :: r, ns, h => by
    unfold intKs at h
    rw [Option.map_eq_some_iff] at h
    obtain ⟨ms, h1, rfl⟩ := h
    rw [List.map_cons, intKs_map h1]
    rfl
  | (.inr x, v) :: r, ns, h => by cases h
theorem kv_keys {κ : Type} {l : List (κ × PV)} {r : List (κ × V)} (h : RelKV K ρ H l r) : l.map (·.1) = r.map (·.1) := by
  unfold RelKV at h
  induction h with
  | nil => rfl
  | cons h t ih => rw [List.map_cons, List.map_cons, ih, h.1]
theorem ok_sorted (hK : X.K = K.F) (hc : X.calm = true) : CallR X (.builtin "sorted") (rC K (biV .sorted)) := by
  intro pins s σ H vs us Q I ru ⟨ρ, M, xs, WE, rx, m, h⟩
  unfold biV at h
  split at h <;> first | (rename_i e; cases e; done) | skip
  · obtain ⟨v, rfl, r9⟩ := relPs1 rx
    unfold sortV at h
    split at h
    · rw [relP_ref] at r9
      obtain ⟨a, rfl, ha⟩ := r9
      split at h
      · rename_i e1
        obtain ⟨ws, k1, r1⟩ := cell_lst m ha e1
        split at h
        · rename_i ns e2
          have ex := intsP_map e2
          subst ex
          have ew := RelPs.ints.mp r1
          subst ew
          refine cr_sortedI pins s σ H _ us Q I ru ⟨a, ns, rfl, .inl (.of k1), fun ns' p hp hs hf => ?_⟩
          rw [sort_is hp hs]
          exact put_lst m (RelPs.ints.mpr rfl) hf h
        · exact h.elim
      · rename_i e1
        obtain ⟨ws, k1, r1⟩ := cell_dK m ha e1
        split at h
        · rename_i ns e2
          split at h
          · rename_i hz
            refine call_sortedDI hc pins s σ H _ us Q I ru ⟨a, ws, ns, rfl, k1, by rw [← kv_keys r1]; exact intKs_map e2, hz, fun ns' p hp hs hf => ?_⟩
            rw [sort_is hp hs]
            exact put_lst m (RelPs.ints.mpr rfl) hf h
          · exact h.elim
        · exact h.elim
      · exact h.elim
    · exact h.elim
  all_goals exact h.elim
theorem ok_sum (hK : X.K = K.F) (hc : X.calm = true) : CallR X (.builtin "sum") (rC K (biV .sum)) := by
  intro pins s σ H vs us Q I ru ⟨ρ, M, xs, WE, rx, m, h⟩
  unfold biV at h
  split at h <;> first | (rename_i e; cases e; done) | skip
  · obtain ⟨v, rfl, r9⟩ := relPs1 rx
    unfold sumV at h
    split at h
    · rename_i ys e
      obtain ⟨a, ws, rfl, r1, hs⟩ := seqP_ok m r9 e
      split at h
      · exact h.elim
      · rename_i hne
        split at h
        · rename_i ns e2
          have ex := intsP_map e2
          subst ex
          have ew := RelPs.ints.mp r1
          subst ew
          rcases hs with ⟨q, _⟩ | q
          · exact absurd q (hne _)
          · rw [← hK] at q
            exact cr_sum hc pins s σ H _ us Q I ru ⟨a, ns, rfl, q, put_int m h⟩
        · exact h.elim
    · exact h.elim
  all_goals exact h.elim
def biVal : BI → Value
  | .len => .builtin "len" | .int => .type "int" | .abs => .builtin "abs" | .tuple => .type "tuple" | .list => .type "list" | .isi => .builtin "isinstance" | .max => .builtin "max" | .min => .builtin "min" | .bool => .type "bool" | .sorted => .builtin "sorted" | .sum => .builtin "sum"
/-! ### sorted(set(..)) -/
theorem insU_mem {x n : Int} : ∀ {l : List Int}, n ∈ insU x l ↔ n = x ∨ n ∈ l
  | [] => by simp [insU]
  | y :: ys => by
    unfold insU
    split
    · simp
    · split
      · rename_i h
        subst h
        simp
      · rw [List.mem_cons, insU_mem, List.mem_cons]
        constructor
        · rintro (h | h | h)
          · exact .inr (.inl h)
          · exact .inl h
          · exact .inr (.inr h)
        · rintro (h | h | h)
          · exact .inr (.inl h)
          · exact .inl h
          · exact .inr (.inr h)
theorem insU_up {x : Int} : ∀ {l : List Int}, l.Pairwise (· < ·) → (insU x l).Pairwise (· < ·)
  | [], _ => List.pairwise_singleton _ _
  | y :: ys, h => by
    unfold insU
    have h2 := List.pairwise_cons.mp h
    split
    · rename_i hx
      rw [List.pairwise_cons]
      refine ⟨fun z hz => ?_, h⟩
      rcases List.mem_cons.mp hz with rfl | hz
      · exact hx
      · have := h2.1 z hz; omega
    · split
      · exact h
      · rw [List.pairwise_cons]
        refine ⟨fun z hz => ?_, insU_up h2.2⟩
        rcases insU_mem.mp hz with rfl | hz
        · omega
        · exact h2.1 z hz
theorem sortU_mem {n : Int} : ∀ {l : List Int}, n ∈ sortU l ↔ n ∈ l
  | [] => by simp [sortU]
  | x :: xs => by
    unfold sortU
    rw [insU_mem, sortU_mem, List.mem_cons]
theorem sortU_up : ∀ l : List Int, (sortU l).Pairwise (· < ·)
  | [] => List.Pairwise.nil
  | x :: xs => insU_up (sortU_up xs)
theorem up_uniq : ∀ {l r : List Int}, l.Pairwise (· < ·) → r.Pairwise (· < ·) → (∀ n, n ∈ l ↔ n ∈ r) → l = r
  | [], [], _, _, _ => rfl
  | [], y :: r, _, _, h => absurd ((h y).mpr (List.mem_cons_self ..)) (List.not_mem_nil)
  | x :: l, [], _, _, h => absurd ((h x).mp (List.mem_cons_self ..)) (List.not_mem_nil)
  | x :: l, y :: r, hl, hr, h => by
    obtain ⟨h1, h2⟩ := List.pairwise_cons.mp hl
    obtain ⟨k1, k2⟩ := List.pairwise_cons.mp hr
    have e : x = y := by
      rcases List.mem_cons.mp ((h x).mp (List.mem_cons_self ..)) with a | a
      · exact a
      · rcases List.mem_cons.mp ((h y).mpr (List.mem_cons_self ..)) with b | b
        · exact b.symm
        · have := k1 x a
          have := h1 y b
          omega
    subst e
    rw [up_uniq h2 k2 fun n => ?_]
    constructor
    · intro hn
      rcases List.mem_cons.mp ((h n).mp (List.mem_cons_of_mem _ hn)) with rfl | a
      · have := h1 n hn; omega
      · exact a
    · intro hn
      rcases List.mem_cons.mp ((h n).mpr (List.mem_cons_of_mem _ hn)) with rfl | a
      · have := k1 n hn; omega
      · exact a
def rSetI (X : Cx) : List V → Hp → VK → Prop := fun vs H Q => ∃ (l : Addr) (ns : List Int), vs = [V.ref l] ∧ SqT X.K H l (ns.map V.int) ∧ ns.length ≤ 1000 ∧ ∀ (p : Addr) (c : Nat), H p = none → c ≤ ns.length → Q (.ref p) (upd H p (SetO X.w p (fun j => decide (j ∈ ns)) c))
theorem cr_setI (hc : X.calm = true) : CallR X (.type "set") (rSetI X) := by
  intro pins s σ H vs us Q I r h
  obtain ⟨l, ns, rfl, hq, hl, q⟩ := h
  rw [Vals.ref1 r]
  obtain ⟨its, rv, pt, hz⟩ := I.tuple hq
  have hi : IntsAre its.toArray.toList ns := ints_of_vals rv
  refine call_set_tupI ns (I.ok.hd hc) (show s.heap.IsTuple l its.toArray from pt) hi (by unfold scanBound; omega) fun h' tk c R1 hcn k => ?_
  exact ⟨.ref _, upd H s.heap.objs.size (SetO X.w s.heap.objs.size (fun j => decide (j ∈ ns)) c), I.laid (t' := tk) k (Nat.le_refl _) (setO_new R1), rfl, q _ _ (I.hok.fresh (Nat.le_refl _)) hcn⟩
theorem ok_bi (hK : X.K = K.F) (hc : X.calm = true) (b : BI) : CallR X (biVal b) (rC K (biV b)) := by
  cases b
  · exact ok_len hK
  · exact ok_int
  · exact ok_abs
  · exact ok_tuple hK
  · exact ok_list hK
  · exact ok_isi hK
  · exact ok_max hc
  · exact ok_min hc
  · exact ok_bool
  · exact ok_sorted hK hc
  · exact ok_sum hK hc
/-! ### subscripts -/
theorem atI_ok {xs : List PV} {vs : List V} {i : Int} {x : PV} (r : RelPs K ρ H xs vs) (h : atI xs i = some x) : ∃ v, atI vs i = some v ∧ RelP K ρ H x v := by
  unfold atI at h ⊢
  rw [← r.length]
  cases e : ixN xs.length i with
  | none => rw [e] at h; cases h
  | some j =>
    rw [e] at h
    exact r.get h
theorem ix_dict (hu : X.A.units + 1 < cLine) : IxR X (fun x y H Q => ∃ a v, x = .ref a ∧ DGet H a y (some v) ∧ Q v H) := by
  intro value slice pins s σ H x y v u Q I rx ry h hs
  obtain ⟨a, z, rfl, g, q⟩ := h
  cases rx
  have hT := dict_typeIs I g
  unfold subscriptTail
  refine wpAny_bind ?_
  rw [getitemInPython_of_ne hT.not_modules]
  refine wpAny_bind (wpAny_specialOf hT PySem.F.slot_dict_getitem.lookup ?_)
  have fin : wpAny (model X.prog X.w) X.A (subscripted slice false (.ref a) u) (fun r s₃ => wpAny (model X.prog X.w) X.A (letTemporaryGo value (.ref a) r >>= fun _ => pure r) (EP X pins σ Q) X.xe s₃) X.xe s := by
    rw [hs]
    exact wpAny_operating (wpAny_mono (d_getItem hu I g ry fun w' s3 I3 rw' => (show EP X pins σ Q w' s3 from ⟨z, H, I3, rw', q⟩)) (fun r s₃ h₃ => wpAny_bind (wpAny_letTemporaryGo (wpAny_pure h₃))) fun _ _ x => x)
  first
    | exact wpAny_pure (wpAny_bind fin)
    | exact wpAny_bind (wpAny_pure (wpAny_bind fin))
    | exact wpAny_bind fin
theorem ok_ix (hK : X.K = K.F) (hu : X.A.units + 64 < cLine) : IxR X (rG K ixV) := by
  intro value slice pins s σ H v w u1 u2 Q I ru rw' ⟨ρ, M, x, y, WE, rx, ry, m, h⟩ hs
  unfold ixV at h
  split at h
  · rw [relP_int] at ry
    subst ry
    split at h
    · rw [relP_str] at rx
      subst rx
      split at h
      · rename_i hz
        split at h
        · rename_i c e
          exact ix_str value slice pins s σ H _ _ u1 u2 Q I ru rw' ⟨_, _, c, rfl, rfl, hz, e, put_str m h⟩ hs
        · exact h.elim
      · exact h.elim
    · have rx0 := rx
      rw [relP_ref] at rx
      obtain ⟨a, rfl, ha⟩ := rx
      split at h
      · rename_i e1
        obtain ⟨vs, k1, r1⟩ := cell_lst m ha e1
        obtain ⟨z, e, h⟩ := okO_some h
        obtain ⟨z', e2, r2⟩ := atI_ok r1 e
        exact ix_list value slice pins s σ H _ _ u1 u2 Q I ru rw' ⟨a, vs, _, z', rfl, rfl, .of k1, e2, put_ok m r2 h⟩ hs
      · rename_i e1
        obtain ⟨vs, k1, r1⟩ := cell_dK m ha e1
        obtain ⟨z, e, h⟩ := okO_some h
        obtain ⟨z', e2, r2⟩ := (getK_ok r1 _).1 z e
        exact ix_dict (by omega) value slice pins s σ H _ _ u1 u2 Q I ru rw' ⟨a, z', rfl, by rw [← e2]; exact DGet.kR (k := .inl _) k1, put_ok m r2 h⟩ hs
      · exact h.elim
    · split at h
      · rename_i e1
        obtain ⟨z, e, h⟩ := okO_some h
        obtain ⟨a, ws, rfl, r1, hsq⟩ := seqP_ok m rx e1
        obtain ⟨z', e2, r2⟩ := atI_ok r1 e
        rcases sq_or hsq with q | q
        · exact ix_list value slice pins s σ H _ _ u1 u2 Q I ru rw' ⟨a, ws, _, z', rfl, rfl, by rw [hK]; exact q, e2, put_ok m r2 h⟩ hs
        · exact ix_tup value slice pins s σ H _ _ u1 u2 Q I ru rw' ⟨a, ws, _, z', rfl, rfl, by rw [hK]; exact q, e2, put_ok m r2 h⟩ hs
      · exact h.elim
  · rw [relP_str] at ry
    subst ry
    split at h
    · rw [relP_ref] at rx
      obtain ⟨a, rfl, ha⟩ := rx
      split at h
      · rename_i e1
        obtain ⟨vs, k1, r1⟩ := cell_dK m ha e1
        obtain ⟨z, e, h⟩ := okO_some h
        obtain ⟨z', e2, r2⟩ := (getK_ok r1 _).1 z e
        exact ix_dict (by omega) value slice pins s σ H _ _ u1 u2 Q I ru rw' ⟨a, z', rfl, by rw [← e2]; exact DGet.kR (k := .inr _) k1, put_ok m r2 h⟩ hs
      · exact h.elim
    · exact h.elim
  · exact h.elim
/-! ### slices -/
def rS (K : Par) : V → Option Int → Option Int → Hp → VK → Prop := fun v lo hi H Q => ∃ ρ M x WE, RelP K ρ H x v ∧ RelM K ρ H M ∧ Post K (RP K) WE Q ρ H (slV x lo hi M)
theorem cut_ok {xs : List PV} {vs : List V} (r : RelPs K ρ H xs vs) (lo hi : Option Int) : RelPs K ρ H (cutL xs lo hi) (cutV vs lo hi) := by
  unfold cutL cutV
  rw [← r.length]
  exact (r.drop _).take _
theorem ok_sl (hK : X.K = K.F) : SlR X (rS K) := by
  intro pins s σ H v u vl vu lo hi sl Q I rv hs pl pu ⟨ρ, M, x, WE, rx, m, h⟩
  unfold slV at h
  split at h
  · rename_i xs
    have rx0 := rx
    rw [relP_tup] at rx
    obtain ⟨a, vs, rfl, ha, rs⟩ := rx
    refine sl_tupA pins s σ H _ u vl vu lo hi sl Q I rv hs pl pu ⟨a, vs, rfl, by rw [hK]; exact ha.sq, fun hw => ?_, fun _ p hp => put_tup m (cut_ok rs lo hi) hp h⟩
    have e : cutL xs lo hi = xs := by
      unfold cutL
      rw [rs.length, hw.1, hw.2, List.drop_zero, ← rs.length]
      simp
    rw [e] at h
    exact put_ok m rx0 h
  · split at h
    · rename_i hne _ xs e
      obtain ⟨a, ws, rfl, r1, hsq⟩ := seqP_ok m rx e
      rcases hsq with ⟨ex, _⟩ | q
      · exact (hne _ ex).elim
      · exact sl_list pins s σ H _ u vl vu lo hi sl Q I rv hs pl pu ⟨a, ws, rfl, by rw [hK]; exact q, fun p hp => put_lst m (cut_ok r1 lo hi) hp h⟩
    · exact h.elim
/-! ### methods -/
theorem dropLast_ok : ∀ {xs : List PV} {vs : List V}, RelPs K ρ H xs vs → RelPs K ρ H xs.dropLast vs.dropLast
  | [], _, r => by rw [relPs_nil.mp r]; exact .nil
  | [x], _, r => by
    obtain ⟨v, rfl, _⟩ := relPs1 r
    exact .nil
  | x :: y :: xs, _, r => by
    obtain ⟨v, r', rfl, h1, h2⟩ := relPs_cons.mp r
    have ih := dropLast_ok h2
    obtain ⟨w, r2, rfl, h3, h4⟩ := relPs_cons.mp h2
    exact .mk h1 ih
theorem RelC.l {xs : List PV} {vs : List V} (r : RelPs K ρ H xs vs) : RelC K ρ H (.lst xs) (.lst vs) := ⟨_, rfl, r⟩
theorem ok_append : MtR X "list.append" (rM K (mtV .append)) := by
  intro pins s σ H v vs u us Q I ru rus ⟨ρ, M, x, xs, WE, rx, rxs, m, h⟩
  unfold mtV at h
  split at h <;> first | (rename_i e; cases e; done) | skip
  · rw [relP_ref] at rx
    obtain ⟨a, rfl, ha⟩ := rx
    obtain ⟨w, rfl, ry⟩ := relPs1 rxs
    split at h
    · rename_i e1
      obtain ⟨ws, k1, r1⟩ := cell_lst m ha e1
      split at h
      · rename_i hz
        exact mt_append pins s σ H _ _ u us Q I ru rus ⟨a, ws, w, rfl, rfl, k1, by rw [← r1.length]; exact hz, put_set m ha e1 (.l (r1.append (.mk ry .nil))) (relP_non.mpr rfl) h⟩
      · exact h.elim
    · exact h.elim
  all_goals exact h.elim
theorem ok_pop : MtR X "list.pop" (rM K (mtV .pop)) := by
  intro pins s σ H v vs u us Q I ru rus ⟨ρ, M, x, xs, WE, rx, rxs, m, h⟩
  unfold mtV at h
  split at h <;> first | (rename_i e; cases e; done) | skip
  · rw [relP_ref] at rx
    obtain ⟨a, rfl, ha⟩ := rx
    have ev := relPs0 rxs
    subst ev
    split at h
    · rename_i e1
      obtain ⟨ws, k1, r1⟩ := cell_lst m ha e1
      split at h
      · rename_i y e2
        obtain ⟨w, e3, r3⟩ := r1.get e2
        exact mt_pop pins s σ H _ _ u us Q I ru rus ⟨a, ws, w, rfl, rfl, k1, by rw [← r1.length]; exact e3, put_set m ha e1 (.l (dropLast_ok r1)) r3 h⟩
      · exact h.elim
    · exact h.elim
  all_goals exact h.elim
theorem ok_insert : MtR X "list.insert" (rM K (mtV .insert)) := by
  intro pins s σ H v vs u us Q I ru rus ⟨ρ, M, x, xs, WE, rx, rxs, m, h⟩
  unfold mtV at h
  split at h <;> first | (rename_i e; cases e; done) | skip
  · rw [relP_ref] at rx
    obtain ⟨a, rfl, ha⟩ := rx
    obtain ⟨v1, w, rfl, r1, ry⟩ := relPs2 rxs
    rw [relP_int] at r1
    subst r1
    split at h
    · rename_i e1
      obtain ⟨ws, k1, r1⟩ := cell_lst m ha e1
      split at h
      · rename_i hz
        exact mt_insert pins s σ H _ _ u us Q I ru rus ⟨a, ws, _, w, rfl, rfl, k1, by rw [← r1.length]; exact hz.1, hz.2.1, hz.2.2, put_set m ha e1 (.l (((r1.take _).append (.mk ry .nil)).append (r1.drop _))) (relP_non.mpr rfl) h⟩
      · exact h.elim
    · exact h.elim
  all_goals exact h.elim
theorem ok_extend : MtR X "list.extend" (rM K (mtV .extend)) := by
  intro pins s σ H v vs u us Q I ru rus ⟨ρ, M, x, xs, WE, rx, rxs, m, h⟩
  unfold mtV at h
  split at h <;> first | (rename_i e; cases e; done) | skip
  · rw [relP_ref] at rx
    obtain ⟨a, rfl, ha⟩ := rx
    obtain ⟨w, rfl, ry⟩ := relPs1 rxs
    rw [relP_ref] at ry
    obtain ⟨b, rfl, hb⟩ := ry
    split at h
    · rename_i e
      obtain ⟨e1, e2⟩ := lists2_some e
      obtain ⟨ws, k1, r1⟩ := cell_lst m ha e1
      obtain ⟨zs, k2, r2⟩ := cell_lst m hb e2
      split at h
      · rename_i hz
        exact mt_extend pins s σ H _ _ u us Q I ru rus ⟨a, b, ws, zs, rfl, rfl, k1, k2, by rw [← r1.length, ← r2.length]; exact hz, put_set m ha e1 (.l (r1.append r2)) (relP_non.mpr rfl) h⟩
      · exact h.elim
    · exact h.elim
  all_goals exact h.elim
end
end Q

/-! QG: readings over the evaluator, construct by construct. -/
namespace Q
open PySem PySem.Spec PyProof.Rows L2

structure FI where
  name : Str
  ps : List Str
/-- what the text is known to stand among: the defs, the names that stay built-in, the calls by keywords -/
structure Pg where
  fns : Nat → Option FI
  free : List Str
  kws : Nat → List (Nat × List Str × List Nat)
def RelX (K : Par) (ρ : List Addr) (H : Hp) (x : Ex) (cls : Value) (d : Option Addr) : Prop := ∃ C dx vs, K.ex x.cls = some C ∧ cls = .ref C ∧ d = some dx ∧ H dx = some (.xd vs) ∧ RelKV K ρ H x.fs vs
def spD (K : Par) (g : List PV → Store → Res PV) : Sp := fun vs H Q E => ∃ ρ M xs, RelPs K ρ H xs vs ∧ RelM K ρ H M ∧ Post K (RP K) (fun x ρ' H' => ∀ cls d, RelX K ρ' H' x cls d → E cls d H') Q ρ H (g xs M)
def KB (fd : FuncData) (ps : List Str) (c : Nat) (ks : List Str) (pm : List Nat) : Prop :=
  ∀ us ws : List Value, us.length = c → ws.length = ks.length → ∃ zs, permL (us ++ ws) pm = some zs ∧ bindArgs fd ⟨us, ks.zip ws⟩ = pure (ps.zip zs)
structure PrOk (P : Program) (w : World) (K : Par) (mg : Str → Option Value) (base : Heap) (n : Nat) (pr : Pg) (cl : Nat → List PV → Store → Res PV) : Prop where
  fn : ∀ f i, pr.fns f = some i → ∃ ad fd, mg i.name = some (.ref ad) ∧ PySem.W.keepIn K.F (.ref ad) = true ∧ Binds K.F fd i.ps [] ∧ FnOk P w K.F mg base (CX P w) n ad fd i.ps (spD K (cl f)) ∧
    ∀ c ks pm, (c, ks, pm) ∈ pr.kws f → KB fd i.ps c ks pm
  free : ∀ x ∈ pr.free, mg x = none
/-- where the text stands -/
structure XOk (K : Par) (n : Nat) (pr : Pg) (cl : Nat → List PV → Store → Res PV) (W : WX) (N : List Str) (sc : Scope) (fnf : Str → Bool) (X : Cx) : Prop where
  pr : PrOk X.prog X.w K X.mg X.base n pr cl
  K : X.K = K.F
  N : X.N = N
  sc : X.env.scope = sc
  fn : X.fn = fnf
  calm : X.calm = true
  nd : X.N.Nodup
  room : Room n X.A
  tk : Takes X W
  kind : X.env.scope.kind = .function

def WEx (K : Par) (W : WX) (σ : L2.St) : Ex → List Addr → Hp → Prop := fun x ρ H => ∀ cls d, RelX K ρ H x cls d → W cls d σ H
def tR {α β : Type} (K : Par) (R : List Addr → Hp → α → β → Prop) (W : WX) (ev : PEnv → Store → Res α) : L2.St → Hp → (β → Hp → Prop) → Prop := fun σ H Q => ∃ ρ e M, RelE K ρ H e σ ∧ RelM K ρ H M ∧ Post K R (WEx K W σ) Q ρ H (ev e M)
abbrev tEx (K : Par) (W : WX) (ev : PEnv → Store → Res PV) : TE := tR K (RP K) W ev
abbrev tAx (K : Par) (W : WX) (ev : PEnv → Store → Res (List PV)) : TA := tR K (RPs K) W ev
abbrev tTx (K : Par) (W : WX) (ev : PEnv → Store → Res Bool) : TT := tR K REq W ev
abbrev tOx (K : Par) (W : WX) (ev : PEnv → Store → Res (Option Int)) : TO := tR K REq W ev

section
variable {X : Cx} {e : Expr}
theorem _root_.L2.PE.imp {t t' : TE} (h : PE X e t) (k : ∀ σ H Q, t' σ H Q → t σ H Q) : PE X e t' := ⟨fun pins s σ H Q I hq => h.run pins s σ H Q I (k σ H Q hq)⟩
theorem _root_.L2.PT.imp {t t' : TT} (h : PT X e t) (k : ∀ σ H Q, t' σ H Q → t σ H Q) : PT X e t' := ⟨fun pins s σ H Q I hq => h.run pins s σ H Q I (k σ H Q hq)⟩
theorem _root_.L2.PW.imp {t t' : TT} (h : PW X e t) (k : ∀ σ H Q, t' σ H Q → t σ H Q) : PW X e t' := ⟨fun wh pins s σ H Q I hq => h.run wh pins s σ H Q I (k σ H Q hq)⟩
theorem _root_.L2.PA.imp {es : List Expr} {t t' : TA} (h : PA X es t) (k : ∀ σ H Q, t' σ H Q → t σ H Q) : PA X es t' := ⟨fun pos pins s σ H Q I hq => h.run pos pins s σ H Q I (k σ H Q hq)⟩
theorem _root_.L2.PO.imp {o : Option Expr} {t t' : TO} (h : PO X o t) (k : ∀ σ H Q, t' σ H Q → t σ H Q) : PO X o t' := ⟨fun pins s σ H Q I hq => h.run pins s σ H Q I (k σ H Q hq)⟩
theorem _root_.L2.PK.imp {ks : List Keyword} {t t' : TA} (h : PK X ks t) (k : ∀ σ H Q, t' σ H Q → t σ H Q) : PK X ks t' := ⟨fun pos pins s σ H Q I hq => h.run pos pins s σ H Q I (k σ H Q hq)⟩
theorem _root_.L2.PTs.imp {es : List Expr} {t t' : TT} (h : PTs X es t) (k : ∀ σ H Q, t' σ H Q → t σ H Q) : PTs X es t' := ⟨fun pins s σ H Q I hq => h.run pins s σ H Q I (k σ H Q hq)⟩
theorem _root_.L2.PG.imp {t t' : TG} (h : PG X e t) (k : ∀ v σ H Q, t' v σ H Q → t v σ H Q) : PG X e t' := ⟨fun pins s σ H v u Q I r hq => h.run pins s σ H v u Q I r (k v σ H Q hq)⟩
theorem _root_.L2.PGs.imp {es : List Expr} {t t' : TGs} (h : PGs X es t) (k : ∀ v σ H Q, t' v σ H Q → t v σ H Q) : PGs X es t' := ⟨fun pins s σ H v u Q I r hq => h.run pins s σ H v u Q I r (k v σ H Q hq)⟩
theorem _root_.L2.PI.imp {tg : Expr} {t t' : TI} (h : PI X tg e t) (k : ∀ σ H R, t' σ H R → t σ H R) : PI X tg e t' := ⟨fun pins s σ H R I hq => h.run pins s σ H R I (k σ H R hq)⟩
theorem _root_.L2.PS.imp {st : Stmt} {t t' : TS} (h : PS X st t) (k : ∀ D σ H, t' D σ H → t D σ H) : PS X st t' := ⟨fun pins s σ H D I hq => h.run pins s σ H D I (k D σ H hq)⟩
theorem _root_.L2.PSs.imp {st : List Stmt} {t t' : TS} (h : PSs X st t) (k : ∀ D σ H, t' D σ H → t D σ H) : PSs X st t' := ⟨fun pins s σ H D I hq => h.run pins s σ H D I (k D σ H hq)⟩
end

section
variable {K : Par} {n : Nat} {pr : Pg} {cl : Nat → List PV → Store → Res PV} {W : WX} {N : List Str} {sc : Scope} {fnf : Str → Bool} {X : Cx} {pos : Pos} {a b c : Expr} {ea eb ec : PEnv → Store → Res PV}
theorem XOk.units (x : XOk K n pr cl W N sc fnf X) : X.A.units + 64 < cLine := x.room.units

def tst (ev : PEnv → Store → Res PV) : PEnv → Store → Res Bool := fun e M => (ev e M).bind fun x M => truR x M
/-- what hands back a truth value -/
def BoolEv (ev : PEnv → Store → Res PV) : Prop := ∀ e M, ∃ r : Res Bool, ev e M = r.bind fun k M => .ok (.bl k) M
theorem bool_read {σ : L2.St} {H : Hp} {Q : Bool → Hp → Prop} {ev : PEnv → Store → Res PV} (hb : BoolEv ev) (h : tTx K W (tst ev) σ H Q) : tEx K W ev σ H (fun x H1 => ∃ k, x = .bl k ∧ Q k H1) := by
  obtain ⟨ρ, e, M, he, hm, hp⟩ := h
  refine ⟨ρ, e, M, he, hm, ?_⟩
  obtain ⟨r, er⟩ := hb e M
  unfold tst at hp
  rw [er] at hp ⊢
  cases r with
  | ok k M' =>
    intro z ρ3 H3 m3 r3 x3
    rw [relP_bl.mp r3]
    exact ⟨k, rfl, hp k ρ3 H3 m3 rfl x3⟩
  | exc x M' => exact hp
  | bad => exact hp
theorem _root_.L2.PE.eq {ev ev' : PEnv → Store → Res PV} (h : PE X a (tEx K W ev)) (k : ∀ e M, ev' e M = ev e M) : PE X a (tEx K W ev') := by
  rw [show ev' = ev from funext fun e => funext fun M => k e M]
  exact h
theorem _root_.L2.PT.eq {ev ev' : PEnv → Store → Res PV} (h : PT X a (tTx K W (tst ev))) (k : ∀ e M, ev' e M = ev e M) : PT X a (tTx K W (tst ev')) := by
  rw [show ev' = ev from funext fun e => funext fun M => k e M]
  exact h
theorem _root_.L2.PW.eq {ev ev' : PEnv → Store → Res PV} (h : PW X a (tTx K W (tst ev))) (k : ∀ e M, ev' e M = ev e M) : PW X a (tTx K W (tst ev')) := by
  rw [show ev' = ev from funext fun e => funext fun M => k e M]
  exact h
theorem bool_bind {α : Type} {r : Res α} {f : α → Store → Res PV} (h : ∀ x M, ∃ r : Res Bool, f x M = r.bind fun k M => .ok (.bl k) M) : ∃ q : Res Bool, r.bind f = q.bind fun k M => .ok (.bl k) M := by
  cases r with
  | ok x M1 => exact h x M1
  | exc x M1 => exact ⟨.exc x M1, rfl⟩
  | bad => exact ⟨.bad, rfl⟩
theorem bool_ok {k : Bool} {M : Store} : ∃ r : Res Bool, (.ok (.bl k) M : Res PV) = r.bind fun k M => .ok (.bl k) M := ⟨.ok k M, rfl⟩
theorem bool_bad : ∃ r : Res Bool, (.bad : Res PV) = r.bind fun k M => .ok (.bl k) M := ⟨.bad, rfl⟩
theorem bool_cmp {o : Cop} {x y : PV} {M : Store} : ∃ r : Res Bool, cmpV o x y M = r.bind fun k M => .ok (.bl k) M := by
  unfold cmpV
  cases cmpB M o x y with
  | none => exact bool_bad
  | some b => exact bool_ok
/-! ### names and constants -/
theorem g_const {v : PV} {u : V} {ev : PEnv → Store → Res PV} (h : PE X a (tC u)) (hv : ∀ e M, ev e M = .ok v M) (r : ∀ ρ H, RelP K ρ H v u) : PE X a (tEx K W ev) :=
  h.imp fun σ H Q ⟨ρ, e, M, he, hm, hp⟩ => by
    rw [hv] at hp
    exact hp u ρ H hm (r ρ H) .refl
theorem g_var {i : Nat} {x : Str} (hN : X.N[i]? = some x) (hv : Vis X.env.scope x) (hd : (x == ("__debug__" : Str)) = false) (hcd : (x == ("__classdict__" : Str)) = false) : PE X (.Name x pos) (tEx K W (evE cl (.var i))) :=
  (pe_var hN hv hd hcd).imp fun σ H Q ⟨ρ, e, M, he, hm, hp⟩ => by
    rw [evE] at hp
    split at hp
    · rename_i v hg
      obtain ⟨u, h1, h2⟩ := he.get hg
      exact ⟨u, h1, hp u ρ H hm h2 .refl⟩
    · exact hp.elim
/-! ### operators -/
theorem g_bin {op : Operator} {g : PV → PV → Store → Res PV} (ho : OpOk X K (binaryOp op) g) (ha : PE X a (tEx K W ea)) (hb : PE X b (tEx K W eb)) :
    PE X (.BinOp a op b pos) (tEx K W fun e M => (ea e M).bind fun x M => (eb e M).bind fun y M => g x y M) :=
  (pe_op ho ha hb).imp fun σ H Q ⟨ρ, e, M, he, hm, hp⟩ => ⟨ρ, e, M, he, hm, hp.bind fun x M1 v ρ1 H1 m1 r1 x1 h1 =>
    ⟨ρ1, e, M1, he.ext x1, m1, h1.bind fun y M2 u ρ2 H2 m2 r2 x2 h2 => ⟨ρ2, M2, x, y, _, r1.ext x2, r2, m2, h2⟩⟩⟩
theorem cmp_read {g : PV → PV → Store → Res PV} {σ : L2.St} {H : Hp} {Q : VK} (h : tEx K W (fun e M => (ea e M).bind fun x M => (eb e M).bind fun y M => g x y M) σ H Q) : tOp (rG K g) (tEx K W ea) (tEx K W eb) σ H Q := by
  obtain ⟨ρ, e, M, he, hm, hp⟩ := h
  exact ⟨ρ, e, M, he, hm, hp.bind fun x M1 v ρ1 H1 m1 r1 x1 h1 =>
    ⟨ρ1, e, M1, he.ext x1, m1, h1.bind fun y M2 u ρ2 H2 m2 r2 x2 h2 => ⟨ρ2, M2, x, y, _, r1.ext x2, r2, m2, h2⟩⟩⟩
theorem g_cmp {op : CmpOp} {g : PV → PV → Store → Res PV} (ho : OpOk X K (compareOp op) g) (ha : PE X a (tEx K W ea)) (hb : PE X b (tEx K W eb)) (hm : behindInMarks op b = false) :
    PE X (.Compare a [op] [b] pos) (tEx K W fun e M => (ea e M).bind fun x M => (eb e M).bind fun y M => g x y M) :=
  (pe_cmpR ho ha hb hm).imp fun σ H Q z => cmp_read z
theorem truR_ok {x : PV} {M : Store} : (∃ b, truV x M = some b ∧ truR x M = .ok b M) ∨ truR x M = .bad := by
  unfold truR
  cases h : truV x M with
  | none => exact .inr rfl
  | some b => exact .inl ⟨b, rfl, rfl⟩
/-- a comparison hands back a truth value -/
theorem cmp_bl {o : Cop} {x y : PV} {M : Store} : (∃ b, cmpV o x y M = .ok (.bl b) M) ∨ cmpV o x y M = .bad := by
  unfold cmpV
  cases cmpB M o x y with
  | none => exact .inr rfl
  | some b => exact .inl ⟨b, rfl⟩
theorem gt_cmp {o : Cop} (ho : OpOk X K (compareOp (cmOf o)) (cmpV o)) (ha : PE X a (tEx K W ea)) (hb : PE X b (tEx K W eb)) (hm : behindInMarks (cmOf o) b = false) :
    PT X (.Compare a [cmOf o] [b] pos) (tTx K W (tst fun e M => (ea e M).bind fun x M => (eb e M).bind fun y M => cmpV o x y M)) :=
  (pt_cmpR ho ha hb hm).imp fun σ H Q z => cmp_read (bool_read (fun _ _ => bool_bind fun _ _ => bool_bind fun _ _ => bool_cmp) z)
theorem chain_read {o o' : Cop} {σ : L2.St} {H : Hp} {Q : VK} (h : tEx K W (fun e M => (ea e M).bind fun x M => (eb e M).bind fun y M => (cmpV o x y M).bind fun t M => match t with
      | .bl true => (ec e M).bind fun z M => cmpV o' y z M
      | .bl false => .ok (.bl false) M
      | _ => .bad) σ H Q) : tChain (rG K (cmpV o)) (rG K (cmpV o')) (tEx K W ea) (tEx K W eb) (tEx K W ec) σ H Q := by
  obtain ⟨ρ, e, M, he, hm, hp⟩ := h
  exact ⟨ρ, e, M, he, hm, hp.bind fun x M1 v ρ1 H1 m1 r1 x1 h1 =>
    ⟨ρ1, e, M1, he.ext x1, m1, h1.bind fun y M2 u ρ2 H2 m2 r2 x2 h2 => ⟨ρ2, M2, x, y, fun _ _ _ => True, r1.ext x2, r2, m2, by
      rcases cmp_bl (o := o) (x := x) (y := y) (M := M2) with ⟨k, e1⟩ | e1
      · rw [e1] at h2 ⊢
        intro z ρ3 H3 m3 r3 x3
        rw [relP_bl.mp r3]
        refine ⟨k, rfl, ?_⟩
        cases k with
        | true =>
          rw [if_pos rfl]
          have h2' : Post K (RP K) (WEx K W σ) Q ρ2 H2 ((ec e M2).bind fun z M => cmpV o' y z M) := h2
          exact ⟨ρ3, e, M2, (he.ext x1).ext (x2.trans x3), m3, (h2'.shift x3).bind fun z M3 w ρ4 H4 m4 r4 x4 h4 => ⟨ρ4, M3, y, z, _, r2.ext (x3.trans x4), r4, m4, h4⟩⟩
        | false =>
          rw [if_neg (by decide)]
          exact put_bl m3 (h2.shift x3)
      · rw [e1] at h2
        exact h2.elim⟩⟩⟩
theorem g_chain {o o' : Cop} (ho : OpOk X K (compareOp (cmOf o)) (cmpV o)) (ho' : OpOk X K (compareOp (cmOf o')) (cmpV o')) (ha : PE X a (tEx K W ea)) (hb : PE X b (tEx K W eb)) (hc : PE X c (tEx K W ec)) (hm : lastMarks [cmOf o, cmOf o'] [b, c] = false) :
    PE X (.Compare a [cmOf o, cmOf o'] [b, c] pos) (tEx K W fun e M => (ea e M).bind fun x M => (eb e M).bind fun y M => (cmpV o x y M).bind fun t M => match t with
      | .bl true => (ec e M).bind fun z M => cmpV o' y z M
      | .bl false => .ok (.bl false) M
      | _ => .bad) :=
  (pe_chain ho ho' ha hb hc hm).imp fun σ H Q z => chain_read z
theorem gt_chain {o o' : Cop} (ho : OpOk X K (compareOp (cmOf o)) (cmpV o)) (ho' : OpOk X K (compareOp (cmOf o')) (cmpV o')) (ha : PE X a (tEx K W ea)) (hb : PE X b (tEx K W eb)) (hc : PE X c (tEx K W ec)) (hm : lastMarks [cmOf o, cmOf o'] [b, c] = false) :
    PT X (.Compare a [cmOf o, cmOf o'] [b, c] pos) (tTx K W (tst fun e M => (ea e M).bind fun x M => (eb e M).bind fun y M => (cmpV o x y M).bind fun t M => match t with
      | .bl true => (ec e M).bind fun z M => cmpV o' y z M
      | .bl false => .ok (.bl false) M
      | _ => .bad)) :=
  (pt_chain ho ho' ha hb hc hm).imp fun σ H Q z => chain_read (bool_read (fun e M => bool_bind fun x M => bool_bind fun y M => bool_bind fun t M => by
    split
    · exact bool_bind fun _ _ => bool_cmp
    · exact bool_ok
    · exact bool_bad) z)
theorem isNon (K : Par) {ρ : List Addr} {H : Hp} {x : PV} {v : V} (r : RelP K ρ H x v) : x.isNon = decide (v = .non) := by
  cases x
  · rw [relP_non] at r; subst r; rfl
  · rw [relP_bl] at r; subst r; rfl
  · rw [relP_int] at r; subst r; rfl
  · rw [relP_str] at r; subst r; rfl
  · rw [relP_tup] at r; obtain ⟨a, vs, rfl, _⟩ := r; rfl
  · rw [relP_ref] at r; obtain ⟨a, rfl, _⟩ := r; rfl
  · rw [relP_fro] at r; obtain ⟨a, rfl, _⟩ := r; rfl
  · rw [relP_ty] at r; subst r; rfl
theorem isN_read {σ : L2.St} {H : Hp} {Q : VK} (h : tEx K W (fun e M => (ea e M).bind fun x M => .ok (.bl x.isNon) M) σ H Q) : tIsN (tEx K W ea) σ H Q := by
  obtain ⟨ρ, e, M, he, hm, hp⟩ := h
  exact ⟨ρ, e, M, he, hm, hp.bind fun x M1 v ρ1 H1 m1 r1 x1 h1 => by
    rw [← isNon K r1]
    exact put_bl m1 h1⟩
theorem notN_read {σ : L2.St} {H : Hp} {Q : VK} (h : tEx K W (fun e M => (ea e M).bind fun x M => .ok (.bl (!x.isNon)) M) σ H Q) : tNotN (tEx K W ea) σ H Q := by
  obtain ⟨ρ, e, M, he, hm, hp⟩ := h
  exact ⟨ρ, e, M, he, hm, hp.bind fun x M1 v ρ1 H1 m1 r1 x1 h1 => by
    rw [← isNon K r1]
    exact put_bl m1 h1⟩
theorem g_isN {j : Nat} {pos' : Pos} (ha : PE X a (tEx K W ea)) : PE X (.Compare a [.Is] [.Constant .none j pos'] pos) (tEx K W fun e M => (ea e M).bind fun x M => .ok (.bl x.isNon) M) :=
  (pe_cmp (pc_isN ha) rfl).imp fun σ H Q z => isN_read z
theorem gt_isN {j : Nat} {pos' : Pos} (ha : PE X a (tEx K W ea)) : PT X (.Compare a [.Is] [.Constant .none j pos'] pos) (tTx K W (tst fun e M => (ea e M).bind fun x M => .ok (.bl x.isNon) M)) :=
  (pt_cmp (pc_isN ha) rfl).imp fun σ H Q z => isN_read (bool_read (fun _ _ => bool_bind fun _ _ => bool_ok) z)
theorem g_notN {j : Nat} {pos' : Pos} (ha : PE X a (tEx K W ea)) : PE X (.Compare a [.IsNot] [.Constant .none j pos'] pos) (tEx K W fun e M => (ea e M).bind fun x M => .ok (.bl (!x.isNon)) M) :=
  (pe_cmp (pc_notN ha) rfl).imp fun σ H Q z => notN_read z
theorem gt_notN {j : Nat} {pos' : Pos} (ha : PE X a (tEx K W ea)) : PT X (.Compare a [.IsNot] [.Constant .none j pos'] pos) (tTx K W (tst fun e M => (ea e M).bind fun x M => .ok (.bl (!x.isNon)) M)) :=
  (pt_cmp (pc_notN ha) rfl).imp fun σ H Q z => notN_read (bool_read (fun _ _ => bool_bind fun _ _ => bool_ok) z)
/-! ### and, or, not, if -/
theorem g_and {x y : Expr} {r : List Expr} (hK : X.K = K.F) (ha : PE X x (tEx K W ea)) (hb : PE X (.BoolOp .And (y :: r) pos) (tEx K W eb)) :
    PE X (.BoolOp .And (x :: y :: r) pos) (tEx K W fun e M => (ea e M).bind fun x M => (truR x M).bind fun c M => match c with
      | true => eb e M
      | false => .ok x M) :=
  (pe_andT ha hb).imp fun σ H Q ⟨ρ, e, M, he, hm, hp⟩ => ⟨ρ, e, M, he, hm, hp.bind fun x M1 v ρ1 H1 m1 r1 x1 h1 => by
    rcases truR_ok (x := x) (M := M1) with ⟨k, e1, e2⟩ | e2
    · rw [e2] at h1
      refine ⟨k, tru_some hK m1 r1 e1, ?_⟩
      cases k with
      | true => rw [if_pos rfl]; exact ⟨ρ1, e, M1, he.ext x1, m1, h1⟩
      | false => rw [if_neg (by decide)]; exact put_ok m1 r1 h1
    · rw [e2] at h1
      exact h1.elim⟩
theorem g_or {x y : Expr} {r : List Expr} (hK : X.K = K.F) (ha : PE X x (tEx K W ea)) (hb : PE X (.BoolOp .Or (y :: r) pos) (tEx K W eb)) :
    PE X (.BoolOp .Or (x :: y :: r) pos) (tEx K W fun e M => (ea e M).bind fun x M => (truR x M).bind fun c M => match c with
      | true => .ok x M
      | false => eb e M) :=
  (pe_orT ha hb).imp fun σ H Q ⟨ρ, e, M, he, hm, hp⟩ => ⟨ρ, e, M, he, hm, hp.bind fun x M1 v ρ1 H1 m1 r1 x1 h1 => by
    rcases truR_ok (x := x) (M := M1) with ⟨k, e1, e2⟩ | e2
    · rw [e2] at h1
      refine ⟨k, tru_some hK m1 r1 e1, ?_⟩
      cases k with
      | true => rw [if_pos rfl]; exact put_ok m1 r1 h1
      | false => rw [if_neg (by decide)]; exact ⟨ρ1, e, M1, he.ext x1, m1, h1⟩
    · rw [e2] at h1
      exact h1.elim⟩
theorem g_not (hK : X.K = K.F) (ha : PE X a (tEx K W ea)) : PE X (.UnaryOp .Not a pos) (tEx K W fun e M => (ea e M).bind fun x M => (truR x M).bind fun c M => .ok (.bl (!c)) M) :=
  (pe_notT ha).imp fun σ H Q ⟨ρ, e, M, he, hm, hp⟩ => ⟨ρ, e, M, he, hm, hp.bind fun x M1 v ρ1 H1 m1 r1 x1 h1 => by
    rcases truR_ok (x := x) (M := M1) with ⟨k, e1, e2⟩ | e2
    · rw [e2] at h1
      exact ⟨k, tru_some hK m1 r1 e1, put_bl m1 h1⟩
    · rw [e2] at h1
      exact h1.elim⟩
theorem gt_plain (hK : X.K = K.F) (ha : PE X a (tEx K W ea)) (he : ∀ whole, isTrue a X.env whole = (do let v ← whole; standAt a.pos; holding [v] (truthy v))) : PT X a (tTx K W (tst ea)) :=
  (pt_truth ha he).imp fun σ H Q ⟨ρ, e, M, he, hm, hp⟩ => ⟨ρ, e, M, he, hm, Post.bind (R := RP K) (show Post K REq (WEx K W σ) Q ρ H ((ea e M).bind fun x M => truR x M) from hp) fun x M1 v ρ1 H1 m1 r1 x1 h1 => by
    rcases truR_ok (x := x) (M := M1) with ⟨k, e1, e2⟩ | e2
    · rw [e2] at h1
      exact ⟨k, tru_some hK m1 r1 e1, h1 k ρ1 H1 m1 rfl .refl⟩
    · rw [e2] at h1
      exact h1.elim⟩
theorem tst_and (e : PEnv) (M : Store) : tst (fun e M => (ea e M).bind fun x M => (truR x M).bind fun c M => match c with
      | true => eb e M
      | false => .ok x M) e M = (tst ea e M).bind fun c M => match c with
      | true => tst eb e M
      | false => .ok false M := by
  unfold tst
  rw [Res.bind_assoc, Res.bind_assoc]
  congr 1
  funext x M1
  rcases truR_ok (x := x) (M := M1) with ⟨k, e1, e2⟩ | e2
  · rw [e2]
    cases k with
    | true => rfl
    | false => show truR x M1 = _; rw [e2]; rfl
  · rw [e2]; rfl
theorem tst_or (e : PEnv) (M : Store) : tst (fun e M => (ea e M).bind fun x M => (truR x M).bind fun c M => match c with
      | true => .ok x M
      | false => eb e M) e M = (tst ea e M).bind fun c M => match c with
      | true => .ok true M
      | false => tst eb e M := by
  unfold tst
  rw [Res.bind_assoc, Res.bind_assoc]
  congr 1
  funext x M1
  rcases truR_ok (x := x) (M := M1) with ⟨k, e1, e2⟩ | e2
  · rw [e2]
    cases k with
    | true => show truR x M1 = _; rw [e2]; rfl
    | false => rfl
  · rw [e2]; rfl
theorem tst_not (e : PEnv) (M : Store) : tst (fun e M => (ea e M).bind fun x M => (truR x M).bind fun c M => .ok (.bl (!c)) M) e M = (tst ea e M).bind fun c M => .ok (!c) M := by
  unfold tst
  rw [Res.bind_assoc, Res.bind_assoc]
  congr 1
  funext x M1
  rcases truR_ok (x := x) (M := M1) with ⟨k, e1, e2⟩ | e2
  · rw [e2]; rfl
  · rw [e2]; rfl
theorem gw_and {x y : Expr} {r : List Expr} {eb : PEnv → Store → Res PV} (ha : PT X x (tTx K W (tst ea))) (hb : PW X (.BoolOp .And (y :: r) pos) (tTx K W (tst eb))) :
    PW X (.BoolOp .And (x :: y :: r) pos) (tTx K W (tst fun e M => (ea e M).bind fun x M => (truR x M).bind fun c M => match c with
      | true => eb e M
      | false => .ok x M)) :=
  (pw_and ha hb).imp fun σ H Q ⟨ρ, e, M, he, hm, hp⟩ => by
    rw [tst_and] at hp
    refine ⟨ρ, e, M, he, hm, hp.bind fun k M1 v ρ1 H1 m1 r1 x1 h1 => ?_⟩
    have r1 : k = v := r1
    subst r1
    cases k with
    | true => rw [if_pos rfl]; exact ⟨ρ1, e, M1, he.ext x1, m1, h1⟩
    | false => rw [if_neg (by decide)]; exact h1 false ρ1 H1 m1 rfl .refl
theorem gw_or {x y : Expr} {r : List Expr} {eb : PEnv → Store → Res PV} (ha : PT X x (tTx K W (tst ea))) (hb : PW X (.BoolOp .Or (y :: r) pos) (tTx K W (tst eb))) :
    PW X (.BoolOp .Or (x :: y :: r) pos) (tTx K W (tst fun e M => (ea e M).bind fun x M => (truR x M).bind fun c M => match c with
      | true => .ok x M
      | false => eb e M)) :=
  (pw_or ha hb).imp fun σ H Q ⟨ρ, e, M, he, hm, hp⟩ => by
    rw [tst_or] at hp
    refine ⟨ρ, e, M, he, hm, hp.bind fun k M1 v ρ1 H1 m1 r1 x1 h1 => ?_⟩
    have r1 : k = v := r1
    subst r1
    cases k with
    | true => rw [if_pos rfl]; exact h1 true ρ1 H1 m1 rfl .refl
    | false => rw [if_neg (by decide)]; exact ⟨ρ1, e, M1, he.ext x1, m1, h1⟩
theorem gt_not (ha : PT X a (tTx K W (tst ea))) : PT X (.UnaryOp .Not a pos) (tTx K W (tst fun e M => (ea e M).bind fun x M => (truR x M).bind fun c M => .ok (.bl (!c)) M)) :=
  (pt_not ha).imp fun σ H Q ⟨ρ, e, M, he, hm, hp⟩ => by
    rw [tst_not] at hp
    refine ⟨ρ, e, M, he, hm, hp.bind fun k M1 v ρ1 H1 m1 r1 x1 h1 => ?_⟩
    have r1 : k = v := r1
    subst r1
    exact h1 _ ρ1 H1 m1 rfl .refl
theorem g_ite (hc : PT X c (tTx K W (tst ec))) (ha : PE X a (tEx K W ea)) (hb : PE X b (tEx K W eb)) : PE X (.IfExp c a b pos) (tEx K W fun e M => (ec e M).bind fun x M => (truR x M).bind fun t M => match t with
    | true => ea e M
    | false => eb e M) :=
  (pe_ifExp hc ha hb).imp fun σ H Q ⟨ρ, e, M, he, hm, hp⟩ => by
    dsimp only at hp
    rw [← Res.bind_assoc] at hp
    refine ⟨ρ, e, M, he, hm, Post.bind (R := REq) hp fun k M1 v ρ1 H1 m1 r1 x1 h1 => ?_⟩
    have r1 : k = v := r1
    subst r1
    cases k with
    | true => rw [if_pos rfl]; exact ⟨ρ1, e, M1, he.ext x1, m1, h1⟩
    | false => rw [if_neg (by decide)]; exact ⟨ρ1, e, M1, he.ext x1, m1, h1⟩
theorem g_neg (ha : PE X a (tEx K W ea)) : PE X (.UnaryOp .USub a pos) (tEx K W fun e M => (ea e M).bind fun x M => match x with
    | .int i => .ok (.int (-i)) M
    | _ => .bad) :=
  (pe_un un_neg ha).imp fun σ H Q ⟨ρ, e, M, he, hm, hp⟩ => ⟨ρ, e, M, he, hm, hp.bind fun x M1 v ρ1 H1 m1 r1 x1 h1 => by
    cases x with
    | int i =>
      exact ⟨i, relP_int.mp r1, put_int m1 h1⟩
    | _ => exact h1.elim⟩
/-! ### arguments, displays, calls -/
theorem g_anil : PA X [] (tAx K W fun _ M => .ok [] M) :=
  pa_nil.imp fun σ H Q ⟨ρ, e, M, he, hm, hp⟩ => hp [] ρ H hm .nil .refl
theorem g_acons {es : List Expr} {er : PEnv → Store → Res (List PV)} (ha : PE X a (tEx K W ea)) (hr : PA X es (tAx K W er)) (hs : starEach (a :: es) X.env = (false, eval a X.env) :: starEach es X.env) :
    PA X (a :: es) (tAx K W fun e M => (ea e M).bind fun x M => (er e M).bind fun xs M => .ok (x :: xs) M) :=
  (pa_cons ha hr hs).imp fun σ H Q ⟨ρ, e, M, he, hm, hp⟩ => ⟨ρ, e, M, he, hm, hp.bind fun x M1 v ρ1 H1 m1 r1 x1 h1 =>
    ⟨ρ1, e, M1, he.ext x1, m1, h1.bind fun xs M2 us ρ2 H2 m2 r2 x2 h2 => h2 (v :: us) ρ2 H2 m2 (.mk (r1.ext x2) r2) .refl⟩⟩
theorem g_tup {es : List Expr} {k : Nat} {er : PEnv → Store → Res (List PV)} (hr : PA X es (tAx K W er)) : PE X (.Tuple es k pos) (tEx K W fun e M => (er e M).bind fun xs M => if xs.length ≤ sizeLine then .ok (.tup xs) M else .bad) :=
  (pe_tup hr).imp fun σ H Q ⟨ρ, e, M, he, hm, hp⟩ => ⟨ρ, e, M, he, hm, hp.bind fun xs M1 vs ρ1 H1 m1 r1 x1 h1 => by
    split at h1
    · rename_i hz
      exact ⟨by rw [← r1.length]; exact hz, fun p hp => put_tup m1 r1 hp h1⟩
    · exact h1.elim⟩
theorem g_lst {es : List Expr} {er : PEnv → Store → Res (List PV)} (hr : PA X es (tAx K W er)) : PE X (.List es pos) (tEx K W fun e M => (er e M).bind fun xs M => if xs.length ≤ sizeLine then .ok (.ref M.length) (M ++ [.lst xs]) else .bad) :=
  (pe_lst hr).imp fun σ H Q ⟨ρ, e, M, he, hm, hp⟩ => ⟨ρ, e, M, he, hm, hp.bind fun xs M1 vs ρ1 H1 m1 r1 x1 h1 => by
    split at h1
    · rename_i hz
      exact ⟨by rw [← r1.length]; exact hz, fun p hp => put_lst m1 r1 hp h1⟩
    · exact h1.elim⟩
theorem g_call {f : Nat} {x : Str} {p : Pos} {i : FI} {es : List Expr} {er : PEnv → Store → Res (List PV)} (xo : XOk K n pr cl W N sc fnf X) (hf : pr.fns f = some i) (hx : i.name = x) (hg : Gl X x) (ha : PA X (a :: es) (tAx K W er)) (hdb : (x == ("__debug__" : Str)) = false)
    (he : starEach (a :: es) X.env = (false, eval a X.env) :: starEach es X.env) (hpl : (backTo pos (starEach es X.env)).any (·.1) = false) :
    PE X (.Call (.Name x p) (a :: es) [] pos) (tEx K W fun e M => (er e M).bind fun xs M => cl f xs M) := by
  obtain ⟨ad, fd, h1, h2, h3, h4, _⟩ := xo.pr.fn f i hf
  subst hx
  rw [← xo.K] at h2 h3 h4
  exact (pe_callSD (E := WE W) (dvs := []) (ds := []) h4 xo.room hg h1 h2 h3 .nil (fun σ => passAt xo.tk σ) ha hdb he hpl).imp fun σ H Q ⟨ρ, e, M, he, hm, hp⟩ => ⟨ρ, e, M, he, hm, hp.bind fun xs M1 vs ρ1 H1 m1 r1 x1 h1 =>
    ⟨ρ1, M1, xs, by rw [List.append_nil]; exact r1, m1, h1⟩⟩
theorem g_bi {b : BI} {id : String} {x : Str} {p : Pos} {es : List Expr} {er : PEnv → Store → Res (List PV)} (hv : biVal b = .builtin id) (xo : XOk K n pr cl W N sc fnf X) (hg : Gl X x) (hm : X.mg x = none) (hb : bootBuiltins x = some (.builtin id)) (ha : PA X (a :: es) (tAx K W er))
    (hn : x ≠ "__name__") (hdb : (x == ("__debug__" : Str)) = false) (he : starEach (a :: es) X.env = (false, eval a X.env) :: starEach es X.env) (hpl : (backTo pos (starEach es X.env)).any (·.1) = false) :
    PE X (.Call (.Name x p) (a :: es) [] pos) (tEx K W fun e M => (er e M).bind fun xs M => biV b xs M) := by
  have hc := ok_bi (X := X) (K := K) xo.K xo.calm b
  rw [hv] at hc
  exact (pe_callB hc hg hm hb ha hn hdb he hpl).imp fun σ H Q ⟨ρ, e, M, he, hm, hp⟩ => ⟨ρ, e, M, he, hm, hp.bind fun xs M1 vs ρ1 H1 m1 r1 x1 h1 => ⟨ρ1, M1, xs, _, r1, m1, h1⟩⟩
theorem g_biT {b : BI} {T : String} {x : Str} {p : Pos} {es : List Expr} {er : PEnv → Store → Res (List PV)} (hv : biVal b = .type T) (xo : XOk K n pr cl W N sc fnf X) (hg : Gl X x) (hm : X.mg x = none) (hb : bootBuiltins x = some (.type T)) (ha : PA X (a :: es) (tAx K W er))
    (hn : x ≠ "__name__") (hdb : (x == ("__debug__" : Str)) = false) (he : starEach (a :: es) X.env = (false, eval a X.env) :: starEach es X.env) (hpl : (backTo pos (starEach es X.env)).any (·.1) = false) :
    PE X (.Call (.Name x p) (a :: es) [] pos) (tEx K W fun e M => (er e M).bind fun xs M => biV b xs M) := by
  have hc := ok_bi (X := X) (K := K) xo.K xo.calm b
  rw [hv] at hc
  exact (pe_callTy hc hg hm hb ha hn hdb he hpl).imp fun σ H Q ⟨ρ, e, M, he, hm, hp⟩ => ⟨ρ, e, M, he, hm, hp.bind fun xs M1 vs ρ1 H1 m1 r1 x1 h1 => ⟨ρ1, M1, xs, _, r1, m1, h1⟩⟩
theorem g_sset {p p2 pos2 : Pos} (xo : XOk K n pr cl W N sc fnf X) (hg : Gl X "sorted") (hm : X.mg "sorted" = none) (hg2 : Gl X "set") (hm2 : X.mg "set" = none) (ha : PE X a (tEx K W ea)) (hs : starEach [a] X.env = [(false, eval a X.env)]) :
    PE X (.Call (.Name "sorted" p) [.Call (.Name "set" p2) [a] [] pos2] [] pos) (tEx K W fun e M => (ea e M).bind fun x M => ssetV x M) := by
  have inner := pe_callTy (p := p2) (pos := pos2) (cr_setI xo.calm) hg2 hm2 PyProof.Rows.boot_set (pa_cons ha pa_nil (by rw [hs]; rfl)) (he := by rw [hs]; rfl)
  have outer := pe_callB (p := p) (pos := pos) (cr_sortedSet xo.calm) hg hm (by decide +kernel) (pa_cons inner pa_nil)
  exact outer.imp fun σ H Q ⟨ρ, e, M, he, hm, hp⟩ => ⟨ρ, e, M, he, hm, Post.bind (R := RP K) hp fun x M1 v ρ1 H1 m1 r1 x1 h1 => by
    unfold ssetV at h1
    split at h1
    · rename_i xs
      split at h1
      · rename_i ns e2
        split at h1
        · rename_i hlt
          obtain ⟨q, vs, rfl, t1, t2⟩ := relP_tup.mp r1
          have ex := intsP_map e2
          subst ex
          have ew := RelPs.ints.mp t2
          subst ew
          have t3 := t1.sq
          rw [← xo.K] at t3
          refine ⟨q, ns, rfl, t3, by omega, fun p0 c0 hp0 hc0 => ⟨p0, _, c0, rfl, upd_same, by omega, fun ns' p' hup hmem hlen hfree => ?_⟩⟩
          have e3 : ns' = sortU ns := up_uniq hup (sortU_up ns) fun n => by rw [hmem, sortU_mem, decide_eq_true_eq]
          rw [e3]
          exact put_lst (m1.grow hp0) (RelPs.ints.mpr rfl) hfree (Post.shift (.fresh0 hp0) h1)
        · exact h1.elim
      · exact h1.elim
    · exact h1.elim⟩
/-! ### subscripts, slices, methods -/
theorem g_ix (hK : X.K = K.F) (hu : X.A.units + 64 < cLine) (ha : PE X a (tEx K W ea)) (hb : PE X b (tEx K W eb)) (hs : PlainIx b) : PE X (.Subscript a b pos) (tEx K W fun e M => (ea e M).bind fun x M => (eb e M).bind fun y M => ixV x y M) :=
  (pe_ix (ok_ix hK hu) ha hb hs).imp fun σ H Q ⟨ρ, e, M, he, hm, hp⟩ => ⟨ρ, e, M, he, hm, hp.bind fun x M1 v ρ1 H1 m1 r1 x1 h1 =>
    ⟨ρ1, e, M1, he.ext x1, m1, h1.bind fun y M2 u ρ2 H2 m2 r2 x2 h2 => ⟨ρ2, M2, x, y, _, r1.ext x2, r2, m2, h2⟩⟩⟩
theorem g_onone : PO X none (tOx K W fun _ M => .ok none M) :=
  po_none.imp fun σ H Q ⟨ρ, e, M, he, hm, hp⟩ => hp none ρ H hm rfl .refl
theorem g_osome (ha : PE X a (tEx K W ea)) : PO X (some a) (tOx K W fun e M => (ea e M).bind fun x M => match x with
    | .int i => .ok (some i) M
    | _ => .bad) :=
  (po_some ha).imp fun σ H Q ⟨ρ, e, M, he, hm, hp⟩ => ⟨ρ, e, M, he, hm, hp.bind fun x M1 v ρ1 H1 m1 r1 x1 h1 => by
    cases x with
    | int i =>
      exact ⟨i, relP_int.mp r1, h1 (some i) ρ1 H1 m1 rfl .refl⟩
    | _ => exact h1.elim⟩
theorem g_sl {lo hi : Option Expr} {p2 : Pos} {el eh : PEnv → Store → Res (Option Int)} (hK : X.K = K.F) (ha : PE X a (tEx K W ea)) (hl : PO X lo (tOx K W el)) (hh : PO X hi (tOx K W eh)) :
    PE X (.Subscript a (.Slice lo hi none p2) pos) (tEx K W fun e M => (ea e M).bind fun x M => (el e M).bind fun l M => (eh e M).bind fun h M => slV x l h M) :=
  (pe_slice (ok_sl hK) ha hl hh).imp fun σ H Q ⟨ρ, e, M, he, hm, hp⟩ => ⟨ρ, e, M, he, hm, hp.bind fun x M1 v ρ1 H1 m1 r1 x1 h1 =>
    ⟨ρ1, e, M1, he.ext x1, m1, h1.bind fun l M2 l' ρ2 H2 m2 r2 x2 h2 => ⟨ρ2, e, M2, (he.ext x1).ext x2, m2, h2.bind fun h M3 h' ρ3 H3 m3 r3 x3 h3 => by
      have e1 : l = l' := r2
      have e2 : h = h' := r3
      subst e1 e2
      exact ⟨ρ3, M3, x, _, r1.ext (x2.trans x3), m3, h3⟩⟩⟩⟩
/-- the receiver of a list's method -/
theorem list_ty {x : PV} {M : Store} {ρ : List Addr} {H : Hp} {v : V} (rm : RelM K ρ H M) (r : RelP K ρ H x v) (h : isLst M x = true) (hK : X.K = K.F) : tyV X.K "list" v H := by
  unfold isLst at h
  split at h
  · split at h
    · rename_i e
      rw [relP_ref] at r
      obtain ⟨a, rfl, ha⟩ := r
      obtain ⟨vs, k1, _⟩ := cell_lst rm ha e
      exact .inl ⟨rfl, _, .of k1⟩
    · cases h
  · cases h
def mtName : Mt → Str
  | .append => "append" | .pop => "pop" | .extend => "extend" | .insert => "insert"
def mtId : Mt → String
  | .append => "list.append" | .pop => "list.pop" | .extend => "list.extend" | .insert => "list.insert"
theorem ok_mt (m : Mt) : MtR X (mtId m) (rM K (mtV m)) := by
  cases m
  · exact ok_append
  · exact ok_pop
  · exact ok_extend
  · exact ok_insert
theorem mt_slot (m : Mt) : Slot "list" (mtName m) (mtId m) ∧ typeOf (.builtin (mtId m)) = pure (.type "method_descriptor") := by
  cases m
  · exact ⟨PySem.F.slot_list_append, PySem.F.type_list_append⟩
  · exact ⟨PySem.F.slot_list_pop, PySem.F.type_list_pop⟩
  · exact ⟨PySem.F.slot_list_extend, PySem.F.type_list_extend⟩
  · exact ⟨PySem.F.slot_list_insert, PySem.F.type_list_insert⟩
theorem g_mt0 {m : Mt} {apos : Pos} (hK : X.K = K.F) (ha : PE X a (tEx K W ea)) (hbase : attributeBase a (mtName m) X.env (eval a X.env) = eval a X.env) (hline : (apos.endLine == pos.line) = true) :
    PE X (.Call (.Attribute a (mtName m) apos) [] [] pos) (tEx K W fun e M => (ea e M).bind fun x M => if isLst M x then mtV m x [] M else .bad) :=
  (pe_bm0 PySem.F.plainAttrs_list (mt_slot m).1 (mt_slot m).2 (ok_mt (K := K) m) ha hbase hline).imp fun σ H Q ⟨ρ, e, M, he, hm, hp⟩ => ⟨ρ, e, M, he, hm, hp.bind fun x M1 v ρ1 H1 m1 r1 x1 h1 => by
    split at h1
    · rename_i hl
      exact ⟨list_ty m1 r1 hl hK, ρ1, M1, x, [], _, r1, .nil, m1, h1⟩
    · exact h1.elim⟩
theorem g_mt {m : Mt} {apos : Pos} {e0 : Expr} {es : List Expr} {er : PEnv → Store → Res (List PV)} (hK : X.K = K.F) (ha : PE X a (tEx K W ea)) (hr : PA X (e0 :: es) (tAx K W er)) (hbase : attributeBase a (mtName m) X.env (eval a X.env) = eval a X.env)
    (hfew : ((backTo pos (starEach (e0 :: es) X.env)).all (fun x => !x.1) && (backToKw pos (keywordEach [] X.env)).all (fun x => x.1.isSome)
      && decide ((e0 :: es).length + ([] : List Keyword).length + (if ([] : List Keyword).isEmpty then 0 else 1) < 30)) = true) (hline : (apos.endLine == pos.line) = true) (hst : starEach (e0 :: es) X.env = (false, eval e0 X.env) :: starEach es X.env) (hpl : (backTo pos (starEach es X.env)).any (·.1) = false) :
    PE X (.Call (.Attribute a (mtName m) apos) (e0 :: es) [] pos) (tEx K W fun e M => (ea e M).bind fun x M => if isLst M x then (er e M).bind fun xs M => mtV m x xs M else .bad) :=
  (pe_bm PySem.F.plainAttrs_list (mt_slot m).1 (mt_slot m).2 (ok_mt (K := K) m) ha hr hbase hfew hline hst hpl).imp fun σ H Q ⟨ρ, e, M, he, hm, hp⟩ => ⟨ρ, e, M, he, hm, hp.bind fun x M1 v ρ1 H1 m1 r1 x1 h1 => by
    split at h1
    · rename_i hl
      exact ⟨list_ty m1 r1 hl hK, ρ1, e, M1, he.ext x1, m1, h1.bind fun xs M2 vs ρ2 H2 m2 r2 x2 h2 => ⟨ρ2, M2, x, xs, _, r1.ext x2, r2, m2, h2⟩⟩
    · exact h1.elim⟩
theorem g_bits {apos : Pos} (ha : PE X a (tEx K W ea)) (hbase : attributeBase a "bit_length" X.env (eval a X.env) = eval a X.env) (hline : (apos.endLine == pos.line) = true) : PE X (.Call (.Attribute a "bit_length" apos) [] [] pos) (tEx K W fun e M => (ea e M).bind fun x M => match x with
    | .int i => .ok (.int (Builtin.Int.intBits i : Nat)) M
    | _ => .bad) :=
  (pe_bits ha hbase hline).imp fun σ H Q ⟨ρ, e, M, he, hm, hp⟩ => ⟨ρ, e, M, he, hm, hp.bind fun x M1 v ρ1 H1 m1 r1 x1 h1 => by
    cases x with
    | int i =>
      exact ⟨i, relP_int.mp r1, put_int m1 h1⟩
    | _ => exact h1.elim⟩
/-! ### dicts -/
theorem g_dnew : PE X (.Dict [] [] pos) (tEx K W fun _ M => .ok (.ref M.length) (M ++ [.dK false []])) :=
  pe_dnewK.imp fun σ H Q ⟨ρ, e, M, he, hm, hp⟩ p hf => hp (.ref p) (ρ ++ [p]) _ (hm.new (c := .dK false []) hf ⟨[], rfl, .nil⟩) (relP_ref.mpr ⟨p, rfl, hm.last p⟩) (.fresh1 hf)
theorem isDct_ok {x : PV} {M : Store} {ρ : List Addr} {H : Hp} {v : V} (rm : RelM K ρ H M) (r : RelP K ρ H x v) (h : isDct M x = true) : ∃ a, v = .ref a ∧ IsD H a := by
  unfold isDct at h
  split at h
  · split at h
    · rename_i e
      rw [relP_ref] at r
      obtain ⟨a, rfl, ha⟩ := r
      obtain ⟨vs, k1, _⟩ := cell_dK rm ha e
      exact ⟨a, rfl, .inl ⟨vs, k1⟩⟩
    · cases h
  · cases h
theorem getDV_ok {x y z : PV} {M : Store} {ρ : List Addr} {H : Hp} {a : Addr} {w u : V} {WE : Ex → List Addr → Hp → Prop} {Q : VK} (m : RelM K ρ H M) (r : RelP K ρ H x (.ref a)) (ry : RelP K ρ H y w) (rz : RelP K ρ H z u) (h : Post K (RP K) WE Q ρ H (getDV x y z M)) : ∃ o, DGet H a w o ∧ Q (o.getD u) H := by
  unfold getDV at h
  split at h
  · rw [relP_ref] at r
    obtain ⟨a', e, ha⟩ := r
    cases e
    split at h
    · rename_i e1
      obtain ⟨vs, k1, r1⟩ := cell_dK m ha e1
      split at h
      · rename_i k ek
        have ev := keyP_some ry ek
        subst ev
        refine ⟨_, DGet.kR k1, ?_⟩
        cases hg : getK _ k with
        | some v =>
          rw [hg] at h
          obtain ⟨v', e2, r2⟩ := (getK_ok r1 k).1 v hg
          rw [e2]
          exact put_ok m r2 h
        | none =>
          rw [hg] at h
          have := (getK_ok r1 k).2
          rw [hg] at this
          cases hv : valV vs k with
          | some v => rw [hv] at this; cases this
          | none => exact put_ok m rz h
      · exact h.elim
    · exact h.elim
  · exact h.elim
theorem g_get1 {apos : Pos} (hu : X.A.units + 64 < cLine) (ha : PE X a (tEx K W ea)) (hb : PE X b (tEx K W eb)) (m : M1 X a "get" apos b pos) : PE X (.Call (.Attribute a "get" apos) [b] [] pos) (tEx K W fun e M => (ea e M).bind fun x M => if isDct M x then (eb e M).bind fun y M => getDV x y .non M else .bad) :=
  (pe_dget1 (by omega) ha hb m).imp fun σ H Q ⟨ρ, e, M, he, hm, hp⟩ => ⟨ρ, e, M, he, hm, hp.bind fun x M1 v ρ1 H1 m1 r1 x1 h1 => by
    split at h1
    · rename_i hd
      obtain ⟨ad, rfl, d⟩ := isDct_ok m1 r1 hd
      exact ⟨ad, rfl, d, ρ1, e, M1, he.ext x1, m1, h1.bind fun y M2 u ρ2 H2 m2 r2 x2 h2 => getDV_ok m2 (r1.ext x2) r2 (relP_non.mpr rfl) h2⟩
    · exact h1.elim⟩
theorem g_get2 {apos : Pos} (hu : X.A.units + 64 < cLine) (ha : PE X a (tEx K W ea)) (hb : PE X b (tEx K W eb)) (hc : PE X c (tEx K W ec)) (m : M2 X a "get" apos b c pos) : PE X (.Call (.Attribute a "get" apos) [b, c] [] pos) (tEx K W fun e M => (ea e M).bind fun x M => if isDct M x then (eb e M).bind fun y M => (ec e M).bind fun z M => getDV x y z M else .bad) :=
  (pe_dget2 (by omega) ha hb hc m).imp fun σ H Q ⟨ρ, e, M, he, hm, hp⟩ => ⟨ρ, e, M, he, hm, hp.bind fun x M1 v ρ1 H1 m1 r1 x1 h1 => by
    split at h1
    · rename_i hd
      obtain ⟨ad, rfl, d⟩ := isDct_ok m1 r1 hd
      exact ⟨ad, rfl, d, ρ1, e, M1, he.ext x1, m1, h1.bind fun y M2 u ρ2 H2 m2 r2 x2 h2 => ⟨ρ2, e, M2, (he.ext x1).ext x2, m2, h2.bind fun z M3 w ρ3 H3 m3 r3 x3 h3 => getDV_ok m3 (r1.ext (x2.trans x3)) (r2.ext x3) r3 h3⟩⟩
    · exact h1.elim⟩
end
end Q

/-! QH: targets, what is walked, comprehensions, cells that go. -/
namespace Q
open PySem PySem.Spec PyProof.Rows L2
section
variable {K : Par} {n : Nat} {pr : Pg} {cl : Nat → List PV → Store → Res PV} {W : WX} {N : List Str} {sc : Scope} {fnf : Str → Bool} {X : Cx} {pos : Pos} {a b c : Expr} {ea eb ec : PEnv → Store → Res PV}
variable {ρ ρ' : List Addr} {H H' : Hp} {M : Store} {WE : Ex → List Addr → Hp → Prop} {Q : VK}

/-! ### o[i] = v -/
theorem putP_ok {κ : Type} [DecidableEq κ] {kvs : List (κ × PV)} {vs : List (κ × V)} (r : RelKV K ρ H kvs vs) (k : κ) {x : PV} {v : V} (rv : RelP K ρ H x v) : RelKV K ρ H (putP kvs k x) (putK vs k v) := by
  have hany : (kvs.any fun kv => decide (kv.1 = k)) = vs.any fun kv => decide (kv.1 = k) := by
    unfold RelKV at r
    induction r with
    | nil => rfl
    | @cons p q ps qs h t ih => rw [List.any_cons, List.any_cons, h.1, ih]
  unfold putP putK
  rw [hany]
  split
  · rename_i hz
    unfold RelKV at r ⊢
    clear hany hz
    induction r with
    | nil => exact .nil
    | @cons p q ps qs h t ih =>
      rw [List.map_cons, List.map_cons]
      refine .cons ?_ ih
      by_cases e : p.1 = k
      · rw [if_pos e, if_pos (h.1.symm.trans e)]
        exact ⟨h.1, rv⟩
      · rw [if_neg e, if_neg fun z => e (h.1.trans z)]
        exact h
  · rename_i hz
    unfold RelKV at r ⊢
    clear hany hz
    induction r with
    | nil => exact .cons ⟨rfl, rv⟩ .nil
    | @cons p q ps qs h t ih => exact .cons h ih
def rSetG (K : Par) : TSet := fun o i v H Q => ∃ ρ M x y z WE, RelP K ρ H x o ∧ RelP K ρ H y i ∧ RelP K ρ H z v ∧ RelM K ρ H M ∧ Post K (RP K) WE (fun _ H' => Q H') ρ H (setI x y z M)
theorem set_ok (hu : X.A.units + 64 < cLine) : PSet X (rSetG K) := by
  intro pins s σ H o i v ov iv u Q I ro ri rv ⟨ρ, M, x, y, z, WE, rx, ry, rz, m, h⟩
  unfold setI at h
  split at h
  · rw [relP_ref] at rx
    obtain ⟨a, rfl, ha⟩ := rx
    split at h
    · rename_i e1
      obtain ⟨vs, k1, r1⟩ := cell_lst m ha e1
      split at h
      · rw [relP_int] at ry
        subst ry
        split at h
        · rename_i j e2
          refine set_list pins s σ H _ _ _ ov iv u Q I ro ri rv ⟨a, vs, _, j, rfl, rfl, k1, by rw [← r1.length]; exact e2, ?_⟩
          exact put_set (Q := fun _ H' => Q H') (pv := .non) (v := .non) m ha e1 (.l (r1.set j rz)) (relP_non.mpr rfl) h
        · exact h.elim
      · exact h.elim
    · rename_i e1
      obtain ⟨vs, k1, r1⟩ := cell_dKf m ha e1
      split at h
      · rename_i k ek
        have ev := keyP_some ry ek
        subst ev
        split at h
        · rename_i hz
          cases ro
          have hl : _ = _ := Paired.length r1
          refine d_setItem (by omega) I (DPut.k (k := k) (v := v) k1 (by rw [← hl]; exact hz)) ri rv fun s' I' => ⟨_, I', ?_⟩
          exact put_setC (Q := fun _ H' => Q H') (pv := .non) (v := .non) (c' := .dK false (putP _ k z)) m ha e1 rfl ⟨_, rfl, putP_ok r1 k rz⟩ (relP_non.mpr rfl) h
        · exact h.elim
      · exact h.elim
    · exact h.elim
  · exact h.elim
/-! ### targets -/
/-- the slots behind a target: those of the environment, the others as they were -/
def RG (K : Par) (σ0 : L2.St) (sl : List Nat) : List Addr → Hp → PEnv → L2.St → Prop := fun ρ H e σ => RelE K ρ H e σ ∧ σ.length = σ0.length ∧ ∀ j, j ∉ sl → σ[j]? = σ0[j]?
def tTgt (K : Par) (W : WX) (sl : List Nat) (ev : PV → PEnv → Store → Res PEnv) : TG := fun v σ H Q => ∃ ρ e M x, RelE K ρ H e σ ∧ RelM K ρ H M ∧ RelP K ρ H x v ∧ Post K (RG K σ sl) (WEx K W σ) Q ρ H (ev x e M)
def tTgts (K : Par) (W : WX) (sl : List Nat) (ev : List PV → PEnv → Store → Res PEnv) : TGs := fun vs σ H Q => ∃ ρ e M xs, RelE K ρ H e σ ∧ RelM K ρ H M ∧ RelPs K ρ H xs vs ∧ Post K (RG K σ sl) (WEx K W σ) Q ρ H (ev xs e M)
theorem _root_.L2.PG.or {t t' : TG} (h : PG X a t) (h' : PG X a t') : PG X a (fun v σ H Q => t v σ H Q ∨ t' v σ H Q) := ⟨fun pins s σ H v u Q I r hq => by
  rcases hq with hq | hq
  · exact h.run pins s σ H v u Q I r hq
  · exact h'.run pins s σ H v u Q I r hq⟩
theorem t_var {i : Nat} {x : Str} (hN : X.N.Nodup) (hi : X.N[i]? = some x) (hx : Loc X.env.scope x) (hf : X.fn x = true ∨ X.env.scope.names.lookup x = some .local) : PG X (.Name x pos) (tTgt K W [i] fun v e M => .ok (setV e i v) M) :=
  (pg_name hN hi hx hf).imp fun v σ H Q ⟨ρ, e, M, x, he, hm, hx, hp⟩ => hp (σ.set i (some v)) ρ H hm ⟨he.set hx i, List.length_set, fun j hj => by
    have : j ≠ i := fun z => hj (by simp [z])
    rw [List.getElem?_set_ne (Ne.symm this)]⟩ .refl
theorem t_nil : PGs X [] (tTgts K W [] fun vs e M => match vs with | [] => .ok e M | _ => .bad) :=
  pgs_nil.imp fun vs σ H Q ⟨ρ, e, M, xs, he, hm, hx, hp⟩ => by
    cases xs with
    | nil => exact ⟨relPs_nil.mp hx, hp σ ρ H hm ⟨he, rfl, fun _ _ => rfl⟩ .refl⟩
    | cons _ _ => exact hp.elim
theorem t_cons {es : List Expr} {s1 s2 : List Nat} {et : PV → PEnv → Store → Res PEnv} {er : List PV → PEnv → Store → Res PEnv} (ht : PG X a (tTgt K W s1 et)) (hr : PGs X es (tTgts K W s2 er)) (hs : (assignEach (a :: es) X.env).map (·.2) = assign a X.env :: (assignEach es X.env).map (·.2)) :
    PGs X (a :: es) (tTgts K W (s1 ++ s2) fun vs e M => match vs with
      | v :: vs => (et v e M).noexc.bind fun e M => (er vs e M).noexc
      | [] => .bad) :=
  (pgs_cons ht hr hs).imp fun vs σ H Q ⟨ρ, e, M, xs, he, hm, hx, hp⟩ => by
    cases xs with
    | nil => exact hp.elim
    | cons x xs =>
      obtain ⟨v, r, rfl, h1, h2⟩ := relPs_cons.mp hx
      refine ⟨v, r, rfl, ρ, e, M, x, he, hm, h1, ?_⟩
      have hp' : Post K (RG K σ (s1 ++ s2)) (WEx K W σ) Q ρ H ((et x e M).noexc.bind fun e M => (er xs e M).noexc) := hp
      cases h5 : et x e M with
      | exc y M2 => rw [h5] at hp'; exact hp'.elim
      | bad => rw [h5] at hp'; exact hp'.elim
      | ok e1 M1 =>
        rw [h5] at hp'
        intro σ1 ρ1 H1 m1 r1 x1
        have h3 : Post K (RG K σ (s1 ++ s2)) (WEx K W σ) Q ρ1 H1 (er xs e1 M1).noexc := hp'.shift x1
        refine ⟨ρ1, e1, M1, xs, r1.1, m1, h2.ext x1, ?_⟩
        cases h4 : er xs e1 M1 with
        | ok e2 M2 =>
          rw [h4] at h3
          exact fun σ2 ρ2 H2 m2 r2 x2 => h3 σ2 ρ2 H2 m2 ⟨r2.1, r2.2.1.trans r1.2.1, fun j hj => (r2.2.2 j fun z => hj (List.mem_append_right _ z)).trans (r1.2.2 j fun z => hj (List.mem_append_left _ z))⟩ x2
        | exc y M2 => rw [h4] at h3; exact h3.elim
        | bad => rw [h4] at h3; exact h3
theorem t_tup {es : List Expr} {k : Nat} {sl : List Nat} {er : List PV → PEnv → Store → Res PEnv} (hc : X.calm = true) (hK : X.K = K.F) (hr : PGs X es (tTgts K W sl er)) (hn : (assignEach es X.env).length = es.length) (hst : (assignEach es X.env).findIdx? (·.1) = none)
    (hl : ∀ xs e M, xs.length ≠ es.length → er xs e M = .bad) : PG X (.Tuple es k pos) (tTgt K W sl fun v e M => match v with
      | .tup xs => er xs e M
      | .ref n => match M[n]? with
        | some (.lst xs) => er xs e M
        | _ => .bad
      | _ => .bad) :=
  ((pg_tup hc hr hn hst).or (pg_lst hc hr hn hst)).imp fun v σ H Q ⟨ρ, e, M, x, he, hm, hx, hp⟩ => by
    have len : ∀ xs, Post K (RG K σ sl) (WEx K W σ) Q ρ H (er xs e M) → xs.length = es.length := fun xs h => by
      by_cases z : xs.length = es.length
      · exact z
      · rw [hl xs e M z] at h
        exact h.elim
    dsimp only at hp
    split at hp
    · rw [relP_tup] at hx
      obtain ⟨ad, vs, rfl, ha, rs⟩ := hx
      exact .inl ⟨ad, vs, rfl, by rw [hK]; exact ha.sq, by rw [← rs.length]; exact len _ hp, ρ, e, M, _, he, hm, rs, hp⟩
    · rw [relP_ref] at hx
      obtain ⟨ad, rfl, ha⟩ := hx
      split at hp
      · rename_i e1
        obtain ⟨vs, k1, r1⟩ := cell_lst hm ha e1
        exact .inr ⟨ad, vs, rfl, .of k1, by rw [← r1.length]; exact len _ hp, ρ, e, M, _, he, hm, r1, hp⟩
      · exact hp.elim
    · exact hp.elim
theorem t_sub (hu : X.A.units + 64 < cLine) (ha : PE X a (tEx K W ea)) (hb : PE X b (tEx K W eb)) (hsub : ∀ t, PSet X t → PG X (.Subscript a b pos) (gSub (tEx K W ea) (tEx K W eb) t)) :
    PG X (.Subscript a b pos) (tTgt K W [] fun v e M => (ea e M).bind fun o M => (eb e M).bind fun i M => (setI o i v M).bind fun _ M => .ok e M) :=
  (hsub _ (set_ok (K := K) hu)).imp fun v σ H Q ⟨ρ, e, M, x, he, hm, hx, hp⟩ =>
    ⟨ρ, e, M, he, hm, Post.bind (R := RP K) (show Post K (RG K σ []) (WEx K W σ) Q ρ H ((ea e M).bind fun o M => (eb e M).bind fun i M => (setI o i x M).bind fun _ M => .ok e M) from hp) fun o M1 ov ρ1 H1 m1 r1 x1 h1 =>
      ⟨ρ1, e, M1, he.ext x1, m1, Post.bind (R := RP K) h1 fun i M2 iv ρ2 H2 m2 r2 x2 h2 => ⟨ρ2, M2, o, i, x, WEx K W σ, r1.ext x2, r2, hx.ext (x1.trans x2), m2,
        Post.bind (R := RP K) h2 fun y M3 _ ρ3 H3 m3 r3 x3 h3 => h3 σ ρ3 H3 m3 ⟨he.ext (x1.trans (x2.trans x3)), rfl, fun _ _ => rfl⟩ .refl⟩⟩⟩
/-! ### what is walked -/
def SrcJ (K : Par) (ρ1 : List Addr) (H1 : Hp) (s : Src) (J : It) : Prop := ∀ (ρ : List Addr) (H : Hp) (M : Store), Ext ρ1 H1 ρ H → RelM K ρ H M → s.still M = true →
  (∀ (i : Nat) (x : PV), s.items[i]? = some x → J.go i H ∧ ∀ v H', J.yld i H v H' → RelM K ρ H' M ∧ RelP K ρ H' x v ∧ Ext ρ H ρ H') ∧ (∀ i : Nat, s.items.length ≤ i → J.stop i H)
def tIx (K : Par) (W : WX) (ev : PEnv → Store → Res Src) : TI := tR K (SrcJ K) W ev
theorem still_cell {s : Src} {k : Nat} {xs : Cell} (e : s.cell = some (k, xs)) (h : s.still M = true) : M[k]? = some xs := by
  unfold Src.still at h
  rw [e] at h
  dsimp only at h
  split at h
  · rename_i c ec
    rw [ec, Cell.eq_of_beq h]
  · cases h
/-- a list that is read -/
theorem src_list (hK : X.K = K.F) {x : PV} {v : V} {Qi : It → Hp → Prop} (hm : RelM K ρ H M) (hx : RelP K ρ H x v) (hp : Post K (SrcJ K) WE Qi ρ H (listSrc x M)) : ∃ a, v = .ref a ∧ (∃ xs, SqL X.K H a xs) ∧ Qi (Itl X.K a) H := by
  rw [hK]
  unfold listSrc at hp
  split at hp
  · rw [relP_ref] at hx
    obtain ⟨ad, rfl, ha⟩ := hx
    split at hp
    · rename_i xs e1
      obtain ⟨vs, k1, r1⟩ := cell_lst hm ha e1
      refine ⟨ad, rfl, ⟨vs, .of k1⟩, hp _ ρ H hm (fun ρ2 H2 M2 x2 m2 st => ?_) .refl⟩
      have e2 := still_cell (s := ⟨xs, some (_, .lst xs)⟩) rfl st
      obtain ⟨ws, k2, r2⟩ := cell_lst m2 (x2.get ha) e2
      refine ⟨fun i y hy => ?_, fun i hi => ⟨ws, .of k2, by rw [← r2.length]; exact hi⟩⟩
      obtain ⟨w, hw, rw'⟩ := r2.get hy
      refine ⟨⟨ws, w, .of k2, hw⟩, fun v H' hy' => ?_⟩
      obtain ⟨rfl, hv⟩ := hy'
      have := hv ws (.of k2)
      rw [hw] at this
      cases this
      exact ⟨m2, rw', .refl⟩
    · exact hp.elim
  · rename_i ns
    rw [relP_fro] at hx
    obtain ⟨ad, rfl, ha⟩ := hx
    refine ⟨ad, rfl, ⟨_, ha.sq⟩, hp _ ρ H hm (fun ρ2 H2 M2 x2 m2 st => ?_) .refl⟩
    have ha2 := x2.fro ha
    refine ⟨fun i y hy => ?_, fun i hi => ⟨_, ha2.sq, by simpa using hi⟩⟩
    obtain ⟨w, hw, rw'⟩ := RelPs.get (K := K) (ρ := ρ2) (H := H2) (RelPs.ints.mpr rfl) hy
    refine ⟨⟨_, w, ha2.sq, hw⟩, fun v H' hy' => ?_⟩
    obtain ⟨rfl, hv⟩ := hy'
    have := hv _ ha2.sq
    rw [hw] at this
    cases this
    exact ⟨m2, rw', .refl⟩
  · exact hp.elim
theorem i_list {tg : Expr} (hK : X.K = K.F) (ha : PE X a (tEx K W ea)) : PI X tg a (tIx K W fun e M => (ea e M).bind fun x M => listSrc x M) :=
  (pi_list ha).imp fun σ H R ⟨ρ, e, M, he, hm, hp⟩ => ⟨ρ, e, M, he, hm, Post.bind (R := RP K) hp fun x M1 v ρ1 H1 m1 r1 x1 h1 => src_list hK m1 r1 h1⟩
theorem i_tup {tg : Expr} (hK : X.K = K.F) (ha : PE X a (tEx K W ea)) : PI X tg a (tIx K W fun e M => (ea e M).bind fun x M => tupSrc x M) :=
  (pi_tup ha).imp fun σ H R ⟨ρ, e, M, he, hm, hp⟩ => ⟨ρ, e, M, he, hm, Post.bind (R := RP K) hp fun x M1 v ρ1 H1 m1 r1 x1 h1 => by
    rw [hK]
    unfold tupSrc at h1
    split at h1
    · rename_i xs
      have r1' : RelP K ρ1 H1 (.tup xs) v := r1
      rw [relP_tup] at r1'
      obtain ⟨ad, vs, rfl, ha, rs⟩ := r1'
      refine ⟨ad, rfl, ⟨vs, ha.sq⟩, h1 _ ρ1 H1 m1 (fun ρ2 H2 M2 x2 m2 st => ?_) .refl⟩
      have ha2 := (x2.sqT ha).sq
      have rs2 := rs.ext x2
      refine ⟨fun i y hy => ?_, fun i hi => ⟨vs, ha2, by rw [← rs.length]; exact hi⟩⟩
      obtain ⟨w, hw, rw'⟩ := rs2.get hy
      refine ⟨⟨vs, w, ha2, hw⟩, fun v H' hy' => ?_⟩
      obtain ⟨rfl, hv⟩ := hy'
      have := hv vs ha2
      rw [hw] at this
      cases this
      exact ⟨m2, rw', .refl⟩
    · exact h1.elim⟩
theorem rng_src {lo : Int} {k : Nat} : SrcJ K ρ H ⟨rngItems lo k, none⟩ (Itr lo k) := fun ρ2 H2 M2 x2 m2 st => by
  refine ⟨fun i y hy => ?_, fun i hi => ?_⟩
  · have hy' : (rngItems lo k)[i]? = some y := hy
    unfold rngItems at hy'
    rw [List.getElem?_map, Option.map_eq_some_iff] at hy'
    obtain ⟨j, hj, rfl⟩ := hy'
    have hlt := (List.getElem?_eq_some_iff.mp hj).1
    rw [List.length_range] at hlt
    rw [List.getElem?_range hlt] at hj
    cases hj
    refine ⟨hlt, fun v H' hy' => ?_⟩
    obtain ⟨rfl, rfl⟩ := hy'
    exact ⟨m2, relP_int.mpr rfl, .refl⟩
  · have hi' : (rngItems lo k).length ≤ i := hi
    unfold rngItems at hi'
    rw [List.length_map, List.length_range] at hi'
    exact hi'
theorem i_rng1 {tg : Expr} {p : Pos} (hg : Gl X "range") (hm : X.mg "range" = none) (ha : PA X [a] (tCons (tEx K W ea) tNil)) (hs : starEach [a] X.env = [(false, eval a X.env)]) : PI X tg (.Call (.Name "range" p) [a] [] pos) (tIx K W fun e M => (ea e M).bind fun x M => rngSrc (.int 0) x M) :=
  (pi_range1 hg hm ha hs).imp fun σ H R ⟨ρ, e, M, he, hm, hp⟩ => ⟨ρ, e, M, he, hm, Post.bind (R := RP K) hp fun x M1 v ρ1 H1 m1 r1 x1 h1 => by
    unfold rngSrc at h1
    split at h1
    · rename_i i j e1
      cases e1
      have r1' : RelP K ρ1 H1 (.int j) v := r1
      rw [relP_int] at r1'
      subst r1'
      split at h1
      · rename_i hb
        refine ⟨j, rfl, hb.2.2.1, hb.2.2.2, ?_⟩
        have := h1 (Itr 0 (j - 0).toNat) ρ1 H1 m1 rng_src .refl
        rwa [Int.sub_zero] at this
      · exact h1.elim
    · exact h1.elim⟩
theorem i_rng2 {tg : Expr} {p : Pos} (hg : Gl X "range") (hm : X.mg "range" = none) (ha : PA X [a, b] (tCons (tEx K W ea) (tCons (tEx K W eb) tNil))) (hs : starEach [a, b] X.env = [(false, eval a X.env), (false, eval b X.env)]) (hs2 : starEach [b] X.env = [(false, eval b X.env)]) :
    PI X tg (.Call (.Name "range" p) [a, b] [] pos) (tIx K W fun e M => (ea e M).bind fun x M => (eb e M).bind fun y M => rngSrc x y M) :=
  (pi_range2 hg hm ha hs hs2).imp fun σ H R ⟨ρ, e, M, he, hm, hp⟩ => ⟨ρ, e, M, he, hm, Post.bind (R := RP K) hp fun x M1 v ρ1 H1 m1 r1 x1 h1 =>
    ⟨ρ1, e, M1, he.ext x1, m1, Post.bind (R := RP K) h1 fun y M2 u ρ2 H2 m2 r2 x2 h2 => by
      unfold rngSrc at h2
      split at h2
      · rename_i i j
        have r1' : RelP K ρ1 H1 (.int i) v := r1
        have r2' : RelP K ρ2 H2 (.int j) u := r2
        rw [relP_int] at r1' r2'
        subst r1' r2'
        split at h2
        · rename_i hb
          exact ⟨i, j, rfl, ⟨hb.1, hb.2.1, hb.2.2.1, hb.2.2.2⟩, h2 (Itr i (j - i).toNat) ρ2 H2 m2 rng_src .refl⟩
        · exact h2.elim
      · exact h2.elim⟩⟩
theorem enum_get : ∀ (xs : List PV) (k i : Nat) (y : PV), (enumFrom k xs)[i]? = some y → ∃ x, xs[i]? = some x ∧ y = .tup [.int ((k + i : Nat) : Int), x]
  | [], _, _, _, h => by simp [enumFrom] at h
  | x :: xs, k, 0, y, h => by
    simp [enumFrom] at h
    exact ⟨x, rfl, by rw [← h]; rfl⟩
  | x :: xs, k, i + 1, y, h => by
    have h' : (enumFrom (k + 1) xs)[i]? = some y := by simpa [enumFrom] using h
    obtain ⟨z, h1, h2⟩ := enum_get xs (k + 1) i y h'
    refine ⟨z, by simpa using h1, ?_⟩
    rw [h2, show k + 1 + i = k + (i + 1) by omega]
theorem enum_len : ∀ (xs : List PV) (k : Nat), (enumFrom k xs).length = xs.length
  | [], _ => rfl
  | x :: xs, k => by simp [enumFrom, enum_len xs (k + 1)]
theorem i_enum {elts : List Expr} {kk : Nat} {tpos p : Pos} (hK : X.K = K.F) (hg : Gl X "enumerate") (hm : X.mg "enumerate" = none) (ha : PA X [a] (tCons (tEx K W ea) tNil)) (hs : starEach [a] X.env = [(false, eval a X.env)]) :
    PI X (.Tuple elts kk tpos) (.Call (.Name "enumerate" p) [a] [] pos) (tIx K W fun e M => (ea e M).bind fun x M => enumSrc x M) :=
  (pi_enum hg hm ha hs).imp fun σ H R ⟨ρ, e, M, he, hm, hp⟩ => ⟨ρ, e, M, he, hm, Post.bind (R := RP K) hp fun x M1 v ρ1 H1 m1 r1 x1 h1 => by
    have h1' : Post K (SrcJ K) (WEx K W σ) R ρ1 H1 ((listSrc x M1).bind fun s M => .ok ⟨enumFrom 0 s.items, s.cell⟩ M) := h1
    obtain ⟨ad, ev, ⟨xs, hsq⟩, q⟩ := src_list (X := X) (Qi := fun J H' => ∀ ad, v = .ref ad → J = Itl X.K ad → R (Ite X.K ad) H') hK m1 r1 (Post.bind h1' fun s M2 J ρ2 H2 m2 r2 x2 h2 => fun ad _ eJ => by
      refine h2 (Ite X.K ad) ρ2 H2 m2 (fun ρ3 H3 M3 x3 m3 st => ?_) .refl
      have st' : s.still M3 = true := st
      obtain ⟨g1, g2⟩ := r2 ρ3 H3 M3 x3 m3 st'
      rw [eJ] at g1 g2
      refine ⟨fun i y hy => ?_, fun i hi => g2 i (by have := enum_len s.items 0; rw [← this]; exact hi)⟩
      obtain ⟨z, hz, rfl⟩ := enum_get s.items 0 i y hy
      obtain ⟨⟨xs, w, k1, k2⟩, k3⟩ := g1 i z hz
      refine ⟨⟨xs, w, k1, k2⟩, fun v H' hy' => ?_⟩
      obtain ⟨T, u, rfl, hT, rfl, hu⟩ := hy'
      obtain ⟨_, ru, _⟩ := k3 u H3 ⟨rfl, hu⟩
      have gx : Ext ρ3 H3 ρ3 (upd H3 T (.tup [.int (i : Nat), u])) := .fresh0 hT
      exact ⟨m3.grow hT, relP_tup.mpr ⟨T, _, rfl, .inl upd_same, .mk (relP_int.mpr (by rw [Nat.zero_add])) (.mk (ru.ext gx) .nil)⟩, gx⟩)
    subst ev
    exact ⟨ad, xs, rfl, hsq, q ad rfl rfl⟩⟩
/-! ### a dict that is walked: locked -/
def itOf (kd : DKind) (d : Addr) (o : Obj) (kvs : List (Key × V)) : It := match kd with
  | .keys => Itk d o kvs
  | .vals => Itd d o kvs
  | .items => Iti d o kvs
theorem key_rel {k : Key} : RelP K ρ H (keyPV k) (kV k) := by
  cases k with
  | inl i => exact relP_int.mpr rfl
  | inr x => exact relP_str.mpr rfl
theorem kv_at {κ : Type} {l : List (κ × PV)} {r : List (κ × V)} (h : RelKV K ρ H l r) {i : Nat} {p : κ × PV} (hp : l[i]? = some p) : ∃ v, r[i]? = some (p.1, v) ∧ RelP K ρ H p.2 v := by
  unfold RelKV at h
  induction h generalizing i with
  | nil => simp at hp
  | @cons a b as bs h t ih =>
    cases i with
    | zero =>
      simp at hp
      subst hp
      exact ⟨b.2, by rw [h.1]; rfl, h.2⟩
    | succ i => simpa using ih (i := i) (by simpa using hp)
theorem kv_rev {κ : Type} {l : List (κ × PV)} {r : List (κ × V)} (h : RelKV K ρ H l r) : l.length = r.length := Paired.length h
theorem src_dict {kd : DKind} {a : Addr} {od : Obj} {kvs : List (Key × PV)} {vs : List (Key × V)} {c : Option (Nat × Cell)} (ha : H a = some (.frz od (.dK vs))) (r : RelKV K ρ H kvs vs) : SrcJ K ρ H ⟨dItems kd kvs, c⟩ (itOf kd a od vs) := fun ρ2 H2 M2 x2 m2 st => by
  have ha2 := x2.frz a od _ ha
  have r2 := r.ext x2
  have hl := kv_rev r2
  cases kd with
  | keys =>
    refine ⟨fun i y hy => ?_, fun i hi => ⟨ha2, by simpa [dItems, hl] using hi⟩⟩
    have hy : (kvs.map fun p => keyPV p.1)[i]? = some y := hy
    rw [List.getElem?_map, Option.map_eq_some_iff] at hy
    obtain ⟨p, hp, rfl⟩ := hy
    obtain ⟨v, hv, rv⟩ := kv_at r2 hp
    refine ⟨⟨ha2, (List.getElem?_eq_some_iff.mp hv).1⟩, fun w H' hy' => ?_⟩
    obtain ⟨rfl, k, v', e, rfl⟩ := hy'
    rw [hv] at e
    cases e
    exact ⟨m2, key_rel, .refl⟩
  | vals =>
    refine ⟨fun i y hy => ?_, fun i hi => ⟨ha2, by simpa [dItems, hl] using hi⟩⟩
    have hy : (kvs.map fun p => p.2)[i]? = some y := hy
    rw [List.getElem?_map, Option.map_eq_some_iff] at hy
    obtain ⟨p, hp, rfl⟩ := hy
    obtain ⟨v, hv, rv⟩ := kv_at r2 hp
    refine ⟨⟨ha2, (List.getElem?_eq_some_iff.mp hv).1⟩, fun w H' hy' => ?_⟩
    obtain ⟨rfl, k, e⟩ := hy'
    rw [hv] at e
    cases e
    exact ⟨m2, rv, .refl⟩
  | items =>
    refine ⟨fun i y hy => ?_, fun i hi => ⟨ha2, by simpa [dItems, hl] using hi⟩⟩
    have hy : (kvs.map fun p => PV.tup [keyPV p.1, p.2])[i]? = some y := hy
    rw [List.getElem?_map, Option.map_eq_some_iff] at hy
    obtain ⟨p, hp, rfl⟩ := hy
    obtain ⟨v, hv, rv⟩ := kv_at r2 hp
    refine ⟨⟨ha2, (List.getElem?_eq_some_iff.mp hv).1⟩, fun w H' hy' => ?_⟩
    obtain ⟨T, k, v', e, rfl, hT, rfl⟩ := hy'
    rw [hv] at e
    cases e
    exact ⟨m2.grow hT, relP_tup.mpr ⟨T, _, rfl, .inl upd_same, .mk key_rel (.mk (rv.ext (.fresh0 hT)) .nil)⟩, .fresh0 hT⟩
def srcD (kd : DKind) (i : Nat) (e : PEnv) (M : Store) : Res Src := match getV e i with
  | some (.ref n) => match M[n]? with
    | some (.dK true kvs) => .ok ⟨dItems kd kvs, some (n, .dK true kvs)⟩ M
    | _ => .bad
  | _ => .bad
theorem cell_dKt {n : Nat} {a : Addr} {kvs : List (Key × PV)} (m : RelM K ρ H M) (hn : ρ[n]? = some a) (h : M[n]? = some (.dK true kvs)) : ∃ od vs, H a = some (.frz od (.dK vs)) ∧ RelKV K ρ H kvs vs := by
  obtain ⟨o, e, vs, ⟨od, hl⟩, r⟩ := m.cell n a _ hn h
  rw [hl] at e
  exact ⟨od, vs, e, r⟩
theorem srcD_read {kd : DKind} {i : Nat} {σ : L2.St} {R : It → Hp → Prop} (h : tIx K W (srcD kd i) σ H R) : ∃ a od vs, σ[i]? = some (some (.ref a)) ∧ H a = some (.frz od (.dK vs)) ∧ R (itOf kd a od vs) H := by
  obtain ⟨ρ, e, M, he, hm, hp⟩ := h
  unfold srcD at hp
  split at hp
  · rename_i n hg
    obtain ⟨v, hv, rv⟩ := he.get hg
    rw [relP_ref] at rv
    obtain ⟨a, rfl, ha⟩ := rv
    split at hp
    · rename_i kvs e1
      obtain ⟨od, vs, k1, r1⟩ := cell_dKt hm ha e1
      exact ⟨a, od, vs, hv, k1, hp _ ρ H hm (src_dict k1 r1) .refl⟩
    · exact hp.elim
  · exact hp.elim
theorem i_keys {tg : Expr} {i : Nat} {x : Str} (hN : X.N[i]? = some x) (hv : Vis X.env.scope x) (hd : (x == ("__debug__" : Str)) = false) (hcd : (x == ("__classdict__" : Str)) = false) : PI X tg (.Name x pos) (tIx K W (srcD .keys i)) :=
  (pi_keys (pe_var hN hv hd hcd)).imp fun σ H R z => by
    obtain ⟨a, od, vs, h1, h2, h3⟩ := srcD_read z
    exact ⟨_, h1, a, od, rfl, .inl ⟨vs, h2, h3⟩⟩
theorem i_vals {tg : Expr} {i : Nat} {x : Str} {p apos : Pos} (hN : X.N[i]? = some x) (hv : Vis X.env.scope x) (hd : (x == ("__debug__" : Str)) = false) (hcd : (x == ("__classdict__" : Str)) = false) (hl : (apos.endLine == pos.line) = true) : PI X tg (.Call (.Attribute (.Name x p) "values" apos) [] [] pos) (tIx K W (srcD .vals i)) :=
  (pi_values (pe_var hN hv hd hcd) rfl hl).imp fun σ H R z => by
    obtain ⟨a, od, vs, h1, h2, h3⟩ := srcD_read z
    exact ⟨_, h1, a, od, vs, rfl, h2, h3⟩
theorem i_items {elts : List Expr} {kk : Nat} {tpos : Pos} {i : Nat} {x : Str} {p apos : Pos} (hN : X.N[i]? = some x) (hv : Vis X.env.scope x) (hd : (x == ("__debug__" : Str)) = false) (hcd : (x == ("__classdict__" : Str)) = false) (hl : (apos.endLine == pos.line) = true) : PI X (.Tuple elts kk tpos) (.Call (.Attribute (.Name x p) "items" apos) [] [] pos) (tIx K W (srcD .items i)) :=
  (pi_items (pe_var hN hv hd hcd) rfl hl).imp fun σ H R z => by
    obtain ⟨a, od, vs, h1, h2, h3⟩ := srcD_read z
    exact ⟨_, h1, a, od, vs, rfl, h2, h3⟩
end
end Q

/-! QI: comprehensions, cells that go, statements, loops. -/
namespace Q
open PySem PySem.Spec PyProof.Rows L2
section
variable {K : Par} {n : Nat} {pr : Pg} {cl : Nat → List PV → Store → Res PV} {W : WX} {N : List Str} {sc : Scope} {fnf : Str → Bool} {X : Cx} {pos : Pos} {a b c : Expr} {ea eb ec : PEnv → Store → Res PV}
variable {ρ ρ' ρ1 : List Addr} {H H' H1 : Hp} {M : Store} {WE : Ex → List Addr → Hp → Prop} {Q : VK}

/-! ### slots wiped -/
theorem wipe_at (σ : L2.St) (j : Nat) : ∀ vs : List Nat, j < σ.length → (L2.wipe σ vs)[j]? = if j ∈ vs then some none else σ[j]?
  | [], h => by simp [L2.wipe]
  | v :: vs, h => by
    unfold L2.wipe
    by_cases e : v = j
    · subst e
      rw [List.getElem?_set_self (by rw [wipe_length]; exact h)]
      simp
    · rw [List.getElem?_set_ne e, wipe_at σ j vs h]
      have : ¬ j = v := fun z => e z.symm
      simp [this]
theorem wipe_agree {σ0 σ : L2.St} {vs sl : List Nat} (hl : σ.length = σ0.length) (h : ∀ j, j ∉ sl → σ[j]? = (L2.wipe σ0 vs)[j]?) (hs : ∀ j ∈ sl, j ∈ vs) : L2.wipe σ vs = L2.wipe σ0 vs := by
  apply List.ext_getElem?
  intro j
  by_cases hj : j < σ.length
  · rw [wipe_at σ j vs hj, wipe_at σ0 j vs (by omega)]
    split
    · rfl
    · rename_i hn
      rw [h j fun z => hn (hs j z), wipe_at σ0 j vs (by omega), if_neg hn]
  · rw [List.getElem?_eq_none (by rw [wipe_length]; omega), List.getElem?_eq_none (by rw [wipe_length]; omega)]
/-- beside the store: a list is made -/
theorem Ext.beside {ρ1 ρ : List Addr} {H1 H : Hp} {D : Addr} {o : HO} (x : Ext ρ1 H1 ρ H) (h : H1 D = none) : Ext ρ1 H1 ρ (L2.upd H D o) :=
  ⟨x.pre, fun a xs e => by rw [upd_ne (ne_of_none e h)]; exact x.tups a xs e, fun a ob xs e => by rw [upd_ne (ne_of_none e h)]; exact x.frz a ob xs e,
   fun a ob e hn => by rw [upd_ne (ne_of_none e h)]; exact x.frame a ob e hn, fun a e => x.dom a (upd_none e)⟩
theorem RelM.notin {D : Addr} (m : RelM K ρ H M) (h : H D = none) : D ∉ ρ := fun hm => by
  obtain ⟨o, e, _⟩ := m.mem hm
  rw [h] at e
  cases e
/-- a change of what no cell holds -/
theorem RelP.beside {D : Addr} {o o' : HO} (hD : H D = some o) (ho : MutO o) : ∀ (p : PV) {v : V}, RelP K ρ H p v → RelP K ρ (L2.upd H D o') p v := fun p v r => by
  have x : Ext ρ (fun b => if b = D then none else H b) ρ (L2.upd H D o') := by
    refine ⟨⟨[], by simp, fun _ z => nomatch z⟩, ?_, ?_, ?_, ?_⟩
    · intro a xs e
      have hne : a ≠ D := fun z => by simp [z] at e
      simp [hne] at e
      rw [upd_ne hne]
      exact e
    · intro a ob xs e
      have hne : a ≠ D := fun z => by simp [z] at e
      simp [hne] at e
      rw [upd_ne hne]
      exact e
    · intro a ob e _
      have hne : a ≠ D := fun z => by simp [z] at e
      simp [hne] at e
      rw [upd_ne hne]
      exact e
    · intro a e
      by_cases hne : a = D
      · simp [hne]
      · rw [upd_ne hne] at e
        simp [hne, e]
  have back : ∀ (p : PV) {v : V}, RelP K ρ H p v → RelP K ρ (fun b => if b = D then none else H b) p v := by
    have key : ∀ {a : Addr} {u : HO}, ¬ MutO u → H a = some u → (if a = D then none else H a) = some u := fun {a u} hn e => by
      have hne : a ≠ D := fun z => by
        rw [z, hD] at e
        cases e
        exact hn ho
      rw [if_neg hne]
      exact e
    have x2 : Ext ρ H ρ (fun b => if b = D then none else H b) → True := fun _ => trivial
    intro p v r
    exact relP_back key p r
  exact RelP.ext x p (back p r)
where
  relP_back {K : Par} {ρ : List Addr} {H H' : Hp} (key : ∀ {a : Addr} {u : HO}, ¬ MutO u → H a = some u → H' a = some u) : ∀ (p : PV) {v : V}, RelP K ρ H p v → RelP K ρ H' p v := by
    have tup : ∀ {a : Addr} {xs : List PV} {vs : List V}, TupAt K H a xs vs → TupAt K H' a xs vs := fun h => by
      rcases h with h | h
      · exact .inl (key (u := .tup _) (fun z => z) h)
      · exact .inr h
    have fro : ∀ {a : Addr} {vs : List V}, Fro K.F H a vs → Fro K.F H' a vs := fun h => by
      rcases h with ⟨o, h⟩ | h
      · exact .inl ⟨o, key (u := .frz o (.lst _)) (fun z => z) h⟩
      · exact .inr h
    exact relP_of tup fro
  relP_of {K : Par} {ρ : List Addr} {H H' : Hp} (tup : ∀ {a : Addr} {xs : List PV} {vs : List V}, TupAt K H a xs vs → TupAt K H' a xs vs) (fro : ∀ {a : Addr} {vs : List V}, Fro K.F H a vs → Fro K.F H' a vs) : ∀ (p : PV) {v : V}, RelP K ρ H p v → RelP K ρ H' p v
    | .non, _, h => by rw [RelP] at h ⊢; exact h
    | .bl _, _, h => by rw [RelP] at h ⊢; exact h
    | .int _, _, h => by rw [RelP] at h ⊢; exact h
    | .str _, _, h => by rw [RelP] at h ⊢; exact h
    | .ty _, _, h => by rw [RelP] at h ⊢; exact h
    | .tup xs, _, h => by
      rw [RelP] at h ⊢
      obtain ⟨a, vs, e, hs, hr⟩ := h
      exact ⟨a, vs, e, tup hs, relPs_of tup fro xs hr⟩
    | .ref n, _, h => by rw [RelP] at h ⊢; exact h
    | .fro ns, _, h => by
      rw [RelP] at h ⊢
      obtain ⟨a, e, hn⟩ := h
      exact ⟨a, e, fro hn⟩
  relPs_of {K : Par} {ρ : List Addr} {H H' : Hp} (tup : ∀ {a : Addr} {xs : List PV} {vs : List V}, TupAt K H a xs vs → TupAt K H' a xs vs) (fro : ∀ {a : Addr} {vs : List V}, Fro K.F H a vs → Fro K.F H' a vs) : ∀ (ps : List PV) {vs : List V}, RelPs K ρ H ps vs → RelPs K ρ H' ps vs
    | [], _, h => by rw [RelPs] at h ⊢; exact h
    | p :: ps, _, h => by
      rw [RelPs] at h ⊢
      obtain ⟨v, r, e, h1, h2⟩ := h
      exact ⟨v, r, e, relP_of tup fro p h1, relPs_of tup fro ps h2⟩
theorem RelPs.beside {D : Addr} {o o' : HO} (hD : H D = some o) (ho : MutO o) : ∀ {ps : List PV} {vs : List V}, RelPs K ρ H ps vs → RelPs K ρ (L2.upd H D o') ps vs
  | [], _, h => by rw [relPs_nil.mp h]; exact .nil
  | p :: ps, _, h => by
    obtain ⟨v, r, rfl, h1, h2⟩ := relPs_cons.mp h
    exact .mk (RelP.beside hD ho p h1) (RelPs.beside hD ho h2)
theorem RelM.beside {D : Addr} {o o' : HO} (m : RelM K ρ H M) (hD : H D = some o) (ho : MutO o) (hn : D ∉ ρ) : RelM K ρ (L2.upd H D o') M :=
  ⟨m.len, m.nd, fun k ad c h1 h2 => by
    obtain ⟨u, e1, e2⟩ := m.cell k ad c h1 h2
    have hne : ad ≠ D := fun z => hn (z ▸ List.mem_of_getElem? h1)
    refine ⟨u, by rw [upd_ne hne]; exact e1, ?_⟩
    cases c with
    | lst xs => obtain ⟨vs, e, r⟩ := e2; exact ⟨vs, e, r.beside hD ho⟩
    | dK lk l => obtain ⟨vs, e, r⟩ := e2; exact ⟨vs, e, Paired.mapP r fun _ _ z => ⟨z.1, RelP.beside hD ho _ z.2⟩⟩
    | dT lk l => obtain ⟨vs, e, r⟩ := e2; exact ⟨vs, e, Paired.mapP r fun _ _ z => ⟨z.1, RelP.beside hD ho _ z.2⟩⟩⟩
/-! ### [elt for t in it if c] -/
abbrev W0 : WX := fun _ _ _ _ => False
theorem comp_read {wi : TI} {g : TG} {tt : TT} {te : TE} {sl own : List Nat} {ei : PEnv → Store → Res Src} {et : PV → PEnv → Store → Res PEnv} {etst : PEnv → Store → Res Bool} {eelt : PEnv → Store → Res PV} (hs : ∀ j ∈ sl, j ∈ own) {σ : L2.St}
    (hwi : wi = tIx K W ei) (hg : g = tTgt K W0 sl et) (htt : tt = tTx K W0 etst) (hte : te = tEx K W0 eelt)
    (h : tEx K W (fun e M => (ei e M).bind fun src M => (compL src.still (fun x M => et x (wipeVs e own) M) etst eelt src.items [] M).bind fun ys M => .ok (.ref M.length) (M ++ [.lst ys])) σ H Q) :
    tLc wi g tt te own σ H Q := by
  subst hwi hg htt hte
  obtain ⟨ρ, e, M, he, hm, hp⟩ := h
  refine ⟨ρ, e, M, he, hm, Post.bind (R := SrcJ K) hp fun src M1 J ρ1 H1 m1 rJ x1 h1 => fun D hD => ?_⟩
  have he1 := he.ext x1
  clear hp hm he x1
  have h1 : Post K (RP K) (WEx K W σ) Q ρ1 H1 ((compL src.still (fun x M => et x (wipeVs e own) M) etst eelt (src.items.drop 0) [] M1).bind fun ys M => .ok (.ref M.length) (M ++ [.lst ys])) := by
    rw [List.drop_zero]
    exact h1
  refine ⟨fun i m Hc => ∃ ρc Mc acc vs, RelM K ρc Hc Mc ∧ Ext ρ1 H1 ρc Hc ∧ D ∉ ρc ∧ Hc D = some (.lst vs) ∧ RelPs K ρc Hc acc vs ∧ i ≤ src.items.length ∧ m = src.items.length - i ∧
    Post K (RP K) (WEx K W σ) Q ρ1 H1 ((compL src.still (fun x M => et x (wipeVs e own) M) etst eelt (src.items.drop i) acc Mc).bind fun ys M => .ok (.ref M.length) (M ++ [.lst ys])),
    ⟨src.items.length, ρ1, M1, [], [], m1.grow hD, Ext.fresh0 hD, m1.notin hD, upd_same, .nil, Nat.zero_le _, rfl, h1⟩, ?_⟩
  rintro i m Hc ⟨ρc, Mc, acc, vs, mc, xc, nD, hDc, rc, hi, rfl, hp⟩
  by_cases hlt : i < src.items.length
  · rw [List.drop_eq_getElem_cons hlt] at hp
    have hget : src.items[i]? = some src.items[i] := List.getElem?_eq_getElem hlt
    generalize src.items[i] = x at hp hget
    unfold compL at hp
    split at hp
    · rename_i st
      obtain ⟨g1, g2⟩ := rJ ρc Hc Mc xc mc st
      obtain ⟨go, yl⟩ := g1 i x hget
      refine .inr ⟨go, fun H' => ∃ m', m' < src.items.length - i ∧ ∃ ρc Mc acc vs, RelM K ρc H' Mc ∧ Ext ρ1 H1 ρc H' ∧ D ∉ ρc ∧ H' D = some (.lst vs) ∧ RelPs K ρc H' acc vs ∧ i + 1 ≤ src.items.length ∧ m' = src.items.length - (i + 1) ∧
        Post K (RP K) (WEx K W σ) Q ρ1 H1 ((compL src.still (fun x M => et x (wipeVs e own) M) etst eelt (src.items.drop (i + 1)) acc Mc).bind fun ys M => .ok (.ref M.length) (M ++ [.lst ys])), fun H' z => z, fun v H2 hy => ?_⟩
      obtain ⟨m2, r2, x2⟩ := yl v H2 hy
      have he2 := (he1.ext (xc.trans x2)).wipes own
      refine ⟨ρc, wipeVs e own, Mc, x, he2, m2, r2, ?_⟩
      dsimp only
      cases h3 : et x (wipeVs e own) Mc with
      | bad => rw [h3] at hp; exact hp.elim
      | exc y M3 => rw [h3] at hp; exact hp.elim
      | ok e3 M3 =>
        rw [h3] at hp
        intro σ3 ρ3 H3 m3 r3 x3
        refine ⟨wipe_agree (by rw [r3.2.1, wipe_length]) r3.2.2 hs, ρ3, e3, M3, r3.1, m3, ?_⟩
        simp only [Res.noexc_ok, Res.bind_ok] at hp
        cases h4 : etst e3 M3 with
        | bad => rw [h4] at hp; exact hp.elim
        | exc y M4 => rw [h4] at hp; exact hp.elim
        | ok k M4 =>
          rw [h4] at hp
          simp only [Res.noexc_ok, Res.bind_ok] at hp
          intro k' ρ4 H4 m4 r4 x4
          have r4 : k = k' := r4
          subst r4
          have x14 : Ext ρ1 H1 ρ4 H4 := xc.trans (x2.trans (x3.trans x4))
          have xc4 : Ext ρc Hc ρ4 H4 := x2.trans (x3.trans x4)
          have hD4 : H4 D = some (.lst vs) := xc4.frame D _ hDc nD
          have nD4 : D ∉ ρ4 := fun hm => by
            obtain ⟨t, rfl, ht⟩ := xc4.pre
            rcases List.mem_append.mp hm with z | z
            · exact nD z
            · have := ht D z
              rw [hDc] at this
              cases this
          cases k with
          | false =>
            rw [if_neg (by decide)]
            rw [if_neg (by decide)] at hp
            exact ⟨src.items.length - (i + 1), by omega, ρ4, M4, acc, vs, m4, x14, nD4, hD4, rc.ext xc4, hlt, rfl, hp⟩
          | true =>
            rw [if_pos rfl]
            rw [if_pos rfl] at hp
            refine ⟨ρ4, e3, M4, r3.1.ext x4, m4, ?_⟩
            cases h5 : eelt e3 M4 with
            | bad => rw [h5] at hp; exact hp.elim
            | exc y M5 => rw [h5] at hp; exact hp.elim
            | ok y M5 =>
              rw [h5] at hp
              simp only [Res.noexc_ok, Res.bind_ok] at hp
              intro w ρ5 H5 m5 r5 x5
              split at hp
              · rename_i hz
                have hD5 : H5 D = some (.lst vs) := x5.frame D _ hD4 nD4
                have nD5 : D ∉ ρ5 := fun hm => by
                  obtain ⟨t, rfl, ht⟩ := x5.pre
                  rcases List.mem_append.mp hm with z | z
                  · exact nD4 z
                  · have := ht D z
                    rw [hD4] at this
                    cases this
                have rc5 := rc.ext (xc4.trans x5)
                refine ⟨vs, hD5, by rw [← rc.length]; exact hz, src.items.length - (i + 1), by omega, ρ5, M5, acc ++ [y], vs ++ [w], m5.beside hD5 trivial nD5, (x14.trans x5).beside hD, nD5, upd_same,
                  (rc5.append (.mk r5 .nil)).beside hD5 trivial, hlt, rfl, hp⟩
              · exact hp.elim
    · exact hp.elim
  · have ei : i = src.items.length := by omega
    subst ei
    rw [List.drop_length] at hp
    unfold compL at hp
    split at hp
    · rename_i st
      obtain ⟨g1, g2⟩ := rJ ρc Hc Mc xc mc st
      refine .inl ⟨g2 _ (Nat.le_refl _), ?_⟩
      -- the list becomes a cell
      have mn : RelM K (ρc ++ [D]) Hc (Mc ++ [.lst acc]) := by
        obtain ⟨t, rfl, ht⟩ := xc.pre
        refine ⟨by have := mc.len; simp at this ⊢; omega, List.nodup_append.mpr ⟨mc.nd, by simp, fun p hp q hq => ?_⟩, fun k ad d k1 k2 => ?_⟩
        · have : q = D := by simpa using hq
          subst this
          exact fun z => nD (z ▸ hp)
        · have hpre : ∀ {p : PV} {v : V}, RelP K (ρ1 ++ t) Hc p v → RelP K ((ρ1 ++ t) ++ [D]) Hc p v := fun {p v} r => RelP_pre p r
          by_cases hk : k < (ρ1 ++ t).length
          · rw [List.getElem?_append_left hk] at k1
            rw [List.getElem?_append_left (by rw [← mc.len]; exact hk)] at k2
            obtain ⟨u, z1, z2⟩ := mc.cell k ad d k1 k2
            refine ⟨u, z1, ?_⟩
            cases d with
            | lst xs => obtain ⟨ws, e, r⟩ := z2; exact ⟨ws, e, RelPs_pre r⟩
            | dK lk l => obtain ⟨ws, e, r⟩ := z2; exact ⟨ws, e, Paired.mapP r fun _ _ z => ⟨z.1, hpre z.2⟩⟩
            | dT lk l => obtain ⟨ws, e, r⟩ := z2; exact ⟨ws, e, Paired.mapP r fun _ _ z => ⟨z.1, hpre z.2⟩⟩
          · have hn2 : k < (ρ1 ++ t).length + 1 := by
              have := (List.getElem?_eq_some_iff.mp k1).1
              rw [List.length_append] at this
              exact this
            have en : k = (ρ1 ++ t).length := by omega
            subst en
            rw [List.getElem?_append_right (Nat.le_refl _)] at k1
            rw [mc.len, List.getElem?_append_right (Nat.le_refl _)] at k2
            simp at k1 k2
            subst k1 k2
            exact ⟨_, hDc, vs, rfl, RelPs_pre rc⟩
      refine hp (.ref D) (ρc ++ [D]) Hc mn (relP_ref.mpr ⟨D, rfl, mc.last D⟩) ?_
      obtain ⟨t, ht, hf⟩ := xc.pre
      exact ⟨⟨t ++ [D], by rw [ht, List.append_assoc], fun p hp => by
        rcases List.mem_append.mp hp with z | z
        · exact hf p z
        · rw [show p = D by simpa using z]; exact hD⟩, xc.tups, xc.frz, xc.frame, xc.dom⟩
    · exact hp.elim
where
  RelP_pre {K : Par} {ρ t : List Addr} {H : Hp} : ∀ (p : PV) {v : V}, RelP K ρ H p v → RelP K (ρ ++ t) H p v
    | .non, _, h => by rw [RelP] at h ⊢; exact h
    | .bl _, _, h => by rw [RelP] at h ⊢; exact h
    | .int _, _, h => by rw [RelP] at h ⊢; exact h
    | .str _, _, h => by rw [RelP] at h ⊢; exact h
    | .ty _, _, h => by rw [RelP] at h ⊢; exact h
    | .tup xs, _, h => by
      rw [RelP] at h ⊢
      obtain ⟨a, vs, e, hs, hr⟩ := h
      exact ⟨a, vs, e, hs, RelPs_pre' xs hr⟩
    | .ref n, _, h => by
      rw [RelP] at h ⊢
      obtain ⟨a, e, hn⟩ := h
      have hn' : n < ρ.length := (List.getElem?_eq_some_iff.mp hn).1
      exact ⟨a, e, by rw [List.getElem?_append_left hn']; exact hn⟩
    | .fro ns, _, h => by rw [RelP] at h ⊢; exact h
  RelPs_pre' {K : Par} {ρ t : List Addr} {H : Hp} : ∀ (ps : List PV) {vs : List V}, RelPs K ρ H ps vs → RelPs K (ρ ++ t) H ps vs
    | [], _, h => by rw [RelPs] at h ⊢; exact h
    | p :: ps, _, h => by
      rw [RelPs] at h ⊢
      obtain ⟨v, r, e, h1, h2⟩ := h
      exact ⟨v, r, e, RelP_pre p h1, RelPs_pre' ps h2⟩
  RelPs_pre {K : Par} {ρ t : List Addr} {H : Hp} {ps : List PV} {vs : List V} (h : RelPs K ρ H ps vs) : RelPs K (ρ ++ t) H ps vs := RelPs_pre' ps h
end
end Q

/-! QJ: cells that go, statements, loops. -/
namespace Q
open PySem PySem.Spec PyProof.Rows L2
section
variable {K : Par} {n : Nat} {pr : Pg} {cl : Nat → List PV → Store → Res PV} {W : WX} {N : List Str} {sc : Scope} {fnf : Str → Bool} {X : Cx} {pos : Pos} {a b c : Expr} {ea eb ec : PEnv → Store → Res PV}
variable {ρ ρ' ρ1 : List Addr} {H H' H1 : Hp} {M : Store} {WE : Ex → List Addr → Hp → Prop} {Q : VK}

/-! ### cells that go -/
mutual
theorem low_back {t : List Addr} : ∀ (p : PV) {v : V}, RelP K (ρ ++ t) H p v → p.low ρ.length = true → RelP K ρ H p v
  | .non, _, h, _ => by rw [RelP] at h ⊢; exact h
  | .bl _, _, h, _ => by rw [RelP] at h ⊢; exact h
  | .int _, _, h, _ => by rw [RelP] at h ⊢; exact h
  | .str _, _, h, _ => by rw [RelP] at h ⊢; exact h
  | .ty _, _, h, _ => by rw [RelP] at h ⊢; exact h
  | .tup xs, _, h, l => by
    rw [RelP] at h ⊢
    rw [PV.low] at l
    obtain ⟨a, vs, e, hs, hr⟩ := h
    exact ⟨a, vs, e, hs, lows_back xs hr l⟩
  | .ref n, _, h, l => by
    rw [RelP] at h ⊢
    rw [PV.low] at l
    obtain ⟨a, e, hn⟩ := h
    rw [List.getElem?_append_left (of_decide_eq_true l)] at hn
    exact ⟨a, e, hn⟩
  | .fro ns, _, h, _ => by rw [RelP] at h ⊢; exact h
theorem lows_back {t : List Addr} : ∀ (ps : List PV) {vs : List V}, RelPs K (ρ ++ t) H ps vs → PV.lows ρ.length ps = true → RelPs K ρ H ps vs
  | [], _, h, _ => by rw [RelPs] at h ⊢; exact h
  | p :: ps, _, h, l => by
    rw [RelPs] at h ⊢
    rw [PV.lows, Bool.and_eq_true] at l
    obtain ⟨v, r, e, h1, h2⟩ := h
    exact ⟨v, r, e, low_back p h1 l.1, lows_back ps h2 l.2⟩
end
mutual
theorem is_low : ∀ (p : PV) {v : V}, RelP K ρ H p v → p.low ρ.length = true
  | .non, _, _ => by simp [PV.low]
  | .bl _, _, _ => by simp [PV.low]
  | .int _, _, _ => by simp [PV.low]
  | .str _, _, _ => by simp [PV.low]
  | .ty _, _, _ => by simp [PV.low]
  | .fro _, _, _ => by simp [PV.low]
  | .tup xs, _, h => by
    rw [RelP] at h
    rw [PV.low]
    obtain ⟨a, vs, e, hs, hr⟩ := h
    exact are_low xs hr
  | .ref n, _, h => by
    rw [RelP] at h
    rw [PV.low]
    obtain ⟨a, e, hn⟩ := h
    exact decide_eq_true (List.getElem?_eq_some_iff.mp hn).1
theorem are_low : ∀ (ps : List PV) {vs : List V}, RelPs K ρ H ps vs → PV.lows ρ.length ps = true
  | [], _, _ => by rw [PV.lows]
  | p :: ps, _, h => by
    rw [RelPs] at h
    obtain ⟨v, r, e, h1, h2⟩ := h
    rw [PV.lows, is_low p h1, are_low ps h2]
    rfl
end
theorem kv_low {κ : Type} {l : List (κ × PV)} {r : List (κ × V)} (h : RelKV K ρ H l r) : (l.all fun p => p.2.low ρ.length) = true := by
  unfold RelKV at h
  induction h with
  | nil => rfl
  | @cons p q ps qs h t ih => rw [List.all_cons, is_low _ h.2, ih]; rfl
theorem kv_back {κ : Type} {t : List Addr} {l : List (κ × PV)} {r : List (κ × V)} (h : RelKV K (ρ ++ t) H l r) (hl : (l.all fun p => p.2.low ρ.length) = true) : RelKV K ρ H l r := by
  unfold RelKV at h ⊢
  induction h with
  | nil => exact .nil
  | @cons p q ps qs h t ih =>
    rw [List.all_cons, Bool.and_eq_true] at hl
    exact .cons ⟨h.1, low_back _ h.2 hl.1⟩ (ih hl.2)
theorem cell_low {d : Cell} {o : HO} (h : RelC K ρ H d o) : d.low ρ.length = true := by
  cases d with
  | lst xs => obtain ⟨vs, _, r⟩ := h; exact are_low xs r
  | dK lk l => obtain ⟨vs, _, r⟩ := h; exact kv_low r
  | dT lk l => obtain ⟨vs, _, r⟩ := h; exact kv_low r
theorem cell_back {t : List Addr} {d : Cell} {o : HO} (h : RelC K (ρ ++ t) H d o) (hl : d.low ρ.length = true) : RelC K ρ H d o := by
  cases d with
  | lst xs => obtain ⟨vs, e, r⟩ := h; exact ⟨vs, e, lows_back xs r hl⟩
  | dK lk l => obtain ⟨vs, e, r⟩ := h; exact ⟨vs, e, kv_back r hl⟩
  | dT lk l => obtain ⟨vs, e, r⟩ := h; exact ⟨vs, e, kv_back r hl⟩
theorem gcOk_at {n : Nat} : ∀ {cs ds : Store} {i : Nat} {d : Cell}, gcOk n cs ds = true → ds[i]? = some d → cs[i]? = some d ∨ d.low n = true
  | [], [], i, d, _, e => by simp at e
  | [], _ :: _, i, d, h, e => by simp [gcOk] at h
  | _ :: _, [], i, d, h, e => by simp at e
  | c :: cs, d' :: ds, 0, d, h, e => by
    simp at e
    subst e
    rw [gcOk, Bool.and_eq_true, Bool.or_eq_true] at h
    rcases h.1 with z | z
    · exact .inl (by rw [Cell.eq_of_beq z]; rfl)
    · exact .inr z
  | c :: cs, d' :: ds, i + 1, d, h, e => by
    rw [gcOk, Bool.and_eq_true] at h
    have := gcOk_at (i := i) h.2 (by simpa using e)
    simpa using this
theorem gc_post {r : Res PV} (m : RelM K ρ H M) (h : Post K (RP K) WE Q ρ H (r.bind fun x M' => gcR M x M')) : Post K (RP K) WE Q ρ H r := by
  cases r with
  | exc x M' => exact h
  | bad => exact h
  | ok x M' =>
    have h : Post K (RP K) WE Q ρ H (gcR M x M') := h
    unfold gcR at h
    split at h
    · exact h
    · split at h
      · rename_i hc
        rw [Bool.and_eq_true] at hc
        intro v ρ' H' m' r' x'
        obtain ⟨t, rfl, ht⟩ := x'.pre
        have hlen : M.length = ρ.length := m.len.symm
        rw [hlen] at hc h
        refine h v ρ H' ⟨?_, m.nd, fun k ad d k1 k2 => ?_⟩ (low_back x r' hc.1) ⟨⟨[], by simp, fun _ z => nomatch z⟩, x'.tups, x'.frz, x'.frame, x'.dom⟩
        · have := m'.len
          rw [List.length_append] at this
          rw [List.length_take]
          omega
        · have hk : k < ρ.length := (List.getElem?_eq_some_iff.mp k1).1
          have k2' : M'[k]? = some d := by
            rw [List.getElem?_take, if_pos hk] at k2
            exact k2
          obtain ⟨o, z1, z2⟩ := m'.cell k ad d (by rw [List.getElem?_append_left hk]; exact k1) k2'
          refine ⟨o, z1, cell_back z2 ?_⟩
          rcases gcOk_at hc.2 k2 with z | z
          · obtain ⟨_, _, q⟩ := m.cell k ad d k1 z
            exact cell_low q
          · exact z
      · exact h
theorem g_gc (ha : PE X a (tEx K W ea)) : PE X a (tEx K W fun e M => (ea e M).bind fun x M' => gcR M x M') :=
  ha.imp fun σ H Q ⟨ρ, e, M, he, hm, hp⟩ => ⟨ρ, e, M, he, hm, gc_post hm hp⟩
/-! ### statements -/
def PostS (K : Par) (W : WX) (D : Ends) (ρ : List Addr) (H : Hp) : RS → Prop
  | .nx e M => ∀ σ' ρ' H', RelE K ρ' H' e σ' → RelM K ρ' H' M → Ext ρ H ρ' H' → D.nx σ' H'
  | .bk e M => ∀ σ' ρ' H', RelE K ρ' H' e σ' → RelM K ρ' H' M → Ext ρ H ρ' H' → D.bk σ' H'
  | .ct e M => ∀ σ' ρ' H', RelE K ρ' H' e σ' → RelM K ρ' H' M → Ext ρ H ρ' H' → D.ct σ' H'
  | .rt x M => ∀ v ρ' H', RelM K ρ' H' M → RelP K ρ' H' x v → Ext ρ H ρ' H' → D.rt v H'
  | .exc x e M => ∀ σ' ρ' H' cls d, RelE K ρ' H' e σ' → RelM K ρ' H' M → Ext ρ H ρ' H' → RelX K ρ' H' x cls d → W cls d σ' H'
  | .bad => False
def tSx (K : Par) (W : WX) (ev : PEnv → Store → RS) : TS := fun D σ H => ∃ ρ e M, RelE K ρ H e σ ∧ RelM K ρ H M ∧ PostS K W D ρ H (ev e M)
theorem PostS.shift {D : Ends} {r : RS} (x : Ext ρ H ρ1 H1) (h : PostS K W D ρ H r) : PostS K W D ρ1 H1 r := by
  cases r with
  | nx e M => exact fun σ' ρ' H' he hm y => h σ' ρ' H' he hm (x.trans y)
  | bk e M => exact fun σ' ρ' H' he hm y => h σ' ρ' H' he hm (x.trans y)
  | ct e M => exact fun σ' ρ' H' he hm y => h σ' ρ' H' he hm (x.trans y)
  | rt v M => exact fun v ρ' H' hm hr y => h v ρ' H' hm hr (x.trans y)
  | exc x' e M => exact fun σ' ρ' H' cls d he hm y => h σ' ρ' H' cls d he hm (x.trans y)
  | bad => exact h
/-- an expression within a statement -/
theorem PostS.to {α β : Type} {R : List Addr → Hp → α → β → Prop} {D : Ends} {r : Res α} {e : PEnv} {σ : L2.St} {f : α → Store → RS} {Q : β → Hp → Prop} (he : RelE K ρ H e σ) (h : PostS K W D ρ H (r.to e f))
    (k : ∀ a M1 b ρ1 H1, RelM K ρ1 H1 M1 → R ρ1 H1 a b → Ext ρ H ρ1 H1 → PostS K W D ρ1 H1 (f a M1) → Q b H1) : Post K R (WEx K W σ) Q ρ H r := by
  cases r with
  | ok a M => exact fun b ρ' H' m r y => k a M b ρ' H' m r y (PostS.shift y h)
  | exc x M => exact fun ρ' H' m y cls d rx => h σ ρ' H' cls d (he.ext y) m y rx
  | bad => exact h
theorem s_asg {sl : List Nat} {et : PV → PEnv → Store → Res PEnv} {tg : Expr} (he : PE X a (tEx K W ea)) (hg : PG X tg (tTgt K W sl et)) (hs : swapsWithSole [tg] a pos.line X.env = pure false) (hw : swappedStores [tg] a X.env = pure none) (h1 : (assignEach [tg] X.env).map (·.2) = [assign tg X.env]) :
    PS X (.Assign [tg] a pos) (tSx K W fun e M => (ea e M).to e fun x M => (et x e M).to e fun e M => .nx e M) :=
  (ps_asg he hg hs hw h1).imp fun D σ H ⟨ρ, e, M, he, hm, hp⟩ => ⟨ρ, e, M, he, hm, PostS.to he hp fun x M1 v ρ1 H1 m1 r1 x1 h1 =>
    ⟨ρ1, e, M1, x, he.ext x1, m1, r1, PostS.to (he.ext x1) h1 fun e2 M2 σ2 ρ2 H2 m2 r2 x2 h2 => h2 σ2 ρ2 H2 r2.1 m2 .refl⟩⟩
theorem s_expr (he : PE X a (tEx K W ea)) (hs : swapsWith a none pos.line X.env = pure false) : PS X (.Expr a pos) (tSx K W fun e M => (ea e M).to e fun _ M => .nx e M) :=
  (ps_expr he hs).imp fun D σ H ⟨ρ, e, M, he, hm, hp⟩ => ⟨ρ, e, M, he, hm, PostS.to he hp fun x M1 v ρ1 H1 m1 r1 x1 h1 => h1 σ ρ1 H1 (he.ext x1) m1 .refl⟩
theorem s_ret (he : PE X a (tEx K W ea)) : PS X (.Return (some a) pos) (tSx K W fun e M => (ea e M).to e fun x M => .rt x M) :=
  (ps_ret he).imp fun D σ H ⟨ρ, e, M, he, hm, hp⟩ => ⟨ρ, e, M, he, hm, PostS.to he hp fun x M1 v ρ1 H1 m1 r1 x1 h1 => h1 v ρ1 H1 m1 r1 .refl⟩
theorem s_retN : PS X (.Return none pos) (tSx K W fun _ M => .rt .non M) :=
  ps_retN.imp fun D σ H ⟨ρ, e, M, he, hm, hp⟩ => hp .non ρ H hm (relP_non.mpr rfl) .refl
theorem s_brk : PS X (.Break pos) (tSx K W fun e M => .bk e M) := ps_break.imp fun D σ H ⟨ρ, e, M, he, hm, hp⟩ => hp σ ρ H he hm .refl
theorem s_cont : PS X (.Continue pos) (tSx K W fun e M => .ct e M) := ps_continue.imp fun D σ H ⟨ρ, e, M, he, hm, hp⟩ => hp σ ρ H he hm .refl
theorem s_pass : PS X (.Pass pos) (tSx K W fun e M => .nx e M) := ps_pass.imp fun D σ H ⟨ρ, e, M, he, hm, hp⟩ => hp σ ρ H he hm .refl
theorem s_nil : PSs X [] (tSx K W fun e M => .nx e M) := pss_nil.imp fun D σ H ⟨ρ, e, M, he, hm, hp⟩ => hp σ ρ H he hm .refl
theorem s_cons {s : Stmt} {r : List Stmt} {es er : PEnv → Store → RS} (h1 : PS X s (tSx K W es)) (h2 : PSs X r (tSx K W er)) : PSs X (s :: r) (tSx K W fun e M => (es e M).seq fun e M => er e M) :=
  (pss_cons h1 h2).imp fun D σ H ⟨ρ, e, M, he, hm, hp⟩ => ⟨ρ, e, M, he, hm, by
    cases h3 : es e M with
    | nx e1 M1 =>
      dsimp only at hp
      rw [h3] at hp
      exact fun σ1 ρ1 H1 he1 hm1 x1 => ⟨ρ1, e1, M1, he1, hm1, PostS.shift x1 hp⟩
    | bk e1 M1 => dsimp only at hp; rw [h3] at hp; exact hp
    | ct e1 M1 => dsimp only at hp; rw [h3] at hp; exact hp
    | rt v M1 => dsimp only at hp; rw [h3] at hp; exact hp
    | exc x e1 M1 => dsimp only at hp; rw [h3] at hp; exact hp
    | bad => dsimp only at hp; rw [h3] at hp; exact hp⟩
theorem tst_to {D : Ends} {e : PEnv} {f : Bool → Store → RS} (h : PostS K W D ρ H ((ea e M).to e fun x M => (truR x M).to e fun t M => f t M)) : PostS K W D ρ H ((tst ea e M).to e f) := by
  unfold tst
  cases h1 : ea e M with
  | ok x M1 =>
    rw [h1] at h
    exact h
  | exc x M1 => rw [h1] at h; exact h
  | bad => rw [h1] at h; exact h
theorem s_ite {p q : List Stmt} {ep eq : PEnv → Store → RS} (hc : PT X c (tTx K W (tst ec))) (hp : PSs X p (tSx K W ep)) (hq : PSs X q (tSx K W eq)) : PS X (.If c p q pos) (tSx K W fun e M => (ec e M).to e fun x M => (truR x M).to e fun t M => match t with
    | true => ep e M
    | false => eq e M) :=
  (ps_if hc hp hq).imp fun D σ H ⟨ρ, e, M, he, hm, hp⟩ => ⟨ρ, e, M, he, hm, PostS.to (R := REq) he (tst_to hp) fun k M1 k' ρ1 H1 m1 r1 x1 h1 => by
    have r1 : k = k' := r1
    subst r1
    cases k with
    | true => rw [if_pos rfl]; exact ⟨ρ1, e, M1, he.ext x1, m1, h1⟩
    | false => rw [if_neg (by decide)]; exact ⟨ρ1, e, M1, he.ext x1, m1, h1⟩⟩
theorem s_whl {p : List Stmt} {ep : PEnv → Store → RS} {B : Nat} (hpo : PassesOwn (model X.prog X.w) X.A X.env X.xe) (hc : PT X c (tTx K W (tst ec))) (hp : PSs X p (tSx K W ep)) : PS X (.While c p [] pos) (tSx K W fun e M => whileL ec ep B e M) :=
  (ps_while hpo hc hp).imp fun D σ H ⟨ρ, e, M, he, hm, hp⟩ => by
    refine ⟨fun m σ H => ∃ ρ e M, RelE K ρ H e σ ∧ RelM K ρ H M ∧ PostS K W D ρ H (whileL ec ep m e M), ⟨B, ρ, e, M, he, hm, hp⟩, ?_⟩
    rintro m σ H ⟨ρ, e, M, he, hm, hp⟩
    cases m with
    | zero => exact hp.elim
    | succ m =>
      refine ⟨ρ, e, M, he, hm, PostS.to (R := REq) he (tst_to hp) fun k M1 k' ρ1 H1 m1 r1 x1 h1 => ?_⟩
      have r1 : k = k' := r1
      subst r1
      cases k with
      | false => rw [if_neg (by decide)]; exact h1 σ ρ1 H1 (he.ext x1) m1 .refl
      | true =>
        rw [if_pos rfl]
        refine ⟨fun σ H => ∃ ρ e M, RelE K ρ H e σ ∧ RelM K ρ H M ∧ PostS K W D ρ H (whileL ec ep m e M), fun σ' H' z => ⟨m, Nat.lt_succ_self _, z⟩, ρ1, e, M1, he.ext x1, m1, ?_⟩
        cases h3 : ep e M1 with
        | nx e2 M2 =>
          simp only [h3] at h1
          exact fun σ2 ρ2 H2 he2 hm2 x2 => ⟨ρ2, e2, M2, he2, hm2, PostS.shift x2 h1⟩
        | ct e2 M2 =>
          simp only [h3] at h1
          exact fun σ2 ρ2 H2 he2 hm2 x2 => ⟨ρ2, e2, M2, he2, hm2, PostS.shift x2 h1⟩
        | bk e2 M2 => simp only [h3] at h1; exact h1
        | rt v M2 => simp only [h3] at h1; exact h1
        | exc x e2 M2 => simp only [h3] at h1; exact h1
        | bad => simp only [h3] at h1; exact h1
theorem s_for {tg it : Expr} {p : List Stmt} {sl : List Nat} {ei : PEnv → Store → Res Src} {et : PV → PEnv → Store → Res PEnv} {ep : PEnv → Store → RS} (hpo : PassesOwn (model X.prog X.w) X.A X.env X.xe) (hc : X.calm = true) (hi : PI X tg it (tIx K W ei)) (hg : PG X tg (tTgt K W sl et))
    (hp : PSs X p (tSx K W ep)) (hs : ∀ x, foldedSetIterable it X.env x = pure x) : PS X (.For tg it p [] pos) (tSx K W fun e M => (ei e M).to e fun src M => forL src.still et ep src.items e M) :=
  (ps_for hpo hc hi hg hp hs).imp fun D σ H ⟨ρ, e, M, he, hm, hp⟩ => by
    refine ⟨ρ, e, M, he, hm, PostS.to he hp fun src M1 J ρ1 H1 m1 rJ x1 h1 => ?_⟩
    have he1 := he.ext x1
    clear hp hm he x1
    refine ⟨fun i m σ Hc => ∃ ρc ec Mc, RelE K ρc Hc ec σ ∧ RelM K ρc Hc Mc ∧ Ext ρ1 H1 ρc Hc ∧ i ≤ src.items.length ∧ m = src.items.length - i ∧ PostS K W D ρc Hc (forL src.still et ep (src.items.drop i) ec Mc),
      ⟨src.items.length, ρ1, e, M1, he1, m1, .refl, Nat.zero_le _, rfl, by rw [List.drop_zero]; exact h1⟩, ?_⟩
    rintro i m σc Hc ⟨ρc, e2, Mc, hec, mc, xc, hi, rfl, hp⟩
    by_cases hlt : i < src.items.length
    · rw [List.drop_eq_getElem_cons hlt] at hp
      have hget : src.items[i]? = some src.items[i] := List.getElem?_eq_getElem hlt
      generalize src.items[i] = x at hp hget
      unfold forL at hp
      split at hp
      · rename_i st
        obtain ⟨g1, g2⟩ := rJ ρc Hc Mc xc mc st
        obtain ⟨go, yl⟩ := g1 i x hget
        refine .inr ⟨go, fun σ H' => ∃ ρc ec Mc, RelE K ρc H' ec σ ∧ RelM K ρc H' Mc ∧ Ext ρ1 H1 ρc H' ∧ i + 1 ≤ src.items.length ∧ PostS K W D ρc H' (forL src.still et ep (src.items.drop (i + 1)) ec Mc),
          fun σ' H' ⟨ρc, ec, Mc, z1, z2, z3, z4, z5⟩ => ⟨src.items.length - (i + 1), by omega, ρc, ec, Mc, z1, z2, z3, z4, rfl, z5⟩, fun v H2 hy => ?_⟩
        obtain ⟨m2, r2, x2⟩ := yl v H2 hy
        refine ⟨ρc, e2, Mc, x, hec.ext x2, m2, r2, PostS.to (hec.ext x2) (PostS.shift x2 hp) fun e3 M3 σ3 ρ3 H3 m3 r3 x3 h3 => ?_⟩
        refine ⟨ρ3, e3, M3, r3.1, m3, ?_⟩
        have x13 : Ext ρ1 H1 ρ3 H3 := xc.trans (x2.trans x3)
        cases h4 : ep e3 M3 with
        | nx e4 M4 =>
          simp only [h4] at h3
          exact fun σ4 ρ4 H4 he4 hm4 x4 => ⟨ρ4, e4, M4, he4, hm4, x13.trans x4, hlt, PostS.shift x4 h3⟩
        | ct e4 M4 =>
          simp only [h4] at h3
          exact fun σ4 ρ4 H4 he4 hm4 x4 => ⟨ρ4, e4, M4, he4, hm4, x13.trans x4, hlt, PostS.shift x4 h3⟩
        | bk e4 M4 => simp only [h4] at h3; exact h3
        | rt v M4 => simp only [h4] at h3; exact h3
        | exc x e4 M4 => simp only [h4] at h3; exact h3
        | bad => simp only [h4] at h3; exact h3
      · exact hp.elim
    · have ei : i = src.items.length := by omega
      subst ei
      rw [List.drop_length] at hp
      unfold forL at hp
      split at hp
      · rename_i st
        obtain ⟨g1, g2⟩ := rJ ρc Hc Mc xc mc st
        exact .inl ⟨g2 _ (Nat.le_refl _), hp σc ρc Hc hec mc .refl⟩
      · exact hp.elim
/-! ### op= -/
theorem aug_ok (o : Bop) : PIp X (opOf o) (rG K (augV o)) := by
  intro pins s σ H v w u1 u2 Q I ru rw' ⟨ρ, M, x, y, WE, rx, ry, m, h⟩
  unfold augV at h
  split at h
  · rw [relP_int] at rx ry
    subst rx ry
    exact iop_add pins s σ H _ _ u1 u2 Q I ru rw' ⟨_, _, rfl, rfl, put_int m h⟩
  · rw [relP_str] at rx ry
    subst rx ry
    split at h
    · exact iop_add_str pins s σ H _ _ u1 u2 Q I ru rw' ⟨_, _, rfl, rfl, (by assumption), put_str m h⟩
    · exact h.elim
  · rw [relP_int] at rx ry
    subst rx ry
    exact iop_sub pins s σ H _ _ u1 u2 Q I ru rw' ⟨_, _, rfl, rfl, put_int m h⟩
  · rw [relP_int] at rx ry
    subst rx ry
    split at h
    · exact iop_mulW pins s σ H _ _ u1 u2 Q I ru rw' ⟨_, _, rfl, rfl, (by assumption), put_int m h⟩
    · exact h.elim
  · rw [relP_int] at rx ry
    subst rx ry
    split at h
    · exact iop_fdivG pins s σ H _ _ u1 u2 Q I ru rw' ⟨_, _, rfl, rfl, (by assumption), put_int m h⟩
    · exact h.elim
  · rw [relP_int] at rx ry
    subst rx ry
    split at h
    · exact iop_mod pins s σ H _ _ u1 u2 Q I ru rw' ⟨_, _, rfl, rfl, (by assumption), put_int m h⟩
    · exact h.elim
  · exact h.elim
theorem s_aug {i : Nat} {x : Str} {o : Bop} {pos' : Pos} (hN : X.N.Nodup) (hi : X.N[i]? = some x) (hx : Loc X.env.scope x) (he : PE X a (tEx K W ea)) (hf : X.fn x = true ∨ X.env.scope.names.lookup x = some .local) : PS X (.AugAssign (.Name x pos') (opOf o) a pos) (tSx K W fun e M => match getV e i with
    | some x => (ea e M).to e fun y M => (augV o x y M).to e fun z M => .nx (setV e i z) M
    | none => .bad) :=
  (ps_aug hN hi hx he (aug_ok (K := K) o) hf).imp fun D σ H ⟨ρ, e, M, he, hm, hp⟩ => by
    dsimp only at hp
    split at hp
    · rename_i x hg
      obtain ⟨u, h1, h2⟩ := he.get hg
      refine ⟨u, h1, ρ, e, M, he, hm, PostS.to he hp fun y M1 v ρ1 H1 m1 r1 x1 h3 => ⟨ρ1, M1, x, y, WEx K W σ, h2.ext x1, r1, m1, PostS.to (he.ext x1) h3 fun z M2 w ρ2 H2 m2 r2 x2 h4 => ?_⟩⟩
      exact h4 _ ρ2 H2 ((he.ext (x1.trans x2)).set r2 i) m2 .refl
    · exact hp.elim
theorem s_par {i j : Nat} {x y : Str} {px py pt : Pos} {kt k2 : Nat} {pt2 : Pos} (hc : X.calm = true) (hN : X.N.Nodup) (hi : X.N[i]? = some x) (hj : X.N[j]? = some y) (hij : i ≠ j) (hx : X.env.scope.names.lookup x = some .local) (hy : X.env.scope.names.lookup y = some .local)
    (ha : PE X a (tEx K W ea)) (hb : PE X b (tEx K W eb)) (h1 : starEach [a, b] X.env = (false, eval a X.env) :: starEach [b] X.env) (h2 : starEach [b] X.env = (false, eval b X.env) :: starEach [] X.env)
    (hw : swappedStores [.Tuple [.Name x px, .Name y py] kt pt] (.Tuple [a, b] k2 pt2) X.env = pure (some [x, y])) (hs : swapsWithSole [.Tuple [.Name x px, .Name y py] kt pt] (.Tuple [a, b] k2 pt2) pos.line X.env = pure false) :
    PS X (.Assign [.Tuple [.Name x px, .Name y py] kt pt] (.Tuple [a, b] k2 pt2) pos) (tSx K W fun e M => (ea e M).to e fun x M => (eb e M).to e fun y M => .nx (setV (setV e i x) j y) M) :=
  (ps_par hc hN hi hj hij hx hy (pa_cons ha (pa_cons hb pa_nil h2) h1) hw hs).imp fun D σ H ⟨ρ, e, M, he, hm, hp⟩ => ⟨ρ, e, M, he, hm, PostS.to he hp fun x M1 v ρ1 H1 m1 r1 x1 h1 =>
    ⟨ρ1, e, M1, he.ext x1, m1, PostS.to (he.ext x1) h1 fun y M2 w ρ2 H2 m2 r2 x2 h2 => ⟨v, w, rfl, h2 _ ρ2 H2 (((he.ext (x1.trans x2)).set (r1.ext x2) i).set r2 j) m2 .refl⟩⟩⟩
/-! ### a dict is walked -/
theorem RelE.beside {D : Addr} {o o' : HO} (hD : H D = some o) (ho : MutO o) {e : PEnv} {σ : L2.St} (h : RelE K ρ H e σ) : RelE K ρ (L2.upd H D o') e σ := by
  induction h with
  | nil => exact .nil
  | non _ ih => exact .non ih
  | som h _ ih => exact .som (RelP.beside hD ho _ h) ih
theorem kv_beside {κ : Type} {D : Addr} {o o' : HO} (hD : H D = some o) (ho : MutO o) {l : List (κ × PV)} {r : List (κ × V)} (h : RelKV K ρ H l r) : RelKV K ρ (L2.upd H D o') l r := Paired.mapP h fun _ _ z => ⟨z.1, RelP.beside hD ho _ z.2⟩
theorem RelC.beside {D : Addr} {o o' u : HO} (hD : H D = some o) (ho : MutO o) {c : Cell} (h : RelC K ρ H c u) : RelC K ρ (L2.upd H D o') c u := by
  cases c with
  | lst xs => obtain ⟨vs, e, r⟩ := h; exact ⟨vs, e, r.beside hD ho⟩
  | dK lk l => obtain ⟨vs, e, r⟩ := h; exact ⟨vs, e, kv_beside hD ho r⟩
  | dT lk l => obtain ⟨vs, e, r⟩ := h; exact ⟨vs, e, kv_beside hD ho r⟩
theorem RelM.unlock {n : Nat} {a : Addr} {od : Obj} {kvs : List (Key × PV)} {vs : List (Key × V)} (m : RelM K ρ H M) (ha : ρ[n]? = some a) (hM : M[n]? = some (.dK true kvs)) (hH : H a = some (.frz od (.dK vs))) :
    RelM K ρ (L2.upd H a (.dK vs)) (M.set n (.dK false kvs)) := by
  obtain ⟨od2, vs2, k2, r2⟩ := cell_dKt m ha hM
  rw [hH] at k2
  cases k2
  refine ⟨by rw [List.length_set]; exact m.len, m.nd, fun i b d k1 k2 => ?_⟩
  by_cases hi : i = n
  · subst hi
    rw [ha] at k1
    cases k1
    rw [List.getElem?_set_self (List.getElem?_eq_some_iff.mp hM).1] at k2
    cases k2
    exact ⟨_, upd_same, vs, rfl, kv_beside hH trivial r2⟩
  · rw [List.getElem?_set_ne (Ne.symm hi)] at k2
    obtain ⟨u, z1, z2⟩ := m.cell i b d k1 k2
    have hb : b ≠ a := fun z => hi (nodup_get m.nd k1 (z ▸ ha))
    exact ⟨u, by rw [upd_ne hb]; exact z1, z2.beside hH trivial⟩
theorem Ext.unlock {a : Addr} {od : Obj} {u : HO} (hu : OpnO u) (hin : a ∈ ρ) (hH : H a = some u) (x : Ext ρ (L2.upd H a (.frz od u)) ρ' H') : Ext ρ H ρ' (L2.upd H' a u) := by
  obtain ⟨t, e, ht⟩ := x.pre
  have key : ∀ {b : Addr} {w : HO}, ¬ OpnO w → H b = some w → b ≠ a := fun {b w} hn e z => by
    rw [z, hH] at e
    cases e
    exact hn hu
  refine ⟨⟨t, e, fun p hp => ?_⟩, fun b xs e => ?_, fun b ob xs e => ?_, fun b o e hn => ?_, fun b e => ?_⟩
  · exact upd_none (ht p hp)
  · have hb := key (w := .tup xs) (fun z => z) e
    rw [upd_ne hb]
    exact x.tups b xs (by rw [upd_ne hb]; exact e)
  · have hb := key (w := .frz ob xs) (fun z => z) e
    rw [upd_ne hb]
    exact x.frz b ob xs (by rw [upd_ne hb]; exact e)
  · have hb : b ≠ a := fun z => hn (z ▸ hin)
    rw [upd_ne hb]
    exact x.frame b o (by rw [upd_ne hb]; exact e) hn
  · exact upd_none (x.dom b (upd_none e))
theorem lockOk_at {n : Nat} {kvs : List (Key × PV)} (h : lockOk n kvs M = true) : M[n]? = some (.dK true kvs) := by
  unfold lockOk at h
  split at h
  · rename_i c e
    rw [e, Cell.eq_of_beq h]
  · cases h
theorem lock_read {D : Ends} {e : PEnv} {σ : L2.St} {n : Nat} {kvs : List (Key × PV)} {ev : PEnv → Store → RS} (he : RelE K ρ H e σ) (m : RelM K ρ H M) (hM : M[n]? = some (.dK false kvs))
    (h : PostS K W D ρ H ((ev e (M.set n (.dK true kvs))).unlock n kvs)) : tLock (tSx K W ev) D σ H := by
  obtain ⟨a, o, ha, _, _⟩ := m.at_ hM
  obtain ⟨vs, k1, r1⟩ := cell_dKf m ha hM
  have hin := List.mem_of_getElem? ha
  refine ⟨a, .dK vs, k1, trivial, fun od => ⟨ρ, e, M.set n (.dK true kvs), he.ext (.upd hin k1 trivial), m.set ha hM ⟨vs, ⟨od, rfl⟩, r1⟩ rfl, ?_⟩⟩
  have fin : ∀ {σ' : L2.St} {ρ' : List Addr} {H' : Hp} {M' : Store}, lockOk n kvs M' = true → RelM K ρ' H' M' → Ext ρ (L2.upd H a (.frz od (.dK vs))) ρ' H' →
      H' a = some (.frz od (.dK vs)) ∧ RelM K ρ' (L2.upd H' a (.dK vs)) (M'.set n (.dK false kvs)) ∧ Ext ρ H ρ' (L2.upd H' a (.dK vs)) := fun {σ' ρ' H' M'} hl hm x => by
    have hH := x.frz a od _ upd_same
    exact ⟨hH, hm.unlock (x.get ha) (lockOk_at hl) hH, x.unlock trivial hin k1⟩
  cases hr : ev e (M.set n (.dK true kvs)) with
  | nx e' M' =>
    rw [hr] at h
    intro σ' ρ' H' he' hm' x'
    simp only [RS.unlock] at h
    split at h
    · rename_i hl
      obtain ⟨z1, z2, z3⟩ := fin (σ' := σ') hl hm' x'
      exact ⟨z1, h σ' ρ' _ (he'.beside z1 trivial) z2 z3⟩
    · exact h.elim
  | bk e' M' =>
    rw [hr] at h
    intro σ' ρ' H' he' hm' x'
    simp only [RS.unlock] at h
    split at h
    · rename_i hl
      obtain ⟨z1, z2, z3⟩ := fin (σ' := σ') hl hm' x'
      exact ⟨z1, h σ' ρ' _ (he'.beside z1 trivial) z2 z3⟩
    · exact h.elim
  | ct e' M' =>
    rw [hr] at h
    intro σ' ρ' H' he' hm' x'
    simp only [RS.unlock] at h
    split at h
    · rename_i hl
      obtain ⟨z1, z2, z3⟩ := fin (σ' := σ') hl hm' x'
      exact ⟨z1, h σ' ρ' _ (he'.beside z1 trivial) z2 z3⟩
    · exact h.elim
  | rt v M' =>
    rw [hr] at h
    intro w ρ' H' hm' rw' x'
    simp only [RS.unlock] at h
    split at h
    · rename_i hl
      obtain ⟨z1, z2, z3⟩ := fin (σ' := []) hl hm' x'
      exact ⟨z1, h w ρ' _ z2 (RelP.beside z1 trivial _ rw') z3⟩
    · exact h.elim
  | exc x e' M' => rw [hr] at h; exact h.elim
  | bad => rw [hr] at h; exact h.elim
theorem s_ford {kd : DKind} {i : Nat} {tg it : Expr} {p : List Stmt} {sl : List Nat} {et : PV → PEnv → Store → Res PEnv} {ep : PEnv → Store → RS} (hpo : PassesOwn (model X.prog X.w) X.A X.env X.xe) (hc : X.calm = true) (hi : PI X tg it (tIx K W (srcD kd i))) (hg : PG X tg (tTgt K W sl et))
    (hp : PSs X p (tSx K W ep)) (hs : ∀ x, foldedSetIterable it X.env x = pure x) : PS X (.For tg it p [] pos) (tSx K W fun e M => match getV e i with
      | some (.ref n) => match M[n]? with
        | some (.dK false kvs) => (forL (lockOk n kvs) et ep (dItems kd kvs) e (M.set n (.dK true kvs))).unlock n kvs
        | _ => .bad
      | _ => .bad) :=
  (ps_lock (s_for hpo hc hi hg hp hs)).imp fun D σ H ⟨ρ, e, M, he, hm, h⟩ => by
    dsimp only at h
    split at h
    · rename_i n hg'
      split at h
      · rename_i kvs hM
        refine lock_read he hm hM ?_
        have e1 : srcD kd i e (M.set n (.dK true kvs)) = .ok ⟨dItems kd kvs, some (n, .dK true kvs)⟩ (M.set n (.dK true kvs)) := by
          unfold srcD
          rw [hg']
          dsimp only
          rw [List.getElem?_set_self (List.getElem?_eq_some_iff.mp hM).1]
        rw [e1]
        exact h
      · exact h.elim
    · exact h.elim
end
end Q

/-! QKc: calls by keywords, calls with nothing. -/
namespace Q
open PySem PySem.Spec PyProof.Rows L2
theorem permL_get {α β : Type} {R : α → β → Prop} {xs : List α} {us : List β} (h : ∀ (i : Nat) (x : α), xs[i]? = some x → ∃ u, us[i]? = some u ∧ R x u) :
    ∀ {pm : List Nat} {ys : List α}, permL xs pm = some ys → ∃ zs, permL us pm = some zs ∧ ys.length = zs.length ∧ ∀ (i : Nat) (y : α), ys[i]? = some y → ∃ z, zs[i]? = some z ∧ R y z
  | [], ys, e => by
    unfold permL at e
    cases e
    exact ⟨[], rfl, rfl, fun i y h => by simp at h⟩
  | i :: is, ys, e => by
    unfold permL at e
    split at e
    · rename_i x r h1 h2
      cases e
      obtain ⟨u, k1, k2⟩ := h i x h1
      obtain ⟨zs, k3, k4, k5⟩ := permL_get h h2
      refine ⟨u :: zs, by unfold permL; rw [k1, k3], by simp [k4], fun j y hj => ?_⟩
      cases j with
      | zero => simp at hj; subst hj; exact ⟨u, rfl, k2⟩
      | succ j => simpa using k5 j y (by simpa using hj)
    · cases e
theorem vals_of : ∀ {xs : List V} {us : List Value}, xs.length = us.length → (∀ (i : Nat) (x : V), xs[i]? = some x → ∃ u, us[i]? = some u ∧ RelV x u) → Vals xs us
  | [], [], _, _ => .nil
  | [], _ :: _, h, _ => by simp at h
  | _ :: _, [], h, _ => by simp at h
  | x :: xs, u :: us, h, k => by
    obtain ⟨w, e, r⟩ := k 0 x rfl
    simp at e
    subst e
    exact .cons r (vals_of (by simpa using h) fun i y hy => by simpa using k (i + 1) y (by simpa using hy))
theorem relPs_of {K : Par} {ρ : List Addr} {H : Hp} : ∀ {xs : List PV} {us : List V}, xs.length = us.length → (∀ (i : Nat) (x : PV), xs[i]? = some x → ∃ u, us[i]? = some u ∧ RelP K ρ H x u) → RelPs K ρ H xs us
  | [], [], _, _ => .nil
  | [], _ :: _, h, _ => by simp at h
  | _ :: _, [], h, _ => by simp at h
  | x :: xs, u :: us, h, k => by
    obtain ⟨w, e, r⟩ := k 0 x rfl
    simp at e
    subst e
    exact .mk r (relPs_of (by simpa using h) fun i y hy => by simpa using k (i + 1) y (by simpa using hy))
section
variable {X : Cx} {k : Nat} {f : Addr} {fd : FuncData} {ps : List Str} {sp : Sp} {E : L2.St → XK} {x : Str} {p pos : Pos} {t tk : TA} {CX : CXT}
def tCallSK (sp : Sp) (c : Nat) (ks : List Str) (pm : List Nat) (E : L2.St → XK) (t tk : TA) : TE := fun σ H Q => t σ H fun vs H1 => tk σ H1 fun zs H2 => vs.length = c ∧ zs.length = ks.length ∧ ∃ ys, permL (vs ++ zs) pm = some ys ∧ sp ys H2 Q (E σ)
theorem run_fnSK {pins : List (Addr × Obj)} {σ : L2.St} {H : Hp} {s : Shared} {Q : VK} {us ws : List Value} {vs zs ys : List V} {ks : List Str} {pm : List Nat} {c : Nat} (F : FnOk X.prog X.w X.K X.mg X.base CX k f fd ps sp) (hr : Room k X.A) (hb : KB fd ps c ks pm) (hx : ∀ σ, PassesAt CX X σ (E σ))
    (I : Inv X pins σ H s) (r : Vals vs us) (rz : Vals zs ws) (l1 : vs.length = c) (l2 : zs.length = ks.length) (hp : permL (vs ++ zs) pm = some ys) (h : sp ys H Q (E σ)) : wpAny (model X.prog X.w) X.A (call (.ref f) us (ks.zip ws)) (EP X pins σ Q) X.xe s := by
  obtain ⟨gs, e1, e2⟩ := hb us ws (by rw [← r.length]; exact l1) (by rw [← rz.length]; exact l2)
  have ra := r.append rz
  obtain ⟨gs', e3, l3, g3⟩ := permL_get (R := RelV) (fun i x hi => ra.get hi) hp
  rw [e1] at e3
  cases e3
  refine wpAny_call (codeAny_mono (F.run X.A X.stack s H ⟨us, ks.zip ws⟩ gs ys Q (E σ) hr I.env0 (.of_eq e2) (vals_of l3 g3) h) fun r s' hq => ?_)
  cases r with
  | error e => exact hx σ pins H s e s' I hq
  | ok fl =>
    cases fl with
    | ret u => exact I.after hq
    | next => exact False.elim hq
    | brk => exact False.elim hq
    | cont => exact False.elim hq
theorem pe_callSK {ks : List Str} {pm : List Nat} {c : Nat} {kws : List Keyword} {e : Expr} {es : List Expr} (F : FnOk X.prog X.w X.K X.mg X.base CX k f fd ps sp) (hr : Room k X.A) (hg : Gl X x) (hm : X.mg x = some (.ref f)) (hk : PySem.W.keepIn X.K (.ref f) = true) (hb : KB fd ps c ks pm) (hx : ∀ σ, PassesAt CX X σ (E σ))
    (ha : PA X (e :: es) t) (hkw : PK X kws tk) (hall : (backToKw pos (keywordEach kws X.env)).all (·.1.isSome) = true) (hks : (backToKw pos (keywordEach kws X.env)).filterMap (·.1) = ks)
    (hdb : (x == ("__debug__" : Str)) = false) (he : starEach (e :: es) X.env = (false, eval e X.env) :: starEach es X.env)
    (hpl : ((backTo pos (starEach (e :: es) X.env)).any (·.1) || (backToKw pos (keywordEach kws X.env)).any (·.1.isNone)) = false) :
    PE X (.Call (.Name x p) (e :: es) kws pos) (tCallSK sp c ks pm E t tk) := by
  refine ⟨fun pins s σ H Q I h => ?_⟩
  refine wpAny_Call_Name_kw (ld_glob I hg hm ?_ hdb)
  refine PySem.W.callWith_KW (h₀ := X.base) I.ok.mod.kin hk hall (thn (ha.run pos pins s σ H _ I h) fun us s1 ⟨vs, H1, I1, r, q⟩ => ?_) hpl he
  refine thn (hkw.run pos pins s1 σ H1 _ I1 q) fun ws s2 ⟨zs, H2, I2, rz, l1, l2, ys, hp, q2⟩ => ⟨I2.kIn, ?_⟩
  rw [hks]
  exact run_fnSK F hr hb hx I2 r rz l1 l2 hp q2
theorem pe_callSK0 {ks : List Str} {pm : List Nat} {kws : List Keyword} (F : FnOk X.prog X.w X.K X.mg X.base CX k f fd ps sp) (hr : Room k X.A) (hg : Gl X x) (hm : X.mg x = some (.ref f)) (hk : PySem.W.keepIn X.K (.ref f) = true) (hb : KB fd ps 0 ks pm) (hx : ∀ σ, PassesAt CX X σ (E σ))
    (hkw : PK X kws tk) (hall : (backToKw pos (keywordEach kws X.env)).all (·.1.isSome) = true) (hks : (backToKw pos (keywordEach kws X.env)).filterMap (·.1) = ks)
    (hdb : (x == ("__debug__" : Str)) = false) (hpl : ((backTo pos (starEach [] X.env)).any (·.1) || (backToKw pos (keywordEach kws X.env)).any (·.1.isNone)) = false) :
    PE X (.Call (.Name x p) [] kws pos) (tCallSK sp 0 ks pm E tNil tk) := by
  refine ⟨fun pins s σ H Q I h => ?_⟩
  refine wpAny_Call_Name_kw (ld_glob I hg hm ?_ hdb)
  refine PySem.W.callWith_KW0 (h₀ := X.base) I.ok.mod.kin hk hall ?_ hpl
  have h : tk σ H fun zs H2 => ([] : List V).length = 0 ∧ zs.length = ks.length ∧ ∃ ys, permL ([] ++ zs) pm = some ys ∧ sp ys H2 Q (E σ) := h
  refine thn (hkw.run pos pins s σ H _ I h) fun ws s2 ⟨zs, H2, I2, rz, l1, l2, ys, hp, q2⟩ => ⟨I2.kIn, ?_⟩
  rw [hks]
  exact run_fnSK (us := []) F hr hb hx I2 .nil rz l1 l2 hp q2
end
section
variable {K : Par} {n : Nat} {pr : Pg} {cl : Nat → List PV → Store → Res PV} {W : WX} {N : List Str} {sc : Scope} {fnf : Str → Bool} {X : Cx} {pos : Pos} {a b c : Expr} {ea eb ec : PEnv → Store → Res PV}
theorem g_knil : PK X [] (tAx K W fun _ M => .ok [] M) :=
  pk_nil.imp fun σ H Q ⟨ρ, e, M, he, hm, hp⟩ => hp [] ρ H hm .nil .refl
theorem g_kcons {nm : Option Str} {kpos : Pos} {kws : List Keyword} {er : PEnv → Store → Res (List PV)} (ha : PE X a (tEx K W ea)) (hr : PK X kws (tAx K W er)) :
    PK X (⟨nm, a, kpos⟩ :: kws) (tAx K W fun e M => (ea e M).bind fun x M => (er e M).bind fun xs M => .ok (x :: xs) M) :=
  (pk_cons ha hr).imp fun σ H Q ⟨ρ, e, M, he, hm, hp⟩ => ⟨ρ, e, M, he, hm, hp.bind fun x M1 v ρ1 H1 m1 r1 x1 h1 =>
    ⟨ρ1, e, M1, he.ext x1, m1, h1.bind fun xs M2 us ρ2 H2 m2 r2 x2 h2 => h2 (v :: us) ρ2 H2 m2 (.mk (r1.ext x2) r2) .refl⟩⟩
theorem len_guard {α β : Type} {r : Res (List α)} {g : List α → Store → Res β} {c : Nat} (h : ∀ xs M', r = .ok xs M' → xs.length = c) : r.bind g = r.bind fun xs M => if xs.length = c then g xs M else .bad := by
  cases r with
  | ok xs M' => simp [h xs M' rfl]
  | exc x M' => rfl
  | bad => rfl
theorem g_callK {f : Nat} {x : Str} {p : Pos} {i : FI} {e0 : Expr} {es : List Expr} {kws : List Keyword} {er ek : PEnv → Store → Res (List PV)} {cn : Nat} {ks : List Str} {pm : List Nat} (xo : XOk K n pr cl W N sc fnf X) (hf : pr.fns f = some i) (hx : i.name = x) (hg : Gl X x) (hkw : (cn, ks, pm) ∈ pr.kws f) (ha : PA X (e0 :: es) (tAx K W er)) (hk : PK X kws (tAx K W ek))
    (la : ∀ e M xs M', er e M = .ok xs M' → xs.length = cn) (lk : ∀ e M xs M', ek e M = .ok xs M' → xs.length = ks.length)
    (hall : (backToKw pos (keywordEach kws X.env)).all (·.1.isSome) = true) (hks : (backToKw pos (keywordEach kws X.env)).filterMap (·.1) = ks) (hdb : (x == ("__debug__" : Str)) = false)
    (he : starEach (e0 :: es) X.env = (false, eval e0 X.env) :: starEach es X.env) (hpl : ((backTo pos (starEach (e0 :: es) X.env)).any (·.1) || (backToKw pos (keywordEach kws X.env)).any (·.1.isNone)) = false) :
    PE X (.Call (.Name x p) (e0 :: es) kws pos) (tEx K W fun e M => (er e M).bind fun xs M => (ek e M).bind fun ys M => match permL (xs ++ ys) pm with
      | some zs => cl f zs M
      | none => .bad) := by
  obtain ⟨ad, fd, h1, h2, h3, h4, h5⟩ := xo.pr.fn f i hf
  subst hx
  rw [← xo.K] at h2 h3 h4
  refine (pe_callSK (E := WE W) h4 xo.room hg h1 h2 (h5 cn ks pm hkw) (fun σ => passAt xo.tk σ) ha hk hall hks hdb he hpl).imp fun σ H Q ⟨ρ, e, M, hee, hm, hp⟩ => ⟨ρ, e, M, hee, hm, ?_⟩
  dsimp only at hp
  rw [len_guard (la e M)] at hp
  refine hp.bind fun xs M1 vs ρ1 H1 m1 r1 x1 hq => ?_
  split at hq
  · rename_i l1
    rw [len_guard (lk e M1)] at hq
    refine ⟨ρ1, e, M1, hee.ext x1, m1, hq.bind fun ys M2 ws ρ2 H2 m2 r2 x2 hq2 => ?_⟩
    split at hq2
    · rename_i l2
      refine ⟨by rw [← r1.length]; exact l1, by rw [← r2.length]; exact l2, ?_⟩
      split at hq2
      · rename_i zs hz
        have ra := (RelPs.ext x2 _ r1).append r2
        obtain ⟨gs, e1, e2, e3⟩ := permL_get (R := RelP K ρ2 H2) (fun i x hi => ra.get hi) hz
        exact ⟨gs, e1, ρ2, M2, zs, relPs_of e2 e3, m2, hq2⟩
      · exact hq2.elim
    · exact hq2.elim
  · exact hq.elim
theorem g_callK0 {f : Nat} {x : Str} {p : Pos} {i : FI} {kws : List Keyword} {ek : PEnv → Store → Res (List PV)} {ks : List Str} {pm : List Nat} (xo : XOk K n pr cl W N sc fnf X) (hf : pr.fns f = some i) (hx : i.name = x) (hg : Gl X x) (hkw : (0, ks, pm) ∈ pr.kws f) (hk : PK X kws (tAx K W ek))
    (lk : ∀ e M xs M', ek e M = .ok xs M' → xs.length = ks.length)
    (hall : (backToKw pos (keywordEach kws X.env)).all (·.1.isSome) = true) (hks : (backToKw pos (keywordEach kws X.env)).filterMap (·.1) = ks) (hdb : (x == ("__debug__" : Str)) = false)
    (hpl : ((backTo pos (starEach [] X.env)).any (·.1) || (backToKw pos (keywordEach kws X.env)).any (·.1.isNone)) = false) :
    PE X (.Call (.Name x p) [] kws pos) (tEx K W fun e M => (ek e M).bind fun ys M => match permL ys pm with
      | some zs => cl f zs M
      | none => .bad) := by
  obtain ⟨ad, fd, h1, h2, h3, h4, h5⟩ := xo.pr.fn f i hf
  subst hx
  rw [← xo.K] at h2 h3 h4
  refine (pe_callSK0 (E := WE W) h4 xo.room hg h1 h2 (h5 0 ks pm hkw) (fun σ => passAt xo.tk σ) hk hall hks hdb hpl).imp fun σ H Q ⟨ρ, e, M, hee, hm, hq⟩ => ?_
  dsimp only at hq
  rw [len_guard (lk e M)] at hq
  show tAx K W ek σ H _
  refine ⟨ρ, e, M, hee, hm, hq.bind fun ys M2 ws ρ2 H2 m2 r2 x2 hq2 => ?_⟩
  split at hq2
  · rename_i l2
    refine ⟨rfl, by rw [← r2.length]; exact l2, ?_⟩
    split at hq2
    · rename_i zs hz
      obtain ⟨gs, e1, e2, e3⟩ := permL_get (R := RelP K ρ2 H2) (fun i x hi => r2.get hi) hz
      exact ⟨gs, e1, ρ2, M2, zs, relPs_of e2 e3, m2, hq2⟩
    · exact hq2.elim
  · exact hq2.elim
end
end Q

/-! QK: a text is what it is said to be; then it does what the evaluator says. -/
namespace Q
open PySem PySem.Spec PyProof.Rows L2

structure Ctx where
  sc : Scope
  N : List Str
  fnf : Str → Bool
  pr : Pg
def isLoc (sc : Scope) (x : Str) : Bool := match sc.names.lookup x with
  | some .local => true
  | _ => false
def isCel (sc : Scope) (x : Str) : Bool := match sc.names.lookup x with
  | some .cell => true
  | _ => false
def isFree (sc : Scope) (x : Str) : Bool := match sc.names.lookup x with
  | some .free => true
  | _ => false
def isGlo (sc : Scope) (x : Str) : Bool := match sc.names.lookup x with
  | some .globalImplicit => true
  | _ => false
theorem isLoc_ok {sc : Scope} {x : Str} (h : isLoc sc x = true) : sc.names.lookup x = some .local := by
  unfold isLoc at h
  split at h
  · assumption
  · cases h
theorem isCel_ok {sc : Scope} {x : Str} (h : isCel sc x = true) : sc.names.lookup x = some .cell := by
  unfold isCel at h
  split at h
  · assumption
  · cases h
theorem isFree_ok {sc : Scope} {x : Str} (h : isFree sc x = true) : sc.names.lookup x = some .free := by
  unfold isFree at h
  split at h
  · assumption
  · cases h
theorem isGlo_ok {sc : Scope} {x : Str} (h : isGlo sc x = true) : sc.names.lookup x = some .globalImplicit := by
  unfold isGlo at h
  split at h
  · assumption
  · cases h
def notStar : Expr → Bool
  | .Starred _ _ => false
  | _ => true
def notSlice : Expr → Bool
  | .Slice _ _ _ _ => false
  | _ => true
def notSet : Expr → Bool
  | .Set _ _ _ => false
  | _ => true
def notComp : Expr → Bool
  | .ListComp _ _ _ _ => false
  | .SetComp _ _ _ _ => false
  | .DictComp _ _ _ _ _ => false
  | _ => true
def notCall0 : Expr → Bool
  | .Call (.Name _ _) [] [] _ => false
  | _ => true
theorem star_cons {e : Expr} {es : List Expr} {env : Env} (h : notStar e = true) : starEach (e :: es) env = (false, eval e env) :: starEach es env := by
  cases e <;> first | rfl | cases h
theorem asg_cons {e : Expr} {es : List Expr} {env : Env} (h : notStar e = true) : assignEach (e :: es) env = (false, assign e env) :: assignEach es env := by
  cases e <;> first | rfl | cases h
theorem star_plain {env : Env} {pos : Pos} : ∀ {es : List Expr}, es.all notStar = true → (backTo pos (starEach es env)).any (·.1) = false
  | [], _ => rfl
  | e :: es, h => by
    rw [List.all_cons, Bool.and_eq_true] at h
    rw [star_cons h.1]
    show (false || (backTo pos (starEach es env)).any (·.1)) = false
    rw [star_plain h.2]
    rfl
theorem star_len {env : Env} : ∀ {es : List Expr}, es.all notStar = true → (starEach es env).all (fun x => !x.1) = true
  | [], _ => rfl
  | e :: es, h => by
    rw [List.all_cons, Bool.and_eq_true] at h
    rw [star_cons h.1]
    show (true && (starEach es env).all (fun x => !x.1)) = true
    rw [star_len h.2]
    rfl
theorem few_ok {env : Env} {pos : Pos} {es : List Expr} (h : es.all notStar = true) (hl : es.length < 29) :
    ((backTo pos (starEach es env)).all (fun x => !x.1) && (backToKw pos (keywordEach [] env)).all (fun x => x.1.isSome)
      && decide (es.length + ([] : List Keyword).length + (if ([] : List Keyword).isEmpty then 0 else 1) < 30)) = true := by
  have h1 : (backTo pos (starEach es env)).all (fun x => !x.1) = true := by
    unfold backTo
    rw [List.all_map]
    exact star_len h
  rw [h1]
  have h2 : decide (es.length + ([] : List Keyword).length + (if ([] : List Keyword).isEmpty then 0 else 1) < 30) = true := decide_eq_true (by simp; omega)
  rw [h2]
  rfl
theorem asg_len {env : Env} : ∀ {es : List Expr}, es.all notStar = true → (assignEach es env).length = es.length ∧ (assignEach es env).findIdx? (·.1) = none
  | [], _ => ⟨rfl, rfl⟩
  | e :: es, h => by
    rw [List.all_cons, Bool.and_eq_true] at h
    obtain ⟨h1, h2⟩ := asg_len (env := env) h.2
    rw [asg_cons h.1]
    exact ⟨by rw [List.length_cons, h1]; rfl, by simp [List.findIdx?_cons, h2]⟩
theorem slice_ok {e : Expr} (h : notSlice e = true) : PlainIx e := by
  intro o i
  cases e <;> first | rfl | cases h
theorem set_plain {e : Expr} {env : Env} (h : notSet e = true) : ∀ x, foldedSetIterable e env x = pure x := by
  intro x
  cases e <;> first | rfl | cases h
theorem base_ok {e : Expr} {f : Str} {env : Env} (h : notCall0 e = true) : attributeBase e f env (eval e env) = eval e env := by
  cases e with
  | Call fn as ks p =>
    cases fn with
    | Name x q =>
      cases as with
      | cons _ _ => rfl
      | nil => cases ks with
        | cons _ _ => rfl
        | nil => cases h
    | _ => rfl
  | _ => rfl
theorem swaps_plain {e : Expr} {t : Option Expr} {l : Nat} {env : Env} (h : notComp e = true) : swapsWith e t l env = pure false := by
  cases e <;> first | rfl | cases h

/-! ### the checks -/
def relOwn (N : List Str) (own : List Nat) : List (Str × Nat) := own.filterMap fun i => N[i]?.map fun x => (x, i)
theorem relOwn_snd {N : List Str} : ∀ {own : List Nat}, (own.all fun i => decide (i < N.length)) = true → (relOwn N own).map (·.2) = own
  | [], _ => rfl
  | i :: is, h => by
    rw [List.all_cons, Bool.and_eq_true] at h
    have hi : i < N.length := of_decide_eq_true h.1
    unfold relOwn
    rw [List.filterMap_cons, List.getElem?_eq_getElem hi]
    show i :: (relOwn N is).map (·.2) = _
    rw [relOwn_snd h.2]
def Ctx.blk (c : Ctx) (scope : Scope) : Ctx := { c with sc := relS scope c.sc, fnf := fun x => scope.names.lookup x == some .cell }
mutual
def QT.slots : QT → List Nat
  | .var i => [i]
  | .tup ts => QTs.slots ts
  | .sub _ _ => []
def QTs.slots : QTs → List Nat
  | .nil => []
  | .cons t r => QT.slots t ++ QTs.slots r
end
/-- a test that is told by its parts, or by its value -/
def QE.tst : QE → Bool
  | .ite _ _ _ => false
  | .and a b => QE.tst a && QE.tst b
  | .or a b => QE.tst a && QE.tst b
  | .not a => QE.tst a
  | _ => true
def plainT : Expr → Bool
  | .UnaryOp .Not _ _ => false
  | .BoolOp _ _ _ => false
  | .IfExp _ _ _ _ => false
  | .Compare _ _ _ _ => false
  | _ => true
theorem plainT_ok {e : Expr} {env : Env} (h : plainT e = true) : ∀ whole, isTrue e env whole = (do let v ← whole; standAt e.pos; holding [v] (truthy v)) := by
  intro whole
  cases e with
  | UnaryOp op x p => cases op <;> first | rfl | cases h
  | BoolOp _ _ _ => cases h
  | IfExp _ _ _ _ => cases h
  | Compare _ _ _ _ => cases h
  | _ => rfl
def biName : BI → Str
  | .len => "len" | .int => "int" | .abs => "abs" | .tuple => "tuple" | .list => "list" | .isi => "isinstance" | .max => "max" | .min => "min" | .bool => "bool" | .sorted => "sorted" | .sum => "sum"
def tyStr (n : String) : Str := Str.ofString n
def strIs (x y : Str) : Bool := decide (x = y)
def kwNames : List Keyword → List Str
  | [] => []
  | ⟨some x, _, _⟩ :: r => x :: kwNames r
  | ⟨none, _, _⟩ :: r => kwNames r
theorem kw_names {env : Env} {pos : Pos} : ∀ kws : List Keyword, (backToKw pos (keywordEach kws env)).filterMap (·.1) = kwNames kws
  | [] => rfl
  | ⟨some x, v, p⟩ :: r => by
    show x :: (backToKw pos (keywordEach r env)).filterMap (·.1) = _
    rw [kw_names r]
    rfl
  | ⟨none, v, p⟩ :: r => by
    show (backToKw pos (keywordEach r env)).filterMap (·.1) = _
    rw [kw_names r]
    rfl
mutual
def okE (c : Ctx) : QE → Expr → Bool
  | .var i, e => match e with
    | .Name x _ => decide (c.N[i]? = some x) && ((isLoc c.sc x || isCel c.sc x || isFree c.sc x) && ((x == ("__debug__" : Str)) == false && (x == ("__classdict__" : Str)) == false))
    | _ => false
  | .int i, e => match e with
    | .Constant (.int j) _ _ => decide (i = j)
    | _ => false
  | .bl b, e => match e with
    | .Constant (.bool k) _ _ => b == k
    | _ => false
  | .non, e => match e with
    | .Constant .none _ _ => true
    | _ => false
  | .str x, e => match e with
    | .Constant (.str y) _ _ => decide (x = y)
    | _ => false
  | .ty n, e => match e with
    | .Name x _ => isGlo c.sc x && (decide (x ∈ c.pr.free) && (decide (bootBuiltins x = some (.type n)) && (decide (x ≠ "__name__") && (x == ("__debug__" : Str)) == false)))
    | _ => false
  | .bin o a b, e => match e with
    | .BinOp x op y _ => decide (op = opOf o) && (okE c a x && okE c b y)
    | _ => false
  | .neg a, e => match e with
    | .UnaryOp .USub x _ => okE c a x
    | _ => false
  | .cmp o a b, e => match e with
    | .Compare x [op] [y] _ => decide (op = cmOf o) && (okE c a x && (okE c b y && (behindInMarks op y == false)))
    | _ => false
  | .chain o o' a b d, e => match e with
    | .Compare x [op, op'] [y, z] _ => decide (op = cmOf o) && (decide (op' = cmOf o') && (okE c a x && (okE c b y && (okE c d z && (lastMarks [op, op'] [y, z] == false)))))
    | _ => false
  | .isN a, e => match e with
    | .Compare x [.Is] [.Constant .none _ _] _ => okE c a x
    | _ => false
  | .notN a, e => match e with
    | .Compare x [.IsNot] [.Constant .none _ _] _ => okE c a x
    | _ => false
  | .and a b, e => match e with
    | .BoolOp .And (x :: y :: r) p => okE c a x && (match r with
      | [] => okE c b y
      | _ => okE c b (.BoolOp .And (y :: r) p))
    | _ => false
  | .or a b, e => match e with
    | .BoolOp .Or (x :: y :: r) p => okE c a x && (match r with
      | [] => okE c b y
      | _ => okE c b (.BoolOp .Or (y :: r) p))
    | _ => false
  | .not a, e => match e with
    | .UnaryOp .Not x _ => okE c a x
    | _ => false
  | .ite t a b, e => match e with
    | .IfExp x y z _ => QE.tst t && (okE c t x && (okE c a y && okE c b z))
    | _ => false
  | .call f as, e => match e with
    | .Call (.Name x _) (e0 :: es) [] _ => (match c.pr.fns f with
      | some i => strIs i.name x
      | none => false) && (isGlo c.sc x && ((x == ("__debug__" : Str)) == false && ((e0 :: es).all notStar && okEs c as (e0 :: es))))
    | _ => false
  | .callK f as ks pm, e => match e with
    | .Call (.Name x _) es kws _ => (match c.pr.fns f with
      | some i => strIs i.name x
      | none => false) && (isGlo c.sc x && ((x == ("__debug__" : Str)) == false && (es.all notStar && (decide ((es.length, kwNames kws, pm) ∈ c.pr.kws f) && (okEs c as es && okKs c ks kws)))))
    | _ => false
  | .bi b as, e => match e with
    | .Call (.Name x _) (e0 :: es) [] _ => strIs (biName b) x && (isGlo c.sc x && (decide (x ∈ c.pr.free) && ((e0 :: es).all notStar && okEs c as (e0 :: es))))
    | _ => false
  | .tup as, e => match e with
    | .Tuple es _ _ => es.all notStar && okEs c as es
    | _ => false
  | .lst as, e => match e with
    | .List es _ => es.all notStar && okEs c as es
    | _ => false
  | .ix a b, e => match e with
    | .Subscript x y _ => notSlice y && (okE c a x && okE c b y)
    | _ => false
  | .sl a lo hi, e => match e with
    | .Subscript x (.Slice l h none _) _ => okE c a x && (okO' c lo l && okO' c hi h)
    | _ => false
  | .mt m a as, e => match e with
    | .Call (.Attribute x nm apos) es [] pos => strIs (mtName m) nm && (notCall0 x && ((apos.endLine == pos.line) && (okE c a x && (es.all notStar && (decide (es.length < 29) && okEs c as es)))))
    | _ => false
  | .bits a, e => match e with
    | .Call (.Attribute x nm apos) [] [] pos => strIs nm "bit_length" && (notCall0 x && ((apos.endLine == pos.line) && okE c a x))
    | _ => false
  | .comp elt t it d own, e => match e with
    | .ListComp ee [⟨tg, ie, ifs, k⟩] scope _ => decide (k = 0) && (blkC c.N c.sc scope (relOwn c.N own) && ((own.all fun i => decide (i < c.N.length)) && ((QT.slots t).all (fun j => decide (j ∈ own)) && (notSet ie && (okI c tg it ie && (okT (c.blk scope) t tg && (okC (c.blk scope) d ifs && okE (c.blk scope) elt ee)))))))
    | _ => false
  | .gc a, e => plainT e && okE c a e
  | .dnew, e => match e with
    | .Dict [] [] _ => true
    | _ => false
  | .get1 a k, e => match e with
    | .Call (.Attribute x nm apos) [y] [] pos => strIs nm "get" && (notCall0 x && ((apos.endLine == pos.line) && (notStar y && (okE c a x && okE c k y))))
    | _ => false
  | .get2 a k d, e => match e with
    | .Call (.Attribute x nm apos) [y, z] [] pos => strIs nm "get" && (notCall0 x && ((apos.endLine == pos.line) && (notStar y && (notStar z && (okE c a x && (okE c k y && okE c d z))))))
    | _ => false
  | .sset a, e => match e with
    | .Call (.Name x _) [.Call (.Name z _) [y] [] _] [] _ => strIs x "sorted" && (strIs z "set" && (isGlo c.sc x && (isGlo c.sc z && (decide (x ∈ c.pr.free) && (decide (z ∈ c.pr.free) && (notStar y && okE c a y))))))
    | _ => false
def okEs (c : Ctx) : QEs → List Expr → Bool
  | .nil, es => match es with
    | [] => true
    | _ => false
  | .cons a r, es => match es with
    | e :: es => okE c a e && okEs c r es
    | [] => false
def okKs (c : Ctx) : QEs → List Keyword → Bool
  | .nil, es => match es with
    | [] => true
    | _ => false
  | .cons a r, es => match es with
    | ⟨some _, e, _⟩ :: es => okE c a e && okKs c r es
    | _ => false
def okO' (c : Ctx) : QO → Option Expr → Bool
  | .none, o => match o with
    | none => true
    | some _ => false
  | .some a, o => match o with
    | some e => okE c a e
    | none => false
def okC (c : Ctx) : QO → List Expr → Bool
  | .none, es => match es with
    | [] => true
    | _ => false
  | .some a, es => match es with
    | [e] => QE.tst a && okE c a e
    | _ => false
def okT (c : Ctx) : QT → Expr → Bool
  | .var i, e => match e with
    | .Name x _ => decide (c.N[i]? = some x) && (isLoc c.sc x || (isCel c.sc x && c.fnf x))
    | _ => false
  | .tup ts, e => match e with
    | .Tuple es _ _ => es.all notStar && okTs c ts es
    | _ => false
  | .sub a b, e => match e with
    | .Subscript x y _ => notSlice y && (okE c a x && okE c b y)
    | _ => false
def okTs (c : Ctx) : QTs → List Expr → Bool
  | .nil, es => match es with
    | [] => true
    | _ => false
  | .cons t r, es => match es with
    | e :: es => okT c t e && okTs c r es
    | [] => false
def okI (c : Ctx) (tg : Expr) : QI → Expr → Bool
  | .list a, e => okE c a e
  | .tup a, e => okE c a e
  | .rng1 a, e => match e with
    | .Call (.Name x _) [y] [] _ => strIs x "range" && (isGlo c.sc x && (decide (x ∈ c.pr.free) && (notStar y && okE c a y)))
    | _ => false
  | .rng2 a b, e => match e with
    | .Call (.Name x _) [y, z] [] _ => strIs x "range" && (isGlo c.sc x && (decide (x ∈ c.pr.free) && (notStar y && (notStar z && (okE c a y && okE c b z)))))
    | _ => false
  | .enum a, e => match e, tg with
    | .Call (.Name x _) [y] [] _, .Tuple _ _ _ => strIs x "enumerate" && (isGlo c.sc x && (decide (x ∈ c.pr.free) && (notStar y && okE c a y)))
    | _, _ => false
end
end Q

/-! QL: expressions do what the evaluator says. -/
namespace Q
open PySem PySem.Spec PyProof.Rows L2
theorem an {a b : Bool} (h : (a && b) = true) : a = true ∧ b = true := Bool.and_eq_true_iff.mp h
theorem nf {a : Bool} (h : (a == false) = true) : a = false := by
  cases a
  · rfl
  · cases h
section
variable {K : Par} {n : Nat} {cl : Nat → List PV → Store → Res PV} {W : WX} {X : Cx}
theorem XOk.blk {pr : Pg} {N : List Str} {sc : Scope} {fnf : Str → Bool} (xo : XOk K n pr cl W N sc fnf X) {scope : Scope} (hk : scope.kind = .function) (s : Shared) (H : Hp) (C : Addr) (l : List (Str × Addr)) (fp : List Addr) :
    XOk K n pr cl W0 N (relS scope sc) (fun x => scope.names.lookup x == some .cell) (X.blk s H scope (compEnvC scope l C X.env) fp) where
  pr := xo.pr
  K := xo.K
  N := xo.N
  sc := by
    show relS scope X.env.scope = relS scope sc
    rw [xo.sc]
  fn := rfl
  calm := xo.calm
  nd := xo.nd
  room := xo.room
  tk := fun u s' ⟨_, _, _, _, _, _, _, _, _, _, _, _, _, _, _, _, w⟩ => w.elim
  kind := hk
variable {pr : Pg} {N : List Str} {sc : Scope} {fnf : Str → Bool}
theorem XOk.gl (xo : XOk K n pr cl W N sc fnf X) {x : Str} (h : isGlo sc x = true) : Gl X x := by
  show X.env.scope.names.lookup x = some .globalImplicit
  rw [xo.sc]
  exact isGlo_ok h
theorem XOk.slot (xo : XOk K n pr cl W N sc fnf X) {x : Str} {i : Nat} (h : decide (N[i]? = some x) = true) : X.N[i]? = some x := by
  rw [xo.N]
  exact of_decide_eq_true h
theorem pe_ty {v : V} {u : Value} {x : Str} {pos : Pos} (hg : Gl X x) (hm : X.mg x = none) (hv : bootBuiltins x = some u) (r : RelV v u) (hn : x ≠ "__name__") (hd : (x == ("__debug__" : Str)) = false) : PE X (.Name x pos) (tC v) := pe_bltn hg hm hv r hn hd
/-- a test by the value -/
theorem both {e : Expr} {ev : PEnv → Store → Res PV} (hK : X.K = K.F) (h : PE X e (tEx K W ev)) (hp : plainT e = true) {b : Bool} : PE X e (tEx K W ev) ∧ (b = true → PT X e (tTx K W (tst ev))) := ⟨h, fun _ => gt_plain hK h (plainT_ok hp)⟩
theorem bi_cases (b : BI) : (∃ id, biVal b = .builtin id ∧ bootBuiltins (biName b) = some (.builtin id)) ∨ (∃ T, biVal b = .type T ∧ bootBuiltins (biName b) = some (.type T)) := by
  cases b
  · exact .inl ⟨_, rfl, by decide +kernel⟩
  · exact .inr ⟨_, rfl, by decide +kernel⟩
  · exact .inl ⟨_, rfl, by decide +kernel⟩
  · exact .inr ⟨_, rfl, by decide +kernel⟩
  · exact .inr ⟨_, rfl, by decide +kernel⟩
  · exact .inl ⟨_, rfl, by decide +kernel⟩
  · exact .inl ⟨_, rfl, by decide +kernel⟩
  · exact .inl ⟨_, rfl, by decide +kernel⟩
  · exact .inr ⟨_, rfl, by decide +kernel⟩
  · exact .inl ⟨_, rfl, by decide +kernel⟩
  · exact .inl ⟨_, rfl, by decide +kernel⟩
theorem bi_name (b : BI) : biName b ≠ "__name__" ∧ (biName b == ("__debug__" : Str)) = false := by
  cases b <;> exact ⟨by decide +kernel, by decide +kernel⟩
end
section
variable {K : Par} {n : Nat} {cl : Nat → List PV → Store → Res PV}
theorem evTs_len (cl : Nat → List PV → Store → Res PV) {c : Ctx} : ∀ {ts : QTs} {es : List Expr}, okTs c ts es = true → ∀ xs e M, xs.length ≠ es.length → evTs cl ts xs e M = .bad
  | .nil, es, h, xs, e, M, hl => by
    unfold okTs at h
    split at h
    · cases xs with
      | nil => exact absurd rfl hl
      | cons x xs => unfold evTs; rfl
    · cases h
  | .cons t r, es, h, xs, e, M, hl => by
    unfold okTs at h
    split at h
    · obtain ⟨h1, h2⟩ := an h
      cases xs with
      | nil => unfold evTs; rfl
      | cons x xs =>
        unfold evTs
        cases h3 : evT cl t x e M with
        | ok e1 M1 =>
          show (evTs cl r xs e1 M1).noexc = .bad
          rw [evTs_len cl h2 xs e1 M1 (by simp at hl; exact hl)]
          rfl
        | exc y M1 => rfl
        | bad => rfl
    · cases h
theorem qt_star {c : Ctx} {t : QT} {e : Expr} (h : okT c t e = true) : notStar e = true := by
  cases t <;> (unfold okT at h; split at h <;> first | rfl | cases h)
def QEs.len : QEs → Nat
  | .nil => 0
  | .cons _ r => r.len + 1
theorem evEs_len (cl : Nat → List PV → Store → Res PV) : ∀ {as : QEs} {e : PEnv} {M : Store} {xs : List PV} {M' : Store}, evEs cl as e M = .ok xs M' → xs.length = as.len
  | .nil, e, M, xs, M', h => by
    unfold evEs at h
    cases h
    rfl
  | .cons a r, e, M, xs, M', h => by
    unfold evEs at h
    cases h1 : evE cl a e M with
    | ok x M1 =>
      rw [h1] at h
      simp only [Res.bind_ok] at h
      cases h2 : evEs cl r e M1 with
      | ok ys M2 =>
        rw [h2] at h
        simp only [Res.bind_ok] at h
        cases h
        rw [List.length_cons, evEs_len cl h2]
        rfl
      | exc y M2 => rw [h2] at h; cases h
      | bad => rw [h2] at h; cases h
    | exc y M1 => rw [h1] at h; cases h
    | bad => rw [h1] at h; cases h
theorem okEs_len {c : Ctx} : ∀ {as : QEs} {es : List Expr}, okEs c as es = true → as.len = es.length
  | .nil, es, h => by
    unfold okEs at h
    split at h
    · rfl
    · cases h
  | .cons a r, es, h => by
    unfold okEs at h
    split at h
    · rw [List.length_cons, ← okEs_len (an h).2]; rfl
    · cases h
theorem okKs_len {c : Ctx} : ∀ {as : QEs} {es : List Keyword}, okKs c as es = true → as.len = (kwNames es).length
  | .nil, es, h => by
    unfold okKs at h
    split at h
    · rfl
    · cases h
  | .cons a r, es, h => by
    unfold okKs at h
    split at h
    · unfold kwNames
      rw [List.length_cons, ← okKs_len (an h).2]; rfl
    · cases h
theorem kw_all {c : Ctx} {env : Env} {pos : Pos} : ∀ {as : QEs} {es : List Keyword}, okKs c as es = true → (backToKw pos (keywordEach es env)).all (·.1.isSome) = true
  | .nil, es, h => by
    unfold okKs at h
    split at h
    · rfl
    · cases h
  | .cons a r, es, h => by
    unfold okKs at h
    split at h
    · rename_i x e p es
      show (true && (backToKw pos (keywordEach es env)).all (·.1.isSome)) = true
      rw [kw_all (an h).2]; rfl
    · cases h
theorem kw_any {c : Ctx} {env : Env} {pos : Pos} : ∀ {as : QEs} {es : List Keyword}, okKs c as es = true → (backToKw pos (keywordEach es env)).any (·.1.isNone) = false
  | .nil, es, h => by
    unfold okKs at h
    split at h
    · rfl
    · cases h
  | .cons a r, es, h => by
    unfold okKs at h
    split at h
    · rename_i x e p es
      show (false || (backToKw pos (keywordEach es env)).any (·.1.isNone)) = false
      rw [kw_any (an h).2]; rfl
    · cases h
mutual
theorem sE : ∀ (q : QE) (c : Ctx) (W : WX) (X : Cx), XOk K n c.pr cl W c.N c.sc c.fnf X → ∀ e : Expr, okE c q e = true → PE X e (tEx K W (evE cl q)) ∧ (q.tst = true → PT X e (tTx K W (tst (evE cl q))))
  | .var i, c, W, X, xo, e, h => by
    unfold okE at h
    split at h
    · rename_i x p
      obtain ⟨h1, h⟩ := an h
      obtain ⟨h2, h⟩ := an h
      obtain ⟨h3, h4⟩ := an h
      refine both xo.K (g_var (xo.slot h1) ?_ (nf h3) (nf h4)) rfl
      rw [xo.sc]
      rw [Bool.or_eq_true, Bool.or_eq_true] at h2
      rcases h2 with (h2 | h2) | h2
      · exact .inl (isLoc_ok h2)
      · exact .inr (.inl (isCel_ok h2))
      · exact .inr (.inr (isFree_ok h2))
    · cases h
  | .int i, c, W, X, xo, e, h => by
    unfold okE at h
    split at h
    · have e1 := of_decide_eq_true h
      subst e1
      exact both xo.K (g_const (v := .int _) pe_int (fun e M => by unfold evE; rfl) fun ρ H => relP_int.mpr rfl) rfl
    · cases h
  | .bl b, c, W, X, xo, e, h => by
    unfold okE at h
    split at h
    · have e1 := eq_of_beq h
      subst e1
      exact both xo.K (g_const (v := .bl _) pe_bl (fun e M => by unfold evE; rfl) fun ρ H => relP_bl.mpr rfl) rfl
    · cases h
  | .non, c, W, X, xo, e, h => by
    unfold okE at h
    split at h
    · exact both xo.K (g_const (v := .non) pe_non (fun e M => by unfold evE; rfl) fun ρ H => relP_non.mpr rfl) rfl
    · cases h
  | .str x, c, W, X, xo, e, h => by
    unfold okE at h
    split at h
    · have e1 := of_decide_eq_true h
      subst e1
      exact both xo.K (g_const (v := .str _) pe_str (fun e M => by unfold evE; rfl) fun ρ H => relP_str.mpr rfl) rfl
    · cases h
  | .ty t, c, W, X, xo, e, h => by
    unfold okE at h
    split at h
    · obtain ⟨h1, h⟩ := an h
      obtain ⟨h2, h⟩ := an h
      obtain ⟨h3, h⟩ := an h
      obtain ⟨h4, h5⟩ := an h
      exact both xo.K (g_const (v := .ty t) (pe_ty (v := .ty t) (xo.gl h1) (xo.pr.free _ (of_decide_eq_true h2)) (of_decide_eq_true h3) rfl (of_decide_eq_true h4) (nf h5)) (fun e M => by unfold evE; rfl) fun ρ H => relP_ty.mpr rfl) rfl
    · cases h
  | .bin o a b, c, W, X, xo, e, h => by
    unfold okE at h
    split at h
    · obtain ⟨h1, h⟩ := an h
      obtain ⟨h2, h3⟩ := an h
      have e1 := of_decide_eq_true h1
      subst e1
      exact both xo.K ((g_bin (ok_bin xo.K o) (sE a c W X xo _ h2).1 (sE b c W X xo _ h3).1).eq fun e M => by (conv => lhs; unfold evE); first | done | rfl) rfl
    · cases h
  | .neg a, c, W, X, xo, e, h => by
    unfold okE at h
    split at h
    · exact both xo.K ((g_neg (sE a c W X xo _ h).1).eq fun e M => by (conv => lhs; unfold evE); first | done | rfl) rfl
    · cases h
  | .cmp o a b, c, W, X, xo, e, h => by
    unfold okE at h
    split at h
    · obtain ⟨h1, h⟩ := an h
      obtain ⟨h2, h⟩ := an h
      obtain ⟨h3, h4⟩ := an h
      have e1 := of_decide_eq_true h1
      subst e1
      have ho := ok_cmp (X := X) (K := K) xo.K xo.units o
      exact ⟨(g_cmp ho (sE a c W X xo _ h2).1 (sE b c W X xo _ h3).1 (nf h4)).eq fun e M => by (conv => lhs; unfold evE); first | done | rfl, fun _ => (gt_cmp ho (sE a c W X xo _ h2).1 (sE b c W X xo _ h3).1 (nf h4)).eq fun e M => by (conv => lhs; unfold evE); first | done | rfl⟩
    · cases h
  | .chain o o' a b d, c, W, X, xo, e, h => by
    unfold okE at h
    split at h
    · obtain ⟨h1, h⟩ := an h
      obtain ⟨h2, h⟩ := an h
      obtain ⟨h3, h⟩ := an h
      obtain ⟨h4, h⟩ := an h
      obtain ⟨h5, h6⟩ := an h
      have e1 := of_decide_eq_true h1
      have e2 := of_decide_eq_true h2
      subst e1 e2
      have ho := ok_cmp (X := X) (K := K) xo.K xo.units o
      have ho' := ok_cmp (X := X) (K := K) xo.K xo.units o'
      have ha := (sE a c W X xo _ h3).1
      have hb := (sE b c W X xo _ h4).1
      have hd := (sE d c W X xo _ h5).1
      exact ⟨(g_chain ho ho' ha hb hd (nf h6)).eq fun e M => by (conv => lhs; unfold evE); first | done | rfl, fun _ => (gt_chain ho ho' ha hb hd (nf h6)).eq fun e M => by (conv => lhs; unfold evE); first | done | rfl⟩
    · cases h
  | .isN a, c, W, X, xo, e, h => by
    unfold okE at h
    split at h
    · exact ⟨(g_isN (sE a c W X xo _ h).1).eq fun e M => by (conv => lhs; unfold evE); first | done | rfl, fun _ => (gt_isN (sE a c W X xo _ h).1).eq fun e M => by (conv => lhs; unfold evE); first | done | rfl⟩
    · cases h
  | .notN a, c, W, X, xo, e, h => by
    unfold okE at h
    split at h
    · exact ⟨(g_notN (sE a c W X xo _ h).1).eq fun e M => by (conv => lhs; unfold evE); first | done | rfl, fun _ => (gt_notN (sE a c W X xo _ h).1).eq fun e M => by (conv => lhs; unfold evE); first | done | rfl⟩
    · cases h
  | .and a b, c, W, X, xo, e, h => by
    unfold okE at h
    split at h
    · rename_i x y r p
      obtain ⟨h1, h⟩ := an h
      have ha := sE a c W X xo _ h1
      have hb : PE X (.BoolOp .And (y :: r) p) (tEx K W (evE cl b)) ∧ (b.tst = true → PW X (.BoolOp .And (y :: r) p) (tTx K W (tst (evE cl b)))) := by
        cases r with
        | nil =>
          have hb := sE b c W X xo _ h
          exact ⟨pe_one hb.1, fun ht => pw_and1 (hb.2 ht)⟩
        | cons z r =>
          have hb := sE b c W X xo _ h
          exact ⟨hb.1, fun ht => sW b c W X xo _ _ _ h ht⟩
      refine ⟨(g_and xo.K ha.1 hb.1).eq fun e M => by (conv => lhs; unfold evE); first | done | rfl, fun ht => ?_⟩
      unfold QE.tst at ht
      obtain ⟨t1, t2⟩ := an ht
      exact PW.pt ((gw_and (ha.2 t1) (hb.2 t2)).eq fun e M => by (conv => lhs; unfold evE); first | done | rfl)
    · cases h
  | .or a b, c, W, X, xo, e, h => by
    unfold okE at h
    split at h
    · rename_i x y r p
      obtain ⟨h1, h⟩ := an h
      have ha := sE a c W X xo _ h1
      have hb : PE X (.BoolOp .Or (y :: r) p) (tEx K W (evE cl b)) ∧ (b.tst = true → PW X (.BoolOp .Or (y :: r) p) (tTx K W (tst (evE cl b)))) := by
        cases r with
        | nil =>
          have hb := sE b c W X xo _ h
          exact ⟨pe_one hb.1, fun ht => pw_or1 (hb.2 ht)⟩
        | cons z r =>
          have hb := sE b c W X xo _ h
          exact ⟨hb.1, fun ht => sW b c W X xo _ _ _ h ht⟩
      refine ⟨(g_or xo.K ha.1 hb.1).eq fun e M => by (conv => lhs; unfold evE); first | done | rfl, fun ht => ?_⟩
      unfold QE.tst at ht
      obtain ⟨t1, t2⟩ := an ht
      exact PW.pt ((gw_or (ha.2 t1) (hb.2 t2)).eq fun e M => by (conv => lhs; unfold evE); first | done | rfl)
    · cases h
  | .not a, c, W, X, xo, e, h => by
    unfold okE at h
    split at h
    · have ha := sE a c W X xo _ h
      exact ⟨(g_not xo.K ha.1).eq fun e M => by (conv => lhs; unfold evE); first | done | rfl, fun ht => (gt_not (ha.2 (by unfold QE.tst at ht; exact ht))).eq fun e M => by (conv => lhs; unfold evE); first | done | rfl⟩
    · cases h
  | .ite t a b, c, W, X, xo, e, h => by
    unfold okE at h
    split at h
    · obtain ⟨h1, h⟩ := an h
      obtain ⟨h2, h⟩ := an h
      obtain ⟨h3, h4⟩ := an h
      exact ⟨(g_ite ((sE t c W X xo _ h2).2 h1) (sE a c W X xo _ h3).1 (sE b c W X xo _ h4).1).eq fun e M => by (conv => lhs; unfold evE); first | done | rfl, fun ht => by unfold QE.tst at ht; cases ht⟩
    · cases h
  | .call f as, c, W, X, xo, e, h => by
    unfold okE at h
    split at h
    · obtain ⟨h1, h⟩ := an h
      obtain ⟨h2, h⟩ := an h
      obtain ⟨h3, h⟩ := an h
      obtain ⟨h4, h5⟩ := an h
      split at h1
      · rename_i i hf
        have hA := sEs as c W X xo _ h4 h5
        have hs := h4
        rw [List.all_cons, Bool.and_eq_true] at hs
        exact both xo.K ((g_call xo hf (of_decide_eq_true h1) (xo.gl h2) hA (nf h3) (star_cons hs.1) (star_plain hs.2)).eq fun e M => by (conv => lhs; unfold evE); first | done | rfl) rfl
      · cases h1
    · cases h
  | .callK f as ks pm, c, W, X, xo, e, h => by
    unfold okE at h
    split at h
    · rename_i x p es kws pos
      obtain ⟨h1, h⟩ := an h
      obtain ⟨h2, h⟩ := an h
      obtain ⟨h3, h⟩ := an h
      obtain ⟨h4, h⟩ := an h
      obtain ⟨h5, h⟩ := an h
      obtain ⟨h6, h7⟩ := an h
      split at h1
      · rename_i i hf
        have hA := sEs as c W X xo _ h4 h6
        have hk := sKs ks c W X xo _ h7
        have hall := fun pos => kw_all (env := X.env) (pos := pos) h7
        have hany := fun pos => kw_any (env := X.env) (pos := pos) h7
        cases es with
        | nil =>
          cases as with
          | nil =>
            exact both xo.K ((g_callK0 xo hf (of_decide_eq_true h1) (xo.gl h2) (of_decide_eq_true h5) hk (fun e M xs M' e1 => by rw [evEs_len cl e1, okKs_len h7]) (hall _) (kw_names kws) (nf h3) (by rw [hany]; rfl)).eq fun e M => by
              have hnil : evEs cl .nil e M = .ok [] M := by unfold evEs; rfl
              (conv => lhs; unfold evE)
              show (evEs cl .nil e M).bind _ = _
              rw [hnil]
              rfl) rfl
          | cons _ _ => unfold okEs at h6; cases h6
        | cons e0 es =>
          have hs := h4
          rw [List.all_cons, Bool.and_eq_true] at hs
          exact both xo.K ((g_callK xo hf (of_decide_eq_true h1) (xo.gl h2) (of_decide_eq_true h5) hA hk (fun e M xs M' e1 => by rw [evEs_len cl e1, okEs_len h6]) (fun e M xs M' e1 => by rw [evEs_len cl e1, okKs_len h7]) (hall _) (kw_names kws) (nf h3) (star_cons hs.1) (by rw [hany, star_plain h4]; rfl)).eq fun e M => by (conv => lhs; unfold evE); first | done | rfl) rfl
      · cases h1
    · cases h
  | .bi b as, c, W, X, xo, e, h => by
    unfold okE at h
    split at h
    · obtain ⟨h1, h⟩ := an h
      obtain ⟨h2, h⟩ := an h
      obtain ⟨h3, h⟩ := an h
      obtain ⟨h4, h5⟩ := an h
      have e1 : biName b = _ := of_decide_eq_true h1
      subst e1
      have hA := sEs as c W X xo _ h4 h5
      have hs := h4
      rw [List.all_cons, Bool.and_eq_true] at hs
      have hm := xo.pr.free _ (of_decide_eq_true h3)
      obtain ⟨n1, n2⟩ := bi_name b
      rcases bi_cases b with ⟨id, k1, k2⟩ | ⟨T, k1, k2⟩
      · exact both xo.K ((g_bi k1 xo (xo.gl h2) hm k2 hA n1 n2 (star_cons hs.1) (star_plain hs.2)).eq fun e M => by (conv => lhs; unfold evE); first | done | rfl) rfl
      · exact both xo.K ((g_biT k1 xo (xo.gl h2) hm k2 hA n1 n2 (star_cons hs.1) (star_plain hs.2)).eq fun e M => by (conv => lhs; unfold evE); first | done | rfl) rfl
    · cases h
  | .tup as, c, W, X, xo, e, h => by
    unfold okE at h
    split at h
    · obtain ⟨h1, h2⟩ := an h
      exact both xo.K ((g_tup (sEs as c W X xo _ h1 h2)).eq fun e M => by (conv => lhs; unfold evE); first | done | rfl) rfl
    · cases h
  | .lst as, c, W, X, xo, e, h => by
    unfold okE at h
    split at h
    · obtain ⟨h1, h2⟩ := an h
      exact both xo.K ((g_lst (sEs as c W X xo _ h1 h2)).eq fun e M => by (conv => lhs; unfold evE); first | done | rfl) rfl
    · cases h
  | .ix a b, c, W, X, xo, e, h => by
    unfold okE at h
    split at h
    · obtain ⟨h1, h⟩ := an h
      obtain ⟨h2, h3⟩ := an h
      exact both xo.K ((g_ix xo.K xo.units (sE a c W X xo _ h2).1 (sE b c W X xo _ h3).1 (slice_ok h1)).eq fun e M => by (conv => lhs; unfold evE); first | done | rfl) rfl
    · cases h
  | .sl a lo hi, c, W, X, xo, e, h => by
    unfold okE at h
    split at h
    · obtain ⟨h1, h⟩ := an h
      obtain ⟨h2, h3⟩ := an h
      exact both xo.K ((g_sl xo.K (sE a c W X xo _ h1).1 (sO lo c W X xo _ h2) (sO hi c W X xo _ h3)).eq fun e M => by (conv => lhs; unfold evE); first | done | rfl) rfl
    · cases h
  | .mt m a as, c, W, X, xo, e, h => by
    unfold okE at h
    split at h
    · rename_i x nm apos es pos
      obtain ⟨h1, h⟩ := an h
      obtain ⟨h2, h⟩ := an h
      obtain ⟨h3, h⟩ := an h
      obtain ⟨h4, h⟩ := an h
      obtain ⟨h5, h⟩ := an h
      obtain ⟨h6, h7⟩ := an h
      have e1 : mtName m = _ := of_decide_eq_true h1
      subst e1
      have ha := (sE a c W X xo _ h4).1
      have hA := sEs as c W X xo _ h5 h7
      cases es with
      | nil =>
        cases as with
        | nil => exact both xo.K ((g_mt0 xo.K ha (base_ok h2) h3).eq fun e M => by (conv => lhs; unfold evE evEs); first | done | rfl) rfl
        | cons _ _ => unfold okEs at h7; cases h7
      | cons e0 es =>
        have hs := h5
        rw [List.all_cons, Bool.and_eq_true] at hs
        exact both xo.K ((g_mt xo.K ha hA (base_ok h2) (few_ok h5 (of_decide_eq_true h6)) h3 (star_cons hs.1) (star_plain hs.2)).eq fun e M => by (conv => lhs; unfold evE); first | done | rfl) rfl
    · cases h
  | .bits a, c, W, X, xo, e, h => by
    unfold okE at h
    split at h
    · obtain ⟨h1, h⟩ := an h
      obtain ⟨h2, h⟩ := an h
      obtain ⟨h3, h4⟩ := an h
      have e1 := of_decide_eq_true h1
      subst e1
      exact both xo.K ((g_bits (sE a c W X xo _ h4).1 (base_ok h2) h3).eq fun e M => by (conv => lhs; unfold evE); first | done | rfl) rfl
    · cases h
  | .comp elt t it d own, c, W, X, xo, e, h => by
    unfold okE at h
    split at h
    · rename_i ee tg ie ifs k scope pos
      obtain ⟨h0, h⟩ := an h
      obtain ⟨h1, h⟩ := an h
      obtain ⟨h2, h⟩ := an h
      obtain ⟨h3, h⟩ := an h
      obtain ⟨h4, h⟩ := an h
      obtain ⟨h5, h⟩ := an h
      obtain ⟨h6, h⟩ := an h
      obtain ⟨h7, h8⟩ := an h
      have e0 := of_decide_eq_true h0
      subst e0
      have hb := blkOk_by h1
      have hb' : BlkOk X.N X.env.scope scope (relOwn c.N own) := by
        rw [xo.N, xo.sc]
        exact hb
      have hi := sI it tg c W X xo _ h5
      have hg := fun s H C l fp => sT t (c.blk scope) W0 _ (xo.blk hb.kind s H C l fp) _ h6
      have ht := fun s H C l fp => sC d (c.blk scope) W0 _ (xo.blk hb.kind s H C l fp) _ h7
      have he := fun s H C l fp => (sE elt (c.blk scope) W0 _ (xo.blk hb.kind s H C l fp) _ h8).1
      refine both xo.K (PE.imp (pe_lc xo.calm xo.nd hi hb' hg ht he (set_plain h4)) fun σ H Q z => ?_) rfl
      rw [relOwn_snd h2]
      refine comp_read (sl := QT.slots t) (fun j hj => of_decide_eq_true (List.all_eq_true.mp h3 j hj)) rfl rfl rfl rfl ?_
      rw [show (fun e M => (evI cl it e M).bind fun src M => (compL src.still (fun x M => evT cl t x (wipeVs e own) M) (fun e' M => evC cl d e' M) (fun e' M => evE cl elt e' M) src.items [] M).bind fun ys M => .ok (.ref M.length) (M ++ [.lst ys])) = evE cl (.comp elt t it d own) from by
        funext e M
        (conv => rhs; unfold evE)
        first | done | rfl]
      exact z
    · cases h
  | .dnew, c, W, X, xo, e, h => by
    unfold okE at h
    split at h
    · exact both xo.K (g_dnew.eq fun e M => by (conv => lhs; unfold evE); first | done | rfl) rfl
    · cases h
  | .get1 a k, c, W, X, xo, e, h => by
    unfold okE at h
    split at h
    · obtain ⟨h1, h⟩ := an h
      obtain ⟨h2, h⟩ := an h
      obtain ⟨h3, h⟩ := an h
      obtain ⟨h4, h⟩ := an h
      obtain ⟨h5, h6⟩ := an h
      have e1 := of_decide_eq_true h1
      subst e1
      exact both xo.K ((g_get1 xo.units (sE a c W X xo _ h5).1 (sE k c W X xo _ h6).1 ⟨base_ok h2, few_ok (by simp [h4]) (by simp), h3, by rw [star_cons h4]; rfl⟩).eq fun e M => by (conv => lhs; unfold evE); first | done | rfl) rfl
    · cases h
  | .sset a, c, W, X, xo, e, h => by
    unfold okE at h
    split at h
    · obtain ⟨h1, h⟩ := an h
      obtain ⟨h2, h⟩ := an h
      obtain ⟨h3, h⟩ := an h
      obtain ⟨h4, h⟩ := an h
      obtain ⟨h5, h⟩ := an h
      obtain ⟨h6, h⟩ := an h
      obtain ⟨h7, h8⟩ := an h
      have e1 := of_decide_eq_true h1
      have e2 := of_decide_eq_true h2
      subst e1
      subst e2
      exact both xo.K ((g_sset xo (xo.gl h3) (xo.pr.free _ (of_decide_eq_true h5)) (xo.gl h4) (xo.pr.free _ (of_decide_eq_true h6)) (sE a c W X xo _ h8).1 (by rw [star_cons h7]; rfl)).eq fun e M => by (conv => lhs; unfold evE); first | done | rfl) rfl
    · cases h
  | .get2 a k d, c, W, X, xo, e, h => by
    unfold okE at h
    split at h
    · obtain ⟨h1, h⟩ := an h
      obtain ⟨h2, h⟩ := an h
      obtain ⟨h3, h⟩ := an h
      obtain ⟨h4, h⟩ := an h
      obtain ⟨h5, h⟩ := an h
      obtain ⟨h6, h⟩ := an h
      obtain ⟨h7, h8⟩ := an h
      have e1 := of_decide_eq_true h1
      subst e1
      exact both xo.K ((g_get2 xo.units (sE a c W X xo _ h6).1 (sE k c W X xo _ h7).1 (sE d c W X xo _ h8).1 ⟨base_ok h2, few_ok (by simp [h4, h5]) (by simp), h3, by rw [star_cons h4, star_cons h5]; rfl⟩).eq fun e M => by (conv => lhs; unfold evE); first | done | rfl) rfl
    · cases h
  | .gc a, c, W, X, xo, e, h => by
    unfold okE at h
    obtain ⟨h1, h2⟩ := an h
    exact both xo.K ((g_gc (sE a c W X xo _ h2).1).eq fun e M => by (conv => lhs; unfold evE); first | done | rfl) h1
/-- a further part of an and, an or -/
theorem sW : ∀ (q : QE) (c : Ctx) (W : WX) (X : Cx), XOk K n c.pr cl W c.N c.sc c.fnf X → ∀ (op : BoolOp) (xs : List Expr) (p : Pos), okE c q (.BoolOp op xs p) = true → q.tst = true → PW X (.BoolOp op xs p) (tTx K W (tst (evE cl q)))
  | .and a b, c, W, X, xo, op, xs, p, h, ht => by
    unfold okE at h
    split at h
    · rename_i x y r p' heq
      cases heq
      obtain ⟨h1, h⟩ := an h
      unfold QE.tst at ht
      obtain ⟨t1, t2⟩ := an ht
      have ha := (sE a c W X xo _ h1).2 t1
      have hb : PW X (.BoolOp .And (y :: r) p) (tTx K W (tst (evE cl b))) := by
        cases r with
        | nil => exact pw_and1 ((sE b c W X xo _ h).2 t2)
        | cons z r => exact sW b c W X xo _ _ _ h t2
      exact (gw_and ha hb).eq fun e M => by (conv => lhs; unfold evE); first | done | rfl
    · cases h
  | .or a b, c, W, X, xo, op, xs, p, h, ht => by
    unfold okE at h
    split at h
    · rename_i x y r p' heq
      cases heq
      obtain ⟨h1, h⟩ := an h
      unfold QE.tst at ht
      obtain ⟨t1, t2⟩ := an ht
      have ha := (sE a c W X xo _ h1).2 t1
      have hb : PW X (.BoolOp .Or (y :: r) p) (tTx K W (tst (evE cl b))) := by
        cases r with
        | nil => exact pw_or1 ((sE b c W X xo _ h).2 t2)
        | cons z r => exact sW b c W X xo _ _ _ h t2
      exact (gw_or ha hb).eq fun e M => by (conv => lhs; unfold evE); first | done | rfl
    · cases h
  | .var _, _, _, _, _, _, _, _, h, _ => by unfold okE at h; cases h
  | .int _, _, _, _, _, _, _, _, h, _ => by unfold okE at h; cases h
  | .bl _, _, _, _, _, _, _, _, h, _ => by unfold okE at h; cases h
  | .non, _, _, _, _, _, _, _, h, _ => by unfold okE at h; cases h
  | .str _, _, _, _, _, _, _, _, h, _ => by unfold okE at h; cases h
  | .ty _, _, _, _, _, _, _, _, h, _ => by unfold okE at h; cases h
  | .bin _ _ _, _, _, _, _, _, _, _, h, _ => by unfold okE at h; cases h
  | .neg _, _, _, _, _, _, _, _, h, _ => by unfold okE at h; cases h
  | .cmp _ _ _, _, _, _, _, _, _, _, h, _ => by unfold okE at h; cases h
  | .chain _ _ _ _ _, _, _, _, _, _, _, _, h, _ => by unfold okE at h; cases h
  | .isN _, _, _, _, _, _, _, _, h, _ => by unfold okE at h; cases h
  | .notN _, _, _, _, _, _, _, _, h, _ => by unfold okE at h; cases h
  | .not _, _, _, _, _, _, _, _, h, _ => by unfold okE at h; cases h
  | .ite _ _ _, _, _, _, _, _, _, _, h, _ => by unfold okE at h; cases h
  | .call _ _, _, _, _, _, _, _, _, h, _ => by unfold okE at h; cases h
  | .callK _ _ _ _, _, _, _, _, _, _, _, h, _ => by unfold okE at h; cases h
  | .bi _ _, _, _, _, _, _, _, _, h, _ => by unfold okE at h; cases h
  | .tup _, _, _, _, _, _, _, _, h, _ => by unfold okE at h; cases h
  | .lst _, _, _, _, _, _, _, _, h, _ => by unfold okE at h; cases h
  | .ix _ _, _, _, _, _, _, _, _, h, _ => by unfold okE at h; cases h
  | .sl _ _ _, _, _, _, _, _, _, _, h, _ => by unfold okE at h; cases h
  | .mt _ _ _, _, _, _, _, _, _, _, h, _ => by unfold okE at h; cases h
  | .bits _, _, _, _, _, _, _, _, h, _ => by unfold okE at h; cases h
  | .comp _ _ _ _ _, _, _, _, _, _, _, _, h, _ => by unfold okE at h; cases h
  | .dnew, _, _, _, _, _, _, _, h, _ => by unfold okE at h; cases h
  | .get1 _ _, _, _, _, _, _, _, _, h, _ => by unfold okE at h; cases h
  | .sset _, _, _, _, _, _, _, _, h, _ => by unfold okE at h; cases h
  | .get2 _ _ _, _, _, _, _, _, _, _, h, _ => by unfold okE at h; cases h
  | .gc _, _, _, _, _, _, _, _, h, _ => by
    unfold okE at h
    obtain ⟨h1, h2⟩ := an h
    cases h1
theorem sEs : ∀ (q : QEs) (c : Ctx) (W : WX) (X : Cx), XOk K n c.pr cl W c.N c.sc c.fnf X → ∀ es : List Expr, es.all notStar = true → okEs c q es = true → PA X es (tAx K W (evEs cl q))
  | .nil, c, W, X, xo, es, hs, h => by
    unfold okEs at h
    split at h
    · rw [show evEs cl .nil = fun _ M => .ok [] M from by funext e M; unfold evEs; rfl]
      exact g_anil
    · cases h
  | .cons a r, c, W, X, xo, es, hs, h => by
    unfold okEs at h
    split at h
    · rename_i e es
      obtain ⟨h1, h2⟩ := an h
      rw [List.all_cons, Bool.and_eq_true] at hs
      rw [show evEs cl (.cons a r) = fun e M => (evE cl a e M).bind fun x M => (evEs cl r e M).bind fun xs M => .ok (x :: xs) M from by funext e M; (conv => lhs; unfold evEs); first | done | rfl]
      exact g_acons (sE a c W X xo _ h1).1 (sEs r c W X xo _ hs.2 h2) (star_cons hs.1)
    · cases h
theorem sKs : ∀ (q : QEs) (c : Ctx) (W : WX) (X : Cx), XOk K n c.pr cl W c.N c.sc c.fnf X → ∀ ks : List Keyword, okKs c q ks = true → PK X ks (tAx K W (evEs cl q))
  | .nil, c, W, X, xo, es, h => by
    unfold okKs at h
    split at h
    · rw [show evEs cl .nil = fun _ M => .ok [] M from by funext e M; unfold evEs; rfl]
      exact g_knil
    · cases h
  | .cons a r, c, W, X, xo, es, h => by
    unfold okKs at h
    split at h
    · rename_i x e p es
      obtain ⟨h1, h2⟩ := an h
      rw [show evEs cl (.cons a r) = fun e M => (evE cl a e M).bind fun x M => (evEs cl r e M).bind fun xs M => .ok (x :: xs) M from by funext e M; (conv => lhs; unfold evEs); first | done | rfl]
      exact g_kcons (sE a c W X xo _ h1).1 (sKs r c W X xo _ h2)
    · cases h
theorem sO : ∀ (q : QO) (c : Ctx) (W : WX) (X : Cx), XOk K n c.pr cl W c.N c.sc c.fnf X → ∀ o : Option Expr, okO' c q o = true → PO X o (tOx K W (evO cl q))
  | .none, c, W, X, xo, o, h => by
    unfold okO' at h
    split at h
    · rw [show evO cl .none = fun _ M => .ok none M from by funext e M; (conv => lhs; unfold evO); first | done | rfl]
      exact g_onone
    · cases h
  | .some a, c, W, X, xo, o, h => by
    unfold okO' at h
    split at h
    · rw [show evO cl (.some a) = fun e M => (evE cl a e M).bind fun x M => match x with
        | .int i => .ok (some i) M
        | _ => .bad from by funext e M; (conv => lhs; unfold evO); first | done | rfl]
      exact g_osome (sE a c W X xo _ h).1
    · cases h
theorem sC : ∀ (q : QO) (c : Ctx) (W : WX) (X : Cx), XOk K n c.pr cl W c.N c.sc c.fnf X → ∀ es : List Expr, okC c q es = true → PTs X es (tTx K W (evC cl q))
  | .none, c, W, X, xo, es, h => by
    unfold okC at h
    split at h
    · rw [show evC cl .none = fun _ M => .ok true M from by funext e M; unfold evC; rfl]
      exact pts_nil.imp fun σ H Q ⟨ρ, e, M, he, hm, hp⟩ => hp true ρ H hm rfl .refl
    · cases h
  | .some a, c, W, X, xo, es, h => by
    unfold okC at h
    split at h
    · obtain ⟨h1, h2⟩ := an h
      rw [show evC cl (.some a) = tst (evE cl a) from by funext e M; unfold tst; (conv => lhs; unfold evC); first | done | rfl]
      exact pts_one ((sE a c W X xo _ h2).2 h1)
    · cases h
theorem sT : ∀ (q : QT) (c : Ctx) (W : WX) (X : Cx), XOk K n c.pr cl W c.N c.sc c.fnf X → ∀ e : Expr, okT c q e = true → PG X e (tTgt K W (QT.slots q) (evT cl q))
  | .var i, c, W, X, xo, e, h => by
    unfold okT at h
    split at h
    · obtain ⟨h1, h2⟩ := an h
      rw [show evT cl (.var i) = fun v e M => .ok (setV e i v) M from by funext v e M; (conv => lhs; unfold evT); first | done | rfl, show QT.slots (.var i) = [i] from by unfold QT.slots; rfl]
      rw [Bool.or_eq_true] at h2
      rcases h2 with h2 | h2
      · have k := isLoc_ok h2
        rw [← xo.sc] at k
        exact t_var xo.nd (xo.slot h1) (.inl k) (.inr k)
      · obtain ⟨h3, h4⟩ := an h2
        have k := isCel_ok h3
        rw [← xo.sc] at k
        exact t_var xo.nd (xo.slot h1) (.inr k) (.inl (by rw [xo.fn]; exact h4))
    · cases h
  | .tup ts, c, W, X, xo, e, h => by
    unfold okT at h
    split at h
    · obtain ⟨h1, h2⟩ := an h
      rw [show evT cl (.tup ts) = fun v e M => match v with
        | .tup xs => evTs cl ts xs e M
        | .ref n => match M[n]? with
          | some (.lst xs) => evTs cl ts xs e M
          | _ => .bad
        | _ => .bad from by funext v e M; (conv => lhs; unfold evT); first | done | rfl, show QT.slots (.tup ts) = QTs.slots ts from by conv => lhs; unfold QT.slots]
      obtain ⟨l1, l2⟩ := asg_len (env := X.env) h1
      exact t_tup xo.calm xo.K (sTs ts c W X xo _ h2) l1 l2 (evTs_len cl h2)
    · cases h
  | .sub a b, c, W, X, xo, e, h => by
    unfold okT at h
    split at h
    · rename_i x y pos
      obtain ⟨h1, h⟩ := an h
      obtain ⟨h2, h3⟩ := an h
      rw [show evT cl (.sub a b) = fun v e M => (evE cl a e M).bind fun o M => (evE cl b e M).bind fun i M => (setI o i v M).bind fun _ M => .ok e M from by funext v e M; (conv => lhs; unfold evT); first | done | rfl, show QT.slots (.sub a b) = [] from by unfold QT.slots; rfl]
      have ha := (sE a c W X xo _ h2).1
      have hb := (sE b c W X xo _ h3).1
      refine t_sub xo.units ha hb fun t ht => pg_sub ha hb ht fun v => ?_
      cases y <;> first | rfl | cases h1
    · cases h
theorem sTs : ∀ (q : QTs) (c : Ctx) (W : WX) (X : Cx), XOk K n c.pr cl W c.N c.sc c.fnf X → ∀ es : List Expr, okTs c q es = true → PGs X es (tTgts K W (QTs.slots q) (evTs cl q))
  | .nil, c, W, X, xo, es, h => by
    unfold okTs at h
    split at h
    · rw [show evTs cl .nil = fun vs e M => match vs with
        | [] => .ok e M
        | _ => .bad from by funext vs e M; cases vs <;> (unfold evTs; rfl), show QTs.slots .nil = [] from by unfold QTs.slots; rfl]
      exact t_nil
    · cases h
  | .cons t r, c, W, X, xo, es, h => by
    unfold okTs at h
    split at h
    · obtain ⟨h1, h2⟩ := an h
      rw [show evTs cl (.cons t r) = fun vs e M => match vs with
        | v :: vs => (evT cl t v e M).noexc.bind fun e M => (evTs cl r vs e M).noexc
        | [] => .bad from by funext vs e M; cases vs <;> ((conv => lhs; unfold evTs); first | done | rfl), show QTs.slots (.cons t r) = QT.slots t ++ QTs.slots r from by conv => lhs; unfold QTs.slots]
      exact t_cons (sT t c W X xo _ h1) (sTs r c W X xo _ h2) (by rw [asg_cons (qt_star h1)]; rfl)
    · cases h
theorem sI : ∀ (q : QI) (tg : Expr) (c : Ctx) (W : WX) (X : Cx), XOk K n c.pr cl W c.N c.sc c.fnf X → ∀ e : Expr, okI c tg q e = true → PI X tg e (tIx K W (evI cl q))
  | .list a, tg, c, W, X, xo, e, h => by
    unfold okI at h
    rw [show evI cl (.list a) = fun e M => (evE cl a e M).bind fun x M => listSrc x M from by funext e M; (conv => lhs; unfold evI); first | done | rfl]
    exact i_list xo.K (sE a c W X xo _ h).1
  | .tup a, tg, c, W, X, xo, e, h => by
    unfold okI at h
    rw [show evI cl (.tup a) = fun e M => (evE cl a e M).bind fun x M => tupSrc x M from by funext e M; (conv => lhs; unfold evI); first | done | rfl]
    exact i_tup xo.K (sE a c W X xo _ h).1
  | .rng1 a, tg, c, W, X, xo, e, h => by
    unfold okI at h
    split at h
    · obtain ⟨h1, h⟩ := an h
      obtain ⟨h2, h⟩ := an h
      obtain ⟨h3, h⟩ := an h
      obtain ⟨h4, h5⟩ := an h
      have e1 := of_decide_eq_true h1
      subst e1
      rw [show evI cl (.rng1 a) = fun e M => (evE cl a e M).bind fun x M => rngSrc (.int 0) x M from by funext e M; (conv => lhs; unfold evI); first | done | rfl]
      exact i_rng1 (xo.gl h2) (xo.pr.free _ (of_decide_eq_true h3)) (pa_cons (sE a c W X xo _ h5).1 pa_nil (star_cons h4)) (star_cons h4)
    · cases h
  | .rng2 a b, tg, c, W, X, xo, e, h => by
    unfold okI at h
    split at h
    · obtain ⟨h1, h⟩ := an h
      obtain ⟨h2, h⟩ := an h
      obtain ⟨h3, h⟩ := an h
      obtain ⟨h4, h⟩ := an h
      obtain ⟨h5, h⟩ := an h
      obtain ⟨h6, h7⟩ := an h
      have e1 := of_decide_eq_true h1
      subst e1
      rw [show evI cl (.rng2 a b) = fun e M => (evE cl a e M).bind fun x M => (evE cl b e M).bind fun y M => rngSrc x y M from by funext e M; (conv => lhs; unfold evI); first | done | rfl]
      exact i_rng2 (xo.gl h2) (xo.pr.free _ (of_decide_eq_true h3)) (pa_cons (sE a c W X xo _ h6).1 (pa_cons (sE b c W X xo _ h7).1 pa_nil (star_cons h5)) (star_cons h4)) (by rw [star_cons h4, star_cons h5]; rfl) (star_cons h5)
    · cases h
  | .enum a, tg, c, W, X, xo, e, h => by
    unfold okI at h
    split at h
    · obtain ⟨h1, h⟩ := an h
      obtain ⟨h2, h⟩ := an h
      obtain ⟨h3, h⟩ := an h
      obtain ⟨h4, h5⟩ := an h
      have e1 := of_decide_eq_true h1
      subst e1
      rw [show evI cl (.enum a) = fun e M => (evE cl a e M).bind fun x M => enumSrc x M from by funext e M; (conv => lhs; unfold evI); first | done | rfl]
      exact i_enum xo.K (xo.gl h2) (xo.pr.free _ (of_decide_eq_true h3)) (pa_cons (sE a c W X xo _ h5).1 pa_nil (star_cons h4)) (star_cons h4)
    · cases h
end
end
end Q

/-! QM: statements do what the evaluator says; defs. -/
namespace Q
open PySem PySem.Spec PyProof.Rows L2

def locName (c : Ctx) : Expr → Bool
  | .Name id _ => isLoc c.sc id
  | _ => false
def notPair (c : Ctx) (tg e : Expr) : Bool := match tg, e with
  | .Tuple ts _ _, .Tuple vs _ _ => vs.all (foldedForSure 8) || (!(ts.length == 2 || ts.length == 3) || !(ts.all (locName c)))
  | .List _ _, .Tuple _ _ _ => false
  | _, _ => true
theorem names_short {c : Ctx} {env : Env} {l : Nat} (hs : env.scope = c.sc) : ∀ {ts : List Expr}, ts.all (locName c) = false → (ts.filterMap fun
    | .Name id pos => if env.kindOf id == some .local && pos.line == l then some id else none
    | _ => none).length < ts.length
  | [], h => by cases h
  | t :: ts, h => by
    have le : ∀ ts : List Expr, (ts.filterMap fun
      | .Name id pos => if env.kindOf id == some .local && pos.line == l then some id else none
      | _ => none).length ≤ ts.length := fun ts => List.length_filterMap_le _ _
    rw [List.all_cons, Bool.and_eq_false_iff] at h
    rw [List.filterMap_cons]
    split
    · have := le ts
      rw [List.length_cons]
      omega
    · rename_i id hid
      rcases h with h | h
      · exfalso
        cases t with
        | Name x p =>
          have hid : (if env.kindOf x == some .local && p.line == l then some x else none) = some id := hid
          split at hid
          · rename_i hk
            obtain ⟨hk, _⟩ := an hk
            have hk : env.kindOf x = some .local := eq_of_beq hk
            have hk : env.scope.names.lookup x = some .local := hk
            rw [hs] at hk
            have h : isLoc c.sc x = false := h
            unfold isLoc at h
            rw [hk] at h
            cases h
          · cases hid
        | _ => cases hid
      · rw [List.length_cons, List.length_cons]
        have := names_short (l := l) hs h
        omega
theorem swapped_none {c : Ctx} {tg e : Expr} {env : Env} (h : notPair c tg e = true) (hs : env.scope = c.sc) : swappedStores [tg] e env = pure none := by
  cases tg with
  | Tuple ts k p =>
    cases e with
    | Tuple vs k2 p2 =>
      unfold swappedStores
      dsimp only
      have h : (vs.all (foldedForSure 8) || (!(ts.length == 2 || ts.length == 3) || !(ts.all (locName c)))) = true := h
      split
      · rfl
      · rename_i h1
        split
        · rfl
        · split
          · rfl
          · rename_i h3
            split
            · rfl
            · rename_i h4
              exfalso
              rw [Bool.or_eq_true, Bool.or_eq_true] at h
              rcases h with h | h | h
              · exact h4 h
              · apply h1
                rw [h]
                rfl
              · have h : ts.all (locName c) = false := by
                  cases hb : ts.all (locName c) with
                  | false => rfl
                  | true => rw [hb] at h; cases h
                apply h3
                have := names_short (l := (ts.head?.map (·.pos.line)).getD 0) hs h
                rw [Bool.or_eq_true]
                left
                exact bne_iff_ne.mpr (Nat.ne_of_lt this)
    | _ => rfl
  | List ts p =>
    cases e with
    | Tuple vs k2 p2 => cases h
    | _ => rfl
  | _ => rfl

/-! ### the checks -/
/-- how a comprehension is stored -/
def asgC (c : Ctx) (tg e : Expr) : Bool := match tg, e with
  | .Name y py, .ListComp _ _ scope pos => isLoc c.sc y && ((py.line == pos.line) && ((scope.names.any fun (n, k) => n == y && (k == .local || k == .cell)) == false))
  | _, _ => false
def isCompQ : QE → Bool
  | .comp _ _ _ _ _ => true
  | _ => false
/-- no swap of the comprehension's value and the target -/
def noSwap (c : Ctx) (tg e : Expr) : Bool := notComp e || (match tg with
  | .Name y _ => isCel c.sc y
  | _ => true)
def dName (c : Ctx) (i : Nat) : Expr → Bool
  | .Name x _ => decide (c.N[i]? = some x) && ((isLoc c.sc x || isCel c.sc x || isFree c.sc x) && ((x == ("__debug__" : Str)) == false && (x == ("__classdict__" : Str)) == false))
  | _ => false
/-- the walk over a dict that a name stands for -/
def dIt (c : Ctx) (kd : DKind) (i : Nat) (tg e : Expr) : Bool := match kd with
  | .keys => dName c i e
  | .vals => match e with
    | .Call (.Attribute x nm apos) [] [] pos => strIs nm "values" && (dName c i x && (apos.endLine == pos.line))
    | _ => false
  | .items => match e, tg with
    | .Call (.Attribute x nm apos) [] [] pos, .Tuple _ _ _ => strIs nm "items" && (dName c i x && (apos.endLine == pos.line))
    | _, _ => false
mutual
def okS (c : Ctx) : QS → Stmt → Bool
  | .asg t a, s => match s with
    | .Assign [tg] e _ => okE c a e && (okT c t tg && (notPair c tg e && (noSwap c tg e || (isCompQ a && (c.sc.kind == .function && asgC c tg e)))))
    | _ => false
  | .par i j a b, s => match s with
    | .Assign [.Tuple [.Name x px, .Name y py] _ _] (.Tuple [ea, eb] _ _) _ => okE c a ea && (okE c b eb && (decide (c.N[i]? = some x) && (decide (c.N[j]? = some y) && (decide (i ≠ j) && (isLoc c.sc x && (isLoc c.sc y && (notStar ea && (notStar eb && ((px.line == py.line) && (c.sc.kind == .function && ([ea, eb].all (foldedForSure 8) == false && ([ea, eb].all (constantsAlone 8) == false && (x == y) == false))))))))))))
    | _ => false
  | .aug i o a, s => match s with
    | .AugAssign (.Name x _) op e _ => decide (op = opOf o) && (okE c a e && (decide (c.N[i]? = some x) && (isLoc c.sc x || (isCel c.sc x && c.fnf x))))
    | _ => false
  | .expr a, s => match s with
    | .Expr e _ => okE c a e && notComp e
    | _ => false
  | .ret a, s => match s with
    | .Return (some e) _ => okE c a e
    | _ => false
  | .retN, s => match s with
    | .Return none _ => true
    | _ => false
  | .ite t a b, s => match s with
    | .If e p q _ => QE.tst t && (okE c t e && (okSs c a p && okSs c b q))
    | _ => false
  | .whl t b, s => match s with
    | .While e p [] _ => QE.tst t && (okE c t e && okSs c b p)
    | _ => false
  | .for t it b, s => match s with
    | .For tg e p [] _ => okI c tg it e && (okT c t tg && (notSet e && okSs c b p))
    | _ => false
  | .ford kd t i b, s => match s with
    | .For tg e p [] _ => dIt c kd i tg e && (okT c t tg && okSs c b p)
    | _ => false
  | .brk, s => match s with
    | .Break _ => true
    | _ => false
  | .cont, s => match s with
    | .Continue _ => true
    | _ => false
  | .pass, s => match s with
    | .Pass _ => true
    | .Expr (.Constant (.str _) _ _) _ => true
    | _ => false
def okSs (c : Ctx) : QSs → List Stmt → Bool
  | .nil, ss => match ss with
    | [] => true
    | _ => false
  | .cons s r, ss => match ss with
    | x :: xs => okS c s x && okSs c r xs
    | [] => false
end
section
variable {K : Par} {n : Nat} {cl : Nat → List PV → Store → Res PV} {W : WX} {X : Cx}
theorem noSwap_ok {c : Ctx} {tg e : Expr} {l : Nat} {env : Env} (h : noSwap c tg e = true) (hs : env.scope = c.sc) : swapsWithSole [tg] e l env = pure false := by
  unfold noSwap at h
  rw [Bool.or_eq_true] at h
  rcases h with h | h
  · exact swaps_plain h
  · show swapsWith e (some tg) l env = pure false
    cases tg with
    | Name y p =>
      have h : isCel c.sc y = true := h
      have hk : env.kindOf y = some .cell := by
        have := isCel_ok h
        rw [← hs] at this
        exact this
      have hne : (env.kindOf y == some NameKind.local) = false := by rw [hk]; rfl
      unfold swapsWith
      cases e <;> first | rfl | (dsimp only; rw [hne, Bool.and_false]; rfl)
    | _ => cases e <;> first | rfl
theorem swapped_two {x y : Str} {px py pt pt2 : Pos} {kt k2 : Nat} {a b : Expr} {env : Env} (hb : env.blockKind = .function) (kx : env.kindOf x = some .local) (ky : env.kindOf y = some .local) (ha : notStar a = true) (hb2 : notStar b = true) (hl : (py.line == px.line) = true)
    (h1 : [a, b].all (foldedForSure 8) = false) (h2 : [a, b].all (constantsAlone 8) = false) (hxy : (x == y) = false) : swappedStores [.Tuple [.Name x px, .Name y py] kt pt] (.Tuple [a, b] k2 pt2) env = pure (some [x, y]) := by
  unfold swappedStores
  dsimp only
  have es : ∀ a : Expr, notStar a = true → (match a with | .Starred .. => true | _ => false) = false := fun a h => by
    cases a <;> first | rfl | cases h
  have hl' : py.line = px.line := eq_of_beq hl
  have e2 : (env.kindOf x == some NameKind.local && px.line == px.line) = true := by rw [kx]; simp
  have e3 : (env.kindOf y == some NameKind.local && py.line == px.line) = true := by rw [ky, hl]; rfl
  have hyx : (y == x) = false := by
    cases hq : y == x with
    | false => rfl
    | true => rw [eq_of_beq hq] at hxy; rw [beq_self_eq_true] at hxy; cases hxy
  have hne : (env.blockKind != ScopeKind.function) = false := by rw [hb]; rfl
  split
  · rename_i hq
    rw [hne] at hq
    cases hq
  · split
    · rename_i hq
      rw [List.any_cons, List.any_cons, List.any_nil, Bool.or_eq_true, Bool.or_eq_true] at hq
      rcases hq with hq | hq | hq
      · exact absurd (hq.symm.trans (es a ha)) (by decide)
      · exact absurd (hq.symm.trans (es b hb2)) (by decide)
      · cases hq
    · split
      · rename_i hq
        exfalso
        simp [Expr.pos, kx, ky, hl', List.eraseDups, List.eraseDupsBy, List.eraseDupsBy.loop, hyx, hxy] at hq
      · split
        · rename_i hq
          rw [h1] at hq
          cases hq
        · split
          · rename_i hq
            rw [h2] at hq
            cases hq
          · simp [Expr.pos, kx, ky, hl']
/-- name = [..] -/
theorem s_lc {i : Nat} {elt : QE} {t : QT} {it : QI} {d : QO} {own : List Nat} {c : Ctx} {y : Str} {py : Pos} {ee tg ie : Expr} {ifs : List Expr} {scope : Scope} {pos spos : Pos} {k : Int} (xo : XOk K n c.pr cl W c.N c.sc c.fnf X)
    (h : okE c (.comp elt t it d own) (.ListComp ee [⟨tg, ie, ifs, k⟩] scope pos) = true) (hi : decide (c.N[i]? = some y) = true) (hk : c.sc.kind = .function) (ha : asgC c (.Name y py) (.ListComp ee [⟨tg, ie, ifs, k⟩] scope pos) = true) :
    PS X (.Assign [.Name y py] (.ListComp ee [⟨tg, ie, ifs, k⟩] scope pos) spos) (tSx K W fun e M => (evE cl (.comp elt t it d own) e M).to e fun x M => .nx (setV e i x) M) := by
  unfold okE at h
  obtain ⟨h0, h⟩ := an h
  obtain ⟨h1, h⟩ := an h
  obtain ⟨h2, h⟩ := an h
  obtain ⟨h3, h⟩ := an h
  obtain ⟨h4, h⟩ := an h
  obtain ⟨h5, h⟩ := an h
  obtain ⟨h6, h⟩ := an h
  obtain ⟨h7, h8⟩ := an h
  have e0 := of_decide_eq_true h0
  subst e0
  have hb := blkOk_by h1
  have hb' : BlkOk X.N X.env.scope scope (relOwn c.N own) := by
    rw [xo.N, xo.sc]
    exact hb
  have hit := sI it tg c W X xo _ h5
  have hg := fun s H C l fp => sT t (c.blk scope) W0 _ (xo.blk hb.kind s H C l fp) _ h6
  have ht := fun s H C l fp => sC d (c.blk scope) W0 _ (xo.blk hb.kind s H C l fp) _ h7
  have he := fun s H C l fp => (sE elt (c.blk scope) W0 _ (xo.blk hb.kind s H C l fp) _ h8).1
  unfold asgC at ha
  obtain ⟨a1, ha⟩ := an ha
  obtain ⟨a2, a3⟩ := an ha
  have ly : X.env.scope.names.lookup y = some .local := by rw [xo.sc]; exact isLoc_ok a1
  refine (ps_setLc xo.calm xo.nd (xo.slot hi) ly (sw_true (by rw [xo.sc]; exact hk) ly a2 (nf a3)) hit hb' hg ht he (set_plain h4)).imp fun D σ H z => ?_
  obtain ⟨ρ, e, M, hee, hm, hp⟩ := z
  show tLc _ _ _ _ _ σ H fun x H1 => gName i x σ H1 D.nx
  rw [relOwn_snd h2]
  refine comp_read (sl := QT.slots t) (fun j hj => of_decide_eq_true (List.all_eq_true.mp h3 j hj)) rfl rfl rfl rfl ?_
  rw [show (fun e M => (evI cl it e M).bind fun src M => (compL src.still (fun x M => evT cl t x (wipeVs e own) M) (fun e' M => evC cl d e' M) (fun e' M => evE cl elt e' M) src.items [] M).bind fun ys M => .ok (.ref M.length) (M ++ [.lst ys])) = evE cl (.comp elt t it d own) from by
    funext e M
    (conv => rhs; unfold evE)
    first | done | rfl]
  exact ⟨ρ, e, M, hee, hm, PostS.to hee hp fun x M1 v ρ1 H1 m1 r1 x1 h1 => h1 _ ρ1 H1 ((hee.ext x1).set r1 i) m1 .refl⟩
theorem sDI {kd : DKind} {i : Nat} {tg e : Expr} {c : Ctx} (xo : XOk K n c.pr cl W c.N c.sc c.fnf X) (h : dIt c kd i tg e = true) : PI X tg e (tIx K W (srcD kd i)) ∧ ∀ x, foldedSetIterable e X.env x = pure x := by
  have nm : ∀ {e : Expr}, dName c i e = true → ∃ x p, e = .Name x p ∧ X.N[i]? = some x ∧ Vis X.env.scope x ∧ (x == ("__debug__" : Str)) = false ∧ (x == ("__classdict__" : Str)) = false := fun {e} h => by
    unfold dName at h
    split at h
    · rename_i x p
      obtain ⟨h1, h⟩ := an h
      obtain ⟨h2, h⟩ := an h
      obtain ⟨h3, h4⟩ := an h
      refine ⟨x, p, rfl, xo.slot h1, ?_, nf h3, nf h4⟩
      rw [xo.sc]
      rw [Bool.or_eq_true, Bool.or_eq_true] at h2
      rcases h2 with (h2 | h2) | h2
      · exact .inl (isLoc_ok h2)
      · exact .inr (.inl (isCel_ok h2))
      · exact .inr (.inr (isFree_ok h2))
    · cases h
  cases kd with
  | keys =>
    obtain ⟨x, p, rfl, a, b, d, f⟩ := nm h
    exact ⟨i_keys a b d f, fun x => rfl⟩
  | vals =>
    unfold dIt at h
    dsimp only at h
    split at h
    · obtain ⟨h1, h⟩ := an h
      obtain ⟨h2, h3⟩ := an h
      have e1 := of_decide_eq_true h1
      subst e1
      obtain ⟨x, p, rfl, a, b, d, f⟩ := nm h2
      exact ⟨i_vals a b d f h3, fun x => rfl⟩
    · cases h
  | items =>
    unfold dIt at h
    dsimp only at h
    split at h
    · obtain ⟨h1, h⟩ := an h
      obtain ⟨h2, h3⟩ := an h
      have e1 := of_decide_eq_true h1
      subst e1
      obtain ⟨x, p, rfl, a, b, d, f⟩ := nm h2
      exact ⟨i_items a b d f h3, fun x => rfl⟩
    · cases h
mutual
theorem sS : ∀ (q : QS) (c : Ctx) (W : WX) (X : Cx), XOk K n c.pr cl W c.N c.sc c.fnf X → PassesOwn (model X.prog X.w) X.A X.env X.xe → ∀ s : Stmt, okS c q s = true → PS X s (tSx K W (exS cl q))
  | .asg t a, c, W, X, xo, po, s, h => by
    unfold okS at h
    split at h
    · rename_i tg e pos
      obtain ⟨h1, h⟩ := an h
      obtain ⟨h2, h⟩ := an h
      obtain ⟨h3, h4⟩ := an h
      rw [Bool.or_eq_true] at h4
      rcases h4 with h4 | h4
      · rw [show exS cl (.asg t a) = fun e M => (evE cl a e M).to e fun x M => (evT cl t x e M).to e fun e M => .nx e M from by funext e M; (conv => lhs; unfold exS); first | done | rfl]
        exact s_asg (sE a c W X xo _ h1).1 (sT t c W X xo _ h2) (noSwap_ok h4 xo.sc) (swapped_none h3 xo.sc) (by rw [asg_cons (qt_star h2)]; rfl)
      · obtain ⟨k0, h4⟩ := an h4
        obtain ⟨k1, k2⟩ := an h4
        have hk : c.sc.kind = .function := eq_of_beq k1
        have k3 := k2
        unfold asgC at k3
        split at k3
        · rename_i y py ee gs scope lpos
          cases a with
          | comp elt t' it d own =>
            have h1' := h1
            unfold okE at h1'
            split at h1'
            · rename_i heq
              cases heq
              cases t with
              | var i =>
                unfold okT at h2
                obtain ⟨h21, _⟩ := an h2
                rw [show exS cl (.asg (.var i) (.comp elt t' it d own)) = fun e M => (evE cl (.comp elt t' it d own) e M).to e fun x M => .nx (setV e i x) M from by
                  funext e M
                  (conv => lhs; unfold exS)
                  rfl]
                exact s_lc xo h1 h21 hk k2
              | _ => unfold okT at h2; cases h2
            · cases h1'
          | _ => cases k0
        · cases k3
    · cases h
  | .par i j a b, c, W, X, xo, po, s, h => by
    unfold okS at h
    split at h
    · rename_i x px y py kt pt ea eb k2 pt2 pos
      obtain ⟨h1, h⟩ := an h
      obtain ⟨h2, h⟩ := an h
      obtain ⟨h3, h⟩ := an h
      obtain ⟨h4, h⟩ := an h
      obtain ⟨h5, h⟩ := an h
      obtain ⟨h6, h⟩ := an h
      obtain ⟨h7, h⟩ := an h
      obtain ⟨h8, h⟩ := an h
      obtain ⟨h9, h⟩ := an h
      obtain ⟨h10, h⟩ := an h
      obtain ⟨h11, h⟩ := an h
      obtain ⟨h12, h⟩ := an h
      obtain ⟨h13, h14⟩ := an h
      rw [show exS cl (.par i j a b) = fun e M => (evE cl a e M).to e fun x M => (evE cl b e M).to e fun y M => .nx (setV (setV e i x) j y) M from by funext e M; (conv => lhs; unfold exS); first | done | rfl]
      have lx : X.env.scope.names.lookup x = some .local := by rw [xo.sc]; exact isLoc_ok h6
      have ly : X.env.scope.names.lookup y = some .local := by rw [xo.sc]; exact isLoc_ok h7
      have hb : X.env.blockKind = .function := by unfold Env.blockKind; rw [xo.sc, eq_of_beq h11]; rfl
      have kx : X.env.kindOf x = some .local := lx
      have ky : X.env.kindOf y = some .local := ly
      have hl : (py.line == px.line) = true := by rw [eq_of_beq h10]; exact beq_self_eq_true _
      refine s_par xo.calm xo.nd (xo.slot h3) (xo.slot h4) (of_decide_eq_true h5) lx ly (sE a c W X xo _ h1).1 (sE b c W X xo _ h2).1 (star_cons h8) (star_cons h9) ?_ rfl
      exact swapped_two hb kx ky h8 h9 hl (nf h12) (nf h13) (nf h14)
    · cases h
  | .aug i o a, c, W, X, xo, po, s, h => by
    unfold okS at h
    split at h
    · obtain ⟨h1, h⟩ := an h
      obtain ⟨h2, h⟩ := an h
      obtain ⟨h3, h4⟩ := an h
      have e1 := of_decide_eq_true h1
      subst e1
      rw [show exS cl (.aug i o a) = fun e M => match getV e i with
        | some x => (evE cl a e M).to e fun y M => (augV o x y M).to e fun z M => .nx (setV e i z) M
        | none => .bad from by funext e M; (conv => lhs; unfold exS); first | done | rfl]
      rw [Bool.or_eq_true] at h4
      rcases h4 with h4 | h4
      · have k := isLoc_ok h4
        rw [← xo.sc] at k
        exact s_aug xo.nd (xo.slot h3) (.inl k) (sE a c W X xo _ h2).1 (.inr k)
      · obtain ⟨h5, h6⟩ := an h4
        have k := isCel_ok h5
        rw [← xo.sc] at k
        exact s_aug xo.nd (xo.slot h3) (.inr k) (sE a c W X xo _ h2).1 (.inl (by rw [xo.fn]; exact h6))
    · cases h
  | .expr a, c, W, X, xo, po, s, h => by
    unfold okS at h
    split at h
    · obtain ⟨h1, h2⟩ := an h
      rw [show exS cl (.expr a) = fun e M => (evE cl a e M).to e fun _ M => .nx e M from by funext e M; (conv => lhs; unfold exS); first | done | rfl]
      exact s_expr (sE a c W X xo _ h1).1 (swaps_plain h2)
    · cases h
  | .ret a, c, W, X, xo, po, s, h => by
    unfold okS at h
    split at h
    · rw [show exS cl (.ret a) = fun e M => (evE cl a e M).to e fun x M => .rt x M from by funext e M; (conv => lhs; unfold exS); first | done | rfl]
      exact s_ret (sE a c W X xo _ h).1
    · cases h
  | .retN, c, W, X, xo, po, s, h => by
    unfold okS at h
    split at h
    · rw [show exS cl .retN = fun _ M => .rt .non M from by funext e M; (conv => lhs; unfold exS); first | done | rfl]
      exact s_retN
    · cases h
  | .ite t a b, c, W, X, xo, po, s, h => by
    unfold okS at h
    split at h
    · obtain ⟨h1, h⟩ := an h
      obtain ⟨h2, h⟩ := an h
      obtain ⟨h3, h4⟩ := an h
      rw [show exS cl (.ite t a b) = fun e M => (evE cl t e M).to e fun x M => (truR x M).to e fun k M => match k with
        | true => exSs cl a e M
        | false => exSs cl b e M from by funext e M; (conv => lhs; unfold exS); first | done | rfl]
      exact s_ite ((sE t c W X xo _ h2).2 h1) (sSs a c W X xo po _ h3) (sSs b c W X xo po _ h4)
    · cases h
  | .whl t b, c, W, X, xo, po, s, h => by
    unfold okS at h
    split at h
    · obtain ⟨h1, h⟩ := an h
      obtain ⟨h2, h3⟩ := an h
      rw [show exS cl (.whl t b) = fun e M => whileL (fun e M => evE cl t e M) (fun e M => exSs cl b e M) bigW e M from by funext e M; (conv => lhs; unfold exS); first | done | rfl]
      exact s_whl po ((sE t c W X xo _ h2).2 h1) (sSs b c W X xo po _ h3)
    · cases h
  | .for t it b, c, W, X, xo, po, s, h => by
    unfold okS at h
    split at h
    · obtain ⟨h1, h⟩ := an h
      obtain ⟨h2, h⟩ := an h
      obtain ⟨h3, h4⟩ := an h
      rw [show exS cl (.for t it b) = fun e M => (evI cl it e M).to e fun src M => forL src.still (fun x e M => evT cl t x e M) (fun e M => exSs cl b e M) src.items e M from by funext e M; (conv => lhs; unfold exS); first | done | rfl]
      exact s_for po xo.calm (sI it _ c W X xo _ h1) (sT t c W X xo _ h2) (sSs b c W X xo po _ h4) (set_plain h3)
    · cases h
  | .ford kd t i b, c, W, X, xo, po, s, h => by
    unfold okS at h
    split at h
    · obtain ⟨h1, h⟩ := an h
      obtain ⟨h2, h3⟩ := an h
      rw [show exS cl (.ford kd t i b) = fun e M => match getV e i with
        | some (.ref n) => match M[n]? with
          | some (.dK false kvs) => (forL (lockOk n kvs) (fun x e M => evT cl t x e M) (fun e M => exSs cl b e M) (dItems kd kvs) e (M.set n (.dK true kvs))).unlock n kvs
          | _ => .bad
        | _ => .bad from by funext e M; (conv => lhs; unfold exS); first | done | rfl]
      obtain ⟨a1, a2⟩ := sDI xo h1
      exact s_ford po xo.calm a1 (sT t c W X xo _ h2) (sSs b c W X xo po _ h3) a2
    · cases h
  | .brk, c, W, X, xo, po, s, h => by
    unfold okS at h
    split at h
    · rw [show exS cl .brk = fun e M => .bk e M from by funext e M; (conv => lhs; unfold exS); first | done | rfl]
      exact s_brk
    · cases h
  | .cont, c, W, X, xo, po, s, h => by
    unfold okS at h
    split at h
    · rw [show exS cl .cont = fun e M => .ct e M from by funext e M; (conv => lhs; unfold exS); first | done | rfl]
      exact s_cont
    · cases h
  | .pass, c, W, X, xo, po, s, h => by
    rw [show exS cl .pass = fun e M => .nx e M from by funext e M; (conv => lhs; unfold exS); first | done | rfl]
    unfold okS at h
    split at h
    · exact s_pass
    · exact ps_doc.imp fun D σ H ⟨ρ, e, M, he, hm, hp⟩ => hp σ ρ H he hm .refl
    · cases h
theorem sSs : ∀ (q : QSs) (c : Ctx) (W : WX) (X : Cx), XOk K n c.pr cl W c.N c.sc c.fnf X → PassesOwn (model X.prog X.w) X.A X.env X.xe → ∀ ss : List Stmt, okSs c q ss = true → PSs X ss (tSx K W (exSs cl q))
  | .nil, c, W, X, xo, po, ss, h => by
    unfold okSs at h
    split at h
    · rw [show exSs cl .nil = fun e M => .nx e M from by funext e M; (conv => lhs; unfold exSs); first | done | rfl]
      exact s_nil
    · cases h
  | .cons s r, c, W, X, xo, po, ss, h => by
    unfold okSs at h
    split at h
    · obtain ⟨h1, h2⟩ := an h
      rw [show exSs cl (.cons s r) = fun e M => (exS cl s e M).seq fun e M => exSs cl r e M from by funext e M; (conv => lhs; unfold exSs); first | done | rfl]
      exact s_cons (sS s c W X xo po _ h1) (sSs r c W X xo po _ h2)
    · cases h
end
end
end Q

/-! QN: defs, the program, a law's end. -/
namespace Q
open PySem PySem.Spec PyProof.Rows L2

def nodupB : List Str → Bool
  | [] => true
  | x :: xs => !(xs.contains x) && nodupB xs
theorem nodupB_ok : ∀ {xs : List Str}, nodupB xs = true → xs.Nodup
  | [], _ => List.nodup_nil
  | x :: xs, h => by
    obtain ⟨h1, h2⟩ := an h
    refine List.nodup_cons.mpr ⟨fun hm => ?_, nodupB_ok h2⟩
    have : xs.contains x = true := by simpa using hm
    rw [this] at h1
    cases h1
def isFreeK : NameKind → Bool
  | .free => true
  | _ => false
def fnScopeB (N P : List Str) (sc : Scope) : Bool := sc.kind == .function && ((sc.isCoroutine == false) && ((sc.isGenerator == false) && (nodupB N && (decide (N.take P.length = P) && ((P.all fun x => isLoc sc x || isCel sc x) && (sc.names.all fun y => !(isFreeK y.2)))))))
theorem fnScopeB_ok {N P : List Str} {sc : Scope} (h : fnScopeB N P sc = true) : FnScope N P sc := by
  obtain ⟨h1, h⟩ := an h
  obtain ⟨h2, h⟩ := an h
  obtain ⟨h3, h⟩ := an h
  obtain ⟨h4, h⟩ := an h
  obtain ⟨h5, h⟩ := an h
  obtain ⟨h6, h7⟩ := an h
  refine ⟨eq_of_beq h1, nf h2, nf h3, nodupB_ok h4, of_decide_eq_true h5, fun x hx => ?_, fun y hy e => ?_⟩
  · have := List.all_eq_true.mp h6 x hx
    rw [Bool.or_eq_true] at this
    rcases this with k | k
    · exact .inl (isLoc_ok k)
    · exact .inr (isCel_ok k)
  · have := List.all_eq_true.mp h7 y hy
    rw [e] at this
    cases this
/-- a def of the text, and what it is said to be -/
structure DD where
  id : Nat
  name : Str
  st : Stmt
  q : QF
  N : List Str
  ps : List Str
  kws : List (Nat × List Str × List Nat) := []
def defArgs' (s : Stmt) : Arguments := defArgs s
def DD.okB (pr : Pg) (d : DD) : Bool := fnScopeB d.N d.ps (defScope d.st) && (okSs ⟨defScope d.st, d.N, fun _ => true, pr⟩ d.q.body (defBody d.st) && (d.q.slots == d.N.length && d.q.pars == d.ps.length))
/-- how it takes its values -/
def DD.Bd (d : DD) : Prop := ∀ (kV doc pm : Value) (an : Option Addr) (cdv ct : Value) (us : List Value), us.length = d.ps.length → bindArgs (PySem.W.fnOf d.name d.name (defArgs d.st) (defBody d.st) (defScope d.st) .none kV doc pm an cdv ct) ⟨us, []⟩ = pure (d.ps.zip us)
def DD.Kw (d : DD) : Prop := ∀ z ∈ d.kws, ∀ (dV kV doc pm : Value) (an : Option Addr) (cdv ct : Value), dV = .none → KB (PySem.W.fnOf d.name d.name (defArgs d.st) (defBody d.st) (defScope d.st) dV kV doc pm an cdv ct) d.ps z.1 z.2.1 z.2.2
section
variable {P : Program} {w : World} {K : Par} {mg : Str → Option Value} {base : Heap} {n : Nat} {pr : Pg} {cl : Nat → List PV → Store → Res PV}
theorem rel_start {ρ : List Addr} {H : Hp} : ∀ {xs : List PV} {vs : List V} {k : Nat}, RelPs K ρ H xs vs → RelE K ρ H (xs.map some ++ List.replicate k none) (vs.map some ++ List.replicate k none)
  | [], vs, k, h => by
    rw [relPs_nil.mp h]
    show RelE K ρ H (List.replicate k none) (List.replicate k none)
    induction k with
    | zero => exact .nil
    | succ k ih => exact .non ih
  | x :: xs, vs, k, h => by
    obtain ⟨v, r, rfl, h1, h2⟩ := relPs_cons.mp h
    exact .som h1 (rel_start h2)
theorem fn_ok {d : DD} {f : Addr} {fd : FuncData} (pk : PrOk P w K mg base n pr cl) (F : FunD K.F d.name d.name (defArgs d.st) (defBody d.st) (defScope d.st) [] [] f fd) (h : d.okB pr = true) : FnOk P w K.F mg base (CX P w) (n + 1) f fd d.ps (spD K (exF cl d.q)) := by
  obtain ⟨h1, h⟩ := an h
  obtain ⟨h2, h⟩ := an h
  obtain ⟨h3, h4⟩ := an h
  have e3 : d.q.slots = d.N.length := eq_of_beq h3
  have e4 : d.q.pars = d.ps.length := eq_of_beq h4
  have S := fnScopeB_ok h1
  refine F.ok S (fun vs H Q E h => ?_) fun cdv A outer s H vs Q E hr hsp => ?_
  · obtain ⟨ρ, M, xs, hx, hm, hp⟩ := h
    unfold exF at hp
    split at hp
    · rename_i hl
      rw [← hx.length, hl, e4]
    · exact hp.elim
  · have xo : XOk K n pr cl (fun cls d _ H => E cls d H) d.N (defScope d.st) (fun _ => true) (cxOf (CX P w) P w K.F mg base d.N d.name (defScope d.st) f cdv A outer s H E) :=
      { pr := pk, K := rfl, N := rfl, sc := rfl, fn := rfl, calm := rfl, nd := S.nd, room := hr, tk := takes_of rfl rfl rfl rfl, kind := S.kind }
    refine ⟨_, sSs (K := K) d.q.body ⟨defScope d.st, d.N, fun _ => true, pr⟩ _ _ xo (passes_of rfl) _ h2, ?_⟩
    obtain ⟨ρ, M, xs, hx, hm, hp⟩ := hsp
    unfold exF at hp
    split at hp
    · rename_i hl
      refine ⟨ρ, startV d.q.slots xs, M, ?_, hm, ?_⟩
      · unfold startV L2.start
        rw [e3, hx.length]
        exact rel_start hx
      · cases hq : exSs cl d.q.body (startV d.q.slots xs) M with
        | nx e M' =>
          rw [hq] at hp
          have hp : Post K (RP K) _ Q ρ H ((Res.ok PV.non M' : Res PV).bind fun x M' => gcR M x M') := hp
          have hp := gc_post hm hp
          exact fun σ' ρ' H' he' hm' x' => hp .non ρ' H' hm' (relP_non.mpr rfl) x'
        | rt v M' =>
          rw [hq] at hp
          have hp : Post K (RP K) _ Q ρ H ((Res.ok v M' : Res PV).bind fun x M' => gcR M x M') := hp
          have hp := gc_post hm hp
          exact fun u ρ' H' hm' hr' x' => hp u ρ' H' hm' hr' x'
        | bk e M' => rw [hq] at hp; exact hp.elim
        | ct e M' => rw [hq] at hp; exact hp.elim
        | exc x e M' =>
          rw [hq] at hp
          exact fun σ' ρ' H' cls dd he' hm' x' rx => hp ρ' H' hm' x' cls dd rx
        | bad => rw [hq] at hp; exact hp.elim
    · exact hp.elim
end
/-! ### the program -/
def look (ds : List DD) (f : Nat) : Option DD := ds.find? fun d => d.id == f
theorem look_mem {ds : List DD} {f : Nat} {d : DD} (h : look ds f = some d) : d ∈ ds := List.mem_of_find?_eq_some h
def tabs (ds : List DD) (f : Nat) : Option QF := (look ds f).map (·.q)
def fis (ds : List DD) (f : Nat) : Option FI := (look ds f).map fun d => ⟨d.name, d.ps⟩
def kwsOf (ds : List DD) (f : Nat) : List (Nat × List Str × List Nat) := match look ds f with
  | some d => d.kws
  | none => []
def pgOf (ds : List DD) (free : List Str) : Pg := ⟨fis ds, free, kwsOf ds⟩
def DD.D (d : DD) : He.DefD := ⟨(d.name, none), d.name, d.name, defArgs d.st, defBody d.st, defScope d.st, [], []⟩
def factsOf (ds : List DD) (free : List Str) : List He.Fa := ds.map (fun d => .glo d.name) ++ free.map .free
theorem pr_ok {P : Program} {w : World} {F : PySem.W.Frag} {K : Par} {mg : Str → Option Value} {h base : Heap} {ds : List DD} {free : List Str} (hF : K.F = F) (X : F.In h) (G : h.Ns mainGlobals mg) (c : He.SaysD (factsOf ds free) (ds.map DD.D) F)
    (hok : ds.all (DD.okB (pgOf ds free)) = true) (hb : ∀ d ∈ ds, d.Bd ∧ d.Kw) : ∀ n : Nat, PrOk P w K mg base n (pgOf ds free) (den (tabs ds) n) := by
  subst hF
  have hfree : ∀ x ∈ free, mg x = none := fun x hx => by
    obtain ⟨i, hi, e⟩ := List.getElem_of_mem hx
    exact He.free_ok X G (c.fact (ds.length + i) (f := .free x) (by unfold factsOf; rw [List.getElem?_append_right (by simp)]; simp [hi, e]))
  have hdef : ∀ d ∈ ds, ∃ fd, FunD K.F d.name d.name (defArgs d.st) (defBody d.st) (defScope d.st) [] [] (He.ga K.F d.name) fd ∧ mg d.name = some (.ref (He.ga K.F d.name)) := fun d hd => by
    obtain ⟨f, hl, e⟩ := List.getElem_of_mem hd
    have hd : ds[f]? = some d := by rw [List.getElem?_eq_getElem hl, e]
    obtain ⟨fd, F⟩ := c.def_ f (d := d.D) (by rw [List.getElem?_map, hd]; rfl)
    exact ⟨fd, F, He.glo_ok X G (c.fact f (f := .glo d.name) (by
      unfold factsOf
      rw [List.getElem?_append_left (by simpa using hl), List.getElem?_map, hd]
      rfl))⟩
  have hkw : ∀ (f : Nat) (d : DD) (fd : FuncData), look ds f = some d → FunD K.F d.name d.name (defArgs d.st) (defBody d.st) (defScope d.st) [] [] (He.ga K.F d.name) fd → ∀ c' ks pm, (c', ks, pm) ∈ kwsOf ds f → KB fd d.ps c' ks pm := fun f d fd hd F c' ks pm hk => by
    unfold kwsOf at hk
    rw [hd] at hk
    obtain ⟨oc, od, dV, kV, doc, pm', an, cdv, ct, osl, rfl, lk, hcd, hD, hK⟩ := F.ex
    rcases hD with ⟨_, e⟩ | ⟨e, _⟩
    · exact (hb d (look_mem hd)).2 _ hk dV kV doc pm' an cdv ct e
    · exact absurd rfl e
  intro n
  induction n with
  | zero =>
    refine ⟨fun f i hi => ?_, hfree⟩
    have hi : (look ds f).map (fun d => (⟨d.name, d.ps⟩ : FI)) = some i := hi
    cases hd : look ds f with
    | none => rw [hd] at hi; cases hi
    | some d =>
      rw [hd] at hi
      cases hi
      have hmem := look_mem hd
      obtain ⟨fd, F, hm⟩ := hdef d hmem
      refine ⟨_, fd, hm, F.kp, FunD.bindsN F fun kV doc pm an cdv ct us hl => (hb d hmem).1 kV doc pm an cdv ct us hl, ⟨fun vs H Q E z => ?_, fun A outer s H args us vs Q E _ _ _ _ z => ?_⟩, hkw f d fd hd F⟩
      · obtain ⟨ρ, M, xs, _, _, hp⟩ := z
        exact hp.elim
      · obtain ⟨ρ, M, xs, _, _, hp⟩ := z
        exact hp.elim
  | succ n ih =>
    refine ⟨fun f i hi => ?_, hfree⟩
    have hi : (look ds f).map (fun d => (⟨d.name, d.ps⟩ : FI)) = some i := hi
    cases hd : look ds f with
    | none => rw [hd] at hi; cases hi
    | some d =>
      rw [hd] at hi
      cases hi
      have hmem := look_mem hd
      obtain ⟨fd, F, hm⟩ := hdef d hmem
      have e1 : den (tabs ds) (n + 1) f = exF (den (tabs ds) n) d.q := by
        funext xs M
        (conv => lhs; unfold den)
        unfold tabs
        rw [hd]
        rfl
      rw [e1]
      exact ⟨_, fd, hm, F.kp, FunD.bindsN F fun kV doc pm an cdv ct us hl => (hb d hmem).1 kV doc pm an cdv ct us hl, fn_ok ih F (List.all_eq_true.mp hok d hmem), hkw f d fd hd F⟩
end Q

/-! QO: a law's end. -/
namespace Q
open PySem PySem.Spec PyProof.Rows L2
theorem law_sp {K : Par} {g : List PV → Store → Res PV} {H : Hp} {a : Addr} {ns : List Int} (hO : Only H) (hS : SqL K.F H a (ns.map V.int)) (hg : ∃ M', g [.fro ns] [] = .ok (.bl true) M') : spD K g [.ref a] H (fun v _ => v = .bl true) fun _ _ _ => False := by
  obtain ⟨M', e⟩ := hg
  refine ⟨[], [], [.fro ns], .mk (relP_fro.mpr ⟨a, rfl, ?_⟩) .nil, ⟨rfl, List.nodup_nil, fun n a c h => by simp at h⟩, ?_⟩
  · rcases hS with (h | h) | h
    · rcases hO a with z | ⟨o, xs, z⟩
      · rw [z] at h; cases h
      · rw [z] at h; cases h
    · exact .inl h
    · exact .inr h
  · rw [e]
    intro v ρ' H' m r x
    exact relP_bl.mp r
theorem walk_q {l : PySem.W.OpenLaw} {m n : Nat} {q : Program} {loose : List Str} {XP : (Str → Option Value) → Heap → Prop} {YP : World → Heap → Prop} {d : DefRec} {ds : List DD} {free : List Str} {fl : Nat} {dl : DD} {x : Str}
    (hn : l.most = some m) (hn2 : m ≤ sizeLine) (hdf : d.params.defaults = []) (hr : Room (n + 1) callerA) (hY : ∀ w h, YP w h → ∃ K : PySem.W.Frag, K.In h ∧ He.SaysD (factsOf ds free) (ds.map DD.D) K)
    (hname : d.name = dl.name) (hd : look ds fl = some dl) (hps : dl.ps = [x]) (hok : ds.all (DD.okB (pgOf ds free)) = true) (hb : ∀ d ∈ ds, d.Bd ∧ d.Kw)
    (hlaw : ∀ ns : List Int, ns.length ≤ m → (∀ z ∈ ns, Builtin.Int.intBits z ≤ 1048576) → ∃ M', den (tabs ds) (n + 1) fl [.fro ns] [] = .ok (.bl true) M') :
    PySem.W.WalkO q loose XP YP l.row.toRowW d [] (fun f vs => PySem.call f vs) := by
  refine Att.attach_callB hn hdf fun w s₀ s₁ mg mb fa o pm cd doc a vs ns G Y ho hdd hcd hmg hobj hints hlen hbits hg => ?_
  obtain ⟨K, KX, c⟩ := hY w _ Y
  have hmem := look_mem hd
  obtain ⟨fi, hl, e⟩ := List.getElem_of_mem hmem
  have hdi : ds[fi]? = some dl := by rw [List.getElem?_eq_getElem hl, e]
  obtain ⟨fd, F⟩ := c.def_ fi (d := dl.D) (by rw [List.getElem?_map, hdi]; rfl)
  have h1 : mg dl.name = some (.ref (He.ga K dl.name)) := He.glo_ok KX G.T.g (c.fact fi (f := .glo dl.name) (by
      unfold factsOf
      rw [List.getElem?_append_left (by simpa using hl), List.getElem?_map, hdi]
      rfl))
  rw [hname] at hmg
  rw [hmg] at h1
  cases h1
  have F : FunD K dl.name dl.name (defArgs dl.st) (defBody dl.st) (defScope dl.st) [] [] (He.ga K dl.name) fd := F
  have e1 : den (tabs ds) (n + 1) fl = exF (den (tabs ds) n) dl.q := by
    funext xs M
    (conv => lhs; unfold den)
    unfold tabs
    rw [hd]
    rfl
  have hb1 := FunD.bindsA (ps := dl.ps) F fun kV doc pm an cdv ct us hl => (hb dl hmem).1 kV doc pm an cdv ct us hl
  rw [hps] at hb1
  refine law_call (x := x) (sp := spD { F := K, kt := fun _ => False, ex := fun _ => none } (den (tabs ds) (n + 1) fl)) (CX := L2.CX l.prog w) KX G.T.g G.T.b G.T.builtins G.T.nolimit hg hobj hints (Nat.le_trans hlen hn2) hr (fun base KB NB => ?_) (fun s v => hb1 s [v] rfl)
    (fun H hO hS => law_sp (K := { F := K, kt := fun _ => False, ex := fun _ => none }) hO hS (hlaw ns hlen hbits)) (fun H e s' ⟨_, _, _, _, _, _, _, _, _, _, _, _, z⟩ => z)
  have pk := pr_ok (P := l.prog) (w := w) (K := { F := K, kt := fun _ => False, ex := fun _ => none }) (mg := mg) (base := base) rfl KX G.T.g c hok hb n
  have := fn_ok pk F (List.all_eq_true.mp hok dl hmem)
  rw [← e1, hps] at this
  exact this
end Q

/-! QP: a calculus of what the evaluator hands back. -/
namespace Q
open PySem PySem.Spec PyProof.Rows L2

def Res.Sat {α : Type} (r : Res α) (Q : α → Store → Prop) : Prop := match r with
  | .ok a M => Q a M
  | _ => False
/-- what holds behind a statement -/
structure En where
  nx : PEnv → Store → Prop := fun _ _ => False
  rt : PV → Store → Prop := fun _ _ => False
  bk : PEnv → Store → Prop := fun _ _ => False
  ct : PEnv → Store → Prop := fun _ _ => False
def RS.Sat (r : RS) (D : En) : Prop := match r with
  | .nx e M => D.nx e M
  | .rt v M => D.rt v M
  | .bk e M => D.bk e M
  | .ct e M => D.ct e M
  | _ => False
section
variable {α β : Type} {Q Q' : α → Store → Prop} {D D' : En}
@[simp] theorem sat_ok {a : α} {M : Store} : (Res.ok a M).Sat Q = Q a M := rfl
@[simp] theorem sat_bad : (Res.bad : Res α).Sat Q = False := rfl
theorem Res.Sat.mono {r : Res α} (h : r.Sat Q) (k : ∀ a M, Q a M → Q' a M) : r.Sat Q' := by
  cases r with
  | ok a M => exact k a M h
  | exc x M => exact h.elim
  | bad => exact h.elim
theorem Res.Sat.out {r : Res α} (h : r.Sat Q) : ∃ a M, r = .ok a M ∧ Q a M := by
  cases r with
  | ok a M => exact ⟨a, M, rfl, h⟩
  | exc x M => exact h.elim
  | bad => exact h.elim
@[simp] theorem sat_bind {r : Res β} {f : β → Store → Res α} : (r.bind f).Sat Q = r.Sat fun a M => (f a M).Sat Q := by
  cases r <;> rfl
@[simp] theorem sat_noexc {r : Res α} : r.noexc.Sat Q = r.Sat Q := by
  cases r <;> rfl
@[simp] theorem sat_guard {c : Prop} [Decidable c] {r : Res α} : (if c then r else .bad).Sat Q = (c ∧ r.Sat Q) := by
  by_cases h : c
  · simp [h]
  · simp [h]
theorem sat_if {c : Prop} [Decidable c] {r s : Res α} (h1 : c → r.Sat Q) (h2 : ¬c → s.Sat Q) : (if c then r else s).Sat Q := by
  by_cases h : c
  · rw [if_pos h]; exact h1 h
  · rw [if_neg h]; exact h2 h
@[simp] theorem rs_nx {e : PEnv} {M : Store} : (RS.nx e M).Sat D = D.nx e M := rfl
@[simp] theorem rs_rt {v : PV} {M : Store} : (RS.rt v M).Sat D = D.rt v M := rfl
@[simp] theorem rs_bk {e : PEnv} {M : Store} : (RS.bk e M).Sat D = D.bk e M := rfl
@[simp] theorem rs_ct {e : PEnv} {M : Store} : (RS.ct e M).Sat D = D.ct e M := rfl
@[simp] theorem rs_bad : RS.bad.Sat D = False := rfl
@[simp] theorem rs_to {r : Res α} {e : PEnv} {f : α → Store → RS} : (r.to e f).Sat D = r.Sat fun a M => (f a M).Sat D := by
  cases r <;> rfl
@[simp] theorem rs_seq {r : RS} {f : PEnv → Store → RS} : (r.seq f).Sat D = r.Sat { D with nx := fun e M => (f e M).Sat D } := by
  cases r <;> rfl
@[simp] theorem rs_guard {c : Prop} [Decidable c] {r : RS} : (if c then r else .bad).Sat D = (c ∧ r.Sat D) := by
  by_cases h : c
  · simp [h]
  · simp [h]
theorem RS.Sat.mono {r : RS} (h : r.Sat D) (n : ∀ e M, D.nx e M → D'.nx e M) (t : ∀ v M, D.rt v M → D'.rt v M) (b : ∀ e M, D.bk e M → D'.bk e M) (c : ∀ e M, D.ct e M → D'.ct e M) : r.Sat D' := by
  cases r with
  | nx e M => exact n e M h
  | rt v M => exact t v M h
  | bk e M => exact b e M h
  | ct e M => exact c e M h
  | exc x e M => exact h.elim
  | bad => exact h.elim
end
/-- a def's call -/
theorem den_sat {T : Nat → Option QF} {n f : Nat} {q : QF} {xs : List PV} {M : Store} {Q : PV → Store → Prop} (h : T f = some q) (hl : xs.length = q.pars)
    (hb : (exSs (den T n) q.body (startV q.slots xs) M).Sat { nx := fun _ M' => (gcR M .non M').Sat Q, rt := fun v M' => (gcR M v M').Sat Q }) : (den T (n + 1) f xs M).Sat Q := by
  unfold den
  rw [h]
  show (exF (den T n) q xs M).Sat Q
  unfold exF
  rw [if_pos hl]
  cases h1 : exSs (den T n) q.body (startV q.slots xs) M with
  | nx e M' => rw [h1] at hb; exact hb
  | rt v M' => rw [h1] at hb; exact hb
  | bk e M' => rw [h1] at hb; exact hb.elim
  | ct e M' => rw [h1] at hb; exact hb.elim
  | exc x e M' => rw [h1] at hb; exact hb.elim
  | bad => rw [h1] at hb; exact hb.elim
/-! ### loops -/
theorem while_sat {c : PEnv → Store → Res PV} {b : PEnv → Store → RS} {D : En} (I : Nat → PEnv → Store → Prop)
    (h : ∀ n e M, I n e M → (c e M).Sat fun x M1 => (truR x M1).Sat fun t M2 => match t with
      | false => D.nx e M2
      | true => (b e M2).Sat { nx := fun e' M' => ∃ m, m < n ∧ I m e' M', ct := fun e' M' => ∃ m, m < n ∧ I m e' M', bk := D.nx, rt := D.rt }) :
    ∀ (k n : Nat) e M, n < k → I n e M → (whileL c b k e M).Sat D
  | 0, n, e, M, hk, _ => absurd hk (Nat.not_lt_zero n)
  | k + 1, n, e, M, hk, hI => by
    have h1 := h n e M hI
    unfold whileL
    rw [rs_to]
    refine h1.mono fun x M1 h2 => ?_
    rw [rs_to]
    refine h2.mono fun t M2 h3 => ?_
    cases t with
    | false => exact h3
    | true =>
      dsimp only at h3 ⊢
      cases h4 : b e M2 with
      | nx e' M' =>
        rw [h4] at h3
        obtain ⟨m, hm, hI'⟩ := h3
        exact while_sat I h k m e' M' (by omega) hI'
      | ct e' M' =>
        rw [h4] at h3
        obtain ⟨m, hm, hI'⟩ := h3
        exact while_sat I h k m e' M' (by omega) hI'
      | bk e' M' => rw [h4] at h3; exact h3
      | rt v M' => rw [h4] at h3; exact h3
      | exc x e' M' => rw [h4] at h3; exact h3.elim
      | bad => rw [h4] at h3; exact h3.elim
theorem for_sat {still : Store → Bool} {tgt : PV → PEnv → Store → Res PEnv} {b : PEnv → Store → RS} {D : En} {xs : List PV} (I : Nat → PEnv → Store → Prop) (hst : ∀ i e M, i ≤ xs.length → I i e M → still M = true)
    (h : ∀ i x e M, xs[i]? = some x → I i e M → (tgt x e M).Sat fun e' M' => (b e' M').Sat { nx := fun e2 M2 => I (i + 1) e2 M2, ct := fun e2 M2 => I (i + 1) e2 M2, bk := D.nx, rt := D.rt })
    (hd : ∀ e M, I xs.length e M → D.nx e M) {e : PEnv} {M : Store} (h0 : I 0 e M) : (forL still tgt b xs e M).Sat D := by
  have key : ∀ (ys zs : List PV), xs = zs ++ ys → ∀ e M, I zs.length e M → (forL still tgt b ys e M).Sat D := by
    intro ys
    induction ys with
    | nil =>
      intro zs hz e M hI
      have : xs.length = zs.length := by rw [hz]; simp
      unfold forL
      rw [if_pos (hst _ e M (by omega) hI)]
      exact hd e M (by rw [this]; exact hI)
    | cons y ys ih =>
      intro zs hz e M hI
      have hl : xs.length = zs.length + (ys.length + 1) := by rw [hz]; simp
      have hg : xs[zs.length]? = some y := by rw [hz]; simp
      unfold forL
      rw [if_pos (hst _ e M (by omega) hI), rs_to]
      refine (h _ y e M hg hI).mono fun e1 M1 h1 => ?_
      have nxt : ∀ e2 M2, I (zs.length + 1) e2 M2 → (forL still tgt b ys e2 M2).Sat D := fun e2 M2 h2 => ih (zs ++ [y]) (by rw [hz]; simp) e2 M2 (by simpa using h2)
      cases h4 : b e1 M1 with
      | nx e' M' => rw [h4] at h1; exact nxt e' M' h1
      | ct e' M' => rw [h4] at h1; exact nxt e' M' h1
      | bk e' M' => rw [h4] at h1; exact h1
      | rt v M' => rw [h4] at h1; exact h1
      | exc x e' M' => rw [h4] at h1; exact h1.elim
      | bad => rw [h4] at h1; exact h1.elim
  exact key xs [] (by simp) e M h0
theorem comp_sat {still : Store → Bool} {tgt : PV → Store → Res PEnv} {test : PEnv → Store → Res Bool} {elt : PEnv → Store → Res PV} {Q : List PV → Store → Prop} {xs : List PV} (I : Nat → List PV → Store → Prop) (hst : ∀ i acc M, i ≤ xs.length → I i acc M → still M = true)
    (h : ∀ i x acc M, xs[i]? = some x → I i acc M → (tgt x M).Sat fun e M => (test e M).Sat fun k M => match k with
      | true => (elt e M).Sat fun y M => acc.length < sizeLine ∧ I (i + 1) (acc ++ [y]) M
      | false => I (i + 1) acc M)
    (hd : ∀ acc M, I xs.length acc M → Q acc M) {M : Store} (h0 : I 0 [] M) : (compL still tgt test elt xs [] M).Sat Q := by
  have key : ∀ (ys zs : List PV), xs = zs ++ ys → ∀ acc M, I zs.length acc M → (compL still tgt test elt ys acc M).Sat Q := by
    intro ys
    induction ys with
    | nil =>
      intro zs hz acc M hI
      have : xs.length = zs.length := by rw [hz]; simp
      unfold compL
      rw [if_pos (hst _ acc M (by omega) hI)]
      exact hd acc M (by rw [this]; exact hI)
    | cons y ys ih =>
      intro zs hz acc M hI
      have hl : xs.length = zs.length + (ys.length + 1) := by rw [hz]; simp
      have hg : xs[zs.length]? = some y := by rw [hz]; simp
      unfold compL
      rw [if_pos (hst _ acc M (by omega) hI), sat_bind, sat_noexc]
      refine (h _ y acc M hg hI).mono fun e1 M1 h1 => ?_
      rw [sat_bind, sat_noexc]
      refine h1.mono fun k M2 h2 => ?_
      have nxt : ∀ acc2 M2, I (zs.length + 1) acc2 M2 → (compL still tgt test elt ys acc2 M2).Sat Q := fun acc2 M2 h2 => ih (zs ++ [y]) (by rw [hz]; simp) acc2 M2 (by simpa using h2)
      cases k with
      | true =>
        rw [if_pos rfl, sat_bind, sat_noexc]
        refine Res.Sat.mono h2 fun z M3 h3 => ?_
        rw [if_pos h3.1]
        exact nxt _ M3 h3.2
      | false =>
        rw [if_neg (by decide)]
        exact nxt _ M2 h2
  exact key xs [] (by simp) [] M h0

/-! ### the store -/
theorem st_new {M : Store} {xs : Store} : (M ++ xs)[M.length]? = xs[0]? := by
  rw [List.getElem?_append_right (Nat.le_refl _), Nat.sub_self]
theorem st_newk {M : Store} {xs : Store} (k : Nat) : (M ++ xs)[M.length + k]? = xs[k]? := by
  rw [List.getElem?_append_right (Nat.le_add_right _ _), Nat.add_sub_cancel_left]
theorem st_set {M : Store} {xs : Store} {c : Cell} : (M ++ xs).set M.length c = M ++ xs.set 0 c := by
  rw [List.set_append_right _ _ (Nat.le_refl _), Nat.sub_self]
theorem st_setk {M : Store} {xs : Store} {c : Cell} (k : Nat) : (M ++ xs).set (M.length + k) c = M ++ xs.set k c := by
  rw [List.set_append_right _ _ (Nat.le_add_right _ _), Nat.add_sub_cancel_left]
theorem st_new0 {M r : Store} {c : Cell} : (M ++ c :: r)[M.length]? = some c := by
  rw [st_new]
  rfl
theorem st_set0 {M r : Store} {c d : Cell} : (M ++ c :: r).set M.length d = M ++ d :: r := by
  rw [st_set]
  rfl
theorem st_old {M : Store} {xs : Store} {d : Nat} (h : d < M.length) : (M ++ xs)[d]? = M[d]? := List.getElem?_append_left h
theorem st_old_set {M : Store} {xs : Store} {d : Nat} {c : Cell} (h : d < M.length) : (M ++ xs).set d c = M.set d c ++ xs := List.set_append_left _ _ h
theorem gcOk_refl {n : Nat} : ∀ M : Store, gcOk n M M = true
  | [] => rfl
  | c :: cs => by rw [gcOk, Cell.beq_refl, gcOk_refl cs]; rfl
theorem gcOk_of {n : Nat} : ∀ {M M1 : Store}, M1.length = M.length → (∀ (i : Nat) (c : Cell), M1[i]? = some c → M[i]? = some c ∨ c.low n = true) → gcOk n M M1 = true
  | [], [], _, _ => rfl
  | [], _ :: _, h, _ => by simp at h
  | _ :: _, [], h, _ => by simp at h
  | c :: cs, d :: ds, h, k => by
    rw [gcOk, Bool.and_eq_true, Bool.or_eq_true]
    refine ⟨?_, gcOk_of (by simpa using h) fun i c hi => by simpa using k (i + 1) c (by simpa using hi)⟩
    rcases k 0 d rfl with z | z
    · simp at z
      rw [z]
      exact .inl (Cell.beq_refl d)
    · exact .inr z
theorem gc_keep {M : Store} {v : PV} {ex : Store} (h : v.low M.length = true) : gcR M v (M ++ ex) = .ok v M := by
  unfold gcR
  split
  · rename_i hl
    have : ex = [] := by
      rw [List.length_append] at hl
      exact List.eq_nil_of_length_eq_zero (by omega)
    rw [this, List.append_nil]
  · rw [List.take_left, h, gcOk_refl]
    rfl
theorem gc_same {M : Store} {v : PV} : gcR M v M = .ok v M := by
  unfold gcR
  rw [if_pos (Nat.le_refl _)]
theorem gc_evo {M M1 : Store} {v : PV} {ex : Store} (hl : M1.length = M.length) (hc : ∀ (i : Nat) (c : Cell), M1[i]? = some c → M[i]? = some c ∨ c.low M.length = true) (h : v.low M.length = true) : gcR M v (M1 ++ ex) = .ok v M1 := by
  unfold gcR
  split
  · rename_i hl2
    have : ex = [] := by
      rw [List.length_append] at hl2
      exact List.eq_nil_of_length_eq_zero (by omega)
    rw [this, List.append_nil]
  · rw [← hl, List.take_left, hl, h, gcOk_of hl hc]
    rfl
/-- what goes out as it is -/
theorem gc_out {M M' : Store} {v : PV} (h : gcR M v M' = .ok v M') {Q : PV → Store → Prop} (q : Q v M') : (gcR M v M').Sat Q := by
  rw [h]
  exact q
/-! ### numbers' sizes -/
theorem log2_le {x k : Nat} (h : x < 2 ^ k) : x.log2 ≤ k := by
  by_cases e : x = 0
  · subst e
    simp
  · have := (Nat.log2_lt e).mpr h
    omega
theorem cmul {i j : Int} {a b : Nat} (hi : i.natAbs < 2 ^ a) (hj : j.natAbs < 2 ^ b) (h : a + b < 1000000) : CMulW i j := by
  show i.natAbs.log2 + j.natAbs.log2 < 1000000
  have := log2_le hi
  have := log2_le hj
  omega
theorem pylong_small {i j : Int} (h : j.natAbs < 2 ^ 9000) : Builtin.divisionGoesByPylong i j = false := by
  unfold Builtin.divisionGoesByPylong
  have hd : (if (j == 0) = true then 0 else j.natAbs.log2 / 30 + 1) ≤ 300 := by
    split
    · omega
    · rename_i hne
      have hj : j.natAbs ≠ 0 := fun e => hne (by rw [Int.natAbs_eq_zero.mp e]; rfl)
      have := (Nat.log2_lt hj).mpr h
      omega
  have : decide ((if (j == 0) = true then 0 else j.natAbs.log2 / 30 + 1) > 300) = false := decide_eq_false (by omega)
  dsimp only
  rw [this]
  rfl
end Q
namespace Q
open PySem PySem.Spec PyProof.Rows L2
/-! ### values -/
section
variable (cl : Nat → List PV → Store → Res PV) {e : PEnv} {M : Store}
theorem getV0 {x : Option PV} {r : PEnv} : getV (x :: r) 0 = x := rfl
theorem getVs {x : Option PV} {r : PEnv} {n : Nat} : getV (x :: r) (n + 1) = getV r n := rfl
theorem setV0 {x : Option PV} {r : PEnv} {v : PV} : setV (x :: r) 0 v = some v :: r := rfl
theorem setVs {x : Option PV} {r : PEnv} {n : Nat} {v : PV} : setV (x :: r) (n + 1) v = x :: setV r n v := rfl
def stV : Nat → List PV → PEnv
  | 0, _ => []
  | n + 1, [] => none :: stV n []
  | n + 1, x :: xs => some x :: stV n xs
theorem startV_eq : ∀ (n : Nat) (xs : List PV), xs.length ≤ n → startV n xs = stV n xs
  | 0, [], _ => rfl
  | 0, _ :: _, h => by simp at h
  | n + 1, [], _ => by
    have := startV_eq n [] (by simp)
    unfold startV at this ⊢
    simp at this
    unfold stV
    rw [← this]
    simp [List.replicate_succ]
  | n + 1, x :: xs, h => by
    have := startV_eq n xs (by simpa using h)
    unfold startV at this ⊢
    unfold stV
    rw [← this]
    simp
theorem add_int {i j : Int} : binV .add (.int i) (.int j) M = .ok (.int (i + j)) M := rfl
theorem sub_int {i j : Int} : binV .sub (.int i) (.int j) M = .ok (.int (i - j)) M := rfl
theorem mul_int {i j : Int} : binV .mul (.int i) (.int j) M = if CMulW i j then .ok (.int (i * j)) M else .bad := rfl
theorem fdiv_int {i j : Int} : binV .fdiv (.int i) (.int j) M = if 0 < j ∧ Builtin.divisionGoesByPylong i j = false then .ok (.int (i / j)) M else .bad := rfl
theorem mod_int {i j : Int} : binV .mod (.int i) (.int j) M = if 0 < j then .ok (.int (i % j)) M else .bad := rfl
theorem pow_int {i j : Int} : binV .pow (.int i) (.int j) M = if 0 ≤ j ∧ j ≤ 1000000 ∧ i.natAbs < 2 ^ 64 then .ok (.int (i ^ j.toNat)) M else .bad := rfl
theorem shl_int {i j : Int} : binV .shl (.int i) (.int j) M = if 0 ≤ j ∧ (Builtin.Int.intBits i : Int) + j ≤ 2 ^ 27 then .ok (.int (i * 2 ^ j.toNat)) M else .bad := rfl
theorem shr_int {i j : Int} : binV .shr (.int i) (.int j) M = if 0 ≤ j then .ok (.int (i / 2 ^ j.toNat)) M else .bad := rfl
theorem lt_int {i j : Int} : cmpV .lt (.int i) (.int j) M = .ok (.bl (decide (i < j))) M := rfl
theorem le_int {i j : Int} : cmpV .le (.int i) (.int j) M = .ok (.bl (decide (i ≤ j))) M := rfl
theorem gt_int {i j : Int} : cmpV .gt (.int i) (.int j) M = .ok (.bl (decide (j < i))) M := rfl
theorem ge_int {i j : Int} : cmpV .ge (.int i) (.int j) M = .ok (.bl (decide (j ≤ i))) M := rfl
theorem eq_int {i j : Int} : cmpV .eq (.int i) (.int j) M = .ok (.bl (decide (i = j))) M := rfl
theorem ne_int {i j : Int} : cmpV .ne (.int i) (.int j) M = .ok (.bl (!decide (i = j))) M := rfl
theorem eq_bl {i j : Bool} : cmpV .eq (.bl i) (.bl j) M = .ok (.bl (decide (i = j))) M := rfl
theorem ne_bl {i j : Bool} : cmpV .ne (.bl i) (.bl j) M = .ok (.bl (!decide (i = j))) M := rfl
theorem eq_str {i j : Str} : cmpV .eq (.str i) (.str j) M = .ok (.bl (decide (i = j))) M := rfl
theorem ne_str {i j : Str} : cmpV .ne (.str i) (.str j) M = .ok (.bl (!decide (i = j))) M := rfl
theorem tru_bl {b : Bool} : truR (.bl b) M = .ok b M := rfl
theorem tru_int {i : Int} : truR (.int i) M = .ok (i != 0) M := rfl
theorem tru_non : truR .non M = .ok false M := rfl
theorem tru_tup {xs : List PV} : truR (.tup xs) M = .ok (!xs.isEmpty) M := rfl
theorem aug_add {i j : Int} : augV .add (.int i) (.int j) M = .ok (.int (i + j)) M := rfl
theorem aug_sub {i j : Int} : augV .sub (.int i) (.int j) M = .ok (.int (i - j)) M := rfl
theorem bi_len_tup {xs : List PV} : biV .len [.tup xs] M = .ok (.int (xs.length : Nat)) M := rfl
theorem bi_int {i : Int} : biV .int [.int i] M = .ok (.int i) M := rfl
theorem bi_int_bl {b : Bool} : biV .int [.bl b] M = .ok (.int (if b then 1 else 0)) M := rfl
theorem bi_abs {i : Int} : biV .abs [.int i] M = .ok (.int (if i < 0 then -i else i)) M := rfl
theorem bi_max {i j : Int} : biV .max [.int i, .int j] M = .ok (.int (if j > i then j else i)) M := rfl
theorem bi_min {i j : Int} : biV .min [.int i, .int j] M = .ok (.int (if j < i then j else i)) M := rfl
theorem bi_isi {x : PV} {t n : String} (h : tyName x M = some t) (h2 : isiOk n = true) : biV .isi [x, .ty n] M = .ok (.bl (isiB t n)) M := by
  show (match tyName x M with
    | some t => if isiOk n then Res.ok (PV.bl (isiB t n)) M else Res.bad
    | none => Res.bad) = _
  rw [h]
  simp [h2]
theorem ix_tup {xs : List PV} {k : Int} : ixV (.tup xs) (.int k) M = okO (atI xs k) M := rfl
end
end Q

/-! QR: the calculus by steps: the store is boxed, so a rewriting never goes ahead of the state. -/
namespace Q
open PySem PySem.Spec PyProof.Rows L2
structure Bx where
  M : Store
structure Jn where
  rt : PV → Bx → Prop := fun _ _ => False
  bk : PEnv → Bx → Prop := fun _ _ => False
  ct : PEnv → Bx → Prop := fun _ _ => False
section
variable (cl : Nat → List PV → Store → Res PV)
structure E (q : QE) (e : PEnv) (B : Bx) (k : PV → Bx → Prop) : Prop where
  out : (evE cl q e B.M).Sat fun v M => k v ⟨M⟩
theorem E_eq (q : QE) (e : PEnv) (B : Bx) (k : PV → Bx → Prop) : E cl q e B k = ((evE cl q e B.M).Sat fun v M => k v ⟨M⟩) := propext ⟨fun h => h.out, fun h => ⟨h⟩⟩
structure Es (q : QEs) (e : PEnv) (B : Bx) (k : List PV → Bx → Prop) : Prop where
  out : (evEs cl q e B.M).Sat fun v M => k v ⟨M⟩
theorem Es_eq (q : QEs) (e : PEnv) (B : Bx) (k : List PV → Bx → Prop) : Es cl q e B k = ((evEs cl q e B.M).Sat fun v M => k v ⟨M⟩) := propext ⟨fun h => h.out, fun h => ⟨h⟩⟩
structure EO (q : QO) (e : PEnv) (B : Bx) (k : Option Int → Bx → Prop) : Prop where
  out : (evO cl q e B.M).Sat fun v M => k v ⟨M⟩
theorem EO_eq (q : QO) (e : PEnv) (B : Bx) (k : Option Int → Bx → Prop) : EO cl q e B k = ((evO cl q e B.M).Sat fun v M => k v ⟨M⟩) := propext ⟨fun h => h.out, fun h => ⟨h⟩⟩
structure Tg (t : QT) (v : PV) (e : PEnv) (B : Bx) (k : PEnv → Bx → Prop) : Prop where
  out : (evT cl t v e B.M).Sat fun v M => k v ⟨M⟩
theorem Tg_eq (t : QT) (v : PV) (e : PEnv) (B : Bx) (k : PEnv → Bx → Prop) : Tg cl t v e B k = ((evT cl t v e B.M).Sat fun v M => k v ⟨M⟩) := propext ⟨fun h => h.out, fun h => ⟨h⟩⟩
structure Tgs (t : QTs) (v : List PV) (e : PEnv) (B : Bx) (k : PEnv → Bx → Prop) : Prop where
  out : (evTs cl t v e B.M).Sat fun v M => k v ⟨M⟩
theorem Tgs_eq (t : QTs) (v : List PV) (e : PEnv) (B : Bx) (k : PEnv → Bx → Prop) : Tgs cl t v e B k = ((evTs cl t v e B.M).Sat fun v M => k v ⟨M⟩) := propext ⟨fun h => h.out, fun h => ⟨h⟩⟩
structure It (t : QI) (e : PEnv) (B : Bx) (k : Src → Bx → Prop) : Prop where
  out : (evI cl t e B.M).Sat fun v M => k v ⟨M⟩
theorem It_eq (t : QI) (e : PEnv) (B : Bx) (k : Src → Bx → Prop) : It cl t e B k = ((evI cl t e B.M).Sat fun v M => k v ⟨M⟩) := propext ⟨fun h => h.out, fun h => ⟨h⟩⟩
structure Cl (f : Nat) (xs : List PV) (B : Bx) (k : PV → Bx → Prop) : Prop where
  out : (cl f xs B.M).Sat fun v M => k v ⟨M⟩
theorem Cl_eq (f : Nat) (xs : List PV) (B : Bx) (k : PV → Bx → Prop) : Cl cl f xs B k = ((cl f xs B.M).Sat fun v M => k v ⟨M⟩) := propext ⟨fun h => h.out, fun h => ⟨h⟩⟩
structure Op (o : Bop) (x y : PV) (B : Bx) (k : PV → Bx → Prop) : Prop where
  out : (binV o x y B.M).Sat fun v M => k v ⟨M⟩
theorem Op_eq (o : Bop) (x y : PV) (B : Bx) (k : PV → Bx → Prop) : Op o x y B k = ((binV o x y B.M).Sat fun v M => k v ⟨M⟩) := propext ⟨fun h => h.out, fun h => ⟨h⟩⟩
structure Cm (o : Cop) (x y : PV) (B : Bx) (k : PV → Bx → Prop) : Prop where
  out : (cmpV o x y B.M).Sat fun v M => k v ⟨M⟩
theorem Cm_eq (o : Cop) (x y : PV) (B : Bx) (k : PV → Bx → Prop) : Cm o x y B k = ((cmpV o x y B.M).Sat fun v M => k v ⟨M⟩) := propext ⟨fun h => h.out, fun h => ⟨h⟩⟩
structure Tr (x : PV) (B : Bx) (k : Bool → Bx → Prop) : Prop where
  out : (truR x B.M).Sat fun v M => k v ⟨M⟩
theorem Tr_eq (x : PV) (B : Bx) (k : Bool → Bx → Prop) : Tr x B k = ((truR x B.M).Sat fun v M => k v ⟨M⟩) := propext ⟨fun h => h.out, fun h => ⟨h⟩⟩
structure Au (o : Bop) (x y : PV) (B : Bx) (k : PV → Bx → Prop) : Prop where
  out : (augV o x y B.M).Sat fun v M => k v ⟨M⟩
theorem Au_eq (o : Bop) (x y : PV) (B : Bx) (k : PV → Bx → Prop) : Au o x y B k = ((augV o x y B.M).Sat fun v M => k v ⟨M⟩) := propext ⟨fun h => h.out, fun h => ⟨h⟩⟩
structure Bi (b : BI) (xs : List PV) (B : Bx) (k : PV → Bx → Prop) : Prop where
  out : (biV b xs B.M).Sat fun v M => k v ⟨M⟩
theorem Bi_eq (b : BI) (xs : List PV) (B : Bx) (k : PV → Bx → Prop) : Bi b xs B k = ((biV b xs B.M).Sat fun v M => k v ⟨M⟩) := propext ⟨fun h => h.out, fun h => ⟨h⟩⟩
structure Ix (x i : PV) (B : Bx) (k : PV → Bx → Prop) : Prop where
  out : (ixV x i B.M).Sat fun v M => k v ⟨M⟩
theorem Ix_eq (x i : PV) (B : Bx) (k : PV → Bx → Prop) : Ix x i B k = ((ixV x i B.M).Sat fun v M => k v ⟨M⟩) := propext ⟨fun h => h.out, fun h => ⟨h⟩⟩
structure Sl (x : PV) (lo hi : Option Int) (B : Bx) (k : PV → Bx → Prop) : Prop where
  out : (slV x lo hi B.M).Sat fun v M => k v ⟨M⟩
theorem Sl_eq (x : PV) (lo hi : Option Int) (B : Bx) (k : PV → Bx → Prop) : Sl x lo hi B k = ((slV x lo hi B.M).Sat fun v M => k v ⟨M⟩) := propext ⟨fun h => h.out, fun h => ⟨h⟩⟩
structure Se (o i v : PV) (B : Bx) (k : Bx → Prop) : Prop where
  out : (setI o i v B.M).Sat fun _ M => k ⟨M⟩
theorem Se_eq (o i v : PV) (B : Bx) (k : Bx → Prop) : Se o i v B k = ((setI o i v B.M).Sat fun _ M => k ⟨M⟩) := propext ⟨fun h => h.out, fun h => ⟨h⟩⟩
structure Gc (M0 : Store) (x : PV) (B : Bx) (k : PV → Bx → Prop) : Prop where
  out : (gcR M0 x B.M).Sat fun v M => k v ⟨M⟩
theorem Gc_eq (M0 : Store) (x : PV) (B : Bx) (k : PV → Bx → Prop) : Gc M0 x B k = ((gcR M0 x B.M).Sat fun v M => k v ⟨M⟩) := propext ⟨fun h => h.out, fun h => ⟨h⟩⟩
def Ng (x : PV) (B : Bx) (k : PV → Bx → Prop) : Prop := match x with
  | .int i => k (.int (-i)) B
  | _ => False
def Bt (x : PV) (B : Bx) (k : PV → Bx → Prop) : Prop := match x with
  | .int i => k (.int (Builtin.Int.intBits i : Nat)) B
  | _ => False
def In (x : PV) (B : Bx) (k : Option Int → Bx → Prop) : Prop := match x with
  | .int i => k (some i) B
  | _ => False
structure Src1 (f : PV → Store → Res Src) (x : PV) (B : Bx) (k : Src → Bx → Prop) : Prop where
  out : (f x B.M).Sat fun v M => k v ⟨M⟩
theorem Src1_eq (f : PV → Store → Res Src) (x : PV) (B : Bx) (k : Src → Bx → Prop) : Src1 f x B k = ((f x B.M).Sat fun v M => k v ⟨M⟩) := propext ⟨fun h => h.out, fun h => ⟨h⟩⟩
def Cond (b : Bool) (P R : Prop) : Prop := match b with
  | true => P
  | false => R
structure Cmp (elt : QE) (t : QT) (c : QO) (own : List Nat) (src : Src) (e : PEnv) (B : Bx) (k : List PV → Bx → Prop) : Prop where
  out : (compL src.still (fun x M => evT cl t x (wipeVs e own) M) (fun e' M => evC cl c e' M) (fun e' M => evE cl elt e' M) src.items [] B.M).Sat fun v M => k v ⟨M⟩
theorem Cmp_eq (elt : QE) (t : QT) (c : QO) (own : List Nat) (src : Src) (e : PEnv) (B : Bx) (k : List PV → Bx → Prop) : Cmp cl elt t c own src e B k = ((compL src.still (fun x M => evT cl t x (wipeVs e own) M) (fun e' M => evC cl c e' M) (fun e' M => evE cl elt e' M) src.items [] B.M).Sat fun v M => k v ⟨M⟩) := propext ⟨fun h => h.out, fun h => ⟨h⟩⟩
def TupK (xs : List PV) (B : Bx) (k : PV → Bx → Prop) : Prop := xs.length ≤ sizeLine ∧ k (.tup xs) B
structure S (s : QS) (e : PEnv) (B : Bx) (N : PEnv → Bx → Prop) (D : Jn) : Prop where
  out : (exS cl s e B.M).Sat { nx := fun e M => N e ⟨M⟩, rt := fun v M => D.rt v ⟨M⟩, bk := fun e M => D.bk e ⟨M⟩, ct := fun e M => D.ct e ⟨M⟩ }
theorem S_eq (s : QS) (e : PEnv) (B : Bx) (N : PEnv → Bx → Prop) (D : Jn) : S cl s e B N D = ((exS cl s e B.M).Sat { nx := fun e M => N e ⟨M⟩, rt := fun v M => D.rt v ⟨M⟩, bk := fun e M => D.bk e ⟨M⟩, ct := fun e M => D.ct e ⟨M⟩ }) := propext ⟨fun h => h.out, fun h => ⟨h⟩⟩
structure Ss (s : QSs) (e : PEnv) (B : Bx) (N : PEnv → Bx → Prop) (D : Jn) : Prop where
  out : (exSs cl s e B.M).Sat { nx := fun e M => N e ⟨M⟩, rt := fun v M => D.rt v ⟨M⟩, bk := fun e M => D.bk e ⟨M⟩, ct := fun e M => D.ct e ⟨M⟩ }
theorem Ss_eq (s : QSs) (e : PEnv) (B : Bx) (N : PEnv → Bx → Prop) (D : Jn) : Ss cl s e B N D = ((exSs cl s e B.M).Sat { nx := fun e M => N e ⟨M⟩, rt := fun v M => D.rt v ⟨M⟩, bk := fun e M => D.bk e ⟨M⟩, ct := fun e M => D.ct e ⟨M⟩ }) := propext ⟨fun h => h.out, fun h => ⟨h⟩⟩
structure Wh (c : QE) (b : QSs) (e : PEnv) (B : Bx) (N : PEnv → Bx → Prop) (D : Jn) : Prop where
  out : (whileL (fun e M => evE cl c e M) (fun e M => exSs cl b e M) bigW e B.M).Sat { nx := fun e M => N e ⟨M⟩, rt := fun v M => D.rt v ⟨M⟩, bk := fun e M => D.bk e ⟨M⟩, ct := fun e M => D.ct e ⟨M⟩ }
theorem Wh_eq (c : QE) (b : QSs) (e : PEnv) (B : Bx) (N : PEnv → Bx → Prop) (D : Jn) : Wh cl c b e B N D = ((whileL (fun e M => evE cl c e M) (fun e M => exSs cl b e M) bigW e B.M).Sat { nx := fun e M => N e ⟨M⟩, rt := fun v M => D.rt v ⟨M⟩, bk := fun e M => D.bk e ⟨M⟩, ct := fun e M => D.ct e ⟨M⟩ }) := propext ⟨fun h => h.out, fun h => ⟨h⟩⟩
structure Fo (t : QT) (src : Src) (b : QSs) (e : PEnv) (B : Bx) (N : PEnv → Bx → Prop) (D : Jn) : Prop where
  out : (forL src.still (fun x e M => evT cl t x e M) (fun e M => exSs cl b e M) src.items e B.M).Sat { nx := fun e M => N e ⟨M⟩, rt := fun v M => D.rt v ⟨M⟩, bk := fun e M => D.bk e ⟨M⟩, ct := fun e M => D.ct e ⟨M⟩ }
theorem Fo_eq (t : QT) (src : Src) (b : QSs) (e : PEnv) (B : Bx) (N : PEnv → Bx → Prop) (D : Jn) : Fo cl t src b e B N D = ((forL src.still (fun x e M => evT cl t x e M) (fun e M => exSs cl b e M) src.items e B.M).Sat { nx := fun e M => N e ⟨M⟩, rt := fun v M => D.rt v ⟨M⟩, bk := fun e M => D.bk e ⟨M⟩, ct := fun e M => D.ct e ⟨M⟩ }) := propext ⟨fun h => h.out, fun h => ⟨h⟩⟩
end
section
variable {cl : Nat → List PV → Store → Res PV} {e : PEnv} {M : Store} {k : PV → Bx → Prop} {N : PEnv → Bx → Prop} {D : Jn}
/-! ### expressions -/
def VarK (o : Option PV) (B : Bx) (k : PV → Bx → Prop) : Prop := match o with
  | some v => k v B
  | none => False
theorem e_var {i : Nat} : E cl (.var i) e ⟨M⟩ k = VarK (getV e i) ⟨M⟩ k := by
  simp only [E_eq]
  unfold VarK
  unfold evE
  cases getV e i <;> rfl
theorem varK {v : PV} {B : Bx} : VarK (some v) B k = k v B := rfl
theorem e_int {i : Int} : E cl (.int i) e ⟨M⟩ k = k (.int i) ⟨M⟩ := by simp only [E_eq]; unfold evE; rfl
theorem e_bl {b : Bool} : E cl (.bl b) e ⟨M⟩ k = k (.bl b) ⟨M⟩ := by simp only [E_eq]; unfold evE; rfl
theorem e_non : E cl .non e ⟨M⟩ k = k .non ⟨M⟩ := by simp only [E_eq]; unfold evE; rfl
theorem e_str {x : Str} : E cl (.str x) e ⟨M⟩ k = k (.str x) ⟨M⟩ := by simp only [E_eq]; unfold evE; rfl
theorem e_ty {x : String} : E cl (.ty x) e ⟨M⟩ k = k (.ty x) ⟨M⟩ := by simp only [E_eq]; unfold evE; rfl
theorem e_bin {o : Bop} {a b : QE} : E cl (.bin o a b) e ⟨M⟩ k = E cl a e ⟨M⟩ fun x B => E cl b e B fun y B => Op o x y B k := by
  simp only [E_eq, Op_eq]
  (conv => lhs; unfold evE)
  simp only [sat_bind]
theorem e_neg {a : QE} : E cl (.neg a) e ⟨M⟩ k = E cl a e ⟨M⟩ fun x B => Ng x B k := by
  simp only [E_eq]
  unfold Ng
  (conv => lhs; unfold evE)
  simp only [sat_bind]
  congr 1
  funext x M
  cases x <;> rfl
theorem e_cmp {o : Cop} {a b : QE} : E cl (.cmp o a b) e ⟨M⟩ k = E cl a e ⟨M⟩ fun x B => E cl b e B fun y B => Cm o x y B k := by
  simp only [E_eq, Cm_eq]
  (conv => lhs; unfold evE)
  simp only [sat_bind]
theorem cm_bl {o : Cop} {x y : PV} : (∃ b, cmpV o x y M = .ok (.bl b) M) ∨ cmpV o x y M = .bad := by
  unfold cmpV
  cases cmpB M o x y with
  | none => exact .inr rfl
  | some b => exact .inl ⟨b, rfl⟩
def Ch (v : PV) (B : Bx) (t : Bx → Prop) (k : PV → Bx → Prop) : Prop := match v with
  | .bl b => Cond b (t B) (k (.bl false) B)
  | _ => False
theorem e_chain {o o' : Cop} {a b c : QE} : E cl (.chain o o' a b c) e ⟨M⟩ k = E cl a e ⟨M⟩ fun x B => E cl b e B fun y B => Cm o x y B fun v B => Ch v B (fun B => E cl c e B fun z B => Cm o' y z B k) k := by
  simp only [E_eq, Cm_eq]
  (conv => lhs; unfold evE)
  simp only [sat_bind]
  congr 1
  funext x M
  congr 1
  funext y M
  congr 1
  funext v M
  unfold Ch
  cases v with
  | bl b => cases b <;> (try simp only [sat_bind]) <;> rfl
  | _ => rfl
theorem e_isN {a : QE} : E cl (.isN a) e ⟨M⟩ k = E cl a e ⟨M⟩ fun x B => k (.bl x.isNon) B := by
  simp only [E_eq]
  (conv => lhs; unfold evE)
  simp only [sat_bind]
  rfl
theorem e_notN {a : QE} : E cl (.notN a) e ⟨M⟩ k = E cl a e ⟨M⟩ fun x B => k (.bl (!x.isNon)) B := by
  simp only [E_eq]
  (conv => lhs; unfold evE)
  simp only [sat_bind]
  rfl
theorem e_and {a b : QE} : E cl (.and a b) e ⟨M⟩ k = E cl a e ⟨M⟩ fun x B => Tr x B fun c B => Cond c (E cl b e B k) (k x B) := by
  simp only [E_eq, Tr_eq]
  (conv => lhs; unfold evE)
  simp only [sat_bind]
  congr 1
  funext x M
  congr 1
  funext c M
  cases c <;> rfl
theorem e_or {a b : QE} : E cl (.or a b) e ⟨M⟩ k = E cl a e ⟨M⟩ fun x B => Tr x B fun c B => Cond c (k x B) (E cl b e B k) := by
  simp only [E_eq, Tr_eq]
  (conv => lhs; unfold evE)
  simp only [sat_bind]
  congr 1
  funext x M
  congr 1
  funext c M
  cases c <;> rfl
theorem e_not {a : QE} : E cl (.not a) e ⟨M⟩ k = E cl a e ⟨M⟩ fun x B => Tr x B fun c B => k (.bl (!c)) B := by
  simp only [E_eq, Tr_eq]
  (conv => lhs; unfold evE)
  simp only [sat_bind]
  rfl
theorem e_ite {c a b : QE} : E cl (.ite c a b) e ⟨M⟩ k = E cl c e ⟨M⟩ fun x B => Tr x B fun c B => Cond c (E cl a e B k) (E cl b e B k) := by
  simp only [E_eq, Tr_eq]
  (conv => lhs; unfold evE)
  simp only [sat_bind]
  congr 1
  funext x M
  congr 1
  funext c M
  cases c <;> rfl
theorem e_call {f : Nat} {as : QEs} : E cl (.call f as) e ⟨M⟩ k = Es cl as e ⟨M⟩ fun xs B => Cl cl f xs B k := by
  simp only [E_eq, Es_eq, Cl_eq]
  (conv => lhs; unfold evE)
  simp only [sat_bind]
def Prm (o : Option (List PV)) (P : List PV → Prop) : Prop := match o with
  | some zs => P zs
  | none => False
theorem prm_some {zs : List PV} {P : List PV → Prop} : Prm (some zs) P = P zs := rfl
theorem e_callK {f : Nat} {as ks : QEs} {pm : List Nat} : E cl (.callK f as ks pm) e ⟨M⟩ k = Es cl as e ⟨M⟩ fun xs B => Es cl ks e B fun ys B => Prm (permL (xs ++ ys) pm) fun zs => Cl cl f zs B k := by
  simp only [E_eq, Es_eq, Cl_eq]
  (conv => lhs; unfold evE)
  simp only [sat_bind]
  congr 1
  funext xs M
  congr 1
  funext ys M
  unfold Prm
  cases permL (xs ++ ys) pm <;> rfl
theorem e_bi {b : BI} {as : QEs} : E cl (.bi b as) e ⟨M⟩ k = Es cl as e ⟨M⟩ fun xs B => Bi b xs B k := by
  simp only [E_eq, Es_eq, Bi_eq]
  (conv => lhs; unfold evE)
  simp only [sat_bind]
theorem e_tup {as : QEs} : E cl (.tup as) e ⟨M⟩ k = Es cl as e ⟨M⟩ fun xs B => TupK xs B k := by
  simp only [E_eq, Es_eq]
  unfold TupK
  (conv => lhs; unfold evE)
  simp only [sat_bind, sat_guard, sat_ok]
def LstK (xs : List PV) (B : Bx) (k : PV → Bx → Prop) : Prop := xs.length ≤ sizeLine ∧ k (.ref B.M.length) ⟨B.M ++ [.lst xs]⟩
theorem e_lst {as : QEs} : E cl (.lst as) e ⟨M⟩ k = Es cl as e ⟨M⟩ fun xs B => LstK xs B k := by
  simp only [E_eq, Es_eq]
  unfold LstK
  (conv => lhs; unfold evE)
  simp only [sat_bind, sat_guard, sat_ok]
theorem lstK {xs : List PV} : LstK xs ⟨M⟩ k = (xs.length ≤ sizeLine ∧ k (.ref M.length) ⟨M ++ [.lst xs]⟩) := rfl
theorem tupK {xs : List PV} : TupK xs ⟨M⟩ k = (xs.length ≤ sizeLine ∧ k (.tup xs) ⟨M⟩) := rfl
theorem e_ix {a b : QE} : E cl (.ix a b) e ⟨M⟩ k = E cl a e ⟨M⟩ fun x B => E cl b e B fun y B => Ix x y B k := by
  simp only [E_eq, Ix_eq]
  (conv => lhs; unfold evE)
  simp only [sat_bind]
theorem e_sl {a : QE} {lo hi : QO} : E cl (.sl a lo hi) e ⟨M⟩ k = E cl a e ⟨M⟩ fun x B => EO cl lo e B fun l B => EO cl hi e B fun h B => Sl x l h B k := by
  simp only [E_eq, EO_eq, Sl_eq]
  (conv => lhs; unfold evE)
  simp only [sat_bind]
theorem eo_none {k : Option Int → Bx → Prop} : EO cl .none e ⟨M⟩ k = k none ⟨M⟩ := by simp only [EO_eq]; unfold evO; rfl
theorem eo_some {a : QE} {k : Option Int → Bx → Prop} : EO cl (.some a) e ⟨M⟩ k = E cl a e ⟨M⟩ fun x B => In x B k := by
  simp only [EO_eq, E_eq]
  unfold In
  (conv => lhs; unfold evO)
  simp only [sat_bind]
  congr 1
  funext x M
  cases x <;> rfl
theorem in_int {i : Int} {k : Option Int → Bx → Prop} : In (.int i) ⟨M⟩ k = k (some i) ⟨M⟩ := rfl
structure Lst? (x : PV) (B : Bx) (P : Bx → Prop) : Prop where
  out : isLst B.M x = true ∧ P B
theorem Lstq_eq (x : PV) (B : Bx) (P : Bx → Prop) : Lst? x B P = (isLst B.M x = true ∧ P B) := propext ⟨fun h => h.out, fun h => ⟨h⟩⟩
structure MtK (m : Mt) (x : PV) (xs : List PV) (B : Bx) (k : PV → Bx → Prop) : Prop where
  out : (mtV m x xs B.M).Sat fun v M => k v ⟨M⟩
theorem MtK_eq (m : Mt) (x : PV) (xs : List PV) (B : Bx) (k : PV → Bx → Prop) : MtK m x xs B k = ((mtV m x xs B.M).Sat fun v M => k v ⟨M⟩) := propext ⟨fun h => h.out, fun h => ⟨h⟩⟩
theorem e_mt {m : Mt} {a : QE} {as : QEs} : E cl (.mt m a as) e ⟨M⟩ k = E cl a e ⟨M⟩ fun x B => Lst? x B fun B => Es cl as e B fun xs B => MtK m x xs B k := by
  simp only [E_eq, Es_eq, MtK_eq, Lstq_eq]
  (conv => lhs; unfold evE)
  simp only [sat_bind, sat_guard]
theorem e_bits {a : QE} : E cl (.bits a) e ⟨M⟩ k = E cl a e ⟨M⟩ fun x B => Bt x B k := by
  simp only [E_eq]
  unfold Bt
  (conv => lhs; unfold evE)
  simp only [sat_bind]
  congr 1
  funext x M
  cases x <;> rfl
theorem bt_int {i : Int} : Bt (.int i) ⟨M⟩ k = k (.int (Builtin.Int.intBits i : Nat)) ⟨M⟩ := rfl
theorem ng_int {i : Int} : Ng (.int i) ⟨M⟩ k = k (.int (-i)) ⟨M⟩ := rfl
theorem e_comp {elt : QE} {t : QT} {it : QI} {c : QO} {own : List Nat} : E cl (.comp elt t it c own) e ⟨M⟩ k = It cl it e ⟨M⟩ fun src B => Cmp cl elt t c own src e B fun ys B => k (.ref B.M.length) ⟨B.M ++ [.lst ys]⟩ := by
  simp only [E_eq, It_eq, Cmp_eq]
  (conv => lhs; unfold evE)
  simp only [sat_bind, sat_ok]
theorem e_gc {a : QE} : E cl (.gc a) e ⟨M⟩ k = E cl a e ⟨M⟩ fun x B => Gc M x B k := by
  simp only [E_eq, Gc_eq]
  (conv => lhs; unfold evE)
  simp only [sat_bind]
theorem es_nil {k : List PV → Bx → Prop} : Es cl .nil e ⟨M⟩ k = k [] ⟨M⟩ := by simp only [Es_eq]; unfold evEs; rfl
theorem es_cons {a : QE} {r : QEs} {k : List PV → Bx → Prop} : Es cl (.cons a r) e ⟨M⟩ k = E cl a e ⟨M⟩ fun x B => Es cl r e B fun xs B => k (x :: xs) B := by
  simp only [Es_eq, E_eq]
  (conv => lhs; unfold evEs)
  simp only [sat_bind]
  rfl
/-! ### targets, sources -/
theorem tg_var {i : Nat} {v : PV} : Tg cl (.var i) v e ⟨M⟩ N = N (setV e i v) ⟨M⟩ := by
  simp only [Tg_eq]
  unfold evT
  rfl
theorem tg_tup {ts : QTs} {xs : List PV} : Tg cl (.tup ts) (.tup xs) e ⟨M⟩ N = Tgs cl ts xs e ⟨M⟩ N := by
  simp only [Tg_eq, Tgs_eq]
  (conv => lhs; unfold evT)
theorem tg_ref {ts : QTs} {n : Nat} {xs : List PV} (h : M[n]? = some (.lst xs)) : Tg cl (.tup ts) (.ref n) e ⟨M⟩ N = Tgs cl ts xs e ⟨M⟩ N := by
  simp only [Tg_eq, Tgs_eq]
  (conv => lhs; unfold evT)
  simp only [h]
theorem tg_sub {a b : QE} {v : PV} : Tg cl (.sub a b) v e ⟨M⟩ N = E cl a e ⟨M⟩ fun o B => E cl b e B fun i B => Se o i v B fun B => N e B := by
  simp only [Tg_eq, E_eq, Se_eq]
  (conv => lhs; unfold evT)
  simp only [sat_bind]
  rfl
theorem tgs_nil : Tgs cl .nil [] e ⟨M⟩ N = N e ⟨M⟩ := by simp only [Tgs_eq]; unfold evTs; rfl
theorem tgs_cons {t : QT} {r : QTs} {v : PV} {vs : List PV} : Tgs cl (.cons t r) (v :: vs) e ⟨M⟩ N = Tg cl t v e ⟨M⟩ fun e B => Tgs cl r vs e B N := by
  simp only [Tgs_eq, Tg_eq]
  (conv => lhs; unfold evTs)
  simp only [sat_bind, sat_noexc]
theorem it_list {a : QE} {k : Src → Bx → Prop} : It cl (.list a) e ⟨M⟩ k = E cl a e ⟨M⟩ fun x B => Src1 listSrc x B k := by
  simp only [It_eq, E_eq, Src1_eq]
  (conv => lhs; unfold evI)
  simp only [sat_bind]
theorem it_tup {a : QE} {k : Src → Bx → Prop} : It cl (.tup a) e ⟨M⟩ k = E cl a e ⟨M⟩ fun x B => Src1 tupSrc x B k := by
  simp only [It_eq, E_eq, Src1_eq]
  (conv => lhs; unfold evI)
  simp only [sat_bind]
theorem it_rng1 {a : QE} {k : Src → Bx → Prop} : It cl (.rng1 a) e ⟨M⟩ k = E cl a e ⟨M⟩ fun x B => Src1 (rngSrc (.int 0)) x B k := by
  simp only [It_eq, E_eq, Src1_eq]
  (conv => lhs; unfold evI)
  simp only [sat_bind]
theorem it_rng2 {a b : QE} {k : Src → Bx → Prop} : It cl (.rng2 a b) e ⟨M⟩ k = E cl a e ⟨M⟩ fun x B => E cl b e B fun y B => Src1 (rngSrc x) y B k := by
  simp only [It_eq, E_eq, Src1_eq]
  (conv => lhs; unfold evI)
  simp only [sat_bind]
theorem it_enum {a : QE} {k : Src → Bx → Prop} : It cl (.enum a) e ⟨M⟩ k = E cl a e ⟨M⟩ fun x B => Src1 enumSrc x B k := by
  simp only [It_eq, E_eq, Src1_eq]
  (conv => lhs; unfold evI)
  simp only [sat_bind]
theorem src_tup {xs : List PV} {k : Src → Bx → Prop} : Src1 tupSrc (.tup xs) ⟨M⟩ k = k ⟨xs, none⟩ ⟨M⟩ := by rw [Src1_eq]; rfl
theorem src_fro {ns : List Int} {k : Src → Bx → Prop} : Src1 listSrc (.fro ns) ⟨M⟩ k = k ⟨ns.map .int, none⟩ ⟨M⟩ := by rw [Src1_eq]; rfl
theorem src_ref {n : Nat} {xs : List PV} (h : M[n]? = some (.lst xs)) {k : Src → Bx → Prop} : Src1 listSrc (.ref n) ⟨M⟩ k = k ⟨xs, some (n, .lst xs)⟩ ⟨M⟩ := by
  simp only [Src1_eq]
  unfold listSrc
  simp only [h, sat_ok]
theorem src_rng {i j : Int} {k : Src → Bx → Prop} : Src1 (rngSrc (.int i)) (.int j) ⟨M⟩ k = ((-4611686018427387904 ≤ i ∧ i < 4611686018427387904 ∧ -4611686018427387904 ≤ j ∧ j < 4611686018427387904) ∧ k ⟨rngItems i (j - i).toNat, none⟩ ⟨M⟩) := by
  have e : (2 : Int) ^ 62 = 4611686018427387904 := by decide
  simp only [Src1_eq]
  unfold rngSrc
  rw [e]
  simp only [sat_guard, sat_ok]
theorem src_enum {x : PV} {k : Src → Bx → Prop} : Src1 enumSrc x ⟨M⟩ k = Src1 listSrc x ⟨M⟩ fun s B => k ⟨enumFrom 0 s.items, s.cell⟩ B := by
  simp only [Src1_eq]
  unfold enumSrc
  simp only [sat_bind, sat_ok]
/-! ### operations -/
theorem op_add {i j : Int} : Op .add (.int i) (.int j) ⟨M⟩ k = k (.int (i + j)) ⟨M⟩ := by rw [Op_eq]; rfl
theorem op_sub {i j : Int} : Op .sub (.int i) (.int j) ⟨M⟩ k = k (.int (i - j)) ⟨M⟩ := by rw [Op_eq]; rfl
theorem op_mul {i j : Int} : Op .mul (.int i) (.int j) ⟨M⟩ k = (CMulW i j ∧ k (.int (i * j)) ⟨M⟩) := by
  rw [Op_eq]; rw [mul_int, sat_guard]; rfl
theorem op_fdiv {i j : Int} : Op .fdiv (.int i) (.int j) ⟨M⟩ k = ((0 < j ∧ Builtin.divisionGoesByPylong i j = false) ∧ k (.int (i / j)) ⟨M⟩) := by
  rw [Op_eq]; rw [fdiv_int, sat_guard]; rfl
theorem op_mod {i j : Int} : Op .mod (.int i) (.int j) ⟨M⟩ k = (0 < j ∧ k (.int (i % j)) ⟨M⟩) := by
  rw [Op_eq]; rw [mod_int, sat_guard]; rfl
theorem op_pow {i j : Int} : Op .pow (.int i) (.int j) ⟨M⟩ k = ((0 ≤ j ∧ j ≤ 1000000 ∧ i.natAbs < 2 ^ 64) ∧ k (.int (i ^ j.toNat)) ⟨M⟩) := by
  rw [Op_eq]; rw [pow_int, sat_guard]; rfl
theorem op_shl {i j : Int} : Op .shl (.int i) (.int j) ⟨M⟩ k = ((0 ≤ j ∧ (Builtin.Int.intBits i : Int) + j ≤ 134217728) ∧ k (.int (i * 2 ^ j.toNat)) ⟨M⟩) := by
  have e : (2 : Int) ^ 27 = 134217728 := by decide
  rw [Op_eq]; rw [shl_int, e, sat_guard]; rfl
theorem op_shr {i j : Int} : Op .shr (.int i) (.int j) ⟨M⟩ k = (0 ≤ j ∧ k (.int (i / 2 ^ j.toNat)) ⟨M⟩) := by
  rw [Op_eq]; rw [shr_int, sat_guard]; rfl
theorem op_addl {a b : Nat} {xs ys : List PV} (ha : M[a]? = some (.lst xs)) (hb : M[b]? = some (.lst ys)) : Op .add (.ref a) (.ref b) ⟨M⟩ k = (xs.length + ys.length ≤ sizeLine ∧ k (.ref M.length) ⟨M ++ [.lst (xs ++ ys)]⟩) := by
  simp only [Op_eq]
  show (addV (.ref a) (.ref b) M).Sat _ = _
  unfold addV lists2
  simp only [ha, hb, sat_guard, sat_ok]
theorem op_addt {xs ys : List PV} : Op .add (.tup xs) (.tup ys) ⟨M⟩ k = (xs.length + ys.length ≤ sizeLine ∧ k (.tup (xs ++ ys)) ⟨M⟩) := by
  simp only [Op_eq]
  show (addV (.tup xs) (.tup ys) M).Sat _ = _
  unfold addV
  simp only [sat_guard, sat_ok]
theorem cm_lt {i j : Int} : Cm .lt (.int i) (.int j) ⟨M⟩ k = k (.bl (decide (i < j))) ⟨M⟩ := by rw [Cm_eq]; rfl
theorem cm_le {i j : Int} : Cm .le (.int i) (.int j) ⟨M⟩ k = k (.bl (decide (i ≤ j))) ⟨M⟩ := by rw [Cm_eq]; rfl
theorem cm_gt {i j : Int} : Cm .gt (.int i) (.int j) ⟨M⟩ k = k (.bl (decide (j < i))) ⟨M⟩ := by rw [Cm_eq]; rfl
theorem cm_ge {i j : Int} : Cm .ge (.int i) (.int j) ⟨M⟩ k = k (.bl (decide (j ≤ i))) ⟨M⟩ := by rw [Cm_eq]; rfl
theorem cm_eq {i j : Int} : Cm .eq (.int i) (.int j) ⟨M⟩ k = k (.bl (decide (i = j))) ⟨M⟩ := by rw [Cm_eq]; rfl
theorem cm_ne {i j : Int} : Cm .ne (.int i) (.int j) ⟨M⟩ k = k (.bl (!decide (i = j))) ⟨M⟩ := by rw [Cm_eq]; rfl
theorem cm_eq_bl {i j : Bool} : Cm .eq (.bl i) (.bl j) ⟨M⟩ k = k (.bl (decide (i = j))) ⟨M⟩ := by rw [Cm_eq]; rfl
theorem cm_ne_bl {i j : Bool} : Cm .ne (.bl i) (.bl j) ⟨M⟩ k = k (.bl (!decide (i = j))) ⟨M⟩ := by rw [Cm_eq]; rfl
theorem cm_eq_str {i j : Str} : Cm .eq (.str i) (.str j) ⟨M⟩ k = k (.bl (decide (i = j))) ⟨M⟩ := by rw [Cm_eq]; rfl
theorem cm_ne_str {i j : Str} : Cm .ne (.str i) (.str j) ⟨M⟩ k = k (.bl (!decide (i = j))) ⟨M⟩ := by rw [Cm_eq]; rfl
theorem tr_bl {b : Bool} {k : Bool → Bx → Prop} : Tr (.bl b) ⟨M⟩ k = k b ⟨M⟩ := by rw [Tr_eq]; rfl
theorem tr_int {i : Int} {k : Bool → Bx → Prop} : Tr (.int i) ⟨M⟩ k = k (i != 0) ⟨M⟩ := by rw [Tr_eq]; rfl
theorem tr_non {k : Bool → Bx → Prop} : Tr .non ⟨M⟩ k = k false ⟨M⟩ := by rw [Tr_eq]; rfl
theorem ch_bl {b : Bool} {t : Bx → Prop} : Ch (.bl b) ⟨M⟩ t k = Cond b (t ⟨M⟩) (k (.bl false) ⟨M⟩) := rfl
theorem cond_dec {p : Prop} [Decidable p] {P R : Prop} : Cond (decide p) P R = ((p → P) ∧ (¬p → R)) := by
  by_cases h : p
  · simp [h, Cond]
  · simp [h, Cond]
theorem cond_not {b : Bool} {P R : Prop} : Cond (!b) P R = Cond b R P := by cases b <;> rfl
theorem cond_t {P R : Prop} : Cond true P R = P := rfl
theorem cond_f {P R : Prop} : Cond false P R = R := rfl
theorem cond_ne {i : Int} {P R : Prop} : Cond (i != 0) P R = ((i ≠ 0 → P) ∧ (i = 0 → R)) := by
  by_cases h : i = 0
  · simp [h, Cond]
  · have : (i != 0) = true := by simpa using h
    rw [this]; simp [h, Cond]
theorem au_add {i j : Int} : Au .add (.int i) (.int j) ⟨M⟩ k = k (.int (i + j)) ⟨M⟩ := by rw [Au_eq]; rfl
theorem au_sub {i j : Int} : Au .sub (.int i) (.int j) ⟨M⟩ k = k (.int (i - j)) ⟨M⟩ := by rw [Au_eq]; rfl
theorem b_len_tup {xs : List PV} : Bi .len [.tup xs] ⟨M⟩ k = k (.int (xs.length : Nat)) ⟨M⟩ := by rw [Bi_eq]; rfl
theorem b_len_ref {n : Nat} {xs : List PV} (h : M[n]? = some (.lst xs)) : Bi .len [.ref n] ⟨M⟩ k = k (.int (xs.length : Nat)) ⟨M⟩ := by
  simp only [Bi_eq]
  show (okO ((lenP (.ref n) M).map fun (n : Nat) => PV.int (n : Int)) M).Sat _ = _
  unfold lenP
  simp only [h]
  rfl
theorem b_int {i : Int} : Bi .int [.int i] ⟨M⟩ k = k (.int i) ⟨M⟩ := by rw [Bi_eq]; rfl
theorem b_int_bl {b : Bool} : Bi .int [.bl b] ⟨M⟩ k = k (.int (if b then 1 else 0)) ⟨M⟩ := by rw [Bi_eq]; rfl
theorem b_abs {i : Int} : Bi .abs [.int i] ⟨M⟩ k = k (.int (if i < 0 then -i else i)) ⟨M⟩ := by rw [Bi_eq]; rfl
theorem b_max {i j : Int} : Bi .max [.int i, .int j] ⟨M⟩ k = k (.int (if j > i then j else i)) ⟨M⟩ := by rw [Bi_eq]; rfl
theorem b_min {i j : Int} : Bi .min [.int i, .int j] ⟨M⟩ k = k (.int (if j < i then j else i)) ⟨M⟩ := by rw [Bi_eq]; rfl
theorem b_isi {x : PV} {t n : String} (h : tyName x M = some t) (h2 : isiOk n = true) : Bi .isi [x, .ty n] ⟨M⟩ k = k (.bl (isiB t n)) ⟨M⟩ := by
  simp only [Bi_eq]
  rw [bi_isi h h2]
  rfl
def At (o : Option PV) (B : Bx) (k : PV → Bx → Prop) : Prop := match o with
  | some v => k v B
  | none => False
theorem at_some {v : PV} {B : Bx} : At (some v) B k = k v B := rfl
theorem at_of {o : Option PV} {v : PV} {B : Bx} (h : o = some v) (q : k v B) : At o B k := by rw [h]; exact q
theorem x_tup {xs : List PV} {i : Int} : Ix (.tup xs) (.int i) ⟨M⟩ k = At (atI xs i) ⟨M⟩ k := by
  simp only [Ix_eq]
  unfold At
  show (okO (atI xs i) M).Sat _ = _
  cases atI xs i <;> rfl
theorem x_ref {n : Nat} {xs : List PV} {i : Int} (h : M[n]? = some (.lst xs)) : Ix (.ref n) (.int i) ⟨M⟩ k = At (atI xs i) ⟨M⟩ k := by
  simp only [Ix_eq]
  unfold At
  show (match M[n]? with
      | some (.lst xs) => okO (atI xs i) M
      | some (.dK lk kvs) => okO (getK kvs (.inl i)) M
      | _ => Res.bad).Sat _ = _
  simp only [h]
  cases atI xs i <;> rfl
theorem l_ref {n : Nat} {xs : List PV} {P : Bx → Prop} (h : M[n]? = some (.lst xs)) : Lst? (.ref n) ⟨M⟩ P = P ⟨M⟩ := by
  simp only [Lstq_eq]
  unfold isLst
  simp only [h, true_and]
theorem m_append {n : Nat} {xs : List PV} {y : PV} (h : M[n]? = some (.lst xs)) : MtK .append (.ref n) [y] ⟨M⟩ k = (xs.length < sizeLine ∧ k .non ⟨M.set n (.lst (xs ++ [y]))⟩) := by
  simp only [MtK_eq]
  unfold mtV
  simp only [h, sat_guard, sat_ok]
theorem m_pop {n : Nat} {xs : List PV} {y : PV} (h : M[n]? = some (.lst (xs ++ [y]))) : MtK .pop (.ref n) [] ⟨M⟩ k = k y ⟨M.set n (.lst xs)⟩ := by
  simp only [MtK_eq]
  unfold mtV
  simp [h, sat_ok]
theorem m_extend {n b : Nat} {xs ys : List PV} (h : M[n]? = some (.lst xs)) (hb : M[b]? = some (.lst ys)) : MtK .extend (.ref n) [.ref b] ⟨M⟩ k = (xs.length + ys.length ≤ sizeLine ∧ k .non ⟨M.set n (.lst (xs ++ ys))⟩) := by
  simp only [MtK_eq]
  unfold mtV lists2
  simp only [h, hb, sat_guard, sat_ok]
theorem se_lst {n : Nat} {xs : List PV} {i : Int} {j : Nat} {v : PV} {P : Bx → Prop} (h : M[n]? = some (.lst xs)) (hi : ixN xs.length i = some j) : Se (.ref n) (.int i) v ⟨M⟩ P = P ⟨M.set n (.lst (xs.set j v))⟩ := by
  simp only [Se_eq]
  unfold setI
  simp only [h, hi, sat_ok]
theorem sl_fro {ns : List Int} {lo hi : Option Int} : Sl (.fro ns) lo hi ⟨M⟩ k = k (.ref M.length) ⟨M ++ [.lst (cutL (ns.map .int) lo hi)]⟩ := by rw [Sl_eq]; rfl
theorem gc_pure {x : PV} : Gc M x ⟨M⟩ k = k x ⟨M⟩ := by
  simp only [Gc_eq]
  rw [gc_same]
  rfl
theorem gc_drop {x : PV} {ex : Store} (h : x.low M.length = true) : Gc M x ⟨M ++ ex⟩ k = k x ⟨M⟩ := by
  simp only [Gc_eq]
  rw [gc_keep h]
  rfl
theorem gc_ref {M' : Store} {j : Nat} : Gc M (.ref (M.length + j)) ⟨M'⟩ k = k (.ref (M.length + j)) ⟨M'⟩ := by
  simp only [Gc_eq]
  unfold gcR
  have h : PV.low M.length (.ref (M.length + j)) = false := by
    rw [PV.low]
    exact decide_eq_false (by omega)
  rw [h]
  split <;> rfl
theorem gc_ref0 {M' : Store} : Gc M (.ref M.length) ⟨M'⟩ k = k (.ref M.length) ⟨M'⟩ := gc_ref (j := 0)
/-! ### statements -/
theorem ss_nil : Ss cl .nil e ⟨M⟩ N D = N e ⟨M⟩ := by simp only [Ss_eq]; unfold exSs; rfl
theorem ss_cons {s : QS} {r : QSs} : Ss cl (.cons s r) e ⟨M⟩ N D = S cl s e ⟨M⟩ (fun e B => Ss cl r e B N D) D := by
  simp only [Ss_eq, S_eq]
  (conv => lhs; unfold exSs)
  rw [rs_seq]
theorem s_asgv {i : Nat} {a : QE} : S cl (.asg (.var i) a) e ⟨M⟩ N D = E cl a e ⟨M⟩ fun x B => N (setV e i x) B := by
  simp only [S_eq, E_eq]
  (conv => lhs; unfold exS)
  simp only [rs_to]
  rfl
theorem s_asgt {t : QT} {a : QE} : S cl (.asg t a) e ⟨M⟩ N D = E cl a e ⟨M⟩ fun x B => Tg cl t x e B N := by
  simp only [S_eq, E_eq, Tg_eq]
  (conv => lhs; unfold exS)
  simp only [rs_to]
  rfl
theorem s_para {i j : Nat} {a b : QE} : S cl (.par i j a b) e ⟨M⟩ N D = E cl a e ⟨M⟩ fun x B => E cl b e B fun y B => N (setV (setV e i x) j y) B := by
  simp only [S_eq, E_eq]
  (conv => lhs; unfold exS)
  simp only [rs_to]
  rfl
theorem s_auga {i : Nat} {o : Bop} {a : QE} : S cl (.aug i o a) e ⟨M⟩ N D = VarK (getV e i) ⟨M⟩ fun x B => E cl a e B fun y B => Au o x y B fun z B => N (setV e i z) B := by
  simp only [S_eq, E_eq, Au_eq]
  unfold VarK
  (conv => lhs; unfold exS)
  cases getV e i with
  | none => rfl
  | some x =>
    simp only [rs_to]
    rfl
theorem s_exp {a : QE} : S cl (.expr a) e ⟨M⟩ N D = E cl a e ⟨M⟩ fun _ B => N e B := by
  simp only [S_eq, E_eq]
  (conv => lhs; unfold exS)
  simp only [rs_to]
  rfl
theorem s_retE {a : QE} : S cl (.ret a) e ⟨M⟩ N D = E cl a e ⟨M⟩ fun x B => D.rt x B := by
  simp only [S_eq, E_eq]
  (conv => lhs; unfold exS)
  simp only [rs_to]
  rfl
theorem s_retNon : S cl .retN e ⟨M⟩ N D = D.rt .non ⟨M⟩ := by simp only [S_eq]; unfold exS; rfl
theorem s_if {c : QE} {a b : QSs} : S cl (.ite c a b) e ⟨M⟩ N D = E cl c e ⟨M⟩ fun x B => Tr x B fun t B => Cond t (Ss cl a e B N D) (Ss cl b e B N D) := by
  simp only [S_eq, E_eq, Tr_eq, Ss_eq]
  (conv => lhs; unfold exS)
  simp only [rs_to]
  congr 1
  funext x M
  congr 1
  funext t M
  cases t <;> rfl
theorem s_while {c : QE} {b : QSs} : S cl (.whl c b) e ⟨M⟩ N D = Wh cl c b e ⟨M⟩ N D := by
  simp only [S_eq, Wh_eq]
  (conv => lhs; unfold exS)
theorem s_fo {t : QT} {it : QI} {b : QSs} : S cl (.for t it b) e ⟨M⟩ N D = It cl it e ⟨M⟩ fun src B => Fo cl t src b e B N D := by
  simp only [S_eq, It_eq, Fo_eq]
  (conv => lhs; unfold exS)
  simp only [rs_to]
theorem s_break : S cl .brk e ⟨M⟩ N D = D.bk e ⟨M⟩ := by simp only [S_eq]; unfold exS; rfl
theorem s_conti : S cl .cont e ⟨M⟩ N D = D.ct e ⟨M⟩ := by simp only [S_eq]; unfold exS; rfl
theorem s_ps : S cl .pass e ⟨M⟩ N D = N e ⟨M⟩ := by simp only [S_eq]; unfold exS; rfl
theorem gc_chg {c c' : Cell} {ex : Store} {x : PV} (hx : x.low (M.length + 1) = true) (hc : c'.low (M.length + 1) = true) : Gc (M ++ [c]) x ⟨M ++ (c' :: ex)⟩ k = k x ⟨M ++ [c']⟩ := by
  simp only [Gc_eq]
  have e : M ++ c' :: ex = (M ++ [c']) ++ ex := by simp
  rw [e, gc_evo (by simp) (fun i d hi => ?_) (by simpa using hx)]
  · rfl
  · by_cases h : i < M.length
    · left
      rw [List.getElem?_append_left h] at hi ⊢
      exact hi
    · right
      have hl := (List.getElem?_eq_some_iff.mp hi).1
      have ei : i = M.length := by simp at hl; omega
      subst ei
      rw [st_new] at hi
      simp at hi
      subst hi
      simpa using hc
theorem isi_non_int  : Bi .isi [.non, .ty "int"] ⟨M⟩ k = k (.bl false) ⟨M⟩ := b_isi (t := "NoneType") rfl (by decide)
theorem isi_non_bool  : Bi .isi [.non, .ty "bool"] ⟨M⟩ k = k (.bl false) ⟨M⟩ := b_isi (t := "NoneType") rfl (by decide)
theorem isi_non_str  : Bi .isi [.non, .ty "str"] ⟨M⟩ k = k (.bl false) ⟨M⟩ := b_isi (t := "NoneType") rfl (by decide)
theorem isi_non_tuple  : Bi .isi [.non, .ty "tuple"] ⟨M⟩ k = k (.bl false) ⟨M⟩ := b_isi (t := "NoneType") rfl (by decide)
theorem isi_non_list  : Bi .isi [.non, .ty "list"] ⟨M⟩ k = k (.bl false) ⟨M⟩ := b_isi (t := "NoneType") rfl (by decide)
theorem isi_non_dict  : Bi .isi [.non, .ty "dict"] ⟨M⟩ k = k (.bl false) ⟨M⟩ := b_isi (t := "NoneType") rfl (by decide)
theorem isi_bl_int {b : Bool} : Bi .isi [.bl b, .ty "int"] ⟨M⟩ k = k (.bl true) ⟨M⟩ := b_isi (t := "bool") rfl (by decide)
theorem isi_bl_bool {b : Bool} : Bi .isi [.bl b, .ty "bool"] ⟨M⟩ k = k (.bl true) ⟨M⟩ := b_isi (t := "bool") rfl (by decide)
theorem isi_bl_str {b : Bool} : Bi .isi [.bl b, .ty "str"] ⟨M⟩ k = k (.bl false) ⟨M⟩ := b_isi (t := "bool") rfl (by decide)
theorem isi_bl_tuple {b : Bool} : Bi .isi [.bl b, .ty "tuple"] ⟨M⟩ k = k (.bl false) ⟨M⟩ := b_isi (t := "bool") rfl (by decide)
theorem isi_bl_list {b : Bool} : Bi .isi [.bl b, .ty "list"] ⟨M⟩ k = k (.bl false) ⟨M⟩ := b_isi (t := "bool") rfl (by decide)
theorem isi_bl_dict {b : Bool} : Bi .isi [.bl b, .ty "dict"] ⟨M⟩ k = k (.bl false) ⟨M⟩ := b_isi (t := "bool") rfl (by decide)
theorem isi_int_int {i : Int} : Bi .isi [.int i, .ty "int"] ⟨M⟩ k = k (.bl true) ⟨M⟩ := b_isi (t := "int") rfl (by decide)
theorem isi_int_bool {i : Int} : Bi .isi [.int i, .ty "bool"] ⟨M⟩ k = k (.bl false) ⟨M⟩ := b_isi (t := "int") rfl (by decide)
theorem isi_int_str {i : Int} : Bi .isi [.int i, .ty "str"] ⟨M⟩ k = k (.bl false) ⟨M⟩ := b_isi (t := "int") rfl (by decide)
theorem isi_int_tuple {i : Int} : Bi .isi [.int i, .ty "tuple"] ⟨M⟩ k = k (.bl false) ⟨M⟩ := b_isi (t := "int") rfl (by decide)
theorem isi_int_list {i : Int} : Bi .isi [.int i, .ty "list"] ⟨M⟩ k = k (.bl false) ⟨M⟩ := b_isi (t := "int") rfl (by decide)
theorem isi_int_dict {i : Int} : Bi .isi [.int i, .ty "dict"] ⟨M⟩ k = k (.bl false) ⟨M⟩ := b_isi (t := "int") rfl (by decide)
theorem isi_str_int {x : Str} : Bi .isi [.str x, .ty "int"] ⟨M⟩ k = k (.bl false) ⟨M⟩ := b_isi (t := "str") rfl (by decide)
theorem isi_str_bool {x : Str} : Bi .isi [.str x, .ty "bool"] ⟨M⟩ k = k (.bl false) ⟨M⟩ := b_isi (t := "str") rfl (by decide)
theorem isi_str_str {x : Str} : Bi .isi [.str x, .ty "str"] ⟨M⟩ k = k (.bl true) ⟨M⟩ := b_isi (t := "str") rfl (by decide)
theorem isi_str_tuple {x : Str} : Bi .isi [.str x, .ty "tuple"] ⟨M⟩ k = k (.bl false) ⟨M⟩ := b_isi (t := "str") rfl (by decide)
theorem isi_str_list {x : Str} : Bi .isi [.str x, .ty "list"] ⟨M⟩ k = k (.bl false) ⟨M⟩ := b_isi (t := "str") rfl (by decide)
theorem isi_str_dict {x : Str} : Bi .isi [.str x, .ty "dict"] ⟨M⟩ k = k (.bl false) ⟨M⟩ := b_isi (t := "str") rfl (by decide)
theorem isi_tup_int {xs : List PV} : Bi .isi [.tup xs, .ty "int"] ⟨M⟩ k = k (.bl false) ⟨M⟩ := b_isi (t := "tuple") rfl (by decide)
theorem isi_tup_bool {xs : List PV} : Bi .isi [.tup xs, .ty "bool"] ⟨M⟩ k = k (.bl false) ⟨M⟩ := b_isi (t := "tuple") rfl (by decide)
theorem isi_tup_str {xs : List PV} : Bi .isi [.tup xs, .ty "str"] ⟨M⟩ k = k (.bl false) ⟨M⟩ := b_isi (t := "tuple") rfl (by decide)
theorem isi_tup_tuple {xs : List PV} : Bi .isi [.tup xs, .ty "tuple"] ⟨M⟩ k = k (.bl true) ⟨M⟩ := b_isi (t := "tuple") rfl (by decide)
theorem isi_tup_list {xs : List PV} : Bi .isi [.tup xs, .ty "list"] ⟨M⟩ k = k (.bl false) ⟨M⟩ := b_isi (t := "tuple") rfl (by decide)
theorem isi_tup_dict {xs : List PV} : Bi .isi [.tup xs, .ty "dict"] ⟨M⟩ k = k (.bl false) ⟨M⟩ := b_isi (t := "tuple") rfl (by decide)
theorem isi_fro_int {xs : List Int} : Bi .isi [.fro xs, .ty "int"] ⟨M⟩ k = k (.bl false) ⟨M⟩ := b_isi (t := "list") rfl (by decide)
theorem isi_fro_bool {xs : List Int} : Bi .isi [.fro xs, .ty "bool"] ⟨M⟩ k = k (.bl false) ⟨M⟩ := b_isi (t := "list") rfl (by decide)
theorem isi_fro_str {xs : List Int} : Bi .isi [.fro xs, .ty "str"] ⟨M⟩ k = k (.bl false) ⟨M⟩ := b_isi (t := "list") rfl (by decide)
theorem isi_fro_tuple {xs : List Int} : Bi .isi [.fro xs, .ty "tuple"] ⟨M⟩ k = k (.bl false) ⟨M⟩ := b_isi (t := "list") rfl (by decide)
theorem isi_fro_list {xs : List Int} : Bi .isi [.fro xs, .ty "list"] ⟨M⟩ k = k (.bl true) ⟨M⟩ := b_isi (t := "list") rfl (by decide)
theorem isi_fro_dict {xs : List Int} : Bi .isi [.fro xs, .ty "dict"] ⟨M⟩ k = k (.bl false) ⟨M⟩ := b_isi (t := "list") rfl (by decide)
/-! ### by what stands in a cell -/
def CL (o : Option Cell) (P : List PV → Prop) (R : List (Key × PV) → Prop) : Prop := match o with
  | some (.lst xs) => P xs
  | some (.dK lk kvs) => R kvs
  | _ => False
theorem cl_lst {xs : List PV} {P : List PV → Prop} {R : List (Key × PV) → Prop} : CL (some (.lst xs)) P R = P xs := rfl
theorem cl_dK {lk : Bool} {xs : List (Key × PV)} {P : List PV → Prop} {R : List (Key × PV) → Prop} : CL (some (.dK lk xs)) P R = R xs := rfl
theorem cx_ref {n : Nat} {i : Int} : Ix (.ref n) (.int i) ⟨M⟩ k = CL M[n]? (fun xs => At (atI xs i) ⟨M⟩ k) (fun kvs => At (getK kvs (.inl i)) ⟨M⟩ k) := by
  simp only [Ix_eq]
  show (match M[n]? with
      | some (.lst xs) => okO (atI xs i) M
      | some (.dK lk kvs) => okO (getK kvs (.inl i)) M
      | _ => Res.bad).Sat _ = _
  unfold CL At
  split
  · rename_i xs h
    dsimp only
    cases atI xs i <;> rfl
  · rename_i kvs h
    dsimp only
    cases getK kvs (.inl i) <;> rfl
  · rename_i h1 h2
    cases hM : M[n]? with
    | none => rfl
    | some c =>
      cases c with
      | lst xs => exact absurd hM (h1 xs)
      | dK lk l => exact absurd hM (h2 lk l)
      | dT lk l => rfl
theorem cx_str {n : Nat} {i : Str} : Ix (.ref n) (.str i) ⟨M⟩ k = CL M[n]? (fun _ => False) (fun kvs => At (getK kvs (.inr i)) ⟨M⟩ k) := by
  simp only [Ix_eq]
  show (match M[n]? with
      | some (.dK lk kvs) => okO (getK kvs (.inr i)) M
      | _ => Res.bad).Sat _ = _
  unfold CL At
  cases hM : M[n]? with
  | none => rfl
  | some c =>
    cases c with
    | dK lk l =>
      dsimp only
      cases getK l (.inr i) <;> rfl
    | _ => rfl
theorem cop_add {a b : Nat} : Op .add (.ref a) (.ref b) ⟨M⟩ k = CL M[a]? (fun xs => CL M[b]? (fun ys => xs.length + ys.length ≤ sizeLine ∧ k (.ref M.length) ⟨M ++ [.lst (xs ++ ys)]⟩) fun _ => False) fun _ => False := by
  simp only [Op_eq]
  show (addV (.ref a) (.ref b) M).Sat _ = _
  unfold addV lists2 CL
  dsimp only
  cases ha : M[a]? with
  | none => cases hb : M[b]? <;> rfl
  | some c =>
    cases c with
    | lst xs =>
      cases hb : M[b]? with
      | none => rfl
      | some c =>
        cases c with
        | lst ys => simp only [sat_guard, sat_ok]
        | _ => rfl
    | _ => cases hb : M[b]? <;> rfl
theorem cb_len {n : Nat} : Bi .len [.ref n] ⟨M⟩ k = CL M[n]? (fun xs => k (.int (xs.length : Nat)) ⟨M⟩) (fun xs => k (.int (xs.length : Nat)) ⟨M⟩) := by
  simp only [Bi_eq]
  show (okO ((lenP (.ref n) M).map fun (n : Nat) => PV.int (n : Int)) M).Sat _ = _
  unfold lenP CL
  dsimp only
  cases h : M[n]? with
  | none => rfl
  | some c => cases c <;> rfl
theorem cl_q {n : Nat} {P : Bx → Prop} : Lst? (.ref n) ⟨M⟩ P = CL M[n]? (fun _ => P ⟨M⟩) fun _ => False := by
  simp only [Lstq_eq]
  unfold isLst CL
  dsimp only
  cases h : M[n]? with
  | none => simp
  | some c => cases c <;> simp
theorem cm_append {n : Nat} {y : PV} : MtK .append (.ref n) [y] ⟨M⟩ k = CL M[n]? (fun xs => xs.length < sizeLine ∧ k .non ⟨M.set n (.lst (xs ++ [y]))⟩) fun _ => False := by
  simp only [MtK_eq]
  unfold mtV CL
  dsimp only
  cases h : M[n]? with
  | none => rfl
  | some c =>
    cases c with
    | lst xs => simp only [sat_guard, sat_ok]
    | _ => rfl
def PopK (xs : List PV) (n : Nat) (B : Bx) (k : PV → Bx → Prop) : Prop := match xs[xs.length - 1]? with
  | some y => k y ⟨B.M.set n (.lst xs.dropLast)⟩
  | none => False
theorem cm_pop {n : Nat} : MtK .pop (.ref n) [] ⟨M⟩ k = CL M[n]? (fun xs => PopK xs n ⟨M⟩ k) fun _ => False := by
  simp only [MtK_eq]
  unfold mtV CL PopK
  dsimp only
  cases h : M[n]? with
  | none => rfl
  | some c =>
    cases c with
    | lst xs =>
      dsimp only
      cases h2 : xs[xs.length - 1]? <;> rfl
    | _ => rfl
theorem pop_snoc {xs : List PV} {y : PV} {n : Nat} : PopK (xs ++ [y]) n ⟨M⟩ k = k y ⟨M.set n (.lst xs)⟩ := by
  unfold PopK
  simp
theorem cm_extend {n b : Nat} : MtK .extend (.ref n) [.ref b] ⟨M⟩ k = CL M[n]? (fun xs => CL M[b]? (fun ys => xs.length + ys.length ≤ sizeLine ∧ k .non ⟨M.set n (.lst (xs ++ ys))⟩) fun _ => False) fun _ => False := by
  simp only [MtK_eq]
  unfold mtV lists2 CL
  dsimp only
  cases ha : M[n]? with
  | none => cases hb : M[b]? <;> rfl
  | some c =>
    cases c with
    | lst xs =>
      cases hb : M[b]? with
      | none => rfl
      | some c =>
        cases c with
        | lst ys => simp only [sat_guard, sat_ok]
        | _ => rfl
    | _ => cases hb : M[b]? <;> rfl
def IxS (o : Option Nat) (P : Nat → Prop) : Prop := match o with
  | some j => P j
  | none => False
theorem ixs {j : Nat} {P : Nat → Prop} : IxS (some j) P = P j := rfl
theorem cse_lst {n : Nat} {xs : List PV} {i : Int} {v : PV} {P : Bx → Prop} (h : M[n]? = some (.lst xs)) : Se (.ref n) (.int i) v ⟨M⟩ P = IxS (ixN xs.length i) fun j => P ⟨M.set n (.lst (xs.set j v))⟩ := by
  simp only [Se_eq]
  unfold setI IxS
  simp only [h]
  cases ixN xs.length i <;> rfl
theorem csrc {n : Nat} {k : Src → Bx → Prop} : Src1 listSrc (.ref n) ⟨M⟩ k = CL M[n]? (fun xs => k ⟨xs, some (n, .lst xs)⟩ ⟨M⟩) fun _ => False := by
  simp only [Src1_eq]
  unfold listSrc CL
  dsimp only
  cases h : M[n]? with
  | none => rfl
  | some c =>
    cases c with
    | lst xs => rfl
    | _ => rfl
theorem ctg {ts : QTs} {n : Nat} : Tg cl (.tup ts) (.ref n) e ⟨M⟩ N = CL M[n]? (fun xs => Tgs cl ts xs e ⟨M⟩ N) fun _ => False := by
  simp only [Tg_eq, Tgs_eq]
  unfold CL
  (conv => lhs; unfold evT)
  dsimp only
  cases h : M[n]? with
  | none => rfl
  | some c => cases c <;> rfl
/-! ### loops, calls -/
theorem wh_rule {c : QE} {b : QSs} (I : Nat → PEnv → Bx → Prop) (n : Nat) (hn : n < bigW) (h0 : I n e ⟨M⟩)
    (h : ∀ n e M, I n e ⟨M⟩ → E cl c e ⟨M⟩ fun x B => Tr x B fun t B => Cond t (Ss cl b e B (fun e B => ∃ m, m < n ∧ I m e B) { rt := D.rt, bk := N, ct := fun e B => ∃ m, m < n ∧ I m e B }) (N e B)) : Wh cl c b e ⟨M⟩ N D := by
  simp only [Wh_eq]
  generalize bigW = w at hn ⊢
  refine while_sat (fun n e M => I n e ⟨M⟩) (fun n e M hI => ?_) w n e M hn h0
  refine Res.Sat.mono (h n e M hI).out fun x M1 h1 => ?_
  refine Res.Sat.mono h1.out fun t M2 h2 => ?_
  cases t with
  | true => exact Ss.out h2
  | false => exact h2
theorem fo_rule {t : QT} {src : Src} {b : QSs} (I : Nat → PEnv → Bx → Prop) (h0 : I 0 e ⟨M⟩) (hst : ∀ i e M, i ≤ src.items.length → I i e ⟨M⟩ → src.still M = true)
    (h : ∀ i x e M, src.items[i]? = some x → I i e ⟨M⟩ → Tg cl t x e ⟨M⟩ fun e B => Ss cl b e B (fun e B => I (i + 1) e B) { rt := D.rt, bk := N, ct := fun e B => I (i + 1) e B })
    (hd : ∀ e M, I src.items.length e ⟨M⟩ → N e ⟨M⟩) : Fo cl t src b e ⟨M⟩ N D := by
  refine ⟨for_sat (fun i e M => I i e ⟨M⟩) hst (fun i x e M hx hI => ?_) hd h0⟩
  exact Res.Sat.mono (h i x e M hx hI).out fun e' M' h1 => h1.out
theorem cmp_rule {elt : QE} {t : QT} {c : QO} {own : List Nat} {src : Src} {k : List PV → Bx → Prop} (I : Nat → List PV → Bx → Prop) (h0 : I 0 [] ⟨M⟩) (hst : ∀ i acc M, i ≤ src.items.length → I i acc ⟨M⟩ → src.still M = true)
    (h : ∀ i x acc M, src.items[i]? = some x → I i acc ⟨M⟩ → Tg cl t x (wipeVs e own) ⟨M⟩ fun e' B => match c with
      | .none => E cl elt e' B fun y B => acc.length < sizeLine ∧ I (i + 1) (acc ++ [y]) B
      | .some c => E cl c e' B fun z B => Tr z B fun t B => Cond t (E cl elt e' B fun y B => acc.length < sizeLine ∧ I (i + 1) (acc ++ [y]) B) (I (i + 1) acc B))
    (hd : ∀ acc M, I src.items.length acc ⟨M⟩ → k acc ⟨M⟩) : Cmp cl elt t c own src e ⟨M⟩ k := by
  refine ⟨comp_sat (fun i acc M => I i acc ⟨M⟩) hst (fun i x acc M hx hI => ?_) hd h0⟩
  refine Res.Sat.mono (h i x acc M hx hI).out fun e' M' h1 => ?_
  cases c with
  | none =>
    unfold evC
    exact E.out h1
  | some c =>
    unfold evC
    rw [sat_bind]
    refine Res.Sat.mono (E.out h1) fun z M1 h2 => ?_
    refine Res.Sat.mono h2.out fun t M2 h3 => ?_
    cases t with
    | true => exact E.out h3
    | false => exact h3
/-- what a def does at values and a store -/
structure Does (T : Nat → Option QF) (n f : Nat) (xs : List PV) (M : Store) (k : PV → Store → Prop) : Prop where
  out : (den T n f xs M).Sat k
theorem cl_of {T : Nat → Option QF} {n f : Nat} {xs : List PV} {k' : PV → Store → Prop} (h : Does T n f xs M k') (q : ∀ v M', k' v M' → k v ⟨M'⟩) : Cl (den T n) f xs ⟨M⟩ k := ⟨Res.Sat.mono h.out q⟩
theorem does_of {T : Nat → Option QF} {n f : Nat} {q : QF} {xs : List PV} {k : PV → Store → Prop} (h : T f = some q) (hl : xs.length = q.pars) (hs : Nat.ble xs.length q.slots = true)
    (hb : Ss (den T n) q.body (stV q.slots xs) ⟨M⟩ (fun _ B => Gc M .non B fun v B => k v B.M) { rt := fun v B => Gc M v B fun v B => k v B.M }) : Does T (n + 1) f xs M k := by
  refine ⟨den_sat h hl ?_⟩
  rw [startV_eq _ _ (Nat.le_of_ble_eq_true hs)]
  exact RS.Sat.mono hb.out (fun e M h => h.out) (fun v M h => h.out) (fun e M h => h.elim) (fun e M h => h.elim)
theorem does_ok {T : Nat → Option QF} {n f : Nat} {xs : List PV} {v : PV} {M' : Store} (h : Does T n f xs M fun w N => w = v ∧ N = M') : den T n f xs M = .ok v M' := by
  obtain ⟨a, N, e, rfl, rfl⟩ := Res.Sat.out h.out
  exact e
end
end Q

namespace Q
theorem newton_ge {t x f : Int} (ht : 0 < t) (hx : 0 ≤ x) (hf : f = (t + x / t) / 2) : x < (f + 1) * (f + 1) := by
  have h1 : x < (x / t + 1) * t := Int.lt_ediv_add_one_mul_self x ht
  have h0 : 0 ≤ x / t := Int.ediv_nonneg hx (Int.le_of_lt ht)
  generalize x / t = q at h1 h0 hf
  have h2 : t + (q + 1) ≤ 2 * (f + 1) := by omega
  have h3 : (t + (q + 1)) * (t + (q + 1)) ≤ (2 * (f + 1)) * (2 * (f + 1)) := Int.mul_self_le_mul_self (by omega) h2
  have h4 : 0 ≤ (t - (q + 1)) * (t - (q + 1)) := by
    rcases Int.le_total 0 (t - (q + 1)) with h | h
    · exact Int.mul_nonneg h h
    · exact Int.mul_nonneg_of_nonpos_of_nonpos h h
  grind
theorem sq_mono {a b : Int} (ha : 0 ≤ a) (h : a ≤ b) : a * a ≤ b * b := Int.mul_self_le_mul_self ha h
theorem root_uniq {x r s : Int} (hr : 0 ≤ r) (hs : 0 ≤ s) (h1 : r * r ≤ x) (h2 : x < (r + 1) * (r + 1)) (h3 : s * s ≤ x) (h4 : x < (s + 1) * (s + 1)) : r = s := by
  rcases Int.lt_trichotomy r s with h | h | h
  · have := sq_mono (a := r + 1) (b := s) (by omega) (by omega)
    omega
  · exact h
  · have := sq_mono (a := s + 1) (b := r) (by omega) (by omega)
    omega
theorem le_root {x r t : Int} (hr : 0 ≤ r) (ht : 0 ≤ t) (h1 : r * r ≤ x) (h2 : x < (t + 1) * (t + 1)) : r ≤ t := by
  apply Int.not_lt.mp
  intro h
  have := sq_mono (a := t + 1) (b := r) (by omega) (by omega)
  omega
theorem lt_of_sq {a b : Int} (hb : 0 ≤ b) (h : a * a < b * b) : a < b := by
  apply Int.not_le.mp
  intro hh
  have := sq_mono (a := b) (b := a) hb hh
  omega
theorem le_of_div {t x f : Int} (ht : 0 < t) (hf : f = (t + x / t) / 2) (h : t ≤ f) : t * t ≤ x := by
  have h1 : t ≤ x / t := by omega
  have h2 : x / t * t ≤ x := Int.ediv_mul_le x (by omega)
  have h3 : t * t ≤ x / t * t := Int.mul_le_mul_of_nonneg_right h1 (by omega)
  omega
theorem natAbs_lt_of {a : Int} {b : Nat} (h0 : 0 ≤ a) (h : a < (b : Int)) : a.natAbs < b := by omega
end Q

/-! QS: numbers' sizes, places, the draws' state. -/
namespace Q
open PySem PySem.Spec PyProof.Rows L2
theorem bits_pos {x : Int} (h : x ≠ 0) : Builtin.Int.intBits x = x.natAbs.log2 + 1 := by
  unfold Builtin.Int.intBits
  have : x.natAbs ≠ 0 := by omega
  simp [h]
theorem lt_bits (x : Int) : x.natAbs < 2 ^ Builtin.Int.intBits x := by
  by_cases h : x = 0
  · subst h; decide
  · rw [bits_pos h]
    exact Nat.lt_log2_self
theorem bits_le {x : Int} {k : Nat} (h : x.natAbs < 2 ^ k) : Builtin.Int.intBits x ≤ k := by
  by_cases e : x = 0
  · subst e; exact Nat.zero_le _
  · rw [bits_pos e]
    have := (Nat.log2_lt (n := x.natAbs) (k := k) (by omega)).mpr h
    omega
theorem one_bits : Builtin.Int.intBits 1 = 1 := by decide +kernel
theorem p2_lt {a b : Nat} (h : a < b) : 2 ^ a < 2 ^ b := Nat.pow_lt_pow_right (by decide) h
theorem p2_le {a b : Nat} (h : a ≤ b) : 2 ^ a ≤ 2 ^ b := Nat.pow_le_pow_right (by decide) h
theorem lt_p2 {n a b : Nat} (h : n < 2 ^ a) (k : a ≤ b) : n < 2 ^ b := Nat.lt_of_lt_of_le h (p2_le k)
theorem big_lt {k n : Nat} (hn : n < 2 ^ k) (hk : k ≤ 2000000) : n < bigW := by
  unfold bigW
  exact lt_p2 hn hk
theorem big_of {n : Nat} (hn : n ≤ 1000000000000000000) : n < bigW := big_lt (k := 64) (by omega) (by decide)
theorem natAbs_pow {k : Nat} : ((2 : Int) ^ k).natAbs = 2 ^ k := by
  rw [Int.natAbs_pow]; rfl
theorem pow2_pos (k : Nat) : (0 : Int) < 2 ^ k := Int.pow_pos (by decide)
theorem abs_add {a b : Int} {k : Nat} (ha : a.natAbs < 2 ^ k) (hb : b.natAbs < 2 ^ k) : (a + b).natAbs < 2 ^ (k + 1) := by
  rw [Nat.pow_succ]
  omega
theorem abs_sub {a b : Int} {k : Nat} (ha : a.natAbs < 2 ^ k) (hb : b.natAbs < 2 ^ k) : (a - b).natAbs < 2 ^ (k + 1) := by
  rw [Nat.pow_succ]
  omega
theorem abs_mul {a b : Int} {j k : Nat} (ha : a.natAbs < 2 ^ j) (hb : b.natAbs < 2 ^ k) : (a * b).natAbs < 2 ^ (j + k) := by
  rw [Int.natAbs_mul, Nat.pow_add]
  exact Nat.mul_lt_mul_of_lt_of_le ha (Nat.le_of_lt hb) (Nat.lt_of_le_of_lt (Nat.zero_le _) hb)
theorem abs_mono {a b : Int} {k : Nat} (h0 : 0 ≤ a) (h : a ≤ b) (hb : b.natAbs < 2 ^ k) : a.natAbs < 2 ^ k := by omega
theorem abs_pow {j : Nat} : ((2 : Int) ^ j).natAbs < 2 ^ (j + 1) := by
  rw [natAbs_pow]
  exact p2_lt (by omega)
theorem nat_sq_lt {a k : Nat} (h : a * a < 2 ^ (k + k)) : a < 2 ^ k := by
  apply Nat.not_le.mp
  intro hh
  have := Nat.mul_self_le_mul_self hh
  rw [← Nat.pow_add] at this
  omega
/-! ### places -/
theorem at0 {α : Type} {x : α} {r : List α} : atI (x :: r) 0 = some x := by
  unfold atI ixN
  simp
theorem at1 {α : Type} {x y : α} {r : List α} : atI (x :: y :: r) 1 = some y := by
  unfold atI ixN
  simp
  rw [if_pos (by omega)]
  rfl
theorem at2 {α : Type} {x y z : α} {r : List α} : atI (x :: y :: z :: r) 2 = some z := by
  unfold atI ixN
  simp
  rw [if_pos (by omega)]
  rfl
theorem at3 {α : Type} {x y z w : α} {r : List α} : atI (x :: y :: z :: w :: r) 3 = some w := by
  unfold atI ixN
  simp
  rw [if_pos (by omega)]
  rfl
theorem at_in {α : Type} {xs : List α} {i : Int} (h0 : 0 ≤ i) (h : i < xs.length) : ∃ v, atI xs i = some v ∧ v ∈ xs := by
  unfold atI ixN
  rw [if_pos h0, if_pos h]
  have hl : i.toNat < xs.length := by omega
  exact ⟨xs[i.toNat], by simp [hl], List.getElem_mem hl⟩
theorem at_nat {α : Type} {xs : List α} {i : Nat} (h : i < xs.length) : atI xs (i : Int) = some xs[i] := by
  unfold atI ixN
  rw [if_pos (by omega), if_pos (by omega)]
  simp [h]
theorem at_get {α : Type} {xs : List α} {i : Int} (h0 : 0 ≤ i) : atI xs i = xs[i.toNat]? := by
  unfold atI ixN
  rw [if_pos h0]
  by_cases h : i < xs.length
  · rw [if_pos h]; rfl
  · rw [if_neg h, List.getElem?_eq_none (by omega)]; rfl
/-! ### the store -/
theorem set_self {M : Store} {d : Nat} {c x : Cell} (h : M[d]? = some x) : (M.set d c)[d]? = some c := List.getElem?_set_self (List.getElem?_eq_some_iff.mp h).1
theorem set_other {M : Store} {d p : Nat} {c : Cell} (h : d ≠ p) : (M.set d c)[p]? = M[p]? := List.getElem?_set_ne h
/-- the draws' state: the list at d, its pool at p -/
structure Dice (p d : Nat) (M : Store) : Prop where
  ne : p < d
  ex : ∃ (m k : Int) (pool : List Int), M[d]? = some (.lst [.int m, .int k, .ref p]) ∧ M[p]? = some (.lst (pool.map .int)) ∧ 0 ≤ m ∧ m < 2147483647 ∧ 0 ≤ k ∧ ∀ z ∈ pool, 0 ≤ z ∧ z < 1000
/-- only the draws' state has changed -/
structure Evo (p d : Nat) (M M' : Store) : Prop where
  len : M'.length = M.length
  same : ∀ i, i ≠ d → M'[i]? = M[i]?
  dice : Dice p d M'
section
variable {p d : Nat} {M M1 M2 ex : Store}
theorem Dice.lt (h : Dice p d M) : d < M.length := by
  obtain ⟨_, m, k, pool, h1, _⟩ := h
  exact (List.getElem?_eq_some_iff.mp h1).1
theorem Dice.app (h : Dice p d M) (ex : Store) : Dice p d (M ++ ex) := by
  have hl := h.lt
  obtain ⟨hn, m, k, pool, h1, h2, r⟩ := h
  exact ⟨hn, m, k, pool, by rw [List.getElem?_append_left hl]; exact h1, by rw [List.getElem?_append_left (by omega)]; exact h2, r⟩
theorem Evo.refl (h : Dice p d M) : Evo p d M M := ⟨rfl, fun _ _ => rfl, h⟩
theorem Evo.trans (a : Evo p d M M1) (b : Evo p d M1 M2) : Evo p d M M2 := ⟨b.len.trans a.len, fun i hi => (b.same i hi).trans (a.same i hi), b.dice⟩
theorem Evo.lt (a : Evo p d M M1) : d < M.length := by rw [← a.len]; exact a.dice.lt
theorem Evo.split (a : Evo p d (M ++ ex) M2) (hd : Dice p d M) : ∃ M1, M2 = M1 ++ ex ∧ Evo p d M M1 := by
  have hl : d < M.length := hd.lt
  have hlen := a.len
  rw [List.length_append] at hlen
  have e : M2 = M2.take M.length ++ ex := by
    apply List.ext_getElem?
    intro i
    by_cases hi : i < M.length
    · rw [List.getElem?_append_left (by rw [List.length_take]; omega), List.getElem?_take, if_pos hi]
    · have hne : i ≠ d := by omega
      rw [a.same i hne, List.getElem?_append_right (by omega), List.getElem?_append_right (by rw [List.length_take]; omega), List.length_take]
      congr 1
      omega
  refine ⟨M2.take M.length, e, by rw [List.length_take]; omega, fun i hi => ?_, ?_⟩
  · by_cases h : i < M.length
    · rw [List.getElem?_take, if_pos h, a.same i hi, List.getElem?_append_left h]
    · rw [List.getElem?_eq_none (by rw [List.length_take]; omega), List.getElem?_eq_none (by omega)]
  · obtain ⟨hn, m, k, pool, h1, h2, r⟩ := a.dice
    exact ⟨hn, m, k, pool, by rw [List.getElem?_take, if_pos hl]; exact h1, by rw [List.getElem?_take, if_pos (by omega)]; exact h2, r⟩
theorem Evo.app (a : Evo p d M M1) (ex : Store) : Evo p d (M ++ ex) (M1 ++ ex) := by
  refine ⟨by rw [List.length_append, List.length_append, a.len], fun i hi => ?_, a.dice.app ex⟩
  by_cases h : i < M.length
  · rw [List.getElem?_append_left h, List.getElem?_append_left (by rw [a.len]; exact h)]
    exact a.same i hi
  · rw [List.getElem?_append_right (by rw [a.len]; omega), List.getElem?_append_right (by omega), a.len]
theorem Evo.gc (a : Evo p d M M1) {v : PV} (hv : v.low M.length = true) {k : PV → Bx → Prop} : Gc M v ⟨M1 ++ ex⟩ k = k v ⟨M1⟩ := by
  simp only [Gc_eq]
  rw [gc_evo a.len (fun i c hc => ?_) hv]
  · rfl
  · by_cases h : i = d
    · subst h
      obtain ⟨hn, m, k, pool, h1, _⟩ := a.dice
      rw [h1] at hc
      cases hc
      right
      have := a.lt
      simp [Cell.low, PV.lows, PV.low]
      omega
    · left
      rw [← a.same i h]
      exact hc
theorem Evo.gc0 (a : Evo p d M M1) {v : PV} {k : PV → Bx → Prop} : Gc M v ⟨M1⟩ k = k v ⟨M1⟩ := by
  simp only [Gc_eq]
  unfold gcR
  rw [if_pos (by rw [a.len]; exact Nat.le_refl _)]
  rfl
end
/-! ### plain values: of them a comparison is made -/
mutual
def PV.plain : PV → Bool
  | .non | .bl _ | .int _ | .str _ => true
  | .tup xs => PV.plains xs
  | _ => false
def PV.plains : List PV → Bool
  | [] => true
  | x :: xs => PV.plain x && PV.plains xs
end
mutual
def PV.sz : PV → Nat
  | .tup xs => 1 + PV.szs xs
  | _ => 1
def PV.szs : List PV → Nat
  | [] => 0
  | x :: xs => PV.sz x + PV.szs xs
end
theorem plain_low : ∀ {x : PV} {n : Nat}, x.plain = true → x.low n = true
  | .non, _, _ => by simp [PV.low]
  | .bl _, _, _ => by simp [PV.low]
  | .int _, _, _ => by simp [PV.low]
  | .str _, _, _ => by simp [PV.low]
  | .tup xs, n, h => by
    rw [PV.plain] at h
    rw [PV.low]
    exact plains_low h
where plains_low : ∀ {xs : List PV} {n : Nat}, PV.plains xs = true → PV.lows n xs = true
  | [], _, _ => by rw [PV.lows]
  | x :: xs, n, h => by
    rw [PV.plains, Bool.and_eq_true] at h
    rw [PV.lows, plain_low h.1, plains_low h.2]
    rfl
theorem sz_pos (x : PV) : 0 < x.sz := by
  cases x <;> rw [PV.sz] <;> first | omega | (intro xs e; cases e)
theorem szs_append : ∀ {xs ys : List PV}, PV.szs (xs ++ ys) = PV.szs xs + PV.szs ys
  | [], ys => by simp [PV.szs]
  | x :: xs, ys => by
    rw [List.cons_append, PV.szs, PV.szs, szs_append]
    omega
theorem szs_len : ∀ {xs : List PV}, xs.length ≤ PV.szs xs
  | [] => Nat.zero_le _
  | x :: xs => by
    rw [PV.szs, List.length_cons]
    have := sz_pos x
    have := szs_len (xs := xs)
    omega
theorem plains_get : ∀ {xs : List PV} {i : Nat} {x : PV}, PV.plains xs = true → xs[i]? = some x → x.plain = true
  | [], _, _, _, h => by simp at h
  | y :: xs, 0, x, hp, h => by
    rw [PV.plains, Bool.and_eq_true] at hp
    simp at h
    subst h
    exact hp.1
  | y :: xs, i + 1, x, hp, h => by
    rw [PV.plains, Bool.and_eq_true] at hp
    exact plains_get hp.2 (by simpa using h)
/-- pairs of the same -/
def twin (xs : List PV) : List PV := xs.map fun x => .tup [x, x]
theorem twin_append {xs ys : List PV} : twin (xs ++ ys) = twin xs ++ twin ys := List.map_append
theorem twin_len {xs : List PV} : (twin xs).length = xs.length := List.length_map _
theorem plains_app : ∀ {xs ys : List PV}, PV.plains xs = true → PV.plains ys = true → PV.plains (xs ++ ys) = true
  | [], ys, _, h => h
  | x :: xs, ys, h, k => by
    rw [PV.plains, Bool.and_eq_true] at h
    rw [List.cons_append, PV.plains, h.1, plains_app h.2 k]
    rfl
theorem plains_of_mem : ∀ {xs : List PV}, (∀ x ∈ xs, x.plain = true) → PV.plains xs = true
  | [], _ => by rw [PV.plains]
  | x :: xs, h => by
    rw [PV.plains, h x (List.mem_cons_self ..), plains_of_mem fun y hy => h y (List.mem_cons_of_mem _ hy)]
    rfl
theorem plains_mem {xs : List PV} (h : PV.plains xs = true) : ∀ x ∈ xs, x.plain = true := fun x hx => by
  obtain ⟨i, hi, e⟩ := List.getElem_of_mem hx
  exact plains_get (i := i) h (by rw [List.getElem?_eq_getElem hi, e])
theorem snoc_cases {α : Type} (xs : List α) : xs = [] ∨ ∃ ys y, xs = ys ++ [y] := by
  rcases List.eq_nil_or_concat xs with h | ⟨ys, y, h⟩
  · exact .inl h
  · exact .inr ⟨ys, y, by simpa using h⟩
theorem twin_low {n : Nat} : ∀ {xs : List PV}, PV.plains xs = true → (Cell.lst (twin xs)).low n = true
  | [], _ => by simp [twin, Cell.low, PV.lows]
  | x :: xs, h => by
    rw [PV.plains, Bool.and_eq_true] at h
    have h1 := plain_low (n := n) h.1
    have h2 : PV.lows n (twin xs) = true := twin_low (n := n) h.2
    show PV.lows n (.tup [x, x] :: twin xs) = true
    simp [PV.lows, PV.low, h1, h2]
theorem twin_get {xs : List PV} {i : Nat} {x : PV} (h : xs[i]? = some x) : twin (xs.take (i + 1)) = twin (xs.take i) ++ [.tup [x, x]] := by
  rw [List.take_succ, h]
  simp [twin]
theorem szs_one {x : PV} : PV.szs [x] = x.sz := by simp [PV.szs]
theorem rng_get {lo : Int} {n i : Nat} {x : PV} (h : (rngItems lo n)[i]? = some x) : x = .int (lo + i) ∧ i < n := by
  unfold rngItems at h
  rw [List.getElem?_map] at h
  cases h1 : (List.range n)[i]? with
  | none => rw [h1] at h; cases h
  | some k =>
    rw [h1] at h
    cases h
    have hl := (List.getElem?_eq_some_iff.mp h1).1
    have := (List.getElem?_eq_some_iff.mp h1).2
    simp at this hl
    subst this
    exact ⟨rfl, hl⟩
theorem rng_len {lo : Int} {n : Nat} : (rngItems lo n).length = n := by simp [rngItems]
end Q

/-! LM: square factors, kernels; sums of roots in their least form: plain numbers. -/
namespace Q
/-- no square above 1 divides k -/
def SqF (k : Nat) : Prop := ∀ d : Nat, d * d ∣ k → d = 1
structure IsKer (n f k : Nat) : Prop where
  eq : f * f * k = n
  f0 : 0 < f
  k0 : 0 < k
  sq : SqF k
theorem sqF_mul {a b : Nat} (ha : SqF a) (hb : SqF b) (h : Nat.Coprime a b) : SqF (a * b) := by
  intro d hd
  have h1 : d ∣ a * b := Nat.dvd_trans (Nat.dvd_mul_left d d) hd
  have h2 : d = Nat.gcd d a * Nat.gcd d b := by
    rw [← Nat.Coprime.gcd_mul d h]
    exact (Nat.gcd_eq_left h1).symm
  have ca : Nat.gcd d a = 1 := by
    apply ha
    have c1 : Nat.Coprime (Nat.gcd d a) b := Nat.Coprime.coprime_dvd_left (Nat.gcd_dvd_right d a) h
    have c2 : Nat.Coprime (Nat.gcd d a * Nat.gcd d a) b := Nat.Coprime.mul_left c1 c1
    apply Nat.Coprime.dvd_of_dvd_mul_right c2
    exact Nat.dvd_trans (Nat.mul_dvd_mul (Nat.gcd_dvd_left d a) (Nat.gcd_dvd_left d a)) hd
  have cb : Nat.gcd d b = 1 := by
    apply hb
    have c1 : Nat.Coprime (Nat.gcd d b) a := Nat.Coprime.coprime_dvd_left (Nat.gcd_dvd_right d b) h.symm
    have c2 : Nat.Coprime (Nat.gcd d b * Nat.gcd d b) a := Nat.Coprime.mul_left c1 c1
    apply Nat.Coprime.dvd_of_dvd_mul_left c2
    exact Nat.dvd_trans (Nat.mul_dvd_mul (Nat.gcd_dvd_left d b) (Nat.gcd_dvd_left d b)) hd
  rw [h2, ca, cb]
theorem ker_unique {n f k f' k' : Nat} (h : IsKer n f k) (h' : IsKer n f' k') : f = f' ∧ k = k' := by
  obtain ⟨a, b, hc, ha, hb⟩ := Nat.exists_coprime f f'
  have hg : 0 < Nat.gcd f f' := Nat.gcd_pos_of_pos_left _ h.f0
  generalize Nat.gcd f f' = g at ha hb hg
  have e : a * a * k = b * b * k' := by
    have e1 := h.eq.trans h'.eq.symm
    rw [ha, hb] at e1
    have e2 : (g * g) * (a * a * k) = (g * g) * (b * b * k') := by
      rw [show (g * g) * (a * a * k) = a * g * (a * g) * k by ac_rfl, e1]
      ac_rfl
    exact Nat.eq_of_mul_eq_mul_left (Nat.mul_pos hg hg) e2
  have cc : Nat.Coprime (a * a) (b * b) := Nat.Coprime.mul_left (Nat.Coprime.mul_right hc hc) (Nat.Coprime.mul_right hc hc)
  have a1 : a = 1 := by
    apply h'.sq
    apply Nat.Coprime.dvd_of_dvd_mul_left cc
    exact ⟨k, e.symm⟩
  have b1 : b = 1 := by
    apply h.sq
    apply Nat.Coprime.dvd_of_dvd_mul_left cc.symm
    exact ⟨k', e⟩
  subst a1; subst b1
  exact ⟨by rw [ha, hb], by simpa using e⟩
theorem sqF_one : SqF 1 := fun d h => by
  have := Nat.eq_one_of_dvd_one (Nat.dvd_trans (Nat.dvd_mul_left d d) h)
  exact this
theorem sqF_small {m p : Nat} (hm : 0 < m) (h : ∀ q, 2 ≤ q → q < p → ¬ q ∣ m) (hp : m < p * p * p) (hr : ∀ r, r * r ≠ m) : SqF m := by
  intro d hd
  obtain ⟨e, he⟩ := hd
  apply Classical.byContradiction
  intro hne
  have d0 : d ≠ 0 := fun hz => by subst hz; simp at he; omega
  have hdp : p ≤ d := Nat.not_lt.mp fun hlt => h d (by omega) hlt ⟨d * e, by rw [he]; ac_rfl⟩
  have e0 : e ≠ 0 := fun hz => by subst hz; simp at he; omega
  by_cases e1 : e = 1
  · subst e1
    exact hr d (by omega)
  · have hep : p ≤ e := Nat.not_lt.mp fun hlt => h e (by omega) hlt ⟨d * d, by rw [he]; ac_rfl⟩
    have := Nat.mul_le_mul (Nat.mul_le_mul hdp hdp) hep
    omega
theorem sqF_small2 {m p : Nat} (hm : 0 < m) (h : ∀ q, 2 ≤ q → q < p → ¬ q ∣ m) (hp : m < p * p) : SqF m := by
  intro d hd
  apply Classical.byContradiction
  intro hne
  have d0 : d ≠ 0 := fun hz => by
    subst hz
    have := Nat.eq_zero_of_zero_dvd hd
    omega
  have hdp : p ≤ d := Nat.not_lt.mp fun hlt => h d (by omega) hlt (Nat.dvd_trans (Nat.dvd_mul_left d d) hd)
  have := Nat.mul_le_mul hdp hdp
  have := Nat.le_of_dvd hm hd
  omega
/-- where the dividing stands: n0 = f * f * k * m, nothing below p divides m -/
structure KI (n0 f k m p : Nat) : Prop where
  eq : f * f * k * m = n0
  f0 : 0 < f
  k0 : 0 < k
  m0 : 0 < m
  sq : SqF k
  co : Nat.Coprime k m
  nd : ∀ q, 2 ≤ q → q < p → ¬ q ∣ m
theorem ki_start {n : Nat} (h : 0 < n) : KI n 1 1 n 2 := ⟨by simp, by omega, by omega, h, sqF_one, Nat.coprime_one_left n, fun q h1 h2 => by omega⟩
theorem ki_step {n0 f k m p m' t : Nat} (h : KI n0 f k m p) (hp : 2 ≤ p) (hm : m = m' * p ^ t) (hn : ¬ p ∣ m') : KI n0 (f * p ^ (t / 2)) (if t % 2 = 1 then k * p else k) m' (p + 1) := by
  have hp0 : 0 < p ^ t := Nat.pow_pos (by omega)
  have m'0 : 0 < m' := Nat.pos_of_ne_zero fun hz => by subst hz; have := h.m0; simp at hm; omega
  have hdv : m' ∣ m := ⟨p ^ t, hm⟩
  have nd' : ∀ q, 2 ≤ q → q < p + 1 → ¬ q ∣ m' := fun q h1 h2 hq => by
    by_cases e : q = p
    · subst e; exact hn hq
    · exact h.nd q h1 (by omega) (Nat.dvd_trans hq hdv)
  have ek : p ^ t = p ^ (t / 2) * p ^ (t / 2) * p ^ (t % 2) := by
    rw [← Nat.pow_add, ← Nat.pow_add]
    congr 1
    omega
  have f0' : 0 < f * p ^ (t / 2) := Nat.mul_pos h.f0 (Nat.pow_pos (by omega))
  by_cases ht : t % 2 = 1
  · rw [if_pos ht]
    have hpm : p ∣ m := by
      rw [hm]
      have : p ∣ p ^ t := by
        obtain ⟨s, hs⟩ : ∃ s, t = s + 1 := ⟨t - 1, by omega⟩
        rw [hs, Nat.pow_succ]
        exact Nat.dvd_mul_left p _
      exact Nat.dvd_trans this (Nat.dvd_mul_left _ _)
    have cpm : Nat.Coprime p m' := by
      have h1 := Nat.gcd_dvd_left p m'
      have h2 := Nat.gcd_dvd_right p m'
      have h3 := Nat.le_of_dvd (by omega) h1
      have h4 : Nat.gcd p m' ≠ p := fun e => hn (e ▸ h2)
      have h5 : ¬ 2 ≤ Nat.gcd p m' := fun e => nd' _ e (by omega) h2
      have h6 : 0 < Nat.gcd p m' := Nat.gcd_pos_of_pos_left _ (by omega)
      show Nat.gcd p m' = 1
      omega
    have sp : SqF p := fun d hd => by
      apply Classical.byContradiction
      intro hne
      have hdp : d ∣ p := Nat.dvd_trans (Nat.dvd_mul_left d d) hd
      have d0 : d ≠ 0 := fun hz => by
        subst hz
        have := Nat.eq_zero_of_zero_dvd hdp
        omega
      have h1 := Nat.le_of_dvd (by omega) hd
      have h2 : d < p := by
        have : d * 2 ≤ d * d := Nat.mul_le_mul_left d (by omega)
        omega
      exact h.nd d (by omega) h2 (Nat.dvd_trans hdp hpm)
    have ckp : Nat.Coprime k p := Nat.Coprime.coprime_dvd_right hpm h.co
    refine ⟨?_, f0', Nat.mul_pos h.k0 (by omega), m'0, sqF_mul h.sq sp ckp, Nat.Coprime.mul_left (Nat.Coprime.coprime_dvd_right hdv h.co) cpm, nd'⟩
    rw [← h.eq, hm, ek, ht, Nat.pow_one]
    ac_rfl
  · rw [if_neg ht]
    refine ⟨?_, f0', h.k0, m'0, h.sq, Nat.Coprime.coprime_dvd_right hdv h.co, nd'⟩
    have ht0 : t % 2 = 0 := by omega
    rw [← h.eq, hm, ek, ht0, Nat.pow_zero, Nat.mul_one]
    ac_rfl
theorem ki_skip {n0 f k m p : Nat} (h : KI n0 f k m (p + 1)) (hp : 3 ≤ p) (ho : p % 2 = 1) : KI n0 f k m (p + 2) := by
  refine ⟨h.eq, h.f0, h.k0, h.m0, h.sq, h.co, fun q h1 h2 hq => ?_⟩
  by_cases e : q = p + 1
  · exact h.nd 2 (by omega) (by omega) (Nat.dvd_trans (Nat.dvd_of_mod_eq_zero (by omega)) hq)
  · exact h.nd q h1 (by omega) hq
theorem ki_end1 {n0 f k m p : Nat} (h : KI n0 f k m p) (hp : m < p * p) : IsKer n0 f (k * m) :=
  ⟨by rw [← h.eq]; ac_rfl, h.f0, Nat.mul_pos h.k0 h.m0, sqF_mul h.sq (sqF_small2 h.m0 h.nd hp) h.co⟩
theorem ki_end2 {n0 f k m p r : Nat} (h : KI n0 f k m p) (hr : r * r = m) : IsKer n0 (f * r) k := by
  refine ⟨by rw [← h.eq, ← hr]; ac_rfl, Nat.mul_pos h.f0 (Nat.pos_of_ne_zero fun e => ?_), h.k0, h.sq⟩
  subst e
  have := h.m0
  omega
theorem ki_end3 {n0 f k m p : Nat} (h : KI n0 f k m p) (hp : m < p * p * p) (hr : ∀ r, r * r ≠ m) : IsKer n0 f (k * m) :=
  ⟨by rw [← h.eq]; ac_rfl, h.f0, Nat.mul_pos h.k0 h.m0, sqF_mul h.sq (sqF_small h.m0 h.nd hp hr) h.co⟩
theorem ker_bound {n f k : Nat} (h : IsKer n f k) : f ≤ n ∧ k ≤ n := by
  have h1 : 0 < f * f := Nat.mul_pos h.f0 h.f0
  have e := h.eq
  constructor
  · have a1 : f * 1 ≤ f * f := Nat.mul_le_mul_left f h.f0
    have a2 : f * f * 1 ≤ f * f * k := Nat.mul_le_mul_left _ h.k0
    omega
  · have a2 : 1 * k ≤ f * f * k := Nat.mul_le_mul_right _ h1
    omega
theorem sqF_iff {n f k : Nat} (h : IsKer n f k) : f = 1 ↔ SqF n := by
  constructor
  · intro e
    subst e
    have : k = n := by have := h.eq; omega
    exact this ▸ h.sq
  · intro hs
    exact hs f ⟨k, h.eq.symm⟩
/-! ### sums of terms -/
abbrev Prs := List (Int × Int)
def sumAt : Prs → Int → Int
  | [], _ => 0
  | p :: r, n => (if p.1 = n then p.2 else 0) + sumAt r n
theorem sumAt_app (a b : Prs) (n : Int) : sumAt (a ++ b) n = sumAt a n + sumAt b n := by
  induction a with
  | nil => simp [sumAt]
  | cons p r ih => simp [sumAt, ih]; omega
theorem sumAt_scale (a : Prs) (c n : Int) : sumAt (a.map fun p => (p.1, p.2 * c)) n = sumAt a n * c := by
  induction a with
  | nil => simp [sumAt]
  | cons p r ih =>
    simp only [List.map_cons, sumAt, ih]
    by_cases h : p.1 = n
    · simp [h, Int.add_mul]
    · simp [h]
theorem sumAt_off {a : Prs} {n : Int} (h : ∀ p ∈ a, p.1 ≠ n) : sumAt a n = 0 := by
  induction a with
  | nil => rfl
  | cons p r ih =>
    rw [sumAt, if_neg (h p (List.mem_cons_self ..)), ih fun q hq => h q (List.mem_cons_of_mem _ hq)]
    rfl
def gcdL (g : Nat) : Prs → Nat
  | [] => g
  | p :: r => gcdL (Nat.gcd g p.2.natAbs) r
theorem dvd_gcdL {e : Nat} : ∀ {l : Prs} {g : Nat}, e ∣ gcdL g l ↔ e ∣ g ∧ ∀ p ∈ l, e ∣ p.2.natAbs
  | [], g => by simp [gcdL]
  | p :: r, g => by
    rw [gcdL, dvd_gcdL, Nat.dvd_gcd_iff]
    simp only [List.mem_cons, forall_eq_or_imp, and_assoc]
theorem gcdL_dvd {l : Prs} {g : Nat} : gcdL g l ∣ g := (dvd_gcdL.mp (Nat.dvd_refl _)).1
theorem gcdL_dvd_mem {l : Prs} {g : Nat} {p : Int × Int} (h : p ∈ l) : gcdL g l ∣ p.2.natAbs := (dvd_gcdL.mp (Nat.dvd_refl _)).2 p h
theorem gcdL_pos {l : Prs} {g : Nat} (h : 0 < g) : 0 < gcdL g l := Nat.pos_of_dvd_of_pos gcdL_dvd h
abbrev Len := Int × Prs
structure IsN (L : Len) : Prop where
  pos : 0 < L.1
  up : L.2.Pairwise fun a b => a.1 < b.1
  ne : ∀ p ∈ L.2, p.2 ≠ 0
  one : gcdL L.1.natAbs L.2 = 1
def val (L : Len) (n : Int) : Rat := (sumAt L.2 n : Rat) / (L.1 : Rat)
theorem sumAt_mem {a : Prs} (h : a.Pairwise fun a b => a.1 < b.1) {p : Int × Int} (hp : p ∈ a) : sumAt a p.1 = p.2 := by
  induction a with
  | nil => cases hp
  | cons q r ih =>
    rw [List.pairwise_cons] at h
    rcases List.mem_cons.mp hp with rfl | hr
    · rw [sumAt, if_pos rfl, sumAt_off fun z hz => by have := h.1 z hz; omega]
      omega
    · have := h.1 p hr
      rw [sumAt, if_neg (by omega), ih h.2 hr]
      omega
theorem prs_ext {a b : Prs} (ha : a.Pairwise fun a b => a.1 < b.1) (hb : b.Pairwise fun a b => a.1 < b.1) (na : ∀ p ∈ a, p.2 ≠ 0) (nb : ∀ p ∈ b, p.2 ≠ 0) (h : ∀ n, sumAt a n = sumAt b n) : a = b := by
  induction a generalizing b with
  | nil =>
    cases b with
    | nil => rfl
    | cons q s =>
      have h1 := sumAt_mem hb (List.mem_cons_self (a := q) (l := s))
      rw [← h] at h1
      exact absurd h1.symm (nb q (List.mem_cons_self ..))
  | cons p r ih =>
    cases b with
    | nil =>
      have h1 := sumAt_mem ha (List.mem_cons_self (a := p) (l := r))
      rw [h] at h1
      exact absurd h1.symm (na p (List.mem_cons_self ..))
    | cons q s =>
      have hp := sumAt_mem ha (List.mem_cons_self (a := p) (l := r))
      have hq := sumAt_mem hb (List.mem_cons_self (a := q) (l := s))
      have ha1 := ha
      have hb1 := hb
      rw [List.pairwise_cons] at ha hb
      have e1 : p.1 = q.1 := by
        rcases Int.lt_trichotomy p.1 q.1 with c | c | c
        · rw [h, sumAt_off] at hp
          · exact absurd hp.symm (na p (List.mem_cons_self ..))
          · intro z hz
            rcases List.mem_cons.mp hz with rfl | hz
            · omega
            · have := hb.1 z hz; omega
        · exact c
        · rw [← h, sumAt_off] at hq
          · exact absurd hq.symm (nb q (List.mem_cons_self ..))
          · intro z hz
            rcases List.mem_cons.mp hz with rfl | hz
            · omega
            · have := ha.1 z hz; omega
      have e2 : p.2 = q.2 := by rw [← hp, ← hq, h, e1]
      have e : p = q := Prod.ext e1 e2
      subst e
      congr 1
      refine ih ha.2 hb.2 (fun z hz => na z (List.mem_cons_of_mem _ hz)) (fun z hz => nb z (List.mem_cons_of_mem _ hz)) fun n => ?_
      have := h n
      rw [sumAt, sumAt] at this
      omega
theorem val_mul {L L' : Len} (h : 0 < L.1) (h' : 0 < L'.1) {n : Int} (hv : val L n = val L' n) : sumAt L.2 n * L'.1 = sumAt L'.2 n * L.1 := by
  unfold val at hv
  have e1 : (L.1 : Rat) ≠ 0 := by
    have : L.1 ≠ 0 := by omega
    simpa using this
  have e2 : (L'.1 : Rat) ≠ 0 := by
    have : L'.1 ≠ 0 := by omega
    simpa using this
  have : (sumAt L.2 n : Rat) * (L'.1 : Rat) = sumAt L'.2 n * (L.1 : Rat) := by grind
  exact_mod_cast this
theorem gcdL_mul {l : Prs} {g c : Nat} : gcdL (g * c) (l.map fun p => (p.1, p.2 * (c : Int))) = gcdL g l * c := by
  induction l generalizing g with
  | nil => rfl
  | cons p r ih =>
    simp only [List.map_cons, gcdL]
    rw [Int.natAbs_mul, Int.natAbs_natCast, Nat.gcd_mul_right, ih]
theorem len_dvd {L L' : Len} (h : IsN L) (h' : IsN L') (hv : ∀ n, val L n = val L' n) : L.1.natAbs ∣ L'.1.natAbs := by
  have h1 : L.1.natAbs ∣ gcdL (L.1.natAbs * L'.1.natAbs) (L.2.map fun p => (p.1, p.2 * (L'.1.natAbs : Int))) := by
    rw [dvd_gcdL]
    refine ⟨Nat.dvd_mul_right _ _, fun p hp => ?_⟩
    obtain ⟨q, hq, rfl⟩ := List.mem_map.mp hp
    have e := val_mul h.pos h'.pos (hv q.1)
    rw [sumAt_mem h.up hq] at e
    have e2 : (L'.1.natAbs : Int) = L'.1 := by have := h'.pos; omega
    show L.1.natAbs ∣ (q.2 * (L'.1.natAbs : Int)).natAbs
    rw [e2, e, Int.natAbs_mul]
    exact Nat.dvd_mul_left _ _
  rw [gcdL_mul, h.one, Nat.one_mul] at h1
  exact h1
theorem len_unique {L L' : Len} (h : IsN L) (h' : IsN L') (hv : ∀ n, val L n = val L' n) : L = L' := by
  have e1 : L.1 = L'.1 := by
    have a := len_dvd h h' hv
    have b := len_dvd h' h fun n => (hv n).symm
    have := Nat.dvd_antisymm a b
    have := h.pos
    have := h'.pos
    omega
  refine Prod.ext e1 (prs_ext h.up h'.up h.ne h'.ne fun n => ?_)
  have e := val_mul h.pos h'.pos (hv n)
  rw [← e1] at e
  exact Int.eq_of_mul_eq_mul_right (by have := h.pos; omega) e
/-- L is the least form of the terms over d -/
structure Made (d : Int) (ps : Prs) (L : Len) : Prop where
  nf : IsN L
  vl : ∀ n, val L n = (sumAt ps n : Rat) / (d : Rat)
  dle : L.1 ≤ d
  cle : ∀ n, (sumAt L.2 n).natAbs ≤ (sumAt ps n).natAbs
  key : ∀ p ∈ L.2, ∃ q ∈ ps, q.1 = p.1
  len : L.2.length ≤ ps.length
theorem made_unique {d : Int} {ps : Prs} {L L' : Len} (h : Made d ps L) (h' : Made d ps L') : L = L' := len_unique h.nf h'.nf fun n => (h.vl n).trans (h'.vl n).symm
/-- the dict's terms by their keys in turn -/
def tmL (l : Prs) (g : Int) (ns : List Int) : Prs := ns.filterMap fun n => if sumAt l n = 0 then none else some (n, sumAt l n / g)
theorem tmL_nil {l : Prs} {g : Int} : tmL l g [] = [] := rfl
theorem tmL_snoc {l : Prs} {g n : Int} {ns : List Int} : tmL l g (ns ++ [n]) = tmL l g ns ++ (if sumAt l n = 0 then [] else [(n, sumAt l n / g)]) := by
  unfold tmL
  rw [List.filterMap_append]
  congr 1
  by_cases h : sumAt l n = 0 <;> simp [h]
theorem tmL_mem {l : Prs} {g : Int} {ns : List Int} {p : Int × Int} (h : p ∈ tmL l g ns) : p.1 ∈ ns ∧ sumAt l p.1 ≠ 0 ∧ p.2 = sumAt l p.1 / g := by
  unfold tmL at h
  obtain ⟨n, hn, e⟩ := List.mem_filterMap.mp h
  by_cases h0 : sumAt l n = 0
  · simp [h0] at e
  · simp [h0] at e
    subst e
    exact ⟨hn, h0, rfl⟩
theorem tmL_of {l : Prs} {g n : Int} {ns : List Int} (h : n ∈ ns) (h0 : sumAt l n ≠ 0) : (n, sumAt l n / g) ∈ tmL l g ns := by
  unfold tmL
  exact List.mem_filterMap.mpr ⟨n, h, by simp [h0]⟩
theorem tmL_up {l : Prs} {g : Int} : ∀ {ns : List Int}, ns.Pairwise (· < ·) → (tmL l g ns).Pairwise fun a b => a.1 < b.1
  | [], _ => List.Pairwise.nil
  | n :: r, h => by
    rw [List.pairwise_cons] at h
    have ih := tmL_up (l := l) (g := g) h.2
    unfold tmL at ih ⊢
    by_cases h0 : sumAt l n = 0
    · simp only [List.filterMap_cons, h0, if_pos]
      exact ih
    · simp only [List.filterMap_cons, h0, if_neg, not_false_eq_true]
      rw [List.pairwise_cons]
      exact ⟨fun b hb => h.1 _ (tmL_mem hb).1, ih⟩
theorem tmL_len {l : Prs} {g : Int} {ns : List Int} : (tmL l g ns).length ≤ ns.length := List.length_filterMap_le _ _
theorem made_of {d : Int} {ps l : Prs} {g : Nat} {ns : List Int} (hd : 0 < d) (hl : ∀ n, sumAt l n = sumAt ps n) (hg : g = gcdL d.natAbs l) (hs : ∀ p ∈ l, sumAt l p.1 = p.2) (hn : ns.Pairwise (· < ·)) (hm : ∀ n, n ∈ ns ↔ ∃ p ∈ l, p.1 = n) (hk : ∀ p ∈ l, ∃ q ∈ ps, q.1 = p.1) (hlen : ns.length ≤ ps.length) : Made d ps (d / g, tmL l g ns) := by
  have g0 : 0 < g := by rw [hg]; exact gcdL_pos (by omega)
  have gd : (g : Int) ∣ d := by
    have : g ∣ d.natAbs := by rw [hg]; exact gcdL_dvd
    exact Int.ofNat_dvd_left.mpr this
  have gs : ∀ n, (g : Int) ∣ sumAt l n := fun n => by
    by_cases h : ∃ p ∈ l, p.1 = n
    · obtain ⟨p, hp, rfl⟩ := h
      rw [hs p hp]
      apply Int.ofNat_dvd_left.mpr
      rw [hg]
      exact gcdL_dvd_mem hp
    · rw [sumAt_off fun p hp e => h ⟨p, hp, e⟩]
      exact Int.dvd_zero _
  have up := tmL_up (l := l) (g := g) hn
  have st : ∀ n, sumAt (tmL l g ns) n = sumAt l n / g := fun n => by
    by_cases h0 : sumAt l n = 0
    · rw [sumAt_off fun p hp e => (tmL_mem hp).2.1 (by rw [e]; exact h0), h0, Int.zero_ediv]
    · have h : n ∈ ns := by
        apply Classical.byContradiction
        intro hc
        exact h0 (sumAt_off fun p hp e => hc ((hm n).mpr ⟨p, hp, e⟩))
      exact sumAt_mem up (tmL_of (g := (g : Int)) h h0)
  have gi : (0 : Int) < g := by omega
  have dq : d / g * g = d := Int.ediv_mul_cancel gd
  have d0 : 0 < d / (g : Int) := Int.ediv_pos_of_pos_of_dvd hd (by omega) gd
  refine ⟨⟨d0, up, fun p hp => ?_, ?_⟩, fun n => ?_, ?_, fun n => ?_, fun p hp => ?_, Nat.le_trans tmL_len hlen⟩
  · obtain ⟨_, h0, e⟩ := tmL_mem hp
    rw [e]
    intro hz
    have := Int.ediv_mul_cancel (gs p.1)
    rw [hz] at this
    omega
  · have hc : ∀ e : Nat, e ∣ gcdL (d / (g : Int)).natAbs (tmL l g ns) → e ∣ 1 := fun e he => by
      rw [dvd_gcdL] at he
      have h1 : e * g ∣ g := by
        rw [hg, dvd_gcdL, ← hg]
        constructor
        · have : d.natAbs = (d / (g : Int)).natAbs * g := by
            have := congrArg Int.natAbs dq
            rw [Int.natAbs_mul, Int.natAbs_natCast] at this
            exact this.symm
          rw [this]
          exact Nat.mul_dvd_mul_right he.1 g
        · intro p hp
          by_cases h0 : sumAt l p.1 = 0
          · rw [← hs p hp, h0]
            exact Nat.dvd_zero _
          · have hin := tmL_of (g := (g : Int)) ((hm p.1).mpr ⟨p, hp, rfl⟩) h0
            have h2 := he.2 _ hin
            dsimp only at h2
            have : p.2.natAbs = (sumAt l p.1 / (g : Int)).natAbs * g := by
              have := congrArg Int.natAbs (Int.ediv_mul_cancel (gs p.1))
              rw [Int.natAbs_mul, Int.natAbs_natCast, hs p hp] at this
              rw [hs p hp]
              exact this.symm
            rw [this]
            exact Nat.mul_dvd_mul_right h2 g
      have h2 : e * g ∣ 1 * g := by rw [Nat.one_mul]; exact h1
      exact Nat.dvd_of_mul_dvd_mul_right g0 h2
    exact Nat.eq_one_of_dvd_one (hc _ (Nat.dvd_refl _))
  · unfold val
    dsimp only
    rw [st, ← hl]
    have e1 : ((g : Int) : Rat) ≠ 0 := by
      have : (g : Int) ≠ 0 := by omega
      exact_mod_cast this
    have e2 : ((d / (g : Int) : Int) : Rat) ≠ 0 := by
      have : (d / (g : Int)) ≠ 0 := by omega
      exact_mod_cast this
    have q1 : ((d / (g : Int) : Int) : Rat) * ((g : Int) : Rat) = (d : Rat) := by exact_mod_cast dq
    have q2 : ((sumAt l n / (g : Int) : Int) : Rat) * ((g : Int) : Rat) = (sumAt l n : Rat) := by exact_mod_cast Int.ediv_mul_cancel (gs n)
    rw [← q1, ← q2]
    grind
  · exact Int.ediv_le_self _ (by omega)
  · rw [st, ← hl]
    exact Nat.le_trans (Int.natAbs_ediv_le_natAbs _ _) (Nat.le_refl _)
  · obtain ⟨h1, _⟩ := tmL_mem hp
    obtain ⟨q, hq, e⟩ := (hm p.1).mp h1
    obtain ⟨r, hr, e2⟩ := hk q hq
    exact ⟨r, hr, e2.trans e⟩
end Q

/-! LP: primes of a number: plain numbers. -/
namespace Q
def IsP (p : Nat) : Prop := 2 ≤ p ∧ ∀ d, d ∣ p → d = 1 ∨ d = p
structure IsPs (n : Nat) (ps : List Nat) : Prop where
  up : ps.Pairwise (· < ·)
  mem : ∀ p, p ∈ ps ↔ IsP p ∧ p ∣ n
theorem upN_uniq : ∀ {l r : List Nat}, l.Pairwise (· < ·) → r.Pairwise (· < ·) → (∀ n, n ∈ l ↔ n ∈ r) → l = r
  | [], [], _, _, _ => rfl
  | [], y :: r, _, _, h => absurd ((h y).mpr (List.mem_cons_self ..)) (List.not_mem_nil)
  | x :: l, [], _, _, h => absurd ((h x).mp (List.mem_cons_self ..)) (List.not_mem_nil)
  | x :: l, y :: r, hl, hr, h => by
    obtain ⟨h1, h2⟩ := List.pairwise_cons.mp hl
    obtain ⟨k1, k2⟩ := List.pairwise_cons.mp hr
    have e : x = y := by
      rcases List.mem_cons.mp ((h x).mp (List.mem_cons_self ..)) with a | a
      · exact a
      · rcases List.mem_cons.mp ((h y).mpr (List.mem_cons_self ..)) with b | b
        · exact b.symm
        · have := k1 x a
          have := h1 y b
          omega
    subst e
    rw [upN_uniq h2 k2 fun n => ?_]
    constructor
    · intro hn
      rcases List.mem_cons.mp ((h n).mp (List.mem_cons_of_mem _ hn)) with rfl | a
      · have := h1 n hn; omega
      · exact a
    · intro hn
      rcases List.mem_cons.mp ((h n).mpr (List.mem_cons_of_mem _ hn)) with rfl | a
      · have := k1 n hn; omega
      · exact a
theorem IsPs.uniq {n : Nat} {a b : List Nat} (ha : IsPs n a) (hb : IsPs n b) : a = b := upN_uniq ha.up hb.up fun p => (ha.mem p).trans (hb.mem p).symm
theorem euclid {p a b : Nat} (hp : IsP p) (h : p ∣ a * b) : p ∣ a ∨ p ∣ b := by
  rcases hp.2 _ (Nat.gcd_dvd_left p a) with e | e
  · exact .inr (Nat.Coprime.dvd_of_dvd_mul_left (show Nat.Coprime p a from e) h)
  · left
    rw [← e]
    exact Nat.gcd_dvd_right p a
theorem p_pow {p q : Nat} (hp : IsP p) (hq : IsP q) : ∀ {t : Nat}, q ∣ p ^ t → q = p
  | 0, h => by
    have := Nat.eq_one_of_dvd_one (by simpa using h)
    have := hq.1
    omega
  | t + 1, h => by
    rw [Nat.pow_succ] at h
    rcases euclid hq h with a | a
    · exact p_pow hp hq a
    · rcases hp.2 q a with e | e
      · have := hq.1; omega
      · exact e
structure PI (n0 : Nat) (ps : List Nat) (m p : Nat) : Prop where
  m0 : 0 < m
  nd : ∀ q, 2 ≤ q → q < p → ¬ q ∣ m
  up : ps.Pairwise (· < ·)
  lt : ∀ q ∈ ps, q < p
  pr : ∀ q ∈ ps, IsP q ∧ q ∣ n0
  all : ∀ q, IsP q → q ∣ n0 → q ∈ ps ∨ q ∣ m
  dv : m ∣ n0
theorem pi_start {n : Nat} (h : 0 < n) : PI n [] n 2 := ⟨h, fun q h1 h2 => by omega, List.Pairwise.nil, fun q hq => absurd hq List.not_mem_nil, fun q hq => absurd hq List.not_mem_nil, fun q _ h => .inr h, Nat.dvd_refl _⟩
theorem p_first {m p : Nat} (hm : 0 < m) (hp : 2 ≤ p) (h : ∀ q, 2 ≤ q → q < p → ¬ q ∣ m) (hd : p ∣ m) : IsP p := by
  refine ⟨hp, fun d hdp => ?_⟩
  have h1 := Nat.le_of_dvd (by omega) hdp
  have h2 : 0 < d := Nat.pos_of_dvd_of_pos hdp (by omega)
  by_cases e : d = 1
  · exact .inl e
  · by_cases e2 : d = p
    · exact .inr e2
    · exact absurd (Nat.dvd_trans hdp hd) (h d (by omega) (by omega))
theorem pi_step {n0 m p m' t : Nat} {ps : List Nat} (h : PI n0 ps m p) (hp : 2 ≤ p) (hm : m = m' * p ^ t) (hn : ¬ p ∣ m') : PI n0 (if 0 < t then ps ++ [p] else ps) m' (p + 1) := by
  have m'0 : 0 < m' := Nat.pos_of_ne_zero fun hz => by subst hz; have := h.m0; simp at hm; omega
  have hdv : m' ∣ m := ⟨p ^ t, hm⟩
  have nd' : ∀ q, 2 ≤ q → q < p + 1 → ¬ q ∣ m' := fun q h1 h2 hq => by
    by_cases e : q = p
    · subst e; exact hn hq
    · exact h.nd q h1 (by omega) (Nat.dvd_trans hq hdv)
  by_cases ht : 0 < t
  · rw [if_pos ht]
    have hpm : p ∣ m := by
      rw [hm]
      have : p ∣ p ^ t := by
        obtain ⟨s, hs⟩ : ∃ s, t = s + 1 := ⟨t - 1, by omega⟩
        rw [hs, Nat.pow_succ]
        exact Nat.dvd_mul_left p _
      exact Nat.dvd_trans this (Nat.dvd_mul_left _ _)
    have pp := p_first h.m0 hp h.nd hpm
    refine ⟨m'0, nd', ?_, fun q hq => ?_, fun q hq => ?_, fun q hq hqn => ?_, Nat.dvd_trans hdv h.dv⟩
    · rw [List.pairwise_append]
      refine ⟨h.up, List.pairwise_singleton _ _, fun a ha b hb => ?_⟩
      simp at hb
      subst hb
      exact h.lt a ha
    · rcases List.mem_append.mp hq with a | a
      · have := h.lt q a; omega
      · simp at a; omega
    · rcases List.mem_append.mp hq with a | a
      · exact h.pr q a
      · simp at a
        subst a
        exact ⟨pp, Nat.dvd_trans hpm h.dv⟩
    · rcases h.all q hq hqn with a | a
      · exact .inl (List.mem_append_left _ a)
      · rw [hm] at a
        rcases euclid hq a with b | b
        · exact .inr b
        · left
          rw [p_pow pp hq b]
          simp
  · rw [if_neg ht]
    have e : m' = m := by
      have : t = 0 := by omega
      subst this
      simp at hm
      exact hm.symm
    subst e
    exact ⟨m'0, nd', h.up, fun q hq => by have := h.lt q hq; omega, h.pr, h.all, h.dv⟩
theorem pi_skip {n0 m p : Nat} {ps : List Nat} (h : PI n0 ps m (p + 1)) (hp : 3 ≤ p) (ho : p % 2 = 1) : PI n0 ps m (p + 2) := by
  refine ⟨h.m0, fun q h1 h2 hq => ?_, h.up, fun q hq => by have := h.lt q hq; omega, h.pr, h.all, h.dv⟩
  by_cases e : q = p + 1
  · exact h.nd 2 (by omega) (by omega) (Nat.dvd_trans (Nat.dvd_of_mod_eq_zero (by omega)) hq)
  · exact h.nd q h1 (by omega) hq
theorem pi_end {n0 m p : Nat} {ps : List Nat} (h : PI n0 ps m p) (hp : m < p * p) : IsPs n0 (if 1 < m then ps ++ [m] else ps) := by
  by_cases hm : 1 < m
  · rw [if_pos hm]
    have mp : p ≤ m := Nat.not_lt.mp fun hc => h.nd m (by omega) hc (Nat.dvd_refl _)
    have mP : IsP m := by
      refine ⟨hm, fun d hd => ?_⟩
      obtain ⟨e, he⟩ := hd
      by_cases d1 : d = 1
      · exact .inl d1
      · right
        have d0 : d ≠ 0 := fun hz => by subst hz; simp at he; omega
        have e0 : e ≠ 0 := fun hz => by subst hz; simp at he; omega
        have dp : p ≤ d := Nat.not_lt.mp fun hc => h.nd d (by omega) hc ⟨e, he⟩
        by_cases e1 : e = 1
        · subst e1; omega
        · have ep : p ≤ e := Nat.not_lt.mp fun hc => h.nd e (by omega) hc ⟨d, by rw [he]; ac_rfl⟩
          have := Nat.mul_le_mul dp ep
          omega
    refine ⟨?_, fun q => ?_⟩
    · rw [List.pairwise_append]
      refine ⟨h.up, List.pairwise_singleton _ _, fun a ha b hb => ?_⟩
      simp at hb
      subst hb
      have := h.lt a ha
      omega
    · constructor
      · intro hq
        rcases List.mem_append.mp hq with a | a
        · exact h.pr q a
        · simp at a
          subst a
          exact ⟨mP, h.dv⟩
      · rintro ⟨hq, hqn⟩
        rcases h.all q hq hqn with a | a
        · exact List.mem_append_left _ a
        · rcases mP.2 q a with e | e
          · have := hq.1; omega
          · rw [e]; simp
  · rw [if_neg hm]
    refine ⟨h.up, fun q => ⟨h.pr q, fun ⟨hq, hqn⟩ => ?_⟩⟩
    rcases h.all q hq hqn with a | a
    · exact a
    · have := Nat.le_of_dvd h.m0 a
      have := hq.1
      omega
/-- primes by trial -/
def chp (n : Nat) : Nat → Nat → Bool
  | 0, lo => decide (n ≤ lo) || !(n % lo == 0)
  | k + 1, lo => chp n k lo && chp n k (lo + 2 ^ k)
theorem chp_spec {n : Nat} : ∀ {k lo : Nat}, chp n k lo = true → ∀ d, lo ≤ d → d < lo + 2 ^ k → d < n → ¬ d ∣ n
  | 0, lo, h, d, h1, h2, h3 => by
    have e : d = lo := by simp at h2; omega
    subst e
    unfold chp at h
    intro hd
    rw [Nat.mod_eq_zero_of_dvd hd] at h
    simp at h
    omega
  | k + 1, lo, h, d, h1, h2, h3 => by
    unfold chp at h
    rw [Bool.and_eq_true] at h
    rw [Nat.pow_succ] at h2
    by_cases hd : d < lo + 2 ^ k
    · exact chp_spec h.1 d h1 hd h3
    · exact chp_spec h.2 d (by omega) (by omega) h3
theorem isP_chk {n k : Nat} (h2 : 2 ≤ n) (h : chp n k 2 = true) (hn : n < (2 + 2 ^ k) * (2 + 2 ^ k)) : IsP n := by
  refine ⟨h2, fun d hd => ?_⟩
  obtain ⟨e, he⟩ := hd
  by_cases d1 : d = 1
  · exact .inl d1
  · right
    have d0 : d ≠ 0 := fun hz => by subst hz; simp at he; omega
    have e0 : e ≠ 0 := fun hz => by subst hz; simp at he; omega
    by_cases e1 : e = 1
    · subst e1; omega
    · have s1 : d < n := by
        have : d * 2 ≤ d * e := Nat.mul_le_mul_left d (by omega)
        omega
      have s2 : e < n := by
        have : 2 * e ≤ d * e := Nat.mul_le_mul_right e (by omega)
        omega
      by_cases c : d < 2 + 2 ^ k
      · exact absurd ⟨e, he⟩ (chp_spec h d (by omega) c s1)
      · by_cases c2 : e < 2 + 2 ^ k
        · exact absurd ⟨d, by rw [he]; ac_rfl⟩ (chp_spec h e (by omega) c2 s2)
        · have := Nat.mul_le_mul (Nat.not_lt.mp c) (Nat.not_lt.mp c2)
          omega
theorem isP_sqF {p : Nat} (h : IsP p) : SqF p := by
  intro d hd
  rcases h.2 d (Nat.dvd_trans (Nat.dvd_mul_left d d) hd) with e | e
  · exact e
  · subst e
    have h1 := Nat.le_of_dvd (by have := h.1; omega) hd
    have : d * 2 ≤ d * d := Nat.mul_le_mul_left d h.1
    have := h.1
    omega
theorem isP_cop {p q : Nat} (hp : IsP p) (hq : IsP q) (h : p ≠ q) : Nat.Coprime p q := by
  rcases hp.2 _ (Nat.gcd_dvd_left p q) with e | e
  · exact e
  · rcases hq.2 _ (Nat.gcd_dvd_right p q) with e2 | e2
    · exact e2
    · omega
/-! ### numbers made of powers of primes -/
/-- pairs (prime, times) -/
def pprod : List (Nat × Nat) → Nat
  | [] => 1
  | p :: r => p.1 ^ p.2 * pprod r
def pfac : List (Nat × Nat) → Nat
  | [] => 1
  | p :: r => p.1 ^ (p.2 / 2) * pfac r
def pker : List (Nat × Nat) → Nat
  | [] => 1
  | p :: r => (if p.2 % 2 = 1 then p.1 else 1) * pker r
structure PL (l : List (Nat × Nat)) : Prop where
  ne : l.Pairwise fun a b => a.1 ≠ b.1
  pr : ∀ p ∈ l, IsP p.1 ∧ 1 ≤ p.2
theorem PL.tail {p : Nat × Nat} {r : List (Nat × Nat)} (h : PL (p :: r)) : PL r := ⟨(List.pairwise_cons.mp h.ne).2, fun q hq => h.pr q (List.mem_cons_of_mem _ hq)⟩
theorem isP_pos {p : Nat} (h : IsP p) : 0 < p := by have := h.1; omega
theorem pprod_dvd {q : Nat} (hq : IsP q) : ∀ {l : List (Nat × Nat)}, PL l → q ∣ pprod l → ∃ p ∈ l, p.1 = q
  | [], _, h => by
    have := Nat.eq_one_of_dvd_one h
    have := hq.1
    omega
  | p :: r, hl, h => by
    unfold pprod at h
    rcases euclid hq h with a | a
    · exact ⟨p, List.mem_cons_self .., (p_pow (hl.pr p (List.mem_cons_self ..)).1 hq a).symm⟩
    · obtain ⟨z, hz, e⟩ := pprod_dvd hq hl.tail a
      exact ⟨z, List.mem_cons_of_mem _ hz, e⟩
theorem pprod_has : ∀ {l : List (Nat × Nat)}, PL l → ∀ p ∈ l, p.1 ∣ pprod l
  | [], _, p, h => absurd h List.not_mem_nil
  | z :: r, hl, p, h => by
    unfold pprod
    rcases List.mem_cons.mp h with rfl | h
    · have := (hl.pr p (List.mem_cons_self ..)).2
      have e : p.1 ∣ p.1 ^ p.2 := by
        obtain ⟨s, hs⟩ : ∃ s, p.2 = s + 1 := ⟨p.2 - 1, by omega⟩
        rw [hs, Nat.pow_succ]
        exact Nat.dvd_mul_left _ _
      exact Nat.dvd_trans e (Nat.dvd_mul_right _ _)
    · exact Nat.dvd_trans (pprod_has hl.tail p h) (Nat.dvd_mul_left _ _)
theorem pker_dvd {q : Nat} (hq : IsP q) : ∀ {l : List (Nat × Nat)}, PL l → q ∣ pker l → ∃ p ∈ l, p.1 = q
  | [], _, h => by
    have := Nat.eq_one_of_dvd_one h
    have := hq.1
    omega
  | p :: r, hl, h => by
    unfold pker at h
    rcases euclid hq h with a | a
    · split at a
      · rcases (hl.pr p (List.mem_cons_self ..)).1.2 q a with e | e
        · have := hq.1; omega
        · exact ⟨p, List.mem_cons_self .., e.symm⟩
      · have := Nat.eq_one_of_dvd_one a
        have := hq.1
        omega
    · obtain ⟨z, hz, e⟩ := pker_dvd hq hl.tail a
      exact ⟨z, List.mem_cons_of_mem _ hz, e⟩
theorem pker_ker : ∀ {l : List (Nat × Nat)}, PL l → IsKer (pprod l) (pfac l) (pker l)
  | [], _ => ⟨rfl, by decide, by decide, sqF_one⟩
  | p :: r, hl => by
    have ih := pker_ker hl.tail
    have hp := (hl.pr p (List.mem_cons_self ..)).1
    have p0 := isP_pos hp
    have ek : p.1 ^ p.2 = p.1 ^ (p.2 / 2) * p.1 ^ (p.2 / 2) * p.1 ^ (p.2 % 2) := by
      rw [← Nat.pow_add, ← Nat.pow_add]
      congr 1
      omega
    have f0 : 0 < p.1 ^ (p.2 / 2) * pfac r := Nat.mul_pos (Nat.pow_pos p0) ih.f0
    unfold pprod pfac pker
    by_cases h : p.2 % 2 = 1
    · rw [if_pos h]
      refine ⟨?_, f0, Nat.mul_pos p0 ih.k0, sqF_mul (isP_sqF hp) ih.sq ?_⟩
      · rw [ek, h, Nat.pow_one, ← ih.eq]
        ac_rfl
      · rcases hp.2 _ (Nat.gcd_dvd_left p.1 (pker r)) with e | e
        · exact e
        · obtain ⟨z, hz, e2⟩ := pker_dvd hp hl.tail (e ▸ Nat.gcd_dvd_right p.1 (pker r))
          exact absurd e2.symm ((List.pairwise_cons.mp hl.ne).1 z hz)
    · rw [if_neg h, Nat.one_mul]
      have h0 : p.2 % 2 = 0 := by omega
      refine ⟨?_, f0, ih.k0, ih.sq⟩
      rw [ek, h0, Nat.pow_zero, Nat.mul_one, ← ih.eq]
      ac_rfl
end Q

/-! QT: the calculus of dicts. -/
namespace Q
open PySem PySem.Spec PyProof.Rows L2
section
variable {cl : Nat → List PV → Store → Res PV} {e : PEnv} {M : Store} {k : PV → Bx → Prop} {N : PEnv → Bx → Prop} {D : Jn}
theorem e_dnew : E cl .dnew e ⟨M⟩ k = k (.ref M.length) ⟨M ++ [.dK false []]⟩ := by simp only [E_eq]; unfold evE; rfl
structure Dct? (x : PV) (B : Bx) (P : Bx → Prop) : Prop where
  out : isDct B.M x = true ∧ P B
theorem Dctq_eq (x : PV) (B : Bx) (P : Bx → Prop) : Dct? x B P = (isDct B.M x = true ∧ P B) := propext ⟨fun h => h.out, fun h => ⟨h⟩⟩
structure Gd (x y z : PV) (B : Bx) (k : PV → Bx → Prop) : Prop where
  out : (getDV x y z B.M).Sat fun v M => k v ⟨M⟩
theorem Gd_eq (x y z : PV) (B : Bx) (k : PV → Bx → Prop) : Gd x y z B k = ((getDV x y z B.M).Sat fun v M => k v ⟨M⟩) := propext ⟨fun h => h.out, fun h => ⟨h⟩⟩
theorem e_get1 {a b : QE} : E cl (.get1 a b) e ⟨M⟩ k = E cl a e ⟨M⟩ fun x B => Dct? x B fun B => E cl b e B fun y B => Gd x y .non B k := by
  simp only [E_eq, Gd_eq, Dctq_eq]
  (conv => lhs; unfold evE)
  simp only [sat_bind, sat_guard]
theorem e_get2 {a b d : QE} : E cl (.get2 a b d) e ⟨M⟩ k = E cl a e ⟨M⟩ fun x B => Dct? x B fun B => E cl b e B fun y B => E cl d e B fun z B => Gd x y z B k := by
  simp only [E_eq, Gd_eq, Dctq_eq]
  (conv => lhs; unfold evE)
  simp only [sat_bind, sat_guard]
theorem cl_d {n : Nat} {P : Bx → Prop} : Dct? (.ref n) ⟨M⟩ P = CL M[n]? (fun _ => False) (fun _ => P ⟨M⟩) := by
  simp only [Dctq_eq]
  unfold isDct CL
  dsimp only
  cases h : M[n]? with
  | none => simp
  | some c => cases c <;> simp
def KyP (o : Option Key) (P : Key → Prop) : Prop := match o with
  | some k => P k
  | none => False
theorem gd_ref {n : Nat} {i : Int} {z : PV} : Gd (.ref n) (.int i) z ⟨M⟩ k = CL M[n]? (fun _ => False) (fun kvs => k ((getK kvs (.inl i)).getD z) ⟨M⟩) := by
  simp only [Gd_eq]
  unfold getDV CL
  dsimp only
  cases h : M[n]? with
  | none => rfl
  | some c => cases c <;> rfl
theorem gd_str {n : Nat} {i : Str} {z : PV} : Gd (.ref n) (.str i) z ⟨M⟩ k = CL M[n]? (fun _ => False) (fun kvs => k ((getK kvs (.inr i)).getD z) ⟨M⟩) := by
  simp only [Gd_eq]
  unfold getDV CL
  dsimp only
  cases h : M[n]? with
  | none => rfl
  | some c => cases c <;> rfl
theorem se_dict {n : Nat} {kvs : List (Key × PV)} {i : Int} {v : PV} {P : Bx → Prop} (h : M[n]? = some (.dK false kvs)) : Se (.ref n) (.int i) v ⟨M⟩ P = (kvs.length < sizeLine ∧ P ⟨M.set n (.dK false (putP kvs (.inl i) v))⟩) := by
  simp only [Se_eq]
  unfold setI
  simp only [h]
  show (if kvs.length < sizeLine then Res.ok PV.non (M.set n (.dK false (putP kvs (.inl i) v))) else Res.bad).Sat _ = _
  simp only [sat_guard, sat_ok]
theorem cm_isin {n : Nat} {i : Int} : Cm .isin (.int i) (.ref n) ⟨M⟩ k = CL M[n]? (fun ys => (ys.all flatP = true ∧ k (.bl (ys.any fun y => eqF y (.int i))) ⟨M⟩)) (fun kvs => k (.bl (getK kvs (.inl i)).isSome) ⟨M⟩) := by
  simp only [Cm_eq]
  unfold cmpV cmpB inV CL
  dsimp only
  cases h : M[n]? with
  | none => rfl
  | some c =>
    cases c with
    | lst ys =>
      dsimp only
      unfold inL
      by_cases hf : ys.all flatP = true
      · have h2 : (flatP (.int i) && ys.all flatP) = true := by rw [hf]; rfl
        rw [h2, hf]
        simp [sat_ok]
      · have : (flatP (.int i) && ys.all flatP) = false := by
          rw [Bool.not_eq_true] at hf
          rw [hf]
          exact Bool.and_false _
        rw [this]
        simp [hf]
    | dK lk kvs => rfl
    | dT lk kvs => rfl
theorem cm_notin {n : Nat} {i : Int} : Cm .notin (.int i) (.ref n) ⟨M⟩ k = CL M[n]? (fun ys => (ys.all flatP = true ∧ k (.bl (!(ys.any fun y => eqF y (.int i)))) ⟨M⟩)) (fun kvs => k (.bl (!(getK kvs (.inl i)).isSome)) ⟨M⟩) := by
  simp only [Cm_eq]
  unfold cmpV cmpB inV CL
  dsimp only
  cases h : M[n]? with
  | none => rfl
  | some c =>
    cases c with
    | lst ys =>
      dsimp only
      unfold inL
      by_cases hf : ys.all flatP = true
      · have h2 : (flatP (.int i) && ys.all flatP) = true := by rw [hf]; rfl
        rw [h2, hf]
        simp [sat_ok]
      · have : (flatP (.int i) && ys.all flatP) = false := by
          rw [Bool.not_eq_true] at hf
          rw [hf]
          exact Bool.and_false _
        rw [this]
        simp [hf]
    | dK lk kvs => rfl
    | dT lk kvs => rfl
def IntsK (o : Option (List Int)) (P : List Int → Prop) : Prop := match o with
  | some ns => P ns
  | none => False
theorem intsK {ns : List Int} {P : List Int → Prop} : IntsK (some ns) P = P ns := rfl
def SsetK (x : PV) (B : Bx) (k : PV → Bx → Prop) : Prop := match x with
  | .tup xs => IntsK (intsP xs) fun ns => ns.length < 64 ∧ k (.ref B.M.length) ⟨B.M ++ [.lst ((sortU ns).map .int)]⟩
  | _ => False
theorem ssetK {xs : List PV} : SsetK (.tup xs) ⟨M⟩ k = IntsK (intsP xs) fun ns => ns.length < 64 ∧ k (.ref M.length) ⟨M ++ [.lst ((sortU ns).map .int)]⟩ := rfl
theorem e_sset {a : QE} : E cl (.sset a) e ⟨M⟩ k = E cl a e ⟨M⟩ fun x B => SsetK x B k := by
  simp only [E_eq]
  unfold SsetK
  (conv => lhs; unfold evE)
  simp only [sat_bind]
  congr 1
  funext x M
  unfold ssetV IntsK
  cases x with
  | tup xs =>
    dsimp only
    cases intsP xs with
    | none => rfl
    | some ns => simp only [sat_guard, sat_ok]
  | _ => rfl
theorem b_sorted {n : Nat} : Bi .sorted [.ref n] ⟨M⟩ k = CL M[n]? (fun xs => IntsK (intsP xs) fun ns => k (.ref M.length) ⟨M ++ [.lst ((sortI ns).map .int)]⟩) (fun kvs => IntsK (intKs kvs) fun ns => ns.length < 64 ∧ k (.ref M.length) ⟨M ++ [.lst ((sortI ns).map .int)]⟩) := by
  simp only [Bi_eq]
  show (sortV (.ref n) M).Sat _ = _
  unfold sortV CL IntsK
  dsimp only
  cases h : M[n]? with
  | none => rfl
  | some c =>
    cases c with
    | lst xs =>
      dsimp only
      cases intsP xs <;> rfl
    | dK lk kvs =>
      dsimp only
      cases intKs kvs with
      | none => rfl
      | some ns => simp only [sat_guard, sat_ok]
    | dT lk kvs => rfl
theorem m_insert {n : Nat} {i : Int} {y : PV} : MtK .insert (.ref n) [.int i, y] ⟨M⟩ k = CL M[n]? (fun xs => (xs.length < sizeLine ∧ 0 ≤ i ∧ i < 9223372036854775808) ∧ k .non ⟨M.set n (.lst (xs.take i.toNat ++ [y] ++ xs.drop i.toNat))⟩) fun _ => False := by
  have e : (2 : Int) ^ 63 = 9223372036854775808 := by decide
  simp only [MtK_eq]
  unfold mtV CL
  dsimp only
  rw [e]
  cases h : M[n]? with
  | none => rfl
  | some c =>
    cases c with
    | lst xs => simp only [sat_guard, sat_ok]
    | _ => rfl
theorem cb_sum {n : Nat} : Bi .sum [.ref n] ⟨M⟩ k = CL M[n]? (fun xs => IntsK (intsP xs) fun ns => k (.int ns.sum) ⟨M⟩) fun _ => False := by
  simp only [Bi_eq]
  show (sumV (.ref n) M).Sat _ = _
  unfold sumV seqP CL IntsK
  dsimp only
  cases h : M[n]? with
  | none => rfl
  | some c =>
    cases c with
    | lst xs =>
      dsimp only
      cases intsP xs <;> rfl
    | _ => rfl
def SqK (o : Option (List PV)) (P : List PV → Prop) : Prop := match o with
  | some xs => P xs
  | none => False
theorem b_tuple_ref {n : Nat} : Bi .tuple [.ref n] ⟨M⟩ k = CL M[n]? (fun xs => k (.tup xs) ⟨M⟩) fun _ => False := by
  simp only [Bi_eq]
  show (okO ((seqP (.ref n) M).map .tup) M).Sat _ = _
  unfold seqP CL
  dsimp only
  cases h : M[n]? with
  | none => rfl
  | some c => cases c <;> rfl
theorem b_tuple_tup {xs : List PV} : Bi .tuple [.tup xs] ⟨M⟩ k = k (.tup xs) ⟨M⟩ := by rw [Bi_eq]; rfl
theorem b_list_tup {xs : List PV} : Bi .list [.tup xs] ⟨M⟩ k = k (.ref M.length) ⟨M ++ [.lst xs]⟩ := by rw [Bi_eq]; rfl
theorem b_list_ref {n : Nat} : Bi .list [.ref n] ⟨M⟩ k = CL M[n]? (fun xs => k (.ref M.length) ⟨M ++ [.lst xs]⟩) fun _ => False := by
  simp only [Bi_eq]
  show (match seqP (.ref n) M with
    | some xs => Res.ok (PV.ref M.length) (M ++ [Cell.lst xs])
    | none => .bad).Sat _ = _
  unfold seqP CL
  dsimp only
  cases h : M[n]? with
  | none => rfl
  | some c => cases c <;> rfl
theorem sl_tup {xs : List PV} {lo hi : Option Int} : Sl (.tup xs) lo hi ⟨M⟩ k = k (.tup (cutL xs lo hi)) ⟨M⟩ := by rw [Sl_eq]; rfl
theorem sl_ref {n : Nat} {lo hi : Option Int} : Sl (.ref n) lo hi ⟨M⟩ k = CL M[n]? (fun xs => k (.ref M.length) ⟨M ++ [.lst (cutL xs lo hi)]⟩) fun _ => False := by
  simp only [Sl_eq]
  unfold slV seqP CL
  dsimp only
  cases h : M[n]? with
  | none => rfl
  | some c => cases c <;> rfl
theorem tr_tup {xs : List PV} {k : Bool → Bx → Prop} : Tr (.tup xs) ⟨M⟩ k = k (!xs.isEmpty) ⟨M⟩ := by rw [Tr_eq]; rfl
/-- a walk over a dict -/
theorem fd_rule {kd : DKind} {t : QT} {i n : Nat} {b : QSs} {kvs : List (Key × PV)} (he : getV e i = some (.ref n)) (hM : M[n]? = some (.dK false kvs)) (I : Nat → PEnv → Bx → Prop)
    (h0 : I 0 e ⟨M.set n (.dK true kvs)⟩) (hst : ∀ i e M, I i e ⟨M⟩ → M[n]? = some (.dK true kvs))
    (h : ∀ i x e M, (dItems kd kvs)[i]? = some x → I i e ⟨M⟩ → Tg cl t x e ⟨M⟩ fun e B => Ss cl b e B (fun e B => I (i + 1) e B) { rt := fun v B => B.M[n]? = some (.dK true kvs) ∧ D.rt v ⟨B.M.set n (.dK false kvs)⟩, bk := fun e B => B.M[n]? = some (.dK true kvs) ∧ N e ⟨B.M.set n (.dK false kvs)⟩, ct := fun e B => I (i + 1) e B })
    (hd : ∀ e M, I (dItems kd kvs).length e ⟨M⟩ → N e ⟨M.set n (.dK false kvs)⟩) : S cl (.ford kd t i b) e ⟨M⟩ N D := by
  have lk : ∀ {M : Store}, M[n]? = some (.dK true kvs) → lockOk n kvs M = true := fun {M} hm => by
    unfold lockOk
    rw [hm]
    exact Cell.beq_refl _
  rw [S_eq]
  unfold exS
  rw [he]
  dsimp only
  rw [hM]
  dsimp only
  have key : (forL (lockOk n kvs) (fun x e M => evT cl t x e M) (fun e M => exSs cl b e M) (dItems kd kvs) e (M.set n (.dK true kvs))).Sat { nx := fun e M => M[n]? = some (.dK true kvs) ∧ N e ⟨M.set n (.dK false kvs)⟩, rt := fun v M => M[n]? = some (.dK true kvs) ∧ D.rt v ⟨M.set n (.dK false kvs)⟩ } := by
    refine for_sat (fun i e M => I i e ⟨M⟩) (fun i e M _ hI => lk (hst i e M hI)) (fun i x e M hx hI => ?_) (fun e M hI => ?_) h0
    rotate_left
    · exact ⟨hst _ e M hI, hd e M hI⟩
    exact Res.Sat.mono (h i x e M hx hI).out fun e' M' h1 => h1.out
  generalize forL (lockOk n kvs) (fun x e M => evT cl t x e M) (fun e M => exSs cl b e M) (dItems kd kvs) e (M.set n (.dK true kvs)) = r at key
  cases r with
  | nx e M =>
    show (if lockOk n kvs M then RS.nx e (M.set n (.dK false kvs)) else RS.bad).Sat _
    rw [if_pos (lk key.1)]
    exact key.2
  | rt v M =>
    show (if lockOk n kvs M then RS.rt v (M.set n (.dK false kvs)) else RS.bad).Sat _
    rw [if_pos (lk key.1)]
    exact key.2
  | bk e M => exact key.elim
  | ct e M => exact key.elim
  | exc x e M => exact key.elim
  | bad => exact key.elim
end
end Q

/-! QU: dicts of numbers, sorted numbers, lengths as values. -/
namespace Q
open PySem PySem.Spec PyProof.Rows L2
theorem still_of {xs : List PV} {n : Nat} {c : Cell} {M : Store} (h : M[n]? = some c) : (Src.mk xs (some (n, c))).still M = true := by
  unfold Src.still
  dsimp only
  rw [h]
  exact Cell.beq_refl c
theorem abs_eq {i : Int} : (if i < 0 then -i else i) = ((i.natAbs : Nat) : Int) := by split <;> omega
/-! ### sorted numbers -/
theorem sortI_mem {l : List Int} {n : Int} : n ∈ sortI l ↔ n ∈ l := (sortI_perm l).mem_iff
theorem sortI_len {l : List Int} : (sortI l).length = l.length := (sortI_perm l).length_eq
theorem sortI_up {l : List Int} (h : l.Pairwise (· ≠ ·)) : (sortI l).Pairwise (· < ·) := by
  have h1 : (sortI l).Pairwise (· ≠ ·) := (List.Perm.pairwise_iff (fun {a b} hab => Ne.symm hab) (sortI_perm l)).mpr h
  refine List.Pairwise.imp₂ (fun a b hab hne => ?_) (sortI_sorted l) h1
  omega
/-! ### dicts of numbers -/
def dkv (l : Prs) : List (Key × PV) := l.map fun p => (.inl p.1, .int p.2)
def putI (l : Prs) (n v : Int) : Prs := if (l.any fun p => decide (p.1 = n)) = true then l.map (fun p => if p.1 = n then (p.1, v) else p) else l ++ [(n, v)]
def UpK (l : Prs) : Prop := l.Pairwise fun a b => a.1 ≠ b.1
theorem dkv_len {l : Prs} : (dkv l).length = l.length := List.length_map _
theorem keyIn {a b : Int} : ((Sum.inl a : Key) = .inl b) ↔ a = b := ⟨fun h => by cases h; rfl, fun h => by rw [h]⟩
theorem putP_dkv {l : Prs} {n v : Int} : putP (dkv l) (.inl n) (.int v) = dkv (putI l n v) := by
  unfold putP putI dkv
  rw [List.any_map]
  have e : ((fun kv => decide (kv.1 = (Sum.inl n : Key))) ∘ fun p : Int × Int => ((Sum.inl p.1 : Key), PV.int p.2)) = fun p => decide (p.1 = n) := by
    funext p
    simp only [Function.comp, keyIn]
  rw [e]
  split
  · rw [List.map_map, List.map_map]
    apply List.map_congr_left
    intro p _
    simp only [Function.comp, keyIn]
    split <;> rfl
  · rw [List.map_append]
    rfl
theorem sumAt_any {l : Prs} {n : Int} (h : ¬ (l.any fun p => decide (p.1 = n)) = true) : ∀ p ∈ l, p.1 ≠ n := fun p hp e => h (List.any_eq_true.mpr ⟨p, hp, by simpa using e⟩)
theorem sumAt_uniq {l : Prs} (h : UpK l) {p : Int × Int} (hp : p ∈ l) : sumAt l p.1 = p.2 := by
  induction l with
  | nil => cases hp
  | cons q r ih =>
    unfold UpK at h ih
    rw [List.pairwise_cons] at h
    rcases List.mem_cons.mp hp with rfl | hr
    · rw [sumAt, if_pos rfl, sumAt_off fun z hz => (h.1 z hz).symm]
      omega
    · rw [sumAt, if_neg (h.1 p hr), ih h.2 hr]
      omega
theorem sumAt_map {l : Prs} (h : UpK l) {n v m : Int} : sumAt (l.map fun p => if p.1 = n then (p.1, v) else p) m = if n = m ∧ (l.any fun p => decide (p.1 = n)) = true then v else sumAt l m := by
  induction l with
  | nil => simp [sumAt]
  | cons q r ih =>
    unfold UpK at h ih
    rw [List.pairwise_cons] at h
    rw [List.map_cons, sumAt, ih h.2, sumAt, List.any_cons]
    by_cases e : q.1 = n
    · have hoff : ∀ p ∈ r, p.1 ≠ n := fun p hp e2 => h.1 p hp (e.trans e2.symm)
      have hany : (r.any fun p => decide (p.1 = n)) = false := by
        rw [Bool.eq_false_iff]
        intro hc
        obtain ⟨p, hp, e2⟩ := List.any_eq_true.mp hc
        exact hoff p hp (by simpa using e2)
      rw [hany]
      simp only [e, if_pos, decide_true, Bool.true_or, and_true, Bool.false_eq_true, and_false, if_false]
      by_cases e3 : n = m
      · subst e3
        rw [sumAt_off hoff]
        simp
      · simp [e3]
    · simp only [e, if_neg, decide_false, Bool.false_or, not_false_eq_true]
      by_cases e3 : n = m
      · subst e3
        simp [e]
      · simp [e3]
theorem sumAt_put {l : Prs} (h : UpK l) {n v m : Int} : sumAt (putI l n v) m = if n = m then v else sumAt l m := by
  unfold putI
  split
  · rename_i ha
    rw [sumAt_map h, ha]
    simp
  · rename_i ha
    have := sumAt_any ha
    rw [sumAt_app]
    by_cases e : n = m
    · subst e
      rw [sumAt_off this, if_pos rfl]
      simp [sumAt]
    · simp [sumAt, e]
theorem putI_mem {l : Prs} {n v : Int} {p : Int × Int} (h : p ∈ putI l n v) : p.1 = n ∨ ∃ q ∈ l, q.1 = p.1 := by
  unfold putI at h
  split at h
  · obtain ⟨q, hq, rfl⟩ := List.mem_map.mp h
    by_cases e : q.1 = n
    · left; simp [e]
    · right; exact ⟨q, hq, by simp [e]⟩
  · rcases List.mem_append.mp h with h | h
    · exact .inr ⟨p, h, rfl⟩
    · left
      simp at h
      rw [h]
theorem putI_up {l : Prs} (h : UpK l) {n v : Int} : UpK (putI l n v) := by
  unfold putI UpK
  split
  · rw [List.pairwise_map]
    refine List.Pairwise.imp (fun {a b} hab => ?_) h
    by_cases e : a.1 = n <;> by_cases e2 : b.1 = n <;> simp only [e, e2, if_pos, if_neg, not_false_eq_true] <;> first | exact hab | (rw [← e]; exact hab) | (rw [← e2]; exact hab) | (intro hc; apply hab; omega)
  · rename_i ha
    have := sumAt_any ha
    rw [List.pairwise_append]
    refine ⟨h, List.pairwise_singleton _ _, fun a ha b hb => ?_⟩
    simp at hb
    rw [hb]
    exact this a ha
theorem putI_len {l : Prs} {n v : Int} : (putI l n v).length ≤ l.length + 1 := by
  unfold putI
  split <;> simp
theorem getK_none {l : Prs} {n : Int} (h : ∀ p ∈ l, p.1 ≠ n) : getK (dkv l) (.inl n) = none := by
  unfold getK
  rw [List.find?_eq_none.mpr]
  · rfl
  · intro x hx
    obtain ⟨p, hp, rfl⟩ := List.mem_map.mp hx
    simpa [keyIn] using h p hp
theorem getK_some {l : Prs} (h : UpK l) {p : Int × Int} (hp : p ∈ l) : getK (dkv l) (.inl p.1) = some (.int p.2) := by
  induction l with
  | nil => cases hp
  | cons q r ih =>
    unfold UpK at h ih
    rw [List.pairwise_cons] at h
    unfold getK dkv at ih ⊢
    rw [List.map_cons, List.find?_cons]
    rcases List.mem_cons.mp hp with rfl | hr
    · simp
    · have e : decide ((Sum.inl q.1 : Key) = .inl p.1) = false := decide_eq_false (fun e => h.1 p hr (keyIn.mp e))
      dsimp only
      rw [e]
      exact ih h.2 hr
theorem getK_sum {l : Prs} (h : UpK l) {n : Int} : (getK (dkv l) (.inl n)).getD (.int 0) = .int (sumAt l n) := by
  by_cases hn : ∃ p ∈ l, p.1 = n
  · obtain ⟨p, hp, rfl⟩ := hn
    rw [getK_some h hp, sumAt_uniq h hp]
    rfl
  · rw [getK_none fun p hp e => hn ⟨p, hp, e⟩, sumAt_off fun p hp e => hn ⟨p, hp, e⟩]
    rfl
theorem intKs_dkv : ∀ {l : Prs}, intKs (dkv l) = some (l.map (·.1))
  | [] => rfl
  | p :: r => by
    show (intKs (dkv r)).map (p.1 :: ·) = _
    rw [intKs_dkv]
    rfl
theorem vals_dkv {l : Prs} : dItems .vals (dkv l) = l.map fun p => PV.int p.2 := by
  unfold dItems dkv
  dsimp only
  rw [List.map_map]
  rfl
theorem keys_dkv {l : Prs} : dItems .keys (dkv l) = l.map fun p => PV.int p.1 := by
  unfold dItems dkv
  dsimp only
  rw [List.map_map]
  rfl
/-- a dict of the sums of terms -/
structure DI (ps l : Prs) : Prop where
  up : UpK l
  sum : ∀ n, sumAt l n = sumAt ps n
  key : ∀ p ∈ l, ∃ q ∈ ps, q.1 = p.1
  len : l.length ≤ ps.length
theorem di_nil : DI [] [] := ⟨List.Pairwise.nil, fun _ => rfl, fun p hp => absurd hp (List.not_mem_nil), Nat.le_refl _⟩
theorem di_put {ps l : Prs} (h : DI ps l) {n a : Int} : DI (ps ++ [(n, a)]) (putI l n (sumAt l n + a)) := by
  refine ⟨putI_up h.up, fun m => ?_, fun p hp => ?_, ?_⟩
  · rw [sumAt_put h.up, sumAt_app]
    simp only [sumAt]
    by_cases e : n = m
    · subst e
      simp [h.sum]
    · simp [e, h.sum]
  · rcases putI_mem hp with e | ⟨q, hq, e⟩
    · exact ⟨(n, a), by simp, e.symm⟩
    · obtain ⟨r, hr, e2⟩ := h.key q hq
      exact ⟨r, List.mem_append_left _ hr, e2.trans e⟩
  · have := putI_len (l := l) (n := n) (v := sumAt l n + a)
    have := h.len
    simp
    omega
theorem di_made {d : Int} {ps l : Prs} (hd : 0 < d) (h : DI ps l) : Made d ps (d / (gcdL d.natAbs l : Nat), tmL l (gcdL d.natAbs l : Nat) (sortI (l.map (·.1)))) := by
  refine made_of hd h.sum rfl (fun p hp => sumAt_uniq h.up hp) (sortI_up ?_) (fun n => ?_) h.key ?_
  · rw [List.pairwise_map]
    exact h.up
  · rw [sortI_mem]
    simp
  · rw [sortI_len, List.length_map]
    exact h.len
/-! ### lengths as values -/
def prV (ps : Prs) : List PV := ps.map fun p => .tup [.int p.1, .int p.2]
def lenV (L : Len) : PV := .tup [.int L.1, .tup (prV L.2)]
theorem prV_len {ps : Prs} : (prV ps).length = ps.length := List.length_map _
theorem prV_get {ps : Prs} {i : Nat} {x : PV} (h : (prV ps)[i]? = some x) : ∃ p : Int × Int, ps[i]? = some p ∧ x = .tup [.int p.1, .int p.2] := by
  unfold prV at h
  rw [List.getElem?_map] at h
  cases hp : ps[i]? with
  | none => rw [hp] at h; cases h
  | some p => rw [hp] at h; cases h; exact ⟨p, rfl, rfl⟩
theorem take_snoc {α : Type} {l : List α} {i : Nat} {x : α} (h : l[i]? = some x) : l.take (i + 1) = l.take i ++ [x] := by
  rw [List.take_succ, h]
  rfl
theorem map_take {α β : Type} {f : α → β} {l : List α} {i : Nat} {x : β} (h : (l.map f)[i]? = some x) : ∃ y, l[i]? = some y ∧ x = f y := by
  rw [List.getElem?_map] at h
  cases hy : l[i]? with
  | none => rw [hy] at h; cases h
  | some y => rw [hy] at h; cases h; exact ⟨y, rfl, rfl⟩
theorem prV_app {a b : Prs} : prV (a ++ b) = prV a ++ prV b := List.map_append
theorem prV_plains {ps : Prs} : PV.plains (prV ps) = true := by
  apply plains_of_mem
  intro x hx
  obtain ⟨p, _, rfl⟩ := List.mem_map.mp hx
  simp [PV.plain, PV.plains]
theorem lenV_plain {L : Len} : (lenV L).plain = true := by
  unfold lenV
  simp [PV.plain, PV.plains, prV_plains]
theorem sumAt_bound {ps : Prs} {k : Nat} (h : ∀ p ∈ ps, p.2.natAbs < 2 ^ k) (n : Int) : (sumAt ps n).natAbs ≤ ps.length * 2 ^ k := by
  induction ps with
  | nil => simp [sumAt]
  | cons p r ih =>
    have h1 := ih fun q hq => h q (List.mem_cons_of_mem _ hq)
    have h2 := h p (List.mem_cons_self ..)
    rw [sumAt, List.length_cons, Nat.add_mul, Nat.one_mul]
    split <;> omega
theorem sumAt_lt {ps : Prs} {k j : Nat} (h : ∀ p ∈ ps, p.2.natAbs < 2 ^ k) (hl : ps.length < 2 ^ j) (n : Int) : (sumAt ps n).natAbs < 2 ^ (j + k) := by
  have h1 := sumAt_bound h n
  rw [Nat.pow_add]
  exact Nat.lt_of_le_of_lt h1 (Nat.mul_lt_mul_of_pos_right hl (Nat.pow_pos (by decide)))
end Q

namespace Q
open PySem PySem.Spec PyProof.Rows L2
def q_whole_root_w1 : QSs := (.cons (.asg (.var 2) (.bin .fdiv (.bin .add (.var 1) (.bin .fdiv (.var 0) (.var 1))) (.int 2))) (.cons (.ite (.cmp .ge (.var 2) (.var 1)) (.cons (.ret (.var 1)) .nil) .nil) (.cons (.asg (.var 1) (.var 2)) .nil)))
def q_whole_root : QF := ⟨3, 1, (.cons (.ite (.cmp .lt (.var 0) (.int 2)) (.cons (.ret (.var 0)) .nil) .nil) (.cons (.asg (.var 1) (.bin .shl (.int 1) (.bin .fdiv (.bin .add (.bits (.var 0)) (.int 1)) (.int 2)))) (.cons (.whl (.bl true) q_whole_root_w1) .nil)))⟩
def q_kernel_of_w2 : QSs := (.cons (.asg (.var 0) (.bin .fdiv (.var 0) (.var 3))) (.cons (.aug 4 .add (.int 1)) .nil))
def q_kernel_of_f3 : QSs := (.cons (.asg (.var 1) (.bin .mul (.var 1) (.var 3))) .nil)
def q_kernel_of_w1 : QSs := (.cons (.asg (.var 4) (.int 0)) (.cons (.whl (.cmp .eq (.bin .mod (.var 0) (.var 3)) (.int 0)) q_kernel_of_w2) (.cons (.for (.var 5) (.rng1 (.bin .fdiv (.var 4) (.int 2))) q_kernel_of_f3) (.cons (.ite (.cmp .eq (.bin .mod (.var 4) (.int 2)) (.int 1)) (.cons (.asg (.var 2) (.bin .mul (.var 2) (.var 3))) .nil) .nil) (.cons (.aug 3 .add (.ite (.cmp .eq (.var 3) (.int 2)) (.int 1) (.int 2))) .nil)))))
def q_kernel_of : QF := ⟨7, 1, (.cons (.asg (.tup (.cons (.var 1) (.cons (.var 2) .nil))) (.tup (.cons (.int 1) (.cons (.int 1) .nil)))) (.cons (.asg (.var 3) (.int 2)) (.cons (.whl (.cmp .le (.bin .mul (.bin .mul (.var 3) (.var 3)) (.var 3)) (.var 0)) q_kernel_of_w1) (.cons (.asg (.var 6) (.call 0 (.cons (.var 0) .nil))) (.cons (.ite (.cmp .eq (.bin .mul (.var 6) (.var 6)) (.var 0)) (.cons (.ret (.tup (.cons (.bin .mul (.var 1) (.var 6)) (.cons (.var 2) .nil)))) .nil) .nil) (.cons (.ret (.tup (.cons (.var 1) (.cons (.bin .mul (.var 2) (.var 0)) .nil)))) .nil))))))⟩
def q_is_squarefree : QF := ⟨1, 1, (.cons (.ret (.cmp .eq (.ix (.call 13 (.cons (.var 0) .nil)) (.int 0)) (.int 1))) .nil)⟩
def q_primes_in_w2 : QSs := (.cons (.asg (.var 0) (.bin .fdiv (.var 0) (.var 2))) .nil)
def q_primes_in_w1 : QSs := (.cons (.ite (.cmp .eq (.bin .mod (.var 0) (.var 2)) (.int 0)) (.cons (.expr (.mt .append (.var 1) (.cons (.var 2) .nil))) .nil) .nil) (.cons (.whl (.cmp .eq (.bin .mod (.var 0) (.var 2)) (.int 0)) q_primes_in_w2) (.cons (.aug 2 .add (.ite (.cmp .eq (.var 2) (.int 2)) (.int 1) (.int 2))) .nil)))
def q_primes_in : QF := ⟨3, 1, (.cons (.asg (.var 1) (.lst .nil)) (.cons (.asg (.var 2) (.int 2)) (.cons (.whl (.cmp .le (.bin .mul (.var 2) (.var 2)) (.var 0)) q_primes_in_w1) (.cons (.ite (.cmp .gt (.var 0) (.int 1)) (.cons (.expr (.mt .append (.var 1) (.cons (.var 0) .nil))) .nil) .nil) (.cons (.ret (.bi .tuple (.cons (.var 1) .nil))) .nil)))))⟩
def q_law_dice_v1_f2 : QSs := (.cons (.asg (.var 1) (.bin .mod (.bi .int (.cons (.bin .add (.bin .add (.bin .add (.bin .mul (.var 1) (.int 40014)) (.bin .mod (.bi .int (.cons (.var 5) .nil)) (.int 1000003))) (.bin .mul (.int 173) (.var 7))) (.var 3)) .nil)) (.int 2147483647))) (.cons (.ite (.var 6) (.cons (.expr (.mt .append (.var 2) (.cons (.bin .mod (.bi .int (.cons (.var 5) .nil)) (.int 1000)) .nil))) (.cons (.asg (.var 5) (.bin .fdiv (.var 5) (.int 1000))) .nil)) (.cons (.ite (.chain .lt .lt (.int 0) (.var 7) (.int 5)) (.cons (.expr (.mt .append (.var 2) (.cons (.bin .mod (.bi .int (.cons (.bin .fdiv (.var 1) (.int 17)) .nil)) (.int 1000)) .nil))) .nil) .nil) .nil)) .nil))
def q_law_dice_v1_f1 : QSs := (.cons (.asg (.var 5) (.bin .mod (.bi .int (.cons (.var 4) .nil)) (.bin .pow (.int 10) (.int 60)))) (.cons (.asg (.var 6) (.cmp .ge (.var 5) (.bin .pow (.int 10) (.int 18)))) (.cons (.for (.var 7) (.rng1 (.int 20)) q_law_dice_v1_f2) .nil)))
def q_law_dice_v1 : QF := ⟨8, 1, (.cons (.asg (.var 1) (.int 2347)) (.cons (.asg (.var 2) (.lst .nil)) (.cons (.for (.tup (.cons (.var 3) (.cons (.var 4) .nil))) (.enum (.sl (.var 0) .none (.some (.int 63)))) q_law_dice_v1_f1) (.cons (.ret (.lst (.cons (.var 1) (.cons (.int 0) (.cons (.var 2) .nil))))) .nil))))⟩
def q_law_draw_v1 : QF := ⟨3, 2, (.cons (.asg (.var 2) (.ix (.var 0) (.int 1))) (.cons (.asg (.sub (.var 0) (.int 1)) (.bin .add (.var 2) (.int 1))) (.cons (.ite (.cmp .lt (.var 2) (.bi .len (.cons (.ix (.var 0) (.int 2)) .nil))) (.cons (.ret (.bin .mod (.bi .int (.cons (.ix (.ix (.var 0) (.int 2)) (.var 2)) .nil)) (.var 1))) .nil) .nil) (.cons (.asg (.sub (.var 0) (.int 0)) (.bin .mod (.bi .int (.cons (.bin .add (.bin .mul (.ix (.var 0) (.int 0)) (.int 39373)) (.int 223)) .nil)) (.int 2147483647))) (.cons (.ret (.bin .mod (.bi .int (.cons (.bin .fdiv (.ix (.var 0) (.int 0)) (.int 13)) .nil)) (.var 1))) .nil)))))⟩
def q_law_same_w1 : QSs := (.cons (.asg (.tup (.cons (.var 3) (.cons (.var 4) .nil))) (.mt .pop (.var 2) .nil)) (.cons (.ite (.isN (.var 4)) (.cons (.ite (.notN (.var 3)) (.cons (.ret (.bl false)) .nil) .nil) .nil) (.cons (.ite (.or (.bi .isi (.cons (.var 4) (.cons (.ty "bool") .nil))) (.bi .isi (.cons (.var 3) (.cons (.ty "bool") .nil)))) (.cons (.ite (.or (.not (.bi .isi (.cons (.var 4) (.cons (.ty "bool") .nil)))) (.or (.not (.bi .isi (.cons (.var 3) (.cons (.ty "bool") .nil)))) (.cmp .ne (.var 3) (.var 4)))) (.cons (.ret (.bl false)) .nil) .nil) .nil) (.cons (.ite (.bi .isi (.cons (.var 4) (.cons (.ty "int") .nil))) (.cons (.ite (.or (.not (.bi .isi (.cons (.var 3) (.cons (.ty "int") .nil)))) (.cmp .ne (.var 3) (.var 4))) (.cons (.ret (.bl false)) .nil) .nil) .nil) (.cons (.ite (.bi .isi (.cons (.var 4) (.cons (.ty "str") .nil))) (.cons (.ite (.or (.not (.bi .isi (.cons (.var 3) (.cons (.ty "str") .nil)))) (.cmp .ne (.var 3) (.var 4))) (.cons (.ret (.bl false)) .nil) .nil) .nil) (.cons (.ite (.or (.cmp .ne (.bi .isi (.cons (.var 3) (.cons (.ty "list") .nil))) (.bi .isi (.cons (.var 4) (.cons (.ty "list") .nil)))) (.cmp .ne (.bi .isi (.cons (.var 3) (.cons (.ty "tuple") .nil))) (.bi .isi (.cons (.var 4) (.cons (.ty "tuple") .nil))))) (.cons (.ret (.bl false)) .nil) .nil) (.cons (.ite (.cmp .ne (.bi .len (.cons (.var 3) .nil)) (.bi .len (.cons (.var 4) .nil))) (.cons (.ret (.bl false)) .nil) .nil) (.cons (.expr (.gc (.mt .extend (.var 2) (.cons (.comp (.tup (.cons (.ix (.var 3) (.var 5)) (.cons (.ix (.var 4) (.var 5)) .nil))) (.var 5) (.rng1 (.bi .len (.cons (.var 4) .nil))) .none [5]) .nil)))) .nil)))) .nil)) .nil)) .nil)) .nil))
def q_law_same : QF := ⟨6, 2, (.cons (.asg (.var 2) (.lst (.cons (.tup (.cons (.var 0) (.cons (.var 1) .nil))) .nil))) (.cons (.whl (.cmp .gt (.bi .len (.cons (.var 2) .nil)) (.int 0)) q_law_same_w1) (.cons (.ret (.bl true)) .nil)))⟩
def q_law_divided_w2 : QSs := (.cons (.asg (.var 0) (.bin .fdiv (.var 0) (.var 4))) (.cons (.asg (.var 5) (.bin .add (.var 5) (.int 1))) .nil))
def q_law_divided_f3 : QSs := (.cons (.asg (.var 1) (.bin .mul (.var 1) (.var 4))) .nil)
def q_law_divided_w1 : QSs := (.cons (.asg (.var 5) (.int 0)) (.cons (.whl (.cmp .eq (.bin .mod (.bi .int (.cons (.var 0) .nil)) (.var 4)) (.int 0)) q_law_divided_w2) (.cons (.ite (.cmp .gt (.var 5) (.int 0)) (.cons (.expr (.mt .append (.var 3) (.cons (.var 4) .nil))) .nil) .nil) (.cons (.for (.var 6) (.rng1 (.bin .fdiv (.var 5) (.int 2))) q_law_divided_f3) (.cons (.ite (.cmp .eq (.bin .mod (.bi .int (.cons (.var 5) .nil)) (.int 2)) (.int 1)) (.cons (.asg (.var 2) (.bin .mul (.var 2) (.var 4))) .nil) .nil) (.cons (.asg (.var 4) (.ite (.cmp .eq (.var 4) (.int 2)) (.bin .add (.var 4) (.int 1)) (.bin .add (.var 4) (.int 2)))) .nil))))))
def q_law_divided : QF := ⟨7, 1, (.cons (.asg (.tup (.cons (.var 1) (.cons (.var 2) .nil))) (.tup (.cons (.int 1) (.cons (.int 1) .nil)))) (.cons (.asg (.var 3) (.lst .nil)) (.cons (.asg (.var 4) (.int 2)) (.cons (.whl (.cmp .le (.bin .mul (.var 4) (.var 4)) (.var 0)) q_law_divided_w1) (.cons (.ite (.cmp .gt (.var 0) (.int 1)) (.cons (.expr (.mt .append (.var 3) (.cons (.var 0) .nil))) (.cons (.asg (.var 2) (.bin .mul (.var 2) (.var 0))) .nil)) .nil) (.cons (.ret (.tup (.cons (.var 1) (.cons (.var 2) (.cons (.bi .tuple (.cons (.var 3) .nil)) .nil))))) .nil))))))⟩
def q_law_made_v1_f2 : QSs := (.cons (.ite (.cmp .le (.bin .mul (.var 3) (.var 9)) (.int 1000000000)) (.cons (.asg (.var 3) (.bin .mul (.var 3) (.var 9))) (.cons (.asg (.sub (.var 6) (.var 9)) (.bin .add (.get2 (.var 6) (.var 9) (.int 0)) (.int 1))) .nil)) .nil) .nil)
def q_law_made_v1_f1 : QSs := (.cons (.asg (.var 9) (.ite (.or (.cmp .eq (.var 7) (.int 0)) (.cmp .eq (.call 41 (.cons (.var 0) (.cons (.int 6) .nil))) (.int 0))) (.ix (.var 2) (.call 41 (.cons (.var 0) (.cons (.int 9) .nil)))) (.ix (.var 1) (.call 41 (.cons (.var 0) (.cons (.int 12) .nil)))))) (.cons (.asg (.var 10) (.bin .add (.int 1) (.call 41 (.cons (.var 0) (.cons (.gc (.ix (.lst (.cons (.int 1) (.cons (.int 4) (.cons (.int 2) (.cons (.int 6) .nil))))) (.var 7))) .nil))))) (.cons (.ite (.cmp .notin (.var 9) (.var 6)) (.cons (.for (.var 11) (.rng1 (.var 10)) q_law_made_v1_f2) .nil) .nil) .nil)))
def q_law_made_v1_f4 : QSs := (.cons (.asg (.var 4) (.bin .mul (.var 4) (.var 9))) .nil)
def q_law_made_v1_f3 : QSs := (.cons (.for (.var 11) (.rng1 (.bin .fdiv (.ix (.var 6) (.var 9)) (.int 2))) q_law_made_v1_f4) (.cons (.ite (.cmp .eq (.bin .mod (.bi .int (.cons (.ix (.var 6) (.var 9)) .nil)) (.int 2)) (.int 1)) (.cons (.asg (.var 5) (.bin .mul (.var 5) (.var 9))) .nil) .nil) .nil))
def q_law_made_v1 : QF := ⟨12, 1, (.cons (.asg (.var 1) (.lst (.cons (.int 2) (.cons (.int 3) (.cons (.int 5) (.cons (.int 7) (.cons (.int 11) (.cons (.int 13) (.cons (.int 17) (.cons (.int 19) (.cons (.int 23) (.cons (.int 29) (.cons (.int 31) (.cons (.int 37) .nil)))))))))))))) (.cons (.asg (.var 2) (.lst (.cons (.int 97) (.cons (.int 101) (.cons (.int 499) (.cons (.int 1009) (.cons (.int 9973) (.cons (.int 10007) (.cons (.int 31607) (.cons (.int 99991) (.cons (.int 999983) .nil))))))))))) (.cons (.asg (.tup (.cons (.var 3) (.cons (.var 4) (.cons (.var 5) .nil)))) (.tup (.cons (.int 1) (.cons (.int 1) (.cons (.int 1) .nil))))) (.cons (.asg (.var 6) .dnew) (.cons (.asg (.var 7) (.call 41 (.cons (.var 0) (.cons (.int 4) .nil)))) (.cons (.for (.var 8) (.rng1 (.bin .add (.int 1) (.call 41 (.cons (.var 0) (.cons (.int 5) .nil))))) q_law_made_v1_f1) (.cons (.ford .keys (.var 9) 6 q_law_made_v1_f3) (.cons (.ret (.tup (.cons (.var 3) (.cons (.var 4) (.cons (.var 5) (.cons (.gc (.bi .tuple (.cons (.bi .sorted (.cons (.var 6) .nil)) .nil))) .nil)))))) .nil))))))))⟩
def q_law_told : QF := ⟨5, 2, (.cons (.asg (.tup (.cons (.var 2) (.cons (.var 3) (.cons (.var 4) .nil)))) (.var 1)) (.cons (.ite (.not (.call 5 (.cons (.tup (.cons (.call 13 (.cons (.var 0) .nil)) (.cons (.call 39 (.cons (.var 0) .nil)) .nil))) (.cons (.tup (.cons (.tup (.cons (.var 2) (.cons (.var 3) .nil))) (.cons (.var 4) .nil))) .nil)))) (.cons (.ret (.bl false)) .nil) .nil) (.cons (.ret (.and (.call 5 (.cons (.call 38 (.cons (.var 0) .nil)) (.cons (.cmp .eq (.var 2) (.int 1)) .nil))) (.call 5 (.cons (.call 38 (.cons (.var 3) .nil)) (.cons (.bl true) .nil))))) .nil)))⟩
def q_law_v2_f1 : QSs := (.cons (.asg (.tup (.cons (.var 3) (.cons (.var 4) (.cons (.var 5) (.cons (.var 6) .nil))))) (.call 43 (.cons (.var 1) .nil))) (.cons (.ite (.not (.call 44 (.cons (.var 3) (.cons (.tup (.cons (.var 4) (.cons (.var 5) (.cons (.var 6) .nil)))) .nil)))) (.cons (.ret (.bl false)) .nil) .nil) (.cons (.asg (.var 7) (.bin .add (.int 2) (.call 41 (.cons (.var 1) (.cons (.int 40) .nil))))) (.cons (.ite (.cmp .le (.bin .mul (.bin .mul (.var 3) (.var 7)) (.var 7)) (.int 1000000000)) (.cons (.asg (.var 8) (.ix (.call 42 (.cons (.var 7) .nil)) (.int 2))) (.cons (.ite (.not (.call 44 (.cons (.bin .mul (.bin .mul (.var 3) (.var 7)) (.var 7)) (.cons (.tup (.cons (.bin .mul (.var 4) (.var 7)) (.cons (.var 5) (.cons (.gc (.bi .tuple (.cons (.sset (.bin .add (.var 6) (.var 8))) .nil))) .nil)))) .nil)))) (.cons (.ret (.bl false)) .nil) .nil) .nil)) .nil) .nil))))
def q_law_v2_f2 : QSs := (.cons (.ite (.not (.call 44 (.cons (.var 3) (.cons (.call 42 (.cons (.var 3) .nil)) .nil)))) (.cons (.ret (.bl false)) .nil) .nil) .nil)
def q_law_v2 : QF := ⟨13, 1, (.cons (.asg (.var 1) (.call 40 (.cons (.var 0) .nil))) (.cons (.ite (.not (.call 5 (.cons (.tup (.cons (.callK 13 .nil (.cons (.int 72) .nil) [0]) (.cons (.callK 38 .nil (.cons (.int 30) .nil) [0]) (.cons (.callK 39 .nil (.cons (.int 360) .nil) [0]) (.cons (.call 13 (.cons (.int 1) .nil)) (.cons (.call 39 (.cons (.int 1) .nil)) (.cons (.call 38 (.cons (.int 1) .nil)) .nil))))))) (.cons (.tup (.cons (.tup (.cons (.int 6) (.cons (.int 2) .nil))) (.cons (.bl true) (.cons (.tup (.cons (.int 2) (.cons (.int 3) (.cons (.int 5) .nil)))) (.cons (.tup (.cons (.int 1) (.cons (.int 1) .nil))) (.cons (.tup .nil) (.cons (.bl true) .nil))))))) .nil)))) (.cons (.ret (.bl false)) .nil) .nil) (.cons (.for (.var 2) (.rng1 (.int 3)) q_law_v2_f1) (.cons (.par 9 10 (.gc (.ix (.lst (.cons (.int 9973) (.cons (.int 31607) (.cons (.int 31601) (.cons (.int 10007) .nil))))) (.call 41 (.cons (.var 1) (.cons (.int 4) .nil))))) (.gc (.ix (.lst (.cons (.int 31607) (.cons (.int 9967) (.cons (.int 31583) (.cons (.int 2) .nil))))) (.call 41 (.cons (.var 1) (.cons (.int 4) .nil)))))) (.cons (.asg (.var 11) (.ite (.cmp .eq (.var 9) (.var 10)) (.tup (.cons (.var 9) (.cons (.int 1) (.cons (.tup (.cons (.var 9) .nil)) .nil)))) (.tup (.cons (.int 1) (.cons (.bin .mul (.var 9) (.var 10)) (.cons (.gc (.bi .tuple (.cons (.gc (.bi .sorted (.cons (.lst (.cons (.var 9) (.cons (.var 10) .nil))) .nil))) .nil))) .nil)))))) (.cons (.ite (.not (.call 44 (.cons (.bin .mul (.var 9) (.var 10)) (.cons (.var 11) .nil)))) (.cons (.ret (.bl false)) .nil) .nil) (.cons (.for (.var 3) (.tup (.tup (.cons (.bin .add (.int 1) (.call 41 (.cons (.var 1) (.cons (.int 60) .nil)))) (.cons (.bin .add (.int 1) (.call 41 (.cons (.var 1) (.cons (.int 20000) .nil)))) .nil)))) q_law_v2_f2) (.cons (.asg (.var 12) (.bin .add (.int 1) (.call 41 (.cons (.var 1) (.cons (.int 30000) .nil))))) (.cons (.ite (.not (.call 44 (.cons (.bin .mul (.var 12) (.var 12)) (.cons (.tup (.cons (.var 12) (.cons (.int 1) (.cons (.ix (.call 42 (.cons (.var 12) .nil)) (.int 2)) .nil)))) .nil)))) (.cons (.ret (.bl false)) .nil) .nil) (.cons (.ite (.cmp .ne (.call 41 (.cons (.var 1) (.cons (.int 7) .nil))) (.int 2)) (.cons (.ret (.bl true)) .nil) .nil) (.cons (.asg (.var 3) (.bin .add (.int 900000000) (.call 41 (.cons (.var 1) (.cons (.int 100000001) .nil))))) (.cons (.ret (.call 44 (.cons (.var 3) (.cons (.call 42 (.cons (.var 3) .nil)) .nil)))) .nil))))))))))))⟩
def top (i : Nat) : Stmt := PySem.Challenge.pw_surdways_k02_kernels.main.body.getD i (.Pass ⟨0, 0, 0, 0⟩)
def dq_whole_root : DD := ⟨0, "whole_root", top 1, q_whole_root, ["n", "told", "fresh"], ["n"], []⟩
def dq_kernel_of : DD := ⟨13, "kernel_of", top 3, q_kernel_of, ["n", "factor", "kernel", "prime", "times", "_", "root"], ["n"], [(0, ["n"], [0])]⟩
def dq_is_squarefree : DD := ⟨38, "is_squarefree", top 4, q_is_squarefree, ["n"], ["n"], [(0, ["n"], [0])]⟩
def dq_primes_in : DD := ⟨39, "primes_in", top 5, q_primes_in, ["n", "told", "prime"], ["n"], [(0, ["n"], [0])]⟩
def dq_law_dice_v1 : DD := ⟨40, "_law_dice", top 7, q_law_dice_v1, ["script", "mixed", "pool", "at", "given", "cell", "great", "lap"], ["script"], []⟩
def dq_law_draw_v1 : DD := ⟨41, "_law_draw", top 8, q_law_draw_v1, ["dice", "many", "at"], ["dice", "many"], []⟩
def dq_law_same : DD := ⟨5, "_law_same", top 9, q_law_same, ["told", "due", "waiting", "one", "other", "at"], ["told", "due"], []⟩
def dq_law_divided : DD := ⟨42, "_law_divided", top 10, q_law_divided, ["n", "factor", "kernel", "primes", "prime", "many", "lap"], ["n"], []⟩
def dq_law_made_v1 : DD := ⟨43, "_law_made", top 11, q_law_made_v1, ["dice", "small", "great", "number", "factor", "kernel", "told", "habit", "lap", "prime", "many", "turn"], ["dice"], []⟩
def dq_law_told : DD := ⟨44, "_law_told", top 12, q_law_told, ["number", "due", "factor", "kernel", "primes"], ["number", "due"], []⟩
def dq_law_v2 : DD := ⟨45, "law", top 13, q_law_v2, ["script", "dice", "lap", "number", "factor", "kernel", "primes", "root", "more", "one", "other", "due", "square"], ["script"], []⟩
def ds : List DD := [dq_whole_root, dq_kernel_of, dq_is_squarefree, dq_primes_in, dq_law_dice_v1, dq_law_draw_v1, dq_law_same, dq_law_divided, dq_law_made_v1, dq_law_told, dq_law_v2]
def free : List Str := ["range", "tuple", "enumerate", "int", "len", "isinstance", "bool", "str", "list", "sorted", "set"]
theorem bdq_whole_root : dq_whole_root.Bd := fun _ _ _ _ _ _ us hl => match us, hl with | [_], _ => rfl
theorem kwq_whole_root : dq_whole_root.Kw := fun z hz => nomatch hz
theorem bdq_kernel_of : dq_kernel_of.Bd := fun _ _ _ _ _ _ us hl => match us, hl with | [_], _ => rfl
theorem kwq_kernel_of : dq_kernel_of.Kw := by
  intro z hz
  have hz : z ∈ ([(0, ["n"], [0])] : List (Nat × List Str × List Nat)) := hz
  simp only [List.mem_cons, List.not_mem_nil, or_false] at hz
  rcases hz with rfl
  · intro dV kV doc pm an cdv ct hd us ws h1 h2; subst hd; exact match us, ws, h1, h2 with | [], [_], _, _ => ⟨_, rfl, rfl⟩
theorem bdq_is_squarefree : dq_is_squarefree.Bd := fun _ _ _ _ _ _ us hl => match us, hl with | [_], _ => rfl
theorem kwq_is_squarefree : dq_is_squarefree.Kw := by
  intro z hz
  have hz : z ∈ ([(0, ["n"], [0])] : List (Nat × List Str × List Nat)) := hz
  simp only [List.mem_cons, List.not_mem_nil, or_false] at hz
  rcases hz with rfl
  · intro dV kV doc pm an cdv ct hd us ws h1 h2; subst hd; exact match us, ws, h1, h2 with | [], [_], _, _ => ⟨_, rfl, rfl⟩
theorem bdq_primes_in : dq_primes_in.Bd := fun _ _ _ _ _ _ us hl => match us, hl with | [_], _ => rfl
theorem kwq_primes_in : dq_primes_in.Kw := by
  intro z hz
  have hz : z ∈ ([(0, ["n"], [0])] : List (Nat × List Str × List Nat)) := hz
  simp only [List.mem_cons, List.not_mem_nil, or_false] at hz
  rcases hz with rfl
  · intro dV kV doc pm an cdv ct hd us ws h1 h2; subst hd; exact match us, ws, h1, h2 with | [], [_], _, _ => ⟨_, rfl, rfl⟩
theorem bdq_law_dice_v1 : dq_law_dice_v1.Bd := fun _ _ _ _ _ _ us hl => match us, hl with | [_], _ => rfl
theorem kwq_law_dice_v1 : dq_law_dice_v1.Kw := fun z hz => nomatch hz
theorem bdq_law_draw_v1 : dq_law_draw_v1.Bd := fun _ _ _ _ _ _ us hl => match us, hl with | [_, _], _ => rfl
theorem kwq_law_draw_v1 : dq_law_draw_v1.Kw := fun z hz => nomatch hz
theorem bdq_law_same : dq_law_same.Bd := fun _ _ _ _ _ _ us hl => match us, hl with | [_, _], _ => rfl
theorem kwq_law_same : dq_law_same.Kw := fun z hz => nomatch hz
theorem bdq_law_divided : dq_law_divided.Bd := fun _ _ _ _ _ _ us hl => match us, hl with | [_], _ => rfl
theorem kwq_law_divided : dq_law_divided.Kw := fun z hz => nomatch hz
theorem bdq_law_made_v1 : dq_law_made_v1.Bd := fun _ _ _ _ _ _ us hl => match us, hl with | [_], _ => rfl
theorem kwq_law_made_v1 : dq_law_made_v1.Kw := fun z hz => nomatch hz
theorem bdq_law_told : dq_law_told.Bd := fun _ _ _ _ _ _ us hl => match us, hl with | [_, _], _ => rfl
theorem kwq_law_told : dq_law_told.Kw := fun z hz => nomatch hz
theorem bdq_law_v2 : dq_law_v2.Bd := fun _ _ _ _ _ _ us hl => match us, hl with | [_], _ => rfl
theorem kwq_law_v2 : dq_law_v2.Kw := fun z hz => nomatch hz
theorem all_bd : ∀ d ∈ ds, d.Bd ∧ d.Kw := by
  intro d hd
  have hd : d ∈ ([dq_whole_root, dq_kernel_of, dq_is_squarefree, dq_primes_in, dq_law_dice_v1, dq_law_draw_v1, dq_law_same, dq_law_divided, dq_law_made_v1, dq_law_told, dq_law_v2] : List DD) := hd
  simp only [List.mem_cons, List.not_mem_nil, or_false] at hd
  rcases hd with rfl | rfl | rfl | rfl | rfl | rfl | rfl | rfl | rfl | rfl | rfl
  · exact ⟨bdq_whole_root, kwq_whole_root⟩
  · exact ⟨bdq_kernel_of, kwq_kernel_of⟩
  · exact ⟨bdq_is_squarefree, kwq_is_squarefree⟩
  · exact ⟨bdq_primes_in, kwq_primes_in⟩
  · exact ⟨bdq_law_dice_v1, kwq_law_dice_v1⟩
  · exact ⟨bdq_law_draw_v1, kwq_law_draw_v1⟩
  · exact ⟨bdq_law_same, kwq_law_same⟩
  · exact ⟨bdq_law_divided, kwq_law_divided⟩
  · exact ⟨bdq_law_made_v1, kwq_law_made_v1⟩
  · exact ⟨bdq_law_told, kwq_law_told⟩
  · exact ⟨bdq_law_v2, kwq_law_v2⟩
theorem all_ok : ds.all (DD.okB (pgOf ds free)) = true := by decide +kernel
end Q

namespace Q
open PySem PySem.Spec PyProof.Rows L2
/-! whole_root: the whole root -/
def IsRoot (x r : Int) : Prop := 0 ≤ r ∧ r * r ≤ x ∧ x < (r + 1) * (r + 1)
theorem IsRoot.uniq {x r s : Int} (a : IsRoot x r) (b : IsRoot x s) : r = s := root_uniq a.1 b.1 a.2.1 a.2.2 b.2.1 b.2.2
theorem IsRoot.small {x r : Int} {k : Nat} (a : IsRoot x r) (h : x.natAbs < 2 ^ (k + k)) : r.natAbs < 2 ^ k := by
  apply nat_sq_lt
  have h1 : ((r.natAbs * r.natAbs : Nat) : Int) = r * r := by
    rw [Int.natCast_mul]
    have := a.1
    rw [show ((r.natAbs : Nat) : Int) = r by omega]
  have := a.2.1
  omega
theorem whole_root_do {T : Nat → Option QF} (h0 : T 0 = some q_whole_root) {n : Nat} {M : Store} {x : Int} (hx : 0 ≤ x) (hb : x.natAbs < 2 ^ 17000) : Does T (n + 1) 0 [.int x] M fun v M' => M' = M ∧ ∃ r : Int, v = .int r ∧ IsRoot x r := by
  refine does_of h0 rfl rfl ?_
  simp only [ss_nil, ss_cons, s_asgv, s_asgt, s_para, s_auga, s_exp, s_retE, s_retNon, s_if, s_while, s_fo, s_break, s_conti, s_ps, e_var, varK, e_int, e_bl, e_non, e_str, e_ty, e_bin, e_neg, e_cmp, e_chain, e_isN, e_notN, e_and, e_or, e_not, e_ite, e_call, e_callK, prm_some, e_bi, e_tup, e_lst, lstK, tupK, e_ix, e_sl, eo_none, eo_some, in_int, e_mt, e_bits, bt_int, ng_int, e_comp, e_gc, es_nil, es_cons, tg_var, tg_tup, tg_sub, tgs_nil, tgs_cons, it_list, it_tup, it_rng1, it_rng2, it_enum, src_tup, src_fro, src_rng, src_enum, op_add, op_sub, op_mul, op_fdiv, op_mod, op_pow, op_shl, op_shr, op_addt, cm_lt, cm_le, cm_gt, cm_ge, cm_eq, cm_ne, cm_eq_bl, cm_ne_bl, cm_eq_str, cm_ne_str, tr_bl, tr_int, tr_non, ch_bl, cond_dec, cond_not, cond_t, cond_f, cond_ne, au_add, au_sub, b_len_tup, b_int, b_int_bl, b_abs, b_max, b_min, at_some, x_tup, isi_non_int, isi_non_bool, isi_non_str, isi_non_tuple, isi_non_list, isi_non_dict, isi_bl_int, isi_bl_bool, isi_bl_str, isi_bl_tuple, isi_bl_list, isi_bl_dict, isi_int_int, isi_int_bool, isi_int_str, isi_int_tuple, isi_int_list, isi_int_dict, isi_str_int, isi_str_bool, isi_str_str, isi_str_tuple, isi_str_list, isi_str_dict, isi_tup_int, isi_tup_bool, isi_tup_str, isi_tup_tuple, isi_tup_list, isi_tup_dict, isi_fro_int, isi_fro_bool, isi_fro_str, isi_fro_tuple, isi_fro_list, isi_fro_dict, PV.isNon, eq_self, decide_true, Bool.not_true, Bool.not_false, sl_fro, gc_pure, cl_lst, cl_dK, cx_ref, cx_str, cop_add, cb_len, cl_q, cm_append, cm_pop, pop_snoc, cm_extend, csrc, ctg, ixs, gc_ref, gc_ref0, e_dnew, e_get1, e_get2, cl_d, gd_ref, gd_str, cm_isin, cm_notin, intsK, e_sset, ssetK, b_sorted, m_insert, cb_sum, b_tuple_ref, b_tuple_tup, b_list_tup, b_list_ref, sl_tup, sl_ref, tr_tup, sizeLine_eq, Nat.reduceLeDiff, Int.reduceLT, Int.reduceLE, true_and, and_true, st_new0, st_newk, st_set0, st_setk, List.getElem?_cons_zero, List.getElem?_cons_succ, List.append_assoc, List.cons_append, List.nil_append, List.append_nil, List.length_append, List.length_cons, List.length_nil, Nat.zero_add, Nat.reduceAdd, List.set_cons_zero, List.set_cons_succ, stV, getV0, getVs, setV0, setVs, q_whole_root]
  refine ⟨fun h => ⟨x, rfl, hx, ?_, ?_⟩, fun h => ⟨pylong_small (by decide +kernel), ⟨by omega, ?_⟩, ?_⟩⟩
  · rcases (by omega : x = 0 ∨ x = 1) with e | e <;> subst e <;> decide
  · rcases (by omega : x = 0 ∨ x = 1) with e | e <;> subst e <;> decide
  · have := bits_le hb
    rw [one_bits]
    omega
  · have hbit := bits_le hb
    have hlt := lt_bits x
    generalize hk : (((Builtin.Int.intBits x : Nat) : Int) + 1) / 2 = kk
    have hk2 : Builtin.Int.intBits x ≤ kk.toNat + kk.toNat ∧ kk.toNat ≤ 8501 := by omega
    generalize kk.toNat = k at hk2
    have hp : (0 : Int) < 2 ^ k := pow2_pos k
    have hx2 : x < 2 ^ k * 2 ^ k := by
      have h1 : x.natAbs < 2 ^ (k + k) := lt_p2 hlt hk2.1
      have h2 : (x.natAbs : Int) < ((2 ^ (k + k) : Nat) : Int) := by exact_mod_cast h1
      rw [Int.natCast_pow, Int.pow_add] at h2
      have h3 : (x.natAbs : Int) = x := by omega
      rw [h3] at h2
      exact h2
    have ht : ((1 : Int) * 2 ^ k).natAbs < 2 ^ 8502 := by
      rw [Int.one_mul, natAbs_pow]
      exact p2_lt (a := k) (b := 8502) (by omega)
    refine wh_rule (fun m e B => ∃ (t : Int) (o : Option PV), e = [some (.int x), some (.int t), o] ∧ B = ⟨M⟩ ∧ 0 < t ∧ x < (t + 1) * (t + 1) ∧ t.natAbs < 2 ^ 8502 ∧ m = t.natAbs) _ (big_lt ht (by decide)) ⟨_, _, rfl, rfl, by omega, ?_, ht, rfl⟩ ?_
    · have : (2 : Int) ^ k * 2 ^ k ≤ (1 * 2 ^ k + 1) * (1 * 2 ^ k + 1) := sq_mono (by omega) (by omega)
      omega
    · rintro m e M' ⟨t, o, rfl, eM, ht, hxt, hts, rfl⟩
      cases eM
      have hq : 0 ≤ x / t := Int.ediv_nonneg hx (by omega)
      simp only [ss_nil, ss_cons, s_asgv, s_asgt, s_para, s_auga, s_exp, s_retE, s_retNon, s_if, s_while, s_fo, s_break, s_conti, s_ps, e_var, varK, e_int, e_bl, e_non, e_str, e_ty, e_bin, e_neg, e_cmp, e_chain, e_isN, e_notN, e_and, e_or, e_not, e_ite, e_call, e_callK, prm_some, e_bi, e_tup, e_lst, lstK, tupK, e_ix, e_sl, eo_none, eo_some, in_int, e_mt, e_bits, bt_int, ng_int, e_comp, e_gc, es_nil, es_cons, tg_var, tg_tup, tg_sub, tgs_nil, tgs_cons, it_list, it_tup, it_rng1, it_rng2, it_enum, src_tup, src_fro, src_rng, src_enum, op_add, op_sub, op_mul, op_fdiv, op_mod, op_pow, op_shl, op_shr, op_addt, cm_lt, cm_le, cm_gt, cm_ge, cm_eq, cm_ne, cm_eq_bl, cm_ne_bl, cm_eq_str, cm_ne_str, tr_bl, tr_int, tr_non, ch_bl, cond_dec, cond_not, cond_t, cond_f, cond_ne, au_add, au_sub, b_len_tup, b_int, b_int_bl, b_abs, b_max, b_min, at_some, x_tup, isi_non_int, isi_non_bool, isi_non_str, isi_non_tuple, isi_non_list, isi_non_dict, isi_bl_int, isi_bl_bool, isi_bl_str, isi_bl_tuple, isi_bl_list, isi_bl_dict, isi_int_int, isi_int_bool, isi_int_str, isi_int_tuple, isi_int_list, isi_int_dict, isi_str_int, isi_str_bool, isi_str_str, isi_str_tuple, isi_str_list, isi_str_dict, isi_tup_int, isi_tup_bool, isi_tup_str, isi_tup_tuple, isi_tup_list, isi_tup_dict, isi_fro_int, isi_fro_bool, isi_fro_str, isi_fro_tuple, isi_fro_list, isi_fro_dict, PV.isNon, eq_self, decide_true, Bool.not_true, Bool.not_false, sl_fro, gc_pure, cl_lst, cl_dK, cx_ref, cx_str, cop_add, cb_len, cl_q, cm_append, cm_pop, pop_snoc, cm_extend, csrc, ctg, ixs, gc_ref, gc_ref0, e_dnew, e_get1, e_get2, cl_d, gd_ref, gd_str, cm_isin, cm_notin, intsK, e_sset, ssetK, b_sorted, m_insert, cb_sum, b_tuple_ref, b_tuple_tup, b_list_tup, b_list_ref, sl_tup, sl_ref, tr_tup, sizeLine_eq, Nat.reduceLeDiff, Int.reduceLT, Int.reduceLE, true_and, and_true, st_new0, st_newk, st_set0, st_setk, List.getElem?_cons_zero, List.getElem?_cons_succ, List.append_assoc, List.cons_append, List.nil_append, List.append_nil, List.length_append, List.length_cons, List.length_nil, Nat.zero_add, Nat.reduceAdd, List.set_cons_zero, List.set_cons_succ, stV, getV0, getVs, setV0, setVs, q_whole_root_w1]
      refine ⟨⟨ht, pylong_small (Nat.lt_trans hts (p2_lt (a := 8502) (b := 9000) (by decide)))⟩, pylong_small (by decide +kernel), fun h => ⟨t, rfl, by omega, le_of_div ht rfl h, hxt⟩, fun h => ⟨_, ?_, _, _, rfl, ?_, newton_ge ht hx rfl, ?_, rfl⟩⟩
      · omega
      · have := newton_ge ht hx (f := (t + x / t) / 2) rfl
        apply Int.not_le.mp
        intro h0
        have h00 : (t + x / t) / 2 = 0 := by omega
        rw [h00] at this
        omega
      · omega
/-! kernel_of -/
theorem ki_bound {n f k m p : Nat} (h : KI n f k m p) : f ≤ n ∧ k ≤ n ∧ m ≤ n := by
  have h1 : 0 < f * f := Nat.mul_pos h.f0 h.f0
  have e := h.eq
  have a1 : f * 1 ≤ f * f := Nat.mul_le_mul_left f h.f0
  have a2 : f * f * 1 ≤ f * f * k := Nat.mul_le_mul_left _ h.k0
  have a3 : f * f * k * 1 ≤ f * f * k * m := Nat.mul_le_mul_left _ h.m0
  have a4 : 1 * k ≤ f * f * k := Nat.mul_le_mul_right _ h1
  have a5 : 1 * m ≤ f * f * k * m := Nat.mul_le_mul_right _ (Nat.mul_pos h1 h.k0)
  omega
theorem abs_nat {m k : Nat} (h : m < 2 ^ k) : (m : Int).natAbs < 2 ^ k := by simpa using h
theorem cmod_zero {m p : Nat} : ((m : Int) % (p : Int) = 0) ↔ p ∣ m := by
  rw [← Int.natCast_emod, Nat.dvd_iff_mod_eq_zero]
  omega
theorem pow_small {p t m : Nat} (hp : 2 ≤ p) (hm : 0 < m) {k : Nat} (h : m * p ^ t < 2 ^ k) : t < k := by
  have h1 : 2 ^ t ≤ p ^ t := Nat.pow_le_pow_left hp t
  have h2 : 1 * p ^ t ≤ m * p ^ t := Nat.mul_le_mul_right _ hm
  exact (Nat.pow_lt_pow_iff_right (a := 2) (by decide)).mp (by omega)
theorem kernel_of_do {T : Nat → Option QF} (h0 : T 0 = some q_whole_root) (h1 : T 13 = some q_kernel_of) {n : Nat} {M : Store} {x : Nat} (hx : 0 < x) (hb : x < 2 ^ 60) :
    Does T (n + 2) 13 [.int (x : Nat)] M fun v M' => M' = M ∧ ∃ f k : Nat, v = .tup [.int (f : Nat), .int (k : Nat)] ∧ IsKer x f k := by
  refine does_of h1 rfl rfl ?_
  simp only [ss_nil, ss_cons, s_asgv, s_asgt, s_para, s_auga, s_exp, s_retE, s_retNon, s_if, s_while, s_fo, s_break, s_conti, s_ps, e_var, varK, e_int, e_bl, e_non, e_str, e_ty, e_bin, e_neg, e_cmp, e_chain, e_isN, e_notN, e_and, e_or, e_not, e_ite, e_call, e_callK, prm_some, e_bi, e_tup, e_lst, lstK, tupK, e_ix, e_sl, eo_none, eo_some, in_int, e_mt, e_bits, bt_int, ng_int, e_comp, e_gc, es_nil, es_cons, tg_var, tg_tup, tg_sub, tgs_nil, tgs_cons, it_list, it_tup, it_rng1, it_rng2, it_enum, src_tup, src_fro, src_rng, src_enum, op_add, op_sub, op_mul, op_fdiv, op_mod, op_pow, op_shl, op_shr, op_addt, cm_lt, cm_le, cm_gt, cm_ge, cm_eq, cm_ne, cm_eq_bl, cm_ne_bl, cm_eq_str, cm_ne_str, tr_bl, tr_int, tr_non, ch_bl, cond_dec, cond_not, cond_t, cond_f, cond_ne, au_add, au_sub, b_len_tup, b_int, b_int_bl, b_abs, b_max, b_min, at_some, x_tup, isi_non_int, isi_non_bool, isi_non_str, isi_non_tuple, isi_non_list, isi_non_dict, isi_bl_int, isi_bl_bool, isi_bl_str, isi_bl_tuple, isi_bl_list, isi_bl_dict, isi_int_int, isi_int_bool, isi_int_str, isi_int_tuple, isi_int_list, isi_int_dict, isi_str_int, isi_str_bool, isi_str_str, isi_str_tuple, isi_str_list, isi_str_dict, isi_tup_int, isi_tup_bool, isi_tup_str, isi_tup_tuple, isi_tup_list, isi_tup_dict, isi_fro_int, isi_fro_bool, isi_fro_str, isi_fro_tuple, isi_fro_list, isi_fro_dict, PV.isNon, eq_self, decide_true, Bool.not_true, Bool.not_false, sl_fro, gc_pure, cl_lst, cl_dK, cx_ref, cx_str, cop_add, cb_len, cl_q, cm_append, cm_pop, pop_snoc, cm_extend, csrc, ctg, ixs, gc_ref, gc_ref0, e_dnew, e_get1, e_get2, cl_d, gd_ref, gd_str, cm_isin, cm_notin, intsK, e_sset, ssetK, b_sorted, m_insert, cb_sum, b_tuple_ref, b_tuple_tup, b_list_tup, b_list_ref, sl_tup, sl_ref, tr_tup, sizeLine_eq, Nat.reduceLeDiff, Int.reduceLT, Int.reduceLE, true_and, and_true, st_new0, st_newk, st_set0, st_setk, List.getElem?_cons_zero, List.getElem?_cons_succ, List.append_assoc, List.cons_append, List.nil_append, List.append_nil, List.length_append, List.length_cons, List.length_nil, Nat.zero_add, Nat.reduceAdd, List.set_cons_zero, List.set_cons_succ, stV, getV0, getVs, setV0, setVs, q_kernel_of]
  refine wh_rule (fun w e B => ∃ (f k m p : Nat) (o1 o2 o3 : Option PV), e = [some (.int (m : Nat)), some (.int (f : Nat)), some (.int (k : Nat)), some (.int (p : Nat)), o1, o2, o3] ∧ B = ⟨M⟩ ∧ KI x f k m p ∧ 2 ≤ p ∧ (p = 2 ∨ p % 2 = 1) ∧ p ≤ x + 2 ∧ w = x + 3 - p) (x + 1) (big_lt (k := 61) (by omega) (by decide)) ⟨1, 1, x, 2, _, _, _, rfl, rfl, ki_start hx, by omega, by omega, by omega, by omega⟩ ?_
  rintro w e M' ⟨f, k, m, p, o1, o2, o3, rfl, eM, hk, hp, ho, hpx, rfl⟩
  cases eM
  have hbd := ki_bound hk
  have ps : (p : Int).natAbs < 2 ^ 61 := abs_nat (by omega)
  have pps : ((p : Int) * (p : Int)).natAbs < 2 ^ 122 := abs_mul ps ps
  simp only [ss_nil, ss_cons, s_asgv, s_asgt, s_para, s_auga, s_exp, s_retE, s_retNon, s_if, s_while, s_fo, s_break, s_conti, s_ps, e_var, varK, e_int, e_bl, e_non, e_str, e_ty, e_bin, e_neg, e_cmp, e_chain, e_isN, e_notN, e_and, e_or, e_not, e_ite, e_call, e_callK, prm_some, e_bi, e_tup, e_lst, lstK, tupK, e_ix, e_sl, eo_none, eo_some, in_int, e_mt, e_bits, bt_int, ng_int, e_comp, e_gc, es_nil, es_cons, tg_var, tg_tup, tg_sub, tgs_nil, tgs_cons, it_list, it_tup, it_rng1, it_rng2, it_enum, src_tup, src_fro, src_rng, src_enum, op_add, op_sub, op_mul, op_fdiv, op_mod, op_pow, op_shl, op_shr, op_addt, cm_lt, cm_le, cm_gt, cm_ge, cm_eq, cm_ne, cm_eq_bl, cm_ne_bl, cm_eq_str, cm_ne_str, tr_bl, tr_int, tr_non, ch_bl, cond_dec, cond_not, cond_t, cond_f, cond_ne, au_add, au_sub, b_len_tup, b_int, b_int_bl, b_abs, b_max, b_min, at_some, x_tup, isi_non_int, isi_non_bool, isi_non_str, isi_non_tuple, isi_non_list, isi_non_dict, isi_bl_int, isi_bl_bool, isi_bl_str, isi_bl_tuple, isi_bl_list, isi_bl_dict, isi_int_int, isi_int_bool, isi_int_str, isi_int_tuple, isi_int_list, isi_int_dict, isi_str_int, isi_str_bool, isi_str_str, isi_str_tuple, isi_str_list, isi_str_dict, isi_tup_int, isi_tup_bool, isi_tup_str, isi_tup_tuple, isi_tup_list, isi_tup_dict, isi_fro_int, isi_fro_bool, isi_fro_str, isi_fro_tuple, isi_fro_list, isi_fro_dict, PV.isNon, eq_self, decide_true, Bool.not_true, Bool.not_false, sl_fro, gc_pure, cl_lst, cl_dK, cx_ref, cx_str, cop_add, cb_len, cl_q, cm_append, cm_pop, pop_snoc, cm_extend, csrc, ctg, ixs, gc_ref, gc_ref0, e_dnew, e_get1, e_get2, cl_d, gd_ref, gd_str, cm_isin, cm_notin, intsK, e_sset, ssetK, b_sorted, m_insert, cb_sum, b_tuple_ref, b_tuple_tup, b_list_tup, b_list_ref, sl_tup, sl_ref, tr_tup, sizeLine_eq, Nat.reduceLeDiff, Int.reduceLT, Int.reduceLE, true_and, and_true, st_new0, st_newk, st_set0, st_setk, List.getElem?_cons_zero, List.getElem?_cons_succ, List.append_assoc, List.cons_append, List.nil_append, List.append_nil, List.length_append, List.length_cons, List.length_nil, Nat.zero_add, Nat.reduceAdd, List.set_cons_zero, List.set_cons_succ, stV, getV0, getVs, setV0, setVs, q_kernel_of_w1]
  refine ⟨cmul ps ps (by decide), cmul pps ps (by decide), fun hle => ?_, fun hgt => ?_⟩
  · have hle2 : p * p * p ≤ m := by
      have : ((p * p * p : Nat) : Int) ≤ (m : Int) := by rw [Int.natCast_mul, Int.natCast_mul]; exact hle
      omega
    have hpm : p < m := by
      have h1 : p * 2 * 2 ≤ p * p * p := Nat.mul_le_mul (Nat.mul_le_mul_left p hp) hp
      omega
    refine wh_rule (fun w e B => ∃ (m1 t : Nat) (o2 o3 : Option PV), e = [some (.int (m1 : Nat)), some (.int (f : Nat)), some (.int (k : Nat)), some (.int (p : Nat)), some (.int (t : Nat)), o2, o3] ∧ B = ⟨M⟩ ∧ m = m1 * p ^ t ∧ 0 < m1 ∧ w = m1) m (big_lt (k := 60) (by omega) (by decide)) ⟨m, 0, _, _, rfl, rfl, by simp, hk.m0, rfl⟩ ?_
    rintro w e M' ⟨m1, t, o2, o3, rfl, eM, hm, hm0, rfl⟩
    cases eM
    simp only [ss_nil, ss_cons, s_asgv, s_asgt, s_para, s_auga, s_exp, s_retE, s_retNon, s_if, s_while, s_fo, s_break, s_conti, s_ps, e_var, varK, e_int, e_bl, e_non, e_str, e_ty, e_bin, e_neg, e_cmp, e_chain, e_isN, e_notN, e_and, e_or, e_not, e_ite, e_call, e_callK, prm_some, e_bi, e_tup, e_lst, lstK, tupK, e_ix, e_sl, eo_none, eo_some, in_int, e_mt, e_bits, bt_int, ng_int, e_comp, e_gc, es_nil, es_cons, tg_var, tg_tup, tg_sub, tgs_nil, tgs_cons, it_list, it_tup, it_rng1, it_rng2, it_enum, src_tup, src_fro, src_rng, src_enum, op_add, op_sub, op_mul, op_fdiv, op_mod, op_pow, op_shl, op_shr, op_addt, cm_lt, cm_le, cm_gt, cm_ge, cm_eq, cm_ne, cm_eq_bl, cm_ne_bl, cm_eq_str, cm_ne_str, tr_bl, tr_int, tr_non, ch_bl, cond_dec, cond_not, cond_t, cond_f, cond_ne, au_add, au_sub, b_len_tup, b_int, b_int_bl, b_abs, b_max, b_min, at_some, x_tup, isi_non_int, isi_non_bool, isi_non_str, isi_non_tuple, isi_non_list, isi_non_dict, isi_bl_int, isi_bl_bool, isi_bl_str, isi_bl_tuple, isi_bl_list, isi_bl_dict, isi_int_int, isi_int_bool, isi_int_str, isi_int_tuple, isi_int_list, isi_int_dict, isi_str_int, isi_str_bool, isi_str_str, isi_str_tuple, isi_str_list, isi_str_dict, isi_tup_int, isi_tup_bool, isi_tup_str, isi_tup_tuple, isi_tup_list, isi_tup_dict, isi_fro_int, isi_fro_bool, isi_fro_str, isi_fro_tuple, isi_fro_list, isi_fro_dict, PV.isNon, eq_self, decide_true, Bool.not_true, Bool.not_false, sl_fro, gc_pure, cl_lst, cl_dK, cx_ref, cx_str, cop_add, cb_len, cl_q, cm_append, cm_pop, pop_snoc, cm_extend, csrc, ctg, ixs, gc_ref, gc_ref0, e_dnew, e_get1, e_get2, cl_d, gd_ref, gd_str, cm_isin, cm_notin, intsK, e_sset, ssetK, b_sorted, m_insert, cb_sum, b_tuple_ref, b_tuple_tup, b_list_tup, b_list_ref, sl_tup, sl_ref, tr_tup, sizeLine_eq, Nat.reduceLeDiff, Int.reduceLT, Int.reduceLE, true_and, and_true, st_new0, st_newk, st_set0, st_setk, List.getElem?_cons_zero, List.getElem?_cons_succ, List.append_assoc, List.cons_append, List.nil_append, List.append_nil, List.length_append, List.length_cons, List.length_nil, Nat.zero_add, Nat.reduceAdd, List.set_cons_zero, List.set_cons_succ, stV, getV0, getVs, setV0, setVs, q_kernel_of_w2]
    refine ⟨by omega, fun hd => ⟨⟨by omega, pylong_small (Nat.lt_trans ps (p2_lt (a := 61) (b := 9000) (by decide)))⟩, ?_⟩, fun hd => ?_⟩
    · rw [cmod_zero] at hd
      obtain ⟨c, hc⟩ := hd
      have hq : w / p = c := by rw [hc]; exact Nat.mul_div_cancel_left c (by omega)
      have hc0 : 0 < c := Nat.pos_of_ne_zero fun e => by subst e; simp at hc; omega
      have h2 : 2 * c ≤ p * c := Nat.mul_le_mul_right c hp
      refine ⟨w / p, by omega, w / p, t + 1, _, _, rfl, ?_, by omega, rfl⟩
      rw [hq, hm, hc, Nat.pow_succ]
      ac_rfl
    · rw [cmod_zero] at hd
      have ht : t < 60 := pow_small hp hm0 (by rw [← hm]; omega)
      refine ⟨pylong_small (by decide +kernel), ⟨by omega, by omega⟩, ?_⟩
      have fp : ∀ i, i ≤ t / 2 → f * p ^ i ≤ x := fun i hi => by
        have a1 : p ^ i ≤ p ^ t := Nat.pow_le_pow_right (by omega) (by omega)
        have a2 : 1 * p ^ t ≤ w * p ^ t := Nat.mul_le_mul_right _ hm0
        have a3 : f * p ^ i ≤ f * m := Nat.mul_le_mul_left f (by omega)
        have b1 : f * 1 ≤ f * f := Nat.mul_le_mul_left f hk.f0
        have b2 : f * f * 1 ≤ f * f * k := Nat.mul_le_mul_left _ hk.k0
        have a4 : f * m ≤ f * f * k * m := Nat.mul_le_mul_right m (by omega)
        have := hk.eq
        omega
      refine fo_rule (fun i e B => ∃ (o2 : Option PV), e = [some (.int (w : Nat)), some (.int ((f * p ^ i : Nat) : Int)), some (.int (k : Nat)), some (.int (p : Nat)), some (.int (t : Nat)), o2, o3] ∧ B = ⟨M⟩) ⟨o2, by simp, rfl⟩ (fun _ _ _ _ _ => rfl) ?_ ?_
      · rintro i z e M' hz ⟨o2, rfl, eM⟩
        cases eM
        obtain ⟨rfl, hi⟩ := rng_get hz
        simp only [ss_nil, ss_cons, s_asgv, s_asgt, s_para, s_auga, s_exp, s_retE, s_retNon, s_if, s_while, s_fo, s_break, s_conti, s_ps, e_var, varK, e_int, e_bl, e_non, e_str, e_ty, e_bin, e_neg, e_cmp, e_chain, e_isN, e_notN, e_and, e_or, e_not, e_ite, e_call, e_callK, prm_some, e_bi, e_tup, e_lst, lstK, tupK, e_ix, e_sl, eo_none, eo_some, in_int, e_mt, e_bits, bt_int, ng_int, e_comp, e_gc, es_nil, es_cons, tg_var, tg_tup, tg_sub, tgs_nil, tgs_cons, it_list, it_tup, it_rng1, it_rng2, it_enum, src_tup, src_fro, src_rng, src_enum, op_add, op_sub, op_mul, op_fdiv, op_mod, op_pow, op_shl, op_shr, op_addt, cm_lt, cm_le, cm_gt, cm_ge, cm_eq, cm_ne, cm_eq_bl, cm_ne_bl, cm_eq_str, cm_ne_str, tr_bl, tr_int, tr_non, ch_bl, cond_dec, cond_not, cond_t, cond_f, cond_ne, au_add, au_sub, b_len_tup, b_int, b_int_bl, b_abs, b_max, b_min, at_some, x_tup, isi_non_int, isi_non_bool, isi_non_str, isi_non_tuple, isi_non_list, isi_non_dict, isi_bl_int, isi_bl_bool, isi_bl_str, isi_bl_tuple, isi_bl_list, isi_bl_dict, isi_int_int, isi_int_bool, isi_int_str, isi_int_tuple, isi_int_list, isi_int_dict, isi_str_int, isi_str_bool, isi_str_str, isi_str_tuple, isi_str_list, isi_str_dict, isi_tup_int, isi_tup_bool, isi_tup_str, isi_tup_tuple, isi_tup_list, isi_tup_dict, isi_fro_int, isi_fro_bool, isi_fro_str, isi_fro_tuple, isi_fro_list, isi_fro_dict, PV.isNon, eq_self, decide_true, Bool.not_true, Bool.not_false, sl_fro, gc_pure, cl_lst, cl_dK, cx_ref, cx_str, cop_add, cb_len, cl_q, cm_append, cm_pop, pop_snoc, cm_extend, csrc, ctg, ixs, gc_ref, gc_ref0, e_dnew, e_get1, e_get2, cl_d, gd_ref, gd_str, cm_isin, cm_notin, intsK, e_sset, ssetK, b_sorted, m_insert, cb_sum, b_tuple_ref, b_tuple_tup, b_list_tup, b_list_ref, sl_tup, sl_ref, tr_tup, sizeLine_eq, Nat.reduceLeDiff, Int.reduceLT, Int.reduceLE, true_and, and_true, st_new0, st_newk, st_set0, st_setk, List.getElem?_cons_zero, List.getElem?_cons_succ, List.append_assoc, List.cons_append, List.nil_append, List.append_nil, List.length_append, List.length_cons, List.length_nil, Nat.zero_add, Nat.reduceAdd, List.set_cons_zero, List.set_cons_succ, stV, getV0, getVs, setV0, setVs, q_kernel_of_f3]
        have := fp i (by omega)
        refine ⟨cmul (abs_nat (k := 60) (by omega)) ps (by decide), some (.int (0 + i)), ?_⟩
        rw [Nat.pow_succ, Int.natCast_mul, Int.natCast_mul, Int.natCast_mul, Int.mul_assoc]
      · rintro e M' ⟨o2, rfl, eM⟩
        cases eM
        have el : (rngItems 0 ((t : Int) / 2 - 0).toNat).length = t / 2 := by rw [rng_len]; omega
        rw [el]
        have st := ki_step hk hp hm hd
        have hbs := fp (t / 2) (Nat.le_refl _)
        simp only [ss_nil, ss_cons, s_asgv, s_asgt, s_para, s_auga, s_exp, s_retE, s_retNon, s_if, s_while, s_fo, s_break, s_conti, s_ps, e_var, varK, e_int, e_bl, e_non, e_str, e_ty, e_bin, e_neg, e_cmp, e_chain, e_isN, e_notN, e_and, e_or, e_not, e_ite, e_call, e_callK, prm_some, e_bi, e_tup, e_lst, lstK, tupK, e_ix, e_sl, eo_none, eo_some, in_int, e_mt, e_bits, bt_int, ng_int, e_comp, e_gc, es_nil, es_cons, tg_var, tg_tup, tg_sub, tgs_nil, tgs_cons, it_list, it_tup, it_rng1, it_rng2, it_enum, src_tup, src_fro, src_rng, src_enum, op_add, op_sub, op_mul, op_fdiv, op_mod, op_pow, op_shl, op_shr, op_addt, cm_lt, cm_le, cm_gt, cm_ge, cm_eq, cm_ne, cm_eq_bl, cm_ne_bl, cm_eq_str, cm_ne_str, tr_bl, tr_int, tr_non, ch_bl, cond_dec, cond_not, cond_t, cond_f, cond_ne, au_add, au_sub, b_len_tup, b_int, b_int_bl, b_abs, b_max, b_min, at_some, x_tup, isi_non_int, isi_non_bool, isi_non_str, isi_non_tuple, isi_non_list, isi_non_dict, isi_bl_int, isi_bl_bool, isi_bl_str, isi_bl_tuple, isi_bl_list, isi_bl_dict, isi_int_int, isi_int_bool, isi_int_str, isi_int_tuple, isi_int_list, isi_int_dict, isi_str_int, isi_str_bool, isi_str_str, isi_str_tuple, isi_str_list, isi_str_dict, isi_tup_int, isi_tup_bool, isi_tup_str, isi_tup_tuple, isi_tup_list, isi_tup_dict, isi_fro_int, isi_fro_bool, isi_fro_str, isi_fro_tuple, isi_fro_list, isi_fro_dict, PV.isNon, eq_self, decide_true, Bool.not_true, Bool.not_false, sl_fro, gc_pure, cl_lst, cl_dK, cx_ref, cx_str, cop_add, cb_len, cl_q, cm_append, cm_pop, pop_snoc, cm_extend, csrc, ctg, ixs, gc_ref, gc_ref0, e_dnew, e_get1, e_get2, cl_d, gd_ref, gd_str, cm_isin, cm_notin, intsK, e_sset, ssetK, b_sorted, m_insert, cb_sum, b_tuple_ref, b_tuple_tup, b_list_tup, b_list_ref, sl_tup, sl_ref, tr_tup, sizeLine_eq, Nat.reduceLeDiff, Int.reduceLT, Int.reduceLE, true_and, and_true, st_new0, st_newk, st_set0, st_setk, List.getElem?_cons_zero, List.getElem?_cons_succ, List.append_assoc, List.cons_append, List.nil_append, List.append_nil, List.length_append, List.length_cons, List.length_nil, Nat.zero_add, Nat.reduceAdd, List.set_cons_zero, List.set_cons_succ, stV, getV0, getVs, setV0, setVs]
        have e2 : ((p : Int) = 2) ↔ p = 2 := by omega
        have et : ((t : Int) % 2 = 1) ↔ t % 2 = 1 := by omega
        simp only [e2, et]
        refine ⟨fun h => ⟨cmul (abs_nat (k := 60) (by omega)) ps (by decide), fun h2 => ?_, fun h2 => ?_⟩, fun h => ⟨fun h2 => ?_, fun h2 => ?_⟩⟩
        · rw [if_pos h] at st
          exact ⟨_, by omega, _, k * p, _, p + 1, some (.int t), o2, o3, rfl, st, by omega, by omega, by omega, rfl⟩
        · rw [if_pos h] at st
          exact ⟨_, by omega, _, k * p, _, p + 2, some (.int t), o2, o3, rfl, ki_skip st (by omega) (by omega), by omega, by omega, by omega, rfl⟩
        · rw [if_neg h] at st
          exact ⟨_, by omega, _, k, _, p + 1, some (.int t), o2, o3, rfl, st, by omega, by omega, by omega, rfl⟩
        · rw [if_neg h] at st
          exact ⟨_, by omega, _, k, _, p + 2, some (.int t), o2, o3, rfl, ki_skip st (by omega) (by omega), by omega, by omega, by omega, rfl⟩
  · refine cl_of (whole_root_do h0 (by omega) (Nat.lt_trans (abs_nat (k := 60) (by omega)) (p2_lt (a := 60) (b := 17000) (by decide)))) ?_
    rintro v M' ⟨rfl, r, rfl, hr⟩
    have rs := hr.small (k := 30) (abs_nat (k := 30 + 30) (by omega))
    obtain ⟨s, rfl⟩ : ∃ s : Nat, r = (s : Int) := ⟨r.toNat, by have := hr.1; omega⟩
    have hlt2 : m < p * p * p := by
      have : (m : Int) < ((p * p * p : Nat) : Int) := by rw [Int.natCast_mul, Int.natCast_mul]; omega
      omega
    simp only [ss_nil, ss_cons, s_asgv, s_asgt, s_para, s_auga, s_exp, s_retE, s_retNon, s_if, s_while, s_fo, s_break, s_conti, s_ps, e_var, varK, e_int, e_bl, e_non, e_str, e_ty, e_bin, e_neg, e_cmp, e_chain, e_isN, e_notN, e_and, e_or, e_not, e_ite, e_call, e_callK, prm_some, e_bi, e_tup, e_lst, lstK, tupK, e_ix, e_sl, eo_none, eo_some, in_int, e_mt, e_bits, bt_int, ng_int, e_comp, e_gc, es_nil, es_cons, tg_var, tg_tup, tg_sub, tgs_nil, tgs_cons, it_list, it_tup, it_rng1, it_rng2, it_enum, src_tup, src_fro, src_rng, src_enum, op_add, op_sub, op_mul, op_fdiv, op_mod, op_pow, op_shl, op_shr, op_addt, cm_lt, cm_le, cm_gt, cm_ge, cm_eq, cm_ne, cm_eq_bl, cm_ne_bl, cm_eq_str, cm_ne_str, tr_bl, tr_int, tr_non, ch_bl, cond_dec, cond_not, cond_t, cond_f, cond_ne, au_add, au_sub, b_len_tup, b_int, b_int_bl, b_abs, b_max, b_min, at_some, x_tup, isi_non_int, isi_non_bool, isi_non_str, isi_non_tuple, isi_non_list, isi_non_dict, isi_bl_int, isi_bl_bool, isi_bl_str, isi_bl_tuple, isi_bl_list, isi_bl_dict, isi_int_int, isi_int_bool, isi_int_str, isi_int_tuple, isi_int_list, isi_int_dict, isi_str_int, isi_str_bool, isi_str_str, isi_str_tuple, isi_str_list, isi_str_dict, isi_tup_int, isi_tup_bool, isi_tup_str, isi_tup_tuple, isi_tup_list, isi_tup_dict, isi_fro_int, isi_fro_bool, isi_fro_str, isi_fro_tuple, isi_fro_list, isi_fro_dict, PV.isNon, eq_self, decide_true, Bool.not_true, Bool.not_false, sl_fro, gc_pure, cl_lst, cl_dK, cx_ref, cx_str, cop_add, cb_len, cl_q, cm_append, cm_pop, pop_snoc, cm_extend, csrc, ctg, ixs, gc_ref, gc_ref0, e_dnew, e_get1, e_get2, cl_d, gd_ref, gd_str, cm_isin, cm_notin, intsK, e_sset, ssetK, b_sorted, m_insert, cb_sum, b_tuple_ref, b_tuple_tup, b_list_tup, b_list_ref, sl_tup, sl_ref, tr_tup, sizeLine_eq, Nat.reduceLeDiff, Int.reduceLT, Int.reduceLE, true_and, and_true, st_new0, st_newk, st_set0, st_setk, List.getElem?_cons_zero, List.getElem?_cons_succ, List.append_assoc, List.cons_append, List.nil_append, List.append_nil, List.length_append, List.length_cons, List.length_nil, Nat.zero_add, Nat.reduceAdd, List.set_cons_zero, List.set_cons_succ, stV, getV0, getVs, setV0, setVs]
    refine ⟨cmul rs rs (by decide), fun h => ⟨cmul (abs_nat (k := 60) (by omega)) rs (by decide), f * s, k, rfl, ki_end2 hk ?_⟩, fun h => ⟨cmul (abs_nat (k := 60) (by omega)) (abs_nat (k := 60) (by omega)) (by decide), f, k * m, rfl, ki_end3 hk hlt2 fun q hq => ?_⟩⟩
    · exact_mod_cast h
    · apply h
      have : IsRoot (m : Int) (q : Int) := ⟨by omega, by rw [← hq]; simp, by rw [← hq, Int.natCast_mul]; grind⟩
      rw [hr.uniq this, ← hq]
      simp
/-! primes_in, is_squarefree -/
def pV (ps : List Nat) : List PV := ps.map fun (p : Nat) => PV.int (p : Int)
theorem pV_app {a b : List Nat} : pV (a ++ b) = pV a ++ pV b := List.map_append
theorem pV_len {a : List Nat} : (pV a).length = a.length := List.length_map _
theorem pV_plains : ∀ {ps : List Nat}, PV.plains (pV ps) = true
  | [] => by simp [pV, PV.plains]
  | p :: r => by
    show PV.plains (PV.int p :: pV r) = true
    rw [PV.plains, pV_plains]
    simp [PV.plain]
theorem pV_szs : ∀ {ps : List Nat}, PV.szs (pV ps) = ps.length
  | [] => by simp [pV, PV.szs]
  | p :: r => by
    show PV.szs (PV.int p :: pV r) = _
    rw [PV.szs, pV_szs, List.length_cons]
    simp [PV.sz]
    omega
theorem primes_in_do {T : Nat → Option QF} (h1 : T 39 = some q_primes_in) {n : Nat} {M : Store} {x : Nat} (hx : 0 < x) (hb : x < 2 ^ 60) :
    Does T (n + 1) 39 [.int (x : Nat)] M fun v M' => M' = M ∧ ∃ ps : List Nat, v = .tup (pV ps) ∧ IsPs x ps ∧ ps.length ≤ 60 := by
  refine does_of h1 rfl rfl ?_
  simp only [ss_nil, ss_cons, s_asgv, s_asgt, s_para, s_auga, s_exp, s_retE, s_retNon, s_if, s_while, s_fo, s_break, s_conti, s_ps, e_var, varK, e_int, e_bl, e_non, e_str, e_ty, e_bin, e_neg, e_cmp, e_chain, e_isN, e_notN, e_and, e_or, e_not, e_ite, e_call, e_callK, prm_some, e_bi, e_tup, e_lst, lstK, tupK, e_ix, e_sl, eo_none, eo_some, in_int, e_mt, e_bits, bt_int, ng_int, e_comp, e_gc, es_nil, es_cons, tg_var, tg_tup, tg_sub, tgs_nil, tgs_cons, it_list, it_tup, it_rng1, it_rng2, it_enum, src_tup, src_fro, src_rng, src_enum, op_add, op_sub, op_mul, op_fdiv, op_mod, op_pow, op_shl, op_shr, op_addt, cm_lt, cm_le, cm_gt, cm_ge, cm_eq, cm_ne, cm_eq_bl, cm_ne_bl, cm_eq_str, cm_ne_str, tr_bl, tr_int, tr_non, ch_bl, cond_dec, cond_not, cond_t, cond_f, cond_ne, au_add, au_sub, b_len_tup, b_int, b_int_bl, b_abs, b_max, b_min, at_some, x_tup, isi_non_int, isi_non_bool, isi_non_str, isi_non_tuple, isi_non_list, isi_non_dict, isi_bl_int, isi_bl_bool, isi_bl_str, isi_bl_tuple, isi_bl_list, isi_bl_dict, isi_int_int, isi_int_bool, isi_int_str, isi_int_tuple, isi_int_list, isi_int_dict, isi_str_int, isi_str_bool, isi_str_str, isi_str_tuple, isi_str_list, isi_str_dict, isi_tup_int, isi_tup_bool, isi_tup_str, isi_tup_tuple, isi_tup_list, isi_tup_dict, isi_fro_int, isi_fro_bool, isi_fro_str, isi_fro_tuple, isi_fro_list, isi_fro_dict, PV.isNon, eq_self, decide_true, Bool.not_true, Bool.not_false, sl_fro, gc_pure, cl_lst, cl_dK, cx_ref, cx_str, cop_add, cb_len, cl_q, cm_append, cm_pop, pop_snoc, cm_extend, csrc, ctg, ixs, gc_ref, gc_ref0, e_dnew, e_get1, e_get2, cl_d, gd_ref, gd_str, cm_isin, cm_notin, intsK, e_sset, ssetK, b_sorted, m_insert, cb_sum, b_tuple_ref, b_tuple_tup, b_list_tup, b_list_ref, sl_tup, sl_ref, tr_tup, sizeLine_eq, Nat.reduceLeDiff, Int.reduceLT, Int.reduceLE, true_and, and_true, st_new0, st_newk, st_set0, st_setk, List.getElem?_cons_zero, List.getElem?_cons_succ, List.append_assoc, List.cons_append, List.nil_append, List.append_nil, List.length_append, List.length_cons, List.length_nil, Nat.zero_add, Nat.reduceAdd, List.set_cons_zero, List.set_cons_succ, stV, getV0, getVs, setV0, setVs, q_primes_in]
  refine wh_rule (fun w e B => ∃ (m p : Nat) (ps : List Nat), e = [some (.int (m : Nat)), some (.ref M.length), some (.int (p : Nat))] ∧ B = ⟨M ++ [.lst (pV ps)]⟩ ∧ PI x ps m p ∧ m * 2 ^ ps.length ≤ x ∧ 2 ≤ p ∧ (p = 2 ∨ p % 2 = 1) ∧ p ≤ x + 2 ∧ w = x + 3 - p) (x + 1) (big_lt (k := 61) (by omega) (by decide)) ⟨x, 2, [], rfl, rfl, pi_start hx, by simp, by omega, by omega, by omega, by omega⟩ ?_
  rintro w e M' ⟨m, p, ps, rfl, eM, hk, hfew, hp, ho, hpx, rfl⟩
  cases eM
  have hm0 := hk.m0
  have mle : m ≤ x := Nat.le_of_dvd hx hk.dv
  have lps : ps.length < 60 := by
    have h1 : 1 * 2 ^ ps.length ≤ m * 2 ^ ps.length := Nat.mul_le_mul_right _ hm0
    exact (Nat.pow_lt_pow_iff_right (a := 2) (by decide)).mp (by omega)
  have pS : (p : Int).natAbs < 2 ^ 61 := abs_nat (by omega)
  simp only [ss_nil, ss_cons, s_asgv, s_asgt, s_para, s_auga, s_exp, s_retE, s_retNon, s_if, s_while, s_fo, s_break, s_conti, s_ps, e_var, varK, e_int, e_bl, e_non, e_str, e_ty, e_bin, e_neg, e_cmp, e_chain, e_isN, e_notN, e_and, e_or, e_not, e_ite, e_call, e_callK, prm_some, e_bi, e_tup, e_lst, lstK, tupK, e_ix, e_sl, eo_none, eo_some, in_int, e_mt, e_bits, bt_int, ng_int, e_comp, e_gc, es_nil, es_cons, tg_var, tg_tup, tg_sub, tgs_nil, tgs_cons, it_list, it_tup, it_rng1, it_rng2, it_enum, src_tup, src_fro, src_rng, src_enum, op_add, op_sub, op_mul, op_fdiv, op_mod, op_pow, op_shl, op_shr, op_addt, cm_lt, cm_le, cm_gt, cm_ge, cm_eq, cm_ne, cm_eq_bl, cm_ne_bl, cm_eq_str, cm_ne_str, tr_bl, tr_int, tr_non, ch_bl, cond_dec, cond_not, cond_t, cond_f, cond_ne, au_add, au_sub, b_len_tup, b_int, b_int_bl, b_abs, b_max, b_min, at_some, x_tup, isi_non_int, isi_non_bool, isi_non_str, isi_non_tuple, isi_non_list, isi_non_dict, isi_bl_int, isi_bl_bool, isi_bl_str, isi_bl_tuple, isi_bl_list, isi_bl_dict, isi_int_int, isi_int_bool, isi_int_str, isi_int_tuple, isi_int_list, isi_int_dict, isi_str_int, isi_str_bool, isi_str_str, isi_str_tuple, isi_str_list, isi_str_dict, isi_tup_int, isi_tup_bool, isi_tup_str, isi_tup_tuple, isi_tup_list, isi_tup_dict, isi_fro_int, isi_fro_bool, isi_fro_str, isi_fro_tuple, isi_fro_list, isi_fro_dict, PV.isNon, eq_self, decide_true, Bool.not_true, Bool.not_false, sl_fro, gc_pure, cl_lst, cl_dK, cx_ref, cx_str, cop_add, cb_len, cl_q, cm_append, cm_pop, pop_snoc, cm_extend, csrc, ctg, ixs, gc_ref, gc_ref0, e_dnew, e_get1, e_get2, cl_d, gd_ref, gd_str, cm_isin, cm_notin, intsK, e_sset, ssetK, b_sorted, m_insert, cb_sum, b_tuple_ref, b_tuple_tup, b_list_tup, b_list_ref, sl_tup, sl_ref, tr_tup, sizeLine_eq, Nat.reduceLeDiff, Int.reduceLT, Int.reduceLE, true_and, and_true, st_new0, st_newk, st_set0, st_setk, List.getElem?_cons_zero, List.getElem?_cons_succ, List.append_assoc, List.cons_append, List.nil_append, List.append_nil, List.length_append, List.length_cons, List.length_nil, Nat.zero_add, Nat.reduceAdd, List.set_cons_zero, List.set_cons_succ, stV, getV0, getVs, setV0, setVs, q_primes_in_w1]
  refine ⟨cmul pS pS (by decide), fun hle => ?_, fun hgt => ?_⟩
  · have hle2 : p * p ≤ m := by
      have : ((p * p : Nat) : Int) ≤ (m : Int) := by rw [Int.natCast_mul]; exact hle
      omega
    have hpm : p < m := by
      have h1 : p * 2 ≤ p * p := Nat.mul_le_mul_left p hp
      omega
    have strip : ∀ (qs : List PV) (N : PEnv → Bx → Prop) (D : Jn), (∀ m' t, m = m' * p ^ t → 0 < m' → ¬p ∣ m' → N [some (.int (m' : Nat)), some (.ref M.length), some (.int (p : Nat))] ⟨M ++ [.lst qs]⟩) → Wh (den T n) (QE.cmp Cop.eq (QE.bin Bop.mod (QE.var 0) (QE.var 2)) (QE.int 0)) q_primes_in_w2 [some (.int (m : Nat)), some (.ref M.length), some (.int (p : Nat))] ⟨M ++ [.lst qs]⟩ N D := by
      intro qs N D hN
      refine wh_rule (fun w e B => ∃ (m1 t : Nat), e = [some (.int (m1 : Nat)), some (.ref M.length), some (.int (p : Nat))] ∧ B = ⟨M ++ [.lst qs]⟩ ∧ m = m1 * p ^ t ∧ 0 < m1 ∧ w = m1) m (big_lt (k := 60) (by omega) (by decide)) ⟨m, 0, rfl, rfl, by simp, hk.m0, rfl⟩ ?_
      rintro w e M' ⟨m1, t, rfl, eM, hm, hm0, rfl⟩
      cases eM
      simp only [ss_nil, ss_cons, s_asgv, s_asgt, s_para, s_auga, s_exp, s_retE, s_retNon, s_if, s_while, s_fo, s_break, s_conti, s_ps, e_var, varK, e_int, e_bl, e_non, e_str, e_ty, e_bin, e_neg, e_cmp, e_chain, e_isN, e_notN, e_and, e_or, e_not, e_ite, e_call, e_callK, prm_some, e_bi, e_tup, e_lst, lstK, tupK, e_ix, e_sl, eo_none, eo_some, in_int, e_mt, e_bits, bt_int, ng_int, e_comp, e_gc, es_nil, es_cons, tg_var, tg_tup, tg_sub, tgs_nil, tgs_cons, it_list, it_tup, it_rng1, it_rng2, it_enum, src_tup, src_fro, src_rng, src_enum, op_add, op_sub, op_mul, op_fdiv, op_mod, op_pow, op_shl, op_shr, op_addt, cm_lt, cm_le, cm_gt, cm_ge, cm_eq, cm_ne, cm_eq_bl, cm_ne_bl, cm_eq_str, cm_ne_str, tr_bl, tr_int, tr_non, ch_bl, cond_dec, cond_not, cond_t, cond_f, cond_ne, au_add, au_sub, b_len_tup, b_int, b_int_bl, b_abs, b_max, b_min, at_some, x_tup, isi_non_int, isi_non_bool, isi_non_str, isi_non_tuple, isi_non_list, isi_non_dict, isi_bl_int, isi_bl_bool, isi_bl_str, isi_bl_tuple, isi_bl_list, isi_bl_dict, isi_int_int, isi_int_bool, isi_int_str, isi_int_tuple, isi_int_list, isi_int_dict, isi_str_int, isi_str_bool, isi_str_str, isi_str_tuple, isi_str_list, isi_str_dict, isi_tup_int, isi_tup_bool, isi_tup_str, isi_tup_tuple, isi_tup_list, isi_tup_dict, isi_fro_int, isi_fro_bool, isi_fro_str, isi_fro_tuple, isi_fro_list, isi_fro_dict, PV.isNon, eq_self, decide_true, Bool.not_true, Bool.not_false, sl_fro, gc_pure, cl_lst, cl_dK, cx_ref, cx_str, cop_add, cb_len, cl_q, cm_append, cm_pop, pop_snoc, cm_extend, csrc, ctg, ixs, gc_ref, gc_ref0, e_dnew, e_get1, e_get2, cl_d, gd_ref, gd_str, cm_isin, cm_notin, intsK, e_sset, ssetK, b_sorted, m_insert, cb_sum, b_tuple_ref, b_tuple_tup, b_list_tup, b_list_ref, sl_tup, sl_ref, tr_tup, sizeLine_eq, Nat.reduceLeDiff, Int.reduceLT, Int.reduceLE, true_and, and_true, st_new0, st_newk, st_set0, st_setk, List.getElem?_cons_zero, List.getElem?_cons_succ, List.append_assoc, List.cons_append, List.nil_append, List.append_nil, List.length_append, List.length_cons, List.length_nil, Nat.zero_add, Nat.reduceAdd, List.set_cons_zero, List.set_cons_succ, stV, getV0, getVs, setV0, setVs, q_primes_in_w2]
      refine ⟨by omega, fun hd => ⟨⟨by omega, pylong_small (Nat.lt_trans pS (p2_lt (a := 61) (b := 9000) (by decide)))⟩, ?_⟩, fun hd => ?_⟩
      · rw [cmod_zero] at hd
        obtain ⟨c, hc⟩ := hd
        have hq : w / p = c := by rw [hc]; exact Nat.mul_div_cancel_left c (by omega)
        have hc0 : 0 < c := Nat.pos_of_ne_zero fun e => by subst e; simp at hc; omega
        have h2 : 2 * c ≤ p * c := Nat.mul_le_mul_right c hp
        refine ⟨w / p, by omega, w / p, t + 1, rfl, ?_, by omega, rfl⟩
        rw [hq, hm, hc, Nat.pow_succ]
        ac_rfl
      · rw [cmod_zero] at hd
        exact hN w t hm hm0 hd
    have e2 : ((p : Int) = 2) ↔ p = 2 := by omega
    refine ⟨by omega, fun hd => ⟨by rw [pV_len]; omega, ?_⟩, fun hd => ?_⟩
    · rw [cmod_zero] at hd
      refine strip _ _ _ fun m' t hm h0 hn => ?_
      have ht : 0 < t := Nat.pos_of_ne_zero fun e => by subst e; simp at hm; subst hm; exact hn hd
      have st := pi_step hk hp hm hn
      rw [if_pos ht] at st
      have hf : m' * 2 ^ (ps ++ [p]).length ≤ x := by
        rw [List.length_append, List.length_singleton, Nat.pow_succ]
        have h1 : m' * 2 ≤ m := by
          rw [hm]
          refine Nat.mul_le_mul_left m' ?_
          obtain ⟨s, hs⟩ : ∃ s, t = s + 1 := ⟨t - 1, by omega⟩
          rw [hs, Nat.pow_succ]
          have : 1 * 2 ≤ p ^ s * p := Nat.mul_le_mul (Nat.pow_pos (by omega)) hp
          omega
        have h2 := Nat.mul_le_mul_right (2 ^ ps.length) h1
        rw [show m' * (2 ^ ps.length * 2) = m' * 2 * 2 ^ ps.length by ac_rfl]
        omega
      simp only [ss_nil, ss_cons, s_asgv, s_asgt, s_para, s_auga, s_exp, s_retE, s_retNon, s_if, s_while, s_fo, s_break, s_conti, s_ps, e_var, varK, e_int, e_bl, e_non, e_str, e_ty, e_bin, e_neg, e_cmp, e_chain, e_isN, e_notN, e_and, e_or, e_not, e_ite, e_call, e_callK, prm_some, e_bi, e_tup, e_lst, lstK, tupK, e_ix, e_sl, eo_none, eo_some, in_int, e_mt, e_bits, bt_int, ng_int, e_comp, e_gc, es_nil, es_cons, tg_var, tg_tup, tg_sub, tgs_nil, tgs_cons, it_list, it_tup, it_rng1, it_rng2, it_enum, src_tup, src_fro, src_rng, src_enum, op_add, op_sub, op_mul, op_fdiv, op_mod, op_pow, op_shl, op_shr, op_addt, cm_lt, cm_le, cm_gt, cm_ge, cm_eq, cm_ne, cm_eq_bl, cm_ne_bl, cm_eq_str, cm_ne_str, tr_bl, tr_int, tr_non, ch_bl, cond_dec, cond_not, cond_t, cond_f, cond_ne, au_add, au_sub, b_len_tup, b_int, b_int_bl, b_abs, b_max, b_min, at_some, x_tup, isi_non_int, isi_non_bool, isi_non_str, isi_non_tuple, isi_non_list, isi_non_dict, isi_bl_int, isi_bl_bool, isi_bl_str, isi_bl_tuple, isi_bl_list, isi_bl_dict, isi_int_int, isi_int_bool, isi_int_str, isi_int_tuple, isi_int_list, isi_int_dict, isi_str_int, isi_str_bool, isi_str_str, isi_str_tuple, isi_str_list, isi_str_dict, isi_tup_int, isi_tup_bool, isi_tup_str, isi_tup_tuple, isi_tup_list, isi_tup_dict, isi_fro_int, isi_fro_bool, isi_fro_str, isi_fro_tuple, isi_fro_list, isi_fro_dict, PV.isNon, eq_self, decide_true, Bool.not_true, Bool.not_false, sl_fro, gc_pure, cl_lst, cl_dK, cx_ref, cx_str, cop_add, cb_len, cl_q, cm_append, cm_pop, pop_snoc, cm_extend, csrc, ctg, ixs, gc_ref, gc_ref0, e_dnew, e_get1, e_get2, cl_d, gd_ref, gd_str, cm_isin, cm_notin, intsK, e_sset, ssetK, b_sorted, m_insert, cb_sum, b_tuple_ref, b_tuple_tup, b_list_tup, b_list_ref, sl_tup, sl_ref, tr_tup, sizeLine_eq, Nat.reduceLeDiff, Int.reduceLT, Int.reduceLE, true_and, and_true, st_new0, st_newk, st_set0, st_setk, List.getElem?_cons_zero, List.getElem?_cons_succ, List.append_assoc, List.cons_append, List.nil_append, List.append_nil, List.length_append, List.length_cons, List.length_nil, Nat.zero_add, Nat.reduceAdd, List.set_cons_zero, List.set_cons_succ, stV, getV0, getVs, setV0, setVs, e2]
      refine ⟨fun h2 => ?_, fun h2 => ?_⟩
      · exact ⟨_, by omega, m', p + 1, ps ++ [p], rfl, by rw [pV_app]; rfl, st, hf, by omega, by omega, by omega, rfl⟩
      · exact ⟨_, by omega, m', p + 2, ps ++ [p], rfl, by rw [pV_app]; rfl, pi_skip st (by omega) (by omega), hf, by omega, by omega, by omega, rfl⟩
    · rw [cmod_zero] at hd
      refine strip _ _ _ fun m' t hm h0 hn => ?_
      have ht : ¬0 < t := fun h => hd (by
        rw [hm]
        obtain ⟨s, hs⟩ : ∃ s, t = s + 1 := ⟨t - 1, by omega⟩
        rw [hs, Nat.pow_succ]
        exact ⟨m' * p ^ s, by ac_rfl⟩)
      have st := pi_step hk hp hm hn
      rw [if_neg ht] at st
      have hmm : m' = m := by
        have : t = 0 := by omega
        subst this
        simp at hm
        exact hm.symm
      subst hmm
      simp only [ss_nil, ss_cons, s_asgv, s_asgt, s_para, s_auga, s_exp, s_retE, s_retNon, s_if, s_while, s_fo, s_break, s_conti, s_ps, e_var, varK, e_int, e_bl, e_non, e_str, e_ty, e_bin, e_neg, e_cmp, e_chain, e_isN, e_notN, e_and, e_or, e_not, e_ite, e_call, e_callK, prm_some, e_bi, e_tup, e_lst, lstK, tupK, e_ix, e_sl, eo_none, eo_some, in_int, e_mt, e_bits, bt_int, ng_int, e_comp, e_gc, es_nil, es_cons, tg_var, tg_tup, tg_sub, tgs_nil, tgs_cons, it_list, it_tup, it_rng1, it_rng2, it_enum, src_tup, src_fro, src_rng, src_enum, op_add, op_sub, op_mul, op_fdiv, op_mod, op_pow, op_shl, op_shr, op_addt, cm_lt, cm_le, cm_gt, cm_ge, cm_eq, cm_ne, cm_eq_bl, cm_ne_bl, cm_eq_str, cm_ne_str, tr_bl, tr_int, tr_non, ch_bl, cond_dec, cond_not, cond_t, cond_f, cond_ne, au_add, au_sub, b_len_tup, b_int, b_int_bl, b_abs, b_max, b_min, at_some, x_tup, isi_non_int, isi_non_bool, isi_non_str, isi_non_tuple, isi_non_list, isi_non_dict, isi_bl_int, isi_bl_bool, isi_bl_str, isi_bl_tuple, isi_bl_list, isi_bl_dict, isi_int_int, isi_int_bool, isi_int_str, isi_int_tuple, isi_int_list, isi_int_dict, isi_str_int, isi_str_bool, isi_str_str, isi_str_tuple, isi_str_list, isi_str_dict, isi_tup_int, isi_tup_bool, isi_tup_str, isi_tup_tuple, isi_tup_list, isi_tup_dict, isi_fro_int, isi_fro_bool, isi_fro_str, isi_fro_tuple, isi_fro_list, isi_fro_dict, PV.isNon, eq_self, decide_true, Bool.not_true, Bool.not_false, sl_fro, gc_pure, cl_lst, cl_dK, cx_ref, cx_str, cop_add, cb_len, cl_q, cm_append, cm_pop, pop_snoc, cm_extend, csrc, ctg, ixs, gc_ref, gc_ref0, e_dnew, e_get1, e_get2, cl_d, gd_ref, gd_str, cm_isin, cm_notin, intsK, e_sset, ssetK, b_sorted, m_insert, cb_sum, b_tuple_ref, b_tuple_tup, b_list_tup, b_list_ref, sl_tup, sl_ref, tr_tup, sizeLine_eq, Nat.reduceLeDiff, Int.reduceLT, Int.reduceLE, true_and, and_true, st_new0, st_newk, st_set0, st_setk, List.getElem?_cons_zero, List.getElem?_cons_succ, List.append_assoc, List.cons_append, List.nil_append, List.append_nil, List.length_append, List.length_cons, List.length_nil, Nat.zero_add, Nat.reduceAdd, List.set_cons_zero, List.set_cons_succ, stV, getV0, getVs, setV0, setVs, e2]
      refine ⟨fun h2 => ?_, fun h2 => ?_⟩
      · exact ⟨_, by omega, m', p + 1, ps, rfl, rfl, st, hfew, by omega, by omega, by omega, rfl⟩
      · exact ⟨_, by omega, m', p + 2, ps, rfl, rfl, pi_skip st (by omega) (by omega), hfew, by omega, by omega, by omega, rfl⟩
  · have hlt2 : m < p * p := by
      have : (m : Int) < ((p * p : Nat) : Int) := by rw [Int.natCast_mul]; omega
      omega
    have en := pi_end hk hlt2
    have hlow : ∀ n (qs : List Nat), (PV.tup (pV qs)).low n = true := fun n qs => by rw [PV.low]; exact plain_low.plains_low pV_plains
    refine ⟨fun h => ⟨by rw [pV_len]; omega, ?_⟩, fun h => ?_⟩
    · rw [if_pos (by omega)] at en
      rw [gc_drop (by have := hlow M.length (ps ++ [m]); rw [pV_app] at this; exact this)]
      exact ⟨rfl, ps ++ [m], by rw [pV_app]; rfl, en, by simp; omega⟩
    · rw [if_neg (by omega)] at en
      rw [gc_drop (hlow _ _)]
      exact ⟨rfl, ps, rfl, en, by omega⟩
theorem is_squarefree_do {T : Nat → Option QF} (h0 : T 0 = some q_whole_root) (h13 : T 13 = some q_kernel_of) (h38 : T 38 = some q_is_squarefree) {n : Nat} {M : Store} {x : Nat} (hx : 0 < x) (hb : x < 2 ^ 60) :
    Does T (n + 3) 38 [.int (x : Nat)] M fun v M' => M' = M ∧ ∃ f k : Nat, v = .bl (decide (f = 1)) ∧ IsKer x f k := by
  refine does_of h38 rfl rfl ?_
  simp only [ss_nil, ss_cons, s_asgv, s_asgt, s_para, s_auga, s_exp, s_retE, s_retNon, s_if, s_while, s_fo, s_break, s_conti, s_ps, e_var, varK, e_int, e_bl, e_non, e_str, e_ty, e_bin, e_neg, e_cmp, e_chain, e_isN, e_notN, e_and, e_or, e_not, e_ite, e_call, e_callK, prm_some, e_bi, e_tup, e_lst, lstK, tupK, e_ix, e_sl, eo_none, eo_some, in_int, e_mt, e_bits, bt_int, ng_int, e_comp, e_gc, es_nil, es_cons, tg_var, tg_tup, tg_sub, tgs_nil, tgs_cons, it_list, it_tup, it_rng1, it_rng2, it_enum, src_tup, src_fro, src_rng, src_enum, op_add, op_sub, op_mul, op_fdiv, op_mod, op_pow, op_shl, op_shr, op_addt, cm_lt, cm_le, cm_gt, cm_ge, cm_eq, cm_ne, cm_eq_bl, cm_ne_bl, cm_eq_str, cm_ne_str, tr_bl, tr_int, tr_non, ch_bl, cond_dec, cond_not, cond_t, cond_f, cond_ne, au_add, au_sub, b_len_tup, b_int, b_int_bl, b_abs, b_max, b_min, at_some, x_tup, isi_non_int, isi_non_bool, isi_non_str, isi_non_tuple, isi_non_list, isi_non_dict, isi_bl_int, isi_bl_bool, isi_bl_str, isi_bl_tuple, isi_bl_list, isi_bl_dict, isi_int_int, isi_int_bool, isi_int_str, isi_int_tuple, isi_int_list, isi_int_dict, isi_str_int, isi_str_bool, isi_str_str, isi_str_tuple, isi_str_list, isi_str_dict, isi_tup_int, isi_tup_bool, isi_tup_str, isi_tup_tuple, isi_tup_list, isi_tup_dict, isi_fro_int, isi_fro_bool, isi_fro_str, isi_fro_tuple, isi_fro_list, isi_fro_dict, PV.isNon, eq_self, decide_true, Bool.not_true, Bool.not_false, sl_fro, gc_pure, cl_lst, cl_dK, cx_ref, cx_str, cop_add, cb_len, cl_q, cm_append, cm_pop, pop_snoc, cm_extend, csrc, ctg, ixs, gc_ref, gc_ref0, e_dnew, e_get1, e_get2, cl_d, gd_ref, gd_str, cm_isin, cm_notin, intsK, e_sset, ssetK, b_sorted, m_insert, cb_sum, b_tuple_ref, b_tuple_tup, b_list_tup, b_list_ref, sl_tup, sl_ref, tr_tup, sizeLine_eq, Nat.reduceLeDiff, Int.reduceLT, Int.reduceLE, true_and, and_true, st_new0, st_newk, st_set0, st_setk, List.getElem?_cons_zero, List.getElem?_cons_succ, List.append_assoc, List.cons_append, List.nil_append, List.append_nil, List.length_append, List.length_cons, List.length_nil, Nat.zero_add, Nat.reduceAdd, List.set_cons_zero, List.set_cons_succ, stV, getV0, getVs, setV0, setVs, q_is_squarefree]
  refine cl_of (kernel_of_do h0 h13 hx hb) ?_
  rintro v M' ⟨rfl, f, k, rfl, hk⟩
  simp only [ss_nil, ss_cons, s_asgv, s_asgt, s_para, s_auga, s_exp, s_retE, s_retNon, s_if, s_while, s_fo, s_break, s_conti, s_ps, e_var, varK, e_int, e_bl, e_non, e_str, e_ty, e_bin, e_neg, e_cmp, e_chain, e_isN, e_notN, e_and, e_or, e_not, e_ite, e_call, e_callK, prm_some, e_bi, e_tup, e_lst, lstK, tupK, e_ix, e_sl, eo_none, eo_some, in_int, e_mt, e_bits, bt_int, ng_int, e_comp, e_gc, es_nil, es_cons, tg_var, tg_tup, tg_sub, tgs_nil, tgs_cons, it_list, it_tup, it_rng1, it_rng2, it_enum, src_tup, src_fro, src_rng, src_enum, op_add, op_sub, op_mul, op_fdiv, op_mod, op_pow, op_shl, op_shr, op_addt, cm_lt, cm_le, cm_gt, cm_ge, cm_eq, cm_ne, cm_eq_bl, cm_ne_bl, cm_eq_str, cm_ne_str, tr_bl, tr_int, tr_non, ch_bl, cond_dec, cond_not, cond_t, cond_f, cond_ne, au_add, au_sub, b_len_tup, b_int, b_int_bl, b_abs, b_max, b_min, at_some, x_tup, isi_non_int, isi_non_bool, isi_non_str, isi_non_tuple, isi_non_list, isi_non_dict, isi_bl_int, isi_bl_bool, isi_bl_str, isi_bl_tuple, isi_bl_list, isi_bl_dict, isi_int_int, isi_int_bool, isi_int_str, isi_int_tuple, isi_int_list, isi_int_dict, isi_str_int, isi_str_bool, isi_str_str, isi_str_tuple, isi_str_list, isi_str_dict, isi_tup_int, isi_tup_bool, isi_tup_str, isi_tup_tuple, isi_tup_list, isi_tup_dict, isi_fro_int, isi_fro_bool, isi_fro_str, isi_fro_tuple, isi_fro_list, isi_fro_dict, PV.isNon, eq_self, decide_true, Bool.not_true, Bool.not_false, sl_fro, gc_pure, cl_lst, cl_dK, cx_ref, cx_str, cop_add, cb_len, cl_q, cm_append, cm_pop, pop_snoc, cm_extend, csrc, ctg, ixs, gc_ref, gc_ref0, e_dnew, e_get1, e_get2, cl_d, gd_ref, gd_str, cm_isin, cm_notin, intsK, e_sset, ssetK, b_sorted, m_insert, cb_sum, b_tuple_ref, b_tuple_tup, b_list_tup, b_list_ref, sl_tup, sl_ref, tr_tup, sizeLine_eq, Nat.reduceLeDiff, Int.reduceLT, Int.reduceLE, true_and, and_true, st_new0, st_newk, st_set0, st_setk, List.getElem?_cons_zero, List.getElem?_cons_succ, List.append_assoc, List.cons_append, List.nil_append, List.append_nil, List.length_append, List.length_cons, List.length_nil, Nat.zero_add, Nat.reduceAdd, List.set_cons_zero, List.set_cons_succ, stV, getV0, getVs, setV0, setVs, at0]
  refine ⟨f, k, ?_, hk⟩
  congr 1
  have : ((f : Int) = 1) ↔ f = 1 := by omega
  simp only [this]
end Q

namespace Q
open PySem PySem.Spec PyProof.Rows L2
/-! the law's own dividing -/
theorem low_div {a b n : Nat} {qs : List Nat} : (PV.tup [.int (a : Int), .int (b : Int), .tup (pV qs)]).low n = true := by
  simp [PV.low, PV.lows, plain_low.plains_low pV_plains]
theorem law_divided_do {T : Nat → Option QF} (h1 : T 42 = some q_law_divided) {n : Nat} {M : Store} {x : Nat} (hx : 0 < x) (hb : x < 2 ^ 60) :
    Does T (n + 1) 42 [.int (x : Nat)] M fun v M' => M' = M ∧ ∃ (f k : Nat) (ps : List Nat), v = .tup [.int (f : Nat), .int (k : Nat), .tup (pV ps)] ∧ IsKer x f k ∧ IsPs x ps ∧ ps.length ≤ 60 := by
  refine does_of h1 rfl rfl ?_
  simp only [ss_nil, ss_cons, s_asgv, s_asgt, s_para, s_auga, s_exp, s_retE, s_retNon, s_if, s_while, s_fo, s_break, s_conti, s_ps, e_var, varK, e_int, e_bl, e_non, e_str, e_ty, e_bin, e_neg, e_cmp, e_chain, e_isN, e_notN, e_and, e_or, e_not, e_ite, e_call, e_callK, prm_some, e_bi, e_tup, e_lst, lstK, tupK, e_ix, e_sl, eo_none, eo_some, in_int, e_mt, e_bits, bt_int, ng_int, e_comp, e_gc, es_nil, es_cons, tg_var, tg_tup, tg_sub, tgs_nil, tgs_cons, it_list, it_tup, it_rng1, it_rng2, it_enum, src_tup, src_fro, src_rng, src_enum, op_add, op_sub, op_mul, op_fdiv, op_mod, op_pow, op_shl, op_shr, op_addt, cm_lt, cm_le, cm_gt, cm_ge, cm_eq, cm_ne, cm_eq_bl, cm_ne_bl, cm_eq_str, cm_ne_str, tr_bl, tr_int, tr_non, ch_bl, cond_dec, cond_not, cond_t, cond_f, cond_ne, au_add, au_sub, b_len_tup, b_int, b_int_bl, b_abs, b_max, b_min, at_some, x_tup, isi_non_int, isi_non_bool, isi_non_str, isi_non_tuple, isi_non_list, isi_non_dict, isi_bl_int, isi_bl_bool, isi_bl_str, isi_bl_tuple, isi_bl_list, isi_bl_dict, isi_int_int, isi_int_bool, isi_int_str, isi_int_tuple, isi_int_list, isi_int_dict, isi_str_int, isi_str_bool, isi_str_str, isi_str_tuple, isi_str_list, isi_str_dict, isi_tup_int, isi_tup_bool, isi_tup_str, isi_tup_tuple, isi_tup_list, isi_tup_dict, isi_fro_int, isi_fro_bool, isi_fro_str, isi_fro_tuple, isi_fro_list, isi_fro_dict, PV.isNon, eq_self, decide_true, Bool.not_true, Bool.not_false, sl_fro, gc_pure, cl_lst, cl_dK, cx_ref, cx_str, cop_add, cb_len, cl_q, cm_append, cm_pop, pop_snoc, cm_extend, csrc, ctg, ixs, gc_ref, gc_ref0, e_dnew, e_get1, e_get2, cl_d, gd_ref, gd_str, cm_isin, cm_notin, intsK, e_sset, ssetK, b_sorted, m_insert, cb_sum, b_tuple_ref, b_tuple_tup, b_list_tup, b_list_ref, sl_tup, sl_ref, tr_tup, sizeLine_eq, Nat.reduceLeDiff, Int.reduceLT, Int.reduceLE, true_and, and_true, st_new0, st_newk, st_set0, st_setk, List.getElem?_cons_zero, List.getElem?_cons_succ, List.append_assoc, List.cons_append, List.nil_append, List.append_nil, List.length_append, List.length_cons, List.length_nil, Nat.zero_add, Nat.reduceAdd, List.set_cons_zero, List.set_cons_succ, stV, getV0, getVs, setV0, setVs, q_law_divided]
  refine wh_rule (fun w e B => ∃ (f k m p : Nat) (ps : List Nat) (o1 o2 : Option PV), e = [some (.int (m : Nat)), some (.int (f : Nat)), some (.int (k : Nat)), some (.ref M.length), some (.int (p : Nat)), o1, o2] ∧ B = ⟨M ++ [.lst (pV ps)]⟩ ∧ KI x f k m p ∧ PI x ps m p ∧ m * 2 ^ ps.length ≤ x ∧ 2 ≤ p ∧ (p = 2 ∨ p % 2 = 1) ∧ p ≤ x + 2 ∧ w = x + 3 - p) (x + 1) (big_lt (k := 61) (by omega) (by decide)) ⟨1, 1, x, 2, [], _, _, rfl, rfl, ki_start hx, pi_start hx, by simp, by omega, by omega, by omega, by omega⟩ ?_
  rintro w e M' ⟨f, k, m, p, ps, o1, o2, rfl, eM, hk, hq, hfew, hp, ho, hpx, rfl⟩
  cases eM
  have hbd := ki_bound hk
  have hm0 := hk.m0
  have lps : ps.length < 60 := by
    have h1 : 1 * 2 ^ ps.length ≤ m * 2 ^ ps.length := Nat.mul_le_mul_right _ hm0
    exact (Nat.pow_lt_pow_iff_right (a := 2) (by decide)).mp (by omega)
  have pS : (p : Int).natAbs < 2 ^ 61 := abs_nat (by omega)
  simp only [ss_nil, ss_cons, s_asgv, s_asgt, s_para, s_auga, s_exp, s_retE, s_retNon, s_if, s_while, s_fo, s_break, s_conti, s_ps, e_var, varK, e_int, e_bl, e_non, e_str, e_ty, e_bin, e_neg, e_cmp, e_chain, e_isN, e_notN, e_and, e_or, e_not, e_ite, e_call, e_callK, prm_some, e_bi, e_tup, e_lst, lstK, tupK, e_ix, e_sl, eo_none, eo_some, in_int, e_mt, e_bits, bt_int, ng_int, e_comp, e_gc, es_nil, es_cons, tg_var, tg_tup, tg_sub, tgs_nil, tgs_cons, it_list, it_tup, it_rng1, it_rng2, it_enum, src_tup, src_fro, src_rng, src_enum, op_add, op_sub, op_mul, op_fdiv, op_mod, op_pow, op_shl, op_shr, op_addt, cm_lt, cm_le, cm_gt, cm_ge, cm_eq, cm_ne, cm_eq_bl, cm_ne_bl, cm_eq_str, cm_ne_str, tr_bl, tr_int, tr_non, ch_bl, cond_dec, cond_not, cond_t, cond_f, cond_ne, au_add, au_sub, b_len_tup, b_int, b_int_bl, b_abs, b_max, b_min, at_some, x_tup, isi_non_int, isi_non_bool, isi_non_str, isi_non_tuple, isi_non_list, isi_non_dict, isi_bl_int, isi_bl_bool, isi_bl_str, isi_bl_tuple, isi_bl_list, isi_bl_dict, isi_int_int, isi_int_bool, isi_int_str, isi_int_tuple, isi_int_list, isi_int_dict, isi_str_int, isi_str_bool, isi_str_str, isi_str_tuple, isi_str_list, isi_str_dict, isi_tup_int, isi_tup_bool, isi_tup_str, isi_tup_tuple, isi_tup_list, isi_tup_dict, isi_fro_int, isi_fro_bool, isi_fro_str, isi_fro_tuple, isi_fro_list, isi_fro_dict, PV.isNon, eq_self, decide_true, Bool.not_true, Bool.not_false, sl_fro, gc_pure, cl_lst, cl_dK, cx_ref, cx_str, cop_add, cb_len, cl_q, cm_append, cm_pop, pop_snoc, cm_extend, csrc, ctg, ixs, gc_ref, gc_ref0, e_dnew, e_get1, e_get2, cl_d, gd_ref, gd_str, cm_isin, cm_notin, intsK, e_sset, ssetK, b_sorted, m_insert, cb_sum, b_tuple_ref, b_tuple_tup, b_list_tup, b_list_ref, sl_tup, sl_ref, tr_tup, sizeLine_eq, Nat.reduceLeDiff, Int.reduceLT, Int.reduceLE, true_and, and_true, st_new0, st_newk, st_set0, st_setk, List.getElem?_cons_zero, List.getElem?_cons_succ, List.append_assoc, List.cons_append, List.nil_append, List.append_nil, List.length_append, List.length_cons, List.length_nil, Nat.zero_add, Nat.reduceAdd, List.set_cons_zero, List.set_cons_succ, stV, getV0, getVs, setV0, setVs, q_law_divided_w1]
  refine ⟨cmul pS pS (by decide), fun hle => ?_, fun hgt => ?_⟩
  · have hle2 : p * p ≤ m := by
      have : ((p * p : Nat) : Int) ≤ (m : Int) := by rw [Int.natCast_mul]; exact hle
      omega
    have hpm : p < m := by
      have h1 : p * 2 ≤ p * p := Nat.mul_le_mul_left p hp
      omega
    refine wh_rule (fun w e B => ∃ (m1 t : Nat) (o2 : Option PV), e = [some (.int (m1 : Nat)), some (.int (f : Nat)), some (.int (k : Nat)), some (.ref M.length), some (.int (p : Nat)), some (.int (t : Nat)), o2] ∧ B = ⟨M ++ [.lst (pV ps)]⟩ ∧ m = m1 * p ^ t ∧ 0 < m1 ∧ w = m1) m (big_lt (k := 60) (by omega) (by decide)) ⟨m, 0, _, rfl, rfl, by simp, hk.m0, rfl⟩ ?_
    rintro w e M' ⟨m1, t, o2, rfl, eM, hm, hm0', rfl⟩
    cases eM
    simp only [ss_nil, ss_cons, s_asgv, s_asgt, s_para, s_auga, s_exp, s_retE, s_retNon, s_if, s_while, s_fo, s_break, s_conti, s_ps, e_var, varK, e_int, e_bl, e_non, e_str, e_ty, e_bin, e_neg, e_cmp, e_chain, e_isN, e_notN, e_and, e_or, e_not, e_ite, e_call, e_callK, prm_some, e_bi, e_tup, e_lst, lstK, tupK, e_ix, e_sl, eo_none, eo_some, in_int, e_mt, e_bits, bt_int, ng_int, e_comp, e_gc, es_nil, es_cons, tg_var, tg_tup, tg_sub, tgs_nil, tgs_cons, it_list, it_tup, it_rng1, it_rng2, it_enum, src_tup, src_fro, src_rng, src_enum, op_add, op_sub, op_mul, op_fdiv, op_mod, op_pow, op_shl, op_shr, op_addt, cm_lt, cm_le, cm_gt, cm_ge, cm_eq, cm_ne, cm_eq_bl, cm_ne_bl, cm_eq_str, cm_ne_str, tr_bl, tr_int, tr_non, ch_bl, cond_dec, cond_not, cond_t, cond_f, cond_ne, au_add, au_sub, b_len_tup, b_int, b_int_bl, b_abs, b_max, b_min, at_some, x_tup, isi_non_int, isi_non_bool, isi_non_str, isi_non_tuple, isi_non_list, isi_non_dict, isi_bl_int, isi_bl_bool, isi_bl_str, isi_bl_tuple, isi_bl_list, isi_bl_dict, isi_int_int, isi_int_bool, isi_int_str, isi_int_tuple, isi_int_list, isi_int_dict, isi_str_int, isi_str_bool, isi_str_str, isi_str_tuple, isi_str_list, isi_str_dict, isi_tup_int, isi_tup_bool, isi_tup_str, isi_tup_tuple, isi_tup_list, isi_tup_dict, isi_fro_int, isi_fro_bool, isi_fro_str, isi_fro_tuple, isi_fro_list, isi_fro_dict, PV.isNon, eq_self, decide_true, Bool.not_true, Bool.not_false, sl_fro, gc_pure, cl_lst, cl_dK, cx_ref, cx_str, cop_add, cb_len, cl_q, cm_append, cm_pop, pop_snoc, cm_extend, csrc, ctg, ixs, gc_ref, gc_ref0, e_dnew, e_get1, e_get2, cl_d, gd_ref, gd_str, cm_isin, cm_notin, intsK, e_sset, ssetK, b_sorted, m_insert, cb_sum, b_tuple_ref, b_tuple_tup, b_list_tup, b_list_ref, sl_tup, sl_ref, tr_tup, sizeLine_eq, Nat.reduceLeDiff, Int.reduceLT, Int.reduceLE, true_and, and_true, st_new0, st_newk, st_set0, st_setk, List.getElem?_cons_zero, List.getElem?_cons_succ, List.append_assoc, List.cons_append, List.nil_append, List.append_nil, List.length_append, List.length_cons, List.length_nil, Nat.zero_add, Nat.reduceAdd, List.set_cons_zero, List.set_cons_succ, stV, getV0, getVs, setV0, setVs, q_law_divided_w2]
    refine ⟨by omega, fun hd => ⟨⟨by omega, pylong_small (Nat.lt_trans pS (p2_lt (a := 61) (b := 9000) (by decide)))⟩, ?_⟩, fun hd => ?_⟩
    · rw [cmod_zero] at hd
      obtain ⟨c, hc⟩ := hd
      have hqq : w / p = c := by rw [hc]; exact Nat.mul_div_cancel_left c (by omega)
      have hc0 : 0 < c := Nat.pos_of_ne_zero fun e => by subst e; simp at hc; omega
      have h2 : 2 * c ≤ p * c := Nat.mul_le_mul_right c hp
      refine ⟨w / p, by omega, w / p, t + 1, _, rfl, ?_, by omega, rfl⟩
      rw [hqq, hm, hc, Nat.pow_succ]
      ac_rfl
    · rw [cmod_zero] at hd
      have ht : t < 60 := pow_small hp hm0' (by rw [← hm]; omega)
      have fp : ∀ i, i ≤ t / 2 → f * p ^ i ≤ x := fun i hi => by
        have a1 : p ^ i ≤ p ^ t := Nat.pow_le_pow_right (by omega) (by omega)
        have a2 : 1 * p ^ t ≤ w * p ^ t := Nat.mul_le_mul_right _ hm0'
        have a3 : f * p ^ i ≤ f * m := Nat.mul_le_mul_left f (by omega)
        have b1 : f * 1 ≤ f * f := Nat.mul_le_mul_left f hk.f0
        have b2 : f * f * 1 ≤ f * f * k := Nat.mul_le_mul_left _ hk.k0
        have a4 : f * m ≤ f * f * k * m := Nat.mul_le_mul_right m (by omega)
        have := hk.eq
        omega
      have sk := ki_step hk hp hm hd
      have sp := pi_step hq hp hm hd
      have hbs := fp (t / 2) (Nat.le_refl _)
      have e2 : ((p : Int) = 2) ↔ p = 2 := by omega
      have et : ((t : Int) % 2 = 1) ↔ t % 2 = 1 := by omega
      have e0 : ((0 : Int) < t) ↔ 0 < t := by omega
      have hf : w * 2 ^ (if 0 < t then ps ++ [p] else ps).length ≤ x := by
        by_cases h0 : 0 < t
        · rw [if_pos h0, List.length_append, List.length_singleton, Nat.pow_succ]
          have h1 : w * 2 ≤ m := by
            rw [hm]
            refine Nat.mul_le_mul_left w ?_
            obtain ⟨s, hs⟩ : ∃ s, t = s + 1 := ⟨t - 1, by omega⟩
            rw [hs, Nat.pow_succ]
            have : 1 * 2 ≤ p ^ s * p := Nat.mul_le_mul (Nat.pow_pos (by omega)) hp
            omega
          have h2 := Nat.mul_le_mul_right (2 ^ ps.length) h1
          rw [show w * (2 ^ ps.length * 2) = w * 2 * 2 ^ ps.length by ac_rfl]
          omega
        · rw [if_neg h0]
          have : w ≤ m := Nat.le_of_dvd hm0 ⟨p ^ t, hm⟩
          exact Nat.le_trans (Nat.mul_le_mul_right _ this) hfew
      have go : ∀ qs : List Nat, qs = (if 0 < t then ps ++ [p] else ps) → ∀ (N : PEnv → Bx → Prop) (D : Jn), (∀ o2, N [some (.int (w : Nat)), some (.int ((f * p ^ (t / 2) : Nat) : Int)), some (.int (k : Nat)), some (.ref M.length), some (.int (p : Nat)), some (.int (t : Nat)), o2] ⟨M ++ [.lst (pV qs)]⟩) → Fo (den T n) (QT.var 6) ⟨rngItems 0 ((t : Int) / 2 - 0).toNat, none⟩ q_law_divided_f3 [some (.int (w : Nat)), some (.int (f : Nat)), some (.int (k : Nat)), some (.ref M.length), some (.int (p : Nat)), some (.int (t : Nat)), o2] ⟨M ++ [.lst (pV qs)]⟩ N D := by
        intro qs _ N D hN
        refine fo_rule (fun i e B => ∃ (o2 : Option PV), e = [some (.int (w : Nat)), some (.int ((f * p ^ i : Nat) : Int)), some (.int (k : Nat)), some (.ref M.length), some (.int (p : Nat)), some (.int (t : Nat)), o2] ∧ B = ⟨M ++ [.lst (pV qs)]⟩) ⟨o2, by simp, rfl⟩ (fun _ _ _ _ _ => rfl) ?_ ?_
        · rintro i z e M' hz ⟨o2, rfl, eM⟩
          cases eM
          obtain ⟨rfl, hi⟩ := rng_get hz
          simp only [ss_nil, ss_cons, s_asgv, s_asgt, s_para, s_auga, s_exp, s_retE, s_retNon, s_if, s_while, s_fo, s_break, s_conti, s_ps, e_var, varK, e_int, e_bl, e_non, e_str, e_ty, e_bin, e_neg, e_cmp, e_chain, e_isN, e_notN, e_and, e_or, e_not, e_ite, e_call, e_callK, prm_some, e_bi, e_tup, e_lst, lstK, tupK, e_ix, e_sl, eo_none, eo_some, in_int, e_mt, e_bits, bt_int, ng_int, e_comp, e_gc, es_nil, es_cons, tg_var, tg_tup, tg_sub, tgs_nil, tgs_cons, it_list, it_tup, it_rng1, it_rng2, it_enum, src_tup, src_fro, src_rng, src_enum, op_add, op_sub, op_mul, op_fdiv, op_mod, op_pow, op_shl, op_shr, op_addt, cm_lt, cm_le, cm_gt, cm_ge, cm_eq, cm_ne, cm_eq_bl, cm_ne_bl, cm_eq_str, cm_ne_str, tr_bl, tr_int, tr_non, ch_bl, cond_dec, cond_not, cond_t, cond_f, cond_ne, au_add, au_sub, b_len_tup, b_int, b_int_bl, b_abs, b_max, b_min, at_some, x_tup, isi_non_int, isi_non_bool, isi_non_str, isi_non_tuple, isi_non_list, isi_non_dict, isi_bl_int, isi_bl_bool, isi_bl_str, isi_bl_tuple, isi_bl_list, isi_bl_dict, isi_int_int, isi_int_bool, isi_int_str, isi_int_tuple, isi_int_list, isi_int_dict, isi_str_int, isi_str_bool, isi_str_str, isi_str_tuple, isi_str_list, isi_str_dict, isi_tup_int, isi_tup_bool, isi_tup_str, isi_tup_tuple, isi_tup_list, isi_tup_dict, isi_fro_int, isi_fro_bool, isi_fro_str, isi_fro_tuple, isi_fro_list, isi_fro_dict, PV.isNon, eq_self, decide_true, Bool.not_true, Bool.not_false, sl_fro, gc_pure, cl_lst, cl_dK, cx_ref, cx_str, cop_add, cb_len, cl_q, cm_append, cm_pop, pop_snoc, cm_extend, csrc, ctg, ixs, gc_ref, gc_ref0, e_dnew, e_get1, e_get2, cl_d, gd_ref, gd_str, cm_isin, cm_notin, intsK, e_sset, ssetK, b_sorted, m_insert, cb_sum, b_tuple_ref, b_tuple_tup, b_list_tup, b_list_ref, sl_tup, sl_ref, tr_tup, sizeLine_eq, Nat.reduceLeDiff, Int.reduceLT, Int.reduceLE, true_and, and_true, st_new0, st_newk, st_set0, st_setk, List.getElem?_cons_zero, List.getElem?_cons_succ, List.append_assoc, List.cons_append, List.nil_append, List.append_nil, List.length_append, List.length_cons, List.length_nil, Nat.zero_add, Nat.reduceAdd, List.set_cons_zero, List.set_cons_succ, stV, getV0, getVs, setV0, setVs, q_law_divided_f3]
          have := fp i (by omega)
          refine ⟨cmul (abs_nat (k := 60) (by omega)) pS (by decide), some (.int (0 + i)), ?_⟩
          rw [Nat.pow_succ, Int.natCast_mul, Int.natCast_mul, Int.natCast_mul, Int.mul_assoc]
        · rintro e M' ⟨o2, rfl, eM⟩
          cases eM
          have el : (rngItems 0 ((t : Int) / 2 - 0).toNat).length = t / 2 := by rw [rng_len]; omega
          rw [el]
          exact hN o2
      have fin : ∀ (qs : List Nat) (o2 : Option PV), qs = (if 0 < t then ps ++ [p] else ps) → ∀ (k' : Nat), k' = (if t % 2 = 1 then k * p else k) → ∀ (p' : Nat), (p' = if p = 2 then p + 1 else p + 2) → ∃ m_1, m_1 < x + 3 - p ∧ ∃ (f_1 k_1 m_2 p_1 : Nat) (ps_1 : List Nat) (o1 o2_1 : Option PV), [some (PV.int (w : Nat)), some (.int ((f * p ^ (t / 2) : Nat) : Int)), some (.int (k' : Nat)), some (.ref M.length), some (.int (p' : Nat)), some (.int (t : Nat)), o2] = [some (PV.int (m_2 : Nat)), some (.int (f_1 : Nat)), some (.int (k_1 : Nat)), some (.ref M.length), some (.int (p_1 : Nat)), o1, o2_1] ∧ (⟨M ++ [.lst (pV qs)]⟩ : Bx) = ⟨M ++ [.lst (pV ps_1)]⟩ ∧ KI x f_1 k_1 m_2 p_1 ∧ PI x ps_1 m_2 p_1 ∧ m_2 * 2 ^ ps_1.length ≤ x ∧ 2 ≤ p_1 ∧ (p_1 = 2 ∨ p_1 % 2 = 1) ∧ p_1 ≤ x + 2 ∧ m_1 = x + 3 - p_1 := by
        rintro qs o2 rfl k' rfl p' rfl
        by_cases h2 : p = 2
        · rw [if_pos h2]
          exact ⟨_, by omega, _, _, w, p + 1, _, some (.int (t : Nat)), o2, rfl, rfl, sk, sp, hf, by omega, by omega, by omega, rfl⟩
        · rw [if_neg h2]
          exact ⟨_, by omega, _, _, w, p + 2, _, some (.int (t : Nat)), o2, rfl, rfl, ki_skip sk (by omega) (by omega), pi_skip sp (by omega) (by omega), hf, by omega, by omega, by omega, rfl⟩
      have tail : ∀ (qs : List Nat) (o2 : Option PV), qs = (if 0 < t then ps ++ [p] else ps) → ((t % 2 = 1 → CMulW (k : Int) (p : Int) ∧ ∀ p' : Nat, (p' = if p = 2 then p + 1 else p + 2) → True) ∧ True) := fun _ _ _ => ⟨fun _ => ⟨cmul (abs_nat (k := 60) (by omega)) pS (by decide), fun _ _ => trivial⟩, trivial⟩
      simp only [e0]
      refine ⟨fun h0 => ⟨by rw [pV_len]; omega, pylong_small (by decide +kernel), ⟨by omega, by omega⟩, ?_⟩, fun h0 => ⟨pylong_small (by decide +kernel), ⟨by omega, by omega⟩, ?_⟩⟩
      · have ea : pV ps ++ [PV.int (p : Int)] = pV (ps ++ [p]) := by rw [pV_app]; rfl
        rw [ea]
        refine go (ps ++ [p]) (by rw [if_pos h0]) _ _ fun o2 => ?_
        simp only [ss_nil, ss_cons, s_asgv, s_asgt, s_para, s_auga, s_exp, s_retE, s_retNon, s_if, s_while, s_fo, s_break, s_conti, s_ps, e_var, varK, e_int, e_bl, e_non, e_str, e_ty, e_bin, e_neg, e_cmp, e_chain, e_isN, e_notN, e_and, e_or, e_not, e_ite, e_call, e_callK, prm_some, e_bi, e_tup, e_lst, lstK, tupK, e_ix, e_sl, eo_none, eo_some, in_int, e_mt, e_bits, bt_int, ng_int, e_comp, e_gc, es_nil, es_cons, tg_var, tg_tup, tg_sub, tgs_nil, tgs_cons, it_list, it_tup, it_rng1, it_rng2, it_enum, src_tup, src_fro, src_rng, src_enum, op_add, op_sub, op_mul, op_fdiv, op_mod, op_pow, op_shl, op_shr, op_addt, cm_lt, cm_le, cm_gt, cm_ge, cm_eq, cm_ne, cm_eq_bl, cm_ne_bl, cm_eq_str, cm_ne_str, tr_bl, tr_int, tr_non, ch_bl, cond_dec, cond_not, cond_t, cond_f, cond_ne, au_add, au_sub, b_len_tup, b_int, b_int_bl, b_abs, b_max, b_min, at_some, x_tup, isi_non_int, isi_non_bool, isi_non_str, isi_non_tuple, isi_non_list, isi_non_dict, isi_bl_int, isi_bl_bool, isi_bl_str, isi_bl_tuple, isi_bl_list, isi_bl_dict, isi_int_int, isi_int_bool, isi_int_str, isi_int_tuple, isi_int_list, isi_int_dict, isi_str_int, isi_str_bool, isi_str_str, isi_str_tuple, isi_str_list, isi_str_dict, isi_tup_int, isi_tup_bool, isi_tup_str, isi_tup_tuple, isi_tup_list, isi_tup_dict, isi_fro_int, isi_fro_bool, isi_fro_str, isi_fro_tuple, isi_fro_list, isi_fro_dict, PV.isNon, eq_self, decide_true, Bool.not_true, Bool.not_false, sl_fro, gc_pure, cl_lst, cl_dK, cx_ref, cx_str, cop_add, cb_len, cl_q, cm_append, cm_pop, pop_snoc, cm_extend, csrc, ctg, ixs, gc_ref, gc_ref0, e_dnew, e_get1, e_get2, cl_d, gd_ref, gd_str, cm_isin, cm_notin, intsK, e_sset, ssetK, b_sorted, m_insert, cb_sum, b_tuple_ref, b_tuple_tup, b_list_tup, b_list_ref, sl_tup, sl_ref, tr_tup, sizeLine_eq, Nat.reduceLeDiff, Int.reduceLT, Int.reduceLE, true_and, and_true, st_new0, st_newk, st_set0, st_setk, List.getElem?_cons_zero, List.getElem?_cons_succ, List.append_assoc, List.cons_append, List.nil_append, List.append_nil, List.length_append, List.length_cons, List.length_nil, Nat.zero_add, Nat.reduceAdd, List.set_cons_zero, List.set_cons_succ, stV, getV0, getVs, setV0, setVs, e2, et]
        refine ⟨fun h => ⟨cmul (abs_nat (k := 60) (by omega)) pS (by decide), fun h2 => ?_, fun h2 => ?_⟩, fun h => ⟨fun h2 => ?_, fun h2 => ?_⟩⟩
        · exact fin (ps ++ [p]) o2 (by rw [if_pos h0]) (k * p) (by rw [if_pos h]) (p + 1) (by rw [if_pos h2])
        · exact fin (ps ++ [p]) o2 (by rw [if_pos h0]) (k * p) (by rw [if_pos h]) (p + 2) (by rw [if_neg h2])
        · exact fin (ps ++ [p]) o2 (by rw [if_pos h0]) k (by rw [if_neg h]) (p + 1) (by rw [if_pos h2])
        · exact fin (ps ++ [p]) o2 (by rw [if_pos h0]) k (by rw [if_neg h]) (p + 2) (by rw [if_neg h2])
      · refine go ps (by rw [if_neg h0]) _ _ fun o2 => ?_
        simp only [ss_nil, ss_cons, s_asgv, s_asgt, s_para, s_auga, s_exp, s_retE, s_retNon, s_if, s_while, s_fo, s_break, s_conti, s_ps, e_var, varK, e_int, e_bl, e_non, e_str, e_ty, e_bin, e_neg, e_cmp, e_chain, e_isN, e_notN, e_and, e_or, e_not, e_ite, e_call, e_callK, prm_some, e_bi, e_tup, e_lst, lstK, tupK, e_ix, e_sl, eo_none, eo_some, in_int, e_mt, e_bits, bt_int, ng_int, e_comp, e_gc, es_nil, es_cons, tg_var, tg_tup, tg_sub, tgs_nil, tgs_cons, it_list, it_tup, it_rng1, it_rng2, it_enum, src_tup, src_fro, src_rng, src_enum, op_add, op_sub, op_mul, op_fdiv, op_mod, op_pow, op_shl, op_shr, op_addt, cm_lt, cm_le, cm_gt, cm_ge, cm_eq, cm_ne, cm_eq_bl, cm_ne_bl, cm_eq_str, cm_ne_str, tr_bl, tr_int, tr_non, ch_bl, cond_dec, cond_not, cond_t, cond_f, cond_ne, au_add, au_sub, b_len_tup, b_int, b_int_bl, b_abs, b_max, b_min, at_some, x_tup, isi_non_int, isi_non_bool, isi_non_str, isi_non_tuple, isi_non_list, isi_non_dict, isi_bl_int, isi_bl_bool, isi_bl_str, isi_bl_tuple, isi_bl_list, isi_bl_dict, isi_int_int, isi_int_bool, isi_int_str, isi_int_tuple, isi_int_list, isi_int_dict, isi_str_int, isi_str_bool, isi_str_str, isi_str_tuple, isi_str_list, isi_str_dict, isi_tup_int, isi_tup_bool, isi_tup_str, isi_tup_tuple, isi_tup_list, isi_tup_dict, isi_fro_int, isi_fro_bool, isi_fro_str, isi_fro_tuple, isi_fro_list, isi_fro_dict, PV.isNon, eq_self, decide_true, Bool.not_true, Bool.not_false, sl_fro, gc_pure, cl_lst, cl_dK, cx_ref, cx_str, cop_add, cb_len, cl_q, cm_append, cm_pop, pop_snoc, cm_extend, csrc, ctg, ixs, gc_ref, gc_ref0, e_dnew, e_get1, e_get2, cl_d, gd_ref, gd_str, cm_isin, cm_notin, intsK, e_sset, ssetK, b_sorted, m_insert, cb_sum, b_tuple_ref, b_tuple_tup, b_list_tup, b_list_ref, sl_tup, sl_ref, tr_tup, sizeLine_eq, Nat.reduceLeDiff, Int.reduceLT, Int.reduceLE, true_and, and_true, st_new0, st_newk, st_set0, st_setk, List.getElem?_cons_zero, List.getElem?_cons_succ, List.append_assoc, List.cons_append, List.nil_append, List.append_nil, List.length_append, List.length_cons, List.length_nil, Nat.zero_add, Nat.reduceAdd, List.set_cons_zero, List.set_cons_succ, stV, getV0, getVs, setV0, setVs, e2, et]
        refine ⟨fun h => ⟨cmul (abs_nat (k := 60) (by omega)) pS (by decide), fun h2 => ?_, fun h2 => ?_⟩, fun h => ⟨fun h2 => ?_, fun h2 => ?_⟩⟩
        · exact fin ps o2 (by rw [if_neg h0]) (k * p) (by rw [if_pos h]) (p + 1) (by rw [if_pos h2])
        · exact fin ps o2 (by rw [if_neg h0]) (k * p) (by rw [if_pos h]) (p + 2) (by rw [if_neg h2])
        · exact fin ps o2 (by rw [if_neg h0]) k (by rw [if_neg h]) (p + 1) (by rw [if_pos h2])
        · exact fin ps o2 (by rw [if_neg h0]) k (by rw [if_neg h]) (p + 2) (by rw [if_neg h2])
  · have hlt2 : m < p * p := by
      have : (m : Int) < ((p * p : Nat) : Int) := by rw [Int.natCast_mul]; omega
      omega
    have en := pi_end hq hlt2
    have ek := ki_end1 hk hlt2
    refine ⟨fun h => ⟨by rw [pV_len]; omega, cmul (abs_nat (k := 60) (by omega)) (abs_nat (k := 60) (by omega)) (by decide), ?_⟩, fun h => ?_⟩
    · rw [if_pos (by omega)] at en
      have ea : pV ps ++ [PV.int (m : Int)] = pV (ps ++ [m]) := by rw [pV_app]; rfl
      have eb : (k : Int) * (m : Int) = ((k * m : Nat) : Int) := rfl
      rw [ea, eb, gc_drop low_div]
      exact ⟨rfl, f, k * m, ps ++ [m], rfl, ek, en, by simp; omega⟩
    · rw [if_neg (by omega)] at en
      rw [gc_drop low_div]
      have : m = 1 := by omega
      subst this
      rw [Nat.mul_one] at ek
      exact ⟨rfl, f, k, ps, rfl, ek, en, by omega⟩
end Q

namespace Q
open PySem PySem.Spec PyProof.Rows L2
/-! the draws -/
theorem law_draw_do {T : Nat → Option QF} (h0 : T 41 = some q_law_draw_v1) {n : Nat} {M : Store} {p d : Nat} {many : Int} (hd : Dice p d M) (hm : 0 < many) :
    Does T (n + 1) 41 [.ref d, .int many] M fun v M' => ∃ z : Int, v = .int z ∧ 0 ≤ z ∧ z < many ∧ Evo p d M M' := by
  have hlt := hd.lt
  obtain ⟨hn, m, k, pool, h1, h2, hm0, hm1, hk, hp⟩ := hd
  have hne : d ≠ p := by omega
  refine does_of h0 rfl rfl ?_
  have s1 := set_self (c := .lst [.int m, .int (k + 1), .ref p]) h1
  have s2 : (M.set d (.lst [.int m, .int (k + 1), .ref p]))[p]? = some (.lst (pool.map .int)) := by rw [set_other hne]; exact h2
  simp only [ss_nil, ss_cons, s_asgv, s_asgt, s_para, s_auga, s_exp, s_retE, s_retNon, s_if, s_while, s_fo, s_break, s_conti, s_ps, e_var, varK, e_int, e_bl, e_non, e_str, e_ty, e_bin, e_neg, e_cmp, e_chain, e_isN, e_notN, e_and, e_or, e_not, e_ite, e_call, e_callK, prm_some, e_bi, e_tup, e_lst, lstK, tupK, e_ix, e_sl, eo_none, eo_some, in_int, e_mt, e_bits, bt_int, ng_int, e_comp, e_gc, es_nil, es_cons, tg_var, tg_tup, tg_sub, tgs_nil, tgs_cons, it_list, it_tup, it_rng1, it_rng2, it_enum, src_tup, src_fro, src_rng, src_enum, op_add, op_sub, op_mul, op_fdiv, op_mod, op_pow, op_shl, op_shr, op_addt, cm_lt, cm_le, cm_gt, cm_ge, cm_eq, cm_ne, cm_eq_bl, cm_ne_bl, cm_eq_str, cm_ne_str, tr_bl, tr_int, tr_non, ch_bl, cond_dec, cond_not, cond_t, cond_f, cond_ne, au_add, au_sub, b_len_tup, b_int, b_int_bl, b_abs, b_max, b_min, at_some, x_tup, isi_non_int, isi_non_bool, isi_non_str, isi_non_tuple, isi_non_list, isi_non_dict, isi_bl_int, isi_bl_bool, isi_bl_str, isi_bl_tuple, isi_bl_list, isi_bl_dict, isi_int_int, isi_int_bool, isi_int_str, isi_int_tuple, isi_int_list, isi_int_dict, isi_str_int, isi_str_bool, isi_str_str, isi_str_tuple, isi_str_list, isi_str_dict, isi_tup_int, isi_tup_bool, isi_tup_str, isi_tup_tuple, isi_tup_list, isi_tup_dict, isi_fro_int, isi_fro_bool, isi_fro_str, isi_fro_tuple, isi_fro_list, isi_fro_dict, PV.isNon, eq_self, decide_true, Bool.not_true, Bool.not_false, sl_fro, gc_pure, cl_lst, cl_dK, cx_ref, cx_str, cop_add, cb_len, cl_q, cm_append, cm_pop, pop_snoc, cm_extend, csrc, ctg, ixs, gc_ref, gc_ref0, e_dnew, e_get1, e_get2, cl_d, gd_ref, gd_str, cm_isin, cm_notin, intsK, e_sset, ssetK, b_sorted, m_insert, cb_sum, b_tuple_ref, b_tuple_tup, b_list_tup, b_list_ref, sl_tup, sl_ref, tr_tup, sizeLine_eq, Nat.reduceLeDiff, Int.reduceLT, Int.reduceLE, true_and, and_true, st_new0, st_newk, st_set0, st_setk, List.getElem?_cons_zero, List.getElem?_cons_succ, List.append_assoc, List.cons_append, List.nil_append, List.append_nil, List.length_append, List.length_cons, List.length_nil, Nat.zero_add, Nat.reduceAdd, List.set_cons_zero, List.set_cons_succ, stV, getV0, getVs, setV0, setVs, q_law_draw_v1, h1, at1, se_lst h1 (i := 1) (j := 1) rfl, s1, at2, s2, List.length_map]
  refine ⟨fun hlt2 => ?_, fun hge => ?_⟩
  · obtain ⟨v, hv, hmem⟩ := at_in (xs := pool.map PV.int) (i := k) hk (by rw [List.length_map]; exact hlt2)
    rw [hv]
    obtain ⟨z, hz, rfl⟩ := List.mem_map.mp hmem
    simp only [ss_nil, ss_cons, s_asgv, s_asgt, s_para, s_auga, s_exp, s_retE, s_retNon, s_if, s_while, s_fo, s_break, s_conti, s_ps, e_var, varK, e_int, e_bl, e_non, e_str, e_ty, e_bin, e_neg, e_cmp, e_chain, e_isN, e_notN, e_and, e_or, e_not, e_ite, e_call, e_callK, prm_some, e_bi, e_tup, e_lst, lstK, tupK, e_ix, e_sl, eo_none, eo_some, in_int, e_mt, e_bits, bt_int, ng_int, e_comp, e_gc, es_nil, es_cons, tg_var, tg_tup, tg_sub, tgs_nil, tgs_cons, it_list, it_tup, it_rng1, it_rng2, it_enum, src_tup, src_fro, src_rng, src_enum, op_add, op_sub, op_mul, op_fdiv, op_mod, op_pow, op_shl, op_shr, op_addt, cm_lt, cm_le, cm_gt, cm_ge, cm_eq, cm_ne, cm_eq_bl, cm_ne_bl, cm_eq_str, cm_ne_str, tr_bl, tr_int, tr_non, ch_bl, cond_dec, cond_not, cond_t, cond_f, cond_ne, au_add, au_sub, b_len_tup, b_int, b_int_bl, b_abs, b_max, b_min, at_some, x_tup, isi_non_int, isi_non_bool, isi_non_str, isi_non_tuple, isi_non_list, isi_non_dict, isi_bl_int, isi_bl_bool, isi_bl_str, isi_bl_tuple, isi_bl_list, isi_bl_dict, isi_int_int, isi_int_bool, isi_int_str, isi_int_tuple, isi_int_list, isi_int_dict, isi_str_int, isi_str_bool, isi_str_str, isi_str_tuple, isi_str_list, isi_str_dict, isi_tup_int, isi_tup_bool, isi_tup_str, isi_tup_tuple, isi_tup_list, isi_tup_dict, isi_fro_int, isi_fro_bool, isi_fro_str, isi_fro_tuple, isi_fro_list, isi_fro_dict, PV.isNon, eq_self, decide_true, Bool.not_true, Bool.not_false, sl_fro, gc_pure, cl_lst, cl_dK, cx_ref, cx_str, cop_add, cb_len, cl_q, cm_append, cm_pop, pop_snoc, cm_extend, csrc, ctg, ixs, gc_ref, gc_ref0, e_dnew, e_get1, e_get2, cl_d, gd_ref, gd_str, cm_isin, cm_notin, intsK, e_sset, ssetK, b_sorted, m_insert, cb_sum, b_tuple_ref, b_tuple_tup, b_list_tup, b_list_ref, sl_tup, sl_ref, tr_tup, sizeLine_eq, Nat.reduceLeDiff, Int.reduceLT, Int.reduceLE, true_and, and_true, st_new0, st_newk, st_set0, st_setk, List.getElem?_cons_zero, List.getElem?_cons_succ, List.append_assoc, List.cons_append, List.nil_append, List.append_nil, List.length_append, List.length_cons, List.length_nil, Nat.zero_add, Nat.reduceAdd, List.set_cons_zero, List.set_cons_succ, stV, getV0, getVs, setV0, setVs]
    refine ⟨hm, ?_⟩
    have ev : Evo p d M (M.set d (.lst [.int m, .int (k + 1), .ref p])) := ⟨List.length_set, fun i hi => set_other (Ne.symm hi), hn, m, k + 1, pool, s1, s2, hm0, hm1, by omega, hp⟩
    rw [ev.gc0]
    exact ⟨_, rfl, Int.emod_nonneg _ (by omega), Int.emod_lt_of_pos _ hm, ev⟩
  · have hmn : m.natAbs < 2 ^ 31 := by omega
    have s3 := set_self (c := .lst [.int ((m * 39373 + 223) % 2147483647), .int (k + 1), .ref p]) s1
    simp only [ss_nil, ss_cons, s_asgv, s_asgt, s_para, s_auga, s_exp, s_retE, s_retNon, s_if, s_while, s_fo, s_break, s_conti, s_ps, e_var, varK, e_int, e_bl, e_non, e_str, e_ty, e_bin, e_neg, e_cmp, e_chain, e_isN, e_notN, e_and, e_or, e_not, e_ite, e_call, e_callK, prm_some, e_bi, e_tup, e_lst, lstK, tupK, e_ix, e_sl, eo_none, eo_some, in_int, e_mt, e_bits, bt_int, ng_int, e_comp, e_gc, es_nil, es_cons, tg_var, tg_tup, tg_sub, tgs_nil, tgs_cons, it_list, it_tup, it_rng1, it_rng2, it_enum, src_tup, src_fro, src_rng, src_enum, op_add, op_sub, op_mul, op_fdiv, op_mod, op_pow, op_shl, op_shr, op_addt, cm_lt, cm_le, cm_gt, cm_ge, cm_eq, cm_ne, cm_eq_bl, cm_ne_bl, cm_eq_str, cm_ne_str, tr_bl, tr_int, tr_non, ch_bl, cond_dec, cond_not, cond_t, cond_f, cond_ne, au_add, au_sub, b_len_tup, b_int, b_int_bl, b_abs, b_max, b_min, at_some, x_tup, isi_non_int, isi_non_bool, isi_non_str, isi_non_tuple, isi_non_list, isi_non_dict, isi_bl_int, isi_bl_bool, isi_bl_str, isi_bl_tuple, isi_bl_list, isi_bl_dict, isi_int_int, isi_int_bool, isi_int_str, isi_int_tuple, isi_int_list, isi_int_dict, isi_str_int, isi_str_bool, isi_str_str, isi_str_tuple, isi_str_list, isi_str_dict, isi_tup_int, isi_tup_bool, isi_tup_str, isi_tup_tuple, isi_tup_list, isi_tup_dict, isi_fro_int, isi_fro_bool, isi_fro_str, isi_fro_tuple, isi_fro_list, isi_fro_dict, PV.isNon, eq_self, decide_true, Bool.not_true, Bool.not_false, sl_fro, gc_pure, cl_lst, cl_dK, cx_ref, cx_str, cop_add, cb_len, cl_q, cm_append, cm_pop, pop_snoc, cm_extend, csrc, ctg, ixs, gc_ref, gc_ref0, e_dnew, e_get1, e_get2, cl_d, gd_ref, gd_str, cm_isin, cm_notin, intsK, e_sset, ssetK, b_sorted, m_insert, cb_sum, b_tuple_ref, b_tuple_tup, b_list_tup, b_list_ref, sl_tup, sl_ref, tr_tup, sizeLine_eq, Nat.reduceLeDiff, Int.reduceLT, Int.reduceLE, true_and, and_true, st_new0, st_newk, st_set0, st_setk, List.getElem?_cons_zero, List.getElem?_cons_succ, List.append_assoc, List.cons_append, List.nil_append, List.append_nil, List.length_append, List.length_cons, List.length_nil, Nat.zero_add, Nat.reduceAdd, List.set_cons_zero, List.set_cons_succ, stV, getV0, getVs, setV0, setVs, at0, se_lst s1 (i := 0) (j := 0) rfl, s3]
    refine ⟨cmul hmn (b := 16) (by decide) (by decide), pylong_small (by decide +kernel), hm, ?_⟩
    have hr0 := Int.emod_nonneg (m * 39373 + 223) (b := 2147483647) (by decide)
    have hr1 := Int.emod_lt_of_pos (m * 39373 + 223) (b := 2147483647) (by decide)
    have ev : Evo p d M ((M.set d (.lst [.int m, .int (k + 1), .ref p])).set d (.lst [.int ((m * 39373 + 223) % 2147483647), .int (k + 1), .ref p])) :=
      ⟨by rw [List.length_set, List.length_set], fun i hi => by rw [set_other (Ne.symm hi), set_other (Ne.symm hi)], hn, _, k + 1, pool, s3, by rw [set_other hne]; exact s2, hr0, hr1, by omega, hp⟩
    rw [ev.gc0]
    exact ⟨_, rfl, Int.emod_nonneg _ (by omega), Int.emod_lt_of_pos _ hm, ev⟩
theorem enumF_get : ∀ {xs : List PV} {k i : Nat} {x : PV}, (enumFrom k xs)[i]? = some x → ∃ y, xs[i]? = some y ∧ x = .tup [.int ((k + i : Nat) : Int), y]
  | [], k, i, x, h => by simp [enumFrom] at h
  | y :: xs, k, 0, x, h => by
    simp [enumFrom] at h
    exact ⟨y, rfl, by simp [h]⟩
  | y :: xs, k, i + 1, x, h => by
    unfold enumFrom at h
    obtain ⟨z, h1, h2⟩ := enumF_get (i := i) (k := k + 1) (by simpa using h)
    exact ⟨z, by simpa using h1, by rw [h2]; congr 4; omega⟩
theorem enumF_len : ∀ {xs : List PV} {k : Nat}, (enumFrom k xs).length = xs.length
  | [], _ => rfl
  | x :: xs, k => by
    unfold enumFrom
    rw [List.length_cons, List.length_cons, enumF_len]
theorem cut_mem {α : Type} {xs : List α} {lo hi : Option Int} {x : α} (h : x ∈ cutL xs lo hi) : x ∈ xs := by
  unfold cutL at h
  exact List.mem_of_mem_drop (List.mem_of_mem_take h)
theorem cut_len {α : Type} {xs : List α} {lo hi : Option Int} : (cutL xs lo hi).length ≤ xs.length := by
  unfold cutL
  rw [List.length_take, List.length_drop]
  omega
theorem law_dice_do {T : Nat → Option QF} (h3 : T 40 = some q_law_dice_v1) {n : Nat} {M : Store} {ns : List Int} (hl : ns.length ≤ 63) :
    Does T (n + 1) 40 [.fro ns] M fun v M' => v = .ref (M.length + 2) ∧ ∃ c0 c1 c2 : Cell, M' = M ++ [c0, c1, c2] ∧ Dice M.length (M.length + 2) M' := by
  refine does_of h3 rfl rfl ?_
  simp only [ss_nil, ss_cons, s_asgv, s_asgt, s_para, s_auga, s_exp, s_retE, s_retNon, s_if, s_while, s_fo, s_break, s_conti, s_ps, e_var, varK, e_int, e_bl, e_non, e_str, e_ty, e_bin, e_neg, e_cmp, e_chain, e_isN, e_notN, e_and, e_or, e_not, e_ite, e_call, e_callK, prm_some, e_bi, e_tup, e_lst, lstK, tupK, e_ix, e_sl, eo_none, eo_some, in_int, e_mt, e_bits, bt_int, ng_int, e_comp, e_gc, es_nil, es_cons, tg_var, tg_tup, tg_sub, tgs_nil, tgs_cons, it_list, it_tup, it_rng1, it_rng2, it_enum, src_tup, src_fro, src_rng, src_enum, op_add, op_sub, op_mul, op_fdiv, op_mod, op_pow, op_shl, op_shr, op_addt, cm_lt, cm_le, cm_gt, cm_ge, cm_eq, cm_ne, cm_eq_bl, cm_ne_bl, cm_eq_str, cm_ne_str, tr_bl, tr_int, tr_non, ch_bl, cond_dec, cond_not, cond_t, cond_f, cond_ne, au_add, au_sub, b_len_tup, b_int, b_int_bl, b_abs, b_max, b_min, at_some, x_tup, isi_non_int, isi_non_bool, isi_non_str, isi_non_tuple, isi_non_list, isi_non_dict, isi_bl_int, isi_bl_bool, isi_bl_str, isi_bl_tuple, isi_bl_list, isi_bl_dict, isi_int_int, isi_int_bool, isi_int_str, isi_int_tuple, isi_int_list, isi_int_dict, isi_str_int, isi_str_bool, isi_str_str, isi_str_tuple, isi_str_list, isi_str_dict, isi_tup_int, isi_tup_bool, isi_tup_str, isi_tup_tuple, isi_tup_list, isi_tup_dict, isi_fro_int, isi_fro_bool, isi_fro_str, isi_fro_tuple, isi_fro_list, isi_fro_dict, PV.isNon, eq_self, decide_true, Bool.not_true, Bool.not_false, sl_fro, gc_pure, cl_lst, cl_dK, cx_ref, cx_str, cop_add, cb_len, cl_q, cm_append, cm_pop, pop_snoc, cm_extend, csrc, ctg, ixs, gc_ref, gc_ref0, e_dnew, e_get1, e_get2, cl_d, gd_ref, gd_str, cm_isin, cm_notin, intsK, e_sset, ssetK, b_sorted, m_insert, cb_sum, b_tuple_ref, b_tuple_tup, b_list_tup, b_list_ref, sl_tup, sl_ref, tr_tup, sizeLine_eq, Nat.reduceLeDiff, Int.reduceLT, Int.reduceLE, true_and, and_true, st_new0, st_newk, st_set0, st_setk, List.getElem?_cons_zero, List.getElem?_cons_succ, List.append_assoc, List.cons_append, List.nil_append, List.append_nil, List.length_append, List.length_cons, List.length_nil, Nat.zero_add, Nat.reduceAdd, List.set_cons_zero, List.set_cons_succ, stV, getV0, getVs, setV0, setVs, q_law_dice_v1]
  have hsl : (cutL (ns.map PV.int) none (some 63)).length ≤ 63 := Nat.le_trans cut_len (by rw [List.length_map]; exact hl)
  have hmem : ∀ y ∈ cutL (ns.map PV.int) none (some 63), ∃ g : Int, y = .int g := fun y hy => by
    obtain ⟨g, _, e⟩ := List.mem_map.mp (cut_mem hy)
    exact ⟨g, e.symm⟩
  generalize cutL (ns.map PV.int) none (some 63) = sl at hsl hmem
  refine fo_rule (fun i e B => ∃ (mixed : Int) (pool : List Int) (o3 o4 o5 o6 o7 : Option PV), e = [some (.fro ns), some (.int mixed), some (.ref M.length), o3, o4, o5, o6, o7] ∧ B = ⟨M ++ [.lst (pool.map .int), .lst sl]⟩ ∧ 0 ≤ mixed ∧ mixed < 2147483647 ∧ (∀ z ∈ pool, 0 ≤ z ∧ z < 1000) ∧ pool.length ≤ 20 * i)
    ⟨2347, [], none, none, none, none, none, rfl, rfl, by decide, by decide, (fun z hz => nomatch hz), by simp⟩ ?_ ?_ ?_
  · rintro i e M' hi ⟨mixed, pool, o3, o4, o5, o6, o7, rfl, eM, _⟩
    cases eM
    unfold Src.still
    dsimp only
    rw [st_newk]
    exact Cell.beq_refl _
  · rintro i x e M' hx ⟨mixed, pool, o3, o4, o5, o6, o7, rfl, eM, hm0, hm1, hp, hpl⟩
    cases eM
    obtain ⟨y, hy, rfl⟩ := enumF_get hx
    have hi : i < 63 := Nat.lt_of_lt_of_le (List.getElem?_eq_some_iff.mp hy).1 hsl
    obtain ⟨g, rfl⟩ := hmem y (List.mem_of_getElem? hy)
    have p60 : (10 : Int) ^ (Int.toNat 60) = 1000000000000000000000000000000000000000000000000000000000000 := by decide
    have p18 : (10 : Int) ^ (Int.toNat 18) = 1000000000000000000 := by decide
    simp only [ss_nil, ss_cons, s_asgv, s_asgt, s_para, s_auga, s_exp, s_retE, s_retNon, s_if, s_while, s_fo, s_break, s_conti, s_ps, e_var, varK, e_int, e_bl, e_non, e_str, e_ty, e_bin, e_neg, e_cmp, e_chain, e_isN, e_notN, e_and, e_or, e_not, e_ite, e_call, e_callK, prm_some, e_bi, e_tup, e_lst, lstK, tupK, e_ix, e_sl, eo_none, eo_some, in_int, e_mt, e_bits, bt_int, ng_int, e_comp, e_gc, es_nil, es_cons, tg_var, tg_tup, tg_sub, tgs_nil, tgs_cons, it_list, it_tup, it_rng1, it_rng2, it_enum, src_tup, src_fro, src_rng, src_enum, op_add, op_sub, op_mul, op_fdiv, op_mod, op_pow, op_shl, op_shr, op_addt, cm_lt, cm_le, cm_gt, cm_ge, cm_eq, cm_ne, cm_eq_bl, cm_ne_bl, cm_eq_str, cm_ne_str, tr_bl, tr_int, tr_non, ch_bl, cond_dec, cond_not, cond_t, cond_f, cond_ne, au_add, au_sub, b_len_tup, b_int, b_int_bl, b_abs, b_max, b_min, at_some, x_tup, isi_non_int, isi_non_bool, isi_non_str, isi_non_tuple, isi_non_list, isi_non_dict, isi_bl_int, isi_bl_bool, isi_bl_str, isi_bl_tuple, isi_bl_list, isi_bl_dict, isi_int_int, isi_int_bool, isi_int_str, isi_int_tuple, isi_int_list, isi_int_dict, isi_str_int, isi_str_bool, isi_str_str, isi_str_tuple, isi_str_list, isi_str_dict, isi_tup_int, isi_tup_bool, isi_tup_str, isi_tup_tuple, isi_tup_list, isi_tup_dict, isi_fro_int, isi_fro_bool, isi_fro_str, isi_fro_tuple, isi_fro_list, isi_fro_dict, PV.isNon, eq_self, decide_true, Bool.not_true, Bool.not_false, sl_fro, gc_pure, cl_lst, cl_dK, cx_ref, cx_str, cop_add, cb_len, cl_q, cm_append, cm_pop, pop_snoc, cm_extend, csrc, ctg, ixs, gc_ref, gc_ref0, e_dnew, e_get1, e_get2, cl_d, gd_ref, gd_str, cm_isin, cm_notin, intsK, e_sset, ssetK, b_sorted, m_insert, cb_sum, b_tuple_ref, b_tuple_tup, b_list_tup, b_list_ref, sl_tup, sl_ref, tr_tup, sizeLine_eq, Nat.reduceLeDiff, Int.reduceLT, Int.reduceLE, true_and, and_true, st_new0, st_newk, st_set0, st_setk, List.getElem?_cons_zero, List.getElem?_cons_succ, List.append_assoc, List.cons_append, List.nil_append, List.append_nil, List.length_append, List.length_cons, List.length_nil, Nat.zero_add, Nat.reduceAdd, List.set_cons_zero, List.set_cons_succ, stV, getV0, getVs, setV0, setVs, q_law_dice_v1_f1, p60, p18]
    have hg0 : (0 : Int) ≤ g % 1000000000000000000000000000000000000000000000000000000000000 := Int.emod_nonneg _ (by decide)
    have hg1 : g % 1000000000000000000000000000000000000000000000000000000000000 < 1000000000000000000000000000000000000000000000000000000000000 := Int.emod_lt_of_pos _ (by decide)
    generalize g % 1000000000000000000000000000000000000000000000000000000000000 = cell0 at hg0 hg1
    generalize decide ((1000000000000000000 : Int) ≤ cell0) = great
    refine ⟨by decide, by decide, ?_⟩
    refine fo_rule (fun j e B => ∃ (mixed cell : Int) (pool : List Int) (o7 : Option PV), e = [some (.fro ns), some (.int mixed), some (.ref M.length), some (.int (i : Int)), some (.int g), some (.int cell), some (.bl great), o7] ∧ B = ⟨M ++ [.lst (pool.map .int), .lst sl]⟩ ∧ 0 ≤ mixed ∧ mixed < 2147483647 ∧ (∀ z ∈ pool, 0 ≤ z ∧ z < 1000) ∧ pool.length ≤ 20 * i + j)
      ⟨mixed, cell0, pool, o7, rfl, rfl, hm0, hm1, hp, by omega⟩ (fun _ _ _ _ _ => rfl) ?_ ?_
    · rintro j x e M' hx ⟨mixed, cell, pool, o7, rfl, eM, hm0, hm1, hp, hpl⟩
      cases eM
      obtain ⟨rfl, hj⟩ := rng_get hx
      have hj2 : j < 20 := hj
      simp only [ss_nil, ss_cons, s_asgv, s_asgt, s_para, s_auga, s_exp, s_retE, s_retNon, s_if, s_while, s_fo, s_break, s_conti, s_ps, e_var, varK, e_int, e_bl, e_non, e_str, e_ty, e_bin, e_neg, e_cmp, e_chain, e_isN, e_notN, e_and, e_or, e_not, e_ite, e_call, e_callK, prm_some, e_bi, e_tup, e_lst, lstK, tupK, e_ix, e_sl, eo_none, eo_some, in_int, e_mt, e_bits, bt_int, ng_int, e_comp, e_gc, es_nil, es_cons, tg_var, tg_tup, tg_sub, tgs_nil, tgs_cons, it_list, it_tup, it_rng1, it_rng2, it_enum, src_tup, src_fro, src_rng, src_enum, op_add, op_sub, op_mul, op_fdiv, op_mod, op_pow, op_shl, op_shr, op_addt, cm_lt, cm_le, cm_gt, cm_ge, cm_eq, cm_ne, cm_eq_bl, cm_ne_bl, cm_eq_str, cm_ne_str, tr_bl, tr_int, tr_non, ch_bl, cond_dec, cond_not, cond_t, cond_f, cond_ne, au_add, au_sub, b_len_tup, b_int, b_int_bl, b_abs, b_max, b_min, at_some, x_tup, isi_non_int, isi_non_bool, isi_non_str, isi_non_tuple, isi_non_list, isi_non_dict, isi_bl_int, isi_bl_bool, isi_bl_str, isi_bl_tuple, isi_bl_list, isi_bl_dict, isi_int_int, isi_int_bool, isi_int_str, isi_int_tuple, isi_int_list, isi_int_dict, isi_str_int, isi_str_bool, isi_str_str, isi_str_tuple, isi_str_list, isi_str_dict, isi_tup_int, isi_tup_bool, isi_tup_str, isi_tup_tuple, isi_tup_list, isi_tup_dict, isi_fro_int, isi_fro_bool, isi_fro_str, isi_fro_tuple, isi_fro_list, isi_fro_dict, PV.isNon, eq_self, decide_true, Bool.not_true, Bool.not_false, sl_fro, gc_pure, cl_lst, cl_dK, cx_ref, cx_str, cop_add, cb_len, cl_q, cm_append, cm_pop, pop_snoc, cm_extend, csrc, ctg, ixs, gc_ref, gc_ref0, e_dnew, e_get1, e_get2, cl_d, gd_ref, gd_str, cm_isin, cm_notin, intsK, e_sset, ssetK, b_sorted, m_insert, cb_sum, b_tuple_ref, b_tuple_tup, b_list_tup, b_list_ref, sl_tup, sl_ref, tr_tup, sizeLine_eq, Nat.reduceLeDiff, Int.reduceLT, Int.reduceLE, true_and, and_true, st_new0, st_newk, st_set0, st_setk, List.getElem?_cons_zero, List.getElem?_cons_succ, List.append_assoc, List.cons_append, List.nil_append, List.append_nil, List.length_append, List.length_cons, List.length_nil, Nat.zero_add, Nat.reduceAdd, List.set_cons_zero, List.set_cons_succ, stV, getV0, getVs, setV0, setVs, q_law_dice_v1_f2]
      have r0 := Int.emod_nonneg (mixed * 40014 + cell % 1000003 + 173 * (0 + (j : Int)) + (i : Int)) (b := 2147483647) (by decide)
      have r1 := Int.emod_lt_of_pos (mixed * 40014 + cell % 1000003 + 173 * (0 + (j : Int)) + (i : Int)) (b := 2147483647) (by decide)
      have hpush : ∀ w : Int, 0 ≤ w → w < 1000 → (∀ z ∈ pool ++ [w], 0 ≤ z ∧ z < 1000) ∧ (pool ++ [w]).length ≤ 20 * i + (j + 1) := fun w h0 h1 => by
        refine ⟨fun z hz => ?_, by rw [List.length_append, List.length_singleton]; omega⟩
        rcases List.mem_append.mp hz with h | h
        · exact hp z h
        · rw [List.mem_singleton.mp h]
          exact ⟨h0, h1⟩
      have hmap : ∀ w : Int, pool.map PV.int ++ [PV.int w] = (pool ++ [w]).map PV.int := fun w => by simp
      refine ⟨cmul (a := 31) (b := 16) (by omega) (by decide) (by decide), cmul (a := 8) (b := 5) (by decide) (by omega) (by decide), ?_⟩
      cases great with
      | true =>
        simp only [ss_nil, ss_cons, s_asgv, s_asgt, s_para, s_auga, s_exp, s_retE, s_retNon, s_if, s_while, s_fo, s_break, s_conti, s_ps, e_var, varK, e_int, e_bl, e_non, e_str, e_ty, e_bin, e_neg, e_cmp, e_chain, e_isN, e_notN, e_and, e_or, e_not, e_ite, e_call, e_callK, prm_some, e_bi, e_tup, e_lst, lstK, tupK, e_ix, e_sl, eo_none, eo_some, in_int, e_mt, e_bits, bt_int, ng_int, e_comp, e_gc, es_nil, es_cons, tg_var, tg_tup, tg_sub, tgs_nil, tgs_cons, it_list, it_tup, it_rng1, it_rng2, it_enum, src_tup, src_fro, src_rng, src_enum, op_add, op_sub, op_mul, op_fdiv, op_mod, op_pow, op_shl, op_shr, op_addt, cm_lt, cm_le, cm_gt, cm_ge, cm_eq, cm_ne, cm_eq_bl, cm_ne_bl, cm_eq_str, cm_ne_str, tr_bl, tr_int, tr_non, ch_bl, cond_dec, cond_not, cond_t, cond_f, cond_ne, au_add, au_sub, b_len_tup, b_int, b_int_bl, b_abs, b_max, b_min, at_some, x_tup, isi_non_int, isi_non_bool, isi_non_str, isi_non_tuple, isi_non_list, isi_non_dict, isi_bl_int, isi_bl_bool, isi_bl_str, isi_bl_tuple, isi_bl_list, isi_bl_dict, isi_int_int, isi_int_bool, isi_int_str, isi_int_tuple, isi_int_list, isi_int_dict, isi_str_int, isi_str_bool, isi_str_str, isi_str_tuple, isi_str_list, isi_str_dict, isi_tup_int, isi_tup_bool, isi_tup_str, isi_tup_tuple, isi_tup_list, isi_tup_dict, isi_fro_int, isi_fro_bool, isi_fro_str, isi_fro_tuple, isi_fro_list, isi_fro_dict, PV.isNon, eq_self, decide_true, Bool.not_true, Bool.not_false, sl_fro, gc_pure, cl_lst, cl_dK, cx_ref, cx_str, cop_add, cb_len, cl_q, cm_append, cm_pop, pop_snoc, cm_extend, csrc, ctg, ixs, gc_ref, gc_ref0, e_dnew, e_get1, e_get2, cl_d, gd_ref, gd_str, cm_isin, cm_notin, intsK, e_sset, ssetK, b_sorted, m_insert, cb_sum, b_tuple_ref, b_tuple_tup, b_list_tup, b_list_ref, sl_tup, sl_ref, tr_tup, sizeLine_eq, Nat.reduceLeDiff, Int.reduceLT, Int.reduceLE, true_and, and_true, st_new0, st_newk, st_set0, st_setk, List.getElem?_cons_zero, List.getElem?_cons_succ, List.append_assoc, List.cons_append, List.nil_append, List.append_nil, List.length_append, List.length_cons, List.length_nil, Nat.zero_add, Nat.reduceAdd, List.set_cons_zero, List.set_cons_succ, stV, getV0, getVs, setV0, setVs]
        refine ⟨by rw [List.length_map]; omega, pylong_small (by decide +kernel), _, _, pool ++ [cell % 1000], _, rfl, by rw [hmap], r0, r1, hpush _ (Int.emod_nonneg _ (by decide)) (Int.emod_lt_of_pos _ (by decide))⟩
      | false =>
        simp only [ss_nil, ss_cons, s_asgv, s_asgt, s_para, s_auga, s_exp, s_retE, s_retNon, s_if, s_while, s_fo, s_break, s_conti, s_ps, e_var, varK, e_int, e_bl, e_non, e_str, e_ty, e_bin, e_neg, e_cmp, e_chain, e_isN, e_notN, e_and, e_or, e_not, e_ite, e_call, e_callK, prm_some, e_bi, e_tup, e_lst, lstK, tupK, e_ix, e_sl, eo_none, eo_some, in_int, e_mt, e_bits, bt_int, ng_int, e_comp, e_gc, es_nil, es_cons, tg_var, tg_tup, tg_sub, tgs_nil, tgs_cons, it_list, it_tup, it_rng1, it_rng2, it_enum, src_tup, src_fro, src_rng, src_enum, op_add, op_sub, op_mul, op_fdiv, op_mod, op_pow, op_shl, op_shr, op_addt, cm_lt, cm_le, cm_gt, cm_ge, cm_eq, cm_ne, cm_eq_bl, cm_ne_bl, cm_eq_str, cm_ne_str, tr_bl, tr_int, tr_non, ch_bl, cond_dec, cond_not, cond_t, cond_f, cond_ne, au_add, au_sub, b_len_tup, b_int, b_int_bl, b_abs, b_max, b_min, at_some, x_tup, isi_non_int, isi_non_bool, isi_non_str, isi_non_tuple, isi_non_list, isi_non_dict, isi_bl_int, isi_bl_bool, isi_bl_str, isi_bl_tuple, isi_bl_list, isi_bl_dict, isi_int_int, isi_int_bool, isi_int_str, isi_int_tuple, isi_int_list, isi_int_dict, isi_str_int, isi_str_bool, isi_str_str, isi_str_tuple, isi_str_list, isi_str_dict, isi_tup_int, isi_tup_bool, isi_tup_str, isi_tup_tuple, isi_tup_list, isi_tup_dict, isi_fro_int, isi_fro_bool, isi_fro_str, isi_fro_tuple, isi_fro_list, isi_fro_dict, PV.isNon, eq_self, decide_true, Bool.not_true, Bool.not_false, sl_fro, gc_pure, cl_lst, cl_dK, cx_ref, cx_str, cop_add, cb_len, cl_q, cm_append, cm_pop, pop_snoc, cm_extend, csrc, ctg, ixs, gc_ref, gc_ref0, e_dnew, e_get1, e_get2, cl_d, gd_ref, gd_str, cm_isin, cm_notin, intsK, e_sset, ssetK, b_sorted, m_insert, cb_sum, b_tuple_ref, b_tuple_tup, b_list_tup, b_list_ref, sl_tup, sl_ref, tr_tup, sizeLine_eq, Nat.reduceLeDiff, Int.reduceLT, Int.reduceLE, true_and, and_true, st_new0, st_newk, st_set0, st_setk, List.getElem?_cons_zero, List.getElem?_cons_succ, List.append_assoc, List.cons_append, List.nil_append, List.append_nil, List.length_append, List.length_cons, List.length_nil, Nat.zero_add, Nat.reduceAdd, List.set_cons_zero, List.set_cons_succ, stV, getV0, getVs, setV0, setVs]
        refine ⟨fun _ => ⟨fun _ => ⟨pylong_small (by decide +kernel), by rw [List.length_map]; omega, _, _, pool ++ [_], _, rfl, by rw [hmap], r0, r1, hpush _ (Int.emod_nonneg _ (by decide)) (Int.emod_lt_of_pos _ (by decide))⟩, fun _ => ⟨_, _, pool, _, rfl, rfl, r0, r1, hp, by omega⟩⟩, fun _ => ⟨_, _, pool, _, rfl, rfl, r0, r1, hp, by omega⟩⟩
    · rintro e M' ⟨mixed, cell, pool, o7, rfl, eM, hm0, hm1, hp, hpl⟩
      cases eM
      simp only [ss_nil, ss_cons, s_asgv, s_asgt, s_para, s_auga, s_exp, s_retE, s_retNon, s_if, s_while, s_fo, s_break, s_conti, s_ps, e_var, varK, e_int, e_bl, e_non, e_str, e_ty, e_bin, e_neg, e_cmp, e_chain, e_isN, e_notN, e_and, e_or, e_not, e_ite, e_call, e_callK, prm_some, e_bi, e_tup, e_lst, lstK, tupK, e_ix, e_sl, eo_none, eo_some, in_int, e_mt, e_bits, bt_int, ng_int, e_comp, e_gc, es_nil, es_cons, tg_var, tg_tup, tg_sub, tgs_nil, tgs_cons, it_list, it_tup, it_rng1, it_rng2, it_enum, src_tup, src_fro, src_rng, src_enum, op_add, op_sub, op_mul, op_fdiv, op_mod, op_pow, op_shl, op_shr, op_addt, cm_lt, cm_le, cm_gt, cm_ge, cm_eq, cm_ne, cm_eq_bl, cm_ne_bl, cm_eq_str, cm_ne_str, tr_bl, tr_int, tr_non, ch_bl, cond_dec, cond_not, cond_t, cond_f, cond_ne, au_add, au_sub, b_len_tup, b_int, b_int_bl, b_abs, b_max, b_min, at_some, x_tup, isi_non_int, isi_non_bool, isi_non_str, isi_non_tuple, isi_non_list, isi_non_dict, isi_bl_int, isi_bl_bool, isi_bl_str, isi_bl_tuple, isi_bl_list, isi_bl_dict, isi_int_int, isi_int_bool, isi_int_str, isi_int_tuple, isi_int_list, isi_int_dict, isi_str_int, isi_str_bool, isi_str_str, isi_str_tuple, isi_str_list, isi_str_dict, isi_tup_int, isi_tup_bool, isi_tup_str, isi_tup_tuple, isi_tup_list, isi_tup_dict, isi_fro_int, isi_fro_bool, isi_fro_str, isi_fro_tuple, isi_fro_list, isi_fro_dict, PV.isNon, eq_self, decide_true, Bool.not_true, Bool.not_false, sl_fro, gc_pure, cl_lst, cl_dK, cx_ref, cx_str, cop_add, cb_len, cl_q, cm_append, cm_pop, pop_snoc, cm_extend, csrc, ctg, ixs, gc_ref, gc_ref0, e_dnew, e_get1, e_get2, cl_d, gd_ref, gd_str, cm_isin, cm_notin, intsK, e_sset, ssetK, b_sorted, m_insert, cb_sum, b_tuple_ref, b_tuple_tup, b_list_tup, b_list_ref, sl_tup, sl_ref, tr_tup, sizeLine_eq, Nat.reduceLeDiff, Int.reduceLT, Int.reduceLE, true_and, and_true, st_new0, st_newk, st_set0, st_setk, List.getElem?_cons_zero, List.getElem?_cons_succ, List.append_assoc, List.cons_append, List.nil_append, List.append_nil, List.length_append, List.length_cons, List.length_nil, Nat.zero_add, Nat.reduceAdd, List.set_cons_zero, List.set_cons_succ, stV, getV0, getVs, setV0, setVs]
      have hl20 : pool.length ≤ 20 * (i + 1) := by
        have : (rngItems 0 ((20 : Int) - 0).toNat).length = 20 := by rw [rng_len]; rfl
        dsimp only at hpl
        rw [this] at hpl
        omega
      exact ⟨_, pool, _, _, _, _, _, rfl, rfl, hm0, hm1, hp, hl20⟩
  · rintro e M' ⟨mixed, pool, o3, o4, o5, o6, o7, rfl, eM, hm0, hm1, hp, hpl⟩
    cases eM
    simp only [ss_nil, ss_cons, s_asgv, s_asgt, s_para, s_auga, s_exp, s_retE, s_retNon, s_if, s_while, s_fo, s_break, s_conti, s_ps, e_var, varK, e_int, e_bl, e_non, e_str, e_ty, e_bin, e_neg, e_cmp, e_chain, e_isN, e_notN, e_and, e_or, e_not, e_ite, e_call, e_callK, prm_some, e_bi, e_tup, e_lst, lstK, tupK, e_ix, e_sl, eo_none, eo_some, in_int, e_mt, e_bits, bt_int, ng_int, e_comp, e_gc, es_nil, es_cons, tg_var, tg_tup, tg_sub, tgs_nil, tgs_cons, it_list, it_tup, it_rng1, it_rng2, it_enum, src_tup, src_fro, src_rng, src_enum, op_add, op_sub, op_mul, op_fdiv, op_mod, op_pow, op_shl, op_shr, op_addt, cm_lt, cm_le, cm_gt, cm_ge, cm_eq, cm_ne, cm_eq_bl, cm_ne_bl, cm_eq_str, cm_ne_str, tr_bl, tr_int, tr_non, ch_bl, cond_dec, cond_not, cond_t, cond_f, cond_ne, au_add, au_sub, b_len_tup, b_int, b_int_bl, b_abs, b_max, b_min, at_some, x_tup, isi_non_int, isi_non_bool, isi_non_str, isi_non_tuple, isi_non_list, isi_non_dict, isi_bl_int, isi_bl_bool, isi_bl_str, isi_bl_tuple, isi_bl_list, isi_bl_dict, isi_int_int, isi_int_bool, isi_int_str, isi_int_tuple, isi_int_list, isi_int_dict, isi_str_int, isi_str_bool, isi_str_str, isi_str_tuple, isi_str_list, isi_str_dict, isi_tup_int, isi_tup_bool, isi_tup_str, isi_tup_tuple, isi_tup_list, isi_tup_dict, isi_fro_int, isi_fro_bool, isi_fro_str, isi_fro_tuple, isi_fro_list, isi_fro_dict, PV.isNon, eq_self, decide_true, Bool.not_true, Bool.not_false, sl_fro, gc_pure, cl_lst, cl_dK, cx_ref, cx_str, cop_add, cb_len, cl_q, cm_append, cm_pop, pop_snoc, cm_extend, csrc, ctg, ixs, gc_ref, gc_ref0, e_dnew, e_get1, e_get2, cl_d, gd_ref, gd_str, cm_isin, cm_notin, intsK, e_sset, ssetK, b_sorted, m_insert, cb_sum, b_tuple_ref, b_tuple_tup, b_list_tup, b_list_ref, sl_tup, sl_ref, tr_tup, sizeLine_eq, Nat.reduceLeDiff, Int.reduceLT, Int.reduceLE, true_and, and_true, st_new0, st_newk, st_set0, st_setk, List.getElem?_cons_zero, List.getElem?_cons_succ, List.append_assoc, List.cons_append, List.nil_append, List.append_nil, List.length_append, List.length_cons, List.length_nil, Nat.zero_add, Nat.reduceAdd, List.set_cons_zero, List.set_cons_succ, stV, getV0, getVs, setV0, setVs]
    refine ⟨_, _, _, rfl, by omega, mixed, 0, pool, ?_, ?_, hm0, hm1, by decide, hp⟩
    · rw [st_newk]
      rfl
    · rw [st_new0]
theorem law_same_do {T : Nat → Option QF} (h0 : T 5 = some q_law_same) {n : Nat} {M : Store} {x : PV} (hx : x.plain = true) (hs : x.sz ≤ 1000000) : Does T (n + 1) 5 [x, x] M fun v M' => v = .bl true ∧ M' = M := by
  refine does_of h0 rfl rfl ?_
  simp only [ss_nil, ss_cons, s_asgv, s_asgt, s_para, s_auga, s_exp, s_retE, s_retNon, s_if, s_while, s_fo, s_break, s_conti, s_ps, e_var, varK, e_int, e_bl, e_non, e_str, e_ty, e_bin, e_neg, e_cmp, e_chain, e_isN, e_notN, e_and, e_or, e_not, e_ite, e_call, e_callK, prm_some, e_bi, e_tup, e_lst, lstK, tupK, e_ix, e_sl, eo_none, eo_some, in_int, e_mt, e_bits, bt_int, ng_int, e_comp, e_gc, es_nil, es_cons, tg_var, tg_tup, tg_sub, tgs_nil, tgs_cons, it_list, it_tup, it_rng1, it_rng2, it_enum, src_tup, src_fro, src_rng, src_enum, op_add, op_sub, op_mul, op_fdiv, op_mod, op_pow, op_shl, op_shr, op_addt, cm_lt, cm_le, cm_gt, cm_ge, cm_eq, cm_ne, cm_eq_bl, cm_ne_bl, cm_eq_str, cm_ne_str, tr_bl, tr_int, tr_non, ch_bl, cond_dec, cond_not, cond_t, cond_f, cond_ne, au_add, au_sub, b_len_tup, b_int, b_int_bl, b_abs, b_max, b_min, at_some, x_tup, isi_non_int, isi_non_bool, isi_non_str, isi_non_tuple, isi_non_list, isi_non_dict, isi_bl_int, isi_bl_bool, isi_bl_str, isi_bl_tuple, isi_bl_list, isi_bl_dict, isi_int_int, isi_int_bool, isi_int_str, isi_int_tuple, isi_int_list, isi_int_dict, isi_str_int, isi_str_bool, isi_str_str, isi_str_tuple, isi_str_list, isi_str_dict, isi_tup_int, isi_tup_bool, isi_tup_str, isi_tup_tuple, isi_tup_list, isi_tup_dict, isi_fro_int, isi_fro_bool, isi_fro_str, isi_fro_tuple, isi_fro_list, isi_fro_dict, PV.isNon, eq_self, decide_true, Bool.not_true, Bool.not_false, sl_fro, gc_pure, cl_lst, cl_dK, cx_ref, cx_str, cop_add, cb_len, cl_q, cm_append, cm_pop, pop_snoc, cm_extend, csrc, ctg, ixs, gc_ref, gc_ref0, e_dnew, e_get1, e_get2, cl_d, gd_ref, gd_str, cm_isin, cm_notin, intsK, e_sset, ssetK, b_sorted, m_insert, cb_sum, b_tuple_ref, b_tuple_tup, b_list_tup, b_list_ref, sl_tup, sl_ref, tr_tup, sizeLine_eq, Nat.reduceLeDiff, Int.reduceLT, Int.reduceLE, true_and, and_true, st_new0, st_newk, st_set0, st_setk, List.getElem?_cons_zero, List.getElem?_cons_succ, List.append_assoc, List.cons_append, List.nil_append, List.append_nil, List.length_append, List.length_cons, List.length_nil, Nat.zero_add, Nat.reduceAdd, List.set_cons_zero, List.set_cons_succ, stV, getV0, getVs, setV0, setVs, q_law_same]
  refine wh_rule (fun m e B => ∃ (st : List PV) (o3 o4 o5 : Option PV), e = [some x, some x, some (.ref M.length), o3, o4, o5] ∧ B = ⟨M ++ [.lst (twin st)]⟩ ∧ PV.plains st = true ∧ PV.szs st ≤ 1000000 ∧ m = PV.szs st) _ (big_of (by rw [szs_one]; omega)) ⟨[x], none, none, none, rfl, rfl, by simp [PV.plains, hx], by simpa [PV.szs] using hs, rfl⟩ ?_
  rintro m e M' ⟨st, o3, o4, o5, rfl, eM, hp, hz, rfl⟩
  cases eM
  simp only [ss_nil, ss_cons, s_asgv, s_asgt, s_para, s_auga, s_exp, s_retE, s_retNon, s_if, s_while, s_fo, s_break, s_conti, s_ps, e_var, varK, e_int, e_bl, e_non, e_str, e_ty, e_bin, e_neg, e_cmp, e_chain, e_isN, e_notN, e_and, e_or, e_not, e_ite, e_call, e_callK, prm_some, e_bi, e_tup, e_lst, lstK, tupK, e_ix, e_sl, eo_none, eo_some, in_int, e_mt, e_bits, bt_int, ng_int, e_comp, e_gc, es_nil, es_cons, tg_var, tg_tup, tg_sub, tgs_nil, tgs_cons, it_list, it_tup, it_rng1, it_rng2, it_enum, src_tup, src_fro, src_rng, src_enum, op_add, op_sub, op_mul, op_fdiv, op_mod, op_pow, op_shl, op_shr, op_addt, cm_lt, cm_le, cm_gt, cm_ge, cm_eq, cm_ne, cm_eq_bl, cm_ne_bl, cm_eq_str, cm_ne_str, tr_bl, tr_int, tr_non, ch_bl, cond_dec, cond_not, cond_t, cond_f, cond_ne, au_add, au_sub, b_len_tup, b_int, b_int_bl, b_abs, b_max, b_min, at_some, x_tup, isi_non_int, isi_non_bool, isi_non_str, isi_non_tuple, isi_non_list, isi_non_dict, isi_bl_int, isi_bl_bool, isi_bl_str, isi_bl_tuple, isi_bl_list, isi_bl_dict, isi_int_int, isi_int_bool, isi_int_str, isi_int_tuple, isi_int_list, isi_int_dict, isi_str_int, isi_str_bool, isi_str_str, isi_str_tuple, isi_str_list, isi_str_dict, isi_tup_int, isi_tup_bool, isi_tup_str, isi_tup_tuple, isi_tup_list, isi_tup_dict, isi_fro_int, isi_fro_bool, isi_fro_str, isi_fro_tuple, isi_fro_list, isi_fro_dict, PV.isNon, eq_self, decide_true, Bool.not_true, Bool.not_false, sl_fro, gc_pure, cl_lst, cl_dK, cx_ref, cx_str, cop_add, cb_len, cl_q, cm_append, cm_pop, pop_snoc, cm_extend, csrc, ctg, ixs, gc_ref, gc_ref0, e_dnew, e_get1, e_get2, cl_d, gd_ref, gd_str, cm_isin, cm_notin, intsK, e_sset, ssetK, b_sorted, m_insert, cb_sum, b_tuple_ref, b_tuple_tup, b_list_tup, b_list_ref, sl_tup, sl_ref, tr_tup, sizeLine_eq, Nat.reduceLeDiff, Int.reduceLT, Int.reduceLE, true_and, and_true, st_new0, st_newk, st_set0, st_setk, List.getElem?_cons_zero, List.getElem?_cons_succ, List.append_assoc, List.cons_append, List.nil_append, List.append_nil, List.length_append, List.length_cons, List.length_nil, Nat.zero_add, Nat.reduceAdd, List.set_cons_zero, List.set_cons_succ, stV, getV0, getVs, setV0, setVs]
  rcases snoc_cases st with rfl | ⟨ys, y, rfl⟩
  · refine ⟨fun h => absurd h (by simp [twin]), fun _ => ?_⟩
    rw [gc_drop (by simp [PV.low])]
    exact ⟨rfl, rfl⟩
  · refine ⟨fun _ => ?_, fun h => absurd (by rw [twin_len]; simp) h⟩
    have e1 : twin (ys ++ [y]) = twin ys ++ [.tup [y, y]] := by rw [twin_append]; rfl
    rw [e1]
    rw [szs_append] at hz
    have hsz : PV.szs [y] = y.sz := by simp [PV.szs]
    have hpy : y.plain = true := plains_get (i := ys.length) hp (by simp)
    have hpys : PV.plains ys = true := plains_of_mem fun z hz => plains_mem hp z (by simp [hz])
    have hy := sz_pos y
    simp only [ss_nil, ss_cons, s_asgv, s_asgt, s_para, s_auga, s_exp, s_retE, s_retNon, s_if, s_while, s_fo, s_break, s_conti, s_ps, e_var, varK, e_int, e_bl, e_non, e_str, e_ty, e_bin, e_neg, e_cmp, e_chain, e_isN, e_notN, e_and, e_or, e_not, e_ite, e_call, e_callK, prm_some, e_bi, e_tup, e_lst, lstK, tupK, e_ix, e_sl, eo_none, eo_some, in_int, e_mt, e_bits, bt_int, ng_int, e_comp, e_gc, es_nil, es_cons, tg_var, tg_tup, tg_sub, tgs_nil, tgs_cons, it_list, it_tup, it_rng1, it_rng2, it_enum, src_tup, src_fro, src_rng, src_enum, op_add, op_sub, op_mul, op_fdiv, op_mod, op_pow, op_shl, op_shr, op_addt, cm_lt, cm_le, cm_gt, cm_ge, cm_eq, cm_ne, cm_eq_bl, cm_ne_bl, cm_eq_str, cm_ne_str, tr_bl, tr_int, tr_non, ch_bl, cond_dec, cond_not, cond_t, cond_f, cond_ne, au_add, au_sub, b_len_tup, b_int, b_int_bl, b_abs, b_max, b_min, at_some, x_tup, isi_non_int, isi_non_bool, isi_non_str, isi_non_tuple, isi_non_list, isi_non_dict, isi_bl_int, isi_bl_bool, isi_bl_str, isi_bl_tuple, isi_bl_list, isi_bl_dict, isi_int_int, isi_int_bool, isi_int_str, isi_int_tuple, isi_int_list, isi_int_dict, isi_str_int, isi_str_bool, isi_str_str, isi_str_tuple, isi_str_list, isi_str_dict, isi_tup_int, isi_tup_bool, isi_tup_str, isi_tup_tuple, isi_tup_list, isi_tup_dict, isi_fro_int, isi_fro_bool, isi_fro_str, isi_fro_tuple, isi_fro_list, isi_fro_dict, PV.isNon, eq_self, decide_true, Bool.not_true, Bool.not_false, sl_fro, gc_pure, cl_lst, cl_dK, cx_ref, cx_str, cop_add, cb_len, cl_q, cm_append, cm_pop, pop_snoc, cm_extend, csrc, ctg, ixs, gc_ref, gc_ref0, e_dnew, e_get1, e_get2, cl_d, gd_ref, gd_str, cm_isin, cm_notin, intsK, e_sset, ssetK, b_sorted, m_insert, cb_sum, b_tuple_ref, b_tuple_tup, b_list_tup, b_list_ref, sl_tup, sl_ref, tr_tup, sizeLine_eq, Nat.reduceLeDiff, Int.reduceLT, Int.reduceLE, true_and, and_true, st_new0, st_newk, st_set0, st_setk, List.getElem?_cons_zero, List.getElem?_cons_succ, List.append_assoc, List.cons_append, List.nil_append, List.append_nil, List.length_append, List.length_cons, List.length_nil, Nat.zero_add, Nat.reduceAdd, List.set_cons_zero, List.set_cons_succ, stV, getV0, getVs, setV0, setVs, q_law_same_w1]
    cases y with
    | ref k => cases hpy
    | fro k => cases hpy
    | ty k => cases hpy
    | non =>
      simp only [ss_nil, ss_cons, s_asgv, s_asgt, s_para, s_auga, s_exp, s_retE, s_retNon, s_if, s_while, s_fo, s_break, s_conti, s_ps, e_var, varK, e_int, e_bl, e_non, e_str, e_ty, e_bin, e_neg, e_cmp, e_chain, e_isN, e_notN, e_and, e_or, e_not, e_ite, e_call, e_callK, prm_some, e_bi, e_tup, e_lst, lstK, tupK, e_ix, e_sl, eo_none, eo_some, in_int, e_mt, e_bits, bt_int, ng_int, e_comp, e_gc, es_nil, es_cons, tg_var, tg_tup, tg_sub, tgs_nil, tgs_cons, it_list, it_tup, it_rng1, it_rng2, it_enum, src_tup, src_fro, src_rng, src_enum, op_add, op_sub, op_mul, op_fdiv, op_mod, op_pow, op_shl, op_shr, op_addt, cm_lt, cm_le, cm_gt, cm_ge, cm_eq, cm_ne, cm_eq_bl, cm_ne_bl, cm_eq_str, cm_ne_str, tr_bl, tr_int, tr_non, ch_bl, cond_dec, cond_not, cond_t, cond_f, cond_ne, au_add, au_sub, b_len_tup, b_int, b_int_bl, b_abs, b_max, b_min, at_some, x_tup, isi_non_int, isi_non_bool, isi_non_str, isi_non_tuple, isi_non_list, isi_non_dict, isi_bl_int, isi_bl_bool, isi_bl_str, isi_bl_tuple, isi_bl_list, isi_bl_dict, isi_int_int, isi_int_bool, isi_int_str, isi_int_tuple, isi_int_list, isi_int_dict, isi_str_int, isi_str_bool, isi_str_str, isi_str_tuple, isi_str_list, isi_str_dict, isi_tup_int, isi_tup_bool, isi_tup_str, isi_tup_tuple, isi_tup_list, isi_tup_dict, isi_fro_int, isi_fro_bool, isi_fro_str, isi_fro_tuple, isi_fro_list, isi_fro_dict, PV.isNon, eq_self, decide_true, Bool.not_true, Bool.not_false, sl_fro, gc_pure, cl_lst, cl_dK, cx_ref, cx_str, cop_add, cb_len, cl_q, cm_append, cm_pop, pop_snoc, cm_extend, csrc, ctg, ixs, gc_ref, gc_ref0, e_dnew, e_get1, e_get2, cl_d, gd_ref, gd_str, cm_isin, cm_notin, intsK, e_sset, ssetK, b_sorted, m_insert, cb_sum, b_tuple_ref, b_tuple_tup, b_list_tup, b_list_ref, sl_tup, sl_ref, tr_tup, sizeLine_eq, Nat.reduceLeDiff, Int.reduceLT, Int.reduceLE, true_and, and_true, st_new0, st_newk, st_set0, st_setk, List.getElem?_cons_zero, List.getElem?_cons_succ, List.append_assoc, List.cons_append, List.nil_append, List.append_nil, List.length_append, List.length_cons, List.length_nil, Nat.zero_add, Nat.reduceAdd, List.set_cons_zero, List.set_cons_succ, stV, getV0, getVs, setV0, setVs]
      exact ⟨_, by rw [szs_append]; omega, ys, _, _, _, rfl, rfl, hpys, by omega, rfl⟩
    | bl b =>
      simp only [ss_nil, ss_cons, s_asgv, s_asgt, s_para, s_auga, s_exp, s_retE, s_retNon, s_if, s_while, s_fo, s_break, s_conti, s_ps, e_var, varK, e_int, e_bl, e_non, e_str, e_ty, e_bin, e_neg, e_cmp, e_chain, e_isN, e_notN, e_and, e_or, e_not, e_ite, e_call, e_callK, prm_some, e_bi, e_tup, e_lst, lstK, tupK, e_ix, e_sl, eo_none, eo_some, in_int, e_mt, e_bits, bt_int, ng_int, e_comp, e_gc, es_nil, es_cons, tg_var, tg_tup, tg_sub, tgs_nil, tgs_cons, it_list, it_tup, it_rng1, it_rng2, it_enum, src_tup, src_fro, src_rng, src_enum, op_add, op_sub, op_mul, op_fdiv, op_mod, op_pow, op_shl, op_shr, op_addt, cm_lt, cm_le, cm_gt, cm_ge, cm_eq, cm_ne, cm_eq_bl, cm_ne_bl, cm_eq_str, cm_ne_str, tr_bl, tr_int, tr_non, ch_bl, cond_dec, cond_not, cond_t, cond_f, cond_ne, au_add, au_sub, b_len_tup, b_int, b_int_bl, b_abs, b_max, b_min, at_some, x_tup, isi_non_int, isi_non_bool, isi_non_str, isi_non_tuple, isi_non_list, isi_non_dict, isi_bl_int, isi_bl_bool, isi_bl_str, isi_bl_tuple, isi_bl_list, isi_bl_dict, isi_int_int, isi_int_bool, isi_int_str, isi_int_tuple, isi_int_list, isi_int_dict, isi_str_int, isi_str_bool, isi_str_str, isi_str_tuple, isi_str_list, isi_str_dict, isi_tup_int, isi_tup_bool, isi_tup_str, isi_tup_tuple, isi_tup_list, isi_tup_dict, isi_fro_int, isi_fro_bool, isi_fro_str, isi_fro_tuple, isi_fro_list, isi_fro_dict, PV.isNon, eq_self, decide_true, Bool.not_true, Bool.not_false, sl_fro, gc_pure, cl_lst, cl_dK, cx_ref, cx_str, cop_add, cb_len, cl_q, cm_append, cm_pop, pop_snoc, cm_extend, csrc, ctg, ixs, gc_ref, gc_ref0, e_dnew, e_get1, e_get2, cl_d, gd_ref, gd_str, cm_isin, cm_notin, intsK, e_sset, ssetK, b_sorted, m_insert, cb_sum, b_tuple_ref, b_tuple_tup, b_list_tup, b_list_ref, sl_tup, sl_ref, tr_tup, sizeLine_eq, Nat.reduceLeDiff, Int.reduceLT, Int.reduceLE, true_and, and_true, st_new0, st_newk, st_set0, st_setk, List.getElem?_cons_zero, List.getElem?_cons_succ, List.append_assoc, List.cons_append, List.nil_append, List.append_nil, List.length_append, List.length_cons, List.length_nil, Nat.zero_add, Nat.reduceAdd, List.set_cons_zero, List.set_cons_succ, stV, getV0, getVs, setV0, setVs]
      exact ⟨_, by rw [szs_append]; omega, ys, _, _, _, rfl, rfl, hpys, by omega, rfl⟩
    | int b =>
      simp only [ss_nil, ss_cons, s_asgv, s_asgt, s_para, s_auga, s_exp, s_retE, s_retNon, s_if, s_while, s_fo, s_break, s_conti, s_ps, e_var, varK, e_int, e_bl, e_non, e_str, e_ty, e_bin, e_neg, e_cmp, e_chain, e_isN, e_notN, e_and, e_or, e_not, e_ite, e_call, e_callK, prm_some, e_bi, e_tup, e_lst, lstK, tupK, e_ix, e_sl, eo_none, eo_some, in_int, e_mt, e_bits, bt_int, ng_int, e_comp, e_gc, es_nil, es_cons, tg_var, tg_tup, tg_sub, tgs_nil, tgs_cons, it_list, it_tup, it_rng1, it_rng2, it_enum, src_tup, src_fro, src_rng, src_enum, op_add, op_sub, op_mul, op_fdiv, op_mod, op_pow, op_shl, op_shr, op_addt, cm_lt, cm_le, cm_gt, cm_ge, cm_eq, cm_ne, cm_eq_bl, cm_ne_bl, cm_eq_str, cm_ne_str, tr_bl, tr_int, tr_non, ch_bl, cond_dec, cond_not, cond_t, cond_f, cond_ne, au_add, au_sub, b_len_tup, b_int, b_int_bl, b_abs, b_max, b_min, at_some, x_tup, isi_non_int, isi_non_bool, isi_non_str, isi_non_tuple, isi_non_list, isi_non_dict, isi_bl_int, isi_bl_bool, isi_bl_str, isi_bl_tuple, isi_bl_list, isi_bl_dict, isi_int_int, isi_int_bool, isi_int_str, isi_int_tuple, isi_int_list, isi_int_dict, isi_str_int, isi_str_bool, isi_str_str, isi_str_tuple, isi_str_list, isi_str_dict, isi_tup_int, isi_tup_bool, isi_tup_str, isi_tup_tuple, isi_tup_list, isi_tup_dict, isi_fro_int, isi_fro_bool, isi_fro_str, isi_fro_tuple, isi_fro_list, isi_fro_dict, PV.isNon, eq_self, decide_true, Bool.not_true, Bool.not_false, sl_fro, gc_pure, cl_lst, cl_dK, cx_ref, cx_str, cop_add, cb_len, cl_q, cm_append, cm_pop, pop_snoc, cm_extend, csrc, ctg, ixs, gc_ref, gc_ref0, e_dnew, e_get1, e_get2, cl_d, gd_ref, gd_str, cm_isin, cm_notin, intsK, e_sset, ssetK, b_sorted, m_insert, cb_sum, b_tuple_ref, b_tuple_tup, b_list_tup, b_list_ref, sl_tup, sl_ref, tr_tup, sizeLine_eq, Nat.reduceLeDiff, Int.reduceLT, Int.reduceLE, true_and, and_true, st_new0, st_newk, st_set0, st_setk, List.getElem?_cons_zero, List.getElem?_cons_succ, List.append_assoc, List.cons_append, List.nil_append, List.append_nil, List.length_append, List.length_cons, List.length_nil, Nat.zero_add, Nat.reduceAdd, List.set_cons_zero, List.set_cons_succ, stV, getV0, getVs, setV0, setVs]
      exact ⟨_, by rw [szs_append]; omega, ys, _, _, _, rfl, rfl, hpys, by omega, rfl⟩
    | str b =>
      simp only [ss_nil, ss_cons, s_asgv, s_asgt, s_para, s_auga, s_exp, s_retE, s_retNon, s_if, s_while, s_fo, s_break, s_conti, s_ps, e_var, varK, e_int, e_bl, e_non, e_str, e_ty, e_bin, e_neg, e_cmp, e_chain, e_isN, e_notN, e_and, e_or, e_not, e_ite, e_call, e_callK, prm_some, e_bi, e_tup, e_lst, lstK, tupK, e_ix, e_sl, eo_none, eo_some, in_int, e_mt, e_bits, bt_int, ng_int, e_comp, e_gc, es_nil, es_cons, tg_var, tg_tup, tg_sub, tgs_nil, tgs_cons, it_list, it_tup, it_rng1, it_rng2, it_enum, src_tup, src_fro, src_rng, src_enum, op_add, op_sub, op_mul, op_fdiv, op_mod, op_pow, op_shl, op_shr, op_addt, cm_lt, cm_le, cm_gt, cm_ge, cm_eq, cm_ne, cm_eq_bl, cm_ne_bl, cm_eq_str, cm_ne_str, tr_bl, tr_int, tr_non, ch_bl, cond_dec, cond_not, cond_t, cond_f, cond_ne, au_add, au_sub, b_len_tup, b_int, b_int_bl, b_abs, b_max, b_min, at_some, x_tup, isi_non_int, isi_non_bool, isi_non_str, isi_non_tuple, isi_non_list, isi_non_dict, isi_bl_int, isi_bl_bool, isi_bl_str, isi_bl_tuple, isi_bl_list, isi_bl_dict, isi_int_int, isi_int_bool, isi_int_str, isi_int_tuple, isi_int_list, isi_int_dict, isi_str_int, isi_str_bool, isi_str_str, isi_str_tuple, isi_str_list, isi_str_dict, isi_tup_int, isi_tup_bool, isi_tup_str, isi_tup_tuple, isi_tup_list, isi_tup_dict, isi_fro_int, isi_fro_bool, isi_fro_str, isi_fro_tuple, isi_fro_list, isi_fro_dict, PV.isNon, eq_self, decide_true, Bool.not_true, Bool.not_false, sl_fro, gc_pure, cl_lst, cl_dK, cx_ref, cx_str, cop_add, cb_len, cl_q, cm_append, cm_pop, pop_snoc, cm_extend, csrc, ctg, ixs, gc_ref, gc_ref0, e_dnew, e_get1, e_get2, cl_d, gd_ref, gd_str, cm_isin, cm_notin, intsK, e_sset, ssetK, b_sorted, m_insert, cb_sum, b_tuple_ref, b_tuple_tup, b_list_tup, b_list_ref, sl_tup, sl_ref, tr_tup, sizeLine_eq, Nat.reduceLeDiff, Int.reduceLT, Int.reduceLE, true_and, and_true, st_new0, st_newk, st_set0, st_setk, List.getElem?_cons_zero, List.getElem?_cons_succ, List.append_assoc, List.cons_append, List.nil_append, List.append_nil, List.length_append, List.length_cons, List.length_nil, Nat.zero_add, Nat.reduceAdd, List.set_cons_zero, List.set_cons_succ, stV, getV0, getVs, setV0, setVs]
      exact ⟨_, by rw [szs_append]; omega, ys, _, _, _, rfl, rfl, hpys, by omega, rfl⟩
    | tup xs =>
      simp only [ss_nil, ss_cons, s_asgv, s_asgt, s_para, s_auga, s_exp, s_retE, s_retNon, s_if, s_while, s_fo, s_break, s_conti, s_ps, e_var, varK, e_int, e_bl, e_non, e_str, e_ty, e_bin, e_neg, e_cmp, e_chain, e_isN, e_notN, e_and, e_or, e_not, e_ite, e_call, e_callK, prm_some, e_bi, e_tup, e_lst, lstK, tupK, e_ix, e_sl, eo_none, eo_some, in_int, e_mt, e_bits, bt_int, ng_int, e_comp, e_gc, es_nil, es_cons, tg_var, tg_tup, tg_sub, tgs_nil, tgs_cons, it_list, it_tup, it_rng1, it_rng2, it_enum, src_tup, src_fro, src_rng, src_enum, op_add, op_sub, op_mul, op_fdiv, op_mod, op_pow, op_shl, op_shr, op_addt, cm_lt, cm_le, cm_gt, cm_ge, cm_eq, cm_ne, cm_eq_bl, cm_ne_bl, cm_eq_str, cm_ne_str, tr_bl, tr_int, tr_non, ch_bl, cond_dec, cond_not, cond_t, cond_f, cond_ne, au_add, au_sub, b_len_tup, b_int, b_int_bl, b_abs, b_max, b_min, at_some, x_tup, isi_non_int, isi_non_bool, isi_non_str, isi_non_tuple, isi_non_list, isi_non_dict, isi_bl_int, isi_bl_bool, isi_bl_str, isi_bl_tuple, isi_bl_list, isi_bl_dict, isi_int_int, isi_int_bool, isi_int_str, isi_int_tuple, isi_int_list, isi_int_dict, isi_str_int, isi_str_bool, isi_str_str, isi_str_tuple, isi_str_list, isi_str_dict, isi_tup_int, isi_tup_bool, isi_tup_str, isi_tup_tuple, isi_tup_list, isi_tup_dict, isi_fro_int, isi_fro_bool, isi_fro_str, isi_fro_tuple, isi_fro_list, isi_fro_dict, PV.isNon, eq_self, decide_true, Bool.not_true, Bool.not_false, sl_fro, gc_pure, cl_lst, cl_dK, cx_ref, cx_str, cop_add, cb_len, cl_q, cm_append, cm_pop, pop_snoc, cm_extend, csrc, ctg, ixs, gc_ref, gc_ref0, e_dnew, e_get1, e_get2, cl_d, gd_ref, gd_str, cm_isin, cm_notin, intsK, e_sset, ssetK, b_sorted, m_insert, cb_sum, b_tuple_ref, b_tuple_tup, b_list_tup, b_list_ref, sl_tup, sl_ref, tr_tup, sizeLine_eq, Nat.reduceLeDiff, Int.reduceLT, Int.reduceLE, true_and, and_true, st_new0, st_newk, st_set0, st_setk, List.getElem?_cons_zero, List.getElem?_cons_succ, List.append_assoc, List.cons_append, List.nil_append, List.append_nil, List.length_append, List.length_cons, List.length_nil, Nat.zero_add, Nat.reduceAdd, List.set_cons_zero, List.set_cons_succ, stV, getV0, getVs, setV0, setVs]
      have hxs : PV.plains xs = true := by rw [PV.plain] at hpy; exact hpy
      have hsx : PV.szs [PV.tup xs] = 1 + PV.szs xs := by rw [szs_one, PV.sz]
      have hlx := szs_len (xs := xs)
      have hly := szs_len (xs := ys)
      refine ⟨⟨by omega, by omega⟩, ?_⟩
      have hn : ((xs.length : Int) - 0).toNat = xs.length := by omega
      rw [hn]
      refine cmp_rule (fun i acc B => B = ⟨M ++ [.lst (twin ys)]⟩ ∧ acc = twin (xs.take i)) ⟨rfl, rfl⟩ (fun _ _ _ _ _ => rfl) ?_ ?_
      · rintro i v acc M' hv ⟨eM, rfl⟩
        cases eM
        obtain ⟨rfl, hi⟩ := rng_get hv
        simp only [wipeVs, wipeV]
        have hg : atI xs ((0 : Int) + (i : Int)) = some xs[i] := by rw [Int.zero_add]; exact at_nat hi
        simp only [ss_nil, ss_cons, s_asgv, s_asgt, s_para, s_auga, s_exp, s_retE, s_retNon, s_if, s_while, s_fo, s_break, s_conti, s_ps, e_var, varK, e_int, e_bl, e_non, e_str, e_ty, e_bin, e_neg, e_cmp, e_chain, e_isN, e_notN, e_and, e_or, e_not, e_ite, e_call, e_callK, prm_some, e_bi, e_tup, e_lst, lstK, tupK, e_ix, e_sl, eo_none, eo_some, in_int, e_mt, e_bits, bt_int, ng_int, e_comp, e_gc, es_nil, es_cons, tg_var, tg_tup, tg_sub, tgs_nil, tgs_cons, it_list, it_tup, it_rng1, it_rng2, it_enum, src_tup, src_fro, src_rng, src_enum, op_add, op_sub, op_mul, op_fdiv, op_mod, op_pow, op_shl, op_shr, op_addt, cm_lt, cm_le, cm_gt, cm_ge, cm_eq, cm_ne, cm_eq_bl, cm_ne_bl, cm_eq_str, cm_ne_str, tr_bl, tr_int, tr_non, ch_bl, cond_dec, cond_not, cond_t, cond_f, cond_ne, au_add, au_sub, b_len_tup, b_int, b_int_bl, b_abs, b_max, b_min, at_some, x_tup, isi_non_int, isi_non_bool, isi_non_str, isi_non_tuple, isi_non_list, isi_non_dict, isi_bl_int, isi_bl_bool, isi_bl_str, isi_bl_tuple, isi_bl_list, isi_bl_dict, isi_int_int, isi_int_bool, isi_int_str, isi_int_tuple, isi_int_list, isi_int_dict, isi_str_int, isi_str_bool, isi_str_str, isi_str_tuple, isi_str_list, isi_str_dict, isi_tup_int, isi_tup_bool, isi_tup_str, isi_tup_tuple, isi_tup_list, isi_tup_dict, isi_fro_int, isi_fro_bool, isi_fro_str, isi_fro_tuple, isi_fro_list, isi_fro_dict, PV.isNon, eq_self, decide_true, Bool.not_true, Bool.not_false, sl_fro, gc_pure, cl_lst, cl_dK, cx_ref, cx_str, cop_add, cb_len, cl_q, cm_append, cm_pop, pop_snoc, cm_extend, csrc, ctg, ixs, gc_ref, gc_ref0, e_dnew, e_get1, e_get2, cl_d, gd_ref, gd_str, cm_isin, cm_notin, intsK, e_sset, ssetK, b_sorted, m_insert, cb_sum, b_tuple_ref, b_tuple_tup, b_list_tup, b_list_ref, sl_tup, sl_ref, tr_tup, sizeLine_eq, Nat.reduceLeDiff, Int.reduceLT, Int.reduceLE, true_and, and_true, st_new0, st_newk, st_set0, st_setk, List.getElem?_cons_zero, List.getElem?_cons_succ, List.append_assoc, List.cons_append, List.nil_append, List.append_nil, List.length_append, List.length_cons, List.length_nil, Nat.zero_add, Nat.reduceAdd, List.set_cons_zero, List.set_cons_succ, stV, getV0, getVs, setV0, setVs, hg, wipeVs, wipeV]
        refine ⟨?_, ?_⟩
        · rw [twin_len, List.length_take]
          omega
        · exact (twin_get (by simp [hi])).symm
      · rintro acc M' ⟨eM, rfl⟩
        cases eM
        dsimp only
        rw [rng_len, List.take_length]
        simp only [ss_nil, ss_cons, s_asgv, s_asgt, s_para, s_auga, s_exp, s_retE, s_retNon, s_if, s_while, s_fo, s_break, s_conti, s_ps, e_var, varK, e_int, e_bl, e_non, e_str, e_ty, e_bin, e_neg, e_cmp, e_chain, e_isN, e_notN, e_and, e_or, e_not, e_ite, e_call, e_callK, prm_some, e_bi, e_tup, e_lst, lstK, tupK, e_ix, e_sl, eo_none, eo_some, in_int, e_mt, e_bits, bt_int, ng_int, e_comp, e_gc, es_nil, es_cons, tg_var, tg_tup, tg_sub, tgs_nil, tgs_cons, it_list, it_tup, it_rng1, it_rng2, it_enum, src_tup, src_fro, src_rng, src_enum, op_add, op_sub, op_mul, op_fdiv, op_mod, op_pow, op_shl, op_shr, op_addt, cm_lt, cm_le, cm_gt, cm_ge, cm_eq, cm_ne, cm_eq_bl, cm_ne_bl, cm_eq_str, cm_ne_str, tr_bl, tr_int, tr_non, ch_bl, cond_dec, cond_not, cond_t, cond_f, cond_ne, au_add, au_sub, b_len_tup, b_int, b_int_bl, b_abs, b_max, b_min, at_some, x_tup, isi_non_int, isi_non_bool, isi_non_str, isi_non_tuple, isi_non_list, isi_non_dict, isi_bl_int, isi_bl_bool, isi_bl_str, isi_bl_tuple, isi_bl_list, isi_bl_dict, isi_int_int, isi_int_bool, isi_int_str, isi_int_tuple, isi_int_list, isi_int_dict, isi_str_int, isi_str_bool, isi_str_str, isi_str_tuple, isi_str_list, isi_str_dict, isi_tup_int, isi_tup_bool, isi_tup_str, isi_tup_tuple, isi_tup_list, isi_tup_dict, isi_fro_int, isi_fro_bool, isi_fro_str, isi_fro_tuple, isi_fro_list, isi_fro_dict, PV.isNon, eq_self, decide_true, Bool.not_true, Bool.not_false, sl_fro, gc_pure, cl_lst, cl_dK, cx_ref, cx_str, cop_add, cb_len, cl_q, cm_append, cm_pop, pop_snoc, cm_extend, csrc, ctg, ixs, gc_ref, gc_ref0, e_dnew, e_get1, e_get2, cl_d, gd_ref, gd_str, cm_isin, cm_notin, intsK, e_sset, ssetK, b_sorted, m_insert, cb_sum, b_tuple_ref, b_tuple_tup, b_list_tup, b_list_ref, sl_tup, sl_ref, tr_tup, sizeLine_eq, Nat.reduceLeDiff, Int.reduceLT, Int.reduceLE, true_and, and_true, st_new0, st_newk, st_set0, st_setk, List.getElem?_cons_zero, List.getElem?_cons_succ, List.append_assoc, List.cons_append, List.nil_append, List.append_nil, List.length_append, List.length_cons, List.length_nil, Nat.zero_add, Nat.reduceAdd, List.set_cons_zero, List.set_cons_succ, stV, getV0, getVs, setV0, setVs]
        refine ⟨by rw [twin_len, twin_len]; omega, ?_⟩
        rw [gc_chg (by simp [PV.low]) (by rw [← twin_append]; exact twin_low (plains_app hpys hxs))]
        simp only [ss_nil, ss_cons, s_asgv, s_asgt, s_para, s_auga, s_exp, s_retE, s_retNon, s_if, s_while, s_fo, s_break, s_conti, s_ps, e_var, varK, e_int, e_bl, e_non, e_str, e_ty, e_bin, e_neg, e_cmp, e_chain, e_isN, e_notN, e_and, e_or, e_not, e_ite, e_call, e_callK, prm_some, e_bi, e_tup, e_lst, lstK, tupK, e_ix, e_sl, eo_none, eo_some, in_int, e_mt, e_bits, bt_int, ng_int, e_comp, e_gc, es_nil, es_cons, tg_var, tg_tup, tg_sub, tgs_nil, tgs_cons, it_list, it_tup, it_rng1, it_rng2, it_enum, src_tup, src_fro, src_rng, src_enum, op_add, op_sub, op_mul, op_fdiv, op_mod, op_pow, op_shl, op_shr, op_addt, cm_lt, cm_le, cm_gt, cm_ge, cm_eq, cm_ne, cm_eq_bl, cm_ne_bl, cm_eq_str, cm_ne_str, tr_bl, tr_int, tr_non, ch_bl, cond_dec, cond_not, cond_t, cond_f, cond_ne, au_add, au_sub, b_len_tup, b_int, b_int_bl, b_abs, b_max, b_min, at_some, x_tup, isi_non_int, isi_non_bool, isi_non_str, isi_non_tuple, isi_non_list, isi_non_dict, isi_bl_int, isi_bl_bool, isi_bl_str, isi_bl_tuple, isi_bl_list, isi_bl_dict, isi_int_int, isi_int_bool, isi_int_str, isi_int_tuple, isi_int_list, isi_int_dict, isi_str_int, isi_str_bool, isi_str_str, isi_str_tuple, isi_str_list, isi_str_dict, isi_tup_int, isi_tup_bool, isi_tup_str, isi_tup_tuple, isi_tup_list, isi_tup_dict, isi_fro_int, isi_fro_bool, isi_fro_str, isi_fro_tuple, isi_fro_list, isi_fro_dict, PV.isNon, eq_self, decide_true, Bool.not_true, Bool.not_false, sl_fro, gc_pure, cl_lst, cl_dK, cx_ref, cx_str, cop_add, cb_len, cl_q, cm_append, cm_pop, pop_snoc, cm_extend, csrc, ctg, ixs, gc_ref, gc_ref0, e_dnew, e_get1, e_get2, cl_d, gd_ref, gd_str, cm_isin, cm_notin, intsK, e_sset, ssetK, b_sorted, m_insert, cb_sum, b_tuple_ref, b_tuple_tup, b_list_tup, b_list_ref, sl_tup, sl_ref, tr_tup, sizeLine_eq, Nat.reduceLeDiff, Int.reduceLT, Int.reduceLE, true_and, and_true, st_new0, st_newk, st_set0, st_setk, List.getElem?_cons_zero, List.getElem?_cons_succ, List.append_assoc, List.cons_append, List.nil_append, List.append_nil, List.length_append, List.length_cons, List.length_nil, Nat.zero_add, Nat.reduceAdd, List.set_cons_zero, List.set_cons_succ, stV, getV0, getVs, setV0, setVs]
        exact ⟨PV.szs ys + PV.szs xs, by rw [szs_append]; omega, ys ++ xs, _, _, _, rfl, by rw [twin_append], plains_app hpys hxs, by rw [szs_append]; omega, by rw [szs_append]⟩
end Q

namespace Q
open PySem PySem.Spec PyProof.Rows L2
/-! what is told of a number -/
theorem law_told_do {T : Nat → Option QF} (h0 : T 0 = some q_whole_root) (h5 : T 5 = some q_law_same) (h13 : T 13 = some q_kernel_of) (h38 : T 38 = some q_is_squarefree) (h39 : T 39 = some q_primes_in) (h44 : T 44 = some q_law_told) {n : Nat} {M : Store} {x f k : Nat} {ps : List Nat} (hx : 0 < x) (hb : x < 2 ^ 60) (hk : IsKer x f k) (hp : IsPs x ps) :
    Does T (n + 4) 44 [.int (x : Nat), .tup [.int (f : Nat), .int (k : Nat), .tup (pV ps)]] M fun v M' => v = .bl true ∧ M' = M := by
  refine does_of h44 rfl rfl ?_
  simp only [ss_nil, ss_cons, s_asgv, s_asgt, s_para, s_auga, s_exp, s_retE, s_retNon, s_if, s_while, s_fo, s_break, s_conti, s_ps, e_var, varK, e_int, e_bl, e_non, e_str, e_ty, e_bin, e_neg, e_cmp, e_chain, e_isN, e_notN, e_and, e_or, e_not, e_ite, e_call, e_callK, prm_some, e_bi, e_tup, e_lst, lstK, tupK, e_ix, e_sl, eo_none, eo_some, in_int, e_mt, e_bits, bt_int, ng_int, e_comp, e_gc, es_nil, es_cons, tg_var, tg_tup, tg_sub, tgs_nil, tgs_cons, it_list, it_tup, it_rng1, it_rng2, it_enum, src_tup, src_fro, src_rng, src_enum, op_add, op_sub, op_mul, op_fdiv, op_mod, op_pow, op_shl, op_shr, op_addt, cm_lt, cm_le, cm_gt, cm_ge, cm_eq, cm_ne, cm_eq_bl, cm_ne_bl, cm_eq_str, cm_ne_str, tr_bl, tr_int, tr_non, ch_bl, cond_dec, cond_not, cond_t, cond_f, cond_ne, au_add, au_sub, b_len_tup, b_int, b_int_bl, b_abs, b_max, b_min, at_some, x_tup, isi_non_int, isi_non_bool, isi_non_str, isi_non_tuple, isi_non_list, isi_non_dict, isi_bl_int, isi_bl_bool, isi_bl_str, isi_bl_tuple, isi_bl_list, isi_bl_dict, isi_int_int, isi_int_bool, isi_int_str, isi_int_tuple, isi_int_list, isi_int_dict, isi_str_int, isi_str_bool, isi_str_str, isi_str_tuple, isi_str_list, isi_str_dict, isi_tup_int, isi_tup_bool, isi_tup_str, isi_tup_tuple, isi_tup_list, isi_tup_dict, isi_fro_int, isi_fro_bool, isi_fro_str, isi_fro_tuple, isi_fro_list, isi_fro_dict, PV.isNon, eq_self, decide_true, Bool.not_true, Bool.not_false, sl_fro, gc_pure, cl_lst, cl_dK, cx_ref, cx_str, cop_add, cb_len, cl_q, cm_append, cm_pop, pop_snoc, cm_extend, csrc, ctg, ixs, gc_ref, gc_ref0, e_dnew, e_get1, e_get2, cl_d, gd_ref, gd_str, cm_isin, cm_notin, intsK, e_sset, ssetK, b_sorted, m_insert, cb_sum, b_tuple_ref, b_tuple_tup, b_list_tup, b_list_ref, sl_tup, sl_ref, tr_tup, sizeLine_eq, Nat.reduceLeDiff, Int.reduceLT, Int.reduceLE, true_and, and_true, st_new0, st_newk, st_set0, st_setk, List.getElem?_cons_zero, List.getElem?_cons_succ, List.append_assoc, List.cons_append, List.nil_append, List.append_nil, List.length_append, List.length_cons, List.length_nil, Nat.zero_add, Nat.reduceAdd, List.set_cons_zero, List.set_cons_succ, stV, getV0, getVs, setV0, setVs, q_law_told]
  refine cl_of (kernel_of_do h0 h13 hx hb) ?_
  rintro v M' ⟨rfl, f', k', rfl, hk'⟩
  obtain ⟨rfl, rfl⟩ := ker_unique hk hk'
  simp only [ss_nil, ss_cons, s_asgv, s_asgt, s_para, s_auga, s_exp, s_retE, s_retNon, s_if, s_while, s_fo, s_break, s_conti, s_ps, e_var, varK, e_int, e_bl, e_non, e_str, e_ty, e_bin, e_neg, e_cmp, e_chain, e_isN, e_notN, e_and, e_or, e_not, e_ite, e_call, e_callK, prm_some, e_bi, e_tup, e_lst, lstK, tupK, e_ix, e_sl, eo_none, eo_some, in_int, e_mt, e_bits, bt_int, ng_int, e_comp, e_gc, es_nil, es_cons, tg_var, tg_tup, tg_sub, tgs_nil, tgs_cons, it_list, it_tup, it_rng1, it_rng2, it_enum, src_tup, src_fro, src_rng, src_enum, op_add, op_sub, op_mul, op_fdiv, op_mod, op_pow, op_shl, op_shr, op_addt, cm_lt, cm_le, cm_gt, cm_ge, cm_eq, cm_ne, cm_eq_bl, cm_ne_bl, cm_eq_str, cm_ne_str, tr_bl, tr_int, tr_non, ch_bl, cond_dec, cond_not, cond_t, cond_f, cond_ne, au_add, au_sub, b_len_tup, b_int, b_int_bl, b_abs, b_max, b_min, at_some, x_tup, isi_non_int, isi_non_bool, isi_non_str, isi_non_tuple, isi_non_list, isi_non_dict, isi_bl_int, isi_bl_bool, isi_bl_str, isi_bl_tuple, isi_bl_list, isi_bl_dict, isi_int_int, isi_int_bool, isi_int_str, isi_int_tuple, isi_int_list, isi_int_dict, isi_str_int, isi_str_bool, isi_str_str, isi_str_tuple, isi_str_list, isi_str_dict, isi_tup_int, isi_tup_bool, isi_tup_str, isi_tup_tuple, isi_tup_list, isi_tup_dict, isi_fro_int, isi_fro_bool, isi_fro_str, isi_fro_tuple, isi_fro_list, isi_fro_dict, PV.isNon, eq_self, decide_true, Bool.not_true, Bool.not_false, sl_fro, gc_pure, cl_lst, cl_dK, cx_ref, cx_str, cop_add, cb_len, cl_q, cm_append, cm_pop, pop_snoc, cm_extend, csrc, ctg, ixs, gc_ref, gc_ref0, e_dnew, e_get1, e_get2, cl_d, gd_ref, gd_str, cm_isin, cm_notin, intsK, e_sset, ssetK, b_sorted, m_insert, cb_sum, b_tuple_ref, b_tuple_tup, b_list_tup, b_list_ref, sl_tup, sl_ref, tr_tup, sizeLine_eq, Nat.reduceLeDiff, Int.reduceLT, Int.reduceLE, true_and, and_true, st_new0, st_newk, st_set0, st_setk, List.getElem?_cons_zero, List.getElem?_cons_succ, List.append_assoc, List.cons_append, List.nil_append, List.append_nil, List.length_append, List.length_cons, List.length_nil, Nat.zero_add, Nat.reduceAdd, List.set_cons_zero, List.set_cons_succ, stV, getV0, getVs, setV0, setVs]
  refine cl_of (primes_in_do h39 hx hb) ?_
  rintro v M' ⟨rfl, ps', rfl, hp', hl⟩
  obtain rfl := hp.uniq hp'
  simp only [ss_nil, ss_cons, s_asgv, s_asgt, s_para, s_auga, s_exp, s_retE, s_retNon, s_if, s_while, s_fo, s_break, s_conti, s_ps, e_var, varK, e_int, e_bl, e_non, e_str, e_ty, e_bin, e_neg, e_cmp, e_chain, e_isN, e_notN, e_and, e_or, e_not, e_ite, e_call, e_callK, prm_some, e_bi, e_tup, e_lst, lstK, tupK, e_ix, e_sl, eo_none, eo_some, in_int, e_mt, e_bits, bt_int, ng_int, e_comp, e_gc, es_nil, es_cons, tg_var, tg_tup, tg_sub, tgs_nil, tgs_cons, it_list, it_tup, it_rng1, it_rng2, it_enum, src_tup, src_fro, src_rng, src_enum, op_add, op_sub, op_mul, op_fdiv, op_mod, op_pow, op_shl, op_shr, op_addt, cm_lt, cm_le, cm_gt, cm_ge, cm_eq, cm_ne, cm_eq_bl, cm_ne_bl, cm_eq_str, cm_ne_str, tr_bl, tr_int, tr_non, ch_bl, cond_dec, cond_not, cond_t, cond_f, cond_ne, au_add, au_sub, b_len_tup, b_int, b_int_bl, b_abs, b_max, b_min, at_some, x_tup, isi_non_int, isi_non_bool, isi_non_str, isi_non_tuple, isi_non_list, isi_non_dict, isi_bl_int, isi_bl_bool, isi_bl_str, isi_bl_tuple, isi_bl_list, isi_bl_dict, isi_int_int, isi_int_bool, isi_int_str, isi_int_tuple, isi_int_list, isi_int_dict, isi_str_int, isi_str_bool, isi_str_str, isi_str_tuple, isi_str_list, isi_str_dict, isi_tup_int, isi_tup_bool, isi_tup_str, isi_tup_tuple, isi_tup_list, isi_tup_dict, isi_fro_int, isi_fro_bool, isi_fro_str, isi_fro_tuple, isi_fro_list, isi_fro_dict, PV.isNon, eq_self, decide_true, Bool.not_true, Bool.not_false, sl_fro, gc_pure, cl_lst, cl_dK, cx_ref, cx_str, cop_add, cb_len, cl_q, cm_append, cm_pop, pop_snoc, cm_extend, csrc, ctg, ixs, gc_ref, gc_ref0, e_dnew, e_get1, e_get2, cl_d, gd_ref, gd_str, cm_isin, cm_notin, intsK, e_sset, ssetK, b_sorted, m_insert, cb_sum, b_tuple_ref, b_tuple_tup, b_list_tup, b_list_ref, sl_tup, sl_ref, tr_tup, sizeLine_eq, Nat.reduceLeDiff, Int.reduceLT, Int.reduceLE, true_and, and_true, st_new0, st_newk, st_set0, st_setk, List.getElem?_cons_zero, List.getElem?_cons_succ, List.append_assoc, List.cons_append, List.nil_append, List.append_nil, List.length_append, List.length_cons, List.length_nil, Nat.zero_add, Nat.reduceAdd, List.set_cons_zero, List.set_cons_succ, stV, getV0, getVs, setV0, setVs]
  refine cl_of (law_same_do h5 (by simp [PV.plain, PV.plains, pV_plains]) (by simp [PV.sz, PV.szs, pV_szs]; omega)) ?_
  rintro v M' ⟨rfl, rfl⟩
  simp only [ss_nil, ss_cons, s_asgv, s_asgt, s_para, s_auga, s_exp, s_retE, s_retNon, s_if, s_while, s_fo, s_break, s_conti, s_ps, e_var, varK, e_int, e_bl, e_non, e_str, e_ty, e_bin, e_neg, e_cmp, e_chain, e_isN, e_notN, e_and, e_or, e_not, e_ite, e_call, e_callK, prm_some, e_bi, e_tup, e_lst, lstK, tupK, e_ix, e_sl, eo_none, eo_some, in_int, e_mt, e_bits, bt_int, ng_int, e_comp, e_gc, es_nil, es_cons, tg_var, tg_tup, tg_sub, tgs_nil, tgs_cons, it_list, it_tup, it_rng1, it_rng2, it_enum, src_tup, src_fro, src_rng, src_enum, op_add, op_sub, op_mul, op_fdiv, op_mod, op_pow, op_shl, op_shr, op_addt, cm_lt, cm_le, cm_gt, cm_ge, cm_eq, cm_ne, cm_eq_bl, cm_ne_bl, cm_eq_str, cm_ne_str, tr_bl, tr_int, tr_non, ch_bl, cond_dec, cond_not, cond_t, cond_f, cond_ne, au_add, au_sub, b_len_tup, b_int, b_int_bl, b_abs, b_max, b_min, at_some, x_tup, isi_non_int, isi_non_bool, isi_non_str, isi_non_tuple, isi_non_list, isi_non_dict, isi_bl_int, isi_bl_bool, isi_bl_str, isi_bl_tuple, isi_bl_list, isi_bl_dict, isi_int_int, isi_int_bool, isi_int_str, isi_int_tuple, isi_int_list, isi_int_dict, isi_str_int, isi_str_bool, isi_str_str, isi_str_tuple, isi_str_list, isi_str_dict, isi_tup_int, isi_tup_bool, isi_tup_str, isi_tup_tuple, isi_tup_list, isi_tup_dict, isi_fro_int, isi_fro_bool, isi_fro_str, isi_fro_tuple, isi_fro_list, isi_fro_dict, PV.isNon, eq_self, decide_true, Bool.not_true, Bool.not_false, sl_fro, gc_pure, cl_lst, cl_dK, cx_ref, cx_str, cop_add, cb_len, cl_q, cm_append, cm_pop, pop_snoc, cm_extend, csrc, ctg, ixs, gc_ref, gc_ref0, e_dnew, e_get1, e_get2, cl_d, gd_ref, gd_str, cm_isin, cm_notin, intsK, e_sset, ssetK, b_sorted, m_insert, cb_sum, b_tuple_ref, b_tuple_tup, b_list_tup, b_list_ref, sl_tup, sl_ref, tr_tup, sizeLine_eq, Nat.reduceLeDiff, Int.reduceLT, Int.reduceLE, true_and, and_true, st_new0, st_newk, st_set0, st_setk, List.getElem?_cons_zero, List.getElem?_cons_succ, List.append_assoc, List.cons_append, List.nil_append, List.append_nil, List.length_append, List.length_cons, List.length_nil, Nat.zero_add, Nat.reduceAdd, List.set_cons_zero, List.set_cons_succ, stV, getV0, getVs, setV0, setVs]
  refine cl_of (is_squarefree_do h0 h13 h38 hx hb) ?_
  rintro v M' ⟨rfl, f', k', rfl, hk'⟩
  obtain ⟨rfl, rfl⟩ := ker_unique hk hk'
  have e1 : decide ((f : Int) = 1) = decide (f = 1) := by
    have : ((f : Int) = 1) ↔ f = 1 := by omega
    simp only [this]
  simp only [ss_nil, ss_cons, s_asgv, s_asgt, s_para, s_auga, s_exp, s_retE, s_retNon, s_if, s_while, s_fo, s_break, s_conti, s_ps, e_var, varK, e_int, e_bl, e_non, e_str, e_ty, e_bin, e_neg, e_cmp, e_chain, e_isN, e_notN, e_and, e_or, e_not, e_ite, e_call, e_callK, prm_some, e_bi, e_tup, e_lst, lstK, tupK, e_ix, e_sl, eo_none, eo_some, in_int, e_mt, e_bits, bt_int, ng_int, e_comp, e_gc, es_nil, es_cons, tg_var, tg_tup, tg_sub, tgs_nil, tgs_cons, it_list, it_tup, it_rng1, it_rng2, it_enum, src_tup, src_fro, src_rng, src_enum, op_add, op_sub, op_mul, op_fdiv, op_mod, op_pow, op_shl, op_shr, op_addt, cm_lt, cm_le, cm_gt, cm_ge, cm_eq, cm_ne, cm_eq_bl, cm_ne_bl, cm_eq_str, cm_ne_str, tr_bl, tr_int, tr_non, ch_bl, cond_dec, cond_not, cond_t, cond_f, cond_ne, au_add, au_sub, b_len_tup, b_int, b_int_bl, b_abs, b_max, b_min, at_some, x_tup, isi_non_int, isi_non_bool, isi_non_str, isi_non_tuple, isi_non_list, isi_non_dict, isi_bl_int, isi_bl_bool, isi_bl_str, isi_bl_tuple, isi_bl_list, isi_bl_dict, isi_int_int, isi_int_bool, isi_int_str, isi_int_tuple, isi_int_list, isi_int_dict, isi_str_int, isi_str_bool, isi_str_str, isi_str_tuple, isi_str_list, isi_str_dict, isi_tup_int, isi_tup_bool, isi_tup_str, isi_tup_tuple, isi_tup_list, isi_tup_dict, isi_fro_int, isi_fro_bool, isi_fro_str, isi_fro_tuple, isi_fro_list, isi_fro_dict, PV.isNon, eq_self, decide_true, Bool.not_true, Bool.not_false, sl_fro, gc_pure, cl_lst, cl_dK, cx_ref, cx_str, cop_add, cb_len, cl_q, cm_append, cm_pop, pop_snoc, cm_extend, csrc, ctg, ixs, gc_ref, gc_ref0, e_dnew, e_get1, e_get2, cl_d, gd_ref, gd_str, cm_isin, cm_notin, intsK, e_sset, ssetK, b_sorted, m_insert, cb_sum, b_tuple_ref, b_tuple_tup, b_list_tup, b_list_ref, sl_tup, sl_ref, tr_tup, sizeLine_eq, Nat.reduceLeDiff, Int.reduceLT, Int.reduceLE, true_and, and_true, st_new0, st_newk, st_set0, st_setk, List.getElem?_cons_zero, List.getElem?_cons_succ, List.append_assoc, List.cons_append, List.nil_append, List.append_nil, List.length_append, List.length_cons, List.length_nil, Nat.zero_add, Nat.reduceAdd, List.set_cons_zero, List.set_cons_succ, stV, getV0, getVs, setV0, setVs]
  rw [e1]
  refine cl_of (law_same_do h5 (by simp [PV.plain]) (by simp [PV.sz])) ?_
  rintro v M' ⟨rfl, rfl⟩
  simp only [ss_nil, ss_cons, s_asgv, s_asgt, s_para, s_auga, s_exp, s_retE, s_retNon, s_if, s_while, s_fo, s_break, s_conti, s_ps, e_var, varK, e_int, e_bl, e_non, e_str, e_ty, e_bin, e_neg, e_cmp, e_chain, e_isN, e_notN, e_and, e_or, e_not, e_ite, e_call, e_callK, prm_some, e_bi, e_tup, e_lst, lstK, tupK, e_ix, e_sl, eo_none, eo_some, in_int, e_mt, e_bits, bt_int, ng_int, e_comp, e_gc, es_nil, es_cons, tg_var, tg_tup, tg_sub, tgs_nil, tgs_cons, it_list, it_tup, it_rng1, it_rng2, it_enum, src_tup, src_fro, src_rng, src_enum, op_add, op_sub, op_mul, op_fdiv, op_mod, op_pow, op_shl, op_shr, op_addt, cm_lt, cm_le, cm_gt, cm_ge, cm_eq, cm_ne, cm_eq_bl, cm_ne_bl, cm_eq_str, cm_ne_str, tr_bl, tr_int, tr_non, ch_bl, cond_dec, cond_not, cond_t, cond_f, cond_ne, au_add, au_sub, b_len_tup, b_int, b_int_bl, b_abs, b_max, b_min, at_some, x_tup, isi_non_int, isi_non_bool, isi_non_str, isi_non_tuple, isi_non_list, isi_non_dict, isi_bl_int, isi_bl_bool, isi_bl_str, isi_bl_tuple, isi_bl_list, isi_bl_dict, isi_int_int, isi_int_bool, isi_int_str, isi_int_tuple, isi_int_list, isi_int_dict, isi_str_int, isi_str_bool, isi_str_str, isi_str_tuple, isi_str_list, isi_str_dict, isi_tup_int, isi_tup_bool, isi_tup_str, isi_tup_tuple, isi_tup_list, isi_tup_dict, isi_fro_int, isi_fro_bool, isi_fro_str, isi_fro_tuple, isi_fro_list, isi_fro_dict, PV.isNon, eq_self, decide_true, Bool.not_true, Bool.not_false, sl_fro, gc_pure, cl_lst, cl_dK, cx_ref, cx_str, cop_add, cb_len, cl_q, cm_append, cm_pop, pop_snoc, cm_extend, csrc, ctg, ixs, gc_ref, gc_ref0, e_dnew, e_get1, e_get2, cl_d, gd_ref, gd_str, cm_isin, cm_notin, intsK, e_sset, ssetK, b_sorted, m_insert, cb_sum, b_tuple_ref, b_tuple_tup, b_list_tup, b_list_ref, sl_tup, sl_ref, tr_tup, sizeLine_eq, Nat.reduceLeDiff, Int.reduceLT, Int.reduceLE, true_and, and_true, st_new0, st_newk, st_set0, st_setk, List.getElem?_cons_zero, List.getElem?_cons_succ, List.append_assoc, List.cons_append, List.nil_append, List.append_nil, List.length_append, List.length_cons, List.length_nil, Nat.zero_add, Nat.reduceAdd, List.set_cons_zero, List.set_cons_succ, stV, getV0, getVs, setV0, setVs]
  have kb := (ker_bound hk).2
  refine cl_of (is_squarefree_do h0 h13 h38 hk.k0 (by omega)) ?_
  rintro v M' ⟨rfl, f2, k2, rfl, hk2⟩
  have e2 : f2 = 1 := (sqF_iff hk2).mpr hk.sq
  subst e2
  simp only [ss_nil, ss_cons, s_asgv, s_asgt, s_para, s_auga, s_exp, s_retE, s_retNon, s_if, s_while, s_fo, s_break, s_conti, s_ps, e_var, varK, e_int, e_bl, e_non, e_str, e_ty, e_bin, e_neg, e_cmp, e_chain, e_isN, e_notN, e_and, e_or, e_not, e_ite, e_call, e_callK, prm_some, e_bi, e_tup, e_lst, lstK, tupK, e_ix, e_sl, eo_none, eo_some, in_int, e_mt, e_bits, bt_int, ng_int, e_comp, e_gc, es_nil, es_cons, tg_var, tg_tup, tg_sub, tgs_nil, tgs_cons, it_list, it_tup, it_rng1, it_rng2, it_enum, src_tup, src_fro, src_rng, src_enum, op_add, op_sub, op_mul, op_fdiv, op_mod, op_pow, op_shl, op_shr, op_addt, cm_lt, cm_le, cm_gt, cm_ge, cm_eq, cm_ne, cm_eq_bl, cm_ne_bl, cm_eq_str, cm_ne_str, tr_bl, tr_int, tr_non, ch_bl, cond_dec, cond_not, cond_t, cond_f, cond_ne, au_add, au_sub, b_len_tup, b_int, b_int_bl, b_abs, b_max, b_min, at_some, x_tup, isi_non_int, isi_non_bool, isi_non_str, isi_non_tuple, isi_non_list, isi_non_dict, isi_bl_int, isi_bl_bool, isi_bl_str, isi_bl_tuple, isi_bl_list, isi_bl_dict, isi_int_int, isi_int_bool, isi_int_str, isi_int_tuple, isi_int_list, isi_int_dict, isi_str_int, isi_str_bool, isi_str_str, isi_str_tuple, isi_str_list, isi_str_dict, isi_tup_int, isi_tup_bool, isi_tup_str, isi_tup_tuple, isi_tup_list, isi_tup_dict, isi_fro_int, isi_fro_bool, isi_fro_str, isi_fro_tuple, isi_fro_list, isi_fro_dict, PV.isNon, eq_self, decide_true, Bool.not_true, Bool.not_false, sl_fro, gc_pure, cl_lst, cl_dK, cx_ref, cx_str, cop_add, cb_len, cl_q, cm_append, cm_pop, pop_snoc, cm_extend, csrc, ctg, ixs, gc_ref, gc_ref0, e_dnew, e_get1, e_get2, cl_d, gd_ref, gd_str, cm_isin, cm_notin, intsK, e_sset, ssetK, b_sorted, m_insert, cb_sum, b_tuple_ref, b_tuple_tup, b_list_tup, b_list_ref, sl_tup, sl_ref, tr_tup, sizeLine_eq, Nat.reduceLeDiff, Int.reduceLT, Int.reduceLE, true_and, and_true, st_new0, st_newk, st_set0, st_setk, List.getElem?_cons_zero, List.getElem?_cons_succ, List.append_assoc, List.cons_append, List.nil_append, List.append_nil, List.length_append, List.length_cons, List.length_nil, Nat.zero_add, Nat.reduceAdd, List.set_cons_zero, List.set_cons_succ, stV, getV0, getVs, setV0, setVs]
  refine cl_of (law_same_do h5 (by simp [PV.plain]) (by simp [PV.sz])) ?_
  rintro v M' ⟨rfl, rfl⟩
  simp only [ss_nil, ss_cons, s_asgv, s_asgt, s_para, s_auga, s_exp, s_retE, s_retNon, s_if, s_while, s_fo, s_break, s_conti, s_ps, e_var, varK, e_int, e_bl, e_non, e_str, e_ty, e_bin, e_neg, e_cmp, e_chain, e_isN, e_notN, e_and, e_or, e_not, e_ite, e_call, e_callK, prm_some, e_bi, e_tup, e_lst, lstK, tupK, e_ix, e_sl, eo_none, eo_some, in_int, e_mt, e_bits, bt_int, ng_int, e_comp, e_gc, es_nil, es_cons, tg_var, tg_tup, tg_sub, tgs_nil, tgs_cons, it_list, it_tup, it_rng1, it_rng2, it_enum, src_tup, src_fro, src_rng, src_enum, op_add, op_sub, op_mul, op_fdiv, op_mod, op_pow, op_shl, op_shr, op_addt, cm_lt, cm_le, cm_gt, cm_ge, cm_eq, cm_ne, cm_eq_bl, cm_ne_bl, cm_eq_str, cm_ne_str, tr_bl, tr_int, tr_non, ch_bl, cond_dec, cond_not, cond_t, cond_f, cond_ne, au_add, au_sub, b_len_tup, b_int, b_int_bl, b_abs, b_max, b_min, at_some, x_tup, isi_non_int, isi_non_bool, isi_non_str, isi_non_tuple, isi_non_list, isi_non_dict, isi_bl_int, isi_bl_bool, isi_bl_str, isi_bl_tuple, isi_bl_list, isi_bl_dict, isi_int_int, isi_int_bool, isi_int_str, isi_int_tuple, isi_int_list, isi_int_dict, isi_str_int, isi_str_bool, isi_str_str, isi_str_tuple, isi_str_list, isi_str_dict, isi_tup_int, isi_tup_bool, isi_tup_str, isi_tup_tuple, isi_tup_list, isi_tup_dict, isi_fro_int, isi_fro_bool, isi_fro_str, isi_fro_tuple, isi_fro_list, isi_fro_dict, PV.isNon, eq_self, decide_true, Bool.not_true, Bool.not_false, sl_fro, gc_pure, cl_lst, cl_dK, cx_ref, cx_str, cop_add, cb_len, cl_q, cm_append, cm_pop, pop_snoc, cm_extend, csrc, ctg, ixs, gc_ref, gc_ref0, e_dnew, e_get1, e_get2, cl_d, gd_ref, gd_str, cm_isin, cm_notin, intsK, e_sset, ssetK, b_sorted, m_insert, cb_sum, b_tuple_ref, b_tuple_tup, b_list_tup, b_list_ref, sl_tup, sl_ref, tr_tup, sizeLine_eq, Nat.reduceLeDiff, Int.reduceLT, Int.reduceLE, true_and, and_true, st_new0, st_newk, st_set0, st_setk, List.getElem?_cons_zero, List.getElem?_cons_succ, List.append_assoc, List.cons_append, List.nil_append, List.append_nil, List.length_append, List.length_cons, List.length_nil, Nat.zero_add, Nat.reduceAdd, List.set_cons_zero, List.set_cons_succ, stV, getV0, getVs, setV0, setVs]
/-! made numbers -/
def zl (L : List (Nat × Nat)) : Prs := L.map fun p => ((p.1 : Int), (p.2 : Int))
theorem zl_app {a b : List (Nat × Nat)} : zl (a ++ b) = zl a ++ zl b := List.map_append
theorem zl_up {L : List (Nat × Nat)} (h : PL L) : UpK (zl L) := by
  unfold UpK zl
  rw [List.pairwise_map]
  exact List.Pairwise.imp (fun {a b} hab => by omega) h.ne
theorem zl_off {L : List (Nat × Nat)} {p : Nat} (h : ∀ q ∈ L, q.1 ≠ p) : ∀ q ∈ zl L, q.1 ≠ (p : Int) := by
  intro q hq
  obtain ⟨z, hz, rfl⟩ := List.mem_map.mp hq
  have := h z hz
  dsimp only
  omega
theorem zl_new {L : List (Nat × Nat)} {p : Nat} (h : ∀ q ∈ L, q.1 ≠ p) {v : Nat} : putI (zl L) p v = zl (L ++ [(p, v)]) := by
  unfold putI
  rw [if_neg, zl_app]
  · rfl
  · intro hc
    obtain ⟨q, hq, e⟩ := List.any_eq_true.mp hc
    exact zl_off h q hq (by simpa using e)
theorem zl_more {L : List (Nat × Nat)} {p e v : Nat} (h : ∀ q ∈ L, q.1 ≠ p) : putI (zl (L ++ [(p, e)])) p v = zl (L ++ [(p, v)]) := by
  unfold putI
  rw [zl_app, if_pos, zl_app, List.map_append]
  · congr 1
    · rw [List.map_congr_left (g := id) fun q hq => by rw [if_neg (zl_off h q hq)]; rfl]
      simp
    · simp [zl]
  · rw [List.any_append]
    simp [zl]
theorem pprod_snoc {L : List (Nat × Nat)} {p : Nat × Nat} : pprod (L ++ [p]) = pprod L * p.1 ^ p.2 := by
  induction L with
  | nil => simp [pprod]
  | cons q r ih => simp only [List.cons_append, pprod, ih]; ac_rfl
theorem pfac_snoc {L : List (Nat × Nat)} {p : Nat × Nat} : pfac (L ++ [p]) = pfac L * p.1 ^ (p.2 / 2) := by
  induction L with
  | nil => simp [pfac]
  | cons q r ih => simp only [List.cons_append, pfac, ih]; ac_rfl
theorem pker_snoc {L : List (Nat × Nat)} {p : Nat × Nat} : pker (L ++ [p]) = pker L * (if p.2 % 2 = 1 then p.1 else 1) := by
  induction L with
  | nil => simp [pker]
  | cons q r ih => simp only [List.cons_append, pker, ih]; ac_rfl
theorem PL.take {L : List (Nat × Nat)} (h : PL L) (i : Nat) : PL (L.take i) := ⟨h.ne.sublist (List.take_sublist i L), fun p hp => h.pr p (List.mem_of_mem_take hp)⟩
theorem PL.snoc {L : List (Nat × Nat)} (h : PL L) {p e : Nat} (hp : IsP p) (he : 1 ≤ e) (hn : ∀ q ∈ L, q.1 ≠ p) : PL (L ++ [(p, e)]) := by
  refine ⟨?_, fun q hq => ?_⟩
  · rw [List.pairwise_append]
    refine ⟨h.ne, List.pairwise_singleton _ _, fun a ha b hb => ?_⟩
    simp at hb
    subst hb
    exact hn a ha
  · rcases List.mem_append.mp hq with a | a
    · exact h.pr q a
    · simp at a
      subst a
      exact ⟨hp, he⟩
theorem pprod_take {L : List (Nat × Nat)} (h : PL L) (i : Nat) : pprod (L.take i) ≤ pprod L := by
  induction L generalizing i with
  | nil => simp [pprod]
  | cons q r ih =>
    have q0 := isP_pos (h.pr q (List.mem_cons_self ..)).1
    have k0 := pker_ker h.tail
    have r0 : 0 < pprod r := by
      rw [← k0.eq]
      exact Nat.mul_pos (Nat.mul_pos k0.f0 k0.f0) k0.k0
    cases i with
    | zero =>
      simp only [List.take_zero, pprod]
      exact Nat.mul_pos (Nat.pow_pos q0) r0
    | succ i =>
      simp only [List.take_succ_cons, pprod]
      exact Nat.mul_le_mul_left _ (ih h.tail i)
/-- the primes in turn -/
def prs (L : List (Nat × Nat)) : List Nat := (sortI ((zl L).map (·.1))).map Int.toNat
theorem prs_pV {L : List (Nat × Nat)} : pV (prs L) = (sortI ((zl L).map (·.1))).map PV.int := by
  unfold pV prs
  rw [List.map_map]
  apply List.map_congr_left
  intro z hz
  rw [sortI_mem] at hz
  obtain ⟨p, hp, rfl⟩ := List.mem_map.mp hz
  obtain ⟨q, hq, rfl⟩ := List.mem_map.mp hp
  rfl
theorem prs_is {L : List (Nat × Nat)} (h : PL L) : IsPs (pprod L) (prs L) := by
  have up := sortI_up (l := (zl L).map (·.1)) (by rw [List.pairwise_map]; exact zl_up h)
  have nn : ∀ z ∈ sortI ((zl L).map (·.1)), 0 ≤ z := fun z hz => by
    rw [sortI_mem] at hz
    obtain ⟨p, hp, rfl⟩ := List.mem_map.mp hz
    obtain ⟨q, hq, rfl⟩ := List.mem_map.mp hp
    dsimp only
    omega
  refine ⟨?_, fun p => ?_⟩
  · unfold prs
    rw [List.pairwise_map]
    refine List.Pairwise.imp_of_mem (fun {a b} ha hb hab => ?_) up
    have := nn a ha
    have := nn b hb
    omega
  · constructor
    · intro hp
      obtain ⟨z, hz, rfl⟩ := List.mem_map.mp hp
      rw [sortI_mem] at hz
      obtain ⟨q, hq, rfl⟩ := List.mem_map.mp hz
      obtain ⟨w, hw, rfl⟩ := List.mem_map.mp hq
      exact ⟨(h.pr w hw).1, pprod_has h w hw⟩
    · rintro ⟨hp, hd⟩
      obtain ⟨w, hw, rfl⟩ := pprod_dvd hp h hd
      refine List.mem_map.mpr ⟨(w.1 : Int), ?_, rfl⟩
      rw [sortI_mem]
      exact List.mem_map.mpr ⟨((w.1 : Int), (w.2 : Int)), List.mem_map.mpr ⟨w, hw, rfl⟩, rfl⟩
theorem prs_len {L : List (Nat × Nat)} : (prs L).length = L.length := by
  unfold prs zl
  rw [List.length_map, sortI_len, List.length_map, List.length_map]
theorem ints_get {zs : List Int} {xs : List PV} {P : Int → Prop} (e : xs = zs.map .int) (hb : ∀ z ∈ zs, P z) {i : Int} (h0 : 0 ≤ i) (h1 : i < xs.length) : ∃ z, atI xs i = some (.int z) ∧ P z := by
  obtain ⟨v, hv, hm⟩ := at_in h0 h1
  subst e
  obtain ⟨z, hz, rfl⟩ := List.mem_map.mp hm
  exact ⟨z, hv, hb z hz⟩
def isPB (z : Int) : Bool := decide (2 ≤ z) && (chp z.toNat 10 2 && decide (z.toNat < (2 + 2 ^ 10) * (2 + 2 ^ 10)))
theorem isPB_of {z : Int} (h : isPB z = true) : ∃ p : Nat, z = (p : Int) ∧ IsP p ∧ p < 1100000 := by
  unfold isPB at h
  simp only [Bool.and_eq_true, decide_eq_true_eq] at h
  exact ⟨z.toNat, by omega, isP_chk (by omega) h.2.1 h.2.2, by omega⟩
end Q

namespace Q
open PySem PySem.Spec PyProof.Rows L2
/-! the store grown beside a changed cell -/
theorem new_at {M M1 r : Store} {c : Cell} (h : M1.length = M.length) : (M1 ++ c :: r)[M.length]? = some c := by
  rw [← h]
  exact st_new0
theorem new_k {M M1 ex : Store} (h : M1.length = M.length) (k : Nat) : (M1 ++ ex)[M.length + k]? = ex[k]? := by
  rw [← h]
  exact st_newk k
theorem new_set {M M1 r : Store} {c x : Cell} (h : M1.length = M.length) : (M1 ++ c :: r).set M.length x = M1 ++ x :: r := by
  rw [← h]
  exact st_set0
theorem new_setk {M M1 ex : Store} {c : Cell} (h : M1.length = M.length) (k : Nat) : (M1 ++ ex).set (M.length + k) c = M1 ++ ex.set k c := by
  rw [← h]
  exact st_setk k
def LLt (L : List (Nat × Nat)) (q t : Nat) : List (Nat × Nat) := if t = 0 then L else L ++ [(q, t)]
section
variable {L : List (Nat × Nat)} {q t : Nat}
theorem LLt_PL (h : PL L) (hq : IsP q) (hn : ∀ w ∈ L, w.1 ≠ q) : PL (LLt L q t) := by
  unfold LLt
  split
  · exact h
  · exact h.snoc hq (by omega) hn
theorem LLt_prod : pprod (LLt L q t) = pprod L * q ^ t := by
  unfold LLt
  split
  · rename_i h
    subst h
    simp
  · exact pprod_snoc
theorem LLt_get (hn : ∀ w ∈ L, w.1 ≠ q) : sumAt (zl (LLt L q t)) (q : Int) = (t : Int) := by
  unfold LLt
  split
  · rename_i h
    subst h
    exact sumAt_off (zl_off hn)
  · rw [zl_app, sumAt_app, sumAt_off (zl_off hn)]
    simp [zl, sumAt]
theorem LLt_put (hn : ∀ w ∈ L, w.1 ≠ q) : putI (zl (LLt L q t)) (q : Int) ((t : Int) + 1) = zl (LLt L q (t + 1)) := by
  have e : (t : Int) + 1 = ((t + 1 : Nat) : Int) := rfl
  rw [e]
  unfold LLt
  rw [if_neg (Nat.succ_ne_zero t)]
  split
  · exact zl_new hn
  · exact zl_more hn
theorem LLt_len : (LLt L q t).length ≤ L.length + 1 := by
  unfold LLt
  split <;> simp
end
theorem gi0 {M ex : Store} {z : Int} {k : PV → Bx → Prop} : Gc M (.int z) ⟨M ++ ex⟩ k = k (.int z) ⟨M⟩ := gc_drop (by simp [PV.low])
theorem gi3 {M ex : Store} {a b c : Cell} {z : Int} {k : PV → Bx → Prop} : Gc (M ++ [a, b, c]) (.int z) ⟨M ++ a :: b :: c :: ex⟩ k = k (.int z) ⟨M ++ [a, b, c]⟩ := by
  have e : M ++ a :: b :: c :: ex = (M ++ [a, b, c]) ++ ex := by simp
  rw [e]
  exact gi0
theorem law_made_v1_do {T : Nat → Option QF} (h41 : T 41 = some q_law_draw_v1) (h43 : T 43 = some q_law_made_v1) {n : Nat} {M : Store} {p d : Nat} (hd : Dice p d M) :
    Does T (n + 2) 43 [.ref d] M fun v M' => ∃ (x f k : Nat) (ps : List Nat), v = .tup [.int (x : Nat), .int (f : Nat), .int (k : Nat), .tup (pV ps)] ∧ 0 < x ∧ x ≤ 1000000000 ∧ IsKer x f k ∧ IsPs x ps ∧ ps.length ≤ 5 ∧ Evo p d M M' := by
  refine does_of h43 rfl rfl ?_
  simp only [ss_nil, ss_cons, s_asgv, s_asgt, s_para, s_auga, s_exp, s_retE, s_retNon, s_if, s_while, s_fo, s_break, s_conti, s_ps, e_var, varK, e_int, e_bl, e_non, e_str, e_ty, e_bin, e_neg, e_cmp, e_chain, e_isN, e_notN, e_and, e_or, e_not, e_ite, e_call, e_callK, prm_some, e_bi, e_tup, e_lst, lstK, tupK, e_ix, e_sl, eo_none, eo_some, in_int, e_mt, e_bits, bt_int, ng_int, e_comp, e_gc, es_nil, es_cons, tg_var, tg_tup, tg_sub, tgs_nil, tgs_cons, it_list, it_tup, it_rng1, it_rng2, it_enum, src_tup, src_fro, src_rng, src_enum, op_add, op_sub, op_mul, op_fdiv, op_mod, op_pow, op_shl, op_shr, op_addt, cm_lt, cm_le, cm_gt, cm_ge, cm_eq, cm_ne, cm_eq_bl, cm_ne_bl, cm_eq_str, cm_ne_str, tr_bl, tr_int, tr_non, ch_bl, cond_dec, cond_not, cond_t, cond_f, cond_ne, au_add, au_sub, b_len_tup, b_int, b_int_bl, b_abs, b_max, b_min, at_some, x_tup, isi_non_int, isi_non_bool, isi_non_str, isi_non_tuple, isi_non_list, isi_non_dict, isi_bl_int, isi_bl_bool, isi_bl_str, isi_bl_tuple, isi_bl_list, isi_bl_dict, isi_int_int, isi_int_bool, isi_int_str, isi_int_tuple, isi_int_list, isi_int_dict, isi_str_int, isi_str_bool, isi_str_str, isi_str_tuple, isi_str_list, isi_str_dict, isi_tup_int, isi_tup_bool, isi_tup_str, isi_tup_tuple, isi_tup_list, isi_tup_dict, isi_fro_int, isi_fro_bool, isi_fro_str, isi_fro_tuple, isi_fro_list, isi_fro_dict, PV.isNon, eq_self, decide_true, Bool.not_true, Bool.not_false, sl_fro, gc_pure, cl_lst, cl_dK, cx_ref, cx_str, cop_add, cb_len, cl_q, cm_append, cm_pop, pop_snoc, cm_extend, csrc, ctg, ixs, gc_ref, gc_ref0, e_dnew, e_get1, e_get2, cl_d, gd_ref, gd_str, cm_isin, cm_notin, intsK, e_sset, ssetK, b_sorted, m_insert, cb_sum, b_tuple_ref, b_tuple_tup, b_list_tup, b_list_ref, sl_tup, sl_ref, tr_tup, sizeLine_eq, Nat.reduceLeDiff, Int.reduceLT, Int.reduceLE, true_and, and_true, st_new0, st_newk, st_set0, st_setk, List.getElem?_cons_zero, List.getElem?_cons_succ, List.append_assoc, List.cons_append, List.nil_append, List.append_nil, List.length_append, List.length_cons, List.length_nil, Nat.zero_add, Nat.reduceAdd, List.set_cons_zero, List.set_cons_succ, stV, getV0, getVs, setV0, setVs, q_law_made_v1]
  generalize hsm : ([.int 2, .int 3, .int 5, .int 7, .int 11, .int 13, .int 17, .int 19, .int 23, .int 29, .int 31, .int 37] : List PV) = small
  generalize hgr : ([.int 97, .int 101, .int 499, .int 1009, .int 9973, .int 10007, .int 31607, .int 99991, .int 999983] : List PV) = great
  have gsm : ∀ i : Int, 0 ≤ i → i < 12 → ∃ z, atI small i = some (.int z) ∧ isPB z = true := fun i h0 h1 => by
    refine ints_get (zs := [2, 3, 5, 7, 11, 13, 17, 19, 23, 29, 31, 37]) hsm.symm ?_ h0 (by rw [← hsm]; exact h1)
    have : ([2, 3, 5, 7, 11, 13, 17, 19, 23, 29, 31, 37] : List Int).all isPB = true := by decide +kernel
    exact List.all_eq_true.mp this
  have ggr : ∀ i : Int, 0 ≤ i → i < 9 → ∃ z, atI great i = some (.int z) ∧ isPB z = true := fun i h0 h1 => by
    refine ints_get (zs := [97, 101, 499, 1009, 9973, 10007, 31607, 99991, 999983]) hgr.symm ?_ h0 (by rw [← hgr]; exact h1)
    have : ([97, 101, 499, 1009, 9973, 10007, 31607, 99991, 999983] : List Int).all isPB = true := by decide +kernel
    exact List.all_eq_true.mp this
  refine cl_of (law_draw_do h41 (hd.app _) (by decide)) ?_
  rintro v M1' ⟨habit, rfl, hh0, hh1, ev1'⟩
  obtain ⟨M1, rfl, ev1⟩ := ev1'.split hd
  simp only [ss_nil, ss_cons, s_asgv, s_asgt, s_para, s_auga, s_exp, s_retE, s_retNon, s_if, s_while, s_fo, s_break, s_conti, s_ps, e_var, varK, e_int, e_bl, e_non, e_str, e_ty, e_bin, e_neg, e_cmp, e_chain, e_isN, e_notN, e_and, e_or, e_not, e_ite, e_call, e_callK, prm_some, e_bi, e_tup, e_lst, lstK, tupK, e_ix, e_sl, eo_none, eo_some, in_int, e_mt, e_bits, bt_int, ng_int, e_comp, e_gc, es_nil, es_cons, tg_var, tg_tup, tg_sub, tgs_nil, tgs_cons, it_list, it_tup, it_rng1, it_rng2, it_enum, src_tup, src_fro, src_rng, src_enum, op_add, op_sub, op_mul, op_fdiv, op_mod, op_pow, op_shl, op_shr, op_addt, cm_lt, cm_le, cm_gt, cm_ge, cm_eq, cm_ne, cm_eq_bl, cm_ne_bl, cm_eq_str, cm_ne_str, tr_bl, tr_int, tr_non, ch_bl, cond_dec, cond_not, cond_t, cond_f, cond_ne, au_add, au_sub, b_len_tup, b_int, b_int_bl, b_abs, b_max, b_min, at_some, x_tup, isi_non_int, isi_non_bool, isi_non_str, isi_non_tuple, isi_non_list, isi_non_dict, isi_bl_int, isi_bl_bool, isi_bl_str, isi_bl_tuple, isi_bl_list, isi_bl_dict, isi_int_int, isi_int_bool, isi_int_str, isi_int_tuple, isi_int_list, isi_int_dict, isi_str_int, isi_str_bool, isi_str_str, isi_str_tuple, isi_str_list, isi_str_dict, isi_tup_int, isi_tup_bool, isi_tup_str, isi_tup_tuple, isi_tup_list, isi_tup_dict, isi_fro_int, isi_fro_bool, isi_fro_str, isi_fro_tuple, isi_fro_list, isi_fro_dict, PV.isNon, eq_self, decide_true, Bool.not_true, Bool.not_false, sl_fro, gc_pure, cl_lst, cl_dK, cx_ref, cx_str, cop_add, cb_len, cl_q, cm_append, cm_pop, pop_snoc, cm_extend, csrc, ctg, ixs, gc_ref, gc_ref0, e_dnew, e_get1, e_get2, cl_d, gd_ref, gd_str, cm_isin, cm_notin, intsK, e_sset, ssetK, b_sorted, m_insert, cb_sum, b_tuple_ref, b_tuple_tup, b_list_tup, b_list_ref, sl_tup, sl_ref, tr_tup, sizeLine_eq, Nat.reduceLeDiff, Int.reduceLT, Int.reduceLE, true_and, and_true, st_new0, st_newk, st_set0, st_setk, List.getElem?_cons_zero, List.getElem?_cons_succ, List.append_assoc, List.cons_append, List.nil_append, List.append_nil, List.length_append, List.length_cons, List.length_nil, Nat.zero_add, Nat.reduceAdd, List.set_cons_zero, List.set_cons_succ, stV, getV0, getVs, setV0, setVs]
  refine cl_of (law_draw_do h41 (ev1.dice.app _) (by decide)) ?_
  rintro v M2' ⟨laps, rfl, hl0, hl1, ev2'⟩
  obtain ⟨M2, rfl, ev2⟩ := ev2'.split ev1.dice
  have e2 := ev1.trans ev2
  simp only [ss_nil, ss_cons, s_asgv, s_asgt, s_para, s_auga, s_exp, s_retE, s_retNon, s_if, s_while, s_fo, s_break, s_conti, s_ps, e_var, varK, e_int, e_bl, e_non, e_str, e_ty, e_bin, e_neg, e_cmp, e_chain, e_isN, e_notN, e_and, e_or, e_not, e_ite, e_call, e_callK, prm_some, e_bi, e_tup, e_lst, lstK, tupK, e_ix, e_sl, eo_none, eo_some, in_int, e_mt, e_bits, bt_int, ng_int, e_comp, e_gc, es_nil, es_cons, tg_var, tg_tup, tg_sub, tgs_nil, tgs_cons, it_list, it_tup, it_rng1, it_rng2, it_enum, src_tup, src_fro, src_rng, src_enum, op_add, op_sub, op_mul, op_fdiv, op_mod, op_pow, op_shl, op_shr, op_addt, cm_lt, cm_le, cm_gt, cm_ge, cm_eq, cm_ne, cm_eq_bl, cm_ne_bl, cm_eq_str, cm_ne_str, tr_bl, tr_int, tr_non, ch_bl, cond_dec, cond_not, cond_t, cond_f, cond_ne, au_add, au_sub, b_len_tup, b_int, b_int_bl, b_abs, b_max, b_min, at_some, x_tup, isi_non_int, isi_non_bool, isi_non_str, isi_non_tuple, isi_non_list, isi_non_dict, isi_bl_int, isi_bl_bool, isi_bl_str, isi_bl_tuple, isi_bl_list, isi_bl_dict, isi_int_int, isi_int_bool, isi_int_str, isi_int_tuple, isi_int_list, isi_int_dict, isi_str_int, isi_str_bool, isi_str_str, isi_str_tuple, isi_str_list, isi_str_dict, isi_tup_int, isi_tup_bool, isi_tup_str, isi_tup_tuple, isi_tup_list, isi_tup_dict, isi_fro_int, isi_fro_bool, isi_fro_str, isi_fro_tuple, isi_fro_list, isi_fro_dict, PV.isNon, eq_self, decide_true, Bool.not_true, Bool.not_false, sl_fro, gc_pure, cl_lst, cl_dK, cx_ref, cx_str, cop_add, cb_len, cl_q, cm_append, cm_pop, pop_snoc, cm_extend, csrc, ctg, ixs, gc_ref, gc_ref0, e_dnew, e_get1, e_get2, cl_d, gd_ref, gd_str, cm_isin, cm_notin, intsK, e_sset, ssetK, b_sorted, m_insert, cb_sum, b_tuple_ref, b_tuple_tup, b_list_tup, b_list_ref, sl_tup, sl_ref, tr_tup, sizeLine_eq, Nat.reduceLeDiff, Int.reduceLT, Int.reduceLE, true_and, and_true, st_new0, st_newk, st_set0, st_setk, List.getElem?_cons_zero, List.getElem?_cons_succ, List.append_assoc, List.cons_append, List.nil_append, List.append_nil, List.length_append, List.length_cons, List.length_nil, Nat.zero_add, Nat.reduceAdd, List.set_cons_zero, List.set_cons_succ, stV, getV0, getVs, setV0, setVs]
  refine ⟨by omega, ?_⟩
  refine fo_rule (fun i e B => ∃ (M3 : Store) (L : List (Nat × Nat)) (o8 o9 o10 o11 : Option PV), e = [some (.ref d), some (.ref M.length), some (.ref (M.length + 1)), some (.int ((pprod L : Nat) : Int)), some (.int 1), some (.int 1), some (.ref (M.length + 2)), some (.int habit), o8, o9, o10, o11] ∧ B = ⟨M3 ++ [.lst small, .lst great, .dK false (dkv (zl L))]⟩ ∧ Evo p d M M3 ∧ PL L ∧ pprod L ≤ 1000000000 ∧ L.length ≤ i) ⟨M2, [], _, _, _, _, rfl, rfl, e2, ⟨List.Pairwise.nil, by simp⟩, by decide, by simp⟩ (fun _ _ _ _ _ => rfl) ?_ ?_
  · rintro i x e M' hx ⟨M3, L, o8, o9, o10, o11, rfl, eM, e3, hL, hprod, hlen⟩
    cases eM
    obtain ⟨rfl, hi⟩ := rng_get hx
    have hi5 : i < 5 := by omega
    have hx4 : ∃ mm : Int, atI [PV.int 1, .int 4, .int 2, .int 6] habit = some (.int mm) ∧ 1 ≤ mm ∧ mm ≤ 6 := by
      rcases (by omega : habit = 0 ∨ habit = 1 ∨ habit = 2 ∨ habit = 3) with rfl | rfl | rfl | rfl
      · exact ⟨1, at0, by decide, by decide⟩
      · exact ⟨4, at1, by decide, by decide⟩
      · exact ⟨2, at2, by decide, by decide⟩
      · exact ⟨6, at3, by decide, by decide⟩
    obtain ⟨mm, hhab, hmm, hmm1⟩ := hx4
    have hmm0 : 0 < mm := by omega
    clear ev1' ev2' ev1 ev2 hsm hgr
    simp only [ss_nil, ss_cons, s_asgv, s_asgt, s_para, s_auga, s_exp, s_retE, s_retNon, s_if, s_while, s_fo, s_break, s_conti, s_ps, e_var, varK, e_int, e_bl, e_non, e_str, e_ty, e_bin, e_neg, e_cmp, e_chain, e_isN, e_notN, e_and, e_or, e_not, e_ite, e_call, e_callK, prm_some, e_bi, e_tup, e_lst, lstK, tupK, e_ix, e_sl, eo_none, eo_some, in_int, e_mt, e_bits, bt_int, ng_int, e_comp, e_gc, es_nil, es_cons, tg_var, tg_tup, tg_sub, tgs_nil, tgs_cons, it_list, it_tup, it_rng1, it_rng2, it_enum, src_tup, src_fro, src_rng, src_enum, op_add, op_sub, op_mul, op_fdiv, op_mod, op_pow, op_shl, op_shr, op_addt, cm_lt, cm_le, cm_gt, cm_ge, cm_eq, cm_ne, cm_eq_bl, cm_ne_bl, cm_eq_str, cm_ne_str, tr_bl, tr_int, tr_non, ch_bl, cond_dec, cond_not, cond_t, cond_f, cond_ne, au_add, au_sub, b_len_tup, b_int, b_int_bl, b_abs, b_max, b_min, at_some, x_tup, isi_non_int, isi_non_bool, isi_non_str, isi_non_tuple, isi_non_list, isi_non_dict, isi_bl_int, isi_bl_bool, isi_bl_str, isi_bl_tuple, isi_bl_list, isi_bl_dict, isi_int_int, isi_int_bool, isi_int_str, isi_int_tuple, isi_int_list, isi_int_dict, isi_str_int, isi_str_bool, isi_str_str, isi_str_tuple, isi_str_list, isi_str_dict, isi_tup_int, isi_tup_bool, isi_tup_str, isi_tup_tuple, isi_tup_list, isi_tup_dict, isi_fro_int, isi_fro_bool, isi_fro_str, isi_fro_tuple, isi_fro_list, isi_fro_dict, PV.isNon, eq_self, decide_true, Bool.not_true, Bool.not_false, sl_fro, gc_pure, cl_lst, cl_dK, cx_ref, cx_str, cop_add, cb_len, cl_q, cm_append, cm_pop, pop_snoc, cm_extend, csrc, ctg, ixs, gc_ref, gc_ref0, e_dnew, e_get1, e_get2, cl_d, gd_ref, gd_str, cm_isin, cm_notin, intsK, e_sset, ssetK, b_sorted, m_insert, cb_sum, b_tuple_ref, b_tuple_tup, b_list_tup, b_list_ref, sl_tup, sl_ref, tr_tup, sizeLine_eq, Nat.reduceLeDiff, Int.reduceLT, Int.reduceLE, true_and, and_true, st_new0, st_newk, st_set0, st_setk, List.getElem?_cons_zero, List.getElem?_cons_succ, List.append_assoc, List.cons_append, List.nil_append, List.append_nil, List.length_append, List.length_cons, List.length_nil, Nat.zero_add, Nat.reduceAdd, List.set_cons_zero, List.set_cons_succ, stV, getV0, getVs, setV0, setVs, q_law_made_v1_f1]
    refine ⟨fun h0 => ⟨fun _ => ?_, fun hc => absurd h0 hc⟩, fun h0 => ?_⟩
    · refine cl_of (law_draw_do h41 (e3.dice.app _) (by decide)) ?_
      rintro v M4' ⟨j, rfl, hj0, hj1, ev4'⟩
      obtain ⟨M4, rfl, ev4⟩ := ev4'.split e3.dice
      have e4 := e3.trans ev4
      obtain ⟨z, hz, hzp⟩ := ggr j hj0 hj1
      simp only [ss_nil, ss_cons, s_asgv, s_asgt, s_para, s_auga, s_exp, s_retE, s_retNon, s_if, s_while, s_fo, s_break, s_conti, s_ps, e_var, varK, e_int, e_bl, e_non, e_str, e_ty, e_bin, e_neg, e_cmp, e_chain, e_isN, e_notN, e_and, e_or, e_not, e_ite, e_call, e_callK, prm_some, e_bi, e_tup, e_lst, lstK, tupK, e_ix, e_sl, eo_none, eo_some, in_int, e_mt, e_bits, bt_int, ng_int, e_comp, e_gc, es_nil, es_cons, tg_var, tg_tup, tg_sub, tgs_nil, tgs_cons, it_list, it_tup, it_rng1, it_rng2, it_enum, src_tup, src_fro, src_rng, src_enum, op_add, op_sub, op_mul, op_fdiv, op_mod, op_pow, op_shl, op_shr, op_addt, cm_lt, cm_le, cm_gt, cm_ge, cm_eq, cm_ne, cm_eq_bl, cm_ne_bl, cm_eq_str, cm_ne_str, tr_bl, tr_int, tr_non, ch_bl, cond_dec, cond_not, cond_t, cond_f, cond_ne, au_add, au_sub, b_len_tup, b_int, b_int_bl, b_abs, b_max, b_min, at_some, x_tup, isi_non_int, isi_non_bool, isi_non_str, isi_non_tuple, isi_non_list, isi_non_dict, isi_bl_int, isi_bl_bool, isi_bl_str, isi_bl_tuple, isi_bl_list, isi_bl_dict, isi_int_int, isi_int_bool, isi_int_str, isi_int_tuple, isi_int_list, isi_int_dict, isi_str_int, isi_str_bool, isi_str_str, isi_str_tuple, isi_str_list, isi_str_dict, isi_tup_int, isi_tup_bool, isi_tup_str, isi_tup_tuple, isi_tup_list, isi_tup_dict, isi_fro_int, isi_fro_bool, isi_fro_str, isi_fro_tuple, isi_fro_list, isi_fro_dict, PV.isNon, eq_self, decide_true, Bool.not_true, Bool.not_false, sl_fro, gc_pure, cl_lst, cl_dK, cx_ref, cx_str, cop_add, cb_len, cl_q, cm_append, cm_pop, pop_snoc, cm_extend, csrc, ctg, ixs, gc_ref, gc_ref0, e_dnew, e_get1, e_get2, cl_d, gd_ref, gd_str, cm_isin, cm_notin, intsK, e_sset, ssetK, b_sorted, m_insert, cb_sum, b_tuple_ref, b_tuple_tup, b_list_tup, b_list_ref, sl_tup, sl_ref, tr_tup, sizeLine_eq, Nat.reduceLeDiff, Int.reduceLT, Int.reduceLE, true_and, and_true, st_new0, st_newk, st_set0, st_setk, List.getElem?_cons_zero, List.getElem?_cons_succ, List.append_assoc, List.cons_append, List.nil_append, List.append_nil, List.length_append, List.length_cons, List.length_nil, Nat.zero_add, Nat.reduceAdd, List.set_cons_zero, List.set_cons_succ, stV, getV0, getVs, setV0, setVs, new_at e4.len, new_k e4.len, hz, hhab, gi3]
      refine cl_of (law_draw_do h41 (e4.dice.app _) hmm0) ?_
      rintro v M5' ⟨many, rfl, hn0, hn1, ev5'⟩
      obtain ⟨M5, rfl, ev5⟩ := ev5'.split e4.dice
      have e5 := e4.trans ev5
      clear ev5' ev5 ev4' hx
      obtain ⟨q, rfl, hq, hqs⟩ := isPB_of hzp
      by_cases hin : ∃ w ∈ L, w.1 = q
      · obtain ⟨w, hw, rfl⟩ := hin
        have hg : getK (dkv (zl L)) (.inl (w.1 : Int)) = some (.int (w.2 : Int)) := getK_some (zl_up hL) (List.mem_map.mpr ⟨w, hw, rfl⟩)
        simp only [ss_nil, ss_cons, s_asgv, s_asgt, s_para, s_auga, s_exp, s_retE, s_retNon, s_if, s_while, s_fo, s_break, s_conti, s_ps, e_var, varK, e_int, e_bl, e_non, e_str, e_ty, e_bin, e_neg, e_cmp, e_chain, e_isN, e_notN, e_and, e_or, e_not, e_ite, e_call, e_callK, prm_some, e_bi, e_tup, e_lst, lstK, tupK, e_ix, e_sl, eo_none, eo_some, in_int, e_mt, e_bits, bt_int, ng_int, e_comp, e_gc, es_nil, es_cons, tg_var, tg_tup, tg_sub, tgs_nil, tgs_cons, it_list, it_tup, it_rng1, it_rng2, it_enum, src_tup, src_fro, src_rng, src_enum, op_add, op_sub, op_mul, op_fdiv, op_mod, op_pow, op_shl, op_shr, op_addt, cm_lt, cm_le, cm_gt, cm_ge, cm_eq, cm_ne, cm_eq_bl, cm_ne_bl, cm_eq_str, cm_ne_str, tr_bl, tr_int, tr_non, ch_bl, cond_dec, cond_not, cond_t, cond_f, cond_ne, au_add, au_sub, b_len_tup, b_int, b_int_bl, b_abs, b_max, b_min, at_some, x_tup, isi_non_int, isi_non_bool, isi_non_str, isi_non_tuple, isi_non_list, isi_non_dict, isi_bl_int, isi_bl_bool, isi_bl_str, isi_bl_tuple, isi_bl_list, isi_bl_dict, isi_int_int, isi_int_bool, isi_int_str, isi_int_tuple, isi_int_list, isi_int_dict, isi_str_int, isi_str_bool, isi_str_str, isi_str_tuple, isi_str_list, isi_str_dict, isi_tup_int, isi_tup_bool, isi_tup_str, isi_tup_tuple, isi_tup_list, isi_tup_dict, isi_fro_int, isi_fro_bool, isi_fro_str, isi_fro_tuple, isi_fro_list, isi_fro_dict, PV.isNon, eq_self, decide_true, Bool.not_true, Bool.not_false, sl_fro, gc_pure, cl_lst, cl_dK, cx_ref, cx_str, cop_add, cb_len, cl_q, cm_append, cm_pop, pop_snoc, cm_extend, csrc, ctg, ixs, gc_ref, gc_ref0, e_dnew, e_get1, e_get2, cl_d, gd_ref, gd_str, cm_isin, cm_notin, intsK, e_sset, ssetK, b_sorted, m_insert, cb_sum, b_tuple_ref, b_tuple_tup, b_list_tup, b_list_ref, sl_tup, sl_ref, tr_tup, sizeLine_eq, Nat.reduceLeDiff, Int.reduceLT, Int.reduceLE, true_and, and_true, st_new0, st_newk, st_set0, st_setk, List.getElem?_cons_zero, List.getElem?_cons_succ, List.append_assoc, List.cons_append, List.nil_append, List.append_nil, List.length_append, List.length_cons, List.length_nil, Nat.zero_add, Nat.reduceAdd, List.set_cons_zero, List.set_cons_succ, stV, getV0, getVs, setV0, setVs, new_k e5.len, hg, Option.isSome_some]
        exact ⟨M5, L, _, _, _, _, rfl, rfl, e5, hL, hprod, by omega⟩
      · have hn : ∀ w ∈ L, w.1 ≠ q := fun w hw e => hin ⟨w, hw, e⟩
        have hg : getK (dkv (zl L)) (.inl (q : Int)) = none := getK_none (zl_off hn)
        simp only [ss_nil, ss_cons, s_asgv, s_asgt, s_para, s_auga, s_exp, s_retE, s_retNon, s_if, s_while, s_fo, s_break, s_conti, s_ps, e_var, varK, e_int, e_bl, e_non, e_str, e_ty, e_bin, e_neg, e_cmp, e_chain, e_isN, e_notN, e_and, e_or, e_not, e_ite, e_call, e_callK, prm_some, e_bi, e_tup, e_lst, lstK, tupK, e_ix, e_sl, eo_none, eo_some, in_int, e_mt, e_bits, bt_int, ng_int, e_comp, e_gc, es_nil, es_cons, tg_var, tg_tup, tg_sub, tgs_nil, tgs_cons, it_list, it_tup, it_rng1, it_rng2, it_enum, src_tup, src_fro, src_rng, src_enum, op_add, op_sub, op_mul, op_fdiv, op_mod, op_pow, op_shl, op_shr, op_addt, cm_lt, cm_le, cm_gt, cm_ge, cm_eq, cm_ne, cm_eq_bl, cm_ne_bl, cm_eq_str, cm_ne_str, tr_bl, tr_int, tr_non, ch_bl, cond_dec, cond_not, cond_t, cond_f, cond_ne, au_add, au_sub, b_len_tup, b_int, b_int_bl, b_abs, b_max, b_min, at_some, x_tup, isi_non_int, isi_non_bool, isi_non_str, isi_non_tuple, isi_non_list, isi_non_dict, isi_bl_int, isi_bl_bool, isi_bl_str, isi_bl_tuple, isi_bl_list, isi_bl_dict, isi_int_int, isi_int_bool, isi_int_str, isi_int_tuple, isi_int_list, isi_int_dict, isi_str_int, isi_str_bool, isi_str_str, isi_str_tuple, isi_str_list, isi_str_dict, isi_tup_int, isi_tup_bool, isi_tup_str, isi_tup_tuple, isi_tup_list, isi_tup_dict, isi_fro_int, isi_fro_bool, isi_fro_str, isi_fro_tuple, isi_fro_list, isi_fro_dict, PV.isNon, eq_self, decide_true, Bool.not_true, Bool.not_false, sl_fro, gc_pure, cl_lst, cl_dK, cx_ref, cx_str, cop_add, cb_len, cl_q, cm_append, cm_pop, pop_snoc, cm_extend, csrc, ctg, ixs, gc_ref, gc_ref0, e_dnew, e_get1, e_get2, cl_d, gd_ref, gd_str, cm_isin, cm_notin, intsK, e_sset, ssetK, b_sorted, m_insert, cb_sum, b_tuple_ref, b_tuple_tup, b_list_tup, b_list_ref, sl_tup, sl_ref, tr_tup, sizeLine_eq, Nat.reduceLeDiff, Int.reduceLT, Int.reduceLE, true_and, and_true, st_new0, st_newk, st_set0, st_setk, List.getElem?_cons_zero, List.getElem?_cons_succ, List.append_assoc, List.cons_append, List.nil_append, List.append_nil, List.length_append, List.length_cons, List.length_nil, Nat.zero_add, Nat.reduceAdd, List.set_cons_zero, List.set_cons_succ, stV, getV0, getVs, setV0, setVs, new_k e5.len, hg, Option.isSome_none]
        refine ⟨by omega, ?_⟩
        refine fo_rule (fun j e B => ∃ (t : Nat) (o11 : Option PV), e = [some (.ref d), some (.ref M.length), some (.ref (M.length + 1)), some (.int ((pprod (LLt L q t) : Nat) : Int)), some (.int 1), some (.int 1), some (.ref (M.length + 2)), some (.int habit), some (.int (0 + (i : Int))), some (.int (q : Int)), some (.int (1 + many)), o11] ∧ B = ⟨M5 ++ [.lst small, .lst great, .dK false (dkv (zl (LLt L q t)))]⟩ ∧ pprod (LLt L q t) ≤ 1000000000) ⟨0, _, rfl, rfl, hprod⟩ (fun _ _ _ _ _ => rfl) ?_ ?_
        · rintro j x e M' hx ⟨t, o11, rfl, eM, hpt⟩
          cases eM
          obtain ⟨rfl, hj⟩ := rng_get hx
          have hlt := LLt_len (L := L) (q := q) (t := t)
          have hzl : (zl (LLt L q t)).length = (LLt L q t).length := List.length_map _
          simp only [ss_nil, ss_cons, s_asgv, s_asgt, s_para, s_auga, s_exp, s_retE, s_retNon, s_if, s_while, s_fo, s_break, s_conti, s_ps, e_var, varK, e_int, e_bl, e_non, e_str, e_ty, e_bin, e_neg, e_cmp, e_chain, e_isN, e_notN, e_and, e_or, e_not, e_ite, e_call, e_callK, prm_some, e_bi, e_tup, e_lst, lstK, tupK, e_ix, e_sl, eo_none, eo_some, in_int, e_mt, e_bits, bt_int, ng_int, e_comp, e_gc, es_nil, es_cons, tg_var, tg_tup, tg_sub, tgs_nil, tgs_cons, it_list, it_tup, it_rng1, it_rng2, it_enum, src_tup, src_fro, src_rng, src_enum, op_add, op_sub, op_mul, op_fdiv, op_mod, op_pow, op_shl, op_shr, op_addt, cm_lt, cm_le, cm_gt, cm_ge, cm_eq, cm_ne, cm_eq_bl, cm_ne_bl, cm_eq_str, cm_ne_str, tr_bl, tr_int, tr_non, ch_bl, cond_dec, cond_not, cond_t, cond_f, cond_ne, au_add, au_sub, b_len_tup, b_int, b_int_bl, b_abs, b_max, b_min, at_some, x_tup, isi_non_int, isi_non_bool, isi_non_str, isi_non_tuple, isi_non_list, isi_non_dict, isi_bl_int, isi_bl_bool, isi_bl_str, isi_bl_tuple, isi_bl_list, isi_bl_dict, isi_int_int, isi_int_bool, isi_int_str, isi_int_tuple, isi_int_list, isi_int_dict, isi_str_int, isi_str_bool, isi_str_str, isi_str_tuple, isi_str_list, isi_str_dict, isi_tup_int, isi_tup_bool, isi_tup_str, isi_tup_tuple, isi_tup_list, isi_tup_dict, isi_fro_int, isi_fro_bool, isi_fro_str, isi_fro_tuple, isi_fro_list, isi_fro_dict, PV.isNon, eq_self, decide_true, Bool.not_true, Bool.not_false, sl_fro, gc_pure, cl_lst, cl_dK, cx_ref, cx_str, cop_add, cb_len, cl_q, cm_append, cm_pop, pop_snoc, cm_extend, csrc, ctg, ixs, gc_ref, gc_ref0, e_dnew, e_get1, e_get2, cl_d, gd_ref, gd_str, cm_isin, cm_notin, intsK, e_sset, ssetK, b_sorted, m_insert, cb_sum, b_tuple_ref, b_tuple_tup, b_list_tup, b_list_ref, sl_tup, sl_ref, tr_tup, sizeLine_eq, Nat.reduceLeDiff, Int.reduceLT, Int.reduceLE, true_and, and_true, st_new0, st_newk, st_set0, st_setk, List.getElem?_cons_zero, List.getElem?_cons_succ, List.append_assoc, List.cons_append, List.nil_append, List.append_nil, List.length_append, List.length_cons, List.length_nil, Nat.zero_add, Nat.reduceAdd, List.set_cons_zero, List.set_cons_succ, stV, getV0, getVs, setV0, setVs, q_law_made_v1_f2, new_k e5.len, getK_sum (zl_up (LLt_PL (t := t) hL hq hn)), LLt_get hn, se_dict (M := M5 ++ [.lst small, .lst great, .dK false (dkv (zl (LLt L q t)))]) (n := M.length + 2) (kvs := dkv (zl (LLt L q t))) (new_k e5.len 2), putP_dkv, LLt_put hn, dkv_len, new_setk e5.len]
          have hps : ((pprod (LLt L q t) : Nat) : Int).natAbs < 2 ^ 30 := abs_nat (by omega)
          have hq2 : ((q : Nat) : Int).natAbs < 2 ^ 21 := abs_nat (by omega)
          have hpr : pprod (LLt L q (t + 1)) = pprod (LLt L q t) * q := by rw [LLt_prod, LLt_prod, Nat.pow_succ]; ac_rfl
          refine ⟨cmul hps hq2 (by decide), fun hle => ⟨cmul hps hq2 (by decide), by omega, t + 1, some (.int (0 + (j : Int))), ?_, rfl, ?_⟩, fun _ => ⟨t, _, rfl, rfl, hpt⟩⟩
          · rw [hpr]
            rfl
          · rw [hpr]
            have : ((pprod (LLt L q t) * q : Nat) : Int) ≤ 1000000000 := hle
            omega
        · rintro e M' ⟨t, o11, rfl, eM, hpt⟩
          cases eM
          simp only [ss_nil, ss_cons, s_asgv, s_asgt, s_para, s_auga, s_exp, s_retE, s_retNon, s_if, s_while, s_fo, s_break, s_conti, s_ps, e_var, varK, e_int, e_bl, e_non, e_str, e_ty, e_bin, e_neg, e_cmp, e_chain, e_isN, e_notN, e_and, e_or, e_not, e_ite, e_call, e_callK, prm_some, e_bi, e_tup, e_lst, lstK, tupK, e_ix, e_sl, eo_none, eo_some, in_int, e_mt, e_bits, bt_int, ng_int, e_comp, e_gc, es_nil, es_cons, tg_var, tg_tup, tg_sub, tgs_nil, tgs_cons, it_list, it_tup, it_rng1, it_rng2, it_enum, src_tup, src_fro, src_rng, src_enum, op_add, op_sub, op_mul, op_fdiv, op_mod, op_pow, op_shl, op_shr, op_addt, cm_lt, cm_le, cm_gt, cm_ge, cm_eq, cm_ne, cm_eq_bl, cm_ne_bl, cm_eq_str, cm_ne_str, tr_bl, tr_int, tr_non, ch_bl, cond_dec, cond_not, cond_t, cond_f, cond_ne, au_add, au_sub, b_len_tup, b_int, b_int_bl, b_abs, b_max, b_min, at_some, x_tup, isi_non_int, isi_non_bool, isi_non_str, isi_non_tuple, isi_non_list, isi_non_dict, isi_bl_int, isi_bl_bool, isi_bl_str, isi_bl_tuple, isi_bl_list, isi_bl_dict, isi_int_int, isi_int_bool, isi_int_str, isi_int_tuple, isi_int_list, isi_int_dict, isi_str_int, isi_str_bool, isi_str_str, isi_str_tuple, isi_str_list, isi_str_dict, isi_tup_int, isi_tup_bool, isi_tup_str, isi_tup_tuple, isi_tup_list, isi_tup_dict, isi_fro_int, isi_fro_bool, isi_fro_str, isi_fro_tuple, isi_fro_list, isi_fro_dict, PV.isNon, eq_self, decide_true, Bool.not_true, Bool.not_false, sl_fro, gc_pure, cl_lst, cl_dK, cx_ref, cx_str, cop_add, cb_len, cl_q, cm_append, cm_pop, pop_snoc, cm_extend, csrc, ctg, ixs, gc_ref, gc_ref0, e_dnew, e_get1, e_get2, cl_d, gd_ref, gd_str, cm_isin, cm_notin, intsK, e_sset, ssetK, b_sorted, m_insert, cb_sum, b_tuple_ref, b_tuple_tup, b_list_tup, b_list_ref, sl_tup, sl_ref, tr_tup, sizeLine_eq, Nat.reduceLeDiff, Int.reduceLT, Int.reduceLE, true_and, and_true, st_new0, st_newk, st_set0, st_setk, List.getElem?_cons_zero, List.getElem?_cons_succ, List.append_assoc, List.cons_append, List.nil_append, List.append_nil, List.length_append, List.length_cons, List.length_nil, Nat.zero_add, Nat.reduceAdd, List.set_cons_zero, List.set_cons_succ, stV, getV0, getVs, setV0, setVs]
          exact ⟨M5, LLt L q t, _, _, _, _, rfl, rfl, e5, LLt_PL hL hq hn, hpt, by have := LLt_len (L := L) (q := q) (t := t); omega⟩
    · refine cl_of (law_draw_do h41 (e3.dice.app _) (by decide)) ?_
      rintro v M6' ⟨j6, rfl, hj60, hj61, ev6'⟩
      obtain ⟨M6, rfl, ev6⟩ := ev6'.split e3.dice
      have e6 := e3.trans ev6
      clear ev6' ev6 e3
      simp only [ss_nil, ss_cons, s_asgv, s_asgt, s_para, s_auga, s_exp, s_retE, s_retNon, s_if, s_while, s_fo, s_break, s_conti, s_ps, e_var, varK, e_int, e_bl, e_non, e_str, e_ty, e_bin, e_neg, e_cmp, e_chain, e_isN, e_notN, e_and, e_or, e_not, e_ite, e_call, e_callK, prm_some, e_bi, e_tup, e_lst, lstK, tupK, e_ix, e_sl, eo_none, eo_some, in_int, e_mt, e_bits, bt_int, ng_int, e_comp, e_gc, es_nil, es_cons, tg_var, tg_tup, tg_sub, tgs_nil, tgs_cons, it_list, it_tup, it_rng1, it_rng2, it_enum, src_tup, src_fro, src_rng, src_enum, op_add, op_sub, op_mul, op_fdiv, op_mod, op_pow, op_shl, op_shr, op_addt, cm_lt, cm_le, cm_gt, cm_ge, cm_eq, cm_ne, cm_eq_bl, cm_ne_bl, cm_eq_str, cm_ne_str, tr_bl, tr_int, tr_non, ch_bl, cond_dec, cond_not, cond_t, cond_f, cond_ne, au_add, au_sub, b_len_tup, b_int, b_int_bl, b_abs, b_max, b_min, at_some, x_tup, isi_non_int, isi_non_bool, isi_non_str, isi_non_tuple, isi_non_list, isi_non_dict, isi_bl_int, isi_bl_bool, isi_bl_str, isi_bl_tuple, isi_bl_list, isi_bl_dict, isi_int_int, isi_int_bool, isi_int_str, isi_int_tuple, isi_int_list, isi_int_dict, isi_str_int, isi_str_bool, isi_str_str, isi_str_tuple, isi_str_list, isi_str_dict, isi_tup_int, isi_tup_bool, isi_tup_str, isi_tup_tuple, isi_tup_list, isi_tup_dict, isi_fro_int, isi_fro_bool, isi_fro_str, isi_fro_tuple, isi_fro_list, isi_fro_dict, PV.isNon, eq_self, decide_true, Bool.not_true, Bool.not_false, sl_fro, gc_pure, cl_lst, cl_dK, cx_ref, cx_str, cop_add, cb_len, cl_q, cm_append, cm_pop, pop_snoc, cm_extend, csrc, ctg, ixs, gc_ref, gc_ref0, e_dnew, e_get1, e_get2, cl_d, gd_ref, gd_str, cm_isin, cm_notin, intsK, e_sset, ssetK, b_sorted, m_insert, cb_sum, b_tuple_ref, b_tuple_tup, b_list_tup, b_list_ref, sl_tup, sl_ref, tr_tup, sizeLine_eq, Nat.reduceLeDiff, Int.reduceLT, Int.reduceLE, true_and, and_true, st_new0, st_newk, st_set0, st_setk, List.getElem?_cons_zero, List.getElem?_cons_succ, List.append_assoc, List.cons_append, List.nil_append, List.append_nil, List.length_append, List.length_cons, List.length_nil, Nat.zero_add, Nat.reduceAdd, List.set_cons_zero, List.set_cons_succ, stV, getV0, getVs, setV0, setVs]
      refine ⟨fun h1 => ?_, fun h1 => ?_⟩
      · refine cl_of (law_draw_do h41 (e6.dice.app _) (by decide)) ?_
        rintro v M4' ⟨j, rfl, hj0, hj1, ev4'⟩
        obtain ⟨M4, rfl, ev4⟩ := ev4'.split e6.dice
        have e4 := e6.trans ev4
        obtain ⟨z, hz, hzp⟩ := ggr j hj0 hj1
        simp only [ss_nil, ss_cons, s_asgv, s_asgt, s_para, s_auga, s_exp, s_retE, s_retNon, s_if, s_while, s_fo, s_break, s_conti, s_ps, e_var, varK, e_int, e_bl, e_non, e_str, e_ty, e_bin, e_neg, e_cmp, e_chain, e_isN, e_notN, e_and, e_or, e_not, e_ite, e_call, e_callK, prm_some, e_bi, e_tup, e_lst, lstK, tupK, e_ix, e_sl, eo_none, eo_some, in_int, e_mt, e_bits, bt_int, ng_int, e_comp, e_gc, es_nil, es_cons, tg_var, tg_tup, tg_sub, tgs_nil, tgs_cons, it_list, it_tup, it_rng1, it_rng2, it_enum, src_tup, src_fro, src_rng, src_enum, op_add, op_sub, op_mul, op_fdiv, op_mod, op_pow, op_shl, op_shr, op_addt, cm_lt, cm_le, cm_gt, cm_ge, cm_eq, cm_ne, cm_eq_bl, cm_ne_bl, cm_eq_str, cm_ne_str, tr_bl, tr_int, tr_non, ch_bl, cond_dec, cond_not, cond_t, cond_f, cond_ne, au_add, au_sub, b_len_tup, b_int, b_int_bl, b_abs, b_max, b_min, at_some, x_tup, isi_non_int, isi_non_bool, isi_non_str, isi_non_tuple, isi_non_list, isi_non_dict, isi_bl_int, isi_bl_bool, isi_bl_str, isi_bl_tuple, isi_bl_list, isi_bl_dict, isi_int_int, isi_int_bool, isi_int_str, isi_int_tuple, isi_int_list, isi_int_dict, isi_str_int, isi_str_bool, isi_str_str, isi_str_tuple, isi_str_list, isi_str_dict, isi_tup_int, isi_tup_bool, isi_tup_str, isi_tup_tuple, isi_tup_list, isi_tup_dict, isi_fro_int, isi_fro_bool, isi_fro_str, isi_fro_tuple, isi_fro_list, isi_fro_dict, PV.isNon, eq_self, decide_true, Bool.not_true, Bool.not_false, sl_fro, gc_pure, cl_lst, cl_dK, cx_ref, cx_str, cop_add, cb_len, cl_q, cm_append, cm_pop, pop_snoc, cm_extend, csrc, ctg, ixs, gc_ref, gc_ref0, e_dnew, e_get1, e_get2, cl_d, gd_ref, gd_str, cm_isin, cm_notin, intsK, e_sset, ssetK, b_sorted, m_insert, cb_sum, b_tuple_ref, b_tuple_tup, b_list_tup, b_list_ref, sl_tup, sl_ref, tr_tup, sizeLine_eq, Nat.reduceLeDiff, Int.reduceLT, Int.reduceLE, true_and, and_true, st_new0, st_newk, st_set0, st_setk, List.getElem?_cons_zero, List.getElem?_cons_succ, List.append_assoc, List.cons_append, List.nil_append, List.append_nil, List.length_append, List.length_cons, List.length_nil, Nat.zero_add, Nat.reduceAdd, List.set_cons_zero, List.set_cons_succ, stV, getV0, getVs, setV0, setVs, new_at e4.len, new_k e4.len, hz, hhab, gi3]
        refine cl_of (law_draw_do h41 (e4.dice.app _) hmm0) ?_
        rintro v M5' ⟨many, rfl, hn0, hn1, ev5'⟩
        obtain ⟨M5, rfl, ev5⟩ := ev5'.split e4.dice
        have e5 := e4.trans ev5
        clear ev5' ev5 ev4' hx
        obtain ⟨q, rfl, hq, hqs⟩ := isPB_of hzp
        by_cases hin : ∃ w ∈ L, w.1 = q
        · obtain ⟨w, hw, rfl⟩ := hin
          have hg : getK (dkv (zl L)) (.inl (w.1 : Int)) = some (.int (w.2 : Int)) := getK_some (zl_up hL) (List.mem_map.mpr ⟨w, hw, rfl⟩)
          simp only [ss_nil, ss_cons, s_asgv, s_asgt, s_para, s_auga, s_exp, s_retE, s_retNon, s_if, s_while, s_fo, s_break, s_conti, s_ps, e_var, varK, e_int, e_bl, e_non, e_str, e_ty, e_bin, e_neg, e_cmp, e_chain, e_isN, e_notN, e_and, e_or, e_not, e_ite, e_call, e_callK, prm_some, e_bi, e_tup, e_lst, lstK, tupK, e_ix, e_sl, eo_none, eo_some, in_int, e_mt, e_bits, bt_int, ng_int, e_comp, e_gc, es_nil, es_cons, tg_var, tg_tup, tg_sub, tgs_nil, tgs_cons, it_list, it_tup, it_rng1, it_rng2, it_enum, src_tup, src_fro, src_rng, src_enum, op_add, op_sub, op_mul, op_fdiv, op_mod, op_pow, op_shl, op_shr, op_addt, cm_lt, cm_le, cm_gt, cm_ge, cm_eq, cm_ne, cm_eq_bl, cm_ne_bl, cm_eq_str, cm_ne_str, tr_bl, tr_int, tr_non, ch_bl, cond_dec, cond_not, cond_t, cond_f, cond_ne, au_add, au_sub, b_len_tup, b_int, b_int_bl, b_abs, b_max, b_min, at_some, x_tup, isi_non_int, isi_non_bool, isi_non_str, isi_non_tuple, isi_non_list, isi_non_dict, isi_bl_int, isi_bl_bool, isi_bl_str, isi_bl_tuple, isi_bl_list, isi_bl_dict, isi_int_int, isi_int_bool, isi_int_str, isi_int_tuple, isi_int_list, isi_int_dict, isi_str_int, isi_str_bool, isi_str_str, isi_str_tuple, isi_str_list, isi_str_dict, isi_tup_int, isi_tup_bool, isi_tup_str, isi_tup_tuple, isi_tup_list, isi_tup_dict, isi_fro_int, isi_fro_bool, isi_fro_str, isi_fro_tuple, isi_fro_list, isi_fro_dict, PV.isNon, eq_self, decide_true, Bool.not_true, Bool.not_false, sl_fro, gc_pure, cl_lst, cl_dK, cx_ref, cx_str, cop_add, cb_len, cl_q, cm_append, cm_pop, pop_snoc, cm_extend, csrc, ctg, ixs, gc_ref, gc_ref0, e_dnew, e_get1, e_get2, cl_d, gd_ref, gd_str, cm_isin, cm_notin, intsK, e_sset, ssetK, b_sorted, m_insert, cb_sum, b_tuple_ref, b_tuple_tup, b_list_tup, b_list_ref, sl_tup, sl_ref, tr_tup, sizeLine_eq, Nat.reduceLeDiff, Int.reduceLT, Int.reduceLE, true_and, and_true, st_new0, st_newk, st_set0, st_setk, List.getElem?_cons_zero, List.getElem?_cons_succ, List.append_assoc, List.cons_append, List.nil_append, List.append_nil, List.length_append, List.length_cons, List.length_nil, Nat.zero_add, Nat.reduceAdd, List.set_cons_zero, List.set_cons_succ, stV, getV0, getVs, setV0, setVs, new_k e5.len, hg, Option.isSome_some]
          exact ⟨M5, L, _, _, _, _, rfl, rfl, e5, hL, hprod, by omega⟩
        · have hn : ∀ w ∈ L, w.1 ≠ q := fun w hw e => hin ⟨w, hw, e⟩
          have hg : getK (dkv (zl L)) (.inl (q : Int)) = none := getK_none (zl_off hn)
          simp only [ss_nil, ss_cons, s_asgv, s_asgt, s_para, s_auga, s_exp, s_retE, s_retNon, s_if, s_while, s_fo, s_break, s_conti, s_ps, e_var, varK, e_int, e_bl, e_non, e_str, e_ty, e_bin, e_neg, e_cmp, e_chain, e_isN, e_notN, e_and, e_or, e_not, e_ite, e_call, e_callK, prm_some, e_bi, e_tup, e_lst, lstK, tupK, e_ix, e_sl, eo_none, eo_some, in_int, e_mt, e_bits, bt_int, ng_int, e_comp, e_gc, es_nil, es_cons, tg_var, tg_tup, tg_sub, tgs_nil, tgs_cons, it_list, it_tup, it_rng1, it_rng2, it_enum, src_tup, src_fro, src_rng, src_enum, op_add, op_sub, op_mul, op_fdiv, op_mod, op_pow, op_shl, op_shr, op_addt, cm_lt, cm_le, cm_gt, cm_ge, cm_eq, cm_ne, cm_eq_bl, cm_ne_bl, cm_eq_str, cm_ne_str, tr_bl, tr_int, tr_non, ch_bl, cond_dec, cond_not, cond_t, cond_f, cond_ne, au_add, au_sub, b_len_tup, b_int, b_int_bl, b_abs, b_max, b_min, at_some, x_tup, isi_non_int, isi_non_bool, isi_non_str, isi_non_tuple, isi_non_list, isi_non_dict, isi_bl_int, isi_bl_bool, isi_bl_str, isi_bl_tuple, isi_bl_list, isi_bl_dict, isi_int_int, isi_int_bool, isi_int_str, isi_int_tuple, isi_int_list, isi_int_dict, isi_str_int, isi_str_bool, isi_str_str, isi_str_tuple, isi_str_list, isi_str_dict, isi_tup_int, isi_tup_bool, isi_tup_str, isi_tup_tuple, isi_tup_list, isi_tup_dict, isi_fro_int, isi_fro_bool, isi_fro_str, isi_fro_tuple, isi_fro_list, isi_fro_dict, PV.isNon, eq_self, decide_true, Bool.not_true, Bool.not_false, sl_fro, gc_pure, cl_lst, cl_dK, cx_ref, cx_str, cop_add, cb_len, cl_q, cm_append, cm_pop, pop_snoc, cm_extend, csrc, ctg, ixs, gc_ref, gc_ref0, e_dnew, e_get1, e_get2, cl_d, gd_ref, gd_str, cm_isin, cm_notin, intsK, e_sset, ssetK, b_sorted, m_insert, cb_sum, b_tuple_ref, b_tuple_tup, b_list_tup, b_list_ref, sl_tup, sl_ref, tr_tup, sizeLine_eq, Nat.reduceLeDiff, Int.reduceLT, Int.reduceLE, true_and, and_true, st_new0, st_newk, st_set0, st_setk, List.getElem?_cons_zero, List.getElem?_cons_succ, List.append_assoc, List.cons_append, List.nil_append, List.append_nil, List.length_append, List.length_cons, List.length_nil, Nat.zero_add, Nat.reduceAdd, List.set_cons_zero, List.set_cons_succ, stV, getV0, getVs, setV0, setVs, new_k e5.len, hg, Option.isSome_none]
          refine ⟨by omega, ?_⟩
          refine fo_rule (fun j e B => ∃ (t : Nat) (o11 : Option PV), e = [some (.ref d), some (.ref M.length), some (.ref (M.length + 1)), some (.int ((pprod (LLt L q t) : Nat) : Int)), some (.int 1), some (.int 1), some (.ref (M.length + 2)), some (.int habit), some (.int (0 + (i : Int))), some (.int (q : Int)), some (.int (1 + many)), o11] ∧ B = ⟨M5 ++ [.lst small, .lst great, .dK false (dkv (zl (LLt L q t)))]⟩ ∧ pprod (LLt L q t) ≤ 1000000000) ⟨0, _, rfl, rfl, hprod⟩ (fun _ _ _ _ _ => rfl) ?_ ?_
          · rintro j x e M' hx ⟨t, o11, rfl, eM, hpt⟩
            cases eM
            obtain ⟨rfl, hj⟩ := rng_get hx
            have hlt := LLt_len (L := L) (q := q) (t := t)
            have hzl : (zl (LLt L q t)).length = (LLt L q t).length := List.length_map _
            simp only [ss_nil, ss_cons, s_asgv, s_asgt, s_para, s_auga, s_exp, s_retE, s_retNon, s_if, s_while, s_fo, s_break, s_conti, s_ps, e_var, varK, e_int, e_bl, e_non, e_str, e_ty, e_bin, e_neg, e_cmp, e_chain, e_isN, e_notN, e_and, e_or, e_not, e_ite, e_call, e_callK, prm_some, e_bi, e_tup, e_lst, lstK, tupK, e_ix, e_sl, eo_none, eo_some, in_int, e_mt, e_bits, bt_int, ng_int, e_comp, e_gc, es_nil, es_cons, tg_var, tg_tup, tg_sub, tgs_nil, tgs_cons, it_list, it_tup, it_rng1, it_rng2, it_enum, src_tup, src_fro, src_rng, src_enum, op_add, op_sub, op_mul, op_fdiv, op_mod, op_pow, op_shl, op_shr, op_addt, cm_lt, cm_le, cm_gt, cm_ge, cm_eq, cm_ne, cm_eq_bl, cm_ne_bl, cm_eq_str, cm_ne_str, tr_bl, tr_int, tr_non, ch_bl, cond_dec, cond_not, cond_t, cond_f, cond_ne, au_add, au_sub, b_len_tup, b_int, b_int_bl, b_abs, b_max, b_min, at_some, x_tup, isi_non_int, isi_non_bool, isi_non_str, isi_non_tuple, isi_non_list, isi_non_dict, isi_bl_int, isi_bl_bool, isi_bl_str, isi_bl_tuple, isi_bl_list, isi_bl_dict, isi_int_int, isi_int_bool, isi_int_str, isi_int_tuple, isi_int_list, isi_int_dict, isi_str_int, isi_str_bool, isi_str_str, isi_str_tuple, isi_str_list, isi_str_dict, isi_tup_int, isi_tup_bool, isi_tup_str, isi_tup_tuple, isi_tup_list, isi_tup_dict, isi_fro_int, isi_fro_bool, isi_fro_str, isi_fro_tuple, isi_fro_list, isi_fro_dict, PV.isNon, eq_self, decide_true, Bool.not_true, Bool.not_false, sl_fro, gc_pure, cl_lst, cl_dK, cx_ref, cx_str, cop_add, cb_len, cl_q, cm_append, cm_pop, pop_snoc, cm_extend, csrc, ctg, ixs, gc_ref, gc_ref0, e_dnew, e_get1, e_get2, cl_d, gd_ref, gd_str, cm_isin, cm_notin, intsK, e_sset, ssetK, b_sorted, m_insert, cb_sum, b_tuple_ref, b_tuple_tup, b_list_tup, b_list_ref, sl_tup, sl_ref, tr_tup, sizeLine_eq, Nat.reduceLeDiff, Int.reduceLT, Int.reduceLE, true_and, and_true, st_new0, st_newk, st_set0, st_setk, List.getElem?_cons_zero, List.getElem?_cons_succ, List.append_assoc, List.cons_append, List.nil_append, List.append_nil, List.length_append, List.length_cons, List.length_nil, Nat.zero_add, Nat.reduceAdd, List.set_cons_zero, List.set_cons_succ, stV, getV0, getVs, setV0, setVs, q_law_made_v1_f2, new_k e5.len, getK_sum (zl_up (LLt_PL (t := t) hL hq hn)), LLt_get hn, se_dict (M := M5 ++ [.lst small, .lst great, .dK false (dkv (zl (LLt L q t)))]) (n := M.length + 2) (kvs := dkv (zl (LLt L q t))) (new_k e5.len 2), putP_dkv, LLt_put hn, dkv_len, new_setk e5.len]
            have hps : ((pprod (LLt L q t) : Nat) : Int).natAbs < 2 ^ 30 := abs_nat (by omega)
            have hq2 : ((q : Nat) : Int).natAbs < 2 ^ 21 := abs_nat (by omega)
            have hpr : pprod (LLt L q (t + 1)) = pprod (LLt L q t) * q := by rw [LLt_prod, LLt_prod, Nat.pow_succ]; ac_rfl
            refine ⟨cmul hps hq2 (by decide), fun hle => ⟨cmul hps hq2 (by decide), by omega, t + 1, some (.int (0 + (j : Int))), ?_, rfl, ?_⟩, fun _ => ⟨t, _, rfl, rfl, hpt⟩⟩
            · rw [hpr]
              rfl
            · rw [hpr]
              have : ((pprod (LLt L q t) * q : Nat) : Int) ≤ 1000000000 := hle
              omega
          · rintro e M' ⟨t, o11, rfl, eM, hpt⟩
            cases eM
            simp only [ss_nil, ss_cons, s_asgv, s_asgt, s_para, s_auga, s_exp, s_retE, s_retNon, s_if, s_while, s_fo, s_break, s_conti, s_ps, e_var, varK, e_int, e_bl, e_non, e_str, e_ty, e_bin, e_neg, e_cmp, e_chain, e_isN, e_notN, e_and, e_or, e_not, e_ite, e_call, e_callK, prm_some, e_bi, e_tup, e_lst, lstK, tupK, e_ix, e_sl, eo_none, eo_some, in_int, e_mt, e_bits, bt_int, ng_int, e_comp, e_gc, es_nil, es_cons, tg_var, tg_tup, tg_sub, tgs_nil, tgs_cons, it_list, it_tup, it_rng1, it_rng2, it_enum, src_tup, src_fro, src_rng, src_enum, op_add, op_sub, op_mul, op_fdiv, op_mod, op_pow, op_shl, op_shr, op_addt, cm_lt, cm_le, cm_gt, cm_ge, cm_eq, cm_ne, cm_eq_bl, cm_ne_bl, cm_eq_str, cm_ne_str, tr_bl, tr_int, tr_non, ch_bl, cond_dec, cond_not, cond_t, cond_f, cond_ne, au_add, au_sub, b_len_tup, b_int, b_int_bl, b_abs, b_max, b_min, at_some, x_tup, isi_non_int, isi_non_bool, isi_non_str, isi_non_tuple, isi_non_list, isi_non_dict, isi_bl_int, isi_bl_bool, isi_bl_str, isi_bl_tuple, isi_bl_list, isi_bl_dict, isi_int_int, isi_int_bool, isi_int_str, isi_int_tuple, isi_int_list, isi_int_dict, isi_str_int, isi_str_bool, isi_str_str, isi_str_tuple, isi_str_list, isi_str_dict, isi_tup_int, isi_tup_bool, isi_tup_str, isi_tup_tuple, isi_tup_list, isi_tup_dict, isi_fro_int, isi_fro_bool, isi_fro_str, isi_fro_tuple, isi_fro_list, isi_fro_dict, PV.isNon, eq_self, decide_true, Bool.not_true, Bool.not_false, sl_fro, gc_pure, cl_lst, cl_dK, cx_ref, cx_str, cop_add, cb_len, cl_q, cm_append, cm_pop, pop_snoc, cm_extend, csrc, ctg, ixs, gc_ref, gc_ref0, e_dnew, e_get1, e_get2, cl_d, gd_ref, gd_str, cm_isin, cm_notin, intsK, e_sset, ssetK, b_sorted, m_insert, cb_sum, b_tuple_ref, b_tuple_tup, b_list_tup, b_list_ref, sl_tup, sl_ref, tr_tup, sizeLine_eq, Nat.reduceLeDiff, Int.reduceLT, Int.reduceLE, true_and, and_true, st_new0, st_newk, st_set0, st_setk, List.getElem?_cons_zero, List.getElem?_cons_succ, List.append_assoc, List.cons_append, List.nil_append, List.append_nil, List.length_append, List.length_cons, List.length_nil, Nat.zero_add, Nat.reduceAdd, List.set_cons_zero, List.set_cons_succ, stV, getV0, getVs, setV0, setVs]
            exact ⟨M5, LLt L q t, _, _, _, _, rfl, rfl, e5, LLt_PL hL hq hn, hpt, by have := LLt_len (L := L) (q := q) (t := t); omega⟩
      · refine cl_of (law_draw_do h41 (e6.dice.app _) (by decide)) ?_
        rintro v M4' ⟨j, rfl, hj0, hj1, ev4'⟩
        obtain ⟨M4, rfl, ev4⟩ := ev4'.split e6.dice
        have e4 := e6.trans ev4
        obtain ⟨z, hz, hzp⟩ := gsm j hj0 hj1
        simp only [ss_nil, ss_cons, s_asgv, s_asgt, s_para, s_auga, s_exp, s_retE, s_retNon, s_if, s_while, s_fo, s_break, s_conti, s_ps, e_var, varK, e_int, e_bl, e_non, e_str, e_ty, e_bin, e_neg, e_cmp, e_chain, e_isN, e_notN, e_and, e_or, e_not, e_ite, e_call, e_callK, prm_some, e_bi, e_tup, e_lst, lstK, tupK, e_ix, e_sl, eo_none, eo_some, in_int, e_mt, e_bits, bt_int, ng_int, e_comp, e_gc, es_nil, es_cons, tg_var, tg_tup, tg_sub, tgs_nil, tgs_cons, it_list, it_tup, it_rng1, it_rng2, it_enum, src_tup, src_fro, src_rng, src_enum, op_add, op_sub, op_mul, op_fdiv, op_mod, op_pow, op_shl, op_shr, op_addt, cm_lt, cm_le, cm_gt, cm_ge, cm_eq, cm_ne, cm_eq_bl, cm_ne_bl, cm_eq_str, cm_ne_str, tr_bl, tr_int, tr_non, ch_bl, cond_dec, cond_not, cond_t, cond_f, cond_ne, au_add, au_sub, b_len_tup, b_int, b_int_bl, b_abs, b_max, b_min, at_some, x_tup, isi_non_int, isi_non_bool, isi_non_str, isi_non_tuple, isi_non_list, isi_non_dict, isi_bl_int, isi_bl_bool, isi_bl_str, isi_bl_tuple, isi_bl_list, isi_bl_dict, isi_int_int, isi_int_bool, isi_int_str, isi_int_tuple, isi_int_list, isi_int_dict, isi_str_int, isi_str_bool, isi_str_str, isi_str_tuple, isi_str_list, isi_str_dict, isi_tup_int, isi_tup_bool, isi_tup_str, isi_tup_tuple, isi_tup_list, isi_tup_dict, isi_fro_int, isi_fro_bool, isi_fro_str, isi_fro_tuple, isi_fro_list, isi_fro_dict, PV.isNon, eq_self, decide_true, Bool.not_true, Bool.not_false, sl_fro, gc_pure, cl_lst, cl_dK, cx_ref, cx_str, cop_add, cb_len, cl_q, cm_append, cm_pop, pop_snoc, cm_extend, csrc, ctg, ixs, gc_ref, gc_ref0, e_dnew, e_get1, e_get2, cl_d, gd_ref, gd_str, cm_isin, cm_notin, intsK, e_sset, ssetK, b_sorted, m_insert, cb_sum, b_tuple_ref, b_tuple_tup, b_list_tup, b_list_ref, sl_tup, sl_ref, tr_tup, sizeLine_eq, Nat.reduceLeDiff, Int.reduceLT, Int.reduceLE, true_and, and_true, st_new0, st_newk, st_set0, st_setk, List.getElem?_cons_zero, List.getElem?_cons_succ, List.append_assoc, List.cons_append, List.nil_append, List.append_nil, List.length_append, List.length_cons, List.length_nil, Nat.zero_add, Nat.reduceAdd, List.set_cons_zero, List.set_cons_succ, stV, getV0, getVs, setV0, setVs, new_at e4.len, new_k e4.len, hz, hhab, gi3]
        refine cl_of (law_draw_do h41 (e4.dice.app _) hmm0) ?_
        rintro v M5' ⟨many, rfl, hn0, hn1, ev5'⟩
        obtain ⟨M5, rfl, ev5⟩ := ev5'.split e4.dice
        have e5 := e4.trans ev5
        clear ev5' ev5 ev4' hx
        obtain ⟨q, rfl, hq, hqs⟩ := isPB_of hzp
        by_cases hin : ∃ w ∈ L, w.1 = q
        · obtain ⟨w, hw, rfl⟩ := hin
          have hg : getK (dkv (zl L)) (.inl (w.1 : Int)) = some (.int (w.2 : Int)) := getK_some (zl_up hL) (List.mem_map.mpr ⟨w, hw, rfl⟩)
          simp only [ss_nil, ss_cons, s_asgv, s_asgt, s_para, s_auga, s_exp, s_retE, s_retNon, s_if, s_while, s_fo, s_break, s_conti, s_ps, e_var, varK, e_int, e_bl, e_non, e_str, e_ty, e_bin, e_neg, e_cmp, e_chain, e_isN, e_notN, e_and, e_or, e_not, e_ite, e_call, e_callK, prm_some, e_bi, e_tup, e_lst, lstK, tupK, e_ix, e_sl, eo_none, eo_some, in_int, e_mt, e_bits, bt_int, ng_int, e_comp, e_gc, es_nil, es_cons, tg_var, tg_tup, tg_sub, tgs_nil, tgs_cons, it_list, it_tup, it_rng1, it_rng2, it_enum, src_tup, src_fro, src_rng, src_enum, op_add, op_sub, op_mul, op_fdiv, op_mod, op_pow, op_shl, op_shr, op_addt, cm_lt, cm_le, cm_gt, cm_ge, cm_eq, cm_ne, cm_eq_bl, cm_ne_bl, cm_eq_str, cm_ne_str, tr_bl, tr_int, tr_non, ch_bl, cond_dec, cond_not, cond_t, cond_f, cond_ne, au_add, au_sub, b_len_tup, b_int, b_int_bl, b_abs, b_max, b_min, at_some, x_tup, isi_non_int, isi_non_bool, isi_non_str, isi_non_tuple, isi_non_list, isi_non_dict, isi_bl_int, isi_bl_bool, isi_bl_str, isi_bl_tuple, isi_bl_list, isi_bl_dict, isi_int_int, isi_int_bool, isi_int_str, isi_int_tuple, isi_int_list, isi_int_dict, isi_str_int, isi_str_bool, isi_str_str, isi_str_tuple, isi_str_list, isi_str_dict, isi_tup_int, isi_tup_bool, isi_tup_str, isi_tup_tuple, isi_tup_list, isi_tup_dict, isi_fro_int, isi_fro_bool, isi_fro_str, isi_fro_tuple, isi_fro_list, isi_fro_dict, PV.isNon, eq_self, decide_true, Bool.not_true, Bool.not_false, sl_fro, gc_pure, cl_lst, cl_dK, cx_ref, cx_str, cop_add, cb_len, cl_q, cm_append, cm_pop, pop_snoc, cm_extend, csrc, ctg, ixs, gc_ref, gc_ref0, e_dnew, e_get1, e_get2, cl_d, gd_ref, gd_str, cm_isin, cm_notin, intsK, e_sset, ssetK, b_sorted, m_insert, cb_sum, b_tuple_ref, b_tuple_tup, b_list_tup, b_list_ref, sl_tup, sl_ref, tr_tup, sizeLine_eq, Nat.reduceLeDiff, Int.reduceLT, Int.reduceLE, true_and, and_true, st_new0, st_newk, st_set0, st_setk, List.getElem?_cons_zero, List.getElem?_cons_succ, List.append_assoc, List.cons_append, List.nil_append, List.append_nil, List.length_append, List.length_cons, List.length_nil, Nat.zero_add, Nat.reduceAdd, List.set_cons_zero, List.set_cons_succ, stV, getV0, getVs, setV0, setVs, new_k e5.len, hg, Option.isSome_some]
          exact ⟨M5, L, _, _, _, _, rfl, rfl, e5, hL, hprod, by omega⟩
        · have hn : ∀ w ∈ L, w.1 ≠ q := fun w hw e => hin ⟨w, hw, e⟩
          have hg : getK (dkv (zl L)) (.inl (q : Int)) = none := getK_none (zl_off hn)
          simp only [ss_nil, ss_cons, s_asgv, s_asgt, s_para, s_auga, s_exp, s_retE, s_retNon, s_if, s_while, s_fo, s_break, s_conti, s_ps, e_var, varK, e_int, e_bl, e_non, e_str, e_ty, e_bin, e_neg, e_cmp, e_chain, e_isN, e_notN, e_and, e_or, e_not, e_ite, e_call, e_callK, prm_some, e_bi, e_tup, e_lst, lstK, tupK, e_ix, e_sl, eo_none, eo_some, in_int, e_mt, e_bits, bt_int, ng_int, e_comp, e_gc, es_nil, es_cons, tg_var, tg_tup, tg_sub, tgs_nil, tgs_cons, it_list, it_tup, it_rng1, it_rng2, it_enum, src_tup, src_fro, src_rng, src_enum, op_add, op_sub, op_mul, op_fdiv, op_mod, op_pow, op_shl, op_shr, op_addt, cm_lt, cm_le, cm_gt, cm_ge, cm_eq, cm_ne, cm_eq_bl, cm_ne_bl, cm_eq_str, cm_ne_str, tr_bl, tr_int, tr_non, ch_bl, cond_dec, cond_not, cond_t, cond_f, cond_ne, au_add, au_sub, b_len_tup, b_int, b_int_bl, b_abs, b_max, b_min, at_some, x_tup, isi_non_int, isi_non_bool, isi_non_str, isi_non_tuple, isi_non_list, isi_non_dict, isi_bl_int, isi_bl_bool, isi_bl_str, isi_bl_tuple, isi_bl_list, isi_bl_dict, isi_int_int, isi_int_bool, isi_int_str, isi_int_tuple, isi_int_list, isi_int_dict, isi_str_int, isi_str_bool, isi_str_str, isi_str_tuple, isi_str_list, isi_str_dict, isi_tup_int, isi_tup_bool, isi_tup_str, isi_tup_tuple, isi_tup_list, isi_tup_dict, isi_fro_int, isi_fro_bool, isi_fro_str, isi_fro_tuple, isi_fro_list, isi_fro_dict, PV.isNon, eq_self, decide_true, Bool.not_true, Bool.not_false, sl_fro, gc_pure, cl_lst, cl_dK, cx_ref, cx_str, cop_add, cb_len, cl_q, cm_append, cm_pop, pop_snoc, cm_extend, csrc, ctg, ixs, gc_ref, gc_ref0, e_dnew, e_get1, e_get2, cl_d, gd_ref, gd_str, cm_isin, cm_notin, intsK, e_sset, ssetK, b_sorted, m_insert, cb_sum, b_tuple_ref, b_tuple_tup, b_list_tup, b_list_ref, sl_tup, sl_ref, tr_tup, sizeLine_eq, Nat.reduceLeDiff, Int.reduceLT, Int.reduceLE, true_and, and_true, st_new0, st_newk, st_set0, st_setk, List.getElem?_cons_zero, List.getElem?_cons_succ, List.append_assoc, List.cons_append, List.nil_append, List.append_nil, List.length_append, List.length_cons, List.length_nil, Nat.zero_add, Nat.reduceAdd, List.set_cons_zero, List.set_cons_succ, stV, getV0, getVs, setV0, setVs, new_k e5.len, hg, Option.isSome_none]
          refine ⟨by omega, ?_⟩
          refine fo_rule (fun j e B => ∃ (t : Nat) (o11 : Option PV), e = [some (.ref d), some (.ref M.length), some (.ref (M.length + 1)), some (.int ((pprod (LLt L q t) : Nat) : Int)), some (.int 1), some (.int 1), some (.ref (M.length + 2)), some (.int habit), some (.int (0 + (i : Int))), some (.int (q : Int)), some (.int (1 + many)), o11] ∧ B = ⟨M5 ++ [.lst small, .lst great, .dK false (dkv (zl (LLt L q t)))]⟩ ∧ pprod (LLt L q t) ≤ 1000000000) ⟨0, _, rfl, rfl, hprod⟩ (fun _ _ _ _ _ => rfl) ?_ ?_
          · rintro j x e M' hx ⟨t, o11, rfl, eM, hpt⟩
            cases eM
            obtain ⟨rfl, hj⟩ := rng_get hx
            have hlt := LLt_len (L := L) (q := q) (t := t)
            have hzl : (zl (LLt L q t)).length = (LLt L q t).length := List.length_map _
            simp only [ss_nil, ss_cons, s_asgv, s_asgt, s_para, s_auga, s_exp, s_retE, s_retNon, s_if, s_while, s_fo, s_break, s_conti, s_ps, e_var, varK, e_int, e_bl, e_non, e_str, e_ty, e_bin, e_neg, e_cmp, e_chain, e_isN, e_notN, e_and, e_or, e_not, e_ite, e_call, e_callK, prm_some, e_bi, e_tup, e_lst, lstK, tupK, e_ix, e_sl, eo_none, eo_some, in_int, e_mt, e_bits, bt_int, ng_int, e_comp, e_gc, es_nil, es_cons, tg_var, tg_tup, tg_sub, tgs_nil, tgs_cons, it_list, it_tup, it_rng1, it_rng2, it_enum, src_tup, src_fro, src_rng, src_enum, op_add, op_sub, op_mul, op_fdiv, op_mod, op_pow, op_shl, op_shr, op_addt, cm_lt, cm_le, cm_gt, cm_ge, cm_eq, cm_ne, cm_eq_bl, cm_ne_bl, cm_eq_str, cm_ne_str, tr_bl, tr_int, tr_non, ch_bl, cond_dec, cond_not, cond_t, cond_f, cond_ne, au_add, au_sub, b_len_tup, b_int, b_int_bl, b_abs, b_max, b_min, at_some, x_tup, isi_non_int, isi_non_bool, isi_non_str, isi_non_tuple, isi_non_list, isi_non_dict, isi_bl_int, isi_bl_bool, isi_bl_str, isi_bl_tuple, isi_bl_list, isi_bl_dict, isi_int_int, isi_int_bool, isi_int_str, isi_int_tuple, isi_int_list, isi_int_dict, isi_str_int, isi_str_bool, isi_str_str, isi_str_tuple, isi_str_list, isi_str_dict, isi_tup_int, isi_tup_bool, isi_tup_str, isi_tup_tuple, isi_tup_list, isi_tup_dict, isi_fro_int, isi_fro_bool, isi_fro_str, isi_fro_tuple, isi_fro_list, isi_fro_dict, PV.isNon, eq_self, decide_true, Bool.not_true, Bool.not_false, sl_fro, gc_pure, cl_lst, cl_dK, cx_ref, cx_str, cop_add, cb_len, cl_q, cm_append, cm_pop, pop_snoc, cm_extend, csrc, ctg, ixs, gc_ref, gc_ref0, e_dnew, e_get1, e_get2, cl_d, gd_ref, gd_str, cm_isin, cm_notin, intsK, e_sset, ssetK, b_sorted, m_insert, cb_sum, b_tuple_ref, b_tuple_tup, b_list_tup, b_list_ref, sl_tup, sl_ref, tr_tup, sizeLine_eq, Nat.reduceLeDiff, Int.reduceLT, Int.reduceLE, true_and, and_true, st_new0, st_newk, st_set0, st_setk, List.getElem?_cons_zero, List.getElem?_cons_succ, List.append_assoc, List.cons_append, List.nil_append, List.append_nil, List.length_append, List.length_cons, List.length_nil, Nat.zero_add, Nat.reduceAdd, List.set_cons_zero, List.set_cons_succ, stV, getV0, getVs, setV0, setVs, q_law_made_v1_f2, new_k e5.len, getK_sum (zl_up (LLt_PL (t := t) hL hq hn)), LLt_get hn, se_dict (M := M5 ++ [.lst small, .lst great, .dK false (dkv (zl (LLt L q t)))]) (n := M.length + 2) (kvs := dkv (zl (LLt L q t))) (new_k e5.len 2), putP_dkv, LLt_put hn, dkv_len, new_setk e5.len]
            have hps : ((pprod (LLt L q t) : Nat) : Int).natAbs < 2 ^ 30 := abs_nat (by omega)
            have hq2 : ((q : Nat) : Int).natAbs < 2 ^ 21 := abs_nat (by omega)
            have hpr : pprod (LLt L q (t + 1)) = pprod (LLt L q t) * q := by rw [LLt_prod, LLt_prod, Nat.pow_succ]; ac_rfl
            refine ⟨cmul hps hq2 (by decide), fun hle => ⟨cmul hps hq2 (by decide), by omega, t + 1, some (.int (0 + (j : Int))), ?_, rfl, ?_⟩, fun _ => ⟨t, _, rfl, rfl, hpt⟩⟩
            · rw [hpr]
              rfl
            · rw [hpr]
              have : ((pprod (LLt L q t) * q : Nat) : Int) ≤ 1000000000 := hle
              omega
          · rintro e M' ⟨t, o11, rfl, eM, hpt⟩
            cases eM
            simp only [ss_nil, ss_cons, s_asgv, s_asgt, s_para, s_auga, s_exp, s_retE, s_retNon, s_if, s_while, s_fo, s_break, s_conti, s_ps, e_var, varK, e_int, e_bl, e_non, e_str, e_ty, e_bin, e_neg, e_cmp, e_chain, e_isN, e_notN, e_and, e_or, e_not, e_ite, e_call, e_callK, prm_some, e_bi, e_tup, e_lst, lstK, tupK, e_ix, e_sl, eo_none, eo_some, in_int, e_mt, e_bits, bt_int, ng_int, e_comp, e_gc, es_nil, es_cons, tg_var, tg_tup, tg_sub, tgs_nil, tgs_cons, it_list, it_tup, it_rng1, it_rng2, it_enum, src_tup, src_fro, src_rng, src_enum, op_add, op_sub, op_mul, op_fdiv, op_mod, op_pow, op_shl, op_shr, op_addt, cm_lt, cm_le, cm_gt, cm_ge, cm_eq, cm_ne, cm_eq_bl, cm_ne_bl, cm_eq_str, cm_ne_str, tr_bl, tr_int, tr_non, ch_bl, cond_dec, cond_not, cond_t, cond_f, cond_ne, au_add, au_sub, b_len_tup, b_int, b_int_bl, b_abs, b_max, b_min, at_some, x_tup, isi_non_int, isi_non_bool, isi_non_str, isi_non_tuple, isi_non_list, isi_non_dict, isi_bl_int, isi_bl_bool, isi_bl_str, isi_bl_tuple, isi_bl_list, isi_bl_dict, isi_int_int, isi_int_bool, isi_int_str, isi_int_tuple, isi_int_list, isi_int_dict, isi_str_int, isi_str_bool, isi_str_str, isi_str_tuple, isi_str_list, isi_str_dict, isi_tup_int, isi_tup_bool, isi_tup_str, isi_tup_tuple, isi_tup_list, isi_tup_dict, isi_fro_int, isi_fro_bool, isi_fro_str, isi_fro_tuple, isi_fro_list, isi_fro_dict, PV.isNon, eq_self, decide_true, Bool.not_true, Bool.not_false, sl_fro, gc_pure, cl_lst, cl_dK, cx_ref, cx_str, cop_add, cb_len, cl_q, cm_append, cm_pop, pop_snoc, cm_extend, csrc, ctg, ixs, gc_ref, gc_ref0, e_dnew, e_get1, e_get2, cl_d, gd_ref, gd_str, cm_isin, cm_notin, intsK, e_sset, ssetK, b_sorted, m_insert, cb_sum, b_tuple_ref, b_tuple_tup, b_list_tup, b_list_ref, sl_tup, sl_ref, tr_tup, sizeLine_eq, Nat.reduceLeDiff, Int.reduceLT, Int.reduceLE, true_and, and_true, st_new0, st_newk, st_set0, st_setk, List.getElem?_cons_zero, List.getElem?_cons_succ, List.append_assoc, List.cons_append, List.nil_append, List.append_nil, List.length_append, List.length_cons, List.length_nil, Nat.zero_add, Nat.reduceAdd, List.set_cons_zero, List.set_cons_succ, stV, getV0, getVs, setV0, setVs]
            exact ⟨M5, LLt L q t, _, _, _, _, rfl, rfl, e5, LLt_PL hL hq hn, hpt, by have := LLt_len (L := L) (q := q) (t := t); omega⟩
  · rintro e M' ⟨M3, L, o8, o9, o10, o11, rfl, eM, e3, hL, hprod, hlen⟩
    cases eM
    have hl5 : L.length ≤ 5 := by
      dsimp only at hlen
      rw [rng_len] at hlen
      omega
    have hker := pker_ker hL
    have hget : ∀ (i : Nat) (w : Nat × Nat), L[i]? = some w → getK (dkv (zl L)) (.inl (w.1 : Int)) = some (.int (w.2 : Int)) := fun i w hw => getK_some (zl_up hL) (List.mem_map.mpr ⟨w, List.mem_of_getElem? hw, rfl⟩)
    simp only [ss_nil, ss_cons, s_asgv, s_asgt, s_para, s_auga, s_exp, s_retE, s_retNon, s_if, s_while, s_fo, s_break, s_conti, s_ps, e_var, varK, e_int, e_bl, e_non, e_str, e_ty, e_bin, e_neg, e_cmp, e_chain, e_isN, e_notN, e_and, e_or, e_not, e_ite, e_call, e_callK, prm_some, e_bi, e_tup, e_lst, lstK, tupK, e_ix, e_sl, eo_none, eo_some, in_int, e_mt, e_bits, bt_int, ng_int, e_comp, e_gc, es_nil, es_cons, tg_var, tg_tup, tg_sub, tgs_nil, tgs_cons, it_list, it_tup, it_rng1, it_rng2, it_enum, src_tup, src_fro, src_rng, src_enum, op_add, op_sub, op_mul, op_fdiv, op_mod, op_pow, op_shl, op_shr, op_addt, cm_lt, cm_le, cm_gt, cm_ge, cm_eq, cm_ne, cm_eq_bl, cm_ne_bl, cm_eq_str, cm_ne_str, tr_bl, tr_int, tr_non, ch_bl, cond_dec, cond_not, cond_t, cond_f, cond_ne, au_add, au_sub, b_len_tup, b_int, b_int_bl, b_abs, b_max, b_min, at_some, x_tup, isi_non_int, isi_non_bool, isi_non_str, isi_non_tuple, isi_non_list, isi_non_dict, isi_bl_int, isi_bl_bool, isi_bl_str, isi_bl_tuple, isi_bl_list, isi_bl_dict, isi_int_int, isi_int_bool, isi_int_str, isi_int_tuple, isi_int_list, isi_int_dict, isi_str_int, isi_str_bool, isi_str_str, isi_str_tuple, isi_str_list, isi_str_dict, isi_tup_int, isi_tup_bool, isi_tup_str, isi_tup_tuple, isi_tup_list, isi_tup_dict, isi_fro_int, isi_fro_bool, isi_fro_str, isi_fro_tuple, isi_fro_list, isi_fro_dict, PV.isNon, eq_self, decide_true, Bool.not_true, Bool.not_false, sl_fro, gc_pure, cl_lst, cl_dK, cx_ref, cx_str, cop_add, cb_len, cl_q, cm_append, cm_pop, pop_snoc, cm_extend, csrc, ctg, ixs, gc_ref, gc_ref0, e_dnew, e_get1, e_get2, cl_d, gd_ref, gd_str, cm_isin, cm_notin, intsK, e_sset, ssetK, b_sorted, m_insert, cb_sum, b_tuple_ref, b_tuple_tup, b_list_tup, b_list_ref, sl_tup, sl_ref, tr_tup, sizeLine_eq, Nat.reduceLeDiff, Int.reduceLT, Int.reduceLE, true_and, and_true, st_new0, st_newk, st_set0, st_setk, List.getElem?_cons_zero, List.getElem?_cons_succ, List.append_assoc, List.cons_append, List.nil_append, List.append_nil, List.length_append, List.length_cons, List.length_nil, Nat.zero_add, Nat.reduceAdd, List.set_cons_zero, List.set_cons_succ, stV, getV0, getVs, setV0, setVs]
    refine fd_rule (kvs := dkv (zl L)) (n := M.length + 2) rfl (new_k e3.len 2) (fun i e B => ∃ (o9 o11 : Option PV), e = [some (.ref d), some (.ref M.length), some (.ref (M.length + 1)), some (.int ((pprod L : Nat) : Int)), some (.int ((pfac (L.take i) : Nat) : Int)), some (.int ((pker (L.take i) : Nat) : Int)), some (.ref (M.length + 2)), some (.int habit), o8, o9, o10, o11] ∧ B = ⟨M3 ++ [.lst small, .lst great, .dK true (dkv (zl L))]⟩) ⟨o9, o11, rfl, by rw [new_setk e3.len]; rfl⟩ ?_ ?_ ?_
    · rintro i e M' ⟨o9, o11, _, eM⟩
      cases eM
      exact new_k e3.len 2
    · rintro i x e M' hx ⟨o9, o11, rfl, eM⟩
      cases eM
      rw [keys_dkv] at hx
      obtain ⟨z, hz, rfl⟩ := map_take hx
      obtain ⟨w, hw, rfl⟩ := map_take hz
      have hpw := hL.pr w (List.mem_of_getElem? hw)
      have w0 := isP_pos hpw.1
      have t1 := (pprod_take hL (i + 1))
      have t2 := (ker_bound (pker_ker (hL.take (i + 1)))).1
      have t3 := (pprod_take hL i)
      have t4 := (ker_bound (pker_ker (hL.take i))).2
      have hx0 : 0 < pprod L := by rw [← hker.eq]; exact Nat.mul_pos (Nat.mul_pos hker.f0 hker.f0) hker.k0
      have t5 : w.1 ≤ pprod L := Nat.le_of_dvd hx0 (pprod_has hL w (List.mem_of_getElem? hw))
      have fs : pfac (L.take (i + 1)) = pfac (L.take i) * w.1 ^ (w.2 / 2) := by rw [take_snoc hw, pfac_snoc]
      have ks : pker (L.take (i + 1)) = pker (L.take i) * (if w.2 % 2 = 1 then w.1 else 1) := by rw [take_snoc hw, pker_snoc]
      have ws : ((w.1 : Nat) : Int).natAbs < 2 ^ 30 := abs_nat (by omega)
      have et : ((w.2 : Int) % 2 = 1) ↔ w.2 % 2 = 1 := by omega
      have w2s : w.2 < 60 := by
        have a1 : 2 ^ w.2 ≤ w.1 ^ w.2 := Nat.pow_le_pow_left hpw.1.1 _
        have a2 : pprod (L.take (i + 1)) = pprod (L.take i) * w.1 ^ w.2 := by rw [take_snoc hw, pprod_snoc]
        have a3 : 0 < pprod (L.take i) := by
          have kk := pker_ker (hL.take i)
          rw [← kk.eq]
          exact Nat.mul_pos (Nat.mul_pos kk.f0 kk.f0) kk.k0
        have a4 : 1 * w.1 ^ w.2 ≤ pprod (L.take i) * w.1 ^ w.2 := Nat.mul_le_mul_right _ a3
        exact (Nat.pow_lt_pow_iff_right (a := 2) (by decide)).mp (by omega)
      simp only [ss_nil, ss_cons, s_asgv, s_asgt, s_para, s_auga, s_exp, s_retE, s_retNon, s_if, s_while, s_fo, s_break, s_conti, s_ps, e_var, varK, e_int, e_bl, e_non, e_str, e_ty, e_bin, e_neg, e_cmp, e_chain, e_isN, e_notN, e_and, e_or, e_not, e_ite, e_call, e_callK, prm_some, e_bi, e_tup, e_lst, lstK, tupK, e_ix, e_sl, eo_none, eo_some, in_int, e_mt, e_bits, bt_int, ng_int, e_comp, e_gc, es_nil, es_cons, tg_var, tg_tup, tg_sub, tgs_nil, tgs_cons, it_list, it_tup, it_rng1, it_rng2, it_enum, src_tup, src_fro, src_rng, src_enum, op_add, op_sub, op_mul, op_fdiv, op_mod, op_pow, op_shl, op_shr, op_addt, cm_lt, cm_le, cm_gt, cm_ge, cm_eq, cm_ne, cm_eq_bl, cm_ne_bl, cm_eq_str, cm_ne_str, tr_bl, tr_int, tr_non, ch_bl, cond_dec, cond_not, cond_t, cond_f, cond_ne, au_add, au_sub, b_len_tup, b_int, b_int_bl, b_abs, b_max, b_min, at_some, x_tup, isi_non_int, isi_non_bool, isi_non_str, isi_non_tuple, isi_non_list, isi_non_dict, isi_bl_int, isi_bl_bool, isi_bl_str, isi_bl_tuple, isi_bl_list, isi_bl_dict, isi_int_int, isi_int_bool, isi_int_str, isi_int_tuple, isi_int_list, isi_int_dict, isi_str_int, isi_str_bool, isi_str_str, isi_str_tuple, isi_str_list, isi_str_dict, isi_tup_int, isi_tup_bool, isi_tup_str, isi_tup_tuple, isi_tup_list, isi_tup_dict, isi_fro_int, isi_fro_bool, isi_fro_str, isi_fro_tuple, isi_fro_list, isi_fro_dict, PV.isNon, eq_self, decide_true, Bool.not_true, Bool.not_false, sl_fro, gc_pure, cl_lst, cl_dK, cx_ref, cx_str, cop_add, cb_len, cl_q, cm_append, cm_pop, pop_snoc, cm_extend, csrc, ctg, ixs, gc_ref, gc_ref0, e_dnew, e_get1, e_get2, cl_d, gd_ref, gd_str, cm_isin, cm_notin, intsK, e_sset, ssetK, b_sorted, m_insert, cb_sum, b_tuple_ref, b_tuple_tup, b_list_tup, b_list_ref, sl_tup, sl_ref, tr_tup, sizeLine_eq, Nat.reduceLeDiff, Int.reduceLT, Int.reduceLE, true_and, and_true, st_new0, st_newk, st_set0, st_setk, List.getElem?_cons_zero, List.getElem?_cons_succ, List.append_assoc, List.cons_append, List.nil_append, List.append_nil, List.length_append, List.length_cons, List.length_nil, Nat.zero_add, Nat.reduceAdd, List.set_cons_zero, List.set_cons_succ, stV, getV0, getVs, setV0, setVs, q_law_made_v1_f3, new_k e3.len, hget i w hw]
      refine ⟨pylong_small (by decide +kernel), ⟨by omega, by omega⟩, ?_⟩
      refine fo_rule (fun j e B => ∃ (o11 : Option PV), e = [some (.ref d), some (.ref M.length), some (.ref (M.length + 1)), some (.int ((pprod L : Nat) : Int)), some (.int ((pfac (L.take i) * w.1 ^ j : Nat) : Int)), some (.int ((pker (L.take i) : Nat) : Int)), some (.ref (M.length + 2)), some (.int habit), o8, some (.int (w.1 : Int)), o10, o11] ∧ B = ⟨M3 ++ [.lst small, .lst great, .dK true (dkv (zl L))]⟩) ⟨o11, by simp, rfl⟩ (fun _ _ _ _ _ => rfl) ?_ ?_
      · rintro j y e M' hy ⟨o11, rfl, eM⟩
        cases eM
        obtain ⟨rfl, hj⟩ := rng_get hy
        have hjp : w.1 ^ j ≤ w.1 ^ (w.2 / 2) := Nat.pow_le_pow_right w0 (by omega)
        have hjm := Nat.mul_le_mul_left (pfac (L.take i)) hjp
        simp only [ss_nil, ss_cons, s_asgv, s_asgt, s_para, s_auga, s_exp, s_retE, s_retNon, s_if, s_while, s_fo, s_break, s_conti, s_ps, e_var, varK, e_int, e_bl, e_non, e_str, e_ty, e_bin, e_neg, e_cmp, e_chain, e_isN, e_notN, e_and, e_or, e_not, e_ite, e_call, e_callK, prm_some, e_bi, e_tup, e_lst, lstK, tupK, e_ix, e_sl, eo_none, eo_some, in_int, e_mt, e_bits, bt_int, ng_int, e_comp, e_gc, es_nil, es_cons, tg_var, tg_tup, tg_sub, tgs_nil, tgs_cons, it_list, it_tup, it_rng1, it_rng2, it_enum, src_tup, src_fro, src_rng, src_enum, op_add, op_sub, op_mul, op_fdiv, op_mod, op_pow, op_shl, op_shr, op_addt, cm_lt, cm_le, cm_gt, cm_ge, cm_eq, cm_ne, cm_eq_bl, cm_ne_bl, cm_eq_str, cm_ne_str, tr_bl, tr_int, tr_non, ch_bl, cond_dec, cond_not, cond_t, cond_f, cond_ne, au_add, au_sub, b_len_tup, b_int, b_int_bl, b_abs, b_max, b_min, at_some, x_tup, isi_non_int, isi_non_bool, isi_non_str, isi_non_tuple, isi_non_list, isi_non_dict, isi_bl_int, isi_bl_bool, isi_bl_str, isi_bl_tuple, isi_bl_list, isi_bl_dict, isi_int_int, isi_int_bool, isi_int_str, isi_int_tuple, isi_int_list, isi_int_dict, isi_str_int, isi_str_bool, isi_str_str, isi_str_tuple, isi_str_list, isi_str_dict, isi_tup_int, isi_tup_bool, isi_tup_str, isi_tup_tuple, isi_tup_list, isi_tup_dict, isi_fro_int, isi_fro_bool, isi_fro_str, isi_fro_tuple, isi_fro_list, isi_fro_dict, PV.isNon, eq_self, decide_true, Bool.not_true, Bool.not_false, sl_fro, gc_pure, cl_lst, cl_dK, cx_ref, cx_str, cop_add, cb_len, cl_q, cm_append, cm_pop, pop_snoc, cm_extend, csrc, ctg, ixs, gc_ref, gc_ref0, e_dnew, e_get1, e_get2, cl_d, gd_ref, gd_str, cm_isin, cm_notin, intsK, e_sset, ssetK, b_sorted, m_insert, cb_sum, b_tuple_ref, b_tuple_tup, b_list_tup, b_list_ref, sl_tup, sl_ref, tr_tup, sizeLine_eq, Nat.reduceLeDiff, Int.reduceLT, Int.reduceLE, true_and, and_true, st_new0, st_newk, st_set0, st_setk, List.getElem?_cons_zero, List.getElem?_cons_succ, List.append_assoc, List.cons_append, List.nil_append, List.append_nil, List.length_append, List.length_cons, List.length_nil, Nat.zero_add, Nat.reduceAdd, List.set_cons_zero, List.set_cons_succ, stV, getV0, getVs, setV0, setVs, q_law_made_v1_f4]
        refine ⟨cmul (abs_nat (k := 30) (by omega)) ws (by decide), some (.int (0 + (j : Int))), ?_⟩
        rw [Nat.pow_succ, Int.natCast_mul, Int.natCast_mul, Int.natCast_mul, Int.mul_assoc]
      · rintro e M' ⟨o11, rfl, eM⟩
        cases eM
        have el : (rngItems 0 ((w.2 : Int) / 2 - 0).toNat).length = w.2 / 2 := by rw [rng_len]; omega
        rw [el, ← fs]
        simp only [ss_nil, ss_cons, s_asgv, s_asgt, s_para, s_auga, s_exp, s_retE, s_retNon, s_if, s_while, s_fo, s_break, s_conti, s_ps, e_var, varK, e_int, e_bl, e_non, e_str, e_ty, e_bin, e_neg, e_cmp, e_chain, e_isN, e_notN, e_and, e_or, e_not, e_ite, e_call, e_callK, prm_some, e_bi, e_tup, e_lst, lstK, tupK, e_ix, e_sl, eo_none, eo_some, in_int, e_mt, e_bits, bt_int, ng_int, e_comp, e_gc, es_nil, es_cons, tg_var, tg_tup, tg_sub, tgs_nil, tgs_cons, it_list, it_tup, it_rng1, it_rng2, it_enum, src_tup, src_fro, src_rng, src_enum, op_add, op_sub, op_mul, op_fdiv, op_mod, op_pow, op_shl, op_shr, op_addt, cm_lt, cm_le, cm_gt, cm_ge, cm_eq, cm_ne, cm_eq_bl, cm_ne_bl, cm_eq_str, cm_ne_str, tr_bl, tr_int, tr_non, ch_bl, cond_dec, cond_not, cond_t, cond_f, cond_ne, au_add, au_sub, b_len_tup, b_int, b_int_bl, b_abs, b_max, b_min, at_some, x_tup, isi_non_int, isi_non_bool, isi_non_str, isi_non_tuple, isi_non_list, isi_non_dict, isi_bl_int, isi_bl_bool, isi_bl_str, isi_bl_tuple, isi_bl_list, isi_bl_dict, isi_int_int, isi_int_bool, isi_int_str, isi_int_tuple, isi_int_list, isi_int_dict, isi_str_int, isi_str_bool, isi_str_str, isi_str_tuple, isi_str_list, isi_str_dict, isi_tup_int, isi_tup_bool, isi_tup_str, isi_tup_tuple, isi_tup_list, isi_tup_dict, isi_fro_int, isi_fro_bool, isi_fro_str, isi_fro_tuple, isi_fro_list, isi_fro_dict, PV.isNon, eq_self, decide_true, Bool.not_true, Bool.not_false, sl_fro, gc_pure, cl_lst, cl_dK, cx_ref, cx_str, cop_add, cb_len, cl_q, cm_append, cm_pop, pop_snoc, cm_extend, csrc, ctg, ixs, gc_ref, gc_ref0, e_dnew, e_get1, e_get2, cl_d, gd_ref, gd_str, cm_isin, cm_notin, intsK, e_sset, ssetK, b_sorted, m_insert, cb_sum, b_tuple_ref, b_tuple_tup, b_list_tup, b_list_ref, sl_tup, sl_ref, tr_tup, sizeLine_eq, Nat.reduceLeDiff, Int.reduceLT, Int.reduceLE, true_and, and_true, st_new0, st_newk, st_set0, st_setk, List.getElem?_cons_zero, List.getElem?_cons_succ, List.append_assoc, List.cons_append, List.nil_append, List.append_nil, List.length_append, List.length_cons, List.length_nil, Nat.zero_add, Nat.reduceAdd, List.set_cons_zero, List.set_cons_succ, stV, getV0, getVs, setV0, setVs, new_k e3.len, hget i w hw, et]
        refine ⟨fun h => ⟨cmul (abs_nat (k := 30) (by omega)) ws (by decide), some (.int (w.1 : Int)), o11, ?_⟩, fun h => ⟨some (.int (w.1 : Int)), o11, ?_⟩⟩
        · rw [ks, if_pos h]
          rfl
        · rw [ks, if_neg h, Nat.mul_one]
    · rintro e M' ⟨o9, o11, rfl, eM⟩
      cases eM
      have e1 : (dItems .keys (dkv (zl L))).length = L.length := by
        rw [keys_dkv, List.length_map]
        exact List.length_map _
      rw [e1, List.take_length, new_setk e3.len]
      have hkl : (List.map (fun x => x.fst) (zl L)).length < 64 := by
        rw [List.length_map]
        unfold zl
        rw [List.length_map]
        omega
      simp only [ss_nil, ss_cons, s_asgv, s_asgt, s_para, s_auga, s_exp, s_retE, s_retNon, s_if, s_while, s_fo, s_break, s_conti, s_ps, e_var, varK, e_int, e_bl, e_non, e_str, e_ty, e_bin, e_neg, e_cmp, e_chain, e_isN, e_notN, e_and, e_or, e_not, e_ite, e_call, e_callK, prm_some, e_bi, e_tup, e_lst, lstK, tupK, e_ix, e_sl, eo_none, eo_some, in_int, e_mt, e_bits, bt_int, ng_int, e_comp, e_gc, es_nil, es_cons, tg_var, tg_tup, tg_sub, tgs_nil, tgs_cons, it_list, it_tup, it_rng1, it_rng2, it_enum, src_tup, src_fro, src_rng, src_enum, op_add, op_sub, op_mul, op_fdiv, op_mod, op_pow, op_shl, op_shr, op_addt, cm_lt, cm_le, cm_gt, cm_ge, cm_eq, cm_ne, cm_eq_bl, cm_ne_bl, cm_eq_str, cm_ne_str, tr_bl, tr_int, tr_non, ch_bl, cond_dec, cond_not, cond_t, cond_f, cond_ne, au_add, au_sub, b_len_tup, b_int, b_int_bl, b_abs, b_max, b_min, at_some, x_tup, isi_non_int, isi_non_bool, isi_non_str, isi_non_tuple, isi_non_list, isi_non_dict, isi_bl_int, isi_bl_bool, isi_bl_str, isi_bl_tuple, isi_bl_list, isi_bl_dict, isi_int_int, isi_int_bool, isi_int_str, isi_int_tuple, isi_int_list, isi_int_dict, isi_str_int, isi_str_bool, isi_str_str, isi_str_tuple, isi_str_list, isi_str_dict, isi_tup_int, isi_tup_bool, isi_tup_str, isi_tup_tuple, isi_tup_list, isi_tup_dict, isi_fro_int, isi_fro_bool, isi_fro_str, isi_fro_tuple, isi_fro_list, isi_fro_dict, PV.isNon, eq_self, decide_true, Bool.not_true, Bool.not_false, sl_fro, gc_pure, cl_lst, cl_dK, cx_ref, cx_str, cop_add, cb_len, cl_q, cm_append, cm_pop, pop_snoc, cm_extend, csrc, ctg, ixs, gc_ref, gc_ref0, e_dnew, e_get1, e_get2, cl_d, gd_ref, gd_str, cm_isin, cm_notin, intsK, e_sset, ssetK, b_sorted, m_insert, cb_sum, b_tuple_ref, b_tuple_tup, b_list_tup, b_list_ref, sl_tup, sl_ref, tr_tup, sizeLine_eq, Nat.reduceLeDiff, Int.reduceLT, Int.reduceLE, true_and, and_true, st_new0, st_newk, st_set0, st_setk, List.getElem?_cons_zero, List.getElem?_cons_succ, List.append_assoc, List.cons_append, List.nil_append, List.append_nil, List.length_append, List.length_cons, List.length_nil, Nat.zero_add, Nat.reduceAdd, List.set_cons_zero, List.set_cons_succ, stV, getV0, getVs, setV0, setVs, new_k e3.len, intKs_dkv, List.set_cons_succ, List.set_cons_zero]
      refine ⟨hkl, ?_⟩
      have hx0 : 0 < pprod L := by rw [← hker.eq]; exact Nat.mul_pos (Nat.mul_pos hker.f0 hker.f0) hker.k0
      rw [← prs_pV]
      have e4 : ∀ c : Cell, M3 ++ [Cell.lst small, Cell.lst great, Cell.dK false (dkv (zl L)), c] = (M3 ++ [Cell.lst small, Cell.lst great, Cell.dK false (dkv (zl L))]) ++ [c] := fun c => by simp
      rw [e4, gc_drop (by rw [PV.low]; exact plain_low.plains_low pV_plains)]
      simp only [ss_nil, ss_cons, s_asgv, s_asgt, s_para, s_auga, s_exp, s_retE, s_retNon, s_if, s_while, s_fo, s_break, s_conti, s_ps, e_var, varK, e_int, e_bl, e_non, e_str, e_ty, e_bin, e_neg, e_cmp, e_chain, e_isN, e_notN, e_and, e_or, e_not, e_ite, e_call, e_callK, prm_some, e_bi, e_tup, e_lst, lstK, tupK, e_ix, e_sl, eo_none, eo_some, in_int, e_mt, e_bits, bt_int, ng_int, e_comp, e_gc, es_nil, es_cons, tg_var, tg_tup, tg_sub, tgs_nil, tgs_cons, it_list, it_tup, it_rng1, it_rng2, it_enum, src_tup, src_fro, src_rng, src_enum, op_add, op_sub, op_mul, op_fdiv, op_mod, op_pow, op_shl, op_shr, op_addt, cm_lt, cm_le, cm_gt, cm_ge, cm_eq, cm_ne, cm_eq_bl, cm_ne_bl, cm_eq_str, cm_ne_str, tr_bl, tr_int, tr_non, ch_bl, cond_dec, cond_not, cond_t, cond_f, cond_ne, au_add, au_sub, b_len_tup, b_int, b_int_bl, b_abs, b_max, b_min, at_some, x_tup, isi_non_int, isi_non_bool, isi_non_str, isi_non_tuple, isi_non_list, isi_non_dict, isi_bl_int, isi_bl_bool, isi_bl_str, isi_bl_tuple, isi_bl_list, isi_bl_dict, isi_int_int, isi_int_bool, isi_int_str, isi_int_tuple, isi_int_list, isi_int_dict, isi_str_int, isi_str_bool, isi_str_str, isi_str_tuple, isi_str_list, isi_str_dict, isi_tup_int, isi_tup_bool, isi_tup_str, isi_tup_tuple, isi_tup_list, isi_tup_dict, isi_fro_int, isi_fro_bool, isi_fro_str, isi_fro_tuple, isi_fro_list, isi_fro_dict, PV.isNon, eq_self, decide_true, Bool.not_true, Bool.not_false, sl_fro, gc_pure, cl_lst, cl_dK, cx_ref, cx_str, cop_add, cb_len, cl_q, cm_append, cm_pop, pop_snoc, cm_extend, csrc, ctg, ixs, gc_ref, gc_ref0, e_dnew, e_get1, e_get2, cl_d, gd_ref, gd_str, cm_isin, cm_notin, intsK, e_sset, ssetK, b_sorted, m_insert, cb_sum, b_tuple_ref, b_tuple_tup, b_list_tup, b_list_ref, sl_tup, sl_ref, tr_tup, sizeLine_eq, Nat.reduceLeDiff, Int.reduceLT, Int.reduceLE, true_and, and_true, st_new0, st_newk, st_set0, st_setk, List.getElem?_cons_zero, List.getElem?_cons_succ, List.append_assoc, List.cons_append, List.nil_append, List.append_nil, List.length_append, List.length_cons, List.length_nil, Nat.zero_add, Nat.reduceAdd, List.set_cons_zero, List.set_cons_succ, stV, getV0, getVs, setV0, setVs]
      rw [e3.gc (by simp [PV.low, PV.lows, plain_low.plains_low pV_plains])]
      exact ⟨_, _, _, _, rfl, hx0, hprod, hker, prs_is hL, by rw [prs_len]; exact hl5, e3⟩
end Q

namespace Q
open PySem PySem.Spec PyProof.Rows L2
/-! squares by trial -/
def chk (n : Nat) : Nat → Nat → Bool
  | 0, lo => !(n % (lo * lo) == 0)
  | k + 1, lo => chk n k lo && chk n k (lo + 2 ^ k)
theorem chk_spec {n : Nat} : ∀ {k lo : Nat}, chk n k lo = true → ∀ d, lo ≤ d → d < lo + 2 ^ k → ¬ d * d ∣ n
  | 0, lo, h, d, h1, h2 => by
    have e : d = lo := by simp at h2; omega
    subst e
    unfold chk at h
    intro hd
    rw [Nat.mod_eq_zero_of_dvd hd] at h
    simp at h
  | k + 1, lo, h, d, h1, h2 => by
    unfold chk at h
    rw [Bool.and_eq_true] at h
    rw [Nat.pow_succ] at h2
    by_cases hd : d < lo + 2 ^ k
    · exact chk_spec h.1 d h1 hd
    · exact chk_spec h.2 d (by omega) (by omega)
theorem sqF_chk {n k : Nat} (h0 : 0 < n) (h : chk n k 2 = true) (hn : n < (2 + 2 ^ k) * (2 + 2 ^ k)) : SqF n := by
  intro d hd
  apply Classical.byContradiction
  intro hne
  have d0 : d ≠ 0 := fun hz => by
    subst hz
    have := Nat.eq_zero_of_zero_dvd hd
    omega
  by_cases hl : d < 2 + 2 ^ k
  · exact chk_spec h d (by omega) hl hd
  · have h1 := Nat.mul_le_mul (Nat.not_lt.mp hl) (Nat.not_lt.mp hl)
    have := Nat.le_of_dvd h0 hd
    omega
/-! the law -/
theorem primes_mul {x r : Nat} {ps qs : List Nat} (hp : IsPs x ps) (hq : IsPs r qs) {us : List Nat} (hu : us.Pairwise (· < ·)) (hm : ∀ n, n ∈ us ↔ n ∈ ps ∨ n ∈ qs) : IsPs (x * r * r) us := by
  refine ⟨hu, fun p => ?_⟩
  rw [hm, hp.mem, hq.mem]
  constructor
  · rintro (⟨h1, h2⟩ | ⟨h1, h2⟩)
    · exact ⟨h1, Nat.dvd_trans h2 (by rw [Nat.mul_assoc]; exact Nat.dvd_mul_right _ _)⟩
    · exact ⟨h1, Nat.dvd_trans h2 (Nat.dvd_mul_left _ _)⟩
  · rintro ⟨h1, h2⟩
    rcases euclid h1 h2 with a | a
    · rcases euclid h1 a with b | b
      · exact .inl ⟨h1, b⟩
      · exact .inr ⟨h1, b⟩
    · exact .inr ⟨h1, a⟩
theorem ker_mul {x f k r : Nat} (h : IsKer x f k) (hr : 0 < r) : IsKer (x * r * r) (f * r) k := ⟨by rw [← h.eq]; ac_rfl, Nat.mul_pos h.f0 hr, h.k0, h.sq⟩
/-- sorted(set(..)) of primes -/
def uPs (ps : List Nat) : List Nat := (sortU (ps.map fun (p : Nat) => (p : Int))).map Int.toNat
theorem uPs_pV {ps : List Nat} : pV (uPs ps) = (sortU (ps.map fun (p : Nat) => (p : Int))).map PV.int := by
  unfold pV uPs
  rw [List.map_map]
  apply List.map_congr_left
  intro z hz
  rw [sortU_mem] at hz
  obtain ⟨p, hp, rfl⟩ := List.mem_map.mp hz
  rfl
theorem uPs_up {ps : List Nat} : (uPs ps).Pairwise (· < ·) := by
  unfold uPs
  rw [List.pairwise_map]
  refine List.Pairwise.imp_of_mem (fun {a b} ha hb hab => ?_) (sortU_up _)
  rw [sortU_mem] at ha hb
  obtain ⟨p, hp, rfl⟩ := List.mem_map.mp ha
  obtain ⟨q, hq, rfl⟩ := List.mem_map.mp hb
  omega
theorem uPs_mem {ps : List Nat} {n : Nat} : n ∈ uPs ps ↔ n ∈ ps := by
  unfold uPs
  rw [List.mem_map]
  constructor
  · rintro ⟨z, hz, rfl⟩
    rw [sortU_mem] at hz
    obtain ⟨p, hp, rfl⟩ := List.mem_map.mp hz
    exact hp
  · intro h
    exact ⟨(n : Int), sortU_mem.mpr (List.mem_map.mpr ⟨n, h, rfl⟩), rfl⟩
theorem pV_ints {ps : List Nat} : intsP (pV ps) = some (ps.map fun (p : Nat) => (p : Int)) := by
  have e : pV ps = (ps.map fun (p : Nat) => (p : Int)).map PV.int := by
    unfold pV
    rw [List.map_map]
    rfl
  rw [e]
  exact intsP_of
theorem ker_prime2 {p q : Nat} (hp : IsP p) (hq : IsP q) (h : p ≠ q) : IsKer (p * q) 1 (p * q) := ⟨by simp, by decide, Nat.mul_pos (isP_pos hp) (isP_pos hq), sqF_mul (isP_sqF hp) (isP_sqF hq) (isP_cop hp hq h)⟩
theorem ker_sq {p : Nat} (hp : 0 < p) : IsKer (p * p) p 1 := ⟨by simp, hp, by decide, sqF_one⟩
theorem ps_prime2 {p q : Nat} (hp : IsP p) (hq : IsP q) (h : p < q) : IsPs (p * q) [p, q] := by
  refine ⟨by simp [h], fun r => ?_⟩
  simp only [List.mem_cons, List.not_mem_nil, or_false]
  constructor
  · rintro (rfl | rfl)
    · exact ⟨hp, Nat.dvd_mul_right _ _⟩
    · exact ⟨hq, Nat.dvd_mul_left _ _⟩
  · rintro ⟨h1, h2⟩
    rcases euclid h1 h2 with a | a
    · rcases hp.2 r a with e | e
      · have := h1.1; omega
      · exact .inl e
    · rcases hq.2 r a with e | e
      · have := h1.1; omega
      · exact .inr e
theorem ps_sq {p : Nat} (hp : IsP p) : IsPs (p * p) [p] := by
  refine ⟨List.pairwise_singleton _ _, fun r => ?_⟩
  simp only [List.mem_cons, List.not_mem_nil, or_false]
  constructor
  · rintro rfl
    exact ⟨hp, Nat.dvd_mul_right _ _⟩
  · rintro ⟨h1, h2⟩
    have a : r ∣ p := by rcases euclid h1 h2 with a | a <;> exact a
    rcases hp.2 r a with e | e
    · have := h1.1; omega
    · exact e
theorem ps_square {x : Nat} {ps : List Nat} (h : IsPs x ps) : IsPs (x * x) ps := by
  refine ⟨h.up, fun p => ?_⟩
  rw [h.mem]
  constructor
  · rintro ⟨h1, h2⟩
    exact ⟨h1, Nat.dvd_trans h2 (Nat.dvd_mul_right _ _)⟩
  · rintro ⟨h1, h2⟩
    exact ⟨h1, by rcases euclid h1 h2 with a | a <;> exact a⟩
theorem asc_len : ∀ {l : List Nat} {lo hi : Nat}, l.Pairwise (· < ·) → (∀ x ∈ l, lo ≤ x ∧ x ≤ hi) → lo ≤ hi + 1 → l.length ≤ hi + 1 - lo
  | [], _, _, _, _, _ => Nat.zero_le _
  | x :: r, lo, hi, h, hb, hl => by
    obtain ⟨h1, h2⟩ := List.pairwise_cons.mp h
    have hx := hb x (List.mem_cons_self ..)
    have := asc_len (lo := x + 1) (hi := hi) h2 (fun y hy => ⟨h1 y hy, (hb y (List.mem_cons_of_mem _ hy)).2⟩) (by omega)
    rw [List.length_cons]
    omega
theorem isPs_len {x : Nat} {ps : List Nat} (h : IsPs x ps) (hx : 0 < x) : ps.length ≤ x := by
  have := asc_len (lo := 1) (hi := x) h.up (fun p hp => ⟨isP_pos ((h.mem p).mp hp).1, Nat.le_of_dvd hx ((h.mem p).mp hp).2⟩) (by omega)
  omega
theorem isP2 : IsP 2 := isP_chk (k := 1) (by decide) (by decide) (by decide)
theorem isP3 : IsP 3 := isP_chk (k := 1) (by decide) (by decide) (by decide)
theorem isP5 : IsP 5 := isP_chk (k := 1) (by decide) (by decide) (by decide)
theorem ker72 : IsKer 72 6 2 := ⟨by decide, by decide, by decide, isP_sqF isP2⟩
theorem ker30 : IsKer 30 1 30 := ⟨by decide, by decide, by decide, sqF_chk (k := 3) (by decide) (by decide) (by decide)⟩
theorem ps360 : IsPs 360 [2, 3, 5] := primes_mul (x := 10) (r := 6) (ps_prime2 isP2 isP5 (by decide)) (ps_prime2 isP2 isP3 (by decide)) (by decide) (fun n => by simp; omega)
theorem ker11 : IsKer 1 1 1 := ⟨by decide, by decide, by decide, sqF_one⟩
theorem ps1 : IsPs 1 [] := ⟨List.Pairwise.nil, fun p => by
  constructor
  · intro h; cases h
  · rintro ⟨h1, h2⟩
    have := Nat.eq_one_of_dvd_one h2
    have := h1.1
    omega⟩
theorem low_int {z : Int} {n : Nat} : (PV.int z).low n = true := by simp [PV.low]
theorem intsP2 {a b : Int} : intsP [PV.int a, PV.int b] = some [a, b] := rfl
theorem sortI_lt {a b : Int} (h : a ≤ b) : sortI [a, b] = [a, b] := by
  show insI a [b] = _
  unfold insI
  rw [if_pos h]
theorem sortI_gt {a b : Int} (h : b < a) : sortI [a, b] = [b, a] := by
  show insI a [b] = _
  unfold insI
  rw [if_neg (by omega)]
  rfl
theorem gc_val {M M' : Store} {v : PV} {P : PV → Prop} (h : P v) : Gc M v ⟨M'⟩ fun v _ => P v := by
  refine ⟨?_⟩
  unfold gcR
  split
  · exact h
  · split <;> exact h
theorem law_do {ns : List Int} (hl : ns.length ≤ 63) {n : Nat} : Does (tabs ds) (n + 7) 45 [.fro ns] [] fun v _ => v = .bl true := by
  have h0 : tabs ds 0 = some q_whole_root := rfl
  have h5 : tabs ds 5 = some q_law_same := rfl
  have h13 : tabs ds 13 = some q_kernel_of := rfl
  have h38 : tabs ds 38 = some q_is_squarefree := rfl
  have h39 : tabs ds 39 = some q_primes_in := rfl
  have h40 : tabs ds 40 = some q_law_dice_v1 := rfl
  have h41 : tabs ds 41 = some q_law_draw_v1 := rfl
  have h42 : tabs ds 42 = some q_law_divided := rfl
  have h43 : tabs ds 43 = some q_law_made_v1 := rfl
  have h44 : tabs ds 44 = some q_law_told := rfl
  have h45 : tabs ds 45 = some q_law_v2 := rfl
  generalize tabs ds = T at *
  refine does_of h45 rfl rfl ?_
  simp only [ss_nil, ss_cons, s_asgv, s_asgt, s_para, s_auga, s_exp, s_retE, s_retNon, s_if, s_while, s_fo, s_break, s_conti, s_ps, e_var, varK, e_int, e_bl, e_non, e_str, e_ty, e_bin, e_neg, e_cmp, e_chain, e_isN, e_notN, e_and, e_or, e_not, e_ite, e_call, e_callK, prm_some, e_bi, e_tup, e_lst, lstK, tupK, e_ix, e_sl, eo_none, eo_some, in_int, e_mt, e_bits, bt_int, ng_int, e_comp, e_gc, es_nil, es_cons, tg_var, tg_tup, tg_sub, tgs_nil, tgs_cons, it_list, it_tup, it_rng1, it_rng2, it_enum, src_tup, src_fro, src_rng, src_enum, op_add, op_sub, op_mul, op_fdiv, op_mod, op_pow, op_shl, op_shr, op_addt, cm_lt, cm_le, cm_gt, cm_ge, cm_eq, cm_ne, cm_eq_bl, cm_ne_bl, cm_eq_str, cm_ne_str, tr_bl, tr_int, tr_non, ch_bl, cond_dec, cond_not, cond_t, cond_f, cond_ne, au_add, au_sub, b_len_tup, b_int, b_int_bl, b_abs, b_max, b_min, at_some, x_tup, isi_non_int, isi_non_bool, isi_non_str, isi_non_tuple, isi_non_list, isi_non_dict, isi_bl_int, isi_bl_bool, isi_bl_str, isi_bl_tuple, isi_bl_list, isi_bl_dict, isi_int_int, isi_int_bool, isi_int_str, isi_int_tuple, isi_int_list, isi_int_dict, isi_str_int, isi_str_bool, isi_str_str, isi_str_tuple, isi_str_list, isi_str_dict, isi_tup_int, isi_tup_bool, isi_tup_str, isi_tup_tuple, isi_tup_list, isi_tup_dict, isi_fro_int, isi_fro_bool, isi_fro_str, isi_fro_tuple, isi_fro_list, isi_fro_dict, PV.isNon, eq_self, decide_true, Bool.not_true, Bool.not_false, sl_fro, gc_pure, cl_lst, cl_dK, cx_ref, cx_str, cop_add, cb_len, cl_q, cm_append, cm_pop, pop_snoc, cm_extend, csrc, ctg, ixs, gc_ref, gc_ref0, e_dnew, e_get1, e_get2, cl_d, gd_ref, gd_str, cm_isin, cm_notin, intsK, e_sset, ssetK, b_sorted, m_insert, cb_sum, b_tuple_ref, b_tuple_tup, b_list_tup, b_list_ref, sl_tup, sl_ref, tr_tup, sizeLine_eq, Nat.reduceLeDiff, Int.reduceLT, Int.reduceLE, true_and, and_true, st_new0, st_newk, st_set0, st_setk, List.getElem?_cons_zero, List.getElem?_cons_succ, List.append_assoc, List.cons_append, List.nil_append, List.append_nil, List.length_append, List.length_cons, List.length_nil, Nat.zero_add, Nat.reduceAdd, List.set_cons_zero, List.set_cons_succ, stV, getV0, getVs, setV0, setVs, q_law_v2]
  refine cl_of (law_dice_do h40 hl) ?_
  rintro v M1 ⟨rfl, c0, c1, c2, rfl, hd⟩
  simp only [List.nil_append, List.length_nil, Nat.zero_add] at hd ⊢
  generalize ([c0, c1, c2] : Store) = M1 at hd
  simp only [ss_nil, ss_cons, s_asgv, s_asgt, s_para, s_auga, s_exp, s_retE, s_retNon, s_if, s_while, s_fo, s_break, s_conti, s_ps, e_var, varK, e_int, e_bl, e_non, e_str, e_ty, e_bin, e_neg, e_cmp, e_chain, e_isN, e_notN, e_and, e_or, e_not, e_ite, e_call, e_callK, prm_some, e_bi, e_tup, e_lst, lstK, tupK, e_ix, e_sl, eo_none, eo_some, in_int, e_mt, e_bits, bt_int, ng_int, e_comp, e_gc, es_nil, es_cons, tg_var, tg_tup, tg_sub, tgs_nil, tgs_cons, it_list, it_tup, it_rng1, it_rng2, it_enum, src_tup, src_fro, src_rng, src_enum, op_add, op_sub, op_mul, op_fdiv, op_mod, op_pow, op_shl, op_shr, op_addt, cm_lt, cm_le, cm_gt, cm_ge, cm_eq, cm_ne, cm_eq_bl, cm_ne_bl, cm_eq_str, cm_ne_str, tr_bl, tr_int, tr_non, ch_bl, cond_dec, cond_not, cond_t, cond_f, cond_ne, au_add, au_sub, b_len_tup, b_int, b_int_bl, b_abs, b_max, b_min, at_some, x_tup, isi_non_int, isi_non_bool, isi_non_str, isi_non_tuple, isi_non_list, isi_non_dict, isi_bl_int, isi_bl_bool, isi_bl_str, isi_bl_tuple, isi_bl_list, isi_bl_dict, isi_int_int, isi_int_bool, isi_int_str, isi_int_tuple, isi_int_list, isi_int_dict, isi_str_int, isi_str_bool, isi_str_str, isi_str_tuple, isi_str_list, isi_str_dict, isi_tup_int, isi_tup_bool, isi_tup_str, isi_tup_tuple, isi_tup_list, isi_tup_dict, isi_fro_int, isi_fro_bool, isi_fro_str, isi_fro_tuple, isi_fro_list, isi_fro_dict, PV.isNon, eq_self, decide_true, Bool.not_true, Bool.not_false, sl_fro, gc_pure, cl_lst, cl_dK, cx_ref, cx_str, cop_add, cb_len, cl_q, cm_append, cm_pop, pop_snoc, cm_extend, csrc, ctg, ixs, gc_ref, gc_ref0, e_dnew, e_get1, e_get2, cl_d, gd_ref, gd_str, cm_isin, cm_notin, intsK, e_sset, ssetK, b_sorted, m_insert, cb_sum, b_tuple_ref, b_tuple_tup, b_list_tup, b_list_ref, sl_tup, sl_ref, tr_tup, sizeLine_eq, Nat.reduceLeDiff, Int.reduceLT, Int.reduceLE, true_and, and_true, st_new0, st_newk, st_set0, st_setk, List.getElem?_cons_zero, List.getElem?_cons_succ, List.append_assoc, List.cons_append, List.nil_append, List.append_nil, List.length_append, List.length_cons, List.length_nil, Nat.zero_add, Nat.reduceAdd, List.set_cons_zero, List.set_cons_succ, stV, getV0, getVs, setV0, setVs, permL, List.getElem?_cons_zero, List.getElem?_cons_succ]
  refine cl_of (kernel_of_do (x := 72) h0 h13 (by decide) (by decide)) ?_
  rintro v M2 ⟨rfl, f, k, rfl, hk⟩
  obtain ⟨rfl, rfl⟩ := ker_unique ker72 hk
  simp only [ss_nil, ss_cons, s_asgv, s_asgt, s_para, s_auga, s_exp, s_retE, s_retNon, s_if, s_while, s_fo, s_break, s_conti, s_ps, e_var, varK, e_int, e_bl, e_non, e_str, e_ty, e_bin, e_neg, e_cmp, e_chain, e_isN, e_notN, e_and, e_or, e_not, e_ite, e_call, e_callK, prm_some, e_bi, e_tup, e_lst, lstK, tupK, e_ix, e_sl, eo_none, eo_some, in_int, e_mt, e_bits, bt_int, ng_int, e_comp, e_gc, es_nil, es_cons, tg_var, tg_tup, tg_sub, tgs_nil, tgs_cons, it_list, it_tup, it_rng1, it_rng2, it_enum, src_tup, src_fro, src_rng, src_enum, op_add, op_sub, op_mul, op_fdiv, op_mod, op_pow, op_shl, op_shr, op_addt, cm_lt, cm_le, cm_gt, cm_ge, cm_eq, cm_ne, cm_eq_bl, cm_ne_bl, cm_eq_str, cm_ne_str, tr_bl, tr_int, tr_non, ch_bl, cond_dec, cond_not, cond_t, cond_f, cond_ne, au_add, au_sub, b_len_tup, b_int, b_int_bl, b_abs, b_max, b_min, at_some, x_tup, isi_non_int, isi_non_bool, isi_non_str, isi_non_tuple, isi_non_list, isi_non_dict, isi_bl_int, isi_bl_bool, isi_bl_str, isi_bl_tuple, isi_bl_list, isi_bl_dict, isi_int_int, isi_int_bool, isi_int_str, isi_int_tuple, isi_int_list, isi_int_dict, isi_str_int, isi_str_bool, isi_str_str, isi_str_tuple, isi_str_list, isi_str_dict, isi_tup_int, isi_tup_bool, isi_tup_str, isi_tup_tuple, isi_tup_list, isi_tup_dict, isi_fro_int, isi_fro_bool, isi_fro_str, isi_fro_tuple, isi_fro_list, isi_fro_dict, PV.isNon, eq_self, decide_true, Bool.not_true, Bool.not_false, sl_fro, gc_pure, cl_lst, cl_dK, cx_ref, cx_str, cop_add, cb_len, cl_q, cm_append, cm_pop, pop_snoc, cm_extend, csrc, ctg, ixs, gc_ref, gc_ref0, e_dnew, e_get1, e_get2, cl_d, gd_ref, gd_str, cm_isin, cm_notin, intsK, e_sset, ssetK, b_sorted, m_insert, cb_sum, b_tuple_ref, b_tuple_tup, b_list_tup, b_list_ref, sl_tup, sl_ref, tr_tup, sizeLine_eq, Nat.reduceLeDiff, Int.reduceLT, Int.reduceLE, true_and, and_true, st_new0, st_newk, st_set0, st_setk, List.getElem?_cons_zero, List.getElem?_cons_succ, List.append_assoc, List.cons_append, List.nil_append, List.append_nil, List.length_append, List.length_cons, List.length_nil, Nat.zero_add, Nat.reduceAdd, List.set_cons_zero, List.set_cons_succ, stV, getV0, getVs, setV0, setVs, permL, List.getElem?_cons_zero, List.getElem?_cons_succ]
  refine cl_of (is_squarefree_do (x := 30) h0 h13 h38 (by decide) (by decide)) ?_
  rintro v M2 ⟨rfl, f, k, rfl, hk⟩
  obtain ⟨rfl, rfl⟩ := ker_unique ker30 hk
  simp only [ss_nil, ss_cons, s_asgv, s_asgt, s_para, s_auga, s_exp, s_retE, s_retNon, s_if, s_while, s_fo, s_break, s_conti, s_ps, e_var, varK, e_int, e_bl, e_non, e_str, e_ty, e_bin, e_neg, e_cmp, e_chain, e_isN, e_notN, e_and, e_or, e_not, e_ite, e_call, e_callK, prm_some, e_bi, e_tup, e_lst, lstK, tupK, e_ix, e_sl, eo_none, eo_some, in_int, e_mt, e_bits, bt_int, ng_int, e_comp, e_gc, es_nil, es_cons, tg_var, tg_tup, tg_sub, tgs_nil, tgs_cons, it_list, it_tup, it_rng1, it_rng2, it_enum, src_tup, src_fro, src_rng, src_enum, op_add, op_sub, op_mul, op_fdiv, op_mod, op_pow, op_shl, op_shr, op_addt, cm_lt, cm_le, cm_gt, cm_ge, cm_eq, cm_ne, cm_eq_bl, cm_ne_bl, cm_eq_str, cm_ne_str, tr_bl, tr_int, tr_non, ch_bl, cond_dec, cond_not, cond_t, cond_f, cond_ne, au_add, au_sub, b_len_tup, b_int, b_int_bl, b_abs, b_max, b_min, at_some, x_tup, isi_non_int, isi_non_bool, isi_non_str, isi_non_tuple, isi_non_list, isi_non_dict, isi_bl_int, isi_bl_bool, isi_bl_str, isi_bl_tuple, isi_bl_list, isi_bl_dict, isi_int_int, isi_int_bool, isi_int_str, isi_int_tuple, isi_int_list, isi_int_dict, isi_str_int, isi_str_bool, isi_str_str, isi_str_tuple, isi_str_list, isi_str_dict, isi_tup_int, isi_tup_bool, isi_tup_str, isi_tup_tuple, isi_tup_list, isi_tup_dict, isi_fro_int, isi_fro_bool, isi_fro_str, isi_fro_tuple, isi_fro_list, isi_fro_dict, PV.isNon, eq_self, decide_true, Bool.not_true, Bool.not_false, sl_fro, gc_pure, cl_lst, cl_dK, cx_ref, cx_str, cop_add, cb_len, cl_q, cm_append, cm_pop, pop_snoc, cm_extend, csrc, ctg, ixs, gc_ref, gc_ref0, e_dnew, e_get1, e_get2, cl_d, gd_ref, gd_str, cm_isin, cm_notin, intsK, e_sset, ssetK, b_sorted, m_insert, cb_sum, b_tuple_ref, b_tuple_tup, b_list_tup, b_list_ref, sl_tup, sl_ref, tr_tup, sizeLine_eq, Nat.reduceLeDiff, Int.reduceLT, Int.reduceLE, true_and, and_true, st_new0, st_newk, st_set0, st_setk, List.getElem?_cons_zero, List.getElem?_cons_succ, List.append_assoc, List.cons_append, List.nil_append, List.append_nil, List.length_append, List.length_cons, List.length_nil, Nat.zero_add, Nat.reduceAdd, List.set_cons_zero, List.set_cons_succ, stV, getV0, getVs, setV0, setVs, permL, List.getElem?_cons_zero, List.getElem?_cons_succ]
  refine cl_of (primes_in_do (x := 360) h39 (by decide) (by decide)) ?_
  rintro v M2 ⟨rfl, ps, rfl, hps, _⟩
  obtain rfl := ps360.uniq hps
  simp only [ss_nil, ss_cons, s_asgv, s_asgt, s_para, s_auga, s_exp, s_retE, s_retNon, s_if, s_while, s_fo, s_break, s_conti, s_ps, e_var, varK, e_int, e_bl, e_non, e_str, e_ty, e_bin, e_neg, e_cmp, e_chain, e_isN, e_notN, e_and, e_or, e_not, e_ite, e_call, e_callK, prm_some, e_bi, e_tup, e_lst, lstK, tupK, e_ix, e_sl, eo_none, eo_some, in_int, e_mt, e_bits, bt_int, ng_int, e_comp, e_gc, es_nil, es_cons, tg_var, tg_tup, tg_sub, tgs_nil, tgs_cons, it_list, it_tup, it_rng1, it_rng2, it_enum, src_tup, src_fro, src_rng, src_enum, op_add, op_sub, op_mul, op_fdiv, op_mod, op_pow, op_shl, op_shr, op_addt, cm_lt, cm_le, cm_gt, cm_ge, cm_eq, cm_ne, cm_eq_bl, cm_ne_bl, cm_eq_str, cm_ne_str, tr_bl, tr_int, tr_non, ch_bl, cond_dec, cond_not, cond_t, cond_f, cond_ne, au_add, au_sub, b_len_tup, b_int, b_int_bl, b_abs, b_max, b_min, at_some, x_tup, isi_non_int, isi_non_bool, isi_non_str, isi_non_tuple, isi_non_list, isi_non_dict, isi_bl_int, isi_bl_bool, isi_bl_str, isi_bl_tuple, isi_bl_list, isi_bl_dict, isi_int_int, isi_int_bool, isi_int_str, isi_int_tuple, isi_int_list, isi_int_dict, isi_str_int, isi_str_bool, isi_str_str, isi_str_tuple, isi_str_list, isi_str_dict, isi_tup_int, isi_tup_bool, isi_tup_str, isi_tup_tuple, isi_tup_list, isi_tup_dict, isi_fro_int, isi_fro_bool, isi_fro_str, isi_fro_tuple, isi_fro_list, isi_fro_dict, PV.isNon, eq_self, decide_true, Bool.not_true, Bool.not_false, sl_fro, gc_pure, cl_lst, cl_dK, cx_ref, cx_str, cop_add, cb_len, cl_q, cm_append, cm_pop, pop_snoc, cm_extend, csrc, ctg, ixs, gc_ref, gc_ref0, e_dnew, e_get1, e_get2, cl_d, gd_ref, gd_str, cm_isin, cm_notin, intsK, e_sset, ssetK, b_sorted, m_insert, cb_sum, b_tuple_ref, b_tuple_tup, b_list_tup, b_list_ref, sl_tup, sl_ref, tr_tup, sizeLine_eq, Nat.reduceLeDiff, Int.reduceLT, Int.reduceLE, true_and, and_true, st_new0, st_newk, st_set0, st_setk, List.getElem?_cons_zero, List.getElem?_cons_succ, List.append_assoc, List.cons_append, List.nil_append, List.append_nil, List.length_append, List.length_cons, List.length_nil, Nat.zero_add, Nat.reduceAdd, List.set_cons_zero, List.set_cons_succ, stV, getV0, getVs, setV0, setVs]
  refine cl_of (kernel_of_do (x := 1) h0 h13 (by decide) (by decide)) ?_
  rintro v M2 ⟨rfl, f, k, rfl, hk⟩
  obtain ⟨rfl, rfl⟩ := ker_unique ker11 hk
  simp only [ss_nil, ss_cons, s_asgv, s_asgt, s_para, s_auga, s_exp, s_retE, s_retNon, s_if, s_while, s_fo, s_break, s_conti, s_ps, e_var, varK, e_int, e_bl, e_non, e_str, e_ty, e_bin, e_neg, e_cmp, e_chain, e_isN, e_notN, e_and, e_or, e_not, e_ite, e_call, e_callK, prm_some, e_bi, e_tup, e_lst, lstK, tupK, e_ix, e_sl, eo_none, eo_some, in_int, e_mt, e_bits, bt_int, ng_int, e_comp, e_gc, es_nil, es_cons, tg_var, tg_tup, tg_sub, tgs_nil, tgs_cons, it_list, it_tup, it_rng1, it_rng2, it_enum, src_tup, src_fro, src_rng, src_enum, op_add, op_sub, op_mul, op_fdiv, op_mod, op_pow, op_shl, op_shr, op_addt, cm_lt, cm_le, cm_gt, cm_ge, cm_eq, cm_ne, cm_eq_bl, cm_ne_bl, cm_eq_str, cm_ne_str, tr_bl, tr_int, tr_non, ch_bl, cond_dec, cond_not, cond_t, cond_f, cond_ne, au_add, au_sub, b_len_tup, b_int, b_int_bl, b_abs, b_max, b_min, at_some, x_tup, isi_non_int, isi_non_bool, isi_non_str, isi_non_tuple, isi_non_list, isi_non_dict, isi_bl_int, isi_bl_bool, isi_bl_str, isi_bl_tuple, isi_bl_list, isi_bl_dict, isi_int_int, isi_int_bool, isi_int_str, isi_int_tuple, isi_int_list, isi_int_dict, isi_str_int, isi_str_bool, isi_str_str, isi_str_tuple, isi_str_list, isi_str_dict, isi_tup_int, isi_tup_bool, isi_tup_str, isi_tup_tuple, isi_tup_list, isi_tup_dict, isi_fro_int, isi_fro_bool, isi_fro_str, isi_fro_tuple, isi_fro_list, isi_fro_dict, PV.isNon, eq_self, decide_true, Bool.not_true, Bool.not_false, sl_fro, gc_pure, cl_lst, cl_dK, cx_ref, cx_str, cop_add, cb_len, cl_q, cm_append, cm_pop, pop_snoc, cm_extend, csrc, ctg, ixs, gc_ref, gc_ref0, e_dnew, e_get1, e_get2, cl_d, gd_ref, gd_str, cm_isin, cm_notin, intsK, e_sset, ssetK, b_sorted, m_insert, cb_sum, b_tuple_ref, b_tuple_tup, b_list_tup, b_list_ref, sl_tup, sl_ref, tr_tup, sizeLine_eq, Nat.reduceLeDiff, Int.reduceLT, Int.reduceLE, true_and, and_true, st_new0, st_newk, st_set0, st_setk, List.getElem?_cons_zero, List.getElem?_cons_succ, List.append_assoc, List.cons_append, List.nil_append, List.append_nil, List.length_append, List.length_cons, List.length_nil, Nat.zero_add, Nat.reduceAdd, List.set_cons_zero, List.set_cons_succ, stV, getV0, getVs, setV0, setVs]
  refine cl_of (primes_in_do (x := 1) h39 (by decide) (by decide)) ?_
  rintro v M2 ⟨rfl, ps, rfl, hps, _⟩
  obtain rfl := ps1.uniq hps
  simp only [ss_nil, ss_cons, s_asgv, s_asgt, s_para, s_auga, s_exp, s_retE, s_retNon, s_if, s_while, s_fo, s_break, s_conti, s_ps, e_var, varK, e_int, e_bl, e_non, e_str, e_ty, e_bin, e_neg, e_cmp, e_chain, e_isN, e_notN, e_and, e_or, e_not, e_ite, e_call, e_callK, prm_some, e_bi, e_tup, e_lst, lstK, tupK, e_ix, e_sl, eo_none, eo_some, in_int, e_mt, e_bits, bt_int, ng_int, e_comp, e_gc, es_nil, es_cons, tg_var, tg_tup, tg_sub, tgs_nil, tgs_cons, it_list, it_tup, it_rng1, it_rng2, it_enum, src_tup, src_fro, src_rng, src_enum, op_add, op_sub, op_mul, op_fdiv, op_mod, op_pow, op_shl, op_shr, op_addt, cm_lt, cm_le, cm_gt, cm_ge, cm_eq, cm_ne, cm_eq_bl, cm_ne_bl, cm_eq_str, cm_ne_str, tr_bl, tr_int, tr_non, ch_bl, cond_dec, cond_not, cond_t, cond_f, cond_ne, au_add, au_sub, b_len_tup, b_int, b_int_bl, b_abs, b_max, b_min, at_some, x_tup, isi_non_int, isi_non_bool, isi_non_str, isi_non_tuple, isi_non_list, isi_non_dict, isi_bl_int, isi_bl_bool, isi_bl_str, isi_bl_tuple, isi_bl_list, isi_bl_dict, isi_int_int, isi_int_bool, isi_int_str, isi_int_tuple, isi_int_list, isi_int_dict, isi_str_int, isi_str_bool, isi_str_str, isi_str_tuple, isi_str_list, isi_str_dict, isi_tup_int, isi_tup_bool, isi_tup_str, isi_tup_tuple, isi_tup_list, isi_tup_dict, isi_fro_int, isi_fro_bool, isi_fro_str, isi_fro_tuple, isi_fro_list, isi_fro_dict, PV.isNon, eq_self, decide_true, Bool.not_true, Bool.not_false, sl_fro, gc_pure, cl_lst, cl_dK, cx_ref, cx_str, cop_add, cb_len, cl_q, cm_append, cm_pop, pop_snoc, cm_extend, csrc, ctg, ixs, gc_ref, gc_ref0, e_dnew, e_get1, e_get2, cl_d, gd_ref, gd_str, cm_isin, cm_notin, intsK, e_sset, ssetK, b_sorted, m_insert, cb_sum, b_tuple_ref, b_tuple_tup, b_list_tup, b_list_ref, sl_tup, sl_ref, tr_tup, sizeLine_eq, Nat.reduceLeDiff, Int.reduceLT, Int.reduceLE, true_and, and_true, st_new0, st_newk, st_set0, st_setk, List.getElem?_cons_zero, List.getElem?_cons_succ, List.append_assoc, List.cons_append, List.nil_append, List.append_nil, List.length_append, List.length_cons, List.length_nil, Nat.zero_add, Nat.reduceAdd, List.set_cons_zero, List.set_cons_succ, stV, getV0, getVs, setV0, setVs]
  refine cl_of (is_squarefree_do (x := 1) h0 h13 h38 (by decide) (by decide)) ?_
  rintro v M2 ⟨rfl, f, k, rfl, hk⟩
  obtain ⟨rfl, rfl⟩ := ker_unique ker11 hk
  simp only [ss_nil, ss_cons, s_asgv, s_asgt, s_para, s_auga, s_exp, s_retE, s_retNon, s_if, s_while, s_fo, s_break, s_conti, s_ps, e_var, varK, e_int, e_bl, e_non, e_str, e_ty, e_bin, e_neg, e_cmp, e_chain, e_isN, e_notN, e_and, e_or, e_not, e_ite, e_call, e_callK, prm_some, e_bi, e_tup, e_lst, lstK, tupK, e_ix, e_sl, eo_none, eo_some, in_int, e_mt, e_bits, bt_int, ng_int, e_comp, e_gc, es_nil, es_cons, tg_var, tg_tup, tg_sub, tgs_nil, tgs_cons, it_list, it_tup, it_rng1, it_rng2, it_enum, src_tup, src_fro, src_rng, src_enum, op_add, op_sub, op_mul, op_fdiv, op_mod, op_pow, op_shl, op_shr, op_addt, cm_lt, cm_le, cm_gt, cm_ge, cm_eq, cm_ne, cm_eq_bl, cm_ne_bl, cm_eq_str, cm_ne_str, tr_bl, tr_int, tr_non, ch_bl, cond_dec, cond_not, cond_t, cond_f, cond_ne, au_add, au_sub, b_len_tup, b_int, b_int_bl, b_abs, b_max, b_min, at_some, x_tup, isi_non_int, isi_non_bool, isi_non_str, isi_non_tuple, isi_non_list, isi_non_dict, isi_bl_int, isi_bl_bool, isi_bl_str, isi_bl_tuple, isi_bl_list, isi_bl_dict, isi_int_int, isi_int_bool, isi_int_str, isi_int_tuple, isi_int_list, isi_int_dict, isi_str_int, isi_str_bool, isi_str_str, isi_str_tuple, isi_str_list, isi_str_dict, isi_tup_int, isi_tup_bool, isi_tup_str, isi_tup_tuple, isi_tup_list, isi_tup_dict, isi_fro_int, isi_fro_bool, isi_fro_str, isi_fro_tuple, isi_fro_list, isi_fro_dict, PV.isNon, eq_self, decide_true, Bool.not_true, Bool.not_false, sl_fro, gc_pure, cl_lst, cl_dK, cx_ref, cx_str, cop_add, cb_len, cl_q, cm_append, cm_pop, pop_snoc, cm_extend, csrc, ctg, ixs, gc_ref, gc_ref0, e_dnew, e_get1, e_get2, cl_d, gd_ref, gd_str, cm_isin, cm_notin, intsK, e_sset, ssetK, b_sorted, m_insert, cb_sum, b_tuple_ref, b_tuple_tup, b_list_tup, b_list_ref, sl_tup, sl_ref, tr_tup, sizeLine_eq, Nat.reduceLeDiff, Int.reduceLT, Int.reduceLE, true_and, and_true, st_new0, st_newk, st_set0, st_setk, List.getElem?_cons_zero, List.getElem?_cons_succ, List.append_assoc, List.cons_append, List.nil_append, List.append_nil, List.length_append, List.length_cons, List.length_nil, Nat.zero_add, Nat.reduceAdd, List.set_cons_zero, List.set_cons_succ, stV, getV0, getVs, setV0, setVs]
  refine cl_of (law_same_do (x := .tup [.tup [.int 6, .int 2], .bl true, .tup [.int 2, .int 3, .int 5], .tup [.int 1, .int 1], .tup [], .bl true]) h5 (by simp [PV.plain, PV.plains]) (by simp [PV.sz, PV.szs])) ?_
  rintro v M2 ⟨rfl, rfl⟩
  simp only [ss_nil, ss_cons, s_asgv, s_asgt, s_para, s_auga, s_exp, s_retE, s_retNon, s_if, s_while, s_fo, s_break, s_conti, s_ps, e_var, varK, e_int, e_bl, e_non, e_str, e_ty, e_bin, e_neg, e_cmp, e_chain, e_isN, e_notN, e_and, e_or, e_not, e_ite, e_call, e_callK, prm_some, e_bi, e_tup, e_lst, lstK, tupK, e_ix, e_sl, eo_none, eo_some, in_int, e_mt, e_bits, bt_int, ng_int, e_comp, e_gc, es_nil, es_cons, tg_var, tg_tup, tg_sub, tgs_nil, tgs_cons, it_list, it_tup, it_rng1, it_rng2, it_enum, src_tup, src_fro, src_rng, src_enum, op_add, op_sub, op_mul, op_fdiv, op_mod, op_pow, op_shl, op_shr, op_addt, cm_lt, cm_le, cm_gt, cm_ge, cm_eq, cm_ne, cm_eq_bl, cm_ne_bl, cm_eq_str, cm_ne_str, tr_bl, tr_int, tr_non, ch_bl, cond_dec, cond_not, cond_t, cond_f, cond_ne, au_add, au_sub, b_len_tup, b_int, b_int_bl, b_abs, b_max, b_min, at_some, x_tup, isi_non_int, isi_non_bool, isi_non_str, isi_non_tuple, isi_non_list, isi_non_dict, isi_bl_int, isi_bl_bool, isi_bl_str, isi_bl_tuple, isi_bl_list, isi_bl_dict, isi_int_int, isi_int_bool, isi_int_str, isi_int_tuple, isi_int_list, isi_int_dict, isi_str_int, isi_str_bool, isi_str_str, isi_str_tuple, isi_str_list, isi_str_dict, isi_tup_int, isi_tup_bool, isi_tup_str, isi_tup_tuple, isi_tup_list, isi_tup_dict, isi_fro_int, isi_fro_bool, isi_fro_str, isi_fro_tuple, isi_fro_list, isi_fro_dict, PV.isNon, eq_self, decide_true, Bool.not_true, Bool.not_false, sl_fro, gc_pure, cl_lst, cl_dK, cx_ref, cx_str, cop_add, cb_len, cl_q, cm_append, cm_pop, pop_snoc, cm_extend, csrc, ctg, ixs, gc_ref, gc_ref0, e_dnew, e_get1, e_get2, cl_d, gd_ref, gd_str, cm_isin, cm_notin, intsK, e_sset, ssetK, b_sorted, m_insert, cb_sum, b_tuple_ref, b_tuple_tup, b_list_tup, b_list_ref, sl_tup, sl_ref, tr_tup, sizeLine_eq, Nat.reduceLeDiff, Int.reduceLT, Int.reduceLE, true_and, and_true, st_new0, st_newk, st_set0, st_setk, List.getElem?_cons_zero, List.getElem?_cons_succ, List.append_assoc, List.cons_append, List.nil_append, List.append_nil, List.length_append, List.length_cons, List.length_nil, Nat.zero_add, Nat.reduceAdd, List.set_cons_zero, List.set_cons_succ, stV, getV0, getVs, setV0, setVs]
  refine fo_rule (fun i e B => ∃ (M2 : Store) (o2 o3 o4 o5 o6 o7 o8 : Option PV), e = [some (.fro ns), some (.ref 2), o2, o3, o4, o5, o6, o7, o8, none, none, none, none] ∧ B = ⟨M2⟩ ∧ Dice 0 2 M2) ⟨_, _, _, _, _, _, _, _, rfl, rfl, hd⟩ (fun _ _ _ _ _ => rfl) ?_ ?_
  · rintro i x e M' hx ⟨M2, o2, o3, o4, o5, o6, o7, o8, rfl, eM, hd2⟩
    cases eM
    simp only [ss_nil, ss_cons, s_asgv, s_asgt, s_para, s_auga, s_exp, s_retE, s_retNon, s_if, s_while, s_fo, s_break, s_conti, s_ps, e_var, varK, e_int, e_bl, e_non, e_str, e_ty, e_bin, e_neg, e_cmp, e_chain, e_isN, e_notN, e_and, e_or, e_not, e_ite, e_call, e_callK, prm_some, e_bi, e_tup, e_lst, lstK, tupK, e_ix, e_sl, eo_none, eo_some, in_int, e_mt, e_bits, bt_int, ng_int, e_comp, e_gc, es_nil, es_cons, tg_var, tg_tup, tg_sub, tgs_nil, tgs_cons, it_list, it_tup, it_rng1, it_rng2, it_enum, src_tup, src_fro, src_rng, src_enum, op_add, op_sub, op_mul, op_fdiv, op_mod, op_pow, op_shl, op_shr, op_addt, cm_lt, cm_le, cm_gt, cm_ge, cm_eq, cm_ne, cm_eq_bl, cm_ne_bl, cm_eq_str, cm_ne_str, tr_bl, tr_int, tr_non, ch_bl, cond_dec, cond_not, cond_t, cond_f, cond_ne, au_add, au_sub, b_len_tup, b_int, b_int_bl, b_abs, b_max, b_min, at_some, x_tup, isi_non_int, isi_non_bool, isi_non_str, isi_non_tuple, isi_non_list, isi_non_dict, isi_bl_int, isi_bl_bool, isi_bl_str, isi_bl_tuple, isi_bl_list, isi_bl_dict, isi_int_int, isi_int_bool, isi_int_str, isi_int_tuple, isi_int_list, isi_int_dict, isi_str_int, isi_str_bool, isi_str_str, isi_str_tuple, isi_str_list, isi_str_dict, isi_tup_int, isi_tup_bool, isi_tup_str, isi_tup_tuple, isi_tup_list, isi_tup_dict, isi_fro_int, isi_fro_bool, isi_fro_str, isi_fro_tuple, isi_fro_list, isi_fro_dict, PV.isNon, eq_self, decide_true, Bool.not_true, Bool.not_false, sl_fro, gc_pure, cl_lst, cl_dK, cx_ref, cx_str, cop_add, cb_len, cl_q, cm_append, cm_pop, pop_snoc, cm_extend, csrc, ctg, ixs, gc_ref, gc_ref0, e_dnew, e_get1, e_get2, cl_d, gd_ref, gd_str, cm_isin, cm_notin, intsK, e_sset, ssetK, b_sorted, m_insert, cb_sum, b_tuple_ref, b_tuple_tup, b_list_tup, b_list_ref, sl_tup, sl_ref, tr_tup, sizeLine_eq, Nat.reduceLeDiff, Int.reduceLT, Int.reduceLE, true_and, and_true, st_new0, st_newk, st_set0, st_setk, List.getElem?_cons_zero, List.getElem?_cons_succ, List.append_assoc, List.cons_append, List.nil_append, List.append_nil, List.length_append, List.length_cons, List.length_nil, Nat.zero_add, Nat.reduceAdd, List.set_cons_zero, List.set_cons_succ, stV, getV0, getVs, setV0, setVs, q_law_v2_f1]
    refine cl_of (law_made_v1_do h41 h43 hd2) ?_
    rintro v M3 ⟨x, f, k, ps, rfl, hx0, hx1, hk, hps, hpl, ev3⟩
    simp only [ss_nil, ss_cons, s_asgv, s_asgt, s_para, s_auga, s_exp, s_retE, s_retNon, s_if, s_while, s_fo, s_break, s_conti, s_ps, e_var, varK, e_int, e_bl, e_non, e_str, e_ty, e_bin, e_neg, e_cmp, e_chain, e_isN, e_notN, e_and, e_or, e_not, e_ite, e_call, e_callK, prm_some, e_bi, e_tup, e_lst, lstK, tupK, e_ix, e_sl, eo_none, eo_some, in_int, e_mt, e_bits, bt_int, ng_int, e_comp, e_gc, es_nil, es_cons, tg_var, tg_tup, tg_sub, tgs_nil, tgs_cons, it_list, it_tup, it_rng1, it_rng2, it_enum, src_tup, src_fro, src_rng, src_enum, op_add, op_sub, op_mul, op_fdiv, op_mod, op_pow, op_shl, op_shr, op_addt, cm_lt, cm_le, cm_gt, cm_ge, cm_eq, cm_ne, cm_eq_bl, cm_ne_bl, cm_eq_str, cm_ne_str, tr_bl, tr_int, tr_non, ch_bl, cond_dec, cond_not, cond_t, cond_f, cond_ne, au_add, au_sub, b_len_tup, b_int, b_int_bl, b_abs, b_max, b_min, at_some, x_tup, isi_non_int, isi_non_bool, isi_non_str, isi_non_tuple, isi_non_list, isi_non_dict, isi_bl_int, isi_bl_bool, isi_bl_str, isi_bl_tuple, isi_bl_list, isi_bl_dict, isi_int_int, isi_int_bool, isi_int_str, isi_int_tuple, isi_int_list, isi_int_dict, isi_str_int, isi_str_bool, isi_str_str, isi_str_tuple, isi_str_list, isi_str_dict, isi_tup_int, isi_tup_bool, isi_tup_str, isi_tup_tuple, isi_tup_list, isi_tup_dict, isi_fro_int, isi_fro_bool, isi_fro_str, isi_fro_tuple, isi_fro_list, isi_fro_dict, PV.isNon, eq_self, decide_true, Bool.not_true, Bool.not_false, sl_fro, gc_pure, cl_lst, cl_dK, cx_ref, cx_str, cop_add, cb_len, cl_q, cm_append, cm_pop, pop_snoc, cm_extend, csrc, ctg, ixs, gc_ref, gc_ref0, e_dnew, e_get1, e_get2, cl_d, gd_ref, gd_str, cm_isin, cm_notin, intsK, e_sset, ssetK, b_sorted, m_insert, cb_sum, b_tuple_ref, b_tuple_tup, b_list_tup, b_list_ref, sl_tup, sl_ref, tr_tup, sizeLine_eq, Nat.reduceLeDiff, Int.reduceLT, Int.reduceLE, true_and, and_true, st_new0, st_newk, st_set0, st_setk, List.getElem?_cons_zero, List.getElem?_cons_succ, List.append_assoc, List.cons_append, List.nil_append, List.append_nil, List.length_append, List.length_cons, List.length_nil, Nat.zero_add, Nat.reduceAdd, List.set_cons_zero, List.set_cons_succ, stV, getV0, getVs, setV0, setVs]
    refine cl_of (law_told_do h0 h5 h13 h38 h39 h44 hx0 (by omega) hk hps) ?_
    rintro v M4 ⟨rfl, rfl⟩
    simp only [ss_nil, ss_cons, s_asgv, s_asgt, s_para, s_auga, s_exp, s_retE, s_retNon, s_if, s_while, s_fo, s_break, s_conti, s_ps, e_var, varK, e_int, e_bl, e_non, e_str, e_ty, e_bin, e_neg, e_cmp, e_chain, e_isN, e_notN, e_and, e_or, e_not, e_ite, e_call, e_callK, prm_some, e_bi, e_tup, e_lst, lstK, tupK, e_ix, e_sl, eo_none, eo_some, in_int, e_mt, e_bits, bt_int, ng_int, e_comp, e_gc, es_nil, es_cons, tg_var, tg_tup, tg_sub, tgs_nil, tgs_cons, it_list, it_tup, it_rng1, it_rng2, it_enum, src_tup, src_fro, src_rng, src_enum, op_add, op_sub, op_mul, op_fdiv, op_mod, op_pow, op_shl, op_shr, op_addt, cm_lt, cm_le, cm_gt, cm_ge, cm_eq, cm_ne, cm_eq_bl, cm_ne_bl, cm_eq_str, cm_ne_str, tr_bl, tr_int, tr_non, ch_bl, cond_dec, cond_not, cond_t, cond_f, cond_ne, au_add, au_sub, b_len_tup, b_int, b_int_bl, b_abs, b_max, b_min, at_some, x_tup, isi_non_int, isi_non_bool, isi_non_str, isi_non_tuple, isi_non_list, isi_non_dict, isi_bl_int, isi_bl_bool, isi_bl_str, isi_bl_tuple, isi_bl_list, isi_bl_dict, isi_int_int, isi_int_bool, isi_int_str, isi_int_tuple, isi_int_list, isi_int_dict, isi_str_int, isi_str_bool, isi_str_str, isi_str_tuple, isi_str_list, isi_str_dict, isi_tup_int, isi_tup_bool, isi_tup_str, isi_tup_tuple, isi_tup_list, isi_tup_dict, isi_fro_int, isi_fro_bool, isi_fro_str, isi_fro_tuple, isi_fro_list, isi_fro_dict, PV.isNon, eq_self, decide_true, Bool.not_true, Bool.not_false, sl_fro, gc_pure, cl_lst, cl_dK, cx_ref, cx_str, cop_add, cb_len, cl_q, cm_append, cm_pop, pop_snoc, cm_extend, csrc, ctg, ixs, gc_ref, gc_ref0, e_dnew, e_get1, e_get2, cl_d, gd_ref, gd_str, cm_isin, cm_notin, intsK, e_sset, ssetK, b_sorted, m_insert, cb_sum, b_tuple_ref, b_tuple_tup, b_list_tup, b_list_ref, sl_tup, sl_ref, tr_tup, sizeLine_eq, Nat.reduceLeDiff, Int.reduceLT, Int.reduceLE, true_and, and_true, st_new0, st_newk, st_set0, st_setk, List.getElem?_cons_zero, List.getElem?_cons_succ, List.append_assoc, List.cons_append, List.nil_append, List.append_nil, List.length_append, List.length_cons, List.length_nil, Nat.zero_add, Nat.reduceAdd, List.set_cons_zero, List.set_cons_succ, stV, getV0, getVs, setV0, setVs]
    refine cl_of (law_draw_do h41 ev3.dice (by decide)) ?_
    rintro v M5 ⟨z, rfl, hz0, hz1, ev5⟩
    simp only [ss_nil, ss_cons, s_asgv, s_asgt, s_para, s_auga, s_exp, s_retE, s_retNon, s_if, s_while, s_fo, s_break, s_conti, s_ps, e_var, varK, e_int, e_bl, e_non, e_str, e_ty, e_bin, e_neg, e_cmp, e_chain, e_isN, e_notN, e_and, e_or, e_not, e_ite, e_call, e_callK, prm_some, e_bi, e_tup, e_lst, lstK, tupK, e_ix, e_sl, eo_none, eo_some, in_int, e_mt, e_bits, bt_int, ng_int, e_comp, e_gc, es_nil, es_cons, tg_var, tg_tup, tg_sub, tgs_nil, tgs_cons, it_list, it_tup, it_rng1, it_rng2, it_enum, src_tup, src_fro, src_rng, src_enum, op_add, op_sub, op_mul, op_fdiv, op_mod, op_pow, op_shl, op_shr, op_addt, cm_lt, cm_le, cm_gt, cm_ge, cm_eq, cm_ne, cm_eq_bl, cm_ne_bl, cm_eq_str, cm_ne_str, tr_bl, tr_int, tr_non, ch_bl, cond_dec, cond_not, cond_t, cond_f, cond_ne, au_add, au_sub, b_len_tup, b_int, b_int_bl, b_abs, b_max, b_min, at_some, x_tup, isi_non_int, isi_non_bool, isi_non_str, isi_non_tuple, isi_non_list, isi_non_dict, isi_bl_int, isi_bl_bool, isi_bl_str, isi_bl_tuple, isi_bl_list, isi_bl_dict, isi_int_int, isi_int_bool, isi_int_str, isi_int_tuple, isi_int_list, isi_int_dict, isi_str_int, isi_str_bool, isi_str_str, isi_str_tuple, isi_str_list, isi_str_dict, isi_tup_int, isi_tup_bool, isi_tup_str, isi_tup_tuple, isi_tup_list, isi_tup_dict, isi_fro_int, isi_fro_bool, isi_fro_str, isi_fro_tuple, isi_fro_list, isi_fro_dict, PV.isNon, eq_self, decide_true, Bool.not_true, Bool.not_false, sl_fro, gc_pure, cl_lst, cl_dK, cx_ref, cx_str, cop_add, cb_len, cl_q, cm_append, cm_pop, pop_snoc, cm_extend, csrc, ctg, ixs, gc_ref, gc_ref0, e_dnew, e_get1, e_get2, cl_d, gd_ref, gd_str, cm_isin, cm_notin, intsK, e_sset, ssetK, b_sorted, m_insert, cb_sum, b_tuple_ref, b_tuple_tup, b_list_tup, b_list_ref, sl_tup, sl_ref, tr_tup, sizeLine_eq, Nat.reduceLeDiff, Int.reduceLT, Int.reduceLE, true_and, and_true, st_new0, st_newk, st_set0, st_setk, List.getElem?_cons_zero, List.getElem?_cons_succ, List.append_assoc, List.cons_append, List.nil_append, List.append_nil, List.length_append, List.length_cons, List.length_nil, Nat.zero_add, Nat.reduceAdd, List.set_cons_zero, List.set_cons_succ, stV, getV0, getVs, setV0, setVs]
    obtain ⟨r, hr⟩ : ∃ r : Nat, (2 + z) = (r : Int) := ⟨(2 + z).toNat, by omega⟩
    rw [hr]
    have hr0 : 2 ≤ r ∧ r ≤ 41 := by omega
    have xs : ((x : Nat) : Int).natAbs < 2 ^ 30 := abs_nat (by omega)
    have rs : ((r : Nat) : Int).natAbs < 2 ^ 6 := abs_nat (by omega)
    have xrs : ((x : Int) * (r : Int)).natAbs < 2 ^ 36 := abs_mul xs rs
    have fs : ((f : Nat) : Int).natAbs < 2 ^ 30 := abs_nat (by have := (ker_bound hk).1; omega)
    refine ⟨cmul xs rs (by decide), cmul xrs rs (by decide), fun hle => ?_, fun _ => ⟨_, _, _, _, _, _, _, _, rfl, rfl, ev5.dice⟩⟩
    refine cl_of (law_divided_do (x := r) h42 (by omega) (by omega)) ?_
    rintro v M6 ⟨rfl, f2, k2, qs, rfl, _, hqs, _⟩
    have hql := isPs_len hqs (by omega)
    have hul : (ps ++ qs).length < 64 := by rw [List.length_append]; omega
    simp only [ss_nil, ss_cons, s_asgv, s_asgt, s_para, s_auga, s_exp, s_retE, s_retNon, s_if, s_while, s_fo, s_break, s_conti, s_ps, e_var, varK, e_int, e_bl, e_non, e_str, e_ty, e_bin, e_neg, e_cmp, e_chain, e_isN, e_notN, e_and, e_or, e_not, e_ite, e_call, e_callK, prm_some, e_bi, e_tup, e_lst, lstK, tupK, e_ix, e_sl, eo_none, eo_some, in_int, e_mt, e_bits, bt_int, ng_int, e_comp, e_gc, es_nil, es_cons, tg_var, tg_tup, tg_sub, tgs_nil, tgs_cons, it_list, it_tup, it_rng1, it_rng2, it_enum, src_tup, src_fro, src_rng, src_enum, op_add, op_sub, op_mul, op_fdiv, op_mod, op_pow, op_shl, op_shr, op_addt, cm_lt, cm_le, cm_gt, cm_ge, cm_eq, cm_ne, cm_eq_bl, cm_ne_bl, cm_eq_str, cm_ne_str, tr_bl, tr_int, tr_non, ch_bl, cond_dec, cond_not, cond_t, cond_f, cond_ne, au_add, au_sub, b_len_tup, b_int, b_int_bl, b_abs, b_max, b_min, at_some, x_tup, isi_non_int, isi_non_bool, isi_non_str, isi_non_tuple, isi_non_list, isi_non_dict, isi_bl_int, isi_bl_bool, isi_bl_str, isi_bl_tuple, isi_bl_list, isi_bl_dict, isi_int_int, isi_int_bool, isi_int_str, isi_int_tuple, isi_int_list, isi_int_dict, isi_str_int, isi_str_bool, isi_str_str, isi_str_tuple, isi_str_list, isi_str_dict, isi_tup_int, isi_tup_bool, isi_tup_str, isi_tup_tuple, isi_tup_list, isi_tup_dict, isi_fro_int, isi_fro_bool, isi_fro_str, isi_fro_tuple, isi_fro_list, isi_fro_dict, PV.isNon, eq_self, decide_true, Bool.not_true, Bool.not_false, sl_fro, gc_pure, cl_lst, cl_dK, cx_ref, cx_str, cop_add, cb_len, cl_q, cm_append, cm_pop, pop_snoc, cm_extend, csrc, ctg, ixs, gc_ref, gc_ref0, e_dnew, e_get1, e_get2, cl_d, gd_ref, gd_str, cm_isin, cm_notin, intsK, e_sset, ssetK, b_sorted, m_insert, cb_sum, b_tuple_ref, b_tuple_tup, b_list_tup, b_list_ref, sl_tup, sl_ref, tr_tup, sizeLine_eq, Nat.reduceLeDiff, Int.reduceLT, Int.reduceLE, true_and, and_true, st_new0, st_newk, st_set0, st_setk, List.getElem?_cons_zero, List.getElem?_cons_succ, List.append_assoc, List.cons_append, List.nil_append, List.append_nil, List.length_append, List.length_cons, List.length_nil, Nat.zero_add, Nat.reduceAdd, List.set_cons_zero, List.set_cons_succ, stV, getV0, getVs, setV0, setVs, at2, pV_len]
    rw [← pV_app, pV_ints]
    simp only [ss_nil, ss_cons, s_asgv, s_asgt, s_para, s_auga, s_exp, s_retE, s_retNon, s_if, s_while, s_fo, s_break, s_conti, s_ps, e_var, varK, e_int, e_bl, e_non, e_str, e_ty, e_bin, e_neg, e_cmp, e_chain, e_isN, e_notN, e_and, e_or, e_not, e_ite, e_call, e_callK, prm_some, e_bi, e_tup, e_lst, lstK, tupK, e_ix, e_sl, eo_none, eo_some, in_int, e_mt, e_bits, bt_int, ng_int, e_comp, e_gc, es_nil, es_cons, tg_var, tg_tup, tg_sub, tgs_nil, tgs_cons, it_list, it_tup, it_rng1, it_rng2, it_enum, src_tup, src_fro, src_rng, src_enum, op_add, op_sub, op_mul, op_fdiv, op_mod, op_pow, op_shl, op_shr, op_addt, cm_lt, cm_le, cm_gt, cm_ge, cm_eq, cm_ne, cm_eq_bl, cm_ne_bl, cm_eq_str, cm_ne_str, tr_bl, tr_int, tr_non, ch_bl, cond_dec, cond_not, cond_t, cond_f, cond_ne, au_add, au_sub, b_len_tup, b_int, b_int_bl, b_abs, b_max, b_min, at_some, x_tup, isi_non_int, isi_non_bool, isi_non_str, isi_non_tuple, isi_non_list, isi_non_dict, isi_bl_int, isi_bl_bool, isi_bl_str, isi_bl_tuple, isi_bl_list, isi_bl_dict, isi_int_int, isi_int_bool, isi_int_str, isi_int_tuple, isi_int_list, isi_int_dict, isi_str_int, isi_str_bool, isi_str_str, isi_str_tuple, isi_str_list, isi_str_dict, isi_tup_int, isi_tup_bool, isi_tup_str, isi_tup_tuple, isi_tup_list, isi_tup_dict, isi_fro_int, isi_fro_bool, isi_fro_str, isi_fro_tuple, isi_fro_list, isi_fro_dict, PV.isNon, eq_self, decide_true, Bool.not_true, Bool.not_false, sl_fro, gc_pure, cl_lst, cl_dK, cx_ref, cx_str, cop_add, cb_len, cl_q, cm_append, cm_pop, pop_snoc, cm_extend, csrc, ctg, ixs, gc_ref, gc_ref0, e_dnew, e_get1, e_get2, cl_d, gd_ref, gd_str, cm_isin, cm_notin, intsK, e_sset, ssetK, b_sorted, m_insert, cb_sum, b_tuple_ref, b_tuple_tup, b_list_tup, b_list_ref, sl_tup, sl_ref, tr_tup, sizeLine_eq, Nat.reduceLeDiff, Int.reduceLT, Int.reduceLE, true_and, and_true, st_new0, st_newk, st_set0, st_setk, List.getElem?_cons_zero, List.getElem?_cons_succ, List.append_assoc, List.cons_append, List.nil_append, List.append_nil, List.length_append, List.length_cons, List.length_nil, Nat.zero_add, Nat.reduceAdd, List.set_cons_zero, List.set_cons_succ, stV, getV0, getVs, setV0, setVs, List.length_map]
    rw [← uPs_pV]
    refine ⟨cmul xs rs (by decide), cmul xrs rs (by decide), cmul fs rs (by decide), by omega, by rw [List.length_append] at hul; exact hul, ?_⟩
    rw [gc_drop (by rw [PV.low]; exact plain_low.plains_low pV_plains)]
    simp only [ss_nil, ss_cons, s_asgv, s_asgt, s_para, s_auga, s_exp, s_retE, s_retNon, s_if, s_while, s_fo, s_break, s_conti, s_ps, e_var, varK, e_int, e_bl, e_non, e_str, e_ty, e_bin, e_neg, e_cmp, e_chain, e_isN, e_notN, e_and, e_or, e_not, e_ite, e_call, e_callK, prm_some, e_bi, e_tup, e_lst, lstK, tupK, e_ix, e_sl, eo_none, eo_some, in_int, e_mt, e_bits, bt_int, ng_int, e_comp, e_gc, es_nil, es_cons, tg_var, tg_tup, tg_sub, tgs_nil, tgs_cons, it_list, it_tup, it_rng1, it_rng2, it_enum, src_tup, src_fro, src_rng, src_enum, op_add, op_sub, op_mul, op_fdiv, op_mod, op_pow, op_shl, op_shr, op_addt, cm_lt, cm_le, cm_gt, cm_ge, cm_eq, cm_ne, cm_eq_bl, cm_ne_bl, cm_eq_str, cm_ne_str, tr_bl, tr_int, tr_non, ch_bl, cond_dec, cond_not, cond_t, cond_f, cond_ne, au_add, au_sub, b_len_tup, b_int, b_int_bl, b_abs, b_max, b_min, at_some, x_tup, isi_non_int, isi_non_bool, isi_non_str, isi_non_tuple, isi_non_list, isi_non_dict, isi_bl_int, isi_bl_bool, isi_bl_str, isi_bl_tuple, isi_bl_list, isi_bl_dict, isi_int_int, isi_int_bool, isi_int_str, isi_int_tuple, isi_int_list, isi_int_dict, isi_str_int, isi_str_bool, isi_str_str, isi_str_tuple, isi_str_list, isi_str_dict, isi_tup_int, isi_tup_bool, isi_tup_str, isi_tup_tuple, isi_tup_list, isi_tup_dict, isi_fro_int, isi_fro_bool, isi_fro_str, isi_fro_tuple, isi_fro_list, isi_fro_dict, PV.isNon, eq_self, decide_true, Bool.not_true, Bool.not_false, sl_fro, gc_pure, cl_lst, cl_dK, cx_ref, cx_str, cop_add, cb_len, cl_q, cm_append, cm_pop, pop_snoc, cm_extend, csrc, ctg, ixs, gc_ref, gc_ref0, e_dnew, e_get1, e_get2, cl_d, gd_ref, gd_str, cm_isin, cm_notin, intsK, e_sset, ssetK, b_sorted, m_insert, cb_sum, b_tuple_ref, b_tuple_tup, b_list_tup, b_list_ref, sl_tup, sl_ref, tr_tup, sizeLine_eq, Nat.reduceLeDiff, Int.reduceLT, Int.reduceLE, true_and, and_true, st_new0, st_newk, st_set0, st_setk, List.getElem?_cons_zero, List.getElem?_cons_succ, List.append_assoc, List.cons_append, List.nil_append, List.append_nil, List.length_append, List.length_cons, List.length_nil, Nat.zero_add, Nat.reduceAdd, List.set_cons_zero, List.set_cons_succ, stV, getV0, getVs, setV0, setVs]
    have e1 : (x : Int) * (r : Int) * (r : Int) = ((x * r * r : Nat) : Int) := rfl
    have e2 : (f : Int) * (r : Int) = ((f * r : Nat) : Int) := rfl
    have hle2 : x * r * r ≤ 1000000000 := by rw [e1] at hle; omega
    rw [e1, e2]
    refine cl_of (law_told_do h0 h5 h13 h38 h39 h44 (Nat.mul_pos (Nat.mul_pos hx0 (by omega)) (by omega)) (by omega) (ker_mul hk (by omega)) (primes_mul hps hqs uPs_up (fun n => by rw [uPs_mem, List.mem_append]))) ?_
    rintro v M7 ⟨rfl, rfl⟩
    simp only [ss_nil, ss_cons, s_asgv, s_asgt, s_para, s_auga, s_exp, s_retE, s_retNon, s_if, s_while, s_fo, s_break, s_conti, s_ps, e_var, varK, e_int, e_bl, e_non, e_str, e_ty, e_bin, e_neg, e_cmp, e_chain, e_isN, e_notN, e_and, e_or, e_not, e_ite, e_call, e_callK, prm_some, e_bi, e_tup, e_lst, lstK, tupK, e_ix, e_sl, eo_none, eo_some, in_int, e_mt, e_bits, bt_int, ng_int, e_comp, e_gc, es_nil, es_cons, tg_var, tg_tup, tg_sub, tgs_nil, tgs_cons, it_list, it_tup, it_rng1, it_rng2, it_enum, src_tup, src_fro, src_rng, src_enum, op_add, op_sub, op_mul, op_fdiv, op_mod, op_pow, op_shl, op_shr, op_addt, cm_lt, cm_le, cm_gt, cm_ge, cm_eq, cm_ne, cm_eq_bl, cm_ne_bl, cm_eq_str, cm_ne_str, tr_bl, tr_int, tr_non, ch_bl, cond_dec, cond_not, cond_t, cond_f, cond_ne, au_add, au_sub, b_len_tup, b_int, b_int_bl, b_abs, b_max, b_min, at_some, x_tup, isi_non_int, isi_non_bool, isi_non_str, isi_non_tuple, isi_non_list, isi_non_dict, isi_bl_int, isi_bl_bool, isi_bl_str, isi_bl_tuple, isi_bl_list, isi_bl_dict, isi_int_int, isi_int_bool, isi_int_str, isi_int_tuple, isi_int_list, isi_int_dict, isi_str_int, isi_str_bool, isi_str_str, isi_str_tuple, isi_str_list, isi_str_dict, isi_tup_int, isi_tup_bool, isi_tup_str, isi_tup_tuple, isi_tup_list, isi_tup_dict, isi_fro_int, isi_fro_bool, isi_fro_str, isi_fro_tuple, isi_fro_list, isi_fro_dict, PV.isNon, eq_self, decide_true, Bool.not_true, Bool.not_false, sl_fro, gc_pure, cl_lst, cl_dK, cx_ref, cx_str, cop_add, cb_len, cl_q, cm_append, cm_pop, pop_snoc, cm_extend, csrc, ctg, ixs, gc_ref, gc_ref0, e_dnew, e_get1, e_get2, cl_d, gd_ref, gd_str, cm_isin, cm_notin, intsK, e_sset, ssetK, b_sorted, m_insert, cb_sum, b_tuple_ref, b_tuple_tup, b_list_tup, b_list_ref, sl_tup, sl_ref, tr_tup, sizeLine_eq, Nat.reduceLeDiff, Int.reduceLT, Int.reduceLE, true_and, and_true, st_new0, st_newk, st_set0, st_setk, List.getElem?_cons_zero, List.getElem?_cons_succ, List.append_assoc, List.cons_append, List.nil_append, List.append_nil, List.length_append, List.length_cons, List.length_nil, Nat.zero_add, Nat.reduceAdd, List.set_cons_zero, List.set_cons_succ, stV, getV0, getVs, setV0, setVs]
    exact ⟨_, _, _, _, _, _, _, _, rfl, rfl, ev5.dice⟩
  · rintro e M' ⟨M2, o2, o3, o4, o5, o6, o7, o8, rfl, eM, hd2⟩
    cases eM
    simp only [ss_nil, ss_cons, s_asgv, s_asgt, s_para, s_auga, s_exp, s_retE, s_retNon, s_if, s_while, s_fo, s_break, s_conti, s_ps, e_var, varK, e_int, e_bl, e_non, e_str, e_ty, e_bin, e_neg, e_cmp, e_chain, e_isN, e_notN, e_and, e_or, e_not, e_ite, e_call, e_callK, prm_some, e_bi, e_tup, e_lst, lstK, tupK, e_ix, e_sl, eo_none, eo_some, in_int, e_mt, e_bits, bt_int, ng_int, e_comp, e_gc, es_nil, es_cons, tg_var, tg_tup, tg_sub, tgs_nil, tgs_cons, it_list, it_tup, it_rng1, it_rng2, it_enum, src_tup, src_fro, src_rng, src_enum, op_add, op_sub, op_mul, op_fdiv, op_mod, op_pow, op_shl, op_shr, op_addt, cm_lt, cm_le, cm_gt, cm_ge, cm_eq, cm_ne, cm_eq_bl, cm_ne_bl, cm_eq_str, cm_ne_str, tr_bl, tr_int, tr_non, ch_bl, cond_dec, cond_not, cond_t, cond_f, cond_ne, au_add, au_sub, b_len_tup, b_int, b_int_bl, b_abs, b_max, b_min, at_some, x_tup, isi_non_int, isi_non_bool, isi_non_str, isi_non_tuple, isi_non_list, isi_non_dict, isi_bl_int, isi_bl_bool, isi_bl_str, isi_bl_tuple, isi_bl_list, isi_bl_dict, isi_int_int, isi_int_bool, isi_int_str, isi_int_tuple, isi_int_list, isi_int_dict, isi_str_int, isi_str_bool, isi_str_str, isi_str_tuple, isi_str_list, isi_str_dict, isi_tup_int, isi_tup_bool, isi_tup_str, isi_tup_tuple, isi_tup_list, isi_tup_dict, isi_fro_int, isi_fro_bool, isi_fro_str, isi_fro_tuple, isi_fro_list, isi_fro_dict, PV.isNon, eq_self, decide_true, Bool.not_true, Bool.not_false, sl_fro, gc_pure, cl_lst, cl_dK, cx_ref, cx_str, cop_add, cb_len, cl_q, cm_append, cm_pop, pop_snoc, cm_extend, csrc, ctg, ixs, gc_ref, gc_ref0, e_dnew, e_get1, e_get2, cl_d, gd_ref, gd_str, cm_isin, cm_notin, intsK, e_sset, ssetK, b_sorted, m_insert, cb_sum, b_tuple_ref, b_tuple_tup, b_list_tup, b_list_ref, sl_tup, sl_ref, tr_tup, sizeLine_eq, Nat.reduceLeDiff, Int.reduceLT, Int.reduceLE, true_and, and_true, st_new0, st_newk, st_set0, st_setk, List.getElem?_cons_zero, List.getElem?_cons_succ, List.append_assoc, List.cons_append, List.nil_append, List.append_nil, List.length_append, List.length_cons, List.length_nil, Nat.zero_add, Nat.reduceAdd, List.set_cons_zero, List.set_cons_succ, stV, getV0, getVs, setV0, setVs]
    refine cl_of (law_draw_do h41 (hd2.app _) (by decide)) ?_
    rintro v M3' ⟨i, rfl, hi0, hi1, ev3'⟩
    obtain ⟨M3, rfl, ev3⟩ := ev3'.split hd2
    clear ev3'
    obtain ⟨z, hz, hzp⟩ := ints_get (xs := [.int 9973, .int 31607, .int 31601, .int 10007]) (zs := [9973, 31607, 31601, 10007]) (P := fun z => isPB z = true) rfl (List.all_eq_true.mp (show ([9973, 31607, 31601, 10007] : List Int).all isPB = true by decide +kernel)) hi0 hi1
    obtain ⟨p, rfl, hp, hpb⟩ := isPB_of hzp
    simp only [ss_nil, ss_cons, s_asgv, s_asgt, s_para, s_auga, s_exp, s_retE, s_retNon, s_if, s_while, s_fo, s_break, s_conti, s_ps, e_var, varK, e_int, e_bl, e_non, e_str, e_ty, e_bin, e_neg, e_cmp, e_chain, e_isN, e_notN, e_and, e_or, e_not, e_ite, e_call, e_callK, prm_some, e_bi, e_tup, e_lst, lstK, tupK, e_ix, e_sl, eo_none, eo_some, in_int, e_mt, e_bits, bt_int, ng_int, e_comp, e_gc, es_nil, es_cons, tg_var, tg_tup, tg_sub, tgs_nil, tgs_cons, it_list, it_tup, it_rng1, it_rng2, it_enum, src_tup, src_fro, src_rng, src_enum, op_add, op_sub, op_mul, op_fdiv, op_mod, op_pow, op_shl, op_shr, op_addt, cm_lt, cm_le, cm_gt, cm_ge, cm_eq, cm_ne, cm_eq_bl, cm_ne_bl, cm_eq_str, cm_ne_str, tr_bl, tr_int, tr_non, ch_bl, cond_dec, cond_not, cond_t, cond_f, cond_ne, au_add, au_sub, b_len_tup, b_int, b_int_bl, b_abs, b_max, b_min, at_some, x_tup, isi_non_int, isi_non_bool, isi_non_str, isi_non_tuple, isi_non_list, isi_non_dict, isi_bl_int, isi_bl_bool, isi_bl_str, isi_bl_tuple, isi_bl_list, isi_bl_dict, isi_int_int, isi_int_bool, isi_int_str, isi_int_tuple, isi_int_list, isi_int_dict, isi_str_int, isi_str_bool, isi_str_str, isi_str_tuple, isi_str_list, isi_str_dict, isi_tup_int, isi_tup_bool, isi_tup_str, isi_tup_tuple, isi_tup_list, isi_tup_dict, isi_fro_int, isi_fro_bool, isi_fro_str, isi_fro_tuple, isi_fro_list, isi_fro_dict, PV.isNon, eq_self, decide_true, Bool.not_true, Bool.not_false, sl_fro, gc_pure, cl_lst, cl_dK, cx_ref, cx_str, cop_add, cb_len, cl_q, cm_append, cm_pop, pop_snoc, cm_extend, csrc, ctg, ixs, gc_ref, gc_ref0, e_dnew, e_get1, e_get2, cl_d, gd_ref, gd_str, cm_isin, cm_notin, intsK, e_sset, ssetK, b_sorted, m_insert, cb_sum, b_tuple_ref, b_tuple_tup, b_list_tup, b_list_ref, sl_tup, sl_ref, tr_tup, sizeLine_eq, Nat.reduceLeDiff, Int.reduceLT, Int.reduceLE, true_and, and_true, st_new0, st_newk, st_set0, st_setk, List.getElem?_cons_zero, List.getElem?_cons_succ, List.append_assoc, List.cons_append, List.nil_append, List.append_nil, List.length_append, List.length_cons, List.length_nil, Nat.zero_add, Nat.reduceAdd, List.set_cons_zero, List.set_cons_succ, stV, getV0, getVs, setV0, setVs, new_at ev3.len, hz]
    rw [ev3.gc low_int]
    simp only [ss_nil, ss_cons, s_asgv, s_asgt, s_para, s_auga, s_exp, s_retE, s_retNon, s_if, s_while, s_fo, s_break, s_conti, s_ps, e_var, varK, e_int, e_bl, e_non, e_str, e_ty, e_bin, e_neg, e_cmp, e_chain, e_isN, e_notN, e_and, e_or, e_not, e_ite, e_call, e_callK, prm_some, e_bi, e_tup, e_lst, lstK, tupK, e_ix, e_sl, eo_none, eo_some, in_int, e_mt, e_bits, bt_int, ng_int, e_comp, e_gc, es_nil, es_cons, tg_var, tg_tup, tg_sub, tgs_nil, tgs_cons, it_list, it_tup, it_rng1, it_rng2, it_enum, src_tup, src_fro, src_rng, src_enum, op_add, op_sub, op_mul, op_fdiv, op_mod, op_pow, op_shl, op_shr, op_addt, cm_lt, cm_le, cm_gt, cm_ge, cm_eq, cm_ne, cm_eq_bl, cm_ne_bl, cm_eq_str, cm_ne_str, tr_bl, tr_int, tr_non, ch_bl, cond_dec, cond_not, cond_t, cond_f, cond_ne, au_add, au_sub, b_len_tup, b_int, b_int_bl, b_abs, b_max, b_min, at_some, x_tup, isi_non_int, isi_non_bool, isi_non_str, isi_non_tuple, isi_non_list, isi_non_dict, isi_bl_int, isi_bl_bool, isi_bl_str, isi_bl_tuple, isi_bl_list, isi_bl_dict, isi_int_int, isi_int_bool, isi_int_str, isi_int_tuple, isi_int_list, isi_int_dict, isi_str_int, isi_str_bool, isi_str_str, isi_str_tuple, isi_str_list, isi_str_dict, isi_tup_int, isi_tup_bool, isi_tup_str, isi_tup_tuple, isi_tup_list, isi_tup_dict, isi_fro_int, isi_fro_bool, isi_fro_str, isi_fro_tuple, isi_fro_list, isi_fro_dict, PV.isNon, eq_self, decide_true, Bool.not_true, Bool.not_false, sl_fro, gc_pure, cl_lst, cl_dK, cx_ref, cx_str, cop_add, cb_len, cl_q, cm_append, cm_pop, pop_snoc, cm_extend, csrc, ctg, ixs, gc_ref, gc_ref0, e_dnew, e_get1, e_get2, cl_d, gd_ref, gd_str, cm_isin, cm_notin, intsK, e_sset, ssetK, b_sorted, m_insert, cb_sum, b_tuple_ref, b_tuple_tup, b_list_tup, b_list_ref, sl_tup, sl_ref, tr_tup, sizeLine_eq, Nat.reduceLeDiff, Int.reduceLT, Int.reduceLE, true_and, and_true, st_new0, st_newk, st_set0, st_setk, List.getElem?_cons_zero, List.getElem?_cons_succ, List.append_assoc, List.cons_append, List.nil_append, List.append_nil, List.length_append, List.length_cons, List.length_nil, Nat.zero_add, Nat.reduceAdd, List.set_cons_zero, List.set_cons_succ, stV, getV0, getVs, setV0, setVs]
    refine cl_of (law_draw_do h41 (ev3.dice.app _) (by decide)) ?_
    rintro v M4' ⟨j, rfl, hj0, hj1, ev4'⟩
    obtain ⟨M4, rfl, ev4⟩ := ev4'.split ev3.dice
    clear ev4'
    obtain ⟨w, hw, hwp⟩ := ints_get (xs := [.int 31607, .int 9967, .int 31583, .int 2]) (zs := [31607, 9967, 31583, 2]) (P := fun z => isPB z = true) rfl (List.all_eq_true.mp (show ([31607, 9967, 31583, 2] : List Int).all isPB = true by decide +kernel)) hj0 hj1
    obtain ⟨q, rfl, hq, hqb⟩ := isPB_of hwp
    simp only [ss_nil, ss_cons, s_asgv, s_asgt, s_para, s_auga, s_exp, s_retE, s_retNon, s_if, s_while, s_fo, s_break, s_conti, s_ps, e_var, varK, e_int, e_bl, e_non, e_str, e_ty, e_bin, e_neg, e_cmp, e_chain, e_isN, e_notN, e_and, e_or, e_not, e_ite, e_call, e_callK, prm_some, e_bi, e_tup, e_lst, lstK, tupK, e_ix, e_sl, eo_none, eo_some, in_int, e_mt, e_bits, bt_int, ng_int, e_comp, e_gc, es_nil, es_cons, tg_var, tg_tup, tg_sub, tgs_nil, tgs_cons, it_list, it_tup, it_rng1, it_rng2, it_enum, src_tup, src_fro, src_rng, src_enum, op_add, op_sub, op_mul, op_fdiv, op_mod, op_pow, op_shl, op_shr, op_addt, cm_lt, cm_le, cm_gt, cm_ge, cm_eq, cm_ne, cm_eq_bl, cm_ne_bl, cm_eq_str, cm_ne_str, tr_bl, tr_int, tr_non, ch_bl, cond_dec, cond_not, cond_t, cond_f, cond_ne, au_add, au_sub, b_len_tup, b_int, b_int_bl, b_abs, b_max, b_min, at_some, x_tup, isi_non_int, isi_non_bool, isi_non_str, isi_non_tuple, isi_non_list, isi_non_dict, isi_bl_int, isi_bl_bool, isi_bl_str, isi_bl_tuple, isi_bl_list, isi_bl_dict, isi_int_int, isi_int_bool, isi_int_str, isi_int_tuple, isi_int_list, isi_int_dict, isi_str_int, isi_str_bool, isi_str_str, isi_str_tuple, isi_str_list, isi_str_dict, isi_tup_int, isi_tup_bool, isi_tup_str, isi_tup_tuple, isi_tup_list, isi_tup_dict, isi_fro_int, isi_fro_bool, isi_fro_str, isi_fro_tuple, isi_fro_list, isi_fro_dict, PV.isNon, eq_self, decide_true, Bool.not_true, Bool.not_false, sl_fro, gc_pure, cl_lst, cl_dK, cx_ref, cx_str, cop_add, cb_len, cl_q, cm_append, cm_pop, pop_snoc, cm_extend, csrc, ctg, ixs, gc_ref, gc_ref0, e_dnew, e_get1, e_get2, cl_d, gd_ref, gd_str, cm_isin, cm_notin, intsK, e_sset, ssetK, b_sorted, m_insert, cb_sum, b_tuple_ref, b_tuple_tup, b_list_tup, b_list_ref, sl_tup, sl_ref, tr_tup, sizeLine_eq, Nat.reduceLeDiff, Int.reduceLT, Int.reduceLE, true_and, and_true, st_new0, st_newk, st_set0, st_setk, List.getElem?_cons_zero, List.getElem?_cons_succ, List.append_assoc, List.cons_append, List.nil_append, List.append_nil, List.length_append, List.length_cons, List.length_nil, Nat.zero_add, Nat.reduceAdd, List.set_cons_zero, List.set_cons_succ, stV, getV0, getVs, setV0, setVs, new_at ev4.len, hw]
    rw [ev4.gc low_int]
    simp only [ss_nil, ss_cons, s_asgv, s_asgt, s_para, s_auga, s_exp, s_retE, s_retNon, s_if, s_while, s_fo, s_break, s_conti, s_ps, e_var, varK, e_int, e_bl, e_non, e_str, e_ty, e_bin, e_neg, e_cmp, e_chain, e_isN, e_notN, e_and, e_or, e_not, e_ite, e_call, e_callK, prm_some, e_bi, e_tup, e_lst, lstK, tupK, e_ix, e_sl, eo_none, eo_some, in_int, e_mt, e_bits, bt_int, ng_int, e_comp, e_gc, es_nil, es_cons, tg_var, tg_tup, tg_sub, tgs_nil, tgs_cons, it_list, it_tup, it_rng1, it_rng2, it_enum, src_tup, src_fro, src_rng, src_enum, op_add, op_sub, op_mul, op_fdiv, op_mod, op_pow, op_shl, op_shr, op_addt, cm_lt, cm_le, cm_gt, cm_ge, cm_eq, cm_ne, cm_eq_bl, cm_ne_bl, cm_eq_str, cm_ne_str, tr_bl, tr_int, tr_non, ch_bl, cond_dec, cond_not, cond_t, cond_f, cond_ne, au_add, au_sub, b_len_tup, b_int, b_int_bl, b_abs, b_max, b_min, at_some, x_tup, isi_non_int, isi_non_bool, isi_non_str, isi_non_tuple, isi_non_list, isi_non_dict, isi_bl_int, isi_bl_bool, isi_bl_str, isi_bl_tuple, isi_bl_list, isi_bl_dict, isi_int_int, isi_int_bool, isi_int_str, isi_int_tuple, isi_int_list, isi_int_dict, isi_str_int, isi_str_bool, isi_str_str, isi_str_tuple, isi_str_list, isi_str_dict, isi_tup_int, isi_tup_bool, isi_tup_str, isi_tup_tuple, isi_tup_list, isi_tup_dict, isi_fro_int, isi_fro_bool, isi_fro_str, isi_fro_tuple, isi_fro_list, isi_fro_dict, PV.isNon, eq_self, decide_true, Bool.not_true, Bool.not_false, sl_fro, gc_pure, cl_lst, cl_dK, cx_ref, cx_str, cop_add, cb_len, cl_q, cm_append, cm_pop, pop_snoc, cm_extend, csrc, ctg, ixs, gc_ref, gc_ref0, e_dnew, e_get1, e_get2, cl_d, gd_ref, gd_str, cm_isin, cm_notin, intsK, e_sset, ssetK, b_sorted, m_insert, cb_sum, b_tuple_ref, b_tuple_tup, b_list_tup, b_list_ref, sl_tup, sl_ref, tr_tup, sizeLine_eq, Nat.reduceLeDiff, Int.reduceLT, Int.reduceLE, true_and, and_true, st_new0, st_newk, st_set0, st_setk, List.getElem?_cons_zero, List.getElem?_cons_succ, List.append_assoc, List.cons_append, List.nil_append, List.append_nil, List.length_append, List.length_cons, List.length_nil, Nat.zero_add, Nat.reduceAdd, List.set_cons_zero, List.set_cons_succ, stV, getV0, getVs, setV0, setVs]
    have ps' : ((p : Nat) : Int).natAbs < 2 ^ 21 := abs_nat (by omega)
    have qs' : ((q : Nat) : Int).natAbs < 2 ^ 21 := abs_nat (by omega)
    have epq : (p : Int) * (q : Int) = ((p * q : Nat) : Int) := rfl
    have hpq : p * q < 2 ^ 60 := by
      have := Nat.mul_le_mul (show p ≤ 1100000 by omega) (show q ≤ 1100000 by omega)
      omega
    have hpq0 : 0 < p * q := Nat.mul_pos (isP_pos hp) (isP_pos hq)
    clear hzp hwp hz hw hi0 hi1 hj0 hj1 hd2 ev3
    refine ⟨fun h => ⟨cmul ps' qs' (by decide), ?_⟩, fun h => ⟨cmul ps' qs' (by decide), ?_⟩⟩
    · obtain rfl : p = q := by omega
      rw [epq]
      refine cl_of (law_told_do (ps := [p]) (k := 1) h0 h5 h13 h38 h39 h44 hpq0 hpq (ker_sq (isP_pos hp)) (ps_sq hp)) ?_
      rintro v M5 ⟨rfl, rfl⟩
      simp only [ss_nil, ss_cons, s_asgv, s_asgt, s_para, s_auga, s_exp, s_retE, s_retNon, s_if, s_while, s_fo, s_break, s_conti, s_ps, e_var, varK, e_int, e_bl, e_non, e_str, e_ty, e_bin, e_neg, e_cmp, e_chain, e_isN, e_notN, e_and, e_or, e_not, e_ite, e_call, e_callK, prm_some, e_bi, e_tup, e_lst, lstK, tupK, e_ix, e_sl, eo_none, eo_some, in_int, e_mt, e_bits, bt_int, ng_int, e_comp, e_gc, es_nil, es_cons, tg_var, tg_tup, tg_sub, tgs_nil, tgs_cons, it_list, it_tup, it_rng1, it_rng2, it_enum, src_tup, src_fro, src_rng, src_enum, op_add, op_sub, op_mul, op_fdiv, op_mod, op_pow, op_shl, op_shr, op_addt, cm_lt, cm_le, cm_gt, cm_ge, cm_eq, cm_ne, cm_eq_bl, cm_ne_bl, cm_eq_str, cm_ne_str, tr_bl, tr_int, tr_non, ch_bl, cond_dec, cond_not, cond_t, cond_f, cond_ne, au_add, au_sub, b_len_tup, b_int, b_int_bl, b_abs, b_max, b_min, at_some, x_tup, isi_non_int, isi_non_bool, isi_non_str, isi_non_tuple, isi_non_list, isi_non_dict, isi_bl_int, isi_bl_bool, isi_bl_str, isi_bl_tuple, isi_bl_list, isi_bl_dict, isi_int_int, isi_int_bool, isi_int_str, isi_int_tuple, isi_int_list, isi_int_dict, isi_str_int, isi_str_bool, isi_str_str, isi_str_tuple, isi_str_list, isi_str_dict, isi_tup_int, isi_tup_bool, isi_tup_str, isi_tup_tuple, isi_tup_list, isi_tup_dict, isi_fro_int, isi_fro_bool, isi_fro_str, isi_fro_tuple, isi_fro_list, isi_fro_dict, PV.isNon, eq_self, decide_true, Bool.not_true, Bool.not_false, sl_fro, gc_pure, cl_lst, cl_dK, cx_ref, cx_str, cop_add, cb_len, cl_q, cm_append, cm_pop, pop_snoc, cm_extend, csrc, ctg, ixs, gc_ref, gc_ref0, e_dnew, e_get1, e_get2, cl_d, gd_ref, gd_str, cm_isin, cm_notin, intsK, e_sset, ssetK, b_sorted, m_insert, cb_sum, b_tuple_ref, b_tuple_tup, b_list_tup, b_list_ref, sl_tup, sl_ref, tr_tup, sizeLine_eq, Nat.reduceLeDiff, Int.reduceLT, Int.reduceLE, true_and, and_true, st_new0, st_newk, st_set0, st_setk, List.getElem?_cons_zero, List.getElem?_cons_succ, List.append_assoc, List.cons_append, List.nil_append, List.append_nil, List.length_append, List.length_cons, List.length_nil, Nat.zero_add, Nat.reduceAdd, List.set_cons_zero, List.set_cons_succ, stV, getV0, getVs, setV0, setVs]
      refine cl_of (law_draw_do h41 ev4.dice (by decide)) ?_
      rintro v M6 ⟨a, rfl, ha0, ha1, ev6⟩
      simp only [ss_nil, ss_cons, s_asgv, s_asgt, s_para, s_auga, s_exp, s_retE, s_retNon, s_if, s_while, s_fo, s_break, s_conti, s_ps, e_var, varK, e_int, e_bl, e_non, e_str, e_ty, e_bin, e_neg, e_cmp, e_chain, e_isN, e_notN, e_and, e_or, e_not, e_ite, e_call, e_callK, prm_some, e_bi, e_tup, e_lst, lstK, tupK, e_ix, e_sl, eo_none, eo_some, in_int, e_mt, e_bits, bt_int, ng_int, e_comp, e_gc, es_nil, es_cons, tg_var, tg_tup, tg_sub, tgs_nil, tgs_cons, it_list, it_tup, it_rng1, it_rng2, it_enum, src_tup, src_fro, src_rng, src_enum, op_add, op_sub, op_mul, op_fdiv, op_mod, op_pow, op_shl, op_shr, op_addt, cm_lt, cm_le, cm_gt, cm_ge, cm_eq, cm_ne, cm_eq_bl, cm_ne_bl, cm_eq_str, cm_ne_str, tr_bl, tr_int, tr_non, ch_bl, cond_dec, cond_not, cond_t, cond_f, cond_ne, au_add, au_sub, b_len_tup, b_int, b_int_bl, b_abs, b_max, b_min, at_some, x_tup, isi_non_int, isi_non_bool, isi_non_str, isi_non_tuple, isi_non_list, isi_non_dict, isi_bl_int, isi_bl_bool, isi_bl_str, isi_bl_tuple, isi_bl_list, isi_bl_dict, isi_int_int, isi_int_bool, isi_int_str, isi_int_tuple, isi_int_list, isi_int_dict, isi_str_int, isi_str_bool, isi_str_str, isi_str_tuple, isi_str_list, isi_str_dict, isi_tup_int, isi_tup_bool, isi_tup_str, isi_tup_tuple, isi_tup_list, isi_tup_dict, isi_fro_int, isi_fro_bool, isi_fro_str, isi_fro_tuple, isi_fro_list, isi_fro_dict, PV.isNon, eq_self, decide_true, Bool.not_true, Bool.not_false, sl_fro, gc_pure, cl_lst, cl_dK, cx_ref, cx_str, cop_add, cb_len, cl_q, cm_append, cm_pop, pop_snoc, cm_extend, csrc, ctg, ixs, gc_ref, gc_ref0, e_dnew, e_get1, e_get2, cl_d, gd_ref, gd_str, cm_isin, cm_notin, intsK, e_sset, ssetK, b_sorted, m_insert, cb_sum, b_tuple_ref, b_tuple_tup, b_list_tup, b_list_ref, sl_tup, sl_ref, tr_tup, sizeLine_eq, Nat.reduceLeDiff, Int.reduceLT, Int.reduceLE, true_and, and_true, st_new0, st_newk, st_set0, st_setk, List.getElem?_cons_zero, List.getElem?_cons_succ, List.append_assoc, List.cons_append, List.nil_append, List.append_nil, List.length_append, List.length_cons, List.length_nil, Nat.zero_add, Nat.reduceAdd, List.set_cons_zero, List.set_cons_succ, stV, getV0, getVs, setV0, setVs]
      refine cl_of (law_draw_do h41 ev6.dice (by decide)) ?_
      rintro v M7 ⟨b, rfl, hb0, hb1, ev7⟩
      simp only [ss_nil, ss_cons, s_asgv, s_asgt, s_para, s_auga, s_exp, s_retE, s_retNon, s_if, s_while, s_fo, s_break, s_conti, s_ps, e_var, varK, e_int, e_bl, e_non, e_str, e_ty, e_bin, e_neg, e_cmp, e_chain, e_isN, e_notN, e_and, e_or, e_not, e_ite, e_call, e_callK, prm_some, e_bi, e_tup, e_lst, lstK, tupK, e_ix, e_sl, eo_none, eo_some, in_int, e_mt, e_bits, bt_int, ng_int, e_comp, e_gc, es_nil, es_cons, tg_var, tg_tup, tg_sub, tgs_nil, tgs_cons, it_list, it_tup, it_rng1, it_rng2, it_enum, src_tup, src_fro, src_rng, src_enum, op_add, op_sub, op_mul, op_fdiv, op_mod, op_pow, op_shl, op_shr, op_addt, cm_lt, cm_le, cm_gt, cm_ge, cm_eq, cm_ne, cm_eq_bl, cm_ne_bl, cm_eq_str, cm_ne_str, tr_bl, tr_int, tr_non, ch_bl, cond_dec, cond_not, cond_t, cond_f, cond_ne, au_add, au_sub, b_len_tup, b_int, b_int_bl, b_abs, b_max, b_min, at_some, x_tup, isi_non_int, isi_non_bool, isi_non_str, isi_non_tuple, isi_non_list, isi_non_dict, isi_bl_int, isi_bl_bool, isi_bl_str, isi_bl_tuple, isi_bl_list, isi_bl_dict, isi_int_int, isi_int_bool, isi_int_str, isi_int_tuple, isi_int_list, isi_int_dict, isi_str_int, isi_str_bool, isi_str_str, isi_str_tuple, isi_str_list, isi_str_dict, isi_tup_int, isi_tup_bool, isi_tup_str, isi_tup_tuple, isi_tup_list, isi_tup_dict, isi_fro_int, isi_fro_bool, isi_fro_str, isi_fro_tuple, isi_fro_list, isi_fro_dict, PV.isNon, eq_self, decide_true, Bool.not_true, Bool.not_false, sl_fro, gc_pure, cl_lst, cl_dK, cx_ref, cx_str, cop_add, cb_len, cl_q, cm_append, cm_pop, pop_snoc, cm_extend, csrc, ctg, ixs, gc_ref, gc_ref0, e_dnew, e_get1, e_get2, cl_d, gd_ref, gd_str, cm_isin, cm_notin, intsK, e_sset, ssetK, b_sorted, m_insert, cb_sum, b_tuple_ref, b_tuple_tup, b_list_tup, b_list_ref, sl_tup, sl_ref, tr_tup, sizeLine_eq, Nat.reduceLeDiff, Int.reduceLT, Int.reduceLE, true_and, and_true, st_new0, st_newk, st_set0, st_setk, List.getElem?_cons_zero, List.getElem?_cons_succ, List.append_assoc, List.cons_append, List.nil_append, List.append_nil, List.length_append, List.length_cons, List.length_nil, Nat.zero_add, Nat.reduceAdd, List.set_cons_zero, List.set_cons_succ, stV, getV0, getVs, setV0, setVs]
      refine fo_rule (fun i e B => ∃ (o3 : Option PV), e = [some (.fro ns), some (.ref 2), o2, o3, o4, o5, o6, o7, o8, some (.int (p : Int)), some (.int (p : Int)), some (.tup [.int (p : Int), .int 1, .tup [.int (p : Int)]]), none] ∧ B = ⟨M7⟩) ⟨o3, rfl, rfl⟩ (fun _ _ _ _ _ => rfl) ?_ ?_
      · rintro i x e M' hx ⟨o3, rfl, eM⟩
        cases eM
        have hxx : ∃ y : Nat, x = .int (y : Int) ∧ 0 < y ∧ y < 2 ^ 60 := by
          have hm := List.mem_of_getElem? hx
          simp only [List.mem_cons, List.not_mem_nil, or_false] at hm
          rcases hm with rfl | rfl
          · exact ⟨(1 + a).toNat, by congr 1; omega, by omega, by omega⟩
          · exact ⟨(1 + b).toNat, by congr 1; omega, by omega, by omega⟩
        obtain ⟨y, rfl, hy0, hy1⟩ := hxx
        simp only [ss_nil, ss_cons, s_asgv, s_asgt, s_para, s_auga, s_exp, s_retE, s_retNon, s_if, s_while, s_fo, s_break, s_conti, s_ps, e_var, varK, e_int, e_bl, e_non, e_str, e_ty, e_bin, e_neg, e_cmp, e_chain, e_isN, e_notN, e_and, e_or, e_not, e_ite, e_call, e_callK, prm_some, e_bi, e_tup, e_lst, lstK, tupK, e_ix, e_sl, eo_none, eo_some, in_int, e_mt, e_bits, bt_int, ng_int, e_comp, e_gc, es_nil, es_cons, tg_var, tg_tup, tg_sub, tgs_nil, tgs_cons, it_list, it_tup, it_rng1, it_rng2, it_enum, src_tup, src_fro, src_rng, src_enum, op_add, op_sub, op_mul, op_fdiv, op_mod, op_pow, op_shl, op_shr, op_addt, cm_lt, cm_le, cm_gt, cm_ge, cm_eq, cm_ne, cm_eq_bl, cm_ne_bl, cm_eq_str, cm_ne_str, tr_bl, tr_int, tr_non, ch_bl, cond_dec, cond_not, cond_t, cond_f, cond_ne, au_add, au_sub, b_len_tup, b_int, b_int_bl, b_abs, b_max, b_min, at_some, x_tup, isi_non_int, isi_non_bool, isi_non_str, isi_non_tuple, isi_non_list, isi_non_dict, isi_bl_int, isi_bl_bool, isi_bl_str, isi_bl_tuple, isi_bl_list, isi_bl_dict, isi_int_int, isi_int_bool, isi_int_str, isi_int_tuple, isi_int_list, isi_int_dict, isi_str_int, isi_str_bool, isi_str_str, isi_str_tuple, isi_str_list, isi_str_dict, isi_tup_int, isi_tup_bool, isi_tup_str, isi_tup_tuple, isi_tup_list, isi_tup_dict, isi_fro_int, isi_fro_bool, isi_fro_str, isi_fro_tuple, isi_fro_list, isi_fro_dict, PV.isNon, eq_self, decide_true, Bool.not_true, Bool.not_false, sl_fro, gc_pure, cl_lst, cl_dK, cx_ref, cx_str, cop_add, cb_len, cl_q, cm_append, cm_pop, pop_snoc, cm_extend, csrc, ctg, ixs, gc_ref, gc_ref0, e_dnew, e_get1, e_get2, cl_d, gd_ref, gd_str, cm_isin, cm_notin, intsK, e_sset, ssetK, b_sorted, m_insert, cb_sum, b_tuple_ref, b_tuple_tup, b_list_tup, b_list_ref, sl_tup, sl_ref, tr_tup, sizeLine_eq, Nat.reduceLeDiff, Int.reduceLT, Int.reduceLE, true_and, and_true, st_new0, st_newk, st_set0, st_setk, List.getElem?_cons_zero, List.getElem?_cons_succ, List.append_assoc, List.cons_append, List.nil_append, List.append_nil, List.length_append, List.length_cons, List.length_nil, Nat.zero_add, Nat.reduceAdd, List.set_cons_zero, List.set_cons_succ, stV, getV0, getVs, setV0, setVs, q_law_v2_f2]
        refine cl_of (law_divided_do (x := y) h42 hy0 hy1) ?_
        rintro v M8 ⟨rfl, f, k, qs, rfl, hk, hqs, _⟩
        simp only [ss_nil, ss_cons, s_asgv, s_asgt, s_para, s_auga, s_exp, s_retE, s_retNon, s_if, s_while, s_fo, s_break, s_conti, s_ps, e_var, varK, e_int, e_bl, e_non, e_str, e_ty, e_bin, e_neg, e_cmp, e_chain, e_isN, e_notN, e_and, e_or, e_not, e_ite, e_call, e_callK, prm_some, e_bi, e_tup, e_lst, lstK, tupK, e_ix, e_sl, eo_none, eo_some, in_int, e_mt, e_bits, bt_int, ng_int, e_comp, e_gc, es_nil, es_cons, tg_var, tg_tup, tg_sub, tgs_nil, tgs_cons, it_list, it_tup, it_rng1, it_rng2, it_enum, src_tup, src_fro, src_rng, src_enum, op_add, op_sub, op_mul, op_fdiv, op_mod, op_pow, op_shl, op_shr, op_addt, cm_lt, cm_le, cm_gt, cm_ge, cm_eq, cm_ne, cm_eq_bl, cm_ne_bl, cm_eq_str, cm_ne_str, tr_bl, tr_int, tr_non, ch_bl, cond_dec, cond_not, cond_t, cond_f, cond_ne, au_add, au_sub, b_len_tup, b_int, b_int_bl, b_abs, b_max, b_min, at_some, x_tup, isi_non_int, isi_non_bool, isi_non_str, isi_non_tuple, isi_non_list, isi_non_dict, isi_bl_int, isi_bl_bool, isi_bl_str, isi_bl_tuple, isi_bl_list, isi_bl_dict, isi_int_int, isi_int_bool, isi_int_str, isi_int_tuple, isi_int_list, isi_int_dict, isi_str_int, isi_str_bool, isi_str_str, isi_str_tuple, isi_str_list, isi_str_dict, isi_tup_int, isi_tup_bool, isi_tup_str, isi_tup_tuple, isi_tup_list, isi_tup_dict, isi_fro_int, isi_fro_bool, isi_fro_str, isi_fro_tuple, isi_fro_list, isi_fro_dict, PV.isNon, eq_self, decide_true, Bool.not_true, Bool.not_false, sl_fro, gc_pure, cl_lst, cl_dK, cx_ref, cx_str, cop_add, cb_len, cl_q, cm_append, cm_pop, pop_snoc, cm_extend, csrc, ctg, ixs, gc_ref, gc_ref0, e_dnew, e_get1, e_get2, cl_d, gd_ref, gd_str, cm_isin, cm_notin, intsK, e_sset, ssetK, b_sorted, m_insert, cb_sum, b_tuple_ref, b_tuple_tup, b_list_tup, b_list_ref, sl_tup, sl_ref, tr_tup, sizeLine_eq, Nat.reduceLeDiff, Int.reduceLT, Int.reduceLE, true_and, and_true, st_new0, st_newk, st_set0, st_setk, List.getElem?_cons_zero, List.getElem?_cons_succ, List.append_assoc, List.cons_append, List.nil_append, List.append_nil, List.length_append, List.length_cons, List.length_nil, Nat.zero_add, Nat.reduceAdd, List.set_cons_zero, List.set_cons_succ, stV, getV0, getVs, setV0, setVs]
        refine cl_of (law_told_do h0 h5 h13 h38 h39 h44 hy0 hy1 hk hqs) ?_
        rintro v M9 ⟨rfl, rfl⟩
        simp only [ss_nil, ss_cons, s_asgv, s_asgt, s_para, s_auga, s_exp, s_retE, s_retNon, s_if, s_while, s_fo, s_break, s_conti, s_ps, e_var, varK, e_int, e_bl, e_non, e_str, e_ty, e_bin, e_neg, e_cmp, e_chain, e_isN, e_notN, e_and, e_or, e_not, e_ite, e_call, e_callK, prm_some, e_bi, e_tup, e_lst, lstK, tupK, e_ix, e_sl, eo_none, eo_some, in_int, e_mt, e_bits, bt_int, ng_int, e_comp, e_gc, es_nil, es_cons, tg_var, tg_tup, tg_sub, tgs_nil, tgs_cons, it_list, it_tup, it_rng1, it_rng2, it_enum, src_tup, src_fro, src_rng, src_enum, op_add, op_sub, op_mul, op_fdiv, op_mod, op_pow, op_shl, op_shr, op_addt, cm_lt, cm_le, cm_gt, cm_ge, cm_eq, cm_ne, cm_eq_bl, cm_ne_bl, cm_eq_str, cm_ne_str, tr_bl, tr_int, tr_non, ch_bl, cond_dec, cond_not, cond_t, cond_f, cond_ne, au_add, au_sub, b_len_tup, b_int, b_int_bl, b_abs, b_max, b_min, at_some, x_tup, isi_non_int, isi_non_bool, isi_non_str, isi_non_tuple, isi_non_list, isi_non_dict, isi_bl_int, isi_bl_bool, isi_bl_str, isi_bl_tuple, isi_bl_list, isi_bl_dict, isi_int_int, isi_int_bool, isi_int_str, isi_int_tuple, isi_int_list, isi_int_dict, isi_str_int, isi_str_bool, isi_str_str, isi_str_tuple, isi_str_list, isi_str_dict, isi_tup_int, isi_tup_bool, isi_tup_str, isi_tup_tuple, isi_tup_list, isi_tup_dict, isi_fro_int, isi_fro_bool, isi_fro_str, isi_fro_tuple, isi_fro_list, isi_fro_dict, PV.isNon, eq_self, decide_true, Bool.not_true, Bool.not_false, sl_fro, gc_pure, cl_lst, cl_dK, cx_ref, cx_str, cop_add, cb_len, cl_q, cm_append, cm_pop, pop_snoc, cm_extend, csrc, ctg, ixs, gc_ref, gc_ref0, e_dnew, e_get1, e_get2, cl_d, gd_ref, gd_str, cm_isin, cm_notin, intsK, e_sset, ssetK, b_sorted, m_insert, cb_sum, b_tuple_ref, b_tuple_tup, b_list_tup, b_list_ref, sl_tup, sl_ref, tr_tup, sizeLine_eq, Nat.reduceLeDiff, Int.reduceLT, Int.reduceLE, true_and, and_true, st_new0, st_newk, st_set0, st_setk, List.getElem?_cons_zero, List.getElem?_cons_succ, List.append_assoc, List.cons_append, List.nil_append, List.append_nil, List.length_append, List.length_cons, List.length_nil, Nat.zero_add, Nat.reduceAdd, List.set_cons_zero, List.set_cons_succ, stV, getV0, getVs, setV0, setVs]
        exact ⟨_, rfl⟩
      · rintro e M' ⟨o3, rfl, eM⟩
        cases eM
        simp only [ss_nil, ss_cons, s_asgv, s_asgt, s_para, s_auga, s_exp, s_retE, s_retNon, s_if, s_while, s_fo, s_break, s_conti, s_ps, e_var, varK, e_int, e_bl, e_non, e_str, e_ty, e_bin, e_neg, e_cmp, e_chain, e_isN, e_notN, e_and, e_or, e_not, e_ite, e_call, e_callK, prm_some, e_bi, e_tup, e_lst, lstK, tupK, e_ix, e_sl, eo_none, eo_some, in_int, e_mt, e_bits, bt_int, ng_int, e_comp, e_gc, es_nil, es_cons, tg_var, tg_tup, tg_sub, tgs_nil, tgs_cons, it_list, it_tup, it_rng1, it_rng2, it_enum, src_tup, src_fro, src_rng, src_enum, op_add, op_sub, op_mul, op_fdiv, op_mod, op_pow, op_shl, op_shr, op_addt, cm_lt, cm_le, cm_gt, cm_ge, cm_eq, cm_ne, cm_eq_bl, cm_ne_bl, cm_eq_str, cm_ne_str, tr_bl, tr_int, tr_non, ch_bl, cond_dec, cond_not, cond_t, cond_f, cond_ne, au_add, au_sub, b_len_tup, b_int, b_int_bl, b_abs, b_max, b_min, at_some, x_tup, isi_non_int, isi_non_bool, isi_non_str, isi_non_tuple, isi_non_list, isi_non_dict, isi_bl_int, isi_bl_bool, isi_bl_str, isi_bl_tuple, isi_bl_list, isi_bl_dict, isi_int_int, isi_int_bool, isi_int_str, isi_int_tuple, isi_int_list, isi_int_dict, isi_str_int, isi_str_bool, isi_str_str, isi_str_tuple, isi_str_list, isi_str_dict, isi_tup_int, isi_tup_bool, isi_tup_str, isi_tup_tuple, isi_tup_list, isi_tup_dict, isi_fro_int, isi_fro_bool, isi_fro_str, isi_fro_tuple, isi_fro_list, isi_fro_dict, PV.isNon, eq_self, decide_true, Bool.not_true, Bool.not_false, sl_fro, gc_pure, cl_lst, cl_dK, cx_ref, cx_str, cop_add, cb_len, cl_q, cm_append, cm_pop, pop_snoc, cm_extend, csrc, ctg, ixs, gc_ref, gc_ref0, e_dnew, e_get1, e_get2, cl_d, gd_ref, gd_str, cm_isin, cm_notin, intsK, e_sset, ssetK, b_sorted, m_insert, cb_sum, b_tuple_ref, b_tuple_tup, b_list_tup, b_list_ref, sl_tup, sl_ref, tr_tup, sizeLine_eq, Nat.reduceLeDiff, Int.reduceLT, Int.reduceLE, true_and, and_true, st_new0, st_newk, st_set0, st_setk, List.getElem?_cons_zero, List.getElem?_cons_succ, List.append_assoc, List.cons_append, List.nil_append, List.append_nil, List.length_append, List.length_cons, List.length_nil, Nat.zero_add, Nat.reduceAdd, List.set_cons_zero, List.set_cons_succ, stV, getV0, getVs, setV0, setVs]
        refine cl_of (law_draw_do h41 ev7.dice (by decide)) ?_
        rintro v M8 ⟨z, rfl, hz0, hz1, ev8⟩
        simp only [ss_nil, ss_cons, s_asgv, s_asgt, s_para, s_auga, s_exp, s_retE, s_retNon, s_if, s_while, s_fo, s_break, s_conti, s_ps, e_var, varK, e_int, e_bl, e_non, e_str, e_ty, e_bin, e_neg, e_cmp, e_chain, e_isN, e_notN, e_and, e_or, e_not, e_ite, e_call, e_callK, prm_some, e_bi, e_tup, e_lst, lstK, tupK, e_ix, e_sl, eo_none, eo_some, in_int, e_mt, e_bits, bt_int, ng_int, e_comp, e_gc, es_nil, es_cons, tg_var, tg_tup, tg_sub, tgs_nil, tgs_cons, it_list, it_tup, it_rng1, it_rng2, it_enum, src_tup, src_fro, src_rng, src_enum, op_add, op_sub, op_mul, op_fdiv, op_mod, op_pow, op_shl, op_shr, op_addt, cm_lt, cm_le, cm_gt, cm_ge, cm_eq, cm_ne, cm_eq_bl, cm_ne_bl, cm_eq_str, cm_ne_str, tr_bl, tr_int, tr_non, ch_bl, cond_dec, cond_not, cond_t, cond_f, cond_ne, au_add, au_sub, b_len_tup, b_int, b_int_bl, b_abs, b_max, b_min, at_some, x_tup, isi_non_int, isi_non_bool, isi_non_str, isi_non_tuple, isi_non_list, isi_non_dict, isi_bl_int, isi_bl_bool, isi_bl_str, isi_bl_tuple, isi_bl_list, isi_bl_dict, isi_int_int, isi_int_bool, isi_int_str, isi_int_tuple, isi_int_list, isi_int_dict, isi_str_int, isi_str_bool, isi_str_str, isi_str_tuple, isi_str_list, isi_str_dict, isi_tup_int, isi_tup_bool, isi_tup_str, isi_tup_tuple, isi_tup_list, isi_tup_dict, isi_fro_int, isi_fro_bool, isi_fro_str, isi_fro_tuple, isi_fro_list, isi_fro_dict, PV.isNon, eq_self, decide_true, Bool.not_true, Bool.not_false, sl_fro, gc_pure, cl_lst, cl_dK, cx_ref, cx_str, cop_add, cb_len, cl_q, cm_append, cm_pop, pop_snoc, cm_extend, csrc, ctg, ixs, gc_ref, gc_ref0, e_dnew, e_get1, e_get2, cl_d, gd_ref, gd_str, cm_isin, cm_notin, intsK, e_sset, ssetK, b_sorted, m_insert, cb_sum, b_tuple_ref, b_tuple_tup, b_list_tup, b_list_ref, sl_tup, sl_ref, tr_tup, sizeLine_eq, Nat.reduceLeDiff, Int.reduceLT, Int.reduceLE, true_and, and_true, st_new0, st_newk, st_set0, st_setk, List.getElem?_cons_zero, List.getElem?_cons_succ, List.append_assoc, List.cons_append, List.nil_append, List.append_nil, List.length_append, List.length_cons, List.length_nil, Nat.zero_add, Nat.reduceAdd, List.set_cons_zero, List.set_cons_succ, stV, getV0, getVs, setV0, setVs]
        obtain ⟨r, hr⟩ : ∃ r : Nat, (1 + z) = (r : Int) := ⟨(1 + z).toNat, by omega⟩
        rw [hr]
        have rs : ((r : Nat) : Int).natAbs < 2 ^ 15 := abs_nat (by omega)
        refine ⟨cmul rs rs (by decide), ?_⟩
        refine cl_of (law_divided_do (x := r) h42 (by omega) (by omega)) ?_
        rintro v M9 ⟨rfl, f, k, qs, rfl, _, hqs, _⟩
        simp only [ss_nil, ss_cons, s_asgv, s_asgt, s_para, s_auga, s_exp, s_retE, s_retNon, s_if, s_while, s_fo, s_break, s_conti, s_ps, e_var, varK, e_int, e_bl, e_non, e_str, e_ty, e_bin, e_neg, e_cmp, e_chain, e_isN, e_notN, e_and, e_or, e_not, e_ite, e_call, e_callK, prm_some, e_bi, e_tup, e_lst, lstK, tupK, e_ix, e_sl, eo_none, eo_some, in_int, e_mt, e_bits, bt_int, ng_int, e_comp, e_gc, es_nil, es_cons, tg_var, tg_tup, tg_sub, tgs_nil, tgs_cons, it_list, it_tup, it_rng1, it_rng2, it_enum, src_tup, src_fro, src_rng, src_enum, op_add, op_sub, op_mul, op_fdiv, op_mod, op_pow, op_shl, op_shr, op_addt, cm_lt, cm_le, cm_gt, cm_ge, cm_eq, cm_ne, cm_eq_bl, cm_ne_bl, cm_eq_str, cm_ne_str, tr_bl, tr_int, tr_non, ch_bl, cond_dec, cond_not, cond_t, cond_f, cond_ne, au_add, au_sub, b_len_tup, b_int, b_int_bl, b_abs, b_max, b_min, at_some, x_tup, isi_non_int, isi_non_bool, isi_non_str, isi_non_tuple, isi_non_list, isi_non_dict, isi_bl_int, isi_bl_bool, isi_bl_str, isi_bl_tuple, isi_bl_list, isi_bl_dict, isi_int_int, isi_int_bool, isi_int_str, isi_int_tuple, isi_int_list, isi_int_dict, isi_str_int, isi_str_bool, isi_str_str, isi_str_tuple, isi_str_list, isi_str_dict, isi_tup_int, isi_tup_bool, isi_tup_str, isi_tup_tuple, isi_tup_list, isi_tup_dict, isi_fro_int, isi_fro_bool, isi_fro_str, isi_fro_tuple, isi_fro_list, isi_fro_dict, PV.isNon, eq_self, decide_true, Bool.not_true, Bool.not_false, sl_fro, gc_pure, cl_lst, cl_dK, cx_ref, cx_str, cop_add, cb_len, cl_q, cm_append, cm_pop, pop_snoc, cm_extend, csrc, ctg, ixs, gc_ref, gc_ref0, e_dnew, e_get1, e_get2, cl_d, gd_ref, gd_str, cm_isin, cm_notin, intsK, e_sset, ssetK, b_sorted, m_insert, cb_sum, b_tuple_ref, b_tuple_tup, b_list_tup, b_list_ref, sl_tup, sl_ref, tr_tup, sizeLine_eq, Nat.reduceLeDiff, Int.reduceLT, Int.reduceLE, true_and, and_true, st_new0, st_newk, st_set0, st_setk, List.getElem?_cons_zero, List.getElem?_cons_succ, List.append_assoc, List.cons_append, List.nil_append, List.append_nil, List.length_append, List.length_cons, List.length_nil, Nat.zero_add, Nat.reduceAdd, List.set_cons_zero, List.set_cons_succ, stV, getV0, getVs, setV0, setVs, at2]
        have e1 : (r : Int) * (r : Int) = ((r * r : Nat) : Int) := rfl
        have rr : r * r < 2 ^ 60 := by
          have := Nat.mul_le_mul (show r ≤ 30000 by omega) (show r ≤ 30000 by omega)
          omega
        rw [e1]
        refine cl_of (law_told_do (k := 1) h0 h5 h13 h38 h39 h44 (Nat.mul_pos (by omega) (by omega)) rr (ker_sq (by omega)) (ps_square hqs)) ?_
        rintro v M10 ⟨rfl, rfl⟩
        simp only [ss_nil, ss_cons, s_asgv, s_asgt, s_para, s_auga, s_exp, s_retE, s_retNon, s_if, s_while, s_fo, s_break, s_conti, s_ps, e_var, varK, e_int, e_bl, e_non, e_str, e_ty, e_bin, e_neg, e_cmp, e_chain, e_isN, e_notN, e_and, e_or, e_not, e_ite, e_call, e_callK, prm_some, e_bi, e_tup, e_lst, lstK, tupK, e_ix, e_sl, eo_none, eo_some, in_int, e_mt, e_bits, bt_int, ng_int, e_comp, e_gc, es_nil, es_cons, tg_var, tg_tup, tg_sub, tgs_nil, tgs_cons, it_list, it_tup, it_rng1, it_rng2, it_enum, src_tup, src_fro, src_rng, src_enum, op_add, op_sub, op_mul, op_fdiv, op_mod, op_pow, op_shl, op_shr, op_addt, cm_lt, cm_le, cm_gt, cm_ge, cm_eq, cm_ne, cm_eq_bl, cm_ne_bl, cm_eq_str, cm_ne_str, tr_bl, tr_int, tr_non, ch_bl, cond_dec, cond_not, cond_t, cond_f, cond_ne, au_add, au_sub, b_len_tup, b_int, b_int_bl, b_abs, b_max, b_min, at_some, x_tup, isi_non_int, isi_non_bool, isi_non_str, isi_non_tuple, isi_non_list, isi_non_dict, isi_bl_int, isi_bl_bool, isi_bl_str, isi_bl_tuple, isi_bl_list, isi_bl_dict, isi_int_int, isi_int_bool, isi_int_str, isi_int_tuple, isi_int_list, isi_int_dict, isi_str_int, isi_str_bool, isi_str_str, isi_str_tuple, isi_str_list, isi_str_dict, isi_tup_int, isi_tup_bool, isi_tup_str, isi_tup_tuple, isi_tup_list, isi_tup_dict, isi_fro_int, isi_fro_bool, isi_fro_str, isi_fro_tuple, isi_fro_list, isi_fro_dict, PV.isNon, eq_self, decide_true, Bool.not_true, Bool.not_false, sl_fro, gc_pure, cl_lst, cl_dK, cx_ref, cx_str, cop_add, cb_len, cl_q, cm_append, cm_pop, pop_snoc, cm_extend, csrc, ctg, ixs, gc_ref, gc_ref0, e_dnew, e_get1, e_get2, cl_d, gd_ref, gd_str, cm_isin, cm_notin, intsK, e_sset, ssetK, b_sorted, m_insert, cb_sum, b_tuple_ref, b_tuple_tup, b_list_tup, b_list_ref, sl_tup, sl_ref, tr_tup, sizeLine_eq, Nat.reduceLeDiff, Int.reduceLT, Int.reduceLE, true_and, and_true, st_new0, st_newk, st_set0, st_setk, List.getElem?_cons_zero, List.getElem?_cons_succ, List.append_assoc, List.cons_append, List.nil_append, List.append_nil, List.length_append, List.length_cons, List.length_nil, Nat.zero_add, Nat.reduceAdd, List.set_cons_zero, List.set_cons_succ, stV, getV0, getVs, setV0, setVs]
        refine cl_of (law_draw_do h41 ev8.dice (by decide)) ?_
        rintro v M11 ⟨y, rfl, hy0, hy1, ev11⟩
        simp only [ss_nil, ss_cons, s_asgv, s_asgt, s_para, s_auga, s_exp, s_retE, s_retNon, s_if, s_while, s_fo, s_break, s_conti, s_ps, e_var, varK, e_int, e_bl, e_non, e_str, e_ty, e_bin, e_neg, e_cmp, e_chain, e_isN, e_notN, e_and, e_or, e_not, e_ite, e_call, e_callK, prm_some, e_bi, e_tup, e_lst, lstK, tupK, e_ix, e_sl, eo_none, eo_some, in_int, e_mt, e_bits, bt_int, ng_int, e_comp, e_gc, es_nil, es_cons, tg_var, tg_tup, tg_sub, tgs_nil, tgs_cons, it_list, it_tup, it_rng1, it_rng2, it_enum, src_tup, src_fro, src_rng, src_enum, op_add, op_sub, op_mul, op_fdiv, op_mod, op_pow, op_shl, op_shr, op_addt, cm_lt, cm_le, cm_gt, cm_ge, cm_eq, cm_ne, cm_eq_bl, cm_ne_bl, cm_eq_str, cm_ne_str, tr_bl, tr_int, tr_non, ch_bl, cond_dec, cond_not, cond_t, cond_f, cond_ne, au_add, au_sub, b_len_tup, b_int, b_int_bl, b_abs, b_max, b_min, at_some, x_tup, isi_non_int, isi_non_bool, isi_non_str, isi_non_tuple, isi_non_list, isi_non_dict, isi_bl_int, isi_bl_bool, isi_bl_str, isi_bl_tuple, isi_bl_list, isi_bl_dict, isi_int_int, isi_int_bool, isi_int_str, isi_int_tuple, isi_int_list, isi_int_dict, isi_str_int, isi_str_bool, isi_str_str, isi_str_tuple, isi_str_list, isi_str_dict, isi_tup_int, isi_tup_bool, isi_tup_str, isi_tup_tuple, isi_tup_list, isi_tup_dict, isi_fro_int, isi_fro_bool, isi_fro_str, isi_fro_tuple, isi_fro_list, isi_fro_dict, PV.isNon, eq_self, decide_true, Bool.not_true, Bool.not_false, sl_fro, gc_pure, cl_lst, cl_dK, cx_ref, cx_str, cop_add, cb_len, cl_q, cm_append, cm_pop, pop_snoc, cm_extend, csrc, ctg, ixs, gc_ref, gc_ref0, e_dnew, e_get1, e_get2, cl_d, gd_ref, gd_str, cm_isin, cm_notin, intsK, e_sset, ssetK, b_sorted, m_insert, cb_sum, b_tuple_ref, b_tuple_tup, b_list_tup, b_list_ref, sl_tup, sl_ref, tr_tup, sizeLine_eq, Nat.reduceLeDiff, Int.reduceLT, Int.reduceLE, true_and, and_true, st_new0, st_newk, st_set0, st_setk, List.getElem?_cons_zero, List.getElem?_cons_succ, List.append_assoc, List.cons_append, List.nil_append, List.append_nil, List.length_append, List.length_cons, List.length_nil, Nat.zero_add, Nat.reduceAdd, List.set_cons_zero, List.set_cons_succ, stV, getV0, getVs, setV0, setVs]
        refine ⟨fun _ => ?_, fun _ => gc_val rfl⟩
        refine cl_of (law_draw_do h41 ev11.dice (by decide)) ?_
        rintro v M12 ⟨u, rfl, hu0, hu1, ev12⟩
        simp only [ss_nil, ss_cons, s_asgv, s_asgt, s_para, s_auga, s_exp, s_retE, s_retNon, s_if, s_while, s_fo, s_break, s_conti, s_ps, e_var, varK, e_int, e_bl, e_non, e_str, e_ty, e_bin, e_neg, e_cmp, e_chain, e_isN, e_notN, e_and, e_or, e_not, e_ite, e_call, e_callK, prm_some, e_bi, e_tup, e_lst, lstK, tupK, e_ix, e_sl, eo_none, eo_some, in_int, e_mt, e_bits, bt_int, ng_int, e_comp, e_gc, es_nil, es_cons, tg_var, tg_tup, tg_sub, tgs_nil, tgs_cons, it_list, it_tup, it_rng1, it_rng2, it_enum, src_tup, src_fro, src_rng, src_enum, op_add, op_sub, op_mul, op_fdiv, op_mod, op_pow, op_shl, op_shr, op_addt, cm_lt, cm_le, cm_gt, cm_ge, cm_eq, cm_ne, cm_eq_bl, cm_ne_bl, cm_eq_str, cm_ne_str, tr_bl, tr_int, tr_non, ch_bl, cond_dec, cond_not, cond_t, cond_f, cond_ne, au_add, au_sub, b_len_tup, b_int, b_int_bl, b_abs, b_max, b_min, at_some, x_tup, isi_non_int, isi_non_bool, isi_non_str, isi_non_tuple, isi_non_list, isi_non_dict, isi_bl_int, isi_bl_bool, isi_bl_str, isi_bl_tuple, isi_bl_list, isi_bl_dict, isi_int_int, isi_int_bool, isi_int_str, isi_int_tuple, isi_int_list, isi_int_dict, isi_str_int, isi_str_bool, isi_str_str, isi_str_tuple, isi_str_list, isi_str_dict, isi_tup_int, isi_tup_bool, isi_tup_str, isi_tup_tuple, isi_tup_list, isi_tup_dict, isi_fro_int, isi_fro_bool, isi_fro_str, isi_fro_tuple, isi_fro_list, isi_fro_dict, PV.isNon, eq_self, decide_true, Bool.not_true, Bool.not_false, sl_fro, gc_pure, cl_lst, cl_dK, cx_ref, cx_str, cop_add, cb_len, cl_q, cm_append, cm_pop, pop_snoc, cm_extend, csrc, ctg, ixs, gc_ref, gc_ref0, e_dnew, e_get1, e_get2, cl_d, gd_ref, gd_str, cm_isin, cm_notin, intsK, e_sset, ssetK, b_sorted, m_insert, cb_sum, b_tuple_ref, b_tuple_tup, b_list_tup, b_list_ref, sl_tup, sl_ref, tr_tup, sizeLine_eq, Nat.reduceLeDiff, Int.reduceLT, Int.reduceLE, true_and, and_true, st_new0, st_newk, st_set0, st_setk, List.getElem?_cons_zero, List.getElem?_cons_succ, List.append_assoc, List.cons_append, List.nil_append, List.append_nil, List.length_append, List.length_cons, List.length_nil, Nat.zero_add, Nat.reduceAdd, List.set_cons_zero, List.set_cons_succ, stV, getV0, getVs, setV0, setVs]
        obtain ⟨g, hg⟩ : ∃ g : Nat, (900000000 + u) = (g : Int) := ⟨(900000000 + u).toNat, by omega⟩
        rw [hg]
        refine cl_of (law_divided_do (x := g) h42 (by omega) (by omega)) ?_
        rintro v M13 ⟨rfl, f, k, qs, rfl, hk, hqs, _⟩
        simp only [ss_nil, ss_cons, s_asgv, s_asgt, s_para, s_auga, s_exp, s_retE, s_retNon, s_if, s_while, s_fo, s_break, s_conti, s_ps, e_var, varK, e_int, e_bl, e_non, e_str, e_ty, e_bin, e_neg, e_cmp, e_chain, e_isN, e_notN, e_and, e_or, e_not, e_ite, e_call, e_callK, prm_some, e_bi, e_tup, e_lst, lstK, tupK, e_ix, e_sl, eo_none, eo_some, in_int, e_mt, e_bits, bt_int, ng_int, e_comp, e_gc, es_nil, es_cons, tg_var, tg_tup, tg_sub, tgs_nil, tgs_cons, it_list, it_tup, it_rng1, it_rng2, it_enum, src_tup, src_fro, src_rng, src_enum, op_add, op_sub, op_mul, op_fdiv, op_mod, op_pow, op_shl, op_shr, op_addt, cm_lt, cm_le, cm_gt, cm_ge, cm_eq, cm_ne, cm_eq_bl, cm_ne_bl, cm_eq_str, cm_ne_str, tr_bl, tr_int, tr_non, ch_bl, cond_dec, cond_not, cond_t, cond_f, cond_ne, au_add, au_sub, b_len_tup, b_int, b_int_bl, b_abs, b_max, b_min, at_some, x_tup, isi_non_int, isi_non_bool, isi_non_str, isi_non_tuple, isi_non_list, isi_non_dict, isi_bl_int, isi_bl_bool, isi_bl_str, isi_bl_tuple, isi_bl_list, isi_bl_dict, isi_int_int, isi_int_bool, isi_int_str, isi_int_tuple, isi_int_list, isi_int_dict, isi_str_int, isi_str_bool, isi_str_str, isi_str_tuple, isi_str_list, isi_str_dict, isi_tup_int, isi_tup_bool, isi_tup_str, isi_tup_tuple, isi_tup_list, isi_tup_dict, isi_fro_int, isi_fro_bool, isi_fro_str, isi_fro_tuple, isi_fro_list, isi_fro_dict, PV.isNon, eq_self, decide_true, Bool.not_true, Bool.not_false, sl_fro, gc_pure, cl_lst, cl_dK, cx_ref, cx_str, cop_add, cb_len, cl_q, cm_append, cm_pop, pop_snoc, cm_extend, csrc, ctg, ixs, gc_ref, gc_ref0, e_dnew, e_get1, e_get2, cl_d, gd_ref, gd_str, cm_isin, cm_notin, intsK, e_sset, ssetK, b_sorted, m_insert, cb_sum, b_tuple_ref, b_tuple_tup, b_list_tup, b_list_ref, sl_tup, sl_ref, tr_tup, sizeLine_eq, Nat.reduceLeDiff, Int.reduceLT, Int.reduceLE, true_and, and_true, st_new0, st_newk, st_set0, st_setk, List.getElem?_cons_zero, List.getElem?_cons_succ, List.append_assoc, List.cons_append, List.nil_append, List.append_nil, List.length_append, List.length_cons, List.length_nil, Nat.zero_add, Nat.reduceAdd, List.set_cons_zero, List.set_cons_succ, stV, getV0, getVs, setV0, setVs]
        refine cl_of (law_told_do h0 h5 h13 h38 h39 h44 (by omega) (by omega) hk hqs) ?_
        rintro v M14 ⟨rfl, rfl⟩
        exact gc_val rfl
    · rw [intsP2]
      rcases Nat.lt_or_gt_of_ne (show p ≠ q by omega) with hlt | hlt
      · have hs : sortI [(p : Int), (q : Int)] = [(p : Int), (q : Int)] := sortI_lt (by omega)
        simp only [ss_nil, ss_cons, s_asgv, s_asgt, s_para, s_auga, s_exp, s_retE, s_retNon, s_if, s_while, s_fo, s_break, s_conti, s_ps, e_var, varK, e_int, e_bl, e_non, e_str, e_ty, e_bin, e_neg, e_cmp, e_chain, e_isN, e_notN, e_and, e_or, e_not, e_ite, e_call, e_callK, prm_some, e_bi, e_tup, e_lst, lstK, tupK, e_ix, e_sl, eo_none, eo_some, in_int, e_mt, e_bits, bt_int, ng_int, e_comp, e_gc, es_nil, es_cons, tg_var, tg_tup, tg_sub, tgs_nil, tgs_cons, it_list, it_tup, it_rng1, it_rng2, it_enum, src_tup, src_fro, src_rng, src_enum, op_add, op_sub, op_mul, op_fdiv, op_mod, op_pow, op_shl, op_shr, op_addt, cm_lt, cm_le, cm_gt, cm_ge, cm_eq, cm_ne, cm_eq_bl, cm_ne_bl, cm_eq_str, cm_ne_str, tr_bl, tr_int, tr_non, ch_bl, cond_dec, cond_not, cond_t, cond_f, cond_ne, au_add, au_sub, b_len_tup, b_int, b_int_bl, b_abs, b_max, b_min, at_some, x_tup, isi_non_int, isi_non_bool, isi_non_str, isi_non_tuple, isi_non_list, isi_non_dict, isi_bl_int, isi_bl_bool, isi_bl_str, isi_bl_tuple, isi_bl_list, isi_bl_dict, isi_int_int, isi_int_bool, isi_int_str, isi_int_tuple, isi_int_list, isi_int_dict, isi_str_int, isi_str_bool, isi_str_str, isi_str_tuple, isi_str_list, isi_str_dict, isi_tup_int, isi_tup_bool, isi_tup_str, isi_tup_tuple, isi_tup_list, isi_tup_dict, isi_fro_int, isi_fro_bool, isi_fro_str, isi_fro_tuple, isi_fro_list, isi_fro_dict, PV.isNon, eq_self, decide_true, Bool.not_true, Bool.not_false, sl_fro, gc_pure, cl_lst, cl_dK, cx_ref, cx_str, cop_add, cb_len, cl_q, cm_append, cm_pop, pop_snoc, cm_extend, csrc, ctg, ixs, gc_ref, gc_ref0, e_dnew, e_get1, e_get2, cl_d, gd_ref, gd_str, cm_isin, cm_notin, intsK, e_sset, ssetK, b_sorted, m_insert, cb_sum, b_tuple_ref, b_tuple_tup, b_list_tup, b_list_ref, sl_tup, sl_ref, tr_tup, sizeLine_eq, Nat.reduceLeDiff, Int.reduceLT, Int.reduceLE, true_and, and_true, st_new0, st_newk, st_set0, st_setk, List.getElem?_cons_zero, List.getElem?_cons_succ, List.append_assoc, List.cons_append, List.nil_append, List.append_nil, List.length_append, List.length_cons, List.length_nil, Nat.zero_add, Nat.reduceAdd, List.set_cons_zero, List.set_cons_succ, stV, getV0, getVs, setV0, setVs, hs, List.map_cons, List.map_nil]
        rw [gc_drop (by simp [PV.low, PV.lows])]
        simp only [ss_nil, ss_cons, s_asgv, s_asgt, s_para, s_auga, s_exp, s_retE, s_retNon, s_if, s_while, s_fo, s_break, s_conti, s_ps, e_var, varK, e_int, e_bl, e_non, e_str, e_ty, e_bin, e_neg, e_cmp, e_chain, e_isN, e_notN, e_and, e_or, e_not, e_ite, e_call, e_callK, prm_some, e_bi, e_tup, e_lst, lstK, tupK, e_ix, e_sl, eo_none, eo_some, in_int, e_mt, e_bits, bt_int, ng_int, e_comp, e_gc, es_nil, es_cons, tg_var, tg_tup, tg_sub, tgs_nil, tgs_cons, it_list, it_tup, it_rng1, it_rng2, it_enum, src_tup, src_fro, src_rng, src_enum, op_add, op_sub, op_mul, op_fdiv, op_mod, op_pow, op_shl, op_shr, op_addt, cm_lt, cm_le, cm_gt, cm_ge, cm_eq, cm_ne, cm_eq_bl, cm_ne_bl, cm_eq_str, cm_ne_str, tr_bl, tr_int, tr_non, ch_bl, cond_dec, cond_not, cond_t, cond_f, cond_ne, au_add, au_sub, b_len_tup, b_int, b_int_bl, b_abs, b_max, b_min, at_some, x_tup, isi_non_int, isi_non_bool, isi_non_str, isi_non_tuple, isi_non_list, isi_non_dict, isi_bl_int, isi_bl_bool, isi_bl_str, isi_bl_tuple, isi_bl_list, isi_bl_dict, isi_int_int, isi_int_bool, isi_int_str, isi_int_tuple, isi_int_list, isi_int_dict, isi_str_int, isi_str_bool, isi_str_str, isi_str_tuple, isi_str_list, isi_str_dict, isi_tup_int, isi_tup_bool, isi_tup_str, isi_tup_tuple, isi_tup_list, isi_tup_dict, isi_fro_int, isi_fro_bool, isi_fro_str, isi_fro_tuple, isi_fro_list, isi_fro_dict, PV.isNon, eq_self, decide_true, Bool.not_true, Bool.not_false, sl_fro, gc_pure, cl_lst, cl_dK, cx_ref, cx_str, cop_add, cb_len, cl_q, cm_append, cm_pop, pop_snoc, cm_extend, csrc, ctg, ixs, gc_ref, gc_ref0, e_dnew, e_get1, e_get2, cl_d, gd_ref, gd_str, cm_isin, cm_notin, intsK, e_sset, ssetK, b_sorted, m_insert, cb_sum, b_tuple_ref, b_tuple_tup, b_list_tup, b_list_ref, sl_tup, sl_ref, tr_tup, sizeLine_eq, Nat.reduceLeDiff, Int.reduceLT, Int.reduceLE, true_and, and_true, st_new0, st_newk, st_set0, st_setk, List.getElem?_cons_zero, List.getElem?_cons_succ, List.append_assoc, List.cons_append, List.nil_append, List.append_nil, List.length_append, List.length_cons, List.length_nil, Nat.zero_add, Nat.reduceAdd, List.set_cons_zero, List.set_cons_succ, stV, getV0, getVs, setV0, setVs]
        rw [epq]
        refine ⟨cmul ps' qs' (by decide), ?_⟩
        refine cl_of (law_told_do (f := 1) (k := p * q) (ps := [p, q]) h0 h5 h13 h38 h39 h44 hpq0 hpq (ker_prime2 hp hq (by omega)) (ps_prime2 hp hq hlt)) ?_
        rintro v M5 ⟨rfl, rfl⟩
        simp only [ss_nil, ss_cons, s_asgv, s_asgt, s_para, s_auga, s_exp, s_retE, s_retNon, s_if, s_while, s_fo, s_break, s_conti, s_ps, e_var, varK, e_int, e_bl, e_non, e_str, e_ty, e_bin, e_neg, e_cmp, e_chain, e_isN, e_notN, e_and, e_or, e_not, e_ite, e_call, e_callK, prm_some, e_bi, e_tup, e_lst, lstK, tupK, e_ix, e_sl, eo_none, eo_some, in_int, e_mt, e_bits, bt_int, ng_int, e_comp, e_gc, es_nil, es_cons, tg_var, tg_tup, tg_sub, tgs_nil, tgs_cons, it_list, it_tup, it_rng1, it_rng2, it_enum, src_tup, src_fro, src_rng, src_enum, op_add, op_sub, op_mul, op_fdiv, op_mod, op_pow, op_shl, op_shr, op_addt, cm_lt, cm_le, cm_gt, cm_ge, cm_eq, cm_ne, cm_eq_bl, cm_ne_bl, cm_eq_str, cm_ne_str, tr_bl, tr_int, tr_non, ch_bl, cond_dec, cond_not, cond_t, cond_f, cond_ne, au_add, au_sub, b_len_tup, b_int, b_int_bl, b_abs, b_max, b_min, at_some, x_tup, isi_non_int, isi_non_bool, isi_non_str, isi_non_tuple, isi_non_list, isi_non_dict, isi_bl_int, isi_bl_bool, isi_bl_str, isi_bl_tuple, isi_bl_list, isi_bl_dict, isi_int_int, isi_int_bool, isi_int_str, isi_int_tuple, isi_int_list, isi_int_dict, isi_str_int, isi_str_bool, isi_str_str, isi_str_tuple, isi_str_list, isi_str_dict, isi_tup_int, isi_tup_bool, isi_tup_str, isi_tup_tuple, isi_tup_list, isi_tup_dict, isi_fro_int, isi_fro_bool, isi_fro_str, isi_fro_tuple, isi_fro_list, isi_fro_dict, PV.isNon, eq_self, decide_true, Bool.not_true, Bool.not_false, sl_fro, gc_pure, cl_lst, cl_dK, cx_ref, cx_str, cop_add, cb_len, cl_q, cm_append, cm_pop, pop_snoc, cm_extend, csrc, ctg, ixs, gc_ref, gc_ref0, e_dnew, e_get1, e_get2, cl_d, gd_ref, gd_str, cm_isin, cm_notin, intsK, e_sset, ssetK, b_sorted, m_insert, cb_sum, b_tuple_ref, b_tuple_tup, b_list_tup, b_list_ref, sl_tup, sl_ref, tr_tup, sizeLine_eq, Nat.reduceLeDiff, Int.reduceLT, Int.reduceLE, true_and, and_true, st_new0, st_newk, st_set0, st_setk, List.getElem?_cons_zero, List.getElem?_cons_succ, List.append_assoc, List.cons_append, List.nil_append, List.append_nil, List.length_append, List.length_cons, List.length_nil, Nat.zero_add, Nat.reduceAdd, List.set_cons_zero, List.set_cons_succ, stV, getV0, getVs, setV0, setVs]
        refine cl_of (law_draw_do h41 ev4.dice (by decide)) ?_
        rintro v M6 ⟨a, rfl, ha0, ha1, ev6⟩
        simp only [ss_nil, ss_cons, s_asgv, s_asgt, s_para, s_auga, s_exp, s_retE, s_retNon, s_if, s_while, s_fo, s_break, s_conti, s_ps, e_var, varK, e_int, e_bl, e_non, e_str, e_ty, e_bin, e_neg, e_cmp, e_chain, e_isN, e_notN, e_and, e_or, e_not, e_ite, e_call, e_callK, prm_some, e_bi, e_tup, e_lst, lstK, tupK, e_ix, e_sl, eo_none, eo_some, in_int, e_mt, e_bits, bt_int, ng_int, e_comp, e_gc, es_nil, es_cons, tg_var, tg_tup, tg_sub, tgs_nil, tgs_cons, it_list, it_tup, it_rng1, it_rng2, it_enum, src_tup, src_fro, src_rng, src_enum, op_add, op_sub, op_mul, op_fdiv, op_mod, op_pow, op_shl, op_shr, op_addt, cm_lt, cm_le, cm_gt, cm_ge, cm_eq, cm_ne, cm_eq_bl, cm_ne_bl, cm_eq_str, cm_ne_str, tr_bl, tr_int, tr_non, ch_bl, cond_dec, cond_not, cond_t, cond_f, cond_ne, au_add, au_sub, b_len_tup, b_int, b_int_bl, b_abs, b_max, b_min, at_some, x_tup, isi_non_int, isi_non_bool, isi_non_str, isi_non_tuple, isi_non_list, isi_non_dict, isi_bl_int, isi_bl_bool, isi_bl_str, isi_bl_tuple, isi_bl_list, isi_bl_dict, isi_int_int, isi_int_bool, isi_int_str, isi_int_tuple, isi_int_list, isi_int_dict, isi_str_int, isi_str_bool, isi_str_str, isi_str_tuple, isi_str_list, isi_str_dict, isi_tup_int, isi_tup_bool, isi_tup_str, isi_tup_tuple, isi_tup_list, isi_tup_dict, isi_fro_int, isi_fro_bool, isi_fro_str, isi_fro_tuple, isi_fro_list, isi_fro_dict, PV.isNon, eq_self, decide_true, Bool.not_true, Bool.not_false, sl_fro, gc_pure, cl_lst, cl_dK, cx_ref, cx_str, cop_add, cb_len, cl_q, cm_append, cm_pop, pop_snoc, cm_extend, csrc, ctg, ixs, gc_ref, gc_ref0, e_dnew, e_get1, e_get2, cl_d, gd_ref, gd_str, cm_isin, cm_notin, intsK, e_sset, ssetK, b_sorted, m_insert, cb_sum, b_tuple_ref, b_tuple_tup, b_list_tup, b_list_ref, sl_tup, sl_ref, tr_tup, sizeLine_eq, Nat.reduceLeDiff, Int.reduceLT, Int.reduceLE, true_and, and_true, st_new0, st_newk, st_set0, st_setk, List.getElem?_cons_zero, List.getElem?_cons_succ, List.append_assoc, List.cons_append, List.nil_append, List.append_nil, List.length_append, List.length_cons, List.length_nil, Nat.zero_add, Nat.reduceAdd, List.set_cons_zero, List.set_cons_succ, stV, getV0, getVs, setV0, setVs]
        refine cl_of (law_draw_do h41 ev6.dice (by decide)) ?_
        rintro v M7 ⟨b, rfl, hb0, hb1, ev7⟩
        simp only [ss_nil, ss_cons, s_asgv, s_asgt, s_para, s_auga, s_exp, s_retE, s_retNon, s_if, s_while, s_fo, s_break, s_conti, s_ps, e_var, varK, e_int, e_bl, e_non, e_str, e_ty, e_bin, e_neg, e_cmp, e_chain, e_isN, e_notN, e_and, e_or, e_not, e_ite, e_call, e_callK, prm_some, e_bi, e_tup, e_lst, lstK, tupK, e_ix, e_sl, eo_none, eo_some, in_int, e_mt, e_bits, bt_int, ng_int, e_comp, e_gc, es_nil, es_cons, tg_var, tg_tup, tg_sub, tgs_nil, tgs_cons, it_list, it_tup, it_rng1, it_rng2, it_enum, src_tup, src_fro, src_rng, src_enum, op_add, op_sub, op_mul, op_fdiv, op_mod, op_pow, op_shl, op_shr, op_addt, cm_lt, cm_le, cm_gt, cm_ge, cm_eq, cm_ne, cm_eq_bl, cm_ne_bl, cm_eq_str, cm_ne_str, tr_bl, tr_int, tr_non, ch_bl, cond_dec, cond_not, cond_t, cond_f, cond_ne, au_add, au_sub, b_len_tup, b_int, b_int_bl, b_abs, b_max, b_min, at_some, x_tup, isi_non_int, isi_non_bool, isi_non_str, isi_non_tuple, isi_non_list, isi_non_dict, isi_bl_int, isi_bl_bool, isi_bl_str, isi_bl_tuple, isi_bl_list, isi_bl_dict, isi_int_int, isi_int_bool, isi_int_str, isi_int_tuple, isi_int_list, isi_int_dict, isi_str_int, isi_str_bool, isi_str_str, isi_str_tuple, isi_str_list, isi_str_dict, isi_tup_int, isi_tup_bool, isi_tup_str, isi_tup_tuple, isi_tup_list, isi_tup_dict, isi_fro_int, isi_fro_bool, isi_fro_str, isi_fro_tuple, isi_fro_list, isi_fro_dict, PV.isNon, eq_self, decide_true, Bool.not_true, Bool.not_false, sl_fro, gc_pure, cl_lst, cl_dK, cx_ref, cx_str, cop_add, cb_len, cl_q, cm_append, cm_pop, pop_snoc, cm_extend, csrc, ctg, ixs, gc_ref, gc_ref0, e_dnew, e_get1, e_get2, cl_d, gd_ref, gd_str, cm_isin, cm_notin, intsK, e_sset, ssetK, b_sorted, m_insert, cb_sum, b_tuple_ref, b_tuple_tup, b_list_tup, b_list_ref, sl_tup, sl_ref, tr_tup, sizeLine_eq, Nat.reduceLeDiff, Int.reduceLT, Int.reduceLE, true_and, and_true, st_new0, st_newk, st_set0, st_setk, List.getElem?_cons_zero, List.getElem?_cons_succ, List.append_assoc, List.cons_append, List.nil_append, List.append_nil, List.length_append, List.length_cons, List.length_nil, Nat.zero_add, Nat.reduceAdd, List.set_cons_zero, List.set_cons_succ, stV, getV0, getVs, setV0, setVs]
        refine fo_rule (fun i e B => ∃ (o3 : Option PV), e = [some (.fro ns), some (.ref 2), o2, o3, o4, o5, o6, o7, o8, some (.int (p : Int)), some (.int (q : Int)), some (.tup [.int 1, .int ((p * q : Nat) : Int), .tup [.int (p : Int), .int (q : Int)]]), none] ∧ B = ⟨M7⟩) ⟨o3, rfl, rfl⟩ (fun _ _ _ _ _ => rfl) ?_ ?_
        · rintro i x e M' hx ⟨o3, rfl, eM⟩
          cases eM
          have hxx : ∃ y : Nat, x = .int (y : Int) ∧ 0 < y ∧ y < 2 ^ 60 := by
            have hm := List.mem_of_getElem? hx
            simp only [List.mem_cons, List.not_mem_nil, or_false] at hm
            rcases hm with rfl | rfl
            · exact ⟨(1 + a).toNat, by congr 1; omega, by omega, by omega⟩
            · exact ⟨(1 + b).toNat, by congr 1; omega, by omega, by omega⟩
          obtain ⟨y, rfl, hy0, hy1⟩ := hxx
          simp only [ss_nil, ss_cons, s_asgv, s_asgt, s_para, s_auga, s_exp, s_retE, s_retNon, s_if, s_while, s_fo, s_break, s_conti, s_ps, e_var, varK, e_int, e_bl, e_non, e_str, e_ty, e_bin, e_neg, e_cmp, e_chain, e_isN, e_notN, e_and, e_or, e_not, e_ite, e_call, e_callK, prm_some, e_bi, e_tup, e_lst, lstK, tupK, e_ix, e_sl, eo_none, eo_some, in_int, e_mt, e_bits, bt_int, ng_int, e_comp, e_gc, es_nil, es_cons, tg_var, tg_tup, tg_sub, tgs_nil, tgs_cons, it_list, it_tup, it_rng1, it_rng2, it_enum, src_tup, src_fro, src_rng, src_enum, op_add, op_sub, op_mul, op_fdiv, op_mod, op_pow, op_shl, op_shr, op_addt, cm_lt, cm_le, cm_gt, cm_ge, cm_eq, cm_ne, cm_eq_bl, cm_ne_bl, cm_eq_str, cm_ne_str, tr_bl, tr_int, tr_non, ch_bl, cond_dec, cond_not, cond_t, cond_f, cond_ne, au_add, au_sub, b_len_tup, b_int, b_int_bl, b_abs, b_max, b_min, at_some, x_tup, isi_non_int, isi_non_bool, isi_non_str, isi_non_tuple, isi_non_list, isi_non_dict, isi_bl_int, isi_bl_bool, isi_bl_str, isi_bl_tuple, isi_bl_list, isi_bl_dict, isi_int_int, isi_int_bool, isi_int_str, isi_int_tuple, isi_int_list, isi_int_dict, isi_str_int, isi_str_bool, isi_str_str, isi_str_tuple, isi_str_list, isi_str_dict, isi_tup_int, isi_tup_bool, isi_tup_str, isi_tup_tuple, isi_tup_list, isi_tup_dict, isi_fro_int, isi_fro_bool, isi_fro_str, isi_fro_tuple, isi_fro_list, isi_fro_dict, PV.isNon, eq_self, decide_true, Bool.not_true, Bool.not_false, sl_fro, gc_pure, cl_lst, cl_dK, cx_ref, cx_str, cop_add, cb_len, cl_q, cm_append, cm_pop, pop_snoc, cm_extend, csrc, ctg, ixs, gc_ref, gc_ref0, e_dnew, e_get1, e_get2, cl_d, gd_ref, gd_str, cm_isin, cm_notin, intsK, e_sset, ssetK, b_sorted, m_insert, cb_sum, b_tuple_ref, b_tuple_tup, b_list_tup, b_list_ref, sl_tup, sl_ref, tr_tup, sizeLine_eq, Nat.reduceLeDiff, Int.reduceLT, Int.reduceLE, true_and, and_true, st_new0, st_newk, st_set0, st_setk, List.getElem?_cons_zero, List.getElem?_cons_succ, List.append_assoc, List.cons_append, List.nil_append, List.append_nil, List.length_append, List.length_cons, List.length_nil, Nat.zero_add, Nat.reduceAdd, List.set_cons_zero, List.set_cons_succ, stV, getV0, getVs, setV0, setVs, q_law_v2_f2]
          refine cl_of (law_divided_do (x := y) h42 hy0 hy1) ?_
          rintro v M8 ⟨rfl, f, k, qs, rfl, hk, hqs, _⟩
          simp only [ss_nil, ss_cons, s_asgv, s_asgt, s_para, s_auga, s_exp, s_retE, s_retNon, s_if, s_while, s_fo, s_break, s_conti, s_ps, e_var, varK, e_int, e_bl, e_non, e_str, e_ty, e_bin, e_neg, e_cmp, e_chain, e_isN, e_notN, e_and, e_or, e_not, e_ite, e_call, e_callK, prm_some, e_bi, e_tup, e_lst, lstK, tupK, e_ix, e_sl, eo_none, eo_some, in_int, e_mt, e_bits, bt_int, ng_int, e_comp, e_gc, es_nil, es_cons, tg_var, tg_tup, tg_sub, tgs_nil, tgs_cons, it_list, it_tup, it_rng1, it_rng2, it_enum, src_tup, src_fro, src_rng, src_enum, op_add, op_sub, op_mul, op_fdiv, op_mod, op_pow, op_shl, op_shr, op_addt, cm_lt, cm_le, cm_gt, cm_ge, cm_eq, cm_ne, cm_eq_bl, cm_ne_bl, cm_eq_str, cm_ne_str, tr_bl, tr_int, tr_non, ch_bl, cond_dec, cond_not, cond_t, cond_f, cond_ne, au_add, au_sub, b_len_tup, b_int, b_int_bl, b_abs, b_max, b_min, at_some, x_tup, isi_non_int, isi_non_bool, isi_non_str, isi_non_tuple, isi_non_list, isi_non_dict, isi_bl_int, isi_bl_bool, isi_bl_str, isi_bl_tuple, isi_bl_list, isi_bl_dict, isi_int_int, isi_int_bool, isi_int_str, isi_int_tuple, isi_int_list, isi_int_dict, isi_str_int, isi_str_bool, isi_str_str, isi_str_tuple, isi_str_list, isi_str_dict, isi_tup_int, isi_tup_bool, isi_tup_str, isi_tup_tuple, isi_tup_list, isi_tup_dict, isi_fro_int, isi_fro_bool, isi_fro_str, isi_fro_tuple, isi_fro_list, isi_fro_dict, PV.isNon, eq_self, decide_true, Bool.not_true, Bool.not_false, sl_fro, gc_pure, cl_lst, cl_dK, cx_ref, cx_str, cop_add, cb_len, cl_q, cm_append, cm_pop, pop_snoc, cm_extend, csrc, ctg, ixs, gc_ref, gc_ref0, e_dnew, e_get1, e_get2, cl_d, gd_ref, gd_str, cm_isin, cm_notin, intsK, e_sset, ssetK, b_sorted, m_insert, cb_sum, b_tuple_ref, b_tuple_tup, b_list_tup, b_list_ref, sl_tup, sl_ref, tr_tup, sizeLine_eq, Nat.reduceLeDiff, Int.reduceLT, Int.reduceLE, true_and, and_true, st_new0, st_newk, st_set0, st_setk, List.getElem?_cons_zero, List.getElem?_cons_succ, List.append_assoc, List.cons_append, List.nil_append, List.append_nil, List.length_append, List.length_cons, List.length_nil, Nat.zero_add, Nat.reduceAdd, List.set_cons_zero, List.set_cons_succ, stV, getV0, getVs, setV0, setVs]
          refine cl_of (law_told_do h0 h5 h13 h38 h39 h44 hy0 hy1 hk hqs) ?_
          rintro v M9 ⟨rfl, rfl⟩
          simp only [ss_nil, ss_cons, s_asgv, s_asgt, s_para, s_auga, s_exp, s_retE, s_retNon, s_if, s_while, s_fo, s_break, s_conti, s_ps, e_var, varK, e_int, e_bl, e_non, e_str, e_ty, e_bin, e_neg, e_cmp, e_chain, e_isN, e_notN, e_and, e_or, e_not, e_ite, e_call, e_callK, prm_some, e_bi, e_tup, e_lst, lstK, tupK, e_ix, e_sl, eo_none, eo_some, in_int, e_mt, e_bits, bt_int, ng_int, e_comp, e_gc, es_nil, es_cons, tg_var, tg_tup, tg_sub, tgs_nil, tgs_cons, it_list, it_tup, it_rng1, it_rng2, it_enum, src_tup, src_fro, src_rng, src_enum, op_add, op_sub, op_mul, op_fdiv, op_mod, op_pow, op_shl, op_shr, op_addt, cm_lt, cm_le, cm_gt, cm_ge, cm_eq, cm_ne, cm_eq_bl, cm_ne_bl, cm_eq_str, cm_ne_str, tr_bl, tr_int, tr_non, ch_bl, cond_dec, cond_not, cond_t, cond_f, cond_ne, au_add, au_sub, b_len_tup, b_int, b_int_bl, b_abs, b_max, b_min, at_some, x_tup, isi_non_int, isi_non_bool, isi_non_str, isi_non_tuple, isi_non_list, isi_non_dict, isi_bl_int, isi_bl_bool, isi_bl_str, isi_bl_tuple, isi_bl_list, isi_bl_dict, isi_int_int, isi_int_bool, isi_int_str, isi_int_tuple, isi_int_list, isi_int_dict, isi_str_int, isi_str_bool, isi_str_str, isi_str_tuple, isi_str_list, isi_str_dict, isi_tup_int, isi_tup_bool, isi_tup_str, isi_tup_tuple, isi_tup_list, isi_tup_dict, isi_fro_int, isi_fro_bool, isi_fro_str, isi_fro_tuple, isi_fro_list, isi_fro_dict, PV.isNon, eq_self, decide_true, Bool.not_true, Bool.not_false, sl_fro, gc_pure, cl_lst, cl_dK, cx_ref, cx_str, cop_add, cb_len, cl_q, cm_append, cm_pop, pop_snoc, cm_extend, csrc, ctg, ixs, gc_ref, gc_ref0, e_dnew, e_get1, e_get2, cl_d, gd_ref, gd_str, cm_isin, cm_notin, intsK, e_sset, ssetK, b_sorted, m_insert, cb_sum, b_tuple_ref, b_tuple_tup, b_list_tup, b_list_ref, sl_tup, sl_ref, tr_tup, sizeLine_eq, Nat.reduceLeDiff, Int.reduceLT, Int.reduceLE, true_and, and_true, st_new0, st_newk, st_set0, st_setk, List.getElem?_cons_zero, List.getElem?_cons_succ, List.append_assoc, List.cons_append, List.nil_append, List.append_nil, List.length_append, List.length_cons, List.length_nil, Nat.zero_add, Nat.reduceAdd, List.set_cons_zero, List.set_cons_succ, stV, getV0, getVs, setV0, setVs]
          exact ⟨_, rfl⟩
        · rintro e M' ⟨o3, rfl, eM⟩
          cases eM
          simp only [ss_nil, ss_cons, s_asgv, s_asgt, s_para, s_auga, s_exp, s_retE, s_retNon, s_if, s_while, s_fo, s_break, s_conti, s_ps, e_var, varK, e_int, e_bl, e_non, e_str, e_ty, e_bin, e_neg, e_cmp, e_chain, e_isN, e_notN, e_and, e_or, e_not, e_ite, e_call, e_callK, prm_some, e_bi, e_tup, e_lst, lstK, tupK, e_ix, e_sl, eo_none, eo_some, in_int, e_mt, e_bits, bt_int, ng_int, e_comp, e_gc, es_nil, es_cons, tg_var, tg_tup, tg_sub, tgs_nil, tgs_cons, it_list, it_tup, it_rng1, it_rng2, it_enum, src_tup, src_fro, src_rng, src_enum, op_add, op_sub, op_mul, op_fdiv, op_mod, op_pow, op_shl, op_shr, op_addt, cm_lt, cm_le, cm_gt, cm_ge, cm_eq, cm_ne, cm_eq_bl, cm_ne_bl, cm_eq_str, cm_ne_str, tr_bl, tr_int, tr_non, ch_bl, cond_dec, cond_not, cond_t, cond_f, cond_ne, au_add, au_sub, b_len_tup, b_int, b_int_bl, b_abs, b_max, b_min, at_some, x_tup, isi_non_int, isi_non_bool, isi_non_str, isi_non_tuple, isi_non_list, isi_non_dict, isi_bl_int, isi_bl_bool, isi_bl_str, isi_bl_tuple, isi_bl_list, isi_bl_dict, isi_int_int, isi_int_bool, isi_int_str, isi_int_tuple, isi_int_list, isi_int_dict, isi_str_int, isi_str_bool, isi_str_str, isi_str_tuple, isi_str_list, isi_str_dict, isi_tup_int, isi_tup_bool, isi_tup_str, isi_tup_tuple, isi_tup_list, isi_tup_dict, isi_fro_int, isi_fro_bool, isi_fro_str, isi_fro_tuple, isi_fro_list, isi_fro_dict, PV.isNon, eq_self, decide_true, Bool.not_true, Bool.not_false, sl_fro, gc_pure, cl_lst, cl_dK, cx_ref, cx_str, cop_add, cb_len, cl_q, cm_append, cm_pop, pop_snoc, cm_extend, csrc, ctg, ixs, gc_ref, gc_ref0, e_dnew, e_get1, e_get2, cl_d, gd_ref, gd_str, cm_isin, cm_notin, intsK, e_sset, ssetK, b_sorted, m_insert, cb_sum, b_tuple_ref, b_tuple_tup, b_list_tup, b_list_ref, sl_tup, sl_ref, tr_tup, sizeLine_eq, Nat.reduceLeDiff, Int.reduceLT, Int.reduceLE, true_and, and_true, st_new0, st_newk, st_set0, st_setk, List.getElem?_cons_zero, List.getElem?_cons_succ, List.append_assoc, List.cons_append, List.nil_append, List.append_nil, List.length_append, List.length_cons, List.length_nil, Nat.zero_add, Nat.reduceAdd, List.set_cons_zero, List.set_cons_succ, stV, getV0, getVs, setV0, setVs]
          refine cl_of (law_draw_do h41 ev7.dice (by decide)) ?_
          rintro v M8 ⟨z, rfl, hz0, hz1, ev8⟩
          simp only [ss_nil, ss_cons, s_asgv, s_asgt, s_para, s_auga, s_exp, s_retE, s_retNon, s_if, s_while, s_fo, s_break, s_conti, s_ps, e_var, varK, e_int, e_bl, e_non, e_str, e_ty, e_bin, e_neg, e_cmp, e_chain, e_isN, e_notN, e_and, e_or, e_not, e_ite, e_call, e_callK, prm_some, e_bi, e_tup, e_lst, lstK, tupK, e_ix, e_sl, eo_none, eo_some, in_int, e_mt, e_bits, bt_int, ng_int, e_comp, e_gc, es_nil, es_cons, tg_var, tg_tup, tg_sub, tgs_nil, tgs_cons, it_list, it_tup, it_rng1, it_rng2, it_enum, src_tup, src_fro, src_rng, src_enum, op_add, op_sub, op_mul, op_fdiv, op_mod, op_pow, op_shl, op_shr, op_addt, cm_lt, cm_le, cm_gt, cm_ge, cm_eq, cm_ne, cm_eq_bl, cm_ne_bl, cm_eq_str, cm_ne_str, tr_bl, tr_int, tr_non, ch_bl, cond_dec, cond_not, cond_t, cond_f, cond_ne, au_add, au_sub, b_len_tup, b_int, b_int_bl, b_abs, b_max, b_min, at_some, x_tup, isi_non_int, isi_non_bool, isi_non_str, isi_non_tuple, isi_non_list, isi_non_dict, isi_bl_int, isi_bl_bool, isi_bl_str, isi_bl_tuple, isi_bl_list, isi_bl_dict, isi_int_int, isi_int_bool, isi_int_str, isi_int_tuple, isi_int_list, isi_int_dict, isi_str_int, isi_str_bool, isi_str_str, isi_str_tuple, isi_str_list, isi_str_dict, isi_tup_int, isi_tup_bool, isi_tup_str, isi_tup_tuple, isi_tup_list, isi_tup_dict, isi_fro_int, isi_fro_bool, isi_fro_str, isi_fro_tuple, isi_fro_list, isi_fro_dict, PV.isNon, eq_self, decide_true, Bool.not_true, Bool.not_false, sl_fro, gc_pure, cl_lst, cl_dK, cx_ref, cx_str, cop_add, cb_len, cl_q, cm_append, cm_pop, pop_snoc, cm_extend, csrc, ctg, ixs, gc_ref, gc_ref0, e_dnew, e_get1, e_get2, cl_d, gd_ref, gd_str, cm_isin, cm_notin, intsK, e_sset, ssetK, b_sorted, m_insert, cb_sum, b_tuple_ref, b_tuple_tup, b_list_tup, b_list_ref, sl_tup, sl_ref, tr_tup, sizeLine_eq, Nat.reduceLeDiff, Int.reduceLT, Int.reduceLE, true_and, and_true, st_new0, st_newk, st_set0, st_setk, List.getElem?_cons_zero, List.getElem?_cons_succ, List.append_assoc, List.cons_append, List.nil_append, List.append_nil, List.length_append, List.length_cons, List.length_nil, Nat.zero_add, Nat.reduceAdd, List.set_cons_zero, List.set_cons_succ, stV, getV0, getVs, setV0, setVs]
          obtain ⟨r, hr⟩ : ∃ r : Nat, (1 + z) = (r : Int) := ⟨(1 + z).toNat, by omega⟩
          rw [hr]
          have rs : ((r : Nat) : Int).natAbs < 2 ^ 15 := abs_nat (by omega)
          refine ⟨cmul rs rs (by decide), ?_⟩
          refine cl_of (law_divided_do (x := r) h42 (by omega) (by omega)) ?_
          rintro v M9 ⟨rfl, f, k, qs, rfl, _, hqs, _⟩
          simp only [ss_nil, ss_cons, s_asgv, s_asgt, s_para, s_auga, s_exp, s_retE, s_retNon, s_if, s_while, s_fo, s_break, s_conti, s_ps, e_var, varK, e_int, e_bl, e_non, e_str, e_ty, e_bin, e_neg, e_cmp, e_chain, e_isN, e_notN, e_and, e_or, e_not, e_ite, e_call, e_callK, prm_some, e_bi, e_tup, e_lst, lstK, tupK, e_ix, e_sl, eo_none, eo_some, in_int, e_mt, e_bits, bt_int, ng_int, e_comp, e_gc, es_nil, es_cons, tg_var, tg_tup, tg_sub, tgs_nil, tgs_cons, it_list, it_tup, it_rng1, it_rng2, it_enum, src_tup, src_fro, src_rng, src_enum, op_add, op_sub, op_mul, op_fdiv, op_mod, op_pow, op_shl, op_shr, op_addt, cm_lt, cm_le, cm_gt, cm_ge, cm_eq, cm_ne, cm_eq_bl, cm_ne_bl, cm_eq_str, cm_ne_str, tr_bl, tr_int, tr_non, ch_bl, cond_dec, cond_not, cond_t, cond_f, cond_ne, au_add, au_sub, b_len_tup, b_int, b_int_bl, b_abs, b_max, b_min, at_some, x_tup, isi_non_int, isi_non_bool, isi_non_str, isi_non_tuple, isi_non_list, isi_non_dict, isi_bl_int, isi_bl_bool, isi_bl_str, isi_bl_tuple, isi_bl_list, isi_bl_dict, isi_int_int, isi_int_bool, isi_int_str, isi_int_tuple, isi_int_list, isi_int_dict, isi_str_int, isi_str_bool, isi_str_str, isi_str_tuple, isi_str_list, isi_str_dict, isi_tup_int, isi_tup_bool, isi_tup_str, isi_tup_tuple, isi_tup_list, isi_tup_dict, isi_fro_int, isi_fro_bool, isi_fro_str, isi_fro_tuple, isi_fro_list, isi_fro_dict, PV.isNon, eq_self, decide_true, Bool.not_true, Bool.not_false, sl_fro, gc_pure, cl_lst, cl_dK, cx_ref, cx_str, cop_add, cb_len, cl_q, cm_append, cm_pop, pop_snoc, cm_extend, csrc, ctg, ixs, gc_ref, gc_ref0, e_dnew, e_get1, e_get2, cl_d, gd_ref, gd_str, cm_isin, cm_notin, intsK, e_sset, ssetK, b_sorted, m_insert, cb_sum, b_tuple_ref, b_tuple_tup, b_list_tup, b_list_ref, sl_tup, sl_ref, tr_tup, sizeLine_eq, Nat.reduceLeDiff, Int.reduceLT, Int.reduceLE, true_and, and_true, st_new0, st_newk, st_set0, st_setk, List.getElem?_cons_zero, List.getElem?_cons_succ, List.append_assoc, List.cons_append, List.nil_append, List.append_nil, List.length_append, List.length_cons, List.length_nil, Nat.zero_add, Nat.reduceAdd, List.set_cons_zero, List.set_cons_succ, stV, getV0, getVs, setV0, setVs, at2]
          have e1 : (r : Int) * (r : Int) = ((r * r : Nat) : Int) := rfl
          have rr : r * r < 2 ^ 60 := by
            have := Nat.mul_le_mul (show r ≤ 30000 by omega) (show r ≤ 30000 by omega)
            omega
          rw [e1]
          refine cl_of (law_told_do (k := 1) h0 h5 h13 h38 h39 h44 (Nat.mul_pos (by omega) (by omega)) rr (ker_sq (by omega)) (ps_square hqs)) ?_
          rintro v M10 ⟨rfl, rfl⟩
          simp only [ss_nil, ss_cons, s_asgv, s_asgt, s_para, s_auga, s_exp, s_retE, s_retNon, s_if, s_while, s_fo, s_break, s_conti, s_ps, e_var, varK, e_int, e_bl, e_non, e_str, e_ty, e_bin, e_neg, e_cmp, e_chain, e_isN, e_notN, e_and, e_or, e_not, e_ite, e_call, e_callK, prm_some, e_bi, e_tup, e_lst, lstK, tupK, e_ix, e_sl, eo_none, eo_some, in_int, e_mt, e_bits, bt_int, ng_int, e_comp, e_gc, es_nil, es_cons, tg_var, tg_tup, tg_sub, tgs_nil, tgs_cons, it_list, it_tup, it_rng1, it_rng2, it_enum, src_tup, src_fro, src_rng, src_enum, op_add, op_sub, op_mul, op_fdiv, op_mod, op_pow, op_shl, op_shr, op_addt, cm_lt, cm_le, cm_gt, cm_ge, cm_eq, cm_ne, cm_eq_bl, cm_ne_bl, cm_eq_str, cm_ne_str, tr_bl, tr_int, tr_non, ch_bl, cond_dec, cond_not, cond_t, cond_f, cond_ne, au_add, au_sub, b_len_tup, b_int, b_int_bl, b_abs, b_max, b_min, at_some, x_tup, isi_non_int, isi_non_bool, isi_non_str, isi_non_tuple, isi_non_list, isi_non_dict, isi_bl_int, isi_bl_bool, isi_bl_str, isi_bl_tuple, isi_bl_list, isi_bl_dict, isi_int_int, isi_int_bool, isi_int_str, isi_int_tuple, isi_int_list, isi_int_dict, isi_str_int, isi_str_bool, isi_str_str, isi_str_tuple, isi_str_list, isi_str_dict, isi_tup_int, isi_tup_bool, isi_tup_str, isi_tup_tuple, isi_tup_list, isi_tup_dict, isi_fro_int, isi_fro_bool, isi_fro_str, isi_fro_tuple, isi_fro_list, isi_fro_dict, PV.isNon, eq_self, decide_true, Bool.not_true, Bool.not_false, sl_fro, gc_pure, cl_lst, cl_dK, cx_ref, cx_str, cop_add, cb_len, cl_q, cm_append, cm_pop, pop_snoc, cm_extend, csrc, ctg, ixs, gc_ref, gc_ref0, e_dnew, e_get1, e_get2, cl_d, gd_ref, gd_str, cm_isin, cm_notin, intsK, e_sset, ssetK, b_sorted, m_insert, cb_sum, b_tuple_ref, b_tuple_tup, b_list_tup, b_list_ref, sl_tup, sl_ref, tr_tup, sizeLine_eq, Nat.reduceLeDiff, Int.reduceLT, Int.reduceLE, true_and, and_true, st_new0, st_newk, st_set0, st_setk, List.getElem?_cons_zero, List.getElem?_cons_succ, List.append_assoc, List.cons_append, List.nil_append, List.append_nil, List.length_append, List.length_cons, List.length_nil, Nat.zero_add, Nat.reduceAdd, List.set_cons_zero, List.set_cons_succ, stV, getV0, getVs, setV0, setVs]
          refine cl_of (law_draw_do h41 ev8.dice (by decide)) ?_
          rintro v M11 ⟨y, rfl, hy0, hy1, ev11⟩
          simp only [ss_nil, ss_cons, s_asgv, s_asgt, s_para, s_auga, s_exp, s_retE, s_retNon, s_if, s_while, s_fo, s_break, s_conti, s_ps, e_var, varK, e_int, e_bl, e_non, e_str, e_ty, e_bin, e_neg, e_cmp, e_chain, e_isN, e_notN, e_and, e_or, e_not, e_ite, e_call, e_callK, prm_some, e_bi, e_tup, e_lst, lstK, tupK, e_ix, e_sl, eo_none, eo_some, in_int, e_mt, e_bits, bt_int, ng_int, e_comp, e_gc, es_nil, es_cons, tg_var, tg_tup, tg_sub, tgs_nil, tgs_cons, it_list, it_tup, it_rng1, it_rng2, it_enum, src_tup, src_fro, src_rng, src_enum, op_add, op_sub, op_mul, op_fdiv, op_mod, op_pow, op_shl, op_shr, op_addt, cm_lt, cm_le, cm_gt, cm_ge, cm_eq, cm_ne, cm_eq_bl, cm_ne_bl, cm_eq_str, cm_ne_str, tr_bl, tr_int, tr_non, ch_bl, cond_dec, cond_not, cond_t, cond_f, cond_ne, au_add, au_sub, b_len_tup, b_int, b_int_bl, b_abs, b_max, b_min, at_some, x_tup, isi_non_int, isi_non_bool, isi_non_str, isi_non_tuple, isi_non_list, isi_non_dict, isi_bl_int, isi_bl_bool, isi_bl_str, isi_bl_tuple, isi_bl_list, isi_bl_dict, isi_int_int, isi_int_bool, isi_int_str, isi_int_tuple, isi_int_list, isi_int_dict, isi_str_int, isi_str_bool, isi_str_str, isi_str_tuple, isi_str_list, isi_str_dict, isi_tup_int, isi_tup_bool, isi_tup_str, isi_tup_tuple, isi_tup_list, isi_tup_dict, isi_fro_int, isi_fro_bool, isi_fro_str, isi_fro_tuple, isi_fro_list, isi_fro_dict, PV.isNon, eq_self, decide_true, Bool.not_true, Bool.not_false, sl_fro, gc_pure, cl_lst, cl_dK, cx_ref, cx_str, cop_add, cb_len, cl_q, cm_append, cm_pop, pop_snoc, cm_extend, csrc, ctg, ixs, gc_ref, gc_ref0, e_dnew, e_get1, e_get2, cl_d, gd_ref, gd_str, cm_isin, cm_notin, intsK, e_sset, ssetK, b_sorted, m_insert, cb_sum, b_tuple_ref, b_tuple_tup, b_list_tup, b_list_ref, sl_tup, sl_ref, tr_tup, sizeLine_eq, Nat.reduceLeDiff, Int.reduceLT, Int.reduceLE, true_and, and_true, st_new0, st_newk, st_set0, st_setk, List.getElem?_cons_zero, List.getElem?_cons_succ, List.append_assoc, List.cons_append, List.nil_append, List.append_nil, List.length_append, List.length_cons, List.length_nil, Nat.zero_add, Nat.reduceAdd, List.set_cons_zero, List.set_cons_succ, stV, getV0, getVs, setV0, setVs]
          refine ⟨fun _ => ?_, fun _ => gc_val rfl⟩
          refine cl_of (law_draw_do h41 ev11.dice (by decide)) ?_
          rintro v M12 ⟨u, rfl, hu0, hu1, ev12⟩
          simp only [ss_nil, ss_cons, s_asgv, s_asgt, s_para, s_auga, s_exp, s_retE, s_retNon, s_if, s_while, s_fo, s_break, s_conti, s_ps, e_var, varK, e_int, e_bl, e_non, e_str, e_ty, e_bin, e_neg, e_cmp, e_chain, e_isN, e_notN, e_and, e_or, e_not, e_ite, e_call, e_callK, prm_some, e_bi, e_tup, e_lst, lstK, tupK, e_ix, e_sl, eo_none, eo_some, in_int, e_mt, e_bits, bt_int, ng_int, e_comp, e_gc, es_nil, es_cons, tg_var, tg_tup, tg_sub, tgs_nil, tgs_cons, it_list, it_tup, it_rng1, it_rng2, it_enum, src_tup, src_fro, src_rng, src_enum, op_add, op_sub, op_mul, op_fdiv, op_mod, op_pow, op_shl, op_shr, op_addt, cm_lt, cm_le, cm_gt, cm_ge, cm_eq, cm_ne, cm_eq_bl, cm_ne_bl, cm_eq_str, cm_ne_str, tr_bl, tr_int, tr_non, ch_bl, cond_dec, cond_not, cond_t, cond_f, cond_ne, au_add, au_sub, b_len_tup, b_int, b_int_bl, b_abs, b_max, b_min, at_some, x_tup, isi_non_int, isi_non_bool, isi_non_str, isi_non_tuple, isi_non_list, isi_non_dict, isi_bl_int, isi_bl_bool, isi_bl_str, isi_bl_tuple, isi_bl_list, isi_bl_dict, isi_int_int, isi_int_bool, isi_int_str, isi_int_tuple, isi_int_list, isi_int_dict, isi_str_int, isi_str_bool, isi_str_str, isi_str_tuple, isi_str_list, isi_str_dict, isi_tup_int, isi_tup_bool, isi_tup_str, isi_tup_tuple, isi_tup_list, isi_tup_dict, isi_fro_int, isi_fro_bool, isi_fro_str, isi_fro_tuple, isi_fro_list, isi_fro_dict, PV.isNon, eq_self, decide_true, Bool.not_true, Bool.not_false, sl_fro, gc_pure, cl_lst, cl_dK, cx_ref, cx_str, cop_add, cb_len, cl_q, cm_append, cm_pop, pop_snoc, cm_extend, csrc, ctg, ixs, gc_ref, gc_ref0, e_dnew, e_get1, e_get2, cl_d, gd_ref, gd_str, cm_isin, cm_notin, intsK, e_sset, ssetK, b_sorted, m_insert, cb_sum, b_tuple_ref, b_tuple_tup, b_list_tup, b_list_ref, sl_tup, sl_ref, tr_tup, sizeLine_eq, Nat.reduceLeDiff, Int.reduceLT, Int.reduceLE, true_and, and_true, st_new0, st_newk, st_set0, st_setk, List.getElem?_cons_zero, List.getElem?_cons_succ, List.append_assoc, List.cons_append, List.nil_append, List.append_nil, List.length_append, List.length_cons, List.length_nil, Nat.zero_add, Nat.reduceAdd, List.set_cons_zero, List.set_cons_succ, stV, getV0, getVs, setV0, setVs]
          obtain ⟨g, hg⟩ : ∃ g : Nat, (900000000 + u) = (g : Int) := ⟨(900000000 + u).toNat, by omega⟩
          rw [hg]
          refine cl_of (law_divided_do (x := g) h42 (by omega) (by omega)) ?_
          rintro v M13 ⟨rfl, f, k, qs, rfl, hk, hqs, _⟩
          simp only [ss_nil, ss_cons, s_asgv, s_asgt, s_para, s_auga, s_exp, s_retE, s_retNon, s_if, s_while, s_fo, s_break, s_conti, s_ps, e_var, varK, e_int, e_bl, e_non, e_str, e_ty, e_bin, e_neg, e_cmp, e_chain, e_isN, e_notN, e_and, e_or, e_not, e_ite, e_call, e_callK, prm_some, e_bi, e_tup, e_lst, lstK, tupK, e_ix, e_sl, eo_none, eo_some, in_int, e_mt, e_bits, bt_int, ng_int, e_comp, e_gc, es_nil, es_cons, tg_var, tg_tup, tg_sub, tgs_nil, tgs_cons, it_list, it_tup, it_rng1, it_rng2, it_enum, src_tup, src_fro, src_rng, src_enum, op_add, op_sub, op_mul, op_fdiv, op_mod, op_pow, op_shl, op_shr, op_addt, cm_lt, cm_le, cm_gt, cm_ge, cm_eq, cm_ne, cm_eq_bl, cm_ne_bl, cm_eq_str, cm_ne_str, tr_bl, tr_int, tr_non, ch_bl, cond_dec, cond_not, cond_t, cond_f, cond_ne, au_add, au_sub, b_len_tup, b_int, b_int_bl, b_abs, b_max, b_min, at_some, x_tup, isi_non_int, isi_non_bool, isi_non_str, isi_non_tuple, isi_non_list, isi_non_dict, isi_bl_int, isi_bl_bool, isi_bl_str, isi_bl_tuple, isi_bl_list, isi_bl_dict, isi_int_int, isi_int_bool, isi_int_str, isi_int_tuple, isi_int_list, isi_int_dict, isi_str_int, isi_str_bool, isi_str_str, isi_str_tuple, isi_str_list, isi_str_dict, isi_tup_int, isi_tup_bool, isi_tup_str, isi_tup_tuple, isi_tup_list, isi_tup_dict, isi_fro_int, isi_fro_bool, isi_fro_str, isi_fro_tuple, isi_fro_list, isi_fro_dict, PV.isNon, eq_self, decide_true, Bool.not_true, Bool.not_false, sl_fro, gc_pure, cl_lst, cl_dK, cx_ref, cx_str, cop_add, cb_len, cl_q, cm_append, cm_pop, pop_snoc, cm_extend, csrc, ctg, ixs, gc_ref, gc_ref0, e_dnew, e_get1, e_get2, cl_d, gd_ref, gd_str, cm_isin, cm_notin, intsK, e_sset, ssetK, b_sorted, m_insert, cb_sum, b_tuple_ref, b_tuple_tup, b_list_tup, b_list_ref, sl_tup, sl_ref, tr_tup, sizeLine_eq, Nat.reduceLeDiff, Int.reduceLT, Int.reduceLE, true_and, and_true, st_new0, st_newk, st_set0, st_setk, List.getElem?_cons_zero, List.getElem?_cons_succ, List.append_assoc, List.cons_append, List.nil_append, List.append_nil, List.length_append, List.length_cons, List.length_nil, Nat.zero_add, Nat.reduceAdd, List.set_cons_zero, List.set_cons_succ, stV, getV0, getVs, setV0, setVs]
          refine cl_of (law_told_do h0 h5 h13 h38 h39 h44 (by omega) (by omega) hk hqs) ?_
          rintro v M14 ⟨rfl, rfl⟩
          exact gc_val rfl
      · have hs : sortI [(p : Int), (q : Int)] = [(q : Int), (p : Int)] := sortI_gt (by omega)
        simp only [ss_nil, ss_cons, s_asgv, s_asgt, s_para, s_auga, s_exp, s_retE, s_retNon, s_if, s_while, s_fo, s_break, s_conti, s_ps, e_var, varK, e_int, e_bl, e_non, e_str, e_ty, e_bin, e_neg, e_cmp, e_chain, e_isN, e_notN, e_and, e_or, e_not, e_ite, e_call, e_callK, prm_some, e_bi, e_tup, e_lst, lstK, tupK, e_ix, e_sl, eo_none, eo_some, in_int, e_mt, e_bits, bt_int, ng_int, e_comp, e_gc, es_nil, es_cons, tg_var, tg_tup, tg_sub, tgs_nil, tgs_cons, it_list, it_tup, it_rng1, it_rng2, it_enum, src_tup, src_fro, src_rng, src_enum, op_add, op_sub, op_mul, op_fdiv, op_mod, op_pow, op_shl, op_shr, op_addt, cm_lt, cm_le, cm_gt, cm_ge, cm_eq, cm_ne, cm_eq_bl, cm_ne_bl, cm_eq_str, cm_ne_str, tr_bl, tr_int, tr_non, ch_bl, cond_dec, cond_not, cond_t, cond_f, cond_ne, au_add, au_sub, b_len_tup, b_int, b_int_bl, b_abs, b_max, b_min, at_some, x_tup, isi_non_int, isi_non_bool, isi_non_str, isi_non_tuple, isi_non_list, isi_non_dict, isi_bl_int, isi_bl_bool, isi_bl_str, isi_bl_tuple, isi_bl_list, isi_bl_dict, isi_int_int, isi_int_bool, isi_int_str, isi_int_tuple, isi_int_list, isi_int_dict, isi_str_int, isi_str_bool, isi_str_str, isi_str_tuple, isi_str_list, isi_str_dict, isi_tup_int, isi_tup_bool, isi_tup_str, isi_tup_tuple, isi_tup_list, isi_tup_dict, isi_fro_int, isi_fro_bool, isi_fro_str, isi_fro_tuple, isi_fro_list, isi_fro_dict, PV.isNon, eq_self, decide_true, Bool.not_true, Bool.not_false, sl_fro, gc_pure, cl_lst, cl_dK, cx_ref, cx_str, cop_add, cb_len, cl_q, cm_append, cm_pop, pop_snoc, cm_extend, csrc, ctg, ixs, gc_ref, gc_ref0, e_dnew, e_get1, e_get2, cl_d, gd_ref, gd_str, cm_isin, cm_notin, intsK, e_sset, ssetK, b_sorted, m_insert, cb_sum, b_tuple_ref, b_tuple_tup, b_list_tup, b_list_ref, sl_tup, sl_ref, tr_tup, sizeLine_eq, Nat.reduceLeDiff, Int.reduceLT, Int.reduceLE, true_and, and_true, st_new0, st_newk, st_set0, st_setk, List.getElem?_cons_zero, List.getElem?_cons_succ, List.append_assoc, List.cons_append, List.nil_append, List.append_nil, List.length_append, List.length_cons, List.length_nil, Nat.zero_add, Nat.reduceAdd, List.set_cons_zero, List.set_cons_succ, stV, getV0, getVs, setV0, setVs, hs, List.map_cons, List.map_nil]
        rw [gc_drop (by simp [PV.low, PV.lows])]
        simp only [ss_nil, ss_cons, s_asgv, s_asgt, s_para, s_auga, s_exp, s_retE, s_retNon, s_if, s_while, s_fo, s_break, s_conti, s_ps, e_var, varK, e_int, e_bl, e_non, e_str, e_ty, e_bin, e_neg, e_cmp, e_chain, e_isN, e_notN, e_and, e_or, e_not, e_ite, e_call, e_callK, prm_some, e_bi, e_tup, e_lst, lstK, tupK, e_ix, e_sl, eo_none, eo_some, in_int, e_mt, e_bits, bt_int, ng_int, e_comp, e_gc, es_nil, es_cons, tg_var, tg_tup, tg_sub, tgs_nil, tgs_cons, it_list, it_tup, it_rng1, it_rng2, it_enum, src_tup, src_fro, src_rng, src_enum, op_add, op_sub, op_mul, op_fdiv, op_mod, op_pow, op_shl, op_shr, op_addt, cm_lt, cm_le, cm_gt, cm_ge, cm_eq, cm_ne, cm_eq_bl, cm_ne_bl, cm_eq_str, cm_ne_str, tr_bl, tr_int, tr_non, ch_bl, cond_dec, cond_not, cond_t, cond_f, cond_ne, au_add, au_sub, b_len_tup, b_int, b_int_bl, b_abs, b_max, b_min, at_some, x_tup, isi_non_int, isi_non_bool, isi_non_str, isi_non_tuple, isi_non_list, isi_non_dict, isi_bl_int, isi_bl_bool, isi_bl_str, isi_bl_tuple, isi_bl_list, isi_bl_dict, isi_int_int, isi_int_bool, isi_int_str, isi_int_tuple, isi_int_list, isi_int_dict, isi_str_int, isi_str_bool, isi_str_str, isi_str_tuple, isi_str_list, isi_str_dict, isi_tup_int, isi_tup_bool, isi_tup_str, isi_tup_tuple, isi_tup_list, isi_tup_dict, isi_fro_int, isi_fro_bool, isi_fro_str, isi_fro_tuple, isi_fro_list, isi_fro_dict, PV.isNon, eq_self, decide_true, Bool.not_true, Bool.not_false, sl_fro, gc_pure, cl_lst, cl_dK, cx_ref, cx_str, cop_add, cb_len, cl_q, cm_append, cm_pop, pop_snoc, cm_extend, csrc, ctg, ixs, gc_ref, gc_ref0, e_dnew, e_get1, e_get2, cl_d, gd_ref, gd_str, cm_isin, cm_notin, intsK, e_sset, ssetK, b_sorted, m_insert, cb_sum, b_tuple_ref, b_tuple_tup, b_list_tup, b_list_ref, sl_tup, sl_ref, tr_tup, sizeLine_eq, Nat.reduceLeDiff, Int.reduceLT, Int.reduceLE, true_and, and_true, st_new0, st_newk, st_set0, st_setk, List.getElem?_cons_zero, List.getElem?_cons_succ, List.append_assoc, List.cons_append, List.nil_append, List.append_nil, List.length_append, List.length_cons, List.length_nil, Nat.zero_add, Nat.reduceAdd, List.set_cons_zero, List.set_cons_succ, stV, getV0, getVs, setV0, setVs]
        rw [epq]
        refine ⟨cmul ps' qs' (by decide), ?_⟩
        refine cl_of (law_told_do (f := 1) (k := p * q) (ps := [q, p]) h0 h5 h13 h38 h39 h44 hpq0 hpq (ker_prime2 hp hq (by omega)) (by rw [Nat.mul_comm]; exact ps_prime2 hq hp hlt)) ?_
        rintro v M5 ⟨rfl, rfl⟩
        simp only [ss_nil, ss_cons, s_asgv, s_asgt, s_para, s_auga, s_exp, s_retE, s_retNon, s_if, s_while, s_fo, s_break, s_conti, s_ps, e_var, varK, e_int, e_bl, e_non, e_str, e_ty, e_bin, e_neg, e_cmp, e_chain, e_isN, e_notN, e_and, e_or, e_not, e_ite, e_call, e_callK, prm_some, e_bi, e_tup, e_lst, lstK, tupK, e_ix, e_sl, eo_none, eo_some, in_int, e_mt, e_bits, bt_int, ng_int, e_comp, e_gc, es_nil, es_cons, tg_var, tg_tup, tg_sub, tgs_nil, tgs_cons, it_list, it_tup, it_rng1, it_rng2, it_enum, src_tup, src_fro, src_rng, src_enum, op_add, op_sub, op_mul, op_fdiv, op_mod, op_pow, op_shl, op_shr, op_addt, cm_lt, cm_le, cm_gt, cm_ge, cm_eq, cm_ne, cm_eq_bl, cm_ne_bl, cm_eq_str, cm_ne_str, tr_bl, tr_int, tr_non, ch_bl, cond_dec, cond_not, cond_t, cond_f, cond_ne, au_add, au_sub, b_len_tup, b_int, b_int_bl, b_abs, b_max, b_min, at_some, x_tup, isi_non_int, isi_non_bool, isi_non_str, isi_non_tuple, isi_non_list, isi_non_dict, isi_bl_int, isi_bl_bool, isi_bl_str, isi_bl_tuple, isi_bl_list, isi_bl_dict, isi_int_int, isi_int_bool, isi_int_str, isi_int_tuple, isi_int_list, isi_int_dict, isi_str_int, isi_str_bool, isi_str_str, isi_str_tuple, isi_str_list, isi_str_dict, isi_tup_int, isi_tup_bool, isi_tup_str, isi_tup_tuple, isi_tup_list, isi_tup_dict, isi_fro_int, isi_fro_bool, isi_fro_str, isi_fro_tuple, isi_fro_list, isi_fro_dict, PV.isNon, eq_self, decide_true, Bool.not_true, Bool.not_false, sl_fro, gc_pure, cl_lst, cl_dK, cx_ref, cx_str, cop_add, cb_len, cl_q, cm_append, cm_pop, pop_snoc, cm_extend, csrc, ctg, ixs, gc_ref, gc_ref0, e_dnew, e_get1, e_get2, cl_d, gd_ref, gd_str, cm_isin, cm_notin, intsK, e_sset, ssetK, b_sorted, m_insert, cb_sum, b_tuple_ref, b_tuple_tup, b_list_tup, b_list_ref, sl_tup, sl_ref, tr_tup, sizeLine_eq, Nat.reduceLeDiff, Int.reduceLT, Int.reduceLE, true_and, and_true, st_new0, st_newk, st_set0, st_setk, List.getElem?_cons_zero, List.getElem?_cons_succ, List.append_assoc, List.cons_append, List.nil_append, List.append_nil, List.length_append, List.length_cons, List.length_nil, Nat.zero_add, Nat.reduceAdd, List.set_cons_zero, List.set_cons_succ, stV, getV0, getVs, setV0, setVs]
        refine cl_of (law_draw_do h41 ev4.dice (by decide)) ?_
        rintro v M6 ⟨a, rfl, ha0, ha1, ev6⟩
        simp only [ss_nil, ss_cons, s_asgv, s_asgt, s_para, s_auga, s_exp, s_retE, s_retNon, s_if, s_while, s_fo, s_break, s_conti, s_ps, e_var, varK, e_int, e_bl, e_non, e_str, e_ty, e_bin, e_neg, e_cmp, e_chain, e_isN, e_notN, e_and, e_or, e_not, e_ite, e_call, e_callK, prm_some, e_bi, e_tup, e_lst, lstK, tupK, e_ix, e_sl, eo_none, eo_some, in_int, e_mt, e_bits, bt_int, ng_int, e_comp, e_gc, es_nil, es_cons, tg_var, tg_tup, tg_sub, tgs_nil, tgs_cons, it_list, it_tup, it_rng1, it_rng2, it_enum, src_tup, src_fro, src_rng, src_enum, op_add, op_sub, op_mul, op_fdiv, op_mod, op_pow, op_shl, op_shr, op_addt, cm_lt, cm_le, cm_gt, cm_ge, cm_eq, cm_ne, cm_eq_bl, cm_ne_bl, cm_eq_str, cm_ne_str, tr_bl, tr_int, tr_non, ch_bl, cond_dec, cond_not, cond_t, cond_f, cond_ne, au_add, au_sub, b_len_tup, b_int, b_int_bl, b_abs, b_max, b_min, at_some, x_tup, isi_non_int, isi_non_bool, isi_non_str, isi_non_tuple, isi_non_list, isi_non_dict, isi_bl_int, isi_bl_bool, isi_bl_str, isi_bl_tuple, isi_bl_list, isi_bl_dict, isi_int_int, isi_int_bool, isi_int_str, isi_int_tuple, isi_int_list, isi_int_dict, isi_str_int, isi_str_bool, isi_str_str, isi_str_tuple, isi_str_list, isi_str_dict, isi_tup_int, isi_tup_bool, isi_tup_str, isi_tup_tuple, isi_tup_list, isi_tup_dict, isi_fro_int, isi_fro_bool, isi_fro_str, isi_fro_tuple, isi_fro_list, isi_fro_dict, PV.isNon, eq_self, decide_true, Bool.not_true, Bool.not_false, sl_fro, gc_pure, cl_lst, cl_dK, cx_ref, cx_str, cop_add, cb_len, cl_q, cm_append, cm_pop, pop_snoc, cm_extend, csrc, ctg, ixs, gc_ref, gc_ref0, e_dnew, e_get1, e_get2, cl_d, gd_ref, gd_str, cm_isin, cm_notin, intsK, e_sset, ssetK, b_sorted, m_insert, cb_sum, b_tuple_ref, b_tuple_tup, b_list_tup, b_list_ref, sl_tup, sl_ref, tr_tup, sizeLine_eq, Nat.reduceLeDiff, Int.reduceLT, Int.reduceLE, true_and, and_true, st_new0, st_newk, st_set0, st_setk, List.getElem?_cons_zero, List.getElem?_cons_succ, List.append_assoc, List.cons_append, List.nil_append, List.append_nil, List.length_append, List.length_cons, List.length_nil, Nat.zero_add, Nat.reduceAdd, List.set_cons_zero, List.set_cons_succ, stV, getV0, getVs, setV0, setVs]
        refine cl_of (law_draw_do h41 ev6.dice (by decide)) ?_
        rintro v M7 ⟨b, rfl, hb0, hb1, ev7⟩
        simp only [ss_nil, ss_cons, s_asgv, s_asgt, s_para, s_auga, s_exp, s_retE, s_retNon, s_if, s_while, s_fo, s_break, s_conti, s_ps, e_var, varK, e_int, e_bl, e_non, e_str, e_ty, e_bin, e_neg, e_cmp, e_chain, e_isN, e_notN, e_and, e_or, e_not, e_ite, e_call, e_callK, prm_some, e_bi, e_tup, e_lst, lstK, tupK, e_ix, e_sl, eo_none, eo_some, in_int, e_mt, e_bits, bt_int, ng_int, e_comp, e_gc, es_nil, es_cons, tg_var, tg_tup, tg_sub, tgs_nil, tgs_cons, it_list, it_tup, it_rng1, it_rng2, it_enum, src_tup, src_fro, src_rng, src_enum, op_add, op_sub, op_mul, op_fdiv, op_mod, op_pow, op_shl, op_shr, op_addt, cm_lt, cm_le, cm_gt, cm_ge, cm_eq, cm_ne, cm_eq_bl, cm_ne_bl, cm_eq_str, cm_ne_str, tr_bl, tr_int, tr_non, ch_bl, cond_dec, cond_not, cond_t, cond_f, cond_ne, au_add, au_sub, b_len_tup, b_int, b_int_bl, b_abs, b_max, b_min, at_some, x_tup, isi_non_int, isi_non_bool, isi_non_str, isi_non_tuple, isi_non_list, isi_non_dict, isi_bl_int, isi_bl_bool, isi_bl_str, isi_bl_tuple, isi_bl_list, isi_bl_dict, isi_int_int, isi_int_bool, isi_int_str, isi_int_tuple, isi_int_list, isi_int_dict, isi_str_int, isi_str_bool, isi_str_str, isi_str_tuple, isi_str_list, isi_str_dict, isi_tup_int, isi_tup_bool, isi_tup_str, isi_tup_tuple, isi_tup_list, isi_tup_dict, isi_fro_int, isi_fro_bool, isi_fro_str, isi_fro_tuple, isi_fro_list, isi_fro_dict, PV.isNon, eq_self, decide_true, Bool.not_true, Bool.not_false, sl_fro, gc_pure, cl_lst, cl_dK, cx_ref, cx_str, cop_add, cb_len, cl_q, cm_append, cm_pop, pop_snoc, cm_extend, csrc, ctg, ixs, gc_ref, gc_ref0, e_dnew, e_get1, e_get2, cl_d, gd_ref, gd_str, cm_isin, cm_notin, intsK, e_sset, ssetK, b_sorted, m_insert, cb_sum, b_tuple_ref, b_tuple_tup, b_list_tup, b_list_ref, sl_tup, sl_ref, tr_tup, sizeLine_eq, Nat.reduceLeDiff, Int.reduceLT, Int.reduceLE, true_and, and_true, st_new0, st_newk, st_set0, st_setk, List.getElem?_cons_zero, List.getElem?_cons_succ, List.append_assoc, List.cons_append, List.nil_append, List.append_nil, List.length_append, List.length_cons, List.length_nil, Nat.zero_add, Nat.reduceAdd, List.set_cons_zero, List.set_cons_succ, stV, getV0, getVs, setV0, setVs]
        refine fo_rule (fun i e B => ∃ (o3 : Option PV), e = [some (.fro ns), some (.ref 2), o2, o3, o4, o5, o6, o7, o8, some (.int (p : Int)), some (.int (q : Int)), some (.tup [.int 1, .int ((p * q : Nat) : Int), .tup [.int (q : Int), .int (p : Int)]]), none] ∧ B = ⟨M7⟩) ⟨o3, rfl, rfl⟩ (fun _ _ _ _ _ => rfl) ?_ ?_
        · rintro i x e M' hx ⟨o3, rfl, eM⟩
          cases eM
          have hxx : ∃ y : Nat, x = .int (y : Int) ∧ 0 < y ∧ y < 2 ^ 60 := by
            have hm := List.mem_of_getElem? hx
            simp only [List.mem_cons, List.not_mem_nil, or_false] at hm
            rcases hm with rfl | rfl
            · exact ⟨(1 + a).toNat, by congr 1; omega, by omega, by omega⟩
            · exact ⟨(1 + b).toNat, by congr 1; omega, by omega, by omega⟩
          obtain ⟨y, rfl, hy0, hy1⟩ := hxx
          simp only [ss_nil, ss_cons, s_asgv, s_asgt, s_para, s_auga, s_exp, s_retE, s_retNon, s_if, s_while, s_fo, s_break, s_conti, s_ps, e_var, varK, e_int, e_bl, e_non, e_str, e_ty, e_bin, e_neg, e_cmp, e_chain, e_isN, e_notN, e_and, e_or, e_not, e_ite, e_call, e_callK, prm_some, e_bi, e_tup, e_lst, lstK, tupK, e_ix, e_sl, eo_none, eo_some, in_int, e_mt, e_bits, bt_int, ng_int, e_comp, e_gc, es_nil, es_cons, tg_var, tg_tup, tg_sub, tgs_nil, tgs_cons, it_list, it_tup, it_rng1, it_rng2, it_enum, src_tup, src_fro, src_rng, src_enum, op_add, op_sub, op_mul, op_fdiv, op_mod, op_pow, op_shl, op_shr, op_addt, cm_lt, cm_le, cm_gt, cm_ge, cm_eq, cm_ne, cm_eq_bl, cm_ne_bl, cm_eq_str, cm_ne_str, tr_bl, tr_int, tr_non, ch_bl, cond_dec, cond_not, cond_t, cond_f, cond_ne, au_add, au_sub, b_len_tup, b_int, b_int_bl, b_abs, b_max, b_min, at_some, x_tup, isi_non_int, isi_non_bool, isi_non_str, isi_non_tuple, isi_non_list, isi_non_dict, isi_bl_int, isi_bl_bool, isi_bl_str, isi_bl_tuple, isi_bl_list, isi_bl_dict, isi_int_int, isi_int_bool, isi_int_str, isi_int_tuple, isi_int_list, isi_int_dict, isi_str_int, isi_str_bool, isi_str_str, isi_str_tuple, isi_str_list, isi_str_dict, isi_tup_int, isi_tup_bool, isi_tup_str, isi_tup_tuple, isi_tup_list, isi_tup_dict, isi_fro_int, isi_fro_bool, isi_fro_str, isi_fro_tuple, isi_fro_list, isi_fro_dict, PV.isNon, eq_self, decide_true, Bool.not_true, Bool.not_false, sl_fro, gc_pure, cl_lst, cl_dK, cx_ref, cx_str, cop_add, cb_len, cl_q, cm_append, cm_pop, pop_snoc, cm_extend, csrc, ctg, ixs, gc_ref, gc_ref0, e_dnew, e_get1, e_get2, cl_d, gd_ref, gd_str, cm_isin, cm_notin, intsK, e_sset, ssetK, b_sorted, m_insert, cb_sum, b_tuple_ref, b_tuple_tup, b_list_tup, b_list_ref, sl_tup, sl_ref, tr_tup, sizeLine_eq, Nat.reduceLeDiff, Int.reduceLT, Int.reduceLE, true_and, and_true, st_new0, st_newk, st_set0, st_setk, List.getElem?_cons_zero, List.getElem?_cons_succ, List.append_assoc, List.cons_append, List.nil_append, List.append_nil, List.length_append, List.length_cons, List.length_nil, Nat.zero_add, Nat.reduceAdd, List.set_cons_zero, List.set_cons_succ, stV, getV0, getVs, setV0, setVs, q_law_v2_f2]
          refine cl_of (law_divided_do (x := y) h42 hy0 hy1) ?_
          rintro v M8 ⟨rfl, f, k, qs, rfl, hk, hqs, _⟩
          simp only [ss_nil, ss_cons, s_asgv, s_asgt, s_para, s_auga, s_exp, s_retE, s_retNon, s_if, s_while, s_fo, s_break, s_conti, s_ps, e_var, varK, e_int, e_bl, e_non, e_str, e_ty, e_bin, e_neg, e_cmp, e_chain, e_isN, e_notN, e_and, e_or, e_not, e_ite, e_call, e_callK, prm_some, e_bi, e_tup, e_lst, lstK, tupK, e_ix, e_sl, eo_none, eo_some, in_int, e_mt, e_bits, bt_int, ng_int, e_comp, e_gc, es_nil, es_cons, tg_var, tg_tup, tg_sub, tgs_nil, tgs_cons, it_list, it_tup, it_rng1, it_rng2, it_enum, src_tup, src_fro, src_rng, src_enum, op_add, op_sub, op_mul, op_fdiv, op_mod, op_pow, op_shl, op_shr, op_addt, cm_lt, cm_le, cm_gt, cm_ge, cm_eq, cm_ne, cm_eq_bl, cm_ne_bl, cm_eq_str, cm_ne_str, tr_bl, tr_int, tr_non, ch_bl, cond_dec, cond_not, cond_t, cond_f, cond_ne, au_add, au_sub, b_len_tup, b_int, b_int_bl, b_abs, b_max, b_min, at_some, x_tup, isi_non_int, isi_non_bool, isi_non_str, isi_non_tuple, isi_non_list, isi_non_dict, isi_bl_int, isi_bl_bool, isi_bl_str, isi_bl_tuple, isi_bl_list, isi_bl_dict, isi_int_int, isi_int_bool, isi_int_str, isi_int_tuple, isi_int_list, isi_int_dict, isi_str_int, isi_str_bool, isi_str_str, isi_str_tuple, isi_str_list, isi_str_dict, isi_tup_int, isi_tup_bool, isi_tup_str, isi_tup_tuple, isi_tup_list, isi_tup_dict, isi_fro_int, isi_fro_bool, isi_fro_str, isi_fro_tuple, isi_fro_list, isi_fro_dict, PV.isNon, eq_self, decide_true, Bool.not_true, Bool.not_false, sl_fro, gc_pure, cl_lst, cl_dK, cx_ref, cx_str, cop_add, cb_len, cl_q, cm_append, cm_pop, pop_snoc, cm_extend, csrc, ctg, ixs, gc_ref, gc_ref0, e_dnew, e_get1, e_get2, cl_d, gd_ref, gd_str, cm_isin, cm_notin, intsK, e_sset, ssetK, b_sorted, m_insert, cb_sum, b_tuple_ref, b_tuple_tup, b_list_tup, b_list_ref, sl_tup, sl_ref, tr_tup, sizeLine_eq, Nat.reduceLeDiff, Int.reduceLT, Int.reduceLE, true_and, and_true, st_new0, st_newk, st_set0, st_setk, List.getElem?_cons_zero, List.getElem?_cons_succ, List.append_assoc, List.cons_append, List.nil_append, List.append_nil, List.length_append, List.length_cons, List.length_nil, Nat.zero_add, Nat.reduceAdd, List.set_cons_zero, List.set_cons_succ, stV, getV0, getVs, setV0, setVs]
          refine cl_of (law_told_do h0 h5 h13 h38 h39 h44 hy0 hy1 hk hqs) ?_
          rintro v M9 ⟨rfl, rfl⟩
          simp only [ss_nil, ss_cons, s_asgv, s_asgt, s_para, s_auga, s_exp, s_retE, s_retNon, s_if, s_while, s_fo, s_break, s_conti, s_ps, e_var, varK, e_int, e_bl, e_non, e_str, e_ty, e_bin, e_neg, e_cmp, e_chain, e_isN, e_notN, e_and, e_or, e_not, e_ite, e_call, e_callK, prm_some, e_bi, e_tup, e_lst, lstK, tupK, e_ix, e_sl, eo_none, eo_some, in_int, e_mt, e_bits, bt_int, ng_int, e_comp, e_gc, es_nil, es_cons, tg_var, tg_tup, tg_sub, tgs_nil, tgs_cons, it_list, it_tup, it_rng1, it_rng2, it_enum, src_tup, src_fro, src_rng, src_enum, op_add, op_sub, op_mul, op_fdiv, op_mod, op_pow, op_shl, op_shr, op_addt, cm_lt, cm_le, cm_gt, cm_ge, cm_eq, cm_ne, cm_eq_bl, cm_ne_bl, cm_eq_str, cm_ne_str, tr_bl, tr_int, tr_non, ch_bl, cond_dec, cond_not, cond_t, cond_f, cond_ne, au_add, au_sub, b_len_tup, b_int, b_int_bl, b_abs, b_max, b_min, at_some, x_tup, isi_non_int, isi_non_bool, isi_non_str, isi_non_tuple, isi_non_list, isi_non_dict, isi_bl_int, isi_bl_bool, isi_bl_str, isi_bl_tuple, isi_bl_list, isi_bl_dict, isi_int_int, isi_int_bool, isi_int_str, isi_int_tuple, isi_int_list, isi_int_dict, isi_str_int, isi_str_bool, isi_str_str, isi_str_tuple, isi_str_list, isi_str_dict, isi_tup_int, isi_tup_bool, isi_tup_str, isi_tup_tuple, isi_tup_list, isi_tup_dict, isi_fro_int, isi_fro_bool, isi_fro_str, isi_fro_tuple, isi_fro_list, isi_fro_dict, PV.isNon, eq_self, decide_true, Bool.not_true, Bool.not_false, sl_fro, gc_pure, cl_lst, cl_dK, cx_ref, cx_str, cop_add, cb_len, cl_q, cm_append, cm_pop, pop_snoc, cm_extend, csrc, ctg, ixs, gc_ref, gc_ref0, e_dnew, e_get1, e_get2, cl_d, gd_ref, gd_str, cm_isin, cm_notin, intsK, e_sset, ssetK, b_sorted, m_insert, cb_sum, b_tuple_ref, b_tuple_tup, b_list_tup, b_list_ref, sl_tup, sl_ref, tr_tup, sizeLine_eq, Nat.reduceLeDiff, Int.reduceLT, Int.reduceLE, true_and, and_true, st_new0, st_newk, st_set0, st_setk, List.getElem?_cons_zero, List.getElem?_cons_succ, List.append_assoc, List.cons_append, List.nil_append, List.append_nil, List.length_append, List.length_cons, List.length_nil, Nat.zero_add, Nat.reduceAdd, List.set_cons_zero, List.set_cons_succ, stV, getV0, getVs, setV0, setVs]
          exact ⟨_, rfl⟩
        · rintro e M' ⟨o3, rfl, eM⟩
          cases eM
          simp only [ss_nil, ss_cons, s_asgv, s_asgt, s_para, s_auga, s_exp, s_retE, s_retNon, s_if, s_while, s_fo, s_break, s_conti, s_ps, e_var, varK, e_int, e_bl, e_non, e_str, e_ty, e_bin, e_neg, e_cmp, e_chain, e_isN, e_notN, e_and, e_or, e_not, e_ite, e_call, e_callK, prm_some, e_bi, e_tup, e_lst, lstK, tupK, e_ix, e_sl, eo_none, eo_some, in_int, e_mt, e_bits, bt_int, ng_int, e_comp, e_gc, es_nil, es_cons, tg_var, tg_tup, tg_sub, tgs_nil, tgs_cons, it_list, it_tup, it_rng1, it_rng2, it_enum, src_tup, src_fro, src_rng, src_enum, op_add, op_sub, op_mul, op_fdiv, op_mod, op_pow, op_shl, op_shr, op_addt, cm_lt, cm_le, cm_gt, cm_ge, cm_eq, cm_ne, cm_eq_bl, cm_ne_bl, cm_eq_str, cm_ne_str, tr_bl, tr_int, tr_non, ch_bl, cond_dec, cond_not, cond_t, cond_f, cond_ne, au_add, au_sub, b_len_tup, b_int, b_int_bl, b_abs, b_max, b_min, at_some, x_tup, isi_non_int, isi_non_bool, isi_non_str, isi_non_tuple, isi_non_list, isi_non_dict, isi_bl_int, isi_bl_bool, isi_bl_str, isi_bl_tuple, isi_bl_list, isi_bl_dict, isi_int_int, isi_int_bool, isi_int_str, isi_int_tuple, isi_int_list, isi_int_dict, isi_str_int, isi_str_bool, isi_str_str, isi_str_tuple, isi_str_list, isi_str_dict, isi_tup_int, isi_tup_bool, isi_tup_str, isi_tup_tuple, isi_tup_list, isi_tup_dict, isi_fro_int, isi_fro_bool, isi_fro_str, isi_fro_tuple, isi_fro_list, isi_fro_dict, PV.isNon, eq_self, decide_true, Bool.not_true, Bool.not_false, sl_fro, gc_pure, cl_lst, cl_dK, cx_ref, cx_str, cop_add, cb_len, cl_q, cm_append, cm_pop, pop_snoc, cm_extend, csrc, ctg, ixs, gc_ref, gc_ref0, e_dnew, e_get1, e_get2, cl_d, gd_ref, gd_str, cm_isin, cm_notin, intsK, e_sset, ssetK, b_sorted, m_insert, cb_sum, b_tuple_ref, b_tuple_tup, b_list_tup, b_list_ref, sl_tup, sl_ref, tr_tup, sizeLine_eq, Nat.reduceLeDiff, Int.reduceLT, Int.reduceLE, true_and, and_true, st_new0, st_newk, st_set0, st_setk, List.getElem?_cons_zero, List.getElem?_cons_succ, List.append_assoc, List.cons_append, List.nil_append, List.append_nil, List.length_append, List.length_cons, List.length_nil, Nat.zero_add, Nat.reduceAdd, List.set_cons_zero, List.set_cons_succ, stV, getV0, getVs, setV0, setVs]
          refine cl_of (law_draw_do h41 ev7.dice (by decide)) ?_
          rintro v M8 ⟨z, rfl, hz0, hz1, ev8⟩
          simp only [ss_nil, ss_cons, s_asgv, s_asgt, s_para, s_auga, s_exp, s_retE, s_retNon, s_if, s_while, s_fo, s_break, s_conti, s_ps, e_var, varK, e_int, e_bl, e_non, e_str, e_ty, e_bin, e_neg, e_cmp, e_chain, e_isN, e_notN, e_and, e_or, e_not, e_ite, e_call, e_callK, prm_some, e_bi, e_tup, e_lst, lstK, tupK, e_ix, e_sl, eo_none, eo_some, in_int, e_mt, e_bits, bt_int, ng_int, e_comp, e_gc, es_nil, es_cons, tg_var, tg_tup, tg_sub, tgs_nil, tgs_cons, it_list, it_tup, it_rng1, it_rng2, it_enum, src_tup, src_fro, src_rng, src_enum, op_add, op_sub, op_mul, op_fdiv, op_mod, op_pow, op_shl, op_shr, op_addt, cm_lt, cm_le, cm_gt, cm_ge, cm_eq, cm_ne, cm_eq_bl, cm_ne_bl, cm_eq_str, cm_ne_str, tr_bl, tr_int, tr_non, ch_bl, cond_dec, cond_not, cond_t, cond_f, cond_ne, au_add, au_sub, b_len_tup, b_int, b_int_bl, b_abs, b_max, b_min, at_some, x_tup, isi_non_int, isi_non_bool, isi_non_str, isi_non_tuple, isi_non_list, isi_non_dict, isi_bl_int, isi_bl_bool, isi_bl_str, isi_bl_tuple, isi_bl_list, isi_bl_dict, isi_int_int, isi_int_bool, isi_int_str, isi_int_tuple, isi_int_list, isi_int_dict, isi_str_int, isi_str_bool, isi_str_str, isi_str_tuple, isi_str_list, isi_str_dict, isi_tup_int, isi_tup_bool, isi_tup_str, isi_tup_tuple, isi_tup_list, isi_tup_dict, isi_fro_int, isi_fro_bool, isi_fro_str, isi_fro_tuple, isi_fro_list, isi_fro_dict, PV.isNon, eq_self, decide_true, Bool.not_true, Bool.not_false, sl_fro, gc_pure, cl_lst, cl_dK, cx_ref, cx_str, cop_add, cb_len, cl_q, cm_append, cm_pop, pop_snoc, cm_extend, csrc, ctg, ixs, gc_ref, gc_ref0, e_dnew, e_get1, e_get2, cl_d, gd_ref, gd_str, cm_isin, cm_notin, intsK, e_sset, ssetK, b_sorted, m_insert, cb_sum, b_tuple_ref, b_tuple_tup, b_list_tup, b_list_ref, sl_tup, sl_ref, tr_tup, sizeLine_eq, Nat.reduceLeDiff, Int.reduceLT, Int.reduceLE, true_and, and_true, st_new0, st_newk, st_set0, st_setk, List.getElem?_cons_zero, List.getElem?_cons_succ, List.append_assoc, List.cons_append, List.nil_append, List.append_nil, List.length_append, List.length_cons, List.length_nil, Nat.zero_add, Nat.reduceAdd, List.set_cons_zero, List.set_cons_succ, stV, getV0, getVs, setV0, setVs]
          obtain ⟨r, hr⟩ : ∃ r : Nat, (1 + z) = (r : Int) := ⟨(1 + z).toNat, by omega⟩
          rw [hr]
          have rs : ((r : Nat) : Int).natAbs < 2 ^ 15 := abs_nat (by omega)
          refine ⟨cmul rs rs (by decide), ?_⟩
          refine cl_of (law_divided_do (x := r) h42 (by omega) (by omega)) ?_
          rintro v M9 ⟨rfl, f, k, qs, rfl, _, hqs, _⟩
          simp only [ss_nil, ss_cons, s_asgv, s_asgt, s_para, s_auga, s_exp, s_retE, s_retNon, s_if, s_while, s_fo, s_break, s_conti, s_ps, e_var, varK, e_int, e_bl, e_non, e_str, e_ty, e_bin, e_neg, e_cmp, e_chain, e_isN, e_notN, e_and, e_or, e_not, e_ite, e_call, e_callK, prm_some, e_bi, e_tup, e_lst, lstK, tupK, e_ix, e_sl, eo_none, eo_some, in_int, e_mt, e_bits, bt_int, ng_int, e_comp, e_gc, es_nil, es_cons, tg_var, tg_tup, tg_sub, tgs_nil, tgs_cons, it_list, it_tup, it_rng1, it_rng2, it_enum, src_tup, src_fro, src_rng, src_enum, op_add, op_sub, op_mul, op_fdiv, op_mod, op_pow, op_shl, op_shr, op_addt, cm_lt, cm_le, cm_gt, cm_ge, cm_eq, cm_ne, cm_eq_bl, cm_ne_bl, cm_eq_str, cm_ne_str, tr_bl, tr_int, tr_non, ch_bl, cond_dec, cond_not, cond_t, cond_f, cond_ne, au_add, au_sub, b_len_tup, b_int, b_int_bl, b_abs, b_max, b_min, at_some, x_tup, isi_non_int, isi_non_bool, isi_non_str, isi_non_tuple, isi_non_list, isi_non_dict, isi_bl_int, isi_bl_bool, isi_bl_str, isi_bl_tuple, isi_bl_list, isi_bl_dict, isi_int_int, isi_int_bool, isi_int_str, isi_int_tuple, isi_int_list, isi_int_dict, isi_str_int, isi_str_bool, isi_str_str, isi_str_tuple, isi_str_list, isi_str_dict, isi_tup_int, isi_tup_bool, isi_tup_str, isi_tup_tuple, isi_tup_list, isi_tup_dict, isi_fro_int, isi_fro_bool, isi_fro_str, isi_fro_tuple, isi_fro_list, isi_fro_dict, PV.isNon, eq_self, decide_true, Bool.not_true, Bool.not_false, sl_fro, gc_pure, cl_lst, cl_dK, cx_ref, cx_str, cop_add, cb_len, cl_q, cm_append, cm_pop, pop_snoc, cm_extend, csrc, ctg, ixs, gc_ref, gc_ref0, e_dnew, e_get1, e_get2, cl_d, gd_ref, gd_str, cm_isin, cm_notin, intsK, e_sset, ssetK, b_sorted, m_insert, cb_sum, b_tuple_ref, b_tuple_tup, b_list_tup, b_list_ref, sl_tup, sl_ref, tr_tup, sizeLine_eq, Nat.reduceLeDiff, Int.reduceLT, Int.reduceLE, true_and, and_true, st_new0, st_newk, st_set0, st_setk, List.getElem?_cons_zero, List.getElem?_cons_succ, List.append_assoc, List.cons_append, List.nil_append, List.append_nil, List.length_append, List.length_cons, List.length_nil, Nat.zero_add, Nat.reduceAdd, List.set_cons_zero, List.set_cons_succ, stV, getV0, getVs, setV0, setVs, at2]
          have e1 : (r : Int) * (r : Int) = ((r * r : Nat) : Int) := rfl
          have rr : r * r < 2 ^ 60 := by
            have := Nat.mul_le_mul (show r ≤ 30000 by omega) (show r ≤ 30000 by omega)
            omega
          rw [e1]
          refine cl_of (law_told_do (k := 1) h0 h5 h13 h38 h39 h44 (Nat.mul_pos (by omega) (by omega)) rr (ker_sq (by omega)) (ps_square hqs)) ?_
          rintro v M10 ⟨rfl, rfl⟩
          simp only [ss_nil, ss_cons, s_asgv, s_asgt, s_para, s_auga, s_exp, s_retE, s_retNon, s_if, s_while, s_fo, s_break, s_conti, s_ps, e_var, varK, e_int, e_bl, e_non, e_str, e_ty, e_bin, e_neg, e_cmp, e_chain, e_isN, e_notN, e_and, e_or, e_not, e_ite, e_call, e_callK, prm_some, e_bi, e_tup, e_lst, lstK, tupK, e_ix, e_sl, eo_none, eo_some, in_int, e_mt, e_bits, bt_int, ng_int, e_comp, e_gc, es_nil, es_cons, tg_var, tg_tup, tg_sub, tgs_nil, tgs_cons, it_list, it_tup, it_rng1, it_rng2, it_enum, src_tup, src_fro, src_rng, src_enum, op_add, op_sub, op_mul, op_fdiv, op_mod, op_pow, op_shl, op_shr, op_addt, cm_lt, cm_le, cm_gt, cm_ge, cm_eq, cm_ne, cm_eq_bl, cm_ne_bl, cm_eq_str, cm_ne_str, tr_bl, tr_int, tr_non, ch_bl, cond_dec, cond_not, cond_t, cond_f, cond_ne, au_add, au_sub, b_len_tup, b_int, b_int_bl, b_abs, b_max, b_min, at_some, x_tup, isi_non_int, isi_non_bool, isi_non_str, isi_non_tuple, isi_non_list, isi_non_dict, isi_bl_int, isi_bl_bool, isi_bl_str, isi_bl_tuple, isi_bl_list, isi_bl_dict, isi_int_int, isi_int_bool, isi_int_str, isi_int_tuple, isi_int_list, isi_int_dict, isi_str_int, isi_str_bool, isi_str_str, isi_str_tuple, isi_str_list, isi_str_dict, isi_tup_int, isi_tup_bool, isi_tup_str, isi_tup_tuple, isi_tup_list, isi_tup_dict, isi_fro_int, isi_fro_bool, isi_fro_str, isi_fro_tuple, isi_fro_list, isi_fro_dict, PV.isNon, eq_self, decide_true, Bool.not_true, Bool.not_false, sl_fro, gc_pure, cl_lst, cl_dK, cx_ref, cx_str, cop_add, cb_len, cl_q, cm_append, cm_pop, pop_snoc, cm_extend, csrc, ctg, ixs, gc_ref, gc_ref0, e_dnew, e_get1, e_get2, cl_d, gd_ref, gd_str, cm_isin, cm_notin, intsK, e_sset, ssetK, b_sorted, m_insert, cb_sum, b_tuple_ref, b_tuple_tup, b_list_tup, b_list_ref, sl_tup, sl_ref, tr_tup, sizeLine_eq, Nat.reduceLeDiff, Int.reduceLT, Int.reduceLE, true_and, and_true, st_new0, st_newk, st_set0, st_setk, List.getElem?_cons_zero, List.getElem?_cons_succ, List.append_assoc, List.cons_append, List.nil_append, List.append_nil, List.length_append, List.length_cons, List.length_nil, Nat.zero_add, Nat.reduceAdd, List.set_cons_zero, List.set_cons_succ, stV, getV0, getVs, setV0, setVs]
          refine cl_of (law_draw_do h41 ev8.dice (by decide)) ?_
          rintro v M11 ⟨y, rfl, hy0, hy1, ev11⟩
          simp only [ss_nil, ss_cons, s_asgv, s_asgt, s_para, s_auga, s_exp, s_retE, s_retNon, s_if, s_while, s_fo, s_break, s_conti, s_ps, e_var, varK, e_int, e_bl, e_non, e_str, e_ty, e_bin, e_neg, e_cmp, e_chain, e_isN, e_notN, e_and, e_or, e_not, e_ite, e_call, e_callK, prm_some, e_bi, e_tup, e_lst, lstK, tupK, e_ix, e_sl, eo_none, eo_some, in_int, e_mt, e_bits, bt_int, ng_int, e_comp, e_gc, es_nil, es_cons, tg_var, tg_tup, tg_sub, tgs_nil, tgs_cons, it_list, it_tup, it_rng1, it_rng2, it_enum, src_tup, src_fro, src_rng, src_enum, op_add, op_sub, op_mul, op_fdiv, op_mod, op_pow, op_shl, op_shr, op_addt, cm_lt, cm_le, cm_gt, cm_ge, cm_eq, cm_ne, cm_eq_bl, cm_ne_bl, cm_eq_str, cm_ne_str, tr_bl, tr_int, tr_non, ch_bl, cond_dec, cond_not, cond_t, cond_f, cond_ne, au_add, au_sub, b_len_tup, b_int, b_int_bl, b_abs, b_max, b_min, at_some, x_tup, isi_non_int, isi_non_bool, isi_non_str, isi_non_tuple, isi_non_list, isi_non_dict, isi_bl_int, isi_bl_bool, isi_bl_str, isi_bl_tuple, isi_bl_list, isi_bl_dict, isi_int_int, isi_int_bool, isi_int_str, isi_int_tuple, isi_int_list, isi_int_dict, isi_str_int, isi_str_bool, isi_str_str, isi_str_tuple, isi_str_list, isi_str_dict, isi_tup_int, isi_tup_bool, isi_tup_str, isi_tup_tuple, isi_tup_list, isi_tup_dict, isi_fro_int, isi_fro_bool, isi_fro_str, isi_fro_tuple, isi_fro_list, isi_fro_dict, PV.isNon, eq_self, decide_true, Bool.not_true, Bool.not_false, sl_fro, gc_pure, cl_lst, cl_dK, cx_ref, cx_str, cop_add, cb_len, cl_q, cm_append, cm_pop, pop_snoc, cm_extend, csrc, ctg, ixs, gc_ref, gc_ref0, e_dnew, e_get1, e_get2, cl_d, gd_ref, gd_str, cm_isin, cm_notin, intsK, e_sset, ssetK, b_sorted, m_insert, cb_sum, b_tuple_ref, b_tuple_tup, b_list_tup, b_list_ref, sl_tup, sl_ref, tr_tup, sizeLine_eq, Nat.reduceLeDiff, Int.reduceLT, Int.reduceLE, true_and, and_true, st_new0, st_newk, st_set0, st_setk, List.getElem?_cons_zero, List.getElem?_cons_succ, List.append_assoc, List.cons_append, List.nil_append, List.append_nil, List.length_append, List.length_cons, List.length_nil, Nat.zero_add, Nat.reduceAdd, List.set_cons_zero, List.set_cons_succ, stV, getV0, getVs, setV0, setVs]
          refine ⟨fun _ => ?_, fun _ => gc_val rfl⟩
          refine cl_of (law_draw_do h41 ev11.dice (by decide)) ?_
          rintro v M12 ⟨u, rfl, hu0, hu1, ev12⟩
          simp only [ss_nil, ss_cons, s_asgv, s_asgt, s_para, s_auga, s_exp, s_retE, s_retNon, s_if, s_while, s_fo, s_break, s_conti, s_ps, e_var, varK, e_int, e_bl, e_non, e_str, e_ty, e_bin, e_neg, e_cmp, e_chain, e_isN, e_notN, e_and, e_or, e_not, e_ite, e_call, e_callK, prm_some, e_bi, e_tup, e_lst, lstK, tupK, e_ix, e_sl, eo_none, eo_some, in_int, e_mt, e_bits, bt_int, ng_int, e_comp, e_gc, es_nil, es_cons, tg_var, tg_tup, tg_sub, tgs_nil, tgs_cons, it_list, it_tup, it_rng1, it_rng2, it_enum, src_tup, src_fro, src_rng, src_enum, op_add, op_sub, op_mul, op_fdiv, op_mod, op_pow, op_shl, op_shr, op_addt, cm_lt, cm_le, cm_gt, cm_ge, cm_eq, cm_ne, cm_eq_bl, cm_ne_bl, cm_eq_str, cm_ne_str, tr_bl, tr_int, tr_non, ch_bl, cond_dec, cond_not, cond_t, cond_f, cond_ne, au_add, au_sub, b_len_tup, b_int, b_int_bl, b_abs, b_max, b_min, at_some, x_tup, isi_non_int, isi_non_bool, isi_non_str, isi_non_tuple, isi_non_list, isi_non_dict, isi_bl_int, isi_bl_bool, isi_bl_str, isi_bl_tuple, isi_bl_list, isi_bl_dict, isi_int_int, isi_int_bool, isi_int_str, isi_int_tuple, isi_int_list, isi_int_dict, isi_str_int, isi_str_bool, isi_str_str, isi_str_tuple, isi_str_list, isi_str_dict, isi_tup_int, isi_tup_bool, isi_tup_str, isi_tup_tuple, isi_tup_list, isi_tup_dict, isi_fro_int, isi_fro_bool, isi_fro_str, isi_fro_tuple, isi_fro_list, isi_fro_dict, PV.isNon, eq_self, decide_true, Bool.not_true, Bool.not_false, sl_fro, gc_pure, cl_lst, cl_dK, cx_ref, cx_str, cop_add, cb_len, cl_q, cm_append, cm_pop, pop_snoc, cm_extend, csrc, ctg, ixs, gc_ref, gc_ref0, e_dnew, e_get1, e_get2, cl_d, gd_ref, gd_str, cm_isin, cm_notin, intsK, e_sset, ssetK, b_sorted, m_insert, cb_sum, b_tuple_ref, b_tuple_tup, b_list_tup, b_list_ref, sl_tup, sl_ref, tr_tup, sizeLine_eq, Nat.reduceLeDiff, Int.reduceLT, Int.reduceLE, true_and, and_true, st_new0, st_newk, st_set0, st_setk, List.getElem?_cons_zero, List.getElem?_cons_succ, List.append_assoc, List.cons_append, List.nil_append, List.append_nil, List.length_append, List.length_cons, List.length_nil, Nat.zero_add, Nat.reduceAdd, List.set_cons_zero, List.set_cons_succ, stV, getV0, getVs, setV0, setVs]
          obtain ⟨g, hg⟩ : ∃ g : Nat, (900000000 + u) = (g : Int) := ⟨(900000000 + u).toNat, by omega⟩
          rw [hg]
          refine cl_of (law_divided_do (x := g) h42 (by omega) (by omega)) ?_
          rintro v M13 ⟨rfl, f, k, qs, rfl, hk, hqs, _⟩
          simp only [ss_nil, ss_cons, s_asgv, s_asgt, s_para, s_auga, s_exp, s_retE, s_retNon, s_if, s_while, s_fo, s_break, s_conti, s_ps, e_var, varK, e_int, e_bl, e_non, e_str, e_ty, e_bin, e_neg, e_cmp, e_chain, e_isN, e_notN, e_and, e_or, e_not, e_ite, e_call, e_callK, prm_some, e_bi, e_tup, e_lst, lstK, tupK, e_ix, e_sl, eo_none, eo_some, in_int, e_mt, e_bits, bt_int, ng_int, e_comp, e_gc, es_nil, es_cons, tg_var, tg_tup, tg_sub, tgs_nil, tgs_cons, it_list, it_tup, it_rng1, it_rng2, it_enum, src_tup, src_fro, src_rng, src_enum, op_add, op_sub, op_mul, op_fdiv, op_mod, op_pow, op_shl, op_shr, op_addt, cm_lt, cm_le, cm_gt, cm_ge, cm_eq, cm_ne, cm_eq_bl, cm_ne_bl, cm_eq_str, cm_ne_str, tr_bl, tr_int, tr_non, ch_bl, cond_dec, cond_not, cond_t, cond_f, cond_ne, au_add, au_sub, b_len_tup, b_int, b_int_bl, b_abs, b_max, b_min, at_some, x_tup, isi_non_int, isi_non_bool, isi_non_str, isi_non_tuple, isi_non_list, isi_non_dict, isi_bl_int, isi_bl_bool, isi_bl_str, isi_bl_tuple, isi_bl_list, isi_bl_dict, isi_int_int, isi_int_bool, isi_int_str, isi_int_tuple, isi_int_list, isi_int_dict, isi_str_int, isi_str_bool, isi_str_str, isi_str_tuple, isi_str_list, isi_str_dict, isi_tup_int, isi_tup_bool, isi_tup_str, isi_tup_tuple, isi_tup_list, isi_tup_dict, isi_fro_int, isi_fro_bool, isi_fro_str, isi_fro_tuple, isi_fro_list, isi_fro_dict, PV.isNon, eq_self, decide_true, Bool.not_true, Bool.not_false, sl_fro, gc_pure, cl_lst, cl_dK, cx_ref, cx_str, cop_add, cb_len, cl_q, cm_append, cm_pop, pop_snoc, cm_extend, csrc, ctg, ixs, gc_ref, gc_ref0, e_dnew, e_get1, e_get2, cl_d, gd_ref, gd_str, cm_isin, cm_notin, intsK, e_sset, ssetK, b_sorted, m_insert, cb_sum, b_tuple_ref, b_tuple_tup, b_list_tup, b_list_ref, sl_tup, sl_ref, tr_tup, sizeLine_eq, Nat.reduceLeDiff, Int.reduceLT, Int.reduceLE, true_and, and_true, st_new0, st_newk, st_set0, st_setk, List.getElem?_cons_zero, List.getElem?_cons_succ, List.append_assoc, List.cons_append, List.nil_append, List.append_nil, List.length_append, List.length_cons, List.length_nil, Nat.zero_add, Nat.reduceAdd, List.set_cons_zero, List.set_cons_succ, stV, getV0, getVs, setV0, setVs]
          refine cl_of (law_told_do h0 h5 h13 h38 h39 h44 (by omega) (by omega) hk hqs) ?_
          rintro v M14 ⟨rfl, rfl⟩
          exact gc_val rfl
end Q

namespace Q
open PySem PySem.Spec PyProof.Rows L2
abbrev R : PySem.W.OpenRow := PySem.W.OpenLaw.row PySem.Challenge.rw_surdways_k02_kernels
abbrev hk : PySem.W.Hook := He.hookD 4 (factsOf ds free) (ds.map DD.D)
def ob (s : PySem.W.SharedT) : He.AlD := He.obsDG 4 (factsOf ds free) (ds.map DD.D) (HandSHeadRun.getT s)
theorem ob_eq (s : PySem.W.SharedT) : ob s = hk.obs s.abs := He.obsDG_eq (HandSHeadRun.getT_eq s)
def loose : List Str := ["whole_root", "kernel_of", "is_squarefree", "primes_in", "_law_dice", "_law_draw", "_law_same", "_law_divided", "_law_made", "_law_told"]
theorem run (w : World) : HandSHeadRun.RunEq R (PySem.W.view R.prog [13]) hk ob 1000 loose w := by
  intro os
  kernel_rfl
theorem k02_law (ns : List Int) (h1 : ns.length ≤ 63) (h2 : ∀ z ∈ ns, Builtin.Int.intBits z ≤ 1048576) : ∃ M', den (tabs ds) (19 + 1) 45 [.fro ns] [] = .ok (.bl true) M' := by
  obtain ⟨v, M, e, h⟩ := (law_do (ns := ns) (n := 13) h1).out.out
  exact ⟨M, by rw [← h]; exact e⟩
end Q
open PySem PySem.W PySem.Calls PyProof.Rows
theorem PySem.Challenge.cw_surdways_k02_kernels_holds : PySem.Challenge.rw_surdways_k02_kernels.Holds := by
  w_on; o_law
  refine HandSHeadRun.head_any (r := OpenLaw.row PySem.Challenge.rw_surdways_k02_kernels) (q := view (OpenLaw.row PySem.Challenge.rw_surdways_k02_kernels).prog [13]) (H := Q.hk) (ob := Q.ob) (M := 1000) (loose := Q.loose) (d := HandSHeadRun.topDef (OpenLaw.row PySem.Challenge.rw_surdways_k02_kernels).prog 13) (kwd := []) Q.ob_eq
    (by kernel_rfl) (fun s => by kernel_rfl) Q.run (by kernel_rfl) (by kernel_rfl) (by kernel_rfl) (by rfl) (by first | assumption | decide +kernel) (by decide +kernel) ⟨rfl, rfl, rfl, rfl, rfl, by decide +kernel⟩ ?hw ?hc
  case hw => w_witness2
  case hc =>
    exact Q.walk_q (l := PySem.Challenge.rw_surdways_k02_kernels) (m := 63) (n := 19) (x := "script") (dl := Q.dq_law_v2) (fl := 45) (ds := Q.ds) (free := Q.free) rfl (by decide) (by kernel_rfl) ⟨rfl, by decide, by decide⟩ (fun w h y => y) (by kernel_rfl) rfl rfl Q.all_ok Q.all_bd Q.k02_law

