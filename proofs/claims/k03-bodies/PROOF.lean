import PyProof.Rows.All
import Wide.All
import OpenK.AllK
import Wide.FinOn
import HandS.ForMost
import HandS.Flow
import HandS.FStr
import HandS.TupAny
import HandS.Steps
import HandS.ForExc
import HandS.ExcInit
import HandS.ExcField
import HandS.Zip
import HandS.OwnEq
import HandS.IsInst
import HandS.CallRecv
import HandS.TryMany
import HandS.Style
import HandS.ExcIs
import HandS.CallLocal
import KE.KExcIs
import KE.KStateDown
import HandS.More
import HandS.Defaults
import HandS.Head0
import HandS.Head1
import HandS.Head2
import HandS.HeadEnd
import HandS.HeadHook1
import HandS.HeadHook2
import HandS.NoneIn
import PySem.Challenge.RW_nestkeys_k03_bodies_alike
set_option Elab.async false
set_option linter.all false
set_option maxRecDepth 100000
set_option autoImplicit false
namespace FM
open PySem PySem.Spec PyProof.Rows L2

/-! ### data -/
inductive Dt where
  | non | bl (b : Bool) | int (i : Int) | str (x : Str) | lst (xs : List Dt) | tup (xs : List Dt)
  | dct (ks : List L2.Key) (vs : List Dt) | ins (c : Nat) (fs : List Dt) | glo (i : Nat) | scr (xs : List Dt)
/-- a value: data, or a cell -/
inductive Vl where
  | d (d : Dt) | ref (k : Nat)
instance : Coe Dt Vl := ⟨.d⟩
/-- what may change -/
inductive Cell where
  | lst (ds : List Dt)
  | ins (c : Nat) (fs : List Dt)
  | dct (ks : List L2.Key) (vs : List Dt)
abbrev Cells := List (Option Cell)
/-- the tables of a law: its classes, their fields, the things of its top -/
structure Tab where
  K : PySem.W.Frag
  ca : Nat → Addr
  cf : Nat → List Str
  ga : Nat → Addr

mutual
inductive DR (T : Tab) (I : Hp) : V → Dt → Prop
  | non : DR T I .non .non
  | bl (b : Bool) : DR T I (.bl b) (.bl b)
  | int (i : Int) : DR T I (.int i) (.int i)
  | str (x : Str) : DR T I (.str x) (.str x)
  | glo (i : Nat) : DR T I (.ref (T.ga i)) (.glo i)
  | lst {a : Addr} {xs : List V} {ds : List Dt} : I a = some (.lst xs) → DRs T I xs ds → DR T I (.ref a) (.lst ds)
  | scr {a : Addr} {xs : List V} {ds : List Dt} : SqL T.K I a xs → DRs T I xs ds → DR T I (.ref a) (.scr ds)
  | tup {a : Addr} {xs : List V} {ds : List Dt} : SqT T.K I a xs → DRs T I xs ds → DR T I (.ref a) (.tup ds)
  | dct {a : Addr} {ks : List L2.Key} {xs : List V} {ds : List Dt} : I a = some (.dK (ks.zip xs)) → ks.length = xs.length → DRs T I xs ds → DR T I (.ref a) (.dct ks ds)
  | ins {a dx : Addr} {c : Nat} {xs : List V} {ds : List Dt} : I a = some (.ins (T.ca c) dx ((T.cf c).zip xs)) → xs.length = (T.cf c).length → DRs T I xs ds → DR T I (.ref a) (.ins c ds)
inductive DRs (T : Tab) (I : Hp) : List V → List Dt → Prop
  | nil : DRs T I [] []
  | cons {v : V} {vs : List V} {d : Dt} {ds : List Dt} : DR T I v d → DRs T I vs ds → DRs T I (v :: vs) (d :: ds)
end

theorem same_rd {H H' : Hp} {a : Addr} {u : HO} (e : Same H H') (h : Rd H a u) : Rd H' a u := by
  rcases h with h | ⟨o, h⟩
  · exact .inl (e _ _ h)
  · exact .inr ⟨o, e _ _ h⟩
theorem same_l {K : PySem.W.Frag} {H H' : Hp} {a : Addr} {xs : List V} (e : Same H H') (h : SqL K H a xs) : SqL K H' a xs := by
  rcases h with h | h
  · exact .inl (same_rd e h)
  · exact .inr h
theorem same_t {K : PySem.W.Frag} {H H' : Hp} {a : Addr} {xs : List V} (e : Same H H') (h : SqT K H a xs) : SqT K H' a xs := by
  rcases h with h | h
  · exact .inl (same_rd e h)
  · exact .inr h
theorem pre_get {α : Type} {A A' : List α} (p : A <+: A') {k : Nat} {a : α} (h : A[k]? = some a) : A'[k]? = some a := by
  obtain ⟨t, rfl⟩ := p
  obtain ⟨hl, _⟩ := List.getElem?_eq_some_iff.mp h
  rw [List.getElem?_append_left hl]
  exact h
/-- what is known has grown -/
structure Up (I I' : Hp) (A A' : List Addr) : Prop where
  i : Same I I'
  a : A <+: A'
theorem Up.refl {I : Hp} {A : List Addr} : Up I I A A := ⟨Same.refl I, List.prefix_refl A⟩
theorem Up.trans {I I1 I2 : Hp} {A A1 A2 : List Addr} (h : Up I I1 A A1) (k : Up I1 I2 A1 A2) : Up I I2 A A2 := ⟨h.i.trans k.i, h.a.trans k.a⟩

mutual
theorem DR.mono {T : Tab} {I I' : Hp} (e : Same I I') : ∀ {v : V} {d : Dt}, DR T I v d → DR T I' v d
  | _, _, .non => .non
  | _, _, .bl b => .bl b
  | _, _, .int i => .int i
  | _, _, .str x => .str x
  | _, _, .glo i => .glo i
  | _, _, .lst h hs => .lst (e _ _ h) (DRs.mono e hs)
  | _, _, .scr h hs => .scr (same_l e h) (DRs.mono e hs)
  | _, _, .tup h hs => .tup (same_t e h) (DRs.mono e hs)
  | _, _, .dct h hl hs => .dct (e _ _ h) hl (DRs.mono e hs)
  | _, _, .ins h hl hs => .ins (e _ _ h) hl (DRs.mono e hs)
theorem DRs.mono {T : Tab} {I I' : Hp} (e : Same I I') : ∀ {vs : List V} {ds : List Dt}, DRs T I vs ds → DRs T I' vs ds
  | _, _, .nil => .nil
  | _, _, .cons h t => .cons (DR.mono e h) (DRs.mono e t)
end
inductive VR (T : Tab) (I : Hp) (A : List Addr) : V → Vl → Prop
  | d {v : V} {d : Dt} : DR T I v d → VR T I A v (.d d)
  | ref {k : Nat} {a : Addr} : A[k]? = some a → VR T I A (.ref a) (.ref k)
inductive VRs (T : Tab) (I : Hp) (A : List Addr) : List V → List Vl → Prop
  | nil : VRs T I A [] []
  | cons {v : V} {vs : List V} {d : Vl} {ds : List Vl} : VR T I A v d → VRs T I A vs ds → VRs T I A (v :: vs) (d :: ds)
theorem VR.mono {T : Tab} {I I' : Hp} {A A' : List Addr} (e : Up I I' A A') {v : V} {d : Vl} (h : VR T I A v d) : VR T I' A' v d := by
  cases h with
  | d h => exact .d (h.mono e.i)
  | ref h => exact .ref (pre_get e.a h)
theorem VR.dat {T : Tab} {I : Hp} {A : List Addr} {v : V} {d : Dt} (h : VR T I A v (.d d)) : DR T I v d := by cases h; assumption
theorem VR.cel {T : Tab} {I : Hp} {A : List Addr} {v : V} {k : Nat} (h : VR T I A v (.ref k)) : ∃ a, v = .ref a ∧ A[k]? = some a := by
  cases h with | ref h => exact ⟨_, rfl, h⟩
theorem VRs.mono {T : Tab} {I I' : Hp} {A A' : List Addr} (e : Up I I' A A') {vs : List V} {ds : List Vl} (h : VRs T I A vs ds) : VRs T I' A' vs ds := by
  induction vs generalizing ds with
  | nil => cases h; exact .nil
  | cons v vs ih => cases h with | cons a t => exact .cons (a.mono e) (ih t)
section
variable {T : Tab} {I : Hp} {A : List Addr}
theorem VRs.len {vs : List V} {ds : List Vl} (h : VRs T I A vs ds) : vs.length = ds.length := by
  induction vs generalizing ds with
  | nil => cases h; rfl
  | cons v vs ih => cases h with | cons _ t => rw [List.length_cons, List.length_cons, ih t]
theorem VRs.app {vs ws : List V} {ds es : List Vl} (h : VRs T I A vs ds) (h2 : VRs T I A ws es) : VRs T I A (vs ++ ws) (ds ++ es) := by
  induction vs generalizing ds with
  | nil => cases h; exact h2
  | cons v vs ih => cases h with | cons a t => exact .cons a (ih t)
theorem VRs.split {vs ws : List V} {ds es : List Vl} (hl : vs.length = ds.length) (h : VRs T I A (vs ++ ws) (ds ++ es)) : VRs T I A vs ds ∧ VRs T I A ws es := by
  induction vs generalizing ds with
  | nil =>
    cases ds with
    | nil => exact ⟨.nil, h⟩
    | cons d ds => cases hl
  | cons v vs ih =>
    cases ds with
    | nil => cases hl
    | cons d ds =>
      cases h with
      | cons a t =>
        obtain ⟨p, q⟩ := ih (by simpa using hl) t
        exact ⟨.cons a p, q⟩
theorem VRs.get {vs : List V} {ds : List Vl} {i : Nat} {d : Vl} (h : VRs T I A vs ds) (e : ds[i]? = some d) : ∃ v, vs[i]? = some v ∧ VR T I A v d := by
  induction vs generalizing ds i with
  | nil => cases h; simp at e
  | cons v vs ih =>
    cases h with
    | cons a t =>
      cases i with
      | zero => simp at e; subst e; exact ⟨v, rfl, a⟩
      | succ i => obtain ⟨u, h1, h2⟩ := ih t (i := i) (by simpa using e); exact ⟨u, by simpa using h1, h2⟩
end
/-- all of them data -/
def dats : List Vl → Option (List Dt)
  | [] => some []
  | .d d :: r => (dats r).map (d :: ·)
  | _ :: _ => none
theorem VRs.dats {T : Tab} {I : Hp} {A : List Addr} {vs : List V} {ds : List Vl} {es : List Dt} (h : VRs T I A vs ds) (e : FM.dats ds = some es) : DRs T I vs es := by
  induction vs generalizing ds es with
  | nil => cases h; cases e; exact .nil
  | cons v vs ih =>
    cases h with
    | @cons _ _ d ds a t =>
      cases d with
      | ref k => cases e
      | d d =>
        cases q : FM.dats ds with
        | none => simp [FM.dats, q] at e
        | some r =>
          simp [FM.dats, q] at e
          subst e
          exact .cons a.dat (ih t q)
section
variable {T : Tab} {I : Hp}
theorem DRs.len {vs : List V} {ds : List Dt} (h : DRs T I vs ds) : vs.length = ds.length := by
  induction vs generalizing ds with
  | nil => cases h; rfl
  | cons v vs ih => cases h with | cons _ t => rw [List.length_cons, List.length_cons, ih t]
theorem DRs.app {vs ws : List V} {ds es : List Dt} (h : DRs T I vs ds) (h2 : DRs T I ws es) : DRs T I (vs ++ ws) (ds ++ es) := by
  induction vs generalizing ds with
  | nil => cases h; exact h2
  | cons v vs ih => cases h with | cons a t => exact .cons a (ih t)
theorem DRs.split {vs ws : List V} {ds es : List Dt} (hl : vs.length = ds.length) (h : DRs T I (vs ++ ws) (ds ++ es)) : DRs T I vs ds ∧ DRs T I ws es := by
  induction vs generalizing ds with
  | nil =>
    cases ds with
    | nil => exact ⟨.nil, h⟩
    | cons d ds => cases hl
  | cons v vs ih =>
    cases ds with
    | nil => cases hl
    | cons d ds =>
      cases h with
      | cons a t =>
        obtain ⟨p, q⟩ := ih (by simpa using hl) t
        exact ⟨.cons a p, q⟩
theorem DRs.get {vs : List V} {ds : List Dt} {i : Nat} {d : Dt} (h : DRs T I vs ds) (e : ds[i]? = some d) : ∃ v, vs[i]? = some v ∧ DR T I v d := by
  induction vs generalizing ds i with
  | nil => cases h; simp at e
  | cons v vs ih =>
    cases h with
    | cons a t =>
      cases i with
      | zero => simp at e; subst e; exact ⟨v, rfl, a⟩
      | succ i => obtain ⟨u, h1, h2⟩ := ih t (i := i) (by simpa using e); exact ⟨u, by simpa using h1, h2⟩
theorem DRs.getV {vs : List V} {ds : List Dt} {i : Nat} {v : V} (h : DRs T I vs ds) (e : vs[i]? = some v) : ∃ d, ds[i]? = some d ∧ DR T I v d := by
  induction vs generalizing ds i with
  | nil => simp at e
  | cons v vs ih =>
    cases h with
    | cons a t =>
      cases i with
      | zero => simp at e; subst e; exact ⟨_, rfl, a⟩
      | succ i => obtain ⟨u, h1, h2⟩ := ih t (i := i) (by simpa using e); exact ⟨u, by simpa using h1, h2⟩
theorem DRs.set {vs : List V} {ds : List Dt} {v : V} {d : Dt} (h : DRs T I vs ds) (hv : DR T I v d) (i : Nat) : DRs T I (vs.set i v) (ds.set i d) := by
  induction vs generalizing ds i with
  | nil => cases h; exact .nil
  | cons w vs ih =>
    cases h with
    | cons a t =>
      cases i with
      | zero => exact .cons hv t
      | succ i => exact .cons a (ih t i)
theorem DRs.take {vs : List V} {ds : List Dt} (h : DRs T I vs ds) (n : Nat) : DRs T I (vs.take n) (ds.take n) := by
  induction vs generalizing ds n with
  | nil => cases h; simp; exact .nil
  | cons w vs ih =>
    cases h with
    | cons a t =>
      cases n with
      | zero => exact .nil
      | succ n => exact .cons a (ih t n)
theorem DRs.drop {vs : List V} {ds : List Dt} (h : DRs T I vs ds) (n : Nat) : DRs T I (vs.drop n) (ds.drop n) := by
  induction vs generalizing ds n with
  | nil => cases h; simp; exact .nil
  | cons w vs ih =>
    cases h with
    | cons a t =>
      cases n with
      | zero => exact .cons a t
      | succ n => exact ih t n
theorem DRs.rev {vs : List V} {ds : List Dt} (h : DRs T I vs ds) : DRs T I vs.reverse ds.reverse := by
  induction vs generalizing ds with
  | nil => cases h; exact .nil
  | cons v vs ih =>
    cases h with
    | cons a t =>
      rw [List.reverse_cons, List.reverse_cons]
      exact (ih t).app (.cons a .nil)
theorem DRs.one {v : V} {d : Dt} (h : DR T I v d) : DRs T I [v] [d] := .cons h .nil
theorem DRs.one_inv {vs : List V} {d : Dt} (h : DRs T I vs [d]) : ∃ v, vs = [v] ∧ DR T I v d := by
  cases h with | cons a t => cases t; exact ⟨_, rfl, a⟩
theorem DRs.two_inv {vs : List V} {d e : Dt} (h : DRs T I vs [d, e]) : ∃ v w, vs = [v, w] ∧ DR T I v d ∧ DR T I w e := by
  cases h with | cons a t => cases t with | cons b t => cases t; exact ⟨_, _, rfl, a, b⟩
end

/-! ### cells, the state -/
def CellOk (T : Tab) (I H : Hp) (a : Addr) : Cell → Prop
  | .lst ds => ∃ vs, H a = some (.lst vs) ∧ DRs T I vs ds
  | .ins c ds => ∃ dx vs, H a = some (.ins (T.ca c) dx ((T.cf c).zip vs)) ∧ vs.length ≤ (T.cf c).length ∧ DRs T I vs ds
  | .dct ks ds => ∃ vs, H a = some (.dK (ks.zip vs)) ∧ ks.length = vs.length ∧ DRs T I vs ds
theorem CellOk.mono {T : Tab} {I H I' H' : Hp} {a : Addr} {c : Cell} (h : CellOk T I H a c) (e : Same I I') (k : ∀ o, H a = some o → H' a = some o) : CellOk T I' H' a c := by
  cases c with
  | lst ds => obtain ⟨vs, h1, h2⟩ := h; exact ⟨vs, k _ h1, h2.mono e⟩
  | ins c ds => obtain ⟨dx, vs, h1, h2, h3⟩ := h; exact ⟨dx, vs, k _ h1, h2, h3.mono e⟩
  | dct ks ds => obtain ⟨vs, h1, h2, h3⟩ := h; exact ⟨vs, k _ h1, h2, h3.mono e⟩
/-- what stands beside: things that may change, which nobody here names -/
abbrev Frm := List (Addr × HO)
structure Base (T : Tab) (F : Frm) (I H : Hp) (A : List Addr) (m : Cells) : Prop where
  sub : Same I H
  fm : ∀ q ∈ F, H q.1 = some q.2 ∧ q.1 ∉ A ∧ I q.1 = none
  fnd : (F.map (·.1)).Nodup
  len : A.length = m.length
  nd : A.Nodup
  al : ∀ a ∈ A, H a ≠ none
  fr : ∀ (k : Nat) (c : Cell) (a : Addr), m[k]? = some (some c) → A[k]? = some a → I a = none
  ok : ∀ (k : Nat) (c : Cell) (a : Addr), m[k]? = some (some c) → A[k]? = some a → CellOk T I H a c
abbrev Gam := List (Option Vl)
structure Ctx (T : Tab) (I : Hp) (A : List Addr) (σ : L2.St) (g : Gam) : Prop where
  len : σ.length = g.length
  look : ∀ (i : Nat) (d : Vl), g[i]? = some (some d) → ∃ v, σ[i]? = some (some v) ∧ VR T I A v d
theorem Ctx.mono {T : Tab} {I I' : Hp} {A A' : List Addr} {σ : L2.St} {g : Gam} (h : Ctx T I A σ g) (e : Up I I' A A') : Ctx T I' A' σ g := ⟨h.len, fun i d q => by
  obtain ⟨v, h1, h2⟩ := h.look i d q
  exact ⟨v, h1, h2.mono e⟩⟩
theorem Ctx.set {T : Tab} {I : Hp} {A : List Addr} {σ : L2.St} {g : Gam} {i : Nat} {v : V} {d : Vl} (h : Ctx T I A σ g) (hv : VR T I A v d) : Ctx T I A (σ.set i (some v)) (g.set i (some d)) := ⟨by rw [List.length_set, List.length_set, h.len], fun j e q => by
  by_cases hj : i = j
  · subst hj
    have hl : i < g.length := by
      by_cases hl : i < g.length
      · exact hl
      · rw [List.getElem?_eq_none (by rw [List.length_set]; omega)] at q
        cases q
    rw [List.getElem?_set_self hl] at q
    rw [List.getElem?_set_self (by rw [h.len]; exact hl)]
    cases q
    exact ⟨v, rfl, hv⟩
  · rw [List.getElem?_set_ne hj] at q
    rw [List.getElem?_set_ne hj]
    exact h.look j e q⟩
theorem Ctx.drop {T : Tab} {I : Hp} {A : List Addr} {σ : L2.St} {g : Gam} {i : Nat} (h : Ctx T I A σ g) {x : Option V} : Ctx T I A (σ.set i x) (g.set i none) := ⟨by rw [List.length_set, List.length_set, h.len], fun j e q => by
  by_cases hj : i = j
  · subst hj
    by_cases hl : i < g.length
    · rw [List.getElem?_set_self hl] at q
      cases q
    · rw [List.getElem?_eq_none (by rw [List.length_set]; omega)] at q
      cases q
  · rw [List.getElem?_set_ne hj] at q
    rw [List.getElem?_set_ne hj]
    exact h.look j e q⟩
/-- the caught exception: its slot, its address, its dict, its class, its fields -/
structure Xc where
  i : Nat
  a : Addr
  d : Addr
  c : Nat
  ds : List Dt
def XcOk (T : Tab) (I : Hp) (A : List Addr) (σ : L2.St) : Option Xc → Prop
  | none => True
  | some z => σ[z.i]? = some (some (.ref z.a)) ∧ ∃ vs, I z.d = some (.xd ((T.cf z.c).zip vs)) ∧ vs.length = (T.cf z.c).length ∧ DRs T I vs z.ds
def xfree : Option Xc → Nat → Bool
  | none, _ => true
  | some z, j => z.i != j
theorem XcOk.mono {T : Tab} {I I' : Hp} {A A' : List Addr} {σ : L2.St} {x : Option Xc} (h : XcOk T I A σ x) (e : Up I I' A A') : XcOk T I' A' σ x := by
  cases x with
  | none => trivial
  | some z =>
    obtain ⟨h1, vs, h2, h3, h4⟩ := h
    exact ⟨h1, vs, e.i _ _ h2, h3, h4.mono e.i⟩
theorem XcOk.set {T : Tab} {I : Hp} {A : List Addr} {σ : L2.St} {x : Option Xc} {j : Nat} {v : Option V} (h : XcOk T I A σ x) (hj : xfree x j = true) : XcOk T I A (σ.set j v) x := by
  cases x with
  | none => trivial
  | some z =>
    obtain ⟨h1, h2⟩ := h
    refine ⟨?_, h2⟩
    rw [List.getElem?_set_ne (fun e => by simp [xfree, e] at hj)]
    exact h1
/-- where one stands: from (I0, A0) on -/
structure Bs where
  F : Frm
  I : Hp
  A : List Addr
structure Rel (T : Tab) (x : Option Xc) (B : Bs) (g : Gam) (S : List Vl) (m : Cells) (σ : L2.St) (vs : List V) (H I : Hp) (A : List Addr) : Prop where
  base : Base T B.F I H A m
  up : Up B.I I B.A A
  ctx : Ctx T I A σ g
  stk : VRs T I A vs S
  xc : XcOk T I A σ x
section
variable {T : Tab} {x : Option Xc} {B : Bs} {F : Frm} {g g' : Gam} {S : List Vl} {m m' : Cells} {σ σ' : L2.St} {vs : List V} {H H' I I' : Hp} {A A' : List Addr}
theorem Rel.sub (r : Rel T x B g S m σ vs H I A) : Same I H := r.base.sub
/-- the state moves on -/
theorem Rel.step (r : Rel T x B g S m σ vs H I A) (b : Base T B.F I' H' A' m') (e : Up I I' A A') : Rel T x B g S m' σ vs H' I' A' := ⟨b, r.up.trans e, r.ctx.mono e, r.stk.mono e, r.xc.mono e⟩
theorem Rel.push (r : Rel T x B g S m σ vs H I A) {v : V} {d : Vl} (h : VR T I A v d) : Rel T x B g (d :: S) m σ (v :: vs) H I A := { r with stk := .cons h r.stk }
theorem Rel.pop1 {v : V} {d : Vl} (r : Rel T x B g (d :: S) m σ (v :: vs) H I A) : Rel T x B g S m σ vs H I A := { r with stk := by cases r.stk with | cons _ t => exact t }
theorem Rel.top {v : V} {d : Vl} (r : Rel T x B g (d :: S) m σ (v :: vs) H I A) : VR T I A v d := by cases r.stk with | cons h _ => exact h
theorem Rel.slot (r : Rel T x B g S m σ vs H I A) {i : Nat} {v : V} {d : Vl} (h : VR T I A v d) (hx : xfree x i = true) : Rel T x B (g.set i (some d)) S m (σ.set i (some v)) vs H I A := { r with ctx := r.ctx.set h, xc := r.xc.set hx }
theorem Rel.grip (r : Rel T x B g S m σ vs H I A) : Rel T x ⟨B.F, I, A⟩ g S m σ vs H I A := ⟨r.base, Up.refl, r.ctx, r.stk, r.xc⟩
theorem Rel.from {I1 : Hp} {A1 : List Addr} (r : Rel T x ⟨B.F, I1, A1⟩ g S m σ vs H I A) (e : Up B.I I1 B.A A1) : Rel T x B g S m σ vs H I A := ⟨r.base, e.trans r.up, r.ctx, r.stk, r.xc⟩
theorem none_of_sub {I H : Hp} {p : Addr} (h : Same I H) (hp : H p = none) : I p = none := by
  cases e : I p with
  | none => rfl
  | some o => rw [h p o e] at hp; cases hp
theorem same_upd {H : Hp} {p : Addr} {o : HO} (h : H p = none) : Same H (upd H p o) := fun b x e => by
  rw [upd_ne (ne_of_none e h)]
  exact e
theorem upd_some {H : Hp} {p a : Addr} {o : HO} (h : H a ≠ none) : upd H p o a ≠ none := by
  by_cases ha : a = p
  · subst ha; rw [upd_same]; exact fun z => nomatch z
  · rw [upd_ne ha]; exact h
/-- a new thing that never changes -/
theorem Base.new (b : Base T F I H A m) {p : Addr} {o : HO} (hp : H p = none) : Base T F (upd I p o) (upd H p o) A m ∧ Up I (upd I p o) A A := by
  have hI := none_of_sub b.sub hp
  have e : Up I (upd I p o) A A := ⟨same_upd hI, List.prefix_refl A⟩
  have ne : ∀ a ∈ A, a ≠ p := fun a ha z => b.al a ha (by rw [z]; exact hp)
  refine ⟨⟨fun a u q => ?_, fun q hq => by
    obtain ⟨f1, f2, f3⟩ := b.fm q hq
    have hne := ne_of_none f1 hp
    exact ⟨by rw [upd_ne hne]; exact f1, f2, by rw [upd_ne hne]; exact f3⟩, b.fnd, b.len, b.nd, fun a ha => upd_some (b.al a ha), fun k c a h1 h2 => ?_, fun k c a h1 h2 => (b.ok k c a h1 h2).mono e.i fun o q => by rw [upd_ne (ne_of_none q hp)]; exact q⟩, e⟩
  · by_cases ha : a = p
    · subst ha; rw [upd_same] at q ⊢; exact q
    · rw [upd_ne ha] at q ⊢; exact b.sub a u q
  · rw [upd_ne (ne a (List.mem_of_getElem? h2))]
    exact b.fr k c a h1 h2
/-- a new thing that may change: a new cell -/
theorem Base.newC (b : Base T F I H A m) {p : Addr} {o : HO} {c : Cell} (hp : H p = none) (hc : CellOk T I (upd H p o) p c) : Base T F I (upd H p o) (A ++ [p]) (m ++ [some c]) ∧ Up I I A (A ++ [p]) := by
  have e : Up I I A (A ++ [p]) := ⟨Same.refl I, List.prefix_append A [p]⟩
  have ne : ∀ a ∈ A, a ≠ p := fun a ha z => b.al a ha (by rw [z]; exact hp)
  have hI := none_of_sub b.sub hp
  refine ⟨⟨b.sub.trans (same_upd hp), fun q hq => by
    obtain ⟨f1, f2, f3⟩ := b.fm q hq
    have hne := ne_of_none f1 hp
    refine ⟨by rw [upd_ne hne]; exact f1, fun h => ?_, f3⟩
    rcases List.mem_append.mp h with h | h
    · exact f2 h
    · exact hne (List.mem_singleton.mp h), b.fnd, by simp [b.len], ?_, fun a ha => ?_, fun k c' a h1 h2 => ?_, fun k c' a h1 h2 => ?_⟩, e⟩
  · refine List.nodup_append.mpr ⟨b.nd, by simp, fun a ha z hz => ?_⟩
    rw [List.mem_singleton.mp hz]
    exact ne a ha
  · rcases List.mem_append.mp ha with h | h
    · exact upd_some (b.al a h)
    · rw [List.mem_singleton.mp h, upd_same]; exact fun z => nomatch z
  · by_cases hk : k < m.length
    · rw [List.getElem?_append_left hk] at h1
      rw [List.getElem?_append_left (by rw [b.len]; exact hk)] at h2
      exact b.fr k c' a h1 h2
    · have : k = m.length := by
        have := (List.getElem?_eq_some_iff.mp h1).1
        simp at this; omega
      subst this
      rw [← b.len] at h2
      simp at h2
      rw [← h2]; exact hI
  · by_cases hk : k < m.length
    · rw [List.getElem?_append_left hk] at h1
      rw [List.getElem?_append_left (by rw [b.len]; exact hk)] at h2
      exact (b.ok k c' a h1 h2).mono e.i fun o q => by rw [upd_ne (ne_of_none q hp)]; exact q
    · have : k = m.length := by
        have := (List.getElem?_eq_some_iff.mp h1).1
        simp at this; omega
      subst this
      rw [← b.len] at h2
      simp at h1 h2
      subst h1 h2
      exact hc.mono e.i fun o q => q
theorem nodup_ix {α : Type} {l : List α} (h : l.Nodup) {i j : Nat} {x : α} (hi : l[i]? = some x) (hj : l[j]? = some x) : i = j := by
  obtain ⟨li, ei⟩ := List.getElem?_eq_some_iff.mp hi
  obtain ⟨lj, ej⟩ := List.getElem?_eq_some_iff.mp hj
  have pw := List.pairwise_iff_getElem.mp h
  rcases Nat.lt_trichotomy i j with w | w | w
  · exact absurd (ei.trans ej.symm) (pw i j li lj w)
  · exact w
  · exact absurd (ej.trans ei.symm) (pw j i lj li w)
/-- a cell changes -/
theorem Base.put (b : Base T F I H A m) {k : Nat} {c c' : Cell} {a : Addr} {o : HO} (hk : m[k]? = some (some c)) (ha : A[k]? = some a) (hc : CellOk T I (upd H a o) a c') : Base T F I (upd H a o) A (m.set k (some c')) := by
  have hI := b.fr k c a hk ha
  have hl : k < m.length := (List.getElem?_eq_some_iff.mp hk).1
  have hmem := List.mem_of_getElem? ha
  refine ⟨fun z u q => ?_, fun q hq => by
    obtain ⟨f1, f2, f3⟩ := b.fm q hq
    exact ⟨by rw [upd_ne (fun e => f2 (by rw [e]; exact hmem))]; exact f1, f2, f3⟩, b.fnd, by rw [List.length_set]; exact b.len, b.nd, fun z hz => upd_some (b.al z hz), fun j c2 z h1 h2 => ?_, fun j c2 z h1 h2 => ?_⟩
  · rw [upd_ne (ne_of_none q hI)]; exact b.sub z u q
  · by_cases hj : k = j
    · subst hj
      rw [ha] at h2; cases h2; exact hI
    · rw [List.getElem?_set_ne hj] at h1
      exact b.fr j c2 z h1 h2
  · by_cases hj : k = j
    · subst hj
      rw [ha] at h2; cases h2
      rw [List.getElem?_set_self hl] at h1
      cases h1
      exact hc
    · rw [List.getElem?_set_ne hj] at h1
      have hz : z ≠ a := fun w => hj (nodup_ix b.nd ha (by rw [← w]; exact h2))
      exact (b.ok j c2 z h1 h2).mono (Same.refl I) fun o' q => by rw [upd_ne hz]; exact q
/-- a cell is done changing -/
theorem Base.frz (b : Base T F I H A m) {k : Nat} {c : Cell} {a : Addr} {o : HO} (hk : m[k]? = some (some c)) (ha : A[k]? = some a) (ho : H a = some o) : Base T F (upd I a o) H A (m.set k none) ∧ Up I (upd I a o) A A := by
  have hI := b.fr k c a hk ha
  have hl : k < m.length := (List.getElem?_eq_some_iff.mp hk).1
  have e : Up I (upd I a o) A A := ⟨same_upd hI, List.prefix_refl A⟩
  have hmem := List.mem_of_getElem? ha
  refine ⟨⟨fun z u q => ?_, fun q hq => by
    obtain ⟨f1, f2, f3⟩ := b.fm q hq
    exact ⟨f1, f2, by rw [upd_ne (fun e => f2 (by rw [e]; exact hmem))]; exact f3⟩, b.fnd, by rw [List.length_set]; exact b.len, b.nd, b.al, fun j c2 z h1 h2 => ?_, fun j c2 z h1 h2 => ?_⟩, e⟩
  · by_cases hz : z = a
    · subst hz; rw [upd_same] at q; cases q; exact ho
    · rw [upd_ne hz] at q; exact b.sub z u q
  · by_cases hj : k = j
    · subst hj
      rw [List.getElem?_set_self hl] at h1; cases h1
    · rw [List.getElem?_set_ne hj] at h1
      rw [upd_ne (fun w => hj (nodup_ix b.nd ha (by rw [← w]; exact h2)))]
      exact b.fr j c2 z h1 h2
  · by_cases hj : k = j
    · subst hj
      rw [List.getElem?_set_self hl] at h1; cases h1
    · rw [List.getElem?_set_ne hj] at h1
      exact (b.ok j c2 z h1 h2).mono e.i fun o' q => q
/-- a new thing beside -/
theorem Base.hide (b : Base T F I H A m) {p : Addr} {o : HO} (hp : H p = none) : Base T ((p, o) :: F) I (upd H p o) A m := by
  have ne : ∀ a ∈ A, a ≠ p := fun a ha z => b.al a ha (by rw [z]; exact hp)
  refine ⟨b.sub.trans (same_upd hp), fun q hq => ?_, ?_, b.len, b.nd, fun a ha => upd_some (b.al a ha), b.fr, fun k c a h1 h2 => (b.ok k c a h1 h2).mono (Same.refl I) fun o q => by rw [upd_ne (ne_of_none q hp)]; exact q⟩
  · rcases List.mem_cons.mp hq with e | e
    · subst e; exact ⟨upd_same, fun h => ne _ h rfl, none_of_sub b.sub hp⟩
    · obtain ⟨f1, f2, f3⟩ := b.fm q e
      exact ⟨by rw [upd_ne (ne_of_none f1 hp)]; exact f1, f2, f3⟩
  · refine List.nodup_cons.mpr ⟨fun h => ?_, b.fnd⟩
    obtain ⟨q, h1, h2⟩ := List.mem_map.mp h
    exact ne_of_none (b.fm q h1).1 hp h2
/-- it changes -/
theorem Base.hput {p : Addr} {o o' : HO} (b : Base T ((p, o) :: F) I H A m) : Base T ((p, o') :: F) I (upd H p o') A m := by
  obtain ⟨h1, h2, h3⟩ := b.fm _ List.mem_cons_self
  have hnd := List.nodup_cons.mp b.fnd
  refine ⟨fun a u q => by rw [upd_ne (ne_of_none q h3)]; exact b.sub a u q, fun q hq => ?_, b.fnd, b.len, b.nd, fun a ha => upd_some (b.al a ha), b.fr, fun k c a q1 q2 => (b.ok k c a q1 q2).mono (Same.refl I) fun o q => by rw [upd_ne (fun e => h2 (by rw [← e]; exact List.mem_of_getElem? q2))]; exact q⟩
  rcases List.mem_cons.mp hq with e | e
  · subst e; exact ⟨upd_same, h2, h3⟩
  · obtain ⟨f1, f2, f3⟩ := b.fm q (List.mem_cons_of_mem _ e)
    exact ⟨by rw [upd_ne (fun z => hnd.1 (List.mem_map.mpr ⟨q, e, z⟩))]; exact f1, f2, f3⟩
/-- it is done changing -/
theorem Base.show_ {p : Addr} {o : HO} (b : Base T ((p, o) :: F) I H A m) : Base T F (upd I p o) H A m ∧ Up I (upd I p o) A A := by
  obtain ⟨h1, h2, h3⟩ := b.fm _ List.mem_cons_self
  have hnd := List.nodup_cons.mp b.fnd
  have e : Up I (upd I p o) A A := ⟨same_upd h3, List.prefix_refl A⟩
  refine ⟨⟨fun a u q => ?_, fun q hq => ?_, hnd.2, b.len, b.nd, b.al, fun k c a q1 q2 => ?_, fun k c a q1 q2 => (b.ok k c a q1 q2).mono e.i fun o q => q⟩, e⟩
  · by_cases ha : a = p
    · subst ha; rw [upd_same] at q; cases q; exact h1
    · rw [upd_ne ha] at q; exact b.sub a u q
  · obtain ⟨f1, f2, f3⟩ := b.fm q (List.mem_cons_of_mem _ hq)
    exact ⟨f1, f2, by rw [upd_ne (fun z => hnd.1 (List.mem_map.mpr ⟨q, hq, z⟩))]; exact f3⟩
  · rw [upd_ne (fun e => h2 (by rw [← e]; exact List.mem_of_getElem? q2))]
    exact b.fr k c a q1 q2
/-- it becomes a cell -/
theorem Base.showC {p : Addr} {o : HO} {c : Cell} (b : Base T ((p, o) :: F) I H A m) (hc : CellOk T I H p c) : Base T F I H (A ++ [p]) (m ++ [some c]) ∧ Up I I A (A ++ [p]) := by
  obtain ⟨h1, h2, h3⟩ := b.fm _ List.mem_cons_self
  have hnd := List.nodup_cons.mp b.fnd
  have e : Up I I A (A ++ [p]) := ⟨Same.refl I, List.prefix_append A [p]⟩
  have cs : ∀ {j : Nat} {c' : Cell} {z : Addr}, (m ++ [some c])[j]? = some (some c') → (A ++ [p])[j]? = some z → (c' = c ∧ z = p) ∨ (m[j]? = some (some c') ∧ A[j]? = some z) := fun {j c' z} h1 h2 => by
    by_cases hj : j < m.length
    · rw [List.getElem?_append_left hj] at h1
      rw [List.getElem?_append_left (by rw [b.len]; exact hj)] at h2
      exact .inr ⟨h1, h2⟩
    · have e : j = m.length := by
        have := (List.getElem?_eq_some_iff.mp h1).1
        rw [List.length_append, List.length_singleton] at this; omega
      subst e
      rw [List.getElem?_append_right (Nat.le_refl _), Nat.sub_self] at h1
      rw [← b.len, List.getElem?_append_right (Nat.le_refl _), Nat.sub_self] at h2
      exact .inl ⟨by simpa using h1.symm, by simpa using h2.symm⟩
  refine ⟨⟨b.sub, fun q hq => ?_, hnd.2, by simp [b.len], ?_, fun a ha => ?_, fun k c' a q1 q2 => ?_, fun k c' a q1 q2 => ?_⟩, e⟩
  · obtain ⟨f1, f2, f3⟩ := b.fm q (List.mem_cons_of_mem _ hq)
    refine ⟨f1, fun h => ?_, f3⟩
    rcases List.mem_append.mp h with h | h
    · exact f2 h
    · exact hnd.1 (List.mem_map.mpr ⟨q, hq, List.mem_singleton.mp h⟩)
  · refine List.nodup_append.mpr ⟨b.nd, by simp, fun a ha z hz => ?_⟩
    rw [List.mem_singleton.mp hz]
    exact fun e => h2 (e ▸ ha)
  · rcases List.mem_append.mp ha with h | h
    · exact b.al a h
    · rw [List.mem_singleton.mp h, h1]; exact fun z => nomatch z
  · rcases cs q1 q2 with ⟨rfl, rfl⟩ | ⟨h3', h4⟩
    · exact h3
    · exact b.fr k c' a h3' h4
  · rcases cs q1 q2 with ⟨rfl, rfl⟩ | ⟨h3', h4⟩
    · exact hc
    · exact b.ok k c' a h3' h4
/-- the later cells are forgotten -/
theorem Base.take (b : Base T F I H A m) (n : Nat) : Base T F I H (A.take n) (m.take n) := by
  have g1 : ∀ {α : Type} {l : List α} {k : Nat} {c : α}, (l.take n)[k]? = some c → l[k]? = some c := fun {α l k c} h => by
    by_cases hk : k < n
    · rw [List.getElem?_take_of_lt hk] at h; exact h
    · rw [List.getElem?_eq_none (by rw [List.length_take]; omega)] at h; cases h
  exact ⟨b.sub, fun q hq => ⟨(b.fm q hq).1, fun h => (b.fm q hq).2.1 (List.mem_of_mem_take h), (b.fm q hq).2.2⟩, b.fnd, by rw [List.length_take, List.length_take, b.len], (List.take_sublist n A).nodup b.nd, fun a ha => b.al a (List.mem_of_mem_take ha), fun k c a h1 h2 => b.fr k c a (g1 h1) (g1 h2), fun k c a h1 h2 => b.ok k c a (g1 h1) (g1 h2)⟩
/-- one more cell at the end -/
theorem Base.takeC (b : Base T F I H A m) {n k : Nat} {c : Cell} {a : Addr} (hn : n ≤ k) (hk : m[k]? = some (some c)) (ha : A[k]? = some a) : Base T F I H (A.take n ++ [a]) (m.take n ++ [some c]) := by
  have b0 := b.take n
  have hkl : k < A.length := (List.getElem?_eq_some_iff.mp ha).1
  have hni : a ∉ A.take n := fun h => by
    obtain ⟨j, hj⟩ := List.mem_iff_getElem?.mp h
    have hjn : j < n := by
      have := (List.getElem?_eq_some_iff.mp hj).1
      rw [List.length_take] at this; omega
    rw [List.getElem?_take_of_lt hjn] at hj
    have := nodup_ix b.nd hj ha
    omega
  have hl := b0.len
  have cs : ∀ {j : Nat} {c' : Cell} {z : Addr}, (m.take n ++ [some c])[j]? = some (some c') → (A.take n ++ [a])[j]? = some z → (c' = c ∧ z = a) ∨ ((m.take n)[j]? = some (some c') ∧ (A.take n)[j]? = some z) := fun {j c' z} h1 h2 => by
    by_cases hj : j < (m.take n).length
    · rw [List.getElem?_append_left hj] at h1
      rw [List.getElem?_append_left (by rw [hl]; exact hj)] at h2
      exact .inr ⟨h1, h2⟩
    · have e : j = (m.take n).length := by
        have := (List.getElem?_eq_some_iff.mp h1).1
        rw [List.length_append, List.length_singleton] at this; omega
      subst e
      rw [List.getElem?_append_right (Nat.le_refl _), Nat.sub_self] at h1
      rw [← hl, List.getElem?_append_right (Nat.le_refl _), Nat.sub_self] at h2
      exact .inl ⟨by simpa using h1.symm, by simpa using h2.symm⟩
  refine ⟨b.sub, fun q hq => by
    obtain ⟨f1, f2, f3⟩ := b.fm q hq
    refine ⟨f1, fun h => ?_, f3⟩
    rcases List.mem_append.mp h with h | h
    · exact f2 (List.mem_of_mem_take h)
    · exact f2 (by rw [List.mem_singleton.mp h]; exact List.mem_of_getElem? ha), b.fnd, by rw [List.length_append, List.length_append, hl, List.length_singleton, List.length_singleton], ?_, fun z hz => ?_, fun j c' z h1 h2 => ?_, fun j c' z h1 h2 => ?_⟩
  · refine List.nodup_append.mpr ⟨b0.nd, by simp, fun z hz y hy => ?_⟩
    rw [List.mem_singleton.mp hy]
    exact fun e => hni (e ▸ hz)
  · rcases List.mem_append.mp hz with h | h
    · exact b0.al z h
    · rw [List.mem_singleton.mp h]; exact b.al a (List.mem_of_getElem? ha)
  · rcases cs h1 h2 with ⟨rfl, rfl⟩ | ⟨h3, h4⟩
    · exact b.fr k _ _ hk ha
    · exact b0.fr j c' z h3 h4
  · rcases cs h1 h2 with ⟨rfl, rfl⟩ | ⟨h3, h4⟩
    · exact b.ok k _ _ hk ha
    · exact b0.ok j c' z h3 h4
end
end FM

namespace FM
open PySem PySem.Spec PyProof.Rows L2
/-! ### what a piece of text gives -/
inductive Rs (α : Type) where
  | ok (a : α) (m : Cells)
  | ex (c : Nat) (fs : List Dt) (m : Cells)
  | bad
def Rs.bind {α β : Type} (r : Rs α) (k : α → Cells → Rs β) : Rs β := match r with
  | .ok a m => k a m
  | .ex c fs m => .ex c fs m
  | .bad => .bad
/-- nothing may be raised -/
def Rs.calm {α : Type} : Rs α → Rs α
  | .ok a m => .ok a m
  | _ => .bad
inductive Out where
  | nx (g : Gam) (m : Cells)
  | rt (v : Vl) (m : Cells)
  | bk (g : Gam) (m : Cells)
  | ct (g : Gam) (m : Cells)
  | ex (c : Nat) (fs : List Dt) (g : Gam) (m : Cells)
  | bad
abbrev ME := Gam → Cells → Rs Vl
abbrev MT := Gam → Cells → Rs Bool
abbrev MA := Gam → Cells → Rs (List Vl)
abbrev MS := Gam → Cells → Out
abbrev Fn := List Vl → Cells → Rs Vl
def Rs.then {α : Type} (g : Gam) (r : Rs α) (k : α → Cells → Out) : Out := match r with
  | .ok a m => k a m
  | .ex c fs m => .ex c fs g m
  | .bad => .bad
/-- the context of a reading: tables, caught exception, wish of what is raised -/
structure Fc where
  T : Tab
  x : Option Xc
  W : WX
section
variable (C : Fc) (B : Bs) (g : Gam) (S : List Vl) (σ : L2.St) (vs : List V)
def WantX (c : Nat) (fs : List Dt) (g : Gam) (m : Cells) : Prop := ∀ σ H' I' A' dx ws, Rel C.T C.x B g S m σ vs H' I' A' → I' dx = some (.xd ((C.T.cf c).zip ws)) → ws.length = (C.T.cf c).length → DRs C.T I' ws fs → C.W (.ref (C.T.ca c)) (some dx) σ H'
def WantE (Q : VK) : Rs Vl → Prop
  | .ok d m' => ∀ v H' I' A', Rel C.T C.x B g (d :: S) m' σ (v :: vs) H' I' A' → Q v H'
  | .ex c fs m' => WantX C B S vs c fs g m'
  | .bad => False
def WantT (Q : Bool → Hp → Prop) : Rs Bool → Prop
  | .ok b m' => ∀ H' I' A', Rel C.T C.x B g S m' σ vs H' I' A' → Q b H'
  | .ex c fs m' => WantX C B S vs c fs g m'
  | .bad => False
def WantA (Q : List V → Hp → Prop) : Rs (List Vl) → Prop
  | .ok ds m' => ∀ ws H' I' A', ws.length = ds.length → Rel C.T C.x B g (ds ++ S) m' σ (ws ++ vs) H' I' A' → Q ws H'
  | .ex c fs m' => WantX C B S vs c fs g m'
  | .bad => False
def WantS (D : Ends) : Out → Prop
  | .nx g' m' => ∀ σ' H' I' A', Rel C.T C.x B g' S m' σ' vs H' I' A' → D.nx σ' H'
  | .rt d m' => ∀ g' σ' v H' I' A', Rel C.T C.x B g' (d :: S) m' σ' (v :: vs) H' I' A' → D.rt v H'
  | .bk g' m' => ∀ σ' H' I' A', Rel C.T C.x B g' S m' σ' vs H' I' A' → D.bk σ' H'
  | .ct g' m' => ∀ σ' H' I' A', Rel C.T C.x B g' S m' σ' vs H' I' A' → D.ct σ' H'
  | .ex c fs g' m' => WantX C B S vs c fs g' m'
  | .bad => False
end
def FE (C : Fc) (me : ME) : TE := fun σ H Q => ∃ B g S m vs I A, Rel C.T C.x B g S m σ vs H I A ∧ WantE C B g S σ vs Q (me g m)
def FT (C : Fc) (mt : MT) : TT := fun σ H Q => ∃ B g S m vs I A, Rel C.T C.x B g S m σ vs H I A ∧ WantT C B g S σ vs Q (mt g m)
def FA (C : Fc) (ma : MA) : TA := fun σ H Q => ∃ B g S m vs I A, Rel C.T C.x B g S m σ vs H I A ∧ WantA C B g S σ vs Q (ma g m)
def FS (C : Fc) (ms : MS) : TS := fun D σ H => ∃ B g S m vs I A, Rel C.T C.x B g S m σ vs H I A ∧ WantS C B S vs D (ms g m)

/-! ### readings by readings -/
section
variable {X : Cx} {e : Expr} {es : List Expr} {st : Stmt} {ss : List Stmt}
theorem pe_of {t t' : TE} (h : PE X e t) (k : ∀ σ H Q, t' σ H Q → t σ H Q) : PE X e t' := ⟨fun pins s σ H Q I q => h.run pins s σ H Q I (k σ H Q q)⟩
theorem pt_of {t t' : TT} (h : PT X e t) (k : ∀ σ H Q, t' σ H Q → t σ H Q) : PT X e t' := ⟨fun pins s σ H Q I q => h.run pins s σ H Q I (k σ H Q q)⟩
theorem pts_of {t t' : TT} (h : PTs X es t) (k : ∀ σ H Q, t' σ H Q → t σ H Q) : PTs X es t' := ⟨fun pins s σ H Q I q => h.run pins s σ H Q I (k σ H Q q)⟩
theorem pw_of {t t' : TT} (h : PW X e t) (k : ∀ σ H Q, t' σ H Q → t σ H Q) : PW X e t' := ⟨fun w pins s σ H Q I q => h.run w pins s σ H Q I (k σ H Q q)⟩
theorem pa_of {t t' : TA} (h : PA X es t) (k : ∀ σ H Q, t' σ H Q → t σ H Q) : PA X es t' := ⟨fun pos pins s σ H Q I q => h.run pos pins s σ H Q I (k σ H Q q)⟩
theorem ps_of {t t' : TS} (h : PS X st t) (k : ∀ D σ H, t' D σ H → t D σ H) : PS X st t' := ⟨fun pins s σ H D I q => h.run pins s σ H D I (k D σ H q)⟩
theorem pss_of {t t' : TS} (h : PSs X ss t) (k : ∀ D σ H, t' D σ H → t D σ H) : PSs X ss t' := ⟨fun pins s σ H D I q => h.run pins s σ H D I (k D σ H q)⟩
end

/-! ### expressions -/
def mVar (i : Nat) : ME := fun g m => match g[i]? with
  | some (some d) => .ok d m
  | _ => .bad
def mC (d : Dt) : ME := fun _ m => .ok (.d d) m
/-- an operation on two values that changes no cell -/
abbrev O2 := Cells → Vl → Vl → Option Vl
def ofO {α : Type} (m : Cells) : Option α → Rs α
  | some d => .ok d m
  | none => .bad
def mOp (f : O2) (ma mb : ME) : ME := fun g m => (ma g m).bind fun x m1 => (mb g m1).bind fun y m2 => ofO m2 (f m2 x y)
def SimO (T : Tab) (r : R2) (f : O2) : Prop := ∀ (F : Frm) (I H : Hp) (A : List Addr) (m : Cells) (x y : V) (d1 d2 d : Vl), Base T F I H A m → VR T I A x d1 → VR T I A y d2 → f m d1 d2 = some d → ∀ Q : VK, (∀ v H' I', Base T F I' H' A m → Same I I' → VR T I' A v d → Q v H') → r x y H Q
section
variable {X : Cx} {C : Fc} {e : Expr} {ma mb mc : ME}
theorem fe_var {i : Nat} (h : PE X e (tVar i)) : PE X e (FE C (mVar i)) := pe_of h fun σ H Q ⟨B, g, S, m, vs, I, A, r, w⟩ => by
  unfold mVar at w
  split at w
  · rename_i d hd
    obtain ⟨v, h1, h2⟩ := r.ctx.look i d hd
    exact ⟨v, h1, w v H I A (r.push h2)⟩
  · exact w.elim
theorem fe_int {i : Int} (h : PE X e (tC (.int i))) : PE X e (FE C (mC (.int i))) := pe_of h fun σ H Q ⟨B, g, S, m, vs, I, A, r, w⟩ => w _ H I A (r.push (.d (.int i)))
theorem fe_str {z : Str} (h : PE X e (tC (.str z))) : PE X e (FE C (mC (.str z))) := pe_of h fun σ H Q ⟨B, g, S, m, vs, I, A, r, w⟩ => w _ H I A (r.push (.d (.str z)))
theorem fe_bl {b : Bool} (h : PE X e (tC (.bl b))) : PE X e (FE C (mC (.bl b))) := pe_of h fun σ H Q ⟨B, g, S, m, vs, I, A, r, w⟩ => w _ H I A (r.push (.d (.bl b)))
theorem fe_non (h : PE X e (tC .non)) : PE X e (FE C (mC .non)) := pe_of h fun σ H Q ⟨B, g, S, m, vs, I, A, r, w⟩ => w _ H I A (r.push (.d .non))
theorem fe_glo {i : Nat} (h : PE X e (tC (.ref (C.T.ga i)))) : PE X e (FE C (mC (.glo i))) := pe_of h fun σ H Q ⟨B, g, S, m, vs, I, A, r, w⟩ => w _ H I A (r.push (.d (.glo i)))
/-- two in a row -/
theorem two_ok {Q' : V → V → Hp → Prop} {σ : L2.St} {H : Hp} {k : Vl → Vl → Cells → Rs Vl} {B : Bs} {g : Gam} {S : List Vl} {m : Cells} {vs : List V} {I : Hp} {A : List Addr} {Q : VK} (r : Rel C.T C.x B g S m σ vs H I A)
    (w : WantE C B g S σ vs Q ((ma g m).bind fun x m1 => (mb g m1).bind fun y m2 => k x y m2))
    (hq : ∀ x y dx dy m2 H2 I2 A2, Rel C.T C.x B g (dy :: dx :: S) m2 σ (y :: x :: vs) H2 I2 A2 → WantE C B g S σ vs Q (k dx dy m2) → Q' x y H2) : FE C ma σ H fun x H1 => FE C mb σ H1 fun y H2 => Q' x y H2 := by
  refine ⟨B, g, S, m, vs, I, A, r, ?_⟩
  cases ea : ma g m with
  | bad => rw [ea] at w; exact w.elim
  | ex c fs m' => rw [ea] at w; exact w
  | ok d1 m1 =>
    rw [ea] at w
    intro x H1 I1 A1 r1
    refine ⟨B, g, d1 :: S, m1, x :: vs, I1, A1, r1, ?_⟩
    have w1 : WantE C B g S σ vs Q ((mb g m1).bind fun y m2 => k d1 y m2) := w
    cases eb : mb g m1 with
    | bad => rw [eb] at w1; exact w1.elim
    | ex c fs m' =>
      rw [eb] at w1
      intro σ' H' I' A' dx ws r' h1 h2 h3
      exact w1 σ' H' I' A' dx ws r'.pop1 h1 h2 h3
    | ok d2 m2 =>
      rw [eb] at w1
      intro y H2 I2 A2 r2
      exact hq x y d1 d2 m2 H2 I2 A2 r2 w1
theorem fe_op {r : R2} {f : O2} (h : PE X e (tOp r (FE C ma) (FE C mb))) (s : SimO C.T r f) : PE X e (FE C (mOp f ma mb)) := pe_of h fun σ H Q ⟨B, g, S, m, vs, I, A, rl, w⟩ =>
  two_ok rl w fun x y dx dy m2 H2 I2 A2 r2 w2 => by
    cases ef : f m2 dx dy with
    | none => rw [ef] at w2; exact w2.elim
    | some d =>
      rw [ef] at w2
      exact s _ I2 H2 A2 m2 x y dx dy d r2.base r2.pop1.top r2.top ef Q fun v H' I' b e hv => w2 v H' I' A2 ((r2.pop1.pop1.step b ⟨e, List.prefix_refl _⟩).push hv)
/-- an operation on one value -/
abbrev O1 := Cells → Vl → Option Vl
def mUn (f : O1) (ma : ME) : ME := fun g m => (ma g m).bind fun x m1 => ofO m1 (f m1 x)
theorem one_ok {Q' : V → Hp → Prop} {σ : L2.St} {H : Hp} {k : Vl → Cells → Rs Vl} {B : Bs} {g : Gam} {S : List Vl} {m : Cells} {vs : List V} {I : Hp} {A : List Addr} {Q : VK} (r : Rel C.T C.x B g S m σ vs H I A)
    (w : WantE C B g S σ vs Q ((ma g m).bind fun x m1 => k x m1))
    (hq : ∀ x dx m1 H1 I1 A1, Rel C.T C.x B g (dx :: S) m1 σ (x :: vs) H1 I1 A1 → WantE C B g S σ vs Q (k dx m1) → Q' x H1) : FE C ma σ H Q' := by
  refine ⟨B, g, S, m, vs, I, A, r, ?_⟩
  cases ea : ma g m with
  | bad => rw [ea] at w; exact w.elim
  | ex c fs m' => rw [ea] at w; exact w
  | ok d1 m1 =>
    rw [ea] at w
    intro x H1 I1 A1 r1
    exact hq x d1 m1 H1 I1 A1 r1 w
def SimU (T : Tab) (r : V → Hp → VK → Prop) (f : O1) : Prop := ∀ (F : Frm) (I H : Hp) (A : List Addr) (m : Cells) (x : V) (d1 d : Vl), Base T F I H A m → VR T I A x d1 → f m d1 = some d → ∀ Q : VK, (∀ v H' I', Base T F I' H' A m → Same I I' → VR T I' A v d → Q v H') → r x H Q
theorem fe_un {r : V → Hp → VK → Prop} {f : O1} {t : TE} (h : PE X e t) (ht : ∀ σ H Q, FE C ma σ H (fun x H1 => r x H1 Q) → t σ H Q) (s : SimU C.T r f) : PE X e (FE C (mUn f ma)) := pe_of h fun σ H Q ⟨B, g, S, m, vs, I, A, rl, w⟩ => ht σ H Q <|
  one_ok rl w fun x dx m2 H2 I2 A2 r2 w2 => by
    cases ef : f m2 dx with
    | none => rw [ef] at w2; exact w2.elim
    | some d =>
      rw [ef] at w2
      exact s _ I2 H2 A2 m2 x dx d r2.base r2.top ef Q fun v H' I' b e hv => w2 v H' I' A2 ((r2.pop1.step b ⟨e, List.prefix_refl _⟩).push hv)
/-! ### arguments -/
def mNil : MA := fun _ m => .ok [] m
def mCons (me : ME) (ma : MA) : MA := fun g m => (me g m).bind fun x m1 => (ma g m1).bind fun xs m2 => .ok (x :: xs) m2
theorem fa_nil (h : PA X [] tNil) : PA X [] (FA C mNil) := pa_of h fun σ H Q ⟨B, g, S, m, vs, I, A, r, w⟩ => w [] H I A rfl r
theorem fa_cons {es : List Expr} {mr : MA} (h : PA X es (tCons (FE C ma) (FA C mr))) : PA X es (FA C (mCons ma mr)) := pa_of h fun σ H Q ⟨B, g, S, m, vs, I, A, r, w⟩ => by
  refine ⟨B, g, S, m, vs, I, A, r, ?_⟩
  unfold mCons at w
  cases ea : ma g m with
  | bad => rw [ea] at w; exact w.elim
  | ex c fs m' => rw [ea] at w; exact w
  | ok d1 m1 =>
    rw [ea] at w
    intro x H1 I1 A1 r1
    refine ⟨B, g, d1 :: S, m1, x :: vs, I1, A1, r1, ?_⟩
    have w1 : WantA C B g S σ vs Q ((mr g m1).bind fun xs m2 => .ok (d1 :: xs) m2) := w
    cases eb : mr g m1 with
    | bad => rw [eb] at w1; exact w1.elim
    | ex c fs m' =>
      rw [eb] at w1
      intro σ' H' I' A' dx ws r' h1 h2 h3
      exact w1 σ' H' I' A' dx ws r'.pop1 h1 h2 h3
    | ok ds m2 =>
      rw [eb] at w1
      intro ws H2 I2 A2 hl r2
      have e2 := r2.stk.split hl
      cases e2.2 with
      | cons hd ht => exact w1 (x :: ws) H2 I2 A2 (by rw [List.length_cons, List.length_cons, hl]) { r2 with stk := .cons hd (e2.1.app ht) }
/-! ### tests -/
def mTest (me : ME) : MT := fun g m => (me g m).bind fun x m1 => match x with
  | .d (.bl b) => .ok b m1
  | _ => .bad
theorem ft_le {σ : L2.St} {H : Hp} {Q : Bool → Hp → Prop} (h : FT C (mTest ma) σ H Q) : FE C ma σ H fun x H1 => ∃ k, x = .bl k ∧ Q k H1 := by
  obtain ⟨B, g, S, m, vs, I, A, r, w⟩ := h
  refine ⟨B, g, S, m, vs, I, A, r, ?_⟩
  unfold mTest at w
  cases ea : ma g m with
  | bad => rw [ea] at w; exact w.elim
  | ex c fs m' => rw [ea] at w; exact w
  | ok d1 m1 =>
    rw [ea] at w
    intro x H1 I1 A1 r1
    cases d1 with
    | ref k => exact (show False from w).elim
    | d d =>
      cases d with
      | bl b =>
        have := r1.top.dat
        cases this
        exact ⟨b, rfl, w H1 I1 A1 r1.pop1⟩
      | _ => exact (show False from w).elim
theorem ft_test {e : Expr} (h : PT X e (tTest (FE C ma))) : PT X e (FT C (mTest ma)) := pt_of h fun σ H Q q => ft_le q
theorem ft_B {e : Expr} (h : PT X e (tB (FE C ma))) : PT X e (FT C (mTest ma)) := pt_of h fun σ H Q q => ft_le q
theorem fw_test {e : Expr} (h : PW X e (tTest (FE C ma))) : PW X e (FT C (mTest ma)) := pw_of h fun σ H Q q => ft_le q
theorem fw_B {e : Expr} (h : PW X e (tB (FE C ma))) : PW X e (FT C (mTest ma)) := pw_of h fun σ H Q q => ft_le q
def mAnd (t u : MT) : MT := fun g m => (t g m).bind fun b m1 => if b = true then u g m1 else .ok false m1
def mOr (t u : MT) : MT := fun g m => (t g m).bind fun b m1 => if b = true then .ok true m1 else u g m1
def mNot (t : MT) : MT := fun g m => (t g m).bind fun b m1 => .ok (!b) m1
theorem tone_ok {t : MT} {Q' : Bool → Hp → Prop} {σ : L2.St} {H : Hp} {k : Bool → Cells → Rs Bool} {B : Bs} {g : Gam} {S : List Vl} {m : Cells} {vs : List V} {I : Hp} {A : List Addr} {Q : Bool → Hp → Prop} (r : Rel C.T C.x B g S m σ vs H I A)
    (w : WantT C B g S σ vs Q ((t g m).bind fun x m1 => k x m1))
    (hq : ∀ b m1 H1 I1 A1, Rel C.T C.x B g S m1 σ vs H1 I1 A1 → WantT C B g S σ vs Q (k b m1) → Q' b H1) : FT C t σ H Q' := by
  refine ⟨B, g, S, m, vs, I, A, r, ?_⟩
  cases ea : t g m with
  | bad => rw [ea] at w; exact w.elim
  | ex c fs m' => rw [ea] at w; exact w
  | ok d1 m1 =>
    rw [ea] at w
    intro H1 I1 A1 r1
    exact hq d1 m1 H1 I1 A1 r1 w
theorem le_and {t u : MT} {σ : L2.St} {H : Hp} {Q : Bool → Hp → Prop} (h : FT C (mAnd t u) σ H Q) : tAnd (FT C t) (FT C u) σ H Q := by
  obtain ⟨B, g, S, m, vs, I, A, r, w⟩ := h
  refine tone_ok r w fun b m1 H1 I1 A1 r1 w1 => ?_
  cases b with
  | true => exact ⟨B, g, S, m1, vs, I1, A1, r1, w1⟩
  | false => exact w1 H1 I1 A1 r1
theorem le_or {t u : MT} {σ : L2.St} {H : Hp} {Q : Bool → Hp → Prop} (h : FT C (mOr t u) σ H Q) : tOr (FT C t) (FT C u) σ H Q := by
  obtain ⟨B, g, S, m, vs, I, A, r, w⟩ := h
  refine tone_ok r w fun b m1 H1 I1 A1 r1 w1 => ?_
  cases b with
  | true => exact w1 H1 I1 A1 r1
  | false => exact ⟨B, g, S, m1, vs, I1, A1, r1, w1⟩
theorem le_not {t : MT} {σ : L2.St} {H : Hp} {Q : Bool → Hp → Prop} (h : FT C (mNot t) σ H Q) : tNot (FT C t) σ H Q := by
  obtain ⟨B, g, S, m, vs, I, A, r, w⟩ := h
  exact tone_ok r w fun b m1 H1 I1 A1 r1 w1 => w1 H1 I1 A1 r1
theorem ft_and {e : Expr} {t u : MT} (h : PT X e (tAnd (FT C t) (FT C u))) : PT X e (FT C (mAnd t u)) := pt_of h fun σ H Q => le_and
theorem ft_or {e : Expr} {t u : MT} (h : PT X e (tOr (FT C t) (FT C u))) : PT X e (FT C (mOr t u)) := pt_of h fun σ H Q => le_or
theorem ft_not {e : Expr} {t : MT} (h : PT X e (tNot (FT C t))) : PT X e (FT C (mNot t)) := pt_of h fun σ H Q => le_not
theorem fw_and {e : Expr} {t u : MT} (h : PW X e (tAnd (FT C t) (FT C u))) : PW X e (FT C (mAnd t u)) := pw_of h fun σ H Q => le_and
theorem fw_or {e : Expr} {t u : MT} (h : PW X e (tOr (FT C t) (FT C u))) : PW X e (FT C (mOr t u)) := pw_of h fun σ H Q => le_or
theorem fw_not {e : Expr} {t : MT} (h : PW X e (tNot (FT C t))) : PW X e (FT C (mNot t)) := pw_of h fun σ H Q => le_not
/-- x if t else y -/
def mIf (t : MT) (ma mb : ME) : ME := fun g m => (t g m).bind fun b m1 => if b = true then ma g m1 else mb g m1
theorem fe_if {t : MT} (h : PE X e (tIf (FT C t) (FE C ma) (FE C mb))) : PE X e (FE C (mIf t ma mb)) := pe_of h fun σ H Q ⟨B, g, S, m, vs, I, A, r, w⟩ => by
  refine ⟨B, g, S, m, vs, I, A, r, ?_⟩
  unfold mIf at w
  cases ea : t g m with
  | bad => rw [ea] at w; exact w.elim
  | ex c fs m' => rw [ea] at w; exact w
  | ok b m1 =>
    rw [ea] at w
    intro H1 I1 A1 r1
    cases b with
    | true => exact ⟨B, g, S, m1, vs, I1, A1, r1, w⟩
    | false => exact ⟨B, g, S, m1, vs, I1, A1, r1, w⟩
/-- a test as a value: (t) of and, or, not -/
def mBool (t : MT) : ME := fun g m => (t g m).bind fun b m1 => .ok (.d (.bl b)) m1
end
end FM

namespace FM
open PySem PySem.Spec PyProof.Rows L2
/-! ### targets -/
abbrev MG := Vl → Gam → Cells → Option (Gam × Cells)
abbrev MGs := List Dt → Gam → Cells → Option (Gam × Cells)
def WantG (C : Fc) (B : Bs) (S : List Vl) (vs : List V) (Q : L2.St → Hp → Prop) : Option (Gam × Cells) → Prop
  | some p => ∀ σ' H' I' A', Rel C.T C.x B p.1 S p.2 σ' vs H' I' A' → Q σ' H'
  | none => False
def FG (C : Fc) (mg : MG) : TG := fun v σ H Q => ∃ B g S m vs I A d, Rel C.T C.x B g (d :: S) m σ (v :: vs) H I A ∧ WantG C B S vs Q (mg d g m)
def FGs (C : Fc) (mg : MGs) : TGs := fun us σ H Q => ∃ B g S m vs I A ds, us.length = ds.length ∧ Rel C.T C.x B g (ds.map Vl.d ++ S) m σ (us ++ vs) H I A ∧ WantG C B S vs Q (mg ds g m)
def gNm (i : Nat) : MG := fun d g m => some (g.set i (some d), m)
def gsNil : MGs := fun ds g m => match ds with
  | [] => some (g, m)
  | _ => none
def gsCons (mg : MG) (mr : MGs) : MGs := fun ds g m => match ds with
  | d :: r => (mg (.d d) g m).bind fun p => mr r p.1 p.2
  | [] => none
def gTp (n : Nat) (mg : MGs) : MG := fun d g m => match d with
  | .d (.tup ds) => if ds.length = n then mg ds g m else none
  | _ => none
theorem DRs_vrs {T : Tab} {I : Hp} {A : List Addr} {us : List V} {ds : List Dt} (h : DRs T I us ds) : VRs T I A us (ds.map Vl.d) := by
  induction us generalizing ds with
  | nil => cases h; exact .nil
  | cons u us ih => cases h with | cons a t => exact .cons (.d a) (ih t)
section
variable {X : Cx} {C : Fc} {e : Expr} {es : List Expr} {mg : MG} {mr : MGs}
theorem pg_of {t t' : TG} (h : PG X e t) (k : ∀ v σ H Q, t' v σ H Q → t v σ H Q) : PG X e t' := ⟨fun pins s σ H v u Q I r q => h.run pins s σ H v u Q I r (k v σ H Q q)⟩
theorem pgs_of {t t' : TGs} (h : PGs X es t) (k : ∀ v σ H Q, t' v σ H Q → t v σ H Q) : PGs X es t' := ⟨fun pins s σ H v u Q I r q => h.run pins s σ H v u Q I r (k v σ H Q q)⟩
theorem fg_name {i : Nat} (h : PG X e (gName i)) (hx : xfree C.x i = true) : PG X e (FG C (gNm i)) := pg_of h fun v σ H Q ⟨B, g, S, m, vs, I, A, d, r, w⟩ => w _ H I A (r.pop1.slot r.top hx)
theorem fgs_nil (h : PGs X es gNil) : PGs X es (FGs C gsNil) := pgs_of h fun us σ H Q ⟨B, g, S, m, vs, I, A, ds, hl, r, w⟩ => by
  cases ds with
  | nil => cases us with
    | nil => exact ⟨rfl, w σ H I A r⟩
    | cons u us => cases hl
  | cons d ds => exact w.elim
theorem fgs_cons (h : PGs X es (gCons (FG C mg) (FGs C mr))) : PGs X es (FGs C (gsCons mg mr)) := pgs_of h fun us σ H Q ⟨B, g, S, m, vs, I, A, ds, hl, r, w⟩ => by
  cases ds with
  | nil => exact w.elim
  | cons d ds =>
    cases us with
    | nil => cases hl
    | cons u us =>
      refine ⟨u, us, rfl, B, g, ds.map Vl.d ++ S, m, us ++ vs, I, A, .d d, r, ?_⟩
      have w1 : WantG C B S vs Q ((mg (.d d) g m).bind fun p => mr ds p.1 p.2) := w
      cases ea : mg (.d d) g m with
      | none => rw [ea] at w1; exact w1.elim
      | some p =>
        rw [ea] at w1
        intro σ' H' I' A' r'
        exact ⟨B, p.1, S, p.2, vs, I', A', ds, by simpa using hl, r', w1⟩
theorem fg_tup {n : Nat} {mr : MGs} (h : PG X e (gTup C.T.K n (FGs C mr))) : PG X e (FG C (gTp n mr)) := pg_of h fun v σ H Q ⟨B, g, S, m, vs, I, A, d, r, w⟩ => by
  cases d with
  | ref k => exact w.elim
  | d d =>
    cases d with
    | tup ds =>
      have w1 : WantG C B S vs Q (if ds.length = n then mr ds g m else none) := w
      by_cases hn : ds.length = n
      · rw [if_pos hn] at w1
        cases r.top.dat with
        | tup h1 h2 => exact ⟨_, _, rfl, same_t r.sub h1, by rw [h2.len]; exact hn, B, g, S, m, vs, I, A, ds, h2.len, { r.pop1 with stk := (DRs_vrs h2).app r.pop1.stk }, w1⟩
      · rw [if_neg hn] at w1; exact w1.elim
    | _ => exact w.elim
end
/-! ### statements -/
def thenG (o : Option (Gam × Cells)) : Out := match o with
  | some p => .nx p.1 p.2
  | none => .bad
def mAsg (me : ME) (mg : MG) : MS := fun g m => (me g m).then g fun d m1 => thenG (mg d g m1)
def mDrop (me : ME) : MS := fun g m => (me g m).then g fun _ m1 => .nx g m1
def mRet (me : ME) : MS := fun g m => (me g m).then g fun d m1 => .rt d m1
def mRetN : MS := fun _ m => .rt (.d .non) m
def mNext : MS := fun g m => .nx g m
def mBrk : MS := fun g m => .bk g m
def mCnt : MS := fun g m => .ct g m
def mSeq (s t : MS) : MS := fun g m => match s g m with
  | .nx g' m' => t g' m'
  | o => o
def mIfS (c : MT) (s t : MS) : MS := fun g m => (c g m).then g fun b m1 => if b = true then s g m1 else t g m1
/-- one turn of a loop -/
def turn (o : Out) (k : Gam → Cells → Out) : Out := match o with
  | .nx g m => k g m
  | .ct g m => k g m
  | .bk g m => .nx g m
  | o => o
def mWhile : Nat → MT → MS → MS
  | 0, _, _ => fun _ _ => .bad
  | n + 1, c, s => fun g m => (c g m).then g fun b m1 => if b = true then turn (s g m1) (mWhile n c s) else .nx g m1
def mLoop (mg : MG) (s : MS) : List Dt → MS
  | [] => fun g m => .nx g m
  | x :: r => fun g m => match mg (.d x) g m with
    | some p => turn (s p.1 p.2) (mLoop mg s r)
    | none => .bad
abbrev MI := Gam → Cells → Rs (List Dt)
def mFor (mi : MI) (mg : MG) (s : MS) : MS := fun g m => (mi g m).then g fun xs m1 => mLoop mg s xs g m1
section
variable {X : Cx} {C : Fc} {e : Expr} {st : Stmt} {ss : List Stmt} {me : ME} {mg : MG} {s t : MS} {c : MT}
theorem fs_asg (h : PS X st (tAsg (FE C me) (FG C mg))) : PS X st (FS C (mAsg me mg)) := ps_of h fun D σ H ⟨B, g, S, m, vs, I, A, r, w⟩ => by
  refine ⟨B, g, S, m, vs, I, A, r, ?_⟩
  unfold mAsg at w
  cases ea : me g m with
  | bad => rw [ea] at w; exact w.elim
  | ex c fs m' => rw [ea] at w; exact w
  | ok d m1 =>
    rw [ea] at w
    intro v H1 I1 A1 r1
    refine ⟨B, g, S, m1, vs, I1, A1, d, r1, ?_⟩
    have w1 : WantS C B S vs D (thenG (mg d g m1)) := w
    cases eb : mg d g m1 with
    | none => rw [eb] at w1; exact w1.elim
    | some p => rw [eb] at w1; exact w1
theorem fs_set {i : Nat} (h : PS X st (tAsg (FE C me) (gName i))) (hx : xfree C.x i = true) : PS X st (FS C (mAsg me (gNm i))) := ps_of h fun D σ H ⟨B, g, S, m, vs, I, A, r, w⟩ => by
  refine ⟨B, g, S, m, vs, I, A, r, ?_⟩
  unfold mAsg at w
  cases ea : me g m with
  | bad => rw [ea] at w; exact w.elim
  | ex c fs m' => rw [ea] at w; exact w
  | ok d m1 =>
    rw [ea] at w
    intro v H1 I1 A1 r1
    exact w _ H1 I1 A1 (r1.pop1.slot r1.top hx)
theorem fs_drop (h : PS X st (tDrop (FE C me))) : PS X st (FS C (mDrop me)) := ps_of h fun D σ H ⟨B, g, S, m, vs, I, A, r, w⟩ => by
  refine ⟨B, g, S, m, vs, I, A, r, ?_⟩
  unfold mDrop at w
  cases ea : me g m with
  | bad => rw [ea] at w; exact w.elim
  | ex c fs m' => rw [ea] at w; exact w
  | ok d m1 =>
    rw [ea] at w
    intro v H1 I1 A1 r1
    exact w _ H1 I1 A1 r1.pop1
theorem fs_ret (h : PS X st (tRet (FE C me))) : PS X st (FS C (mRet me)) := ps_of h fun D σ H ⟨B, g, S, m, vs, I, A, r, w⟩ => by
  refine ⟨B, g, S, m, vs, I, A, r, ?_⟩
  unfold mRet at w
  cases ea : me g m with
  | bad => rw [ea] at w; exact w.elim
  | ex c fs m' => rw [ea] at w; exact w
  | ok d m1 =>
    rw [ea] at w
    intro v H1 I1 A1 r1
    exact w g _ v H1 I1 A1 r1
theorem fs_retN (h : PS X st tRetN) : PS X st (FS C mRetN) := ps_of h fun D σ H ⟨B, g, S, m, vs, I, A, r, w⟩ => w g σ _ H I A (r.push (.d .non))
theorem fs_brk (h : PS X st tBreak) : PS X st (FS C mBrk) := ps_of h fun D σ H ⟨B, g, S, m, vs, I, A, r, w⟩ => w σ H I A r
theorem fs_cnt (h : PS X st tCont) : PS X st (FS C mCnt) := ps_of h fun D σ H ⟨B, g, S, m, vs, I, A, r, w⟩ => w σ H I A r
theorem fss_nil (h : PSs X ss tNext) : PSs X ss (FS C mNext) := pss_of h fun D σ H ⟨B, g, S, m, vs, I, A, r, w⟩ => w σ H I A r
theorem fss_cons (h : PSs X ss (tSeq (FS C s) (FS C t))) : PSs X ss (FS C (mSeq s t)) := pss_of h fun D σ H ⟨B, g, S, m, vs, I, A, r, w⟩ => by
  refine ⟨B, g, S, m, vs, I, A, r, ?_⟩
  unfold mSeq at w
  cases ea : s g m with
  | nx g' m' =>
    rw [ea] at w
    intro σ' H' I' A' r'
    exact ⟨B, g', S, m', vs, I', A', r', w⟩
  | rt d m' => rw [ea] at w; exact w
  | bk g' m' => rw [ea] at w; exact w
  | ct g' m' => rw [ea] at w; exact w
  | ex c fs g' m' => rw [ea] at w; exact w
  | bad => rw [ea] at w; exact w.elim
theorem fs_if (h : PS X st (tIfS (FT C c) (FS C s) (FS C t))) : PS X st (FS C (mIfS c s t)) := ps_of h fun D σ H ⟨B, g, S, m, vs, I, A, r, w⟩ => by
  refine ⟨B, g, S, m, vs, I, A, r, ?_⟩
  unfold mIfS at w
  cases ea : c g m with
  | bad => rw [ea] at w; exact w.elim
  | ex c fs m' => rw [ea] at w; exact w
  | ok b m1 =>
    rw [ea] at w
    intro H1 I1 A1 r1
    cases b with
    | true => exact ⟨B, g, S, m1, vs, I1, A1, r1, w⟩
    | false => exact ⟨B, g, S, m1, vs, I1, A1, r1, w⟩
theorem fs_while (n : Nat) (h : PS X st (tWhile (FT C c) (FS C s))) : PS X st (FS C (mWhile n c s)) := ps_of h fun D σ H ⟨B, g, S, m, vs, I, A, r, w⟩ => by
  refine ⟨fun n σ' H' => ∃ g m I A, Rel C.T C.x B g S m σ' vs H' I A ∧ WantS C B S vs D (mWhile n c s g m), ⟨n, g, m, I, A, r, w⟩, ?_⟩
  rintro n σ' H' ⟨g, m, I, A, r, w⟩
  refine ⟨B, g, S, m, vs, I, A, r, ?_⟩
  cases n with
  | zero => exact w.elim
  | succ n =>
    unfold mWhile at w
    cases ea : c g m with
    | bad => rw [ea] at w; exact w.elim
    | ex c fs m' => rw [ea] at w; exact w
    | ok b m1 =>
      rw [ea] at w
      intro H1 I1 A1 r1
      cases b with
      | false => exact w _ H1 I1 A1 r1
      | true =>
        have w1 : WantS C B S vs D (turn (s g m1) (mWhile n c s)) := w
        refine ⟨fun σ3 H3 => ∃ g m I A, Rel C.T C.x B g S m σ3 vs H3 I A ∧ WantS C B S vs D (mWhile n c s g m), fun σ3 H3 q => ⟨n, Nat.lt_succ_self n, q⟩, B, g, S, m1, vs, I1, A1, r1, ?_⟩
        unfold turn at w1
        cases eb : s g m1 with
        | nx g' m' => rw [eb] at w1; exact fun σ' H' I' A' r' => ⟨g', m', I', A', r', w1⟩
        | ct g' m' => rw [eb] at w1; exact fun σ' H' I' A' r' => ⟨g', m', I', A', r', w1⟩
        | bk g' m' => rw [eb] at w1; exact w1
        | rt d m' => rw [eb] at w1; exact w1
        | ex c fs g' m' => rw [eb] at w1; exact w1
        | bad => rw [eb] at w1; exact w1.elim
/-! ### what is walked -/
structure ItD (T : Tab) (x : Option Xc) (B1 : Bs) (J : It) (xs : List Dt) : Prop where
  go : ∀ i g S m σ vs H I A, i < xs.length → Rel T x B1 g S m σ vs H I A → J.go i H
  yl : ∀ i g S m σ vs H I A v H' d, xs[i]? = some d → Rel T x B1 g S m σ vs H I A → J.yld i H v H' → ∃ I', Rel T x B1 g (.d d :: S) m σ (v :: vs) H' I' A
  st : ∀ i g S m σ vs H I A, xs.length ≤ i → Rel T x B1 g S m σ vs H I A → J.stop i H
def WantI (C : Fc) (B : Bs) (g : Gam) (S : List Vl) (σ : L2.St) (vs : List V) (R : It → Hp → Prop) : Rs (List Dt) → Prop
  | .ok xs m' => ∀ J H' I' A', Rel C.T C.x B g S m' σ vs H' I' A' → (∀ F, ItD C.T C.x ⟨F, I', A'⟩ J xs) → R J H'
  | .ex c fs m' => WantX C B S vs c fs g m'
  | .bad => False
def FI (C : Fc) (mi : MI) : TI := fun σ H R => ∃ B g S m vs I A, Rel C.T C.x B g S m σ vs H I A ∧ WantI C B g S σ vs R (mi g m)
theorem pi_of {tg it : Expr} {t t' : TI} (h : PI X tg it t) (k : ∀ σ H R, t' σ H R → t σ H R) : PI X tg it t' := ⟨fun pins s σ H R I q => h.run pins s σ H R I (k σ H R q)⟩
/-- a value and what is walked of it -/
def mIt (me : ME) (f : Vl → Option (List Dt)) : MI := fun g m => (me g m).bind fun d m1 => ofO m1 (f d)
theorem it_ok {f : Vl → Option (List Dt)} {Q' : V → Hp → Prop} {σ : L2.St} {H : Hp} {R : It → Hp → Prop} (h : FI C (mIt me f) σ H R)
    (hq : ∀ B g S vs v d xs m1 H1 I1 A1, Rel C.T C.x B g (d :: S) m1 σ (v :: vs) H1 I1 A1 → f d = some xs → (∀ J H' I' A', Rel C.T C.x B g S m1 σ vs H' I' A' → (∀ F, ItD C.T C.x ⟨F, I', A'⟩ J xs) → R J H') → Q' v H1) : FE C me σ H Q' := by
  obtain ⟨B, g, S, m, vs, I, A, r, w⟩ := h
  refine ⟨B, g, S, m, vs, I, A, r, ?_⟩
  unfold mIt at w
  cases ea : me g m with
  | bad => rw [ea] at w; exact w.elim
  | ex c fs m' => rw [ea] at w; exact w
  | ok d m1 =>
    rw [ea] at w
    intro v H1 I1 A1 r1
    have w1 : WantI C B g S σ vs R (ofO m1 (f d)) := w
    cases ef : f d with
    | none => rw [ef] at w1; exact w1.elim
    | some xs => rw [ef] at w1; exact hq B g S vs v d xs m1 H1 I1 A1 r1 ef w1
def isLst : Vl → Option (List Dt)
  | .d (.lst ds) => some ds
  | .d (.scr ds) => some ds
  | _ => none
def isTup : Vl → Option (List Dt)
  | .d (.tup ds) => some ds
  | _ => none
def isSeq : Vl → Option (List Dt)
  | .d (.lst ds) => some ds
  | .d (.tup ds) => some ds
  | _ => none
theorem itl_itd {x : Option Xc} {T : Tab} {F : Frm} {I1 : Hp} {A1 : List Addr} {a : Addr} {xs : List V} {ds : List Dt} (hl : SqL T.K I1 a xs) (hs : DRs T I1 xs ds) : ItD T x ⟨F, I1, A1⟩ (Itl T.K a) ds where
  go := fun i g S m σ vs H I A hi r => ⟨xs, _, same_l (r.up.i.trans r.sub) hl, List.getElem?_eq_getElem (by rw [hs.len]; exact hi)⟩
  yl := fun i g S m σ vs H I A v H' d hx r hy => by
    obtain ⟨e1, e2⟩ := hy
    subst e1
    obtain ⟨u, hv, hr⟩ := hs.get hx
    have e3 := e2 _ (same_l (r.up.i.trans r.sub) hl)
    rw [hv] at e3
    cases e3
    exact ⟨I, r.push (.d (hr.mono r.up.i))⟩
  st := fun i g S m σ vs H I A hi r => ⟨xs, same_l (r.up.i.trans r.sub) hl, by rw [hs.len]; exact hi⟩
theorem itt_itd {x : Option Xc} {T : Tab} {F : Frm} {I1 : Hp} {A1 : List Addr} {a : Addr} {xs : List V} {ds : List Dt} (hl : SqT T.K I1 a xs) (hs : DRs T I1 xs ds) : ItD T x ⟨F, I1, A1⟩ (Itt T.K a) ds where
  go := fun i g S m σ vs H I A hi r => ⟨xs, _, same_t (r.up.i.trans r.sub) hl, List.getElem?_eq_getElem (by rw [hs.len]; exact hi)⟩
  yl := fun i g S m σ vs H I A v H' d hx r hy => by
    obtain ⟨e1, e2⟩ := hy
    subst e1
    obtain ⟨u, hv, hr⟩ := hs.get hx
    have e3 := e2 _ (same_t (r.up.i.trans r.sub) hl)
    rw [hv] at e3
    cases e3
    exact ⟨I, r.push (.d (hr.mono r.up.i))⟩
  st := fun i g S m σ vs H I A hi r => ⟨xs, same_t (r.up.i.trans r.sub) hl, by rw [hs.len]; exact hi⟩
theorem fi_lst {tg it : Expr} (h : PI X tg it (iList C.T.K (FE C me))) : PI X tg it (FI C (mIt me isLst)) := pi_of h fun σ H R q => it_ok q fun B g S vs v d xs m1 H1 I1 A1 r ef w => by
  cases d with
  | ref k => cases ef
  | d d =>
    cases d with
    | lst ds =>
      cases ef
      cases r.top.dat with
      | @lst a ys _ hl hs => exact ⟨a, rfl, ⟨ys, .inl (.inl (r.sub _ _ hl))⟩, w _ H1 I1 A1 r.pop1 fun F => itl_itd (.inl (.inl hl)) hs⟩
    | scr ds =>
      cases ef
      cases r.top.dat with
      | @scr a ys _ hl hs => exact ⟨a, rfl, ⟨ys, same_l r.sub hl⟩, w _ H1 I1 A1 r.pop1 fun F => itl_itd hl hs⟩
    | _ => cases ef
theorem fi_tup {tg it : Expr} (h : PI X tg it (iTup C.T.K (FE C me))) : PI X tg it (FI C (mIt me isTup)) := pi_of h fun σ H R q => it_ok q fun B g S vs v d xs m1 H1 I1 A1 r ef w => by
  cases d with
  | ref k => cases ef
  | d d =>
    cases d with
    | tup ds =>
      cases ef
      cases r.top.dat with
      | @tup a ys _ hl hs => exact ⟨a, rfl, ⟨ys, same_t r.sub hl⟩, w _ H1 I1 A1 r.pop1 fun F => itt_itd hl hs⟩
    | _ => cases ef
def signsD (z : Str) : List Dt := z.cps.toList.map fun c => .str ⟨#[c]⟩
def isStrI : Vl → Option (List Dt)
  | .d (.str z) => some (signsD z)
  | _ => none
theorem fi_str {tg it : Expr} (h : PI X tg it (iStr (FE C me))) : PI X tg it (FI C (mIt me isStrI)) := pi_of h fun σ H R q => it_ok q fun B g S vs v d xs m1 H1 I1 A1 r ef w => by
  cases d with
  | ref k => cases ef
  | d d =>
    cases d with
    | str z =>
      cases ef
      cases r.top.dat
      have hsz : (signsD z).length = z.cps.size := by unfold signsD; rw [List.length_map, Array.length_toList]
      refine ⟨z, rfl, w _ H1 I1 A1 r.pop1 fun F => ⟨fun i g S m σ vs H I A hi _ => by rw [hsz] at hi; exact hi, fun i g S m σ vs H I A v H' d hx r' hy => ?_, fun i g S m σ vs H I A hi _ => by rw [hsz] at hi; exact hi⟩⟩
      obtain ⟨e1, c, hc, e2⟩ := hy
      subst e1 e2
      unfold signsD at hx
      rw [List.getElem?_map, Array.getElem?_toList, hc] at hx
      cases hx
      exact ⟨I, r'.push (.d (.str _))⟩
    | _ => cases ef
/-- for -/
theorem fs_for {mi : MI} (h : PS X st (tFor (FI C mi) (FG C mg) (FS C s))) : PS X st (FS C (mFor mi mg s)) := ps_of h fun D σ H ⟨B, g, S, m, vs, I, A, r, w⟩ => by
  refine ⟨B, g, S, m, vs, I, A, r, ?_⟩
  unfold mFor at w
  cases ea : mi g m with
  | bad => rw [ea] at w; exact w.elim
  | ex c fs m' => rw [ea] at w; exact w
  | ok xs m1 =>
    rw [ea] at w
    intro J H1 I1 A1 r1 it
    have w1 : WantS C B S vs D (mLoop mg s xs g m1) := w
    have itd := it B.F
    refine ⟨fun i n σ' H' => i + n = xs.length ∧ ∃ g m I A, Rel C.T C.x ⟨B.F, I1, A1⟩ g S m σ' vs H' I A ∧ WantS C B S vs D (mLoop mg s (xs.drop i) g m), ⟨xs.length, by omega, g, m1, I1, A1, r1.grip, by simpa using w1⟩, ?_⟩
    rintro i n σ' H' ⟨hn, g, m, I, A, r, w⟩
    by_cases hi : i < xs.length
    · have hd : xs.drop i = xs[i] :: xs.drop (i + 1) := List.drop_eq_getElem_cons hi
      rw [hd] at w
      refine .inr ⟨itd.go i g S m σ' vs H' I A hi r, fun σ2 H2 => ∃ g m I A, Rel C.T C.x ⟨B.F, I1, A1⟩ g S m σ2 vs H2 I A ∧ WantS C B S vs D (mLoop mg s (xs.drop (i + 1)) g m), fun σ2 H2 q => ⟨n - 1, by omega, by omega, q⟩, fun v H2 hy => ?_⟩
      obtain ⟨I2, r2⟩ := itd.yl i g S m σ' vs H' I A v H2 xs[i] (List.getElem?_eq_getElem hi) r hy
      refine ⟨⟨B.F, I1, A1⟩, g, S, m, vs, I2, A, _, r2, ?_⟩
      unfold mLoop at w
      cases eb : mg (.d xs[i]) g m with
      | none => rw [eb] at w; exact w.elim
      | some p =>
        rw [eb] at w
        intro σ3 H3 I3 A3 r3
        refine ⟨⟨B.F, I1, A1⟩, p.1, S, p.2, vs, I3, A3, r3, ?_⟩
        have w2 : WantS C B S vs D (turn (s p.1 p.2) (mLoop mg s (xs.drop (i + 1)))) := w
        unfold turn at w2
        cases ec : s p.1 p.2 with
        | nx g' m' => rw [ec] at w2; exact fun σ' H' I' A' r' => ⟨g', m', I', A', r', w2⟩
        | ct g' m' => rw [ec] at w2; exact fun σ' H' I' A' r' => ⟨g', m', I', A', r', w2⟩
        | bk g' m' => rw [ec] at w2; exact fun σ' H' I' A' r' => w2 σ' H' I' A' (r'.from r1.up)
        | rt d m' => rw [ec] at w2; exact fun g' σ' v H' I' A' r' => w2 g' σ' v H' I' A' (r'.from r1.up)
        | ex c fs g' m' => rw [ec] at w2; exact fun σ' H' I' A' dx ws r' => w2 σ' H' I' A' dx ws (r'.from r1.up)
        | bad => rw [ec] at w2; exact w2.elim
    · have hd : xs.drop i = [] := List.drop_eq_nil_of_le (by omega)
      rw [hd] at w
      exact .inl ⟨itd.st i g S m σ' vs H' I A (by omega) r, w σ' H' I A (r.from r1.up)⟩
end
end FM

namespace FM
open PySem PySem.Spec PyProof.Rows L2
/-! ### displays, calls of built-ins -/
def szOk (n : Nat) : Bool := decide (n ≤ 16777216)
theorem szOk_line {n : Nat} (h : szOk n = true) : n ≤ sizeLine := by rw [sizeLine_eq]; exact of_decide_eq_true h
def mTup (ma : MA) : ME := fun g m => (ma g m).bind fun vs m1 => match dats vs with
  | some ds => if szOk ds.length then .ok (.d (.tup ds)) m1 else .bad
  | none => .bad
def mLst (ma : MA) : ME := fun g m => (ma g m).bind fun vs m1 => match dats vs with
  | some ds => if szOk ds.length then .ok (.d (.lst ds)) m1 else .bad
  | none => .bad
/-- a list that may change -/
def mLstC (ma : MA) : ME := fun g m => (ma g m).bind fun vs m1 => match dats vs with
  | some ds => if szOk ds.length then .ok (.ref m1.length) (m1 ++ [some (.lst ds)]) else .bad
  | none => .bad
section
variable {X : Cx} {C : Fc} {e : Expr} {ma : MA}
theorem args_ok {Q' : List V → Hp → Prop} {σ : L2.St} {H : Hp} {k : List Vl → Cells → Rs Vl} {B : Bs} {g : Gam} {S : List Vl} {m : Cells} {vs : List V} {I : Hp} {A : List Addr} {Q : VK} (r : Rel C.T C.x B g S m σ vs H I A)
    (w : WantE C B g S σ vs Q ((ma g m).bind fun x m1 => k x m1))
    (hq : ∀ ws ds m1 H1 I1 A1, Rel C.T C.x B g S m1 σ vs H1 I1 A1 → VRs C.T I1 A1 ws ds → WantE C B g S σ vs Q (k ds m1) → Q' ws H1) : FA C ma σ H Q' := by
  refine ⟨B, g, S, m, vs, I, A, r, ?_⟩
  cases ea : ma g m with
  | bad => rw [ea] at w; exact w.elim
  | ex c fs m' => rw [ea] at w; exact w
  | ok ds m1 =>
    rw [ea] at w
    intro ws H1 I1 A1 hl r1
    obtain ⟨q1, q2⟩ := r1.stk.split hl
    exact hq ws ds m1 H1 I1 A1 { r1 with stk := q2 } q1 w
theorem fe_tup (h : PE X e (tTup (FA C ma))) : PE X e (FE C (mTup ma)) := pe_of h fun σ H Q ⟨B, g, S, m, vs, I, A, r, w⟩ => args_ok r w fun ws ds m1 H1 I1 A1 r1 hv w1 => by
  cases ed : dats ds with
  | none => rw [ed] at w1; exact (show False from w1).elim
  | some es =>
    rw [ed] at w1
    by_cases hz : szOk es.length = true
    · have w2 : WantE C B g S σ vs Q (.ok (.d (.tup es)) m1) := by
        have := w1
        simp only [hz, if_true] at this
        exact this
      have hd := hv.dats ed
      refine ⟨by rw [hd.len]; exact szOk_line hz, fun p hp => ?_⟩
      obtain ⟨b, e⟩ := r1.base.new (o := .tup ws) hp
      exact w2 _ _ _ _ ((r1.step b e).push (.d (.tup (.inl (.inl upd_same)) (hd.mono e.i))))
    · simp only [hz, if_false] at w1; exact (show False from w1).elim
theorem fe_lst (h : PE X e (tLst (FA C ma))) : PE X e (FE C (mLst ma)) := pe_of h fun σ H Q ⟨B, g, S, m, vs, I, A, r, w⟩ => args_ok r w fun ws ds m1 H1 I1 A1 r1 hv w1 => by
  cases ed : dats ds with
  | none => rw [ed] at w1; exact (show False from w1).elim
  | some es =>
    rw [ed] at w1
    by_cases hz : szOk es.length = true
    · have w2 : WantE C B g S σ vs Q (.ok (.d (.lst es)) m1) := by
        have := w1
        simp only [hz, if_true] at this
        exact this
      have hd := hv.dats ed
      refine ⟨by rw [hd.len]; exact szOk_line hz, fun p hp => ?_⟩
      obtain ⟨b, e⟩ := r1.base.new (o := .lst ws) hp
      exact w2 _ _ _ _ ((r1.step b e).push (.d (.lst upd_same (hd.mono e.i))))
    · simp only [hz, if_false] at w1; exact (show False from w1).elim
theorem last_get {α : Type} (A : List α) (p : α) : (A ++ [p])[A.length]? = some p := by rw [List.getElem?_append_right (Nat.le_refl _), Nat.sub_self]; rfl
theorem fe_lstC (h : PE X e (tLst (FA C ma))) : PE X e (FE C (mLstC ma)) := pe_of h fun σ H Q ⟨B, g, S, m, vs, I, A, r, w⟩ => args_ok r w fun ws ds m1 H1 I1 A1 r1 hv w1 => by
  cases ed : dats ds with
  | none => rw [ed] at w1; exact (show False from w1).elim
  | some es =>
    rw [ed] at w1
    by_cases hz : szOk es.length = true
    · have w2 : WantE C B g S σ vs Q (.ok (.ref m1.length) (m1 ++ [some (.lst es)])) := by
        have := w1
        simp only [hz, if_true] at this
        exact this
      have hd := hv.dats ed
      refine ⟨by rw [hd.len]; exact szOk_line hz, fun p hp => ?_⟩
      obtain ⟨b, e⟩ := r1.base.newC (o := .lst ws) (c := .lst es) hp ⟨ws, upd_same, hd⟩
      exact w2 _ _ _ _ ((r1.step b e).push (.ref (by rw [← r1.base.len]; exact last_get A1 p)))
    · simp only [hz, if_false] at w1; exact (show False from w1).elim
/-- a call on values -/
abbrev ON := Cells → List Vl → Option Vl
def mCB (f : ON) (ma : MA) : ME := fun g m => (ma g m).bind fun xs m1 => ofO m1 (f m1 xs)
def SimN (T : Tab) (r : List V → Hp → VK → Prop) (f : ON) : Prop := ∀ (F : Frm) (I H : Hp) (A : List Addr) (m : Cells) (ws : List V) (ds : List Vl) (d : Vl), Base T F I H A m → VRs T I A ws ds → f m ds = some d → ∀ Q : VK, (∀ v H' I', Base T F I' H' A m → Same I I' → VR T I' A v d → Q v H') → r ws H Q
theorem fe_cb {r : List V → Hp → VK → Prop} {f : ON} (h : PE X e (tCB r (FA C ma))) (s : SimN C.T r f) : PE X e (FE C (mCB f ma)) := pe_of h fun σ H Q ⟨B, g, S, m, vs, I, A, rl, w⟩ => args_ok rl w fun ws ds m1 H1 I1 A1 r1 hv w1 => by
  cases ef : f m1 ds with
  | none => rw [ef] at w1; exact w1.elim
  | some d =>
    rw [ef] at w1
    exact s _ I1 H1 A1 m1 ws ds d r1.base hv ef Q fun v H' I' b e hd => w1 v H' I' A1 ((r1.step b ⟨e, List.prefix_refl _⟩).push hd)
/-- a call that makes a list, as data -/
abbrev OL := Cells → List Vl → Option (List Dt)
def SimL (T : Tab) (r : List V → Hp → VK → Prop) (f : OL) : Prop := ∀ (F : Frm) (I H : Hp) (A : List Addr) (m : Cells) (ws : List V) (ds : List Vl) (es : List Dt), Base T F I H A m → VRs T I A ws ds → f m ds = some es → ∀ Q : VK, (∀ p us, H p = none → DRs T I us es → Q (.ref p) (upd H p (.lst us))) → r ws H Q
def mCL (f : OL) (ma : MA) : ME := fun g m => (ma g m).bind fun xs m1 => match f m1 xs with
  | some ds => .ok (.d (.lst ds)) m1
  | none => .bad
/-- the same, a cell -/
def mCLC (f : OL) (ma : MA) : ME := fun g m => (ma g m).bind fun xs m1 => match f m1 xs with
  | some ds => .ok (.ref m1.length) (m1 ++ [some (.lst ds)])
  | none => .bad
theorem fe_cl {r : List V → Hp → VK → Prop} {f : OL} (h : PE X e (tCB r (FA C ma))) (s : SimL C.T r f) : PE X e (FE C (mCL f ma)) := pe_of h fun σ H Q ⟨B, g, S, m, vs, I, A, rl, w⟩ => args_ok rl w fun ws ds m1 H1 I1 A1 r1 hv w1 => by
  cases ef : f m1 ds with
  | none => rw [ef] at w1; exact (show False from w1).elim
  | some es =>
    rw [ef] at w1
    exact s _ I1 H1 A1 m1 ws ds es r1.base hv ef Q fun p us hp hd => by
      obtain ⟨b, e⟩ := r1.base.new (o := .lst us) hp
      exact w1 _ _ _ _ ((r1.step b e).push (.d (.lst upd_same (hd.mono e.i))))
theorem fe_clC {r : List V → Hp → VK → Prop} {f : OL} (h : PE X e (tCB r (FA C ma))) (s : SimL C.T r f) : PE X e (FE C (mCLC f ma)) := pe_of h fun σ H Q ⟨B, g, S, m, vs, I, A, rl, w⟩ => args_ok rl w fun ws ds m1 H1 I1 A1 r1 hv w1 => by
  cases ef : f m1 ds with
  | none => rw [ef] at w1; exact (show False from w1).elim
  | some es =>
    rw [ef] at w1
    exact s _ I1 H1 A1 m1 ws ds es r1.base hv ef Q fun p us hp hd => by
      obtain ⟨b, e⟩ := r1.base.newC (o := .lst us) (c := .lst es) hp ⟨us, upd_same, hd⟩
      exact w1 _ _ _ _ ((r1.step b e).push (.ref (by rw [← r1.base.len]; exact last_get A1 p)))
end
/-! ### list comprehensions -/
def Only (js : List Nat) (σ σ' : L2.St) : Prop := σ'.length = σ.length ∧ ∀ i, i ∉ js → σ'[i]? = σ[i]?
def Fills (tg : TG) (js : List Nat) : Prop := ∀ v σ H (Q Q' : L2.St → Hp → Prop), tg v σ H Q → (∀ σ' H', Only js σ σ' → Q σ' H' → Q' σ' H') → tg v σ H Q'
def FillsS (tg : TGs) (js : List Nat) : Prop := ∀ v σ H (Q Q' : L2.St → Hp → Prop), tg v σ H Q → (∀ σ' H', Only js σ σ' → Q σ' H' → Q' σ' H') → tg v σ H Q'
theorem fills_name {i : Nat} : Fills (gName i) [i] := fun v σ H Q Q' h k => k _ _ ⟨List.length_set, fun j hj => List.getElem?_set_ne (fun e => hj (by rw [e]; exact List.mem_singleton.mpr rfl))⟩ h
theorem fills_nil : FillsS gNil [] := fun vs σ H Q Q' h k => ⟨h.1, k _ _ ⟨rfl, fun _ _ => rfl⟩ h.2⟩
theorem fills_cons {tg : TG} {tr : TGs} {js ks : List Nat} (h : Fills tg js) (hr : FillsS tr ks) : FillsS (gCons tg tr) (js ++ ks) := fun vs σ H Q Q' ⟨v, r, e, q⟩ k => ⟨v, r, e, h _ _ _ _ _ q fun σ1 H1 o1 q1 => hr _ _ _ _ _ q1 fun σ2 H2 o2 q2 => k _ _ ⟨o2.1.trans o1.1, fun i hi => by
  have h1 : i ∉ js := fun z => hi (List.mem_append_left _ z)
  have h2 : i ∉ ks := fun z => hi (List.mem_append_right _ z)
  rw [o2.2 i h2, o1.2 i h1]⟩ q2⟩
theorem fills_tup {K : PySem.W.Frag} {n : Nat} {tr : TGs} {js : List Nat} (h : FillsS tr js) : Fills (gTup K n tr) js := fun v σ H Q Q' ⟨a, xs, e1, e2, e3, q⟩ k => ⟨a, xs, e1, e2, e3, h _ _ _ _ _ q k⟩
theorem sg_name {C : Fc} {i : Nat} (hx : xfree C.x i = true) : ∀ v σ H Q, FG C (gNm i) v σ H Q → gName i v σ H Q := fun v σ H Q ⟨B, g, S, m, vs, I, A, d, r, w⟩ => w _ H I A (r.pop1.slot r.top hx)
theorem sgs_nil {C : Fc} : ∀ us σ H Q, FGs C gsNil us σ H Q → gNil us σ H Q := fun us σ H Q ⟨B, g, S, m, vs, I, A, ds, hl, r, w⟩ => by
  cases ds with
  | nil => cases us with
    | nil => exact ⟨rfl, w σ H I A r⟩
    | cons u us => cases hl
  | cons d ds => exact w.elim
theorem sgs_cons {C : Fc} {mg : MG} {mr : MGs} {tg : TG} {tr : TGs} (h1 : ∀ v σ H Q, FG C mg v σ H Q → tg v σ H Q) (h2 : ∀ us σ H Q, FGs C mr us σ H Q → tr us σ H Q) : ∀ us σ H Q, FGs C (gsCons mg mr) us σ H Q → gCons tg tr us σ H Q := fun us σ H Q ⟨B, g, S, m, vs, I, A, ds, hl, r, w⟩ => by
  cases ds with
  | nil => exact w.elim
  | cons d ds =>
    cases us with
    | nil => cases hl
    | cons u us =>
      refine ⟨u, us, rfl, h1 _ _ _ _ ⟨B, g, ds.map Vl.d ++ S, m, us ++ vs, I, A, .d d, r, ?_⟩⟩
      have w1 : WantG C B S vs Q ((mg (.d d) g m).bind fun p => mr ds p.1 p.2) := w
      cases ea : mg (.d d) g m with
      | none => rw [ea] at w1; exact w1.elim
      | some p =>
        rw [ea] at w1
        intro σ' H' I' A' r'
        exact h2 _ _ _ _ ⟨B, p.1, S, p.2, vs, I', A', ds, by simpa using hl, r', w1⟩
theorem sg_tup {C : Fc} {n : Nat} {mr : MGs} {tr : TGs} (h2 : ∀ us σ H Q, FGs C mr us σ H Q → tr us σ H Q) : ∀ v σ H Q, FG C (gTp n mr) v σ H Q → gTup C.T.K n tr v σ H Q := fun v σ H Q ⟨B, g, S, m, vs, I, A, d, r, w⟩ => by
  cases d with
  | ref k => exact w.elim
  | d d =>
    cases d with
    | tup ds =>
      have w1 : WantG C B S vs Q (if ds.length = n then mr ds g m else none) := w
      by_cases hn : ds.length = n
      · rw [if_pos hn] at w1
        cases r.top.dat with
        | tup h1 h3 => exact ⟨_, _, rfl, same_t r.sub h1, by rw [h3.len]; exact hn, h2 _ _ _ _ ⟨B, g, S, m, vs, I, A, ds, h3.len, { r.pop1 with stk := (DRs_vrs h3).app r.pop1.stk }, w1⟩⟩
      · rw [if_neg hn] at w1; exact w1.elim
    | _ => exact w.elim
def wipeG (g : Gam) : List Nat → Gam
  | [] => g
  | v :: vs => (wipeG g vs).set v none
theorem Ctx.wipe {T : Tab} {I : Hp} {A : List Addr} {σ : L2.St} {g : Gam} (h : Ctx T I A σ g) : ∀ vs : List Nat, Ctx T I A (L2.wipe σ vs) (wipeG g vs)
  | [] => h
  | v :: vs => (Ctx.wipe h vs).drop
theorem wipe_in {σ : L2.St} {i : Nat} : ∀ {vs : List Nat}, i ∈ vs → (L2.wipe σ vs)[i]? = σ[i]?.map fun _ => none
  | [], h => by cases h
  | v :: vs, h => by
    unfold L2.wipe
    by_cases e : v = i
    · subst e
      by_cases hl : v < σ.length
      · rw [List.getElem?_set_self (by rw [L2.wipe_length]; exact hl), List.getElem?_eq_getElem hl]
        rfl
      · rw [List.getElem?_eq_none (by rw [List.length_set, L2.wipe_length]; omega), List.getElem?_eq_none (by omega)]
        rfl
    · rw [List.getElem?_set_ne e]
      exact wipe_in (by
        rcases List.mem_cons.mp h with w | w
        · exact absurd w.symm e
        · exact w)
theorem wipe_only {σ σ2 : L2.St} {js vs : List Nat} (hj : ∀ j ∈ js, j ∈ vs) (h : Only js (L2.wipe σ vs) σ2) : L2.wipe σ2 vs = L2.wipe σ vs := by
  refine List.ext_getElem? fun i => ?_
  by_cases hi : i ∈ vs
  · rw [wipe_in hi, wipe_in hi]
    have hl : σ2.length = σ.length := by rw [h.1, L2.wipe_length]
    by_cases w : i < σ.length
    · rw [List.getElem?_eq_getElem w, List.getElem?_eq_getElem (by rw [hl]; exact w)]
      rfl
    · rw [List.getElem?_eq_none (by omega), List.getElem?_eq_none (by omega)]
  · rw [L2.wipe_out hi, h.2 i (fun w => hi (hj i w)), L2.wipe_out hi]
def lcLoop (mg : MG) (mt : MT) (me : ME) (g0 : Gam) : List Dt → List Dt → Cells → Rs (List Dt)
  | [], acc, m => .ok acc m
  | x :: r, acc, m => match mg (.d x) g0 m with
    | none => .bad
    | some p => match mt p.1 p.2 with
      | .ok true m2 => (match me p.1 m2 with
        | .ok (.d d) m3 => if szOk (acc.length + 1) then lcLoop mg mt me g0 r (acc ++ [d]) m3 else .bad
        | _ => .bad)
      | .ok false m2 => lcLoop mg mt me g0 r acc m2
      | _ => .bad
def mLc (mi : MI) (mg : MG) (mt : MT) (me : ME) (own : List Nat) : ME := fun g m => (mi g m).bind fun xs m1 => (lcLoop mg mt me (wipeG g own) xs [] m1).bind fun acc m2 => .ok (.d (.lst acc)) m2
/-- the same, a cell -/
def mLcC (mi : MI) (mg : MG) (mt : MT) (me : ME) (own : List Nat) : ME := fun g m => (mi g m).bind fun xs m1 => (lcLoop mg mt me (wipeG g own) xs [] m1).bind fun acc m2 => .ok (.ref m2.length) (m2 ++ [some (.lst acc)])
def mYes : MT := fun _ m => .ok true m
theorem ft_yes {X : Cx} {C : Fc} {es : List Expr} (h : PTs X es tYes) : PTs X es (FT C mYes) := pts_of h fun σ H Q ⟨B, g, S, m, vs, I, A, r, w⟩ => w H I A r
def W0 : WX := fun _ _ _ _ => False
abbrev Fc.quiet (C : Fc) : Fc := ⟨C.T, none, W0⟩
theorem Rel.noX {T : Tab} {x : Option Xc} {B : Bs} {g : Gam} {S : List Vl} {m : Cells} {σ : L2.St} {vs : List V} {H I : Hp} {A : List Addr} (r : Rel T x B g S m σ vs H I A) : Rel T none B g S m σ vs H I A := ⟨r.base, r.up, r.ctx, r.stk, trivial⟩
theorem vrs_drs {T : Tab} {I : Hp} {A : List Addr} {us : List V} {ds : List Dt} (h : VRs T I A us (ds.map Vl.d)) : DRs T I us ds := by
  induction us generalizing ds with
  | nil => cases ds with
    | nil => exact .nil
    | cons d ds => cases h
  | cons u us ih => cases ds with
    | nil => cases h
    | cons d ds => cases h with | cons a t => exact .cons a.dat (ih t)
/-- the loop of a comprehension; the end by fin -/
theorem lc_ok {C : Fc} {mi : MI} {mg : MG} {mt : MT} {me : ME} {own js : List Nat} {tg : TG} (hg : ∀ v σ H Q, FG C.quiet mg v σ H Q → tg v σ H Q) (hf : Fills tg js) (hj : ∀ j ∈ js, j ∈ own) (cx : C.x = none) {σ : L2.St} {H : Hp} {Q : VK} {k : List Dt → Cells → Rs Vl}
    {B : Bs} {g : Gam} {S : List Vl} {m : Cells} {vs : List V} {I : Hp} {A : List Addr} (r : Rel C.T C.x B g S m σ vs H I A) (w : WantE C B g S σ vs Q ((mi g m).bind fun xs m1 => (lcLoop mg mt me (wipeG g own) xs [] m1).bind k))
    (fin : ∀ D us acc m2 H2 I2 A2, Rel C.T C.x ⟨(D, .lst us) :: B.F, B.I, B.A⟩ g S m2 σ vs H2 I2 A2 → DRs C.T I2 us acc → WantE C B g S σ vs Q (k acc m2) → Q (.ref D) H2) : tLc (FI C mi) tg (FT C.quiet mt) (FE C.quiet me) own σ H Q := by
  refine ⟨B, g, S, m, vs, I, A, r, ?_⟩
  cases ea : mi g m with
  | bad => rw [ea] at w; exact w.elim
  | ex c fs m' => rw [ea] at w; exact w
  | ok xs m1 =>
    rw [ea] at w
    intro J H1 I1 A1 r1 it D hD
    have w1 : WantE C B g S σ vs Q ((lcLoop mg mt me (wipeG g own) xs [] m1).bind k) := w
    refine ⟨fun i n H' => i + n = xs.length ∧ ∃ (us : List V) (acc : List Dt) (m : Cells) (I : Hp) (A : List Addr), us.length = acc.length ∧ Rel C.T C.x ⟨(D, .lst us) :: B.F, I1, A1⟩ g (acc.map Vl.d ++ S) m σ (us ++ vs) H' I A ∧ WantE C B g S σ vs Q ((lcLoop mg mt me (wipeG g own) (xs.drop i) acc m).bind k), ⟨xs.length, by omega, [], [], m1, I1, A1, rfl, ⟨r1.base.hide hD, Up.refl, r1.ctx, r1.stk, r1.xc⟩, by simpa using w1⟩, ?_⟩
    rintro i n H' ⟨hn, us, acc, m, I, A, hl, r, w⟩
    have itd := it ((D, .lst us) :: B.F)
    by_cases hi : i < xs.length
    · have hdr : xs.drop i = xs[i] :: xs.drop (i + 1) := List.drop_eq_getElem_cons hi
      rw [hdr] at w
      refine .inr ⟨itd.go i _ _ _ _ _ H' I A hi r, fun H2 => ∃ (us : List V) (acc : List Dt) (m : Cells) (I : Hp) (A : List Addr), us.length = acc.length ∧ Rel C.T C.x ⟨(D, .lst us) :: B.F, I1, A1⟩ g (acc.map Vl.d ++ S) m σ (us ++ vs) H2 I A ∧ WantE C B g S σ vs Q ((lcLoop mg mt me (wipeG g own) (xs.drop (i + 1)) acc m).bind k), fun H2 q => ⟨n - 1, by omega, by omega, q⟩, fun v H2 hy => ?_⟩
      obtain ⟨I2, r2⟩ := itd.yl i _ _ _ _ _ H' I A v H2 xs[i] (List.getElem?_eq_getElem hi) r hy
      have back : ∀ {us : List V} {acc : List Dt} {g2 : Gam} {m2 : Cells} {σ2 : L2.St} {H2 I2 : Hp} {A2 : List Addr}, Rel C.T none ⟨(D, .lst us) :: B.F, I1, A1⟩ g2 (acc.map Vl.d ++ S) m2 σ2 (us ++ vs) H2 I2 A2 → Rel C.T C.x ⟨(D, .lst us) :: B.F, I1, A1⟩ g (acc.map Vl.d ++ S) m2 σ (us ++ vs) H2 I2 A2 := fun {us acc g2 m2 σ2 H2 I2 A2} r => ⟨r.base, r.up, r1.ctx.mono r.up, r.stk, by rw [cx]; trivial⟩
      have r3 : Rel C.T none ⟨(D, .lst us) :: B.F, I1, A1⟩ (wipeG g own) (.d xs[i] :: (acc.map Vl.d ++ S)) m (L2.wipe σ own) (v :: (us ++ vs)) H2 I2 A := ⟨r2.base, r2.up, r2.ctx.wipe own, r2.stk, trivial⟩
      unfold lcLoop at w
      cases eb : mg (.d xs[i]) (wipeG g own) m with
      | none => rw [eb] at w; exact (show False from w).elim
      | some p =>
        simp only [eb] at w
        refine hf _ _ _ (fun σ' Hq => Only js (L2.wipe σ own) σ' → L2.wipe σ' own = L2.wipe σ own ∧ FT C.quiet mt σ' Hq _) _ (hg _ _ _ _ ⟨_, wipeG g own, _, m, _, I2, A, _, r3, ?_⟩) fun σ' Hq ho hq => hq ho
        rw [eb]
        intro σ3 H3 I3 A3 r4 ho
        refine ⟨wipe_only hj ho, _, p.1, _, p.2, _, I3, A3, r4, ?_⟩
        cases ec : mt p.1 p.2 with
        | bad => simp only [ec] at w; exact (show False from w).elim
        | ex c fs m' => simp only [ec] at w; exact (show False from w).elim
        | ok b m2 =>
          simp only [ec] at w
          intro H4 I4 A4 r5
          cases b with
          | false =>
            rw [if_neg Bool.false_ne_true]
            exact ⟨us, acc, m2, I4, A4, hl, back r5, w⟩
          | true =>
            rw [if_pos rfl]
            refine ⟨_, p.1, _, m2, _, I4, A4, r5, ?_⟩
            cases ed : me p.1 m2 with
            | bad => simp only [ed] at w; exact (show False from w).elim
            | ex c fs m' => simp only [ed] at w; exact (show False from w).elim
            | ok y m3 =>
              simp only [ed] at w
              cases y with
              | ref j => exact (show False from w).elim
              | d y =>
                intro u H5 I5 A5 r6
                have w2 : WantE C B g S σ vs Q ((if szOk (acc.length + 1) then lcLoop mg mt me (wipeG g own) (xs.drop (i + 1)) (acc ++ [y]) m3 else .bad).bind k) := w
                by_cases hz : szOk (acc.length + 1) = true
                · simp only [hz, if_true] at w2
                  obtain ⟨f1, f2, f3⟩ := r6.base.fm _ List.mem_cons_self
                  have hlt : us.length < sizeLine := by
                    have := szOk_line hz
                    rw [hl]; omega
                  have hsp := r6.pop1.stk.split (by simpa using hl)
                  have e1 : (acc ++ [y]).map Vl.d ++ S = acc.map Vl.d ++ (.d y :: S) := by simp
                  have e2 : (us ++ [u]) ++ vs = us ++ (u :: vs) := by simp
                  refine ⟨us, f1, hlt, us ++ [u], acc ++ [y], m3, I5, A5, by simp [hl], back ⟨r6.base.hput, r6.up, r6.ctx, ?_, trivial⟩, w2⟩
                  rw [e1, e2]
                  exact hsp.1.app (.cons r6.top hsp.2)
                · simp only [hz] at w2; exact (show False from w2).elim
    · have hdr : xs.drop i = [] := List.drop_eq_nil_of_le (by omega)
      rw [hdr] at w
      have hsp := r.stk.split (by simpa using hl)
      exact .inl ⟨itd.st i _ _ _ _ _ H' I A (by omega) r, fin D us acc m H' I A ⟨r.base, r1.up.trans r.up, r.ctx, hsp.2, r.xc⟩ (vrs_drs hsp.1) w⟩
section
variable {X : Cx} {C : Fc} {e : Expr} {st : Stmt} {mi : MI} {mg : MG} {mt : MT} {me : ME} {own js : List Nat} {tg : TG}
theorem le_lc (hg : ∀ v σ H Q, FG C.quiet mg v σ H Q → tg v σ H Q) (hf : Fills tg js) (hj : ∀ j ∈ js, j ∈ own) (cx : C.x = none) {σ : L2.St} {H : Hp} {Q : VK} (h : FE C (mLc mi mg mt me own) σ H Q) : tLc (FI C mi) tg (FT C.quiet mt) (FE C.quiet me) own σ H Q := by
  obtain ⟨B, g, S, m, vs, I, A, r, w⟩ := h
  refine lc_ok (k := fun (acc : List Dt) (m2 : Cells) => .ok (.d (.lst acc)) m2) hg hf hj cx r w fun D us acc m2 H2 I2 A2 r2 hd w2 => ?_
  obtain ⟨b, e⟩ := r2.base.show_
  exact w2 _ _ _ _ ((⟨b, r2.up.trans e, r2.ctx.mono e, r2.stk.mono e, r2.xc.mono e⟩ : Rel C.T C.x B g S m2 σ vs H2 _ A2).push (.d (.lst upd_same (hd.mono e.i))))
theorem le_lcC (hg : ∀ v σ H Q, FG C.quiet mg v σ H Q → tg v σ H Q) (hf : Fills tg js) (hj : ∀ j ∈ js, j ∈ own) (cx : C.x = none) {σ : L2.St} {H : Hp} {Q : VK} (h : FE C (mLcC mi mg mt me own) σ H Q) : tLc (FI C mi) tg (FT C.quiet mt) (FE C.quiet me) own σ H Q := by
  obtain ⟨B, g, S, m, vs, I, A, r, w⟩ := h
  refine lc_ok (k := fun (acc : List Dt) (m2 : Cells) => .ok (.ref m2.length) (m2 ++ [some (Cell.lst acc)])) hg hf hj cx r w fun D us acc m2 H2 I2 A2 r2 hd w2 => ?_
  obtain ⟨f1, _, _⟩ := r2.base.fm _ List.mem_cons_self
  obtain ⟨b, e⟩ := r2.base.showC (c := .lst acc) ⟨us, f1, hd⟩
  exact w2 _ _ _ _ ((⟨b, r2.up.trans e, r2.ctx.mono e, r2.stk.mono e, r2.xc.mono e⟩ : Rel C.T C.x B g S _ σ vs H2 _ _).push (.ref (by rw [← r2.base.len]; exact last_get A2 D)))
theorem fe_lc (h : PE X e (tLc (FI C mi) tg (FT C.quiet mt) (FE C.quiet me) own)) (hg : ∀ v σ H Q, FG C.quiet mg v σ H Q → tg v σ H Q) (hf : Fills tg js) (hj : ∀ j ∈ js, j ∈ own) (cx : C.x = none) : PE X e (FE C (mLc mi mg mt me own)) := pe_of h fun σ H Q => le_lc hg hf hj cx
theorem fe_lcC (h : PE X e (tLc (FI C mi) tg (FT C.quiet mt) (FE C.quiet me) own)) (hg : ∀ v σ H Q, FG C.quiet mg v σ H Q → tg v σ H Q) (hf : Fills tg js) (hj : ∀ j ∈ js, j ∈ own) (cx : C.x = none) : PE X e (FE C (mLcC mi mg mt me own)) := pe_of h fun σ H Q => le_lcC hg hf hj cx
/-- x = [..]: the machine's own rule -/
theorem fs_setLc {i : Nat} (h : PS X st (tAsg (tLc (FI C mi) tg (FT C.quiet mt) (FE C.quiet me) own) (gName i))) (hg : ∀ v σ H Q, FG C.quiet mg v σ H Q → tg v σ H Q) (hf : Fills tg js) (hj : ∀ j ∈ js, j ∈ own) (cx : C.x = none) : PS X st (FS C (mAsg (mLc mi mg mt me own) (gNm i))) :=
  fs_set (ps_of h fun D σ H q => le_lc hg hf hj cx q) (by rw [cx]; rfl)
theorem fs_setLcC {i : Nat} (h : PS X st (tAsg (tLc (FI C mi) tg (FT C.quiet mt) (FE C.quiet me) own) (gName i))) (hg : ∀ v σ H Q, FG C.quiet mg v σ H Q → tg v σ H Q) (hf : Fills tg js) (hj : ∀ j ∈ js, j ∈ own) (cx : C.x = none) : PS X st (FS C (mAsg (mLcC mi mg mt me own) (gNm i))) :=
  fs_set (ps_of h fun D σ H q => le_lcC hg hf hj cx q) (by rw [cx]; rfl)
end
/-! ### defs -/
def WantF (T : Tab) (F : Frm) (I : Hp) (A : List Addr) (Q : VK) (E : XK) : Rs Vl → Prop
  | .ok d m' => ∀ v H' I' A', Base T F I' H' A' m' → Up I I' A A' → VR T I' A' v d → Q v H'
  | .ex c fs m' => ∀ H' I' A' dx ws, Base T F I' H' A' m' → Up I I' A A' → I' dx = some (.xd ((T.cf c).zip ws)) → ws.length = (T.cf c).length → DRs T I' ws fs → E (.ref (T.ca c)) (some dx) H'
  | .bad => False
def spFn (T : Tab) (f : Fn) : Sp := fun vs H Q E => ∃ F I A m es, Base T F I H A m ∧ VRs T I A vs es ∧ WantF T F I A Q E (f es m)
def exitF (k : Nat) : Out → Rs Vl
  | .nx _ m => .ok (.d .non) (m.take k)
  | .rt (.d d) m => .ok (.d d) (m.take k)
  | .rt (.ref j) m => if j < k then .ok (.ref j) (m.take k) else match m[j]? with
    | some (some c) => .ok (.ref k) (m.take k ++ [some c])
    | _ => .bad
  | .ex c fs _ m => .ex c fs (m.take k)
  | _ => .bad
def runFn (n N : Nat) (s : MS) : Fn := fun es m => if es.length = n then exitF m.length (s (es.map some ++ List.replicate (N - n) none) m) else .bad
theorem spFn_len {T : Tab} {n N : Nat} {s : MS} : ∀ vs H Q E, spFn T (runFn n N s) vs H Q E → vs.length = n := fun vs H Q E ⟨F, I, A, m, es, b, hv, w⟩ => by
  unfold runFn at w
  by_cases h : es.length = n
  · rw [hv.len, h]
  · rw [if_neg h] at w; exact w.elim
theorem ctx_start {T : Tab} {I : Hp} {A : List Addr} {N : List Str} {vs : List V} {es : List Vl} (h : VRs T I A vs es) : Ctx T I A (L2.start N vs) (es.map some ++ List.replicate (N.length - es.length) none) := by
  unfold L2.start
  refine ⟨by simp [h.len], fun i d q => ?_⟩
  have hl : i < es.length := by
    by_cases w : i < es.length
    · exact w
    · rw [List.getElem?_append_right (by simpa using Nat.le_of_not_lt w), List.getElem?_replicate] at q
      split at q <;> cases q
  rw [List.getElem?_append_left (by simpa using hl), List.getElem?_map] at q
  rw [List.getElem?_append_left (by simpa [h.len] using hl), List.getElem?_map]
  cases w : es[i]? with
  | none => rw [w] at q; cases q
  | some e =>
    rw [w] at q
    cases q
    obtain ⟨v, hv, hr⟩ := h.get w
    exact ⟨v, by rw [hv]; rfl, hr⟩
theorem pre_take {α : Type} {A A' : List α} (h : A <+: A') : A'.take A.length = A := by
  obtain ⟨t, rfl⟩ := h
  simp
/-- the body of a def, from its promise -/
theorem fn_enter {T : Tab} {n : Nat} {s : MS} {N : List Str} {vs : List V} {H : Hp} {Q : VK} {E : XK} (h : spFn T (runFn n N.length s) vs H Q E) : FS ⟨T, none, fun cls d _ H => E cls d H⟩ s { nx := fun _ H' => Q .non H', rt := Q } (L2.start N vs) H := by
  obtain ⟨F, I, A, m, es, b, hv, w⟩ := h
  unfold runFn at w
  by_cases hn : es.length = n
  · rw [if_pos hn] at w
    subst hn
    refine ⟨⟨F, I, A⟩, es.map some ++ List.replicate (N.length - es.length) none, [], m, [], I, A, ⟨b, Up.refl, ctx_start hv, .nil, trivial⟩, ?_⟩
    have cut : ∀ {g' : Gam} {S : List Vl} {m' : Cells} {σ' : L2.St} {vs' : List V} {H' I' : Hp} {A' : List Addr}, Rel T none ⟨F, I, A⟩ g' S m' σ' vs' H' I' A' → Base T F I' H' A (m'.take m.length) ∧ Up I I' A A := fun {g' S m' σ' vs' H' I' A'} r => by
      have b1 := r.base.take m.length
      rw [← b.len, pre_take r.up.a] at b1
      rw [← b.len]
      exact ⟨b1, ⟨r.up.i, List.prefix_refl A⟩⟩
    cases es' : s (es.map some ++ List.replicate (N.length - es.length) none) m with
    | nx g' m' =>
      rw [es'] at w
      intro σ' H' I' A' r
      obtain ⟨b1, u⟩ := cut r
      exact w _ H' I' A b1 u (.d .non)
    | rt d m' =>
      rw [es'] at w
      cases d with
      | d d =>
        intro g' σ' v H' I' A' r
        obtain ⟨b1, u⟩ := cut r
        exact w _ H' I' A b1 u (.d r.top.dat)
      | ref j =>
        intro g' σ' v H' I' A' r
        have w1 : WantF T F I A Q E (if j < m.length then .ok (.ref j) (m'.take m.length) else match m'[j]? with
          | some (some c) => .ok (.ref m.length) (m'.take m.length ++ [some c])
          | _ => .bad) := w
        obtain ⟨a, rfl, ha⟩ := r.top.cel
        by_cases hj : j < m.length
        · rw [if_pos hj] at w1
          obtain ⟨b1, u⟩ := cut r
          have e : A[j]? = some a := by
            have h1 : j < A.length := by rw [b.len]; exact hj
            rw [List.getElem?_eq_getElem h1]
            have := pre_get r.up.a (List.getElem?_eq_getElem h1)
            rw [ha] at this
            exact this.symm
          exact w1 _ H' I' A b1 u (.ref e)
        · rw [if_neg hj] at w1
          cases hc : m'[j]? with
          | none => rw [hc] at w1; exact (show False from w1).elim
          | some oc =>
            cases oc with
            | none => rw [hc] at w1; exact (show False from w1).elim
            | some c =>
              rw [hc] at w1
              have b1 := r.base.takeC (n := m.length) (by omega) hc ha
              have e : A'.take m.length = A := by rw [← b.len]; exact pre_take r.up.a
              rw [e] at b1
              exact w1 _ H' I' (A ++ [a]) b1 ⟨r.up.i, List.prefix_append A [a]⟩ (.ref (by rw [← b.len]; exact last_get A a))
    | ex c fs g' m' =>
      rw [es'] at w
      intro σ' H' I' A' dx ws r h1 h2 h3
      obtain ⟨b1, u⟩ := cut r
      exact w H' I' A dx ws b1 u h1 h2 h3
    | bk g' m' => rw [es'] at w; exact (show False from w).elim
    | ct g' m' => rw [es'] at w; exact (show False from w).elim
    | bad => rw [es'] at w; exact (show False from w).elim
  · rw [if_neg hn] at w; exact w.elim
/-- a call of a def -/
def mCall (f : Fn) (ma : MA) : ME := fun g m => (ma g m).bind fun xs m1 => f xs m1
section
variable {X : Cx} {C : Fc} {e : Expr} {ma : MA}
theorem fe_call {f : Fn} (h : PE X e (tCallS (spFn C.T f) (WE C.W) (FA C ma))) : PE X e (FE C (mCall f ma)) := pe_of h fun σ H Q ⟨B, g, S, m, vs, I, A, rl, w⟩ => args_ok rl w fun ws ds m1 H1 I1 A1 r1 hv w1 => by
  refine ⟨B.F, I1, A1, m1, ds, r1.base, hv, ?_⟩
  cases ef : f ds m1 with
  | bad => rw [ef] at w1; exact w1.elim
  | ok d m2 => rw [ef] at w1; exact fun v H' I' A' b u hd => w1 v H' I' A' ((r1.step b u).push hd)
  | ex c fs m2 => rw [ef] at w1; exact fun H' I' A' dx us b u h1 h2 h3 => w1 σ H' I' A' dx us (r1.step b u) h1 h2 h3
end
end FM

namespace NK
open PySem PySem.Spec PyProof.Rows L2
/-! ### rules of the machine by name -/
theorem list_addAt (l : Addr) (items : Array Value) (n : Nat) (b : Addr) (items2 : Array Value) (n2 : Nat) (dd dd2 : Option Addr) (sl sl2 : Array (Option Value)) (hc0 : items.size + items2.size ≤ sizeLine) :
    Meets (Builtin.«list.__add__» ⟨[.ref l, .ref b], []⟩) (fun _ R s => s.heap.get? l = some { cls := .type "list", dict := dd, data := .seq items n, slots := sl } ∧ s.heap.get? b = some { cls := .type "list", dict := dd2, data := .seq items2 n2, slots := sl2 } ∧ R (.ok (.ret (Value.ref s.heap.objs.size))) { s with heap := s.heap.push { cls := Value.type "list", data := Data.seq (items ++ items2) }, toks := s.toks }) :=
  .of_wp fun prog w A R s h => by obtain ⟨hp, g, d, tk, os⟩ := s; obtain ⟨hl, hb, h⟩ := h; have f1 := AutoSeq1.idx_int; have f2 := AutoSeq1.sub_tuple_tuple; have f3 := AutoSeq1.sub_list_list; have f4 := AutoSeq1.sub_tuple_list; have f5 := AutoSeq1.sub_list_tuple; wp_walk using wpAny_loadPart' hl, wpAny_loadPart' hb; exact ⟨_, rfl, h⟩
/-- list + list, whatever stands there -/
def rCatL (K : PySem.W.Frag) : R2 := fun x y H Q => ∃ l b xs zs, x = .ref l ∧ y = .ref b ∧ SqL K H l xs ∧ SqL K H b zs ∧ xs.length + zs.length ≤ sizeLine ∧ ∀ p, H p = none → Q (.ref p) (upd H p (.lst (xs ++ zs)))
theorem op_catL {X : Cx} : OpR X (binaryOp .Add) (rCatL X.K) := by
  intro pins s σ H x y v u Q I rx ry h
  obtain ⟨l, b, xs, zs, rfl, rfl, hH, hB, hz, q⟩ := h
  cases rx
  cases ry
  obtain ⟨its, r, ⟨⟨cls, dd, data, sl⟩, n, ho, hc, hdn, hd⟩, hlen⟩ := I.list hH
  obtain ⟨its2, r2, ⟨⟨cls2, dd2, data2, sl2⟩, n2, ho2, hc2, hdn2, hd2⟩, hlen2⟩ := I.list hB
  simp only at hc hd hc2 hd2
  subst hc hd hc2 hd2
  have e1 := r.length
  have e2 := r2.length
  refine concat_meets ⟨_, ho, rfl⟩ ⟨_, ho2, rfl⟩ PySem.noFill_list_add PySem.seq_list_add PySem.F.slot_list_add PySem.F.entry_list_add (PySem.F.args_list_add_2 _ _) (list_addAt l its.toArray n b its2.toArray n2 dd dd2 sl sl2 (by rw [List.size_toArray, List.size_toArray]; omega)) ⟨ho, ho2, ?_⟩
  have ea : its.toArray ++ its2.toArray = (its ++ its2).toArray := by simp
  rw [ea]
  exact ⟨.ref _, _, I.lnew (t' := s.toks) (r.append r2) (by rw [List.length_append]; omega), rfl, q _ I.fresh⟩
end NK

namespace NK
open PySem PySem.Spec PyProof.Rows L2
section
variable {X : Cx}
def rCatStr : R2 := fun x y H Q => ∃ i j, x = V.str i ∧ y = V.str j ∧ i.length + j.length ≤ sizeLine ∧ Q (V.str (i ++ j)) H
theorem op_catStr : OpR X (binaryOp .Add) rCatStr := op_add_str
theorem size_rep (xs : Array Nat) : ∀ (k : Nat) (acc : Array Nat), (List.foldl (fun x1 x2 => x1 ++ x2) acc (List.replicate k xs)).size = acc.size + k * xs.size
  | 0, acc => by simp
  | k + 1, acc => by rw [List.replicate_succ, List.foldl_cons, size_rep xs k, Array.size_append, Nat.succ_mul]; omega
def strRep (x : Str) (n : Nat) : Str := ⟨(List.replicate n x.cps).foldl (· ++ ·) #[]⟩
/-- text * n, n at least 2, the text not empty -/
def rMulStr : R2 := fun x y H Q => ∃ (z : Str) (n : Int), x = V.str z ∧ y = V.int n ∧ 2 ≤ n ∧ n ≤ 100000 ∧ 1 ≤ z.length ∧ z.length ≤ 100 ∧ Q (V.str (strRep z n.toNat)) H
theorem op_mulStr : OpR X (binaryOp .Mult) rMulStr := by
  intro pins s σ H x y v u Q I rx ry h
  obtain ⟨z, n, rfl, rfl, h1, h2, h3, h4, q⟩ := h
  obtain ⟨t, rfl⟩ := rx
  obtain ⟨t2, rfl⟩ := ry
  have hb1 : (decide (n < -(2 ^ 63 : Int)) || decide (n ≥ 2 ^ 63)) = false := by
    rw [decide_eq_false (by omega), decide_eq_false (by omega)]; rfl
  have hn1 : (n == 1 || z.length == 0) = false := by
    have e1 : (n == 1) = false := by simp; omega
    have e2 : (z.length == 0) = false := by simp; omega
    rw [e1, e2]; rfl
  have hmul : z.length * n.toNat ≤ 100 * 100000 := Nat.mul_le_mul h4 (by omega)
  refine PySem.P.mul_str hb1 (fun _ _ hc => ?_) (fun _ _ => ?_) ?_
  · have e : (2 ^ 63 - 1) / n ≥ 100 := by
      rw [ge_iff_le, Int.le_ediv_iff_mul_le (by omega)]
      omega
    omega
  · unfold PySem.Builtin.Str.tooLong
    simp
    have e : sizeLine = 16777216 := sizeLine_eq
    omega
  · rw [if_neg (by omega), if_neg (by rw [hn1]; decide)]
    refine ⟨?_, .str _, H, I.tok _, ⟨_, rfl⟩, q⟩
    show (List.foldl (fun x1 x2 => x1 ++ x2) #[] (List.replicate n.toNat z.cps)).size ≤ sizeLine
    rw [size_rep, sizeLine_eq]
    have e2 : z.cps.size = z.length := rfl
    rw [e2, Nat.mul_comm]
    show 0 + _ ≤ _
    omega
theorem strRep_len (x : Str) (n : Nat) : (strRep x n).length = n * x.length := by
  show (List.foldl (fun x1 x2 => x1 ++ x2) #[] (List.replicate n x.cps)).size = _
  rw [size_rep]
  show 0 + _ = _
  rw [Nat.zero_add]
  rfl
def rLenSeq (K : PySem.W.Frag) : List V → Hp → VK → Prop := fun xs H Q => ∃ p ys, xs = [.ref p] ∧ (SqL K H p ys ∨ SqT K H p ys) ∧ Q (.int ys.length) H
theorem call_lenSeq : CallR X (.builtin "len") (rLenSeq X.K) := call_len_seq
def rLenStr : List V → Hp → VK → Prop := fun xs H Q => ∃ z, xs = [.str z] ∧ z.length ≤ sizeLine ∧ Q (.int z.length) H
theorem call_lenStr : CallR X (.builtin "len") rLenStr := call_len_str
def rAbs : List V → Hp → VK → Prop := fun xs H Q => ∃ i, xs = [.int i] ∧ Q (.int (if i < 0 then -i else i)) H
theorem call_absI : CallR X (.builtin "abs") rAbs := call_abs
def rInt1 : List V → Hp → VK → Prop := fun xs H Q => (∃ i, xs = [.int i] ∧ Q (.int i) H) ∨ ∃ k, xs = [.bl k] ∧ Q (.int (if k then 1 else 0)) H
theorem call_intI : CallR X (.type "int") rInt1 := call_int1
def rIntStr : List V → Hp → VK → Prop := fun xs H Q => ∃ a n, xs = [.str a] ∧ PySem.intText? a = some n ∧ a.length ≤ 640 ∧ Q (.int n) H
theorem call_intS : CallR X (.type "int") rIntStr := call_int_str
def rStrInt : List V → Hp → VK → Prop := fun xs H Q => ∃ i, xs = [.int i] ∧ i.natAbs.log2 < 1920 ∧ Q (.str (toString i)) H
theorem call_strI : CallR X (.type "str") rStrInt := call_str_int
def rListOf (K : PySem.W.Frag) : List V → Hp → VK → Prop := fun xs H Q => ∃ p ys, xs = [.ref p] ∧ (SqL K H p ys ∨ SqT K H p ys) ∧ ∀ l, H l = none → Q (.ref l) (upd H l (.lst ys))
theorem call_listOf : CallR X (.type "list") (rListOf X.K) := call_list_of
def rTupOf (K : PySem.W.Frag) : List V → Hp → VK → Prop := fun xs H Q => ∃ p ys, xs = [.ref p] ∧ ((SqL K H p ys ∧ ∀ l, H l = none → Q (.ref l) (upd H l (.tup ys))) ∨ (SqT K H p ys ∧ Q (.ref p) H))
theorem call_tupOf : CallR X (.type "tuple") (rTupOf X.K) := call_tuple_of
def rSplit : V → List V → Hp → VK → Prop := fun x xs H Q => ∃ a b, x = .str a ∧ xs = [.str b] ∧ (b.length == 0) = false ∧ a.length + 2 ≤ sizeLine ∧ rNewStrs (Txt.split a b) H Q
theorem pe_splitS {o e : Expr} {to te : TE} {apos pos : Pos} (ho : PE X o to) (he : PE X e te) (hs : starEach [e] X.env = [(false, eval e X.env)] := by rfl) (hbase : attributeBase o "split" X.env (eval o X.env) = eval o X.env := by rfl) (hline : (apos.endLine == pos.line) = true := by rfl) :
    PE X (.Call (.Attribute o "split" apos) [e] [] pos) (tM1 rSplit to te) := pe_split ho he hs hbase hline
def rJoin (K : PySem.W.Frag) : V → List V → Hp → VK → Prop := fun x xs H Q => ∃ a p, ∃ ys : List Str, x = .str a ∧ xs = [.ref p] ∧ (SqL K H p (ys.map V.str) ∨ SqT K H p (ys.map V.str)) ∧ (ys.map (·.length)).sum + ys.length * a.length ≤ 16777216 ∧ Q (.str (Txt.join a ys)) H
theorem pe_joinS {o e : Expr} {to te : TE} {apos pos : Pos} (ho : PE X o to) (he : PE X e te) (hs : starEach [e] X.env = [(false, eval e X.env)] := by rfl) (hbase : attributeBase o "join" X.env (eval o X.env) = eval o X.env := by rfl) (hline : (apos.endLine == pos.line) = true := by rfl) :
    PE X (.Call (.Attribute o "join" apos) [e] [] pos) (tM1 (rJoin X.K) to te) := pe_join ho he hs hbase hline
def rInSign : R2 := fun x y H Q => ∃ (c : Nat) (z : Str), x = .str ⟨#[c]⟩ ∧ y = .str z ∧ Q (.bl (decide (c ∈ z.cps.toList))) H
theorem op_inSign : OpR X (compareOp .In) rInSign := op_in_sign
def rNotInSign : R2 := fun x y H Q => ∃ (c : Nat) (z : Str), x = .str ⟨#[c]⟩ ∧ y = .str z ∧ Q (.bl (!decide (c ∈ z.cps.toList))) H
theorem op_notInSign : OpR X (compareOp .NotIn) rNotInSign := op_notIn_sign
def tJoined (ts : List TE) : TE := fun σ H Q => tJs ts Str.empty σ H fun out H1 => Q (.str out) H1
theorem pe_fstr {v1 v2 : Expr} {rest : List Expr} {ts : List TE} {pos : Pos} (h : PJ X (v1 :: v2 :: rest) ts) : PE X (.JoinedStr (v1 :: v2 :: rest) pos) (tJoined ts) := pe_joined h
def tTruth (K : PySem.W.Frag) (ta : TE) : TT := fun σ H Q => ta σ H fun x H' => ∃ k, TruV K x H' k ∧ Q k H'
theorem pt_tru {a : Expr} {ta : TE} (ha : PE X a ta) (he : ∀ whole, isTrue a X.env whole = (do let v ← whole; standAt a.pos; holding [v] (truthy v))) : PT X a (tTruth X.K ta) := pt_truth ha he
/-- a module's name, by its value -/
theorem pe_gv {x : Str} {v : V} {pos : Pos} (hg : Gl X x) (h : ∃ u, X.mg x = some u ∧ RelV v u) (hd : (x == ("__debug__" : Str)) = false := by decide) : PE X (.Name x pos) (tC v) := by
  obtain ⟨u, hm, r⟩ := h
  exact pe_glob hg hm r hd
/-- a def of the program, as its callers see it -/
structure Cal (P : Program) (w : World) (K : PySem.W.Frag) (mg : Str → Option Value) (base : Heap) (k : Nat) (x : Str) (ps : List Str) (sp : Sp) : Prop where
  ex : ∃ (f : Addr) (fd : FuncData), FnOk P w K mg base CX0 k f fd ps sp ∧ mg x = some (.ref f) ∧ PySem.W.keepIn K (.ref f) = true ∧ Binds K fd ps []
theorem pe_fn {x : Str} {p pos : Pos} {e : Expr} {es : List Expr} {t : TA} {k : Nat} {ps : List Str} {sp : Sp} (c : Cal X.prog X.w X.K X.mg X.base k x ps sp) (hr : Room k X.A) (hg : Gl X x) (ha : PA X (e :: es) t) (hd : (x == ("__debug__" : Str)) = false := by decide)
    (he : starEach (e :: es) X.env = (false, eval e X.env) :: starEach es X.env := by rfl) (hpl : (backTo pos (starEach es X.env)).any (·.1) = false := by rfl) : PE X (.Call (.Name x p) (e :: es) [] pos) (tCall sp [] E0 t) := by
  obtain ⟨f, fd, F, hm, hk, hb⟩ := c.ex
  exact pe_call F hr hg hm hk hb .nil pass0 ha hd he hpl
end
end NK

namespace NK
open PySem PySem.Spec PyProof.Rows L2
/-! ### list or tuple, walked -/
def iSeq (K : PySem.W.Frag) (tl : TE) : TI := fun σ H R => tl σ H fun x H1 => ∃ a, x = .ref a ∧ (((∃ xs, SqL K H1 a xs) ∧ R (Itl K a) H1) ∨ ((∃ xs, SqT K H1 a xs) ∧ R (Itt K a) H1))
theorem pi_seq {X : Cx} {tg l : Expr} {tl : TE} (hl : PE X l tl) : PI X tg l (iSeq X.K tl) := by
  refine ⟨fun pins s σ H R I h => ?_⟩
  refine thn (hl.run pins s σ H _ I h) fun v s1 ⟨x, H1, I1, r1, q1⟩ => ?_
  obtain ⟨a, e, q⟩ := q1
  subst e
  cases r1
  rcases q with ⟨⟨xs, hq⟩, q⟩ | ⟨⟨xs, hq⟩, q⟩
  · obtain ⟨its, rv, p, hz⟩ := I1.list hq
    refine wpAny_pyIter_list p.isList ?_
    refine ⟨s1.heap.objs.size, [s1.heap.objs.size], _, _, H1, rfl, I1.kept (t' := s1.toks) fun b o e => Heap.get?_push_of_some _ e, turn_list a _, ⟨_, Heap.get?_push_size _ rfl, rfl, rfl⟩, fun b hb => ?_, q⟩
    have e : b = s1.heap.objs.size := by simpa using hb
    subst e
    exact I1.fpOk (Nat.le_refl _) (I1.hok.fresh (Nat.le_refl _))
  · obtain ⟨its, rv, p, hz⟩ := I1.tuple hq
    refine wpAny_pyIter_tuple (show s1.heap.IsTuple a its.toArray from p) ?_
    refine ⟨s1.heap.objs.size, [s1.heap.objs.size], _, _, H1, rfl, I1.kept (t' := s1.toks) fun b o e => Heap.get?_push_of_some _ e, turn_tuple a _, ⟨_, Heap.get?_push_size _ rfl, rfl, rfl⟩, fun b hb => ?_, q⟩
    have e : b = s1.heap.objs.size := by simpa using hb
    subst e
    exact I1.fpOk (Nat.le_refl _) (I1.hok.fresh (Nat.le_refl _))
end NK

namespace NK
open PySem PySem.Spec PyProof.Rows L2
/-- what __init__ does that stores its arguments as fields -/
def spInit (K : PySem.W.Frag) (fs : List Str) : Sp := fun vs H Q _ => ∃ (a C : Addr) (ws : List V), vs = .ref a :: ws ∧ ws.length = fs.length ∧ OexC K C ∧ (∀ f ∈ fs, PySem.W.findIn K (.ref C) f = some none) ∧ H a = some (exo a C none) ∧
  ∀ dx H', H dx = none → dx ≠ a → H' a = some (exo a C (some dx)) → H' dx = some (exd dx (fs.zip ws).reverse) → (∀ b, b ≠ a → b ≠ dx → H' b = H b) → Q .non H'
end NK

namespace NK
open PySem PySem.Spec PyProof.Rows L2
/-! ### rules for raise and try -/
section
variable {X : Cx}
structure CalX (P : Program) (w : World) (K : PySem.W.Frag) (mg : Str → Option Value) (base : Heap) (k : Nat) (x : Str) (ps : List Str) (sp : Sp) : Prop where
  ex : ∃ (f : Addr) (fd : FuncData), FnOk P w K mg base (L2.CX P w) k f fd ps sp ∧ mg x = some (.ref f) ∧ PySem.W.keepIn K (.ref f) = true ∧ Binds K fd ps []
/-- a raising def called in a try -/
theorem pe_fnS {x : Str} {p pos : Pos} {e : Expr} {es : List Expr} {t : TA} {k : Nat} {ps : List Str} {sp : Sp} {W : WX} (c : CalX X.prog X.w X.K X.mg X.base k x ps sp) (hr : Room k X.A) (hg : Gl X x) (tk : Takes X W) (ha : PA X (e :: es) t) (hd : (x == ("__debug__" : Str)) = false := by decide)
    (he : starEach (e :: es) X.env = (false, eval e X.env) :: starEach es X.env := by rfl) (hpl : (backTo pos (starEach es X.env)).any (·.1) = false := by rfl) : PE X (.Call (.Name x p) (e :: es) [] pos) (tCallS sp (WE W) t) := by
  obtain ⟨f, fd, F, hm, hk, hb⟩ := c.ex
  exact pe_callS F hr hg hm hk hb (fun σ => passAt tk σ) ha hd he hpl
/-- an own exception class whose __init__ stores its arguments -/
structure ExC (P : Program) (w : World) (K : PySem.W.Frag) (mg : Str → Option Value) (base : Heap) (k : Nat) (x : Str) (Cc : Addr) (ps fs : List Str) : Prop where
  T : OexC K Cc
  g : mg x = some (.ref Cc)
  ini : ∃ (fI : Addr) (fd : FuncData), PySem.W.findIn K (.ref Cc) "__init__" = some (some (.ref fI)) ∧ PySem.W.typeIn K (.ref fI) = some (.type "function") ∧ FnOk P w K mg base CX0 k fI fd ps (spInit K fs) ∧ Binds K fd ps []
  no : ∀ f ∈ fs, PySem.W.findIn K (.ref Cc) f = some none
  xf : XfC K Cc
  te : PySem.W.exmOne K (.ref Cc) (.ref Cc) = some true
/-- what the data's side asks of the class -/
structure ExD (K : PySem.W.Frag) (Cc : Addr) (fs : List Str) : Prop where
  T : OexC K Cc
  no : ∀ f ∈ fs, PySem.W.findIn K (.ref Cc) f = some none
  te : PySem.W.exmOne K (.ref Cc) (.ref Cc) = some true
theorem ExC.d {P : Program} {w : World} {K : PySem.W.Frag} {mg : Str → Option Value} {base : Heap} {k : Nat} {x : Str} {Cc : Addr} {ps fs : List Str} (c : ExC P w K mg base k x Cc ps fs) : ExD K Cc fs := ⟨c.T, c.no, c.te⟩
/-- raise X(..), W the wish -/
def tRaiseW (K : PySem.W.Frag) (Cc : Addr) (fs : List Str) (W : WX) (ta : TA) : TS := fun _ σ H => tMkO Cc (spInit K fs) [] ta σ H fun cls d H' => W cls d σ H'
theorem ps_raiseW {x : Str} {Cc : Addr} {k : Nat} {ps fs : List Str} {p p2 pos : Pos} {e : Expr} {es : List Expr} {ta : TA} {W : WX} (c : ExC X.prog X.w X.K X.mg X.base k x Cc ps fs) (hr : Room (k + 1) X.A) (hg : Gl X x) (hc : X.calm = true) (tk : Takes X W) (ha : PA X (e :: es) ta)
    (hdb : (x == ("__debug__" : Str)) = false := by decide) (he : starEach (e :: es) X.env = (false, eval e X.env) :: starEach es X.env := by rfl) (hpl : (backTo p2 (starEach es X.env)).any (·.1) = false := by rfl) :
    PS X (.Raise (some (.Call (.Name x p) (e :: es) [] p2)) none pos) (tRaiseW X.K Cc fs W ta) := by
  obtain ⟨fI, fd, h1, h2, h3, h4⟩ := c.ini
  exact ps_raise hc tk (pmk_oex c.T h1 h2 h3 hr h4 .nil pass0 hg c.g ha hdb he hpl)
end
end NK

namespace NK
open PySem PySem.Spec PyProof.Rows L2
abbrev tInit1 (K : PySem.W.Frag) (f1 : Str) : TS := tOst K f1 (tVar 0) (tVar 1)
abbrev tInit2 (K : PySem.W.Frag) (f1 f2 : Str) : TS := tSeq (tOst K f1 (tVar 0) (tVar 1)) (tOst K f2 (tVar 0) (tVar 2))
abbrev tInit3 (K : PySem.W.Frag) (f1 f2 f3 : Str) : TS := tSeq (tOst K f1 (tVar 0) (tVar 1)) (tSeq (tOst K f2 (tVar 0) (tVar 2)) (tOst K f3 (tVar 0) (tVar 3)))
theorem init1_go {K : PySem.W.Frag} {f1 : Str} {vs : List V} {H : Hp} {Q : VK} {E : XK} {N : List Str} (hN : N.length = 2) (h : spInit K [f1] vs H Q E) : tInit1 K f1 { nx := fun _ H' => Q .non H', rt := Q } (L2.start N vs) H := by
  obtain ⟨a, C, ws, rfl, hl, T, hf, ha, q⟩ := h
  match ws, hl with
  | [x], _ =>
    refine ⟨x, rfl, .ref a, rfl, a, C, rfl, T, hf f1 (by simp), .inl ⟨ha, fun dx hdx hne => ?_⟩⟩
    exact q dx _ hdx hne upd_same (by rw [upd_ne hne, upd_same]; rfl) fun b h1 h2 => by rw [upd_ne h1, upd_ne h2]
theorem init2_go {K : PySem.W.Frag} {f1 f2 : Str} {vs : List V} {H : Hp} {Q : VK} {E : XK} {N : List Str} (hN : N.length = 3) (h : spInit K [f1, f2] vs H Q E) : tInit2 K f1 f2 { nx := fun _ H' => Q .non H', rt := Q } (L2.start N vs) H := by
  obtain ⟨a, C, ws, rfl, hl, T, hf, ha, q⟩ := h
  match ws, hl with
  | [x, y], _ =>
    refine ⟨x, rfl, .ref a, rfl, a, C, rfl, T, hf f1 (by simp), .inl ⟨ha, fun dx hdx hne => ?_⟩⟩
    refine ⟨y, rfl, .ref a, rfl, a, C, rfl, T, hf f2 (by simp), .inr ⟨dx, _, upd_same, by rw [upd_ne hne, upd_same], by simp, ?_⟩⟩
    exact q dx _ hdx hne (by rw [upd_ne hne.symm, upd_same]) upd_same fun b h1 h2 => by rw [upd_ne h2, upd_ne h1, upd_ne h2]
theorem init3_go {K : PySem.W.Frag} {f1 f2 f3 : Str} {vs : List V} {H : Hp} {Q : VK} {E : XK} {N : List Str} (hN : N.length = 4) (h : spInit K [f1, f2, f3] vs H Q E) : tInit3 K f1 f2 f3 { nx := fun _ H' => Q .non H', rt := Q } (L2.start N vs) H := by
  obtain ⟨a, C, ws, rfl, hl, T, hf, ha, q⟩ := h
  match ws, hl with
  | [x, y, z], _ =>
    refine ⟨x, rfl, .ref a, rfl, a, C, rfl, T, hf f1 (by simp), .inl ⟨ha, fun dx hdx hne => ?_⟩⟩
    refine ⟨y, rfl, .ref a, rfl, a, C, rfl, T, hf f2 (by simp), .inr ⟨dx, _, upd_same, by rw [upd_ne hne, upd_same], by simp, ?_⟩⟩
    refine ⟨z, rfl, .ref a, rfl, a, C, rfl, T, hf f3 (by simp), .inr ⟨dx, _, by rw [upd_ne hne.symm, upd_same], upd_same, by simp, ?_⟩⟩
    exact q dx _ hdx hne (by rw [upd_ne hne.symm, upd_ne hne.symm, upd_same]) upd_same fun b h1 h2 => by rw [upd_ne h2, upd_ne h2, upd_ne h1, upd_ne h2]
theorem init_len {K : PySem.W.Frag} {fs : List Str} : ∀ vs H Q E, spInit K fs vs H Q E → vs.length = fs.length + 1 := fun vs H Q E ⟨a, C, ws, e, hl, _⟩ => by rw [e, List.length_cons, hl]
end NK

namespace NQ
open PySem PySem.SeqAt
open AutoSeq1 (wpAny_loadPart')
open MeetsSeq MeetsSeq2 MeetsSeq3 SeqRoads2
open GQ (FinOf call_here)
section
variable {prog : Program} {w : World} {A : Around} {R : Result → Shared → Prop}
/-- the items of two lists compared one by one, each by e -/
def ListJ (prog : Program) (w : World) (A : Around) (E : Value → Shared → Prop) (l b : Addr) (N : Nat) (e : Nat → Bool) (I : Nat → Shared → Prop) : Prop :=
  ∀ i s, I i s → ∃ (items items2 : Array Value) (n n2 : Nat) (dd dd2 : Option Addr) (sl sl2 : Array (Option Value)), s.heap.get? l = some { cls := .type "list", dict := dd, data := .seq items n, slots := sl } ∧ s.heap.get? b = some { cls := .type "list", dict := dd2, data := .seq items2 n2, slots := sl2 } ∧ items.size = N ∧ items2.size = N ∧
    ((∀ j, j < i → e j = true) → ∀ (h1 : i < items.size) (h2 : i < items2.size), wpAny (model prog w) A.in1 (eqBool items[i] items2[i]) (fun r s' => r = e i ∧ I (i + 1) s') E s)
def allFrom (e : Nat → Bool) (N i : Nat) : Bool := ((List.range N).drop i).all e
theorem allFrom_end {e : Nat → Bool} {N : Nat} : allFrom e N N = true := by
  unfold allFrom
  rw [List.drop_of_length_le (by simp)]
  rfl
theorem allFrom_step {e : Nat → Bool} {N i : Nat} (h : i < N) : allFrom e N i = (e i && allFrom e N (i + 1)) := by
  unfold allFrom
  have hd : (List.range N).drop i = i :: (List.range N).drop (i + 1) := by simp [List.drop_eq_getElem_cons, h]
  rw [hd, List.all_cons]
theorem eq_loopJ (l b : Addr) (N : Nat) (e : Nat → Bool) (I : Nat → Shared → Prop) (hl : ListJ prog w A (fun e s' => R (.error e) s') l b N e I) (k : Nat) :
    ∀ i : Nat, N - i = k → i ≤ N → (∀ j, j < i → e j = true) → (∀ j s, I j s → R (.ok (.ret (.bool (allFrom e N i)))) s) → ∀ s, I i s →
      wpAny (model prog w) A.in1 (Builtin.«list.__eq__.loop» ⟨[.ref l, .ref b, rawInt i, rawInt 2], []⟩) (FinOf prog w A R) (fun e s' => R (.error e) s') s := by
  induction k with
  | zero =>
    intro i hk hi pre fin s h
    obtain ⟨items, items2, n, n2, dd, dd2, sl, sl2, hl1, hb1, hs1, hs2, _⟩ := hl _ _ h
    have hi' : i = N := by omega
    have hR : R (.ok (.ret (.bool true))) s := by
      have := fin i s h
      rw [hi', allFrom_end] at this
      exact this
    obtain ⟨hp, g, d, tk, os⟩ := s
    wp_walk using wpAny_loadPart' hl1, wpAny_loadPart' hb1
    have hi1 : items[((i : Nat) : Int).toNat]? = none := by simp; omega
    have hi2 : items2[((i : Nat) : Int).toNat]? = none := by simp; omega
    rw [hi1, hi2]
    wp_walk using wpAny_loadPart' hl1, wpAny_loadPart' hb1
    show R (.ok (.ret (.bool (items.size == items2.size)))) _
    rw [hs1, hs2]
    simpa using hR
  | succ k ih =>
    intro i hk hi pre fin s h
    obtain ⟨items, items2, n, n2, dd, dd2, sl, sl2, hl1, hb1, hs1, hs2, turn⟩ := hl _ _ h
    have hlt : i < items.size := by omega
    have hlt2 : i < items2.size := by omega
    have ht := turn pre hlt hlt2
    obtain ⟨hp, g, d, tk, os⟩ := s
    wp_walk using wpAny_loadPart' hl1, wpAny_loadPart' hb1
    have hi1 : items[((i : Nat) : Int).toNat]? = some items[i] := by simp [hlt]
    have hi2 : items2[((i : Nat) : Int).toNat]? = some items2[i] := by simp [hlt2]
    have hc : ((i : Int) + 1) = ((i + 1 : Nat) : Int) := by omega
    rw [hi1, hi2]
    refine wpAny_bind (wpAny_mono ht (fun r s2 h2 => ?_) fun _ _ x => x)
    obtain ⟨hr, h2⟩ := h2
    subst hr
    have hst := allFrom_step (e := e) (show i < N by omega)
    cases he : e i with
    | true =>
      have hrec := ih (i + 1) (by omega) (by omega) (fun j hj => by rcases Nat.lt_succ_iff_lt_or_eq.mp hj with q | q; exact pre j q; rw [q]; exact he) (fun j s q => by have := fin j s q; rw [hst, he, Bool.true_and] at this; exact this) s2 h2
      obtain ⟨hp2, g2, d2, tk2, os2⟩ := s2
      wp_walk
      rw [hc]
      exact ⟨plainId_quiet plain_eq_loop _, codeAny_builtin entry_eq_loop (by
        rw [Around.under_plainId plain_eq_loop _]
        exact hrec)⟩
    | false =>
      have hR : R (.ok (.ret (.bool false))) s2 := by have := fin _ s2 h2; rw [hst, he, Bool.false_and] at this; exact this
      obtain ⟨items', items2', n', n2', dd', dd2', sl', sl2', hl1', hb1', hs1', hs2', _⟩ := hl _ _ h2
      obtain ⟨hp2, g2, d2, tk2, os2⟩ := s2
      have hi1' : items'[((i : Nat) : Int).toNat]? = some items'[i] := by simp [show i < items'.size by omega]
      have hi2' : items2'[((i : Nat) : Int).toNat]? = some items2'[i] := by simp [show i < items2'.size by omega]
      wp_walk using wpAny_loadPart' hl1', wpAny_loadPart' hb1'
      rw [hi1', hi2']
      wp_walk
      exact hR
theorem ne_loopJ (l b : Addr) (N : Nat) (e : Nat → Bool) (I : Nat → Shared → Prop) (hl : ListJ prog w A (fun e s' => R (.error e) s') l b N e I) (k : Nat) :
    ∀ i : Nat, N - i = k → i ≤ N → (∀ j, j < i → e j = true) → (∀ j s, I j s → R (.ok (.ret (.bool (!allFrom e N i)))) s) → ∀ s, I i s →
      wpAny (model prog w) A.in1 (Builtin.«list.__eq__.loop» ⟨[.ref l, .ref b, rawInt i, rawInt 3], []⟩) (FinOf prog w A R) (fun e s' => R (.error e) s') s := by
  induction k with
  | zero =>
    intro i hk hi pre fin s h
    obtain ⟨items, items2, n, n2, dd, dd2, sl, sl2, hl1, hb1, hs1, hs2, _⟩ := hl _ _ h
    have hi' : i = N := by omega
    have hR : R (.ok (.ret (.bool false))) s := by
      have := fin i s h
      rw [hi', allFrom_end] at this
      exact this
    obtain ⟨hp, g, d, tk, os⟩ := s
    wp_walk using wpAny_loadPart' hl1, wpAny_loadPart' hb1
    have hi1 : items[((i : Nat) : Int).toNat]? = none := by simp; omega
    have hi2 : items2[((i : Nat) : Int).toNat]? = none := by simp; omega
    rw [hi1, hi2]
    wp_walk using wpAny_loadPart' hl1, wpAny_loadPart' hb1
    show R (.ok (.ret (.bool (items.size != items2.size)))) _
    rw [hs1, hs2]
    simpa using hR
  | succ k ih =>
    intro i hk hi pre fin s h
    obtain ⟨items, items2, n, n2, dd, dd2, sl, sl2, hl1, hb1, hs1, hs2, turn⟩ := hl _ _ h
    have hlt : i < items.size := by omega
    have hlt2 : i < items2.size := by omega
    have ht := turn pre hlt hlt2
    obtain ⟨hp, g, d, tk, os⟩ := s
    wp_walk using wpAny_loadPart' hl1, wpAny_loadPart' hb1
    have hi1 : items[((i : Nat) : Int).toNat]? = some items[i] := by simp [hlt]
    have hi2 : items2[((i : Nat) : Int).toNat]? = some items2[i] := by simp [hlt2]
    have hc : ((i : Int) + 1) = ((i + 1 : Nat) : Int) := by omega
    rw [hi1, hi2]
    refine wpAny_bind (wpAny_mono ht (fun r s2 h2 => ?_) fun _ _ x => x)
    obtain ⟨hr, h2⟩ := h2
    subst hr
    have hst := allFrom_step (e := e) (show i < N by omega)
    cases he : e i with
    | true =>
      have hrec := ih (i + 1) (by omega) (by omega) (fun j hj => by rcases Nat.lt_succ_iff_lt_or_eq.mp hj with q | q; exact pre j q; rw [q]; exact he) (fun j s q => by have := fin j s q; rw [hst, he, Bool.true_and] at this; exact this) s2 h2
      obtain ⟨hp2, g2, d2, tk2, os2⟩ := s2
      wp_walk
      rw [hc]
      exact ⟨plainId_quiet plain_eq_loop _, codeAny_builtin entry_eq_loop (by
        rw [Around.under_plainId plain_eq_loop _]
        exact hrec)⟩
    | false =>
      have hR : R (.ok (.ret (.bool true))) s2 := by have := fin _ s2 h2; rw [hst, he, Bool.false_and] at this; exact this
      obtain ⟨items', items2', n', n2', dd', dd2', sl', sl2', hl1', hb1', hs1', hs2', _⟩ := hl _ _ h2
      obtain ⟨hp2, g2, d2, tk2, os2⟩ := s2
      have hi1' : items'[((i : Nat) : Int).toNat]? = some items'[i] := by simp [show i < items'.size by omega]
      have hi2' : items2'[((i : Nat) : Int).toNat]? = some items2'[i] := by simp [show i < items2'.size by omega]
      wp_walk using wpAny_loadPart' hl1', wpAny_loadPart' hb1'
      rw [hi1', hi2']
      wp_walk
      exact hR
end
end NQ

namespace NQ
open PySem PySem.SeqAt
open AutoSeq1 (wpAny_loadPart')
open MeetsSeq MeetsSeq2 MeetsSeq3 SeqRoads2
open GQ (FinOf call_here)
section
variable {prog : Program} {w : World} {A : Around} {R : Result → Shared → Prop}
theorem list_eqJ (l b : Addr) (N : Nat) (e : Nat → Bool) (I : Nat → Shared → Prop) (hl : ListJ prog w A (fun e s' => R (.error e) s') l b N e I)
    (fin : ∀ j s, I j s → R (.ok (.ret (.bool (allFrom e N 0)))) s) {s : Shared} (h : I 0 s) :
    wpAny (model prog w) A.in1 (Builtin.«list.__eq__» ⟨[.ref l, .ref b], []⟩) (FinOf prog w A R) (fun e s' => R (.error e) s') s := by
  obtain ⟨items, items2, n, n2, dd, dd2, sl, sl2, hl1, hb1, hs1, hs2, _⟩ := hl _ _ h
  have hrec := eq_loopJ (A := A) (R := R) l b N e I hl _ 0 rfl (Nat.zero_le _) (fun j hj => absurd hj (Nat.not_lt_zero j)) fin s h
  obtain ⟨hp, g, d, tk, os⟩ := s
  have f3 := AutoSeq1.sub_list_list
  have hne : ¬ (items.size != items2.size) = true := by simp [hs1, hs2]
  wp_walk using wpAny_loadPart' hl1, wpAny_loadPart' hb1
  exact ⟨plainId_quiet plain_eq_loop _, codeAny_builtin entry_eq_loop (by
    rw [Around.under_plainId plain_eq_loop _]
    exact hrec)⟩
theorem list_neJ (l b : Addr) (N : Nat) (e : Nat → Bool) (I : Nat → Shared → Prop) (hl : ListJ prog w A (fun e s' => R (.error e) s') l b N e I)
    (fin : ∀ j s, I j s → R (.ok (.ret (.bool (!allFrom e N 0)))) s) {s : Shared} (h : I 0 s) :
    wpAny (model prog w) A.in1 (Builtin.«list.__ne__» ⟨[.ref l, .ref b], []⟩) (FinOf prog w A R) (fun e s' => R (.error e) s') s := by
  obtain ⟨items, items2, n, n2, dd, dd2, sl, sl2, hl1, hb1, hs1, hs2, _⟩ := hl _ _ h
  have hrec := ne_loopJ (A := A) (R := R) l b N e I hl _ 0 rfl (Nat.zero_le _) (fun j hj => absurd hj (Nat.not_lt_zero j)) fin s h
  obtain ⟨hp, g, d, tk, os⟩ := s
  have f3 := AutoSeq1.sub_list_list
  have hne : ¬ (items.size != items2.size) = true := by simp [hs1, hs2]
  wp_walk using wpAny_loadPart' hl1, wpAny_loadPart' hb1
  exact ⟨plainId_quiet plain_eq_loop _, codeAny_builtin entry_eq_loop (by
    rw [Around.under_plainId plain_eq_loop _]
    exact hrec)⟩
theorem tuple_eqJ (l b : Addr) (items items2 : Array Value) (n n2 : Nat) (dd dd2 : Option Addr) (sl sl2 : Array (Option Value)) (N : Nat) (hN : N = min items.size items2.size) (e : Nat → Bool) (I : Nat → Shared → Prop)
    (turn : ∀ i (h1 : i < items.size) (h2 : i < items2.size) s, (∀ j, j < i → e j = true) → I i s → wpAny (model prog w) A.in1 (eqBool items[i] items2[i]) (fun r s' => r = e i ∧ I (i + 1) s') (fun e s' => R (.error e) s') s)
    (fin : ∀ j s, I j s → R (.ok (.ret (.bool ((allFrom e N 0 && items.size == items2.size))))) s) {s : Shared} (hl1 : s.heap.get? l = some { cls := .type "tuple", dict := dd, data := .seq items n, slots := sl }) (hb1 : s.heap.get? b = some { cls := .type "tuple", dict := dd2, data := .seq items2 n2, slots := sl2 }) (h : I 0 s) :
    wpAny (model prog w) A.in1 (Builtin.«tuple.__eq__» ⟨[.ref l, .ref b], []⟩) (FinOf prog w A R) (fun e s' => R (.error e) s') s := by
  have f2 := AutoSeq1.sub_tuple_tuple
  have hZ : (items.toList.zip items2.toList).length = N := by simp [hN]
  have h0 := h
  obtain ⟨hp, g, d, tk, os⟩ := s
  wp_walk using wpAny_loadPart' hl1, wpAny_loadPart' hb1, wpAny_forIn_list _ (fun rest b s' => b.1 = none ∧ ∃ i, rest = (items.toList.zip items2.toList).drop i ∧ i ≤ N ∧ I i s' ∧ allFrom e N 0 = allFrom e N i ∧ ∀ j, j < i → e j = true) _
  case turn =>
    rintro ⟨y, x⟩ rest b s' ⟨hb', i, hz, hi, hI, ha, pre⟩
    have hlt : i < (items.toList.zip items2.toList).length := by
      rcases Nat.lt_or_ge i (items.toList.zip items2.toList).length with h' | h'
      · exact h'
      · rw [List.drop_of_length_le h'] at hz; cases hz
    have h1 : i < items.size := by omega
    have h2 : i < items2.size := by omega
    rw [List.drop_eq_getElem_cons hlt] at hz
    injection hz with hyx hrest
    have hy : y = items[i] := by have := congrArg Prod.fst hyx; simpa using this
    have hx : x = items2[i] := by have := congrArg Prod.snd hyx; simpa using this
    subst hy hx
    refine wpAny_bind (wpAny_mono (turn i h1 h2 s' pre hI) (fun r s2 q2 => ?_) fun _ _ x => x)
    obtain ⟨hr, q2⟩ := q2
    subst hr
    have hst := allFrom_step (e := e) (show i < N by omega)
    cases he : e i with
    | true =>
      wp_walk
      exact ⟨rfl, i + 1, hrest, by omega, q2, by rw [ha, hst, he]; rfl, fun j hj => by rcases Nat.lt_succ_iff_lt_or_eq.mp hj with q | q; exact pre j q; rw [q]; exact he⟩
    | false =>
      have hR := fin _ _ q2
      rw [ha, hst, he, Bool.false_and, Bool.false_and] at hR
      wp_walk
      exact hR
  case fin =>
    rintro ⟨b1, b2⟩ s' ⟨hb', i, hz, hi, hI, ha, pre⟩
    simp only at hb'
    subst hb'
    have hge : N ≤ i := by
      rcases Nat.lt_or_ge i (items.toList.zip items2.toList).length with h' | h'
      · rw [List.drop_eq_getElem_cons h'] at hz; cases hz
      · exact hZ ▸ h'
    have hi' : i = N := by omega
    rw [hi', allFrom_end] at ha
    have hR := fin _ _ hI
    rw [ha, Bool.true_and] at hR
    wp_walk
    simpa [Builtin.Tuple.tupleCompareSizes, bne] using hR
  case h =>
    exact ⟨rfl, 0, rfl, Nat.zero_le _, h0, rfl, fun j hj => absurd hj (Nat.not_lt_zero j)⟩
theorem tuple_neJ (l b : Addr) (items items2 : Array Value) (n n2 : Nat) (dd dd2 : Option Addr) (sl sl2 : Array (Option Value)) (N : Nat) (hN : N = min items.size items2.size) (e : Nat → Bool) (I : Nat → Shared → Prop)
    (turn : ∀ i (h1 : i < items.size) (h2 : i < items2.size) s, (∀ j, j < i → e j = true) → I i s → wpAny (model prog w) A.in1 (eqBool items[i] items2[i]) (fun r s' => r = e i ∧ I (i + 1) s') (fun e s' => R (.error e) s') s)
    (fin : ∀ j s, I j s → R (.ok (.ret (.bool (!(allFrom e N 0 && items.size == items2.size))))) s) {s : Shared} (hl1 : s.heap.get? l = some { cls := .type "tuple", dict := dd, data := .seq items n, slots := sl }) (hb1 : s.heap.get? b = some { cls := .type "tuple", dict := dd2, data := .seq items2 n2, slots := sl2 }) (h : I 0 s) :
    wpAny (model prog w) A.in1 (Builtin.«tuple.__ne__» ⟨[.ref l, .ref b], []⟩) (FinOf prog w A R) (fun e s' => R (.error e) s') s := by
  have f2 := AutoSeq1.sub_tuple_tuple
  have hZ : (items.toList.zip items2.toList).length = N := by simp [hN]
  have h0 := h
  obtain ⟨hp, g, d, tk, os⟩ := s
  wp_walk using wpAny_loadPart' hl1, wpAny_loadPart' hb1, wpAny_forIn_list _ (fun rest b s' => b.1 = none ∧ ∃ i, rest = (items.toList.zip items2.toList).drop i ∧ i ≤ N ∧ I i s' ∧ allFrom e N 0 = allFrom e N i ∧ ∀ j, j < i → e j = true) _
  case turn =>
    rintro ⟨y, x⟩ rest b s' ⟨hb', i, hz, hi, hI, ha, pre⟩
    have hlt : i < (items.toList.zip items2.toList).length := by
      rcases Nat.lt_or_ge i (items.toList.zip items2.toList).length with h' | h'
      · exact h'
      · rw [List.drop_of_length_le h'] at hz; cases hz
    have h1 : i < items.size := by omega
    have h2 : i < items2.size := by omega
    rw [List.drop_eq_getElem_cons hlt] at hz
    injection hz with hyx hrest
    have hy : y = items[i] := by have := congrArg Prod.fst hyx; simpa using this
    have hx : x = items2[i] := by have := congrArg Prod.snd hyx; simpa using this
    subst hy hx
    refine wpAny_bind (wpAny_mono (turn i h1 h2 s' pre hI) (fun r s2 q2 => ?_) fun _ _ x => x)
    obtain ⟨hr, q2⟩ := q2
    subst hr
    have hst := allFrom_step (e := e) (show i < N by omega)
    cases he : e i with
    | true =>
      wp_walk
      exact ⟨rfl, i + 1, hrest, by omega, q2, by rw [ha, hst, he]; rfl, fun j hj => by rcases Nat.lt_succ_iff_lt_or_eq.mp hj with q | q; exact pre j q; rw [q]; exact he⟩
    | false =>
      have hR := fin _ _ q2
      rw [ha, hst, he, Bool.false_and, Bool.false_and] at hR
      wp_walk
      exact hR
  case fin =>
    rintro ⟨b1, b2⟩ s' ⟨hb', i, hz, hi, hI, ha, pre⟩
    simp only at hb'
    subst hb'
    have hge : N ≤ i := by
      rcases Nat.lt_or_ge i (items.toList.zip items2.toList).length with h' | h'
      · rw [List.drop_eq_getElem_cons h'] at hz; cases hz
      · exact hZ ▸ h'
    have hi' : i = N := by omega
    rw [hi', allFrom_end] at ha
    have hR := fin _ _ hI
    rw [ha, Bool.true_and] at hR
    wp_walk
    simpa [Builtin.Tuple.tupleCompareSizes, bne] using hR
  case h =>
    exact ⟨rfl, 0, rfl, Nat.zero_le _, h0, rfl, fun j hj => absurd hj (Nat.not_lt_zero j)⟩
end
section
variable {prog : Program} {w : World} {A : Around} {E : Value → Shared → Prop} {s : Shared}
theorem rc_eqL {l b : Addr} {N : Nat} {e : Nat → Bool} {Q : Value → Shared → Prop} (hu : A.units < cLine) (I : Nat → Shared → Prop) (hl : ListJ prog w A E l b N e I)
    (fin : ∀ j s, I j s → Q (.bool (allFrom e N 0)) s) (h : I 0 s) : wpAny (model prog w) A (richCompare .Eq (.ref l) (.ref b)) Q E s := by
  obtain ⟨items, items2, n, n2, dd, dd2, sl, sl2, hl1, hb1, _, _, _⟩ := hl _ _ h
  refine wpAny_richCompare_same_room (op := .Eq) ⟨_, hl1, rfl⟩ ⟨_, hb1, rfl⟩ F.slot_list_eq (call_here F.slot_list_eq ⟨_, hl1, rfl⟩ F.entry_list_eq (F.args_list_eq_2 _ _) ?_) hu
  exact list_eqJ (R := wants (fun v s' => v ≠ .notImplemented ∧ Q v s') E) l b N e I hl (fun j s' q => ⟨(fun x => nomatch x), fin j s' q⟩) h
theorem rc_neL {l b : Addr} {N : Nat} {e : Nat → Bool} {Q : Value → Shared → Prop} (hu : A.units < cLine) (I : Nat → Shared → Prop) (hl : ListJ prog w A E l b N e I)
    (fin : ∀ j s, I j s → Q (.bool (!allFrom e N 0)) s) (h : I 0 s) : wpAny (model prog w) A (richCompare .NotEq (.ref l) (.ref b)) Q E s := by
  obtain ⟨items, items2, n, n2, dd, dd2, sl, sl2, hl1, hb1, _, _, _⟩ := hl _ _ h
  refine wpAny_richCompare_same_room (op := .NotEq) ⟨_, hl1, rfl⟩ ⟨_, hb1, rfl⟩ F.slot_list_ne (call_here F.slot_list_ne ⟨_, hl1, rfl⟩ F.entry_list_ne (F.args_list_ne_2 _ _) ?_) hu
  exact list_neJ (R := wants (fun v s' => v ≠ .notImplemented ∧ Q v s') E) l b N e I hl (fun j s' q => ⟨(fun x => nomatch x), fin j s' q⟩) h
theorem rc_eqT {l b : Addr} {items items2 : Array Value} {N : Nat} {e : Nat → Bool} {Q : Value → Shared → Prop} (hN : N = min items.size items2.size) (hu : A.units < cLine) (I : Nat → Shared → Prop)
    (hl : s.heap.IsTuple l items) (hb : s.heap.IsTuple b items2)
    (turn : ∀ i (h1 : i < items.size) (h2 : i < items2.size) s, (∀ j, j < i → e j = true) → I i s → wpAny (model prog w) A.in1 (eqBool items[i] items2[i]) (fun r s' => r = e i ∧ I (i + 1) s') E s)
    (fin : ∀ j s, I j s → Q (.bool ((allFrom e N 0 && items.size == items2.size))) s) (h : I 0 s) : wpAny (model prog w) A (richCompare .Eq (.ref l) (.ref b)) Q E s := by
  obtain ⟨⟨cls, dd, data, sl⟩, ho, hc, n, hd⟩ := id hl
  obtain ⟨⟨cls2, dd2, data2, sl2⟩, ho2, hc2, n2, hd2⟩ := id hb
  simp only at hc hd hc2 hd2
  subst hc hd hc2 hd2
  refine wpAny_richCompare_same_room (op := .Eq) ⟨_, ho, rfl⟩ ⟨_, ho2, rfl⟩ F.slot_tuple_eq (call_here F.slot_tuple_eq ⟨_, ho, rfl⟩ F.entry_tuple_eq (F.args_tuple_eq_2 _ _) ?_) hu
  exact tuple_eqJ (R := wants (fun v s' => v ≠ .notImplemented ∧ Q v s') E) l b items items2 n n2 dd dd2 sl sl2 N hN e I turn (fun j s' q => ⟨(fun x => nomatch x), fin j s' q⟩) ho ho2 h
theorem rc_neT {l b : Addr} {items items2 : Array Value} {N : Nat} {e : Nat → Bool} {Q : Value → Shared → Prop} (hN : N = min items.size items2.size) (hu : A.units < cLine) (I : Nat → Shared → Prop)
    (hl : s.heap.IsTuple l items) (hb : s.heap.IsTuple b items2)
    (turn : ∀ i (h1 : i < items.size) (h2 : i < items2.size) s, (∀ j, j < i → e j = true) → I i s → wpAny (model prog w) A.in1 (eqBool items[i] items2[i]) (fun r s' => r = e i ∧ I (i + 1) s') E s)
    (fin : ∀ j s, I j s → Q (.bool (!(allFrom e N 0 && items.size == items2.size))) s) (h : I 0 s) : wpAny (model prog w) A (richCompare .NotEq (.ref l) (.ref b)) Q E s := by
  obtain ⟨⟨cls, dd, data, sl⟩, ho, hc, n, hd⟩ := id hl
  obtain ⟨⟨cls2, dd2, data2, sl2⟩, ho2, hc2, n2, hd2⟩ := id hb
  simp only at hc hd hc2 hd2
  subst hc hd hc2 hd2
  refine wpAny_richCompare_same_room (op := .NotEq) ⟨_, ho, rfl⟩ ⟨_, ho2, rfl⟩ F.slot_tuple_ne (call_here F.slot_tuple_ne ⟨_, ho, rfl⟩ F.entry_tuple_ne (F.args_tuple_ne_2 _ _) ?_) hu
  exact tuple_neJ (R := wants (fun v s' => v ≠ .notImplemented ∧ Q v s') E) l b items items2 n n2 dd dd2 sl sl2 N hN e I turn (fun j s' q => ⟨(fun x => nomatch x), fin j s' q⟩) ho ho2 h
/-- lists of unlike lengths -/
theorem list_eq_len (l b : Addr) (items items2 : Array Value) (n n2 : Nat) (dd dd2 : Option Addr) (sl sl2 : Array (Option Value)) (hsz : items.size ≠ items2.size) :
    Meets (Builtin.«list.__eq__» ⟨[.ref l, .ref b], []⟩) (fun _ R s => s.heap.get? l = some { cls := .type "list", dict := dd, data := .seq items n, slots := sl } ∧ s.heap.get? b = some { cls := .type "list", dict := dd2, data := .seq items2 n2, slots := sl2 } ∧ R (.ok (.ret (.bool false))) s) :=
  .of_wp fun prog w A R s h => by
    obtain ⟨hp, g, d, tk, os⟩ := s; obtain ⟨hl, hb, h⟩ := h
    have f3 := AutoSeq1.sub_list_list
    have hne : (items.size != items2.size) = true := by simp [hsz]
    wp_walk using wpAny_loadPart' hl, wpAny_loadPart' hb
    exact ⟨_, rfl, h⟩
theorem list_ne_len (l b : Addr) (items items2 : Array Value) (n n2 : Nat) (dd dd2 : Option Addr) (sl sl2 : Array (Option Value)) (hsz : items.size ≠ items2.size) :
    Meets (Builtin.«list.__ne__» ⟨[.ref l, .ref b], []⟩) (fun _ R s => s.heap.get? l = some { cls := .type "list", dict := dd, data := .seq items n, slots := sl } ∧ s.heap.get? b = some { cls := .type "list", dict := dd2, data := .seq items2 n2, slots := sl2 } ∧ R (.ok (.ret (.bool true))) s) :=
  .of_wp fun prog w A R s h => by
    obtain ⟨hp, g, d, tk, os⟩ := s; obtain ⟨hl, hb, h⟩ := h
    have f3 := AutoSeq1.sub_list_list
    have hne : (items.size != items2.size) = true := by simp [hsz]
    wp_walk using wpAny_loadPart' hl, wpAny_loadPart' hb
    exact ⟨_, rfl, h⟩
end
end NQ

namespace NQ
open PySem PySem.SeqAt PySem.W
open AutoSeq1 (wpAny_loadPart')
open MeetsSeq MeetsSeq2 MeetsSeq3 SeqRoads2
theorem str_eq_declines_inst (b : Str) (u : Tok) (x C dx : Addr) :
    Meets (Builtin.«str.__eq__» ⟨[.str b u, .ref x], []⟩) (fun _ R s => s.heap.get? x = some (instObj C dx) ∧ R (.ok (.ret .notImplemented)) s) :=
  .of_wp fun prog w A R s h => by obtain ⟨hp, g, d, tk, os⟩ := s; obtain ⟨hl, h⟩ := h; unfold instObj at hl; wp_walk using wpAny_loadPart' hl, wpAny_load hl; exact ⟨_, rfl, h⟩
section
variable {prog : Program} {w : World} {A : Around} {E : Value → Shared → Prop} {s : Shared} {K : Frag} {x C dx f : Addr} {od : Option Obj}
/-- a text == an instance: the instance's own == is asked -/
theorem rc_str_own {b : Str} {u : Tok} {Q : Value → Shared → Prop} (hu : A.units < cLine) (X : K.In s.heap) (I : InstAt s.heap x (instObj C dx) C od) (hsub : subIn K (.ref C) (.type "str") = some false)
    (hs : findIn K (.ref C) "__eq__" = some (some (.ref f))) (hf : isFn K (.ref f) = true)
    (h : wpAny (model prog w) A (call (.ref f) [.ref x, .str b u]) (CmpBack Q) E s) : wpAny (model prog w) A (richCompare .Eq (.str b u) (.ref x)) Q E s := by
  have one : wpAny (model prog w) A (tryCompare (.ref x) (cmpInfo .Eq).2.2 (.str b u)) (fun r s' => ∃ v, r = some v ∧ Q v s') E s := by
    unfold tryCompare
    refine wpAny_bind (ifBound_K X I hs hf (wpAny_mono h (fun v s' hv => ?_) fun _ _ e => e))
    cases v <;> first | exact hv.elim | exact wpAny_pure ⟨_, rfl, hv⟩
  have ha : s.TypeIs (.str b u) "str" := typeIs_str s b u
  have h1 : Slot "str" (cmpInfo .Eq).2.1 "str.__eq__" := F.slot_str_eq
  have hc1 : ∀ Q' : Value → Shared → Prop, Q' .notImplemented s → wpAny (model prog w) A (call (.builtin "str.__eq__") [.str b u, .ref x]) Q' E s :=
    fun _ hq => call_meets F.slot_str_eq ha F.entry_str_eq (F.args_str_eq_2 _ _) (str_eq_declines_inst b u x C dx) ⟨I.at_, hq⟩
  rcases hi : cmpInfo CmpOp.Eq with ⟨sym, f', r⟩
  rw [hi] at h1 one
  simp only [richCompare, hi, ha.oneThing_none]
  try with_reducible refine wpAny_holding ?_
  refine wpAny_bind (wpAny_cRoomFor_or (.inr hu) ?_)
  refine wpAny_bind (wpAny_typeOf ha (wpAny_bind (I.type.here ?_)))
  rw [show (Value.type "str" != Value.ref C) = true from rfl]
  simp only [if_true]
  refine wpAny_bind ((looks_subIn X hsub).here ?_)
  simp only [Bool.false_eq_true, if_false, Bool.not_false, if_true]
  refine wpAny_bind (m := tryCompare (.str b u) _ (.ref x)) (wpAny_tryCompare_declines ha h1 (hc1 _ ⟨rfl, ?_⟩))
  refine wpAny_bind (m := tryCompare (.ref x) _ (.str b u)) (wpAny_mono one (fun r s' z => ?_) fun _ _ e => e)
  obtain ⟨v, rfl, hq⟩ := z
  exact wpAny_pure hq
end
end NQ

namespace NQ
open PySem PySem.SeqAt PySem.W
theorem slot_obj_ne : Slot "object" "__ne__" "object.__ne__" :=
  (Slot.of (T := "object") (name := "__ne__") (owner := "object") (n := "__ne__") (by rw [typeLookup_type, builtinLookup_eq_fast]; kernel_rfl) (by decide +kernel) (by decide +kernel) (by decide +kernel)
    (.inl (by decide +kernel)) (by rw [isSubtype_type]; kernel_rfl))
section
variable {prog : Program} {w : World} {A : Around} {E : Value → Shared → Prop} {s : Shared} {K : Frag} {x C f : Addr} {ox : Obj} {od : Option Obj} {name : Str}
theorem ifBound_B {M : Model} {id : String} {args : List Value} {Q : Option Value → Shared → Prop} (X : K.In s.heap) (I : InstAt s.heap x ox C od) (hs : findIn K (.ref C) name = some (some (.builtin id))) (hb : ∀ self, bindSpecial (.builtin id) self = pure (.builtin id, [self]))
    (h : wpAny M A (call (.builtin id) (.ref x :: args)) (fun v => Q (some v)) E s) : wpAny M A (callSpecialIfBound? (.ref x) name args) Q E s := by
  simp only [callSpecialIfBound?, bindSpecialIfBound?]
  refine wpAny_holding (wpAny_bind (wpAny_bind (wpAny_bind (I.type.here ((looks_findIn X hs).here ?_)))))
  refine wpAny_bind (wpAny_askSetting (wpAny_ite ?_))
  have fin : wpAny M A (call (.builtin id) ([.ref x] ++ args) >>= fun v => pure (some v)) Q E s := wpAny_bind (wpAny_mono h (fun v s' h' => wpAny_pure h') fun _ _ h' => h')
  split
  · exact wpAny_bind (wpAny_of_eq (hb _) (wpAny_pure (by exact fin)))
  · exact wpAny_tryCatch (wpAny_bind (wpAny_of_eq (hb _) (wpAny_pure (by exact fin))))
theorem objNe_own {v : Value} {Q : Fin → Shared → Prop} (hu : A.units < cLine) (X : K.In s.heap) (I : InstAt s.heap x ox C od) (hs : findIn K (.ref C) "__eq__" = some (some (.ref f))) (hf : isFn K (.ref f) = true)
    (hcall : wpAny (model prog w) A (call (.ref f) [.ref x, v]) (fun r s' => ∃ b, r = .bool b ∧ Q (.done (.ret (.bool (!b)))) s') E s) :
    wpAny (model prog w) A (Builtin.«object.__ne__» ⟨[.ref x, v], []⟩) Q E s := by
  unfold Builtin.«object.__ne__»
  repeat (first
    | with_reducible refine wpAny_cRoomFor hu ?_
    | (refine wpAny_bind (m := callSpecialIfBound? (.ref x) (Str.ofString "__eq__") [v])
        (ifBound_K X I hs hf (wpAny_mono hcall (fun r s' hr => by
          obtain ⟨b, rfl, hq⟩ := hr
          repeat (first | exact hq | exact wpAny_pure hq | exact wpAny_truthy_bool hq | (refine wpAny_bind (m := truthy (.bool _)) (wpAny_truthy_bool ?_)) | wp_step)) fun _ _ e => e)))
    | wp_step)
/-- x != v by the own == of x's class -/
theorem rc_ne_own {v tb : Value} {Q : Value → Shared → Prop} (hu : A.units + 1 < cLine) (X : K.In s.heap) (I : InstAt s.heap x ox C od) (hb : Looks (model prog w) s.heap (typeOf v) tb) (hn : notFirst K C tb = true)
    (hne : findIn K (.ref C) "__ne__" = some (some (.builtin "object.__ne__"))) (hm : mroIn K C (.type "object") = some true) (hs : findIn K (.ref C) "__eq__" = some (some (.ref f))) (hf : isFn K (.ref f) = true)
    (h : wpAny (model prog w) A.in1 (call (.ref f) [.ref x, v]) (fun r s' => ∃ b, r = .bool b ∧ Q (.bool (!b)) s') E s) : wpAny (model prog w) A (richCompare .NotEq (.ref x) v) Q E s := by
  have one : wpAny (model prog w) A (tryCompare (.ref x) (cmpInfo .NotEq).2.1 v) (fun r s' => ∃ v, r = some v ∧ Q v s') E s := by
    unfold tryCompare
    refine wpAny_bind (ifBound_B X I hne (fun self => slot_obj_ne.bind self) (wpAny_call (codeAny_call_builtin slot_obj_ne.plain F.cmpEntry_ne (check_slot F.cmpKind_ne F.cmpSplit_ne (I.type.andThen (looks_mroIn X hm)) (F.cmpArgs_ne _ _) ?_))))
    refine objNe_own (A := A.in1) hu X I hs hf (wpAny_mono h (fun r s' hr => ?_) fun _ _ e => e)
    obtain ⟨b, rfl, hq⟩ := hr
    exact ⟨b, rfl, wpAny_pure ⟨_, rfl, hq⟩⟩
  unfold richCompare
  simp only [oneThing_ref]
  refine wpAny_holding (wpAny_bind (wpAny_cRoomFor (Nat.lt_of_succ_lt hu) ?_))
  refine wpAny_bind (I.type.here (wpAny_bind (hb.here ?_)))
  split
  · rename_i q
    have e : subIn K tb (.ref C) = some false := by
      rcases Bool.or_eq_true_iff.mp hn with e | e
      · rw [beq_iff_eq.mp e] at q; simp at q
      · exact beq_iff_eq.mp e
    refine wpAny_bind ((looks_subIn X e).here ?_)
    simp only [Bool.false_eq_true, if_false]
    refine wpAny_bind (wpAny_mono one (fun r s' z => ?_) fun _ _ e => e)
    obtain ⟨v, rfl, hq⟩ := z
    exact wpAny_pure hq
  · refine wpAny_bind (wpAny_pure ?_)
    simp only [Bool.false_eq_true, if_false]
    refine wpAny_bind (wpAny_mono one (fun r s' z => ?_) fun _ _ e => e)
    obtain ⟨v, rfl, hq⟩ := z
    exact wpAny_pure hq
end
end NQ

namespace NK
open PySem PySem.Spec PyProof.Rows L2
/-! ### instances of own classes -/
section
variable {X : Cx} {C : Addr} {x : Str} {p pos : Pos}
/-- what a class without own __init__ must have to be made -/
structure Mk0 (K : PySem.W.Frag) (C : Addr) : Prop where
  makes : PySem.W.makesIn K C = true
  init : PySem.W.findIn K (.ref C) "__init__" = some (some (.builtin "object.__init__"))
  top : PySem.W.mroIn K C (.type "object") = some true
  kp : PySem.W.keepIn K (.ref C) = true
def tMake0 (C : Addr) : TE := fun _ H Q => ∀ x dx, H x = none → H dx = none → dx ≠ x → Q (.ref x) (upd (upd H dx (.own x)) x (.ins C dx []))
theorem pe_makeO (M : Mk0 X.K C) (hg : Gl X x) (hm : X.mg x = some (.ref C)) (hdb : (x == ("__debug__" : Str)) = false := by decide) : PE X (.Call (.Name x p) [] [] pos) (tMake0 C) := by
  refine ⟨fun pins s σ H Q I h => ?_⟩
  refine wpAny_Call_Name_kw (ld_glob I hg hm ?_ hdb)
  refine PySem.W.callWith_K0 I.kIn M.kp ?_
  have hq := h (s.heap.objs.size + 1) s.heap.objs.size (I.hok.fresh (Nat.le_succ _)) (I.hok.fresh (Nat.le_refl _)) (Nat.ne_of_lt (Nat.lt_succ_self _))
  have I2 := Inv.made (C := C) I
  refine wpAny_call (make_map0 I.kIn M.makes M.init (fun self => PySem.W.Looks.of_pure (PySem.W.oi_bind self)) ?_)
  have e2 := ins_get I2.hok (upd_same)
  obtain ⟨mA, J, _⟩ := e2
  obtain ⟨od, J, _⟩ := J.look
  refine codeAny_call_builtin PySem.W.oi_plain PySem.W.entry_oi (@PySem.W.check_slot (model X.prog X.w) _ _ _ "object.__init__" "object" "__init__" (.ref (s.heap.objs.size + 1)) [] [] _ PySem.W.oi_kind PySem.W.oi_split (J.type.andThen (PySem.W.looks_mroIn I2.kIn M.top)) (PySem.W.oi_args (.ref (s.heap.objs.size + 1))) ?_)
  rw [PySem.W.oi_run]
  exact wpAny_pure (And.intro rfl ⟨V.ref (s.heap.objs.size + 1), _, I2, rfl, hq⟩)
/-- readings one beside the other -/
def tAlt (t u : TE) : TE := fun σ H Q => t σ H Q ∨ u σ H Q
theorem pe_alt {e : Expr} {t u : TE} (h : PE X e t) (h' : PE X e u) : PE X e (tAlt t u) := ⟨fun pins s σ H Q I q => by
  rcases q with q | q
  · exact h.run pins s σ H Q I q
  · exact h'.run pins s σ H Q I q⟩
/-- what is never reached -/
def tNever : TE := fun _ _ _ => False
theorem pe_never {e : Expr} : PE X e tNever := ⟨fun pins s σ H Q I q => q.elim⟩
/-- the receiver of a method -/
def tRecv (C : Addr) (m : Str) (ta : TE) : TE := fun σ H Q => ta σ H fun x H1 => (∃ a dx fs, x = .ref a ∧ H1 a = some (.ins C dx fs) ∧ fs.lookup m = none) ∧ Q x H1
theorem tMeth_eq {C : Addr} {m : Str} {sp : Sp} {E : XK} {ta : TE} {t : TA} : tMeth C m sp [] E ta t = tCall sp [] E (tCons (tRecv C m ta) t) := by
  funext σ H Q
  unfold tMeth tCall tCons tRecv
  congr 1
  funext x H1
  apply propext
  constructor
  · rintro ⟨a, dx, fs, h1, h2, h3, q⟩
    exact ⟨⟨a, dx, fs, h1, h2, h3⟩, q⟩
  · rintro ⟨⟨a, dx, fs, h1, h2, h3⟩, q⟩
    exact ⟨a, dx, fs, h1, h2, h3, q⟩
theorem tMake_eq {C : Addr} {sp : Sp} {E : XK} {t : TA} {σ : L2.St} {H : Hp} {Q : VK} : tMake C sp [] E t σ H Q = t σ H fun vs H1 => ∀ x dx, H1 x = none → H1 dx = none → dx ≠ x → sp (.ref x :: vs) (upd (upd H1 dx (.own x)) x (.ins C dx [])) (fun v H2 => v = .non ∧ Q (.ref x) H2) E := by
  unfold tMake
  congr 1
  funext vs H1
  rw [List.append_nil]
/-- a method as it is called -/
structure CalM (P : Program) (w : World) (K : PySem.W.Frag) (mg : Str → Option Value) (base : Heap) (CX : CXT) (k : Nat) (C : Addr) (m : Str) (ps : List Str) (sp : Sp) : Prop where
  at_ : ∃ f fd, Meth K C m f ∧ FnOk P w K mg base CX k f fd ps sp ∧ Binds K fd ps []
theorem pe_m0 {o : Expr} {m : Str} {apos : Pos} {k : Nat} {ps : List Str} {sp : Sp} {CX : CXT} {E : XK} {ta : TE} (c : Cls X.K C) (h : CalM X.prog X.w X.K X.mg X.base CX k C m ps sp) (hr : Room k X.A) (hx : Passes CX X E) (he : PE X o ta)
    {pl : Sem Bool} (ht : eval (.Call (.Attribute o m apos) [] [] pos) X.env = (do let ov ← eval o X.env; standAt apos.atName; let (f, first) ← holding [ov] (getMethod ov m pl); callWith pos f first (backTo pos (starEach [] X.env)) (backToKw pos (keywordEach [] X.env))) := by rfl) : PE X (.Call (.Attribute o m apos) [] [] pos) (tCall sp [] E (tCons (tRecv C m ta) tNil)) := by
  obtain ⟨f, fd, hm, F, hb'⟩ := h.at_
  rw [← tMeth_eq]
  exact pe_meth0 he c hm F hr hb' .nil hx ht
/-- a class as it is called -/
structure CalK (P : Program) (w : World) (K : PySem.W.Frag) (mg : Str → Option Value) (base : Heap) (CX : CXT) (k : Nat) (x : Str) (C : Addr) (ps : List Str) (sp : Sp) : Prop where
  at_ : ∃ f fd, Mk K C f ∧ FnOk P w K mg base CX k f fd ps sp ∧ Binds K fd ps []
  g : mg x = some (.ref C)
theorem pe_mk1 {k : Nat} {ps : List Str} {sp : Sp} {CX : CXT} {E : XK} {e : Expr} {es : List Expr} {t : TA} (h : CalK X.prog X.w X.K X.mg X.base CX k x C ps sp) (hr : Room (k + 1) X.A) (hg : Gl X x) (hx : Passes CX X E) (ha : PA X (e :: es) t)
    (hdb : (x == ("__debug__" : Str)) = false := by decide) (he : starEach (e :: es) X.env = (false, eval e X.env) :: starEach es X.env := by rfl) (hpl : (backTo pos (starEach es X.env)).any (·.1) = false := by rfl) :
    PE X (.Call (.Name x p) (e :: es) [] pos) (tMake C sp [] E t) := by
  obtain ⟨f, fd, M, F, hb⟩ := h.at_
  exact pe_make M F hr hg h.g hb .nil hx ha hdb he hpl
/-- where the callee's exceptions are told never to come -/
theorem pass_never {X : Cx} : Passes (L2.CX X.prog X.w) X E0 := fun pins σ H s e s' I h => by
  obtain ⟨_, _, _, _, _, _, _, _, _, _, _, _, q⟩ := h
  exact (show False from q).elim
end
end NK

namespace NK
open PySem PySem.Spec PyProof.Rows L2
/-- isinstance(e, c), e the error that a suite holds -/
def tIsX (K : PySem.W.Frag) (a : Addr) (cls : Value) (d : Option Addr) (C : Addr) (c : V) (te : TE) : TE := fun σ H Q => te σ H fun x H1 => x = .ref a ∧ cls = .ref C ∧ ∃ (dd : Addr) (fs : List (Str × V)) (cv : Value) (b : Bool), d = some dd ∧ H1 dd = some (.xd fs) ∧ ClsV c cv ∧ PySem.W.kitOne K (.ref C) cv = some b ∧ Q (.bl b) H1
def rIsX (K : PySem.W.Frag) (a : Addr) (cls : Value) (d : Option Addr) (C : Addr) : List V → Hp → VK → Prop := fun xs H Q => ∃ (c : V) (dd : Addr) (fs : List (Str × V)) (cv : Value) (b : Bool), xs = [.ref a, c] ∧ cls = .ref C ∧ d = some dd ∧ H dd = some (.xd fs) ∧ ClsV c cv ∧ PySem.W.kitOne K (.ref C) cv = some b ∧ Q (.bl b) H
theorem call_isX {X : Cx} {a D : Addr} {oe : Obj} {cls : Value} {d : Option Addr} {pn : List (Addr × Obj)} (C : ExcC X.K D) (hz : Zc cls d oe) (hf : ∃ vs, oe.data = .fields vs) : CallR (X.suite a ((a, oe) :: pn)) (.builtin "isinstance") (rIsX X.K a cls d D) := by
  intro pins s σ H xs us Q I r h
  obtain ⟨c, dd, fs, cv, b, rfl, ecls, ed, ea, hcv, e, q⟩ := h
  subst ecls
  subst ed
  cases r with
  | cons rx rr =>
    cases rr with
    | cons rt rr =>
      cases rr
      cases rx
      have ec := hcv.eq rt
      subst ec
      obtain ⟨hget, _⟩ := I.pin (a, oe) (List.mem_append.mpr (.inl List.mem_cons_self))
      obtain ⟨vs, hv⟩ := hf
      have hx : ObjOk X.prog X.w H s.heap dd (.xd fs) := I.hok dd _ ea
      obtain ⟨mA, hns, hr⟩ := hx
      obtain ⟨od, ho, hl⟩ := lookIn_ns hns
      have J : PySem.W.InstAt s.heap a oe D (some od) := ⟨hget, hz.1, by unfold PySem.W.notCls; rw [hv] <;> rfl, by rw [hz.2]; exact ho⟩
      obtain ⟨cdD, hcD, _⟩ := PySem.W.any_some C.hd
      exact PySem.W.kia_one (PySem.W.kitx_exc (by rw [hcD]; rfl) C.hg C.hk C.hs C.ha C.hn C.ht C.hm) I.kIn J e (fun z => nomatch z) fun tk => ⟨.bl b, H, I.kept (t' := tk) fun _ _ z => z, rfl, q⟩
end NK

namespace NK
open PySem PySem.Spec PyProof.Rows L2
def opN : Bool → CmpOp
  | true => .NotEq
  | false => .Eq
end NK

namespace NK
open PySem PySem.Spec PyProof.Rows L2
section
variable {X : Cx}
theorem pass_of {E : XK} (tk : Takes X (fun cls d _ H => E cls d H)) : Passes (L2.CX X.prog X.w) X E := fun pins σ H s e s' I h => passAt tk σ pins H s e s' I h
/-- a call of a def that may raise -/
theorem pe_fnX {x : Str} {p pos : Pos} {e : Expr} {es : List Expr} {t : TA} {k : Nat} {ps : List Str} {sp : Sp} {E : XK} (c : CalX X.prog X.w X.K X.mg X.base k x ps sp) (hr : Room k X.A) (hg : Gl X x) (hx : Passes (L2.CX X.prog X.w) X E) (ha : PA X (e :: es) t) (hd : (x == ("__debug__" : Str)) = false := by decide)
    (he : starEach (e :: es) X.env = (false, eval e X.env) :: starEach es X.env := by rfl) (hpl : (backTo pos (starEach es X.env)).any (·.1) = false := by rfl) : PE X (.Call (.Name x p) (e :: es) [] pos) (tCall sp [] E t) := by
  obtain ⟨f, fd, F, hm, hk, hb⟩ := c.ex
  exact pe_call F hr hg hm hk hb .nil hx ha hd he hpl
/-- xs == [], xs != [] -/
def rNil (K : PySem.W.Frag) (neg : Bool) : R2 := fun x y H Q => ∃ a b xs, x = .ref a ∧ y = .ref b ∧ SqL K H a xs ∧ SqL K H b [] ∧ Q (.bl (neg != xs.isEmpty)) H
theorem op_nil {neg : Bool} {n : Nat} (hr : Room (n + 1) X.A) : OpR X (compareOp (opN neg)) (rNil X.K neg) := by
  intro pins s σ H x y v u Q inv rx ry hq
  obtain ⟨a, b, xs, rfl, rfl, s1, s2, q⟩ := hq
  have sb : L2.Sub X (n + 1) X.A := ⟨hr, rfl⟩
  cases (show v = Value.ref a from rx)
  cases (show u = Value.ref b from ry)
  have e : compareOp (opN neg) (.ref a) (.ref b) = richCompare (opN neg) (.ref a) (.ref b) := by cases neg <;> rfl
  rw [e]
  cases xs with
  | nil =>
    have J : NQ.ListJ X.prog X.w X.A X.xe a b 0 (fun _ => true) (fun _ s' => Inv X pins σ H s') := fun i s' inv1 => by
      obtain ⟨its, r, ⟨⟨c, dd, dt, sl⟩, k, g1, g2, _, g4⟩, _⟩ := inv1.list s1
      obtain ⟨its2, r', ⟨⟨c', dd', dt', sl'⟩, k', g1', g2', _, g4'⟩, _⟩ := inv1.list s2
      simp only at g2 g4 g2' g4'
      subst g2 g4 g2' g4'
      cases r
      cases r'
      exact ⟨_, _, k, k', dd, dd', sl, sl', g1, g1', rfl, rfl, fun _ h1 _ => absurd h1 (Nat.not_lt_zero _)⟩
    cases neg with
    | false => exact NQ.rc_eqL sb.room.units0 _ J (fun j s' g => ⟨.bl true, H, g, rfl, q⟩) inv
    | true => exact NQ.rc_neL sb.room.units0 _ J (fun j s' g => ⟨.bl false, H, g, rfl, q⟩) inv
  | cons z zs =>
    obtain ⟨its, r, ⟨⟨c, dd, dt, sl⟩, k, g1, g2, _, g4⟩, _⟩ := inv.list s1
    obtain ⟨its2, r', ⟨⟨c', dd', dt', sl'⟩, k', g1', g2', _, g4'⟩, _⟩ := inv.list s2
    simp only at g2 g4 g2' g4'
    subst g2 g4 g2' g4'
    have hsz : its.toArray.size ≠ its2.toArray.size := by
      rw [List.size_toArray, List.size_toArray, ← r.length, ← r'.length]
      exact fun w => nomatch w
    cases neg with
    | false => exact richCompare_meets_room (op := .Eq) ⟨_, g1, rfl⟩ ⟨_, g1', rfl⟩ F.slot_list_eq F.entry_list_eq (F.args_list_eq_2 _ _) (NQ.list_eq_len _ _ _ _ _ _ _ _ _ _ hsz) ⟨g1, g1', ⟨(fun z => nomatch z), .bl false, H, inv, rfl, q⟩⟩ sb.room.units0
    | true => exact richCompare_meets_room (op := .NotEq) ⟨_, g1, rfl⟩ ⟨_, g1', rfl⟩ F.slot_list_ne F.entry_list_ne (F.args_list_ne_2 _ _) (NQ.list_ne_len _ _ _ _ _ _ _ _ _ _ hsz) ⟨g1, g1', ⟨(fun z => nomatch z), .bl true, H, inv, rfl, q⟩⟩ sb.room.units0
end
end NK

namespace FM
open PySem PySem.Spec PyProof.Rows L2
/-! ### operations -/
def oII (f : Int → Int → Int) : O2 := fun _ x y => match x, y with
  | .d (.int i), .d (.int j) => some (.d (.int (f i j)))
  | _, _ => none
def oIc (c : Int → Int → Bool) (f : Int → Int → Int) : O2 := fun _ x y => match x, y with
  | .d (.int i), .d (.int j) => if c i j then some (.d (.int (f i j))) else none
  | _, _ => none
def oIB (f : Int → Int → Bool) : O2 := fun _ x y => match x, y with
  | .d (.int i), .d (.int j) => some (.d (.bl (f i j)))
  | _, _ => none
instance (i j : Int) : Decidable (CMul i j) := by unfold CMul; infer_instance
instance (i j : Int) : Decidable (CDiv i j) := by unfold CDiv; infer_instance
instance (i j : Int) : Decidable (CPow i j) := by unfold CPow; infer_instance
abbrev oAdd : O2 := oII fun i j => i + j
abbrev oSub : O2 := oII fun i j => i - j
abbrev oMul : O2 := oIc (fun i j => decide (CMul i j)) fun i j => i * j
abbrev oDiv : O2 := oIc (fun i j => decide (CDiv i j)) fun i j => i / j
abbrev oMod : O2 := oIc (fun _ j => decide (0 < j)) fun i j => i % j
abbrev oPow : O2 := oIc (fun i j => decide (CPow i j)) fun i j => i ^ j.toNat
section
variable {T : Tab}
/-- an operation that makes nothing -/
theorem simO_pure {r : R2} {f : O2} (h : ∀ (F : Frm) (I H : Hp) (A : List Addr) (m : Cells) (x y : V) (d1 d2 d : Vl), Base T F I H A m → VR T I A x d1 → VR T I A y d2 → f m d1 d2 = some d → ∀ Q : VK, (∀ v, VR T I A v d → Q v H) → r x y H Q) : SimO T r f :=
  fun F I H A m x y d1 d2 d b hx hy e Q q => h F I H A m x y d1 d2 d b hx hy e Q fun v hv => q v H I b (Same.refl I) hv
theorem sim_ii {f : Int → Int → Int} : SimO T (rI0 fun i j => .int (f i j)) (oII f) := simO_pure fun F I H A m x y d1 d2 d b hx hy e Q q => by
  unfold oII at e
  split at e
  · cases e
    cases hx.dat; cases hy.dat
    exact ⟨_, _, rfl, rfl, q _ (.d (.int _))⟩
  · cases e
theorem sim_ic {c : Int → Int → Bool} {cp : Int → Int → Prop} {f : Int → Int → Int} (hc : ∀ i j, c i j = true → cp i j) : SimO T (rI cp fun i j => .int (f i j)) (oIc c f) := simO_pure fun F I H A m x y d1 d2 d b hx hy e Q q => by
  unfold oIc at e
  split at e
  · rename_i i j
    by_cases h : c i j = true
    · rw [if_pos h] at e
      cases e
      cases hx.dat; cases hy.dat
      exact ⟨_, _, rfl, rfl, hc _ _ h, q _ (.d (.int _))⟩
    · rw [if_neg h] at e; cases e
  · cases e
theorem sim_mul : SimO T (rI CMul fun i j => .int (i * j)) oMul := sim_ic fun i j h => of_decide_eq_true h
theorem sim_div : SimO T (rI CDiv fun i j => .int (i / j)) oDiv := sim_ic fun i j h => of_decide_eq_true h
theorem sim_mod : SimO T (rI (fun _ j => 0 < j) fun i j => .int (i % j)) oMod := sim_ic fun i j h => of_decide_eq_true h
theorem sim_pow : SimO T (rI CPow fun i j => .int (i ^ j.toNat)) oPow := sim_ic fun i j h => of_decide_eq_true h
theorem sim_ib {f : Int → Int → Bool} : SimO T (rI0 fun i j => .bl (f i j)) (oIB f) := simO_pure fun F I H A m x y d1 d2 d b hx hy e Q q => by
  unfold oIB at e
  split at e
  · cases e
    cases hx.dat; cases hy.dat
    exact ⟨_, _, rfl, rfl, q _ (.d (.bl _))⟩
  · cases e
/-- == of ints, texts, bools, None, by the same kind -/
def eqF : Dt → Dt → Option Bool
  | .int i, .int j => some (decide (i = j))
  | .str i, .str j => some (decide (i = j))
  | .bl i, .bl j => some (decide (i = j))
  | _, _ => none
def oEq : O2 := fun _ x y => match x, y with
  | .d x, .d y => (eqF x y).map fun b => .d (.bl b)
  | _, _ => none
def oNe : O2 := fun _ x y => match x, y with
  | .d x, .d y => (eqF x y).map fun b => .d (.bl (!b))
  | _, _ => none
theorem eqF_ok {I : Hp} {x y : V} {a b : Dt} {k : Bool} (hx : DR T I x a) (hy : DR T I y b) (e : eqF a b = some k) : scal x y = true ∧ decide (x = y) = k := by
  unfold eqF at e
  split at e
  · cases e; cases hx; cases hy
    rename_i i j
    refine ⟨rfl, ?_⟩
    by_cases h : i = j
    · subst h; simp
    · rw [decide_eq_false h, decide_eq_false (fun e => h (V.int.inj e))]
  · cases e; cases hx; cases hy
    rename_i i j
    refine ⟨rfl, ?_⟩
    by_cases h : i = j
    · subst h; simp
    · rw [decide_eq_false h, decide_eq_false (fun e => h (V.str.inj e))]
  · cases e; cases hx; cases hy
    rename_i i j
    exact ⟨rfl, by cases i <;> cases j <;> rfl⟩
  · cases e
theorem sim_eq : SimO T rEq oEq := simO_pure fun F I H A m x y d1 d2 d b hx hy e Q q => by
  cases d1 with
  | ref k => cases e
  | d d1 =>
    cases d2 with
    | ref k => cases e
    | d d2 =>
      cases ef : eqF d1 d2 with
      | none => simp [oEq, ef] at e
      | some k =>
        simp [oEq, ef] at e
        subst e
        obtain ⟨h1, h2⟩ := eqF_ok hx.dat hy.dat ef
        exact ⟨h1, by rw [h2]; exact q _ (.d (.bl _))⟩
theorem sim_ne : SimO T rNe oNe := simO_pure fun F I H A m x y d1 d2 d b hx hy e Q q => by
  cases d1 with
  | ref k => cases e
  | d d1 =>
    cases d2 with
    | ref k => cases e
    | d d2 =>
      cases ef : eqF d1 d2 with
      | none => simp [oNe, ef] at e
      | some k =>
        simp [oNe, ef] at e
        subst e
        obtain ⟨h1, h2⟩ := eqF_ok hx.dat hy.dat ef
        exact ⟨h1, by rw [h2]; exact q _ (.d (.bl _))⟩
/-! ### texts -/
def oCatS : O2 := fun _ x y => match x, y with
  | .d (.str a), .d (.str b) => if szOk (a.length + b.length) then some (.d (.str (a ++ b))) else none
  | _, _ => none
theorem sim_catS : SimO T NK.rCatStr oCatS := simO_pure fun F I H A m x y d1 d2 d b hx hy e Q q => by
  unfold oCatS at e
  split at e
  · rename_i a b
    by_cases h : szOk (a.length + b.length) = true
    · rw [if_pos h] at e
      cases e
      cases hx.dat; cases hy.dat
      exact ⟨_, _, rfl, rfl, szOk_line h, q _ (.d (.str _))⟩
    · rw [if_neg h] at e; cases e
  · cases e
def oIxS : O2 := fun _ x y => match x, y with
  | .d (.str z), .d (.int i) => if szOk z.length then (atI z.cps.toList i).map fun c => .d (.str ⟨#[c]⟩) else none
  | _, _ => none
theorem sim_ixS : SimO T rIxS oIxS := simO_pure fun F I H A m x y d1 d2 d b hx hy e Q q => by
  unfold oIxS at e
  split at e
  · rename_i z i
    by_cases h : szOk z.length = true
    · rw [if_pos h] at e
      cases hx.dat; cases hy.dat
      cases ea : atI z.cps.toList i with
      | none => rw [ea] at e; cases e
      | some c =>
        rw [ea] at e
        cases e
        exact ⟨z, i, c, rfl, rfl, szOk_line h, ea, q _ (.d (.str _))⟩
    · rw [if_neg h] at e; cases e
  · cases e
def oInS (neg : Bool) : O2 := fun _ x y => match x, y with
  | .d (.str a), .d (.str z) => match a.cps.toList with
    | [c] => some (.d (.bl (neg != decide (c ∈ z.cps.toList))))
    | _ => none
  | _, _ => none
theorem sign_of {a : Str} {c : Nat} (h : a.cps.toList = [c]) : a = ⟨#[c]⟩ := by
  obtain ⟨cps⟩ := a
  have : cps = #[c] := by
    apply Array.ext'
    exact h
  rw [this]
theorem sim_inS : SimO T NK.rInSign (oInS false) := simO_pure fun F I H A m x y d1 d2 d b hx hy e Q q => by
  unfold oInS at e
  split at e
  · rename_i a z
    split at e
    · rename_i c hc
      cases e
      cases hx.dat; cases hy.dat
      exact ⟨c, z, by rw [sign_of hc], rfl, by rw [Bool.false_bne] at q; exact q _ (.d (.bl _))⟩
    · cases e
  · cases e
theorem sim_notInS : SimO T NK.rNotInSign (oInS true) := simO_pure fun F I H A m x y d1 d2 d b hx hy e Q q => by
  unfold oInS at e
  split at e
  · rename_i a z
    split at e
    · rename_i c hc
      cases e
      cases hx.dat; cases hy.dat
      exact ⟨c, z, by rw [sign_of hc], rfl, by rw [Bool.true_bne] at q; exact q _ (.d (.bl _))⟩
    · cases e
  · cases e
/-! ### lists and tuples, read -/
/-- the items of a list: data, or a cell -/
def lstOf (m : Cells) : Vl → Option (List Dt)
  | .d (.lst ds) => some ds
  | .d (.scr ds) => some ds
  | .ref k => match m[k]? with
    | some (some (.lst ds)) => some ds
    | _ => none
  | _ => none
def tupOf : Vl → Option (List Dt)
  | .d (.tup ds) => some ds
  | _ => none
theorem lstOf_ok {F : Frm} {I H : Hp} {A : List Addr} {m : Cells} {x : V} {v : Vl} {ds : List Dt} (b : Base T F I H A m) (hx : VR T I A x v) (e : lstOf m v = some ds) : ∃ a vs, x = .ref a ∧ SqL T.K H a vs ∧ DRs T I vs ds := by
  cases v with
  | ref k =>
    obtain ⟨a, rfl, ha⟩ := hx.cel
    simp only [lstOf] at e
    split at e
    · rename_i ds' hm
      cases e
      obtain ⟨vs, h1, h2⟩ := b.ok _ _ a hm ha
      exact ⟨a, vs, rfl, .inl (.inl h1), h2⟩
    · cases e
  | d d =>
    cases d with
    | lst ds' =>
      cases e
      cases hx.dat with
      | lst h1 h2 => exact ⟨_, _, rfl, .inl (.inl (b.sub _ _ h1)), h2⟩
    | scr ds' =>
      cases e
      cases hx.dat with
      | scr h1 h2 => exact ⟨_, _, rfl, same_l b.sub h1, h2⟩
    | _ => cases e
theorem tupOf_ok {F : Frm} {I H : Hp} {A : List Addr} {m : Cells} {x : V} {v : Vl} {ds : List Dt} (b : Base T F I H A m) (hx : VR T I A x v) (e : tupOf v = some ds) : ∃ a vs, x = .ref a ∧ SqT T.K H a vs ∧ DRs T I vs ds := by
  cases v with
  | ref k => cases e
  | d d =>
    cases d with
    | tup ds' =>
      cases e
      cases hx.dat with
      | tup h1 h2 => exact ⟨_, _, rfl, same_t b.sub h1, h2⟩
    | _ => cases e
theorem atI_dr {I : Hp} {vs : List V} {ds : List Dt} {i : Int} {d : Dt} (h : DRs T I vs ds) (e : atI ds i = some d) : ∃ v, atI vs i = some v ∧ DR T I v d := by
  unfold atI at e ⊢
  rw [h.len]
  cases q : ixN ds.length i with
  | none => rw [q] at e; cases e
  | some j =>
    rw [q, Option.bind_some] at e
    rw [Option.bind_some]
    exact h.get e
def oIxL : O2 := fun m x y => match lstOf m x, y with
  | some ds, .d (.int i) => (atI ds i).map Vl.d
  | _, _ => none
def oIxT : O2 := fun _ x y => match tupOf x, y with
  | some ds, .d (.int i) => (atI ds i).map Vl.d
  | _, _ => none
theorem sim_ixL : SimO T (rIxL T.K) oIxL := simO_pure fun F I H A m x y d1 d2 d b hx hy e Q q => by
  unfold oIxL at e
  split at e
  · rename_i ds i h
    obtain ⟨a, vs, rfl, h1, h2⟩ := lstOf_ok b hx h
    cases hy.dat
    cases ea : atI ds i with
    | none => rw [ea] at e; cases e
    | some c =>
      rw [ea] at e
      cases e
      obtain ⟨v, hv, hd⟩ := atI_dr h2 ea
      exact ⟨a, vs, i, v, rfl, rfl, h1, hv, q _ (.d hd)⟩
  · cases e
theorem sim_ixT : SimO T (rIxT T.K) oIxT := simO_pure fun F I H A m x y d1 d2 d b hx hy e Q q => by
  unfold oIxT at e
  split at e
  · rename_i ds i h
    obtain ⟨a, vs, rfl, h1, h2⟩ := tupOf_ok b hx h
    cases hy.dat
    cases ea : atI ds i with
    | none => rw [ea] at e; cases e
    | some c =>
      rw [ea] at e
      cases e
      obtain ⟨v, hv, hd⟩ := atI_dr h2 ea
      exact ⟨a, vs, i, v, rfl, rfl, h1, hv, q _ (.d hd)⟩
  · cases e
def oCatL : O2 := fun m x y => match lstOf m x, lstOf m y with
  | some a, some b => if szOk (a.length + b.length) then some (.d (.lst (a ++ b))) else none
  | _, _ => none
theorem sim_catL : SimO T (NK.rCatL T.K) oCatL := fun F I H A m x y d1 d2 d b hx hy e Q q => by
  unfold oCatL at e
  split at e
  · rename_i as bs h1 h2
    by_cases h : szOk (as.length + bs.length) = true
    · rw [if_pos h] at e
      cases e
      obtain ⟨p, vs, rfl, p1, p2⟩ := lstOf_ok b hx h1
      obtain ⟨p', vs', rfl, p1', p2'⟩ := lstOf_ok b hy h2
      refine ⟨p, p', vs, vs', rfl, rfl, p1, p1', by rw [p2.len, p2'.len]; exact szOk_line h, fun l hl => ?_⟩
      obtain ⟨b', e⟩ := b.new (o := .lst (vs ++ vs')) hl
      exact q _ _ _ b' e.i (.d (.lst upd_same ((p2.app p2').mono e.i)))
    · rw [if_neg h] at e; cases e
  · cases e
def flatD : Dt → Option V
  | .non => some .non | .bl b => some (.bl b) | .int i => some (.int i) | .str x => some (.str x)
  | _ => none
theorem flatD_ok {I : Hp} {v x : V} {d : Dt} (h : flatD d = some x) (r : DR T I v d) : v = x ∧ flatV v = true := by
  cases r <;> simp [flatD] at h <;> subst h <;> exact ⟨rfl, rfl⟩
def flatsD : List Dt → Option (List V)
  | [] => some []
  | d :: r => match flatD d, flatsD r with
    | some v, some vs => some (v :: vs)
    | _, _ => none
theorem flatsD_ok {I : Hp} : ∀ {ds : List Dt} {vs xs : List V}, flatsD ds = some xs → DRs T I vs ds → vs = xs ∧ vs.all flatV = true
  | [], _, _, h, r => by cases h; cases r; exact ⟨rfl, rfl⟩
  | d :: ds, _, _, h, r => by
    cases r with
    | cons a t =>
      unfold flatsD at h
      split at h
      · rename_i v vs h1 h2
        cases h
        obtain ⟨e1, e2⟩ := flatD_ok h1 a
        obtain ⟨e3, e4⟩ := flatsD_ok h2 t
        subst e1 e3
        exact ⟨rfl, by rw [List.all_cons, e2, e4]; rfl⟩
      · cases h
/-- x in a list or tuple of flat things -/
def oIn (neg : Bool) : O2 := fun m x y => match x, (lstOf m y).or (tupOf y) with
  | .d x, some ys => match flatD x, flatsD ys with
    | some v, some vs => some (.d (.bl (if neg then !inV v vs else inV v vs)))
    | _, _ => none
  | _, _ => none
theorem sim_in {neg : Bool} : SimO T (rIn T.K neg) (oIn neg) := simO_pure fun F I H A m x y d1 d2 d b hx hy e Q q => by
  unfold oIn at e
  split at e
  · rename_i x' ys h
    split at e
    · rename_i v vs h1 h2
      cases e
      obtain ⟨e1, f1⟩ := flatD_ok h1 hx.dat
      subst e1
      cases hl : lstOf m d2 with
      | some ds =>
        rw [hl] at h
        cases h
        obtain ⟨p, us, rfl, p1, p2⟩ := lstOf_ok b hy hl
        obtain ⟨e2, f2⟩ := flatsD_ok h2 p2
        subst e2
        exact ⟨p, us, rfl, .inl p1, f1, f2, q _ (.d (.bl _))⟩
      | none =>
        rw [hl] at h
        obtain ⟨p, us, rfl, p1, p2⟩ := tupOf_ok b hy h
        obtain ⟨e2, f2⟩ := flatsD_ok h2 p2
        subst e2
        exact ⟨p, us, rfl, .inr p1, f1, f2, q _ (.d (.bl _))⟩
    · cases e
  · cases e
/-! ### built-ins -/
theorem simN_pure {r : List V → Hp → VK → Prop} {f : ON} (h : ∀ (F : Frm) (I H : Hp) (A : List Addr) (m : Cells) (ws : List V) (ds : List Vl) (d : Vl), Base T F I H A m → VRs T I A ws ds → f m ds = some d → ∀ Q : VK, (∀ v, VR T I A v d → Q v H) → r ws H Q) : SimN T r f :=
  fun F I H A m ws ds d b hv e Q q => h F I H A m ws ds d b hv e Q fun v hv => q v H I b (Same.refl I) hv
theorem VRs.one_inv {I : Hp} {A : List Addr} {ws : List V} {d : Vl} (h : VRs T I A ws [d]) : ∃ w, ws = [w] ∧ VR T I A w d := by
  cases h with | cons a t => cases t; exact ⟨_, rfl, a⟩
theorem VRs.two_inv {I : Hp} {A : List Addr} {ws : List V} {d e : Vl} (h : VRs T I A ws [d, e]) : ∃ w x, ws = [w, x] ∧ VR T I A w d ∧ VR T I A x e := by
  cases h with | cons a t => cases t with | cons b t => cases t; exact ⟨_, _, rfl, a, b⟩
def nLen : ON := fun m xs => match xs with
  | [x] => ((lstOf m x).or (tupOf x)).map fun ds => .d (.int (ds.length : Nat))
  | _ => none
theorem sim_len : SimN T (NK.rLenSeq T.K) nLen := simN_pure fun F I H A m ws ds d b hv e Q q => by
  unfold nLen at e
  split at e
  · rename_i x
    obtain ⟨w, rfl, hw⟩ := hv.one_inv
    cases hl : lstOf m x with
    | some ds =>
      rw [hl] at e; cases e
      obtain ⟨p, us, rfl, p1, p2⟩ := lstOf_ok b hw hl
      exact ⟨p, us, rfl, .inl p1, by rw [p2.len]; exact q _ (.d (.int _))⟩
    | none =>
      rw [hl] at e
      cases ht : tupOf x with
      | none => rw [ht] at e; cases e
      | some ds =>
        rw [ht] at e; cases e
        obtain ⟨p, us, rfl, p1, p2⟩ := tupOf_ok b hw ht
        exact ⟨p, us, rfl, .inr p1, by rw [p2.len]; exact q _ (.d (.int _))⟩
  · cases e
def nLenS : ON := fun _ xs => match xs with
  | [.d (.str z)] => if szOk z.length then some (.d (.int (z.length : Nat))) else none
  | _ => none
theorem sim_lenS : SimN T NK.rLenStr nLenS := simN_pure fun F I H A m ws ds d b hv e Q q => by
  unfold nLenS at e
  split at e
  · rename_i z
    by_cases h : szOk z.length = true
    · rw [if_pos h] at e; cases e
      obtain ⟨w, rfl, hw⟩ := hv.one_inv
      cases hw.dat
      exact ⟨z, rfl, szOk_line h, q _ (.d (.int _))⟩
    · rw [if_neg h] at e; cases e
  · cases e
def nAbs : ON := fun _ xs => match xs with
  | [.d (.int i)] => some (.d (.int (if i < 0 then -i else i)))
  | _ => none
theorem sim_abs : SimN T NK.rAbs nAbs := simN_pure fun F I H A m ws ds d b hv e Q q => by
  unfold nAbs at e
  split at e
  · cases e
    obtain ⟨w, rfl, hw⟩ := hv.one_inv
    cases hw.dat
    exact ⟨_, rfl, q _ (.d (.int _))⟩
  · cases e
def nInt : ON := fun _ xs => match xs with
  | [.d (.int i)] => some (.d (.int i))
  | [.d (.bl b)] => some (.d (.int (if b then 1 else 0)))
  | _ => none
theorem sim_int : SimN T NK.rInt1 nInt := simN_pure fun F I H A m ws ds d b hv e Q q => by
  unfold nInt at e
  split at e
  · cases e
    obtain ⟨w, rfl, hw⟩ := hv.one_inv
    cases hw.dat
    exact .inl ⟨_, rfl, q _ (.d (.int _))⟩
  · cases e
    obtain ⟨w, rfl, hw⟩ := hv.one_inv
    cases hw.dat
    exact .inr ⟨_, rfl, q _ (.d (.int _))⟩
  · cases e
def nStr : ON := fun _ xs => match xs with
  | [.d (.int i)] => if i.natAbs.log2 < 1920 then some (.d (.str (toString i))) else none
  | _ => none
theorem sim_str : SimN T NK.rStrInt nStr := simN_pure fun F I H A m ws ds d b hv e Q q => by
  unfold nStr at e
  split at e
  · rename_i i
    by_cases h : i.natAbs.log2 < 1920
    · rw [if_pos h] at e; cases e
      obtain ⟨w, rfl, hw⟩ := hv.one_inv
      cases hw.dat
      exact ⟨_, rfl, h, q _ (.d (.str _))⟩
    · rw [if_neg h] at e; cases e
  · cases e
/-- list(x): a new list -/
def lList : OL := fun m xs => match xs with
  | [x] => (lstOf m x).or (tupOf x)
  | _ => none
theorem sim_list : SimL T (NK.rListOf T.K) lList := fun F I H A m ws ds es b hv e Q q => by
  unfold lList at e
  split at e
  · rename_i x
    obtain ⟨w, rfl, hw⟩ := hv.one_inv
    cases hl : lstOf m x with
    | some ds =>
      rw [hl] at e; cases e
      obtain ⟨p, us, rfl, p1, p2⟩ := lstOf_ok b hw hl
      exact ⟨p, us, rfl, .inl p1, fun l h => q l us h p2⟩
    | none =>
      rw [hl] at e
      obtain ⟨p, us, rfl, p1, p2⟩ := tupOf_ok b hw e
      exact ⟨p, us, rfl, .inr p1, fun l h => q l us h p2⟩
  · cases e
/-- tuple(x) -/
def nTup : ON := fun m xs => match xs with
  | [x] => ((lstOf m x).or (tupOf x)).map fun ds => .d (.tup ds)
  | _ => none
theorem sim_tup : SimN T (NK.rTupOf T.K) nTup := fun F I H A m ws ds d b hv e Q q => by
  unfold nTup at e
  split at e
  · rename_i x
    obtain ⟨w, rfl, hw⟩ := hv.one_inv
    cases hl : lstOf m x with
    | some ds =>
      rw [hl] at e; cases e
      obtain ⟨p, us, rfl, p1, p2⟩ := lstOf_ok b hw hl
      refine ⟨p, us, rfl, .inl ⟨p1, fun l h => ?_⟩⟩
      obtain ⟨b', e⟩ := b.new (o := .tup us) h
      exact q _ _ _ b' e.i (.d (.tup (.inl (.inl upd_same)) (p2.mono e.i)))
    | none =>
      rw [hl] at e
      cases ht : tupOf x with
      | none => rw [ht] at e; cases e
      | some ds =>
        rw [ht] at e; cases e
        cases x with
        | ref k => cases ht
        | d x =>
          cases x with
          | tup ds' =>
            cases ht
            cases hw.dat with
            | tup h1 h2 => exact ⟨_, _, rfl, .inr ⟨same_t b.sub h1, q _ H I b (Same.refl I) (.d (.tup h1 h2))⟩⟩
          | _ => cases ht
  · cases e
end
end FM

namespace FM
open PySem PySem.Spec PyProof.Rows L2
/-! ### what is walked, by arguments -/
def mItA (ma : MA) (f : List Vl → Option (List Dt)) : MI := fun g m => (ma g m).bind fun ds m1 => ofO m1 (f ds)
section
variable {X : Cx} {C : Fc} {e : Expr} {ma : MA} {me mb mc : ME}
theorem ita_ok {f : List Vl → Option (List Dt)} {Q' : List V → Hp → Prop} {σ : L2.St} {H : Hp} {R : It → Hp → Prop} (h : FI C (mItA ma f) σ H R)
    (hq : ∀ B g S vs ws ds xs m1 H1 I1 A1, Rel C.T C.x B g S m1 σ vs H1 I1 A1 → VRs C.T I1 A1 ws ds → f ds = some xs → (∀ J H' I' A', Rel C.T C.x B g S m1 σ vs H' I' A' → (∀ F, ItD C.T C.x ⟨F, I', A'⟩ J xs) → R J H') → Q' ws H1) : FA C ma σ H Q' := by
  obtain ⟨B, g, S, m, vs, I, A, r, w⟩ := h
  refine ⟨B, g, S, m, vs, I, A, r, ?_⟩
  unfold mItA at w
  cases ea : ma g m with
  | bad => rw [ea] at w; exact w.elim
  | ex c fs m' => rw [ea] at w; exact w
  | ok ds m1 =>
    rw [ea] at w
    intro ws H1 I1 A1 hl r1
    obtain ⟨q1, q2⟩ := r1.stk.split hl
    have w1 : WantI C B g S σ vs R (ofO m1 (f ds)) := w
    cases ef : f ds with
    | none => rw [ef] at w1; exact w1.elim
    | some xs => rw [ef] at w1; exact hq B g S vs ws ds xs m1 H1 I1 A1 { r1 with stk := q2 } q1 ef w1
def rangeD (lo : Int) (n : Nat) : List Dt := (List.range n).map fun i => .int (lo + (i : Nat))
theorem rangeD_len (lo : Int) (n : Nat) : (rangeD lo n).length = n := by unfold rangeD; rw [List.length_map, List.length_range]
theorem rangeD_get {lo : Int} {n i : Nat} {d : Dt} (h : (rangeD lo n)[i]? = some d) : i < n ∧ d = .int (lo + (i : Nat)) := by
  unfold rangeD at h
  rw [List.getElem?_map] at h
  cases q : (List.range n)[i]? with
  | none => rw [q] at h; cases h
  | some k =>
    rw [q] at h
    obtain ⟨hl, e⟩ := List.getElem?_eq_some_iff.mp q
    rw [List.length_range] at hl
    rw [List.getElem_range] at e
    subst e
    exact ⟨hl, (Option.some.inj h).symm⟩
theorem itr_itd {T : Tab} {x : Option Xc} {B : Bs} {lo : Int} {n : Nat} : ItD T x B (Itr lo n) (rangeD lo n) where
  go := fun i g S m σ vs H I A hi _ => by rw [rangeD_len] at hi; exact hi
  yl := fun i g S m σ vs H I A v H' d hx r hy => by
    obtain ⟨e1, e2⟩ := hy
    subst e1 e2
    rw [(rangeD_get hx).2]
    exact ⟨I, r.push (.d (.int _))⟩
  st := fun i g S m σ vs H I A hi _ => by rw [rangeD_len] at hi; exact hi
def okR (i : Int) : Bool := decide (-(2 ^ 62) ≤ i ∧ i < 2 ^ 62)
def isRng1 : List Vl → Option (List Dt)
  | [.d (.int n)] => if okR n then some (rangeD 0 n.toNat) else none
  | _ => none
def isRng2 : List Vl → Option (List Dt)
  | [.d (.int lo), .d (.int n)] => if okR lo && okR n then some (rangeD lo (n - lo).toNat) else none
  | _ => none
theorem fi_rng1 {tg it : Expr} (h : PI X tg it (iRng1 (FA C ma))) : PI X tg it (FI C (mItA ma isRng1)) := pi_of h fun σ H R q => ita_ok q fun B g S vs ws ds xs m1 H1 I1 A1 r hv ef w => by
  unfold isRng1 at ef
  split at ef
  · rename_i n
    by_cases h : okR n = true
    · rw [if_pos h] at ef
      cases ef
      obtain ⟨v, rfl, hw⟩ := hv.one_inv
      cases hw.dat
      have h2 := of_decide_eq_true h
      exact ⟨n, rfl, h2.1, h2.2, w _ H1 I1 A1 r fun F => itr_itd⟩
    · rw [if_neg h] at ef; cases ef
  · cases ef
theorem fi_rng2 {tg it : Expr} (h : PI X tg it (iRng2 (FA C ma))) : PI X tg it (FI C (mItA ma isRng2)) := pi_of h fun σ H R q => ita_ok q fun B g S vs ws ds xs m1 H1 I1 A1 r hv ef w => by
  unfold isRng2 at ef
  split at ef
  · rename_i lo n
    by_cases h : (okR lo && okR n) = true
    · rw [if_pos h] at ef
      cases ef
      obtain ⟨v, u, rfl, hw, hu⟩ := hv.two_inv
      cases hw.dat; cases hu.dat
      obtain ⟨h1, h2⟩ := Bool.and_eq_true_iff.mp h
      have k1 := of_decide_eq_true h1
      have k2 := of_decide_eq_true h2
      exact ⟨lo, n, rfl, ⟨k1.1, k1.2, k2.1, k2.2⟩, w _ H1 I1 A1 r fun F => itr_itd⟩
    · rw [if_neg h] at ef; cases ef
  · cases ef
def enumD (ds : List Dt) : List Dt := (ds.zipIdx).map fun p => .tup [.int (p.2 : Nat), p.1]
theorem enumD_len (ds : List Dt) : (enumD ds).length = ds.length := by unfold enumD; rw [List.length_map, List.length_zipIdx]
theorem enumD_get {ds : List Dt} {i : Nat} {d : Dt} (h : (enumD ds)[i]? = some d) : ∃ x, ds[i]? = some x ∧ d = .tup [.int (i : Nat), x] := by
  unfold enumD at h
  rw [List.getElem?_map, List.getElem?_zipIdx] at h
  cases q : ds[i]? with
  | none => rw [q] at h; cases h
  | some k =>
    rw [q] at h
    refine ⟨k, rfl, ?_⟩
    have e := (Option.some.inj h).symm
    rw [Nat.zero_add] at e
    exact e
def isEnum : List Vl → Option (List Dt)
  | [x] => (isLst x).map enumD
  | _ => none
theorem isLst_ok {T : Tab} {I : Hp} {A : List Addr} {v : V} {x : Vl} {ds : List Dt} (h : VR T I A v x) (e : isLst x = some ds) : ∃ a vs, v = .ref a ∧ SqL T.K I a vs ∧ DRs T I vs ds := by
  cases x with
  | ref k => cases e
  | d d =>
    cases d with
    | lst ds' =>
      cases e
      cases h.dat with
      | lst h1 h2 => exact ⟨_, _, rfl, .inl (.inl h1), h2⟩
    | scr ds' =>
      cases e
      cases h.dat with
      | scr h1 h2 => exact ⟨_, _, rfl, h1, h2⟩
    | _ => cases e
theorem isTup_ok {T : Tab} {I : Hp} {A : List Addr} {v : V} {x : Vl} {ds : List Dt} (h : VR T I A v x) (e : isTup x = some ds) : ∃ a vs, v = .ref a ∧ SqT T.K I a vs ∧ DRs T I vs ds := by
  cases x with
  | ref k => cases e
  | d d =>
    cases d with
    | tup ds' =>
      cases e
      cases h.dat with
      | tup h1 h2 => exact ⟨_, _, rfl, h1, h2⟩
    | _ => cases e
theorem fi_enum {tg it : Expr} (h : PI X tg it (iEnum C.T.K (FA C ma))) : PI X tg it (FI C (mItA ma isEnum)) := pi_of h fun σ H R q => ita_ok q fun B g S vs ws ds xs m1 H1 I1 A1 r hv ef w => by
  unfold isEnum at ef
  split at ef
  · rename_i x
    cases el : isLst x with
    | none => rw [el] at ef; cases ef
    | some es =>
      rw [el] at ef
      cases ef
      obtain ⟨v, rfl, hw⟩ := hv.one_inv
      obtain ⟨a, us, rfl, hl, hs⟩ := isLst_ok hw el
      refine ⟨a, us, rfl, same_l r.sub hl, w _ H1 I1 A1 r fun F => ⟨fun i g S m σ vs H I A hi r' => ?_, fun i g S m σ vs H I A x H' d hx r' hy => ?_, fun i g S m σ vs H I A hi r' => ⟨us, same_l (r'.up.i.trans r'.sub) hl, by rw [hs.len, ← enumD_len]; exact hi⟩⟩⟩
      · have hi' : i < us.length := by rw [hs.len, ← enumD_len]; exact hi
        exact ⟨us, _, same_l (r'.up.i.trans r'.sub) hl, List.getElem?_eq_getElem hi'⟩
      · obtain ⟨T, y, rfl, nT, rfl, f1⟩ := hy
        obtain ⟨dx, hdx, rfl⟩ := enumD_get hx
        obtain ⟨v, hv, hr⟩ := hs.get hdx
        have e3 := f1 _ (same_l (r'.up.i.trans r'.sub) hl)
        rw [hv] at e3
        have e4 := Option.some.inj e3
        subst e4
        obtain ⟨b, e⟩ := r'.base.new (o := .tup [.int (i : Nat), v]) nT
        exact ⟨_, (r'.step b e).push (.d (.tup (.inl (.inl upd_same)) (.cons (.int _) (.cons (hr.mono (r'.up.i.trans e.i)) .nil))))⟩
  · cases ef
def zipD (xs ys : List Dt) : List Dt := (xs.zip ys).map fun p => .tup [p.1, p.2]
theorem zipD_len (xs ys : List Dt) : (zipD xs ys).length = min xs.length ys.length := by unfold zipD; rw [List.length_map, List.length_zip]
theorem zipD_get {xs ys : List Dt} {i : Nat} {d : Dt} (h : (zipD xs ys)[i]? = some d) : ∃ x y, xs[i]? = some x ∧ ys[i]? = some y ∧ d = .tup [x, y] := by
  unfold zipD at h
  rw [List.getElem?_map] at h
  cases q : (xs.zip ys)[i]? with
  | none => rw [q] at h; cases h
  | some p =>
    rw [q] at h
    obtain ⟨a, b⟩ := p
    have := List.getElem?_zip_eq_some.mp q
    exact ⟨a, b, this.1, this.2, (Option.some.inj h).symm⟩
def isZip : List Vl → Option (List Dt)
  | [x, y] => match isLst x, isLst y with
    | some a, some b => some (zipD a b)
    | _, _ => match isTup x, isTup y with
      | some a, some b => some (zipD a b)
      | _, _ => none
  | _ => none
theorem fi_zip {tg it : Expr} (h : PI X tg it (RZ.iZipA C.T.K (FA C ma))) : PI X tg it (FI C (mItA ma isZip)) := pi_of h fun σ H R q => ita_ok q fun B g S vs ws ds xs m1 H1 I1 A1 r hv ef w => by
  unfold isZip at ef
  split at ef
  · rename_i x y
    obtain ⟨v, u, rfl, hw, hu⟩ := hv.two_inv
    split at ef
    · rename_i as bs e1 e2
      cases ef
      obtain ⟨a, us, rfl, hl, hs⟩ := isLst_ok hw e1
      obtain ⟨b, us2, rfl, hl2, hs2⟩ := isLst_ok hu e2
      refine ⟨a, b, us, us2, rfl, .inl ⟨same_l r.sub hl, same_l r.sub hl2, w _ H1 I1 A1 r fun F => ⟨fun i g S m σ vs H I A hi r' => ?_, fun i g S m σ vs H I A x H' d hx r' hy => ?_, fun i g S m σ vs H I A hi r' => ⟨us, us2, same_l (r'.up.i.trans r'.sub) hl, same_l (r'.up.i.trans r'.sub) hl2, ?_⟩⟩⟩⟩
      · rw [zipD_len] at hi
        have h1 : i < us.length := by rw [hs.len]; omega
        have h2 : i < us2.length := by rw [hs2.len]; omega
        exact ⟨us, us2, _, _, same_l (r'.up.i.trans r'.sub) hl, same_l (r'.up.i.trans r'.sub) hl2, List.getElem?_eq_getElem h1, List.getElem?_eq_getElem h2⟩
      · obtain ⟨T, u, v, rfl, nT, rfl, f1, f2⟩ := hy
        obtain ⟨dx, dy, hdx, hdy, rfl⟩ := zipD_get hx
        obtain ⟨v1, hv1, hr1⟩ := hs.get hdx
        obtain ⟨v2, hv2, hr2⟩ := hs2.get hdy
        have e3 := f1 _ (same_l (r'.up.i.trans r'.sub) hl)
        have e4 := f2 _ (same_l (r'.up.i.trans r'.sub) hl2)
        rw [hv1] at e3
        rw [hv2] at e4
        cases e3
        cases e4
        obtain ⟨b', e⟩ := r'.base.new (o := .tup [u, v]) nT
        exact ⟨_, (r'.step b' e).push (.d (.tup (.inl (.inl upd_same)) (.cons (hr1.mono (r'.up.i.trans e.i)) (.cons (hr2.mono (r'.up.i.trans e.i)) .nil))))⟩
      · rw [zipD_len] at hi
        rw [hs.len, hs2.len]
        omega
    · split at ef
      · rename_i as bs e1 e2
        cases ef
        obtain ⟨a, us, rfl, hl, hs⟩ := isTup_ok hw e1
        obtain ⟨b, us2, rfl, hl2, hs2⟩ := isTup_ok hu e2
        refine ⟨a, b, us, us2, rfl, .inr ⟨same_t r.sub hl, same_t r.sub hl2, w _ H1 I1 A1 r fun F => ⟨fun i g S m σ vs H I A hi r' => ?_, fun i g S m σ vs H I A x H' d hx r' hy => ?_, fun i g S m σ vs H I A hi r' => ⟨us, us2, same_t (r'.up.i.trans r'.sub) hl, same_t (r'.up.i.trans r'.sub) hl2, ?_⟩⟩⟩⟩
        · rw [zipD_len] at hi
          have h1 : i < us.length := by rw [hs.len]; omega
          have h2 : i < us2.length := by rw [hs2.len]; omega
          exact ⟨us, us2, _, _, same_t (r'.up.i.trans r'.sub) hl, same_t (r'.up.i.trans r'.sub) hl2, List.getElem?_eq_getElem h1, List.getElem?_eq_getElem h2⟩
        · obtain ⟨T, u, v, rfl, nT, rfl, f1, f2⟩ := hy
          obtain ⟨dx, dy, hdx, hdy, rfl⟩ := zipD_get hx
          obtain ⟨v1, hv1, hr1⟩ := hs.get hdx
          obtain ⟨v2, hv2, hr2⟩ := hs2.get hdy
          have e3 := f1 _ (same_t (r'.up.i.trans r'.sub) hl)
          have e4 := f2 _ (same_t (r'.up.i.trans r'.sub) hl2)
          rw [hv1] at e3
          rw [hv2] at e4
          cases e3
          cases e4
          obtain ⟨b', e⟩ := r'.base.new (o := .tup [u, v]) nT
          exact ⟨_, (r'.step b' e).push (.d (.tup (.inl (.inl upd_same)) (.cons (hr1.mono (r'.up.i.trans e.i)) (.cons (hr2.mono (r'.up.i.trans e.i)) .nil))))⟩
        · rw [zipD_len] at hi
          rw [hs.len, hs2.len]
          omega
      · cases ef
  · cases ef
/-! ### slices -/
abbrev MO := Gam → Cells → Rs (Option Int)
def WantO (C : Fc) (B : Bs) (g : Gam) (S : List Vl) (σ : L2.St) (vs : List V) (Q : Option Int → Hp → Prop) : Rs (Option Int) → Prop
  | .ok o m' => ∀ H' I' A', Rel C.T C.x B g S m' σ vs H' I' A' → Q o H'
  | .ex c fs m' => WantX C B S vs c fs g m'
  | .bad => False
def FO (C : Fc) (mo : MO) : TO := fun σ H Q => ∃ B g S m vs I A, Rel C.T C.x B g S m σ vs H I A ∧ WantO C B g S σ vs Q (mo g m)
def mNoP : MO := fun _ m => .ok none m
def mPart (me : ME) : MO := fun g m => (me g m).bind fun v m1 => match v with
  | .d (.int i) => .ok (some i) m1
  | _ => .bad
theorem po_of {o : Option Expr} {t t' : TO} (h : PO X o t) (k : ∀ σ H Q, t' σ H Q → t σ H Q) : PO X o t' := ⟨fun pins s σ H Q I q => h.run pins s σ H Q I (k σ H Q q)⟩
theorem fo_none {o : Option Expr} (h : PO X o tNoPart) : PO X o (FO C mNoP) := po_of h fun σ H Q ⟨B, g, S, m, vs, I, A, r, w⟩ => w H I A r
theorem fo_some {o : Option Expr} (h : PO X o (tPart (FE C me))) : PO X o (FO C (mPart me)) := po_of h fun σ H Q ⟨B, g, S, m, vs, I, A, r, w⟩ => by
  refine ⟨B, g, S, m, vs, I, A, r, ?_⟩
  unfold mPart at w
  cases ea : me g m with
  | bad => rw [ea] at w; exact w.elim
  | ex c fs m' => rw [ea] at w; exact w
  | ok d m1 =>
    rw [ea] at w
    intro v H1 I1 A1 r1
    cases d with
    | ref k => exact (show False from w).elim
    | d d =>
      cases d with
      | int i =>
        cases r1.top.dat
        exact ⟨i, rfl, w H1 I1 A1 r1.pop1⟩
      | _ => exact (show False from w).elim
def cutL {α : Type} (xs : List α) (lo hi : Option Int) : List α := (xs.drop (HT.sIx xs.length 0 lo)).take (HT.sIx xs.length xs.length hi - HT.sIx xs.length 0 lo)
theorem cut_dr {T : Tab} {I : Hp} {vs : List V} {ds : List Dt} (h : DRs T I vs ds) (lo hi : Option Int) : DRs T I (cutV vs lo hi) (cutL ds lo hi) := by
  unfold cutV cutL
  rw [h.len]
  exact (h.drop _).take _
abbrev OS := Cells → Vl → Option Int → Option Int → Option Vl
def mSl (f : OS) (me : ME) (ml mh : MO) : ME := fun g m => (me g m).bind fun x m1 => (ml g m1).bind fun lo m2 => (mh g m2).bind fun hi m3 => ofO m3 (f m3 x lo hi)
def SimS (T : Tab) (r : V → Option Int → Option Int → Hp → VK → Prop) (f : OS) : Prop := ∀ (F : Frm) (I H : Hp) (A : List Addr) (m : Cells) (x : V) (d1 d : Vl) (lo hi : Option Int), Base T F I H A m → VR T I A x d1 → f m d1 lo hi = some d → ∀ Q : VK, (∀ v H' I', Base T F I' H' A m → Same I I' → VR T I' A v d → Q v H') → r x lo hi H Q
theorem fe_sl {r : V → Option Int → Option Int → Hp → VK → Prop} {f : OS} {ml mh : MO} (h : PE X e (tSl r (FE C me) (FO C ml) (FO C mh))) (s : SimS C.T r f) : PE X e (FE C (mSl f me ml mh)) := pe_of h fun σ H Q ⟨B, g, S, m, vs, I, A, rl, w⟩ =>
  one_ok rl w fun x dx m1 H1 I1 A1 r1 w1 => by
    refine ⟨B, g, dx :: S, m1, x :: vs, I1, A1, r1, ?_⟩
    cases ea : ml g m1 with
    | bad => rw [ea] at w1; exact w1.elim
    | ex c fs m' =>
      rw [ea] at w1
      intro σ' H' I' A' dy ws r' h1 h2 h3
      exact w1 σ' H' I' A' dy ws r'.pop1 h1 h2 h3
    | ok lo m2 =>
      rw [ea] at w1
      intro H2 I2 A2 r2
      refine ⟨B, g, dx :: S, m2, x :: vs, I2, A2, r2, ?_⟩
      have w2 : WantE C B g S σ vs Q ((mh g m2).bind fun hi m3 => ofO m3 (f m3 dx lo hi)) := w1
      cases eb : mh g m2 with
      | bad => rw [eb] at w2; exact w2.elim
      | ex c fs m' =>
        rw [eb] at w2
        intro σ' H' I' A' dy ws r' h1 h2 h3
        exact w2 σ' H' I' A' dy ws r'.pop1 h1 h2 h3
      | ok hi m3 =>
        rw [eb] at w2
        intro H3 I3 A3 r3
        have w3 : WantE C B g S σ vs Q (ofO m3 (f m3 dx lo hi)) := w2
        cases ef : f m3 dx lo hi with
        | none => rw [ef] at w3; exact w3.elim
        | some d =>
          rw [ef] at w3
          exact s _ I3 H3 A3 m3 x dx d lo hi r3.base r3.top ef Q fun v H' I' b e hv => w3 v H' I' A3 ((r3.pop1.step b ⟨e, List.prefix_refl _⟩).push hv)
def oSlL : OS := fun m x lo hi => (lstOf m x).map fun ds => .d (.lst (cutL ds lo hi))
theorem sim_slL {T : Tab} : SimS T (rSlL T.K) oSlL := fun F I H A m x d1 d lo hi b hx e Q q => by
  unfold oSlL at e
  cases hl : lstOf m d1 with
  | none => rw [hl] at e; cases e
  | some ds =>
    rw [hl] at e
    cases e
    obtain ⟨a, vs, rfl, h1, h2⟩ := lstOf_ok b hx hl
    refine ⟨a, vs, rfl, h1, fun p hp => ?_⟩
    obtain ⟨b', e⟩ := b.new (o := .lst (cutV vs lo hi)) hp
    exact q _ _ _ b' e.i (.d (.lst upd_same ((cut_dr h2 lo hi).mono e.i)))
def oSlS : OS := fun _ x lo hi => match x with
  | .d (.str z) => if szOk z.length then some (.d (.str (cutS z lo hi))) else none
  | _ => none
theorem sim_slS {T : Tab} : SimS T rSlS oSlS := fun F I H A m x d1 d lo hi b hx e Q q => by
  unfold oSlS at e
  split at e
  · rename_i z
    by_cases h : szOk z.length = true
    · rw [if_pos h] at e; cases e
      cases hx.dat
      exact ⟨z, rfl, szOk_line h, q _ H I b (Same.refl I) (.d (.str _))⟩
    · rw [if_neg h] at e; cases e
  · cases e
def oSlT : OS := fun _ x lo hi => (tupOf x).map fun ds => .d (.tup (cutL ds lo hi))
theorem cutL_all {α : Type} {xs : List α} {lo hi : Option Int} (h : HT.sIx xs.length 0 lo = 0 ∧ HT.sIx xs.length xs.length hi = xs.length) : cutL xs lo hi = xs := by
  unfold cutL
  rw [h.1, h.2]
  simp
theorem sim_slT {T : Tab} : SimS T (rSlA T.K) oSlT := fun F I H A m x d1 d lo hi b hx e Q q => by
  unfold oSlT at e
  cases hl : tupOf d1 with
  | none => rw [hl] at e; cases e
  | some ds =>
    rw [hl] at e
    cases e
    obtain ⟨a, vs, rfl, h1, h2⟩ := tupOf_ok b hx hl
    refine ⟨a, vs, rfl, h1, fun hh => ?_, fun _ p hp => ?_⟩
    · rw [h2.len] at hh
      have q : ∀ (v : V) (H' I' : Hp), Base T F I' H' A m → Same I I' → VR T I' A v (Vl.d (Dt.tup (cutL ds lo hi))) → Q v H' := q
      rw [cutL_all hh] at q
      cases d1 with
      | ref k => cases hl
      | d d1 =>
        cases d1 with
        | tup ds' => cases hl; exact q _ H I b (Same.refl I) hx
        | _ => cases hl
    · obtain ⟨b', e⟩ := b.new (o := .tup (cutV vs lo hi)) hp
      exact q _ _ _ b' e.i (.d (.tup (.inl (.inl upd_same)) ((cut_dr h2 lo hi).mono e.i)))
/-- xs[::-1] -/
def oRev : O1 := fun m x => (lstOf m x).map fun ds => .d (.lst ds.reverse)
theorem fe_rev (h : PE X e (tRevL C.T.K (FE C me))) : PE X e (FE C (mUn oRev me)) :=
  fe_un (r := fun x H1 Q => ∃ a xs, x = .ref a ∧ SqL C.T.K H1 a xs ∧ ∀ p, H1 p = none → Q (.ref p) (upd H1 p (.lst xs.reverse))) h (fun σ H Q q => q) fun F I H A m x d1 d b hx e Q q => by
    unfold oRev at e
    cases hl : lstOf m d1 with
    | none => rw [hl] at e; cases e
    | some ds =>
      rw [hl] at e
      cases e
      obtain ⟨a, vs, rfl, h1, h2⟩ := lstOf_ok b hx hl
      refine ⟨a, vs, rfl, h1, fun p hp => ?_⟩
      obtain ⟨b', e⟩ := b.new (o := .lst vs.reverse) hp
      exact q _ _ _ b' e.i (.d (.lst upd_same (h2.rev.mono e.i)))
/-- tuple + tuple -/
def oCatT : O2 := fun _ x y => match tupOf x, tupOf y with
  | some a, some b => if szOk (a.length + b.length) then some (.d (.tup (a ++ b))) else none
  | _, _ => none
theorem sim_catT {T : Tab} : SimO T (rCatA T.K) oCatT := fun F I H A m x y d1 d2 d b hx hy e Q q => by
  unfold oCatT at e
  split at e
  · rename_i as bs h1 h2
    by_cases h : szOk (as.length + bs.length) = true
    · rw [if_pos h] at e
      cases e
      cases d1 with
      | ref k => cases h1
      | d d1 =>
        cases d1 with
        | tup as' =>
          cases d2 with
          | ref k => cases h2
          | d d2 =>
            cases d2 with
            | tup bs' =>
              cases h1; cases h2
              cases hx.dat with
              | @tup p vs _ p1 p2 =>
                cases hy.dat with
                | @tup p' vs' _ p1' p2' =>
                  refine ⟨p, p', vs, vs', rfl, rfl, same_t b.sub p1, same_t b.sub p1', by rw [p2.len, p2'.len]; exact szOk_line h, fun hn => ?_, fun _ hn => ?_, fun _ _ l hl => ?_⟩
                  · subst hn; cases p2; exact q _ H I b (Same.refl I) (.d (.tup p1' p2'))
                  · subst hn; cases p2'; rw [List.append_nil] at q; exact q _ H I b (Same.refl I) (.d (.tup p1 p2))
                  · obtain ⟨b', e⟩ := b.new (o := .tup (vs ++ vs')) hl
                    exact q _ _ _ b' e.i (.d (.tup (.inl (.inl upd_same)) ((p2.app p2').mono e.i)))
            | _ => cases h2
        | _ => cases h1
    · rw [if_neg h] at e; cases e
  · cases e
/-! ### is None; chains; truth -/
def isNon : Vl → Bool
  | .d .non => true
  | _ => false
def oIsN (neg : Bool) : O2 := fun _ x y => match y with
  | .d .non => some (.d (.bl (neg != isNon x)))
  | _ => none
theorem isNon_ok {T : Tab} {I : Hp} {A : List Addr} {x : V} {d : Vl} (h : VR T I A x d) : decide (x = .non) = isNon d := by
  cases h with
  | ref h => rfl
  | d h => cases h <;> rfl
theorem sim_isN {T : Tab} : SimO T rIsN (oIsN false) := simO_pure fun F I H A m x y d1 d2 d b hx hy e Q q => by
  unfold oIsN at e
  split at e
  · cases e
    cases hy.dat
    exact ⟨rfl, by rw [isNon_ok hx]; rw [Bool.false_bne] at q; exact q _ (.d (.bl _))⟩
  · cases e
theorem sim_notN {T : Tab} : SimO T rNotN (oIsN true) := simO_pure fun F I H A m x y d1 d2 d b hx hy e Q q => by
  unfold oIsN at e
  split at e
  · cases e
    cases hy.dat
    exact ⟨rfl, by rw [isNon_ok hx]; rw [Bool.true_bne] at q; exact q _ (.d (.bl _))⟩
  · cases e
def mChain (f f' : O2) (ma mb mc : ME) : ME := fun g m => (ma g m).bind fun x m1 => (mb g m1).bind fun y m2 => match f m2 x y with
  | some (.d (.bl true)) => (mc g m2).bind fun z m3 => ofO m3 (f' m3 y z)
  | some (.d (.bl false)) => .ok (.d (.bl false)) m2
  | _ => .bad
theorem fe_chain {r r' : R2} {f f' : O2} {ma : ME} (h : PE X e (tChain r r' (FE C ma) (FE C mb) (FE C mc))) (s : SimO C.T r f) (s' : SimO C.T r' f') : PE X e (FE C (mChain f f' ma mb mc)) := pe_of h fun σ H Q ⟨B, g, S, m, vs, I, A, rl, w⟩ =>
  two_ok (k := fun x y m2 => match f m2 x y with
    | some (.d (.bl true)) => (mc g m2).bind fun z m3 => ofO m3 (f' m3 y z)
    | some (.d (.bl false)) => .ok (.d (.bl false)) m2
    | _ => .bad) rl w fun x y dx dy m2 H2 I2 A2 r2 w2 => by
    cases ef : f m2 dx dy with
    | none => simp only [ef] at w2; exact (show False from w2).elim
    | some d =>
      refine s _ I2 H2 A2 m2 x y dx dy d r2.base r2.pop1.top r2.top ef _ fun v H' I' b e hv => ?_
      have r3 := (r2.step b ⟨e, List.prefix_refl _⟩)
      simp only [ef] at w2
      cases d with
      | ref k => exact (show False from w2).elim
      | d d =>
        cases d with
        | bl k =>
          cases hv.dat
          refine ⟨k, rfl, ?_⟩
          cases k with
          | true =>
            rw [if_pos rfl]
            refine ⟨B, g, dy :: dx :: S, m2, y :: x :: vs, I', A2, r3, ?_⟩
            have w3 : WantE C B g S σ vs Q ((mc g m2).bind fun z m3 => ofO m3 (f' m3 dy z)) := w2
            cases ec : mc g m2 with
            | bad => rw [ec] at w3; exact w3.elim
            | ex c fs m' =>
              rw [ec] at w3
              intro σ' H' I' A' dz ws r' h1 h2 h3
              exact w3 σ' H' I' A' dz ws r'.pop1.pop1 h1 h2 h3
            | ok dz m3 =>
              rw [ec] at w3
              intro z H3 I3 A3 r4
              have w4 : WantE C B g S σ vs Q (ofO m3 (f' m3 dy dz)) := w3
              cases eg : f' m3 dy dz with
              | none => rw [eg] at w4; exact w4.elim
              | some d =>
                rw [eg] at w4
                exact s' _ I3 H3 A3 m3 y z dy dz d r4.base r4.pop1.top r4.top eg Q fun v H' I' b e hv => w4 v H' I' A3 ((r4.pop1.pop1.pop1.step b ⟨e, List.prefix_refl _⟩).push hv)
          | false =>
            rw [if_neg Bool.false_ne_true]
            exact w2 _ H' I' A2 (r3.pop1.pop1.push (.d (.bl false)))
        | _ => exact (show False from w2).elim
/-- truth of a value -/
def truD : Dt → Option Bool
  | .non => some false
  | .bl b => some b
  | .int i => some (i != 0)
  | .str z => if szOk z.length then some ((z.length : Int) != 0) else none
  | .lst ds => some (!ds.isEmpty)
  | .scr ds => some (!ds.isEmpty)
  | .tup ds => some (!ds.isEmpty)
  | .dct ks _ => some (!ks.isEmpty)
  | _ => none
def truV (m : Cells) : Vl → Option Bool
  | .d d => truD d
  | .ref k => match m[k]? with
    | some (some (.lst ds)) => some (!ds.isEmpty)
    | some (some (.dct ks _)) => some (!ks.isEmpty)
    | _ => none
theorem empty_len {α β : Type} {a : List α} {b : List β} (h : a.length = b.length) : a.isEmpty = b.isEmpty := by
  cases a <;> cases b <;> simp at h <;> rfl
theorem zip_empty {α β : Type} {a : List α} {b : List β} (h : a.length = b.length) : (a.zip b).isEmpty = a.isEmpty := by
  cases a <;> cases b <;> simp at h <;> rfl
theorem truV_ok {T : Tab} {F : Frm} {I H : Hp} {A : List Addr} {m : Cells} {x : V} {d : Vl} {k : Bool} (b : Base T F I H A m) (h : VR T I A x d) (e : truV m d = some k) : TruV T.K x H k := by
  cases h with
  | d h =>
    have e : truD _ = some k := e
    cases h with
    | non => cases e; rfl
    | bl b => cases e; rfl
    | int i => cases e; rfl
    | str z =>
      simp only [truD] at e
      by_cases hz : szOk z.length = true
      · rw [if_pos hz] at e; cases e; exact ⟨szOk_line hz, rfl⟩
      · rw [if_neg hz] at e; cases e
    | glo i => cases e
    | lst h1 h2 => cases e; exact .inl ⟨_, .inl (.inl (b.sub _ _ h1)), by rw [empty_len h2.len]⟩
    | scr h1 h2 => cases e; exact .inl ⟨_, same_l b.sub h1, by rw [empty_len h2.len]⟩
    | tup h1 h2 => cases e; exact .inr (.inl ⟨_, same_t b.sub h1, by rw [empty_len h2.len]⟩)
    | dct h1 h2 h3 =>
      cases e
      exact .inr (.inr ⟨_, b.sub _ _ h1, by rw [zip_empty h2]⟩)
    | ins h1 h2 h3 => cases e
  | @ref k' a ha =>
    simp only [truV] at e
    split at e
    · rename_i ds hm
      cases e
      obtain ⟨vs, h1, h2⟩ := b.ok _ _ a hm ha
      exact .inl ⟨_, .inl (.inl h1), by rw [empty_len h2.len]⟩
    · rename_i ks ds hm
      cases e
      obtain ⟨vs, h1, h2, h3⟩ := b.ok _ _ a hm ha
      exact .inr (.inr ⟨_, h1, by rw [zip_empty h2]⟩)
    · cases e
def mTru (me : ME) : MT := fun g m => (me g m).bind fun x m1 => ofO m1 (truV m1 x)
theorem ft_tru {e : Expr} (h : PT X e (NK.tTruth C.T.K (FE C me))) : PT X e (FT C (mTru me)) := pt_of h fun σ H Q ⟨B, g, S, m, vs, I, A, r, w⟩ => by
  refine ⟨B, g, S, m, vs, I, A, r, ?_⟩
  unfold mTru at w
  cases ea : me g m with
  | bad => rw [ea] at w; exact w.elim
  | ex c fs m' => rw [ea] at w; exact w
  | ok d m1 =>
    rw [ea] at w
    intro x H1 I1 A1 r1
    have w1 : WantT C B g S σ vs Q (ofO m1 (truV m1 d)) := w
    cases et : truV m1 d with
    | none => rw [et] at w1; exact w1.elim
    | some k => rw [et] at w1; exact ⟨k, truV_ok r1.base r1.top et, w1 H1 I1 A1 r1.pop1⟩
/-! ### methods of list cells -/
/-- a method of a list cell: the value told, the list behind it -/
abbrev OM := List Dt → Cells → List Vl → Option (Vl × List Dt)
def isL : Option (Option Cell) → Option (List Dt)
  | some (some (.lst ds)) => some ds
  | _ => none
def mM (f : OM) (me : ME) (ma : MA) : ME := fun g m => (me g m).bind fun x m1 => match x with
  | .ref k => match isL m1[k]? with
    | some _ => (ma g m1).bind fun ys m2 => match isL m2[k]? with
      | some ds => (match f ds m2 ys with
        | some p => .ok p.1 (m2.set k (some (.lst p.2)))
        | none => .bad)
      | none => .bad
    | none => .bad
  | _ => .bad
def SimM (T : Tab) (r : V → List V → Hp → VK → Prop) (f : OM) : Prop := ∀ (F : Frm) (I H : Hp) (A : List Addr) (m : Cells) (a : Addr) (us : List V) (ds : List Dt) (ws : List V) (ys : List Vl) (v : Vl) (ds' : List Dt), Base T F I H A m → H a = some (.lst us) → DRs T I us ds → VRs T I A ws ys → f ds m ys = some (v, ds') →
  ∀ Q : VK, (∀ x us', DRs T I us' ds' → VR T I A x v → Q x (upd H a (.lst us'))) → r (.ref a) ws H Q
theorem isL_ok {o : Option (Option Cell)} {ds : List Dt} (h : isL o = some ds) : o = some (some (.lst ds)) := by
  unfold isL at h
  split at h
  · cases h; rfl
  · cases h
theorem le_m {r : V → List V → Hp → VK → Prop} {f : OM} {σ : L2.St} {H : Hp} {Q : VK} (s : SimM C.T r f) (h : FE C (mM f me ma) σ H Q) : FE C me σ H fun x H1 => tyV C.T.K "list" x H1 ∧ FA C ma σ H1 fun xs H2 => r x xs H2 Q := by
  obtain ⟨B, g, S, m, vs, I, A, rl, w⟩ := h
  refine ⟨B, g, S, m, vs, I, A, rl, ?_⟩
  unfold mM at w
  cases ea : me g m with
  | bad => rw [ea] at w; exact w.elim
  | ex c fs m' => rw [ea] at w; exact w
  | ok d m1 =>
    rw [ea] at w
    intro x H1 I1 A1 r1
    cases d with
    | d d => exact (show False from w).elim
    | ref k =>
      obtain ⟨a, rfl, ha⟩ := r1.top.cel
      cases el : isL m1[k]? with
      | none => simp only [Rs.bind, el] at w; exact (show False from w).elim
      | some ds1 =>
        simp only [Rs.bind, el] at w
        obtain ⟨us1, hu1, _⟩ := r1.base.ok _ _ a (isL_ok el) ha
        refine ⟨.inl ⟨rfl, us1, .inl (.inl hu1)⟩, B, g, .ref k :: S, m1, .ref a :: vs, I1, A1, r1, ?_⟩
        cases eb : ma g m1 with
        | bad => simp only [eb] at w; exact (show False from w).elim
        | ex c fs m' =>
          simp only [eb] at w
          intro σ' H' I' A' dx ws r' h1 h2 h3
          exact w σ' H' I' A' dx ws r'.pop1 h1 h2 h3
        | ok ys m2 =>
          simp only [eb] at w
          intro ws H2 I2 A2 hl r2
          obtain ⟨q1, q2⟩ := r2.stk.split hl
          have r3 : Rel C.T C.x B g (.ref k :: S) m2 σ (.ref a :: vs) H2 I2 A2 := { r2 with stk := q2 }
          obtain ⟨a', e, ha'⟩ := r3.top.cel
          cases e
          cases el2 : isL m2[k]? with
          | none => simp only [el2] at w; exact (show False from w).elim
          | some ds =>
            simp only [el2] at w
            cases ef : f ds m2 ys with
            | none => simp only [ef] at w; exact (show False from w).elim
            | some p =>
              simp only [ef] at w
              obtain ⟨us, hu, hd⟩ := r3.base.ok _ _ a (isL_ok el2) ha'
              obtain ⟨v, ds'⟩ := p
              exact s _ I2 H2 A2 m2 a us ds ws ys v ds' r3.base hu hd q1 ef Q fun x us' hd' hx => w _ _ _ _ ((r3.pop1.step (r3.base.put (c' := .lst ds') (isL_ok el2) ha' ⟨us', upd_same, hd'⟩) Up.refl).push hx)
theorem fe_m {r : V → List V → Hp → VK → Prop} {f : OM} (h : PE X e (tBM C.T.K "list" r (FE C me) (FA C ma))) (s : SimM C.T r f) : PE X e (FE C (mM f me ma)) := pe_of h fun σ H Q q => le_m s q
theorem fe_m0 {r : V → List V → Hp → VK → Prop} {f : OM} (h : PE X e (tBM0 C.T.K "list" r (FE C me))) (s : SimM C.T r f) : PE X e (FE C (mM f me mNil)) := pe_of h fun σ H Q q => by
  obtain ⟨B, g, S, m, vs, I, A, rl, w⟩ := le_m s q
  refine ⟨B, g, S, m, vs, I, A, rl, ?_⟩
  cases ea : me g m with
  | bad => rw [ea] at w; exact w.elim
  | ex c fs m' => rw [ea] at w; exact w
  | ok d m1 =>
    rw [ea] at w
    intro x H1 I1 A1 r1
    obtain ⟨t, B', g', S', m', vs', I', A', r', w'⟩ := w x H1 I1 A1 r1
    exact ⟨t, w' [] H1 I' A' rfl r'⟩
def fAppend : OM := fun ds _ ys => match ys with
  | [.d d] => if szOk (ds.length + 1) then some (.d .non, ds ++ [d]) else none
  | _ => none
theorem sim_append {T : Tab} : SimM T rAppend fAppend := fun F I H A m a us ds ws ys v ds' b hu hd hw e Q q => by
  unfold fAppend at e
  split at e
  · rename_i d
    by_cases h : szOk (ds.length + 1) = true
    · rw [if_pos h] at e
      cases e
      obtain ⟨w, rfl, hw1⟩ := hw.one_inv
      refine ⟨a, us, w, rfl, rfl, hu, by rw [hd.len]; exact szOk_line h, q _ _ (hd.app (.one hw1.dat)) (.d .non)⟩
    · rw [if_neg h] at e; cases e
  · cases e
def fExtend : OM := fun ds m ys => match ys with
  | [.d (.lst es)] => if szOk (ds.length + es.length) then some (.d .non, ds ++ es) else none
  | [.ref k] => match isL m[k]? with
    | some es => if szOk (ds.length + es.length) then some (.d .non, ds ++ es) else none
    | none => none
  | _ => none
theorem sim_extend {T : Tab} : SimM T rExtend fExtend := fun F I H A m a us ds ws ys v ds' b hu hd hw e Q q => by
  unfold fExtend at e
  split at e
  · rename_i es
    by_cases h : szOk (ds.length + es.length) = true
    · rw [if_pos h] at e
      cases e
      obtain ⟨w, rfl, hw1⟩ := hw.one_inv
      cases hw1.dat with
      | lst h1 h2 => exact ⟨a, _, us, _, rfl, rfl, hu, b.sub _ _ h1, by rw [hd.len, h2.len]; exact szOk_line h, q _ _ (hd.app h2) (.d .non)⟩
    · rw [if_neg h] at e; cases e
  · rename_i k
    split at e
    · rename_i es he
      by_cases h : szOk (ds.length + es.length) = true
      · rw [if_pos h] at e
        cases e
        obtain ⟨w, rfl, hw1⟩ := hw.one_inv
        obtain ⟨a2, rfl, ha2⟩ := hw1.cel
        obtain ⟨us2, hu2, hd2⟩ := b.ok _ _ a2 (isL_ok he) ha2
        exact ⟨a, a2, us, us2, rfl, rfl, hu, hu2, by rw [hd.len, hd2.len]; exact szOk_line h, q _ _ (hd.app hd2) (.d .non)⟩
      · rw [if_neg h] at e; cases e
    · cases e
  · cases e
def fPop : OM := fun ds _ ys => match ys with
  | [] => (ds[ds.length - 1]?).map fun d => (.d d, ds.dropLast)
  | _ => none
theorem DRs.last {T : Tab} {I : Hp} {vs : List V} {ds : List Dt} (h : DRs T I vs ds) : DRs T I vs.dropLast ds.dropLast := by
  rw [List.dropLast_eq_take, List.dropLast_eq_take, h.len]
  exact h.take _
theorem sim_pop {T : Tab} : SimM T rPop fPop := fun F I H A m a us ds ws ys v ds' b hu hd hw e Q q => by
  unfold fPop at e
  split at e
  · cases ed : ds[ds.length - 1]? with
    | none => rw [ed] at e; cases e
    | some d =>
      rw [ed] at e
      cases e
      cases hw
      obtain ⟨u, h1, h2⟩ := hd.get ed
      exact ⟨a, us, u, rfl, rfl, hu, by rw [hd.len]; exact h1, q _ _ hd.last (.d h2)⟩
  · cases e
def fClear : OM := fun ds _ ys => match ys with
  | [] => some (.d .non, [])
  | _ => none
theorem sim_clear {T : Tab} : SimM T rClear fClear := fun F I H A m a us ds ws ys v ds' b hu hd hw e Q q => by
  unfold fClear at e
  split at e
  · cases e; cases hw
    exact ⟨a, us, rfl, rfl, hu, q _ _ .nil (.d .non)⟩
  · cases e
/-- a value that is a list cell, done changing -/
def mFrz (me : ME) : ME := fun g m => (me g m).bind fun x m1 => match x with
  | .ref k => match isL m1[k]? with
    | some ds => .ok (.d (.lst ds)) (m1.set k none)
    | none => .bad
  | .d d => .ok (.d d) m1
theorem fe_frz (h : PE X e (FE C me)) : PE X e (FE C (mFrz me)) := pe_of h fun σ H Q ⟨B, g, S, m, vs, I, A, rl, w⟩ => one_ok rl w fun x d m1 H1 I1 A1 r1 w1 => by
  cases d with
  | d d => exact w1 x H1 I1 A1 r1
  | ref k =>
    obtain ⟨a, rfl, ha⟩ := r1.top.cel
    cases el : isL m1[k]? with
    | none => simp only [el] at w1; exact (show False from w1).elim
    | some ds =>
      simp only [el] at w1
      obtain ⟨us, hu, hd⟩ := r1.base.ok _ _ a (isL_ok el) ha
      obtain ⟨b, e⟩ := r1.base.frz (isL_ok el) ha hu
      exact w1 _ _ _ _ ((r1.pop1.step b e).push (.d (.lst upd_same (hd.mono e.i))))
/-- xs[i] = v of a list cell -/
def mSetL (me mi : ME) : MG := fun v g m => match me g m with
  | .ok (.ref k) m1 => (match mi g m1 with
    | .ok (.d (.int i)) m2 => (match isL m2[k]?, v with
      | some ds, .d d => (ixN ds.length i).map fun j => (g, m2.set k (some (.lst (ds.set j d))))
      | _, _ => none)
    | _ => none)
  | _ => none
end
end FM

namespace NK
open PySem PySem.Spec PyProof.Rows L2
section
variable {X : Cx} {CX : CXT} {k : Nat} {f C : Addr} {fd : FuncData} {ps : List Str} {sp : Sp} {E : L2.St → XK} {x m : Str} {p pos apos : Pos} {e o : Expr} {es : List Expr} {ta : TE} {t : TA}
def tMakeS (C : Addr) (sp : Sp) (E : L2.St → XK) (t : TA) : TE := fun σ H Q => t σ H fun vs H1 => ∀ x dx, H1 x = none → H1 dx = none → dx ≠ x → sp (.ref x :: vs) (upd (upd H1 dx (.own x)) x (.ins C dx [])) (fun v H2 => v = .non ∧ Q (.ref x) H2) (E σ)
theorem run_makeS {pins : List (Addr × Obj)} {σ : L2.St} {H : Hp} {s : Shared} {Q : VK} {us : List Value} {vs : List V} (M : Mk X.K C f) (F : FnOk X.prog X.w X.K X.mg X.base CX k f fd ps sp) (hr : Room (k + 1) X.A) (hb : Binds X.K fd ps [])
    (hx : PassesAt CX X σ (E σ)) (I : Inv X pins σ H s) (r : Vals vs us)
    (h : ∀ x dx, H x = none → H dx = none → dx ≠ x → sp (.ref x :: vs) (upd (upd H dx (.own x)) x (.ins C dx [])) (fun v H2 => v = .non ∧ Q (.ref x) H2) (E σ)) :
    wpAny (model X.prog X.w) X.A (call (.ref C) us) (EP X pins σ Q) X.xe s := by
  have hq := h (s.heap.objs.size + 1) s.heap.objs.size (I.hok.fresh (Nat.le_succ _)) (I.hok.fresh (Nat.le_refl _)) (Nat.ne_of_lt (Nat.lt_succ_self _))
  have I2 := Inv.made (C := C) I
  have r2 : Vals (V.ref (s.heap.objs.size + 1) :: vs) (Value.ref (s.heap.objs.size + 1) :: us) := .cons rfl r
  have hl : (Value.ref (s.heap.objs.size + 1) :: us ++ []).length = ps.length := by
    have e := r2.length
    rw [F.len _ _ _ _ hq] at e
    rw [List.append_nil]
    exact e.symm
  have b := hb _ (Value.ref (s.heap.objs.size + 1) :: us) I2.kIn hl
  rw [List.append_nil] at b
  refine wpAny_call (make_map (f := f) I.kIn M.makes M.init (beq_iff_eq.mp M.fn) (codeAny_mono (F.run _ X.stack _ _ ⟨Value.ref (s.heap.objs.size + 1) :: us, []⟩ (Value.ref (s.heap.objs.size + 1) :: us) _ _ (E σ) (hr.make C us [])
    (I2.env0.make C us []) b r2 hq) fun r s' hq' => ?_))
  cases r with
  | error e => exact hx pins _ _ e s' I2 hq'
  | ok fl =>
    cases fl with
    | ret u =>
      obtain ⟨v, H', I3, rv, ev, q3⟩ := I2.after hq'
      subst ev
      exact ⟨rv, ⟨V.ref (s.heap.objs.size + 1), H', I3, rfl, q3⟩⟩
    | next => exact False.elim hq'
    | brk => exact False.elim hq'
    | cont => exact False.elim hq'
theorem pe_makeS (c : CalK X.prog X.w X.K X.mg X.base CX k x C ps sp) (hr : Room (k + 1) X.A) (hg : Gl X x) (hx : ∀ σ, PassesAt CX X σ (E σ))
    (ha : PA X (e :: es) t) (hdb : (x == ("__debug__" : Str)) = false := by decide) (he : starEach (e :: es) X.env = (false, eval e X.env) :: starEach es X.env := by rfl) (hpl : (backTo pos (starEach es X.env)).any (·.1) = false := by rfl) :
    PE X (.Call (.Name x p) (e :: es) [] pos) (tMakeS C sp E t) := by
  obtain ⟨f, fd, M, F, hb⟩ := c.at_
  refine ⟨fun pins s σ H Q I h => ?_⟩
  refine wpAny_Call_Name_kw (ld_glob I hg c.g ?_ hdb)
  refine PySem.W.callWith_K (h₀ := X.base) I.ok.mod.kin M.kp (thn (ha.run pos pins s σ H _ I h) fun us s1 ⟨vs, H1, I1, r, q⟩ => ⟨I1.kIn, ?_⟩) he hpl
  exact run_makeS M F hr hb (hx σ) I1 r q
/-- the defs that stand for a method, class by class -/
abbrev MRel := Addr → Sp → Prop
def MOk (P : Program) (w : World) (K : PySem.W.Frag) (mg : Str → Option Value) (base : Heap) (CX : CXT) (k : Nat) (m : Str) (Tb : MRel) : Prop := ∀ C sp, Tb C sp → Cls K C ∧ ∃ f fd ps, Meth K C m f ∧ FnOk P w K mg base CX k f fd ps sp ∧ Binds K fd ps []
def tMethT (m : Str) (Tb : MRel) (E : L2.St → XK) (ta : TE) (t : TA) : TE := fun σ H Q => ta σ H fun x H1 => ∃ a C dx fs sp, x = .ref a ∧ H1 a = some (.ins C dx fs) ∧ fs.lookup m = none ∧ Tb C sp ∧ t σ H1 fun vs H2 => sp (x :: vs) H2 Q (E σ)
theorem pe_methT {pl : Sem Bool} {Tb : MRel} (he : PE X o ta) (T : MOk X.prog X.w X.K X.mg X.base CX k m Tb) (hr : Room k X.A) (hx : ∀ σ, PassesAt CX X σ (E σ)) (ha : PA X (e :: es) t)
    (hst : starEach (e :: es) X.env = (false, eval e X.env) :: starEach es X.env := by rfl) (hpl : (backTo pos (starEach es X.env)).any (·.1) = false := by rfl)
    (ht : eval (.Call (.Attribute o m apos) (e :: es) [] pos) X.env = (do
      let ov ← eval o X.env
      standAt apos.atName
      let (f, first) ← holding [ov] (getMethod ov m pl)
      callWith pos f first (backTo pos (starEach (e :: es) X.env)) (backToKw pos (keywordEach [] X.env))) := by rfl) :
    PE X (.Call (.Attribute o m apos) (e :: es) [] pos) (tMethT m Tb E ta t) := by
  refine ⟨fun pins s σ H Q I h => ?_⟩
  refine PySem.W.methodCall_KW (pl := pl) (thn (he.run pins s σ H _ I h) fun u s1 ⟨x, H1, I1, rx, a, C, dx, fs, sp, ex, ea, l, tb, q⟩ => ?_) ht
  subst ex
  obtain rfl : u = Value.ref a := rx
  obtain ⟨c, f, fd, ps, hm, F, hb⟩ := T C sp tb
  refine getmeth_ok I1 ea c hm l ?_
  refine PySem.W.callWith_K (first := [.ref a]) (h₀ := X.base) I.ok.mod.kin hm.kp (thn (ha.run pos pins s1 σ H1 _ I1 q) fun us s2 ⟨vs, H2, I2, r, q2⟩ => ⟨I2.kIn, ?_⟩) hst hpl
  exact run_fnS (us := .ref a :: us) (vs := .ref a :: vs) F hr hb (hx σ) I2 (.cons rfl r) q2
theorem pe_methT0 {pl : Sem Bool} {Tb : MRel} (he : PE X o ta) (T : MOk X.prog X.w X.K X.mg X.base CX k m Tb) (hr : Room k X.A) (hx : ∀ σ, PassesAt CX X σ (E σ))
    (ht : eval (.Call (.Attribute o m apos) [] [] pos) X.env = (do
      let ov ← eval o X.env
      standAt apos.atName
      let (f, first) ← holding [ov] (getMethod ov m pl)
      callWith pos f first (backTo pos (starEach [] X.env)) (backToKw pos (keywordEach [] X.env))) := by rfl) :
    PE X (.Call (.Attribute o m apos) [] [] pos) (tMethT m Tb E ta tNil) := by
  refine ⟨fun pins s σ H Q I h => ?_⟩
  refine PySem.W.methodCall_KW (pl := pl) (thn (he.run pins s σ H _ I h) fun u s1 ⟨x, H1, I1, rx, a, C, dx, fs, sp, ex, ea, l, tb, q⟩ => ?_) ht
  subst ex
  obtain rfl : u = Value.ref a := rx
  obtain ⟨c, f, fd, ps, hm, F, hb⟩ := T C sp tb
  refine getmeth_ok I1 ea c hm l ?_
  exact PySem.W.callWith_K0 (first := [.ref a]) I1.kIn hm.kp (run_fnS (us := [.ref a]) (vs := [.ref a]) F hr hb (hx σ) I1 (.cons rfl .nil) q)
end
end NK
namespace FM
open PySem PySem.Spec PyProof.Rows L2
/-! ### instances -/
section
variable {T : Tab} {F : Frm} {I H I' H' : Hp} {A A' : List Addr} {m m' : Cells}
/-- a new thing that nobody names -/
theorem Base.junk (b : Base T F I H A m) {p : Addr} {o : HO} (hp : H p = none) : Base T F I (upd H p o) A m := by
  refine ⟨b.sub.trans (same_upd hp), fun q hq => ?_, b.fnd, b.len, b.nd, fun a ha => upd_some (b.al a ha), b.fr, fun k c a h1 h2 => (b.ok k c a h1 h2).mono (Same.refl I) fun o q => by rw [upd_ne (ne_of_none q hp)]; exact q⟩
  obtain ⟨f1, f2, f3⟩ := b.fm q hq
  exact ⟨by rw [upd_ne (ne_of_none f1 hp)]; exact f1, f2, f3⟩
theorem Base.made (b : Base T F I H A m) {x dx : Addr} (c : Nat) (nx : H x = none) (nd : H dx = none) (ne : dx ≠ x) : Base T F I (upd (upd H dx (.own x)) x (.ins (T.ca c) dx [])) (A ++ [x]) (m ++ [some (.ins c [])]) ∧ Up I I A (A ++ [x]) := by
  refine (b.junk nd).newC (c := .ins c []) (by rw [upd_ne (Ne.symm ne)]; exact nx) ⟨dx, [], ?_, Nat.zero_le _, .nil⟩
  rw [upd_same, List.zip_nil_right]
end
def isI (c : Nat) : Option (Option Cell) → Option (List Dt)
  | some (some (.ins c' fs)) => if c' = c then some fs else none
  | _ => none
theorem isI_ok {c : Nat} {o : Option (Option Cell)} {ds : List Dt} (h : isI c o = some ds) : o = some (some (.ins c ds)) := by
  unfold isI at h
  split at h
  · rename_i c' fs
    by_cases e : c' = c
    · rw [if_pos e] at h; cases h; rw [e]
    · rw [if_neg e] at h; cases h
  · cases h
/-- C(..): n fields, never changed again -/
def mMake (c n : Nat) (f : Fn) (ma : MA) : ME := fun g m => (ma g m).bind fun xs m1 => match f (.ref m1.length :: xs) (m1 ++ [some (.ins c [])]) with
  | .ok (.d .non) m2 => (match isI c m2[m1.length]? with
    | some fs => if fs.length = n then .ok (.d (.ins c fs)) (m2.take m1.length) else .bad
    | none => .bad)
  | .ex c' fs m2 => .ex c' fs (m2.take m1.length)
  | _ => .bad
/-- C(..), that may change -/
def mMakeC (c : Nat) (f : Fn) (ma : MA) : ME := fun g m => (ma g m).bind fun xs m1 => match f (.ref m1.length :: xs) (m1 ++ [some (.ins c [])]) with
  | .ok (.d .non) m2 => .ok (.ref m1.length) m2
  | .ex c' fs m2 => .ex c' fs (m2.take m1.length)
  | _ => .bad
/-- a class without __init__ -/
def mMake0 (c : Nat) : ME := fun _ m => .ok (.d (.ins c [])) m
section
variable {X : Cx} {C : Fc} {e : Expr} {ma : MA} {me mb : ME}
theorem up_take {A1 A2 : List Addr} {n : Nat} (h : A1 <+: A2) (hn : A1.length = n) : A2.take n = A1 := by rw [← hn]; exact pre_take h
theorem fe_make {c n : Nat} {f : Fn} (h : PE X e (NK.tMakeS (C.T.ca c) (spFn C.T f) (WE C.W) (FA C ma))) (hn : (C.T.cf c).length = n) : PE X e (FE C (mMake c n f ma)) := pe_of h fun σ H Q ⟨B, g, S, m, vs, I, A, rl, w⟩ => args_ok rl w fun ws ds m1 H1 I1 A1 r1 hv w1 x dx nx nd ne => by
  obtain ⟨b, u⟩ := r1.base.made c nx nd ne
  have hk : (A1 ++ [x])[m1.length]? = some x := by rw [← r1.base.len]; exact last_get A1 x
  refine ⟨B.F, I1, A1 ++ [x], m1 ++ [some (.ins c [])], .ref m1.length :: ds, b, .cons (.ref hk) (hv.mono u), ?_⟩
  cases ef : f (.ref m1.length :: ds) (m1 ++ [some (.ins c [])]) with
  | bad => simp only [ef] at w1; exact (show False from w1).elim
  | ex c' fs m2 =>
    simp only [ef] at w1
    intro H' I' A' dy us b' u' h1 h2 h3
    have ht : A'.take m1.length = A1 := up_take ((List.prefix_append A1 [x]).trans u'.a) r1.base.len
    have b2 := b'.take m1.length
    rw [ht] at b2
    exact w1 σ H' I' A1 dy us (r1.step b2 ⟨u'.i, List.prefix_refl _⟩) h1 h2 h3
  | ok d m2 =>
    simp only [ef] at w1
    intro v H' I' A' b' u' hd
    cases d with
    | ref k => exact (show False from w1).elim
    | d d =>
      cases d with
      | non =>
        cases hd.dat
        refine ⟨rfl, ?_⟩
        cases ei : isI c m2[m1.length]? with
        | none => simp only [ei] at w1; exact (show False from w1).elim
        | some fs =>
          simp only [ei] at w1
          by_cases hl : fs.length = n
          · rw [if_pos hl] at w1
            have hx : A'[m1.length]? = some x := pre_get u'.a hk
            obtain ⟨dy, us, h1, h2, h3⟩ := b'.ok _ _ x (isI_ok ei) hx
            obtain ⟨b2, u2⟩ := b'.frz (isI_ok ei) hx h1
            have ht : A'.take m1.length = A1 := up_take ((List.prefix_append A1 [x]).trans u'.a) r1.base.len
            have b3 := b2.take m1.length
            rw [ht] at b3
            have em : (m2.set m1.length none).take m1.length = m2.take m1.length := by
              apply List.ext_getElem?
              intro i
              by_cases hi : i < m1.length
              · rw [List.getElem?_take_of_lt hi, List.getElem?_take_of_lt hi, List.getElem?_set_ne (by omega)]
              · rw [List.getElem?_eq_none (by rw [List.length_take]; omega), List.getElem?_eq_none (by rw [List.length_take]; omega)]
            rw [em] at b3
            exact w1 _ _ _ _ ((r1.step b3 ⟨u'.i.trans u2.i, List.prefix_refl _⟩).push (.d (.ins upd_same (by rw [h3.len, hl, hn]) (h3.mono u2.i))))
          · rw [if_neg hl] at w1; exact (show False from w1).elim
      | _ => exact (show False from w1).elim
theorem fe_makeC {c : Nat} {f : Fn} (h : PE X e (NK.tMakeS (C.T.ca c) (spFn C.T f) (WE C.W) (FA C ma))) : PE X e (FE C (mMakeC c f ma)) := pe_of h fun σ H Q ⟨B, g, S, m, vs, I, A, rl, w⟩ => args_ok rl w fun ws ds m1 H1 I1 A1 r1 hv w1 x dx nx nd ne => by
  obtain ⟨b, u⟩ := r1.base.made c nx nd ne
  have hk : (A1 ++ [x])[m1.length]? = some x := by rw [← r1.base.len]; exact last_get A1 x
  refine ⟨B.F, I1, A1 ++ [x], m1 ++ [some (.ins c [])], .ref m1.length :: ds, b, .cons (.ref hk) (hv.mono u), ?_⟩
  cases ef : f (.ref m1.length :: ds) (m1 ++ [some (.ins c [])]) with
  | bad => simp only [ef] at w1; exact (show False from w1).elim
  | ex c' fs m2 =>
    simp only [ef] at w1
    intro H' I' A' dy us b' u' h1 h2 h3
    have ht : A'.take m1.length = A1 := up_take ((List.prefix_append A1 [x]).trans u'.a) r1.base.len
    have b2 := b'.take m1.length
    rw [ht] at b2
    exact w1 σ H' I' A1 dy us (r1.step b2 ⟨u'.i, List.prefix_refl _⟩) h1 h2 h3
  | ok d m2 =>
    simp only [ef] at w1
    intro v H' I' A' b' u' hd
    cases d with
    | ref k => exact (show False from w1).elim
    | d d =>
      cases d with
      | non =>
        cases hd.dat
        exact ⟨rfl, w1 _ _ _ _ ((r1.step b' (u.trans u')).push (.ref (pre_get u'.a hk)))⟩
      | _ => exact (show False from w1).elim
theorem fe_make0 {c : Nat} (h : PE X e (NK.tMake0 (C.T.ca c))) (hn : C.T.cf c = []) : PE X e (FE C (mMake0 c)) := pe_of h fun σ H Q ⟨B, g, S, m, vs, I, A, r, w⟩ x dx nx nd ne => by
  have b1 := r.base.junk (o := .own x) nd
  obtain ⟨b, u⟩ := b1.new (p := x) (o := .ins (C.T.ca c) dx []) (by rw [upd_ne (Ne.symm ne)]; exact nx)
  exact w _ _ _ _ ((r.step b u).push (.d (.ins (xs := []) (by rw [upd_same, hn]; rfl) (by rw [hn]; rfl) .nil)))
/-! ### fields -/
/-- the place of a field, class by class -/
abbrev FTab := Nat → Option Nat
structure FldOk (T : Tab) (f : Str) (ix : FTab) : Prop where
  ok : ∀ c i, ix c = some i → Cls T.K (T.ca c) ∧ NoAttr T.K (T.ca c) f ∧ (T.cf c)[i]? = some f ∧ (T.cf c).Nodup
theorem zip_look {ks : List Str} {vs : List V} {i : Nat} {f : Str} {v : V} (nd : ks.Nodup) (hk : ks[i]? = some f) (hv : vs[i]? = some v) : (ks.zip vs).lookup f = some v := by
  induction ks generalizing vs i with
  | nil => simp at hk
  | cons k ks ih =>
    cases vs with
    | nil => simp at hv
    | cons u vs =>
      rw [List.zip_cons_cons]
      cases i with
      | zero =>
        simp at hk hv
        subst hk hv
        simp [List.lookup]
      | succ i =>
        have hk' : ks[i]? = some f := by simpa using hk
        have hne : f ≠ k := fun e => (List.nodup_cons.mp nd).1 (by rw [← e]; exact List.mem_of_getElem? hk')
        have : (f == k) = false := by simpa using hne
        simp only [List.lookup, this]
        exact ih (List.nodup_cons.mp nd).2 hk' (by simpa using hv)
theorem zip_nolook {ks : List Str} {vs : List V} {f : Str} (h : f ∉ ks) : (ks.zip vs).lookup f = none := by
  induction ks generalizing vs with
  | nil => rfl
  | cons k ks ih =>
    cases vs with
    | nil => rfl
    | cons u vs =>
      rw [List.zip_cons_cons]
      have : (f == k) = false := by
        have : f ≠ k := fun e => h (by rw [e]; exact List.mem_cons_self)
        simpa using this
      simp only [List.lookup, this]
      exact ih fun z => h (List.mem_cons_of_mem _ z)
/-- the class and the fields of a value -/
def insOf (m : Cells) : Vl → Option (Nat × List Dt)
  | .d (.ins c fs) => some (c, fs)
  | .ref k => match m[k]? with
    | some (some (.ins c fs)) => some (c, fs)
    | _ => none
  | _ => none
theorem insOf_ok {T : Tab} {F : Frm} {I H : Hp} {A : List Addr} {m : Cells} {x : V} {v : Vl} {c : Nat} {fs : List Dt} (b : Base T F I H A m) (h : VR T I A x v) (e : insOf m v = some (c, fs)) : ∃ a dx vs, x = .ref a ∧ H a = some (.ins (T.ca c) dx ((T.cf c).zip vs)) ∧ DRs T I vs fs := by
  cases v with
  | ref k =>
    obtain ⟨a, rfl, ha⟩ := h.cel
    simp only [insOf] at e
    split at e
    · rename_i c' fs' hm
      cases e
      obtain ⟨dx, vs, h1, h2, h3⟩ := b.ok _ _ a hm ha
      exact ⟨a, dx, vs, rfl, h1, h3⟩
    · cases e
  | d d =>
    cases d with
    | ins c' fs' =>
      cases e
      cases h.dat with
      | ins h1 h2 h3 => exact ⟨_, _, _, rfl, b.sub _ _ h1, h3⟩
    | _ => cases e
def oFld (ix : FTab) : O1 := fun m x => match insOf m x with
  | some p => (ix p.1).bind fun i => (p.2[i]?).map Vl.d
  | none => none
theorem fe_fld {f : Str} {ix : FTab} (h : PE X e (tFld C.T.K (FE C me) f)) (k : FldOk C.T f ix) : PE X e (FE C (mUn (oFld ix) me)) :=
  fe_un (r := fun x H1 Q => ∃ a C' dx fs v, x = .ref a ∧ H1 a = some (.ins C' dx fs) ∧ Cls C.T.K C' ∧ NoAttr C.T.K C' f ∧ fs.lookup f = some v ∧ Q v H1) h (fun σ H Q q => q) fun F I H A m x d1 d b hx e Q q => by
    unfold oFld at e
    cases ei : insOf m d1 with
    | none => rw [ei] at e; cases e
    | some p =>
      obtain ⟨c, fs⟩ := p
      rw [ei] at e
      cases ej : ix c with
      | none => simp [ej] at e
      | some i =>
        cases ek : fs[i]? with
        | none => simp [ej, ek] at e
        | some y =>
          simp [ej, ek] at e
          subst e
          obtain ⟨a, dx, vs, rfl, h1, h2⟩ := insOf_ok b hx ei
          obtain ⟨k1, k2, k3, k4⟩ := k.ok c i ej
          obtain ⟨u, hu, hd⟩ := h2.get ek
          exact ⟨a, _, dx, _, u, rfl, h1, k1, k2, zip_look k4 k3 hu, q _ H I b (Same.refl I) (.d hd)⟩
/-- self.f = v, self a cell -/
def putAt (i : Nat) (d : Dt) (fs : List Dt) : Option (List Dt) := if i < fs.length then some (fs.set i d) else if i = fs.length then some (fs ++ [d]) else none
theorem put_zip {ks : List Str} {vs : List V} {i : Nat} {f : Str} {v : V} (nd : ks.Nodup) (hk : ks[i]? = some f) (hl : i ≤ vs.length) : putF f v (ks.zip vs) = ks.zip (if i < vs.length then vs.set i v else vs ++ [v]) := by
  induction ks generalizing vs i with
  | nil => simp at hk
  | cons k ks ih =>
    cases vs with
    | nil =>
      have : i = 0 := by simpa using hl
      subst this
      simp at hk
      subst hk
      simp [putF]
    | cons u vs =>
      rw [List.zip_cons_cons]
      cases i with
      | zero =>
        simp at hk
        subst hk
        simp [putF]
      | succ i =>
        have hk' : ks[i]? = some f := by simpa using hk
        have hne : k ≠ f := fun e => (List.nodup_cons.mp nd).1 (by rw [e]; exact List.mem_of_getElem? hk')
        have hl' : i ≤ vs.length := by simpa using hl
        unfold putF
        rw [if_neg hne, ih (List.nodup_cons.mp nd).2 hk' hl']
        by_cases h : i < vs.length
        · rw [if_pos h, if_pos (by simpa using h)]; rfl
        · rw [if_neg h, if_neg (by simpa using h)]; rfl
def isIns : Option (Option Cell) → Option (Nat × List Dt)
  | some (some (.ins c fs)) => some (c, fs)
  | _ => none
theorem isIns_ok {o : Option (Option Cell)} {c : Nat} {ds : List Dt} (h : isIns o = some (c, ds)) : o = some (some (.ins c ds)) := by
  unfold isIns at h
  split at h
  · cases h; rfl
  · cases h
def setF (ix : FTab) (k : Nat) (d : Dt) (g : Gam) (m : Cells) : Out := match isIns m[k]? with
  | some p => (match (ix p.1).bind fun i => putAt i d p.2 with
    | some fs' => .nx g (m.set k (some (.ins p.1 fs')))
    | none => .bad)
  | none => .bad
def setV (ix : FTab) (x y : Vl) (g : Gam) (m : Cells) : Out := match x, y with
  | .ref k, .d d => setF ix k d g m
  | _, _ => .bad
def mSetF (ix : FTab) (mo mv : ME) : MS := fun g m => (mv g m).then g fun y m1 => (mo g m1).then g fun x m2 => setV ix x y g m2
theorem fs_fld {st : Stmt} {f : Str} {ix : FTab} (h : PS X st (sFld C.T.K (FE C me) (FE C mb) f)) (k : FldOk C.T f ix) (hs : ∀ c, (C.T.cf c).length < 900) : PS X st (FS C (mSetF ix me mb)) := ps_of h fun D σ H ⟨B, g, S, m, vs, I, A, r, w⟩ => by
  refine ⟨B, g, S, m, vs, I, A, r, ?_⟩
  unfold mSetF at w
  cases ea : mb g m with
  | bad => rw [ea] at w; exact w.elim
  | ex c fs m' => rw [ea] at w; exact w
  | ok y m1 =>
    rw [ea] at w
    intro yv H1 I1 A1 r1
    refine ⟨B, g, y :: S, m1, yv :: vs, I1, A1, r1, ?_⟩
    have w1 : WantS C B S vs D ((me g m1).then g fun x m2 => setV ix x y g m2) := w
    cases eb : me g m1 with
    | bad => rw [eb] at w1; exact (show False from w1).elim
    | ex c fs m' =>
      rw [eb] at w1
      intro σ' H' I' A' dx ws r' h1 h2 h3
      exact w1 σ' H' I' A' dx ws r'.pop1 h1 h2 h3
    | ok x m2 =>
      rw [eb] at w1
      intro xv H2 I2 A2 r2
      have w2 : WantS C B S vs D (setV ix x y g m2) := w1
      cases x with
      | d d => exact (show False from w2).elim
      | ref kk =>
        cases y with
        | ref k2 => exact (show False from w2).elim
        | d d =>
          have w3 : WantS C B S vs D (setF ix kk d g m2) := w2
          unfold setF at w3
          obtain ⟨a, rfl, ha⟩ := r2.top.cel
          cases ei : isIns m2[kk]? with
          | none => rw [ei] at w3; exact (show False from w3).elim
          | some p =>
            obtain ⟨c, fs⟩ := p
            rw [ei] at w3
            have hm := isIns_ok ei
            cases ej : ix c with
            | none => simp only [ej, Option.bind_none] at w3; exact (show False from w3).elim
            | some i =>
              cases ep : putAt i d fs with
              | none => simp only [ej, ep, Option.bind_some] at w3; exact (show False from w3).elim
              | some fs' =>
                simp only [ej, ep, Option.bind_some] at w3
                obtain ⟨k1, k2, k3, k4⟩ := k.ok c i ej
                obtain ⟨dx, us, h1, h2, h3⟩ := r2.base.ok _ _ a hm ha
                have hlen : us.length = fs.length := h3.len
                have hd := r2.pop1.top.dat
                have hle : i ≤ us.length ∧ DRs C.T I2 (if i < us.length then us.set i yv else us ++ [yv]) fs' := by
                  unfold putAt at ep
                  by_cases q : i < fs.length
                  · rw [if_pos q] at ep; cases ep
                    rw [if_pos (by omega)]
                    exact ⟨by omega, h3.set hd i⟩
                  · rw [if_neg q] at ep
                    by_cases q2 : i = fs.length
                    · rw [if_pos q2] at ep; cases ep
                      rw [if_neg (by omega)]
                      exact ⟨by omega, h3.app (.one hd)⟩
                    · rw [if_neg q2] at ep; cases ep
                have hil : i < (C.T.cf c).length := (List.getElem?_eq_some_iff.mp k3).1
                refine ⟨a, _, dx, _, rfl, h1, k1, k2, ?_, ?_⟩
                · have := hs c
                  rw [List.length_zip]; omega
                · rw [put_zip k4 k3 hle.1]
                  refine w3 _ _ _ _ (r2.pop1.pop1.step (r2.base.put (c' := .ins c fs') hm ha ⟨dx, _, upd_same, ?_, hle.2⟩) Up.refl)
                  by_cases q : i < us.length
                  · rw [if_pos q, List.length_set]; exact h2
                  · rw [if_neg q, List.length_append, List.length_singleton]; omega
/-! ### methods -/
def mMeth (mt : Nat → Option Fn) (me : ME) (ma : MA) : ME := fun g m => (me g m).bind fun x m1 => match insOf m1 x with
  | some p => (match mt p.1 with
    | some f => (ma g m1).bind fun ys m2 => f (x :: ys) m2
    | none => .bad)
  | none => .bad
def mRel (T : Tab) (mt : Nat → Option Fn) : NK.MRel := fun A sp => ∃ c f, A = T.ca c ∧ mt c = some f ∧ sp = spFn T f
theorem le_meth {mt : Nat → Option Fn} {mn : Str} (hno : ∀ c f, mt c = some f → mn ∉ C.T.cf c) {σ : L2.St} {H : Hp} {Q : VK} (h : FE C (mMeth mt me ma) σ H Q) : NK.tMethT mn (mRel C.T mt) (WE C.W) (FE C me) (FA C ma) σ H Q := by
  obtain ⟨B, g, S, m, vs, I, A, r, w⟩ := h
  refine ⟨B, g, S, m, vs, I, A, r, ?_⟩
  unfold mMeth at w
  cases ea : me g m with
  | bad => rw [ea] at w; exact w.elim
  | ex c fs m' => rw [ea] at w; exact w
  | ok x m1 =>
    rw [ea] at w
    intro xv H1 I1 A1 r1
    simp only [Rs.bind] at w
    cases ei : insOf m1 x with
    | none => simp only [ei] at w; exact (show False from w).elim
    | some p =>
      obtain ⟨c, fs⟩ := p
      simp only [ei] at w
      cases em : mt c with
      | none => simp only [em] at w; exact (show False from w).elim
      | some f =>
        simp only [em] at w
        obtain ⟨a, dx, us, rfl, h1, h2⟩ := insOf_ok r1.base r1.top ei
        refine ⟨a, _, dx, _, _, rfl, h1, zip_nolook (hno c f em), ⟨c, f, rfl, em, rfl⟩, B, g, x :: S, m1, .ref a :: vs, I1, A1, r1, ?_⟩
        cases eb : ma g m1 with
        | bad => simp only [eb] at w; exact (show False from w).elim
        | ex c fs m' =>
          simp only [eb] at w
          intro σ' H' I' A' dx ws r' h1 h2 h3
          exact w σ' H' I' A' dx ws r'.pop1 h1 h2 h3
        | ok ys m2 =>
          simp only [eb] at w
          intro ws H2 I2 A2 hl r2
          obtain ⟨q1, q2⟩ := r2.stk.split hl
          have r3 : Rel C.T C.x B g (x :: S) m2 σ (.ref a :: vs) H2 I2 A2 := { r2 with stk := q2 }
          refine ⟨B.F, I2, A2, m2, x :: ys, r3.base, .cons r3.top q1, ?_⟩
          cases ef : f (x :: ys) m2 with
          | bad => simp only [ef] at w; exact (show False from w).elim
          | ok d m3 => simp only [ef] at w; exact fun v H' I' A' b u hd => w v H' I' A' ((r3.pop1.step b u).push hd)
          | ex c' fs' m3 => simp only [ef] at w; exact fun H' I' A' dx us b u h1 h2 h3 => w σ H' I' A' dx us (r3.pop1.step b u) h1 h2 h3
theorem fe_meth {mt : Nat → Option Fn} {mn : Str} (h : PE X e (NK.tMethT mn (mRel C.T mt) (WE C.W) (FE C me) (FA C ma))) (hno : ∀ c f, mt c = some f → mn ∉ C.T.cf c) : PE X e (FE C (mMeth mt me ma)) := pe_of h fun σ H Q => le_meth hno
theorem fe_meth0 {mt : Nat → Option Fn} {mn : Str} (h : PE X e (NK.tMethT mn (mRel C.T mt) (WE C.W) (FE C me) tNil)) (hno : ∀ c f, mt c = some f → mn ∉ C.T.cf c) : PE X e (FE C (mMeth mt me mNil)) := pe_of h fun σ H Q q => by
  obtain ⟨B, g, S, m, vs, I, A, rl, w⟩ := le_meth hno q
  refine ⟨B, g, S, m, vs, I, A, rl, ?_⟩
  cases ea : me g m with
  | bad => rw [ea] at w; exact w.elim
  | ex c fs m' => rw [ea] at w; exact w
  | ok d m1 =>
    rw [ea] at w
    intro x H1 I1 A1 r1
    obtain ⟨a, c, dx, fs, sp, e1, e2, e3, e4, B', g', S', m', vs', I', A', r', w'⟩ := w x H1 I1 A1 r1
    exact ⟨a, c, dx, fs, sp, e1, e2, e3, e4, w' [] H1 I' A' rfl r'⟩
end
end FM

namespace NK
open PySem PySem.Spec PyProof.Rows L2
/-! ### several except clauses, with and without a name -/
abbrev HdT := Option Nat × Value × (Addr → Value → Option Addr → TS)
def wMix (K : PySem.W.Frag) (Wout : WX) (D : Ends) : List HdT → WX
  | [] => Wout
  | (none, c, ts) :: r => fun cls d σ H => ∃ b, PySem.W.exmOne K cls c = some b ∧ (b = true → ∀ a, H a = none → ts a cls d D σ H) ∧ (b = false → wMix K Wout D r cls d σ H)
  | (some i, c, ts) :: r => fun cls d σ H => ∃ b, PySem.W.exmOne K cls c = some b ∧
      (b = true → ∀ a, H a = none → ts a cls d { nx := fun σ' H' => D.nx (σ'.set i none) H', rt := D.rt, bk := fun σ' H' => D.bk (σ'.set i none) H', ct := fun σ' H' => D.ct (σ'.set i none) H' } (σ.set i (some (.ref a))) H) ∧ (b = false → wMix K Wout D r cls d σ H)
inductive HdsM (X : Cx) : List ExceptHandler → List HdT → Prop
  | nil : HdsM X [] []
  | only {x : Str} {c : Value} {ts : Addr → Value → Option Addr → TS} {b₀ : Stmt} {suite : List Stmt} {np pos' : Pos} {hds : List ExceptHandler} {l : List HdT} (hc : Names X x c)
      (hsu : ∀ (a : Addr) (oe : Obj) (cls : Value) (d : Option Addr) (pn : List (Addr × Obj)), Zc cls d oe → (∃ vs, oe.data = .fields vs) → PSs (X.suite a ((a, oe) :: pn)) (b₀ :: suite) (ts a cls d)) (r : HdsM X hds l) :
      HdsM X (.ExceptHandler (some (.Name x np)) none (b₀ :: suite) pos' :: hds) ((none, c, ts) :: l)
  | as {x n : Str} {i : Nat} {c : Value} {ts : Addr → Value → Option Addr → TS} {b₀ : Stmt} {suite : List Stmt} {np pos' : Pos} {hds : List ExceptHandler} {l : List HdT} (hN : X.N.Nodup) (hi : X.N[i]? = some n) (hln : X.env.kindOf n = some .local) (hc : Names X x c)
      (hsu : ∀ (a : Addr) (oe : Obj) (cls : Value) (d : Option Addr) (pn : List (Addr × Obj)), Zc cls d oe → (∃ vs, oe.data = .fields vs) → PSs (X.suite a ((a, oe) :: pn)) (b₀ :: suite) (ts a cls d)) (r : HdsM X hds l) :
      HdsM X (.ExceptHandler (some (.Name x np)) (some n) (b₀ :: suite) pos' :: hds) ((some i, c, ts) :: l)
section
variable {X : Cx} {body : List Stmt} {h₀ : ExceptHandler} {hds : List ExceptHandler} {l : List HdT} {pos : Pos} {tb : WX → TS} {Wout : WX}
theorem ps_try_mix (hs : X.stack = X.env :: X.outer) (hf : X.env.frame = some X.env.locals) (tk : Takes X Wout)
    (hb : ∀ (W : WX) (pn : List (Addr × Obj)) (xe : Value → Shared → Prop), Takes (X.tr pn xe) W → PassesOwn (model X.prog X.w) X.A X.env xe → PSs (X.tr pn xe) body (tb W))
    (hh : HdsM X (h₀ :: hds) l) : PS X (.Try body (h₀ :: hds) [] [] pos) (fun D σ H => tb (wMix X.K Wout D l) D σ H) := by
  refine ⟨fun pins s σ H D I h => ?_⟩
  have ok := I.ok
  have hfr : X.A.frames = some (X.env :: X.outer) := by rw [ok.frames, hs]
  refine wpAny_Try_except ?_
  refine wpAny_mono ((hb (wMix X.K Wout D l) (X.pn ++ pins) (fun e s₁ => wpAny (model X.prog X.w) X.A (noteFrame e X.env) (fun _ s₂ => wpAny (model X.prog X.w) X.A (setFlight e none) (fun _ s₃ =>
    wpAny (model X.prog X.w) X.A (handleBy e X.env (h₀ :: hds)) (SP X pins D) X.xe s₃) X.xe s₂) X.xe s₁) (fun u s' xx => ?_) PassesOwn.looking).run [] s σ H D (I.toTry _) h) (fun f s1 hsp => ?_) (fun e s1 he => he)
  · obtain ⟨a, B, sI, pins', σ', H', cls, d, rfl, J', nb, up, sky, na, os, ag, w⟩ := xx
    have J : Inv X pins σ' H' sI := J'.ofTry ok
    have sky' : Sky B (X.env :: X.outer) a (Zc cls d) X.env.locals s'.heap := by rw [← hs]; exact sky
    show wpAny (model X.prog X.w) X.A (noteFrame (.ref a) X.env) _ _ _
    refine Sky.land Zc.steady hfr hf sky' fun h3 fl3 up3 => ?_
    have J3 : Inv X pins σ' H' { s' with heap := h3 } := J.landed nb fl3.1 (up.trans up3) os ag
    obtain ⟨oe3, vs3, he3, hz3, hd3⟩ := fl3.there
    have notFr : ∀ {h : Heap} {o : Obj} {vs : Array Value}, h.FunFrames B (X.env :: X.outer) → h.get? a = some o → o.data = .fields vs → a ∉ frs (X.env :: X.outer) := fun {h o vs} ff e dd hm => by
      obtain ⟨_, o', e', hnf⟩ := ff.mem hm
      rw [e] at e'; cases e'
      exact hnf _ dd
    have nfr := notFr fl3.2.2.1 he3 hd3
    have nL : a ≠ X.env.locals := fun z => nfr (List.mem_filterMap.mpr ⟨X.env, List.mem_cons_self, by rw [hf, z]⟩)
    have nF : a ∉ X.fs := fun hm => by
      obtain ⟨e, he, q⟩ := List.mem_filterMap.mp hm
      exact nfr (List.mem_filterMap.mpr ⟨e, List.mem_cons_of_mem _ he, q⟩)
    have S3 := J3.suite he3 hd3 na nL nF
    have LT : PySem.W.Looks (model X.prog X.w) h3 (typeOf (.ref a)) cls := fun A Q E s k q => wpAny_typeOf_ref (k _ _ he3) (by rw [hz3.1]; exact q)
    have test : ∀ {x : Str} {c : Value} {np : Pos} {Q : Value → Shared → Prop} {E : Value → Shared → Prop}, Names X x c → Q c { s' with heap := h3 } → wpAny (model X.prog X.w) (X.A.mark (some (.ref a))) (eval (.Name x np) X.env) Q E { s' with heap := h3 } := fun {x c np Q E} hc q => by
      obtain ⟨hg, hdbg, hm | ⟨hm, hv, hnn⟩⟩ := hc
      · exact ld_glob (X := X.suite a ((a, oe3) :: (X.pn ++ pins))) S3 hg hm q hdbg
      · exact ld_blt (X := X.suite a ((a, oe3) :: (X.pn ++ pins))) S3 hg hm hv q hnn hdbg
    have go : ∀ {hds' : List ExceptHandler} {l' : List HdT}, HdsM X hds' l' → wMix X.K Wout D l' cls d σ' H' →
        wpAny (model X.prog X.w) X.A (handleBy (.ref a) X.env hds') (SP X pins D) X.xe { s' with heap := h3 } := by
      intro hds' l' hk
      induction hk with
      | nil =>
        intro w
        refine wpAny_handleBy_nil ?_
        obtain ⟨k1, k2, k3, oe, vs, T, oT, ts', he, hz, hd, h1, hr⟩ := id fl3
        unfold PySem.passOn
        refine wpAny_bind (wpAny_field he hd h1 ?_)
        rw [if_neg (show ¬ ((Value.ref T == Value.none) = true) from by simp)]
        have fin : wpAny (model X.prog X.w) X.A (setFlight (.ref a) X.env.frame) (fun _ s4 => wpAny (model X.prog X.w) X.A (throw (.ref a) : Sem Flow) (SP X pins D) X.xe s4) X.xe { s' with heap := h3 } := by
          rw [hf]
          refine HandSPX.setFlight_upZ fl3 fun h4 hh4 up4 => wpAny_throw (tk _ _ ?_)
          exact ⟨a, B, sI, pins, σ', H', cls, d, rfl, J, nb, (up.trans up3).trans up4, .inr (.inr (by rw [hs]; exact hh4)), na, os, ag, w⟩
        first
          | exact wpAny_bind (wpAny_pure (wpAny_bind fin))
          | exact wpAny_bind fin
      | @only x c ts b₀ suite np pos' hds2 l2 hc hsu r ih =>
        intro w
        obtain ⟨b, hb1, hyes, hno⟩ := w
        refine wpAny_handleBy_cons (codeAny_handlers_test ?_) (by intro q; cases q)
        have LM := PySem.W.exm_one (M := model X.prog X.w) (J3.kIn) LT hb1
        refine test hc (LM.here ?_)
        cases b with
        | true =>
          refine codeAny_handlers_suite ?_
          refine HandSPX.lands_againZ fl3 fun h4 fl4 up4 => ?_
          have J4 : Inv X pins σ' H' { s' with heap := h4 } := J.landed nb fl4.1 ((up.trans up3).trans up4) os ag
          obtain ⟨oe4, vs4, he4, hz4, hd4⟩ := fl4.there
          have S4 := J4.suite he4 hd4 na nL nF
          refine wpAny_mono ((hsu a oe4 cls d (X.pn ++ pins) hz4 ⟨_, hd4⟩).run [] _ _ H' _ S4 (hyes rfl a na)) (fun f s6 hsp => ?_) (fun _ _ z => False.elim z)
          cases f with
          | next =>
            obtain ⟨σ6, H6, S6, q6⟩ := hsp
            exact ⟨_, _, S6.unsuite ok, q6⟩
          | brk =>
            obtain ⟨σ6, H6, S6, q6⟩ := hsp
            exact ⟨_, _, S6.unsuite ok, q6⟩
          | cont =>
            obtain ⟨σ6, H6, S6, q6⟩ := hsp
            exact ⟨_, _, S6.unsuite ok, q6⟩
          | ret u =>
            obtain ⟨v6, σ6, H6, S6, r6, q6⟩ := hsp
            exact ⟨_, _, _, S6.unsuite ok, r6, q6⟩
        | false =>
          show wpAny _ X.A (handleBy (.ref a) X.env hds2) _ _ _
          exact ih (hno rfl)
      | @as x n i c ts b₀ suite np pos' hds2 l2 hN hi hln hc hsu r ih =>
        intro w
        obtain ⟨b, hb1, hyes, hno⟩ := w
        have hloc : Loc X.env.scope n := .inl hln
        refine wpAny_handleBy_cons (codeAny_handlers_test ?_) (by intro q; cases q)
        have LM := PySem.W.exm_one (M := model X.prog X.w) (J3.kIn) LT hb1
        refine test hc (LM.here ?_)
        cases b with
        | true =>
          refine codeAny_handlers_suite_as ?_
          refine HandSPX.lands_againZ fl3 fun h4 fl4 up4 => ?_
          have J4 : Inv X pins σ' H' { s' with heap := h4 } := J.landed nb fl4.1 ((up.trans up3).trans up4) os ag
          obtain ⟨oe4, vs4, he4, hz4, hd4⟩ := fl4.there
          have S4 := J4.suite he4 hd4 na nL nF
          refine store_ok (X := X.suite a ((a, oe4) :: (X.pn ++ pins))) (v := .ref a) S4 hN hi hloc rfl (fun s5 S5 => ?_) (.inr hln)
          refine wpAny_mono ((hsu a oe4 cls d (X.pn ++ pins) hz4 ⟨_, hd4⟩).run [] s5 _ H' _ S5 (hyes rfl a na)) (fun f s6 hsp => ?_) (fun _ _ z => False.elim z)
          have end_ : ∀ {σ6 : L2.St} {H6 : Hp} {Q : Shared → Prop}, Inv (X.suite a ((a, oe4) :: (X.pn ++ pins))) [] σ6 H6 s6 → (∀ s7, Inv X pins (σ6.set i none) H6 s7 → Q s7) →
              wpAny (model X.prog X.w) X.A (do bindName X.env n .none; unbindBehindTheSuite X.env n pos') (fun _ s7 => Q s7) X.xe s6 := fun {σ6 H6 Q} S6 hq => gone_ok (S6.unsuite ok) hN hi hln hq
          cases f with
          | next =>
            obtain ⟨σ6, H6, S6, q6⟩ := hsp
            exact end_ S6 fun s7 J7 => ⟨_, _, J7, q6⟩
          | brk =>
            obtain ⟨σ6, H6, S6, q6⟩ := hsp
            exact end_ S6 fun s7 J7 => ⟨_, _, J7, q6⟩
          | cont =>
            obtain ⟨σ6, H6, S6, q6⟩ := hsp
            exact end_ S6 fun s7 J7 => ⟨_, _, J7, q6⟩
          | ret u =>
            obtain ⟨v6, σ6, H6, S6, r6, q6⟩ := hsp
            exact end_ S6 fun s7 J7 => ⟨_, _, _, J7, r6, q6⟩
        | false =>
          show wpAny _ X.A (handleBy (.ref a) X.env hds2) _ _ _
          exact ih (hno rfl)
    exact go hh w
  · cases f with
    | next =>
      obtain ⟨σ', H', J', q⟩ := hsp
      exact wpAny_execs_nil ⟨σ', H', J'.ofTry ok, q⟩
    | brk =>
      obtain ⟨σ', H', J', q⟩ := hsp
      exact ⟨σ', H', J'.ofTry ok, q⟩
    | cont =>
      obtain ⟨σ', H', J', q⟩ := hsp
      exact ⟨σ', H', J'.ofTry ok, q⟩
    | ret u =>
      obtain ⟨v, σ', H', J', r, q⟩ := hsp
      exact ⟨v, σ', H', J'.ofTry ok, r, q⟩
end
theorem made_heap {H1 H2 : Hp} {a d : Addr} {C : Addr} {fs : List (Str × V)} (ha : H1 a = none) (hda : d ≠ a) (h : ∀ b, b ≠ a → b ≠ d → H2 b = upd H1 a (exo a C none) b) : upd (del H2 a) d (.xd fs) = upd H1 d (.xd fs) := by
  funext b
  by_cases e1 : b = d
  · subst e1; rw [upd_same, upd_same]
  · rw [upd_ne e1, upd_ne e1]
    by_cases e2 : b = a
    · subst e2; rw [del_same, ha]
    · rw [del_ne e2, h b e2 e1, upd_ne e2]
end NK
namespace FM
open PySem PySem.Spec PyProof.Rows L2
/-! ### raise -/
def mRaise (c n : Nat) (ma : MA) : MS := fun g m => (ma g m).then g fun vs m1 => match dats vs with
  | some ds => if ds.length = n then .ex c ds.reverse g m1 else .bad
  | none => .bad
section
variable {X : Cx} {C : Fc} {e : Expr} {st : Stmt} {ma : MA} {me mb : ME}
theorem zip_rev {α β : Type} {a : List α} {b : List β} (h : a.length = b.length) : (a.zip b).reverse = a.reverse.zip b.reverse := by
  unfold List.zip
  exact List.reverse_zipWith h
theorem fs_raise {c n : Nat} {fs : List Str} (h : PS X st (NK.tRaiseW C.T.K (C.T.ca c) fs C.W (FA C ma))) (T : OexC C.T.K (C.T.ca c)) (hf : ∀ f ∈ fs, PySem.W.findIn C.T.K (.ref (C.T.ca c)) f = some none) (hc : C.T.cf c = fs.reverse) (hn : fs.length = n) (hs : n ≤ 900) : PS X st (FS C (mRaise c n ma)) := ps_of h fun D σ H ⟨B, g, S, m, vs, I, A, r, w⟩ => by
  refine ⟨B, g, S, m, vs, I, A, r, ?_⟩
  unfold mRaise at w
  cases ea : ma g m with
  | bad => rw [ea] at w; exact w.elim
  | ex c fs m' => rw [ea] at w; exact w
  | ok ds m1 =>
    rw [ea] at w
    intro ws H1 I1 A1 hl r1
    obtain ⟨q1, q2⟩ := r1.stk.split hl
    have r0 : Rel C.T C.x B g S m1 σ vs H1 I1 A1 := { r1 with stk := q2 }
    have w1 : WantS C B S vs D (match dats ds with
      | some ds => if ds.length = n then .ex c ds.reverse g m1 else .bad
      | none => .bad) := w
    cases ed : dats ds with
    | none => simp only [ed] at w1; exact (show False from w1).elim
    | some es =>
      simp only [ed] at w1
      by_cases he : es.length = n
      · rw [if_pos he] at w1
        have hd := q1.dats ed
        have hwl : ws.length = fs.length := by rw [hd.len, he, hn]
        refine ⟨by rw [hd.len, he]; omega, fun a ha => ⟨a, C.T.ca c, ws, by rw [List.append_nil], hwl, T, hf, upd_same, fun dx H' hdx hne h1 h2 h3 => ⟨rfl, dx, _, h1, h2, ?_, ?_⟩⟩⟩
        · rw [upd_ne hne] at hdx
          exact hdx
        · rw [upd_ne hne] at hdx
          rw [NK.made_heap ha hne h3]
          obtain ⟨b, u⟩ := r0.base.new (o := .xd (fs.zip ws).reverse) hdx
          refine w1 σ _ _ _ dx ws.reverse (r0.step b u) ?_ ?_ (hd.rev.mono u.i)
          · rw [upd_same, hc, zip_rev hwl.symm]
          · rw [hc, List.length_reverse, List.length_reverse, hwl]
      · rw [if_neg he] at w1; exact (show False from w1).elim
/-! ### try -/
/-- a clause: its slot, which classes it takes, its suite -/
structure Hd where
  i : Option Nat
  mt : Nat → Option Bool
  su : Nat → List Dt → MS
def gOff (i : Option Nat) (g : Gam) : Gam := match i with
  | some i => g.set i none
  | none => g
def gIn (i : Option Nat) (g : Gam) : Bool := match i with
  | some i => decide (i < g.length)
  | none => true
def endS (i : Option Nat) : Out → Out
  | .nx g m => .nx (gOff i g) m
  | .bk g m => .bk (gOff i g) m
  | .ct g m => .ct (gOff i g) m
  | .rt v m => .rt v m
  | _ => .bad
def mHs : List Hd → Nat → List Dt → MS
  | [], c, ds => fun g m => .ex c ds g m
  | h :: r, c, ds => fun g m => match h.mt c with
    | some true => if gIn h.i g then endS h.i (h.su c ds (gOff h.i g) m) else .bad
    | some false => mHs r c ds g m
    | none => .bad
theorem Rel.reX {T : Tab} {x x' : Option Xc} {B : Bs} {g : Gam} {S : List Vl} {m : Cells} {σ : L2.St} {vs : List V} {H I : Hp} {A : List Addr} (r : Rel T x B g S m σ vs H I A) (e : x' = none) : Rel T x' B g S m σ vs H I A := ⟨r.base, r.up, r.ctx, r.stk, by rw [e]; trivial⟩
theorem Rel.reXd {T : Tab} {x x' : Option Xc} {B : Bs} {g : Gam} {S : List Vl} {m : Cells} {σ : L2.St} {vs : List V} {H I : Hp} {A : List Addr} (i : Nat) (r : Rel T x B g S m σ vs H I A) (e : x' = none) : Rel T x' B (g.set i none) S m (σ.set i none) vs H I A := ⟨r.base, r.up, r.ctx.drop, r.stk, by rw [e]; trivial⟩
def mTry (s : MS) (hs : List Hd) : MS := fun g m => match s g m with
  | .ex c ds g' m' => mHs hs c ds g' m'
  | o => o
/-- a clause's suite as a reading -/
def tSu (T : Tab) (h : Hd) : Addr → Value → Option Addr → TS := fun a cls d D σ H => ∃ c dd ds, cls = .ref (T.ca c) ∧ d = some dd ∧ FS ⟨T, h.i.map fun i => ⟨i, a, dd, c, ds⟩, W0⟩ (h.su c ds) D σ H
def tHd (T : Tab) (cv : Value) (h : Hd) : NK.HdT := (h.i, cv, tSu T h)
/-- what is asked of a clause's classes -/
def HdOk (T : Tab) (cv : Value) (h : Hd) : Prop := ∀ c b, h.mt c = some b → PySem.W.exmOne T.K (.ref (T.ca c)) cv = some b
def HdsOkF (T : Tab) : List (Value × Hd) → Prop
  | [] => True
  | p :: r => HdOk T p.1 p.2 ∧ HdsOkF T r
theorem hds_ok {D : Ends} {B : Bs} {S : List Vl} {vs : List V} (cx : C.x = none) : ∀ (hs : List (Value × Hd)), HdsOkF C.T hs → ∀ (c : Nat) (ds : List Dt) (g : Gam) (m : Cells), WantS C B S vs D (mHs (hs.map (·.2)) c ds g m) →
    WantX ⟨C.T, C.x, NK.wMix C.T.K C.W D (hs.map fun p => tHd C.T p.1 p.2)⟩ B S vs c ds g m
  | [], _, c, ds, g, m, w => w
  | p :: r, ⟨h1, h2⟩, c, ds, g, m, w => by
    intro σ H' I' A' dx ws rl e1 e2 e3
    obtain ⟨cv, ⟨i, mt, su⟩⟩ := p
    unfold List.map mHs at w
    cases em : mt c with
    | none => simp only [em] at w; exact (show False from w).elim
    | some b =>
      simp only [em] at w
      have hk := h1 c b em
      cases b with
      | false =>
        have ih := hds_ok cx r h2 c ds g m w σ H' I' A' dx ws rl e1 e2 e3
        cases i with
        | none => exact ⟨false, hk, (fun z => nomatch z), fun _ => ih⟩
        | some i => exact ⟨false, hk, (fun z => nomatch z), fun _ => ih⟩
      | true =>
        cases i with
        | none =>
          have w1 : WantS C B S vs D (endS none (su c ds g m)) := w
          refine ⟨true, hk, fun _ a ha => ⟨c, dx, ds, rfl, rfl, B, g, S, m, vs, I', A', rl.reX rfl, ?_⟩, (fun z => nomatch z)⟩
          show WantS _ B S vs _ (su c ds g m)
          cases es : su c ds g m with
          | nx g' m' => rw [es] at w1; exact fun σ' H' I' A' r' => w1 σ' H' I' A' (r'.reX cx)
          | rt d m' => rw [es] at w1; exact fun g' σ' v H' I' A' r' => w1 g' σ' v H' I' A' (r'.reX cx)
          | bk g' m' => rw [es] at w1; exact fun σ' H' I' A' r' => w1 σ' H' I' A' (r'.reX cx)
          | ct g' m' => rw [es] at w1; exact fun σ' H' I' A' r' => w1 σ' H' I' A' (r'.reX cx)
          | ex c fs g' m' => rw [es] at w1; exact (show False from w1).elim
          | bad => rw [es] at w1; exact (show False from w1).elim
        | some i =>
          have w0 : WantS C B S vs D (if gIn (some i) g then endS (some i) (su c ds (g.set i none) m) else .bad) := w
          by_cases hg : gIn (some i) g = true
          · rw [if_pos hg] at w0
            have hi : i < σ.length := by rw [rl.ctx.len]; exact of_decide_eq_true hg
            refine ⟨true, hk, fun _ a ha => ⟨c, dx, ds, rfl, rfl, B, g.set i none, S, m, vs, I', A', ⟨rl.base, rl.up, rl.ctx.drop, rl.stk, ⟨List.getElem?_set_self hi, ws, e1, e2, e3⟩⟩, ?_⟩, (fun z => nomatch z)⟩
            show WantS _ B S vs _ (su c ds (g.set i none) m)
            cases es : su c ds (g.set i none) m with
            | nx g' m' => rw [es] at w0; exact fun σ' H' I' A' r' => w0 (σ'.set i none) H' I' A' (r'.reXd i cx)
            | rt d m' => rw [es] at w0; exact fun g' σ' v H' I' A' r' => w0 g' σ' v H' I' A' (r'.reX cx)
            | bk g' m' => rw [es] at w0; exact fun σ' H' I' A' r' => w0 (σ'.set i none) H' I' A' (r'.reXd i cx)
            | ct g' m' => rw [es] at w0; exact fun σ' H' I' A' r' => w0 (σ'.set i none) H' I' A' (r'.reXd i cx)
            | ex c fs g' m' => rw [es] at w0; exact (show False from w0).elim
            | bad => rw [es] at w0; exact (show False from w0).elim
          · rw [if_neg hg] at w0; exact (show False from w0).elim
theorem fs_try {s : MS} {hs : List (Value × Hd)} (h : PS X st (fun D σ H => FS ⟨C.T, C.x, NK.wMix C.T.K C.W D (hs.map fun p => tHd C.T p.1 p.2)⟩ s D σ H)) (ok : HdsOkF C.T hs) (cx : C.x = none) : PS X st (FS C (mTry s (hs.map (·.2)))) := ps_of h fun D σ H ⟨B, g, S, m, vs, I, A, r, w⟩ => by
  refine ⟨B, g, S, m, vs, I, A, r, ?_⟩
  unfold mTry at w
  cases es : s g m with
  | nx g' m' => rw [es] at w; exact w
  | rt d m' => rw [es] at w; exact w
  | bk g' m' => rw [es] at w; exact w
  | ct g' m' => rw [es] at w; exact w
  | bad => rw [es] at w; exact w.elim
  | ex c ds g' m' => rw [es] at w; exact hds_ok cx hs ok c ds g' m' w
/-- the suite's derivation -/
theorem su_ok {Y : Cx} {ss : List Stmt} {T : Tab} {h : Hd} {a : Addr} {cls : Value} {d : Option Addr} (k : ∀ c dd ds, cls = .ref (T.ca c) → d = some dd → PSs Y ss (FS ⟨T, h.i.map fun i => ⟨i, a, dd, c, ds⟩, W0⟩ (h.su c ds))) : PSs Y ss (tSu T h a cls d) :=
  ⟨fun pins s σ H D I ⟨c, dd, ds, e1, e2, q⟩ => (k c dd ds e1 e2).run pins s σ H D I q⟩
/-- e.f in the suite -/
def mXf (ix : FTab) (c : Nat) (ds : List Dt) : ME := fun _ m => match (ix c).bind fun i => ds[i]? with
  | some d => .ok (.d d) m
  | none => .bad
/-- .. one class after another -/
def tXfA (a : Addr) (cls : Value) (d : Option Addr) (P : Addr → Prop) (f : Str) (te : TE) : TE := fun σ H Q => te σ H fun x H1 => x = .ref a ∧ ∃ (Cc dd : Addr) (fs : List (Str × V)) (v : V), P Cc ∧ cls = .ref Cc ∧ d = some dd ∧ H1 dd = some (.xd fs) ∧ fs.lookup f = some v ∧ Q v H1
structure XFldOk (T : Tab) (f : Str) (ix : FTab) : Prop where
  ok : ∀ c i, ix c = some i → XfC T.K (T.ca c) ∧ PySem.W.findIn T.K (.ref (T.ca c)) f = some none ∧ (T.cf c)[i]? = some f ∧ (T.cf c).Nodup
theorem fe_xf {f : Str} {ix : FTab} {i : Nat} {a dd : Addr} {c : Nat} {ds : List Dt} {T : Tab} {W : WX} {oe : Obj} {pn : List (Addr × Obj)} {pos : Pos} (k : XFldOk T f ix) (hK : T.K = X.K)
    (hz : Zc (.ref (T.ca c)) (some dd) oe) (hf : ∃ vs, oe.data = .fields vs) (he : PE (X.suite a ((a, oe) :: pn)) e (tVar i)) (hb : attributeBase e f X.env (eval e X.env) = eval e X.env := by rfl) :
    PE (X.suite a ((a, oe) :: pn)) (.Attribute e f pos) (FE ⟨T, some ⟨i, a, dd, c, ds⟩, W⟩ (mXf ix c ds)) := ⟨fun pins s σ H Q I ⟨B, g, S, m, vs, I', A, r, w⟩ => by
  unfold mXf at w
  cases ei : ix c with
  | none => simp only [ei, Option.bind_none] at w; exact (show False from w).elim
  | some j =>
    obtain ⟨k1, k2, k3, k4⟩ := k.ok c j ei
    cases ed : ds[j]? with
    | none => simp only [ei, ed, Option.bind_some] at w; exact (show False from w).elim
    | some d =>
      simp only [ei, ed, Option.bind_some] at w
      obtain ⟨h1, us, h2, h3, h4⟩ := r.xc
      obtain ⟨u, hu, hd⟩ := h4.get ed
      exact (pe_xf (d := some dd) (hK ▸ k1) (hK ▸ k2) hz hf he hb).run pins s σ H Q I ⟨.ref a, h1, rfl, rfl, dd, _, u, rfl, r.sub _ _ h2, zip_look k4 k3 hu, w _ _ _ _ (r.push (.d hd))⟩⟩
end
end FM

namespace FM
open PySem PySem.Spec PyProof.Rows L2
/-! ### == of data, own classes among them -/
mutual
def okD : Dt → Bool
  | .non => true | .bl _ => true | .int _ => true | .str _ => true
  | .lst xs => oksD xs | .tup xs => oksD xs | .ins _ fs => oksD fs
  | _ => false
def oksD : List Dt → Bool
  | [] => true
  | d :: ds => okD d && oksD ds
end
section
variable {X : Cx} {pins : List (Addr × Obj)} {σ : L2.St} {H I : Hp} {s : Shared} {T : Tab}
theorem inv_l (inv : Inv X pins σ H s) {a : Addr} {xs : List V} (h : SqL X.K H a xs) : ∃ o, s.heap.get? a = some o ∧ o.cls = .type "list" := by
  obtain ⟨_, _, ⟨o, n, e, c, _, _⟩, _⟩ := inv.list h
  exact ⟨o, e, c⟩
theorem inv_t (inv : Inv X pins σ H s) {a : Addr} {xs : List V} (h : SqT X.K H a xs) : ∃ o, s.heap.get? a = some o ∧ o.cls = .type "tuple" := by
  obtain ⟨_, _, ⟨o, e, c, _, _⟩, _⟩ := inv.tuple h
  exact ⟨o, e, c⟩
theorem inv_i (inv : Inv X pins σ H s) {a C dx : Addr} {fs : List (Str × V)} (h : H a = some (.ins C dx fs)) : ∃ o, s.heap.get? a = some o ∧ o.cls = .ref C := by
  obtain ⟨mA, J, _⟩ := ins_get inv.hok h
  obtain ⟨od, J, _⟩ := J.look
  exact ⟨_, J.at_, J.cls⟩
theorem cls_no {a : Addr} {c c' : Value} (h : ∃ o, s.heap.get? a = some o ∧ o.cls = c) (h' : ∃ o, s.heap.get? a = some o ∧ o.cls = c') : c = c' := by
  obtain ⟨o, e, q⟩ := h
  obtain ⟨o', e', q'⟩ := h'
  rw [e] at e'
  cases e'
  exact q.symm.trans q'
/-- classes at unlike places are unlike -/
def TabInj (T : Tab) (N : Nat) : Prop := ∀ c c', c < N → c' < N → T.ca c = T.ca c' → c = c'
theorem zip_inj {α β : Type} : ∀ {ks : List α} {xs ys : List β}, xs.length = ks.length → ys.length = ks.length → ks.zip xs = ks.zip ys → xs = ys
  | [], [], [], _, _, _ => rfl
  | k :: ks, x :: xs, y :: ys, h1, h2, e => by
    rw [List.zip_cons_cons, List.zip_cons_cons] at e
    injection e with e1 e2
    injection e1 with _ e3
    rw [e3, zip_inj (by simpa using h1) (by simpa using h2) e2]
mutual
/-- the classes in data are known ones -/
def insD (N : Nat) : Dt → Bool
  | .lst xs => inssD N xs | .tup xs => inssD N xs | .ins c fs => decide (c < N) && inssD N fs
  | .dct _ xs => inssD N xs | .scr xs => inssD N xs
  | _ => true
def inssD (N : Nat) : List Dt → Bool
  | [] => true
  | d :: ds => insD N d && inssD N ds
end
variable {N : Nat}
mutual
theorem dr_fun (hK : T.K = X.K) (tj : TabInj T N) (inv : Inv X pins σ H s) (hs : Same I H) : ∀ {v : V} {d1 d2 : Dt}, DR T I v d1 → DR T I v d2 → okD d1 = true → okD d2 = true → insD N d1 = true → insD N d2 = true → d1 = d2
  | _, _, _, .non, h2, _, _, _, _ => by cases h2; rfl
  | _, _, _, .bl b, h2, _, _, _, _ => by cases h2; rfl
  | _, _, _, .int i, h2, _, _, _, _ => by cases h2; rfl
  | _, _, _, .str x, h2, _, _, _, _ => by cases h2; rfl
  | _, _, _, .glo i, h2, p1, _, _, _ => by simp [okD] at p1
  | _, _, _, .scr _ _, h2, p1, _, _, _ => by simp [okD] at p1
  | _, _, _, .dct _ _ _, h2, p1, _, _, _ => by simp [okD] at p1
  | _, _, _, .lst (a := a) (ds := ds) h hs1, h2, p1, p2, n1, n2 => by
    generalize hv : V.ref a = v at h2
    cases h2 with
    | glo => simp [okD] at p2
    | scr => simp [okD] at p2
    | dct => simp [okD] at p2
    | lst h' hs2 =>
      cases hv
      rw [h] at h'
      cases h'
      rw [drs_fun hK tj inv hs hs1 hs2 (by simpa [okD] using p1) (by simpa [okD] using p2) (by simpa [insD] using n1) (by simpa [insD] using n2)]
    | tup h' _ => cases hv; exact nomatch cls_no (inv_l inv (.inl (.inl (hs _ _ h)))) (inv_t inv (hK ▸ same_t hs h'))
    | ins h' _ _ => cases hv; exact nomatch cls_no (inv_l inv (.inl (.inl (hs _ _ h)))) (inv_i inv (hs _ _ h'))
    | _ => cases hv
  | _, _, _, .tup (a := a) (ds := ds) h hs1, h2, p1, p2, n1, n2 => by
    generalize hv : V.ref a = v at h2
    cases h2 with
    | glo => simp [okD] at p2
    | scr => simp [okD] at p2
    | dct => simp [okD] at p2
    | tup h' hs2 =>
      cases hv
      have e := inv.tuple_inj (hK ▸ same_t hs h) (hK ▸ same_t hs h')
      subst e
      rw [drs_fun hK tj inv hs hs1 hs2 (by simpa [okD] using p1) (by simpa [okD] using p2) (by simpa [insD] using n1) (by simpa [insD] using n2)]
    | lst h' _ => cases hv; exact nomatch cls_no (inv_t inv (hK ▸ same_t hs h)) (inv_l inv (.inl (.inl (hs _ _ h'))))
    | ins h' _ _ => cases hv; exact nomatch cls_no (inv_t inv (hK ▸ same_t hs h)) (inv_i inv (hs _ _ h'))
    | _ => cases hv
  | _, _, _, .ins (a := a) (c := c) (ds := ds) h hl hs1, h2, p1, p2, n1, n2 => by
    generalize hv : V.ref a = v at h2
    cases h2 with
    | glo => simp [okD] at p2
    | scr => simp [okD] at p2
    | dct => simp [okD] at p2
    | ins h' hl' hs2 =>
      cases hv
      rw [h] at h'
      simp only [Option.some.injEq, HO.ins.injEq] at h'
      simp only [insD, Bool.and_eq_true, decide_eq_true_eq] at n1 n2
      have ec := tj _ _ n1.1 n2.1 h'.1
      subst ec
      have ex := zip_inj hl hl' h'.2.2
      subst ex
      rw [drs_fun hK tj inv hs hs1 hs2 (by simpa [okD] using p1) (by simpa [okD] using p2) n1.2 n2.2]
    | lst h' _ => cases hv; exact nomatch cls_no (inv_i inv (hs _ _ h)) (inv_l inv (.inl (.inl (hs _ _ h'))))
    | tup h' _ => cases hv; exact nomatch cls_no (inv_i inv (hs _ _ h)) (inv_t inv (hK ▸ same_t hs h'))
    | _ => cases hv
theorem drs_fun (hK : T.K = X.K) (tj : TabInj T N) (inv : Inv X pins σ H s) (hs : Same I H) : ∀ {vs : List V} {d1 d2 : List Dt}, DRs T I vs d1 → DRs T I vs d2 → oksD d1 = true → oksD d2 = true → inssD N d1 = true → inssD N d2 = true → d1 = d2
  | _, _, _, .nil, h2, _, _, _, _ => by cases h2; rfl
  | _, _, _, .cons h t, h2, p1, p2, n1, n2 => by
    cases h2 with
    | cons h' t' =>
      simp only [oksD, inssD, Bool.and_eq_true] at p1 p2 n1 n2
      rw [dr_fun hK tj inv hs h h' p1.1 p2.1 n1.1 n2.1, drs_fun hK tj inv hs t t' p1.2 p2.2 n1.2 n2.2]
end
end
/-- how two data compare -/
abbrev Dq := Dt → Dt → Bool → Prop
/-- the heap has grown -/
def Grow (X : Cx) (pins : List (Addr × Obj)) (σ : L2.St) (T : Tab) (F : Frm) (I : Hp) (L : List Addr) (m : Cells) (s' : Shared) : Prop := ∃ I' H', Inv X pins σ H' s' ∧ Base T F I' H' L m ∧ Same I I'
def EqK (X : Cx) (T : Tab) (n : Nat) (D : Dq) : Prop := ∀ (A : Around) (pins : List (Addr × Obj)) (s : Shared) (σ : L2.St) (F : Frm) (H I : Hp) (L : List Addr) (m : Cells) (x y : V) (u v : Value) (d1 d2 : Dt) (b : Bool), L2.Sub X n A → Inv X pins σ H s → Base T F I H L m → DR T I x d1 → DR T I y d2 → RelV x u → RelV y v → D d1 d2 b →
  wpAny (model X.prog X.w) A (eqBool u v) (fun r s' => r = b ∧ Grow X pins σ T F I L m s') X.xe s
def RcK (X : Cx) (T : Tab) (n : Nat) (neg : Bool) (D : Dq) : Prop := ∀ (A : Around) (pins : List (Addr × Obj)) (s : Shared) (σ : L2.St) (F : Frm) (H I : Hp) (L : List Addr) (m : Cells) (x y : V) (u v : Value) (d1 d2 : Dt) (b : Bool), L2.Sub X n A → Inv X pins σ H s → Base T F I H L m → DR T I x d1 → DR T I y d2 → RelV x u → RelV y v → D d1 d2 b →
  wpAny (model X.prog X.w) A (richCompare (NK.opN neg) u v) (fun r s' => r = .bool (neg != b) ∧ Grow X pins σ T F I L m s') X.xe s
/-- what is compared is whole data, and the same is equal -/
structure Tame (N : Nat) (D : Dq) : Prop where
  p1 : ∀ d1 d2 b, D d1 d2 b → okD d1 = true ∧ insD N d1 = true
  p2 : ∀ d1 d2 b, D d1 d2 b → okD d2 = true ∧ insD N d2 = true
  rf : ∀ d b, D d d b → b = true
section
variable {X : Cx} {T : Tab} {n m' : Nat} {D D' : Dq} {N : Nat}
theorem Tame.or (h : Tame N D) (h' : Tame N D') : Tame N (fun x y b => D x y b ∨ D' x y b) := ⟨fun d1 d2 b q => q.elim (h.p1 _ _ _) (h'.p1 _ _ _), fun d1 d2 b q => q.elim (h.p2 _ _ _) (h'.p2 _ _ _), fun d b q => q.elim (h.rf _ _) (h'.rf _ _)⟩
theorem EqK.mono (h : EqK X T n D) (hn : n ≤ m') : EqK X T m' D := fun A pins s σ F H I L m x y u v d1 d2 b sb => h A pins s σ F H I L m x y u v d1 d2 b (sb.mono hn)
theorem RcK.mono {neg : Bool} (h : RcK X T n neg D) (hn : n ≤ m') : RcK X T m' neg D := fun A pins s σ F H I L m x y u v d1 d2 b sb => h A pins s σ F H I L m x y u v d1 d2 b (sb.mono hn)
theorem EqK.or (h : EqK X T n D) (h' : EqK X T n D') : EqK X T n (fun x y b => D x y b ∨ D' x y b) := fun A pins s σ F H I L m x y u v d1 d2 b sb inv hs r1 r2 rx ry d => by
  rcases d with d | d
  · exact h A pins s σ F H I L m x y u v d1 d2 b sb inv hs r1 r2 rx ry d
  · exact h' A pins s σ F H I L m x y u v d1 d2 b sb inv hs r1 r2 rx ry d
theorem RcK.or {neg : Bool} (h : RcK X T n neg D) (h' : RcK X T n neg D') : RcK X T n neg (fun x y b => D x y b ∨ D' x y b) := fun A pins s σ F H I L m x y u v d1 d2 b sb inv hs r1 r2 rx ry d => by
  rcases d with d | d
  · exact h A pins s σ F H I L m x y u v d1 d2 b sb inv hs r1 r2 rx ry d
  · exact h' A pins s σ F H I L m x y u v d1 d2 b sb inv hs r1 r2 rx ry d
theorem EqK.imp (h : EqK X T n D) (hd : ∀ x y b, D' x y b → D x y b) : EqK X T n D' := fun A pins s σ F H I L m x y u v d1 d2 b sb inv hs r1 r2 rx ry d => h A pins s σ F H I L m x y u v d1 d2 b sb inv hs r1 r2 rx ry (hd _ _ _ d)
theorem RcK.imp {neg : Bool} (h : RcK X T n neg D) (hd : ∀ x y b, D' x y b → D x y b) : RcK X T n neg D' := fun A pins s σ F H I L m x y u v d1 d2 b sb inv hs r1 r2 rx ry d => h A pins s σ F H I L m x y u v d1 d2 b sb inv hs r1 r2 rx ry (hd _ _ _ d)
def DqF : Dq := fun d1 d2 b => ∃ x y, flatD d1 = some x ∧ flatD d2 = some y ∧ b = eqV x y
theorem eqK_flat : EqK X T 0 DqF := fun A pins s σ F H I L m x y u v d1 d2 b sb inv hs r1 r2 rx ry ⟨x', y', f1, f2, e⟩ => by
  obtain ⟨rfl, g1⟩ := flatD_ok f1 r1
  obtain ⟨rfl, g2⟩ := flatD_ok f2 r2
  subst e
  exact eqAt_V (A := A) (s := s) rx ry g1 g2 X.prog X.w X.xe _ ⟨rfl, I, H, inv, hs, Same.refl I⟩
theorem eqV_refl {x : V} (h : flatV x = true) : eqV x x = true := by
  cases x <;> simp [flatV] at h <;> simp [eqV]
theorem tame_flat : Tame N DqF := ⟨fun d1 d2 b ⟨x, y, h, _, _⟩ => by cases d1 <;> simp [flatD] at h <;> exact ⟨rfl, rfl⟩, fun d1 d2 b ⟨x, y, _, h, _⟩ => by cases d2 <;> simp [flatD] at h <;> exact ⟨rfl, rfl⟩, fun d b ⟨x, y, h1, h2, e⟩ => by
  rw [h1] at h2
  cases h2
  rw [e]
  cases d <;> simp [flatD] at h1 <;> subst h1 <;> exact eqV_refl rfl⟩
theorem eqBool_other {M : Model} {A : Around} {E : Value → Shared → Prop} {s : Shared} {u v : Value} {Q : Bool → Shared → Prop} (hu : ∀ a t, u ≠ .float a t) (hne : u ≠ v) (h : wpAny M A (richCompare .Eq u v) (fun r s' => ∃ b, r = .bool b ∧ Q b s') E s) : wpAny M A (eqBool u v) Q E s := by
  unfold eqBool
  refine wpAny_holding ?_
  refine wpAny_ite_split (fun hab => absurd (eq_of_beq hab) hne) (fun _ => ?_)
  cases u with
  | float a t => exact absurd rfl (hu a t)
  | _ =>
    refine wpAny_bind (wpAny_mono h (fun r s' hv => ?_) fun _ _ x => x)
    obtain ⟨b, rfl, q⟩ := hv
    exact wpAny_truthy_bool q
theorem dr_nofloat {I : Hp} {x : V} {d : Dt} {u : Value} (h : DR T I x d) (r : RelV x u) : ∀ a t, u ≠ .float a t := fun a t e => by
  subst e
  cases h <;> first | exact nomatch (show Value.float a t = _ from r) | (obtain ⟨t', q⟩ := r; exact nomatch q)
theorem RcK.eqK (hK : T.K = X.K) (tj : TabInj T N) (h : RcK X T n false D) (t : Tame N D) : EqK X T n D := fun A pins s σ F H I L m x y u v d1 d2 b sb inv hs r1 r2 rx ry d => by
  by_cases e : u = v
  · subst e
    have exy := rx.inj ry
    subst exy
    have ed := dr_fun hK tj inv hs.sub r1 r2 (t.p1 _ _ _ d).1 (t.p2 _ _ _ d).1 (t.p1 _ _ _ d).2 (t.p2 _ _ _ d).2
    subst ed
    rw [t.rf _ _ d]
    exact SeqAt.EqAt.same (A := A) (s := s) u X.prog X.w X.xe _ ⟨rfl, I, H, inv, hs, Same.refl I⟩
  · refine eqBool_other (dr_nofloat r1 rx) e (wpAny_mono (h A pins s σ F H I L m x y u v d1 d2 b sb inv hs r1 r2 rx ry d) (fun r s' q => ?_) fun _ _ x => x)
    exact ⟨b, by rw [q.1]; cases b <;> rfl, rfl, q.2⟩
/-- item by item, as far as the first that differs -/
structure Its (D : Dq) (xs ys : List Dt) (e : Nat → Bool) : Prop where
  at_ : ∀ (i : Nat) x y, (∀ j, j < i → e j = true) → xs[i]? = some x → ys[i]? = some y → D x y (e i)
def okN (N : Nat) (d : Dt) : Prop := okD d = true ∧ insD N d = true
def DqL (N : Nat) (D : Dq) : Dq := fun d1 d2 b => okN N d1 ∧ okN N d2 ∧ ∃ xs ys, d1 = .lst xs ∧ d2 = .lst ys ∧ ((xs.length = ys.length ∧ ∃ e, Its D xs ys e ∧ b = NQ.allFrom e xs.length 0) ∨ (xs.length ≠ ys.length ∧ b = false))
def DqT (N : Nat) (D : Dq) : Dq := fun d1 d2 b => okN N d1 ∧ okN N d2 ∧ ∃ xs ys, d1 = .tup xs ∧ d2 = .tup ys ∧ ∃ e, Its D xs ys e ∧ b = (NQ.allFrom e (min xs.length ys.length) 0 && xs.length == ys.length)
theorem its_rf (t : Tame N D) {xs : List Dt} {e : Nat → Bool} (h : Its D xs xs e) : NQ.allFrom e xs.length 0 = true := by
  have k : ∀ n, ∀ i, i < n → i < xs.length → e i = true := by
    intro n
    induction n with
    | zero => intro i hi; exact absurd hi (Nat.not_lt_zero i)
    | succ n ih =>
      intro i hi hx
      exact t.rf _ _ (h.at_ i _ _ (fun j hj => ih j (by omega) (by omega)) (List.getElem?_eq_getElem hx) (List.getElem?_eq_getElem hx))
  unfold NQ.allFrom
  rw [List.drop_zero, List.all_eq_true]
  intro i hi
  exact k (i + 1) i (Nat.lt_succ_self i) (List.mem_range.mp hi)
theorem tame_l (t : Tame N D) : Tame N (DqL N D) := ⟨fun _ _ _ q => q.1, fun _ _ _ q => q.2.1, fun d b ⟨_, _, xs, ys, e1, e2, q⟩ => by
  rw [e1] at e2
  cases e2
  rcases q with ⟨_, e, h, hb⟩ | ⟨h, _⟩
  · rw [hb]; exact its_rf t h
  · exact absurd rfl h⟩
theorem tame_t (t : Tame N D) : Tame N (DqT N D) := ⟨fun _ _ _ q => q.1, fun _ _ _ q => q.2.1, fun d b ⟨_, _, xs, ys, e1, e2, e, h, hb⟩ => by
  rw [e1] at e2
  cases e2
  rw [hb, Nat.min_self, its_rf t h]
  simp⟩
theorem turnK (h : EqK X T n D) {A : Around} (sb : L2.Sub X (n + 1) A) {pins : List (Addr × Obj)} {σ : L2.St} {F : Frm} {I : Hp} {L : List Addr} {m : Cells} {xs ys : List Dt} {vs ws : List V} {its its2 : List Value} {e : Nat → Bool} (p : Its D xs ys e)
    (r1 : DRs T I vs xs) (r2 : DRs T I ws ys) (r : Vals vs its) (r' : Vals ws its2)
    (i : Nat) (h1 : i < its.toArray.size) (h2 : i < its2.toArray.size) (s' : Shared) (pre : ∀ j, j < i → e j = true) (l : Grow X pins σ T F I L m s') :
    wpAny (model X.prog X.w) A.in1 (eqBool its.toArray[i] its2.toArray[i]) (fun r s2 => r = e i ∧ Grow X pins σ T F I L m s2) X.xe s' := by
  obtain ⟨I1, H1, inv1, b1, up1⟩ := l
  have h1' : i < its.length := by simpa using h1
  have h2' : i < its2.length := by simpa using h2
  have k1 : i < vs.length := by rw [r.length]; exact h1'
  have k2 : i < ws.length := by rw [r'.length]; exact h2'
  obtain ⟨u, hu, ru⟩ := r.get (List.getElem?_eq_getElem k1)
  obtain ⟨v, hv, rv⟩ := r'.get (List.getElem?_eq_getElem k2)
  obtain ⟨x, hx, dx⟩ := r1.getV (List.getElem?_eq_getElem k1)
  obtain ⟨y, hy, dy⟩ := r2.getV (List.getElem?_eq_getElem k2)
  have g1 : its.toArray[i] = u := by
    have := hu
    rw [List.getElem?_eq_getElem h1'] at this
    simpa using Option.some.inj this
  have g2 : its2.toArray[i] = v := by
    have := hv
    rw [List.getElem?_eq_getElem h2'] at this
    simpa using Option.some.inj this
  rw [g1, g2]
  refine wpAny_mono (h A.in1 pins s' σ F H1 I1 L m _ _ u v x y (e i) sb.in1 inv1 b1 (dx.mono up1) (dy.mono up1) ru rv (p.at_ i x y pre hx hy)) (fun r s2 q => ?_) fun _ _ x => x
  obtain ⟨hr, I2, H2, inv2, b2, up2⟩ := q
  exact ⟨hr, I2, H2, inv2, b2, up1.trans up2⟩
theorem rcK_lst (hK : T.K = X.K) (neg : Bool) (h : EqK X T n D) : RcK X T (n + 1) neg (DqL N D) := fun A pins s σ F H I L m x y u v d1 d2 b sb inv hs q1 q2 rx ry ⟨_, _, xs, ys, e1, e2, q⟩ => by
  subst e1
  subst e2
  cases q1 with
  | lst s1 r1 =>
    rename_i a vs
    cases q2 with
    | lst s2 r2 =>
      rename_i b' ws
      cases (show u = Value.ref a from rx)
      cases (show v = Value.ref b' from ry)
      rcases q with ⟨hl, e, p, hb⟩ | ⟨hl, hb⟩
      · have J : NQ.ListJ X.prog X.w A X.xe a b' xs.length e (fun _ s' => Grow X pins σ T F I L m s') := fun i s' g => by
          obtain ⟨I1, H1, inv1, b1, up1⟩ := id g
          obtain ⟨its, r, ⟨⟨c, dd, dt, sl⟩, k, g1, g2, _, g4⟩, _⟩ := inv1.list (.inl (.inl (b1.sub _ _ (up1 _ _ s1))))
          obtain ⟨its2, r', ⟨⟨c', dd', dt', sl'⟩, k', g1', g2', _, g4'⟩, _⟩ := inv1.list (.inl (.inl (b1.sub _ _ (up1 _ _ s2))))
          simp only at g2 g4 g2' g4'
          subst g2 g4 g2' g4'
          exact ⟨its.toArray, its2.toArray, k, k', dd, dd', sl, sl', g1, g1', by rw [List.size_toArray, ← r.length, r1.len], by rw [List.size_toArray, ← r'.length, r2.len, hl], fun pre h1 h2 => turnK h sb p r1 r2 r r' i h1 h2 s' pre g⟩
        cases neg with
        | false => exact NQ.rc_eqL sb.room.units0 _ J (fun j s' g => ⟨by rw [hb]; cases NQ.allFrom e xs.length 0 <;> rfl, g⟩) ⟨I, H, inv, hs, Same.refl I⟩
        | true => exact NQ.rc_neL sb.room.units0 _ J (fun j s' g => ⟨by rw [hb]; cases NQ.allFrom e xs.length 0 <;> rfl, g⟩) ⟨I, H, inv, hs, Same.refl I⟩
      · obtain ⟨its, r, ⟨⟨c, dd, dt, sl⟩, k, g1, g2, _, g4⟩, _⟩ := inv.list (.inl (.inl (hs.sub _ _ s1)))
        obtain ⟨its2, r', ⟨⟨c', dd', dt', sl'⟩, k', g1', g2', _, g4'⟩, _⟩ := inv.list (.inl (.inl (hs.sub _ _ s2)))
        simp only at g2 g4 g2' g4'
        subst g2 g4 g2' g4'
        have hsz : its.toArray.size ≠ its2.toArray.size := by rw [List.size_toArray, List.size_toArray, ← r.length, ← r'.length, r1.len, r2.len]; exact hl
        subst hb
        cases neg with
        | false => exact richCompare_meets_room (op := .Eq) ⟨_, g1, rfl⟩ ⟨_, g1', rfl⟩ PySem.F.slot_list_eq PySem.F.entry_list_eq (PySem.F.args_list_eq_2 _ _) (NQ.list_eq_len _ _ _ _ _ _ _ _ _ _ hsz) ⟨g1, g1', show Value.bool false ≠ Value.notImplemented ∧ (Value.bool false = .bool (false != false) ∧ Grow X pins σ T F I L m s) from ⟨(fun z => nomatch z), rfl, I, H, inv, hs, Same.refl I⟩⟩ sb.room.units0
        | true => exact richCompare_meets_room (op := .NotEq) ⟨_, g1, rfl⟩ ⟨_, g1', rfl⟩ PySem.F.slot_list_ne PySem.F.entry_list_ne (PySem.F.args_list_ne_2 _ _) (NQ.list_ne_len _ _ _ _ _ _ _ _ _ _ hsz) ⟨g1, g1', show Value.bool true ≠ Value.notImplemented ∧ (Value.bool true = .bool (true != false) ∧ Grow X pins σ T F I L m s) from ⟨(fun z => nomatch z), rfl, I, H, inv, hs, Same.refl I⟩⟩ sb.room.units0
theorem rcK_tup (hK : T.K = X.K) (neg : Bool) (h : EqK X T n D) : RcK X T (n + 1) neg (DqT N D) := fun A pins s σ F H I L m x y u v d1 d2 b sb inv hs q1 q2 rx ry ⟨_, _, xs, ys, e1, e2, e, p, hb⟩ => by
  subst e1
  subst e2
  cases q1 with
  | tup s1 r1 =>
    rename_i a vs
    cases q2 with
    | tup s2 r2 =>
      rename_i b' ws
      cases (show u = Value.ref a from rx)
      cases (show v = Value.ref b' from ry)
      obtain ⟨its, r, t1, _⟩ := inv.tuple (hK ▸ same_t hs.sub s1)
      obtain ⟨its2, r', t2, _⟩ := inv.tuple (hK ▸ same_t hs.sub s2)
      have z1 : its.toArray.size = xs.length := by rw [List.size_toArray, ← r.length, r1.len]
      have z2 : its2.toArray.size = ys.length := by rw [List.size_toArray, ← r'.length, r2.len]
      cases neg with
      | false => exact NQ.rc_eqT (N := min xs.length ys.length) (e := e) (by rw [z1, z2]) sb.room.units0 (fun _ s' => Grow X pins σ T F I L m s') t1 t2 (fun i h1 h2 s' pre g => turnK h sb p r1 r2 r r' i h1 h2 s' pre g) (fun j s' g => ⟨by rw [hb, z1, z2]; cases (NQ.allFrom e (min xs.length ys.length) 0 && xs.length == ys.length) <;> rfl, g⟩) ⟨I, H, inv, hs, Same.refl I⟩
      | true => exact NQ.rc_neT (N := min xs.length ys.length) (e := e) (by rw [z1, z2]) sb.room.units0 (fun _ s' => Grow X pins σ T F I L m s') t1 t2 (fun i h1 h2 s' pre g => turnK h sb p r1 r2 r r' i h1 h2 s' pre g) (fun j s' g => ⟨by rw [hb, z1, z2]; cases (NQ.allFrom e (min xs.length ys.length) 0 && xs.length == ys.length) <;> rfl, g⟩) ⟨I, H, inv, hs, Same.refl I⟩
/-- the type of what stands right of an instance of the class at C: not a class below it -/
def TyK (T : Tab) (C : Addr) : Dt → Prop
  | .non => PySem.W.notFirst T.K C (.type "NoneType") = true
  | .bl _ => PySem.W.notFirst T.K C (.type "bool") = true
  | .int _ => PySem.W.notFirst T.K C (.type "int") = true
  | .str _ => PySem.W.notFirst T.K C (.type "str") = true
  | .lst _ => PySem.W.notFirst T.K C (.type "list") = true
  | .tup _ => PySem.W.notFirst T.K C (.type "tuple") = true
  | .ins c _ => PySem.W.notFirst T.K C (.ref (T.ca c)) = true
  | _ => False
theorem looks_ref {s : Shared} {M : Model} {a : Addr} {c : Value} (h : ∃ o, s.heap.get? a = some o ∧ o.cls = c) : PySem.W.Looks M s.heap (typeOf (.ref a)) c := by
  obtain ⟨o, e, rfl⟩ := h
  exact (PySem.W.Looks.ld e).andThen .now
theorem ty_look {pins : List (Addr × Obj)} {σ : L2.St} {H I : Hp} {s : Shared} {C : Addr} {y : V} {v : Value} {d : Dt} (hK : T.K = X.K) (inv : Inv X pins σ H s) (hs : Same I H) (r : DR T I y d) (ry : RelV y v) (t : TyK T C d) : ∃ tb, PySem.W.Looks (model X.prog X.w) s.heap (typeOf v) tb ∧ PySem.W.notFirst T.K C tb = true := by
  cases r with
  | non => cases (show v = Value.none from ry); exact ⟨_, PySem.W.Looks.of_pure rfl, t⟩
  | bl b => cases (show v = Value.bool b from ry); exact ⟨_, PySem.W.Looks.of_pure rfl, t⟩
  | int i => obtain ⟨tk, e⟩ := (show ∃ tk, v = Value.int i tk from ry); cases e; exact ⟨_, PySem.W.Looks.of_pure rfl, t⟩
  | str z => obtain ⟨tk, e⟩ := (show ∃ tk, v = Value.str z tk from ry); cases e; exact ⟨_, PySem.W.Looks.of_pure rfl, t⟩
  | glo a => exact (show False from t).elim
  | scr _ _ => exact (show False from t).elim
  | dct _ _ _ => exact (show False from t).elim
  | @lst a _ _ h _ => cases (show v = Value.ref a from ry); exact ⟨_, looks_ref (inv_l inv (.inl (.inl (hs _ _ h)))), t⟩
  | @tup a _ _ h _ => cases (show v = Value.ref a from ry); exact ⟨_, looks_ref (inv_t inv (hK ▸ same_t hs h)), t⟩
  | @ins a _ _ _ _ h _ _ => cases (show v = Value.ref a from ry); exact ⟨_, looks_ref (inv_i inv (hs _ _ h)), t⟩
/-- the class's own == is called; it leaves the cells as they are -/
def Calm (f : Fn) (d1 d2 : Dt) (b : Bool) : Prop := ∀ m, f [.d d1, .d d2] m = .ok (.d (.bl b)) m
theorem run_eq {f : Addr} {fd : FuncData} {ps : List Str} {fn : Fn} {A : Around} {pins : List (Addr × Obj)} {σ : L2.St} {F : Frm} {H I : Hp} {L : List Addr} {m : Cells} {s : Shared} {x y : V} {u v : Value} {d1 d2 : Dt} {b : Bool} (Fk : FnOk X.prog X.w X.K X.mg X.base (L2.CX X.prog X.w) n f fd ps (spFn T fn)) (hb : Binds X.K fd ps [])
    (sb : L2.Sub X n A) (inv : Inv X pins σ H s) (hs : Base T F I H L m) (q1 : DR T I x d1) (q2 : DR T I y d2) (rx : RelV x u) (ry : RelV y v) (hF : Calm fn d1 d2 b) :
    wpAny (model X.prog X.w) A (call (.ref f) [u, v]) (fun r s' => r = .bool b ∧ Grow X pins σ T F I L m s') X.xe s := by
  have hsp : spFn T fn [x, y] H (fun z H' => z = .bl b ∧ ∃ I', Base T F I' H' L m ∧ Same I I') (fun _ _ _ => False) := ⟨F, I, L, m, [.d d1, .d d2], hs, .cons (.d q1) (.cons (.d q2) .nil), by
    rw [hF m]
    intro v H' I' A' b' u' hd
    have hl : A' = L := by
      obtain ⟨t, ht⟩ := u'.a
      have h1 := b'.len
      rw [← ht, List.length_append, ← hs.len] at h1
      have : t = [] := List.length_eq_zero_iff.mp (by omega)
      rw [← ht, this, List.append_nil]
    subst hl
    cases hd.dat
    exact ⟨rfl, I', b', u'.i⟩⟩
  have e0 : Env0 X.prog X.w X.K X.mg X.base A X.stack s H := by
    have e := inv.env0
    exact ⟨by rw [sb.fr]; exact e.frames, e.mod, e.bs, e.bsz, e.funs, e.frf, e.hok, e.bare⟩
  have hl := Fk.len _ _ _ _ hsp
  have r2 : Vals [x, y] [u, v] := .cons rx (.cons ry .nil)
  refine wpAny_call (codeAny_mono (Fk.run A X.stack s H ⟨[u, v], []⟩ [u, v] [x, y] _ _ sb.room e0 (by
    have := hb s [u, v] inv.kIn (by simpa using hl)
    simpa using this) r2 hsp) fun r s' hq => ?_)
  cases r with
  | error e => exact NK.pass_never pins σ H s e s' inv hq
  | ok fl =>
    cases fl with
    | ret w =>
      obtain ⟨z, H', I', rz, ez, I2, b2, u2⟩ := inv.after hq
      subst ez
      cases rz
      exact ⟨rfl, I2, H', I', b2, u2⟩
    | next => exact False.elim hq
    | brk => exact False.elim hq
    | cont => exact False.elim hq
/-- a class with its own == -/
structure OwnEq (P : Program) (w : World) (K : PySem.W.Frag) (mg : Str → Option Value) (base : Heap) (T : Tab) (n : Nat) (c : Nat) (fn : Fn) : Prop where
  ex : ∃ f fd ps, FnOk P w K mg base (L2.CX P w) n f fd ps (spFn T fn) ∧ Binds K fd ps [] ∧ PySem.W.findIn K (.ref (T.ca c)) "__eq__" = some (some (.ref f)) ∧ PySem.W.isFn K (.ref f) = true
  ne : PySem.W.findIn K (.ref (T.ca c)) "__ne__" = some (some (.builtin "object.__ne__"))
  mo : PySem.W.mroIn K (T.ca c) (.type "object") = some true
  su : PySem.W.subIn K (.ref (T.ca c)) (.type "str") = some false
theorem rcK_ins {c : Nat} {fn : Fn} (hK : T.K = X.K) (O : OwnEq X.prog X.w X.K X.mg X.base T n c fn) (hD : ∀ d1 d2 b, D d1 d2 b → (∃ fs, d1 = .ins c fs) ∧ TyK T (T.ca c) d2 ∧ Calm fn d1 d2 b) : RcK X T n false D := fun A pins s σ F H I L m x y u v d1 d2 b sb inv hs' q1 q2 rx ry d => by
  obtain ⟨⟨fs, rfl⟩, ty, hF⟩ := hD _ _ _ d
  obtain ⟨f, fd, ps, Fk, hb, hs, hf⟩ := O.ex
  cases q1 with
  | ins h hl r =>
    rename_i a dx ws
    cases (show u = Value.ref a from rx)
    obtain ⟨tb, Lk, nf⟩ := ty_look hK inv hs'.sub q2 ry ty
    obtain ⟨mA, J, _⟩ := ins_get inv.hok (hs'.sub _ _ h)
    obtain ⟨od, J, _⟩ := J.look
    obtain ⟨m', hF'⟩ := inv.fr
    refine PySem.W.cmp_K (op := .Eq) sb.room.units0 hF' inv.ok.mod.kin J Lk (hK ▸ nf) hs hf ?_
    refine wpAny_mono (run_eq (x := .ref a) (d1 := .ins c fs) Fk hb sb inv hs' (.ins h hl r) q2 rfl ry hF) (fun r s' q => ?_) fun _ _ x => x
    obtain ⟨e, g⟩ := q
    subst e
    exact ⟨by cases b <;> rfl, g⟩
theorem rcK_insN {c : Nat} {fn : Fn} (hK : T.K = X.K) (O : OwnEq X.prog X.w X.K X.mg X.base T n c fn) (hD : ∀ d1 d2 b, D d1 d2 b → (∃ fs, d1 = .ins c fs) ∧ TyK T (T.ca c) d2 ∧ Calm fn d1 d2 b) : RcK X T (n + 1) true D := fun A pins s σ F H I L m x y u v d1 d2 b sb inv hs' q1 q2 rx ry d => by
  obtain ⟨⟨fs, rfl⟩, ty, hF⟩ := hD _ _ _ d
  obtain ⟨f, fd, ps, Fk, hb, hs, hf⟩ := O.ex
  cases q1 with
  | ins h hl r =>
    rename_i a dx ws
    cases (show u = Value.ref a from rx)
    obtain ⟨tb, Lk, nf⟩ := ty_look hK inv hs'.sub q2 ry ty
    obtain ⟨mA, J, _⟩ := ins_get inv.hok (hs'.sub _ _ h)
    obtain ⟨od, J, _⟩ := J.look
    refine NQ.rc_ne_own sb.in1.room.units0 inv.kIn J Lk (hK ▸ nf) O.ne O.mo hs hf ?_
    refine wpAny_mono (run_eq (x := .ref a) (d1 := .ins c fs) Fk hb sb.in1 inv hs' (.ins h hl r) q2 rfl ry hF) (fun r s' q => ?_) fun _ _ x => x
    obtain ⟨e, g⟩ := q
    subst e
    exact ⟨b, rfl, by cases b <;> rfl, g⟩
theorem rcK_strIns {c : Nat} {fn : Fn} (hK : T.K = X.K) (O : OwnEq X.prog X.w X.K X.mg X.base T n c fn) (hD : ∀ d1 d2 b, D d1 d2 b → (∃ z, d1 = .str z) ∧ (∃ fs, d2 = .ins c fs) ∧ Calm fn d2 d1 b) : RcK X T n false D := fun A pins s σ F H I L m x y u v d1 d2 b sb inv hs' q1 q2 rx ry d => by
  obtain ⟨⟨z, rfl⟩, ⟨fs, rfl⟩, hF⟩ := hD _ _ _ d
  obtain ⟨f, fd, ps, Fk, hb, hs, hf⟩ := O.ex
  cases q1 with
  | str _ =>
    obtain ⟨tk, e⟩ := (show ∃ tk, u = Value.str z tk from rx)
    subst e
    cases q2 with
    | ins h hl r =>
      rename_i a dx ws
      cases (show v = Value.ref a from ry)
      obtain ⟨mA, J, _⟩ := ins_get inv.hok (hs'.sub _ _ h)
      obtain ⟨od, J, _⟩ := J.look
      refine NQ.rc_str_own sb.room.units0 inv.kIn J O.su hs hf ?_
      refine wpAny_mono (run_eq (x := .ref a) (y := .str z) (d1 := .ins c fs) (d2 := .str z) Fk hb sb inv hs' (.ins h hl r) (.str z) rfl ⟨tk, rfl⟩ hF) (fun r s' q => ?_) fun _ _ x => x
      obtain ⟨e, g⟩ := q
      subst e
      exact ⟨by cases b <;> rfl, g⟩
end
/-- x == y, x != y as an expression, by data -/
def rQ (T : Tab) (neg : Bool) (D : Dq) : R2 := fun x y H Q => ∃ F I L m d1 d2 b, Base T F I H L m ∧ DR T I x d1 ∧ DR T I y d2 ∧ D d1 d2 b ∧ ∀ I' H', Base T F I' H' L m → Same I I' → Q (.bl (neg != b)) H'
theorem op_Q {X : Cx} {T : Tab} {n : Nat} {neg : Bool} {D : Dq} (h : RcK X T n neg D) (hr : Room n X.A) : OpR X (compareOp (NK.opN neg)) (rQ T neg D) := by
  intro pins s σ H x y v u Q inv rx ry hq
  obtain ⟨F, I, L, m, d1, d2, b, hs, q1, q2, d, q⟩ := hq
  have e : compareOp (NK.opN neg) v u = richCompare (NK.opN neg) v u := by cases neg <;> rfl
  rw [e]
  refine wpAny_mono (h X.A pins s σ F H I L m x y v u d1 d2 b ⟨hr, rfl⟩ inv hs q1 q2 rx ry d) (fun r s' z => ?_) fun _ _ x => x
  obtain ⟨e, I', H', inv', b', u'⟩ := z
  subst e
  exact ⟨.bl (neg != b), H', inv', rfl, q I' H' b' u'⟩
theorem op_alt {X : Cx} {f : Value → Value → Sem Value} {r r' : R2} (h : OpR X f r) (h' : OpR X f r') : OpR X f (fun x y H Q => r x y H Q ∨ r' x y H Q) := by
  intro pins s σ H x y v u Q inv rx ry hq
  rcases hq with q | q
  · exact h pins s σ H x y v u Q inv rx ry q
  · exact h' pins s σ H x y v u Q inv rx ry q
/-- the comparison by a function on data -/
def oQ (neg : Bool) (q : Dt → Dt → Option Bool) : O2 := fun _ x y => match x, y with
  | .d x, .d y => (q x y).map fun b => .d (.bl (neg != b))
  | _, _ => none
theorem sim_Q {T : Tab} {neg : Bool} {q : Dt → Dt → Option Bool} {D : Dq} (h : ∀ x y b, q x y = some b → D x y b) : SimO T (rQ T neg D) (oQ neg q) := fun F I H A m x y d1 d2 d b hx hy e Q k => by
  cases d1 with
  | ref k => cases e
  | d d1 =>
    cases d2 with
    | ref k => cases e
    | d d2 =>
      cases eq : q d1 d2 with
      | none => simp [oQ, eq] at e
      | some z =>
        simp [oQ, eq] at e
        subst e
        exact ⟨F, I, A, m, d1, d2, z, b, hx.dat, hy.dat, h _ _ _ eq, fun I' H' b' u' => k _ H' I' b' u' (.d (.bl _))⟩
end FM

namespace FM
open PySem PySem.Spec PyProof.Rows L2
/-! ### dicts -/
def keyOf : Vl → Option L2.Key
  | .d (.int i) => some (.inl i)
  | .d (.str z) => some (.inr z)
  | _ => none
theorem keyOf_ok {T : Tab} {I : Hp} {A : List Addr} {v : V} {x : Vl} {k : L2.Key} (h : VR T I A v x) (e : keyOf x = some k) : v = kV k := by
  unfold keyOf at e
  split at e
  · cases e; cases h.dat; rfl
  · cases e; cases h.dat; rfl
  · cases e
def dGet : List L2.Key → List Dt → L2.Key → Option Dt
  | k' :: ks, d :: ds, k => if k' = k then some d else dGet ks ds k
  | _, _, _ => none
theorem dGet_ok {T : Tab} {I : Hp} (k : L2.Key) : ∀ {ks : List L2.Key} {xs : List V} {ds : List Dt}, ks.length = xs.length → DRs T I xs ds → (valV (ks.zip xs) k = none ∧ dGet ks ds k = none) ∨ ∃ v d, valV (ks.zip xs) k = some v ∧ dGet ks ds k = some d ∧ DR T I v d
  | [], [], ds, _, h => by cases h; exact .inl ⟨rfl, rfl⟩
  | k' :: ks, x :: xs, ds, hl, h => by
    cases h with
    | @cons _ _ d ds a t =>
      rw [List.zip_cons_cons]
      by_cases e : k' = k
      · exact .inr ⟨x, d, valV_pos e, by unfold dGet; rw [if_pos e], a⟩
      · rcases dGet_ok k (by simpa using hl) t with ⟨h1, h2⟩ | ⟨v, d', h1, h2, h3⟩
        · exact .inl ⟨by rw [valV_neg e]; exact h1, by unfold dGet; rw [if_neg e]; exact h2⟩
        · exact .inr ⟨v, d', by rw [valV_neg e]; exact h1, by unfold dGet; rw [if_neg e]; exact h2, h3⟩
def dRepl {α : Type} (k : L2.Key) (d : α) : List L2.Key → List α → List α
  | k' :: ks, x :: ds => (if k' = k then d else x) :: dRepl k d ks ds
  | _, _ => []
def hasK (ks : List L2.Key) (k : L2.Key) : Bool := ks.any fun k' => decide (k' = k)
def dPutK (ks : List L2.Key) (k : L2.Key) : List L2.Key := if hasK ks k then ks else ks ++ [k]
def dPutV {α : Type} (ks : List L2.Key) (ds : List α) (k : L2.Key) (d : α) : List α := if hasK ks k then dRepl k d ks ds else ds ++ [d]
theorem dRepl_len {α : Type} (k : L2.Key) (d : α) : ∀ {ks : List L2.Key} {xs : List α}, ks.length = xs.length → (dRepl k d ks xs).length = ks.length
  | [], [], _ => rfl
  | k' :: ks, x :: xs, h => by
    show (dRepl k d ks xs).length + 1 = ks.length + 1
    rw [dRepl_len k d (by simpa using h)]
theorem dRepl_dr {T : Tab} {I : Hp} {k : L2.Key} {v : V} {d : Dt} (hv : DR T I v d) : ∀ {ks : List L2.Key} {xs : List V} {ds : List Dt}, ks.length = xs.length → DRs T I xs ds → DRs T I (dRepl k v ks xs) (dRepl k d ks ds)
  | [], [], _, _, h => by cases h; exact .nil
  | k' :: ks, x :: xs, ds, hl, h => by
    cases h with
    | cons a t =>
      unfold dRepl
      refine .cons ?_ (dRepl_dr hv (by simpa using hl) t)
      by_cases e : k' = k
      · rw [if_pos e, if_pos e]; exact hv
      · rw [if_neg e, if_neg e]; exact a
theorem any_zip (k : L2.Key) : ∀ {ks : List L2.Key} {xs : List V}, ks.length = xs.length → ((ks.zip xs).any fun kv => decide (kv.1 = k)) = hasK ks k
  | [], [], _ => rfl
  | k' :: ks, x :: xs, h => by
    rw [List.zip_cons_cons, List.any_cons, any_zip k (by simpa using h)]
    rfl
theorem map_zip (k : L2.Key) (v : V) : ∀ {ks : List L2.Key} {xs : List V}, ks.length = xs.length → (ks.zip xs).map (fun kv => if kv.1 = k then (kv.1, v) else kv) = ks.zip (dRepl k v ks xs)
  | [], [], _ => rfl
  | k' :: ks, x :: xs, h => by
    rw [List.zip_cons_cons, List.map_cons, map_zip k v (by simpa using h)]
    show _ = (k' :: ks).zip ((if k' = k then v else x) :: dRepl k v ks xs)
    rw [List.zip_cons_cons]
    by_cases e : k' = k
    · simp only [e, if_true]
    · simp only [e, if_false]
theorem putK_zip {k : L2.Key} {v : V} {ks : List L2.Key} {xs : List V} (h : ks.length = xs.length) : putK (ks.zip xs) k v = (dPutK ks k).zip (dPutV ks xs k v) ∧ (dPutK ks k).length = (dPutV ks xs k v).length := by
  unfold putK dPutK dPutV
  rw [any_zip k h]
  by_cases e : hasK ks k = true
  · rw [if_pos e, if_pos e, if_pos e, map_zip k v h, dRepl_len k v h]
    exact ⟨rfl, rfl⟩
  · rw [if_neg e, if_neg e, if_neg e, List.zip_append h]
    exact ⟨rfl, by simp [h]⟩
theorem dPutV_dr {T : Tab} {I : Hp} {k : L2.Key} {v : V} {d : Dt} {ks : List L2.Key} {xs : List V} {ds : List Dt} (hv : DR T I v d) (hl : ks.length = xs.length) (h : DRs T I xs ds) : DRs T I (dPutV ks xs k v) (dPutV ks ds k d) := by
  unfold dPutV
  by_cases e : hasK ks k = true
  · rw [if_pos e, if_pos e]; exact dRepl_dr hv hl h
  · rw [if_neg e, if_neg e]; exact h.app (.one hv)
/-- the pairs of a dict: data, or a cell -/
def dctOf (m : Cells) : Vl → Option (List L2.Key × List Dt)
  | .d (.dct ks ds) => some (ks, ds)
  | .ref k => match m[k]? with
    | some (some (.dct ks ds)) => some (ks, ds)
    | _ => none
  | _ => none
theorem dctOf_ok {T : Tab} {F : Frm} {I H : Hp} {A : List Addr} {m : Cells} {x : V} {v : Vl} {ks : List L2.Key} {ds : List Dt} (b : Base T F I H A m) (hx : VR T I A x v) (e : dctOf m v = some (ks, ds)) : ∃ a xs, x = .ref a ∧ H a = some (.dK (ks.zip xs)) ∧ ks.length = xs.length ∧ DRs T I xs ds := by
  cases v with
  | ref k =>
    obtain ⟨a, rfl, ha⟩ := hx.cel
    simp only [dctOf] at e
    split at e
    · rename_i ks' ds' hm
      cases e
      obtain ⟨vs, h1, h2, h3⟩ := b.ok _ _ a hm ha
      exact ⟨a, vs, rfl, h1, h2, h3⟩
    · cases e
  | d d =>
    cases d with
    | dct ks' ds' =>
      cases e
      cases hx.dat with
      | dct h1 h2 h3 => exact ⟨_, _, rfl, b.sub _ _ h1, h2, h3⟩
    | _ => cases e
section
variable {X : Cx} {C : Fc} {e : Expr} {st : Stmt} {me mb mc : ME}
/-- d[k] -/
def oDGet : O2 := fun m x y => match dctOf m x, keyOf y with
  | some p, some k => (dGet p.1 p.2 k).map Vl.d
  | _, _ => none
theorem fe_dget (h : PE X e (tDGet (FE C me) (FE C mb))) : PE X e (FE C (mOp oDGet me mb)) :=
  fe_op (r := fun x y H Q => ∃ a v, x = .ref a ∧ DGet H a y (some v) ∧ Q v H) (pe_of h fun σ H Q q => q) fun F I H A m x y d1 d2 d b hx hy e Q q => by
    unfold oDGet at e
    split at e
    · rename_i p k h1 h2
      obtain ⟨ks, ds⟩ := p
      obtain ⟨a, xs, rfl, g1, g2, g3⟩ := dctOf_ok b hx h1
      have ek := keyOf_ok hy h2
      subst ek
      rcases dGet_ok k g2 g3 with ⟨_, e2⟩ | ⟨v, d', e1, e2, e3⟩
      · rw [e2] at e; cases e
      · rw [e2] at e
        cases e
        exact ⟨a, v, rfl, by rw [← e1]; exact DGet.k g1, q _ H I b (Same.refl I) (.d e3)⟩
    · cases e
/-- k in d -/
def oDIn (neg : Bool) : O2 := fun m y x => match dctOf m x, keyOf y with
  | some p, some k => some (.d (.bl (neg != (dGet p.1 p.2 k).isSome)))
  | _, _ => none
theorem sim_din {T : Tab} {neg : Bool} : SimO T (fun y x H Q => ∃ a o, x = .ref a ∧ DGet H a y o ∧ Q (.bl (neg != o.isSome)) H) (oDIn neg) := fun F I H A m y x d1 d2 d b hy hx e Q q => by
  unfold oDIn at e
  split at e
  · rename_i p k h1 h2
    cases e
    obtain ⟨ks, ds⟩ := p
    obtain ⟨a, xs, rfl, g1, g2, g3⟩ := dctOf_ok b hx h1
    have ek := keyOf_ok hy h2
    subst ek
    rcases dGet_ok k g2 g3 with ⟨e1, e2⟩ | ⟨v, d', e1, e2, e3⟩
    · refine ⟨a, none, rfl, by rw [← e1]; exact DGet.k g1, ?_⟩
      simp only [e2] at q
      exact q _ H I b (Same.refl I) (.d (.bl _))
    · refine ⟨a, some v, rfl, by rw [← e1]; exact DGet.k g1, ?_⟩
      simp only [e2] at q
      exact q _ H I b (Same.refl I) (.d (.bl _))
  · cases e
theorem fe_din (h : PE X e (tDIn (FE C me) (FE C mb))) : PE X e (FE C (mOp (oDIn false) me mb)) :=
  fe_op (pe_of h fun σ H Q (q : tOp (fun y x H Q => ∃ a o, x = .ref a ∧ DGet H a y o ∧ Q (.bl (false != o.isSome)) H) (FE C me) (FE C mb) σ H Q) => by
    simp only [tOp, Bool.false_bne] at q
    exact q) sim_din
theorem fe_dnotin (h : PE X e (tDNotIn (FE C me) (FE C mb))) : PE X e (FE C (mOp (oDIn true) me mb)) :=
  fe_op (pe_of h fun σ H Q (q : tOp (fun y x H Q => ∃ a o, x = .ref a ∧ DGet H a y o ∧ Q (.bl (true != o.isSome)) H) (FE C me) (FE C mb) σ H Q) => by
    simp only [tOp, Bool.true_bne] at q
    exact q) sim_din
/-- d[k] = v of a cell -/
def isD (o : Option (Option Cell)) : Option (List L2.Key × List Dt) := match o with
  | some (some (.dct ks ds)) => some (ks, ds)
  | _ => none
theorem isD_ok {o : Option (Option Cell)} {ks : List L2.Key} {ds : List Dt} (h : isD o = some (ks, ds)) : o = some (some (.dct ks ds)) := by
  unfold isD at h
  split at h
  · cases h; rfl
  · cases h
def putD (x y v : Vl) (g : Gam) (m : Cells) : Out := match x, keyOf y, v with
  | .ref k, some key, .d d => (match isD m[k]? with
    | some p => if szOk (p.1.length + 1) then .nx g (m.set k (some (.dct (dPutK p.1 key) (dPutV p.1 p.2 key d)))) else .bad
    | none => .bad)
  | _, _, _ => .bad
def mPutD (mo mi mv : ME) : MS := fun g m => (mv g m).then g fun v m1 => (mo g m1).then g fun x m2 => (mi g m2).then g fun y m3 => putD x y v g m3
theorem fs_dput (h : PS X st (sDPut (FE C me) (FE C mb) (FE C mc))) : PS X st (FS C (mPutD me mb mc)) := ps_of h fun D σ H ⟨B, g, S, m, vs, I, A, r, w⟩ => by
  refine ⟨B, g, S, m, vs, I, A, r, ?_⟩
  unfold mPutD at w
  cases ea : mc g m with
  | bad => rw [ea] at w; exact w.elim
  | ex c fs m' => rw [ea] at w; exact w
  | ok v m1 =>
    rw [ea] at w
    intro vv H1 I1 A1 r1
    refine ⟨B, g, v :: S, m1, vv :: vs, I1, A1, r1, ?_⟩
    have w1 : WantS C B S vs D ((me g m1).then g fun x m2 => (mb g m2).then g fun y m3 => putD x y v g m3) := w
    cases eb : me g m1 with
    | bad => rw [eb] at w1; exact (show False from w1).elim
    | ex c fs m' =>
      rw [eb] at w1
      intro σ' H' I' A' dx ws r' h1 h2 h3
      exact w1 σ' H' I' A' dx ws r'.pop1 h1 h2 h3
    | ok x m2 =>
      rw [eb] at w1
      intro xv H2 I2 A2 r2
      refine ⟨B, g, x :: v :: S, m2, xv :: vv :: vs, I2, A2, r2, ?_⟩
      have w2 : WantS C B S vs D ((mb g m2).then g fun y m3 => putD x y v g m3) := w1
      cases ec : mb g m2 with
      | bad => rw [ec] at w2; exact (show False from w2).elim
      | ex c fs m' =>
        rw [ec] at w2
        intro σ' H' I' A' dx ws r' h1 h2 h3
        exact w2 σ' H' I' A' dx ws r'.pop1.pop1 h1 h2 h3
      | ok y m3 =>
        rw [ec] at w2
        intro yv H3 I3 A3 r3
        have w3 : WantS C B S vs D (putD x y v g m3) := w2
        unfold putD at w3
        split at w3
        · rename_i k key d hk
          cases ei : isD m3[k]? with
          | none => rw [ei] at w3; exact (show False from w3).elim
          | some p =>
            obtain ⟨ks, ds⟩ := p
            rw [ei] at w3
            by_cases hz : szOk (ks.length + 1) = true
            · simp only [hz, if_true] at w3
              obtain ⟨a, rfl, ha⟩ := r3.pop1.top.cel
              obtain ⟨us, g1, g2, g3⟩ := r3.base.ok _ _ a (isD_ok ei) ha
              have ek := keyOf_ok r3.top hk
              subst ek
              have hd := r3.pop1.pop1.top.dat
              obtain ⟨e1, e2⟩ := putK_zip (k := key) (v := vv) g2
              have hlen : (ks.zip us).length < sizeLine := by
                have := szOk_line hz
                rw [List.length_zip, g2, Nat.min_self]
                omega
              refine ⟨a, _, rfl, DPut.k g1 hlen, ?_⟩
              rw [e1]
              exact w3 _ _ _ _ (r3.pop1.pop1.pop1.step (r3.base.put (c' := .dct (dPutK ks key) (dPutV ks ds key d)) (isD_ok ei) ha ⟨_, upd_same, e2, dPutV_dr hd g2 g3⟩) Up.refl)
            · simp only [hz] at w3; exact (show False from w3).elim
        · exact (show False from w3).elim
/-- {} -/
def mDNew : ME := fun _ m => .ok (.ref m.length) (m ++ [some (.dct [] [])])
theorem fe_dnew (h : PE X e tDNewK) : PE X e (FE C mDNew) := pe_of h fun σ H Q ⟨B, g, S, m, vs, I, A, r, w⟩ p hp => by
  obtain ⟨b, u⟩ := r.base.newC (o := .dK []) (c := .dct [] []) hp ⟨[], upd_same, rfl, .nil⟩
  exact w _ _ _ _ ((r.step b u).push (.ref (by rw [← r.base.len]; exact last_get A p)))
/-- {k: v, ..} -/
abbrev MPs := Gam → Cells → Rs (List (L2.Key × Dt))
def mPNil : MPs := fun _ m => .ok [] m
def mPCons (mk mv : ME) (mr : MPs) : MPs := fun g m => (mk g m).bind fun x m1 => (mv g m1).bind fun y m2 => match keyOf x, y with
  | some k, .d d => (mr g m2).bind fun r m3 => .ok ((k, d) :: r) m3
  | _, _ => .bad
inductive DPs (T : Tab) (I : Hp) : List (V × V) → List (L2.Key × Dt) → Prop
  | nil : DPs T I [] []
  | cons {k : L2.Key} {v : V} {d : Dt} {ps : List (V × V)} {ds : List (L2.Key × Dt)} : DR T I v d → DPs T I ps ds → DPs T I ((kV k, v) :: ps) ((k, d) :: ds)
theorem DPs.mono {T : Tab} {I I' : Hp} {ps : List (V × V)} {ds : List (L2.Key × Dt)} (h : DPs T I ps ds) (e : Same I I') : DPs T I' ps ds := by
  induction h with
  | nil => exact .nil
  | cons a _ ih => exact .cons (a.mono e) ih
def WantP (C : Fc) (B : Bs) (g : Gam) (S : List Vl) (σ : L2.St) (vs : List V) (Q : List (V × V) → Hp → Prop) : Rs (List (L2.Key × Dt)) → Prop
  | .ok ds m' => ∀ ps H' I' A', Rel C.T C.x B g S m' σ vs H' I' A' → DPs C.T I' ps ds → Q ps H'
  | .ex c fs m' => WantX C B S vs c fs g m'
  | .bad => False
/-- the readings of the pairs -/
inductive FPs (C : Fc) : List (TE × TE) → MPs → Prop
  | nil : FPs C [] mPNil
  | cons {mk mv : ME} {trs : List (TE × TE)} {mr : MPs} : FPs C trs mr → FPs C ((FE C mk, FE C mv) :: trs) (mPCons mk mv mr)
theorem fps_run {trs : List (TE × TE)} {mp : MPs} (h : FPs C trs mp) : ∀ {B : Bs} {g : Gam} {S : List Vl} {m : Cells} {σ : L2.St} {vs : List V} {H I : Hp} {A : List Addr} {Q : List (V × V) → Hp → Prop}, Rel C.T C.x B g S m σ vs H I A → WantP C B g S σ vs Q (mp g m) → tPairs trs σ H Q := by
  induction h with
  | nil => intro B g S m σ vs H I A Q r w; exact w [] H I A r .nil
  | @cons mk mv trs mr _ ih =>
    intro B g S m σ vs H I A Q r w
    refine ⟨B, g, S, m, vs, I, A, r, ?_⟩
    unfold mPCons at w
    cases ea : mk g m with
    | bad => rw [ea] at w; exact w.elim
    | ex c fs m' => rw [ea] at w; exact w
    | ok x m1 =>
      rw [ea] at w
      intro xv H1 I1 A1 r1
      refine ⟨B, g, x :: S, m1, xv :: vs, I1, A1, r1, ?_⟩
      simp only [Rs.bind] at w
      cases eb : mv g m1 with
      | bad => simp only [eb] at w; exact (show False from w).elim
      | ex c fs m' =>
        simp only [eb] at w
        intro σ' H' I' A' dx ws r' h1 h2 h3
        exact w σ' H' I' A' dx ws r'.pop1 h1 h2 h3
      | ok y m2 =>
        simp only [eb] at w
        intro yv H2 I2 A2 r2
        cases ek : keyOf x with
        | none => simp only [ek] at w; exact (show False from w).elim
        | some k =>
          simp only [ek] at w
          cases y with
          | ref j => exact (show False from w).elim
          | d d =>
            simp only at w
            have hx := keyOf_ok r2.pop1.top ek
            subst hx
            refine ih r2 ?_
            cases ec : mr g m2 with
            | bad => simp only [ec] at w; exact (show False from w).elim
            | ex c fs m' =>
              simp only [ec] at w
              intro σ' H' I' A' dx ws r' h1 h2 h3
              exact w σ' H' I' A' dx ws r'.pop1.pop1 h1 h2 h3
            | ok ds m3 =>
              simp only [ec] at w
              intro ps H3 I3 A3 r3 hp
              exact w ((kV k, yv) :: ps) H3 I3 A3 r3.pop1.pop1 (.cons r3.top.dat hp)
def mergeD : List L2.Key → List Dt → List (L2.Key × Dt) → List L2.Key × List Dt
  | ks, ds, [] => (ks, ds)
  | ks, ds, (k, d) :: r => mergeD (dPutK ks k) (dPutV ks ds k d) r
theorem merge_ok {T : Tab} {I : Hp} {ps : List (V × V)} {es : List (L2.Key × Dt)} (h : DPs T I ps es) : ∃ kvs : List (L2.Key × V), ps = kvs.map (fun kv => (kV kv.1, kv.2)) ∧ kvs.length = es.length ∧ ∀ {ks : List L2.Key} {xs : List V} {ds : List Dt}, ks.length = xs.length → DRs T I xs ds →
    ∃ xs', mergeK (ks.zip xs) kvs = (mergeD ks ds es).1.zip xs' ∧ (mergeD ks ds es).1.length = xs'.length ∧ DRs T I xs' (mergeD ks ds es).2 := by
  induction h with
  | nil => exact ⟨[], rfl, rfl, fun {ks xs ds} hl hd => ⟨xs, rfl, hl, hd⟩⟩
  | @cons k v d ps es a _ ih =>
    obtain ⟨kvs, e, hl, hm⟩ := ih
    refine ⟨(k, v) :: kvs, by rw [List.map_cons, ← e], by simp [hl], fun {ks xs ds} hl hd => ?_⟩
    obtain ⟨e1, e2⟩ := putK_zip (k := k) (v := v) hl
    have e3 : mergeK (ks.zip xs) ((k, v) :: kvs) = mergeK (putK (ks.zip xs) k v) kvs := rfl
    rw [e3, e1]
    exact hm e2 (dPutV_dr a hl hd)
def mDisp (mp : MPs) : ME := fun g m => (mp g m).bind fun es m1 => if es.length ≤ 15 then .ok (.d (.dct (mergeD [] [] es).1 (mergeD [] [] es).2)) m1 else .bad
def mDispC (mp : MPs) : ME := fun g m => (mp g m).bind fun es m1 => if es.length ≤ 15 then .ok (.ref m1.length) (m1 ++ [some (.dct (mergeD [] [] es).1 (mergeD [] [] es).2)]) else .bad
theorem disp_ok {trs : List (TE × TE)} {mp : MPs} (h : FPs C trs mp) {k : List (L2.Key × Dt) → Cells → Rs Vl} {B : Bs} {g : Gam} {S : List Vl} {m : Cells} {σ : L2.St} {vs : List V} {H I : Hp} {A : List Addr} {Q : VK} (r : Rel C.T C.x B g S m σ vs H I A)
    (w : WantE C B g S σ vs Q ((mp g m).bind k)) (hk : ∀ es m1, k es m1 = .bad ∨ es.length ≤ 15)
    (fin : ∀ p es m1 H1 I1 A1 xs, Rel C.T C.x ⟨(p, .dK ((mergeD [] [] es).1.zip xs)) :: B.F, B.I, B.A⟩ g S m1 σ vs H1 I1 A1 → (mergeD [] [] es).1.length = xs.length → DRs C.T I1 xs (mergeD [] [] es).2 → WantE C B g S σ vs Q (k es m1) → Q (.ref p) H1) : tDisp trs σ H Q := fun p hp => by
  refine fps_run h (B := ⟨(p, .dK []) :: B.F, B.I, B.A⟩) (g := g) (S := S) (m := m) (vs := vs) (I := I) (A := A) ⟨r.base.hide hp, r.up, r.ctx, r.stk, r.xc⟩ ?_
  cases ea : mp g m with
  | bad => rw [ea] at w; exact w.elim
  | ex c fs m' =>
    rw [ea] at w
    intro σ' H' I' A' dx ws r' h1 h2 h3
    refine w σ' H' I' A' dx ws ?_ h1 h2 h3
    have b := r'.base
    exact ⟨⟨b.sub, fun q hq => b.fm q (List.mem_cons_of_mem _ hq), (List.nodup_cons.mp b.fnd).2, b.len, b.nd, b.al, b.fr, b.ok⟩, r'.up, r'.ctx, r'.stk, r'.xc⟩
  | ok es m1 =>
    rw [ea] at w
    have w1 : WantE C B g S σ vs Q (k es m1) := w
    intro ps H1 I1 A1 r1 hd
    obtain ⟨kvs, e1, e2, e3⟩ := merge_ok hd
    obtain ⟨xs', g1, g2, g3⟩ := e3 (ks := []) (xs := []) (ds := []) rfl .nil
    rcases hk es m1 with hb | hl
    · rw [hb] at w1; exact w1.elim
    · refine ⟨(r1.base.fm _ List.mem_cons_self).1, kvs, e1, by rw [e2]; exact hl, ?_⟩
      rw [show mergeK [] kvs = mergeK (([] : List L2.Key).zip ([] : List V)) kvs from rfl, g1]
      exact fin p es m1 _ I1 A1 xs' ⟨r1.base.hput, r1.up, r1.ctx, r1.stk, r1.xc⟩ g2 g3 w1
theorem fe_disp {trs : List (TE × TE)} {mp : MPs} (h : PE X e (tDisp trs)) (hp : FPs C trs mp) : PE X e (FE C (mDisp mp)) := pe_of h fun σ H Q ⟨B, g, S, m, vs, I, A, r, w⟩ => by
  refine disp_ok hp (k := fun es m1 => if es.length ≤ 15 then .ok (.d (.dct (mergeD [] [] es).1 (mergeD [] [] es).2)) m1 else .bad) r w (fun es m1 => ?_) fun p es m1 H1 I1 A1 xs r1 hl hd w1 => ?_
  · by_cases h : es.length ≤ 15
    · exact .inr h
    · exact .inl (if_neg h)
  · by_cases h : es.length ≤ 15
    · rw [if_pos h] at w1
      obtain ⟨b, e⟩ := r1.base.show_
      exact w1 _ _ _ _ ((⟨b, r1.up.trans e, r1.ctx.mono e, r1.stk.mono e, r1.xc.mono e⟩ : Rel C.T C.x B g S m1 σ vs H1 _ A1).push (.d (.dct upd_same hl (hd.mono e.i))))
    · rw [if_neg h] at w1; exact w1.elim
theorem fe_dispC {trs : List (TE × TE)} {mp : MPs} (h : PE X e (tDisp trs)) (hp : FPs C trs mp) : PE X e (FE C (mDispC mp)) := pe_of h fun σ H Q ⟨B, g, S, m, vs, I, A, r, w⟩ => by
  refine disp_ok hp (k := fun es m1 => if es.length ≤ 15 then .ok (.ref m1.length) (m1 ++ [some (Cell.dct (mergeD [] [] es).1 (mergeD [] [] es).2)]) else .bad) r w (fun es m1 => ?_) fun p es m1 H1 I1 A1 xs r1 hl hd w1 => ?_
  · by_cases h : es.length ≤ 15
    · exact .inr h
    · exact .inl (if_neg h)
  · by_cases h : es.length ≤ 15
    · rw [if_pos h] at w1
      obtain ⟨f1, _, _⟩ := r1.base.fm _ List.mem_cons_self
      obtain ⟨b, e⟩ := r1.base.showC (c := .dct (mergeD [] [] es).1 (mergeD [] [] es).2) ⟨xs, f1, hl, hd⟩
      exact w1 _ _ _ _ ((⟨b, r1.up.trans e, r1.ctx.mono e, r1.stk.mono e, r1.xc.mono e⟩ : Rel C.T C.x B g S _ σ vs H1 _ _).push (.ref (by rw [← r1.base.len]; exact last_get A1 p)))
    · rw [if_neg h] at w1; exact w1.elim
/-- d.get(k, x) -/
def mDGet2 (mo mi mx : ME) : ME := fun g m => (mo g m).bind fun x m1 => match dctOf m1 x with
  | some _ => (mi g m1).bind fun y m2 => (mx g m2).bind fun z m3 => match dctOf m3 x, keyOf y with
    | some p, some k => (match dGet p.1 p.2 k with
      | some d => .ok (.d d) m3
      | none => .ok z m3)
    | _, _ => .bad
  | none => .bad
theorem fe_dget2 (h : PE X e (tDGet2 (FE C me) (FE C mb) (FE C mc))) : PE X e (FE C (mDGet2 me mb mc)) := pe_of h fun σ H Q ⟨B, g, S, m, vs, I, A, r, w⟩ => by
  refine ⟨B, g, S, m, vs, I, A, r, ?_⟩
  unfold mDGet2 at w
  cases ea : me g m with
  | bad => rw [ea] at w; exact w.elim
  | ex c fs m' => rw [ea] at w; exact w
  | ok x m1 =>
    rw [ea] at w
    intro xv H1 I1 A1 r1
    simp only [Rs.bind] at w
    cases ed : dctOf m1 x with
    | none => simp only [ed] at w; exact (show False from w).elim
    | some p1 =>
      simp only [ed] at w
      obtain ⟨ks1, ds1⟩ := p1
      obtain ⟨a, xs1, rfl, g1, _, _⟩ := dctOf_ok r1.base r1.top ed
      refine ⟨a, rfl, .inl ⟨_, .inl g1⟩, B, g, x :: S, m1, .ref a :: vs, I1, A1, r1, ?_⟩
      cases eb : mb g m1 with
      | bad => simp only [eb] at w; exact (show False from w).elim
      | ex c fs m' =>
        simp only [eb] at w
        intro σ' H' I' A' dx ws r' h1 h2 h3
        exact w σ' H' I' A' dx ws r'.pop1 h1 h2 h3
      | ok y m2 =>
        simp only [eb] at w
        intro yv H2 I2 A2 r2
        refine ⟨B, g, y :: x :: S, m2, yv :: .ref a :: vs, I2, A2, r2, ?_⟩
        cases ec : mc g m2 with
        | bad => simp only [ec] at w; exact (show False from w).elim
        | ex c fs m' =>
          simp only [ec] at w
          intro σ' H' I' A' dx ws r' h1 h2 h3
          exact w σ' H' I' A' dx ws r'.pop1.pop1 h1 h2 h3
        | ok z m3 =>
          simp only [ec] at w
          intro zv H3 I3 A3 r3
          cases ep : dctOf m3 x with
          | none => simp only [ep] at w; exact (show False from w).elim
          | some p =>
            obtain ⟨ks, ds⟩ := p
            simp only [ep] at w
            cases ek : keyOf y with
            | none => simp only [ek] at w; exact (show False from w).elim
            | some k =>
              simp only [ek] at w
              obtain ⟨a', xs, e, g1, g2, g3⟩ := dctOf_ok r3.base r3.pop1.pop1.top ep
              cases e
              have hy := keyOf_ok r3.pop1.top ek
              subst hy
              rcases dGet_ok k g2 g3 with ⟨e1, e2⟩ | ⟨v, d', e1, e2, e3⟩
              · simp only [e2] at w
                exact ⟨none, by rw [← e1]; exact DGet.k g1, w _ _ _ _ (r3.pop1.pop1.pop1.push r3.top)⟩
              · simp only [e2] at w
                exact ⟨some v, by rw [← e1]; exact DGet.k g1, w _ _ _ _ (r3.pop1.pop1.pop1.push (.d e3))⟩
end
end FM

namespace RZ
open PySem PySem.Calls PyProof.Rows
/-- a zip object whose last tuple is out, at a -/
abbrev ZipOut (h : Heap) (z TI TO a : Addr) (f : Bool) : Prop :=
  h.get? z = some { cls := .type "zip", dict := none, data := .fields #[rawInt a, .bool f, .bool false, .ref TI, .ref TO], slots := #[] }
section
variable {prog : Program} {w : World} {A : Around} {E : Value → Shared → Prop} {s : Shared}
theorem zo_alive {a : Addr} {o : Obj} {Q : Option Obj → Shared → Prop} (ho : s.heap.get? a = some o) (h : Q (some o) s) : wpAny (model prog w) A (loadIfAlive a) Q E s := by
  have h' : Q (s.heap.get? a) s := by rw [ho]; exact h
  exact fun _ _ _ => h'
theorem zo_free {z TI TO a : Addr} {f : Bool} {oa : Obj} {Q : Bool → Shared → Prop} (hz : ZipOut s.heap z TI TO a f) (ha : s.heap.get? a = some oa)
    (h : ∀ h', ZipOut h' z TI TO a true → Heap.SameBut z s.heap h' → Q false { s with heap := h' }) : wpAny (model prog w) A (Builtin.SmallTypes.ownedTupleIsFree (.ref z)) Q E s := by
  unfold Builtin.SmallTypes.ownedTupleIsFree
  refine wpAny_bind (wpAny_field hz rfl (x := rawInt a) rfl ?_)
  show wpAny _ _ (loadIfAlive ((a : Int).toNat) >>= _) _ _ _
  rw [Int.toNat_natCast]
  refine wpAny_bind (zo_alive ha ?_)
  simp only [Option.isNone_some, Bool.false_eq_true, if_false]
  refine wpAny_bind (wpAny_field hz rfl (x := .bool f) rfl ?_)
  cases f with
  | true =>
    rw [if_neg (show ¬ ((Value.bool true != Value.bool true) = true) from Bool.false_ne_true)]
    exact wpAny_pure (h s.heap hz (Heap.SameBut.refl _ _))
  | false =>
    rw [if_pos (show (Value.bool false != Value.bool true) = true from rfl)]
    refine wpAny_bind (wpAny_setField_rec hz (by simp) fun h₃ he₃ hs₃ => ?_)
    exact wpAny_pure (h h₃ he₃ hs₃)
theorem zo_next {z TI TO a i1 i2 l1 l2 : Addr} {f : Bool} {oa : Obj} {k1 k2 : Nat} {xs ys : Array Value} {x y : Value} {Q : Value → Shared → Prop} (D : ZipApart z TI TO i1 i2 l1 l2)
    (hz : ZipOut s.heap z TI TO a f) (ha : s.heap.get? a = some oa) (hTI : IsPair s.heap TI (.ref i1) (.ref i2))
    (h1 : s.heap.IsTupleIter i1 l1 k1) (h2 : s.heap.IsTupleIter i2 l2 k2) (hl1 : s.heap.IsTuple l1 xs) (hl2 : s.heap.IsTuple l2 ys) (hx : xs[k1]? = some x) (hy : ys[k2]? = some y)
    (hQ : ∀ h', ZipOut h' z TI TO a true → h'.IsTupleIter i1 l1 (k1 + 1) → h'.IsTupleIter i2 l2 (k2 + 1) → IsPair h' s.heap.objs.size x y → h'.objs.size = s.heap.objs.size + 1 →
      (∀ c o, c ≠ z → c ≠ i1 → c ≠ i2 → s.heap.get? c = some o → h'.get? c = some o) → Q (.ref s.heap.objs.size) { s with heap := h' }) :
    wpAny (model prog w) A (Builtin.«zip.__next__» ⟨[.ref z], []⟩) (fun fin s' => ∃ v, fin = .done (.ret v) ∧ Q v s') E s := by
  show wpAny _ _ (field (.ref z) 2 >>= _) _ _ _
  refine wpAny_bind (wpAny_field hz rfl (x := .bool false) rfl ?_)
  show wpAny _ _ (field (.ref z) 3 >>= _) _ _ _
  refine wpAny_bind (wpAny_field hz rfl (x := .ref TI) rfl ?_)
  refine wpAny_bind (wpAny_seqItems hTI rfl ?_)
  show wpAny _ _ (Builtin.SmallTypes.ownedTupleIsFree (.ref z) >>= _) _ _ _
  refine wpAny_bind (zo_free hz ha fun h₁ hz₁ hs₁ => ?_)
  simp only [Bool.false_eq_true, if_false]
  refine wpAny_bind ?_
  simp only [← Array.forIn_toList, List.forIn_cons, List.forIn_nil]
  refine wpAny_bind (wpAny_bind (wpAny_holding ?_))
  show wpAny _ _ (Builtin.SmallTypes.nextOf (.ref i1) >>= _) _ _ _
  refine wpAny_bind (nextOf_tuple_item (h1.extBut hs₁.extBut D.i1z) (hl1.extBut hs₁.extBut D.l1z) hx fun h₂ h1₂ hs₂ => wpAny_pure ?_)
  refine wpAny_pure ?_
  refine wpAny_bind (wpAny_bind (wpAny_holding ?_))
  show wpAny _ _ (Builtin.SmallTypes.nextOf (.ref i2) >>= _) _ _ _
  refine wpAny_bind (nextOf_tuple_item ((h2.extBut hs₁.extBut D.i2z).extBut hs₂.extBut D.i12.symm) ((hl2.extBut hs₁.extBut D.l2z).extBut hs₂.extBut D.l2i1) hy fun h₄ h2₄ hs₄ => wpAny_pure ?_)
  refine wpAny_pure (wpAny_pure ?_)
  show wpAny _ _ (newTuple [x, y] >>= _) _ _ _
  refine wpAny_bind (wpAny_newTuple ?_)
  have hsz : h₄.objs.size = s.heap.objs.size := by rw [hs₄.1, hs₂.1, hs₁.1]
  have hz₄ : ZipOut h₄ z TI TO a true := hs₄.extBut _ _ D.i2z.symm (hs₂.extBut _ _ D.i1z.symm hz₁)
  have hk : ∀ c o, c ≠ z → c ≠ i1 → c ≠ i2 → s.heap.get? c = some o → h₄.get? c = some o := fun c o c1 c3 c4 e => hs₄.extBut _ _ c4 (hs₂.extBut _ _ c3 (hs₁.extBut _ _ c1 e))
  have h1₄ : h₄.IsTupleIter i1 l1 (k1 + 1) := h1₂.extBut hs₄.extBut D.i12
  refine wpAny_pure ⟨_, rfl, ?_⟩
  show Q (.ref h₄.objs.size) _
  have hT : IsPair (h₄.push { cls := .type "tuple", data := .seq #[x, y] }) h₄.objs.size x y := Heap.get?_push_size _ rfl
  rw [hsz] at hT ⊢
  exact hQ _ (Heap.get?_push_of_some _ hz₄) (h1₄.at fun o e => Heap.get?_push_of_some _ e) (h2₄.at fun o e => Heap.get?_push_of_some _ e) hT (by rw [Heap.size_push, hsz]) fun c o c1 c3 c4 e => Heap.get?_push_of_some _ (hk c o c1 c3 c4 e)
end
end RZ
namespace RZ
open PySem PySem.Calls PyProof.Rows
section
variable {prog : Program} {w : World} {A : Around} {E : Value → Shared → Prop} {s : Shared}
theorem zo_end {z TI TO a i1 i2 l1 l2 : Addr} {f : Bool} {oa : Obj} {k1 k2 : Nat} {xs ys : Array Value} {Q : Fin → Shared → Prop} (hh : A.handled = none) (D : ZipApart z TI TO i1 i2 l1 l2)
    (hz : ZipOut s.heap z TI TO a f) (ha : s.heap.get? a = some oa) (hTI : IsPair s.heap TI (.ref i1) (.ref i2))
    (h1 : s.heap.IsTupleIter i1 l1 k1) (h2 : s.heap.IsTupleIter i2 l2 k2) (hl1 : s.heap.IsTuple l1 xs) (hl2 : s.heap.IsTuple l2 ys) (hend : xs[k1]? = none ∨ ys[k2]? = none)
    (hE : ∀ h' e, (∀ c o, c ≠ z → c ≠ i1 → c ≠ i2 → s.heap.get? c = some o → h'.get? c = some o) → (∃ o, h'.get? e = some o ∧ o.cls = .type "StopIteration") → E (.ref e) { s with heap := h' }) :
    wpAny (model prog w) A (Builtin.«zip.__next__» ⟨[.ref z], []⟩) Q E s := by
  show wpAny _ _ (field (.ref z) 2 >>= _) _ _ _
  refine wpAny_bind (wpAny_field hz rfl (x := .bool false) rfl ?_)
  show wpAny _ _ (field (.ref z) 3 >>= _) _ _ _
  refine wpAny_bind (wpAny_field hz rfl (x := .ref TI) rfl ?_)
  refine wpAny_bind (wpAny_seqItems hTI rfl ?_)
  show wpAny _ _ (Builtin.SmallTypes.ownedTupleIsFree (.ref z) >>= _) _ _ _
  refine wpAny_bind (zo_free hz ha fun h₁ hz₁ hs₁ => ?_)
  simp only [Bool.false_eq_true, if_false]
  refine wpAny_bind ?_
  simp only [← Array.forIn_toList, List.forIn_cons, List.forIn_nil]
  refine wpAny_bind (wpAny_bind (wpAny_holding ?_))
  show wpAny _ _ (Builtin.SmallTypes.nextOf (.ref i1) >>= _) _ _ _
  cases hx : xs[k1]? with
  | none => exact wpAny_bind (nextOf_tuple_end hh (h1.extBut hs₁.extBut D.i1z) (hl1.extBut hs₁.extBut D.l1z) hx fun h₂ e hs₂ he => hE h₂ e (fun c o c1 c3 _ q => hs₂ _ _ c3 (hs₁.extBut _ _ c1 q)) he)
  | some x =>
    have hy : ys[k2]? = none := by rcases hend with h | h; rw [hx] at h; cases h; exact h
    refine wpAny_bind (nextOf_tuple_item (h1.extBut hs₁.extBut D.i1z) (hl1.extBut hs₁.extBut D.l1z) hx fun h₂ h1₂ hs₂ => wpAny_pure ?_)
    refine wpAny_pure ?_
    refine wpAny_bind (wpAny_bind (wpAny_holding ?_))
    show wpAny _ _ (Builtin.SmallTypes.nextOf (.ref i2) >>= _) _ _ _
    exact wpAny_bind (nextOf_tuple_end hh ((h2.extBut hs₁.extBut D.i2z).extBut hs₂.extBut D.i12.symm) ((hl2.extBut hs₁.extBut D.l2z).extBut hs₂.extBut D.l2i1) hy fun h₃ e hs₃ he => hE h₃ e (fun c o c1 c3 c4 q => hs₃ _ _ c4 (hs₂.extBut _ _ c3 (hs₁.extBut _ _ c1 q))) he)
/-- where a zip stands whose tuples are kept -/
structure ZSt (h : Heap) (z TI TO i1 i2 l1 l2 S : Addr) (i : Nat) : Prop where
  ti : IsPair h TI (.ref i1) (.ref i2)
  t1 : h.IsTupleIter i1 l1 i
  t2 : h.IsTupleIter i2 l2 i
  zz : (IsZip h z TI TO .none ∧ ∃ x y, IsPair h TO x y) ∨ ∃ a f oa, ZipOut h z TI TO a f ∧ h.get? a = some oa ∧ a ≠ z ∧ a ≠ i1 ∧ a ≠ i2 ∧ a ≠ S
theorem zs_item {z TI TO i1 i2 l1 l2 S : Addr} {i : Nat} {xs ys : Array Value} {x y : Value} {Q : Option Value → Shared → Prop} (D : ZipApart z TI TO i1 i2 l1 l2) (hst : ZSt s.heap z TI TO i1 i2 l1 l2 S i) (hS : S < s.heap.objs.size)
    (hl1 : s.heap.IsTuple l1 xs) (hl2 : s.heap.IsTuple l2 ys) (hx : xs[i]? = some x) (hy : ys[i]? = some y)
    (hQ : ∀ h', ZSt h' z TI TO i1 i2 l1 l2 S (i + 1) → IsPair h' s.heap.objs.size x y → h'.objs.size = s.heap.objs.size + 1 → (∀ c o, c ≠ z → c ≠ TO → c ≠ i1 → c ≠ i2 → s.heap.get? c = some o → h'.get? c = some o) → Q (some (.ref s.heap.objs.size)) { s with heap := h' }) :
    wpAny (model prog w) A (pyNext (.ref z)) Q E s := by
  have lt1 : i1 < s.heap.objs.size := by obtain ⟨_, e, _⟩ := hst.t1; exact Heap.lt_size e
  have lt2 : i2 < s.heap.objs.size := by obtain ⟨_, e, _⟩ := hst.t2; exact Heap.lt_size e
  rcases hst.zz with ⟨hz, a, b, hTO⟩ | ⟨a, f, oa, hz, ha, az, a1, a2, aS⟩
  · exact pyNext_zipT_item D hz hst.ti hTO hst.t1 hst.t2 hl1 hl2 hx hy fun h' q1 q2 q3 q4 q5 q6 q7 => hQ h' ⟨q7 _ _ D.TIz D.TITO D.TIi1 D.TIi2 hst.ti, q3, q4, .inr ⟨_, false, _, q1, q5, Nat.ne_of_gt (Heap.lt_size hz), Nat.ne_of_gt lt1, Nat.ne_of_gt lt2, Nat.ne_of_gt hS⟩⟩ q5 q6 q7
  · have hT : s.TypeIs (.ref z) "zip" := ⟨_, hz, rfl⟩
    unfold pyNext
    exact wpAny_bind (wpAny_attempt (wpAny_callSpecial?_slot (name := Str.ofString "__next__") hT F.slot_zip_next
      (wpAny_call_entry F.slot_zip_next hT F.entry_zip_next
        (zo_next D hz ha hst.ti hst.t1 hst.t2 hl1 hl2 hx hy fun h' q1 q3 q4 q5 q6 q7 => wpAny_pure (hQ h' ⟨q7 _ _ D.TIz D.TIi1 D.TIi2 hst.ti, q3, q4, .inr ⟨a, true, oa, q1, q7 _ _ az a1 a2 ha, az, a1, a2, aS⟩⟩ q5 q6 fun c o c1 _ c3 c4 e => q7 c o c1 c3 c4 e)) (F.args_zip_next_1 _))))
theorem zs_done {z TI TO i1 i2 l1 l2 S : Addr} {i : Nat} {xs ys : Array Value} {Q : Option Value → Shared → Prop} (hh : A.handled = none) (D : ZipApart z TI TO i1 i2 l1 l2) (hst : ZSt s.heap z TI TO i1 i2 l1 l2 S i)
    (hl1 : s.heap.IsTuple l1 xs) (hl2 : s.heap.IsTuple l2 ys) (hend : xs[i]? = none ∨ ys[i]? = none)
    (hQ : ∀ h', (∀ c o, c ≠ z → c ≠ TO → c ≠ i1 → c ≠ i2 → s.heap.get? c = some o → h'.get? c = some o) → Q none { s with heap := h' }) : wpAny (model prog w) A (pyNext (.ref z)) Q E s := by
  rcases hst.zz with ⟨hz, a, b, hTO⟩ | ⟨a, f, oa, hz, ha, az, a1, a2, aS⟩
  · exact pyNext_zipT_end hh D hz hst.ti hTO hst.t1 hst.t2 hl1 hl2 hend hQ
  · have hT : s.TypeIs (.ref z) "zip" := ⟨_, hz, rfl⟩
    unfold pyNext
    refine wpAny_bind (wpAny_attempt (wpAny_callSpecial?_slot (name := Str.ofString "__next__") hT F.slot_zip_next
      (wpAny_call_entry F.slot_zip_next hT F.entry_zip_next (zo_end hh D hz ha hst.ti hst.t1 hst.t2 hl1 hl2 hend fun h' e hk he => ?_) (F.args_zip_next_1 _))))
    obtain ⟨o, ho, hc⟩ := he
    refine wpAny_bind (wpAny_isInstance (T := "StopIteration") (b := true) ⟨o, ho, hc⟩ isSubtype_stop ?_)
    exact wpAny_pure (hQ _ fun c o c1 _ c3 c4 e => hk c o c1 c3 c4 e)
end
end RZ
namespace RZ
open PySem PySem.Calls PyProof.Rows
/-- the tuples that were drawn -/
structure ZG (xs ys : Array Value) (lo : Addr) (h : Heap) (as : List Addr) : Prop where
  rise : as.Pairwise (· < ·)
  above : ∀ a ∈ as, lo < a
  pairs : ∀ (j : Nat) (a : Addr), as[j]? = some a → ∃ x y, xs[j]? = some x ∧ ys[j]? = some y ∧ IsPair h a x y
theorem ZG.there {xs ys : Array Value} {lo : Addr} {h : Heap} {as : List Addr} (g : ZG xs ys lo h as) {a : Addr} (ha : a ∈ as) : a < h.objs.size := by
  obtain ⟨j, hj⟩ := List.mem_iff_getElem?.mp ha
  obtain ⟨_, _, _, _, e⟩ := g.pairs j a hj
  exact Heap.lt_size e
theorem ZSt.keep {h h' : Heap} {z TI TO i1 i2 l1 l2 S : Addr} {i : Nat} (q : ZSt h z TI TO i1 i2 l1 l2 S i) (hk : ∀ b o, b ≠ S → h.get? b = some o → h'.get? b = some o) (nz : z ≠ S) (nTI : TI ≠ S) (nTO : TO ≠ S) (n1 : i1 ≠ S) (n2 : i2 ≠ S) : ZSt h' z TI TO i1 i2 l1 l2 S i := by
  refine ⟨hk _ _ nTI q.ti, q.t1.at fun o e => hk _ o n1 e, q.t2.at fun o e => hk _ o n2 e, ?_⟩
  rcases q.zz with ⟨hz, a, b, hTO⟩ | ⟨a, f, oa, hz, ha, az, a1, a2, aS⟩
  · exact .inl ⟨hk _ _ nz hz, a, b, hk _ _ nTO hTO⟩
  · exact .inr ⟨a, f, oa, hk _ _ nz hz, hk _ _ aS ha, az, a1, a2, aS⟩
section
variable {prog : Program} {w : World} {A : Around} {s : Shared} {R : Result → Shared → Prop} {xs ys : Array Value} {n : Nat}
theorem zl_loop {S z TI TO i1 i2 l1 l2 : Addr} (hh : A.handled = none) (D : ZipApart z TI TO i1 i2 l1 l2) (bz : z < S) (bTI : TI < S) (bTO : TO < S) (b1 : i1 < S) (b2 : i2 < S) (c1 : l1 < S) (c2 : l2 < S) (hnn : n = min xs.size ys.size) (hn : n ≤ sizeLine) (res : Value) {h₁ : Heap}
    (hR : ∀ h' tk acc c as, (∀ b o, b ≠ S → b ≠ z → b ≠ TO → b ≠ i1 → b ≠ i2 → h₁.get? b = some o → h'.get? b = some o) → h'.get? S = some { cls := .type "list", dict := none, data := .seq acc c, slots := #[] } → as.length = n → ZG xs ys S h' as →
      acc.toList = as.map Value.ref → R (.ok (.ret res)) { s with heap := h', toks := tk }) :
    ∀ (k i : Nat) (h : Heap) (tk c : Nat) (acc : Array Value) (as : List Addr), n - i = k → i ≤ n → ZSt h z TI TO i1 i2 l1 l2 S i → h.IsTuple l1 xs → h.IsTuple l2 ys → (∀ b o, b ≠ S → b ≠ z → b ≠ TO → b ≠ i1 → b ≠ i2 → h₁.get? b = some o → h.get? b = some o) →
      h.get? S = some { cls := .type "list", dict := none, data := .seq acc c, slots := #[] } → acc.toList = as.map Value.ref → as.length = i → ZG xs ys S h as →
      codeAny (model prog w) A (.builtin "list.extend.loop" ⟨[.ref S, .ref z, res], []⟩) R { s with heap := h, toks := tk } := by
  have ab : ∀ {a : Addr} {as : List Addr} {h : Heap}, ZG xs ys S h as → a ∈ as → a ≠ S ∧ a ≠ z ∧ a ≠ TO ∧ a ≠ i1 ∧ a ≠ i2 := fun g ha => by
    have := g.above _ ha
    exact ⟨Nat.ne_of_gt this, Nat.ne_of_gt (Nat.lt_trans bz this), Nat.ne_of_gt (Nat.lt_trans bTO this), Nat.ne_of_gt (Nat.lt_trans b1 this), Nat.ne_of_gt (Nat.lt_trans b2 this)⟩
  intro k
  induction k with
  | zero =>
    intro i h tk c acc as hk hi hst d1 d2 hkeep hS hacc hal hG
    have hin : i = n := by omega
    refine codeAny_builtin PySem.F.entry_extend_loop ?_
    rw [Around.under_plainId PySem.F.plain_extend_loop _]
    show wpAny _ A.in1 (pyNext (.ref z) >>= _) _ _ _
    have hend : xs[i]? = none ∨ ys[i]? = none := by
      rcases Nat.lt_or_ge i xs.size with q | q
      · exact .inr (Array.getElem?_eq_none (by omega))
      · exact .inl (Array.getElem?_eq_none q)
    refine wpAny_bind (zs_done (s := { s with heap := h, toks := tk }) (A := A.in1) hh D hst d1 d2 hend fun h' he => ?_)
    refine wpAny_pure (hR h' tk acc c as (fun b o q1 q2 q3 q4 q5 e => he b o q2 q3 q4 q5 (hkeep b o q1 q2 q3 q4 q5 e)) (he S _ (Nat.ne_of_gt bz) (Nat.ne_of_gt bTO) (Nat.ne_of_gt b1) (Nat.ne_of_gt b2) hS) (by omega) ⟨hG.rise, hG.above, fun j a hj => ?_⟩ hacc)
    obtain ⟨x, y, e1, e2, e3⟩ := hG.pairs j a hj
    obtain ⟨_, u2, u3, u4, u5⟩ := ab hG (List.mem_of_getElem? hj)
    exact ⟨x, y, e1, e2, he a _ u2 u3 u4 u5 e3⟩
  | succ k ih =>
    intro i h tk c acc as hk hi hst d1 d2 hkeep hS hacc hal hG
    have hlt : i < n := by omega
    have hx : xs[i]? = some xs[i] := Array.getElem?_eq_getElem (by omega)
    have hy : ys[i]? = some ys[i] := Array.getElem?_eq_getElem (by omega)
    have hsz : acc.size = i := by rw [← Array.length_toList, hacc, List.length_map, hal]
    have hSl : S < h.objs.size := Heap.lt_size hS
    refine codeAny_builtin PySem.F.entry_extend_loop ?_
    rw [Around.under_plainId PySem.F.plain_extend_loop _]
    show wpAny _ A.in1 (pyNext (.ref z) >>= _) _ _ _
    refine wpAny_bind (zs_item (s := { s with heap := h, toks := tk }) (S := S) D hst hSl d1 d2 hx hy fun h' hst' ht hz hkp => ?_)
    dsimp only at ht hz hkp ⊢
    have hS' := hkp S _ (Nat.ne_of_gt bz) (Nat.ne_of_gt bTO) (Nat.ne_of_gt b1) (Nat.ne_of_gt b2) hS
    have up : ∀ b o, b ≠ S → h'.get? b = some o → (h'.update S (Obj.mapSeq (·.push (Value.ref h.objs.size)))).get? b = some o := fun b o hb e => (Heap.get?_update_other _ _ (Ne.symm hb)).trans e
    have tup : ∀ {l : Addr} {zs : Array Value}, l < S → l ≠ z → l ≠ TO → l ≠ i1 → l ≠ i2 → h.IsTuple l zs → (h'.update S (Obj.mapSeq (·.push (Value.ref h.objs.size)))).IsTuple l zs := fun q0 q1 q2 q3 q4 ⟨o, e, r⟩ => ⟨o, up _ o (Nat.ne_of_lt q0) (hkp _ o q1 q2 q3 q4 e), r⟩
    show wpAny _ A.in1 (updateSeq S (·.push (Value.ref h.objs.size)) >>= _) _ _ _
    refine wpAny_bind ?_
    refine wpAny_updateSeq hS' rfl (wpAny_pure ⟨plainId_quiet PySem.F.plain_extend_loop _, ih (i + 1) _ tk _ (acc.push (Value.ref h.objs.size)) (as ++ [h.objs.size]) (by omega) hlt (hst'.keep up (Nat.ne_of_lt bz) (Nat.ne_of_lt bTI) (Nat.ne_of_lt bTO) (Nat.ne_of_lt b1) (Nat.ne_of_lt b2)) (tup c1 D.l1z D.l1TO D.l1i1 D.l1i2 d1) (tup c2 D.l2z D.l2TO D.l2i1 D.l2i2 d2)
      (fun b o q1 q2 q3 q4 q5 e => up b o q1 (hkp b o q2 q3 q4 q5 (hkeep b o q1 q2 q3 q4 q5 e))) (Heap.get?_update_self _ hS' rfl) (by rw [Array.toList_push, hacc, List.map_append]; rfl) (by rw [List.length_append, hal]; rfl) ⟨?_, ?_, ?_⟩⟩) (by rw [hsz]; omega) (by show (acc.push (Value.ref h.objs.size)).size ≤ sizeLine + 1; rw [Array.size_push, hsz]; omega)
    · refine List.pairwise_append.mpr ⟨hG.rise, List.pairwise_singleton _ _, fun a ha b hb => ?_⟩
      rw [List.mem_singleton.mp hb]
      exact hG.there ha
    · intro a ha
      rcases List.mem_append.mp ha with ha | ha
      · exact hG.above a ha
      · rw [List.mem_singleton.mp ha]; exact hSl
    · intro j b hj
      rcases Nat.lt_trichotomy j as.length with q | q | q
      · rw [List.getElem?_append_left q] at hj
        obtain ⟨x, y, e1, e2, e3⟩ := hG.pairs j b hj
        obtain ⟨u1, u2, u3, u4, u5⟩ := ab hG (List.mem_of_getElem? hj)
        exact ⟨x, y, e1, e2, up b _ u1 (hkp b _ u2 u3 u4 u5 e3)⟩
      · subst q
        have hb : h.objs.size = b := by simpa using hj
        subst hb
        exact ⟨_, _, by rw [hal]; exact hx, by rw [hal]; exact hy, up _ _ (Nat.ne_of_gt hSl) ht⟩
      · have hnone : (as ++ [h.objs.size])[j]? = none := List.getElem?_eq_none (by rw [List.length_append, List.length_singleton]; omega)
        rw [hnone] at hj; cases hj
end
end RZ
namespace RZ
open PySem PySem.Calls PyProof.Rows
theorem nolen_zip : typeLookup (.type "zip") "__len__" = pure none := by rw [typeLookup_type, builtinLookup_eq_fast]; kernel_rfl
theorem nohint_zip : typeLookup (.type "zip") "__length_hint__" = pure none := by rw [typeLookup_type, builtinLookup_eq_fast]; kernel_rfl
section
variable {prog : Program} {w : World} {A : Around} {E : Value → Shared → Prop} {s : Shared} {xs ys : Array Value} {n : Nat}
/-- list(z), z a new zip of two tuples -/
theorem zl_call {z TI TO i1 i2 l1 l2 : Addr} {Q : Value → Shared → Prop} (hh : A.handled = none) (D : ZipApart z TI TO i1 i2 l1 l2) (hz : IsZip s.heap z TI TO .none) (hTI : IsPair s.heap TI (.ref i1) (.ref i2)) {x0 y0 : Value} (hTO : IsPair s.heap TO x0 y0)
    (t1 : s.heap.IsTupleIter i1 l1 0) (t2 : s.heap.IsTupleIter i2 l2 0) (d1 : s.heap.IsTuple l1 xs) (d2 : s.heap.IsTuple l2 ys) (hnn : n = min xs.size ys.size) (hn : n ≤ sizeLine)
    (hQ : ∀ h' tk acc c as, (∀ b o, b ≠ z → b ≠ TO → b ≠ i1 → b ≠ i2 → s.heap.get? b = some o → h'.get? b = some o) → h'.get? s.heap.objs.size = some { cls := .type "list", dict := none, data := .seq acc c, slots := #[] } → as.length = n → ZG xs ys s.heap.objs.size h' as →
      acc.toList = as.map Value.ref → Q (.ref s.heap.objs.size) { s with heap := h', toks := tk }) :
    wpAny (model prog w) A (call (.type "list") [.ref z]) Q E s := by
  have bz : z < s.heap.objs.size := Heap.lt_size hz
  have bTI : TI < s.heap.objs.size := Heap.lt_size hTI
  have bTO : TO < s.heap.objs.size := Heap.lt_size hTO
  have b1 : i1 < s.heap.objs.size := by obtain ⟨_, e, _⟩ := t1; exact Heap.lt_size e
  have b2 : i2 < s.heap.objs.size := by obtain ⟨_, e, _⟩ := t2; exact Heap.lt_size e
  have c1 : l1 < s.heap.objs.size := by obtain ⟨_, e, _⟩ := d1; exact Heap.lt_size e
  have c2 : l2 < s.heap.objs.size := by obtain ⟨_, e, _⟩ := d2; exact Heap.lt_size e
  refine callType_codes (Q₁ := fun obj s₁ => obj = .ref s.heap.objs.size ∧ s₁ = { s with heap := s.heap.push { cls := .type "list", data := .seq #[] } }) PySem.F.called_list (PySem.F.typeCall_list_1 _) PySem.F.entry_list_init
    (code_list_new _ ⟨rfl, rfl⟩) fun obj s₁ h₁ => ?_
  obtain ⟨rfl, rfl⟩ := h₁
  have hS : (s.heap.push { cls := .type "list", data := .seq #[] }).get? s.heap.objs.size = some { cls := .type "list", data := .seq #[] } := Heap.get?_push_size _ rfl
  refine ⟨⟨_, hS, rfl⟩, PySem.F.args_list_init_2 _ _, ?_⟩
  show wpAny _ _ (do let old ← Builtin.List.listItems (.ref s.heap.objs.size); Builtin.List.listUpdate (.ref s.heap.objs.size) (fun _ => #[]); letGo old.toList.reverse; Builtin.List.listExtendWith (.ref s.heap.objs.size) (.ref z) .none) _ _ _
  refine wpAny_bind ?_
  unfold Builtin.List.listItems
  refine wpAny_bind (wpAny_seqItems hS rfl (wpAny_pure ?_))
  show wpAny _ _ (updateSeq s.heap.objs.size (fun _ => #[]) >>= fun _ => letGo (#[] : Array Value).toList.reverse >>= fun _ => Builtin.List.listExtendWith (.ref s.heap.objs.size) (.ref z) .none) _ _ _
  refine wpAny_bind (wpAny_updateSeq hS rfl ?_)
  have hS₂ := Heap.get?_update_self (Obj.mapSeq (fun _ => (#[] : Array Value))) hS rfl
  have oth : ∀ b o, b ≠ s.heap.objs.size → s.heap.get? b = some o → ((s.heap.push { cls := .type "list", data := .seq #[] }).update s.heap.objs.size (Obj.mapSeq (fun _ => (#[] : Array Value)))).get? b = some o :=
    fun b o hb e => (Heap.get?_update_other _ _ (Ne.symm hb)).trans (Heap.get?_push_of_some _ e)
  refine wpAny_bind (wpAny_letGo ?_)
  generalize (s.heap.push { cls := .type "list", data := .seq #[] }).update s.heap.objs.size (Obj.mapSeq (fun _ => (#[] : Array Value))) = h2 at hS₂ oth ⊢
  have hz2 : IsZip h2 z TI TO .none := oth _ _ (Nat.ne_of_lt bz) hz
  unfold Builtin.List.listExtendWith
  refine wpAny_bind (wpAny_typeOf (T := "zip") ⟨_, hz2, rfl⟩ ?_)
  have h1 : Builtin.List.listSameRef (.ref s.heap.objs.size) (.ref z) = false := by simp [Builtin.List.listSameRef, Nat.ne_of_gt bz]
  have h2' : (Value.type "zip" == Value.type "list") = false := by decide
  have h3 : (Value.type "zip" == Value.type "tuple") = false := by decide
  simp only [h1, h2', h3, Bool.or_false, Bool.false_eq_true, if_false]
  refine wpAny_bind (wpAny_pyIter_zip hz2 ?_)
  refine wpAny_bind (wpAny_holding ?_)
  unfold Builtin.List.listLengthHint
  refine wpAny_bind (wpAny_specialOf (T := "zip") ⟨_, hz2, rfl⟩ nolen_zip ?_)
  show wpAny _ _ (specialOf (Value.ref z) (Str.ofString "__length_hint__") >>= _) _ _ _
  refine wpAny_bind (wpAny_specialOf (T := "zip") ⟨_, hz2, rfl⟩ nohint_zip ?_)
  refine wpAny_pure ?_
  show wpAny _ _ (rule "list.extend.makes-room" >>= fun _ => Builtin.List.listTouch (.ref s.heap.objs.size) >>= fun _ => again (.builtin "list.extend.loop" ⟨[.ref s.heap.objs.size, .ref z, .none], []⟩)) _ _ _
  refine wpAny_bind (wpAny_rule ?_)
  refine wpAny_bind ?_
  show wpAny _ _ (updateSeq s.heap.objs.size (·.push .none) >>= fun _ => updateSeq s.heap.objs.size (·.pop)) _ _ _
  refine wpAny_bind (wpAny_updateSeq hS₂ rfl ?_)
  have hS₃ := Heap.get?_update_self (Obj.mapSeq (·.push Value.none)) hS₂ rfl
  refine wpAny_updateSeq (hz := by seq_fits) hS₃ rfl ?_
  have hS₄ := Heap.get?_update_self (Obj.mapSeq (·.pop)) hS₃ rfl
  have oth4 : ∀ b o, b ≠ s.heap.objs.size → s.heap.get? b = some o → ((h2.update s.heap.objs.size (Obj.mapSeq (·.push Value.none))).update s.heap.objs.size (Obj.mapSeq (·.pop))).get? b = some o :=
    fun b o hb e => (Heap.get?_update_other _ _ (Ne.symm hb)).trans ((Heap.get?_update_other _ _ (Ne.symm hb)).trans (oth b o hb e))
  refine wpAny_pure ⟨plainId_quiet PySem.F.plain_extend_loop _, ?_⟩
  refine zl_loop (A := A.in1) (s := s) (h₁ := s.heap) (n := n) (S := s.heap.objs.size) (z := z) (xs := xs) (ys := ys) hh D bz bTI bTO b1 b2 c1 c2 hnn hn .none ?_ n 0 _ _ _ #[] [] (Nat.sub_zero _) (Nat.zero_le _) ?_ ?_ ?_ (fun b o u1 _ _ _ _ e => oth4 b o u1 e) hS₄ rfl rfl ⟨List.Pairwise.nil, (fun _ ha => nomatch ha), (fun j a hj => by simp at hj)⟩
  · intro h' tk acc c as q1 q2 q3 q4 q5
    exact ⟨rfl, hQ h' tk acc c as (fun b o u1 u2 u3 u4 e => q1 b o (Nat.ne_of_lt (Heap.lt_size e)) u1 u2 u3 u4 e) q2 q3 q4 q5⟩
  · exact ⟨oth4 _ _ (Nat.ne_of_lt bTI) hTI, t1.at fun o e => oth4 _ o (Nat.ne_of_lt b1) e, t2.at fun o e => oth4 _ o (Nat.ne_of_lt b2) e, .inl ⟨oth4 _ _ (Nat.ne_of_lt bz) hz, _, _, oth4 _ _ (Nat.ne_of_lt bTO) hTO⟩⟩
  · obtain ⟨o, e, r⟩ := d1
    exact ⟨o, oth4 _ o (Nat.ne_of_lt c1) e, r⟩
  · obtain ⟨o, e, r⟩ := d2
    exact ⟨o, oth4 _ o (Nat.ne_of_lt c2) e, r⟩
end
end RZ
namespace NK
open PySem PySem.Spec PyProof.Rows L2
/-- the pairs tracked at their addresses -/
def putZ : Hp → List Addr → List (V × V) → Hp
  | H, a :: as, p :: ps => putZ (upd H a (.tup [p.1, p.2])) as ps
  | H, _, _ => H
theorem putZ_off {b : Addr} : ∀ (as : List Addr) (ps : List (V × V)) (H : Hp), b ∉ as → putZ H as ps b = H b
  | [], _, _, _ => rfl
  | _ :: _, [], _, _ => rfl
  | a :: as, p :: ps, H, h => by
    show putZ (upd H a (.tup [p.1, p.2])) as ps b = H b
    rw [putZ_off as ps _ (fun z => h (List.mem_cons_of_mem _ z)), upd_ne (fun z => h (by rw [z]; exact List.mem_cons_self))]
theorem putZ_at : ∀ (as : List Addr) (ps : List (V × V)) (H : Hp), as.length = ps.length → as.Nodup → ∀ (j : Nat) a p, as[j]? = some a → ps[j]? = some p → putZ H as ps a = some (.tup [p.1, p.2])
  | [], _, _, _, _, j, a, p, e, _ => by simp at e
  | _ :: _, [], _, h, _, _, _, _, _, _ => by cases h
  | b :: as, q :: ps, H, h, hn, j, a, p, e1, e2 => by
    have hn' := List.nodup_cons.mp hn
    cases j with
    | zero =>
      simp at e1 e2
      subst e1
      subst e2
      show putZ (upd H b (.tup [q.1, q.2])) as ps b = _
      rw [putZ_off as ps _ hn'.1, upd_same]
    | succ j =>
      simp at e1 e2
      exact putZ_at as ps (upd H b (.tup [q.1, q.2])) (Nat.succ.inj h) hn'.2 j a p e1 e2
theorem putZ_some : ∀ (as : List Addr) (ps : List (V × V)) (H : Hp) (b : Addr) (o : HO), as.length = ps.length → as.Nodup → putZ H as ps b = some o → b ∈ as → ∃ (j : Nat) (p : V × V), as[j]? = some b ∧ ps[j]? = some p ∧ o = .tup [p.1, p.2] := fun as ps H b o hl hn e hb => by
  obtain ⟨j, hj⟩ := List.mem_iff_getElem?.mp hb
  have hlt : j < ps.length := by
    rw [← hl]
    exact (List.getElem?_eq_some_iff.mp hj).1
  have q := putZ_at as ps H hl hn j b _ hj (List.getElem?_eq_getElem hlt)
  rw [e] at q
  exact ⟨j, _, hj, List.getElem?_eq_getElem hlt, Option.some.inj q⟩
end NK
namespace NK
open PySem PySem.Spec PyProof.Rows L2
theorem vals_refs : ∀ as : List Addr, Vals (as.map V.ref) (as.map Value.ref)
  | [] => .nil
  | _ :: as => .cons (show Value.ref _ = Value.ref _ from rfl) (vals_refs as)
section
variable {X : Cx}
theorem zip_laid {pins : List (Addr × Obj)} {σ : L2.St} {H : Hp} {s : Shared} {h' : Heap} {tk : Nat} {ps : List (V × V)} {acc : Array Value} {c : Nat} {as : List Addr} {S : Addr} (I : Inv X pins σ H s) (hS0 : s.heap.objs.size ≤ S) (hz : ps.length ≤ sizeLine)
    (hk : ∀ b o, s.heap.get? b = some o → h'.get? b = some o) (hS : h'.get? S = some { cls := .type "list", dict := none, data := .seq acc c, slots := #[] }) (hl : as.length = ps.length) (rise : as.Pairwise (· < ·)) (above : ∀ a ∈ as, S < a)
    (hp : ∀ (j : Nat) a p, as[j]? = some a → ps[j]? = some p → ∃ x y, RelV p.1 x ∧ RelV p.2 y ∧ IsPair h' a x y) (hacc : acc.toList = as.map Value.ref) :
    ∃ H' : Hp, (∀ b o, H b = some o → H' b = some o) ∧ H S = none ∧ (∀ t ∈ as, H t = none) ∧ S ∉ as ∧ as.Nodup ∧ H' S = some (.lst (as.map V.ref)) ∧ (∀ (j : Nat) a p, as[j]? = some a → ps[j]? = some p → H' a = some (.tup [p.1, p.2])) ∧ Inv X pins σ H' { s with heap := h', toks := tk } := by
  have hSn : S ∉ as := fun z => Nat.lt_irrefl _ (above _ z)
  have nd : as.Nodup := List.Pairwise.imp (fun {a b} (h : a < b) => Nat.ne_of_lt h) rise
  have new : ∀ t ∈ as, H t = none := fun t ht => I.hok.fresh (Nat.le_of_lt (Nat.lt_of_le_of_lt hS0 (above t ht)))
  have newS : H S = none := I.hok.fresh hS0
  have atP := putZ_at as ps (upd H S (.lst (as.map V.ref))) hl nd
  have off : ∀ b, b ∉ as → b ≠ S → putZ (upd H S (.lst (as.map V.ref))) as ps b = H b := fun b h1 h2 => by rw [putZ_off as ps _ h1, upd_ne h2]
  have low : ∀ b o, s.heap.get? b = some o → b ∉ as ∧ b ≠ S := fun b o e => ⟨fun z => absurd (Heap.lt_size e) (Nat.not_lt.mpr (Nat.le_of_lt (Nat.lt_of_le_of_lt hS0 (above b z)))), Nat.ne_of_lt (Nat.lt_of_lt_of_le (Heap.lt_size e) hS0)⟩
  have kp : ∀ b u, H b = some u → (putZ (upd H S (.lst (as.map V.ref))) as ps) b = some u := fun b u e => by
    rw [off b (fun z => by rw [new b z] at e; cases e) (fun z => by rw [z, newS] at e; cases e)]
    exact e
  have eS : putZ (upd H S (.lst (as.map V.ref))) as ps S = some (.lst (as.map V.ref)) := by rw [putZ_off as ps _ hSn, upd_same]
  refine ⟨putZ (upd H S (.lst (as.map V.ref))) as ps, kp, newS, new, hSn, nd, eS, atP, ?_⟩
  refine I.call' (ch := []) rfl ⟨fun b o q _ _ _ => hk b o q, fun b o q _ _ _ => ⟨o.slots, hk b o q⟩, fun b o q n _ => ?_, fun b o q _ => ⟨o, hk b o q⟩, fun b xs q => kp b _ q, fun b o u q => kp b _ q, fun b qs q => ⟨#[], by rw [kp b _ q]; simp⟩⟩ (fun b u q => ?_) I.bare fun b z => by simp at z
  · obtain ⟨z1, z2⟩ := low b o q
    rw [off b z1 z2]
    exact n
  · by_cases hb : b ∈ as
    · obtain ⟨j, p, e1, e2, e3⟩ := putZ_some as ps _ b u hl nd q hb
      subst e3
      obtain ⟨x, y, r1, r2, f3⟩ := hp j b p e1 e2
      exact ⟨by show 2 ≤ sizeLine; decide, [x, y], .cons r1 (.cons r2 .nil), ⟨_, f3, rfl, _, rfl⟩⟩
    · by_cases hb2 : b = S
      · rw [hb2] at q ⊢
        rw [eS] at q
        cases q
        refine ⟨by rw [List.length_map]; omega, acc.toList, c, by rw [hacc]; exact vals_refs as, ?_⟩
        rw [Array.toArray_toList]
        exact hS
      · rw [off b hb hb2] at q
        exact (I.hok b u q).stay (fun d v _ y => hk d v y) (fun d y => kp d _ y) fun d xs y => kp d _ y
end
end NK
namespace NK
open PySem PySem.Spec PyProof.Rows L2
/-- list(zip(a, b)) of two tuples -/
def tListZip (K : PySem.W.Frag) (ta : TA) : TE := fun σ H Q => ta σ H fun vs H1 => ∃ a b xs ys, vs = [V.ref a, V.ref b] ∧ SqT K H1 a xs ∧ SqT K H1 b ys ∧
  ∀ (H' : Hp) (S : Addr) (as : List Addr), (∀ c o, H1 c = some o → H' c = some o) → H1 S = none → (∀ t ∈ as, H1 t = none) → S ∉ as → as.Nodup → as.length = (xs.zip ys).length → H' S = some (.lst (as.map V.ref)) → (∀ (j : Nat) c p, as[j]? = some c → (xs.zip ys)[j]? = some p → H' c = some (.tup [p.1, p.2])) → Q (.ref S) H'
section
variable {X : Cx} {e e2 : Expr} {ta : TA} {p pos p2 pos2 : Pos}
theorem pe_listZip (hc : X.calm = true) (ha : PA X [e, e2] ta) (hg : Gl X "list") (hm : X.mg "list" = none) (hg2 : Gl X "zip") (hm2 : X.mg "zip" = none)
    (hs : starEach [.Call (.Name "zip" p2) [e, e2] [] pos2] X.env = (false, eval (.Call (.Name "zip" p2) [e, e2] [] pos2) X.env) :: starEach [] X.env := by rfl)
    (hs2 : starEach [e, e2] X.env = (false, eval e X.env) :: starEach [e2] X.env := by rfl) (hpl : (backTo pos2 (starEach [e2] X.env)).any (·.1) = false := by rfl) :
    PE X (.Call (.Name "list" p) [.Call (.Name "zip" p2) [e, e2] [] pos2] [] pos) (tListZip X.K ta) := by
  refine ⟨fun pins s σ H Q I hq => ?_⟩
  refine wpAny_Call_Name_kw (ld_blt I hg hm (show bootBuiltins "list" = some (.type "list") by decide +kernel) ?_)
  refine PyProof.Rows.callWith_type1 ?_ hs rfl
  rw [hs]
  show wpAny _ _ (spliced ((false, eval (.Call (.Name "zip" p2) [e, e2] [] pos2) X.env) :: backTo pos (starEach [] X.env))) _ _ s
  refine Calls.spliced_cons ?_
  refine Call_ (ld_blt I hg2 hm2 PyProof.Rows.boot_zip (PyProof.Rows.callWith_type1 (thn (ha.run pos2 pins s σ H _ I hq) fun us s1 ⟨vs, H1, I1, r1, q1⟩ => ?_) hs2 hpl))
  obtain ⟨a, b, xs, ys, ex, hqx, hqy, q⟩ := q1
  subst ex
  cases r1 with
  | cons r rr =>
    cases rr with
    | cons r' rr =>
      cases rr
      cases r
      cases r'
      obtain ⟨its, rv, t1, l1⟩ := I1.tuple hqx
      obtain ⟨its2, rv2, t2, l2⟩ := I1.tuple hqy
      obtain ⟨o1, ho1, k1⟩ := id t1
      obtain ⟨o2, ho2, k2⟩ := id t2
      refine RZ.call_zipT (show s1.heap.IsTuple a its.toArray from t1) (show s1.heap.IsTuple b its2.toArray from t2) fun h' hz hTI hTO j1 j2 hsz hk => ?_
      refine Calls.spliced_nil ?_
      have D := PySem.W.ktu_apart s1.heap.objs.size a b (Heap.lt_size ho1) (Heap.lt_size ho2)
      refine RZ.zl_call (s := { s1 with heap := h' }) (n := (xs.zip ys).length) (I1.ok.hd hc) D hz hTI hTO j1 j2 ⟨o1, hk _ _ ho1, k1⟩ ⟨o2, hk _ _ ho2, k2⟩ (by rw [List.length_zip, rv.length, rv2.length]; simp) (by rw [List.length_zip]; omega) fun h2 tk acc c as g1 g2 g3 g4 g5 => ?_
      have up : ∀ d o, s1.heap.get? d = some o → h2.get? d = some o := fun d o e => by
        have lt := Heap.lt_size e
        exact g1 d o (Nat.ne_of_lt (Nat.lt_of_lt_of_le lt (Nat.le_add_right _ _))) (Nat.ne_of_lt (Nat.lt_of_lt_of_le lt (Nat.le_add_right _ _))) (Nat.ne_of_lt lt) (Nat.ne_of_lt (Nat.lt_of_lt_of_le lt (Nat.le_add_right _ _))) (hk d o e)
      obtain ⟨H', f1, f2, f3, f4, f5, f6, f7, J⟩ := zip_laid (tk := tk) (ps := xs.zip ys) I1 (S := h'.objs.size) (by rw [hsz]; exact Nat.le_add_right _ _) (by rw [List.length_zip]; omega) up g2 g3 g4.rise g4.above (fun j d pr e1 e2 => by
        obtain ⟨x, y, w1, w2, w3⟩ := g4.pairs j d e1
        obtain ⟨z1, z2⟩ := List.getElem?_zip_eq_some.mp e2
        obtain ⟨u, hu, ru⟩ := rv.get z1
        obtain ⟨v, hv, rv'⟩ := rv2.get z2
        have ex : x = u := by simpa [hu] using w1.symm
        have ey : y = v := by simpa [hv] using w2.symm
        subst ex
        subst ey
        exact ⟨x, y, ru, rv', w3⟩) g5
      exact ⟨.ref _, H', J, rfl, q H' _ as f1 f2 f3 f4 f5 g3 f6 f7⟩
end
end NK

namespace NK
open PySem PySem.Spec PyProof.Rows L2
/-- what isinstance asks of an own class -/
structure ClI (K : PySem.W.Frag) (C : Addr) : Prop where
  cl : Cls K C
  ha : PySem.W.findIn K (.ref C) "__class__" = some (some (.builtin "object.__class__"))
  hn : PySem.W.specialIn K (.builtin "object.__class__") "__get__" = some (some (.builtin "getset_descriptor.__get__"))
  ht : PySem.W.takesIn K (.builtin "object.__class__") = some true
  hm : PySem.W.mroIn K C (.type "object") = some true
end NK
namespace FM
open PySem PySem.Spec PyProof.Rows L2
/-! ### isinstance -/
inductive Kd where
  | non | bl | int | str | lst | tup | ins (c : Nat)
  deriving DecidableEq
def kdD : Dt → Option Kd
  | .non => some .non | .bl _ => some .bl | .int _ => some .int | .str _ => some .str
  | .lst _ => some .lst | .scr _ => some .lst | .tup _ => some .tup | .ins c _ => some (.ins c)
  | _ => none
def kdOf (m : Cells) : Vl → Option Kd
  | .d d => kdD d
  | .ref k => match m[k]? with
    | some (some (.lst _)) => some .lst
    | some (some (.ins c _)) => some (.ins c)
    | _ => none
def Kd.ty (T : Tab) : Kd → Value
  | .non => .type "NoneType" | .bl => .type "bool" | .int => .type "int" | .str => .type "str" | .lst => .type "list" | .tup => .type "tuple"
  | .ins c => .ref (T.ca c)
structure IsiOk (T : Tab) (u : Value) (q : Kd → Option Bool) : Prop where
  ok : ∀ k b, q k = some b → PySem.W.kitOne T.K (k.ty T) u = some b ∧ ∀ c, k = .ins c → NK.ClI T.K (T.ca c)
theorem kd_ok {T : Tab} {F : Frm} {I H : Hp} {A : List Addr} {m : Cells} {x : V} {v : Vl} {k : Kd} (b : Base T F I H A m) (h : VR T I A x v) (e : kdOf m v = some k) (hc : ∀ c, k = .ins c → NK.ClI T.K (T.ca c)) : TyX T.K H x (k.ty T) := by
  cases v with
  | ref j =>
    obtain ⟨a, rfl, ha⟩ := h.cel
    simp only [kdOf] at e
    split at e
    · rename_i ds hm
      cases e
      obtain ⟨vs, h1, h2⟩ := b.ok _ _ a hm ha
      exact .base (.lst h1)
    · rename_i c ds hm
      cases e
      obtain ⟨dx, vs, h1, h2, h3⟩ := b.ok _ _ a hm ha
      have q := hc c rfl
      exact .base (.ins h1 q.cl q.ha q.hn q.ht q.hm)
    · cases e
  | d d =>
    have e : kdD d = some k := e
    cases h.dat with
    | non => cases e; exact .base .non
    | bl b => cases e; exact .base (.bl b)
    | int i => cases e; exact .base (.int i)
    | str z => cases e; exact .base (.str z)
    | glo i => cases e
    | dct h1 h2 h3 => cases e
    | lst h1 h2 => cases e; exact .base (.lst (b.sub _ _ h1))
    | scr h1 h2 =>
      cases e
      rcases same_l b.sub h1 with (e | ⟨o, e⟩) | ⟨o, _, _, e, c, _⟩
      · exact .base (.lst e)
      · exact .base (.frz e)
      · exact .kList e c
    | tup h1 h2 =>
      cases e
      rcases same_t b.sub h1 with (e | ⟨o, e⟩) | ⟨o, _, _, e, c, _⟩
      · exact .base (.tup e)
      · exact .fTuple e
      · exact .kTuple e c
    | ins h1 h2 h3 =>
      cases e
      have q := hc _ rfl
      exact .base (.ins (b.sub _ _ h1) q.cl q.ha q.hn q.ht q.hm)
def oIsi (q : Kd → Option Bool) : O1 := fun m x => ((kdOf m x).bind q).map fun b => .d (.bl b)
section
variable {X : Cx} {C : Fc} {e : Expr} {ma : MA} {me mb mc : ME}
theorem fe_isi {q : Kd → Option Bool} {c : V} {u : Value} (h : PE X e (tCB (rIsi C.T.K) (tCons (FE C me) (tCons (tC c) tNil)))) (hc : ClsV c u) (k : IsiOk C.T u q) : PE X e (FE C (mUn (oIsi q) me)) :=
  fe_un (r := fun x H1 Q => rIsi C.T.K [x, c] H1 Q) h (fun σ H Q q => q) fun F I H A m x d1 d b hx e Q p => by
    unfold oIsi at e
    cases ek : kdOf m d1 with
    | none => simp [ek] at e
    | some kd =>
      cases eq : q kd with
      | none => simp [ek, eq] at e
      | some z =>
        simp [ek, eq] at e
        subst e
        obtain ⟨k1, k2⟩ := k.ok kd z eq
        exact ⟨x, c, _, u, z, rfl, hc, kd_ok b hx ek k2, k1, p _ H I b (Same.refl I) (.d (.bl _))⟩
/-! ### list(zip(a, b)) -/
theorem Base.grow {T : Tab} {F : Frm} {I H I2 H' : Hp} {A : List Addr} {m : Cells} (b : Base T F I H A m) (up : Same I I2) (f1 : ∀ c o, H c = some o → H' c = some o) (nw : ∀ c, H c ≠ none → I2 c = I c) (sub : Same I2 H') : Base T F I2 H' A m := by
  have kp : ∀ c, H c ≠ none → H' c ≠ none := fun c e => by
    cases w : H c with
    | none => exact absurd w e
    | some o => rw [f1 c o w]; exact fun z => nomatch z
  refine ⟨sub, fun q hq => ?_, b.fnd, b.len, b.nd, fun a ha => kp a (b.al a ha), fun k c a h1 h2 => ?_, fun k c a h1 h2 => (b.ok k c a h1 h2).mono up fun o q => f1 _ _ q⟩
  · obtain ⟨g1, g2, g3⟩ := b.fm q hq
    exact ⟨f1 _ _ g1, g2, by rw [nw _ (by rw [g1]; exact fun z => nomatch z)]; exact g3⟩
  · rw [nw a (b.al a (List.mem_of_getElem? h2))]
    exact b.fr k c a h1 h2
theorem drs_zip {T : Tab} {I' : Hp} {xs ys : List V} {ds es : List Dt} (hx : DRs T I' xs ds) (hy : DRs T I' ys es) : ∀ {as : List Addr}, as.length = (xs.zip ys).length → (∀ (j : Nat) c p, as[j]? = some c → (xs.zip ys)[j]? = some p → I' c = some (.tup [p.1, p.2])) → DRs T I' (as.map V.ref) (zipD ds es) := by
  induction xs generalizing ys ds es with
  | nil =>
    intro as hl _
    cases hx
    cases as with
    | nil => exact .nil
    | cons a as => simp at hl
  | cons x xs ih =>
    intro as hl h
    cases hx with
    | @cons _ _ d ds dx tx =>
      cases hy with
      | nil =>
        cases as with
        | nil => exact .nil
        | cons a as => simp at hl
      | @cons y ys e es dy ty =>
        cases as with
        | nil => simp at hl
        | cons a as =>
          have h0 := h 0 a (x, y) rfl rfl
          refine .cons (.tup (.inl (.inl h0)) (.cons dx (.cons dy .nil))) (ih tx ty (as := as) (by simpa using hl) fun j c p e1 e2 => h (j + 1) c p (by simpa using e1) (by simpa using e2))
def mListZip (ma : MA) : ME := fun g m => (ma g m).bind fun vs m1 => match vs with
  | [x, y] => (match tupOf x, tupOf y with
    | some a, some b => .ok (.d (.lst (zipD a b))) m1
    | _, _ => .bad)
  | _ => .bad
theorem fe_listZip (h : PE X e (NK.tListZip C.T.K (FA C ma))) : PE X e (FE C (mListZip ma)) := pe_of h fun σ H Q ⟨B, g, S, m, vs, I, A, r, w⟩ => args_ok r w fun ws ds m1 H1 I1 A1 r1 hv w1 => by
  split at w1
  · rename_i x y
    split at w1
    · rename_i as bs e1 e2
      obtain ⟨v, u, rfl, hw, hu⟩ := hv.two_inv
      obtain ⟨a, xs, rfl, g1, g2⟩ := tupOf_ok r1.base hw e1
      obtain ⟨b, ys, rfl, g1', g2'⟩ := tupOf_ok r1.base hu e2
      refine ⟨a, b, xs, ys, rfl, g1, g1', fun H' L as f1 f2 f3 f4 f5 f6 f7 f8 => ?_⟩
      have iN : ∀ t ∈ as, I1 t = none := fun t ht => none_of_sub r1.sub (f3 t ht)
      let I2 : Hp := NK.putZ I1 as (xs.zip ys)
      have up : Same I1 I2 := fun c o e => by
        show NK.putZ I1 as (xs.zip ys) c = some o
        rw [NK.putZ_off as _ _ (fun z => by rw [iN c z] at e; cases e)]
        exact e
      have at2 : ∀ (j : Nat) c pr, as[j]? = some c → (xs.zip ys)[j]? = some pr → I2 c = some (.tup [pr.1, pr.2]) := NK.putZ_at as (xs.zip ys) I1 f6 f5
      have sub2 : Same I2 H' := fun c o e => by
        by_cases hc : c ∈ as
        · obtain ⟨j, pr, e1, e2, e3⟩ := NK.putZ_some as (xs.zip ys) I1 c o f6 f5 e hc
          rw [e3]
          exact f8 j c pr e1 e2
        · have e' : NK.putZ I1 as (xs.zip ys) c = some o := e
          rw [NK.putZ_off as _ _ hc] at e'
          exact f1 c o (r1.sub c o e')
      have b2 : Base C.T B.F I2 H' A1 m1 := r1.base.grow up f1 (fun c e => NK.putZ_off as _ _ (fun z => e (f3 c z))) sub2
      have iL : I2 L = none := by
        show NK.putZ I1 as (xs.zip ys) L = none
        rw [NK.putZ_off as _ _ f4]
        exact none_of_sub r1.sub f2
      have up3 : Same I2 (upd I2 L (.lst (as.map V.ref))) := same_upd iL
      have b3 : Base C.T B.F (upd I2 L (.lst (as.map V.ref))) H' A1 m1 := r1.base.grow (up.trans up3) f1 (fun c e => by
        rw [upd_ne (fun z => e (by rw [z]; exact f2))]
        exact NK.putZ_off as _ _ (fun z => e (f3 c z))) fun c o e => by
        by_cases hc : c = L
        · subst hc; rw [upd_same] at e; cases e; exact f7
        · rw [upd_ne hc] at e; exact sub2 c o e
      have hd := drs_zip (g2.mono up) (g2'.mono up) f6 at2
      exact w1 _ _ _ _ ((r1.step b3 ⟨up.trans up3, List.prefix_refl _⟩).push (.d (.lst upd_same (hd.mono up3))))
    · exact (show False from w1).elim
  · exact (show False from w1).elim
/-! ### and, or, not as values; -x -/
def mOrV (ma mb : ME) : ME := fun g m => (ma g m).bind fun x m1 => match x with
  | .d (.bl true) => .ok (.d (.bl true)) m1
  | .d (.bl false) => mb g m1
  | _ => .bad
def mAndV (ma mb : ME) : ME := fun g m => (ma g m).bind fun x m1 => match x with
  | .d (.bl true) => mb g m1
  | .d (.bl false) => .ok (.d (.bl false)) m1
  | _ => .bad
theorem fe_orV (h : PE X e (tOrV (FE C me) (FE C mb))) : PE X e (FE C (mOrV me mb)) := pe_of h fun σ H Q ⟨B, g, S, m, vs, I, A, r, w⟩ => one_ok r w fun x d m1 H1 I1 A1 r1 w1 => by
  cases d with
  | ref k => exact (show False from w1).elim
  | d d =>
    cases d with
    | bl b =>
      cases r1.top.dat
      cases b with
      | true => exact ⟨true, rfl, by rw [if_pos rfl]; exact w1 _ _ _ _ r1⟩
      | false => exact ⟨false, rfl, by rw [if_neg Bool.false_ne_true]; exact ⟨B, g, S, m1, vs, I1, A1, r1.pop1, w1⟩⟩
    | _ => exact (show False from w1).elim
theorem fe_andV (h : PE X e (tAndV (FE C me) (FE C mb))) : PE X e (FE C (mAndV me mb)) := pe_of h fun σ H Q ⟨B, g, S, m, vs, I, A, r, w⟩ => one_ok r w fun x d m1 H1 I1 A1 r1 w1 => by
  cases d with
  | ref k => exact (show False from w1).elim
  | d d =>
    cases d with
    | bl b =>
      cases r1.top.dat
      cases b with
      | true => exact ⟨true, rfl, by rw [if_pos rfl]; exact ⟨B, g, S, m1, vs, I1, A1, r1.pop1, w1⟩⟩
      | false => exact ⟨false, rfl, by rw [if_neg Bool.false_ne_true]; exact w1 _ _ _ _ r1⟩
    | _ => exact (show False from w1).elim
def oNot : O1 := fun _ x => match x with
  | .d (.bl b) => some (.d (.bl (!b)))
  | _ => none
theorem fe_notV (h : PE X e (tNotV (FE C me))) : PE X e (FE C (mUn oNot me)) :=
  fe_un (r := fun x H1 Q => ∃ c, x = .bl c ∧ Q (.bl (!c)) H1) h (fun σ H Q q => q) fun F I H A m x d1 d b hx e Q p => by
    unfold oNot at e
    split at e
    · cases e
      cases hx.dat
      exact ⟨_, rfl, p _ H I b (Same.refl I) (.d (.bl _))⟩
    · cases e
def oNeg : O1 := fun _ x => match x with
  | .d (.int i) => some (.d (.int (-i)))
  | _ => none
theorem fe_neg (h : PE X e (tUn (rU fun i => .int (-i)) (FE C me))) : PE X e (FE C (mUn oNeg me)) :=
  fe_un (r := rU fun i => .int (-i)) h (fun σ H Q q => q) fun F I H A m x d1 d b hx e Q p => by
    unfold oNeg at e
    split at e
    · cases e
      cases hx.dat
      exact ⟨_, rfl, p _ H I b (Same.refl I) (.d (.int _))⟩
    · cases e
/-! ### max, min of two ints -/
def nMax : ON := fun _ xs => match xs with
  | [.d (.int i), .d (.int j)] => some (.d (.int (if j > i then j else i)))
  | _ => none
def nMin : ON := fun _ xs => match xs with
  | [.d (.int i), .d (.int j)] => some (.d (.int (if j < i then j else i)))
  | _ => none
def rMax2 : List V → Hp → VK → Prop := fun xs H Q => ∃ i j, xs = [.int i, .int j] ∧ Q (.int (if j > i then j else i)) H
def rMin2 : List V → Hp → VK → Prop := fun xs H Q => ∃ i j, xs = [.int i, .int j] ∧ Q (.int (if j < i then j else i)) H
theorem call_mx2 {X : Cx} (hc : X.calm = true) : CallR X (.builtin "max") rMax2 := call_max2 hc
theorem call_mn2 {X : Cx} (hc : X.calm = true) : CallR X (.builtin "min") rMin2 := call_min2 hc
theorem sim_max {T : Tab} : SimN T rMax2 nMax := simN_pure fun F I H A m ws ds d b hv e Q q => by
  unfold nMax at e
  split at e
  · cases e
    obtain ⟨v, u, rfl, hw, hu⟩ := hv.two_inv
    cases hw.dat; cases hu.dat
    exact ⟨_, _, rfl, q _ (.d (.int _))⟩
  · cases e
theorem sim_min {T : Tab} : SimN T rMin2 nMin := simN_pure fun F I H A m ws ds d b hv e Q q => by
  unfold nMin at e
  split at e
  · cases e
    obtain ⟨v, u, rfl, hw, hu⟩ := hv.two_inv
    cases hw.dat; cases hu.dat
    exact ⟨_, _, rfl, q _ (.d (.int _))⟩
  · cases e
/-! ### all of a list of bools -/
def bools : List Dt → Option (List Bool)
  | [] => some []
  | .bl b :: r => (bools r).map (b :: ·)
  | _ :: _ => none
theorem bools_ok {T : Tab} {I : Hp} : ∀ {ds : List Dt} {vs : List V} {bs : List Bool}, DRs T I vs ds → bools ds = some bs → vs = bs.map V.bl
  | [], _, _, h, e => by cases h; cases e; rfl
  | d :: ds, _, _, h, e => by
    cases h with
    | cons a t =>
      cases d with
      | bl b =>
        cases q : bools ds with
        | none => simp [bools, q] at e
        | some r =>
          simp [bools, q] at e
          subst e
          cases a
          rw [bools_ok t q]
          rfl
      | _ => cases e
def nAll : ON := fun m xs => match xs with
  | [x] => ((lstOf m x).bind bools).map fun bs => .d (.bl (bs.all id))
  | _ => none
theorem sim_all {T : Tab} : SimN T (rAll T.K) nAll := simN_pure fun F I H A m ws ds d b hv e Q q => by
  unfold nAll at e
  split at e
  · rename_i x
    obtain ⟨w, rfl, hw⟩ := hv.one_inv
    cases hl : lstOf m x with
    | none => simp [hl] at e
    | some es =>
      cases hb : bools es with
      | none => simp [hl, hb] at e
      | some bs =>
        simp [hl, hb] at e
        subst e
        obtain ⟨p, us, rfl, p1, p2⟩ := lstOf_ok b hw hl
        have e2 := bools_ok p2 hb
        subst e2
        exact ⟨p, bs, rfl, p1, q _ (.d (.bl _))⟩
  · cases e
end
end FM

namespace FM
open PySem PySem.Spec PyProof.Rows L2
section
variable {X : Cx} {C : Fc} {e : Expr} {st : Stmt} {ma : MA} {me mb mc mi : ME}
theorem le_op {r : R2} {f : O2} {ma : ME} (s : SimO C.T r f) {σ : L2.St} {H : Hp} {Q : VK} (h : FE C (mOp f ma mb) σ H Q) : tOp r (FE C ma) (FE C mb) σ H Q := by
  obtain ⟨B, g, S, m, vs, I, A, rl, w⟩ := h
  exact two_ok rl w fun x y dx dy m2 H2 I2 A2 r2 w2 => by
    cases ef : f m2 dx dy with
    | none => rw [ef] at w2; exact w2.elim
    | some d =>
      rw [ef] at w2
      exact s _ I2 H2 A2 m2 x y dx dy d r2.base r2.pop1.top r2.top ef Q fun v H' I' b e hv => w2 v H' I' A2 ((r2.pop1.pop1.step b ⟨e, List.prefix_refl _⟩).push hv)
theorem ft_cmp {r : R2} {f : O2} {ma : ME} (h : PT X e (tTest (tOp r (FE C ma) (FE C mb)))) (s : SimO C.T r f) : PT X e (FT C (mTest (mOp f ma mb))) := pt_of h fun σ H Q q => le_op s (ft_le q)
theorem fw_cmp {r : R2} {f : O2} {ma : ME} (h : PW X e (tTest (tOp r (FE C ma) (FE C mb)))) (s : SimO C.T r f) : PW X e (FT C (mTest (mOp f ma mb))) := pw_of h fun σ H Q q => le_op s (ft_le q)
theorem le_chain {r r' : R2} {f f' : O2} {ma : ME} (s : SimO C.T r f) (s' : SimO C.T r' f') {σ : L2.St} {H : Hp} {Q : VK} (h : FE C (mChain f f' ma mb mc) σ H Q) : tChain r r' (FE C ma) (FE C mb) (FE C mc) σ H Q := by
  obtain ⟨B, g, S, m, vs, I, A, rl, w⟩ := h
  exact two_ok (k := fun x y m2 => match f m2 x y with
    | some (.d (.bl true)) => (mc g m2).bind fun z m3 => ofO m3 (f' m3 y z)
    | some (.d (.bl false)) => .ok (.d (.bl false)) m2
    | _ => .bad) rl w fun x y dx dy m2 H2 I2 A2 r2 w2 => by
    cases ef : f m2 dx dy with
    | none => simp only [ef] at w2; exact (show False from w2).elim
    | some d =>
      refine s _ I2 H2 A2 m2 x y dx dy d r2.base r2.pop1.top r2.top ef _ fun v H' I' b e hv => ?_
      have r3 := (r2.step b ⟨e, List.prefix_refl _⟩)
      simp only [ef] at w2
      cases d with
      | ref k => exact (show False from w2).elim
      | d d =>
        cases hv.dat with
        | bl k =>
          refine ⟨k, rfl, ?_⟩
          cases k with
          | false => exact w2 _ _ _ _ (r3.pop1.pop1.push (.d (.bl false)))
          | true =>
            refine ⟨B, g, dy :: dx :: S, m2, y :: x :: vs, I', A2, r3, ?_⟩
            have w3 : WantE C B g S σ vs Q ((mc g m2).bind fun z m3 => ofO m3 (f' m3 dy z)) := w2
            cases ec : mc g m2 with
            | bad => rw [ec] at w3; exact w3.elim
            | ex c fs m' =>
              rw [ec] at w3
              intro σ' H' I' A' dx ws r' h1 h2 h3
              exact w3 σ' H' I' A' dx ws r'.pop1.pop1 h1 h2 h3
            | ok dz m3 =>
              rw [ec] at w3
              intro z H4 I4 A4 r4
              have w4 : WantE C B g S σ vs Q (ofO m3 (f' m3 dy dz)) := w3
              cases ef' : f' m3 dy dz with
              | none => rw [ef'] at w4; exact w4.elim
              | some d' =>
                rw [ef'] at w4
                exact s' _ I4 H4 A4 m3 y z dy dz d' r4.base r4.pop1.top r4.top ef' Q fun v H' I' b e hv => w4 v H' I' A4 ((r4.pop1.pop1.pop1.step b ⟨e, List.prefix_refl _⟩).push hv)
        | _ => exact (show False from w2).elim
theorem ft_chain {r r' : R2} {f f' : O2} {ma : ME} (h : PT X e (tTest (tChain r r' (FE C ma) (FE C mb) (FE C mc)))) (s : SimO C.T r f) (s' : SimO C.T r' f') : PT X e (FT C (mTest (mChain f f' ma mb mc))) := pt_of h fun σ H Q q => le_chain s s' (ft_le q)
/-! ### a, b = x, y -/
def mPar (i j : Nat) (ma : MA) : MS := fun g m => (ma g m).then g fun vs m1 => match vs with
  | [v, w] => .nx ((g.set i (some v)).set j (some w)) m1
  | _ => .bad
theorem fs_par {i j : Nat} (h : PS X st (tPar i j (FA C ma))) (hi : xfree C.x i = true) (hj : xfree C.x j = true) : PS X st (FS C (mPar i j ma)) := ps_of h fun D σ H ⟨B, g, S, m, vs, I, A, r, w⟩ => by
  refine ⟨B, g, S, m, vs, I, A, r, ?_⟩
  unfold mPar at w
  cases ea : ma g m with
  | bad => rw [ea] at w; exact w.elim
  | ex c fs m' => rw [ea] at w; exact w
  | ok ds m1 =>
    rw [ea] at w
    intro ws H1 I1 A1 hl r1
    match ds, ws, hl, r1, w with
    | [d1, d2], [w1, w2], hl, r1, w =>
      have r2 := r1.pop1.pop1
      have t1 := r1.top
      have t2 := r1.pop1.top
      exact ⟨w1, w2, rfl, w _ _ _ _ ((r2.slot t1 hi).slot t2 hj)⟩
    | [], _, _, _, w => exact (show False from w).elim
    | [_], _, _, _, w => exact (show False from w).elim
    | _ :: _ :: _ :: _, _, _, _, w => exact (show False from w).elim
/-! ### x += e of a number -/
def mAug (i : Nat) (me : ME) : MS := fun g m => match g[i]? with
  | some (some (.d (.int a))) => (me g m).then g fun v m1 => match v with
    | .d (.int b) => .nx (g.set i (some (.d (.int (a + b))))) m1
    | _ => .bad
  | _ => .bad
theorem fs_aug {i : Nat} (h : PS X st (tAug i (FE C me) rAdd)) (hi : xfree C.x i = true) : PS X st (FS C (mAug i me)) := ps_of h fun D σ H ⟨B, g, S, m, vs, I, A, r, w⟩ => by
  unfold mAug at w
  split at w
  · rename_i a ea
    obtain ⟨x, hx, hv⟩ := r.ctx.look i _ ea
    cases hv.dat
    refine ⟨_, hx, B, g, S, m, vs, I, A, r, ?_⟩
    cases eb : me g m with
    | bad => rw [eb] at w; exact w.elim
    | ex c fs m' => rw [eb] at w; exact w
    | ok d m1 =>
      rw [eb] at w
      intro y H1 I1 A1 r1
      cases d with
      | ref k => exact (show False from w).elim
      | d d =>
        cases r1.top.dat with
        | int b => exact ⟨a, b, rfl, rfl, w _ _ _ _ (r1.pop1.slot (.d (.int _)) hi)⟩
        | _ => exact (show False from w).elim
  · exact w.elim
/-! ### xs[i] = v -/
theorem fg_setL (h : PG X e (gSub (FE C me) (FE C mi) rSetL)) : PG X e (FG C (mSetL me mi)) := pg_of h fun v σ H Q ⟨B, g, S, m, vs, I, A, d, r, w⟩ => by
  unfold mSetL at w
  refine ⟨B, g, d :: S, m, v :: vs, I, A, r, ?_⟩
  cases e1 : me g m with
  | bad => rw [e1] at w; exact w.elim
  | ex c fs m' => rw [e1] at w; exact w.elim
  | ok d1 m1 =>
    rw [e1] at w
    cases d1 with
    | d _ => exact (show False from w).elim
    | ref k =>
      intro x H1 I1 A1 r1
      refine ⟨B, g, .ref k :: d :: S, m1, x :: v :: vs, I1, A1, r1, ?_⟩
      simp only at w
      cases e2 : mi g m1 with
      | bad => rw [e2] at w; exact w.elim
      | ex c fs m' => rw [e2] at w; exact w.elim
      | ok d2 m2 =>
        rw [e2] at w
        intro y H2 I2 A2 r2
        obtain ⟨a, ex, ha⟩ := r2.pop1.top.cel
        subst ex
        cases d2 with
        | ref _ => exact (show False from w).elim
        | d d2 =>
          cases r2.top.dat with
          | int i =>
            simp only at w
            cases el : isL m2[k]? with
            | none => rw [el] at w; exact (show False from w).elim
            | some ds =>
              rw [el] at w
              have t3 := r2.pop1.pop1.top
              cases d with
              | ref _ => exact (show False from w).elim
              | d d =>
                simp only at w
                cases ej : ixN ds.length i with
                | none => rw [ej] at w; exact (show False from w).elim
                | some j =>
                  rw [ej] at w
                  obtain ⟨us, hu, hd⟩ := r2.base.ok _ _ a (isL_ok el) ha
                  have b := r2.base.put (c' := .lst (ds.set j d)) (o := .lst (us.set j v)) (isL_ok el) ha ⟨_, upd_same, hd.set t3.dat j⟩
                  refine ⟨a, us, i, j, rfl, rfl, hu, by rw [hd.len]; exact ej, ?_⟩
                  exact w σ _ _ _ (r2.pop1.pop1.pop1.step b Up.refl)
          | _ => exact (show False from w).elim
/-! ### a list or a tuple, walked -/
theorem fi_seq {tg it : Expr} (h : PI X tg it (NK.iSeq C.T.K (FE C me))) : PI X tg it (FI C (mIt me isSeq)) := pi_of h fun σ H R q => it_ok q fun B g S vs v d xs m1 H1 I1 A1 r ef w => by
  cases d with
  | ref k => cases ef
  | d d =>
    have t := r.top.dat
    cases t with
    | lst h1 h2 =>
      cases ef
      exact ⟨_, rfl, .inl ⟨⟨_, same_l r.sub (.inl (.inl h1))⟩, w _ _ _ _ r.pop1 (fun _ => itl_itd (.inl (.inl h1)) h2)⟩⟩
    | tup h1 h2 =>
      cases ef
      exact ⟨_, rfl, .inr ⟨⟨_, same_t r.sub h1⟩, w _ _ _ _ r.pop1 (fun _ => itt_itd h1 h2)⟩⟩
    | _ => cases ef
/-! ### xs == [] -/
def seqL (m : Cells) : Vl → Option (List Dt)
  | .d (.lst ds) => some ds
  | .d (.scr ds) => some ds
  | .ref k => isL m[k]?
  | _ => none
def oNil (neg : Bool) : O2 := fun m x y => match y with
  | .d (.lst []) => (seqL m x).map fun ds => .d (.bl (neg != ds.isEmpty))
  | _ => none
theorem seqL_ok {T : Tab} {F : Frm} {I H : Hp} {A : List Addr} {m : Cells} {x : V} {v : Vl} {ds : List Dt} (b : Base T F I H A m) (h : VR T I A x v) (e : seqL m v = some ds) : ∃ a us, x = .ref a ∧ SqL T.K H a us ∧ DRs T I us ds := by
  cases v with
  | ref j =>
    obtain ⟨a, rfl, ha⟩ := h.cel
    obtain ⟨us, hu, hd⟩ := b.ok _ _ a (isL_ok e) ha
    exact ⟨a, us, rfl, .inl (.inl hu), hd⟩
  | d d =>
    cases h.dat with
    | lst h1 h2 => cases e; exact ⟨_, _, rfl, .inl (.inl (b.sub _ _ h1)), h2⟩
    | scr h1 h2 => cases e; exact ⟨_, _, rfl, same_l b.sub h1, h2⟩
    | _ => cases e
theorem sim_nil {T : Tab} {neg : Bool} : SimO T (NK.rNil T.K neg) (oNil neg) := fun F I H A m x y d1 d2 d b hx hy e Q q => by
  unfold oNil at e
  split at e
  · cases es : seqL m d1 with
    | none => rw [es] at e; cases e
    | some ds =>
      rw [es] at e
      cases e
      obtain ⟨a, us, rfl, hu, hd⟩ := seqL_ok b hx es
      cases hy.dat with
      | lst h1 h2 =>
        cases h2
        have : us.isEmpty = ds.isEmpty := by cases hd <;> rfl
        exact ⟨a, _, us, rfl, rfl, hu, .inl (.inl (b.sub _ _ h1)), by rw [this]; exact q _ H I b (Same.refl I) (.d (.bl _))⟩
  · cases e
/-! ### isinstance(e, C) in the suite of a caught one -/
def mXis (q : Nat → Option Bool) (c : Nat) : ME := fun _ m => match q c with
  | some b => .ok (.d (.bl b)) m
  | none => .bad
structure XisOk (T : Tab) (u : Value) (q : Nat → Option Bool) : Prop where
  ok : ∀ c b, q c = some b → ExcC T.K (T.ca c) ∧ PySem.W.kitOne T.K (.ref (T.ca c)) u = some b
theorem fe_xis {q : Nat → Option Bool} {c i : Nat} {cv : V} {u : Value} {T : Tab} {W : WX} {a dd : Addr} {ds : List Dt} {oe : Obj} {pn : List (Addr × Obj)} (k : XisOk T u q) (hK : T.K = X.K) (hz : Zc (.ref (T.ca c)) (some dd) oe) (hf : ∃ vs, oe.data = .fields vs) (hc : ClsV cv u)
    (h : ∀ R, CallR (X.suite a ((a, oe) :: pn)) (.builtin "isinstance") R → PE (X.suite a ((a, oe) :: pn)) e (tCB R (tCons (tVar i) (tCons (tC cv) tNil)))) : PE (X.suite a ((a, oe) :: pn)) e (FE ⟨T, some ⟨i, a, dd, c, ds⟩, W⟩ (mXis q c)) := ⟨fun pins s σ H Q I ⟨B, g, S, m, vs, I', A, r, w⟩ => by
  unfold mXis at w
  cases eq : q c with
  | none => simp only [eq] at w; exact (show False from w).elim
  | some b =>
    simp only [eq] at w
    obtain ⟨k1, k2⟩ := k.ok c b eq
    obtain ⟨h1, us, h2, h3, h4⟩ := r.xc
    refine (h _ (NK.call_isX (hK ▸ k1) hz hf)).run pins s σ H Q I ?_
    exact ⟨.ref a, h1, cv, dd, _, u, b, rfl, rfl, rfl, r.sub _ _ h2, hc, hK ▸ k2, w _ _ _ _ (r.push (.d (.bl b)))⟩⟩
/-! ### xs[a:b] of a list, a cell -/
def mSlC (me : ME) (ml mh : MO) : ME := fun g m => (me g m).bind fun x m1 => (ml g m1).bind fun lo m2 => (mh g m2).bind fun hi m3 => match lstOf m3 x with
  | some ds => .ok (.ref m3.length) (m3 ++ [some (.lst (cutL ds lo hi))])
  | none => .bad
theorem fe_slC {ml mh : MO} (h : PE X e (tSl (rSlL C.T.K) (FE C me) (FO C ml) (FO C mh))) : PE X e (FE C (mSlC me ml mh)) := pe_of h fun σ H Q ⟨B, g, S, m, vs, I, A, rl, w⟩ =>
  one_ok rl w fun x dx m1 H1 I1 A1 r1 w1 => by
    refine ⟨B, g, dx :: S, m1, x :: vs, I1, A1, r1, ?_⟩
    cases ea : ml g m1 with
    | bad => rw [ea] at w1; exact w1.elim
    | ex c fs m' =>
      rw [ea] at w1
      intro σ' H' I' A' dy ws r' h1 h2 h3
      exact w1 σ' H' I' A' dy ws r'.pop1 h1 h2 h3
    | ok lo m2 =>
      rw [ea] at w1
      intro H2 I2 A2 r2
      refine ⟨B, g, dx :: S, m2, x :: vs, I2, A2, r2, ?_⟩
      have w2 : WantE C B g S σ vs Q ((mh g m2).bind fun hi m3 => match lstOf m3 dx with
        | some ds => .ok (.ref m3.length) (m3 ++ [some (.lst (cutL ds lo hi))])
        | none => .bad) := w1
      cases eb : mh g m2 with
      | bad => rw [eb] at w2; exact w2.elim
      | ex c fs m' =>
        rw [eb] at w2
        intro σ' H' I' A' dy ws r' h1 h2 h3
        exact w2 σ' H' I' A' dy ws r'.pop1 h1 h2 h3
      | ok hi m3 =>
        rw [eb] at w2
        intro H3 I3 A3 r3
        cases hl : lstOf m3 dx with
        | none => simp only [Rs.bind, hl] at w2; exact (show False from w2).elim
        | some ds =>
          simp only [Rs.bind, hl] at w2
          obtain ⟨a, us, rfl, h1, h2⟩ := lstOf_ok r3.base r3.top hl
          refine ⟨a, us, rfl, h1, fun p hp => ?_⟩
          obtain ⟨b', e⟩ := r3.base.newC (o := .lst (cutV us lo hi)) (c := .lst (cutL ds lo hi)) hp ⟨_, upd_same, cut_dr h2 lo hi⟩
          exact w2 _ _ _ _ ((r3.pop1.step b' e).push (.ref (by rw [← r3.base.len]; exact last_get A3 p)))
end
end FM

namespace FM
open PySem PySem.Spec PyProof.Rows L2
/-! ### == by own classes, as a function -/
open Classical in
noncomputable def calmQ (f : Fn) (x y : Dt) : Option Bool := if h : ∃ b, Calm f x y b then some h.choose else none
theorem calmQ_ok {f : Fn} {x y : Dt} {b : Bool} (h : calmQ f x y = some b) : Calm f x y b := by
  unfold calmQ at h
  split at h
  · rename_i q
    have e := Option.some.inj h
    rw [← e]
    exact q.choose_spec
  · cases h
theorem calm_fun {f : Fn} {x y : Dt} {b b' : Bool} (h : Calm f x y b) (h' : Calm f x y b') : b = b' := by
  have e := (h []).symm.trans (h' [])
  cases e
  rfl
theorem calmQ_of {f : Fn} {x y : Dt} {b : Bool} (h : Calm f x y b) : calmQ f x y = some b := by
  unfold calmQ
  rw [dif_pos ⟨b, h⟩]
  exact congrArg some (calm_fun (Exists.choose_spec ⟨b, h⟩) h)
/-- the tables of a program's own == -/
structure Eqs where
  N : Nat
  nf : Nat → Kd → Bool
  es : Nat → Option Fn
def okB (N : Nat) (d : Dt) : Bool := okD d && insD N d
def nfD (nf : Nat → Kd → Bool) (c : Nat) (y : Dt) : Bool := match kdD y with
  | some k => nf c k
  | none => false
open Classical in
/-- the same is equal -/
noncomputable def rfl1 (x y : Dt) (o : Option Bool) : Option Bool := match o with
  | some b => if x = y ∧ b = false then none else some b
  | none => none
noncomputable def qOwn (E : Eqs) (neg : Bool) (x y : Dt) : Option Bool := match x with
  | .ins c _ => if (okB E.N x && (okB E.N y && nfD E.nf c y)) = true then (E.es c).bind fun f => rfl1 x y (calmQ f x y) else none
  | .str _ => (match y with
    | .ins c _ => if (!neg && okB E.N y) = true then (E.es c).bind fun f => calmQ f y x else none
    | _ => none)
  | _ => none
def flatQ (x y : Dt) : Option Bool := match flatD x, flatD y with
  | some u, some v => some (eqV u v)
  | _, _ => none
def allQ (q : Dt → Dt → Option Bool) : List Dt → List Dt → Option Bool
  | x :: xs, y :: ys => (match q x y with
    | some true => allQ q xs ys
    | some false => some false
    | none => none)
  | _, _ => some true
noncomputable def qItem (q : Dt → Dt → Option Bool) (x y : Dt) : Option Bool := match flatQ x y with
  | some b => some b
  | none => q x y
noncomputable def qS (E : Eqs) : Nat → Bool → Dt → Dt → Option Bool
  | 0, neg, x, y => qOwn E neg x y
  | n + 1, neg, x, y => match x, y with
    | .lst xs, .lst ys => if (okB E.N (.lst xs) && okB E.N (.lst ys)) = true then (if xs.length = ys.length then allQ (qItem (qS E n false)) xs ys else some false) else none
    | .tup xs, .tup ys => if (okB E.N (.tup xs) && okB E.N (.tup ys)) = true then (allQ (qItem (qS E n false)) xs ys).map fun b => b && xs.length == ys.length else none
    | _, _ => qOwn E neg x y
noncomputable def qT (E : Eqs) (n : Nat) (neg : Bool) (x y : Dt) : Option Bool := match eqF x y with
  | some b => some b
  | none => qS E n neg x y
structure EqOk (P : Program) (w : World) (K : PySem.W.Frag) (mg : Str → Option Value) (base : Heap) (T : Tab) (E : Eqs) (l : Nat) : Prop where
  own : ∀ c f, E.es c = some f → OwnEq P w K mg base T l c f
  tj : TabInj T E.N
  nf : ∀ c k, E.nf c k = true → PySem.W.notFirst T.K (T.ca c) (k.ty T) = true
theorem okB_ok {N : Nat} {d : Dt} (h : okB N d = true) : okN N d := Bool.and_eq_true_iff.mp h
theorem nfD_ok {T : Tab} {nf : Nat → Kd → Bool} {c : Nat} {y : Dt} (k : ∀ c k, nf c k = true → PySem.W.notFirst T.K (T.ca c) (k.ty T) = true) (ho : okD y = true) (h : nfD nf c y = true) : TyK T (T.ca c) y := by
  unfold nfD at h
  cases y <;> simp only [kdD] at h <;> first | exact k c _ h | (simp [okD] at ho) | exact absurd h Bool.false_ne_true
theorem rfl1_ok {x y : Dt} {o : Option Bool} {b : Bool} (h : rfl1 x y o = some b) : o = some b ∧ (x = y → b = true) := by
  unfold rfl1 at h
  cases o with
  | none => cases h
  | some b' =>
    simp only at h
    split at h
    · cases h
    · rename_i q
      cases h
      refine ⟨rfl, fun e => ?_⟩
      cases b with
      | true => rfl
      | false => exact absurd ⟨e, rfl⟩ q
theorem rfl1_true {x y : Dt} : rfl1 x y (some true) = some true := by
  unfold rfl1
  simp
theorem rfl1_false {x y : Dt} (h : x ≠ y) : rfl1 x y (some false) = some false := by
  unfold rfl1
  simp [h]
/-- allQ, item by item -/
theorem allQ_its {q : Dt → Dt → Option Bool} : ∀ {xs ys : List Dt} {b : Bool}, allQ q xs ys = some b → ∃ e, Its (fun x y b => q x y = some b) xs ys e ∧ b = NQ.allFrom e (min xs.length ys.length) 0
  | [], ys, b, h => by
    cases h
    refine ⟨fun _ => true, ⟨fun i x y _ h1 _ => by simp at h1⟩, by simp [NQ.allFrom]⟩
  | x :: xs, [], b, h => by
    cases h
    refine ⟨fun _ => true, ⟨fun i x y _ _ h2 => by simp at h2⟩, by simp [NQ.allFrom]⟩
  | x :: xs, y :: ys, b, h => by
    unfold allQ at h
    cases eq : q x y with
    | none => rw [eq] at h; cases h
    | some k =>
      rw [eq] at h
      cases k with
      | false =>
        cases h
        refine ⟨fun _ => false, ⟨fun i x' y' hp h1 h2 => ?_⟩, ?_⟩
        · cases i with
          | zero =>
            simp at h1 h2
            subst h1
            subst h2
            exact eq
          | succ i => exact absurd (hp 0 (Nat.zero_lt_succ i)) Bool.false_ne_true
        · unfold NQ.allFrom
          simp [List.range_succ_eq_map, Nat.succ_min_succ]
      | true =>
        obtain ⟨e, h1, h2⟩ := allQ_its (show allQ q xs ys = some b from h)
        refine ⟨fun i => match i with | 0 => true | i + 1 => e i, ⟨fun i x' y' hp g1 g2 => ?_⟩, ?_⟩
        · cases i with
          | zero =>
            simp at g1 g2
            subst g1
            subst g2
            exact eq
          | succ i => exact h1.at_ i x' y' (fun j hj => hp (j + 1) (by omega)) (by simpa using g1) (by simpa using g2)
        · rw [h2]
          unfold NQ.allFrom
          simp only [List.drop_zero, List.length_cons, Nat.succ_min_succ, List.range_succ_eq_map, List.all_cons, List.all_map, Bool.true_and]
          rfl
section
variable {X : Cx} {T : Tab} {E : Eqs} {l : Nat}
theorem flatQ_ok {x y : Dt} {b : Bool} (h : flatQ x y = some b) : DqF x y b := by
  unfold flatQ at h
  cases e1 : flatD x with
  | none => rw [e1] at h; cases h
  | some u =>
    cases e2 : flatD y with
    | none => rw [e1, e2] at h; cases h
    | some v =>
      rw [e1, e2] at h
      cases h
      exact ⟨u, v, e1, e2, rfl⟩
theorem qOwn_tame {neg : Bool} {x y : Dt} {b : Bool} (h : qOwn E neg x y = some b) : okN E.N x ∧ okN E.N y ∧ (x = y → b = true) := by
  cases x with
  | ins c fs =>
    simp only [qOwn] at h
    split at h
    · rename_i q
      obtain ⟨q1, q2⟩ := Bool.and_eq_true_iff.mp q
      obtain ⟨q2, q3⟩ := Bool.and_eq_true_iff.mp q2
      cases ef : E.es c with
      | none => rw [ef] at h; cases h
      | some f =>
        rw [ef] at h
        exact ⟨okB_ok q1, okB_ok q2, (rfl1_ok h).2⟩
    · cases h
  | str z =>
    cases y with
    | ins c fs =>
      simp only [qOwn] at h
      split at h
      · rename_i q
        obtain ⟨q1, q2⟩ := Bool.and_eq_true_iff.mp q
        exact ⟨⟨rfl, rfl⟩, okB_ok q2, fun e => nomatch e⟩
      · cases h
    | _ => cases h
  | _ => cases h
theorem rcOwn (hK : T.K = X.K) (O : EqOk X.prog X.w X.K X.mg X.base T E l) (neg : Bool) : RcK X T (l + 1) neg (fun x y b => qOwn E neg x y = some b) ∧ (neg = false → RcK X T l neg (fun x y b => qOwn E neg x y = some b)) := by
  have key : ∀ k, (neg = true → l + 1 ≤ k) → (l ≤ k) → RcK X T k neg (fun x y b => qOwn E neg x y = some b) := by
    intro k hk hk2 A pins s σ F H I L m x y u v d1 d2 b sb inv hs r1 r2 rx ry d
    cases d1 with
    | ins c fs =>
      simp only [qOwn] at d
      split at d
      · rename_i q
        obtain ⟨q1, q2⟩ := Bool.and_eq_true_iff.mp q
        obtain ⟨q2, q3⟩ := Bool.and_eq_true_iff.mp q2
        cases ef : E.es c with
        | none => rw [ef] at d; cases d
        | some f =>
          rw [ef] at d
          have ec := calmQ_ok (rfl1_ok d).1
          have et := nfD_ok O.nf (okB_ok q2).1 q3
          cases neg with
          | false => exact (rcK_ins (D := fun x y b' => x = .ins c fs ∧ y = d2 ∧ b' = b) hK (O.own c f ef) (fun a1 a2 b' ⟨e1, e2, e3⟩ => by subst e1 e2 e3; exact ⟨⟨fs, rfl⟩, et, ec⟩)).mono hk2 A pins s σ F H I L m x y u v _ d2 b sb inv hs r1 r2 rx ry ⟨rfl, rfl, rfl⟩
          | true => exact (rcK_insN (D := fun x y b' => x = .ins c fs ∧ y = d2 ∧ b' = b) hK (O.own c f ef) (fun a1 a2 b' ⟨e1, e2, e3⟩ => by subst e1 e2 e3; exact ⟨⟨fs, rfl⟩, et, ec⟩)).mono (hk rfl) A pins s σ F H I L m x y u v _ d2 b sb inv hs r1 r2 rx ry ⟨rfl, rfl, rfl⟩
      · cases d
    | str z =>
      cases d2 with
      | ins c fs =>
        simp only [qOwn] at d
        split at d
        · rename_i q
          obtain ⟨q1, q2⟩ := Bool.and_eq_true_iff.mp q
          cases ef : E.es c with
          | none => rw [ef] at d; cases d
          | some f =>
            rw [ef] at d
            have ec := calmQ_ok d
            cases neg with
            | true => cases q1
            | false => exact (rcK_strIns (D := fun x y b' => x = .str z ∧ y = .ins c fs ∧ b' = b) hK (O.own c f ef) (fun a1 a2 b' ⟨e1, e2, e3⟩ => by subst e1 e2 e3; exact ⟨⟨z, rfl⟩, ⟨fs, rfl⟩, ec⟩)).mono hk2 A pins s σ F H I L m x y u v _ _ b sb inv hs r1 r2 rx ry ⟨rfl, rfl, rfl⟩
        · cases d
      | _ => cases d
    | _ => cases d
  exact ⟨key (l + 1) (fun _ => Nat.le_refl _) (Nat.le_succ l), fun e => key l (fun h => by rw [e] at h; cases h) (Nat.le_refl l)⟩
theorem qS_cases {n : Nat} {neg : Bool} {x y : Dt} {b : Bool} (h : qS E (n + 1) neg x y = some b) : DqL E.N (fun x y b => qItem (qS E n false) x y = some b) x y b ∨ DqT E.N (fun x y b => qItem (qS E n false) x y = some b) x y b ∨ qOwn E neg x y = some b := by
  unfold qS at h
  split at h
  · rename_i xs ys
    split at h
    · rename_i q
      obtain ⟨q1, q2⟩ := Bool.and_eq_true_iff.mp q
      split at h
      · rename_i hl
        obtain ⟨e, h1, h2⟩ := allQ_its h
        exact .inl ⟨okB_ok q1, okB_ok q2, xs, ys, rfl, rfl, .inl ⟨hl, e, h1, by rw [h2, hl, Nat.min_self]⟩⟩
      · rename_i hl
        cases h
        exact .inl ⟨okB_ok q1, okB_ok q2, xs, ys, rfl, rfl, .inr ⟨hl, rfl⟩⟩
    · cases h
  · rename_i xs ys
    split at h
    · rename_i q
      obtain ⟨q1, q2⟩ := Bool.and_eq_true_iff.mp q
      cases ea : allQ (qItem (qS E n false)) xs ys with
      | none => rw [ea] at h; cases h
      | some b' =>
        rw [ea] at h
        cases h
        obtain ⟨e, h1, h2⟩ := allQ_its ea
        exact .inr (.inl ⟨okB_ok q1, okB_ok q2, xs, ys, rfl, rfl, e, h1, by rw [h2]⟩)
    · cases h
  · exact .inr (.inr h)
theorem tame_item {q : Dt → Dt → Option Bool} {N : Nat} (h : Tame N fun x y b => q x y = some b) : Tame N fun x y b => qItem q x y = some b := by
  have k : ∀ x y b, qItem q x y = some b → DqF x y b ∨ q x y = some b := fun x y b e => by
    unfold qItem at e
    cases ef : flatQ x y with
    | some b' => rw [ef] at e; cases e; exact .inl (flatQ_ok ef)
    | none => rw [ef] at e; exact .inr e
  have t := (tame_flat (N := N)).or h
  exact ⟨fun d1 d2 b e => t.p1 _ _ _ (k _ _ _ e), fun d1 d2 b e => t.p2 _ _ _ (k _ _ _ e), fun d b e => t.rf _ _ (k _ _ _ e)⟩
theorem tame_own {neg : Bool} : Tame E.N fun x y b => qOwn E neg x y = some b := ⟨fun d1 d2 b e => (qOwn_tame e).1, fun d1 d2 b e => (qOwn_tame e).2.1, fun d b e => (qOwn_tame e).2.2 rfl⟩
theorem tame_S : ∀ (n : Nat) (neg : Bool), Tame E.N fun x y b => qS E n neg x y = some b
  | 0, neg => tame_own
  | n + 1, neg => by
    have t := tame_item (tame_S n false)
    have t2 := (tame_l t).or ((tame_t t).or (tame_own (E := E) (neg := neg)))
    exact ⟨fun d1 d2 b e => t2.p1 _ _ _ (qS_cases e), fun d1 d2 b e => t2.p2 _ _ _ (qS_cases e), fun d b e => t2.rf _ _ (qS_cases e)⟩
theorem rcS (hK : T.K = X.K) (O : EqOk X.prog X.w X.K X.mg X.base T E l) : ∀ n, RcK X T (l + n) false (fun x y b => qS E n false x y = some b) ∧ RcK X T (l + n + 1) true (fun x y b => qS E n true x y = some b)
  | 0 => ⟨(rcOwn hK O false).2 rfl, (rcOwn hK O true).1⟩
  | n + 1 => by
    have ih := (rcS hK O n).1
    have ek : EqK X T (l + n) (fun x y b => qItem (qS E n false) x y = some b) := ((eqK_flat.mono (Nat.zero_le _)).or (ih.eqK hK O.tj (tame_S n false))).imp fun x y b e => by
      unfold qItem at e
      cases ef : flatQ x y with
      | some b' => rw [ef] at e; cases e; exact .inl (flatQ_ok ef)
      | none => rw [ef] at e; exact .inr e
    refine ⟨?_, ?_⟩
    · exact ((rcK_lst (N := E.N) hK false ek).or ((rcK_tup (N := E.N) hK false ek).or ((rcOwn hK O false).1.mono (by omega)))).imp fun x y b e => qS_cases e
    · exact (((rcK_lst (N := E.N) hK true ek).mono (by omega)).or (((rcK_tup (N := E.N) hK true ek).mono (by omega)).or ((rcOwn hK O true).1.mono (by omega)))).imp fun x y b e => qS_cases e
/-! ### the operation -/
def rQF (neg : Bool) : R2 := fun x y H Q => scal x y = true ∧ Q (.bl (neg != decide (x = y))) H
def rQE (T : Tab) (E : Eqs) (n : Nat) (neg : Bool) : R2 := fun x y H Q => rQ T neg (fun x y b => qS E n neg x y = some b) x y H Q ∨ rQF neg x y H Q
theorem op_QE {n : Nat} {neg : Bool} (O : EqOk X.prog X.w X.K X.mg X.base T E l) (hr : Room (l + n + 1) X.A) (hK : T.K = X.K) : OpR X (compareOp (NK.opN neg)) (rQE T E n neg) := by
  refine op_alt ?_ ?_
  · cases neg with
    | false => exact op_Q (rcS hK O n).1 (hr.mono (by omega))
    | true => exact op_Q (rcS hK O n).2 hr
  · cases neg with
    | false =>
      intro pins s σ H x y v u Q I rx ry h
      exact op_eq pins s σ H x y v u Q I rx ry ⟨h.1, by have := h.2; simpa using this⟩
    | true =>
      intro pins s σ H x y v u Q I rx ry h
      exact op_ne pins s σ H x y v u Q I rx ry ⟨h.1, by have := h.2; simpa using this⟩
theorem sim_QE {n : Nat} {neg : Bool} : SimO T (rQE T E n neg) (oQ neg (qT E n neg)) := fun F I H A m x y d1 d2 d b hx hy e Q k => by
  cases d1 with
  | ref k => cases e
  | d d1 =>
    cases d2 with
    | ref k => cases e
    | d d2 =>
      cases eq : qT E n neg d1 d2 with
      | none => simp [oQ, eq] at e
      | some z =>
        simp [oQ, eq] at e
        subst e
        unfold qT at eq
        cases ef : eqF d1 d2 with
        | some z' =>
          rw [ef] at eq
          cases eq
          obtain ⟨h1, h2⟩ := eqF_ok hx.dat hy.dat ef
          exact .inr ⟨h1, by rw [h2]; exact k _ H I b (Same.refl I) (.d (.bl _))⟩
        | none =>
          rw [ef] at eq
          exact .inl ⟨F, I, A, m, d1, d2, z, b, hx.dat, hy.dat, eq, fun I' H' b' u' => k _ H' I' b' u' (.d (.bl _))⟩
end
end FM

namespace FM
open PySem PySem.Spec PyProof.Rows L2
/-! ### the tables of a law, and its facts as Bools over a part of the heap -/
def mkT (cs : List (Str × List Str)) (gs : List Str) (K : PySem.W.Frag) : Tab := ⟨K, fun c => He.ga K ((cs.getD c ("", [])).1), fun c => (cs.getD c ("", [])).2, fun i => He.ga K (gs.getD i "")⟩
def tabN (l : List (Nat × Nat)) : FTab := fun c => l.lookup c
def tabB (l : List (Nat × Bool)) : Nat → Option Bool := fun c => l.lookup c
theorem lookup_mem {α β : Type} [BEq α] [LawfulBEq α] {c : α} {b : β} : ∀ {l : List (α × β)}, l.lookup c = some b → (c, b) ∈ l
  | (a, x) :: r, h => by
    unfold List.lookup at h
    cases e : c == a with
    | true =>
      rw [e] at h
      cases h
      rw [eq_of_beq e]
      exact List.mem_cons_self
    | false =>
      rw [e] at h
      exact List.mem_cons_of_mem _ (lookup_mem h)
def ob (K : PySem.W.Frag) (v : Value) (x : Str) (u : Option Value) : Bool := He.eqO (PySem.W.findIn K v x) (some u)
theorem ob_ok {K : PySem.W.Frag} {v : Value} {x : Str} {u : Option Value} (h : ob K v x u = true) : PySem.W.findIn K v x = some u := He.eqO_ok h
def clsB (K : PySem.W.Frag) (C : Addr) : Bool := PySem.W.plainGet K C Str.empty && (PySem.W.hasDictIn K C && (PySem.W.plainOver K C && ob K (.ref C) "__setattr__" (some (.builtin "object.__setattr__"))))
theorem clsB_ok {K : PySem.W.Frag} {C : Addr} (c : clsB K C = true) : Cls K C := by
  obtain ⟨c1, c⟩ := He.ba c
  obtain ⟨c2, c⟩ := He.ba c
  obtain ⟨c3, c4⟩ := He.ba c
  exact ⟨c1, c2, c3, ob_ok c4⟩
def cliB (K : PySem.W.Frag) (C : Addr) : Bool := clsB K C && (ob K (.ref C) "__class__" (some (.builtin "object.__class__")) && (decide (PySem.W.specialIn K (.builtin "object.__class__") "__get__" = some (some (.builtin "getset_descriptor.__get__"))) && (decide (PySem.W.takesIn K (.builtin "object.__class__") = some true) && decide (PySem.W.mroIn K C (.type "object") = some true))))
theorem cliB_ok {K : PySem.W.Frag} {C : Addr} (c : cliB K C = true) : NK.ClI K C := by
  obtain ⟨c1, c⟩ := He.ba c
  obtain ⟨c2, c⟩ := He.ba c
  obtain ⟨c3, c⟩ := He.ba c
  obtain ⟨c4, c5⟩ := He.ba c
  exact ⟨clsB_ok c1, ob_ok c2, of_decide_eq_true c3, of_decide_eq_true c4, of_decide_eq_true c5⟩
def excCB (K : PySem.W.Frag) (C : Addr) : Bool := ob K (.ref C) "__getattribute__" (some (.builtin "BaseException.__getattribute__")) && (ob K (.ref C) "__getattr__" none && (decide (PySem.W.subIn K (.ref C) (.type "BaseException") = some true) && (PySem.W.hasDictIn K C && (ob K (.ref C) "__class__" (some (.builtin "object.__class__")) && (decide (PySem.W.specialIn K (.builtin "object.__class__") "__get__" = some (some (.builtin "getset_descriptor.__get__"))) && (decide (PySem.W.takesIn K (.builtin "object.__class__") = some true) && decide (PySem.W.mroIn K C (.type "object") = some true)))))))
theorem excCB_ok {K : PySem.W.Frag} {C : Addr} (c : excCB K C = true) : ExcC K C := by
  obtain ⟨c1, c⟩ := He.ba c
  obtain ⟨c2, c⟩ := He.ba c
  obtain ⟨c3, c⟩ := He.ba c
  obtain ⟨c4, c⟩ := He.ba c
  obtain ⟨c5, c⟩ := He.ba c
  obtain ⟨c6, c⟩ := He.ba c
  obtain ⟨c7, c8⟩ := He.ba c
  exact ⟨ob_ok c1, ob_ok c2, of_decide_eq_true c3, c4, ob_ok c5, of_decide_eq_true c6, of_decide_eq_true c7, of_decide_eq_true c8⟩
def oexB0 (K : PySem.W.Frag) (C : Addr) : Bool := match K.lookup C with
  | some ⟨.type "type", _, .cls cd, sl⟩ => (match cd.mro, sl.toList with
    | .ref C' :: bm, [_, _, _, _, some (.builtin n), _] => C' == C && n == "ValueError.__new__" && !cd.hasDel && cd.hasDict && PySem.HandSPX.refsVE bm
    | _, _ => false)
  | _ => false
theorem oexB0_ok {K : PySem.W.Frag} {C : Addr} (q : oexB0 K C = true) : ∃ nm q N bs bm sn sub ab col dd k0 k1 k2 k3 k5, K.lookup C = some (excClassObj nm q C N bs bm true sn sub ab col dd k0 k1 k2 k3 k5 "ValueError.__new__") ∧ PySem.HandSPX.refsVE bm = true := by
  unfold oexB0 at q
  split at q
  · rename_i dd cd sl ho
    split at q
    · rename_i C' bm k0 k1 k2 k3 n k5 hm hs
      simp only [Bool.and_eq_true, beq_iff_eq, Bool.not_eq_true'] at q
      obtain ⟨⟨⟨⟨rfl, rfl⟩, hdel⟩, hd'⟩, ht⟩ := q
      obtain ⟨nm, bs, mro, ns, qn, hd, sn, sub, ab, col, del⟩ := cd
      dsimp only at hm hdel hd'
      subst hm hdel hd'
      have hsl : sl = #[k0, k1, k2, k3, some (.builtin "ValueError.__new__"), k5] := by
        obtain ⟨l⟩ := sl
        simp only at hs
        rw [hs]
      subst hsl
      exact ⟨nm, qn, ns, bs, bm, sn, sub, ab, col, dd, k0, k1, k2, k3, k5, ho, ht⟩
    · cases q
  · cases q
def oexB (K : PySem.W.Frag) (C : Addr) : Bool := oexB0 K C && (ob K (.ref C) "__setattr__" (some (.builtin "object.__setattr__")) && (decide (PySem.W.subIn K (.ref C) (.type "BaseException") = some true) && (decide (PySem.W.typeIn K (.ref C) = some (.type "type")) && PySem.W.keepIn K (.ref C))))
theorem oexB_ok {K : PySem.W.Frag} {C : Addr} (c : oexB K C = true) : OexC K C := by
  obtain ⟨c1, c⟩ := He.ba c
  obtain ⟨c2, c⟩ := He.ba c
  obtain ⟨c3, c⟩ := He.ba c
  obtain ⟨c4, c5⟩ := He.ba c
  exact ⟨oexB0_ok c1, ob_ok c2, of_decide_eq_true c3, of_decide_eq_true c4, c5⟩
def fldB (T : Tab) (f : Str) (l : List (Nat × Nat)) : Bool := l.all fun p => clsB T.K (T.ca p.1) && (ob T.K (.ref (T.ca p.1)) f none && (decide ((T.cf p.1)[p.2]? = some f) && decide (T.cf p.1).Nodup))
theorem fldB_ok {T : Tab} {f : Str} {l : List (Nat × Nat)} (h : fldB T f l = true) : FldOk T f (tabN l) := ⟨fun c i e => by
  have c := List.all_eq_true.mp h _ (lookup_mem e)
  obtain ⟨c1, c⟩ := He.ba c
  obtain ⟨c2, c⟩ := He.ba c
  obtain ⟨c3, c4⟩ := He.ba c
  exact ⟨clsB_ok c1, ob_ok c2, of_decide_eq_true c3, of_decide_eq_true c4⟩⟩
def xfldB (T : Tab) (f : Str) (l : List (Nat × Nat)) : Bool := l.all fun p => xfB T.K (T.ca p.1) && (ob T.K (.ref (T.ca p.1)) f none && (decide ((T.cf p.1)[p.2]? = some f) && decide (T.cf p.1).Nodup))
theorem xfldB_ok {T : Tab} {f : Str} {l : List (Nat × Nat)} (h : xfldB T f l = true) : XFldOk T f (tabN l) := ⟨fun c i e => by
  have c := List.all_eq_true.mp h _ (lookup_mem e)
  obtain ⟨c1, c⟩ := He.ba c
  obtain ⟨c2, c⟩ := He.ba c
  obtain ⟨c3, c4⟩ := He.ba c
  exact ⟨xfB_ok c1, ob_ok c2, of_decide_eq_true c3, of_decide_eq_true c4⟩⟩
def isiQ (l : List (Kd × Bool)) (k : Kd) : Option Bool := l.lookup k
def isiB (T : Tab) (u : Value) (l : List (Kd × Bool)) : Bool := l.all fun p => decide (PySem.W.kitOne T.K (p.1.ty T) u = some p.2) && (match p.1 with
  | .ins c => cliB T.K (T.ca c)
  | _ => true)
theorem isiB_ok {T : Tab} {u : Value} {l : List (Kd × Bool)} (h : isiB T u l = true) : IsiOk T u (isiQ l) := ⟨fun k b e => by
  obtain ⟨c1, c2⟩ := He.ba (List.all_eq_true.mp h _ (lookup_mem e))
  refine ⟨of_decide_eq_true c1, fun c ek => ?_⟩
  subst ek
  exact cliB_ok c2⟩
def hdB (T : Tab) (cv : Value) (l : List (Nat × Bool)) : Bool := l.all fun p => decide (PySem.W.exmOne T.K (.ref (T.ca p.1)) cv = some p.2)
theorem hdB_ok {T : Tab} {cv : Value} {l : List (Nat × Bool)} (h : hdB T cv l = true) {i : Option Nat} {su : Nat → List Dt → MS} : HdOk T cv ⟨i, tabB l, su⟩ := fun c b e => of_decide_eq_true (List.all_eq_true.mp h _ (lookup_mem (l := l) e))
def xisB (T : Tab) (u : Value) (l : List (Nat × Bool)) : Bool := l.all fun p => excCB T.K (T.ca p.1) && decide (PySem.W.kitOne T.K (.ref (T.ca p.1)) u = some p.2)
theorem xisB_ok {T : Tab} {u : Value} {l : List (Nat × Bool)} (h : xisB T u l = true) : XisOk T u (tabB l) := ⟨fun c b e => by
  obtain ⟨c1, c2⟩ := He.ba (List.all_eq_true.mp h _ (lookup_mem (l := l) e))
  exact ⟨excCB_ok c1, of_decide_eq_true c2⟩⟩
def injB (T : Tab) (N : Nat) : Bool := (List.range N).all fun c => (List.range N).all fun c' => (T.ca c != T.ca c') || (c == c')
theorem injB_ok {T : Tab} {N : Nat} (h : injB T N = true) : TabInj T N := fun c c' hc hc' e => by
  have h1 := List.all_eq_true.mp h c (List.mem_range.mpr hc)
  have h2 := List.all_eq_true.mp h1 c' (List.mem_range.mpr hc')
  rcases Bool.or_eq_true_iff.mp h2 with q | q
  · rw [e] at q
    simp at q
  · exact eq_of_beq q
/-- which kinds do not go first -/
def nfT (cs : List Nat) (ks : List Kd) (c : Nat) (k : Kd) : Bool := cs.contains c && ks.contains k
def nfB (T : Tab) (cs : List Nat) (ks : List Kd) : Bool := cs.all fun c => ks.all fun k => PySem.W.notFirst T.K (T.ca c) (k.ty T)
theorem nfB_ok {T : Tab} {cs : List Nat} {ks : List Kd} (h : nfB T cs ks = true) : ∀ c k, nfT cs ks c k = true → PySem.W.notFirst T.K (T.ca c) (k.ty T) = true := fun c k e => by
  obtain ⟨e1, e2⟩ := He.ba e
  exact List.all_eq_true.mp (List.all_eq_true.mp h c (by simpa using e1)) k (by simpa using e2)
/-- a class with its own ==, at the address f -/
def oeqB (T : Tab) (c : Nat) (f : Addr) : Bool := ob T.K (.ref (T.ca c)) "__eq__" (some (.ref f)) && (PySem.W.isFn T.K (.ref f) && (ob T.K (.ref (T.ca c)) "__ne__" (some (.builtin "object.__ne__")) && (decide (PySem.W.mroIn T.K (T.ca c) (.type "object") = some true) && decide (PySem.W.subIn T.K (.ref (T.ca c)) (.type "str") = some false))))
theorem oeqB_ok {T : Tab} {c : Nat} {f : Addr} {P : Program} {w : World} {mg : Str → Option Value} {base : Heap} {n : Nat} {fd : FuncData} {ps : List Str} {fn : Fn} (h : oeqB T c f = true) (F : FnOk P w T.K mg base (L2.CX P w) n f fd ps (spFn T fn)) (hb : Binds T.K fd ps []) : OwnEq P w T.K mg base T n c fn := by
  obtain ⟨c1, h⟩ := He.ba h
  obtain ⟨c2, h⟩ := He.ba h
  obtain ⟨c3, h⟩ := He.ba h
  obtain ⟨c4, c5⟩ := He.ba h
  exact ⟨⟨f, fd, ps, F, hb, ob_ok c1, c2⟩, ob_ok c3, of_decide_eq_true c4, of_decide_eq_true c5⟩
def mk0B (K : PySem.W.Frag) (C : Addr) : Bool := PySem.W.makesIn K C && (ob K (.ref C) "__init__" (some (.builtin "object.__init__")) && (decide (PySem.W.mroIn K C (.type "object") = some true) && PySem.W.keepIn K (.ref C)))
theorem mk0B_ok {K : PySem.W.Frag} {C : Addr} (h : mk0B K C = true) : NK.Mk0 K C := by
  obtain ⟨c1, h⟩ := He.ba h
  obtain ⟨c2, h⟩ := He.ba h
  obtain ⟨c3, c4⟩ := He.ba h
  exact ⟨c1, ob_ok c2, of_decide_eq_true c3, c4⟩
def mkB (K : PySem.W.Frag) (C f : Addr) : Bool := PySem.W.makesIn K C && (ob K (.ref C) "__init__" (some (.ref f)) && (PySem.W.isFn K (.ref f) && PySem.W.keepIn K (.ref C)))
theorem mkB_ok {K : PySem.W.Frag} {C f : Addr} (h : mkB K C f = true) : Mk K C f := by
  obtain ⟨c1, h⟩ := He.ba h
  obtain ⟨c2, h⟩ := He.ba h
  obtain ⟨c3, c4⟩ := He.ba h
  exact ⟨c1, ob_ok c2, c3, c4⟩
def methB (K : PySem.W.Frag) (C : Addr) (m : Str) (f : Addr) : Bool := clsB K C && (ob K (.ref C) m (some (.ref f)) && (PySem.W.isFn K (.ref f) && PySem.W.keepIn K (.ref f)))
theorem methB_ok {K : PySem.W.Frag} {C f : Addr} {m : Str} (h : methB K C m f = true) : Cls K C ∧ Meth K C m f := by
  obtain ⟨c1, h⟩ := He.ba h
  obtain ⟨c2, h⟩ := He.ba h
  obtain ⟨c3, c4⟩ := He.ba h
  exact ⟨clsB_ok c1, ob_ok c2, c3, c4⟩
/-- an exception class of these fields, its __init__ at f -/
def exB (K : PySem.W.Frag) (C f : Addr) (fs : List Str) : Bool := oexB K C && (ob K (.ref C) "__init__" (some (.ref f)) && (decide (PySem.W.typeIn K (.ref f) = some (.type "function")) && ((fs.all fun x => ob K (.ref C) x none) && (xfB K C && decide (PySem.W.exmOne K (.ref C) (.ref C) = some true)))))
theorem exB_ok {K : PySem.W.Frag} {C f : Addr} {fs ps : List Str} {P : Program} {w : World} {mg : Str → Option Value} {base : Heap} {k : Nat} {x : Str} {fd : FuncData} (h : exB K C f fs = true) (hg : mg x = some (.ref C)) (F : FnOk P w K mg base CX0 k f fd ps (NK.spInit K fs)) (hb : Binds K fd ps []) : NK.ExC P w K mg base k x C ps fs := by
  obtain ⟨c1, h⟩ := He.ba h
  obtain ⟨c2, h⟩ := He.ba h
  obtain ⟨c3, h⟩ := He.ba h
  obtain ⟨c4, h⟩ := He.ba h
  obtain ⟨c5, c6⟩ := He.ba h
  exact ⟨oexB_ok c1, hg, ⟨f, fd, ob_ok c2, of_decide_eq_true c3, F, hb⟩, fun y hy => ob_ok (List.all_eq_true.mp c4 y hy), xfB_ok c5, of_decide_eq_true c6⟩
/-! ### the Hook -/
abbrev Fb := PySem.W.Frag → Bool
def obsF (fb : List Fb) (fn : List He.DefD) (K : PySem.W.Frag) : He.AlD := ((fb.all fun f => f K) && fn.all fun d => d.ok K, fn.map fun d => He.fnW K d.at_)
def SaysF (fb : List Fb) (fn : List He.DefD) (K : PySem.W.Frag) : Prop := obsF fb fn K = He.valD fn
def obsFG (n : Nat) (fb : List Fb) (fn : List He.DefD) (g : Addr → Option Obj) : He.AlD := obsF fb fn (He.frG g (He.asD g n))
def hookF (n : Nat) (fb : List Fb) (fn : List He.DefD) : PySem.W.Hook where
  α := He.AlD
  obs := fun s => obsFG n fb fn s.heap.get?
  val := fun _ => He.valD fn
  says := fun _ h => ∃ K : PySem.W.Frag, K.In h ∧ SaysF fb fn K
  of := fun _ _ e => ⟨_, He.frG_in, e⟩
  keeps := fun _ _ _ ⟨K, hK, c⟩ k => ⟨K, PySem.W.Frag.In.keeps hK k, c⟩
theorem obsFG_eq {n : Nat} {fb : List Fb} {fn : List He.DefD} {g : Addr → Option Obj} {s : Shared} (h : ∀ a, g a = s.heap.get? a) : obsFG n fb fn g = (hookF n fb fn).obs s := by
  have e : g = s.heap.get? := funext h
  rw [e] <;> rfl
section
variable {fb : List Fb} {fn : List He.DefD} {K : PySem.W.Frag}
theorem SaysF.fact (c : SaysF fb fn K) (i : Nat) {f : Fb} (h : fb[i]? = some f := by rfl) : f K = true := by
  have c1 := (He.ba (show ((fb.all fun f => f K) && fn.all fun d => d.ok K) = true from congrArg (fun z : He.AlD => z.1) c)).1
  exact List.all_eq_true.mp c1 f (List.mem_of_getElem? h)
theorem SaysF.def_ (c : SaysF fb fn K) (i : Nat) {d : He.DefD} (h : fn[i]? = some d := by rfl) : ∃ fd, FunD K d.name d.qual d.params d.body d.scope (d.dvs K) (d.kws K) (He.fAd K d.at_) fd := by
  have c2 := (He.ba (show ((fb.all fun f => f K) && fn.all fun d => d.ok K) = true from congrArg (fun z : He.AlD => z.1) c)).2
  have e : fn.map (fun d => He.fnW K d.at_) = fn.map He.DefD.val := congrArg (fun z : He.AlD => z.2) c
  have e2 : (fn.map fun d => He.fnW K d.at_)[i]? = (fn.map He.DefD.val)[i]? := by rw [e]
  rw [List.getElem?_map, List.getElem?_map, h] at e2
  exact He.DefD.funD (Option.some.inj e2) (List.all_eq_true.mp c2 d (List.mem_of_getElem? h))
end
/-- a function that is never reached -/
def fnNo : Fn := fun _ _ => .bad
theorem spNo {T : Tab} {vs : List V} {H : Hp} {Q : VK} {E : XK} (h : spFn T fnNo vs H Q E) : False := by
  obtain ⟨F, I, A, m, es, _, _, w⟩ := h
  exact w
def fuel : Nat := 1048576
theorem small_ok {cs : List (Str × List Str)} {gs : List Str} {K : PySem.W.Frag} (h : (cs.all fun p => decide (p.2.length < 900)) = true) : ∀ c, ((mkT cs gs K).cf c).length < 900 := fun c => by
  show (cs.getD c ("", [])).2.length < 900
  rw [List.getD_eq_getElem?_getD]
  cases e : cs[c]? with
  | none => decide
  | some p => exact of_decide_eq_true (List.all_eq_true.mp h p (List.mem_of_getElem? e))
theorem no_ok {cs : List (Str × List Str)} {gs : List Str} {K : PySem.W.Frag} {x : Str} (h : (cs.all fun p => !(p.2.contains x)) = true) : ∀ c, x ∉ (mkT cs gs K).cf c := fun c => by
  show x ∉ (cs.getD c ("", [])).2
  rw [List.getD_eq_getElem?_getD]
  cases e : cs[c]? with
  | none => exact List.not_mem_nil
  | some p =>
    have := List.all_eq_true.mp h p (List.mem_of_getElem? e)
    simpa using this
theorem drs_int {T : Tab} {I : Hp} : ∀ ns : List Int, DRs T I (ns.map V.int) (ns.map Dt.int)
  | [] => .nil
  | n :: ns => .cons (.int n) (drs_int ns)
/-- the law's def is called with the script -/
theorem law_start {T : Tab} {f : Fn} {H : Hp} {a : Addr} {ns : List Int} {m' : Cells} (hS : SqL T.K H a (ns.map V.int)) (h : f [.d (.scr (ns.map Dt.int))] [] = .ok (.d (.bl true)) m') : spFn T f [.ref a] H (fun v _ => v = .bl true) fun _ _ _ => False := by
  refine ⟨[], H, [], [], [.d (.scr (ns.map Dt.int))], ⟨Same.refl H, fun q hq => absurd hq List.not_mem_nil, List.nodup_nil, rfl, List.nodup_nil, fun a ha => absurd ha List.not_mem_nil, fun k c a h1 _ => (by cases h1), fun k c a h1 _ => (by cases h1)⟩, .cons (.d (.scr hS (drs_int ns))) .nil, ?_⟩
  rw [h]
  intro v H' I' A' _ _ hv
  cases hv.dat
  rfl
theorem cx_none {P : Program} {w : World} (H : Hp) (s : Shared) (e : Value) (s' : Shared) (h : L2.CX P w [] H s (fun _ _ _ => False) e s') : False := by
  obtain ⟨_, _, _, _, _, _, _, _, _, _, _, _, z⟩ := h
  exact z.elim
end FM

namespace FM
open PySem PySem.Spec PyProof.Rows L2
/-- a law's walk, where what its defs let out hangs on the world -/
theorem walkW {l : PySem.W.OpenLaw} {n k : Nat} {q : Program} {loose : List Str} {XP : (Str → Option Value) → Heap → Prop} {YP : World → Heap → Prop} {d : DefRec} {CX : World → CXT} {x : Str}
    (hn : l.most = some n) (hn2 : n ≤ sizeLine) (hdf : d.params.defaults = []) (hr : Room k callerA)
    (F : ∀ (w : World) (mg : Str → Option Value) (fa : Addr) (h : Heap), YP w h → h.Ns mainGlobals mg → mg d.name = some (.ref fa) →
      ∃ (K : PySem.W.Frag) (fd : FuncData) (sp : Sp), K.In h ∧ (∀ (s : Shared) (u : Value), BindsTo s fd ⟨[u], []⟩ [(x, u)]) ∧
        (∀ (H : Hp) (a : Addr) (ns : List Int), ns.length ≤ n → SqL K H a (ns.map V.int) → sp [.ref a] H (fun v _ => v = .bl true) fun _ _ _ => False) ∧
        ∀ base : Heap, K.In base → base.Ns mainGlobals mg → FnOk l.prog w K mg base (CX w) k fa fd [x] sp)
    (hCX : ∀ (w : World) (H : Hp) (s : Shared) (e : Value) (s' : Shared), CX w [] H s (fun _ _ _ => False) e s' → False) :
    PySem.W.WalkO q loose XP YP l.row.toRowW d [] (fun f vs => PySem.call f vs) := by
  refine Att.attach_call hn hdf fun w s0 s1 mg mb fa o pm cd doc a vs ns G Y ho hd hcd hmg hobj hints hlen hg => ?_
  obtain ⟨K, fd, sp, KX, hb, hsp, hF⟩ := F w mg fa _ Y G.T.g hmg
  exact law_call KX G.T.g G.T.b G.T.builtins G.T.nolimit hg hobj hints (Nat.le_trans hlen hn2) hr hF hb (fun H hO hS => hsp H a ns hlen hS) fun H e s' => hCX w H s1 e s'
end FM

namespace FM
open PySem PySem.Spec PyProof.Rows L2
/-! ### three at once; a list taken apart -/
def mPar3 (i j l : Nat) (ma : MA) : MS := fun g m => (ma g m).then g fun vs m1 => match vs with
  | [u, v, w] => .nx (((g.set i (some u)).set j (some v)).set l (some w)) m1
  | _ => .bad
def gUl (n : Nat) (mg : MGs) : MG := fun d g m => match lstOf m d with
  | some ds => if ds.length = n then mg ds g m else none
  | none => none
section
variable {X : Cx} {C : Fc} {e : Expr} {st : Stmt} {ma : MA} {mr : MGs}
theorem fs_par3 {i j l : Nat} (h : PS X st (tPar3 i j l (FA C ma))) (hi : xfree C.x i = true) (hj : xfree C.x j = true) (hl : xfree C.x l = true) : PS X st (FS C (mPar3 i j l ma)) := ps_of h fun D σ H ⟨B, g, S, m, vs, I, A, r, w⟩ => by
  refine ⟨B, g, S, m, vs, I, A, r, ?_⟩
  unfold mPar3 at w
  cases ea : ma g m with
  | bad => rw [ea] at w; exact w.elim
  | ex c fs m' => rw [ea] at w; exact w
  | ok ds m1 =>
    rw [ea] at w
    intro ws H1 I1 A1 hl1 r1
    match ds, w, hl1, r1 with
    | [d1, d2, d3], w, hl1, r1 =>
      match ws, hl1, r1 with
      | [w1, w2, w3], _, r1 =>
        refine ⟨w1, w2, w3, rfl, ?_⟩
        cases r1.stk with
        | cons a t => cases t with
          | cons b t => cases t with
            | cons c t => exact w _ H1 I1 A1 ((({ r1 with stk := t } : Rel C.T C.x B g S m1 σ vs H1 I1 A1).slot a hi).slot b hj |>.slot c hl)
      | [], hl1, _ => cases hl1
      | [_], hl1, _ => cases hl1
      | [_, _], hl1, _ => cases hl1
      | _ :: _ :: _ :: _ :: _, hl1, _ => simp at hl1
    | [], w, _, _ => exact (show False from w).elim
    | [_], w, _, _ => exact (show False from w).elim
    | [_, _], w, _, _ => exact (show False from w).elim
    | _ :: _ :: _ :: _ :: _, w, _, _ => exact (show False from w).elim
theorem fg_unl {n : Nat} (h : PG X e (gUnl C.T.K n (FGs C mr))) : PG X e (FG C (gUl n mr)) := pg_of h fun v σ H Q ⟨B, g, S, m, vs, I, A, d, r, w⟩ => by
  unfold gUl at w
  cases el : lstOf m d with
  | none => rw [el] at w; exact w.elim
  | some ds =>
    rw [el] at w
    have w1 : WantG C B S vs Q (if ds.length = n then mr ds g m else none) := w
    by_cases hn : ds.length = n
    · rw [if_pos hn] at w1
      obtain ⟨a, us, e1, e2, e3⟩ := lstOf_ok r.base r.top el
      exact ⟨a, us, e1, e2, by rw [e3.len]; exact hn, B, g, S, m, vs, I, A, ds, e3.len, { r.pop1 with stk := (DRs_vrs e3).app r.pop1.stk }, w1⟩
    · rw [if_neg hn] at w1; exact w1.elim
theorem fe_disp2 {trs : List (TE × TE)} {mp : MPs} (hp : FPs C trs mp) (h : PE X e (tDisp trs)) : PE X e (FE C (mDisp mp)) := fe_disp h hp
theorem fe_dispC2 {trs : List (TE × TE)} {mp : MPs} (hp : FPs C trs mp) (h : PE X e (tDisp trs)) : PE X e (FE C (mDispC mp)) := fe_dispC h hp
end
end FM

namespace FM
open PySem PySem.Spec PyProof.Rows L2
/-! ### what a reading must give: weakest preconditions -/
abbrev EX := Nat → List Dt → Cells → Prop
def eNo : EX := fun _ _ _ => False
@[irreducible] def wR {α : Type} (r : Rs α) (Q : α → Cells → Prop) (E : EX) : Prop := match r with
  | .ok a m => Q a m
  | .ex c fs m => E c fs m
  | .bad => False
@[irreducible] def wO {α : Type} (o : Option α) (Q : α → Prop) : Prop := match o with
  | some a => Q a
  | none => False
abbrev PN := Gam → Cells → Prop
abbrev PR := Vl → Cells → Prop
abbrev PX := Nat → List Dt → Gam → Cells → Prop
@[irreducible] def wS (o : Out) (pN : PN) (pR : PR) (pB pC : PN) (pX : PX) : Prop := match o with
  | .nx g m => pN g m
  | .rt v m => pR v m
  | .bk g m => pB g m
  | .ct g m => pC g m
  | .ex c fs g m => pX c fs g m
  | .bad => False
section
variable {α : Type} {Q : α → Cells → Prop} {E : EX} {a : α} {m : Cells} {c : Nat} {fs : List Dt} {pN pB pC : PN} {pR : PR} {pX : PX} {g : Gam} {v : Vl}
theorem rE : wR (.ok a m) Q E = Q a m := by unfold wR; rfl
theorem rX : wR (.ex c fs m) Q E = E c fs m := by unfold wR; rfl
theorem rB : wR .bad Q E = False := by unfold wR; rfl
theorem oE {Q : α → Prop} : wO (some a) Q = Q a := by unfold wO; rfl
theorem oN {Q : α → Prop} : wO none Q = False := by unfold wO; rfl
theorem sN : wS (.nx g m) pN pR pB pC pX = pN g m := by unfold wS; rfl
theorem sR : wS (.rt v m) pN pR pB pC pX = pR v m := by unfold wS; rfl
theorem sK : wS (.bk g m) pN pR pB pC pX = pB g m := by unfold wS; rfl
theorem sC : wS (.ct g m) pN pR pB pC pX = pC g m := by unfold wS; rfl
theorem sX : wS (.ex c fs g m) pN pR pB pC pX = pX c fs g m := by unfold wS; rfl
theorem sB : wS .bad pN pR pB pC pX = False := by unfold wS; rfl
end
section
variable {α β : Type} {g : Gam} {m : Cells} {E : EX}
theorem wR_mono {r : Rs α} {Q Q' : α → Cells → Prop} (h : wR r Q E) (k : ∀ a m, Q a m → Q' a m) : wR r Q' E := by
  cases r with
  | ok a m => rw [rE] at h ⊢; exact k a m h
  | ex c fs m => rw [rX] at h ⊢; exact h
  | bad => rw [rB] at h; exact h.elim
theorem wR_eq {r : Rs α} {Q : α → Cells → Prop} {a : α} {m' : Cells} (h : r = .ok a m') (q : Q a m') : wR r Q E := by rw [h, rE]; exact q
theorem wR_ex {r : Rs α} {Q : α → Cells → Prop} {c : Nat} {fs : List Dt} {m' : Cells} (h : r = .ex c fs m') (q : E c fs m') : wR r Q E := by rw [h, rX]; exact q
theorem wR_ok {r : Rs α} {Q : α → Cells → Prop} (h : wR r Q eNo) : ∃ a m', r = .ok a m' ∧ Q a m' := by
  cases r with
  | ok a m => rw [rE] at h; exact ⟨a, m, rfl, h⟩
  | ex c fs m => rw [rX] at h; exact h.elim
  | bad => rw [rB] at h; exact h.elim
theorem wR_noE {r : Rs α} {Q : α → Cells → Prop} (h : wR r Q eNo) : wR r Q E := by
  obtain ⟨a, m', e, q⟩ := wR_ok h
  exact wR_eq e q
theorem wO_eq {o : Option α} {Q : α → Prop} {a : α} (h : o = some a) (q : Q a) : wO o Q := by rw [h, oE]; exact q
theorem wO_ok {o : Option α} {Q : α → Prop} (h : wO o Q) : ∃ a, o = some a ∧ Q a := by
  cases o with
  | some a => rw [oE] at h; exact ⟨a, rfl, h⟩
  | none => rw [oN] at h; exact h.elim
theorem wS_mono {o : Out} {pN pB pC : PN} {pR : PR} {pX : PX} {qN qB qC : PN} {qR : PR} {qX : PX} (h : wS o pN pR pB pC pX) (h1 : ∀ g m, pN g m → qN g m) (h2 : ∀ v m, pR v m → qR v m) (h3 : ∀ g m, pB g m → qB g m) (h4 : ∀ g m, pC g m → qC g m) (h5 : ∀ c fs g m, pX c fs g m → qX c fs g m) : wS o qN qR qB qC qX := by
  cases o with
  | nx g m => rw [sN] at h ⊢; exact h1 g m h
  | rt v m => rw [sR] at h ⊢; exact h2 v m h
  | bk g m => rw [sK] at h ⊢; exact h3 g m h
  | ct g m => rw [sC] at h ⊢; exact h4 g m h
  | ex c fs g m => rw [sX] at h ⊢; exact h5 c fs g m h
  | bad => rw [sB] at h; exact h.elim
theorem w_bind {r : Rs α} {k : α → Cells → Rs β} {Q : β → Cells → Prop} (h : wR r (fun a m => wR (k a m) Q E) E) : wR (r.bind k) Q E := by
  cases r with
  | ok a m => rw [rE] at h; exact h
  | ex c fs m => rw [rX] at h; exact (rX (Q := Q)).symm ▸ h
  | bad => rw [rB] at h; exact h.elim
theorem w_then {r : Rs α} {k : α → Cells → Out} {pN pB pC : PN} {pR : PR} {pX : PX} (h : wR r (fun a m => wS (k a m) pN pR pB pC pX) (fun c fs m => pX c fs g m)) : wS (r.then g k) pN pR pB pC pX := by
  cases r with
  | ok a m => rw [rE] at h; exact h
  | ex c fs m => rw [rX] at h; exact sX.symm ▸ h
  | bad => rw [rB] at h; exact h.elim
theorem w_ofO {o : Option α} {Q : α → Cells → Prop} (h : wO o fun a => Q a m) : wR (ofO m o) Q E := by
  obtain ⟨a, rfl, q⟩ := wO_ok h
  exact wR_eq rfl q
/-! expressions -/
section
variable {Q : Vl → Cells → Prop} {ma mb mc : ME} {mr : MA}
theorem w_var {i : Nat} {d : Vl} (h : g[i]? = some (some d)) (q : Q d m) : wR (mVar i g m) Q E := by exact wR_eq (by unfold mVar; rw [h]) q
theorem w_c {d : Dt} (q : Q (.d d) m) : wR (mC d g m) Q E := wR_eq rfl q
theorem w_op {f : O2} (h : wR (ma g m) (fun x m1 => wR (mb g m1) (fun y m2 => wO (f m2 x y) fun d => Q d m2) E) E) : wR (mOp f ma mb g m) Q E :=
  w_bind (wR_mono h fun x m1 h => w_bind (wR_mono h fun y m2 h => w_ofO h))
theorem w_un {f : O1} (h : wR (ma g m) (fun x m1 => wO (f m1 x) fun d => Q d m1) E) : wR (mUn f ma g m) Q E :=
  w_bind (wR_mono h fun x m1 h => w_ofO h)
theorem w_nil {Q : List Vl → Cells → Prop} (q : Q [] m) : wR (mNil g m) Q E := wR_eq rfl q
theorem w_cons {Q : List Vl → Cells → Prop} (h : wR (ma g m) (fun x m1 => wR (mr g m1) (fun xs m2 => Q (x :: xs) m2) E) E) : wR (mCons ma mr g m) Q E :=
  w_bind (wR_mono h fun x m1 h => w_bind (wR_mono h fun _ _ h => wR_eq rfl h))
theorem w_call {F : Fn} (h : wR (mr g m) (fun xs m1 => wR (F xs m1) Q E) E) : wR (mCall F mr g m) Q E := w_bind h
theorem w_cb {f : ON} (h : wR (mr g m) (fun xs m1 => wO (f m1 xs) fun d => Q d m1) E) : wR (mCB f mr g m) Q E := w_bind (wR_mono h fun x m1 h => w_ofO h)
theorem w_cl {f : OL} (h : wR (mr g m) (fun xs m1 => wO (f m1 xs) fun ds => Q (.d (.lst ds)) m1) E) : wR (mCL f mr g m) Q E := w_bind (wR_mono h fun x m1 h => by
  obtain ⟨ds, e, q⟩ := wO_ok h
  simp only [e]; exact wR_eq rfl q)
theorem w_clC {f : OL} (h : wR (mr g m) (fun xs m1 => wO (f m1 xs) fun ds => Q (.ref m1.length) (m1 ++ [some (.lst ds)])) E) : wR (mCLC f mr g m) Q E := w_bind (wR_mono h fun x m1 h => by
  obtain ⟨ds, e, q⟩ := wO_ok h
  simp only [e]; exact wR_eq rfl q)
theorem w_tup (h : wR (mr g m) (fun vs m1 => wO (dats vs) fun ds => szOk ds.length = true ∧ Q (.d (.tup ds)) m1) E) : wR (mTup mr g m) Q E := w_bind (wR_mono h fun x m1 h => by
  obtain ⟨ds, e, h1, q⟩ := wO_ok h
  simp only [e, h1, if_true]; exact wR_eq rfl q)
theorem w_lst (h : wR (mr g m) (fun vs m1 => wO (dats vs) fun ds => szOk ds.length = true ∧ Q (.d (.lst ds)) m1) E) : wR (mLst mr g m) Q E := w_bind (wR_mono h fun x m1 h => by
  obtain ⟨ds, e, h1, q⟩ := wO_ok h
  simp only [e, h1, if_true]; exact wR_eq rfl q)
theorem w_lstC (h : wR (mr g m) (fun vs m1 => wO (dats vs) fun ds => szOk ds.length = true ∧ Q (.ref m1.length) (m1 ++ [some (.lst ds)])) E) : wR (mLstC mr g m) Q E := w_bind (wR_mono h fun x m1 h => by
  obtain ⟨ds, e, h1, q⟩ := wO_ok h
  simp only [e, h1, if_true]; exact wR_eq rfl q)
/-- a test's value -/
@[irreducible] def wB (v : Vl) (Q : Bool → Prop) : Prop := ∃ b, v = .d (.bl b) ∧ Q b
theorem w_B {b : Bool} {Q : Bool → Prop} (q : Q b) : wB (.d (.bl b)) Q := by unfold wB; exact ⟨b, rfl, q⟩
theorem wB_ok {v : Vl} {Q : Bool → Prop} (h : wB v Q) : ∃ b, v = .d (.bl b) ∧ Q b := by unfold wB at h; exact h
theorem w_test {Q : Bool → Cells → Prop} (h : wR (ma g m) (fun v m1 => wB v fun b => Q b m1) E) : wR (mTest ma g m) Q E := w_bind (wR_mono h fun x m1 h => by
  obtain ⟨b, rfl, q⟩ := wB_ok h
  exact wR_eq rfl q)
theorem w_and {t u : MT} {Q : Bool → Cells → Prop} (h : wR (t g m) (fun b m1 => (b = true → wR (u g m1) Q E) ∧ (b = false → Q false m1)) E) : wR (mAnd t u g m) Q E := w_bind (wR_mono h fun b m1 h => by
  cases b with
  | true => exact h.1 rfl
  | false => exact wR_eq rfl (h.2 rfl))
theorem w_or {t u : MT} {Q : Bool → Cells → Prop} (h : wR (t g m) (fun b m1 => (b = true → Q true m1) ∧ (b = false → wR (u g m1) Q E)) E) : wR (mOr t u g m) Q E := w_bind (wR_mono h fun b m1 h => by
  cases b with
  | true => exact wR_eq rfl (h.1 rfl)
  | false => exact h.2 rfl)
theorem w_not {t : MT} {Q : Bool → Cells → Prop} (h : wR (t g m) (fun b m1 => Q (!b) m1) E) : wR (mNot t g m) Q E := w_bind (wR_mono h fun b m1 h => wR_eq rfl h)
theorem w_andV (h : wR (ma g m) (fun v m1 => wB v fun b => (b = true → wR (mb g m1) Q E) ∧ (b = false → Q (.d (.bl false)) m1)) E) : wR (mAndV ma mb g m) Q E := w_bind (wR_mono h fun v m1 h => by
  obtain ⟨b, rfl, h2⟩ := wB_ok h; clear h; have h := h2
  cases b with
  | true => exact h.1 rfl
  | false => exact wR_eq rfl (h.2 rfl))
theorem w_orV (h : wR (ma g m) (fun v m1 => wB v fun b => (b = true → Q (.d (.bl true)) m1) ∧ (b = false → wR (mb g m1) Q E)) E) : wR (mOrV ma mb g m) Q E := w_bind (wR_mono h fun v m1 h => by
  obtain ⟨b, rfl, h2⟩ := wB_ok h; clear h; have h := h2
  cases b with
  | true => exact wR_eq rfl (h.1 rfl)
  | false => exact h.2 rfl)
theorem w_ife {t : MT} (h : wR (t g m) (fun b m1 => (b = true → wR (ma g m1) Q E) ∧ (b = false → wR (mb g m1) Q E)) E) : wR (mIf t ma mb g m) Q E := w_bind (wR_mono h fun b m1 h => by
  cases b with
  | true => exact h.1 rfl
  | false => exact h.2 rfl)
theorem w_tru {Q : Bool → Cells → Prop} (h : wR (ma g m) (fun v m1 => wO (truV m1 v) fun b => Q b m1) E) : wR (mTru ma g m) Q E := w_bind (wR_mono h fun x m1 h => w_ofO h)
theorem w_chain {f f' : O2} (h : wR (ma g m) (fun x m1 => wR (mb g m1) (fun y m2 => wO (f m2 x y) fun v => wB v fun b => (b = true → wR (mc g m2) (fun z m3 => wO (f' m3 y z) fun d => Q d m3) E) ∧ (b = false → Q (.d (.bl false)) m2)) E) E) : wR (mChain f f' ma mb mc g m) Q E :=
  w_bind (wR_mono h fun x m1 h => w_bind (wR_mono h fun y m2 h => by
    obtain ⟨v, e, h⟩ := wO_ok h
    obtain ⟨b, rfl, h2⟩ := wB_ok h; clear h; have h := h2
    rw [e]
    cases b with
    | true => exact w_bind (wR_mono (h.1 rfl) fun z m3 h => w_ofO h)
    | false => exact wR_eq rfl (h.2 rfl)))
/-- a method of a list that may change -/
@[irreducible] def wMl (f : OM) (k : Nat) (m : Cells) (ys : List Vl) (Q : Vl → Cells → Prop) : Prop := wO (isL m[k]?) fun ds => wO (f ds m ys) fun p => Q p.1 (m.set k (some (.lst p.2)))
theorem w_Ml {f : OM} {k : Nat} {ys : List Vl} {ds : List Dt} {p : Vl × List Dt} (h : isL m[k]? = some ds) (h2 : f ds m ys = some p) (q : Q p.1 (m.set k (some (.lst p.2)))) : wMl f k m ys Q := by unfold wMl; exact wO_eq h (wO_eq h2 q)
theorem wMl_ok {f : OM} {k : Nat} {ys : List Vl} (h : wMl f k m ys Q) : wO (isL m[k]?) fun ds => wO (f ds m ys) fun p => Q p.1 (m.set k (some (.lst p.2))) := by unfold wMl at h; exact h
theorem w_m {f : OM} (h : wR (ma g m) (fun x m1 => ∃ k, x = .ref k ∧ (∃ ds, isL m1[k]? = some ds) ∧ wR (mr g m1) (fun ys m2 => wMl f k m2 ys Q) E) E) : wR (mM f ma mr g m) Q E :=
  w_bind (wR_mono h fun x m1 ⟨k, e, ⟨ds, e1⟩, h⟩ => by
    subst e
    simp only [e1]
    refine w_bind (wR_mono h fun ys m2 h => ?_)
    obtain ⟨ds2, e2, h⟩ := wO_ok (wMl_ok h)
    obtain ⟨p, e3, h⟩ := wO_ok h
    simp only [e2, e3]
    exact wR_eq rfl h)
theorem w_frz (h : wR (ma g m) (fun x m1 => (∃ k ds, x = .ref k ∧ isL m1[k]? = some ds ∧ Q (.d (.lst ds)) (m1.set k none)) ∨ ∃ d, x = .d d ∧ Q (.d d) m1) E) : wR (mFrz ma g m) Q E :=
  w_bind (wR_mono h fun x m1 h => by
    rcases h with ⟨k, ds, rfl, e, q⟩ | ⟨d, rfl, q⟩
    · simp only [e]; exact wR_eq rfl q
    · exact wR_eq rfl q)
/-- what an __init__ leaves -/
theorem w_make {c n : Nat} {f : Fn} (h : wR (mr g m) (fun xs m1 => wR (f (.ref m1.length :: xs) (m1 ++ [some (.ins c [])])) (fun v m2 => v = .d .non ∧ ∃ fs, isI c m2[m1.length]? = some fs ∧ fs.length = n ∧ Q (.d (.ins c fs)) (m2.take m1.length)) (fun c' fs m2 => E c' fs (m2.take m1.length))) E) : wR (mMake c n f mr g m) Q E :=
  w_bind (wR_mono h fun xs m1 h => by
    show wR (match f (.ref m1.length :: xs) (m1 ++ [some (.ins c [])]) with | .ok (.d .non) m2 => _ | .ex c' fs m2 => _ | _ => _) Q E
    cases e : f (.ref m1.length :: xs) (m1 ++ [some (.ins c [])]) with
    | ok v m2 =>
      rw [e, rE] at h
      obtain ⟨rfl, fs, e1, e2, q⟩ := h
      simp only [e1, e2, if_true]
      exact wR_eq rfl q
    | ex c' fs m2 => rw [e, rX] at h; exact wR_ex rfl h
    | bad => rw [e, rB] at h; exact h.elim)
theorem w_make0 {c : Nat} (q : Q (.d (.ins c [])) m) : wR (mMake0 c g m) Q E := wR_eq rfl q
theorem w_meth {mt : Nat → Option Fn} (h : wR (ma g m) (fun x m1 => wO (insOf m1 x) fun p => wO (mt p.1) fun f => wR (mr g m1) (fun ys m2 => wR (f (x :: ys) m2) Q E) E) E) : wR (mMeth mt ma mr g m) Q E :=
  w_bind (wR_mono h fun x m1 h => by
    obtain ⟨p, e, h⟩ := wO_ok h
    obtain ⟨f, e2, h⟩ := wO_ok h
    simp only [e, e2]
    exact w_bind h)
/-! slices -/
theorem w_noP {Q : Option Int → Cells → Prop} (q : Q none m) : wR (mNoP g m) Q E := wR_eq rfl q
theorem w_part {Q : Option Int → Cells → Prop} (h : wR (ma g m) (fun x m1 => ∃ i, x = .d (.int i) ∧ Q (some i) m1) E) : wR (mPart ma g m) Q E := w_bind (wR_mono h fun x m1 ⟨i, e, q⟩ => by subst e; exact wR_eq rfl q)
theorem w_sl {f : OS} {ml mh : MO} (h : wR (ma g m) (fun x m1 => wR (ml g m1) (fun lo m2 => wR (mh g m2) (fun hi m3 => wO (f m3 x lo hi) fun d => Q d m3) E) E) E) : wR (mSl f ma ml mh g m) Q E :=
  w_bind (wR_mono h fun x m1 h => w_bind (wR_mono h fun lo m2 h => w_bind (wR_mono h fun hi m3 h => w_ofO h)))
theorem w_slC {ml mh : MO} (h : wR (ma g m) (fun x m1 => wR (ml g m1) (fun lo m2 => wR (mh g m2) (fun hi m3 => wO (lstOf m3 x) fun ds => Q (.ref m3.length) (m3 ++ [some (.lst (cutL ds lo hi))])) E) E) E) : wR (mSlC ma ml mh g m) Q E :=
  w_bind (wR_mono h fun x m1 h => w_bind (wR_mono h fun lo m2 h => w_bind (wR_mono h fun hi m3 h => by
    obtain ⟨ds, e, q⟩ := wO_ok h
    simp only [e]; exact wR_eq rfl q)))
/-! dicts -/
theorem w_pnil {Q : List (L2.Key × Dt) → Cells → Prop} (q : Q [] m) : wR (mPNil g m) Q E := wR_eq rfl q
theorem w_pcons {mp : MPs} {Q : List (L2.Key × Dt) → Cells → Prop} (h : wR (ma g m) (fun x m1 => wR (mb g m1) (fun y m2 => ∃ k d, keyOf x = some k ∧ y = .d d ∧ wR (mp g m2) (fun r m3 => Q ((k, d) :: r) m3) E) E) E) : wR (mPCons ma mb mp g m) Q E :=
  w_bind (wR_mono h fun x m1 h => w_bind (wR_mono h fun y m2 ⟨k, d, e1, e2, h⟩ => by
    subst e2
    simp only [e1]
    exact w_bind (wR_mono h fun _ _ h => wR_eq rfl h)))
theorem w_disp {mp : MPs} (h : wR (mp g m) (fun es m1 => es.length ≤ 15 ∧ Q (.d (.dct (mergeD [] [] es).1 (mergeD [] [] es).2)) m1) E) : wR (mDisp mp g m) Q E := w_bind (wR_mono h fun es m1 ⟨h1, q⟩ => by
  simp only [h1, if_true]; exact wR_eq rfl q)
theorem w_dispC {mp : MPs} (h : wR (mp g m) (fun es m1 => es.length ≤ 15 ∧ Q (.ref m1.length) (m1 ++ [some (.dct (mergeD [] [] es).1 (mergeD [] [] es).2)])) E) : wR (mDispC mp g m) Q E := w_bind (wR_mono h fun es m1 ⟨h1, q⟩ => by
  simp only [h1, if_true]; exact wR_eq rfl q)
theorem w_dnew (q : Q (.ref m.length) (m ++ [some (.dct [] [])])) : wR (mDNew g m) Q E := wR_eq rfl q
/-! what is walked -/
theorem w_it {f : Vl → Option (List Dt)} {Q : List Dt → Cells → Prop} (h : wR (ma g m) (fun x m1 => wO (f x) fun xs => Q xs m1) E) : wR (mIt ma f g m) Q E := w_bind (wR_mono h fun x m1 h => w_ofO h)
theorem w_itA {f : List Vl → Option (List Dt)} {Q : List Dt → Cells → Prop} (h : wR (mr g m) (fun x m1 => wO (f x) fun xs => Q xs m1) E) : wR (mItA mr f g m) Q E := w_bind (wR_mono h fun x m1 h => w_ofO h)
/-! list comprehensions -/
theorem w_lcLoop {mg : MG} {mt : MT} {me : ME} {g0 : Gam} {Q : List Dt → Cells → Prop} (I : List Dt → List Dt → Cells → Prop)
    (hs : ∀ x r acc m, I (x :: r) acc m → wO (mg (.d x) g0 m) fun p => wR (mt p.1 p.2) (fun b m2 => (b = true → wR (me p.1 m2) (fun v m3 => ∃ d, v = .d d ∧ szOk (acc.length + 1) = true ∧ I r (acc ++ [d]) m3) eNo) ∧ (b = false → I r acc m2)) eNo)
    (he : ∀ acc m, I [] acc m → Q acc m) : ∀ (xs acc : List Dt) (m : Cells), I xs acc m → wR (lcLoop mg mt me g0 xs acc m) Q E
  | [], acc, m, h => wR_eq rfl (he acc m h)
  | x :: r, acc, m, h => by
    unfold lcLoop
    obtain ⟨p, e, h1⟩ := wO_ok (hs x r acc m h)
    simp only [e]
    obtain ⟨b, m2, e2, h2⟩ := wR_ok h1
    simp only [e2]
    cases b with
    | false => exact w_lcLoop I hs he r acc m2 (h2.2 rfl)
    | true =>
      obtain ⟨v, m3, e3, d, rfl, h3, h4⟩ := wR_ok (h2.1 rfl)
      simp only [e3, h3, if_true]
      exact w_lcLoop I hs he r (acc ++ [d]) m3 h4
theorem w_lc {mi : MI} {mg : MG} {mt : MT} {me : ME} {own : List Nat} (h : wR (mi g m) (fun xs m1 => wR (lcLoop mg mt me (wipeG g own) xs [] m1) (fun acc m2 => Q (.d (.lst acc)) m2) E) E) : wR (mLc mi mg mt me own g m) Q E := w_bind (wR_mono h fun xs m1 h => w_bind (wR_mono h fun _ _ h => wR_eq rfl h))
theorem w_lcC {mi : MI} {mg : MG} {mt : MT} {me : ME} {own : List Nat} (h : wR (mi g m) (fun xs m1 => wR (lcLoop mg mt me (wipeG g own) xs [] m1) (fun acc m2 => Q (.ref m2.length) (m2 ++ [some (.lst acc)])) E) E) : wR (mLcC mi mg mt me own g m) Q E := w_bind (wR_mono h fun xs m1 h => w_bind (wR_mono h fun _ _ h => wR_eq rfl h))
/-- each gives one, nothing changes -/
theorem w_lcMap {mg : MG} {mt : MT} {me : ME} {g0 : Gam} {Q : List Dt → Cells → Prop} (f : Dt → Dt) {xs : List Dt} {m : Cells}
    (hs : ∀ x ∈ xs, wO (mg (.d x) g0 m) fun p => wR (mt p.1 p.2) (fun b m2 => b = true ∧ wR (me p.1 m2) (fun v m3 => v = .d (f x) ∧ m3 = m) eNo) eNo)
    (hz : xs.length ≤ 16777216) (he : Q (xs.map f) m) : wR (lcLoop mg mt me g0 xs [] m) Q E := by
  refine w_lcLoop (fun r acc m' => ∃ a, xs = a ++ r ∧ acc = a.map f ∧ m' = m) (fun x r acc m' ⟨a, e1, e2, e3⟩ => ?_) (fun acc m' ⟨a, e1, e2, e3⟩ => ?_) xs [] m ⟨[], rfl, rfl, rfl⟩
  · subst e3
    obtain ⟨p, e, h1⟩ := wO_ok (hs x (by rw [e1]; simp))
    refine wO_eq e (wR_mono h1 fun b m2 h2 => ⟨fun _ => wR_mono h2.2 fun v m3 h3 => ⟨f x, h3.1, ?_, a ++ [x], by rw [e1]; simp, by rw [e2]; simp, h3.2⟩, fun hb => absurd (h2.1.symm.trans hb) (by decide)⟩)
    have : a.length + 1 ≤ xs.length := by rw [e1]; simp
    unfold szOk
    rw [e2, List.length_map]
    exact decide_eq_true (by omega)
  · rw [List.append_nil] at e1
    rw [e2, ← e1, e3]; exact he
/-- some are left out, nothing changes -/
theorem w_lcFil {mg : MG} {mt : MT} {me : ME} {g0 : Gam} {Q : List Dt → Cells → Prop} (p : Dt → Bool) (f : Dt → Dt) {xs : List Dt} {m : Cells}
    (hs : ∀ x ∈ xs, wO (mg (.d x) g0 m) fun q => wR (mt q.1 q.2) (fun b m2 => b = p x ∧ m2 = m ∧ (b = true → wR (me q.1 m2) (fun v m3 => v = .d (f x) ∧ m3 = m) eNo)) eNo)
    (hz : xs.length ≤ 16777216) (he : Q ((xs.filter p).map f) m) : wR (lcLoop mg mt me g0 xs [] m) Q E := by
  refine w_lcLoop (fun r acc m' => ∃ a, xs = a ++ r ∧ acc = (a.filter p).map f ∧ m' = m) (fun x r acc m' ⟨a, e1, e2, e3⟩ => ?_) (fun acc m' ⟨a, e1, e2, e3⟩ => ?_) xs [] m ⟨[], rfl, rfl, rfl⟩
  · subst e3
    obtain ⟨q, e, h1⟩ := wO_ok (hs x (by rw [e1]; simp))
    refine wO_eq e (wR_mono h1 fun b m2 ⟨hb, hm, h2⟩ => ⟨fun hb1 => wR_mono (h2 hb1) fun v m3 h3 => ⟨f x, h3.1, ?_, a ++ [x], by rw [e1]; simp, by rw [e2]; simp [List.filter_append, List.filter_cons, ← hb, hb1], h3.2⟩, fun hb1 => ⟨a ++ [x], by rw [e1]; simp, by rw [e2]; simp [List.filter_append, List.filter_cons, ← hb, hb1], hm⟩⟩)
    have h3 : a.length + 1 ≤ xs.length := by rw [e1]; simp
    have h4 := List.length_filter_le p a
    unfold szOk
    rw [e2, List.length_map]
    exact decide_eq_true (by omega)
  · rw [List.append_nil] at e1
    rw [e2, ← e1, e3]; exact he
end
/-! targets -/
theorem w_nm {i : Nat} {d : Vl} {N : Gam × Cells → Prop} (q : N (g.set i (some d), m)) : wO (gNm i d g m) N := wO_eq rfl q
theorem w_gnil {N : Gam × Cells → Prop} (q : N (g, m)) : wO (gsNil [] g m) N := wO_eq rfl q
theorem w_gcons {mg : MG} {mr : MGs} {d : Dt} {r : List Dt} {N : Gam × Cells → Prop} (h : wO (mg (.d d) g m) fun p => wO (mr r p.1 p.2) N) : wO (gsCons mg mr (d :: r) g m) N := by
  obtain ⟨p, e, q⟩ := wO_ok h
  show wO ((mg (.d d) g m).bind _) N
  rw [e]; exact q
theorem w_gtp {n : Nat} {mr : MGs} {ds : List Dt} {N : Gam × Cells → Prop} (hn : ds.length = n) (h : wO (mr ds g m) N) : wO (gTp n mr (.d (.tup ds)) g m) N := by
  show wO (if ds.length = n then mr ds g m else none) N
  rw [if_pos hn]; exact h
theorem w_setL {me mi : ME} {v : Vl} {N : Gam × Cells → Prop} (h : wR (me g m) (fun x m1 => wR (mi g m1) (fun y m2 => ∃ k i ds d j, x = .ref k ∧ y = .d (.int i) ∧ isL m2[k]? = some ds ∧ v = .d d ∧ ixN ds.length i = some j ∧ N (g, m2.set k (some (.lst (ds.set j d))))) eNo) eNo) : wO (mSetL me mi v g m) N := by
  obtain ⟨x, m1, e1, h⟩ := wR_ok h
  obtain ⟨y, m2, e2, k, i, ds, d, j, rfl, rfl, e3, rfl, e4, q⟩ := wR_ok h
  unfold mSetL
  simp only [e1, e2, e3, e4]
  exact wO_eq rfl q
/-! statements -/
section
variable {pN pB pC : PN} {pR : PR} {pX : PX} {s t : MS} {me mo mi mv : ME} {mr : MA} {mg : MG}
theorem w_seq (h : wS (s g m) (fun g' m' => wS (t g' m') pN pR pB pC pX) pR pB pC pX) : wS (mSeq s t g m) pN pR pB pC pX := by
  unfold mSeq
  cases e : s g m with
  | nx g' m' => rw [e, sN] at h; exact h
  | rt v m' => rw [e, sR] at h; rw [sR]; exact h
  | bk g' m' => rw [e, sK] at h; rw [sK]; exact h
  | ct g' m' => rw [e, sC] at h; rw [sC]; exact h
  | ex c fs g' m' => rw [e, sX] at h; rw [sX]; exact h
  | bad => rw [e, sB] at h; exact h.elim
theorem w_asg (h : wR (me g m) (fun d m1 => wO (mg d g m1) fun p => pN p.1 p.2) (fun c fs m => pX c fs g m)) : wS (mAsg me mg g m) pN pR pB pC pX := w_then (wR_mono h fun d m1 h => by
  obtain ⟨p, e, q⟩ := wO_ok h
  rw [e]; exact sN.symm ▸ q)
theorem w_drop (h : wR (me g m) (fun _ m1 => pN g m1) (fun c fs m => pX c fs g m)) : wS (mDrop me g m) pN pR pB pC pX := w_then (wR_mono h fun _ _ h => sN.symm ▸ h)
theorem w_ret (h : wR (me g m) (fun d m1 => pR d m1) (fun c fs m => pX c fs g m)) : wS (mRet me g m) pN pR pB pC pX := w_then (wR_mono h fun _ _ h => sR.symm ▸ h)
theorem w_retN (h : pR (.d .non) m) : wS (mRetN g m) pN pR pB pC pX := by unfold mRetN; rw [sR]; exact h
theorem w_next (h : pN g m) : wS (mNext g m) pN pR pB pC pX := by unfold mNext; rw [sN]; exact h
theorem w_brk (h : pB g m) : wS (mBrk g m) pN pR pB pC pX := by unfold mBrk; rw [sK]; exact h
theorem w_cnt (h : pC g m) : wS (mCnt g m) pN pR pB pC pX := by unfold mCnt; rw [sC]; exact h
theorem w_if {c : MT} (h : wR (c g m) (fun b m1 => (b = true → wS (s g m1) pN pR pB pC pX) ∧ (b = false → wS (t g m1) pN pR pB pC pX)) (fun c fs m => pX c fs g m)) : wS (mIfS c s t g m) pN pR pB pC pX := w_then (wR_mono h fun b m1 h => by
  cases b with
  | true => exact h.1 rfl
  | false => exact h.2 rfl)
theorem w_par {i j : Nat} (h : wR (mr g m) (fun vs m1 => ∃ v w, vs = [v, w] ∧ pN ((g.set i (some v)).set j (some w)) m1) (fun c fs m => pX c fs g m)) : wS (mPar i j mr g m) pN pR pB pC pX := w_then (wR_mono h fun vs m1 ⟨v, w, e, q⟩ => by subst e; exact sN.symm ▸ q)
theorem w_aug {i : Nat} {a : Int} (hg : g[i]? = some (some (.d (.int a)))) (h : wR (me g m) (fun v m1 => ∃ b, v = .d (.int b) ∧ pN (g.set i (some (.d (.int (a + b))))) m1) (fun c fs m => pX c fs g m)) : wS (mAug i me g m) pN pR pB pC pX := by
  unfold mAug
  rw [hg]
  exact w_then (wR_mono h fun v m1 ⟨b, e, q⟩ => by subst e; exact sN.symm ▸ q)
theorem w_putD (h : wR (mv g m) (fun v m1 => wR (mo g m1) (fun x m2 => wR (mi g m2) (fun y m3 => wS (putD x y v g m3) pN pR pB pC pX) (fun c fs m => pX c fs g m)) (fun c fs m => pX c fs g m)) (fun c fs m => pX c fs g m)) : wS (mPutD mo mi mv g m) pN pR pB pC pX :=
  w_then (wR_mono h fun v m1 h => w_then (wR_mono h fun x m2 h => w_then h))
theorem w_setF {ix : FTab} (h : wR (mv g m) (fun y m1 => wR (mo g m1) (fun x m2 => wS (setV ix x y g m2) pN pR pB pC pX) (fun c fs m => pX c fs g m)) (fun c fs m => pX c fs g m)) : wS (mSetF ix mo mv g m) pN pR pB pC pX := w_then (wR_mono h fun v m1 h => w_then h)
theorem w_raise {c n : Nat} (h : wR (mr g m) (fun vs m1 => ∃ ds, dats vs = some ds ∧ ds.length = n ∧ pX c ds.reverse g m1) (fun c fs m => pX c fs g m)) : wS (mRaise c n mr g m) pN pR pB pC pX := w_then (wR_mono h fun vs m1 ⟨ds, e1, e2, q⟩ => by
  simp only [e1, e2, if_true]; exact sX.symm ▸ q)
theorem w_try {hs : List Hd} (h : wS (s g m) pN pR pB pC (fun c fs g' m' => wS (mHs hs c fs g' m') pN pR pB pC pX)) : wS (mTry s hs g m) pN pR pB pC pX := by
  unfold mTry
  cases e : s g m with
  | nx g' m' => rw [e, sN] at h; rw [sN]; exact h
  | rt v m' => rw [e, sR] at h; rw [sR]; exact h
  | bk g' m' => rw [e, sK] at h; rw [sK]; exact h
  | ct g' m' => rw [e, sC] at h; rw [sC]; exact h
  | ex c fs g' m' => rw [e, sX] at h; exact h
  | bad => rw [e, sB] at h; exact h.elim
/-! loops -/
theorem w_turn {o : Out} {k : Gam → Cells → Out} (h : wS o (fun g m => wS (k g m) pN pR pB pC pX) pR pN (fun g m => wS (k g m) pN pR pB pC pX) pX) : wS (turn o k) pN pR pB pC pX := by
  cases o with
  | nx g' m' => rw [sN] at h; exact h
  | rt v m' => rw [sR] at h; exact sR.symm ▸ h
  | bk g' m' => rw [sK] at h; exact sN.symm ▸ h
  | ct g' m' => rw [sC] at h; exact h
  | ex c fs g' m' => rw [sX] at h; exact sX.symm ▸ h
  | bad => rw [sB] at h; exact h.elim
theorem w_loop (I : List Dt → Gam → Cells → Prop)
    (hs : ∀ x r g m, I (x :: r) g m → wO (mg (.d x) g m) fun p => wS (s p.1 p.2) (I r) pR pN (I r) pX)
    (he : ∀ g m, I [] g m → pN g m) : ∀ (xs : List Dt) (g : Gam) (m : Cells), I xs g m → wS (mLoop mg s xs g m) pN pR pB pC pX
  | [], g, m, h => by unfold mLoop; rw [sN]; exact he g m h
  | x :: r, g, m, h => by
    unfold mLoop
    obtain ⟨p, e, h1⟩ := wO_ok (hs x r g m h)
    simp only [e]
    exact w_turn (wS_mono h1 (fun g' m' h => w_loop I hs he r g' m' h) (fun _ _ h => h) (fun _ _ h => h) (fun g' m' h => w_loop I hs he r g' m' h) (fun _ _ _ _ h => h))
theorem w_for {mi : MI} (h : wR (mi g m) (fun xs m1 => wS (mLoop mg s xs g m1) pN pR pB pC pX) (fun c fs m => pX c fs g m)) : wS (mFor mi mg s g m) pN pR pB pC pX := w_then h
theorem w_while {c : MT} (I : Nat → Gam → Cells → Prop)
    (hs : ∀ n g m, I n g m → wR (c g m) (fun b m1 => (b = true → wS (s g m1) (fun g m => ∃ k, k < n ∧ I k g m) pR pN (fun g m => ∃ k, k < n ∧ I k g m) pX) ∧ (b = false → pN g m1)) (fun c fs m => pX c fs g m)) :
    ∀ (f n : Nat) (g : Gam) (m : Cells), n < f → I n g m → wS (mWhile f c s g m) pN pR pB pC pX
  | 0, n, g, m, hn, _ => by omega
  | f + 1, n, g, m, hn, h => by
    unfold mWhile
    refine w_then (wR_mono (hs n g m h) fun b m1 h1 => ?_)
    have go : ∀ g m, (∃ k, k < n ∧ I k g m) → wS (mWhile f c s g m) pN pR pB pC pX := fun g m ⟨k, hk, h⟩ => w_while I hs f k g m (by omega) h
    cases b with
    | false => exact sN.symm ▸ h1.2 rfl
    | true => exact w_turn (wS_mono (h1.1 rfl) go (fun _ _ h => h) (fun _ _ h => h) go (fun _ _ _ _ h => h))
/-! defs -/
@[irreducible] def wX (k : Nat) (Q : Vl → Cells → Prop) (v : Vl) (m : Cells) : Prop := match v with
  | .d d => Q (.d d) (m.take k)
  | .ref j => if j < k then Q (.ref j) (m.take k) else ∃ c, m[j]? = some (some c) ∧ Q (.ref k) (m.take k ++ [some c])
theorem w_Xd {k : Nat} {Q : Vl → Cells → Prop} {d : Dt} (q : Q (.d d) (m.take k)) : wX k Q (.d d) m := by unfold wX; exact q
theorem w_Xr {k j : Nat} {Q : Vl → Cells → Prop} {c : Cell} (hj : ¬ j < k) (h : m[j]? = some (some c)) (q : Q (.ref k) (m.take k ++ [some c])) : wX k Q (.ref j) m := by unfold wX; simp only [if_neg hj]; exact ⟨c, h, q⟩
theorem w_Xo {k j : Nat} {Q : Vl → Cells → Prop} (hj : j < k) (q : Q (.ref j) (m.take k)) : wX k Q (.ref j) m := by unfold wX; simp only [if_pos hj]; exact q
theorem w_run {n N : Nat} {es : List Vl} {Q : Vl → Cells → Prop} {g : Gam} (hn : es.length = n) (hg : g = es.map some ++ List.replicate (N - n) none)
    (h : wS (s g m) (fun _ m' => Q (.d .non) (m'.take m.length)) (wX m.length Q) (fun _ _ => False) (fun _ _ => False) (fun c fs _ m' => E c fs (m'.take m.length))) : wR (runFn n N s es m) Q E := by
  subst hg
  unfold runFn
  rw [if_pos hn]
  cases e : s (es.map some ++ List.replicate (N - n) none) m with
  | nx g' m' => rw [e, sN] at h; exact wR_eq rfl h
  | rt v m' =>
    rw [e, sR] at h
    cases v with
    | d d => unfold wX at h; exact wR_eq rfl h
    | ref j =>
      unfold wX at h
      have h : if j < m.length then Q (.ref j) (m'.take m.length) else ∃ c, m'[j]? = some (some c) ∧ Q (.ref m.length) (m'.take m.length ++ [some c]) := h
      by_cases hj : j < m.length
      · rw [if_pos hj] at h
        simp only [exitF, if_pos hj]; exact wR_eq rfl h
      · rw [if_neg hj] at h
        obtain ⟨c, e1, q⟩ := h
        simp only [exitF, if_neg hj, e1]; exact wR_eq rfl q
  | bk g' m' => rw [e, sK] at h; exact h.elim
  | ct g' m' => rw [e, sC] at h; exact h.elim
  | ex c fs g' m' => rw [e, sX] at h; exact wR_ex rfl h
  | bad => rw [e, sB] at h; exact h.elim
end
end
end FM

namespace FM
open PySem PySem.Spec PyProof.Rows L2
/-! ### leaves -/
section
variable {m : Cells} {Q : Vl → Prop} {x y : Vl} {i j : Int} {a b : Str} {d e : Dt} {ds es : List Dt} {p : Bool}
theorem sz_le {n : Nat} (h : n ≤ 16777216) : szOk n = true := decide_eq_true h
theorem w_dats {vs : List Vl} {K : List Dt → Prop} (h : dats vs = some ds) (q : K ds) : wO (dats vs) K := wO_eq h q
theorem wo_II {f : Int → Int → Int} (q : Q (.d (.int (f i j)))) : wO (oII f m (.d (.int i)) (.d (.int j))) Q := wO_eq rfl q
theorem wo_IB {f : Int → Int → Bool} (q : Q (.d (.bl (f i j)))) : wO (oIB f m (.d (.int i)) (.d (.int j))) Q := wO_eq rfl q
theorem wo_Ic {c : Int → Int → Bool} {f : Int → Int → Int} (h : c i j = true) (q : Q (.d (.int (f i j)))) : wO (oIc c f m (.d (.int i)) (.d (.int j))) Q := wO_eq (by simp only [oIc, h, if_true]) q
theorem wo_eqI (q : Q (.d (.bl (decide (i = j))))) : wO (oEq m (.d (.int i)) (.d (.int j))) Q := wO_eq rfl q
theorem wo_eqS (q : Q (.d (.bl (decide (a = b))))) : wO (oEq m (.d (.str a)) (.d (.str b))) Q := wO_eq rfl q
theorem wo_eqB {p r : Bool} (q : Q (.d (.bl (decide (p = r))))) : wO (oEq m (.d (.bl p)) (.d (.bl r))) Q := wO_eq rfl q
theorem wo_neI (q : Q (.d (.bl (!decide (i = j))))) : wO (oNe m (.d (.int i)) (.d (.int j))) Q := wO_eq rfl q
theorem wo_neS (q : Q (.d (.bl (!decide (a = b))))) : wO (oNe m (.d (.str a)) (.d (.str b))) Q := wO_eq rfl q
theorem wo_neB {p r : Bool} (q : Q (.d (.bl (!decide (p = r))))) : wO (oNe m (.d (.bl p)) (.d (.bl r))) Q := wO_eq rfl q
theorem wo_isN {neg : Bool} (q : Q (.d (.bl (neg != isNon x)))) : wO (oIsN neg m x (.d .non)) Q := wO_eq rfl q
theorem wo_isNf {neg : Bool} (h : isNon x = false) (q : Q (.d (.bl neg))) : wO (oIsN neg m x (.d .non)) Q := wO_eq (by simp only [oIsN, h]; cases neg <;> rfl) q
theorem wo_isN0 (q : Q (.d (.bl true))) : wO (oIsN false m (.d .non) (.d .non)) Q := wO_eq rfl q
theorem wo_isN1 (q : Q (.d (.bl false))) : wO (oIsN true m (.d .non) (.d .non)) Q := wO_eq rfl q
theorem wo_catS (h : a.length + b.length ≤ 16777216) (q : Q (.d (.str (a ++ b)))) : wO (oCatS m (.d (.str a)) (.d (.str b))) Q := wO_eq (by simp only [oCatS, sz_le h, if_true]) q
theorem wo_ixL (h : lstOf m x = some ds) (h2 : atI ds i = some d) (q : Q (.d d)) : wO (oIxL m x (.d (.int i))) Q := wO_eq (by simp only [oIxL, h, h2, Option.map_some]) q
theorem wo_ixT (h2 : atI ds i = some d) (q : Q (.d d)) : wO (oIxT m (.d (.tup ds)) (.d (.int i))) Q := wO_eq (by simp only [oIxT, tupOf, h2, Option.map_some]) q
theorem wo_ixS {c : Nat} (h : a.length ≤ 16777216) (h2 : atI a.cps.toList i = some c) (q : Q (.d (.str ⟨#[c]⟩))) : wO (oIxS m (.d (.str a)) (.d (.int i))) Q := wO_eq (by simp only [oIxS, sz_le h, if_true, h2, Option.map_some]) q
theorem wo_catL (h : lstOf m x = some ds) (h2 : lstOf m y = some es) (h3 : ds.length + es.length ≤ 16777216) (q : Q (.d (.lst (ds ++ es)))) : wO (oCatL m x y) Q := wO_eq (by simp only [oCatL, h, h2, sz_le h3, if_true]) q
theorem wo_catT (h3 : ds.length + es.length ≤ 16777216) (q : Q (.d (.tup (ds ++ es)))) : wO (oCatT m (.d (.tup ds)) (.d (.tup es))) Q := wO_eq (by simp only [oCatT, tupOf, sz_le h3, if_true]) q
theorem wo_len (h : (lstOf m x).or (tupOf x) = some ds) (q : Q (.d (.int (ds.length : Nat)))) : wO (nLen m [x]) Q := wO_eq (by simp only [nLen, h, Option.map_some]) q
theorem wo_tup (h : (lstOf m x).or (tupOf x) = some ds) (q : Q (.d (.tup ds))) : wO (nTup m [x]) Q := wO_eq (by simp only [nTup, h, Option.map_some]) q
theorem wo_list {Q : List Dt → Prop} (h : (lstOf m x).or (tupOf x) = some ds) (q : Q ds) : wO (lList m [x]) Q := wO_eq (by simp only [lList, h]) q
theorem wo_intI (q : Q (.d (.int i))) : wO (nInt m [.d (.int i)]) Q := wO_eq rfl q
theorem wo_intB (q : Q (.d (.int (if p then 1 else 0)))) : wO (nInt m [.d (.bl p)]) Q := wO_eq rfl q
theorem wo_rev (h : lstOf m x = some ds) (q : Q (.d (.lst ds.reverse))) : wO (oRev m x) Q := wO_eq (by simp only [oRev, h, Option.map_some]) q
theorem wo_slL {lo hi : Option Int} (h : lstOf m x = some ds) (q : Q (.d (.lst (cutL ds lo hi)))) : wO (oSlL m x lo hi) Q := wO_eq (by simp only [oSlL, h, Option.map_some]) q
theorem wo_slT {lo hi : Option Int} (q : Q (.d (.tup (cutL ds lo hi)))) : wO (oSlT m (.d (.tup ds)) lo hi) Q := wO_eq (by simp only [oSlT, tupOf, Option.map_some]) q
theorem wo_nil {neg : Bool} (h : seqL m x = some ds) (q : Q (.d (.bl (neg != ds.isEmpty)))) : wO (oNil neg m x (.d (.lst []))) Q := wO_eq (by simp only [oNil, h, Option.map_some]) q
theorem wo_dget {k : L2.Key} {ks : List L2.Key} (h : dctOf m x = some (ks, ds)) (hk : keyOf y = some k) (h2 : dGet ks ds k = some d) (q : Q (.d d)) : wO (oDGet m x y) Q := wO_eq (by simp only [oDGet, h, hk, h2, Option.map_some]) q
theorem wo_not (q : Q (.d (.bl (!p)))) : wO (oNot m (.d (.bl p))) Q := wO_eq rfl q
theorem wo_lst {Q : List Dt → Prop} (q : Q ds) : wO (isLst (.d (.lst ds))) Q := wO_eq rfl q
theorem wo_scr {Q : List Dt → Prop} (q : Q ds) : wO (isLst (.d (.scr ds))) Q := wO_eq rfl q
theorem wo_itup {Q : List Dt → Prop} (q : Q ds) : wO (isTup (.d (.tup ds))) Q := wO_eq rfl q
theorem wo_rng1 {Q : List Dt → Prop} (h : -1000000000000 ≤ i ∧ i ≤ 1000000000000) (q : Q (rangeD 0 i.toNat)) : wO (isRng1 [.d (.int i)]) Q := wO_eq (by
  have e : okR i = true := by unfold okR; exact decide_eq_true ⟨by omega, by omega⟩
  simp only [isRng1, e, if_true]) q
theorem wo_rng2 {Q : List Dt → Prop} (h : -1000000000000 ≤ i ∧ i ≤ 1000000000000) (h2 : -1000000000000 ≤ j ∧ j ≤ 1000000000000) (q : Q (rangeD i (j - i).toNat)) : wO (isRng2 [.d (.int i), .d (.int j)]) Q := wO_eq (by
  have e : okR i = true := by unfold okR; exact decide_eq_true ⟨by omega, by omega⟩
  have e2 : okR j = true := by unfold okR; exact decide_eq_true ⟨by omega, by omega⟩
  simp only [isRng2, e, e2, Bool.and_self, if_true]) q
theorem wo_zip {Q : List Dt → Prop} (q : Q (zipD ds es)) : wO (isZip [.d (.lst ds), .d (.lst es)]) Q := wO_eq rfl q
theorem wo_enum {Q : List Dt → Prop} (q : Q (enumD ds)) : wO (isEnum [.d (.lst ds)]) Q := wO_eq rfl q
theorem wo_Q {neg : Bool} {q : Dt → Dt → Option Bool} {r : Bool} (h : q d e = some r) (k : Q (.d (.bl (neg != r)))) : wO (oQ neg q m (.d d) (.d e)) Q := wO_eq (by simp only [oQ, h, Option.map_some]) k
theorem wo_fld {ix : FTab} {c n : Nat} (h : ix c = some n) (h2 : ds[n]? = some d) (q : Q (.d d)) : wO (oFld ix m (.d (.ins c ds))) Q := wO_eq (by simp only [oFld, insOf, h, Option.bind_some, h2, Option.map_some]) q
theorem cut_to {α : Type} {xs : List α} {a : Nat} : cutL xs none (some (a : Int)) = xs.take a := by
  unfold cutL
  rw [HT.sIx_none, HT.sIx_nat, List.drop_zero, Nat.sub_zero, List.take_eq_take_iff]
  omega
theorem cut_from {α : Type} {xs : List α} {a : Nat} : cutL xs (some (a : Int)) none = xs.drop a := by
  unfold cutL
  rw [HT.sIx_none, HT.sIx_nat]
  by_cases h : a ≤ xs.length
  · rw [Nat.min_eq_left h, List.take_of_length_le (by simp)]
  · rw [Nat.min_eq_right (by omega), List.drop_eq_nil_of_le (Nat.le_refl _), List.drop_eq_nil_of_le (by omega), List.take_nil]
theorem cut_mid {α : Type} {xs : List α} {a b : Nat} : cutL xs (some (a : Int)) (some (b : Int)) = (xs.drop a).take (b - a) := by
  unfold cutL
  rw [HT.sIx_nat, HT.sIx_nat]
  by_cases h : a ≤ xs.length
  · rw [Nat.min_eq_left h, List.take_eq_take_iff, List.length_drop]
    omega
  · rw [List.drop_eq_nil_of_le (by omega), List.drop_eq_nil_of_le (by omega), List.take_nil, List.take_nil]
theorem nat1 {a : Nat} : (a : Int) + 1 = ((a + 1 : Nat) : Int) := by omega
theorem nat2 {a : Nat} : (a : Int) + 2 = ((a + 2 : Nat) : Int) := by omega
theorem at_nat {α : Type} {xs : List α} {n : Nat} {z : α} (h : xs[n]? = some z) : atI xs (n : Int) = some z := by
  have hl := (List.getElem?_eq_some_iff.mp h).1
  have h1 : ixN xs.length (n : Int) = some n := by
    unfold ixN
    rw [if_pos (by omega), if_pos (by omega)]
    simp
  simp only [atI, h1, Option.bind_some, h]
theorem at_lt {α : Type} {xs : List α} {i : Int} (h0 : 0 ≤ i) (h1 : i < xs.length) : ∃ z, atI xs i = some z ∧ z ∈ xs := by
  obtain ⟨n, rfl⟩ := Int.eq_ofNat_of_zero_le h0
  have hn : n < xs.length := by omega
  exact ⟨xs[n], at_nat (List.getElem?_eq_getElem hn), List.getElem_mem hn⟩
/-! putting into a dict that may change -/
theorem w_putDn {pN pB pC : PN} {pR : PR} {pX : PX} {g : Gam} {k : Nat} {key : L2.Key} {ks : List L2.Key} (h : m[k]? = some (some (.dct ks ds))) (hk : keyOf y = some key) (hl : ks.length < 16777216) (q : pN g (m.set k (some (.dct (dPutK ks key) (dPutV ks ds key d))))) : wS (putD (.ref k) y (.d d) g m) pN pR pB pC pX := by
  have e : putD (.ref k) y (.d d) g m = .nx g (m.set k (some (.dct (dPutK ks key) (dPutV ks ds key d)))) := by
    simp only [putD, hk, h, isD, sz_le (show ks.length + 1 ≤ 16777216 by omega), if_true]
  rw [e, sN]; exact q
theorem w_setV {pN pB pC : PN} {pR : PR} {pX : PX} {g : Gam} {k c n : Nat} {ix : FTab} (h : m[k]? = some (some (.ins c ds))) (hx : ix c = some n) (hp : putAt n d ds = some es) (q : pN g (m.set k (some (.ins c es)))) : wS (setV ix (.ref k) (.d d) g m) pN pR pB pC pX := by
  have e : setV ix (.ref k) (.d d) g m = .nx g (m.set k (some (.ins c es))) := by
    simp only [setV, setF, h, isIns, hx, Option.bind_some, hp]
  rw [e, sN]; exact q
end
section
variable {g : Gam} {m : Cells} {E : EX} {Q : Vl → Cells → Prop} {ma : ME} {mr : MA}
/-- append -/
theorem w_app (h : wR (ma g m) (fun x m1 => ∃ k ds, x = .ref k ∧ m1[k]? = some (some (.lst ds)) ∧ wR (mr g m1) (fun ys m2 => ∃ d ds, ys = [.d d] ∧ m2[k]? = some (some (.lst ds)) ∧ ds.length < 16777216 ∧ Q (.d .non) (m2.set k (some (.lst (ds ++ [d]))))) E) E) : wR (mM fAppend ma mr g m) Q E :=
  w_m (wR_mono h fun x m1 ⟨k, ds, e1, e2, h⟩ => ⟨k, e1, ⟨ds, by rw [e2]; rfl⟩, wR_mono h fun ys m2 ⟨d, ds, e3, e4, e5, q⟩ => by
    subst e3
    exact w_Ml (p := (.d .non, ds ++ [d])) (by rw [e4]; rfl) (by simp only [fAppend, sz_le (show ds.length + 1 ≤ 16777216 by omega), if_true]) q⟩)
theorem w_frzL (h : wR (ma g m) (fun x m1 => ∃ k ds, x = .ref k ∧ m1[k]? = some (some (.lst ds)) ∧ Q (.d (.lst ds)) (m1.set k none)) E) : wR (mFrz ma g m) Q E :=
  w_frz (wR_mono h fun x m1 ⟨k, ds, e1, e2, q⟩ => .inl ⟨k, ds, e1, by rw [e2]; rfl, q⟩)
theorem w_rl {j : Nat} {ds : List Dt} {p : Nat → List Dt → Prop} (h : m[j]? = some (some (.lst ds))) (q : p j ds) : ∃ k ds, Vl.ref j = .ref k ∧ m[k]? = some (some (.lst ds)) ∧ p k ds := ⟨j, ds, rfl, h, q⟩
theorem w_ad {k : Nat} {d : Dt} {ds : List Dt} {p : Dt → List Dt → Prop} (h : m[k]? = some (some (.lst ds))) (hl : ds.length < 16777216) (q : p d ds) : ∃ d' ds, [Vl.d d] = [.d d'] ∧ m[k]? = some (some (.lst ds)) ∧ ds.length < 16777216 ∧ p d' ds := ⟨d, ds, rfl, h, hl, q⟩
theorem w_i1 {i : Int} {p : Int → Prop} (q : p i) : ∃ j, Vl.d (.int i) = .d (.int j) ∧ p j := ⟨i, rfl, q⟩
theorem w_pk {z : Str} {d : Dt} {p : L2.Key → Dt → Prop} (q : p (.inr z) d) : ∃ k d', keyOf (.d (.str z)) = some k ∧ Vl.d d = .d d' ∧ p k d' := ⟨_, d, rfl, rfl, q⟩
theorem w_pki {i : Int} {d : Dt} {p : L2.Key → Dt → Prop} (q : p (.inl i) d) : ∃ k d', keyOf (.d (.int i)) = some k ∧ Vl.d d = .d d' ∧ p k d' := ⟨_, d, rfl, rfl, q⟩
theorem w_l15 {n : Nat} {p : Prop} (h : n ≤ 15) (q : p) : n ≤ 15 ∧ p := ⟨h, q⟩
theorem w_yes {Q : Bool → Cells → Prop} (q : Q true m) : wR (mYes g m) Q E := wR_eq rfl q
theorem w_t1 {p : Prop} (q : p) : true = true ∧ p := ⟨rfl, q⟩
theorem w_v1 {v : Vl} : v = v ∧ m = m := ⟨rfl, rfl⟩
theorem w_sz {n : Nat} {p : Prop} (h : n ≤ 16777216) (q : p) : szOk n = true ∧ p := ⟨sz_le h, q⟩
theorem w_tt {A B : Prop} (a : A) : (true = true → A) ∧ (true = false → B) := ⟨fun _ => a, (fun h => nomatch h)⟩
theorem w_ff {A B : Prop} (b : B) : (false = true → A) ∧ (false = false → B) := ⟨(fun h => nomatch h), fun _ => b⟩
theorem w_dt {P A B : Prop} [Decidable P] (h : P) (a : A) : (decide P = true → A) ∧ (decide P = false → B) := ⟨fun _ => a, fun e => absurd h (of_decide_eq_false e)⟩
theorem w_df {P A B : Prop} [Decidable P] (h : ¬ P) (b : B) : (decide P = true → A) ∧ (decide P = false → B) := ⟨fun e => absurd (of_decide_eq_true e) h, fun _ => b⟩
theorem w_d {P A B : Prop} [Decidable P] (a : P → A) (b : ¬ P → B) : (decide P = true → A) ∧ (decide P = false → B) := ⟨fun e => a (of_decide_eq_true e), fun e => b (of_decide_eq_false e)⟩
theorem rng_len {lo : Int} {n : Nat} : (rangeD lo n).length = n := rangeD_len lo n
end
end FM

namespace K03
open PySem PySem.Spec PyProof.Rows L2 FM
noncomputable section
def topS (i : Nat) : Stmt := PySem.Challenge.pw_nestkeys_k03_bodies_alike.main.body.getD i (.Pass ⟨0, 0, 0, 0⟩)
abbrev FnP (K : PySem.W.Frag) (x q : Str) (st : Stmt) (f : Addr) (fd : FuncData) : Prop := FunD K x q (defArgs st) (defBody st) (defScope st) [] [] f fd
def cs : List (Str × List Str) := [("KeysError", []), ("NoName", ["name"]), ("Hold", ["key", "body"]), ("Either", ["one", "other"]), ("Rounds", ["body"]), ("Call", ["part"]), ("Mark", ["name"]), ("Stop", []), ("Body", ["row"]), ("Statement", [])]
abbrev TT (K : PySem.W.Frag) : Tab := mkT cs [] K
def ix_key : List (Nat × Nat) := [(2, 0)]
def ix_body : List (Nat × Nat) := [(2, 1), (4, 0)]
def ix_one : List (Nat × Nat) := [(3, 0)]
def ix_other : List (Nat × Nat) := [(3, 1)]
def ix_part : List (Nat × Nat) := [(5, 0)]
def ix_name : List (Nat × Nat) := [(6, 0)]
def ix_row : List (Nat × Nat) := [(8, 0)]
def isi_Statement : List (Kd × Bool) := [(.non, false), (.bl, false), (.int, false), (.str, false), (.lst, false), (.tup, false), (.ins 2, true), (.ins 3, true), (.ins 4, true), (.ins 5, true), (.ins 6, true), (.ins 7, true), (.ins 8, false), (.ins 9, true)]
def isi_Body : List (Kd × Bool) := [(.non, false), (.bl, false), (.int, false), (.str, false), (.lst, false), (.tup, false), (.ins 2, false), (.ins 3, false), (.ins 4, false), (.ins 5, false), (.ins 6, false), (.ins 7, false), (.ins 8, true), (.ins 9, false)]
structure Wd (K : PySem.W.Frag) (mg : Str → Option Value) : Prop where
  b_len : mg "len" = none
  b_all : mg "all" = none
  b_tuple : mg "tuple" = none
  b_isinstance : mg "isinstance" = none
  b_list : mg "list" = none
  b_zip : mg "zip" = none
  b_abs : mg "abs" = none
  b_int : mg "int" = none
  b_range : mg "range" = none
  b_str : mg "str" = none
  g_LONGEST : ∃ u, mg "LONGEST" = some u ∧ RelV (V.int 8) u
  g_LETTERS : ∃ u, mg "LETTERS" = some u ∧ RelV (V.str "abcdefghijklmnopqrstuvwxyz") u
  g_FIGURES : ∃ u, mg "FIGURES" = some u ∧ RelV (V.str "0123456789") u
  mg_KeysError : mg "KeysError" = some (.ref ((TT K).ca 0))
  mg_NoName : mg "NoName" = some (.ref ((TT K).ca 1))
  mg_Hold : mg "Hold" = some (.ref ((TT K).ca 2))
  mg_Either : mg "Either" = some (.ref ((TT K).ca 3))
  mg_Rounds : mg "Rounds" = some (.ref ((TT K).ca 4))
  mg_Call : mg "Call" = some (.ref ((TT K).ca 5))
  mg_Mark : mg "Mark" = some (.ref ((TT K).ca 6))
  mg_Stop : mg "Stop" = some (.ref ((TT K).ca 7))
  mg_Body : mg "Body" = some (.ref ((TT K).ca 8))
  mg_Statement : mg "Statement" = some (.ref ((TT K).ca 9))
  mk_Stop : NK.Mk0 K ((TT K).ca 7)
  fld_key : fldB (TT K) "key" ix_key = true
  fld_body : fldB (TT K) "body" ix_body = true
  fld_one : fldB (TT K) "one" ix_one = true
  fld_other : fldB (TT K) "other" ix_other = true
  fld_part : fldB (TT K) "part" ix_part = true
  fld_name : fldB (TT K) "name" ix_name = true
  fld_row : fldB (TT K) "row" ix_row = true
  isi_Statement : isiB (TT K) (.ref ((TT K).ca 9)) isi_Statement = true
  isi_Body : isiB (TT K) (.ref ((TT K).ca 8)) isi_Body = true
/-! ### NoName.__init__ -/
abbrev sINoName : Stmt := inClass (topS 3) 0
theorem scINoName : FnScope ["self", "name"] ["self", "name"] (defScope sINoName) := ⟨rfl, rfl, rfl, by decide +kernel, rfl, by decide +kernel, by decide +kernel⟩
theorem okINoName {P : Program} {w : World} {K : PySem.W.Frag} {mg : Str → Option Value} {base : Heap} {f : Addr} {fd : FuncData} (F : FnP K "__init__" "NoName.__init__" sINoName f fd) : FnOk P w K mg base CX0 1 f fd ["self", "name"] (NK.spInit K ["name"]) :=
  F.ok (k := 0) scINoName NK.init_len (fun cdv A outer st H vs Q E hr h => ⟨NK.tInit1 K "name", pss_one (ps_ost (pv 0) (pv 1)), NK.init1_go rfl h⟩)
/-! ### is_name -/
abbrev sIsName : Stmt := topS 8
theorem scIsName : FnScope ["text", "sign"] ["text"] (defScope sIsName) := ⟨rfl, rfl, rfl, by decide +kernel, rfl, by decide +kernel, by decide +kernel⟩
def mIsName : MS :=
  mSeq (mIfS (mOr (mNot (mTest (mChain (oIB fun i j => decide (i ≤ j)) (oIB fun i j => decide (i ≤ j)) (mC (.int 1)) (mCB nLenS (mCons (mVar 0) (mNil))) (mC (.int 8))))) (mTest (mOp (oInS true) (mOp oIxS (mVar 0) (mC (.int 0))) (mC (.str "abcdefghijklmnopqrstuvwxyz")))))
  (mRet (mC (.bl false))) (mNext))
  (mRet (mCB nAll (mCons (mLc (mIt (mVar 0) isStrI) (gNm 1) (mYes) (mOrV (mOp (oInS false) (mVar 1) (mC (.str "abcdefghijklmnopqrstuvwxyz"))) (mOp (oInS false) (mVar 1) (mC (.str "0123456789")))) [1]) (mNil))))
def FIsName : Fn := runFn 1 2 (mIsName)
set_option maxHeartbeats 4000000 in
theorem okIsName {P : Program} {w : World} {K : PySem.W.Frag} {mg : Str → Option Value} {base : Heap} {f : Addr} {fd : FuncData} {k : Nat} (W : Wd K mg) (F : FnP K "is_name" "is_name" sIsName f fd) : FnOk P w K mg base (L2.CX P w) (k + 1) f fd ["text"] (spFn (TT K) (FIsName)) := by
  refine F.ok (CX := L2.CX P w) scIsName spFn_len (fun cdv A outer st H vs Q E hr h => ⟨FS ⟨TT K, none, fun cls d _ H => E cls d H⟩ (mIsName), ?_, fn_enter (N := ["text", "sign"]) h⟩)
  unfold mIsName
  exact fss_cons (pss_cons (fs_if (ps_if (PW.pt (fw_or (pw_or (ft_not (pt_not (ft_chain (pt_chain op_le op_le (fe_int pe_int) (fe_cb (pe_callB NK.call_lenStr (by rfl) W.b_len (by decide +kernel) (fa_cons (pa_cons (fe_var (pv 0)) ((fa_nil pa_nil))))) sim_lenS) (fe_int (NK.pe_gv rfl W.g_LONGEST))) sim_ib sim_ib))) (pw_or1 (ft_cmp (pt_cmpR NK.op_notInSign (fe_op (pe_ix ix_str (fe_var (pv 0)) (fe_int pe_int) (fun _ _ => rfl)) sim_ixS) (fe_str (NK.pe_gv rfl W.g_LETTERS)) rfl) sim_notInS)))))
    (pss_one (fs_ret (ps_ret (fe_bl pe_bl)))) ((fss_nil pss_nil))))
    (pss_one (fs_ret (ps_ret (fe_cb (pe_callB (cr_all rfl) (by rfl) W.b_all (by decide +kernel) (fa_cons (pa_cons (fe_lc (pe_lc (own := [("sign", 1)]) rfl scIsName.nd (fi_str (pi_str (fe_var (pv 0)))) (blkOk_by (own := [("sign", 1)]) (N := ["text", "sign"]) (sc := defScope sIsName) (by decide +kernel)) (fun _ _ _ _ _ => pg_name (i := 1) scIsName.nd rfl (Or.inl rfl)) (fun _ _ _ _ _ => (ft_yes pts_nil)) (fun _ _ _ _ _ => fe_orV (pe_or (fe_op (pe_cmpR NK.op_inSign (fe_var (pv 1)) (fe_str (NK.pe_gv rfl W.g_LETTERS)) rfl) sim_inS) (pe_one (fe_op (pe_cmpR NK.op_inSign (fe_var (pv 1)) (fe_str (NK.pe_gv rfl W.g_FIGURES)) rfl) sim_inS))))) (sg_name rfl) fills_name (by decide) rfl) ((fa_nil pa_nil))))) sim_all)))))
/-! ### asked_names -/
abbrev sAsked : Stmt := topS 9
theorem scAsked : FnScope ["texts", "text"] ["texts"] (defScope sAsked) := ⟨rfl, rfl, rfl, by decide +kernel, rfl, by decide +kernel, by decide +kernel⟩
def mAsked : MS :=
  mFor (mIt (mVar 0) isLst) (gNm 1)
  (mIfS (mNot (mTest (mCall FIsName (mCons (mVar 1) (mNil)))))
  (mRaise 1 1 (mCons (mVar 1) (mNil))) (mNext))
def FAsked : Fn := runFn 1 2 (mAsked)
set_option maxHeartbeats 4000000 in
theorem okAsked {P : Program} {w : World} {K : PySem.W.Frag} {mg : Str → Option Value} {base : Heap} {f : Addr} {fd : FuncData} {k : Nat} (W : Wd K mg) (F : FnP K "asked_names" "asked_names" sAsked f fd) {l_IsName : Nat} (h_IsName : NK.CalX P w K mg base l_IsName "is_name" ["text"] (spFn (TT K) FIsName)) (hl_IsName : l_IsName ≤ k) (x_NoName : NK.ExC P w K mg base 1 "NoName" ((TT K).ca 1) ["self", "name"] ["name"]) (hx2 : 2 ≤ k) : FnOk P w K mg base (L2.CX P w) (k + 1) f fd ["texts"] (spFn (TT K) (FAsked)) := by
  refine F.ok (CX := L2.CX P w) scAsked spFn_len (fun cdv A outer st H vs Q E hr h => ⟨FS ⟨TT K, none, fun cls d _ H => E cls d H⟩ (mAsked), ?_, fn_enter (N := ["texts", "text"]) h⟩)
  unfold mAsked
  exact pss_one (fs_for (ps_for (passes_of rfl) rfl (fi_lst (pi_list (fe_var (pv 0)))) (fg_name (pg_name (i := 1) scAsked.nd rfl (Or.inl rfl)) rfl)
    (pss_one (fs_if (ps_if (ft_not (pt_not (ft_B (pt_val (fe_call (NK.pe_fnS h_IsName (hr.mono hl_IsName) (by rfl) (takes_of rfl rfl rfl rfl) (fa_cons (pa_cons (fe_var (pv 1)) ((fa_nil pa_nil))))))))))
    (pss_one (fs_raise (NK.ps_raiseW x_NoName (hr.mono hx2) (by rfl) rfl (takes_of rfl rfl rfl rfl) (fa_cons (pa_cons (fe_var (pv 1)) ((fa_nil pa_nil))))) x_NoName.T x_NoName.no rfl rfl (by decide))) ((fss_nil pss_nil)))))))
/-! ### Hold.__init__ -/
abbrev sHoldI : Stmt := inClass (topS 12) 0
theorem scHoldI : FnScope ["self", "key", "body"] ["self", "key", "body"] (defScope sHoldI) := ⟨rfl, rfl, rfl, by decide +kernel, rfl, by decide +kernel, by decide +kernel⟩
def mHoldI : MS :=
  mSeq (mDrop (mCall FAsked (mCons (mLst (mCons (mVar 1) (mNil))) (mNil))))
  (mSeq (mSetF (tabN ix_key) (mVar 0) (mVar 1))
  (mSetF (tabN ix_body) (mVar 0) (mVar 2)))
def FHoldI : Fn := runFn 3 3 (mHoldI)
set_option maxHeartbeats 4000000 in
theorem okHoldI {P : Program} {w : World} {K : PySem.W.Frag} {mg : Str → Option Value} {base : Heap} {f : Addr} {fd : FuncData} {k : Nat} (W : Wd K mg) (F : FnP K "__init__" "Hold.__init__" sHoldI f fd) {l_Asked : Nat} (h_Asked : NK.CalX P w K mg base l_Asked "asked_names" ["texts"] (spFn (TT K) FAsked)) (hl_Asked : l_Asked ≤ k) : FnOk P w K mg base (L2.CX P w) (k + 1) f fd ["self", "key", "body"] (spFn (TT K) (FHoldI)) := by
  refine F.ok (CX := L2.CX P w) scHoldI spFn_len (fun cdv A outer st H vs Q E hr h => ⟨FS ⟨TT K, none, fun cls d _ H => E cls d H⟩ (mHoldI), ?_, fn_enter (N := ["self", "key", "body"]) h⟩)
  unfold mHoldI
  exact fss_cons (pss_cons (fs_drop (ps_expr (fe_call (NK.pe_fnS h_Asked (hr.mono hl_Asked) (by rfl) (takes_of rfl rfl rfl rfl) (fa_cons (pa_cons (fe_lst (pe_lst (fa_cons (pa_cons (fe_var (pv 1)) ((fa_nil pa_nil)))))) ((fa_nil pa_nil))))))))
    (fss_cons (pss_cons (fs_fld (ps_fld (fe_var (pv 0)) (fe_var (pv 1)) rfl) (fldB_ok W.fld_key) (small_ok rfl))
    (pss_one (fs_fld (ps_fld (fe_var (pv 0)) (fe_var (pv 2)) rfl) (fldB_ok W.fld_body) (small_ok rfl))))))
/-! ### Either.__init__ -/
abbrev sEitherI : Stmt := inClass (topS 13) 0
theorem scEitherI : FnScope ["self", "one", "other"] ["self", "one", "other"] (defScope sEitherI) := ⟨rfl, rfl, rfl, by decide +kernel, rfl, by decide +kernel, by decide +kernel⟩
def mEitherI : MS :=
  mSeq (mSetF (tabN ix_one) (mVar 0) (mVar 1))
  (mSetF (tabN ix_other) (mVar 0) (mVar 2))
def FEitherI : Fn := runFn 3 3 (mEitherI)
set_option maxHeartbeats 4000000 in
theorem okEitherI {P : Program} {w : World} {K : PySem.W.Frag} {mg : Str → Option Value} {base : Heap} {f : Addr} {fd : FuncData} {k : Nat} (W : Wd K mg) (F : FnP K "__init__" "Either.__init__" sEitherI f fd) : FnOk P w K mg base (L2.CX P w) (k + 1) f fd ["self", "one", "other"] (spFn (TT K) (FEitherI)) := by
  refine F.ok (CX := L2.CX P w) scEitherI spFn_len (fun cdv A outer st H vs Q E hr h => ⟨FS ⟨TT K, none, fun cls d _ H => E cls d H⟩ (mEitherI), ?_, fn_enter (N := ["self", "one", "other"]) h⟩)
  unfold mEitherI
  exact fss_cons (pss_cons (fs_fld (ps_fld (fe_var (pv 0)) (fe_var (pv 1)) rfl) (fldB_ok W.fld_one) (small_ok rfl))
    (pss_one (fs_fld (ps_fld (fe_var (pv 0)) (fe_var (pv 2)) rfl) (fldB_ok W.fld_other) (small_ok rfl))))
/-! ### Rounds.__init__ -/
abbrev sRoundsI : Stmt := inClass (topS 14) 0
theorem scRoundsI : FnScope ["self", "body"] ["self", "body"] (defScope sRoundsI) := ⟨rfl, rfl, rfl, by decide +kernel, rfl, by decide +kernel, by decide +kernel⟩
def mRoundsI : MS :=
  mSetF (tabN ix_body) (mVar 0) (mVar 1)
def FRoundsI : Fn := runFn 2 2 (mRoundsI)
set_option maxHeartbeats 4000000 in
theorem okRoundsI {P : Program} {w : World} {K : PySem.W.Frag} {mg : Str → Option Value} {base : Heap} {f : Addr} {fd : FuncData} {k : Nat} (W : Wd K mg) (F : FnP K "__init__" "Rounds.__init__" sRoundsI f fd) : FnOk P w K mg base (L2.CX P w) (k + 1) f fd ["self", "body"] (spFn (TT K) (FRoundsI)) := by
  refine F.ok (CX := L2.CX P w) scRoundsI spFn_len (fun cdv A outer st H vs Q E hr h => ⟨FS ⟨TT K, none, fun cls d _ H => E cls d H⟩ (mRoundsI), ?_, fn_enter (N := ["self", "body"]) h⟩)
  unfold mRoundsI
  exact pss_one (fs_fld (ps_fld (fe_var (pv 0)) (fe_var (pv 1)) rfl) (fldB_ok W.fld_body) (small_ok rfl))
/-! ### Call.__init__ -/
abbrev sCallI : Stmt := inClass (topS 15) 0
theorem scCallI : FnScope ["self", "part"] ["self", "part"] (defScope sCallI) := ⟨rfl, rfl, rfl, by decide +kernel, rfl, by decide +kernel, by decide +kernel⟩
def mCallI : MS :=
  mSeq (mDrop (mCall FAsked (mCons (mLst (mCons (mVar 1) (mNil))) (mNil))))
  (mSetF (tabN ix_part) (mVar 0) (mVar 1))
def FCallI : Fn := runFn 2 2 (mCallI)
set_option maxHeartbeats 4000000 in
theorem okCallI {P : Program} {w : World} {K : PySem.W.Frag} {mg : Str → Option Value} {base : Heap} {f : Addr} {fd : FuncData} {k : Nat} (W : Wd K mg) (F : FnP K "__init__" "Call.__init__" sCallI f fd) {l_Asked : Nat} (h_Asked : NK.CalX P w K mg base l_Asked "asked_names" ["texts"] (spFn (TT K) FAsked)) (hl_Asked : l_Asked ≤ k) : FnOk P w K mg base (L2.CX P w) (k + 1) f fd ["self", "part"] (spFn (TT K) (FCallI)) := by
  refine F.ok (CX := L2.CX P w) scCallI spFn_len (fun cdv A outer st H vs Q E hr h => ⟨FS ⟨TT K, none, fun cls d _ H => E cls d H⟩ (mCallI), ?_, fn_enter (N := ["self", "part"]) h⟩)
  unfold mCallI
  exact fss_cons (pss_cons (fs_drop (ps_expr (fe_call (NK.pe_fnS h_Asked (hr.mono hl_Asked) (by rfl) (takes_of rfl rfl rfl rfl) (fa_cons (pa_cons (fe_lst (pe_lst (fa_cons (pa_cons (fe_var (pv 1)) ((fa_nil pa_nil)))))) ((fa_nil pa_nil))))))))
    (pss_one (fs_fld (ps_fld (fe_var (pv 0)) (fe_var (pv 1)) rfl) (fldB_ok W.fld_part) (small_ok rfl))))
/-! ### Mark.__init__ -/
abbrev sMarkI : Stmt := inClass (topS 16) 0
theorem scMarkI : FnScope ["self", "name"] ["self", "name"] (defScope sMarkI) := ⟨rfl, rfl, rfl, by decide +kernel, rfl, by decide +kernel, by decide +kernel⟩
def mMarkI : MS :=
  mSeq (mDrop (mCall FAsked (mCons (mLst (mCons (mVar 1) (mNil))) (mNil))))
  (mSetF (tabN ix_name) (mVar 0) (mVar 1))
def FMarkI : Fn := runFn 2 2 (mMarkI)
set_option maxHeartbeats 4000000 in
theorem okMarkI {P : Program} {w : World} {K : PySem.W.Frag} {mg : Str → Option Value} {base : Heap} {f : Addr} {fd : FuncData} {k : Nat} (W : Wd K mg) (F : FnP K "__init__" "Mark.__init__" sMarkI f fd) {l_Asked : Nat} (h_Asked : NK.CalX P w K mg base l_Asked "asked_names" ["texts"] (spFn (TT K) FAsked)) (hl_Asked : l_Asked ≤ k) : FnOk P w K mg base (L2.CX P w) (k + 1) f fd ["self", "name"] (spFn (TT K) (FMarkI)) := by
  refine F.ok (CX := L2.CX P w) scMarkI spFn_len (fun cdv A outer st H vs Q E hr h => ⟨FS ⟨TT K, none, fun cls d _ H => E cls d H⟩ (mMarkI), ?_, fn_enter (N := ["self", "name"]) h⟩)
  unfold mMarkI
  exact fss_cons (pss_cons (fs_drop (ps_expr (fe_call (NK.pe_fnS h_Asked (hr.mono hl_Asked) (by rfl) (takes_of rfl rfl rfl rfl) (fa_cons (pa_cons (fe_lst (pe_lst (fa_cons (pa_cons (fe_var (pv 1)) ((fa_nil pa_nil)))))) ((fa_nil pa_nil))))))))
    (pss_one (fs_fld (ps_fld (fe_var (pv 0)) (fe_var (pv 1)) rfl) (fldB_ok W.fld_name) (small_ok rfl))))
/-! ### Body.__init__ -/
abbrev sBodyI : Stmt := inClass (topS 18) 0
theorem scBodyI : FnScope ["self", "statements"] ["self", "statements"] (defScope sBodyI) := ⟨rfl, rfl, rfl, by decide +kernel, rfl, by decide +kernel, by decide +kernel⟩
def mBodyI : MS :=
  mSetF (tabN ix_row) (mVar 0) (mCB nTup (mCons (mVar 1) (mNil)))
def FBodyI : Fn := runFn 2 2 (mBodyI)
set_option maxHeartbeats 4000000 in
theorem okBodyI {P : Program} {w : World} {K : PySem.W.Frag} {mg : Str → Option Value} {base : Heap} {f : Addr} {fd : FuncData} {k : Nat} (W : Wd K mg) (F : FnP K "__init__" "Body.__init__" sBodyI f fd) : FnOk P w K mg base (L2.CX P w) (k + 1) f fd ["self", "statements"] (spFn (TT K) (FBodyI)) := by
  refine F.ok (CX := L2.CX P w) scBodyI spFn_len (fun cdv A outer st H vs Q E hr h => ⟨FS ⟨TT K, none, fun cls d _ H => E cls d H⟩ (mBodyI), ?_, fn_enter (N := ["self", "statements"]) h⟩)
  unfold mBodyI
  exact pss_one (fs_fld (ps_fld (fe_var (pv 0)) (fe_cb (pe_callTy NK.call_tupOf (by rfl) W.b_tuple (by decide +kernel) (fa_cons (pa_cons (fe_var (pv 1)) ((fa_nil pa_nil))))) sim_tup) rfl) (fldB_ok W.fld_row) (small_ok rfl))
/-! ### Hold.told -/
abbrev sHoldT : Stmt := inClass (topS 12) 1
theorem scHoldT : FnScope ["self"] ["self"] (defScope sHoldT) := ⟨rfl, rfl, rfl, by decide +kernel, rfl, by decide +kernel, by decide +kernel⟩
def mHoldT : MS :=
  mRet (mTup (mCons (mC (.str "hold")) (mCons (mUn (oFld (tabN ix_key)) (mVar 0)) (mCons (mUn (oFld (tabN ix_body)) (mVar 0)) (mNil)))))
def FHoldT : Fn := runFn 1 1 (mHoldT)
set_option maxHeartbeats 4000000 in
theorem okHoldT {P : Program} {w : World} {K : PySem.W.Frag} {mg : Str → Option Value} {base : Heap} {f : Addr} {fd : FuncData} {k : Nat} (W : Wd K mg) (F : FnP K "told" "Hold.told" sHoldT f fd) : FnOk P w K mg base (L2.CX P w) (k + 1) f fd ["self"] (spFn (TT K) (FHoldT)) := by
  refine F.ok (CX := L2.CX P w) scHoldT spFn_len (fun cdv A outer st H vs Q E hr h => ⟨FS ⟨TT K, none, fun cls d _ H => E cls d H⟩ (mHoldT), ?_, fn_enter (N := ["self"]) h⟩)
  unfold mHoldT
  exact pss_one (fs_ret (ps_ret (fe_tup (pe_tup (fa_cons (pa_cons (fe_str pe_str) (fa_cons (pa_cons (fe_fld (pe_fld (fe_var (pv 0)) rfl) (fldB_ok W.fld_key)) (fa_cons (pa_cons (fe_fld (pe_fld (fe_var (pv 0)) rfl) (fldB_ok W.fld_body)) ((fa_nil pa_nil))))))))))))
/-! ### Either.told -/
abbrev sEitherT : Stmt := inClass (topS 13) 1
theorem scEitherT : FnScope ["self"] ["self"] (defScope sEitherT) := ⟨rfl, rfl, rfl, by decide +kernel, rfl, by decide +kernel, by decide +kernel⟩
def mEitherT : MS :=
  mRet (mTup (mCons (mC (.str "either")) (mCons (mUn (oFld (tabN ix_one)) (mVar 0)) (mCons (mUn (oFld (tabN ix_other)) (mVar 0)) (mNil)))))
def FEitherT : Fn := runFn 1 1 (mEitherT)
set_option maxHeartbeats 4000000 in
theorem okEitherT {P : Program} {w : World} {K : PySem.W.Frag} {mg : Str → Option Value} {base : Heap} {f : Addr} {fd : FuncData} {k : Nat} (W : Wd K mg) (F : FnP K "told" "Either.told" sEitherT f fd) : FnOk P w K mg base (L2.CX P w) (k + 1) f fd ["self"] (spFn (TT K) (FEitherT)) := by
  refine F.ok (CX := L2.CX P w) scEitherT spFn_len (fun cdv A outer st H vs Q E hr h => ⟨FS ⟨TT K, none, fun cls d _ H => E cls d H⟩ (mEitherT), ?_, fn_enter (N := ["self"]) h⟩)
  unfold mEitherT
  exact pss_one (fs_ret (ps_ret (fe_tup (pe_tup (fa_cons (pa_cons (fe_str pe_str) (fa_cons (pa_cons (fe_fld (pe_fld (fe_var (pv 0)) rfl) (fldB_ok W.fld_one)) (fa_cons (pa_cons (fe_fld (pe_fld (fe_var (pv 0)) rfl) (fldB_ok W.fld_other)) ((fa_nil pa_nil))))))))))))
/-! ### Rounds.told -/
abbrev sRoundsT : Stmt := inClass (topS 14) 1
theorem scRoundsT : FnScope ["self"] ["self"] (defScope sRoundsT) := ⟨rfl, rfl, rfl, by decide +kernel, rfl, by decide +kernel, by decide +kernel⟩
def mRoundsT : MS :=
  mRet (mTup (mCons (mC (.str "rounds")) (mCons (mUn (oFld (tabN ix_body)) (mVar 0)) (mNil))))
def FRoundsT : Fn := runFn 1 1 (mRoundsT)
set_option maxHeartbeats 4000000 in
theorem okRoundsT {P : Program} {w : World} {K : PySem.W.Frag} {mg : Str → Option Value} {base : Heap} {f : Addr} {fd : FuncData} {k : Nat} (W : Wd K mg) (F : FnP K "told" "Rounds.told" sRoundsT f fd) : FnOk P w K mg base (L2.CX P w) (k + 1) f fd ["self"] (spFn (TT K) (FRoundsT)) := by
  refine F.ok (CX := L2.CX P w) scRoundsT spFn_len (fun cdv A outer st H vs Q E hr h => ⟨FS ⟨TT K, none, fun cls d _ H => E cls d H⟩ (mRoundsT), ?_, fn_enter (N := ["self"]) h⟩)
  unfold mRoundsT
  exact pss_one (fs_ret (ps_ret (fe_tup (pe_tup (fa_cons (pa_cons (fe_str pe_str) (fa_cons (pa_cons (fe_fld (pe_fld (fe_var (pv 0)) rfl) (fldB_ok W.fld_body)) ((fa_nil pa_nil))))))))))
/-! ### Call.told -/
abbrev sCallT : Stmt := inClass (topS 15) 1
theorem scCallT : FnScope ["self"] ["self"] (defScope sCallT) := ⟨rfl, rfl, rfl, by decide +kernel, rfl, by decide +kernel, by decide +kernel⟩
def mCallT : MS :=
  mRet (mTup (mCons (mC (.str "call")) (mCons (mUn (oFld (tabN ix_part)) (mVar 0)) (mNil))))
def FCallT : Fn := runFn 1 1 (mCallT)
set_option maxHeartbeats 4000000 in
theorem okCallT {P : Program} {w : World} {K : PySem.W.Frag} {mg : Str → Option Value} {base : Heap} {f : Addr} {fd : FuncData} {k : Nat} (W : Wd K mg) (F : FnP K "told" "Call.told" sCallT f fd) : FnOk P w K mg base (L2.CX P w) (k + 1) f fd ["self"] (spFn (TT K) (FCallT)) := by
  refine F.ok (CX := L2.CX P w) scCallT spFn_len (fun cdv A outer st H vs Q E hr h => ⟨FS ⟨TT K, none, fun cls d _ H => E cls d H⟩ (mCallT), ?_, fn_enter (N := ["self"]) h⟩)
  unfold mCallT
  exact pss_one (fs_ret (ps_ret (fe_tup (pe_tup (fa_cons (pa_cons (fe_str pe_str) (fa_cons (pa_cons (fe_fld (pe_fld (fe_var (pv 0)) rfl) (fldB_ok W.fld_part)) ((fa_nil pa_nil))))))))))
/-! ### Mark.told -/
abbrev sMarkT : Stmt := inClass (topS 16) 1
theorem scMarkT : FnScope ["self"] ["self"] (defScope sMarkT) := ⟨rfl, rfl, rfl, by decide +kernel, rfl, by decide +kernel, by decide +kernel⟩
def mMarkT : MS :=
  mRet (mTup (mCons (mC (.str "mark")) (mCons (mUn (oFld (tabN ix_name)) (mVar 0)) (mNil))))
def FMarkT : Fn := runFn 1 1 (mMarkT)
set_option maxHeartbeats 4000000 in
theorem okMarkT {P : Program} {w : World} {K : PySem.W.Frag} {mg : Str → Option Value} {base : Heap} {f : Addr} {fd : FuncData} {k : Nat} (W : Wd K mg) (F : FnP K "told" "Mark.told" sMarkT f fd) : FnOk P w K mg base (L2.CX P w) (k + 1) f fd ["self"] (spFn (TT K) (FMarkT)) := by
  refine F.ok (CX := L2.CX P w) scMarkT spFn_len (fun cdv A outer st H vs Q E hr h => ⟨FS ⟨TT K, none, fun cls d _ H => E cls d H⟩ (mMarkT), ?_, fn_enter (N := ["self"]) h⟩)
  unfold mMarkT
  exact pss_one (fs_ret (ps_ret (fe_tup (pe_tup (fa_cons (pa_cons (fe_str pe_str) (fa_cons (pa_cons (fe_fld (pe_fld (fe_var (pv 0)) rfl) (fldB_ok W.fld_name)) ((fa_nil pa_nil))))))))))
/-! ### Stop.told -/
abbrev sStopT : Stmt := inClass (topS 17) 0
theorem scStopT : FnScope ["self"] ["self"] (defScope sStopT) := ⟨rfl, rfl, rfl, by decide +kernel, rfl, by decide +kernel, by decide +kernel⟩
def mStopT : MS :=
  mRet (mTup (mCons (mC (.str "stop")) (mNil)))
def FStopT : Fn := runFn 1 1 (mStopT)
set_option maxHeartbeats 4000000 in
theorem okStopT {P : Program} {w : World} {K : PySem.W.Frag} {mg : Str → Option Value} {base : Heap} {f : Addr} {fd : FuncData} {k : Nat} (W : Wd K mg) (F : FnP K "told" "Stop.told" sStopT f fd) : FnOk P w K mg base (L2.CX P w) (k + 1) f fd ["self"] (spFn (TT K) (FStopT)) := by
  refine F.ok (CX := L2.CX P w) scStopT spFn_len (fun cdv A outer st H vs Q E hr h => ⟨FS ⟨TT K, none, fun cls d _ H => E cls d H⟩ (mStopT), ?_, fn_enter (N := ["self"]) h⟩)
  unfold mStopT
  exact pss_one (fs_ret (ps_ret (fe_tup (pe_tup (fa_cons (pa_cons (fe_str pe_str) ((fa_nil pa_nil))))))))
def mt_told : Nat → Option Fn := fun c => match c with
  | 2 => some FHoldT | 3 => some FEitherT | 4 => some FRoundsT | 5 => some FCallT | 6 => some FMarkT | 7 => some FStopT
  | _ => none
/-! ### Statement.__eq__ -/
abbrev sStEq : Stmt := inClass (topS 11) 3
theorem scStEq : FnScope ["self", "other"] ["self", "other"] (defScope sStEq) := ⟨rfl, rfl, rfl, by decide +kernel, rfl, by decide +kernel, by decide +kernel⟩
def mStEq (r_IsSame : Fn) : MS :=
  mRet (mAndV (mUn (oIsi (isiQ isi_Statement)) (mVar 1)) (mCall r_IsSame (mCons (mVar 0) (mCons (mVar 1) (mNil)))))
def FStEq (r_IsSame : Fn) : Fn := runFn 2 2 (mStEq r_IsSame)
set_option maxHeartbeats 4000000 in
theorem okStEq {P : Program} {w : World} {K : PySem.W.Frag} {mg : Str → Option Value} {base : Heap} {f : Addr} {fd : FuncData} {k : Nat} {r_IsSame : Fn} (W : Wd K mg) (F : FnP K "__eq__" "Statement.__eq__" sStEq f fd) {l_IsSame : Nat} (h_IsSame : NK.CalX P w K mg base l_IsSame "is_same" ["one", "other"] (spFn (TT K) r_IsSame)) (hl_IsSame : l_IsSame ≤ k) : FnOk P w K mg base (L2.CX P w) (k + 1) f fd ["self", "other"] (spFn (TT K) (FStEq r_IsSame)) := by
  refine F.ok (CX := L2.CX P w) scStEq spFn_len (fun cdv A outer st H vs Q E hr h => ⟨FS ⟨TT K, none, fun cls d _ H => E cls d H⟩ (mStEq r_IsSame), ?_, fn_enter (N := ["self", "other"]) h⟩)
  unfold mStEq
  exact pss_one (fs_ret (ps_ret (fe_andV (pe_and (fe_isi (pe_callB call_isi (by rfl) W.b_isinstance (by decide +kernel) (pa_cons (fe_var (pv 1)) (pa_cons (NK.pe_gv (v := .ref ((TT K).ca 9)) rfl ⟨_, W.mg_Statement, rfl⟩) pa_nil))) (.own _) (isiB_ok W.isi_Statement)) (pe_one (fe_call (NK.pe_fnS h_IsSame (hr.mono hl_IsSame) (by rfl) (takes_of rfl rfl rfl rfl) (fa_cons (pa_cons (fe_var (pv 0)) (fa_cons (pa_cons (fe_var (pv 1)) ((fa_nil pa_nil)))))))))))))
/-! ### Body.__eq__ -/
abbrev sBoEq : Stmt := inClass (topS 18) 4
theorem scBoEq : FnScope ["self", "other"] ["self", "other"] (defScope sBoEq) := ⟨rfl, rfl, rfl, by decide +kernel, rfl, by decide +kernel, by decide +kernel⟩
def mBoEq (r_IsSame : Fn) : MS :=
  mRet (mAndV (mUn (oIsi (isiQ isi_Body)) (mVar 1)) (mCall r_IsSame (mCons (mVar 0) (mCons (mVar 1) (mNil)))))
def FBoEq (r_IsSame : Fn) : Fn := runFn 2 2 (mBoEq r_IsSame)
set_option maxHeartbeats 4000000 in
theorem okBoEq {P : Program} {w : World} {K : PySem.W.Frag} {mg : Str → Option Value} {base : Heap} {f : Addr} {fd : FuncData} {k : Nat} {r_IsSame : Fn} (W : Wd K mg) (F : FnP K "__eq__" "Body.__eq__" sBoEq f fd) {l_IsSame : Nat} (h_IsSame : NK.CalX P w K mg base l_IsSame "is_same" ["one", "other"] (spFn (TT K) r_IsSame)) (hl_IsSame : l_IsSame ≤ k) : FnOk P w K mg base (L2.CX P w) (k + 1) f fd ["self", "other"] (spFn (TT K) (FBoEq r_IsSame)) := by
  refine F.ok (CX := L2.CX P w) scBoEq spFn_len (fun cdv A outer st H vs Q E hr h => ⟨FS ⟨TT K, none, fun cls d _ H => E cls d H⟩ (mBoEq r_IsSame), ?_, fn_enter (N := ["self", "other"]) h⟩)
  unfold mBoEq
  exact pss_one (fs_ret (ps_ret (fe_andV (pe_and (fe_isi (pe_callB call_isi (by rfl) W.b_isinstance (by decide +kernel) (pa_cons (fe_var (pv 1)) (pa_cons (NK.pe_gv (v := .ref ((TT K).ca 8)) rfl ⟨_, W.mg_Body, rfl⟩) pa_nil))) (.own _) (isiB_ok W.isi_Body)) (pe_one (fe_call (NK.pe_fnS h_IsSame (hr.mono hl_IsSame) (by rfl) (takes_of rfl rfl rfl rfl) (fa_cons (pa_cons (fe_var (pv 0)) (fa_cons (pa_cons (fe_var (pv 1)) ((fa_nil pa_nil)))))))))))))
/-! ### == -/
def nfC : List Nat := [2, 3, 4, 5, 6, 7, 8]
def nfK : List Kd := [.non, .bl, .int, .str, .lst, .tup, .ins 2, .ins 3, .ins 4, .ins 5, .ins 6, .ins 7, .ins 8]
def mkE (st bo : Fn) : Eqs := ⟨10, nfT nfC nfK, fun c => match c with
  | 2 => some st | 3 => some st | 4 => some st | 5 => some st | 6 => some st | 7 => some st | 8 => some bo
  | _ => none⟩
def E_A : Eqs := mkE (FStEq fnNo) (FBoEq fnNo)
/-! ### is_same -/
abbrev sIsSame : Stmt := topS 20
theorem scIsSame : FnScope ["one", "other", "open_pairs", "mine", "its", "some", "more"] ["one", "other"] (defScope sIsSame) := ⟨rfl, rfl, rfl, by decide +kernel, rfl, by decide +kernel, by decide +kernel⟩
def mIsSame : MS :=
  mSeq (mAsg (mLstC (mCons (mTup (mCons (mVar 0) (mCons (mVar 1) (mNil)))) (mNil))) (gNm 2))
  (mSeq (mWhile fuel (mTest (mOp (oNil true) (mVar 2) (mLst (mNil))))
  (mSeq (mAsg (mM fPop (mVar 2) mNil) (gTp 2 (gsCons (gNm 3) (gsCons (gNm 4) (gsNil)))))
  (mSeq (mIfS (mAnd (mTest (mUn (oIsi (isiQ isi_Body)) (mVar 3))) (mTest (mUn (oIsi (isiQ isi_Body)) (mVar 4))))
  (mPar 5 6 (mCons (mUn (oFld (tabN ix_row)) (mVar 3)) (mCons (mUn (oFld (tabN ix_row)) (mVar 4)) (mNil)))) (mIfS (mAnd (mTest (mUn (oIsi (isiQ isi_Statement)) (mVar 3))) (mTest (mUn (oIsi (isiQ isi_Statement)) (mVar 4))))
  (mPar 5 6 (mCons (mMeth mt_told (mVar 3) mNil) (mCons (mMeth mt_told (mVar 4) mNil) (mNil)))) (mIfS (mTest (mOp (oQ false (qT E_A 0 false)) (mVar 3) (mVar 4)))
  (mAsg (mTup (mCons (mTup (mNil)) (mCons (mTup (mNil)) (mNil)))) (gTp 2 (gsCons (gNm 5) (gsCons (gNm 6) (gsNil))))) (mRet (mC (.bl false))))))
  (mSeq (mIfS (mTest (mOp oNe (mCB nLen (mCons (mVar 5) (mNil))) (mCB nLen (mCons (mVar 6) (mNil)))))
  (mRet (mC (.bl false))) (mNext))
  (mDrop (mM fExtend (mVar 2) (mCons (mListZip (mCons (mVar 5) (mCons (mVar 6) (mNil)))) (mNil))))))))
  (mRet (mC (.bl true))))
def FIsSame : Fn := runFn 2 7 (mIsSame)
set_option maxHeartbeats 4000000 in
theorem okIsSame {P : Program} {w : World} {K : PySem.W.Frag} {mg : Str → Option Value} {base : Heap} {f : Addr} {fd : FuncData} {k : Nat} (W : Wd K mg) (F : FnP K "is_same" "is_same" sIsSame f fd) {lm_told : Nat} (hm_told : NK.MOk P w K mg base (L2.CX P w) lm_told "told" (mRel (TT K) mt_told)) (hlm_told : lm_told ≤ k) (h1k : 1 ≤ k) {l_eA : Nat} (e_A : EqOk P w K mg base (TT K) E_A l_eA) (hl_eA : l_eA + 1 ≤ k) : FnOk P w K mg base (L2.CX P w) (k + 1) f fd ["one", "other"] (spFn (TT K) (FIsSame)) := by
  refine F.ok (CX := L2.CX P w) scIsSame spFn_len (fun cdv A outer st H vs Q E hr h => ⟨FS ⟨TT K, none, fun cls d _ H => E cls d H⟩ (mIsSame), ?_, fn_enter (N := ["one", "other", "open_pairs", "mine", "its", "some", "more"]) h⟩)
  unfold mIsSame
  exact fss_cons (pss_cons (fs_set (ps_set (i := 2) scIsSame.nd rfl (Or.inl rfl) (fe_lstC (pe_lst (fa_cons (pa_cons (fe_tup (pe_tup (fa_cons (pa_cons (fe_var (pv 0)) (fa_cons (pa_cons (fe_var (pv 1)) ((fa_nil pa_nil)))))))) ((fa_nil pa_nil))))))) rfl)
    (fss_cons (pss_cons (fs_while fuel (ps_while (passes_of rfl) (ft_cmp (pt_cmpR (NK.op_nil (neg := true) (n := 0) (hr.mono h1k)) (fe_var (pv 2)) (fe_lst (pe_lst ((fa_nil pa_nil)))) (nomark _)) sim_nil)
    (fss_cons (pss_cons (fs_asg (ps_asg (fe_m0 (pe_bm0 PySem.F.plainAttrs_list PySem.F.slot_list_pop PySem.F.type_list_pop mt_pop (fe_var (pv 2))) sim_pop) (fg_tup (pg_tup rfl (fgs_cons (pgs_cons (fg_name (pg_name (i := 3) scIsSame.nd rfl (Or.inl rfl)) rfl) (fgs_cons (pgs_cons (fg_name (pg_name (i := 4) scIsSame.nd rfl (Or.inl rfl)) rfl) (fgs_nil pgs_nil)))))))))
    (fss_cons (pss_cons (fs_if (ps_if (PW.pt (fw_and (pw_and (ft_B (pt_val (fe_isi (pe_callB call_isi (by rfl) W.b_isinstance (by decide +kernel) (pa_cons (fe_var (pv 3)) (pa_cons (NK.pe_gv (v := .ref ((TT K).ca 8)) rfl ⟨_, W.mg_Body, rfl⟩) pa_nil))) (.own _) (isiB_ok W.isi_Body)))) (pw_and1 (ft_B (pt_val (fe_isi (pe_callB call_isi (by rfl) W.b_isinstance (by decide +kernel) (pa_cons (fe_var (pv 4)) (pa_cons (NK.pe_gv (v := .ref ((TT K).ca 8)) rfl ⟨_, W.mg_Body, rfl⟩) pa_nil))) (.own _) (isiB_ok W.isi_Body))))))))
    (pss_one (fs_par (ps_par rfl scIsSame.nd rfl rfl (by decide) rfl rfl (fa_cons (pa_cons (fe_fld (pe_fld (fe_var (pv 3)) rfl) (fldB_ok W.fld_row)) (fa_cons (pa_cons (fe_fld (pe_fld (fe_var (pv 4)) rfl) (fldB_ok W.fld_row)) ((fa_nil pa_nil)))))) rfl) rfl rfl)) (pss_one (fs_if (ps_if (PW.pt (fw_and (pw_and (ft_B (pt_val (fe_isi (pe_callB call_isi (by rfl) W.b_isinstance (by decide +kernel) (pa_cons (fe_var (pv 3)) (pa_cons (NK.pe_gv (v := .ref ((TT K).ca 9)) rfl ⟨_, W.mg_Statement, rfl⟩) pa_nil))) (.own _) (isiB_ok W.isi_Statement)))) (pw_and1 (ft_B (pt_val (fe_isi (pe_callB call_isi (by rfl) W.b_isinstance (by decide +kernel) (pa_cons (fe_var (pv 4)) (pa_cons (NK.pe_gv (v := .ref ((TT K).ca 9)) rfl ⟨_, W.mg_Statement, rfl⟩) pa_nil))) (.own _) (isiB_ok W.isi_Statement))))))))
    (pss_one (fs_par (ps_par rfl scIsSame.nd rfl rfl (by decide) rfl rfl (fa_cons (pa_cons (fe_meth0 (NK.pe_methT0 (fe_var (pv 3)) hm_told (hr.mono hlm_told) (fun σ => passAt (takes_of rfl rfl rfl rfl) σ)) (fun c _ _ => no_ok rfl c)) (fa_cons (pa_cons (fe_meth0 (NK.pe_methT0 (fe_var (pv 4)) hm_told (hr.mono hlm_told) (fun σ => passAt (takes_of rfl rfl rfl rfl) σ)) (fun c _ _ => no_ok rfl c)) ((fa_nil pa_nil)))))) rfl) rfl rfl)) (pss_one (fs_if (ps_if (ft_cmp (pt_cmpR (op_QE (n := 0) (neg := false) e_A (hr.mono hl_eA) rfl) (fe_var (pv 3)) (fe_var (pv 4)) (nomark _)) sim_QE)
    (pss_one (fs_asg (ps_asg (fe_tup (pe_tup (fa_cons (pa_cons (fe_tup (pe_tup ((fa_nil pa_nil)))) (fa_cons (pa_cons (fe_tup (pe_tup ((fa_nil pa_nil)))) ((fa_nil pa_nil)))))))) (fg_tup (pg_tup rfl (fgs_cons (pgs_cons (fg_name (pg_name (i := 5) scIsSame.nd rfl (Or.inl rfl)) rfl) (fgs_cons (pgs_cons (fg_name (pg_name (i := 6) scIsSame.nd rfl (Or.inl rfl)) rfl) (fgs_nil pgs_nil)))))))))) (pss_one (fs_ret (ps_ret (fe_bl pe_bl))))))))))))
    (fss_cons (pss_cons (fs_if (ps_if (ft_cmp (pt_cmpR op_ne (fe_cb (pe_callB NK.call_lenSeq (by rfl) W.b_len (by decide +kernel) (fa_cons (pa_cons (fe_var (pv 5)) ((fa_nil pa_nil))))) sim_len) (fe_cb (pe_callB NK.call_lenSeq (by rfl) W.b_len (by decide +kernel) (fa_cons (pa_cons (fe_var (pv 6)) ((fa_nil pa_nil))))) sim_len) (nomark _)) sim_ne)
    (pss_one (fs_ret (ps_ret (fe_bl pe_bl)))) ((fss_nil pss_nil))))
    (pss_one (fs_drop (ps_expr (fe_m (pe_bm PySem.F.plainAttrs_list PySem.F.slot_list_extend PySem.F.type_list_extend mt_extend (fe_var (pv 2)) (fa_cons (pa_cons (fe_listZip (NK.pe_listZip rfl (fa_cons (pa_cons (fe_var (pv 5)) (fa_cons (pa_cons (fe_var (pv 6)) ((fa_nil pa_nil)))))) (by rfl) W.b_list (by rfl) W.b_zip)) ((fa_nil pa_nil))))) sim_extend))))))))))))
    (pss_one (fs_ret (ps_ret (fe_bl pe_bl)))))))
def E_Z : Eqs := mkE (FStEq FIsSame) (FBoEq FIsSame)
/-! ### _law_state -/
abbrev sState : Stmt := topS 22
theorem scState : FnScope ["_law_cell"] ["_law_cell"] (defScope sState) := ⟨rfl, rfl, rfl, by decide +kernel, rfl, by decide +kernel, by decide +kernel⟩
def mState : MS :=
  mSeq (mAsg (mCB nAbs (mCons (mVar 0) (mNil))) (gNm 0))
  (mRet (mLstC (mCons (mOp oMul (mVar 0) (mCB nInt (mCons (mOp (oIB fun i j => decide (j ≤ i)) (mVar 0) (mOp oPow (mC (.int 10)) (mC (.int 18)))) (mNil)))) (mCons (mOp oAdd (mOp oMod (mCB nInt (mCons (mVar 0) (mNil))) (mC (.int 2147483629))) (mC (.int 7))) (mCons (mOp oMod (mCB nInt (mCons (mVar 0) (mNil))) (mC (.int 2147483587))) (mNil))))))
def FState : Fn := runFn 1 1 (mState)
set_option maxHeartbeats 4000000 in
theorem okState {P : Program} {w : World} {K : PySem.W.Frag} {mg : Str → Option Value} {base : Heap} {f : Addr} {fd : FuncData} {k : Nat} (W : Wd K mg) (F : FnP K "_law_state" "_law_state" sState f fd) : FnOk P w K mg base (L2.CX P w) (k + 1) f fd ["_law_cell"] (spFn (TT K) (FState)) := by
  refine F.ok (CX := L2.CX P w) scState spFn_len (fun cdv A outer st H vs Q E hr h => ⟨FS ⟨TT K, none, fun cls d _ H => E cls d H⟩ (mState), ?_, fn_enter (N := ["_law_cell"]) h⟩)
  unfold mState
  exact fss_cons (pss_cons (fs_set (ps_set (i := 0) scState.nd rfl (Or.inl rfl) (fe_cb (pe_callB NK.call_absI (by rfl) W.b_abs (by decide +kernel) (fa_cons (pa_cons (fe_var (pv 0)) ((fa_nil pa_nil))))) sim_abs)) rfl)
    (pss_one (fs_ret (ps_ret (fe_lstC (pe_lst (fa_cons (pa_cons (fe_op (pe_op op_mul (fe_var (pv 0)) (fe_cb (pe_callTy NK.call_intI (by rfl) W.b_int (by decide +kernel) (fa_cons (pa_cons (fe_op (pe_cmpR op_ge (fe_var (pv 0)) (fe_op (pe_op op_pow (fe_int pe_int) (fe_int pe_int)) sim_pow) (nomark _)) sim_ib) ((fa_nil pa_nil))))) sim_int)) sim_mul) (fa_cons (pa_cons (fe_op (pe_op op_add (fe_op (pe_op op_mod (fe_cb (pe_callTy NK.call_intI (by rfl) W.b_int (by decide +kernel) (fa_cons (pa_cons (fe_var (pv 0)) ((fa_nil pa_nil))))) sim_int) (fe_int pe_int)) sim_mod) (fe_int pe_int)) sim_ii) (fa_cons (pa_cons (fe_op (pe_op op_mod (fe_cb (pe_callTy NK.call_intI (by rfl) W.b_int (by decide +kernel) (fa_cons (pa_cons (fe_var (pv 0)) ((fa_nil pa_nil))))) sim_int) (fe_int pe_int)) sim_mod) ((fa_nil pa_nil))))))))))))))
/-! ### _law_digit -/
abbrev sDigit : Stmt := topS 23
theorem scDigit : FnScope ["_law_state_here", "_law_base", "_law_found", "_law_more"] ["_law_state_here", "_law_base"] (defScope sDigit) := ⟨rfl, rfl, rfl, by decide +kernel, rfl, by decide +kernel, by decide +kernel⟩
def mDigit : MS :=
  mSeq (mIfS (mTest (mOp (oIB fun i j => decide (j < i)) (mOp oIxL (mVar 0) (mC (.int 0))) (mC (.int 0))))
  (mSeq (mAsg (mOp oMod (mCB nInt (mCons (mOp oIxL (mVar 0) (mC (.int 0))) (mNil))) (mVar 1)) (gNm 2))
  (mSeq (mAsg (mOp oDiv (mOp oIxL (mVar 0) (mC (.int 0))) (mVar 1)) (mSetL (mVar 0) (mC (.int 0))))
  (mRet (mVar 2)))) (mNext))
  (mSeq (mAsg (mOp oMul (mOp oIxL (mVar 0) (mC (.int 1))) (mOp oAdd (mOp oDiv (mOp oIxL (mVar 0) (mC (.int 1))) (mC (.int 1009))) (mC (.int 69621)))) (gNm 3))
  (mSeq (mAsg (mOp oAdd (mOp oMod (mCB nInt (mCons (mOp oAdd (mVar 3) (mOp oIxL (mVar 0) (mC (.int 2)))) (mNil))) (mC (.int 2147483629))) (mC (.int 7))) (mSetL (mVar 0) (mC (.int 1))))
  (mRet (mOp oMod (mCB nInt (mCons (mOp oDiv (mOp oIxL (mVar 0) (mC (.int 1))) (mC (.int 97))) (mNil))) (mVar 1)))))
def FDigit : Fn := runFn 2 4 (mDigit)
set_option maxHeartbeats 4000000 in
theorem okDigit {P : Program} {w : World} {K : PySem.W.Frag} {mg : Str → Option Value} {base : Heap} {f : Addr} {fd : FuncData} {k : Nat} (W : Wd K mg) (F : FnP K "_law_digit" "_law_digit" sDigit f fd) : FnOk P w K mg base (L2.CX P w) (k + 1) f fd ["_law_state_here", "_law_base"] (spFn (TT K) (FDigit)) := by
  refine F.ok (CX := L2.CX P w) scDigit spFn_len (fun cdv A outer st H vs Q E hr h => ⟨FS ⟨TT K, none, fun cls d _ H => E cls d H⟩ (mDigit), ?_, fn_enter (N := ["_law_state_here", "_law_base", "_law_found", "_law_more"]) h⟩)
  unfold mDigit
  exact fss_cons (pss_cons (fs_if (ps_if (ft_cmp (pt_cmpR op_gt (fe_op (pe_ix ix_list (fe_var (pv 0)) (fe_int pe_int) (fun _ _ => rfl)) sim_ixL) (fe_int pe_int) (nomark _)) sim_ib)
    (fss_cons (pss_cons (fs_set (ps_set (i := 2) scDigit.nd rfl (Or.inl rfl) (fe_op (pe_op op_mod (fe_cb (pe_callTy NK.call_intI (by rfl) W.b_int (by decide +kernel) (fa_cons (pa_cons (fe_op (pe_ix ix_list (fe_var (pv 0)) (fe_int pe_int) (fun _ _ => rfl)) sim_ixL) ((fa_nil pa_nil))))) sim_int) (fe_var (pv 1))) sim_mod)) rfl)
    (fss_cons (pss_cons (fs_asg (ps_asg (fe_op (pe_op op_fdiv (fe_op (pe_ix ix_list (fe_var (pv 0)) (fe_int pe_int) (fun _ _ => rfl)) sim_ixL) (fe_var (pv 1))) sim_div) (fg_setL (pg_sub (fe_var (pv 0)) (fe_int pe_int) set_list))))
    (pss_one (fs_ret (ps_ret (fe_var (pv 2))))))))) ((fss_nil pss_nil))))
    (fss_cons (pss_cons (fs_set (ps_set (i := 3) scDigit.nd rfl (Or.inl rfl) (fe_op (pe_op op_mul (fe_op (pe_ix ix_list (fe_var (pv 0)) (fe_int pe_int) (fun _ _ => rfl)) sim_ixL) (fe_op (pe_op op_add (fe_op (pe_op op_fdiv (fe_op (pe_ix ix_list (fe_var (pv 0)) (fe_int pe_int) (fun _ _ => rfl)) sim_ixL) (fe_int pe_int)) sim_div) (fe_int pe_int)) sim_ii)) sim_mul)) rfl)
    (fss_cons (pss_cons (fs_asg (ps_asg (fe_op (pe_op op_add (fe_op (pe_op op_mod (fe_cb (pe_callTy NK.call_intI (by rfl) W.b_int (by decide +kernel) (fa_cons (pa_cons (fe_op (pe_op op_add (fe_var (pv 3)) (fe_op (pe_ix ix_list (fe_var (pv 0)) (fe_int pe_int) (fun _ _ => rfl)) sim_ixL)) sim_ii) ((fa_nil pa_nil))))) sim_int) (fe_int pe_int)) sim_mod) (fe_int pe_int)) sim_ii) (fg_setL (pg_sub (fe_var (pv 0)) (fe_int pe_int) set_list))))
    (pss_one (fs_ret (ps_ret (fe_op (pe_op op_mod (fe_cb (pe_callTy NK.call_intI (by rfl) W.b_int (by decide +kernel) (fa_cons (pa_cons (fe_op (pe_op op_fdiv (fe_op (pe_ix ix_list (fe_var (pv 0)) (fe_int pe_int) (fun _ _ => rfl)) sim_ixL) (fe_int pe_int)) sim_div) ((fa_nil pa_nil))))) sim_int) (fe_var (pv 1))) sim_mod)))))))))
/-! ### _law_name -/
abbrev sName : Stmt := topS 24
theorem scName : FnScope ["_law_s", "_law_taken", "_law_some", "_law_kind", "_law_stem", "_law_k", "_law_words", "_law_found", "_law_n"] ["_law_s", "_law_taken"] (defScope sName) := ⟨rfl, rfl, rfl, by decide +kernel, rfl, by decide +kernel, by decide +kernel⟩
def mName : MS :=
  mSeq (mAsg (mC (.str "abcdefghijklmnopqrstuvwxyz0123456789")) (gNm 2))
  (mSeq (mAsg (mCall FDigit (mCons (mVar 0) (mCons (mC (.int 7)) (mNil)))) (gNm 3))
  (mSeq (mAsg (mOp oIxS (mVar 2) (mCall FDigit (mCons (mVar 0) (mCons (mC (.int 26)) (mNil))))) (gNm 4))
  (mSeq (mFor (mItA (mCons (mCall FDigit (mCons (mVar 0) (mCons (mC (.int 4)) (mNil)))) (mNil)) isRng1) (gNm 5)
  (mAsg (mOp oCatS (mVar 4) (mOp oIxS (mVar 2) (mCall FDigit (mCons (mVar 0) (mCons (mC (.int 36)) (mNil)))))) (gNm 4)))
  (mSeq (mIfS (mTest (mOp oEq (mVar 3) (mC (.int 6))))
  (mSeq (mAsg (mLst (mCons (mC (.str "hold")) (mCons (mC (.str "either")) (mCons (mC (.str "or")) (mCons (mC (.str "rounds")) (mCons (mC (.str "call")) (mCons (mC (.str "mark")) (mCons (mC (.str "stop")) (mCons (mC (.str "sort")) (mCons (mC (.str "part")) (mCons (mC (.str "none")) (mCons (mC (.str "rings")) (mNil))))))))))))) (gNm 6))
  (mAsg (mOp oIxL (mVar 6) (mCall FDigit (mCons (mVar 0) (mCons (mC (.int 11)) (mNil))))) (gNm 4))) (mNext))
  (mSeq (mAsg (mVar 4) (gNm 7))
  (mSeq (mAsg (mC (.int 0)) (gNm 8))
  (mSeq (mWhile fuel (mTest (mOp (oIn false) (mVar 7) (mVar 1)))
  (mSeq (mAsg (mOp oAdd (mVar 8) (mC (.int 1))) (gNm 8))
  (mAsg (mOp oCatS (mVar 4) (mCB nStr (mCons (mVar 8) (mNil)))) (gNm 7))))
  (mRet (mVar 7)))))))))
def FName : Fn := runFn 2 9 (mName)
set_option maxHeartbeats 4000000 in
theorem okName {P : Program} {w : World} {K : PySem.W.Frag} {mg : Str → Option Value} {base : Heap} {f : Addr} {fd : FuncData} {k : Nat} (W : Wd K mg) (F : FnP K "_law_name" "_law_name" sName f fd) {l_Digit : Nat} (h_Digit : NK.CalX P w K mg base l_Digit "_law_digit" ["_law_state_here", "_law_base"] (spFn (TT K) FDigit)) (hl_Digit : l_Digit ≤ k) : FnOk P w K mg base (L2.CX P w) (k + 1) f fd ["_law_s", "_law_taken"] (spFn (TT K) (FName)) := by
  refine F.ok (CX := L2.CX P w) scName spFn_len (fun cdv A outer st H vs Q E hr h => ⟨FS ⟨TT K, none, fun cls d _ H => E cls d H⟩ (mName), ?_, fn_enter (N := ["_law_s", "_law_taken", "_law_some", "_law_kind", "_law_stem", "_law_k", "_law_words", "_law_found", "_law_n"]) h⟩)
  unfold mName
  exact fss_cons (pss_cons (fs_set (ps_set (i := 2) scName.nd rfl (Or.inl rfl) (fe_str pe_str)) rfl)
    (fss_cons (pss_cons (fs_set (ps_set (i := 3) scName.nd rfl (Or.inl rfl) (fe_call (NK.pe_fnS h_Digit (hr.mono hl_Digit) (by rfl) (takes_of rfl rfl rfl rfl) (fa_cons (pa_cons (fe_var (pv 0)) (fa_cons (pa_cons (fe_int pe_int) ((fa_nil pa_nil))))))))) rfl)
    (fss_cons (pss_cons (fs_set (ps_set (i := 4) scName.nd rfl (Or.inl rfl) (fe_op (pe_ix ix_str (fe_var (pv 2)) (fe_call (NK.pe_fnS h_Digit (hr.mono hl_Digit) (by rfl) (takes_of rfl rfl rfl rfl) (fa_cons (pa_cons (fe_var (pv 0)) (fa_cons (pa_cons (fe_int pe_int) ((fa_nil pa_nil)))))))) (fun _ _ => rfl)) sim_ixS)) rfl)
    (fss_cons (pss_cons (fs_for (ps_for (passes_of rfl) rfl (fi_rng1 (pi_range1 (by rfl) W.b_range (fa_cons (pa_cons (fe_call (NK.pe_fnS h_Digit (hr.mono hl_Digit) (by rfl) (takes_of rfl rfl rfl rfl) (fa_cons (pa_cons (fe_var (pv 0)) (fa_cons (pa_cons (fe_int pe_int) ((fa_nil pa_nil)))))))) ((fa_nil pa_nil)))))) (fg_name (pg_name (i := 5) scName.nd rfl (Or.inl rfl)) rfl)
    (pss_one (fs_set (ps_set (i := 4) scName.nd rfl (Or.inl rfl) (fe_op (pe_op NK.op_catStr (fe_var (pv 4)) (fe_op (pe_ix ix_str (fe_var (pv 2)) (fe_call (NK.pe_fnS h_Digit (hr.mono hl_Digit) (by rfl) (takes_of rfl rfl rfl rfl) (fa_cons (pa_cons (fe_var (pv 0)) (fa_cons (pa_cons (fe_int pe_int) ((fa_nil pa_nil)))))))) (fun _ _ => rfl)) sim_ixS)) sim_catS)) rfl))))
    (fss_cons (pss_cons (fs_if (ps_if (ft_cmp (pt_cmpR op_eq (fe_var (pv 3)) (fe_int pe_int) (nomark _)) sim_eq)
    (fss_cons (pss_cons (fs_set (ps_set (i := 6) scName.nd rfl (Or.inl rfl) (fe_lst (pe_lst (fa_cons (pa_cons (fe_str pe_str) (fa_cons (pa_cons (fe_str pe_str) (fa_cons (pa_cons (fe_str pe_str) (fa_cons (pa_cons (fe_str pe_str) (fa_cons (pa_cons (fe_str pe_str) (fa_cons (pa_cons (fe_str pe_str) (fa_cons (pa_cons (fe_str pe_str) (fa_cons (pa_cons (fe_str pe_str) (fa_cons (pa_cons (fe_str pe_str) (fa_cons (pa_cons (fe_str pe_str) (fa_cons (pa_cons (fe_str pe_str) ((fa_nil pa_nil))))))))))))))))))))))))))) rfl)
    (pss_one (fs_set (ps_set (i := 4) scName.nd rfl (Or.inl rfl) (fe_op (pe_ix ix_list (fe_var (pv 6)) (fe_call (NK.pe_fnS h_Digit (hr.mono hl_Digit) (by rfl) (takes_of rfl rfl rfl rfl) (fa_cons (pa_cons (fe_var (pv 0)) (fa_cons (pa_cons (fe_int pe_int) ((fa_nil pa_nil)))))))) (fun _ _ => rfl)) sim_ixL)) rfl)))) ((fss_nil pss_nil))))
    (fss_cons (pss_cons (fs_set (ps_set (i := 7) scName.nd rfl (Or.inl rfl) (fe_var (pv 4))) rfl)
    (fss_cons (pss_cons (fs_set (ps_set (i := 8) scName.nd rfl (Or.inl rfl) (fe_int pe_int)) rfl)
    (fss_cons (pss_cons (fs_while fuel (ps_while (passes_of rfl) (ft_cmp (pt_cmpR op_in_seq (fe_var (pv 7)) (fe_var (pv 1)) rfl) sim_in)
    (fss_cons (pss_cons (fs_set (ps_set (i := 8) scName.nd rfl (Or.inl rfl) (fe_op (pe_op op_add (fe_var (pv 8)) (fe_int pe_int)) sim_ii)) rfl)
    (pss_one (fs_set (ps_set (i := 7) scName.nd rfl (Or.inl rfl) (fe_op (pe_op NK.op_catStr (fe_var (pv 4)) (fe_cb (pe_callTy NK.call_strI (by rfl) W.b_str (by decide +kernel) (fa_cons (pa_cons (fe_var (pv 8)) ((fa_nil pa_nil))))) sim_str)) sim_catS)) rfl))))))
    (pss_one (fs_ret (ps_ret (fe_var (pv 7))))))))))))))))))))
/-! ### _law_names -/
abbrev sNames : Stmt := topS 25
theorem scNames : FnScope ["_law_s", "_law_many", "_law_found", "_law_k"] ["_law_s", "_law_many"] (defScope sNames) := ⟨rfl, rfl, rfl, by decide +kernel, rfl, by decide +kernel, by decide +kernel⟩
def mNames : MS :=
  mSeq (mAsg (mLstC (mNil)) (gNm 2))
  (mSeq (mFor (mItA (mCons (mVar 1) (mNil)) isRng1) (gNm 3)
  (mDrop (mM fAppend (mVar 2) (mCons (mCall FName (mCons (mVar 0) (mCons (mVar 2) (mNil)))) (mNil)))))
  (mRet (mFrz (mVar 2))))
def FNames : Fn := runFn 2 4 (mNames)
set_option maxHeartbeats 4000000 in
theorem okNames {P : Program} {w : World} {K : PySem.W.Frag} {mg : Str → Option Value} {base : Heap} {f : Addr} {fd : FuncData} {k : Nat} (W : Wd K mg) (F : FnP K "_law_names" "_law_names" sNames f fd) {l_Name : Nat} (h_Name : NK.CalX P w K mg base l_Name "_law_name" ["_law_s", "_law_taken"] (spFn (TT K) FName)) (hl_Name : l_Name ≤ k) : FnOk P w K mg base (L2.CX P w) (k + 1) f fd ["_law_s", "_law_many"] (spFn (TT K) (FNames)) := by
  refine F.ok (CX := L2.CX P w) scNames spFn_len (fun cdv A outer st H vs Q E hr h => ⟨FS ⟨TT K, none, fun cls d _ H => E cls d H⟩ (mNames), ?_, fn_enter (N := ["_law_s", "_law_many", "_law_found", "_law_k"]) h⟩)
  unfold mNames
  exact fss_cons (pss_cons (fs_set (ps_set (i := 2) scNames.nd rfl (Or.inl rfl) (fe_lstC (pe_lst ((fa_nil pa_nil))))) rfl)
    (fss_cons (pss_cons (fs_for (ps_for (passes_of rfl) rfl (fi_rng1 (pi_range1 (by rfl) W.b_range (fa_cons (pa_cons (fe_var (pv 1)) ((fa_nil pa_nil)))))) (fg_name (pg_name (i := 3) scNames.nd rfl (Or.inl rfl)) rfl)
    (pss_one (fs_drop (ps_expr (fe_m (pe_bm PySem.F.plainAttrs_list PySem.F.slot_list_append PySem.F.type_list_append mt_append (fe_var (pv 2)) (fa_cons (pa_cons (fe_call (NK.pe_fnS h_Name (hr.mono hl_Name) (by rfl) (takes_of rfl rfl rfl rfl) (fa_cons (pa_cons (fe_var (pv 0)) (fa_cons (pa_cons (fe_var (pv 2)) ((fa_nil pa_nil)))))))) ((fa_nil pa_nil))))) sim_append))))))
    (pss_one (fs_ret (ps_ret (fe_frz (fe_var (pv 2)))))))))
/-! ### _law_statement -/
abbrev sStatement : Stmt := topS 26
theorem scStatement : FnScope ["_law_s", "_law_m", "_law_deep", "_law_kind"] ["_law_s", "_law_m", "_law_deep"] (defScope sStatement) := ⟨rfl, rfl, rfl, by decide +kernel, rfl, by decide +kernel, by decide +kernel⟩
def mStatement (r_Row : Fn) : MS :=
  mSeq (mPutD (mVar 1) (mC (.str "still")) (mOp oSub (mOp oDGet (mVar 1) (mC (.str "still"))) (mC (.int 1))))
  (mSeq (mAsg (mCall FDigit (mCons (mVar 0) (mCons (mC (.int 14)) (mNil)))) (gNm 3))
  (mSeq (mIfS (mAnd (mTest (mOp (oIB fun i j => decide (i < j)) (mVar 3) (mC (.int 5)))) (mTest (mOp (oIB fun i j => decide (j < i)) (mVar 2) (mC (.int 0)))))
  (mRet (mTup (mCons (mC (.str "hold")) (mCons (mOp oIxL (mOp oDGet (mVar 1) (mC (.str "keys"))) (mCall FDigit (mCons (mVar 0) (mCons (mCB nLen (mCons (mOp oDGet (mVar 1) (mC (.str "keys"))) (mNil))) (mNil))))) (mCons (mLst (mCons (mCall r_Row (mCons (mVar 0) (mCons (mVar 1) (mCons (mOp oSub (mVar 2) (mC (.int 1))) (mNil))))) (mNil))) (mNil)))))) (mNext))
  (mSeq (mIfS (mTest (mOp (oIB fun i j => decide (i < j)) (mVar 3) (mC (.int 8))))
  (mRet (mTup (mCons (mC (.str "mark")) (mCons (mOp oIxL (mOp oDGet (mVar 1) (mC (.str "marks"))) (mCall FDigit (mCons (mVar 0) (mCons (mCB nLen (mCons (mOp oDGet (mVar 1) (mC (.str "marks"))) (mNil))) (mNil))))) (mCons (mLst (mNil)) (mNil)))))) (mNext))
  (mSeq (mIfS (mTest (mOp (oIB fun i j => decide (i < j)) (mVar 3) (mC (.int 10))))
  (mRet (mTup (mCons (mC (.str "call")) (mCons (mOp oIxL (mOp oDGet (mVar 1) (mC (.str "parts"))) (mCall FDigit (mCons (mVar 0) (mCons (mCB nLen (mCons (mOp oDGet (mVar 1) (mC (.str "parts"))) (mNil))) (mNil))))) (mCons (mLst (mNil)) (mNil)))))) (mNext))
  (mSeq (mIfS (mOr (mTest (mOp oEq (mVar 3) (mC (.int 10)))) (mTest (mOp oEq (mVar 2) (mC (.int 0)))))
  (mRet (mTup (mCons (mC (.str "stop")) (mCons (mC .non) (mCons (mLst (mNil)) (mNil)))))) (mNext))
  (mSeq (mIfS (mTest (mOp (oIB fun i j => decide (i < j)) (mVar 3) (mC (.int 13))))
  (mRet (mTup (mCons (mC (.str "either")) (mCons (mC .non) (mCons (mLst (mCons (mCall r_Row (mCons (mVar 0) (mCons (mVar 1) (mCons (mOp oSub (mVar 2) (mC (.int 1))) (mNil))))) (mCons (mCall r_Row (mCons (mVar 0) (mCons (mVar 1) (mCons (mOp oSub (mVar 2) (mC (.int 1))) (mNil))))) (mNil)))) (mNil)))))) (mNext))
  (mRet (mTup (mCons (mC (.str "rounds")) (mCons (mC .non) (mCons (mLst (mCons (mCall r_Row (mCons (mVar 0) (mCons (mVar 1) (mCons (mOp oSub (mVar 2) (mC (.int 1))) (mNil))))) (mNil))) (mNil))))))))))))
def FStatement (r_Row : Fn) : Fn := runFn 3 4 (mStatement r_Row)
set_option maxHeartbeats 4000000 in
theorem okStatement {P : Program} {w : World} {K : PySem.W.Frag} {mg : Str → Option Value} {base : Heap} {f : Addr} {fd : FuncData} {k : Nat} {r_Row : Fn} (W : Wd K mg) (F : FnP K "_law_statement" "_law_statement" sStatement f fd) {l_Digit : Nat} (h_Digit : NK.CalX P w K mg base l_Digit "_law_digit" ["_law_state_here", "_law_base"] (spFn (TT K) FDigit)) (hl_Digit : l_Digit ≤ k) {l_Row : Nat} (h_Row : NK.CalX P w K mg base l_Row "_law_row" ["_law_s", "_law_m", "_law_deep"] (spFn (TT K) r_Row)) (hl_Row : l_Row ≤ k) : FnOk P w K mg base (L2.CX P w) (k + 1) f fd ["_law_s", "_law_m", "_law_deep"] (spFn (TT K) (FStatement r_Row)) := by
  refine F.ok (CX := L2.CX P w) scStatement spFn_len (fun cdv A outer st H vs Q E hr h => ⟨FS ⟨TT K, none, fun cls d _ H => E cls d H⟩ (mStatement r_Row), ?_, fn_enter (N := ["_law_s", "_law_m", "_law_deep", "_law_kind"]) h⟩)
  unfold mStatement
  exact fss_cons (pss_cons (fs_dput (ps_dput (hu_of hr) (fe_var (pv 1)) (fe_str pe_str) (fe_op (pe_op op_sub (fe_dget (pe_dget (hu_of hr) (fe_var (pv 1)) (fe_str pe_str) (fun _ _ => rfl))) (fe_int pe_int)) sim_ii) rfl))
    (fss_cons (pss_cons (fs_set (ps_set (i := 3) scStatement.nd rfl (Or.inl rfl) (fe_call (NK.pe_fnS h_Digit (hr.mono hl_Digit) (by rfl) (takes_of rfl rfl rfl rfl) (fa_cons (pa_cons (fe_var (pv 0)) (fa_cons (pa_cons (fe_int pe_int) ((fa_nil pa_nil))))))))) rfl)
    (fss_cons (pss_cons (fs_if (ps_if (PW.pt (fw_and (pw_and (ft_cmp (pt_cmpR op_lt (fe_var (pv 3)) (fe_int pe_int) (nomark _)) sim_ib) (pw_and1 (ft_cmp (pt_cmpR op_gt (fe_var (pv 2)) (fe_int pe_int) (nomark _)) sim_ib)))))
    (pss_one (fs_ret (ps_ret (fe_tup (pe_tup (fa_cons (pa_cons (fe_str pe_str) (fa_cons (pa_cons (fe_op (pe_ix ix_list (fe_dget (pe_dget (hu_of hr) (fe_var (pv 1)) (fe_str pe_str) (fun _ _ => rfl))) (fe_call (NK.pe_fnS h_Digit (hr.mono hl_Digit) (by rfl) (takes_of rfl rfl rfl rfl) (fa_cons (pa_cons (fe_var (pv 0)) (fa_cons (pa_cons (fe_cb (pe_callB NK.call_lenSeq (by rfl) W.b_len (by decide +kernel) (fa_cons (pa_cons (fe_dget (pe_dget (hu_of hr) (fe_var (pv 1)) (fe_str pe_str) (fun _ _ => rfl))) ((fa_nil pa_nil))))) sim_len) ((fa_nil pa_nil)))))))) (fun _ _ => rfl)) sim_ixL) (fa_cons (pa_cons (fe_lst (pe_lst (fa_cons (pa_cons (fe_call (NK.pe_fnS h_Row (hr.mono hl_Row) (by rfl) (takes_of rfl rfl rfl rfl) (fa_cons (pa_cons (fe_var (pv 0)) (fa_cons (pa_cons (fe_var (pv 1)) (fa_cons (pa_cons (fe_op (pe_op op_sub (fe_var (pv 2)) (fe_int pe_int)) sim_ii) ((fa_nil pa_nil)))))))))) ((fa_nil pa_nil)))))) ((fa_nil pa_nil))))))))))))) ((fss_nil pss_nil))))
    (fss_cons (pss_cons (fs_if (ps_if (ft_cmp (pt_cmpR op_lt (fe_var (pv 3)) (fe_int pe_int) (nomark _)) sim_ib)
    (pss_one (fs_ret (ps_ret (fe_tup (pe_tup (fa_cons (pa_cons (fe_str pe_str) (fa_cons (pa_cons (fe_op (pe_ix ix_list (fe_dget (pe_dget (hu_of hr) (fe_var (pv 1)) (fe_str pe_str) (fun _ _ => rfl))) (fe_call (NK.pe_fnS h_Digit (hr.mono hl_Digit) (by rfl) (takes_of rfl rfl rfl rfl) (fa_cons (pa_cons (fe_var (pv 0)) (fa_cons (pa_cons (fe_cb (pe_callB NK.call_lenSeq (by rfl) W.b_len (by decide +kernel) (fa_cons (pa_cons (fe_dget (pe_dget (hu_of hr) (fe_var (pv 1)) (fe_str pe_str) (fun _ _ => rfl))) ((fa_nil pa_nil))))) sim_len) ((fa_nil pa_nil)))))))) (fun _ _ => rfl)) sim_ixL) (fa_cons (pa_cons (fe_lst (pe_lst ((fa_nil pa_nil)))) ((fa_nil pa_nil))))))))))))) ((fss_nil pss_nil))))
    (fss_cons (pss_cons (fs_if (ps_if (ft_cmp (pt_cmpR op_lt (fe_var (pv 3)) (fe_int pe_int) (nomark _)) sim_ib)
    (pss_one (fs_ret (ps_ret (fe_tup (pe_tup (fa_cons (pa_cons (fe_str pe_str) (fa_cons (pa_cons (fe_op (pe_ix ix_list (fe_dget (pe_dget (hu_of hr) (fe_var (pv 1)) (fe_str pe_str) (fun _ _ => rfl))) (fe_call (NK.pe_fnS h_Digit (hr.mono hl_Digit) (by rfl) (takes_of rfl rfl rfl rfl) (fa_cons (pa_cons (fe_var (pv 0)) (fa_cons (pa_cons (fe_cb (pe_callB NK.call_lenSeq (by rfl) W.b_len (by decide +kernel) (fa_cons (pa_cons (fe_dget (pe_dget (hu_of hr) (fe_var (pv 1)) (fe_str pe_str) (fun _ _ => rfl))) ((fa_nil pa_nil))))) sim_len) ((fa_nil pa_nil)))))))) (fun _ _ => rfl)) sim_ixL) (fa_cons (pa_cons (fe_lst (pe_lst ((fa_nil pa_nil)))) ((fa_nil pa_nil))))))))))))) ((fss_nil pss_nil))))
    (fss_cons (pss_cons (fs_if (ps_if (PW.pt (fw_or (pw_or (ft_cmp (pt_cmpR op_eq (fe_var (pv 3)) (fe_int pe_int) (nomark _)) sim_eq) (pw_or1 (ft_cmp (pt_cmpR op_eq (fe_var (pv 2)) (fe_int pe_int) (nomark _)) sim_eq)))))
    (pss_one (fs_ret (ps_ret (fe_tup (pe_tup (fa_cons (pa_cons (fe_str pe_str) (fa_cons (pa_cons (fe_non pe_non) (fa_cons (pa_cons (fe_lst (pe_lst ((fa_nil pa_nil)))) ((fa_nil pa_nil))))))))))))) ((fss_nil pss_nil))))
    (fss_cons (pss_cons (fs_if (ps_if (ft_cmp (pt_cmpR op_lt (fe_var (pv 3)) (fe_int pe_int) (nomark _)) sim_ib)
    (pss_one (fs_ret (ps_ret (fe_tup (pe_tup (fa_cons (pa_cons (fe_str pe_str) (fa_cons (pa_cons (fe_non pe_non) (fa_cons (pa_cons (fe_lst (pe_lst (fa_cons (pa_cons (fe_call (NK.pe_fnS h_Row (hr.mono hl_Row) (by rfl) (takes_of rfl rfl rfl rfl) (fa_cons (pa_cons (fe_var (pv 0)) (fa_cons (pa_cons (fe_var (pv 1)) (fa_cons (pa_cons (fe_op (pe_op op_sub (fe_var (pv 2)) (fe_int pe_int)) sim_ii) ((fa_nil pa_nil)))))))))) (fa_cons (pa_cons (fe_call (NK.pe_fnS h_Row (hr.mono hl_Row) (by rfl) (takes_of rfl rfl rfl rfl) (fa_cons (pa_cons (fe_var (pv 0)) (fa_cons (pa_cons (fe_var (pv 1)) (fa_cons (pa_cons (fe_op (pe_op op_sub (fe_var (pv 2)) (fe_int pe_int)) sim_ii) ((fa_nil pa_nil)))))))))) ((fa_nil pa_nil)))))))) ((fa_nil pa_nil))))))))))))) ((fss_nil pss_nil))))
    (pss_one (fs_ret (ps_ret (fe_tup (pe_tup (fa_cons (pa_cons (fe_str pe_str) (fa_cons (pa_cons (fe_non pe_non) (fa_cons (pa_cons (fe_lst (pe_lst (fa_cons (pa_cons (fe_call (NK.pe_fnS h_Row (hr.mono hl_Row) (by rfl) (takes_of rfl rfl rfl rfl) (fa_cons (pa_cons (fe_var (pv 0)) (fa_cons (pa_cons (fe_var (pv 1)) (fa_cons (pa_cons (fe_op (pe_op op_sub (fe_var (pv 2)) (fe_int pe_int)) sim_ii) ((fa_nil pa_nil)))))))))) ((fa_nil pa_nil)))))) ((fa_nil pa_nil))))))))))))))))))))))))))
/-! ### _law_row -/
abbrev sRow : Stmt := topS 27
theorem scRow : FnScope ["_law_s", "_law_m", "_law_deep", "_law_found", "_law_k"] ["_law_s", "_law_m", "_law_deep"] (defScope sRow) := ⟨rfl, rfl, rfl, by decide +kernel, rfl, by decide +kernel, by decide +kernel⟩
def mRow (r_Statement : Fn) : MS :=
  mSeq (mAsg (mLstC (mNil)) (gNm 3))
  (mSeq (mFor (mItA (mCons (mOp oIxL (mLst (mCons (mC (.int 1)) (mCons (mC (.int 2)) (mCons (mC (.int 3)) (mCons (mC (.int 2)) (mCons (mC (.int 0)) (mNil))))))) (mCall FDigit (mCons (mVar 0) (mCons (mC (.int 5)) (mNil))))) (mNil)) isRng1) (gNm 4)
  (mIfS (mTest (mOp (oIB fun i j => decide (j < i)) (mOp oDGet (mVar 1) (mC (.str "still"))) (mC (.int 0))))
  (mDrop (mM fAppend (mVar 3) (mCons (mCall r_Statement (mCons (mVar 0) (mCons (mVar 1) (mCons (mVar 2) (mNil))))) (mNil)))) (mNext)))
  (mRet (mFrz (mVar 3))))
def FRow (r_Statement : Fn) : Fn := runFn 3 5 (mRow r_Statement)
set_option maxHeartbeats 4000000 in
theorem okRow {P : Program} {w : World} {K : PySem.W.Frag} {mg : Str → Option Value} {base : Heap} {f : Addr} {fd : FuncData} {k : Nat} {r_Statement : Fn} (W : Wd K mg) (F : FnP K "_law_row" "_law_row" sRow f fd) {l_Digit : Nat} (h_Digit : NK.CalX P w K mg base l_Digit "_law_digit" ["_law_state_here", "_law_base"] (spFn (TT K) FDigit)) (hl_Digit : l_Digit ≤ k) {l_Statement : Nat} (h_Statement : NK.CalX P w K mg base l_Statement "_law_statement" ["_law_s", "_law_m", "_law_deep"] (spFn (TT K) r_Statement)) (hl_Statement : l_Statement ≤ k) : FnOk P w K mg base (L2.CX P w) (k + 1) f fd ["_law_s", "_law_m", "_law_deep"] (spFn (TT K) (FRow r_Statement)) := by
  refine F.ok (CX := L2.CX P w) scRow spFn_len (fun cdv A outer st H vs Q E hr h => ⟨FS ⟨TT K, none, fun cls d _ H => E cls d H⟩ (mRow r_Statement), ?_, fn_enter (N := ["_law_s", "_law_m", "_law_deep", "_law_found", "_law_k"]) h⟩)
  unfold mRow
  exact fss_cons (pss_cons (fs_set (ps_set (i := 3) scRow.nd rfl (Or.inl rfl) (fe_lstC (pe_lst ((fa_nil pa_nil))))) rfl)
    (fss_cons (pss_cons (fs_for (ps_for (passes_of rfl) rfl (fi_rng1 (pi_range1 (by rfl) W.b_range (fa_cons (pa_cons (fe_op (pe_ix ix_list (fe_lst (pe_lst (fa_cons (pa_cons (fe_int pe_int) (fa_cons (pa_cons (fe_int pe_int) (fa_cons (pa_cons (fe_int pe_int) (fa_cons (pa_cons (fe_int pe_int) (fa_cons (pa_cons (fe_int pe_int) ((fa_nil pa_nil)))))))))))))) (fe_call (NK.pe_fnS h_Digit (hr.mono hl_Digit) (by rfl) (takes_of rfl rfl rfl rfl) (fa_cons (pa_cons (fe_var (pv 0)) (fa_cons (pa_cons (fe_int pe_int) ((fa_nil pa_nil)))))))) (fun _ _ => rfl)) sim_ixL) ((fa_nil pa_nil)))))) (fg_name (pg_name (i := 4) scRow.nd rfl (Or.inl rfl)) rfl)
    (pss_one (fs_if (ps_if (ft_cmp (pt_cmpR op_gt (fe_dget (pe_dget (hu_of hr) (fe_var (pv 1)) (fe_str pe_str) (fun _ _ => rfl))) (fe_int pe_int) (nomark _)) sim_ib)
    (pss_one (fs_drop (ps_expr (fe_m (pe_bm PySem.F.plainAttrs_list PySem.F.slot_list_append PySem.F.type_list_append mt_append (fe_var (pv 3)) (fa_cons (pa_cons (fe_call (NK.pe_fnS h_Statement (hr.mono hl_Statement) (by rfl) (takes_of rfl rfl rfl rfl) (fa_cons (pa_cons (fe_var (pv 0)) (fa_cons (pa_cons (fe_var (pv 1)) (fa_cons (pa_cons (fe_var (pv 2)) ((fa_nil pa_nil)))))))))) ((fa_nil pa_nil))))) sim_append)))) ((fss_nil pss_nil)))))))
    (pss_one (fs_ret (ps_ret (fe_frz (fe_var (pv 3)))))))))
def rowN : Nat → Fn
  | 0 => fnNo
  | n + 1 => FRow (FStatement (rowN n))
/-! ### _law_one -/
abbrev sOne : Stmt := topS 28
theorem scOne : FnScope ["_law_one_here", "_law_word", "_law_name_here", "_law_rows", "_law_bodies", "_law_row_here"] ["_law_one_here"] (defScope sOne) := ⟨rfl, rfl, rfl, by decide +kernel, rfl, by decide +kernel, by decide +kernel⟩
def mOne (r_LBody : Fn) : MS :=
  mSeq (mAsg (mVar 0) (gTp 3 (gsCons (gNm 1) (gsCons (gNm 2) (gsCons (gNm 3) (gsNil))))))
  (mSeq (mAsg (mLc (mIt (mVar 3) isLst) (gNm 5) (mYes) (mCall r_LBody (mCons (mVar 5) (mNil))) [5]) (gNm 4))
  (mSeq (mIfS (mTest (mOp oEq (mVar 1) (mC (.str "hold"))))
  (mRet (mMake 2 2 FHoldI (mCons (mVar 2) (mCons (mOp oIxL (mVar 4) (mC (.int 0))) (mNil))))) (mNext))
  (mSeq (mIfS (mTest (mOp oEq (mVar 1) (mC (.str "either"))))
  (mRet (mMake 3 2 FEitherI (mCons (mOp oIxL (mVar 4) (mC (.int 0))) (mCons (mOp oIxL (mVar 4) (mC (.int 1))) (mNil))))) (mNext))
  (mSeq (mIfS (mTest (mOp oEq (mVar 1) (mC (.str "rounds"))))
  (mRet (mMake 4 1 FRoundsI (mCons (mOp oIxL (mVar 4) (mC (.int 0))) (mNil)))) (mNext))
  (mSeq (mIfS (mTest (mOp oEq (mVar 1) (mC (.str "call"))))
  (mRet (mMake 5 1 FCallI (mCons (mVar 2) (mNil)))) (mNext))
  (mSeq (mIfS (mTest (mOp oEq (mVar 1) (mC (.str "mark"))))
  (mRet (mMake 6 1 FMarkI (mCons (mVar 2) (mNil)))) (mNext))
  (mRet (mMake0 7))))))))
def FOne (r_LBody : Fn) : Fn := runFn 1 6 (mOne r_LBody)
set_option maxHeartbeats 4000000 in
theorem okOne {P : Program} {w : World} {K : PySem.W.Frag} {mg : Str → Option Value} {base : Heap} {f : Addr} {fd : FuncData} {k : Nat} {r_LBody : Fn} (W : Wd K mg) (F : FnP K "_law_one" "_law_one" sOne f fd) {l_LBody : Nat} (h_LBody : NK.CalX P w K mg base l_LBody "_law_body" ["_law_row_here"] (spFn (TT K) r_LBody)) (hl_LBody : l_LBody ≤ k) {lc_Hold : Nat} (hc_Hold : NK.CalK P w K mg base (L2.CX P w) lc_Hold "Hold" ((TT K).ca 2) ["self", "key", "body"] (spFn (TT K) FHoldI)) (hlc_Hold : lc_Hold + 1 ≤ k) {lc_Either : Nat} (hc_Either : NK.CalK P w K mg base (L2.CX P w) lc_Either "Either" ((TT K).ca 3) ["self", "one", "other"] (spFn (TT K) FEitherI)) (hlc_Either : lc_Either + 1 ≤ k) {lc_Rounds : Nat} (hc_Rounds : NK.CalK P w K mg base (L2.CX P w) lc_Rounds "Rounds" ((TT K).ca 4) ["self", "body"] (spFn (TT K) FRoundsI)) (hlc_Rounds : lc_Rounds + 1 ≤ k) {lc_Call : Nat} (hc_Call : NK.CalK P w K mg base (L2.CX P w) lc_Call "Call" ((TT K).ca 5) ["self", "part"] (spFn (TT K) FCallI)) (hlc_Call : lc_Call + 1 ≤ k) {lc_Mark : Nat} (hc_Mark : NK.CalK P w K mg base (L2.CX P w) lc_Mark "Mark" ((TT K).ca 6) ["self", "name"] (spFn (TT K) FMarkI)) (hlc_Mark : lc_Mark + 1 ≤ k) : FnOk P w K mg base (L2.CX P w) (k + 1) f fd ["_law_one_here"] (spFn (TT K) (FOne r_LBody)) := by
  refine F.ok (CX := L2.CX P w) scOne spFn_len (fun cdv A outer st H vs Q E hr h => ⟨FS ⟨TT K, none, fun cls d _ H => E cls d H⟩ (mOne r_LBody), ?_, fn_enter (N := ["_law_one_here", "_law_word", "_law_name_here", "_law_rows", "_law_bodies", "_law_row_here"]) h⟩)
  unfold mOne
  exact fss_cons (pss_cons (fs_asg (ps_asg (fe_var (pv 0)) (fg_tup (pg_tup rfl (fgs_cons (pgs_cons (fg_name (pg_name (i := 1) scOne.nd rfl (Or.inl rfl)) rfl) (fgs_cons (pgs_cons (fg_name (pg_name (i := 2) scOne.nd rfl (Or.inl rfl)) rfl) (fgs_cons (pgs_cons (fg_name (pg_name (i := 3) scOne.nd rfl (Or.inl rfl)) rfl) (fgs_nil pgs_nil)))))))))))
    (fss_cons (pss_cons (fs_setLc (ps_setLc (i := 4) (own := [("_law_row_here", 5)]) rfl scOne.nd rfl rfl (sw_true rfl rfl rfl (by decide +kernel)) (fi_lst (pi_list (fe_var (pv 3)))) (blkOk_by (own := [("_law_row_here", 5)]) (N := ["_law_one_here", "_law_word", "_law_name_here", "_law_rows", "_law_bodies", "_law_row_here"]) (sc := defScope sOne) (by decide +kernel)) (fun _ _ _ _ _ => pg_name (i := 5) scOne.nd rfl (Or.inl rfl)) (fun _ _ _ _ _ => (ft_yes pts_nil)) (fun _ _ _ _ _ => fe_call (NK.pe_fnS h_LBody (hr.mono hl_LBody) (by rfl) takes0 (fa_cons (pa_cons (fe_var (pv 5)) ((fa_nil pa_nil))))))) (sg_name rfl) fills_name (by decide) rfl)
    (fss_cons (pss_cons (fs_if (ps_if (ft_cmp (pt_cmpR op_eq (fe_var (pv 1)) (fe_str pe_str) (nomark _)) sim_eq)
    (pss_one (fs_ret (ps_ret (fe_make (NK.pe_makeS hc_Hold (hr.mono hlc_Hold) rfl (fun σ => passAt (takes_of rfl rfl rfl rfl) σ) (fa_cons (pa_cons (fe_var (pv 2)) (fa_cons (pa_cons (fe_op (pe_ix ix_list (fe_var (pv 4)) (fe_int pe_int) (fun _ _ => rfl)) sim_ixL) ((fa_nil pa_nil))))))) rfl)))) ((fss_nil pss_nil))))
    (fss_cons (pss_cons (fs_if (ps_if (ft_cmp (pt_cmpR op_eq (fe_var (pv 1)) (fe_str pe_str) (nomark _)) sim_eq)
    (pss_one (fs_ret (ps_ret (fe_make (NK.pe_makeS hc_Either (hr.mono hlc_Either) rfl (fun σ => passAt (takes_of rfl rfl rfl rfl) σ) (fa_cons (pa_cons (fe_op (pe_ix ix_list (fe_var (pv 4)) (fe_int pe_int) (fun _ _ => rfl)) sim_ixL) (fa_cons (pa_cons (fe_op (pe_ix ix_list (fe_var (pv 4)) (fe_int pe_int) (fun _ _ => rfl)) sim_ixL) ((fa_nil pa_nil))))))) rfl)))) ((fss_nil pss_nil))))
    (fss_cons (pss_cons (fs_if (ps_if (ft_cmp (pt_cmpR op_eq (fe_var (pv 1)) (fe_str pe_str) (nomark _)) sim_eq)
    (pss_one (fs_ret (ps_ret (fe_make (NK.pe_makeS hc_Rounds (hr.mono hlc_Rounds) rfl (fun σ => passAt (takes_of rfl rfl rfl rfl) σ) (fa_cons (pa_cons (fe_op (pe_ix ix_list (fe_var (pv 4)) (fe_int pe_int) (fun _ _ => rfl)) sim_ixL) ((fa_nil pa_nil))))) rfl)))) ((fss_nil pss_nil))))
    (fss_cons (pss_cons (fs_if (ps_if (ft_cmp (pt_cmpR op_eq (fe_var (pv 1)) (fe_str pe_str) (nomark _)) sim_eq)
    (pss_one (fs_ret (ps_ret (fe_make (NK.pe_makeS hc_Call (hr.mono hlc_Call) rfl (fun σ => passAt (takes_of rfl rfl rfl rfl) σ) (fa_cons (pa_cons (fe_var (pv 2)) ((fa_nil pa_nil))))) rfl)))) ((fss_nil pss_nil))))
    (fss_cons (pss_cons (fs_if (ps_if (ft_cmp (pt_cmpR op_eq (fe_var (pv 1)) (fe_str pe_str) (nomark _)) sim_eq)
    (pss_one (fs_ret (ps_ret (fe_make (NK.pe_makeS hc_Mark (hr.mono hlc_Mark) rfl (fun σ => passAt (takes_of rfl rfl rfl rfl) σ) (fa_cons (pa_cons (fe_var (pv 2)) ((fa_nil pa_nil))))) rfl)))) ((fss_nil pss_nil))))
    (pss_one (fs_ret (ps_ret (fe_make0 (NK.pe_makeO W.mk_Stop rfl W.mg_Stop) rfl)))))))))))))))))
/-! ### _law_body -/
abbrev sLBody : Stmt := topS 29
theorem scLBody : FnScope ["_law_row_here", "_law_one_here"] ["_law_row_here"] (defScope sLBody) := ⟨rfl, rfl, rfl, by decide +kernel, rfl, by decide +kernel, by decide +kernel⟩
def mLBody (r_One : Fn) : MS :=
  mRet (mMake 8 1 FBodyI (mCons (mLc (mIt (mVar 0) isLst) (gNm 1) (mYes) (mCall r_One (mCons (mVar 1) (mNil))) [1]) (mNil)))
def FLBody (r_One : Fn) : Fn := runFn 1 2 (mLBody r_One)
set_option maxHeartbeats 4000000 in
theorem okLBody {P : Program} {w : World} {K : PySem.W.Frag} {mg : Str → Option Value} {base : Heap} {f : Addr} {fd : FuncData} {k : Nat} {r_One : Fn} (W : Wd K mg) (F : FnP K "_law_body" "_law_body" sLBody f fd) {l_One : Nat} (h_One : NK.CalX P w K mg base l_One "_law_one" ["_law_one_here"] (spFn (TT K) r_One)) (hl_One : l_One ≤ k) {lc_Body : Nat} (hc_Body : NK.CalK P w K mg base (L2.CX P w) lc_Body "Body" ((TT K).ca 8) ["self", "statements"] (spFn (TT K) FBodyI)) (hlc_Body : lc_Body + 1 ≤ k) : FnOk P w K mg base (L2.CX P w) (k + 1) f fd ["_law_row_here"] (spFn (TT K) (FLBody r_One)) := by
  refine F.ok (CX := L2.CX P w) scLBody spFn_len (fun cdv A outer st H vs Q E hr h => ⟨FS ⟨TT K, none, fun cls d _ H => E cls d H⟩ (mLBody r_One), ?_, fn_enter (N := ["_law_row_here", "_law_one_here"]) h⟩)
  unfold mLBody
  exact pss_one (fs_ret (ps_ret (fe_make (NK.pe_makeS hc_Body (hr.mono hlc_Body) rfl (fun σ => passAt (takes_of rfl rfl rfl rfl) σ) (fa_cons (pa_cons (fe_lc (pe_lc (own := [("_law_one_here", 1)]) rfl scLBody.nd (fi_lst (pi_list (fe_var (pv 0)))) (blkOk_by (own := [("_law_one_here", 1)]) (N := ["_law_row_here", "_law_one_here"]) (sc := defScope sLBody) (by decide +kernel)) (fun _ _ _ _ _ => pg_name (i := 1) scLBody.nd rfl (Or.inl rfl)) (fun _ _ _ _ _ => (ft_yes pts_nil)) (fun _ _ _ _ _ => fe_call (NK.pe_fnS h_One (hr.mono hl_One) (by rfl) takes0 (fa_cons (pa_cons (fe_var (pv 1)) ((fa_nil pa_nil))))))) (sg_name rfl) fills_name (by decide) rfl) ((fa_nil pa_nil))))) rfl)))
def bodyN : Nat → Fn
  | 0 => fnNo
  | n + 1 => FLBody (FOne (bodyN n))
/-! ### _law_turned -/
abbrev sTurned : Stmt := topS 30
theorem scTurned : FnScope ["_law_s", "_law_m", "_law_one_here", "_law_word", "_law_name_here", "_law_rows", "_law_kind", "_law_at"] ["_law_s", "_law_m", "_law_one_here"] (defScope sTurned) := ⟨rfl, rfl, rfl, by decide +kernel, rfl, by decide +kernel, by decide +kernel⟩
def mTurned (r_Otherwise : Fn) : MS :=
  mSeq (mAsg (mVar 2) (gTp 3 (gsCons (gNm 3) (gsCons (gNm 4) (gsCons (gNm 5) (gsNil))))))
  (mSeq (mAsg (mCall FDigit (mCons (mVar 0) (mCons (mC (.int 3)) (mNil)))) (gNm 6))
  (mSeq (mIfS (mAnd (mTest (mOp (oNil true) (mVar 5) (mLst (mNil)))) (mTest (mOp (oIB fun i j => decide (j < i)) (mVar 6) (mC (.int 0)))))
  (mSeq (mAsg (mCall FDigit (mCons (mVar 0) (mCons (mCB nLen (mCons (mVar 5) (mNil))) (mNil)))) (gNm 7))
  (mSeq (mIfS (mTest (mOp oEq (mVar 6) (mC (.int 1))))
  (mRet (mTup (mCons (mVar 3) (mCons (mVar 4) (mCons (mUn oRev (mVar 5)) (mNil)))))) (mNext))
  (mRet (mTup (mCons (mVar 3) (mCons (mVar 4) (mCons (mOp oCatL (mOp oCatL (mSl oSlL (mVar 5) mNoP (mPart (mVar 7))) (mLst (mCons (mCall r_Otherwise (mCons (mVar 0) (mCons (mVar 1) (mCons (mOp oIxL (mVar 5) (mVar 7)) (mNil))))) (mNil)))) (mSl oSlL (mVar 5) (mPart (mOp oAdd (mVar 7) (mC (.int 1)))) mNoP)) (mNil)))))))) (mNext))
  (mSeq (mIfS (mAnd (mTest (mOp (oIn false) (mVar 3) (mTup (mCons (mC (.str "call")) (mCons (mC (.str "mark")) (mNil)))))) (mTest (mOp oEq (mVar 6) (mC (.int 1)))))
  (mRet (mTup (mCons (mOp oDGet (mDisp (mPCons (mC (.str "call")) (mC (.str "mark")) (mPCons (mC (.str "mark")) (mC (.str "call")) (mPNil)))) (mVar 3)) (mCons (mVar 4) (mCons (mVar 5) (mNil)))))) (mNext))
  (mSeq (mIfS (mTest (mOp (oIsN false) (mVar 4) (mC .non)))
  (mRet (mTup (mCons (mC (.str "mark")) (mCons (mOp oIxL (mOp oDGet (mVar 1) (mC (.str "marks"))) (mC (.int 0))) (mCons (mLst (mNil)) (mNil)))))) (mNext))
  (mRet (mTup (mCons (mVar 3) (mCons (mOp oIxL (mOp oDGet (mVar 1) (mC (.str "keys"))) (mCall FDigit (mCons (mVar 0) (mCons (mCB nLen (mCons (mOp oDGet (mVar 1) (mC (.str "keys"))) (mNil))) (mNil))))) (mCons (mVar 5) (mNil))))))))))
def FTurned (r_Otherwise : Fn) : Fn := runFn 3 8 (mTurned r_Otherwise)
set_option maxHeartbeats 4000000 in
theorem okTurned {P : Program} {w : World} {K : PySem.W.Frag} {mg : Str → Option Value} {base : Heap} {f : Addr} {fd : FuncData} {k : Nat} {r_Otherwise : Fn} (W : Wd K mg) (F : FnP K "_law_turned" "_law_turned" sTurned f fd) {l_Digit : Nat} (h_Digit : NK.CalX P w K mg base l_Digit "_law_digit" ["_law_state_here", "_law_base"] (spFn (TT K) FDigit)) (hl_Digit : l_Digit ≤ k) {l_Otherwise : Nat} (h_Otherwise : NK.CalX P w K mg base l_Otherwise "_law_otherwise" ["_law_s", "_law_m", "_law_row_here"] (spFn (TT K) r_Otherwise)) (hl_Otherwise : l_Otherwise ≤ k) (h1k : 1 ≤ k) : FnOk P w K mg base (L2.CX P w) (k + 1) f fd ["_law_s", "_law_m", "_law_one_here"] (spFn (TT K) (FTurned r_Otherwise)) := by
  refine F.ok (CX := L2.CX P w) scTurned spFn_len (fun cdv A outer st H vs Q E hr h => ⟨FS ⟨TT K, none, fun cls d _ H => E cls d H⟩ (mTurned r_Otherwise), ?_, fn_enter (N := ["_law_s", "_law_m", "_law_one_here", "_law_word", "_law_name_here", "_law_rows", "_law_kind", "_law_at"]) h⟩)
  unfold mTurned
  exact fss_cons (pss_cons (fs_asg (ps_asg (fe_var (pv 2)) (fg_tup (pg_tup rfl (fgs_cons (pgs_cons (fg_name (pg_name (i := 3) scTurned.nd rfl (Or.inl rfl)) rfl) (fgs_cons (pgs_cons (fg_name (pg_name (i := 4) scTurned.nd rfl (Or.inl rfl)) rfl) (fgs_cons (pgs_cons (fg_name (pg_name (i := 5) scTurned.nd rfl (Or.inl rfl)) rfl) (fgs_nil pgs_nil)))))))))))
    (fss_cons (pss_cons (fs_set (ps_set (i := 6) scTurned.nd rfl (Or.inl rfl) (fe_call (NK.pe_fnS h_Digit (hr.mono hl_Digit) (by rfl) (takes_of rfl rfl rfl rfl) (fa_cons (pa_cons (fe_var (pv 0)) (fa_cons (pa_cons (fe_int pe_int) ((fa_nil pa_nil))))))))) rfl)
    (fss_cons (pss_cons (fs_if (ps_if (PW.pt (fw_and (pw_and (ft_cmp (pt_cmpR (NK.op_nil (neg := true) (n := 0) (hr.mono h1k)) (fe_var (pv 5)) (fe_lst (pe_lst ((fa_nil pa_nil)))) (nomark _)) sim_nil) (pw_and1 (ft_cmp (pt_cmpR op_gt (fe_var (pv 6)) (fe_int pe_int) (nomark _)) sim_ib)))))
    (fss_cons (pss_cons (fs_set (ps_set (i := 7) scTurned.nd rfl (Or.inl rfl) (fe_call (NK.pe_fnS h_Digit (hr.mono hl_Digit) (by rfl) (takes_of rfl rfl rfl rfl) (fa_cons (pa_cons (fe_var (pv 0)) (fa_cons (pa_cons (fe_cb (pe_callB NK.call_lenSeq (by rfl) W.b_len (by decide +kernel) (fa_cons (pa_cons (fe_var (pv 5)) ((fa_nil pa_nil))))) sim_len) ((fa_nil pa_nil))))))))) rfl)
    (fss_cons (pss_cons (fs_if (ps_if (ft_cmp (pt_cmpR op_eq (fe_var (pv 6)) (fe_int pe_int) (nomark _)) sim_eq)
    (pss_one (fs_ret (ps_ret (fe_tup (pe_tup (fa_cons (pa_cons (fe_var (pv 3)) (fa_cons (pa_cons (fe_var (pv 4)) (fa_cons (pa_cons (fe_rev (pe_revL (fe_var (pv 5)))) ((fa_nil pa_nil))))))))))))) ((fss_nil pss_nil))))
    (pss_one (fs_ret (ps_ret (fe_tup (pe_tup (fa_cons (pa_cons (fe_var (pv 3)) (fa_cons (pa_cons (fe_var (pv 4)) (fa_cons (pa_cons (fe_op (pe_op NK.op_catL (fe_op (pe_op NK.op_catL (fe_sl (pe_slice sl_list (fe_var (pv 5)) (fo_none po_none) (fo_some (po_some (fe_var (pv 7))))) sim_slL) (fe_lst (pe_lst (fa_cons (pa_cons (fe_call (NK.pe_fnS h_Otherwise (hr.mono hl_Otherwise) (by rfl) (takes_of rfl rfl rfl rfl) (fa_cons (pa_cons (fe_var (pv 0)) (fa_cons (pa_cons (fe_var (pv 1)) (fa_cons (pa_cons (fe_op (pe_ix ix_list (fe_var (pv 5)) (fe_var (pv 7)) (fun _ _ => rfl)) sim_ixL) ((fa_nil pa_nil)))))))))) ((fa_nil pa_nil))))))) sim_catL) (fe_sl (pe_slice sl_list (fe_var (pv 5)) (fo_some (po_some (fe_op (pe_op op_add (fe_var (pv 7)) (fe_int pe_int)) sim_ii))) (fo_none po_none)) sim_slL)) sim_catL) ((fa_nil pa_nil))))))))))))))))) ((fss_nil pss_nil))))
    (fss_cons (pss_cons (fs_if (ps_if (PW.pt (fw_and (pw_and (ft_cmp (pt_cmpR op_in_seq (fe_var (pv 3)) (fe_tup (pe_tup (fa_cons (pa_cons (fe_str pe_str) (fa_cons (pa_cons (fe_str pe_str) ((fa_nil pa_nil)))))))) rfl) sim_in) (pw_and1 (ft_cmp (pt_cmpR op_eq (fe_var (pv 6)) (fe_int pe_int) (nomark _)) sim_eq)))))
    (pss_one (fs_ret (ps_ret (fe_tup (pe_tup (fa_cons (pa_cons (fe_dget (pe_dget (hu_of hr) (fe_disp2 (FPs.cons (FPs.cons FPs.nil)) (pe_disp (pps_cons (fe_str pe_str) (fe_str pe_str) (pps_cons (fe_str pe_str) (fe_str pe_str) (pps_nil))) rfl rfl (by simp) (by decide))) (fe_var (pv 3)) (fun _ _ => rfl))) (fa_cons (pa_cons (fe_var (pv 4)) (fa_cons (pa_cons (fe_var (pv 5)) ((fa_nil pa_nil))))))))))))) ((fss_nil pss_nil))))
    (fss_cons (pss_cons (fs_if (ps_if (ft_cmp (pt_cmpR op_isN1 (fe_var (pv 4)) (fe_non pe_non) (nomark _)) sim_isN)
    (pss_one (fs_ret (ps_ret (fe_tup (pe_tup (fa_cons (pa_cons (fe_str pe_str) (fa_cons (pa_cons (fe_op (pe_ix ix_list (fe_dget (pe_dget (hu_of hr) (fe_var (pv 1)) (fe_str pe_str) (fun _ _ => rfl))) (fe_int pe_int) (fun _ _ => rfl)) sim_ixL) (fa_cons (pa_cons (fe_lst (pe_lst ((fa_nil pa_nil)))) ((fa_nil pa_nil))))))))))))) ((fss_nil pss_nil))))
    (pss_one (fs_ret (ps_ret (fe_tup (pe_tup (fa_cons (pa_cons (fe_var (pv 3)) (fa_cons (pa_cons (fe_op (pe_ix ix_list (fe_dget (pe_dget (hu_of hr) (fe_var (pv 1)) (fe_str pe_str) (fun _ _ => rfl))) (fe_call (NK.pe_fnS h_Digit (hr.mono hl_Digit) (by rfl) (takes_of rfl rfl rfl rfl) (fa_cons (pa_cons (fe_var (pv 0)) (fa_cons (pa_cons (fe_cb (pe_callB NK.call_lenSeq (by rfl) W.b_len (by decide +kernel) (fa_cons (pa_cons (fe_dget (pe_dget (hu_of hr) (fe_var (pv 1)) (fe_str pe_str) (fun _ _ => rfl))) ((fa_nil pa_nil))))) sim_len) ((fa_nil pa_nil)))))))) (fun _ _ => rfl)) sim_ixL) (fa_cons (pa_cons (fe_var (pv 5)) ((fa_nil pa_nil))))))))))))))))))))))
/-! ### _law_otherwise -/
abbrev sOtherwise : Stmt := topS 31
theorem scOtherwise : FnScope ["_law_s", "_law_m", "_law_row_here", "_law_kind", "_law_at"] ["_law_s", "_law_m", "_law_row_here"] (defScope sOtherwise) := ⟨rfl, rfl, rfl, by decide +kernel, rfl, by decide +kernel, by decide +kernel⟩
def mOtherwise (r_Turned : Fn) : MS :=
  mSeq (mAsg (mCall FDigit (mCons (mVar 0) (mCons (mC (.int 7)) (mNil)))) (gNm 3))
  (mSeq (mIfS (mTest (mOp (oNil false) (mVar 2) (mLst (mNil))))
  (mRet (mLst (mCons (mTup (mCons (mC (.str "stop")) (mCons (mC .non) (mCons (mLst (mNil)) (mNil))))) (mNil)))) (mNext))
  (mSeq (mAsg (mCall FDigit (mCons (mVar 0) (mCons (mCB nLen (mCons (mVar 2) (mNil))) (mNil)))) (gNm 4))
  (mSeq (mIfS (mTest (mOp oEq (mVar 3) (mC (.int 0))))
  (mRet (mOp oCatL (mSl oSlL (mVar 2) mNoP (mPart (mVar 4))) (mSl oSlL (mVar 2) (mPart (mOp oAdd (mVar 4) (mC (.int 1)))) mNoP))) (mNext))
  (mSeq (mIfS (mTest (mOp oEq (mVar 3) (mC (.int 1))))
  (mRet (mOp oCatL (mOp oCatL (mSl oSlL (mVar 2) mNoP (mPart (mVar 4))) (mSl oSlL (mVar 2) (mPart (mVar 4)) (mPart (mOp oAdd (mVar 4) (mC (.int 1)))))) (mSl oSlL (mVar 2) (mPart (mVar 4)) mNoP))) (mNext))
  (mSeq (mIfS (mTest (mOp oEq (mVar 3) (mC (.int 2))))
  (mRet (mOp oCatL (mOp oCatL (mSl oSlL (mVar 2) mNoP (mPart (mVar 4))) (mUn oRev (mSl oSlL (mVar 2) (mPart (mVar 4)) (mPart (mOp oAdd (mVar 4) (mC (.int 2))))))) (mSl oSlL (mVar 2) (mPart (mOp oAdd (mVar 4) (mC (.int 2)))) mNoP))) (mNext))
  (mRet (mOp oCatL (mOp oCatL (mSl oSlL (mVar 2) mNoP (mPart (mVar 4))) (mLst (mCons (mCall r_Turned (mCons (mVar 0) (mCons (mVar 1) (mCons (mOp oIxL (mVar 2) (mVar 4)) (mNil))))) (mNil)))) (mSl oSlL (mVar 2) (mPart (mOp oAdd (mVar 4) (mC (.int 1)))) mNoP))))))))
def FOtherwise (r_Turned : Fn) : Fn := runFn 3 5 (mOtherwise r_Turned)
set_option maxHeartbeats 4000000 in
theorem okOtherwise {P : Program} {w : World} {K : PySem.W.Frag} {mg : Str → Option Value} {base : Heap} {f : Addr} {fd : FuncData} {k : Nat} {r_Turned : Fn} (W : Wd K mg) (F : FnP K "_law_otherwise" "_law_otherwise" sOtherwise f fd) {l_Digit : Nat} (h_Digit : NK.CalX P w K mg base l_Digit "_law_digit" ["_law_state_here", "_law_base"] (spFn (TT K) FDigit)) (hl_Digit : l_Digit ≤ k) {l_Turned : Nat} (h_Turned : NK.CalX P w K mg base l_Turned "_law_turned" ["_law_s", "_law_m", "_law_one_here"] (spFn (TT K) r_Turned)) (hl_Turned : l_Turned ≤ k) (h1k : 1 ≤ k) : FnOk P w K mg base (L2.CX P w) (k + 1) f fd ["_law_s", "_law_m", "_law_row_here"] (spFn (TT K) (FOtherwise r_Turned)) := by
  refine F.ok (CX := L2.CX P w) scOtherwise spFn_len (fun cdv A outer st H vs Q E hr h => ⟨FS ⟨TT K, none, fun cls d _ H => E cls d H⟩ (mOtherwise r_Turned), ?_, fn_enter (N := ["_law_s", "_law_m", "_law_row_here", "_law_kind", "_law_at"]) h⟩)
  unfold mOtherwise
  exact fss_cons (pss_cons (fs_set (ps_set (i := 3) scOtherwise.nd rfl (Or.inl rfl) (fe_call (NK.pe_fnS h_Digit (hr.mono hl_Digit) (by rfl) (takes_of rfl rfl rfl rfl) (fa_cons (pa_cons (fe_var (pv 0)) (fa_cons (pa_cons (fe_int pe_int) ((fa_nil pa_nil))))))))) rfl)
    (fss_cons (pss_cons (fs_if (ps_if (ft_cmp (pt_cmpR (NK.op_nil (neg := false) (n := 0) (hr.mono h1k)) (fe_var (pv 2)) (fe_lst (pe_lst ((fa_nil pa_nil)))) (nomark _)) sim_nil)
    (pss_one (fs_ret (ps_ret (fe_lst (pe_lst (fa_cons (pa_cons (fe_tup (pe_tup (fa_cons (pa_cons (fe_str pe_str) (fa_cons (pa_cons (fe_non pe_non) (fa_cons (pa_cons (fe_lst (pe_lst ((fa_nil pa_nil)))) ((fa_nil pa_nil)))))))))) ((fa_nil pa_nil))))))))) ((fss_nil pss_nil))))
    (fss_cons (pss_cons (fs_set (ps_set (i := 4) scOtherwise.nd rfl (Or.inl rfl) (fe_call (NK.pe_fnS h_Digit (hr.mono hl_Digit) (by rfl) (takes_of rfl rfl rfl rfl) (fa_cons (pa_cons (fe_var (pv 0)) (fa_cons (pa_cons (fe_cb (pe_callB NK.call_lenSeq (by rfl) W.b_len (by decide +kernel) (fa_cons (pa_cons (fe_var (pv 2)) ((fa_nil pa_nil))))) sim_len) ((fa_nil pa_nil))))))))) rfl)
    (fss_cons (pss_cons (fs_if (ps_if (ft_cmp (pt_cmpR op_eq (fe_var (pv 3)) (fe_int pe_int) (nomark _)) sim_eq)
    (pss_one (fs_ret (ps_ret (fe_op (pe_op NK.op_catL (fe_sl (pe_slice sl_list (fe_var (pv 2)) (fo_none po_none) (fo_some (po_some (fe_var (pv 4))))) sim_slL) (fe_sl (pe_slice sl_list (fe_var (pv 2)) (fo_some (po_some (fe_op (pe_op op_add (fe_var (pv 4)) (fe_int pe_int)) sim_ii))) (fo_none po_none)) sim_slL)) sim_catL)))) ((fss_nil pss_nil))))
    (fss_cons (pss_cons (fs_if (ps_if (ft_cmp (pt_cmpR op_eq (fe_var (pv 3)) (fe_int pe_int) (nomark _)) sim_eq)
    (pss_one (fs_ret (ps_ret (fe_op (pe_op NK.op_catL (fe_op (pe_op NK.op_catL (fe_sl (pe_slice sl_list (fe_var (pv 2)) (fo_none po_none) (fo_some (po_some (fe_var (pv 4))))) sim_slL) (fe_sl (pe_slice sl_list (fe_var (pv 2)) (fo_some (po_some (fe_var (pv 4)))) (fo_some (po_some (fe_op (pe_op op_add (fe_var (pv 4)) (fe_int pe_int)) sim_ii)))) sim_slL)) sim_catL) (fe_sl (pe_slice sl_list (fe_var (pv 2)) (fo_some (po_some (fe_var (pv 4)))) (fo_none po_none)) sim_slL)) sim_catL)))) ((fss_nil pss_nil))))
    (fss_cons (pss_cons (fs_if (ps_if (ft_cmp (pt_cmpR op_eq (fe_var (pv 3)) (fe_int pe_int) (nomark _)) sim_eq)
    (pss_one (fs_ret (ps_ret (fe_op (pe_op NK.op_catL (fe_op (pe_op NK.op_catL (fe_sl (pe_slice sl_list (fe_var (pv 2)) (fo_none po_none) (fo_some (po_some (fe_var (pv 4))))) sim_slL) (fe_rev (pe_revL (fe_sl (pe_slice sl_list (fe_var (pv 2)) (fo_some (po_some (fe_var (pv 4)))) (fo_some (po_some (fe_op (pe_op op_add (fe_var (pv 4)) (fe_int pe_int)) sim_ii)))) sim_slL)))) sim_catL) (fe_sl (pe_slice sl_list (fe_var (pv 2)) (fo_some (po_some (fe_op (pe_op op_add (fe_var (pv 4)) (fe_int pe_int)) sim_ii))) (fo_none po_none)) sim_slL)) sim_catL)))) ((fss_nil pss_nil))))
    (pss_one (fs_ret (ps_ret (fe_op (pe_op NK.op_catL (fe_op (pe_op NK.op_catL (fe_sl (pe_slice sl_list (fe_var (pv 2)) (fo_none po_none) (fo_some (po_some (fe_var (pv 4))))) sim_slL) (fe_lst (pe_lst (fa_cons (pa_cons (fe_call (NK.pe_fnS h_Turned (hr.mono hl_Turned) (by rfl) (takes_of rfl rfl rfl rfl) (fa_cons (pa_cons (fe_var (pv 0)) (fa_cons (pa_cons (fe_var (pv 1)) (fa_cons (pa_cons (fe_op (pe_ix ix_list (fe_var (pv 2)) (fe_var (pv 4)) (fun _ _ => rfl)) sim_ixL) ((fa_nil pa_nil)))))))))) ((fa_nil pa_nil))))))) sim_catL) (fe_sl (pe_slice sl_list (fe_var (pv 2)) (fo_some (po_some (fe_op (pe_op op_add (fe_var (pv 4)) (fe_int pe_int)) sim_ii))) (fo_none po_none)) sim_slL)) sim_catL)))))))))))))))
def othN : Nat → Fn
  | 0 => fnNo
  | n + 1 => FOtherwise (FTurned (othN n))
/-! ### _law_alike_right -/
abbrev sAlike : Stmt := topS 32
theorem scAlike : FnScope ["_law_one_here", "_law_other", "_law_due", "_law_mine", "_law_its", "_law_near", "_law_far"] ["_law_one_here", "_law_other"] (defScope sAlike) := ⟨rfl, rfl, rfl, by decide +kernel, rfl, by decide +kernel, by decide +kernel⟩
def mAlike : MS :=
  mSeq (mAsg (mOp (oQ false (qT E_Z 10 false)) (mVar 0) (mVar 1)) (gNm 2))
  (mSeq (mAsg (mCall (bodyN 6) (mCons (mVar 0) (mNil))) (gNm 3))
  (mSeq (mAsg (mCall (bodyN 6) (mCons (mVar 1) (mNil))) (gNm 4))
  (mSeq (mIfS (mOr (mTest (mOp oNe (mOp (oQ false (qT E_Z 10 false)) (mVar 3) (mVar 4)) (mVar 2))) (mOr (mTest (mOp oNe (mOp (oQ false (qT E_Z 10 false)) (mVar 4) (mVar 3)) (mVar 2))) (mOr (mTest (mOp oEq (mOp (oQ true (qT E_Z 10 true)) (mVar 3) (mVar 4)) (mVar 2))) (mNot (mTest (mOp (oQ false (qT E_Z 10 false)) (mVar 3) (mCall (bodyN 6) (mCons (mVar 0) (mNil)))))))))
  (mRet (mC (.bl false))) (mNext))
  (mRet (mOp (oQ false (qT E_Z 10 false)) (mLc (mItA (mCons (mVar 0) (mCons (mVar 1) (mNil))) isZip) (gTp 2 (gsCons (gNm 5) (gsCons (gNm 6) (gsNil)))) (mYes) (mOp (oQ false (qT E_Z 10 false)) (mCall (FOne (bodyN 6)) (mCons (mVar 5) (mNil))) (mCall (FOne (bodyN 6)) (mCons (mVar 6) (mNil)))) [5, 6]) (mLc (mItA (mCons (mVar 0) (mCons (mVar 1) (mNil))) isZip) (gTp 2 (gsCons (gNm 5) (gsCons (gNm 6) (gsNil)))) (mYes) (mOp (oQ false (qT E_Z 10 false)) (mVar 5) (mVar 6)) [5, 6]))))))
def FAlike : Fn := runFn 2 7 (mAlike)
set_option maxHeartbeats 4000000 in
theorem okAlike {P : Program} {w : World} {K : PySem.W.Frag} {mg : Str → Option Value} {base : Heap} {f : Addr} {fd : FuncData} {k : Nat} (W : Wd K mg) (F : FnP K "_law_alike_right" "_law_alike_right" sAlike f fd) {l_LBody : Nat} (h_LBody : NK.CalX P w K mg base l_LBody "_law_body" ["_law_row_here"] (spFn (TT K) (bodyN 6))) (hl_LBody : l_LBody ≤ k) {l_One : Nat} (h_One : NK.CalX P w K mg base l_One "_law_one" ["_law_one_here"] (spFn (TT K) (FOne (bodyN 6)))) (hl_One : l_One ≤ k) {l_eZ : Nat} (e_Z : EqOk P w K mg base (TT K) E_Z l_eZ) (hl_eZ : l_eZ + 11 ≤ k) : FnOk P w K mg base (L2.CX P w) (k + 1) f fd ["_law_one_here", "_law_other"] (spFn (TT K) (FAlike)) := by
  refine F.ok (CX := L2.CX P w) scAlike spFn_len (fun cdv A outer st H vs Q E hr h => ⟨FS ⟨TT K, none, fun cls d _ H => E cls d H⟩ (mAlike), ?_, fn_enter (N := ["_law_one_here", "_law_other", "_law_due", "_law_mine", "_law_its", "_law_near", "_law_far"]) h⟩)
  unfold mAlike
  exact fss_cons (pss_cons (fs_set (ps_set (i := 2) scAlike.nd rfl (Or.inl rfl) (fe_op (pe_cmpR (op_QE (n := 10) (neg := false) e_Z (hr.mono hl_eZ) rfl) (fe_var (pv 0)) (fe_var (pv 1)) (nomark _)) sim_QE)) rfl)
    (fss_cons (pss_cons (fs_set (ps_set (i := 3) scAlike.nd rfl (Or.inl rfl) (fe_call (NK.pe_fnS h_LBody (hr.mono hl_LBody) (by rfl) (takes_of rfl rfl rfl rfl) (fa_cons (pa_cons (fe_var (pv 0)) ((fa_nil pa_nil))))))) rfl)
    (fss_cons (pss_cons (fs_set (ps_set (i := 4) scAlike.nd rfl (Or.inl rfl) (fe_call (NK.pe_fnS h_LBody (hr.mono hl_LBody) (by rfl) (takes_of rfl rfl rfl rfl) (fa_cons (pa_cons (fe_var (pv 1)) ((fa_nil pa_nil))))))) rfl)
    (fss_cons (pss_cons (fs_if (ps_if (PW.pt (fw_or (pw_or (ft_cmp (pt_cmpR op_ne (fe_op (pe_cmpR (op_QE (n := 10) (neg := false) e_Z (hr.mono hl_eZ) rfl) (fe_var (pv 3)) (fe_var (pv 4)) (nomark _)) sim_QE) (fe_var (pv 2)) (nomark _)) sim_ne) (fw_or (pw_or (ft_cmp (pt_cmpR op_ne (fe_op (pe_cmpR (op_QE (n := 10) (neg := false) e_Z (hr.mono hl_eZ) rfl) (fe_var (pv 4)) (fe_var (pv 3)) (nomark _)) sim_QE) (fe_var (pv 2)) (nomark _)) sim_ne) (fw_or (pw_or (ft_cmp (pt_cmpR op_eq (fe_op (pe_cmpR (op_QE (n := 10) (neg := true) e_Z (hr.mono hl_eZ) rfl) (fe_var (pv 3)) (fe_var (pv 4)) (nomark _)) sim_QE) (fe_var (pv 2)) (nomark _)) sim_eq) (pw_or1 (ft_not (pt_not (ft_cmp (pt_cmpR (op_QE (n := 10) (neg := false) e_Z (hr.mono hl_eZ) rfl) (fe_var (pv 3)) (fe_call (NK.pe_fnS h_LBody (hr.mono hl_LBody) (by rfl) (takes_of rfl rfl rfl rfl) (fa_cons (pa_cons (fe_var (pv 0)) ((fa_nil pa_nil)))))) (nomark _)) sim_QE)))))))))))
    (pss_one (fs_ret (ps_ret (fe_bl pe_bl)))) ((fss_nil pss_nil))))
    (pss_one (fs_ret (ps_ret (fe_op (pe_cmpR (op_QE (n := 10) (neg := false) e_Z (hr.mono hl_eZ) rfl) (fe_lc (pe_lc (own := [("_law_near", 5), ("_law_far", 6)]) rfl scAlike.nd (fi_zip (RZ.pi_zipA (by rfl) W.b_zip (fa_cons (pa_cons (fe_var (pv 0)) (fa_cons (pa_cons (fe_var (pv 1)) ((fa_nil pa_nil)))))))) (blkOk_by (own := [("_law_near", 5), ("_law_far", 6)]) (N := ["_law_one_here", "_law_other", "_law_due", "_law_mine", "_law_its", "_law_near", "_law_far"]) (sc := defScope sAlike) (by decide +kernel)) (fun _ _ _ _ _ => pg_tup rfl (pgs_cons (pg_name (i := 5) scAlike.nd rfl (Or.inl rfl)) (pgs_cons (pg_name (i := 6) scAlike.nd rfl (Or.inl rfl)) (pgs_nil)))) (fun _ _ _ _ _ => (ft_yes pts_nil)) (fun _ _ _ _ _ => fe_op (pe_cmpR (op_QE (n := 10) (neg := false) e_Z (hr.mono hl_eZ) rfl) (fe_call (NK.pe_fnS h_One (hr.mono hl_One) (by rfl) takes0 (fa_cons (pa_cons (fe_var (pv 5)) ((fa_nil pa_nil)))))) (fe_call (NK.pe_fnS h_One (hr.mono hl_One) (by rfl) takes0 (fa_cons (pa_cons (fe_var (pv 6)) ((fa_nil pa_nil)))))) (nomark _)) sim_QE)) (sg_tup (sgs_cons (sg_name rfl) (sgs_cons (sg_name rfl) sgs_nil))) (fills_tup (fills_cons fills_name (fills_cons fills_name fills_nil))) (by decide) rfl) (fe_lc (pe_lc (own := [("_law_near", 5), ("_law_far", 6)]) rfl scAlike.nd (fi_zip (RZ.pi_zipA (by rfl) W.b_zip (fa_cons (pa_cons (fe_var (pv 0)) (fa_cons (pa_cons (fe_var (pv 1)) ((fa_nil pa_nil)))))))) (blkOk_by (own := [("_law_near", 5), ("_law_far", 6)]) (N := ["_law_one_here", "_law_other", "_law_due", "_law_mine", "_law_its", "_law_near", "_law_far"]) (sc := defScope sAlike) (by decide +kernel)) (fun _ _ _ _ _ => pg_tup rfl (pgs_cons (pg_name (i := 5) scAlike.nd rfl (Or.inl rfl)) (pgs_cons (pg_name (i := 6) scAlike.nd rfl (Or.inl rfl)) (pgs_nil)))) (fun _ _ _ _ _ => (ft_yes pts_nil)) (fun _ _ _ _ _ => fe_op (pe_cmpR (op_QE (n := 10) (neg := false) e_Z (hr.mono hl_eZ) rfl) (fe_var (pv 5)) (fe_var (pv 6)) (nomark _)) sim_QE)) (sg_tup (sgs_cons (sg_name rfl) (sgs_cons (sg_name rfl) sgs_nil))) (fills_tup (fills_cons fills_name (fills_cons fills_name fills_nil))) (by decide) rfl) (nomark _)) sim_QE)))))))))))
/-! ### _law_shared_right -/
abbrev sShared : Stmt := topS 33
theorem scShared : FnScope ["_law_row_here", "_law_near", "_law_part", "_law_some", "_law_stop", "_law_inside", "_law_rows", "_law_one_here"] ["_law_row_here"] (defScope sShared) := ⟨rfl, rfl, rfl, by decide +kernel, rfl, by decide +kernel, by decide +kernel⟩
def mShared : MS :=
  mSeq (mAsg (mCall (FOne (bodyN 6)) (mCons (mOp oIxL (mVar 0) (mC (.int 0))) (mNil))) (gNm 1))
  (mSeq (mAsg (mMake 8 1 FBodyI (mCons (mLst (mCons (mVar 1) (mNil))) (mNil))) (gNm 2))
  (mSeq (mAsg (mLst (mCons (mMake 8 1 FBodyI (mCons (mLst (mCons (mVar 1) (mCons (mMake0 7) (mCons (mVar 1) (mNil))))) (mNil))) (mCons (mMake 8 1 FBodyI (mCons (mLst (mCons (mMake 3 2 FEitherI (mCons (mVar 2) (mCons (mVar 2) (mNil)))) (mCons (mMake 2 2 FHoldI (mCons (mC (.str "a")) (mCons (mVar 2) (mNil)))) (mCons (mMake 4 1 FRoundsI (mCons (mVar 2) (mNil))) (mNil))))) (mNil))) (mNil)))) (gNm 3))
  (mSeq (mAsg (mTup (mCons (mC (.str "stop")) (mCons (mC .non) (mCons (mLst (mNil)) (mNil))))) (gNm 4))
  (mSeq (mAsg (mLst (mCons (mLst (mCons (mOp oIxL (mVar 0) (mC (.int 0))) (mNil))) (mCons (mLst (mCons (mOp oIxL (mVar 0) (mC (.int 0))) (mNil))) (mNil)))) (gNm 5))
  (mSeq (mAsg (mLst (mCons (mLst (mCons (mOp oIxL (mVar 0) (mC (.int 0))) (mCons (mVar 4) (mCons (mOp oIxL (mVar 0) (mC (.int 0))) (mNil))))) (mCons (mLst (mCons (mTup (mCons (mC (.str "either")) (mCons (mC .non) (mCons (mVar 5) (mNil))))) (mCons (mTup (mCons (mC (.str "hold")) (mCons (mC (.str "a")) (mCons (mSl oSlL (mVar 5) mNoP (mPart (mC (.int 1)))) (mNil))))) (mCons (mTup (mCons (mC (.str "rounds")) (mCons (mC .non) (mCons (mSl oSlL (mVar 5) mNoP (mPart (mC (.int 1)))) (mNil))))) (mNil))))) (mNil)))) (gNm 6))
  (mRet (mAndV (mOp (oQ false (qT E_Z 2 false)) (mVar 3) (mLc (mIt (mVar 6) isLst) (gNm 7) (mYes) (mCall (bodyN 6) (mCons (mVar 7) (mNil))) [7])) (mOp (oQ true (qT E_Z 2 true)) (mOp oIxL (mVar 3) (mC (.int 0))) (mOp oIxL (mVar 3) (mC (.int 1)))))))))))
def FShared : Fn := runFn 1 8 (mShared)
set_option maxHeartbeats 4000000 in
theorem okShared {P : Program} {w : World} {K : PySem.W.Frag} {mg : Str → Option Value} {base : Heap} {f : Addr} {fd : FuncData} {k : Nat} (W : Wd K mg) (F : FnP K "_law_shared_right" "_law_shared_right" sShared f fd) {l_One : Nat} (h_One : NK.CalX P w K mg base l_One "_law_one" ["_law_one_here"] (spFn (TT K) (FOne (bodyN 6)))) (hl_One : l_One ≤ k) {l_LBody : Nat} (h_LBody : NK.CalX P w K mg base l_LBody "_law_body" ["_law_row_here"] (spFn (TT K) (bodyN 6))) (hl_LBody : l_LBody ≤ k) {lc_Body : Nat} (hc_Body : NK.CalK P w K mg base (L2.CX P w) lc_Body "Body" ((TT K).ca 8) ["self", "statements"] (spFn (TT K) FBodyI)) (hlc_Body : lc_Body + 1 ≤ k) {lc_Either : Nat} (hc_Either : NK.CalK P w K mg base (L2.CX P w) lc_Either "Either" ((TT K).ca 3) ["self", "one", "other"] (spFn (TT K) FEitherI)) (hlc_Either : lc_Either + 1 ≤ k) {lc_Hold : Nat} (hc_Hold : NK.CalK P w K mg base (L2.CX P w) lc_Hold "Hold" ((TT K).ca 2) ["self", "key", "body"] (spFn (TT K) FHoldI)) (hlc_Hold : lc_Hold + 1 ≤ k) {lc_Rounds : Nat} (hc_Rounds : NK.CalK P w K mg base (L2.CX P w) lc_Rounds "Rounds" ((TT K).ca 4) ["self", "body"] (spFn (TT K) FRoundsI)) (hlc_Rounds : lc_Rounds + 1 ≤ k) {l_eZ : Nat} (e_Z : EqOk P w K mg base (TT K) E_Z l_eZ) (hl_eZ : l_eZ + 3 ≤ k) : FnOk P w K mg base (L2.CX P w) (k + 1) f fd ["_law_row_here"] (spFn (TT K) (FShared)) := by
  refine F.ok (CX := L2.CX P w) scShared spFn_len (fun cdv A outer st H vs Q E hr h => ⟨FS ⟨TT K, none, fun cls d _ H => E cls d H⟩ (mShared), ?_, fn_enter (N := ["_law_row_here", "_law_near", "_law_part", "_law_some", "_law_stop", "_law_inside", "_law_rows", "_law_one_here"]) h⟩)
  unfold mShared
  exact fss_cons (pss_cons (fs_set (ps_set (i := 1) scShared.nd rfl (Or.inl rfl) (fe_call (NK.pe_fnS h_One (hr.mono hl_One) (by rfl) (takes_of rfl rfl rfl rfl) (fa_cons (pa_cons (fe_op (pe_ix ix_list (fe_var (pv 0)) (fe_int pe_int) (fun _ _ => rfl)) sim_ixL) ((fa_nil pa_nil))))))) rfl)
    (fss_cons (pss_cons (fs_set (ps_set (i := 2) scShared.nd rfl (Or.inl rfl) (fe_make (NK.pe_makeS hc_Body (hr.mono hlc_Body) rfl (fun σ => passAt (takes_of rfl rfl rfl rfl) σ) (fa_cons (pa_cons (fe_lst (pe_lst (fa_cons (pa_cons (fe_var (pv 1)) ((fa_nil pa_nil)))))) ((fa_nil pa_nil))))) rfl)) rfl)
    (fss_cons (pss_cons (fs_set (ps_set (i := 3) scShared.nd rfl (Or.inl rfl) (fe_lst (pe_lst (fa_cons (pa_cons (fe_make (NK.pe_makeS hc_Body (hr.mono hlc_Body) rfl (fun σ => passAt (takes_of rfl rfl rfl rfl) σ) (fa_cons (pa_cons (fe_lst (pe_lst (fa_cons (pa_cons (fe_var (pv 1)) (fa_cons (pa_cons (fe_make0 (NK.pe_makeO W.mk_Stop rfl W.mg_Stop) rfl) (fa_cons (pa_cons (fe_var (pv 1)) ((fa_nil pa_nil)))))))))) ((fa_nil pa_nil))))) rfl) (fa_cons (pa_cons (fe_make (NK.pe_makeS hc_Body (hr.mono hlc_Body) rfl (fun σ => passAt (takes_of rfl rfl rfl rfl) σ) (fa_cons (pa_cons (fe_lst (pe_lst (fa_cons (pa_cons (fe_make (NK.pe_makeS hc_Either (hr.mono hlc_Either) rfl (fun σ => passAt (takes_of rfl rfl rfl rfl) σ) (fa_cons (pa_cons (fe_var (pv 2)) (fa_cons (pa_cons (fe_var (pv 2)) ((fa_nil pa_nil))))))) rfl) (fa_cons (pa_cons (fe_make (NK.pe_makeS hc_Hold (hr.mono hlc_Hold) rfl (fun σ => passAt (takes_of rfl rfl rfl rfl) σ) (fa_cons (pa_cons (fe_str pe_str) (fa_cons (pa_cons (fe_var (pv 2)) ((fa_nil pa_nil))))))) rfl) (fa_cons (pa_cons (fe_make (NK.pe_makeS hc_Rounds (hr.mono hlc_Rounds) rfl (fun σ => passAt (takes_of rfl rfl rfl rfl) σ) (fa_cons (pa_cons (fe_var (pv 2)) ((fa_nil pa_nil))))) rfl) ((fa_nil pa_nil)))))))))) ((fa_nil pa_nil))))) rfl) ((fa_nil pa_nil))))))))) rfl)
    (fss_cons (pss_cons (fs_set (ps_set (i := 4) scShared.nd rfl (Or.inl rfl) (fe_tup (pe_tup (fa_cons (pa_cons (fe_str pe_str) (fa_cons (pa_cons (fe_non pe_non) (fa_cons (pa_cons (fe_lst (pe_lst ((fa_nil pa_nil)))) ((fa_nil pa_nil))))))))))) rfl)
    (fss_cons (pss_cons (fs_set (ps_set (i := 5) scShared.nd rfl (Or.inl rfl) (fe_lst (pe_lst (fa_cons (pa_cons (fe_lst (pe_lst (fa_cons (pa_cons (fe_op (pe_ix ix_list (fe_var (pv 0)) (fe_int pe_int) (fun _ _ => rfl)) sim_ixL) ((fa_nil pa_nil)))))) (fa_cons (pa_cons (fe_lst (pe_lst (fa_cons (pa_cons (fe_op (pe_ix ix_list (fe_var (pv 0)) (fe_int pe_int) (fun _ _ => rfl)) sim_ixL) ((fa_nil pa_nil)))))) ((fa_nil pa_nil))))))))) rfl)
    (fss_cons (pss_cons (fs_set (ps_set (i := 6) scShared.nd rfl (Or.inl rfl) (fe_lst (pe_lst (fa_cons (pa_cons (fe_lst (pe_lst (fa_cons (pa_cons (fe_op (pe_ix ix_list (fe_var (pv 0)) (fe_int pe_int) (fun _ _ => rfl)) sim_ixL) (fa_cons (pa_cons (fe_var (pv 4)) (fa_cons (pa_cons (fe_op (pe_ix ix_list (fe_var (pv 0)) (fe_int pe_int) (fun _ _ => rfl)) sim_ixL) ((fa_nil pa_nil)))))))))) (fa_cons (pa_cons (fe_lst (pe_lst (fa_cons (pa_cons (fe_tup (pe_tup (fa_cons (pa_cons (fe_str pe_str) (fa_cons (pa_cons (fe_non pe_non) (fa_cons (pa_cons (fe_var (pv 5)) ((fa_nil pa_nil)))))))))) (fa_cons (pa_cons (fe_tup (pe_tup (fa_cons (pa_cons (fe_str pe_str) (fa_cons (pa_cons (fe_str pe_str) (fa_cons (pa_cons (fe_sl (pe_slice sl_list (fe_var (pv 5)) (fo_none po_none) (fo_some (po_some (fe_int pe_int)))) sim_slL) ((fa_nil pa_nil)))))))))) (fa_cons (pa_cons (fe_tup (pe_tup (fa_cons (pa_cons (fe_str pe_str) (fa_cons (pa_cons (fe_non pe_non) (fa_cons (pa_cons (fe_sl (pe_slice sl_list (fe_var (pv 5)) (fo_none po_none) (fo_some (po_some (fe_int pe_int)))) sim_slL) ((fa_nil pa_nil)))))))))) ((fa_nil pa_nil)))))))))) ((fa_nil pa_nil))))))))) rfl)
    (pss_one (fs_ret (ps_ret (fe_andV (pe_and (fe_op (pe_cmpR (op_QE (n := 2) (neg := false) e_Z (hr.mono hl_eZ) rfl) (fe_var (pv 3)) (fe_lc (pe_lc (own := [("_law_one_here", 7)]) rfl scShared.nd (fi_lst (pi_list (fe_var (pv 6)))) (blkOk_by (own := [("_law_one_here", 7)]) (N := ["_law_row_here", "_law_near", "_law_part", "_law_some", "_law_stop", "_law_inside", "_law_rows", "_law_one_here"]) (sc := defScope sShared) (by decide +kernel)) (fun _ _ _ _ _ => pg_name (i := 7) scShared.nd rfl (Or.inl rfl)) (fun _ _ _ _ _ => (ft_yes pts_nil)) (fun _ _ _ _ _ => fe_call (NK.pe_fnS h_LBody (hr.mono hl_LBody) (by rfl) takes0 (fa_cons (pa_cons (fe_var (pv 7)) ((fa_nil pa_nil))))))) (sg_name rfl) fills_name (by decide) rfl) (nomark _)) sim_QE) (pe_one (fe_op (pe_cmpR (op_QE (n := 2) (neg := true) e_Z (hr.mono hl_eZ) rfl) (fe_op (pe_ix ix_list (fe_var (pv 3)) (fe_int pe_int) (fun _ _ => rfl)) sim_ixL) (fe_op (pe_ix ix_list (fe_var (pv 3)) (fe_int pe_int) (fun _ _ => rfl)) sim_ixL) (nomark _)) sim_QE))))))))))))))))))
/-! ### _law_thousands_right -/
abbrev sThousands : Stmt := topS 34
theorem scThousands : FnScope ["_law_s", "_law_size", "_law_kind", "_law_found", "_law_name_here", "_law_body_here", "_law_k", "_law_one_here", "_law_other", "_law_third"] ["_law_s"] (defScope sThousands) := ⟨rfl, rfl, rfl, by decide +kernel, rfl, by decide +kernel, by decide +kernel⟩
def mThousands : MS :=
  mSeq (mPar3 1 2 3 (mCons (mOp oAdd (mC (.int 1100)) (mCall FDigit (mCons (mVar 0) (mCons (mC (.int 300)) (mNil))))) (mCons (mCall FDigit (mCons (mVar 0) (mCons (mC (.int 4)) (mNil)))) (mCons (mLstC (mNil)) (mNil)))))
  (mSeq (mFor (mIt (mLst (mCons (mC (.str "a")) (mCons (mC (.str "a")) (mCons (mC (.str "b")) (mNil))))) isLst) (gNm 4)
  (mSeq (mAsg (mMake 8 1 FBodyI (mCons (mLst (mCons (mMake 6 1 FMarkI (mCons (mVar 4) (mNil))) (mNil))) (mNil))) (gNm 5))
  (mSeq (mFor (mItA (mCons (mVar 1) (mNil)) isRng1) (gNm 6)
  (mSeq (mAsg (mLst (mCons (mMake 2 2 FHoldI (mCons (mC (.str "k")) (mCons (mVar 5) (mNil)))) (mCons (mMake 4 1 FRoundsI (mCons (mVar 5) (mNil))) (mCons (mMake 3 2 FEitherI (mCons (mVar 5) (mCons (mMake 8 1 FBodyI (mCons (mLst (mNil)) (mNil))) (mNil)))) (mCons (mMake 3 2 FEitherI (mCons (mMake 8 1 FBodyI (mCons (mLst (mCons (mMake0 7) (mNil))) (mNil))) (mCons (mVar 5) (mNil)))) (mNil)))))) (gNm 7))
  (mAsg (mMake 8 1 FBodyI (mCons (mLst (mCons (mOp oIxL (mVar 7) (mOp oMod (mCB nInt (mCons (mOp oAdd (mVar 2) (mOp oDiv (mVar 6) (mC (.int 7)))) (mNil))) (mC (.int 4)))) (mNil))) (mNil))) (gNm 5))))
  (mDrop (mM fAppend (mVar 3) (mCons (mVar 5) (mNil)))))))
  (mSeq (mAsg (mVar 3) (gUl 3 (gsCons (gNm 7) (gsCons (gNm 8) (gsCons (gNm 9) (gsNil))))))
  (mSeq (mIfS (mOr (mNot (mTest (mOp (oQ false (qT E_Z 2 false)) (mVar 7) (mVar 8)))) (mOr (mTest (mOp (oQ true (qT E_Z 2 true)) (mVar 7) (mVar 8))) (mOr (mTest (mOp (oQ false (qT E_Z 2 false)) (mVar 7) (mVar 9))) (mNot (mTest (mOp (oQ true (qT E_Z 2 true)) (mVar 9) (mVar 7)))))))
  (mRet (mC (.bl false))) (mNext))
  (mRet (mAndV (mOp (oQ false (qT E_Z 2 false)) (mMake 4 1 FRoundsI (mCons (mVar 7) (mNil))) (mMake 4 1 FRoundsI (mCons (mVar 8) (mNil)))) (mAndV (mOp (oQ true (qT E_Z 2 true)) (mMake 4 1 FRoundsI (mCons (mVar 7) (mNil))) (mMake 4 1 FRoundsI (mCons (mVar 9) (mNil)))) (mOp (oQ true (qT E_Z 2 true)) (mVar 7) (mUn (oFld (tabN ix_row)) (mVar 7)))))))))
def FThousands : Fn := runFn 1 10 (mThousands)
set_option maxHeartbeats 4000000 in
theorem okThousands {P : Program} {w : World} {K : PySem.W.Frag} {mg : Str → Option Value} {base : Heap} {f : Addr} {fd : FuncData} {k : Nat} (W : Wd K mg) (F : FnP K "_law_thousands_right" "_law_thousands_right" sThousands f fd) {l_Digit : Nat} (h_Digit : NK.CalX P w K mg base l_Digit "_law_digit" ["_law_state_here", "_law_base"] (spFn (TT K) FDigit)) (hl_Digit : l_Digit ≤ k) {lc_Body : Nat} (hc_Body : NK.CalK P w K mg base (L2.CX P w) lc_Body "Body" ((TT K).ca 8) ["self", "statements"] (spFn (TT K) FBodyI)) (hlc_Body : lc_Body + 1 ≤ k) {lc_Mark : Nat} (hc_Mark : NK.CalK P w K mg base (L2.CX P w) lc_Mark "Mark" ((TT K).ca 6) ["self", "name"] (spFn (TT K) FMarkI)) (hlc_Mark : lc_Mark + 1 ≤ k) {lc_Hold : Nat} (hc_Hold : NK.CalK P w K mg base (L2.CX P w) lc_Hold "Hold" ((TT K).ca 2) ["self", "key", "body"] (spFn (TT K) FHoldI)) (hlc_Hold : lc_Hold + 1 ≤ k) {lc_Rounds : Nat} (hc_Rounds : NK.CalK P w K mg base (L2.CX P w) lc_Rounds "Rounds" ((TT K).ca 4) ["self", "body"] (spFn (TT K) FRoundsI)) (hlc_Rounds : lc_Rounds + 1 ≤ k) {lc_Either : Nat} (hc_Either : NK.CalK P w K mg base (L2.CX P w) lc_Either "Either" ((TT K).ca 3) ["self", "one", "other"] (spFn (TT K) FEitherI)) (hlc_Either : lc_Either + 1 ≤ k) {l_eZ : Nat} (e_Z : EqOk P w K mg base (TT K) E_Z l_eZ) (hl_eZ : l_eZ + 3 ≤ k) : FnOk P w K mg base (L2.CX P w) (k + 1) f fd ["_law_s"] (spFn (TT K) (FThousands)) := by
  refine F.ok (CX := L2.CX P w) scThousands spFn_len (fun cdv A outer st H vs Q E hr h => ⟨FS ⟨TT K, none, fun cls d _ H => E cls d H⟩ (mThousands), ?_, fn_enter (N := ["_law_s", "_law_size", "_law_kind", "_law_found", "_law_name_here", "_law_body_here", "_law_k", "_law_one_here", "_law_other", "_law_third"]) h⟩)
  unfold mThousands
  exact fss_cons (pss_cons (fs_par3 (ps_par3 rfl scThousands.nd rfl rfl rfl (by decide) (by decide) (by decide) rfl rfl rfl (fa_cons (pa_cons (fe_op (pe_op op_add (fe_int pe_int) (fe_call (NK.pe_fnS h_Digit (hr.mono hl_Digit) (by rfl) (takes_of rfl rfl rfl rfl) (fa_cons (pa_cons (fe_var (pv 0)) (fa_cons (pa_cons (fe_int pe_int) ((fa_nil pa_nil))))))))) sim_ii) (fa_cons (pa_cons (fe_call (NK.pe_fnS h_Digit (hr.mono hl_Digit) (by rfl) (takes_of rfl rfl rfl rfl) (fa_cons (pa_cons (fe_var (pv 0)) (fa_cons (pa_cons (fe_int pe_int) ((fa_nil pa_nil)))))))) (fa_cons (pa_cons (fe_lstC (pe_lst ((fa_nil pa_nil)))) ((fa_nil pa_nil)))))))) rfl) rfl rfl rfl)
    (fss_cons (pss_cons (fs_for (ps_for (passes_of rfl) rfl (fi_lst (pi_list (fe_lst (pe_lst (fa_cons (pa_cons (fe_str pe_str) (fa_cons (pa_cons (fe_str pe_str) (fa_cons (pa_cons (fe_str pe_str) ((fa_nil pa_nil)))))))))))) (fg_name (pg_name (i := 4) scThousands.nd rfl (Or.inl rfl)) rfl)
    (fss_cons (pss_cons (fs_set (ps_set (i := 5) scThousands.nd rfl (Or.inl rfl) (fe_make (NK.pe_makeS hc_Body (hr.mono hlc_Body) rfl (fun σ => passAt (takes_of rfl rfl rfl rfl) σ) (fa_cons (pa_cons (fe_lst (pe_lst (fa_cons (pa_cons (fe_make (NK.pe_makeS hc_Mark (hr.mono hlc_Mark) rfl (fun σ => passAt (takes_of rfl rfl rfl rfl) σ) (fa_cons (pa_cons (fe_var (pv 4)) ((fa_nil pa_nil))))) rfl) ((fa_nil pa_nil)))))) ((fa_nil pa_nil))))) rfl)) rfl)
    (fss_cons (pss_cons (fs_for (ps_for (passes_of rfl) rfl (fi_rng1 (pi_range1 (by rfl) W.b_range (fa_cons (pa_cons (fe_var (pv 1)) ((fa_nil pa_nil)))))) (fg_name (pg_name (i := 6) scThousands.nd rfl (Or.inl rfl)) rfl)
    (fss_cons (pss_cons (fs_set (ps_set (i := 7) scThousands.nd rfl (Or.inl rfl) (fe_lst (pe_lst (fa_cons (pa_cons (fe_make (NK.pe_makeS hc_Hold (hr.mono hlc_Hold) rfl (fun σ => passAt (takes_of rfl rfl rfl rfl) σ) (fa_cons (pa_cons (fe_str pe_str) (fa_cons (pa_cons (fe_var (pv 5)) ((fa_nil pa_nil))))))) rfl) (fa_cons (pa_cons (fe_make (NK.pe_makeS hc_Rounds (hr.mono hlc_Rounds) rfl (fun σ => passAt (takes_of rfl rfl rfl rfl) σ) (fa_cons (pa_cons (fe_var (pv 5)) ((fa_nil pa_nil))))) rfl) (fa_cons (pa_cons (fe_make (NK.pe_makeS hc_Either (hr.mono hlc_Either) rfl (fun σ => passAt (takes_of rfl rfl rfl rfl) σ) (fa_cons (pa_cons (fe_var (pv 5)) (fa_cons (pa_cons (fe_make (NK.pe_makeS hc_Body (hr.mono hlc_Body) rfl (fun σ => passAt (takes_of rfl rfl rfl rfl) σ) (fa_cons (pa_cons (fe_lst (pe_lst ((fa_nil pa_nil)))) ((fa_nil pa_nil))))) rfl) ((fa_nil pa_nil))))))) rfl) (fa_cons (pa_cons (fe_make (NK.pe_makeS hc_Either (hr.mono hlc_Either) rfl (fun σ => passAt (takes_of rfl rfl rfl rfl) σ) (fa_cons (pa_cons (fe_make (NK.pe_makeS hc_Body (hr.mono hlc_Body) rfl (fun σ => passAt (takes_of rfl rfl rfl rfl) σ) (fa_cons (pa_cons (fe_lst (pe_lst (fa_cons (pa_cons (fe_make0 (NK.pe_makeO W.mk_Stop rfl W.mg_Stop) rfl) ((fa_nil pa_nil)))))) ((fa_nil pa_nil))))) rfl) (fa_cons (pa_cons (fe_var (pv 5)) ((fa_nil pa_nil))))))) rfl) ((fa_nil pa_nil))))))))))))) rfl)
    (pss_one (fs_set (ps_set (i := 5) scThousands.nd rfl (Or.inl rfl) (fe_make (NK.pe_makeS hc_Body (hr.mono hlc_Body) rfl (fun σ => passAt (takes_of rfl rfl rfl rfl) σ) (fa_cons (pa_cons (fe_lst (pe_lst (fa_cons (pa_cons (fe_op (pe_ix ix_list (fe_var (pv 7)) (fe_op (pe_op op_mod (fe_cb (pe_callTy NK.call_intI (by rfl) W.b_int (by decide +kernel) (fa_cons (pa_cons (fe_op (pe_op op_add (fe_var (pv 2)) (fe_op (pe_op op_fdiv (fe_var (pv 6)) (fe_int pe_int)) sim_div)) sim_ii) ((fa_nil pa_nil))))) sim_int) (fe_int pe_int)) sim_mod) (fun _ _ => rfl)) sim_ixL) ((fa_nil pa_nil)))))) ((fa_nil pa_nil))))) rfl)) rfl))))))
    (pss_one (fs_drop (ps_expr (fe_m (pe_bm PySem.F.plainAttrs_list PySem.F.slot_list_append PySem.F.type_list_append mt_append (fe_var (pv 3)) (fa_cons (pa_cons (fe_var (pv 5)) ((fa_nil pa_nil))))) sim_append))))))))))
    (fss_cons (pss_cons (fs_asg (ps_asg (fe_var (pv 3)) (fg_unl (pg_unl rfl (fgs_cons (pgs_cons (fg_name (pg_name (i := 7) scThousands.nd rfl (Or.inl rfl)) rfl) (fgs_cons (pgs_cons (fg_name (pg_name (i := 8) scThousands.nd rfl (Or.inl rfl)) rfl) (fgs_cons (pgs_cons (fg_name (pg_name (i := 9) scThousands.nd rfl (Or.inl rfl)) rfl) (fgs_nil pgs_nil)))))))))))
    (fss_cons (pss_cons (fs_if (ps_if (PW.pt (fw_or (pw_or (ft_not (pt_not (ft_cmp (pt_cmpR (op_QE (n := 2) (neg := false) e_Z (hr.mono hl_eZ) rfl) (fe_var (pv 7)) (fe_var (pv 8)) (nomark _)) sim_QE))) (fw_or (pw_or (ft_cmp (pt_cmpR (op_QE (n := 2) (neg := true) e_Z (hr.mono hl_eZ) rfl) (fe_var (pv 7)) (fe_var (pv 8)) (nomark _)) sim_QE) (fw_or (pw_or (ft_cmp (pt_cmpR (op_QE (n := 2) (neg := false) e_Z (hr.mono hl_eZ) rfl) (fe_var (pv 7)) (fe_var (pv 9)) (nomark _)) sim_QE) (pw_or1 (ft_not (pt_not (ft_cmp (pt_cmpR (op_QE (n := 2) (neg := true) e_Z (hr.mono hl_eZ) rfl) (fe_var (pv 9)) (fe_var (pv 7)) (nomark _)) sim_QE)))))))))))
    (pss_one (fs_ret (ps_ret (fe_bl pe_bl)))) ((fss_nil pss_nil))))
    (pss_one (fs_ret (ps_ret (fe_andV (pe_and (fe_op (pe_cmpR (op_QE (n := 2) (neg := false) e_Z (hr.mono hl_eZ) rfl) (fe_make (NK.pe_makeS hc_Rounds (hr.mono hlc_Rounds) rfl (fun σ => passAt (takes_of rfl rfl rfl rfl) σ) (fa_cons (pa_cons (fe_var (pv 7)) ((fa_nil pa_nil))))) rfl) (fe_make (NK.pe_makeS hc_Rounds (hr.mono hlc_Rounds) rfl (fun σ => passAt (takes_of rfl rfl rfl rfl) σ) (fa_cons (pa_cons (fe_var (pv 8)) ((fa_nil pa_nil))))) rfl) (nomark _)) sim_QE) (fe_andV (pe_and (fe_op (pe_cmpR (op_QE (n := 2) (neg := true) e_Z (hr.mono hl_eZ) rfl) (fe_make (NK.pe_makeS hc_Rounds (hr.mono hlc_Rounds) rfl (fun σ => passAt (takes_of rfl rfl rfl rfl) σ) (fa_cons (pa_cons (fe_var (pv 7)) ((fa_nil pa_nil))))) rfl) (fe_make (NK.pe_makeS hc_Rounds (hr.mono hlc_Rounds) rfl (fun σ => passAt (takes_of rfl rfl rfl rfl) σ) (fa_cons (pa_cons (fe_var (pv 9)) ((fa_nil pa_nil))))) rfl) (nomark _)) sim_QE) (pe_one (fe_op (pe_cmpR (op_QE (n := 2) (neg := true) e_Z (hr.mono hl_eZ) rfl) (fe_var (pv 7)) (fe_fld (pe_fld (fe_var (pv 7)) rfl) (fldB_ok W.fld_row)) (nomark _)) sim_QE))))))))))))))))
/-! ### law -/
abbrev sLaw : Stmt := topS 35
theorem scLaw : FnScope ["_law_script", "_law_number", "_law_s", "_law_m", "_law_one_here", "_law_other", "_law_mine", "_law_its", "_law_body_here", "_law_thing"] ["_law_script"] (defScope sLaw) := ⟨rfl, rfl, rfl, by decide +kernel, rfl, by decide +kernel, by decide +kernel⟩
def mLaw : MS :=
  mSeq (mIfS (mNot (mTest (mCall FThousands (mCons (mCall FState (mCons (mOp oIxL (mOp oCatL (mVar 0) (mLst (mCons (mC (.int 0)) (mNil)))) (mC (.int 0))) (mNil))) (mNil)))))
  (mRet (mC (.bl false))) (mNext))
  (mSeq (mFor (mIt (mSl oSlL (mOp oCatL (mVar 0) (mLst (mCons (mC (.int 0)) (mNil)))) mNoP (mPart (mC (.int 8)))) isLst) (gNm 1)
  (mSeq (mAsg (mCall FState (mCons (mVar 1) (mNil))) (gNm 2))
  (mSeq (mAsg (mDispC (mPCons (mC (.str "keys")) (mCall FNames (mCons (mVar 2) (mCons (mC (.int 3)) (mNil)))) (mPCons (mC (.str "parts")) (mCall FNames (mCons (mVar 2) (mCons (mC (.int 2)) (mNil)))) (mPCons (mC (.str "marks")) (mCall FNames (mCons (mVar 2) (mCons (mC (.int 2)) (mNil)))) (mPCons (mC (.str "still")) (mC (.int 9)) (mPNil)))))) (gNm 3))
  (mSeq (mAsg (mOp oCatL (mCall (rowN 5) (mCons (mVar 2) (mCons (mVar 3) (mCons (mC (.int 2)) (mNil))))) (mCall (rowN 5) (mCons (mVar 2) (mCons (mVar 3) (mCons (mC (.int 2)) (mNil)))))) (gNm 4))
  (mSeq (mAsg (mCL lList (mCons (mVar 4) (mNil))) (gNm 5))
  (mSeq (mIfS (mTest (mOp (oIB fun i j => decide (j < i)) (mCall FDigit (mCons (mVar 2) (mCons (mC (.int 4)) (mNil)))) (mC (.int 0))))
  (mAsg (mCall (othN 5) (mCons (mVar 2) (mCons (mVar 3) (mCons (mVar 4) (mNil))))) (gNm 5)) (mNext))
  (mSeq (mFor (mIt (mLst (mCons (mTup (mCons (mVar 4) (mCons (mVar 5) (mNil)))) (mCons (mTup (mCons (mVar 5) (mCons (mVar 4) (mNil)))) (mCons (mTup (mCons (mVar 5) (mCons (mOp oCatL (mVar 4) (mVar 5)) (mNil)))) (mNil))))) isLst) (gTp 2 (gsCons (gNm 6) (gsCons (gNm 7) (gsNil))))
  (mIfS (mNot (mTest (mCall FAlike (mCons (mVar 6) (mCons (mVar 7) (mNil))))))
  (mRet (mC (.bl false))) (mNext)))
  (mSeq (mAsg (mCall (bodyN 6) (mCons (mVar 4) (mNil))) (gNm 8))
  (mSeq (mFor (mIt (mLst (mCons (mUn (oFld (tabN ix_row)) (mVar 8)) (mCons (mCL lList (mCons (mUn (oFld (tabN ix_row)) (mVar 8)) (mNil))) (mCons (mC .non) (mCons (mC (.str "body")) (mNil)))))) isLst) (gNm 9)
  (mIfS (mOr (mTest (mOp (oQ false (qT E_Z 2 false)) (mVar 8) (mVar 9))) (mNot (mTest (mOp (oQ true (qT E_Z 2 true)) (mVar 8) (mVar 9)))))
  (mRet (mC (.bl false))) (mNext)))
  (mIfS (mAnd (mTest (mOp (oNil true) (mVar 4) (mLst (mNil)))) (mNot (mTest (mCall FShared (mCons (mVar 4) (mNil))))))
  (mRet (mC (.bl false))) (mNext)))))))))))
  (mRet (mC (.bl true))))
def FLaw : Fn := runFn 1 10 (mLaw)
set_option maxHeartbeats 4000000 in
theorem okLaw {P : Program} {w : World} {K : PySem.W.Frag} {mg : Str → Option Value} {base : Heap} {f : Addr} {fd : FuncData} {k : Nat} (W : Wd K mg) (F : FnP K "law" "law" sLaw f fd) {l_Thousands : Nat} (h_Thousands : NK.CalX P w K mg base l_Thousands "_law_thousands_right" ["_law_s"] (spFn (TT K) FThousands)) (hl_Thousands : l_Thousands ≤ k) {l_State : Nat} (h_State : NK.CalX P w K mg base l_State "_law_state" ["_law_cell"] (spFn (TT K) FState)) (hl_State : l_State ≤ k) {l_Names : Nat} (h_Names : NK.CalX P w K mg base l_Names "_law_names" ["_law_s", "_law_many"] (spFn (TT K) FNames)) (hl_Names : l_Names ≤ k) {l_Row : Nat} (h_Row : NK.CalX P w K mg base l_Row "_law_row" ["_law_s", "_law_m", "_law_deep"] (spFn (TT K) (rowN 5))) (hl_Row : l_Row ≤ k) {l_Digit : Nat} (h_Digit : NK.CalX P w K mg base l_Digit "_law_digit" ["_law_state_here", "_law_base"] (spFn (TT K) FDigit)) (hl_Digit : l_Digit ≤ k) {l_Otherwise : Nat} (h_Otherwise : NK.CalX P w K mg base l_Otherwise "_law_otherwise" ["_law_s", "_law_m", "_law_row_here"] (spFn (TT K) (othN 5))) (hl_Otherwise : l_Otherwise ≤ k) {l_Alike : Nat} (h_Alike : NK.CalX P w K mg base l_Alike "_law_alike_right" ["_law_one_here", "_law_other"] (spFn (TT K) FAlike)) (hl_Alike : l_Alike ≤ k) {l_LBody : Nat} (h_LBody : NK.CalX P w K mg base l_LBody "_law_body" ["_law_row_here"] (spFn (TT K) (bodyN 6))) (hl_LBody : l_LBody ≤ k) {l_Shared : Nat} (h_Shared : NK.CalX P w K mg base l_Shared "_law_shared_right" ["_law_row_here"] (spFn (TT K) FShared)) (hl_Shared : l_Shared ≤ k) {l_eZ : Nat} (e_Z : EqOk P w K mg base (TT K) E_Z l_eZ) (hl_eZ : l_eZ + 3 ≤ k) (h1k : 1 ≤ k) : FnOk P w K mg base (L2.CX P w) (k + 1) f fd ["_law_script"] (spFn (TT K) (FLaw)) := by
  refine F.ok (CX := L2.CX P w) scLaw spFn_len (fun cdv A outer st H vs Q E hr h => ⟨FS ⟨TT K, none, fun cls d _ H => E cls d H⟩ (mLaw), ?_, fn_enter (N := ["_law_script", "_law_number", "_law_s", "_law_m", "_law_one_here", "_law_other", "_law_mine", "_law_its", "_law_body_here", "_law_thing"]) h⟩)
  unfold mLaw
  exact fss_cons (pss_cons (fs_if (ps_if (ft_not (pt_not (ft_B (pt_val (fe_call (NK.pe_fnS h_Thousands (hr.mono hl_Thousands) (by rfl) (takes_of rfl rfl rfl rfl) (fa_cons (pa_cons (fe_call (NK.pe_fnS h_State (hr.mono hl_State) (by rfl) (takes_of rfl rfl rfl rfl) (fa_cons (pa_cons (fe_op (pe_ix ix_list (fe_op (pe_op NK.op_catL (fe_var (pv 0)) (fe_lst (pe_lst (fa_cons (pa_cons (fe_int pe_int) ((fa_nil pa_nil))))))) sim_catL) (fe_int pe_int) (fun _ _ => rfl)) sim_ixL) ((fa_nil pa_nil)))))) ((fa_nil pa_nil))))))))))
    (pss_one (fs_ret (ps_ret (fe_bl pe_bl)))) ((fss_nil pss_nil))))
    (fss_cons (pss_cons (fs_for (ps_for (passes_of rfl) rfl (fi_lst (pi_list (fe_sl (pe_slice sl_list (fe_op (pe_op NK.op_catL (fe_var (pv 0)) (fe_lst (pe_lst (fa_cons (pa_cons (fe_int pe_int) ((fa_nil pa_nil))))))) sim_catL) (fo_none po_none) (fo_some (po_some (fe_int pe_int)))) sim_slL))) (fg_name (pg_name (i := 1) scLaw.nd rfl (Or.inl rfl)) rfl)
    (fss_cons (pss_cons (fs_set (ps_set (i := 2) scLaw.nd rfl (Or.inl rfl) (fe_call (NK.pe_fnS h_State (hr.mono hl_State) (by rfl) (takes_of rfl rfl rfl rfl) (fa_cons (pa_cons (fe_var (pv 1)) ((fa_nil pa_nil))))))) rfl)
    (fss_cons (pss_cons (fs_set (ps_set (i := 3) scLaw.nd rfl (Or.inl rfl) (fe_dispC2 (FPs.cons (FPs.cons (FPs.cons (FPs.cons FPs.nil)))) (pe_disp (pps_cons (fe_str pe_str) (fe_call (NK.pe_fnS h_Names (hr.mono hl_Names) (by rfl) (takes_of rfl rfl rfl rfl) (fa_cons (pa_cons (fe_var (pv 2)) (fa_cons (pa_cons (fe_int pe_int) ((fa_nil pa_nil)))))))) (pps_cons (fe_str pe_str) (fe_call (NK.pe_fnS h_Names (hr.mono hl_Names) (by rfl) (takes_of rfl rfl rfl rfl) (fa_cons (pa_cons (fe_var (pv 2)) (fa_cons (pa_cons (fe_int pe_int) ((fa_nil pa_nil)))))))) (pps_cons (fe_str pe_str) (fe_call (NK.pe_fnS h_Names (hr.mono hl_Names) (by rfl) (takes_of rfl rfl rfl rfl) (fa_cons (pa_cons (fe_var (pv 2)) (fa_cons (pa_cons (fe_int pe_int) ((fa_nil pa_nil)))))))) (pps_cons (fe_str pe_str) (fe_int pe_int) (pps_nil))))) rfl rfl (by simp) (by decide)))) rfl)
    (fss_cons (pss_cons (fs_set (ps_set (i := 4) scLaw.nd rfl (Or.inl rfl) (fe_op (pe_op NK.op_catL (fe_call (NK.pe_fnS h_Row (hr.mono hl_Row) (by rfl) (takes_of rfl rfl rfl rfl) (fa_cons (pa_cons (fe_var (pv 2)) (fa_cons (pa_cons (fe_var (pv 3)) (fa_cons (pa_cons (fe_int pe_int) ((fa_nil pa_nil)))))))))) (fe_call (NK.pe_fnS h_Row (hr.mono hl_Row) (by rfl) (takes_of rfl rfl rfl rfl) (fa_cons (pa_cons (fe_var (pv 2)) (fa_cons (pa_cons (fe_var (pv 3)) (fa_cons (pa_cons (fe_int pe_int) ((fa_nil pa_nil))))))))))) sim_catL)) rfl)
    (fss_cons (pss_cons (fs_set (ps_set (i := 5) scLaw.nd rfl (Or.inl rfl) (fe_cl (pe_callTy NK.call_listOf (by rfl) W.b_list (by decide +kernel) (fa_cons (pa_cons (fe_var (pv 4)) ((fa_nil pa_nil))))) sim_list)) rfl)
    (fss_cons (pss_cons (fs_if (ps_if (ft_cmp (pt_cmpR op_gt (fe_call (NK.pe_fnS h_Digit (hr.mono hl_Digit) (by rfl) (takes_of rfl rfl rfl rfl) (fa_cons (pa_cons (fe_var (pv 2)) (fa_cons (pa_cons (fe_int pe_int) ((fa_nil pa_nil)))))))) (fe_int pe_int) (nomark _)) sim_ib)
    (pss_one (fs_set (ps_set (i := 5) scLaw.nd rfl (Or.inl rfl) (fe_call (NK.pe_fnS h_Otherwise (hr.mono hl_Otherwise) (by rfl) (takes_of rfl rfl rfl rfl) (fa_cons (pa_cons (fe_var (pv 2)) (fa_cons (pa_cons (fe_var (pv 3)) (fa_cons (pa_cons (fe_var (pv 4)) ((fa_nil pa_nil))))))))))) rfl)) ((fss_nil pss_nil))))
    (fss_cons (pss_cons (fs_for (ps_for (passes_of rfl) rfl (fi_lst (pi_list (fe_lst (pe_lst (fa_cons (pa_cons (fe_tup (pe_tup (fa_cons (pa_cons (fe_var (pv 4)) (fa_cons (pa_cons (fe_var (pv 5)) ((fa_nil pa_nil)))))))) (fa_cons (pa_cons (fe_tup (pe_tup (fa_cons (pa_cons (fe_var (pv 5)) (fa_cons (pa_cons (fe_var (pv 4)) ((fa_nil pa_nil)))))))) (fa_cons (pa_cons (fe_tup (pe_tup (fa_cons (pa_cons (fe_var (pv 5)) (fa_cons (pa_cons (fe_op (pe_op NK.op_catL (fe_var (pv 4)) (fe_var (pv 5))) sim_catL) ((fa_nil pa_nil)))))))) ((fa_nil pa_nil)))))))))))) (fg_tup (pg_tup rfl (fgs_cons (pgs_cons (fg_name (pg_name (i := 6) scLaw.nd rfl (Or.inl rfl)) rfl) (fgs_cons (pgs_cons (fg_name (pg_name (i := 7) scLaw.nd rfl (Or.inl rfl)) rfl) (fgs_nil pgs_nil)))))))
    (pss_one (fs_if (ps_if (ft_not (pt_not (ft_B (pt_val (fe_call (NK.pe_fnS h_Alike (hr.mono hl_Alike) (by rfl) (takes_of rfl rfl rfl rfl) (fa_cons (pa_cons (fe_var (pv 6)) (fa_cons (pa_cons (fe_var (pv 7)) ((fa_nil pa_nil))))))))))))
    (pss_one (fs_ret (ps_ret (fe_bl pe_bl)))) ((fss_nil pss_nil)))))))
    (fss_cons (pss_cons (fs_set (ps_set (i := 8) scLaw.nd rfl (Or.inl rfl) (fe_call (NK.pe_fnS h_LBody (hr.mono hl_LBody) (by rfl) (takes_of rfl rfl rfl rfl) (fa_cons (pa_cons (fe_var (pv 4)) ((fa_nil pa_nil))))))) rfl)
    (fss_cons (pss_cons (fs_for (ps_for (passes_of rfl) rfl (fi_lst (pi_list (fe_lst (pe_lst (fa_cons (pa_cons (fe_fld (pe_fld (fe_var (pv 8)) rfl) (fldB_ok W.fld_row)) (fa_cons (pa_cons (fe_cl (pe_callTy NK.call_listOf (by rfl) W.b_list (by decide +kernel) (fa_cons (pa_cons (fe_fld (pe_fld (fe_var (pv 8)) rfl) (fldB_ok W.fld_row)) ((fa_nil pa_nil))))) sim_list) (fa_cons (pa_cons (fe_non pe_non) (fa_cons (pa_cons (fe_str pe_str) ((fa_nil pa_nil)))))))))))))) (fg_name (pg_name (i := 9) scLaw.nd rfl (Or.inl rfl)) rfl)
    (pss_one (fs_if (ps_if (PW.pt (fw_or (pw_or (ft_cmp (pt_cmpR (op_QE (n := 2) (neg := false) e_Z (hr.mono hl_eZ) rfl) (fe_var (pv 8)) (fe_var (pv 9)) (nomark _)) sim_QE) (pw_or1 (ft_not (pt_not (ft_cmp (pt_cmpR (op_QE (n := 2) (neg := true) e_Z (hr.mono hl_eZ) rfl) (fe_var (pv 8)) (fe_var (pv 9)) (nomark _)) sim_QE)))))))
    (pss_one (fs_ret (ps_ret (fe_bl pe_bl)))) ((fss_nil pss_nil)))))))
    (pss_one (fs_if (ps_if (PW.pt (fw_and (pw_and (ft_cmp (pt_cmpR (NK.op_nil (neg := true) (n := 0) (hr.mono h1k)) (fe_var (pv 4)) (fe_lst (pe_lst ((fa_nil pa_nil)))) (nomark _)) sim_nil) (pw_and1 (ft_not (pt_not (ft_B (pt_val (fe_call (NK.pe_fnS h_Shared (hr.mono hl_Shared) (by rfl) (takes_of rfl rfl rfl rfl) (fa_cons (pa_cons (fe_var (pv 4)) ((fa_nil pa_nil))))))))))))))
    (pss_one (fs_ret (ps_ret (fe_bl pe_bl)))) ((fss_nil pss_nil)))))))))))))))))))))))
    (pss_one (fs_ret (ps_ret (fe_bl pe_bl)))))))
end
end K03

namespace K03
open PySem PySem.Spec PyProof.Rows L2 FM
def dINoName : He.DefD := ⟨("NoName", some "__init__"), "__init__", "NoName.__init__", defArgs sINoName, defBody sINoName, defScope sINoName, [], []⟩
def dIsName : He.DefD := ⟨("is_name", none), "is_name", "is_name", defArgs sIsName, defBody sIsName, defScope sIsName, [], []⟩
def dAsked : He.DefD := ⟨("asked_names", none), "asked_names", "asked_names", defArgs sAsked, defBody sAsked, defScope sAsked, [], []⟩
def dHoldI : He.DefD := ⟨("Hold", some "__init__"), "__init__", "Hold.__init__", defArgs sHoldI, defBody sHoldI, defScope sHoldI, [], []⟩
def dEitherI : He.DefD := ⟨("Either", some "__init__"), "__init__", "Either.__init__", defArgs sEitherI, defBody sEitherI, defScope sEitherI, [], []⟩
def dRoundsI : He.DefD := ⟨("Rounds", some "__init__"), "__init__", "Rounds.__init__", defArgs sRoundsI, defBody sRoundsI, defScope sRoundsI, [], []⟩
def dCallI : He.DefD := ⟨("Call", some "__init__"), "__init__", "Call.__init__", defArgs sCallI, defBody sCallI, defScope sCallI, [], []⟩
def dMarkI : He.DefD := ⟨("Mark", some "__init__"), "__init__", "Mark.__init__", defArgs sMarkI, defBody sMarkI, defScope sMarkI, [], []⟩
def dBodyI : He.DefD := ⟨("Body", some "__init__"), "__init__", "Body.__init__", defArgs sBodyI, defBody sBodyI, defScope sBodyI, [], []⟩
def dHoldT : He.DefD := ⟨("Hold", some "told"), "told", "Hold.told", defArgs sHoldT, defBody sHoldT, defScope sHoldT, [], []⟩
def dEitherT : He.DefD := ⟨("Either", some "told"), "told", "Either.told", defArgs sEitherT, defBody sEitherT, defScope sEitherT, [], []⟩
def dRoundsT : He.DefD := ⟨("Rounds", some "told"), "told", "Rounds.told", defArgs sRoundsT, defBody sRoundsT, defScope sRoundsT, [], []⟩
def dCallT : He.DefD := ⟨("Call", some "told"), "told", "Call.told", defArgs sCallT, defBody sCallT, defScope sCallT, [], []⟩
def dMarkT : He.DefD := ⟨("Mark", some "told"), "told", "Mark.told", defArgs sMarkT, defBody sMarkT, defScope sMarkT, [], []⟩
def dStopT : He.DefD := ⟨("Stop", some "told"), "told", "Stop.told", defArgs sStopT, defBody sStopT, defScope sStopT, [], []⟩
def dIsSame : He.DefD := ⟨("is_same", none), "is_same", "is_same", defArgs sIsSame, defBody sIsSame, defScope sIsSame, [], []⟩
def dStEq : He.DefD := ⟨("Statement", some "__eq__"), "__eq__", "Statement.__eq__", defArgs sStEq, defBody sStEq, defScope sStEq, [], []⟩
def dBoEq : He.DefD := ⟨("Body", some "__eq__"), "__eq__", "Body.__eq__", defArgs sBoEq, defBody sBoEq, defScope sBoEq, [], []⟩
def dState : He.DefD := ⟨("_law_state", none), "_law_state", "_law_state", defArgs sState, defBody sState, defScope sState, [], []⟩
def dDigit : He.DefD := ⟨("_law_digit", none), "_law_digit", "_law_digit", defArgs sDigit, defBody sDigit, defScope sDigit, [], []⟩
def dName : He.DefD := ⟨("_law_name", none), "_law_name", "_law_name", defArgs sName, defBody sName, defScope sName, [], []⟩
def dNames : He.DefD := ⟨("_law_names", none), "_law_names", "_law_names", defArgs sNames, defBody sNames, defScope sNames, [], []⟩
def dRow : He.DefD := ⟨("_law_row", none), "_law_row", "_law_row", defArgs sRow, defBody sRow, defScope sRow, [], []⟩
def dStatement : He.DefD := ⟨("_law_statement", none), "_law_statement", "_law_statement", defArgs sStatement, defBody sStatement, defScope sStatement, [], []⟩
def dLBody : He.DefD := ⟨("_law_body", none), "_law_body", "_law_body", defArgs sLBody, defBody sLBody, defScope sLBody, [], []⟩
def dOne : He.DefD := ⟨("_law_one", none), "_law_one", "_law_one", defArgs sOne, defBody sOne, defScope sOne, [], []⟩
def dOtherwise : He.DefD := ⟨("_law_otherwise", none), "_law_otherwise", "_law_otherwise", defArgs sOtherwise, defBody sOtherwise, defScope sOtherwise, [], []⟩
def dTurned : He.DefD := ⟨("_law_turned", none), "_law_turned", "_law_turned", defArgs sTurned, defBody sTurned, defScope sTurned, [], []⟩
def dAlike : He.DefD := ⟨("_law_alike_right", none), "_law_alike_right", "_law_alike_right", defArgs sAlike, defBody sAlike, defScope sAlike, [], []⟩
def dShared : He.DefD := ⟨("_law_shared_right", none), "_law_shared_right", "_law_shared_right", defArgs sShared, defBody sShared, defScope sShared, [], []⟩
def dThousands : He.DefD := ⟨("_law_thousands_right", none), "_law_thousands_right", "_law_thousands_right", defArgs sThousands, defBody sThousands, defScope sThousands, [], []⟩
def dLaw : He.DefD := ⟨("law", none), "law", "law", defArgs sLaw, defBody sLaw, defScope sLaw, [], []⟩
def fnl : List He.DefD := [dINoName, dIsName, dAsked, dHoldI, dEitherI, dRoundsI, dCallI, dMarkI, dBodyI, dHoldT, dEitherT, dRoundsT, dCallT, dMarkT, dStopT, dIsSame, dStEq, dBoEq, dState, dDigit, dName, dNames, dRow, dStatement, dLBody, dOne, dOtherwise, dTurned, dAlike, dShared, dThousands, dLaw]
def fbl0 : List Fb := [fun K => (He.Fa.free "len").ok K,
  fun K => (He.Fa.free "all").ok K,
  fun K => (He.Fa.free "tuple").ok K,
  fun K => (He.Fa.free "isinstance").ok K,
  fun K => (He.Fa.free "list").ok K,
  fun K => (He.Fa.free "zip").ok K,
  fun K => (He.Fa.free "abs").ok K,
  fun K => (He.Fa.free "int").ok K,
  fun K => (He.Fa.free "range").ok K,
  fun K => (He.Fa.free "str").ok K,
  fun K => (He.Fa.int "LONGEST" 8).ok K,
  fun K => (He.Fa.str "LETTERS" "abcdefghijklmnopqrstuvwxyz").ok K,
  fun K => (He.Fa.str "FIGURES" "0123456789").ok K,
  fun K => (He.Fa.glo "KeysError").ok K,
  fun K => (He.Fa.glo "NoName").ok K,
  fun K => (He.Fa.glo "Hold").ok K,
  fun K => (He.Fa.glo "Either").ok K,
  fun K => (He.Fa.glo "Rounds").ok K,
  fun K => (He.Fa.glo "Call").ok K,
  fun K => (He.Fa.glo "Mark").ok K,
  fun K => (He.Fa.glo "Stop").ok K,
  fun K => (He.Fa.glo "Body").ok K,
  fun K => (He.Fa.glo "Statement").ok K,
  fun K => mk0B K ((TT K).ca 7),
  fun K => fldB (TT K) "key" ix_key,
  fun K => fldB (TT K) "body" ix_body,
  fun K => fldB (TT K) "one" ix_one,
  fun K => fldB (TT K) "other" ix_other,
  fun K => fldB (TT K) "part" ix_part,
  fun K => fldB (TT K) "name" ix_name]
def fbl1 : List Fb := [fun K => fldB (TT K) "row" ix_row,
  fun K => isiB (TT K) (.ref ((TT K).ca 9)) isi_Statement,
  fun K => isiB (TT K) (.ref ((TT K).ca 8)) isi_Body,
  fun K => exB K ((TT K).ca 1) (He.fAd K ("NoName", some "__init__")) ["name"],
  fun K => (He.Fa.glo "is_name").ok K,
  fun K => (He.Fa.glo "asked_names").ok K,
  fun K => mkB K ((TT K).ca 2) (He.fAd K ("Hold", some "__init__")),
  fun K => mkB K ((TT K).ca 3) (He.fAd K ("Either", some "__init__")),
  fun K => mkB K ((TT K).ca 4) (He.fAd K ("Rounds", some "__init__")),
  fun K => mkB K ((TT K).ca 5) (He.fAd K ("Call", some "__init__")),
  fun K => mkB K ((TT K).ca 6) (He.fAd K ("Mark", some "__init__")),
  fun K => mkB K ((TT K).ca 8) (He.fAd K ("Body", some "__init__")),
  fun K => methB K ((TT K).ca 2) "told" (He.fAd K ("Hold", some "told")),
  fun K => methB K ((TT K).ca 3) "told" (He.fAd K ("Either", some "told")),
  fun K => methB K ((TT K).ca 4) "told" (He.fAd K ("Rounds", some "told")),
  fun K => methB K ((TT K).ca 5) "told" (He.fAd K ("Call", some "told")),
  fun K => methB K ((TT K).ca 6) "told" (He.fAd K ("Mark", some "told")),
  fun K => methB K ((TT K).ca 7) "told" (He.fAd K ("Stop", some "told")),
  fun K => (He.Fa.glo "is_same").ok K,
  fun K => injB (TT K) 10,
  fun K => nfB (TT K) nfC nfK,
  fun K => oeqB (TT K) 2 (He.fAd K ("Statement", some "__eq__")),
  fun K => oeqB (TT K) 3 (He.fAd K ("Statement", some "__eq__")),
  fun K => oeqB (TT K) 4 (He.fAd K ("Statement", some "__eq__")),
  fun K => oeqB (TT K) 5 (He.fAd K ("Statement", some "__eq__")),
  fun K => oeqB (TT K) 6 (He.fAd K ("Statement", some "__eq__")),
  fun K => oeqB (TT K) 7 (He.fAd K ("Statement", some "__eq__")),
  fun K => oeqB (TT K) 8 (He.fAd K ("Body", some "__eq__")),
  fun K => (He.Fa.glo "_law_state").ok K,
  fun K => (He.Fa.glo "_law_digit").ok K]
def fbl2 : List Fb := [fun K => (He.Fa.glo "_law_name").ok K,
  fun K => (He.Fa.glo "_law_names").ok K,
  fun K => (He.Fa.glo "_law_row").ok K,
  fun K => (He.Fa.glo "_law_statement").ok K,
  fun K => (He.Fa.glo "_law_body").ok K,
  fun K => (He.Fa.glo "_law_one").ok K,
  fun K => (He.Fa.glo "_law_otherwise").ok K,
  fun K => (He.Fa.glo "_law_turned").ok K,
  fun K => (He.Fa.glo "_law_alike_right").ok K,
  fun K => (He.Fa.glo "_law_shared_right").ok K,
  fun K => (He.Fa.glo "_law_thousands_right").ok K,
  fun K => (He.Fa.glo "law").ok K]
def fbl : List Fb := fbl0 ++ fbl1 ++ fbl2
theorem wd_of {K : PySem.W.Frag} {h : Heap} {mg : Str → Option Value} (X : K.In h) (G : h.Ns mainGlobals mg) (c : SaysF fbl fnl K) : Wd K mg where
  b_len := He.free_ok X G (c.fact 0)
  b_all := He.free_ok X G (c.fact 1)
  b_tuple := He.free_ok X G (c.fact 2)
  b_isinstance := He.free_ok X G (c.fact 3)
  b_list := He.free_ok X G (c.fact 4)
  b_zip := He.free_ok X G (c.fact 5)
  b_abs := He.free_ok X G (c.fact 6)
  b_int := He.free_ok X G (c.fact 7)
  b_range := He.free_ok X G (c.fact 8)
  b_str := He.free_ok X G (c.fact 9)
  g_LONGEST := (let ⟨t, e⟩ := He.int_ok X G (c.fact 10); ⟨_, e, t, rfl⟩)
  g_LETTERS := (let ⟨t, e⟩ := He.str_ok X G (c.fact 11); ⟨_, e, t, rfl⟩)
  g_FIGURES := (let ⟨t, e⟩ := He.str_ok X G (c.fact 12); ⟨_, e, t, rfl⟩)
  mg_KeysError := He.glo_ok X G (c.fact 13)
  mg_NoName := He.glo_ok X G (c.fact 14)
  mg_Hold := He.glo_ok X G (c.fact 15)
  mg_Either := He.glo_ok X G (c.fact 16)
  mg_Rounds := He.glo_ok X G (c.fact 17)
  mg_Call := He.glo_ok X G (c.fact 18)
  mg_Mark := He.glo_ok X G (c.fact 19)
  mg_Stop := He.glo_ok X G (c.fact 20)
  mg_Body := He.glo_ok X G (c.fact 21)
  mg_Statement := He.glo_ok X G (c.fact 22)
  mk_Stop := mk0B_ok (c.fact 23)
  fld_key := (c.fact 24)
  fld_body := (c.fact 25)
  fld_one := (c.fact 26)
  fld_other := (c.fact 27)
  fld_part := (c.fact 28)
  fld_name := (c.fact 29)
  fld_row := (c.fact 30)
  isi_Statement := (c.fact 31)
  isi_Body := (c.fact 32)
set_option maxHeartbeats 4000000 in
theorem facts {P : Program} {w : World} {K : PySem.W.Frag} {h : Heap} {mg : Str → Option Value} {f : Addr} (X : K.In h) (G : h.Ns mainGlobals mg) (hfa : mg ("law" : Str) = some (.ref f)) (c : SaysF fbl fnl K) :
    ∃ fd : FuncData, (∀ (s : Shared) (v : Value), BindsTo s fd ⟨[v], []⟩ [("_law_script", v)]) ∧ ∀ base : Heap, K.In base → base.Ns mainGlobals mg → FnOk P w K mg base (L2.CX P w) 20 f fd ["_law_script"] (spFn (TT K) FLaw) := by
  have W := wd_of X G c
  have e := hfa.symm.trans (He.glo_ok X G (c.fact 71 (f := fun K => (He.Fa.glo "law").ok K)))
  cases e
  obtain ⟨fd_INoName, D_INoName⟩ := c.def_ 0 (d := dINoName) rfl
  have B_INoName := D_INoName.bindsN (ps := ["self", "name"]) fun _ _ _ _ _ _ us hl => match us, hl with | [_, _], _ => rfl
  obtain ⟨fd_IsName, D_IsName⟩ := c.def_ 1 (d := dIsName) rfl
  have B_IsName := D_IsName.bindsN (ps := ["text"]) fun _ _ _ _ _ _ us hl => match us, hl with | [_], _ => rfl
  obtain ⟨fd_Asked, D_Asked⟩ := c.def_ 2 (d := dAsked) rfl
  have B_Asked := D_Asked.bindsN (ps := ["texts"]) fun _ _ _ _ _ _ us hl => match us, hl with | [_], _ => rfl
  obtain ⟨fd_HoldI, D_HoldI⟩ := c.def_ 3 (d := dHoldI) rfl
  have B_HoldI := D_HoldI.bindsN (ps := ["self", "key", "body"]) fun _ _ _ _ _ _ us hl => match us, hl with | [_, _, _], _ => rfl
  obtain ⟨fd_EitherI, D_EitherI⟩ := c.def_ 4 (d := dEitherI) rfl
  have B_EitherI := D_EitherI.bindsN (ps := ["self", "one", "other"]) fun _ _ _ _ _ _ us hl => match us, hl with | [_, _, _], _ => rfl
  obtain ⟨fd_RoundsI, D_RoundsI⟩ := c.def_ 5 (d := dRoundsI) rfl
  have B_RoundsI := D_RoundsI.bindsN (ps := ["self", "body"]) fun _ _ _ _ _ _ us hl => match us, hl with | [_, _], _ => rfl
  obtain ⟨fd_CallI, D_CallI⟩ := c.def_ 6 (d := dCallI) rfl
  have B_CallI := D_CallI.bindsN (ps := ["self", "part"]) fun _ _ _ _ _ _ us hl => match us, hl with | [_, _], _ => rfl
  obtain ⟨fd_MarkI, D_MarkI⟩ := c.def_ 7 (d := dMarkI) rfl
  have B_MarkI := D_MarkI.bindsN (ps := ["self", "name"]) fun _ _ _ _ _ _ us hl => match us, hl with | [_, _], _ => rfl
  obtain ⟨fd_BodyI, D_BodyI⟩ := c.def_ 8 (d := dBodyI) rfl
  have B_BodyI := D_BodyI.bindsN (ps := ["self", "statements"]) fun _ _ _ _ _ _ us hl => match us, hl with | [_, _], _ => rfl
  obtain ⟨fd_HoldT, D_HoldT⟩ := c.def_ 9 (d := dHoldT) rfl
  have B_HoldT := D_HoldT.bindsN (ps := ["self"]) fun _ _ _ _ _ _ us hl => match us, hl with | [_], _ => rfl
  obtain ⟨fd_EitherT, D_EitherT⟩ := c.def_ 10 (d := dEitherT) rfl
  have B_EitherT := D_EitherT.bindsN (ps := ["self"]) fun _ _ _ _ _ _ us hl => match us, hl with | [_], _ => rfl
  obtain ⟨fd_RoundsT, D_RoundsT⟩ := c.def_ 11 (d := dRoundsT) rfl
  have B_RoundsT := D_RoundsT.bindsN (ps := ["self"]) fun _ _ _ _ _ _ us hl => match us, hl with | [_], _ => rfl
  obtain ⟨fd_CallT, D_CallT⟩ := c.def_ 12 (d := dCallT) rfl
  have B_CallT := D_CallT.bindsN (ps := ["self"]) fun _ _ _ _ _ _ us hl => match us, hl with | [_], _ => rfl
  obtain ⟨fd_MarkT, D_MarkT⟩ := c.def_ 13 (d := dMarkT) rfl
  have B_MarkT := D_MarkT.bindsN (ps := ["self"]) fun _ _ _ _ _ _ us hl => match us, hl with | [_], _ => rfl
  obtain ⟨fd_StopT, D_StopT⟩ := c.def_ 14 (d := dStopT) rfl
  have B_StopT := D_StopT.bindsN (ps := ["self"]) fun _ _ _ _ _ _ us hl => match us, hl with | [_], _ => rfl
  obtain ⟨fd_IsSame, D_IsSame⟩ := c.def_ 15 (d := dIsSame) rfl
  have B_IsSame := D_IsSame.bindsN (ps := ["one", "other"]) fun _ _ _ _ _ _ us hl => match us, hl with | [_, _], _ => rfl
  obtain ⟨fd_StEq, D_StEq⟩ := c.def_ 16 (d := dStEq) rfl
  have B_StEq := D_StEq.bindsN (ps := ["self", "other"]) fun _ _ _ _ _ _ us hl => match us, hl with | [_, _], _ => rfl
  obtain ⟨fd_BoEq, D_BoEq⟩ := c.def_ 17 (d := dBoEq) rfl
  have B_BoEq := D_BoEq.bindsN (ps := ["self", "other"]) fun _ _ _ _ _ _ us hl => match us, hl with | [_, _], _ => rfl
  obtain ⟨fd_State, D_State⟩ := c.def_ 18 (d := dState) rfl
  have B_State := D_State.bindsN (ps := ["_law_cell"]) fun _ _ _ _ _ _ us hl => match us, hl with | [_], _ => rfl
  obtain ⟨fd_Digit, D_Digit⟩ := c.def_ 19 (d := dDigit) rfl
  have B_Digit := D_Digit.bindsN (ps := ["_law_state_here", "_law_base"]) fun _ _ _ _ _ _ us hl => match us, hl with | [_, _], _ => rfl
  obtain ⟨fd_Name, D_Name⟩ := c.def_ 20 (d := dName) rfl
  have B_Name := D_Name.bindsN (ps := ["_law_s", "_law_taken"]) fun _ _ _ _ _ _ us hl => match us, hl with | [_, _], _ => rfl
  obtain ⟨fd_Names, D_Names⟩ := c.def_ 21 (d := dNames) rfl
  have B_Names := D_Names.bindsN (ps := ["_law_s", "_law_many"]) fun _ _ _ _ _ _ us hl => match us, hl with | [_, _], _ => rfl
  obtain ⟨fd_Row, D_Row⟩ := c.def_ 22 (d := dRow) rfl
  have B_Row := D_Row.bindsN (ps := ["_law_s", "_law_m", "_law_deep"]) fun _ _ _ _ _ _ us hl => match us, hl with | [_, _, _], _ => rfl
  obtain ⟨fd_Statement, D_Statement⟩ := c.def_ 23 (d := dStatement) rfl
  have B_Statement := D_Statement.bindsN (ps := ["_law_s", "_law_m", "_law_deep"]) fun _ _ _ _ _ _ us hl => match us, hl with | [_, _, _], _ => rfl
  obtain ⟨fd_LBody, D_LBody⟩ := c.def_ 24 (d := dLBody) rfl
  have B_LBody := D_LBody.bindsN (ps := ["_law_row_here"]) fun _ _ _ _ _ _ us hl => match us, hl with | [_], _ => rfl
  obtain ⟨fd_One, D_One⟩ := c.def_ 25 (d := dOne) rfl
  have B_One := D_One.bindsN (ps := ["_law_one_here"]) fun _ _ _ _ _ _ us hl => match us, hl with | [_], _ => rfl
  obtain ⟨fd_Otherwise, D_Otherwise⟩ := c.def_ 26 (d := dOtherwise) rfl
  have B_Otherwise := D_Otherwise.bindsN (ps := ["_law_s", "_law_m", "_law_row_here"]) fun _ _ _ _ _ _ us hl => match us, hl with | [_, _, _], _ => rfl
  obtain ⟨fd_Turned, D_Turned⟩ := c.def_ 27 (d := dTurned) rfl
  have B_Turned := D_Turned.bindsN (ps := ["_law_s", "_law_m", "_law_one_here"]) fun _ _ _ _ _ _ us hl => match us, hl with | [_, _, _], _ => rfl
  obtain ⟨fd_Alike, D_Alike⟩ := c.def_ 28 (d := dAlike) rfl
  have B_Alike := D_Alike.bindsN (ps := ["_law_one_here", "_law_other"]) fun _ _ _ _ _ _ us hl => match us, hl with | [_, _], _ => rfl
  obtain ⟨fd_Shared, D_Shared⟩ := c.def_ 29 (d := dShared) rfl
  have B_Shared := D_Shared.bindsN (ps := ["_law_row_here"]) fun _ _ _ _ _ _ us hl => match us, hl with | [_], _ => rfl
  obtain ⟨fd_Thousands, D_Thousands⟩ := c.def_ 30 (d := dThousands) rfl
  have B_Thousands := D_Thousands.bindsN (ps := ["_law_s"]) fun _ _ _ _ _ _ us hl => match us, hl with | [_], _ => rfl
  obtain ⟨fd_Law, D_Law⟩ := c.def_ 31 (d := dLaw) rfl
  have b := FunD.bindsA (ps := ["_law_script"]) D_Law fun _ _ _ _ _ _ us hl => match us, hl with | [_], _ => rfl
  refine ⟨fd_Law, fun s v => b s [v] rfl, fun base _ _ => ?_⟩
  have x_NoName : NK.ExC P w K mg base 1 "NoName" ((TT K).ca 1) ["self", "name"] ["name"] := exB_ok (c.fact 33) W.mg_NoName (okINoName D_INoName) B_INoName
  have h_IsName : NK.CalX P w K mg base 1 "is_name" ["text"] (spFn (TT K) FIsName) := ⟨⟨_, _, okIsName (k := 0)  W D_IsName , He.glo_ok X G (c.fact 34), D_IsName.kp, B_IsName⟩⟩
  have h_Asked : NK.CalX P w K mg base 3 "asked_names" ["texts"] (spFn (TT K) FAsked) := ⟨⟨_, _, okAsked (k := 2)  W D_Asked h_IsName (by decide) x_NoName (by decide), He.glo_ok X G (c.fact 35), D_Asked.kp, B_Asked⟩⟩
  have c_Hold : NK.CalK P w K mg base (L2.CX P w) 4 "Hold" ((TT K).ca 2) ["self", "key", "body"] (spFn (TT K) FHoldI) := ⟨⟨_, _, mkB_ok (c.fact 36), okHoldI (k := 3)  W D_HoldI h_Asked (by decide), B_HoldI⟩, W.mg_Hold⟩
  have c_Either : NK.CalK P w K mg base (L2.CX P w) 1 "Either" ((TT K).ca 3) ["self", "one", "other"] (spFn (TT K) FEitherI) := ⟨⟨_, _, mkB_ok (c.fact 37), okEitherI (k := 0)  W D_EitherI , B_EitherI⟩, W.mg_Either⟩
  have c_Rounds : NK.CalK P w K mg base (L2.CX P w) 1 "Rounds" ((TT K).ca 4) ["self", "body"] (spFn (TT K) FRoundsI) := ⟨⟨_, _, mkB_ok (c.fact 38), okRoundsI (k := 0)  W D_RoundsI , B_RoundsI⟩, W.mg_Rounds⟩
  have c_Call : NK.CalK P w K mg base (L2.CX P w) 4 "Call" ((TT K).ca 5) ["self", "part"] (spFn (TT K) FCallI) := ⟨⟨_, _, mkB_ok (c.fact 39), okCallI (k := 3)  W D_CallI h_Asked (by decide), B_CallI⟩, W.mg_Call⟩
  have c_Mark : NK.CalK P w K mg base (L2.CX P w) 4 "Mark" ((TT K).ca 6) ["self", "name"] (spFn (TT K) FMarkI) := ⟨⟨_, _, mkB_ok (c.fact 40), okMarkI (k := 3)  W D_MarkI h_Asked (by decide), B_MarkI⟩, W.mg_Mark⟩
  have c_Body : NK.CalK P w K mg base (L2.CX P w) 1 "Body" ((TT K).ca 8) ["self", "statements"] (spFn (TT K) FBodyI) := ⟨⟨_, _, mkB_ok (c.fact 41), okBodyI (k := 0)  W D_BodyI , B_BodyI⟩, W.mg_Body⟩
  have m_told : NK.MOk P w K mg base (L2.CX P w) 1 "told" (mRel (TT K) mt_told) := by
    rintro C sp ⟨cc, ff, e1, hh, e2⟩
    subst e1 e2
    match cc, hh with
    | 0, hh => cases hh
    | 1, hh => cases hh
    | 2, hh => cases hh; exact ⟨(methB_ok (c.fact 42)).1, _, _, _, (methB_ok (c.fact 42)).2, okHoldT (k := 0)  W D_HoldT , B_HoldT⟩
    | 3, hh => cases hh; exact ⟨(methB_ok (c.fact 43)).1, _, _, _, (methB_ok (c.fact 43)).2, okEitherT (k := 0)  W D_EitherT , B_EitherT⟩
    | 4, hh => cases hh; exact ⟨(methB_ok (c.fact 44)).1, _, _, _, (methB_ok (c.fact 44)).2, okRoundsT (k := 0)  W D_RoundsT , B_RoundsT⟩
    | 5, hh => cases hh; exact ⟨(methB_ok (c.fact 45)).1, _, _, _, (methB_ok (c.fact 45)).2, okCallT (k := 0)  W D_CallT , B_CallT⟩
    | 6, hh => cases hh; exact ⟨(methB_ok (c.fact 46)).1, _, _, _, (methB_ok (c.fact 46)).2, okMarkT (k := 0)  W D_MarkT , B_MarkT⟩
    | 7, hh => cases hh; exact ⟨(methB_ok (c.fact 47)).1, _, _, _, (methB_ok (c.fact 47)).2, okStopT (k := 0)  W D_StopT , B_StopT⟩
    | _ + 8, hh => cases hh
  have n_IsSame : NK.CalX P w K mg base 1 "is_same" ["one", "other"] (spFn (TT K) fnNo) := ⟨⟨_, _, D_IsSame.ok (k := 0) (CX := L2.CX P w) scIsSame (fun vs H Q E h => (spNo h).elim) (fun cdv A outer st H vs Q E hr h => (spNo h).elim), He.glo_ok X G (c.fact 48), D_IsSame.kp, B_IsSame⟩⟩
  have o_AStEq := okStEq (P := P) (w := w) (base := base) (k := 1) (r_IsSame := fnNo) W D_StEq n_IsSame (by decide)
  have o_ABoEq := okBoEq (P := P) (w := w) (base := base) (k := 1) (r_IsSame := fnNo) W D_BoEq n_IsSame (by decide)
  have e_A : EqOk P w K mg base (TT K) E_A 2 := by
    refine ⟨fun cc ff hh => ?_, injB_ok (c.fact 49), nfB_ok (c.fact 50)⟩
    match cc, hh with
    | 0, hh => cases hh
    | 1, hh => cases hh
    | 2, hh => cases hh; exact oeqB_ok (c.fact 51) o_AStEq B_StEq
    | 3, hh => cases hh; exact oeqB_ok (c.fact 52) o_AStEq B_StEq
    | 4, hh => cases hh; exact oeqB_ok (c.fact 53) o_AStEq B_StEq
    | 5, hh => cases hh; exact oeqB_ok (c.fact 54) o_AStEq B_StEq
    | 6, hh => cases hh; exact oeqB_ok (c.fact 55) o_AStEq B_StEq
    | 7, hh => cases hh; exact oeqB_ok (c.fact 56) o_AStEq B_StEq
    | 8, hh => cases hh; exact oeqB_ok (c.fact 57) o_ABoEq B_BoEq
    | _ + 9, hh => cases hh
  have h_IsSame : NK.CalX P w K mg base 4 "is_same" ["one", "other"] (spFn (TT K) FIsSame) := ⟨⟨_, _, okIsSame (k := 3)  W D_IsSame m_told (by decide) (by decide) e_A (by decide), He.glo_ok X G (c.fact 48), D_IsSame.kp, B_IsSame⟩⟩
  have o_ZStEq := okStEq (P := P) (w := w) (base := base) (k := 4) (r_IsSame := FIsSame) W D_StEq h_IsSame (by decide)
  have o_ZBoEq := okBoEq (P := P) (w := w) (base := base) (k := 4) (r_IsSame := FIsSame) W D_BoEq h_IsSame (by decide)
  have e_Z : EqOk P w K mg base (TT K) E_Z 5 := by
    refine ⟨fun cc ff hh => ?_, injB_ok (c.fact 49), nfB_ok (c.fact 50)⟩
    match cc, hh with
    | 0, hh => cases hh
    | 1, hh => cases hh
    | 2, hh => cases hh; exact oeqB_ok (c.fact 51) o_ZStEq B_StEq
    | 3, hh => cases hh; exact oeqB_ok (c.fact 52) o_ZStEq B_StEq
    | 4, hh => cases hh; exact oeqB_ok (c.fact 53) o_ZStEq B_StEq
    | 5, hh => cases hh; exact oeqB_ok (c.fact 54) o_ZStEq B_StEq
    | 6, hh => cases hh; exact oeqB_ok (c.fact 55) o_ZStEq B_StEq
    | 7, hh => cases hh; exact oeqB_ok (c.fact 56) o_ZStEq B_StEq
    | 8, hh => cases hh; exact oeqB_ok (c.fact 57) o_ZBoEq B_BoEq
    | _ + 9, hh => cases hh
  have h_State : NK.CalX P w K mg base 1 "_law_state" ["_law_cell"] (spFn (TT K) FState) := ⟨⟨_, _, okState (k := 0)  W D_State , He.glo_ok X G (c.fact 58), D_State.kp, B_State⟩⟩
  have h_Digit : NK.CalX P w K mg base 1 "_law_digit" ["_law_state_here", "_law_base"] (spFn (TT K) FDigit) := ⟨⟨_, _, okDigit (k := 0)  W D_Digit , He.glo_ok X G (c.fact 59), D_Digit.kp, B_Digit⟩⟩
  have h_Name : NK.CalX P w K mg base 2 "_law_name" ["_law_s", "_law_taken"] (spFn (TT K) FName) := ⟨⟨_, _, okName (k := 1)  W D_Name h_Digit (by decide), He.glo_ok X G (c.fact 60), D_Name.kp, B_Name⟩⟩
  have h_Names : NK.CalX P w K mg base 3 "_law_names" ["_law_s", "_law_many"] (spFn (TT K) FNames) := ⟨⟨_, _, okNames (k := 2)  W D_Names h_Name (by decide), He.glo_ok X G (c.fact 61), D_Names.kp, B_Names⟩⟩
  have h_Row_0 : NK.CalX P w K mg base 1 "_law_row" ["_law_s", "_law_m", "_law_deep"] (spFn (TT K) (rowN 0)) := ⟨⟨_, _, D_Row.ok (k := 0) (CX := L2.CX P w) scRow (fun vs H Q E h => (spNo h).elim) (fun cdv A outer st H vs Q E hr h => (spNo h).elim), He.glo_ok X G (c.fact 62), D_Row.kp, B_Row⟩⟩
  have h_Statement_1 : NK.CalX P w K mg base 2 "_law_statement" ["_law_s", "_law_m", "_law_deep"] (spFn (TT K) (FStatement (rowN 0))) := ⟨⟨_, _, okStatement (k := 1) (r_Row := (rowN 0)) W D_Statement h_Digit (by decide) h_Row_0 (by decide), He.glo_ok X G (c.fact 63), D_Statement.kp, B_Statement⟩⟩
  have h_Row_1 : NK.CalX P w K mg base 3 "_law_row" ["_law_s", "_law_m", "_law_deep"] (spFn (TT K) (rowN 1)) := ⟨⟨_, _, okRow (k := 2) (r_Statement := (FStatement (rowN 0))) W D_Row h_Digit (by decide) h_Statement_1 (by decide), He.glo_ok X G (c.fact 62), D_Row.kp, B_Row⟩⟩
  have h_Statement_2 : NK.CalX P w K mg base 4 "_law_statement" ["_law_s", "_law_m", "_law_deep"] (spFn (TT K) (FStatement (rowN 1))) := ⟨⟨_, _, okStatement (k := 3) (r_Row := (rowN 1)) W D_Statement h_Digit (by decide) h_Row_1 (by decide), He.glo_ok X G (c.fact 63), D_Statement.kp, B_Statement⟩⟩
  have h_Row_2 : NK.CalX P w K mg base 5 "_law_row" ["_law_s", "_law_m", "_law_deep"] (spFn (TT K) (rowN 2)) := ⟨⟨_, _, okRow (k := 4) (r_Statement := (FStatement (rowN 1))) W D_Row h_Digit (by decide) h_Statement_2 (by decide), He.glo_ok X G (c.fact 62), D_Row.kp, B_Row⟩⟩
  have h_Statement_3 : NK.CalX P w K mg base 6 "_law_statement" ["_law_s", "_law_m", "_law_deep"] (spFn (TT K) (FStatement (rowN 2))) := ⟨⟨_, _, okStatement (k := 5) (r_Row := (rowN 2)) W D_Statement h_Digit (by decide) h_Row_2 (by decide), He.glo_ok X G (c.fact 63), D_Statement.kp, B_Statement⟩⟩
  have h_Row_3 : NK.CalX P w K mg base 7 "_law_row" ["_law_s", "_law_m", "_law_deep"] (spFn (TT K) (rowN 3)) := ⟨⟨_, _, okRow (k := 6) (r_Statement := (FStatement (rowN 2))) W D_Row h_Digit (by decide) h_Statement_3 (by decide), He.glo_ok X G (c.fact 62), D_Row.kp, B_Row⟩⟩
  have h_Statement_4 : NK.CalX P w K mg base 8 "_law_statement" ["_law_s", "_law_m", "_law_deep"] (spFn (TT K) (FStatement (rowN 3))) := ⟨⟨_, _, okStatement (k := 7) (r_Row := (rowN 3)) W D_Statement h_Digit (by decide) h_Row_3 (by decide), He.glo_ok X G (c.fact 63), D_Statement.kp, B_Statement⟩⟩
  have h_Row_4 : NK.CalX P w K mg base 9 "_law_row" ["_law_s", "_law_m", "_law_deep"] (spFn (TT K) (rowN 4)) := ⟨⟨_, _, okRow (k := 8) (r_Statement := (FStatement (rowN 3))) W D_Row h_Digit (by decide) h_Statement_4 (by decide), He.glo_ok X G (c.fact 62), D_Row.kp, B_Row⟩⟩
  have h_Statement_5 : NK.CalX P w K mg base 10 "_law_statement" ["_law_s", "_law_m", "_law_deep"] (spFn (TT K) (FStatement (rowN 4))) := ⟨⟨_, _, okStatement (k := 9) (r_Row := (rowN 4)) W D_Statement h_Digit (by decide) h_Row_4 (by decide), He.glo_ok X G (c.fact 63), D_Statement.kp, B_Statement⟩⟩
  have h_Row_5 : NK.CalX P w K mg base 11 "_law_row" ["_law_s", "_law_m", "_law_deep"] (spFn (TT K) (rowN 5)) := ⟨⟨_, _, okRow (k := 10) (r_Statement := (FStatement (rowN 4))) W D_Row h_Digit (by decide) h_Statement_5 (by decide), He.glo_ok X G (c.fact 62), D_Row.kp, B_Row⟩⟩
  have h_Row := h_Row_5
  have h_LBody_0 : NK.CalX P w K mg base 1 "_law_body" ["_law_row_here"] (spFn (TT K) (bodyN 0)) := ⟨⟨_, _, D_LBody.ok (k := 0) (CX := L2.CX P w) scLBody (fun vs H Q E h => (spNo h).elim) (fun cdv A outer st H vs Q E hr h => (spNo h).elim), He.glo_ok X G (c.fact 64), D_LBody.kp, B_LBody⟩⟩
  have h_One_1 : NK.CalX P w K mg base 6 "_law_one" ["_law_one_here"] (spFn (TT K) (FOne (bodyN 0))) := ⟨⟨_, _, okOne (k := 5) (r_LBody := (bodyN 0)) W D_One h_LBody_0 (by decide) c_Hold (by decide) c_Either (by decide) c_Rounds (by decide) c_Call (by decide) c_Mark (by decide), He.glo_ok X G (c.fact 65), D_One.kp, B_One⟩⟩
  have h_LBody_1 : NK.CalX P w K mg base 7 "_law_body" ["_law_row_here"] (spFn (TT K) (bodyN 1)) := ⟨⟨_, _, okLBody (k := 6) (r_One := (FOne (bodyN 0))) W D_LBody h_One_1 (by decide) c_Body (by decide), He.glo_ok X G (c.fact 64), D_LBody.kp, B_LBody⟩⟩
  have h_One_2 : NK.CalX P w K mg base 8 "_law_one" ["_law_one_here"] (spFn (TT K) (FOne (bodyN 1))) := ⟨⟨_, _, okOne (k := 7) (r_LBody := (bodyN 1)) W D_One h_LBody_1 (by decide) c_Hold (by decide) c_Either (by decide) c_Rounds (by decide) c_Call (by decide) c_Mark (by decide), He.glo_ok X G (c.fact 65), D_One.kp, B_One⟩⟩
  have h_LBody_2 : NK.CalX P w K mg base 9 "_law_body" ["_law_row_here"] (spFn (TT K) (bodyN 2)) := ⟨⟨_, _, okLBody (k := 8) (r_One := (FOne (bodyN 1))) W D_LBody h_One_2 (by decide) c_Body (by decide), He.glo_ok X G (c.fact 64), D_LBody.kp, B_LBody⟩⟩
  have h_One_3 : NK.CalX P w K mg base 10 "_law_one" ["_law_one_here"] (spFn (TT K) (FOne (bodyN 2))) := ⟨⟨_, _, okOne (k := 9) (r_LBody := (bodyN 2)) W D_One h_LBody_2 (by decide) c_Hold (by decide) c_Either (by decide) c_Rounds (by decide) c_Call (by decide) c_Mark (by decide), He.glo_ok X G (c.fact 65), D_One.kp, B_One⟩⟩
  have h_LBody_3 : NK.CalX P w K mg base 11 "_law_body" ["_law_row_here"] (spFn (TT K) (bodyN 3)) := ⟨⟨_, _, okLBody (k := 10) (r_One := (FOne (bodyN 2))) W D_LBody h_One_3 (by decide) c_Body (by decide), He.glo_ok X G (c.fact 64), D_LBody.kp, B_LBody⟩⟩
  have h_One_4 : NK.CalX P w K mg base 12 "_law_one" ["_law_one_here"] (spFn (TT K) (FOne (bodyN 3))) := ⟨⟨_, _, okOne (k := 11) (r_LBody := (bodyN 3)) W D_One h_LBody_3 (by decide) c_Hold (by decide) c_Either (by decide) c_Rounds (by decide) c_Call (by decide) c_Mark (by decide), He.glo_ok X G (c.fact 65), D_One.kp, B_One⟩⟩
  have h_LBody_4 : NK.CalX P w K mg base 13 "_law_body" ["_law_row_here"] (spFn (TT K) (bodyN 4)) := ⟨⟨_, _, okLBody (k := 12) (r_One := (FOne (bodyN 3))) W D_LBody h_One_4 (by decide) c_Body (by decide), He.glo_ok X G (c.fact 64), D_LBody.kp, B_LBody⟩⟩
  have h_One_5 : NK.CalX P w K mg base 14 "_law_one" ["_law_one_here"] (spFn (TT K) (FOne (bodyN 4))) := ⟨⟨_, _, okOne (k := 13) (r_LBody := (bodyN 4)) W D_One h_LBody_4 (by decide) c_Hold (by decide) c_Either (by decide) c_Rounds (by decide) c_Call (by decide) c_Mark (by decide), He.glo_ok X G (c.fact 65), D_One.kp, B_One⟩⟩
  have h_LBody_5 : NK.CalX P w K mg base 15 "_law_body" ["_law_row_here"] (spFn (TT K) (bodyN 5)) := ⟨⟨_, _, okLBody (k := 14) (r_One := (FOne (bodyN 4))) W D_LBody h_One_5 (by decide) c_Body (by decide), He.glo_ok X G (c.fact 64), D_LBody.kp, B_LBody⟩⟩
  have h_One_6 : NK.CalX P w K mg base 16 "_law_one" ["_law_one_here"] (spFn (TT K) (FOne (bodyN 5))) := ⟨⟨_, _, okOne (k := 15) (r_LBody := (bodyN 5)) W D_One h_LBody_5 (by decide) c_Hold (by decide) c_Either (by decide) c_Rounds (by decide) c_Call (by decide) c_Mark (by decide), He.glo_ok X G (c.fact 65), D_One.kp, B_One⟩⟩
  have h_LBody_6 : NK.CalX P w K mg base 17 "_law_body" ["_law_row_here"] (spFn (TT K) (bodyN 6)) := ⟨⟨_, _, okLBody (k := 16) (r_One := (FOne (bodyN 5))) W D_LBody h_One_6 (by decide) c_Body (by decide), He.glo_ok X G (c.fact 64), D_LBody.kp, B_LBody⟩⟩
  have h_LBody := h_LBody_6
  have h_One : NK.CalX P w K mg base 18 "_law_one" ["_law_one_here"] (spFn (TT K) (FOne (bodyN 6))) := ⟨⟨_, _, okOne (k := 17) (r_LBody := (bodyN 6)) W D_One h_LBody (by decide) c_Hold (by decide) c_Either (by decide) c_Rounds (by decide) c_Call (by decide) c_Mark (by decide), He.glo_ok X G (c.fact 65), D_One.kp, B_One⟩⟩
  have h_Otherwise_0 : NK.CalX P w K mg base 1 "_law_otherwise" ["_law_s", "_law_m", "_law_row_here"] (spFn (TT K) (othN 0)) := ⟨⟨_, _, D_Otherwise.ok (k := 0) (CX := L2.CX P w) scOtherwise (fun vs H Q E h => (spNo h).elim) (fun cdv A outer st H vs Q E hr h => (spNo h).elim), He.glo_ok X G (c.fact 66), D_Otherwise.kp, B_Otherwise⟩⟩
  have h_Turned_1 : NK.CalX P w K mg base 2 "_law_turned" ["_law_s", "_law_m", "_law_one_here"] (spFn (TT K) (FTurned (othN 0))) := ⟨⟨_, _, okTurned (k := 1) (r_Otherwise := (othN 0)) W D_Turned h_Digit (by decide) h_Otherwise_0 (by decide) (by decide), He.glo_ok X G (c.fact 67), D_Turned.kp, B_Turned⟩⟩
  have h_Otherwise_1 : NK.CalX P w K mg base 3 "_law_otherwise" ["_law_s", "_law_m", "_law_row_here"] (spFn (TT K) (othN 1)) := ⟨⟨_, _, okOtherwise (k := 2) (r_Turned := (FTurned (othN 0))) W D_Otherwise h_Digit (by decide) h_Turned_1 (by decide) (by decide), He.glo_ok X G (c.fact 66), D_Otherwise.kp, B_Otherwise⟩⟩
  have h_Turned_2 : NK.CalX P w K mg base 4 "_law_turned" ["_law_s", "_law_m", "_law_one_here"] (spFn (TT K) (FTurned (othN 1))) := ⟨⟨_, _, okTurned (k := 3) (r_Otherwise := (othN 1)) W D_Turned h_Digit (by decide) h_Otherwise_1 (by decide) (by decide), He.glo_ok X G (c.fact 67), D_Turned.kp, B_Turned⟩⟩
  have h_Otherwise_2 : NK.CalX P w K mg base 5 "_law_otherwise" ["_law_s", "_law_m", "_law_row_here"] (spFn (TT K) (othN 2)) := ⟨⟨_, _, okOtherwise (k := 4) (r_Turned := (FTurned (othN 1))) W D_Otherwise h_Digit (by decide) h_Turned_2 (by decide) (by decide), He.glo_ok X G (c.fact 66), D_Otherwise.kp, B_Otherwise⟩⟩
  have h_Turned_3 : NK.CalX P w K mg base 6 "_law_turned" ["_law_s", "_law_m", "_law_one_here"] (spFn (TT K) (FTurned (othN 2))) := ⟨⟨_, _, okTurned (k := 5) (r_Otherwise := (othN 2)) W D_Turned h_Digit (by decide) h_Otherwise_2 (by decide) (by decide), He.glo_ok X G (c.fact 67), D_Turned.kp, B_Turned⟩⟩
  have h_Otherwise_3 : NK.CalX P w K mg base 7 "_law_otherwise" ["_law_s", "_law_m", "_law_row_here"] (spFn (TT K) (othN 3)) := ⟨⟨_, _, okOtherwise (k := 6) (r_Turned := (FTurned (othN 2))) W D_Otherwise h_Digit (by decide) h_Turned_3 (by decide) (by decide), He.glo_ok X G (c.fact 66), D_Otherwise.kp, B_Otherwise⟩⟩
  have h_Turned_4 : NK.CalX P w K mg base 8 "_law_turned" ["_law_s", "_law_m", "_law_one_here"] (spFn (TT K) (FTurned (othN 3))) := ⟨⟨_, _, okTurned (k := 7) (r_Otherwise := (othN 3)) W D_Turned h_Digit (by decide) h_Otherwise_3 (by decide) (by decide), He.glo_ok X G (c.fact 67), D_Turned.kp, B_Turned⟩⟩
  have h_Otherwise_4 : NK.CalX P w K mg base 9 "_law_otherwise" ["_law_s", "_law_m", "_law_row_here"] (spFn (TT K) (othN 4)) := ⟨⟨_, _, okOtherwise (k := 8) (r_Turned := (FTurned (othN 3))) W D_Otherwise h_Digit (by decide) h_Turned_4 (by decide) (by decide), He.glo_ok X G (c.fact 66), D_Otherwise.kp, B_Otherwise⟩⟩
  have h_Turned_5 : NK.CalX P w K mg base 10 "_law_turned" ["_law_s", "_law_m", "_law_one_here"] (spFn (TT K) (FTurned (othN 4))) := ⟨⟨_, _, okTurned (k := 9) (r_Otherwise := (othN 4)) W D_Turned h_Digit (by decide) h_Otherwise_4 (by decide) (by decide), He.glo_ok X G (c.fact 67), D_Turned.kp, B_Turned⟩⟩
  have h_Otherwise_5 : NK.CalX P w K mg base 11 "_law_otherwise" ["_law_s", "_law_m", "_law_row_here"] (spFn (TT K) (othN 5)) := ⟨⟨_, _, okOtherwise (k := 10) (r_Turned := (FTurned (othN 4))) W D_Otherwise h_Digit (by decide) h_Turned_5 (by decide) (by decide), He.glo_ok X G (c.fact 66), D_Otherwise.kp, B_Otherwise⟩⟩
  have h_Otherwise := h_Otherwise_5
  have h_Alike : NK.CalX P w K mg base 19 "_law_alike_right" ["_law_one_here", "_law_other"] (spFn (TT K) FAlike) := ⟨⟨_, _, okAlike (k := 18)  W D_Alike h_LBody (by decide) h_One (by decide) e_Z (by decide), He.glo_ok X G (c.fact 68), D_Alike.kp, B_Alike⟩⟩
  have h_Shared : NK.CalX P w K mg base 19 "_law_shared_right" ["_law_row_here"] (spFn (TT K) FShared) := ⟨⟨_, _, okShared (k := 18)  W D_Shared h_One (by decide) h_LBody (by decide) c_Body (by decide) c_Either (by decide) c_Hold (by decide) c_Rounds (by decide) e_Z (by decide), He.glo_ok X G (c.fact 69), D_Shared.kp, B_Shared⟩⟩
  have h_Thousands : NK.CalX P w K mg base 9 "_law_thousands_right" ["_law_s"] (spFn (TT K) FThousands) := ⟨⟨_, _, okThousands (k := 8)  W D_Thousands h_Digit (by decide) c_Body (by decide) c_Mark (by decide) c_Hold (by decide) c_Rounds (by decide) c_Either (by decide) e_Z (by decide), He.glo_ok X G (c.fact 70), D_Thousands.kp, B_Thousands⟩⟩
  exact okLaw (k := 19)  W D_Law h_Thousands (by decide) h_State (by decide) h_Names (by decide) h_Row (by decide) h_Digit (by decide) h_Otherwise (by decide) h_Alike (by decide) h_LBody (by decide) h_Shared (by decide) e_Z (by decide) (by decide)
end K03

namespace K03
open PySem PySem.Spec PyProof.Rows L2 FM
def loose : List Str := (["_wall", "KeysError", "NoName", "LETTERS", "FIGURES", "LONGEST", "is_name", "asked_names", "Statement", "Hold", "Either", "Rounds", "Call", "Mark", "Stop", "Body", "bodies_in", "is_same", "_law_state", "_law_digit", "_law_name", "_law_names", "_law_statement", "_law_row", "_law_one", "_law_body", "_law_turned", "_law_otherwise", "_law_alike_right", "_law_shared_right"] : List Str) ++ (["_law_thousands_right"] : List Str)
abbrev R : PySem.W.OpenRow := PySem.W.OpenLaw.row PySem.Challenge.rw_nestkeys_k03_bodies_alike
abbrev hk : PySem.W.Hook := hookF 6 fbl fnl
def obz (s : PySem.W.SharedT) : He.AlD := obsFG 6 fbl fnl (HandSHeadRun.getT s)
theorem obz_eq (s : PySem.W.SharedT) : obz s = hk.obs s.abs := obsFG_eq (HandSHeadRun.getT_eq s)
set_option maxHeartbeats 0 in
theorem run (w : World) : HandSHeadRun.RunEq R (PySem.W.view R.prog [35]) hk obz 4000 loose w := by
  intro os
  kernel_rfl
end K03

namespace K03
open PySem PySem.Spec PyProof.Rows L2 FM
/-! ### the draws -/
structure Ok3 (a b c : Int) : Prop where
  a0 : 0 ≤ a
  b0 : 0 ≤ b
  b1 : b < 4294967296
  c0 : 0 ≤ c
  c1 : c < 4294967296
abbrev stC (a b c : Int) : Option Cell := some (.lst [.int a, .int b, .int c])
theorem lt_of {α : Type} {l : List α} {k : Nat} {x : α} (h : l[k]? = some x) : k < l.length := (List.getElem?_eq_some_iff.mp h).1
theorem set_get {α : Type} {l : List α} {k : Nat} {x y : α} (h : l[k]? = some x) : (l.set k y)[k]? = some y := by
  rw [List.getElem?_set_self (lt_of h)]
theorem take_set {α : Type} {l : List α} {k : Nat} {y : α} : (l.set k y).take l.length = l.set k y := List.take_of_length_le (by simp)
theorem digit_ok {m : Cells} {k : Nat} {a b c n : Int} (h : m[k]? = some (stC a b c)) (o : Ok3 a b c) (hn : 0 < n) (hn2 : n < 1073741824) :
    ∃ r a' b', FDigit [.ref k, .d (.int n)] m = .ok (.d (.int r)) (m.set k (stC a' b' c)) ∧ 0 ≤ r ∧ r < n ∧ Ok3 a' b' c := by
  have cd : CDiv a n := ⟨hn, hn2⟩
  by_cases ha : 0 < a
  · refine ⟨a % n, a / n, b, ?_, Int.emod_nonneg a (by omega), Int.emod_lt_of_pos a hn, ⟨Int.ediv_nonneg o.a0 (by omega), o.b0, o.b1, o.c0, o.c1⟩⟩
    unfold FDigit runFn mDigit
    simp [mSeq, mIfS, mTest, mOp, mVar, mC, mAsg, mRet, gNm, thenG, Rs.bind, Rs.then, ofO, exitF, oIB, oIxL, lstOf, h, ha, hn, cd, oIc, mCB, mCons, mNil, nInt, mSetL, isL, ixN, atI, take_set, mNext]
  · have ha0 : a = 0 := by have := o.a0; omega
    have cd1 : CDiv b 1009 := ⟨by decide, by decide⟩
    have cm : CMul b (b / 1009 + 69621) := Or.inl ⟨by have := o.b0; omega, by have := o.b1; omega⟩
    refine ⟨((b * (b / 1009 + 69621) + c) % 2147483629 + 7) / 97 % n, a, (b * (b / 1009 + 69621) + c) % 2147483629 + 7, ?_, Int.emod_nonneg _ (by omega), Int.emod_lt_of_pos _ hn, ⟨o.a0, ?_, ?_, o.c0, o.c1⟩⟩
    · have cd2 : CDiv ((b * (b / 1009 + 69621) + c) % 2147483629 + 7) 97 := ⟨by decide, by decide⟩
      unfold FDigit runFn mDigit
      simp [mSeq, mIfS, mTest, mOp, mVar, mC, mAsg, mRet, gNm, thenG, Rs.bind, Rs.then, ofO, exitF, oIB, oIxL, lstOf, h, ha, hn, cd1, cd2, cm, oIc, mCB, mCons, mNil, nInt, oII, mSetL, isL, ixN, atI, take_set, mNext, set_get h, ha0]
    · have := Int.emod_nonneg (b * (b / 1009 + 69621) + c) (b := 2147483629) (by decide); omega
    · have := Int.emod_lt_of_pos (b * (b / 1009 + 69621) + c) (b := 2147483629) (by decide); omega
theorem state_ok {m : Cells} {c : Int} : ∃ a b d, FState [.d (.int c)] m = .ok (.ref m.length) (m ++ [stC a b d]) ∧ Ok3 a b d := by
  obtain ⟨e, he, he0⟩ : ∃ e : Int, (if c < 0 then -c else c) = e ∧ 0 ≤ e := ⟨_, rfl, by split <;> omega⟩
  obtain ⟨t, ht, ht1⟩ : ∃ t : Int, (if (1000000000000000000 : Int) ≤ e then (1 : Int) else 0) = t ∧ (0 ≤ t ∧ t ≤ 1) := ⟨_, rfl, by split <;> omega⟩
  refine ⟨e * t, e % 2147483629 + 7, e % 2147483587, ?_, ?_⟩
  · have cp : CPow 10 18 := ⟨by decide, by decide, by decide⟩
    have cm : CMul e t := Or.inr ⟨by omega, by omega⟩
    unfold FState runFn mState
    simp [mSeq, mTest, mOp, mVar, mC, mAsg, mRet, gNm, thenG, Rs.bind, Rs.then, ofO, exitF, oIB, mCB, mCons, mNil, nAbs, nInt, oIc, oII, mLstC, dats, szOk, he, cp, ht, cm]
  · refine ⟨Int.mul_nonneg he0 ht1.1, ?_, ?_, ?_, ?_⟩
    · have := Int.emod_nonneg e (b := 2147483629) (by decide); omega
    · have := Int.emod_lt_of_pos e (b := 2147483629) (by decide); omega
    · exact Int.emod_nonneg e (by decide)
    · have := Int.emod_lt_of_pos e (b := 2147483587) (by decide); omega
end K03

namespace K03
open PySem PySem.Spec PyProof.Rows L2 FM
theorem sz_lit {n : Nat} (h : n ≤ 16777216) : szOk n = true := decide_eq_true h
/-! ### names -/
theorem le_of_nodup_sub {α : Type} [DecidableEq α] : ∀ {l r : List α}, l.Nodup → (∀ x ∈ l, x ∈ r) → l.length ≤ r.length
  | [], r, _, _ => Nat.zero_le _
  | x :: l, r, hn, hs => by
    rw [List.nodup_cons] at hn
    have hx : x ∈ r := hs x List.mem_cons_self
    have ih := le_of_nodup_sub (l := l) (r := r.erase x) hn.2 fun y hy => (List.mem_erase_of_ne (fun e => hn.1 (by rw [← e]; exact hy))).mpr (hs y (List.mem_cons_of_mem _ hy))
    rw [List.length_erase_of_mem hx] at ih
    have := List.length_pos_of_mem hx
    rw [List.length_cons]
    omega
/-- the n-th try -/
def tryN (stem : Str) : Nat → Str
  | 0 => stem
  | n + 1 => stem ++ Str.ofString (toString (((n + 1 : Nat) : Nat) : Int))
theorem str_app_len (x y : Str) : (x ++ y).length = x.length + y.length := by
  show (x.cps ++ y.cps).size = _
  rw [Array.size_append]
  rfl
theorem num_str {n : Nat} (h : n ≤ 9) : 1 ≤ (Str.ofString (toString ((n : Nat) : Int))).length ∧ (Str.ofString (toString ((n : Nat) : Int))).length ≤ 1 ∧ ∀ c ∈ (Str.ofString (toString ((n : Nat) : Int))).cps.toList, 48 ≤ c ∧ c ≤ 57 := by
  have : n = 0 ∨ n = 1 ∨ n = 2 ∨ n = 3 ∨ n = 4 ∨ n = 5 ∨ n = 6 ∨ n = 7 ∨ n = 8 ∨ n = 9 := by omega
  rcases this with rfl | rfl | rfl | rfl | rfl | rfl | rfl | rfl | rfl | rfl <;> decide +kernel
theorem tryN_inj {stem : Str} : ∀ {i j : Nat}, i ≤ 9 → j ≤ 9 → tryN stem i = tryN stem j → i = j
  | 0, 0, _, _, _ => rfl
  | 0, j + 1, _, hj, e => by
    have h := congrArg Str.length e
    have k := num_str hj
    simp only [tryN, str_app_len] at h
    omega
  | i + 1, 0, hi, _, e => by
    have h := congrArg Str.length e
    have k := num_str hi
    simp only [tryN, str_app_len] at h
    omega
  | i + 1, j + 1, hi, hj, e => by
    have h : (stem ++ Str.ofString (toString (((i + 1 : Nat) : Nat) : Int))).cps = (stem ++ Str.ofString (toString (((j + 1 : Nat) : Nat) : Int))).cps := congrArg Str.cps e
    have h2 : stem.cps ++ (Str.ofString (toString (((i + 1 : Nat) : Nat) : Int))).cps = stem.cps ++ (Str.ofString (toString (((j + 1 : Nat) : Nat) : Int))).cps := h
    have h3 := (Array.append_right_inj _).mp h2
    have h4 : Str.ofString (toString (((i + 1 : Nat) : Nat) : Int)) = Str.ofString (toString (((j + 1 : Nat) : Nat) : Int)) := by
      generalize Str.ofString (toString (((i + 1 : Nat) : Nat) : Int)) = x at h3
      generalize Str.ofString (toString (((j + 1 : Nat) : Nat) : Int)) = y at h3
      cases x
      cases y
      exact congrArg Str.mk h3
    have r1 := PySem.W.KIN.num_reads (n := ((i + 1 : Nat) : Int)) (by omega) (by omega)
    have r2 := PySem.W.KIN.num_reads (n := ((j + 1 : Nat) : Int)) (by omega) (by omega)
    rw [h4, r2] at r1
    have := Option.some.inj r1
    omega
theorem tries_few {stem : Str} {ys : List Str} {k : Nat} (hy : ys.length ≤ 8) (hk : k ≤ 8) (h : ∀ j, j ≤ k → tryN stem j ∈ ys) : k + 1 ≤ ys.length := by
  have hn : ((List.range (k + 1)).map (tryN stem)).Nodup := by
    rw [List.Nodup, List.pairwise_map]
    refine List.Pairwise.imp_of_mem ?_ (List.nodup_range (n := k + 1))
    intro a b ha hb hab e
    rw [List.mem_range] at ha hb
    exact hab (tryN_inj (by omega) (by omega) e)
  have := le_of_nodup_sub hn (r := ys) fun x hx => by
    obtain ⟨j, hj, rfl⟩ := List.mem_map.mp hx
    rw [List.mem_range] at hj
    exact h j (by omega)
  rw [List.length_map, List.length_range] at this
  exact this
theorem app_tl (x y : Str) : (x ++ y).cps.toList = x.cps.toList ++ y.cps.toList := by
  have e : (x ++ y).cps = x.cps ++ y.cps := rfl
  rw [e, Array.toList_append]
def NameCp (c : Nat) : Prop := (97 ≤ c ∧ c ≤ 122) ∨ (48 ≤ c ∧ c ≤ 57)
/-- a name of at most n signs -/
structure GName (n : Nat) (z : Str) : Prop where
  hd : ∃ c cs, z.cps.toList = c :: cs ∧ 97 ≤ c ∧ c ≤ 122
  cp : ∀ c ∈ z.cps.toList, NameCp c
  ln : z.length ≤ n
theorem GName.app {n k : Nat} {z y : Str} (h : GName n z) (hy : ∀ c ∈ y.cps.toList, NameCp c) (hk : n + y.length ≤ k) : GName k (z ++ y) := by
  obtain ⟨c, cs, e, h1, h2⟩ := h.hd
  refine ⟨⟨c, cs ++ y.cps.toList, by rw [app_tl, e]; rfl, h1, h2⟩, fun x hx => ?_, by rw [str_app_len]; have := h.ln; omega⟩
  rw [app_tl] at hx
  rcases List.mem_append.mp hx with w | w
  · exact h.cp x w
  · exact hy x w
theorem GName.mono {n k : Nat} {z : Str} (h : GName n z) (hk : n ≤ k) : GName k z := ⟨h.hd, h.cp, Nat.le_trans h.ln hk⟩
theorem tryN_good {stem : Str} {n : Nat} (h : GName n stem) : ∀ {k : Nat}, k ≤ 9 → GName (n + 1) (tryN stem k)
  | 0, _ => h.mono (Nat.le_succ n)
  | k + 1, hk => by
    have q := num_str hk
    exact h.app (fun c hc => .inr (q.2.2 c hc)) (by omega)
theorem signs36 : ∀ c ∈ ("abcdefghijklmnopqrstuvwxyz0123456789" : Str).cps.toList, NameCp c := by
  unfold NameCp
  decide +kernel
theorem pick36 {i : Int} (h0 : 0 ≤ i) (h1 : i < 36) : ∃ c, atI ("abcdefghijklmnopqrstuvwxyz0123456789" : Str).cps.toList i = some c ∧ NameCp c := by
  have hl : ("abcdefghijklmnopqrstuvwxyz0123456789" : Str).cps.toList.length = 36 := by decide +kernel
  have hi : i.toNat < ("abcdefghijklmnopqrstuvwxyz0123456789" : Str).cps.toList.length := by rw [hl]; omega
  refine ⟨_, ?_, signs36 _ (List.getElem_mem hi)⟩
  unfold atI ixN
  rw [if_pos h0, if_pos (by rw [hl]; omega), Option.bind_some]
  exact List.getElem?_eq_getElem hi
theorem pick26 {i : Int} (h0 : 0 ≤ i) (h1 : i < 26) : ∃ c, atI ("abcdefghijklmnopqrstuvwxyz0123456789" : Str).cps.toList i = some c ∧ 97 ≤ c ∧ c ≤ 122 := by
  have : i = 0 ∨ i = 1 ∨ i = 2 ∨ i = 3 ∨ i = 4 ∨ i = 5 ∨ i = 6 ∨ i = 7 ∨ i = 8 ∨ i = 9 ∨ i = 10 ∨ i = 11 ∨ i = 12 ∨ i = 13 ∨ i = 14 ∨ i = 15 ∨ i = 16 ∨ i = 17 ∨ i = 18 ∨ i = 19 ∨ i = 20 ∨ i = 21 ∨ i = 22 ∨ i = 23 ∨ i = 24 ∨ i = 25 := by omega
  rcases this with rfl | rfl | rfl | rfl | rfl | rfl | rfl | rfl | rfl | rfl | rfl | rfl | rfl | rfl | rfl | rfl | rfl | rfl | rfl | rfl | rfl | rfl | rfl | rfl | rfl | rfl <;> exact ⟨_, rfl, by decide +kernel, by decide +kernel⟩
/-- the stem's signs -/
theorem stem_loop {m : Cells} {k : Nat} {c : Int} {x1 x3 x6 x7 x8 : Option Vl} {s0 : Option Cell} (hm : m[k]? = some s0) : ∀ (xs : List Dt) {a b : Int} {stem : Str} {n : Nat} {x5 : Option Vl}, GName n stem → n + xs.length ≤ 7 → Ok3 a b c →
    ∃ a' b' stem' x5', mLoop (gNm 5) (mAsg (mOp oCatS (mVar 4) (mOp oIxS (mVar 2) (mCall FDigit (mCons (mVar 0) (mCons (mC (.int 36)) (mNil)))))) (gNm 4)) xs
      [some (.ref k), x1, some (.d (.str "abcdefghijklmnopqrstuvwxyz0123456789")), x3, some (.d (.str stem)), x5, x6, x7, x8] (m.set k (stC a b c)) =
      .nx [some (.ref k), x1, some (.d (.str "abcdefghijklmnopqrstuvwxyz0123456789")), x3, some (.d (.str stem')), x5', x6, x7, x8] (m.set k (stC a' b' c)) ∧ GName 7 stem' ∧ Ok3 a' b' c
  | [], a, b, stem, n, x5, h, hn, o => ⟨a, b, stem, x5, rfl, h.mono (by simpa using hn), o⟩
  | x :: xs, a, b, stem, n, x5, h, hn, o => by
    obtain ⟨r, a1, b1, e1, r0, r1, o1⟩ := digit_ok (m := m.set k (stC a b c)) (set_get hm) o (n := 36) (by decide) (by decide)
    obtain ⟨cp, hcp, gcp⟩ := pick36 r0 r1
    have g1 : GName (n + 1) (stem ++ (⟨#[cp]⟩ : Str)) := h.app (fun c hc => by simp at hc; subst hc; exact gcp) (Nat.le_refl _)
    rw [List.length_cons] at hn
    obtain ⟨a', b', stem', x5', e2, g2, o2⟩ := stem_loop hm xs (a := a1) (b := b1) (n := n + 1) (x5 := some (.d x)) g1 (by omega) o1
    refine ⟨a', b', stem', x5', ?_, g2, o2⟩
    have hz : szOk (stem.length + (⟨#[cp]⟩ : Str).length) = true := by
      have := h.ln
      have e : (⟨#[cp]⟩ : Str).length = 1 := rfl
      rw [e]
      unfold szOk
      exact decide_eq_true (by omega)
    rw [List.set_set] at e1
    have hz2 : szOk ("abcdefghijklmnopqrstuvwxyz0123456789" : Str).length = true := by decide +kernel
    simp only [mLoop]
    simp [mSeq, mIfS, mTest, mOp, mVar, mC, mAsg, mRet, gNm, thenG, Rs.bind, Rs.then, ofO, exitF, mCons, mNil, mCall, mNext, mCB, mDrop, turn, mItA, mIt, mFor, sz_lit, e1, oIxS, oCatS, hcp, hz, hz2]
    exact e2
/-- which texts are there -/
theorem inV_str {z : Str} : ∀ ys : List Str, inV (.str z) (ys.map V.str) = decide (z ∈ ys)
  | [] => by simp [inV]
  | y :: ys => by
    have ih := inV_str (z := z) ys
    unfold inV at ih ⊢
    rw [List.map_cons, List.any_cons, ih]
    simp only [eqV, List.mem_cons]
    by_cases e : y = z
    · subst e; simp
    · have e2 : ¬ z = y := fun h => e h.symm
      simp [e, e2]
theorem flats_str : ∀ ys : List Str, flatsD (ys.map .str) = some (ys.map V.str)
  | [] => rfl
  | y :: ys => by simp [flatsD, flatD, flats_str ys]
theorem in_cell {m : Cells} {j : Nat} {z : Str} {ys : List Str} (hj : m[j]? = some (some (.lst (ys.map .str)))) : oIn false m (.d (.str z)) (.ref j) = some (.d (.bl (decide (z ∈ ys)))) := by
  simp [oIn, lstOf, hj, flatD, flats_str, inV_str]
theorem try_loop {m : Cells} {j : Nat} {stem : Str} {ys : List Str} {x0 x2 x3 x5 x6 : Option Vl} (hj : m[j]? = some (some (.lst (ys.map .str)))) (hy : ys.length ≤ 8) (hg : GName 7 stem) : ∀ (d i f : Nat), i + d = 9 → d < f → (∀ t, t < i → tryN stem t ∈ ys) →
    ∃ i' x8, (i' ≤ 9 ∧ tryN stem i' ∉ ys) ∧ mWhile f (mTest (mOp (oIn false) (mVar 7) (mVar 1))) (mSeq (mAsg (mOp oAdd (mVar 8) (mC (.int 1))) (gNm 8)) (mAsg (mOp oCatS (mVar 4) (mCB nStr (mCons (mVar 8) (mNil)))) (gNm 7)))
      [x0, some (.ref j), x2, x3, some (.d (.str stem)), x5, x6, some (.d (.str (tryN stem i))), some (.d (.int (i : Nat)))] m = .nx [x0, some (.ref j), x2, x3, some (.d (.str stem)), x5, x6, some (.d (.str (tryN stem i'))), x8] m
  | d, i, 0, _, h, _ => absurd h (Nat.not_lt_zero d)
  | d, i, f + 1, hi, hf, ht => by
    by_cases hin : tryN stem i ∈ ys
    · cases d with
      | zero =>
        have hi9 : i = 9 := by omega
        subst hi9
        exact absurd (tries_few (k := 8) hy (Nat.le_refl 8) (fun j hj => ht j (by omega))) (by omega)
      | succ d =>
        have ht' : ∀ t, t < i + 1 → tryN stem t ∈ ys := fun t h => by
          by_cases e : t = i
          · subst e; exact hin
          · exact ht t (by omega)
        obtain ⟨i', x8, h1, e⟩ := try_loop (x0 := x0) (x2 := x2) (x3 := x3) (x5 := x5) (x6 := x6) hj hy hg d (i + 1) f (by omega) (by omega) ht'
        refine ⟨i', x8, h1, ?_⟩
        rw [← e]
        have hn := num_str (n := i + 1) (by omega)
        have hl := hg.ln
        have hz : szOk (stem.length + (Str.ofString (toString ((i : Int) + 1))).length) = true := by
          have e1 : ((i : Int) + 1) = ((i + 1 : Nat) : Int) := by omega
          rw [e1]
          unfold szOk
          exact decide_eq_true (by omega)
        have hlog : ((i : Int) + 1).natAbs.log2 < 1920 := by
          have e1 : ((i : Int) + 1).natAbs = i + 1 := by omega
          rw [e1]
          exact Nat.lt_of_lt_of_le (Nat.log2_lt (by omega) |>.mpr (show i + 1 < 2 ^ 4 by omega)) (by decide)
        have e2 : tryN stem (i + 1) = stem ++ Str.ofString (toString ((i : Int) + 1)) := rfl
        have hz2 : szOk (stem.length + (Str.ofString ((i : Int) + 1).repr).length) = true := hz
        have e3 : tryN stem (i + 1) = stem ++ Str.ofString ((i : Int) + 1).repr := rfl
        simp only [mWhile]
        simp [mSeq, mIfS, mTest, mOp, mVar, mC, mAsg, mRet, gNm, thenG, Rs.bind, Rs.then, ofO, exitF, mCons, mNil, mCall, mNext, mCB, mDrop, turn, mItA, mIt, mFor, sz_lit, in_cell hj, hin, oII, nStr, oCatS, hlog, hz2, e3]
    · refine ⟨i, some (.d (.int (i : Nat))), ⟨by omega, hin⟩, ?_⟩
      simp only [mWhile]
      simp [mSeq, mIfS, mTest, mOp, mVar, mC, mAsg, mRet, gNm, thenG, Rs.bind, Rs.then, ofO, exitF, mCons, mNil, mCall, mNext, mCB, mDrop, turn, mItA, mIt, mFor, sz_lit, in_cell hj, hin]
theorem word11 {i : Int} (h0 : 0 ≤ i) (h1 : i < 11) : ∃ z, atI ([.str "hold", .str "either", .str "or", .str "rounds", .str "call", .str "mark", .str "stop", .str "sort", .str "part", .str "none", .str "rings"] : List Dt) i = some (.str z) ∧ GName 7 z := by
  have : i = 0 ∨ i = 1 ∨ i = 2 ∨ i = 3 ∨ i = 4 ∨ i = 5 ∨ i = 6 ∨ i = 7 ∨ i = 8 ∨ i = 9 ∨ i = 10 := by omega
  rcases this with rfl | rfl | rfl | rfl | rfl | rfl | rfl | rfl | rfl | rfl | rfl <;> exact ⟨_, rfl, ⟨⟨_, _, rfl, by decide +kernel, by decide +kernel⟩, by unfold NameCp; decide +kernel, by decide +kernel⟩⟩
theorem name_ok {m : Cells} {k j : Nat} {a b c : Int} {ys : List Str} (hk : m[k]? = some (stC a b c)) (hj : m[j]? = some (some (.lst (ys.map .str)))) (hjk : j ≠ k) (o : Ok3 a b c) (hy : ys.length ≤ 8) :
    ∃ z a' b', FName [.ref k, .ref j] m = .ok (.d (.str z)) (m.set k (stC a' b' c)) ∧ GName 8 z ∧ z ∉ ys ∧ Ok3 a' b' c := by
  obtain ⟨r1, a1, b1, e1, p1, q1, o1⟩ := digit_ok hk o (n := 7) (by decide) (by decide)
  obtain ⟨r2, a2, b2, e2, p2, q2, o2⟩ := digit_ok (set_get hk (y := stC a1 b1 c)) o1 (n := 26) (by decide) (by decide)
  obtain ⟨c0, hc0, g0, g0'⟩ := pick26 p2 q2
  obtain ⟨r3, a3, b3, e3, p3, q3, o3⟩ := digit_ok (set_get hk (y := stC a2 b2 c)) o2 (n := 4) (by decide) (by decide)
  rw [List.set_set] at e2 e3
  have gs : GName 1 (⟨#[c0]⟩ : Str) := ⟨⟨c0, [], rfl, g0, g0'⟩, fun x hx => by simp at hx; subst hx; exact .inl ⟨g0, g0'⟩, Nat.le_refl _⟩
  obtain ⟨a4, b4, stem, x5, e4, g4, o4⟩ := stem_loop (x1 := some (.ref j)) (x3 := some (.d (.int r1))) (x6 := none) (x7 := none) (x8 := none) (x5 := none) hk (rangeD 0 r3.toNat) gs (by rw [rangeD_len]; omega) o3
  have hz2 : szOk ("abcdefghijklmnopqrstuvwxyz0123456789" : Str).length = true := by decide +kernel
  have hr : okR r3 = true := by unfold okR; exact decide_eq_true ⟨by omega, by omega⟩
  have fin : ∀ (stem : Str) (a' b' : Int) (x6 : Option Vl), GName 7 stem → ∃ i' x8, (i' ≤ 9 ∧ tryN stem i' ∉ ys) ∧ mWhile fuel (mTest (mOp (oIn false) (mVar 7) (mVar 1))) (mSeq (mAsg (mOp oAdd (mVar 8) (mC (.int 1))) (gNm 8)) (mAsg (mOp oCatS (mVar 4) (mCB nStr (mCons (mVar 8) (mNil)))) (gNm 7)))
      [some (.ref k), some (.ref j), some (.d (.str "abcdefghijklmnopqrstuvwxyz0123456789")), some (.d (.int r1)), some (.d (.str stem)), x5, x6, some (.d (.str stem)), some (.d (.int 0))] (m.set k (stC a' b' c)) =
      .nx [some (.ref k), some (.ref j), some (.d (.str "abcdefghijklmnopqrstuvwxyz0123456789")), some (.d (.int r1)), some (.d (.str stem)), x5, x6, some (.d (.str (tryN stem i'))), x8] (m.set k (stC a' b' c)) :=
    fun stem a' b' x6 hg => try_loop (by rw [List.getElem?_set_ne (fun h => hjk h.symm)]; exact hj) hy hg 9 0 fuel rfl (by decide) (fun t ht => absurd ht (Nat.not_lt_zero t))
  by_cases h6 : r1 = 6
  · subst h6
    obtain ⟨r5, a5, b5, e5, p5, q5, o5⟩ := digit_ok (set_get hk (y := stC a4 b4 c)) o4 (n := 11) (by decide) (by decide)
    rw [List.set_set] at e5
    obtain ⟨z, hz, gz⟩ := word11 p5 q5
    obtain ⟨i', x8, hi, e6⟩ := fin z a5 b5 (some (.d (.lst [.str "hold", .str "either", .str "or", .str "rounds", .str "call", .str "mark", .str "stop", .str "sort", .str "part", .str "none", .str "rings"]))) gz
    refine ⟨tryN z i', a5, b5, ?_, tryN_good gz hi.1, hi.2, o5⟩
    unfold FName runFn mName
    simp [mSeq, mIfS, mTest, mOp, mVar, mC, mAsg, mRet, gNm, thenG, Rs.bind, Rs.then, ofO, exitF, mCons, mNil, mCall, mNext, mCB, mDrop, turn, mItA, mIt, mFor, sz_lit, e1, e2, e3, oIxS, hz2, hc0, isRng1, hr, e4, oEq, eqF, mLst, dats, oIxL, lstOf, e5, hz, e6, take_set]
  · obtain ⟨i', x8, hi, e6⟩ := fin stem a4 b4 none g4
    refine ⟨tryN stem i', a4, b4, ?_, tryN_good g4 hi.1, hi.2, o4⟩
    unfold FName runFn mName
    simp [mSeq, mIfS, mTest, mOp, mVar, mC, mAsg, mRet, gNm, thenG, Rs.bind, Rs.then, ofO, exitF, mCons, mNil, mCall, mNext, mCB, mDrop, turn, mItA, mIt, mFor, sz_lit, e1, e2, e3, oIxS, hz2, hc0, isRng1, hr, e4, oEq, eqF, h6, e6, take_set]
end K03

namespace K03
open PySem PySem.Spec PyProof.Rows L2 FM
/-! ### what is a name -/
abbrev LL : List Nat := ("abcdefghijklmnopqrstuvwxyz" : Str).cps.toList
abbrev FF : List Nat := ("0123456789" : Str).cps.toList
def isN (z : Str) : Bool := decide (z.length ≤ 8) && (match z.cps.toList with
  | c :: _ => decide (c ∈ LL)
  | [] => false) && z.cps.toList.all fun c => decide (c ∈ LL) || decide (c ∈ FF)
theorem len_tl (z : Str) : z.length = z.cps.toList.length := rfl
theorem bools_map (bs : List Bool) : bools (bs.map Dt.bl) = some bs := by
  induction bs with
  | nil => rfl
  | cons b bs ih => simp [bools, ih]
theorem lc_name {x0 : Option Vl} : ∀ (cs : List Nat) (acc : List Dt) (m : Cells), acc.length + cs.length ≤ 16777216 →
    lcLoop (gNm 1) mYes (mOrV (mOp (oInS false) (mVar 1) (mC (.str "abcdefghijklmnopqrstuvwxyz"))) (mOp (oInS false) (mVar 1) (mC (.str "0123456789")))) [x0, none] (cs.map fun c => .str ⟨#[c]⟩) acc m = .ok (acc ++ (cs.map fun c => decide (c ∈ LL) || decide (c ∈ FF)).map Dt.bl) m
  | [], acc, m, _ => by simp [lcLoop]
  | c :: cs, acc, m, h => by
    rw [List.length_cons] at h
    have ih := lc_name (x0 := x0) cs (acc ++ [.bl (decide (c ∈ LL) || decide (c ∈ FF))]) m (by simp; omega)
    have hz : szOk (acc.length + 1) = true := sz_lit (by omega)
    by_cases hc : c ∈ LL
    · simp only [List.map_cons, lcLoop]
      simp [mSeq, mIfS, mTest, mOp, mVar, mC, mAsg, mRet, gNm, thenG, Rs.bind, Rs.then, ofO, exitF, mCons, mNil, mCall, mNext, mCB, mDrop, turn, mItA, mIt, mFor, sz_lit, mYes, mOrV, oInS, hc, hz]
      simp [hc] at ih
      simpa using ih
    · simp only [List.map_cons, lcLoop]
      simp [mSeq, mIfS, mTest, mOp, mVar, mC, mAsg, mRet, gNm, thenG, Rs.bind, Rs.then, ofO, exitF, mCons, mNil, mCall, mNext, mCB, mDrop, turn, mItA, mIt, mFor, sz_lit, mYes, mOrV, oInS, hc, hz]
      simp [hc] at ih
      simpa using ih
theorem isName_ok {z : Str} {m : Cells} (hz : z.length ≤ 1000) : FIsName [.d (.str z)] m = .ok (.d (.bl (isN z))) m := by
  have hs : szOk z.length = true := sz_lit (by omega)
  cases e : z.cps.toList with
  | nil =>
    have hl : z.length = 0 := by rw [len_tl, e]; rfl
    unfold FIsName runFn mIsName
    simp [mSeq, mIfS, mTest, mOp, mVar, mC, mAsg, mRet, gNm, thenG, Rs.bind, Rs.then, ofO, exitF, mCons, mNil, mCall, mNext, mCB, mDrop, turn, mItA, mIt, mFor, sz_lit, mOr, mNot, mChain, nLenS, hs, hl, oIB, isN, e]
  | cons c cs =>
    have hl : z.length = cs.length + 1 := by rw [len_tl, e]; rfl
    have h1 : (1 : Int) ≤ (z.length : Nat) := by omega
    by_cases h8 : z.length ≤ 8
    · have h8' : ((z.length : Nat) : Int) ≤ 8 := by omega
      have ha : atI z.cps.toList 0 = some c := by rw [e]; simp [atI, ixN]
      have ha2 : atI (c :: cs) 0 = some c := by simp [atI, ixN]
      by_cases hc : c ∈ LL
      · have lc := lc_name (x0 := some (.d (.str z))) z.cps.toList [] m (by rw [List.length_nil, ← len_tl]; omega)
        unfold FIsName runFn mIsName
        simp [mSeq, mIfS, mTest, mOp, mVar, mC, mAsg, mRet, gNm, thenG, Rs.bind, Rs.then, ofO, exitF, mCons, mNil, mCall, mNext, mCB, mDrop, turn, mItA, mIt, mFor, sz_lit, mOr, mNot, mChain, nLenS, hs, h1, h8', oIB, oIxS, ha, oInS, hc, mLc, isStrI, signsD, wipeG]
        have hN : isN z = ((z.cps.toList.map fun c => decide (c ∈ LL) || decide (c ∈ FF)).all id) := by
          unfold isN
          rw [decide_eq_true h8, e]
          simp only [decide_eq_true hc, Bool.true_and, List.all_map]
          rfl
        rw [lc, hN, List.nil_append]
        simp only [nAll, lstOf, Option.bind_some, bools_map, Option.map_some, List.take_length]
      · unfold FIsName runFn mIsName
        simp [mSeq, mIfS, mTest, mOp, mVar, mC, mAsg, mRet, gNm, thenG, Rs.bind, Rs.then, ofO, exitF, mCons, mNil, mCall, mNext, mCB, mDrop, turn, mItA, mIt, mFor, sz_lit, mOr, mNot, mChain, nLenS, hs, h1, h8', oIB, oIxS, ha2, oInS, hc, isN, e]
    · have h8' : ¬ ((z.length : Nat) : Int) ≤ 8 := by omega
      unfold FIsName runFn mIsName
      simp [mSeq, mIfS, mTest, mOp, mVar, mC, mAsg, mRet, gNm, thenG, Rs.bind, Rs.then, ofO, exitF, mCons, mNil, mCall, mNext, mCB, mDrop, turn, mItA, mIt, mFor, sz_lit, mOr, mNot, mChain, nLenS, hs, h1, h8', oIB, isN, e, h8]
theorem isN_good {z : Str} (h : GName 8 z) : isN z = true := by
  obtain ⟨c, cs, e, h1, h2⟩ := h.hd
  have hL : ∀ c : Nat, 97 ≤ c → c ≤ 122 → c ∈ LL := by
    intro c h1 h2
    have : c = 97 ∨ c = 98 ∨ c = 99 ∨ c = 100 ∨ c = 101 ∨ c = 102 ∨ c = 103 ∨ c = 104 ∨ c = 105 ∨ c = 106 ∨ c = 107 ∨ c = 108 ∨ c = 109 ∨ c = 110 ∨ c = 111 ∨ c = 112 ∨ c = 113 ∨ c = 114 ∨ c = 115 ∨ c = 116 ∨ c = 117 ∨ c = 118 ∨ c = 119 ∨ c = 120 ∨ c = 121 ∨ c = 122 := by omega
    rcases this with rfl | rfl | rfl | rfl | rfl | rfl | rfl | rfl | rfl | rfl | rfl | rfl | rfl | rfl | rfl | rfl | rfl | rfl | rfl | rfl | rfl | rfl | rfl | rfl | rfl | rfl <;> decide +kernel
  have hF : ∀ c : Nat, 48 ≤ c → c ≤ 57 → c ∈ FF := by
    intro c h1 h2
    have : c = 48 ∨ c = 49 ∨ c = 50 ∨ c = 51 ∨ c = 52 ∨ c = 53 ∨ c = 54 ∨ c = 55 ∨ c = 56 ∨ c = 57 := by omega
    rcases this with rfl | rfl | rfl | rfl | rfl | rfl | rfl | rfl | rfl | rfl <;> decide +kernel
  unfold isN
  rw [Bool.and_eq_true_iff, Bool.and_eq_true_iff]
  refine ⟨⟨decide_eq_true h.ln, ?_⟩, ?_⟩
  · rw [e]
    exact decide_eq_true (hL c h1 h2)
  · rw [List.all_eq_true]
    intro x hx
    rcases h.cp x hx with w | w
    · rw [decide_eq_true (hL x w.1 w.2)]; rfl
    · rw [decide_eq_true (hF x w.1 w.2)]; simp
end K03

namespace K03
open PySem PySem.Spec PyProof.Rows L2 FM
/-! ### statements and bodies -/
mutual
def wfS : Dt → Bool
  | .ins 2 [.str _, b] => wfB b
  | .ins 3 [b, b'] => wfB b && wfB b'
  | .ins 4 [b] => wfB b
  | .ins 5 [.str _] => true
  | .ins 6 [.str _] => true
  | .ins 7 [] => true
  | _ => false
def wfB : Dt → Bool
  | .ins 8 [.tup ss] => wfSs ss
  | _ => false
def wfSs : List Dt → Bool
  | [] => true
  | s :: ss => wfS s && wfSs ss
end
mutual
def szD : Dt → Nat
  | .ins _ fs => 3 + szsD fs
  | .tup fs => 1 + szsD fs
  | .lst fs => 1 + szsD fs
  | _ => 1
def szsD : List Dt → Nat
  | [] => 0
  | d :: ds => szD d + szsD ds
end
def toldD : Dt → List Dt
  | .ins 2 fs => .str "hold" :: fs
  | .ins 3 fs => .str "either" :: fs
  | .ins 4 fs => .str "rounds" :: fs
  | .ins 5 fs => .str "call" :: fs
  | .ins 6 fs => .str "mark" :: fs
  | .ins 7 fs => .str "stop" :: fs
  | _ => []
theorem wfS_cases {x : Dt} (h : wfS x = true) : (∃ z b, x = .ins 2 [.str z, b] ∧ wfB b = true) ∨ (∃ b b', x = .ins 3 [b, b'] ∧ wfB b = true ∧ wfB b' = true) ∨ (∃ b, x = .ins 4 [b] ∧ wfB b = true) ∨ (∃ z, x = .ins 5 [.str z]) ∨ (∃ z, x = .ins 6 [.str z]) ∨ x = .ins 7 [] := by
  unfold wfS at h
  split at h
  · exact .inl ⟨_, _, rfl, h⟩
  · exact .inr (.inl ⟨_, _, rfl, Bool.and_eq_true_iff.mp h⟩)
  · exact .inr (.inr (.inl ⟨_, rfl, h⟩))
  · exact .inr (.inr (.inr (.inl ⟨_, rfl⟩)))
  · exact .inr (.inr (.inr (.inr (.inl ⟨_, rfl⟩))))
  · exact .inr (.inr (.inr (.inr (.inr rfl))))
  · cases h
theorem wfB_cases {x : Dt} (h : wfB x = true) : ∃ ss, x = .ins 8 [.tup ss] ∧ wfSs ss = true := by
  unfold wfB at h
  split at h
  · exact ⟨_, rfl, h⟩
  · cases h
mutual
theorem okS : ∀ {x : Dt}, wfS x = true → okB 10 x = true
  | .ins c fs, h => by
    rcases wfS_cases h with ⟨z, b, e, hb⟩ | ⟨b, b', e, hb, hb'⟩ | ⟨b, e, hb⟩ | ⟨z, e⟩ | ⟨z, e⟩ | e
    all_goals cases e
    · have := Bool.and_eq_true_iff.mp (okB_ b hb); simp [okB, okD, oksD, insD, inssD, this]
    · have := Bool.and_eq_true_iff.mp (okB_ b hb); have h2 := Bool.and_eq_true_iff.mp (okB_ b' hb'); simp [okB, okD, oksD, insD, inssD, this, h2]
    · have := Bool.and_eq_true_iff.mp (okB_ b hb); simp [okB, okD, oksD, insD, inssD, this]
    · rfl
    · rfl
    · rfl
theorem okB_ : ∀ (x : Dt), wfB x = true → okB 10 x = true
  | .ins c fs, h => by
    obtain ⟨ss, e, hs⟩ := wfB_cases h
    cases e
    have := okSs ss hs
    simp [okB, okD, oksD, insD, inssD, this]
theorem okSs : ∀ (xs : List Dt), wfSs xs = true → oksD xs = true ∧ inssD 10 xs = true
  | [], _ => ⟨rfl, rfl⟩
  | x :: xs, h => by
    obtain ⟨h1, h2⟩ := Bool.and_eq_true_iff.mp (show (wfS x && wfSs xs) = true by simpa [wfSs] using h)
    have := Bool.and_eq_true_iff.mp (okS h1)
    have h3 := okSs xs h2
    simp [oksD, inssD, this, h3]
end
/-! ### is_same -/
def itm (x : Dt) : Prop := (∃ z, x = .str z) ∨ wfB x = true
def okP (p : Dt × Dt) : Prop := (wfS p.1 = true ∧ wfS p.2 = true) ∨ (itm p.1 ∧ itm p.2)
theorem told_itm {x : Dt} (h : wfS x = true) : ∀ d ∈ toldD x, itm d := by
  rcases wfS_cases h with ⟨z, b, rfl, hb⟩ | ⟨b, b', rfl, hb, hb'⟩ | ⟨b, rfl, hb⟩ | ⟨z, rfl⟩ | ⟨z, rfl⟩ | rfl
  all_goals simp only [toldD, List.mem_cons, List.not_mem_nil, or_false]
  all_goals intro d hd
  all_goals rcases hd with rfl | hd
  all_goals first | exact .inl ⟨_, rfl⟩ | skip
  · rcases hd with rfl | rfl
    · exact .inl ⟨_, rfl⟩
    · exact .inr hb
  · rcases hd with rfl | rfl
    · exact .inr hb
    · exact .inr hb'
  · subst hd; exact .inr hb
  · subst hd; exact .inl ⟨_, rfl⟩
  · subst hd; exact .inl ⟨_, rfl⟩
theorem told_inj {x y : Dt} (hx : wfS x = true) (hy : wfS y = true) : toldD x = toldD y ↔ x = y := by
  refine ⟨fun h => ?_, fun h => by rw [h]⟩
  rcases wfS_cases hx with ⟨z, b, rfl, hb⟩ | ⟨b, b', rfl, hb, hb'⟩ | ⟨b, rfl, hb⟩ | ⟨z, rfl⟩ | ⟨z, rfl⟩ | rfl <;>
  rcases wfS_cases hy with ⟨z2, b2, rfl, hb2⟩ | ⟨b2, b2', rfl, hb2, hb2'⟩ | ⟨b2, rfl, hb2⟩ | ⟨z2, rfl⟩ | ⟨z2, rfl⟩ | rfl <;>
  first | exact congrArg (Dt.ins _) (List.cons.inj h).2 | exact absurd (Dt.str.inj (List.cons.inj h).1) (by decide +kernel)
theorem told_sz {x : Dt} (hx : wfS x = true) : szsD (toldD x) < szD x := by
  rcases wfS_cases hx with ⟨z, b, rfl, hb⟩ | ⟨b, b', rfl, hb, hb'⟩ | ⟨b, rfl, hb⟩ | ⟨z, rfl⟩ | ⟨z, rfl⟩ | rfl <;> simp [toldD, szsD, szD] <;> omega
theorem zip_all {α : Type} : ∀ {a b : List α}, a.length = b.length → (a = b ↔ ∀ p ∈ a.zip b, p.1 = p.2)
  | [], [], _ => by simp
  | x :: a, y :: b, h => by
    have ih := zip_all (a := a) (b := b) (by simpa using h)
    rw [List.zip_cons_cons]
    simp only [List.cons.injEq, List.mem_cons, forall_eq_or_imp, ih]
  | [], _ :: _, h => by simp at h
  | _ :: _, [], h => by simp at h
def step (x y : Dt) : Option (List Dt × List Dt) := match x, y with
  | .ins 8 [.tup a], .ins 8 [.tup b] => some (a, b)
  | .str u, .str v => if u = v then some ([], []) else none
  | .ins c fs, .ins c' fs' => if c = 8 ∨ c' = 8 then none else some (toldD (.ins c fs), toldD (.ins c' fs'))
  | _, _ => none
theorem wfS_no8 {fs : List Dt} : wfS (.ins 8 fs) = false := by unfold wfS; rfl
theorem step_S {x y : Dt} (hx : wfS x = true) (hy : wfS y = true) : step x y = some (toldD x, toldD y) := by
  rcases wfS_cases hx with ⟨z, b, rfl, hb⟩ | ⟨b, b', rfl, hb, hb'⟩ | ⟨b, rfl, hb⟩ | ⟨z, rfl⟩ | ⟨z, rfl⟩ | rfl <;>
  rcases wfS_cases hy with ⟨z2, b2, rfl, hb2⟩ | ⟨b2, b2', rfl, hb2, hb2'⟩ | ⟨b2, rfl, hb2⟩ | ⟨z2, rfl⟩ | ⟨z2, rfl⟩ | rfl <;> rfl
theorem wfSs_all {ss : List Dt} (h : wfSs ss = true) : ∀ d ∈ ss, wfS d = true := by
  induction ss with
  | nil => intro d hd; cases hd
  | cons s ss ih =>
    obtain ⟨h1, h2⟩ := Bool.and_eq_true_iff.mp (show (wfS s && wfSs ss) = true by simpa [wfSs] using h)
    intro d hd
    rcases List.mem_cons.mp hd with rfl | hd
    · exact h1
    · exact ih h2 d hd
/-- what a turn tells -/
theorem step_ok {x y : Dt} (h : okP (x, y)) : (step x y = none → x ≠ y) ∧ ∀ a b, step x y = some (a, b) → (x = y ↔ a = b) ∧ (∀ p ∈ a.zip b, okP p) ∧ szsD a < szD x := by
  rcases h with ⟨hx, hy⟩ | ⟨hx, hy⟩
  · rw [step_S hx hy]
    refine ⟨(fun e => nomatch e), fun a b e => ?_⟩
    cases e
    refine ⟨(told_inj hx hy).symm, fun p hp => ?_, told_sz hx⟩
    obtain ⟨p1, p2⟩ := p
    exact .inr ⟨told_itm hx _ (List.of_mem_zip hp).1, told_itm hy _ (List.of_mem_zip hp).2⟩
  · rcases hx with ⟨u, rfl⟩ | hx
    · rcases hy with ⟨v, rfl⟩ | hy
      · by_cases e : u = v
        · subst e
          refine ⟨fun e => by simp [step] at e, fun a b e => ?_⟩
          simp [step] at e
          obtain ⟨rfl, rfl⟩ := e
          exact ⟨by simp, fun p hp => by simp at hp, by simp [szsD, szD]⟩
        · refine ⟨fun _ h => e (by cases h; rfl), fun a b h => ?_⟩
          simp [step, e] at h
      · obtain ⟨ss, rfl, hs⟩ := wfB_cases hy
        exact ⟨(fun _ h => nomatch h), fun a b h => by simp [step] at h⟩
    · obtain ⟨ss, rfl, hs⟩ := wfB_cases hx
      rcases hy with ⟨v, rfl⟩ | hy
      · exact ⟨(fun _ h => nomatch h), fun a b h => by simp [step] at h⟩
      · obtain ⟨ss', rfl, hs'⟩ := wfB_cases hy
        refine ⟨fun e => by simp [step] at e, fun a b e => ?_⟩
        simp [step] at e
        obtain ⟨rfl, rfl⟩ := e
        refine ⟨by simp, fun p hp => ?_, by simp [szD, szsD]; omega⟩
        obtain ⟨p1, p2⟩ := p
        exact .inl ⟨wfSs_all hs _ (List.of_mem_zip hp).1, wfSs_all hs' _ (List.of_mem_zip hp).2⟩
end K03

namespace K03
open PySem PySem.Spec PyProof.Rows L2 FM
/-! ### a turn of is_same, computed -/
noncomputable abbrev sStep : MS := mIfS (mAnd (mTest (mUn (oIsi (isiQ isi_Body)) (mVar 3))) (mTest (mUn (oIsi (isiQ isi_Body)) (mVar 4))))
  (mPar 5 6 (mCons (mUn (oFld (tabN ix_row)) (mVar 3)) (mCons (mUn (oFld (tabN ix_row)) (mVar 4)) (mNil)))) (mIfS (mAnd (mTest (mUn (oIsi (isiQ isi_Statement)) (mVar 3))) (mTest (mUn (oIsi (isiQ isi_Statement)) (mVar 4))))
  (mPar 5 6 (mCons (mMeth mt_told (mVar 3) mNil) (mCons (mMeth mt_told (mVar 4) mNil) (mNil)))) (mIfS (mTest (mOp (oQ false (qT E_A 0 false)) (mVar 3) (mVar 4)))
  (mAsg (mTup (mCons (mTup (mNil)) (mCons (mTup (mNil)) (mNil)))) (gTp 2 (gsCons (gNm 5) (gsCons (gNm 6) (gsNil))))) (mRet (mC (.bl false)))))
theorem calm_bo {b : Dt} {z : Str} : Calm (FBoEq fnNo) b (.str z) false := fun m => by
  have h : isiQ isi_Body .str = some false := by decide +kernel
  unfold FBoEq runFn mBoEq
  simp [mSeq, mIfS, mTest, mOp, mVar, mC, mAsg, mRet, gNm, thenG, Rs.bind, Rs.then, ofO, exitF, mCons, mNil, mCall, mNext, mCB, mDrop, turn, mItA, mIt, mFor, sz_lit, mUn, oIsi, kdOf, kdD, h, mAndV]
theorem isi_B {x : Dt} (h : wfB x = true) (m : Cells) : oIsi (isiQ isi_Body) m (.d x) = some (.d (.bl true)) := by
  obtain ⟨ss, rfl, _⟩ := wfB_cases h
  have e : isiQ isi_Body (.ins 8) = some true := by decide +kernel
  simp [oIsi, kdOf, kdD, e]
theorem isi_Bs {z : Str} (m : Cells) : oIsi (isiQ isi_Body) m (.d (.str z)) = some (.d (.bl false)) := by
  have e : isiQ isi_Body .str = some false := by decide +kernel
  simp [oIsi, kdOf, kdD, e]
theorem isi_Ss {z : Str} (m : Cells) : oIsi (isiQ isi_Statement) m (.d (.str z)) = some (.d (.bl false)) := by
  have e : isiQ isi_Statement .str = some false := by decide +kernel
  simp [oIsi, kdOf, kdD, e]
theorem isi_SB {x : Dt} (h : wfB x = true) (m : Cells) : oIsi (isiQ isi_Statement) m (.d x) = some (.d (.bl false)) := by
  obtain ⟨ss, rfl, _⟩ := wfB_cases h
  have e : isiQ isi_Statement (.ins 8) = some false := by decide +kernel
  simp [oIsi, kdOf, kdD, e]
theorem isi_BS {x : Dt} (h : wfS x = true) (m : Cells) : oIsi (isiQ isi_Body) m (.d x) = some (.d (.bl false)) := by
  rcases wfS_cases h with ⟨z, b, rfl, hb⟩ | ⟨b, b', rfl, hb, hb'⟩ | ⟨b, rfl, hb⟩ | ⟨z, rfl⟩ | ⟨z, rfl⟩ | rfl <;> simp [oIsi, kdOf, kdD] <;> decide +kernel
theorem isi_S {x : Dt} (h : wfS x = true) (m : Cells) : oIsi (isiQ isi_Statement) m (.d x) = some (.d (.bl true)) := by
  rcases wfS_cases h with ⟨z, b, rfl, hb⟩ | ⟨b, b', rfl, hb, hb'⟩ | ⟨b, rfl, hb⟩ | ⟨z, rfl⟩ | ⟨z, rfl⟩ | rfl <;> simp [oIsi, kdOf, kdD] <;> decide +kernel
theorem told_ev {x : Dt} (h : wfS x = true) (i : Nat) (g : Gam) (m : Cells) (hg : g[i]? = some (some (.d x))) : mMeth mt_told (mVar i) mNil g m = .ok (.d (.tup (toldD x))) m := by
  rcases wfS_cases h with ⟨z, b, rfl, hb⟩ | ⟨b, b', rfl, hb, hb'⟩ | ⟨b, rfl, hb⟩ | ⟨z, rfl⟩ | ⟨z, rfl⟩ | rfl <;>
  simp [mSeq, mIfS, mTest, mOp, mVar, mC, mAsg, mRet, gNm, thenG, Rs.bind, Rs.then, ofO, exitF, mCons, mNil, mCall, mNext, mCB, mDrop, turn, mItA, mIt, mFor, sz_lit, mMeth, hg, insOf, mt_told, FHoldT, FEitherT, FRoundsT, FCallT, FMarkT, FStopT, runFn, mHoldT, mEitherT, mRoundsT, mCallT, mMarkT, mStopT, mTup, mUn, oFld, tabN, ix_key, ix_body, ix_one, ix_other, ix_part, ix_name, dats, toldD, List.lookup]
theorem row_ev {ss : List Dt} (m : Cells) : oFld (tabN ix_row) m (.d (.ins 8 [.tup ss])) = some (.d (.tup ss)) := by
  simp [oFld, insOf, tabN, ix_row, List.lookup]
theorem qA_SB {z : Str} {ss : List Dt} (h : wfSs ss = true) : qT E_A 0 false (.str z) (.ins 8 [.tup ss]) = some false := by
  have ho : okB E_A.N (.ins 8 [.tup ss]) = true := okB_ _ (by simpa [wfB] using h)
  have hq := calmQ_of (calm_bo (b := .ins 8 [.tup ss]) (z := z))
  have he : E_A.es 8 = some (FBoEq fnNo) := rfl
  simp [qT, eqF, qS, qOwn, ho, he, hq]
theorem qA_BS {z : Str} {ss : List Dt} (h : wfSs ss = true) : qT E_A 0 false (.ins 8 [.tup ss]) (.str z) = some false := by
  have ho : okB E_A.N (.ins 8 [.tup ss]) = true := okB_ _ (by simpa [wfB] using h)
  have ho2 : okB E_A.N (.str z) = true := rfl
  have hq := calmQ_of (calm_bo (b := .ins 8 [.tup ss]) (z := z))
  have he : E_A.es 8 = some (FBoEq fnNo) := rfl
  have hn : nfD E_A.nf 8 (.str z) = true := rfl
  simp [qT, eqF, qS, qOwn, ho, ho2, hn, he, hq]
  exact rfl1_false (fun h => nomatch h)
theorem sStep_ok {x y : Dt} (h : okP (x, y)) {x0 x1 x2 x5 x6 : Option Vl} {m : Cells} : sStep [x0, x1, x2, some (.d x), some (.d y), x5, x6] m = match step x y with
    | some p => .nx [x0, x1, x2, some (.d x), some (.d y), some (.d (.tup p.1)), some (.d (.tup p.2))] m
    | none => .rt (.d (.bl false)) m := by
  rcases h with ⟨hx, hy⟩ | ⟨hx, hy⟩
  · have hx : wfS x = true := hx
    have hy : wfS y = true := hy
    rw [step_S hx hy]
    have t1 := told_ev hx 3 [x0, x1, x2, some (.d x), some (.d y), x5, x6] m rfl
    have t2 := told_ev hy 4 [x0, x1, x2, some (.d x), some (.d y), x5, x6] m rfl
    unfold sStep
    simp [mSeq, mIfS, mTest, mOp, mVar, mC, mAsg, mRet, gNm, thenG, Rs.bind, Rs.then, ofO, exitF, mCons, mNil, mCall, mNext, mCB, mDrop, turn, mItA, mIt, mFor, sz_lit, mAnd, mUn, isi_BS hx, isi_S hx, isi_S hy, mPar, t1, t2]
  · rcases hx with ⟨u, hx⟩ | hx
    · have hx : x = .str u := hx
      subst hx
      rcases hy with ⟨v, hy⟩ | hy
      · have hy : y = .str v := hy
        subst hy
        by_cases e : u = v
        · subst e
          unfold sStep
          simp [mSeq, mIfS, mTest, mOp, mVar, mC, mAsg, mRet, gNm, thenG, Rs.bind, Rs.then, ofO, exitF, mCons, mNil, mCall, mNext, mCB, mDrop, turn, mItA, mIt, mFor, sz_lit, mAnd, mUn, isi_Bs, isi_Ss, oQ, qT, eqF, step, mTup, dats, gTp, gsCons, gsNil]
        · unfold sStep
          simp [mSeq, mIfS, mTest, mOp, mVar, mC, mAsg, mRet, gNm, thenG, Rs.bind, Rs.then, ofO, exitF, mCons, mNil, mCall, mNext, mCB, mDrop, turn, mItA, mIt, mFor, sz_lit, mAnd, mUn, isi_Bs, isi_Ss, oQ, qT, eqF, step, e]
      · have hy : wfB y = true := hy
        obtain ⟨ss, rfl, hs⟩ := wfB_cases hy
        unfold sStep
        simp [mSeq, mIfS, mTest, mOp, mVar, mC, mAsg, mRet, gNm, thenG, Rs.bind, Rs.then, ofO, exitF, mCons, mNil, mCall, mNext, mCB, mDrop, turn, mItA, mIt, mFor, sz_lit, mAnd, mUn, isi_Bs, isi_Ss, oQ, qA_SB hs, step]
    · have hx : wfB x = true := hx
      rcases hy with ⟨v, hy⟩ | hy
      · have hy : y = .str v := hy
        subst hy
        have i1 := isi_B hx
        have i2 := isi_SB hx
        obtain ⟨ss, rfl, hs⟩ := wfB_cases hx
        unfold sStep
        simp [mSeq, mIfS, mTest, mOp, mVar, mC, mAsg, mRet, gNm, thenG, Rs.bind, Rs.then, ofO, exitF, mCons, mNil, mCall, mNext, mCB, mDrop, turn, mItA, mIt, mFor, sz_lit, mAnd, mUn, i1, i2, isi_Bs, isi_Ss, oQ, qA_BS hs, step]
      · have hy : wfB y = true := hy
        have i1 := isi_B hx
        have i2 := isi_B hy
        obtain ⟨ss, rfl, hs⟩ := wfB_cases hx
        obtain ⟨ss', rfl, hs'⟩ := wfB_cases hy
        unfold sStep
        simp [mSeq, mIfS, mTest, mOp, mVar, mC, mAsg, mRet, gNm, thenG, Rs.bind, Rs.then, ofO, exitF, mCons, mNil, mCall, mNext, mCB, mDrop, turn, mItA, mIt, mFor, sz_lit, mAnd, mUn, i1, i2, row_ev, mPar, step]
noncomputable abbrev sTurn : MS := mSeq (mAsg (mM fPop (mVar 2) mNil) (gTp 2 (gsCons (gNm 3) (gsCons (gNm 4) (gsNil)))))
  (mSeq sStep
  (mSeq (mIfS (mTest (mOp oNe (mCB nLen (mCons (mVar 5) (mNil))) (mCB nLen (mCons (mVar 6) (mNil)))))
  (mRet (mC (.bl false))) (mNext))
  (mDrop (mM fExtend (mVar 2) (mCons (mListZip (mCons (mVar 5) (mCons (mVar 6) (mNil)))) (mNil))))))
def pl (ps : List (Dt × Dt)) : List Dt := ps.map fun p => .tup [p.1, p.2]
def wps : List (Dt × Dt) → Nat
  | [] => 0
  | p :: ps => szD p.1 + wps ps
theorem wps_app (a b : List (Dt × Dt)) : wps (a ++ b) = wps a + wps b := by
  induction a with
  | nil => simp [wps]
  | cons p a ih => simp [wps, ih]; omega
theorem wps_zip (a b : List Dt) : wps (a.zip b) ≤ szsD a := by
  induction a generalizing b with
  | nil => simp [wps]
  | cons x a ih =>
    cases b with
    | nil => simp [wps]
    | cons y b => have := ih b; simp [wps, szsD]; omega
theorem szD_pos (x : Dt) : 1 ≤ szD x := by cases x <;> simp [szD] <;> omega
theorem wps_len (ps : List (Dt × Dt)) : ps.length ≤ wps ps := by
  induction ps with
  | nil => simp [wps]
  | cons p ps ih => have := szD_pos p.1; simp [wps]; omega
theorem turn_ok {ps : List (Dt × Dt)} {x y : Dt} {k : Nat} {m : Cells} {x0 x1 x3 x4 x5 x6 : Option Vl} (h : okP (x, y)) (hk : m[k]? = some (some (.lst (pl (ps ++ [(x, y)]))))) (hw : ∀ a b, step x y = some (a, b) → ps.length + (a.zip b).length ≤ 16777216) :
    sTurn [x0, x1, some (.ref k), x3, x4, x5, x6] m = match step x y with
    | some p => if p.1.length = p.2.length then .nx [x0, x1, some (.ref k), some (.d x), some (.d y), some (.d (.tup p.1)), some (.d (.tup p.2))] (m.set k (some (.lst (pl (ps ++ p.1.zip p.2))))) else .rt (.d (.bl false)) (m.set k (some (.lst (pl ps))))
    | none => .rt (.d (.bl false)) (m.set k (some (.lst (pl ps)))) := by
  have hp : (pl (ps ++ [(x, y)]))[(pl (ps ++ [(x, y)])).length - 1]? = some (.tup [x, y]) := by simp [pl]
  have hd : (pl (ps ++ [(x, y)])).dropLast = pl ps := by simp [pl]
  have hm : mM fPop (mVar 2) mNil [x0, x1, some (.ref k), x3, x4, x5, x6] m = .ok (.d (.tup [x, y])) (m.set k (some (.lst (pl ps)))) := by
    simp [mSeq, mIfS, mTest, mOp, mVar, mC, mAsg, mRet, gNm, thenG, Rs.bind, Rs.then, ofO, exitF, mCons, mNil, mCall, mNext, mCB, mDrop, turn, mItA, mIt, mFor, sz_lit, mM, hk, isL, fPop, hp, hd]
  have hs := sStep_ok h (x0 := x0) (x1 := x1) (x2 := some (.ref k)) (x5 := x5) (x6 := x6) (m := m.set k (some (.lst (pl ps))))
  have h1 : mAsg (mM fPop (mVar 2) mNil) (gTp 2 (gsCons (gNm 3) (gsCons (gNm 4) (gsNil)))) [x0, x1, some (.ref k), x3, x4, x5, x6] m = .nx [x0, x1, some (.ref k), some (.d x), some (.d y), x5, x6] (m.set k (some (.lst (pl ps)))) := by
    simp only [mAsg, hm, Rs.then]
    simp [gTp, gsCons, gsNil, gNm, thenG]
  unfold sTurn
  simp only [mSeq, h1, hs]
  cases e : step x y with
  | none => rfl
  | some p =>
    obtain ⟨a, b⟩ := p
    have hz : szOk (ps.length + (a.zip b).length) = true := sz_lit (hw a b e)
    have hpl : ∀ l : List (Dt × Dt), (pl l).length = l.length := fun l => by simp [pl]
    have hzd : zipD a b = pl (a.zip b) := rfl
    have hz2 : szOk ((pl ps).length + (pl (a.zip b)).length) = true := by rw [hpl, hpl]; exact hz
    have happ : pl ps ++ pl (a.zip b) = pl (ps ++ a.zip b) := by simp [pl]
    by_cases hl : a.length = b.length
    · have hl' : ((a.length : Nat) : Int) = ((b.length : Nat) : Int) := by omega
      simp [mSeq, mIfS, mTest, mOp, mVar, mC, mAsg, mRet, gNm, thenG, Rs.bind, Rs.then, ofO, exitF, mCons, mNil, mCall, mNext, mCB, mDrop, turn, mItA, mIt, mFor, sz_lit, nLen, lstOf, tupOf, oNe, eqF, hl, mM, isL, set_get hk, mListZip, hzd, fExtend, hz2, happ]
    · have hl' : ¬ ((a.length : Nat) : Int) = ((b.length : Nat) : Int) := by omega
      simp [mSeq, mIfS, mTest, mOp, mVar, mC, mAsg, mRet, gNm, thenG, Rs.bind, Rs.then, ofO, exitF, mCons, mNil, mCall, mNext, mCB, mDrop, turn, mItA, mIt, mFor, sz_lit, nLen, lstOf, tupOf, oNe, eqF, hl, hl']
theorem same_loop {k : Nat} {x0 x1 : Option Vl} : ∀ (n : Nat) (ps : List (Dt × Dt)) (f : Nat) (m : Cells) (x3 x4 x5 x6 : Option Vl), wps ps ≤ n → n < f → n ≤ 1000000 → (∀ p ∈ ps, okP p) → m[k]? = some (some (.lst (pl ps))) →
    ∃ s, ((∀ p ∈ ps, p.1 = p.2) ∧ ∃ g', mWhile f (mTest (mOp (oNil true) (mVar 2) (mLst (mNil)))) sTurn [x0, x1, some (.ref k), x3, x4, x5, x6] m = .nx g' (m.set k s)) ∨ (¬ (∀ p ∈ ps, p.1 = p.2) ∧ mWhile f (mTest (mOp (oNil true) (mVar 2) (mLst (mNil)))) sTurn [x0, x1, some (.ref k), x3, x4, x5, x6] m = .rt (.d (.bl false)) (m.set k s))
  | _, _, 0, _, _, _, _, _, _, h, _, _, _ => absurd h (Nat.not_lt_zero _)
  | n, ps, f + 1, m, x3, x4, x5, x6, hw, hf, hn, ho, hk => by
    rcases List.eq_nil_or_concat ps with rfl | ⟨qs, p, rfl⟩
    · have h0 : m.set k (some (.lst (pl []))) = m := by
        obtain ⟨h1, h2⟩ := List.getElem?_eq_some_iff.mp hk
        rw [← h2]; simp
      refine ⟨some (.lst (pl [])), .inl ⟨by simp, [x0, x1, some (.ref k), x3, x4, x5, x6], ?_⟩⟩
      rw [h0]
      simp only [mWhile]
      simp [mSeq, mIfS, mTest, mOp, mVar, mC, mAsg, mRet, gNm, thenG, Rs.bind, Rs.then, ofO, exitF, mCons, mNil, mCall, mNext, mCB, mDrop, turn, mItA, mIt, mFor, sz_lit, oNil, seqL, isL, hk, pl, mLst, dats]
    · rw [List.concat_eq_append] at hw ho hk ⊢
      obtain ⟨x, y⟩ := p
      have hp : okP (x, y) := ho (x, y) (by simp)
      obtain ⟨st1, st2⟩ := step_ok hp
      rw [wps_app] at hw
      have hw : wps qs + (szD x + 0) ≤ n := hw
      have hx := szD_pos x
      have hlq := wps_len qs
      have tt : mTest (mOp (oNil true) (mVar 2) (mLst (mNil))) [x0, x1, some (.ref k), x3, x4, x5, x6] m = .ok true m := by
        simp [mSeq, mIfS, mTest, mOp, mVar, mC, mAsg, mRet, gNm, thenG, Rs.bind, Rs.then, ofO, exitF, mCons, mNil, mCall, mNext, mCB, mDrop, turn, mItA, mIt, mFor, sz_lit, oNil, seqL, isL, hk, pl, mLst, dats]
      have tn := turn_ok (x0 := x0) (x1 := x1) (x3 := x3) (x4 := x4) (x5 := x5) (x6 := x6) hp hk (fun a b e => by
        have h1 := (st2 a b e).2.2
        have h2 := wps_zip a b
        have h3 := wps_len (a.zip b)
        omega)
      simp only [mWhile, tt, Rs.then, if_true, tn]
      cases e : step x y with
      | none =>
        refine ⟨some (.lst (pl qs)), .inr ⟨fun h => st1 e (h (x, y) (by simp)), rfl⟩⟩
      | some p =>
        obtain ⟨a, b⟩ := p
        obtain ⟨q1, q2, q3⟩ := st2 a b e
        by_cases hl : a.length = b.length
        · have hz := wps_zip a b
          obtain ⟨s, ih⟩ := same_loop (k := k) (x0 := x0) (x1 := x1) (n - 1) (qs ++ a.zip b) f (m.set k (some (.lst (pl (qs ++ a.zip b))))) (some (.d x)) (some (.d y)) (some (.d (.tup a))) (some (.d (.tup b))) (by rw [wps_app]; omega) (by omega) (by omega) (fun p hp => by
              rcases List.mem_append.mp hp with w | w
              · exact ho p (by simp [w])
              · exact q2 p w) (set_get hk)
          have hall : (∀ p ∈ qs ++ a.zip b, p.1 = p.2) ↔ (∀ p ∈ qs ++ [(x, y)], p.1 = p.2) := by
            simp only [List.mem_append, List.mem_singleton]
            constructor
            · rintro h p (w | rfl)
              · exact h p (.inl w)
              · exact q1.mpr ((zip_all hl).mpr fun p hp => h p (.inr hp))
            · rintro h p (w | w)
              · exact h p (.inl w)
              · exact (zip_all hl).mp (q1.mp (h (x, y) (.inr rfl))) p w
          rw [List.set_set] at ih
          refine ⟨s, ?_⟩
          simp only [hl, if_true, turn]
          rcases ih with ⟨h1, g', h2⟩ | ⟨h1, h2⟩
          · exact .inl ⟨hall.mp h1, g', h2⟩
          · exact .inr ⟨fun h => h1 (hall.mpr h), h2⟩
        · refine ⟨some (.lst (pl qs)), .inr ⟨fun h => hl (by rw [q1.mp (h (x, y) (by simp))]), ?_⟩⟩
          simp only [hl, if_false, turn]
theorem isSame_ok {x y : Dt} (h : okP (x, y)) (hs : szD x ≤ 1000000) (m : Cells) : FIsSame [.d x, .d y] m = .ok (.d (.bl (open Classical in decide (x = y)))) m := by
  obtain ⟨s, hh⟩ := same_loop (k := m.length) (x0 := some (.d x)) (x1 := some (.d y)) (szD x) [(x, y)] fuel (m ++ [some (.lst [.tup [x, y]])]) none none none none (by simp [wps]) (by unfold fuel; omega) hs (fun p hp => by simp at hp; subst hp; exact h) (by simp [pl])
  have e : FIsSame = runFn 2 7 (mSeq (mAsg (mLstC (mCons (mTup (mCons (mVar 0) (mCons (mVar 1) (mNil)))) (mNil))) (gNm 2)) (mSeq (mWhile fuel (mTest (mOp (oNil true) (mVar 2) (mLst (mNil)))) sTurn) (mRet (mC (.bl true))))) := rfl
  rw [e]
  unfold runFn
  rcases hh with ⟨h1, g', h2⟩ | ⟨h1, h2⟩
  · have hxy : x = y := h1 (x, y) (by simp)
    subst hxy
    simp [mSeq, mIfS, mTest, mOp, mVar, mC, mAsg, mRet, gNm, thenG, Rs.bind, Rs.then, ofO, exitF, mCons, mNil, mCall, mNext, mCB, mDrop, turn, mItA, mIt, mFor, sz_lit, mLstC, mTup, dats, h2]
  · have hxy : ¬ x = y := fun e => h1 (fun p hp => by simp at hp; subst hp; exact e)
    simp [mSeq, mIfS, mTest, mOp, mVar, mC, mAsg, mRet, gNm, thenG, Rs.bind, Rs.then, ofO, exitF, mCons, mNil, mCall, mNext, mCB, mDrop, turn, mItA, mIt, mFor, sz_lit, mLstC, mTup, dats, h2, hxy]
end K03

namespace K03
open PySem PySem.Spec PyProof.Rows L2 FM
/-! ### == of the law's things -/
def othr (y : Dt) : Prop := (∃ z, y = .str z) ∨ (∃ ds, y = .lst ds) ∨ (∃ ds, y = .tup ds)
theorem calm_SS {x y : Dt} (hx : wfS x = true) (hy : wfS y = true) (hs : szD x ≤ 1000000) : Calm (FStEq FIsSame) x y (open Classical in decide (x = y)) := fun m => by
  have h := isSame_ok (x := x) (y := y) (.inl ⟨hx, hy⟩) hs m
  unfold FStEq runFn mStEq
  simp [mSeq, mIfS, mTest, mOp, mVar, mC, mAsg, mRet, gNm, thenG, Rs.bind, Rs.then, ofO, exitF, mCons, mNil, mCall, mNext, mCB, mDrop, turn, mItA, mIt, mFor, sz_lit, mUn, isi_S hy, mAndV, h]
theorem calm_BB {x y : Dt} (hx : wfB x = true) (hy : wfB y = true) (hs : szD x ≤ 1000000) : Calm (FBoEq FIsSame) x y (open Classical in decide (x = y)) := fun m => by
  have h := isSame_ok (x := x) (y := y) (.inr ⟨.inr hx, .inr hy⟩) hs m
  unfold FBoEq runFn mBoEq
  simp [mSeq, mIfS, mTest, mOp, mVar, mC, mAsg, mRet, gNm, thenG, Rs.bind, Rs.then, ofO, exitF, mCons, mNil, mCall, mNext, mCB, mDrop, turn, mItA, mIt, mFor, sz_lit, mUn, isi_B hy, mAndV, h]
theorem calm_SB {x y : Dt} (hy : wfB y = true) : Calm (FStEq FIsSame) x y false := fun m => by
  unfold FStEq runFn mStEq
  simp [mSeq, mIfS, mTest, mOp, mVar, mC, mAsg, mRet, gNm, thenG, Rs.bind, Rs.then, ofO, exitF, mCons, mNil, mCall, mNext, mCB, mDrop, turn, mItA, mIt, mFor, sz_lit, mUn, isi_SB hy, mAndV]
theorem calm_So {x y : Dt} (hy : othr y) : Calm (FStEq FIsSame) x y false := fun m => by
  have e1 : isiQ isi_Statement .str = some false := by decide +kernel
  have e2 : isiQ isi_Statement .lst = some false := by decide +kernel
  have e3 : isiQ isi_Statement .tup = some false := by decide +kernel
  unfold FStEq runFn mStEq
  rcases hy with ⟨z, rfl⟩ | ⟨ds, rfl⟩ | ⟨ds, rfl⟩ <;> simp [mSeq, mIfS, mTest, mOp, mVar, mC, mAsg, mRet, gNm, thenG, Rs.bind, Rs.then, ofO, exitF, mCons, mNil, mCall, mNext, mCB, mDrop, turn, mItA, mIt, mFor, sz_lit, mUn, mAndV, oIsi, kdOf, kdD, e1, e2, e3]
theorem calm_Bo {x y : Dt} (hy : othr y) : Calm (FBoEq FIsSame) x y false := fun m => by
  have e1 : isiQ isi_Body .str = some false := by decide +kernel
  have e2 : isiQ isi_Body .lst = some false := by decide +kernel
  have e3 : isiQ isi_Body .tup = some false := by decide +kernel
  unfold FBoEq runFn mBoEq
  rcases hy with ⟨z, rfl⟩ | ⟨ds, rfl⟩ | ⟨ds, rfl⟩ <;> simp [mSeq, mIfS, mTest, mOp, mVar, mC, mAsg, mRet, gNm, thenG, Rs.bind, Rs.then, ofO, exitF, mCons, mNil, mCall, mNext, mCB, mDrop, turn, mItA, mIt, mFor, sz_lit, mUn, mAndV, oIsi, kdOf, kdD, e1, e2, e3]
theorem rfl1_dec {x y : Dt} : rfl1 x y (some (open Classical in decide (x = y))) = some (open Classical in decide (x = y)) := by
  by_cases h : x = y
  · subst h; simp [rfl1_true]
  · simp [h, rfl1_false h]
theorem nf_ok {c : Nat} {y : Dt} (hc : c = 2 ∨ c = 3 ∨ c = 4 ∨ c = 5 ∨ c = 6 ∨ c = 7 ∨ c = 8) (hy : wfS y = true ∨ wfB y = true ∨ othr y) : nfD E_Z.nf c y = true := by
  rcases hy with h | h | h
  · rcases wfS_cases h with ⟨z, b, rfl, hb⟩ | ⟨b, b', rfl, hb, hb'⟩ | ⟨b, rfl, hb⟩ | ⟨z, rfl⟩ | ⟨z, rfl⟩ | rfl <;> rcases hc with rfl | rfl | rfl | rfl | rfl | rfl | rfl <;> rfl
  · obtain ⟨ss, rfl, _⟩ := wfB_cases h
    rcases hc with rfl | rfl | rfl | rfl | rfl | rfl | rfl <;> rfl
  · rcases h with ⟨z, rfl⟩ | ⟨ds, rfl⟩ | ⟨ds, rfl⟩ <;> rcases hc with rfl | rfl | rfl | rfl | rfl | rfl | rfl <;> rfl
theorem own_S {x y : Dt} {f : Fn} {b neg : Bool} (hx : wfS x = true) (ho : okB 10 y = true) (hy : wfS y = true ∨ wfB y = true ∨ othr y) (hc : Calm (FStEq FIsSame) x y b) (hb : x = y → b = true) : qOwn E_Z neg x y = some b := by
  have hN : E_Z.N = 10 := rfl
  have hox := okS hx
  have hr : rfl1 x y (some b) = some b := by
    cases b with
    | true => exact rfl1_true
    | false => exact rfl1_false fun e => Bool.false_ne_true (hb e)
  have hq := calmQ_of hc
  have n2 : nfD (nfT nfC nfK) 2 y = true := nf_ok (.inl rfl) hy
  have n3 : nfD (nfT nfC nfK) 3 y = true := nf_ok (.inr (.inl rfl)) hy
  have n4 : nfD (nfT nfC nfK) 4 y = true := nf_ok (.inr (.inr (.inl rfl))) hy
  have n5 : nfD (nfT nfC nfK) 5 y = true := nf_ok (.inr (.inr (.inr (.inl rfl)))) hy
  have n6 : nfD (nfT nfC nfK) 6 y = true := nf_ok (.inr (.inr (.inr (.inr (.inl rfl))))) hy
  have n7 : nfD (nfT nfC nfK) 7 y = true := nf_ok (.inr (.inr (.inr (.inr (.inr (.inl rfl)))))) hy
  rcases wfS_cases hx with ⟨z, b, rfl, hb⟩ | ⟨b, b', rfl, hb, hb'⟩ | ⟨b, rfl, hb⟩ | ⟨z, rfl⟩ | ⟨z, rfl⟩ | rfl <;>
  simp [qOwn, E_Z, mkE, hox, ho, hq, hr, n2, n3, n4, n5, n6, n7]
theorem own_B {x y : Dt} {b neg : Bool} (hx : wfB x = true) (ho : okB 10 y = true) (hy : wfS y = true ∨ wfB y = true ∨ othr y) (hc : Calm (FBoEq FIsSame) x y b) (hb : x = y → b = true) : qOwn E_Z neg x y = some b := by
  have hox := okB_ x hx
  have hr : rfl1 x y (some b) = some b := by
    cases b with
    | true => exact rfl1_true
    | false => exact rfl1_false fun e => Bool.false_ne_true (hb e)
  have hq := calmQ_of hc
  have n8 : nfD (nfT nfC nfK) 8 y = true := nf_ok (.inr (.inr (.inr (.inr (.inr (.inr rfl)))))) hy
  obtain ⟨ss, rfl, _⟩ := wfB_cases hx
  simp [qOwn, E_Z, mkE, hox, ho, hq, hr, n8]
/-- the comparison, whole -/
theorem eqF_ins {c : Nat} {fs : List Dt} {y : Dt} : eqF (.ins c fs) y = none := by unfold eqF; rfl
theorem qS_ins {n c : Nat} {fs : List Dt} {y : Dt} {neg : Bool} : qS E_Z n neg (.ins c fs) y = qOwn E_Z neg (.ins c fs) y := by
  cases n with
  | zero => rfl
  | succ n => unfold qS; rfl
theorem qT_ins {n c : Nat} {fs : List Dt} {y : Dt} {neg : Bool} : qT E_Z n neg (.ins c fs) y = qOwn E_Z neg (.ins c fs) y := by
  unfold qT
  rw [eqF_ins]
  exact qS_ins
theorem S_ins {x : Dt} (h : wfS x = true) : ∃ c fs, x = .ins c fs := by
  rcases wfS_cases h with ⟨z, b, rfl, hb⟩ | ⟨b, b', rfl, hb, hb'⟩ | ⟨b, rfl, hb⟩ | ⟨z, rfl⟩ | ⟨z, rfl⟩ | rfl <;> exact ⟨_, _, rfl⟩
theorem B_ins {x : Dt} (h : wfB x = true) : ∃ c fs, x = .ins c fs := by
  obtain ⟨ss, rfl, _⟩ := wfB_cases h
  exact ⟨_, _, rfl⟩
theorem B_notS {x : Dt} (h : wfB x = true) : wfS x = false := by
  obtain ⟨ss, rfl, _⟩ := wfB_cases h
  exact wfS_no8
theorem eq_SS {x y : Dt} {neg : Bool} {n : Nat} (hx : wfS x = true) (hy : wfS y = true) (hs : szD x ≤ 1000000) : qT E_Z n neg x y = some (open Classical in decide (x = y)) := by
  have h := own_S (f := fnNo) (neg := neg) hx (okS hy) (.inl hy) (calm_SS hx hy hs) (fun e => by simp [e])
  obtain ⟨c, fs, rfl⟩ := S_ins hx
  rw [qT_ins, h]
theorem eq_BB {x y : Dt} {neg : Bool} {n : Nat} (hx : wfB x = true) (hy : wfB y = true) (hs : szD x ≤ 1000000) : qT E_Z n neg x y = some (open Classical in decide (x = y)) := by
  have h := own_B (neg := neg) hx (okB_ y hy) (.inr (.inl hy)) (calm_BB hx hy hs) (fun e => by simp [e])
  obtain ⟨c, fs, rfl⟩ := B_ins hx
  rw [qT_ins, h]
theorem eq_SB {x y : Dt} {neg : Bool} {n : Nat} (hx : wfS x = true) (hy : wfB y = true) : qT E_Z n neg x y = some false := by
  have h := own_S (f := fnNo) (neg := neg) hx (okB_ y hy) (.inr (.inl hy)) (calm_SB hy) (fun e => by rw [e, B_notS hy] at hx; cases hx)
  obtain ⟨c, fs, rfl⟩ := S_ins hx
  rw [qT_ins, h]
theorem eq_So {x y : Dt} {neg : Bool} {n : Nat} (hx : wfS x = true) (ho : okB 10 y = true) (hy : othr y) : qT E_Z n neg x y = some false := by
  have h := own_S (f := fnNo) (neg := neg) hx ho (.inr (.inr hy)) (calm_So hy) (fun e => by
    subst e
    obtain ⟨c, fs, rfl⟩ := S_ins hx
    rcases hy with ⟨z, e⟩ | ⟨ds, e⟩ | ⟨ds, e⟩ <;> cases e)
  obtain ⟨c, fs, rfl⟩ := S_ins hx
  rw [qT_ins, h]
theorem eq_Bo {x y : Dt} {neg : Bool} {n : Nat} (hx : wfB x = true) (ho : okB 10 y = true) (hy : othr y) : qT E_Z n neg x y = some false := by
  have h := own_B (neg := neg) hx ho (.inr (.inr hy)) (calm_Bo hy) (fun e => by
    subst e
    obtain ⟨c, fs, rfl⟩ := B_ins hx
    rcases hy with ⟨z, e⟩ | ⟨ds, e⟩ | ⟨ds, e⟩ <;> cases e)
  obtain ⟨c, fs, rfl⟩ := B_ins hx
  rw [qT_ins, h]
/-- what is == to itself, item by item -/
def rok (d : Dt) : Prop := (∃ z, d = .str z) ∨ (∃ b, d = .bl b) ∨ (wfS d = true ∧ szD d ≤ 1000000) ∨ (wfB d = true ∧ szD d ≤ 1000000)
theorem rok_ok {d : Dt} (h : rok d) : okB 10 d = true := by
  rcases h with ⟨z, rfl⟩ | ⟨b, rfl⟩ | ⟨h, _⟩ | ⟨h, _⟩
  · rfl
  · rfl
  · exact okS h
  · exact okB_ d h
theorem rok_item {n : Nat} {d : Dt} (h : rok d) : qItem (qS E_Z n false) d d = some true := by
  rcases h with ⟨z, rfl⟩ | ⟨b, rfl⟩ | ⟨h, hs⟩ | ⟨h, hs⟩
  · simp [qItem, flatQ, flatD, eqV]
  · simp [qItem, flatQ, flatD, eqV]
  · have e := own_S (f := fnNo) (neg := false) h (okS h) (.inl h) (calm_SS h h hs) (fun e => by simp [e])
    obtain ⟨c, fs, rfl⟩ := S_ins h
    simp [qItem, flatQ, flatD, qS_ins, e]
  · have e := own_B (neg := false) h (okB_ d h) (.inr (.inl h)) (calm_BB h h hs) (fun e => by simp [e])
    obtain ⟨c, fs, rfl⟩ := B_ins h
    simp [qItem, flatQ, flatD, qS_ins, e]
theorem roks {n : Nat} : ∀ {xs : List Dt}, (∀ d ∈ xs, rok d) → allQ (qItem (qS E_Z n false)) xs xs = some true ∧ oksD xs = true ∧ inssD 10 xs = true
  | [], _ => ⟨rfl, rfl, rfl⟩
  | x :: xs, h => by
    obtain ⟨h1, h2, h3⟩ := roks (n := n) (xs := xs) fun d hd => h d (List.mem_cons_of_mem _ hd)
    have hx := h x List.mem_cons_self
    have ho := Bool.and_eq_true_iff.mp (rok_ok hx)
    simp [allQ, rok_item hx, h1, oksD, inssD, ho, h2, h3]
theorem eq_ll {n : Nat} {neg : Bool} {xs : List Dt} (h : ∀ d ∈ xs, rok d) : qT E_Z (n + 1) neg (.lst xs) (.lst xs) = some true := by
  obtain ⟨h1, h2, h3⟩ := roks (n := n) h
  have hN : E_Z.N = 10 := rfl
  simp [qT, eqF, qS, okB, okD, insD, hN, h1, h2, h3]
theorem eq_tt {n : Nat} {neg : Bool} {xs : List Dt} (h : ∀ d ∈ xs, rok d) : qT E_Z (n + 1) neg (.tup xs) (.tup xs) = some true := by
  obtain ⟨h1, h2, h3⟩ := roks (n := n) h
  have hN : E_Z.N = 10 := rfl
  simp [qT, eqF, qS, okB, okD, insD, hN, h1, h2, h3]
end K03

namespace K03
open PySem PySem.Spec PyProof.Rows L2 FM
/-! ### made -/
theorem take1 {m : Cells} {x : Option Cell} : (m ++ [x]).take (m.length + 1) = m ++ [x] := List.take_of_length_le (by simp)
theorem asked_ok {z : Str} {m : Cells} (hz : z.length ≤ 1000) : FAsked [.d (.lst [.str z])] m = if isN z = true then .ok (.d .non) m else .ex 1 [.str z] m := by
  have h := isName_ok (m := m) hz
  unfold FAsked runFn mAsked
  cases e : isN z with
  | true => rw [e] at h; simp [mSeq, mIfS, mTest, mOp, mVar, mC, mAsg, mRet, gNm, thenG, Rs.bind, Rs.then, ofO, exitF, mCons, mNil, mCall, mNext, mCB, mDrop, turn, mItA, mIt, mFor, sz_lit, take1, isLst, mLoop, mNot, h]
  | false => rw [e] at h; simp [mSeq, mIfS, mTest, mOp, mVar, mC, mAsg, mRet, gNm, thenG, Rs.bind, Rs.then, ofO, exitF, mCons, mNil, mCall, mNext, mCB, mDrop, turn, mItA, mIt, mFor, sz_lit, take1, isLst, mLoop, mNot, h, mRaise, dats]
theorem setF_new {m : Cells} {c : Nat} {fs : List Dt} {d : Dt} {ix : FTab} {g : Gam} (h : ix c = some fs.length) : setF ix m.length d g (m ++ [some (.ins c fs)]) = .nx g (m ++ [some (.ins c (fs ++ [d]))]) := by
  simp [setF, isIns, h, FM.putAt]
theorem take_app {m : Cells} {x : Option Cell} : (m ++ [x]).take m.length = m := by simp
theorem mk_hold {m : Cells} {z : Str} {b : Dt} (hz : z.length ≤ 1000) : FHoldI [.ref m.length, .d (.str z), .d b] (m ++ [some (.ins 2 [])]) = if isN z = true then .ok (.d .non) (m ++ [some (.ins 2 [.str z, b])]) else .ex 1 [.str z] (m ++ [some (.ins 2 [])]) := by
  have h := asked_ok (m := m ++ [some (.ins 2 [])]) hz
  have s1 : setF (tabN ix_key) m.length (.str z) [some (.ref m.length), some (.d (.str z)), some (.d b)] (m ++ [some (.ins 2 [])]) = .nx [some (.ref m.length), some (.d (.str z)), some (.d b)] (m ++ [some (.ins 2 [.str z])]) := setF_new rfl
  have s2 : setF (tabN ix_body) m.length b [some (.ref m.length), some (.d (.str z)), some (.d b)] (m ++ [some (.ins 2 [.str z])]) = .nx [some (.ref m.length), some (.d (.str z)), some (.d b)] (m ++ [some (.ins 2 [.str z, b])]) := setF_new rfl
  unfold FHoldI runFn mHoldI
  cases e : isN z with
  | true => simp only [e, if_true] at h; simp [mSeq, mIfS, mTest, mOp, mVar, mC, mAsg, mRet, gNm, thenG, Rs.bind, Rs.then, ofO, exitF, mCons, mNil, mCall, mNext, mCB, mDrop, turn, mItA, mIt, mFor, sz_lit, take1, mLst, dats, h, mSetF, setV, s1, s2]
  | false => simp only [e] at h; simp [mSeq, mIfS, mTest, mOp, mVar, mC, mAsg, mRet, gNm, thenG, Rs.bind, Rs.then, ofO, exitF, mCons, mNil, mCall, mNext, mCB, mDrop, turn, mItA, mIt, mFor, sz_lit, take1, mLst, dats, h]
theorem mk_either {m : Cells} {b b' : Dt} : FEitherI [.ref m.length, .d b, .d b'] (m ++ [some (.ins 3 [])]) = .ok (.d .non) (m ++ [some (.ins 3 [b, b'])]) := by
  have s1 : setF (tabN ix_one) m.length b [some (.ref m.length), some (.d b), some (.d b')] (m ++ [some (.ins 3 [])]) = .nx [some (.ref m.length), some (.d b), some (.d b')] (m ++ [some (.ins 3 [b])]) := setF_new rfl
  have s2 : setF (tabN ix_other) m.length b' [some (.ref m.length), some (.d b), some (.d b')] (m ++ [some (.ins 3 [b])]) = .nx [some (.ref m.length), some (.d b), some (.d b')] (m ++ [some (.ins 3 [b, b'])]) := setF_new rfl
  unfold FEitherI runFn mEitherI
  simp [mSeq, mIfS, mTest, mOp, mVar, mC, mAsg, mRet, gNm, thenG, Rs.bind, Rs.then, ofO, exitF, mCons, mNil, mCall, mNext, mCB, mDrop, turn, mItA, mIt, mFor, sz_lit, take1, mSetF, setV, s1, s2]
theorem mk_rounds {m : Cells} {b : Dt} : FRoundsI [.ref m.length, .d b] (m ++ [some (.ins 4 [])]) = .ok (.d .non) (m ++ [some (.ins 4 [b])]) := by
  have s1 : setF (tabN ix_body) m.length b [some (.ref m.length), some (.d b)] (m ++ [some (.ins 4 [])]) = .nx [some (.ref m.length), some (.d b)] (m ++ [some (.ins 4 [b])]) := setF_new rfl
  unfold FRoundsI runFn mRoundsI
  simp [mSeq, mIfS, mTest, mOp, mVar, mC, mAsg, mRet, gNm, thenG, Rs.bind, Rs.then, ofO, exitF, mCons, mNil, mCall, mNext, mCB, mDrop, turn, mItA, mIt, mFor, sz_lit, take1, mSetF, setV, s1]
theorem mk_call {m : Cells} {z : Str} (hz : z.length ≤ 1000) : FCallI [.ref m.length, .d (.str z)] (m ++ [some (.ins 5 [])]) = if isN z = true then .ok (.d .non) (m ++ [some (.ins 5 [.str z])]) else .ex 1 [.str z] (m ++ [some (.ins 5 [])]) := by
  have h := asked_ok (m := m ++ [some (.ins 5 [])]) hz
  have s1 : setF (tabN ix_part) m.length (.str z) [some (.ref m.length), some (.d (.str z))] (m ++ [some (.ins 5 [])]) = .nx [some (.ref m.length), some (.d (.str z))] (m ++ [some (.ins 5 [.str z])]) := setF_new rfl
  unfold FCallI runFn mCallI
  cases e : isN z with
  | true => simp only [e, if_true] at h; simp [mSeq, mIfS, mTest, mOp, mVar, mC, mAsg, mRet, gNm, thenG, Rs.bind, Rs.then, ofO, exitF, mCons, mNil, mCall, mNext, mCB, mDrop, turn, mItA, mIt, mFor, sz_lit, take1, mLst, dats, h, mSetF, setV, s1]
  | false => simp only [e] at h; simp [mSeq, mIfS, mTest, mOp, mVar, mC, mAsg, mRet, gNm, thenG, Rs.bind, Rs.then, ofO, exitF, mCons, mNil, mCall, mNext, mCB, mDrop, turn, mItA, mIt, mFor, sz_lit, take1, mLst, dats, h]
theorem mk_mark {m : Cells} {z : Str} (hz : z.length ≤ 1000) : FMarkI [.ref m.length, .d (.str z)] (m ++ [some (.ins 6 [])]) = if isN z = true then .ok (.d .non) (m ++ [some (.ins 6 [.str z])]) else .ex 1 [.str z] (m ++ [some (.ins 6 [])]) := by
  have h := asked_ok (m := m ++ [some (.ins 6 [])]) hz
  have s1 : setF (tabN ix_name) m.length (.str z) [some (.ref m.length), some (.d (.str z))] (m ++ [some (.ins 6 [])]) = .nx [some (.ref m.length), some (.d (.str z))] (m ++ [some (.ins 6 [.str z])]) := setF_new rfl
  unfold FMarkI runFn mMarkI
  cases e : isN z with
  | true => simp only [e, if_true] at h; simp [mSeq, mIfS, mTest, mOp, mVar, mC, mAsg, mRet, gNm, thenG, Rs.bind, Rs.then, ofO, exitF, mCons, mNil, mCall, mNext, mCB, mDrop, turn, mItA, mIt, mFor, sz_lit, take1, mLst, dats, h, mSetF, setV, s1]
  | false => simp only [e] at h; simp [mSeq, mIfS, mTest, mOp, mVar, mC, mAsg, mRet, gNm, thenG, Rs.bind, Rs.then, ofO, exitF, mCons, mNil, mCall, mNext, mCB, mDrop, turn, mItA, mIt, mFor, sz_lit, take1, mLst, dats, h]
theorem mk_body {m : Cells} {v : Vl} {ss : List Dt} (h : nTup (m ++ [some (.ins 8 [])]) [v] = some (.d (.tup ss))) : FBodyI [.ref m.length, v] (m ++ [some (.ins 8 [])]) = .ok (.d .non) (m ++ [some (.ins 8 [.tup ss])]) := by
  have s1 : setF (tabN ix_row) m.length (.tup ss) [some (.ref m.length), some v] (m ++ [some (.ins 8 [])]) = .nx [some (.ref m.length), some v] (m ++ [some (.ins 8 [.tup ss])]) := setF_new rfl
  unfold FBodyI runFn mBodyI
  simp [mSeq, mIfS, mTest, mOp, mVar, mC, mAsg, mRet, gNm, thenG, Rs.bind, Rs.then, ofO, exitF, mCons, mNil, mCall, mNext, mCB, mDrop, turn, mItA, mIt, mFor, sz_lit, take1, mSetF, setV, s1, h]
/-- .. as expressions -/
theorem make_body {ma : MA} {g : Gam} {m m1 : Cells} {v : Vl} {ss : List Dt} (h : ma g m = .ok [v] m1) (hv : nTup (m1 ++ [some (.ins 8 [])]) [v] = some (.d (.tup ss))) : mMake 8 1 FBodyI ma g m = .ok (.d (.ins 8 [.tup ss])) m1 := by
  simp [mMake, h, Rs.bind, mk_body hv, isI]
theorem make_hold {ma : MA} {g : Gam} {m m1 : Cells} {z : Str} {b : Dt} (h : ma g m = .ok [.d (.str z), .d b] m1) (hz : z.length ≤ 1000) : mMake 2 2 FHoldI ma g m = if isN z = true then .ok (.d (.ins 2 [.str z, b])) m1 else .ex 1 [.str z] m1 := by
  cases e : isN z <;> simp [mMake, h, Rs.bind, mk_hold hz, isI, e]
theorem make_either {ma : MA} {g : Gam} {m m1 : Cells} {b b' : Dt} (h : ma g m = .ok [.d b, .d b'] m1) : mMake 3 2 FEitherI ma g m = .ok (.d (.ins 3 [b, b'])) m1 := by
  simp [mMake, h, Rs.bind, mk_either, isI]
theorem make_rounds {ma : MA} {g : Gam} {m m1 : Cells} {b : Dt} (h : ma g m = .ok [.d b] m1) : mMake 4 1 FRoundsI ma g m = .ok (.d (.ins 4 [b])) m1 := by
  simp [mMake, h, Rs.bind, mk_rounds, isI]
theorem make_call {ma : MA} {g : Gam} {m m1 : Cells} {z : Str} (h : ma g m = .ok [.d (.str z)] m1) (hz : z.length ≤ 1000) : mMake 5 1 FCallI ma g m = if isN z = true then .ok (.d (.ins 5 [.str z])) m1 else .ex 1 [.str z] m1 := by
  cases e : isN z <;> simp [mMake, h, Rs.bind, mk_call hz, isI, e]
theorem make_mark {ma : MA} {g : Gam} {m m1 : Cells} {z : Str} (h : ma g m = .ok [.d (.str z)] m1) (hz : z.length ≤ 1000) : mMake 6 1 FMarkI ma g m = if isN z = true then .ok (.d (.ins 6 [.str z])) m1 else .ex 1 [.str z] m1 := by
  cases e : isN z <;> simp [mMake, h, Rs.bind, mk_mark hz, isI, e]
end K03

namespace K03
open PySem PySem.Spec PyProof.Rows L2 FM
local macro_rules
  | `(tactic| array_get_dec) => `(tactic| (first | with_reducible refine w_seq ?_ | with_reducible refine w_asg ?_ | with_reducible refine w_drop ?_ | with_reducible refine w_ret ?_ | with_reducible refine w_retN ?_ | with_reducible refine w_next ?_ | with_reducible refine w_brk ?_ | with_reducible refine w_cnt ?_ | with_reducible refine w_if ?_ | with_reducible refine w_par ?_ | with_reducible refine w_putD ?_ | with_reducible refine w_setF ?_ | with_reducible refine w_raise ?_ | with_reducible refine w_try ?_ | with_reducible refine w_for ?_ | with_reducible refine w_c ?_ | with_reducible refine w_op ?_ | with_reducible refine w_un ?_ | with_reducible refine w_nil ?_ | with_reducible refine w_cons ?_ | with_reducible refine w_call ?_ | with_reducible refine w_cb ?_ | with_reducible refine w_cl ?_ | with_reducible refine w_clC ?_ | with_reducible refine w_tup ?_ | with_reducible refine w_lst ?_ | with_reducible refine w_lstC ?_ | with_reducible refine w_test ?_ | with_reducible refine w_and ?_ | with_reducible refine w_or ?_ | with_reducible refine w_not ?_ | with_reducible refine w_andV ?_ | with_reducible refine w_orV ?_ | with_reducible refine w_ife ?_ | with_reducible refine w_tru ?_ | with_reducible refine w_chain ?_ | with_reducible refine w_make ?_ | with_reducible refine w_make0 ?_ | with_reducible refine w_meth ?_ | with_reducible refine w_noP ?_ | with_reducible refine w_part ?_ | with_reducible refine w_sl ?_ | with_reducible refine w_slC ?_ | with_reducible refine w_pnil ?_ | with_reducible refine w_pcons ?_ | with_reducible refine w_disp ?_ | with_reducible refine w_dispC ?_ | with_reducible refine w_dnew ?_ | with_reducible refine w_it ?_ | with_reducible refine w_itA ?_ | with_reducible refine w_lc ?_ | with_reducible refine w_lcC ?_ | with_reducible refine w_gnil ?_ | with_reducible refine w_gcons ?_ | with_reducible refine w_setL ?_ | with_reducible refine w_app ?_ | with_reducible refine w_frzL ?_ | with_reducible refine w_B ?_ | with_reducible refine wo_II ?_ | with_reducible refine wo_IB ?_ | with_reducible refine wo_eqI ?_ | with_reducible refine wo_eqS ?_ | with_reducible refine wo_eqB ?_ | with_reducible refine wo_neI ?_ | with_reducible refine wo_neS ?_ | with_reducible refine wo_neB ?_ | with_reducible refine wo_intI ?_ | with_reducible refine wo_intB ?_ | with_reducible refine wo_not ?_ | with_reducible refine wo_lst ?_ | with_reducible refine wo_scr ?_ | with_reducible refine wo_itup ?_ | with_reducible refine wo_zip ?_ | with_reducible refine wo_enum ?_ | with_reducible refine wo_slT ?_ | with_reducible refine w_Xd ?_ | with_reducible refine w_yes ?_ | with_reducible refine w_t1 ?_ | with_reducible refine wo_isN0 ?_ | with_reducible refine wo_isN1 ?_ | with_reducible refine w_pk ?_ | with_reducible refine w_pki ?_ | ((with_reducible refine w_nm ?_); (try simp only [List.set_cons_succ, List.set_cons_zero])) | ((with_reducible apply w_var); (focus rfl)) | ((with_reducible refine w_gtp ?_ ?_); (focus (first | rfl | (simp; done)))) | ((with_reducible apply w_dats); (focus (first | rfl | ((simp only [dats, Option.map_some]); (first | done | rfl))))) | ((with_reducible apply wo_isNf); (focus (first | rfl | assumption | (simp only [lstOf, tupOf, dctOf, seqL, isL, Option.or_none, Option.some_or, Option.none_or, *]; done) | ((simp [lstOf, tupOf, dctOf, seqL, isL, *]); (first | done | rfl))))) | ((with_reducible apply w_rl); (focus (first | rfl | assumption | (simp only [lstOf, tupOf, dctOf, seqL, isL, Option.or_none, Option.some_or, Option.none_or, *]; done) | ((simp [lstOf, tupOf, dctOf, seqL, isL, *]); (first | done | rfl))))) | ((with_reducible apply wo_rev); (focus (first | rfl | assumption | (simp only [lstOf, tupOf, dctOf, seqL, isL, Option.or_none, Option.some_or, Option.none_or, *]; done) | ((simp [lstOf, tupOf, dctOf, seqL, isL, *]); (first | done | rfl))))) | ((with_reducible apply wo_slL); (focus (first | rfl | assumption | (simp only [lstOf, tupOf, dctOf, seqL, isL, Option.or_none, Option.some_or, Option.none_or, *]; done) | ((simp [lstOf, tupOf, dctOf, seqL, isL, *]); (first | done | rfl))))) | ((with_reducible apply wo_nil); (focus (first | rfl | assumption | (simp only [lstOf, tupOf, dctOf, seqL, isL, Option.or_none, Option.some_or, Option.none_or, *]; done) | ((simp [lstOf, tupOf, dctOf, seqL, isL, *]); (first | done | rfl))))) | ((with_reducible apply wo_len); (focus (first | rfl | assumption | (simp only [lstOf, tupOf, dctOf, seqL, isL, Option.or_none, Option.some_or, Option.none_or, *]; done) | ((simp [lstOf, tupOf, dctOf, seqL, isL, *]); (first | done | rfl))))) | ((with_reducible apply wo_tup); (focus (first | rfl | assumption | (simp only [lstOf, tupOf, dctOf, seqL, isL, Option.or_none, Option.some_or, Option.none_or, *]; done) | ((simp [lstOf, tupOf, dctOf, seqL, isL, *]); (first | done | rfl))))) | ((with_reducible apply wo_list); (focus (first | rfl | assumption | (simp only [lstOf, tupOf, dctOf, seqL, isL, Option.or_none, Option.some_or, Option.none_or, *]; done) | ((simp [lstOf, tupOf, dctOf, seqL, isL, *]); (first | done | rfl))))) | (with_reducible refine wo_isN ?_) | (with_reducible refine w_i1 ?_) | (with_reducible refine w_tt ?_) | (with_reducible refine w_ff ?_) | ((with_reducible refine w_sz ?_ ?_); (focus (first | (simp; done) | (simp; omega)))) | ((with_reducible refine w_l15 ?_ ?_); (focus (simp; done))) | fail))
/-! ### draws -/
def stX (x : Cell) : Prop := ∃ a b c, x = .lst [.int a, .int b, .int c] ∧ Ok3 a b c
def stOk (m : Cells) (k : Nat) : Prop := ∃ x, m[k]? = some (some x) ∧ stX x
section
variable {m : Cells} {k j : Nat} {Q : Vl → Cells → Prop} {E : EX} {x : Cell} {y : Option Cell}
theorem stOk.lt (h : stOk m k) : k < m.length := by obtain ⟨x, h, _⟩ := h; exact lt_of h
theorem stOk.set (h : stOk m k) (hx : stX x) : stOk (m.set k (some x)) k := by
  obtain ⟨z, h, _⟩ := h; exact ⟨x, set_get h, hx⟩
theorem stOk.ne (h : stOk m k) (hj : j ≠ k) : stOk (m.set j y) k := by
  obtain ⟨z, h, hz⟩ := h; exact ⟨z, by rw [List.getElem?_set_ne hj]; exact h, hz⟩
theorem stOk.app (h : stOk m k) : stOk (m ++ [y]) k := by
  obtain ⟨z, h, hz⟩ := h; exact ⟨z, by rw [List.getElem?_append_left (lt_of h)]; exact h, hz⟩
theorem digit_w {n : Int} (h : stOk m k) (hn : 0 < n) (hn2 : n < 1073741824) (q : ∀ r x, 0 ≤ r → r < n → stX x → Q (.d (.int r)) (m.set k (some x))) : wR (FDigit [.ref k, .d (.int n)] m) Q E := by
  obtain ⟨x, hk, a, b, c, rfl, o⟩ := h
  obtain ⟨r, a', b', e, r0, r1, o'⟩ := digit_ok hk o hn hn2
  exact wR_eq e (q r _ r0 r1 ⟨a', b', c, rfl, o'⟩)
theorem state_w {c : Int} (q : ∀ x, stX x → Q (.ref m.length) (m ++ [some x])) : wR (FState [.d (.int c)] m) Q E := by
  obtain ⟨a, b, d, e, o⟩ := state_ok (m := m) (c := c)
  exact wR_eq e (q _ ⟨a, b, d, rfl, o⟩)
theorem name_w {ys : List Str} (h : stOk m k) (hj : m[j]? = some (some (.lst (ys.map .str)))) (hjk : j ≠ k) (hy : ys.length ≤ 8)
    (q : ∀ z x, GName 8 z → z ∉ ys → stX x → Q (.d (.str z)) (m.set k (some x))) : wR (FName [.ref k, .ref j] m) Q E := by
  obtain ⟨x, hk, a, b, c, rfl, o⟩ := h
  obtain ⟨z, a', b', e, g, ni, o'⟩ := name_ok hk hj hjk o hy
  exact wR_eq e (q z _ g ni ⟨a', b', c, rfl, o'⟩)
theorem set_app (hk : k < m.length) {x y : Option Cell} : (m ++ [y]).set k x = m.set k x ++ [y] := by rw [List.set_append_left _ _ hk]
theorem set_last {x y : Option Cell} : (m ++ [y]).set m.length x = m ++ [x] := by rw [List.set_append_right _ _ (Nat.le_refl _)]; simp
theorem get_last {y : Option Cell} : (m ++ [y])[m.length]? = some y := by simp
theorem names_w {n : Nat} (hn : n ≤ 8) (h : stOk m k) (q : ∀ (ys : List Str) (x : Cell), ys.length = n → (∀ z ∈ ys, GName 8 z) → ys.Nodup → stX x → Q (.d (.lst (ys.map .str))) (m.set k (some x))) : wR (FNames [.ref k, .d (.int n)] m) Q E := by
  have hk := h.lt
  ((show wR (runFn 2 4 (mNames) _ _) _ _); (refine w_run (g := [_, _, none, none]) (by rfl) rfl ?_); (unfold mNames))
  (repeat' array_get_dec)
  refine wo_rng1 ⟨by omega, by omega⟩ ?_
  refine w_loop (fun r g m' => ∃ (ys : List Str) (x : Cell) (x3 : Option Vl), ys.length + r.length = n ∧ (∀ z ∈ ys, GName 8 z) ∧ ys.Nodup ∧ stX x ∧ g = [some (.ref k), some (.d (.int n)), some (.ref m.length), x3] ∧ m' = m.set k (some x) ++ [some (.lst (ys.map .str))]) ?_ ?_ _ _ _ ?_
  · rintro d r g m' ⟨ys, x, x3, h1, h2, h3, h4, rfl, rfl⟩
    rw [List.length_cons] at h1
    (repeat' array_get_dec)
    refine name_w (ys := ys) (h.set h4).app (by simp) (by omega) (by omega) fun z x' g1 g2 g3 => ?_
    (repeat' array_get_dec)
    refine w_ad (ds := ys.map .str) ?_ ?_ ?_
    · simp [hk]
    · simp; omega
    · refine ⟨ys ++ [z], x', some (.d d), by simp; omega, ?_, ?_, g3, rfl, ?_⟩
      · intro w hw
        rcases List.mem_append.mp hw with hw | hw
        · exact h2 w hw
        · rw [List.mem_singleton.mp hw]; exact g1
      · rw [List.nodup_append]
        exact ⟨h3, by simp, fun a ha b hb => by rw [List.mem_singleton.mp hb]; exact fun e => g2 (e ▸ ha)⟩
      · simp [hk]
  · rintro g m' ⟨ys, x, x3, h1, h2, h3, h4, rfl, rfl⟩
    (repeat' array_get_dec)
    have e : ((m.set k (some x) ++ [some (Cell.lst (ys.map Dt.str))]).set m.length none).take m.length = m.set k (some x) := by simp
    rw [e]
    exact q ys x (by simpa using h1) h2 h3 h4
  · obtain ⟨x, e, hx⟩ := h
    refine ⟨[], x, none, by simp [rng_len], (fun z hz => by cases hz), List.nodup_nil, hx, rfl, ?_⟩
    obtain ⟨h1, h2⟩ := List.getElem?_eq_some_iff.mp e
    simp [← h2]
end
end K03

namespace K03
open PySem PySem.Spec PyProof.Rows L2 FM
/-! ### rows -/
def wfOne (R : Dt → Prop) (d : Dt) : Prop :=
  (∃ z r, d = .tup [.str "hold", .str z, .lst [r]] ∧ GName 8 z ∧ R r) ∨
  (∃ z, d = .tup [.str "mark", .str z, .lst []] ∧ GName 8 z) ∨
  (∃ z, d = .tup [.str "call", .str z, .lst []] ∧ GName 8 z) ∨
  (d = .tup [.str "stop", .non, .lst []]) ∨
  (∃ r r', d = .tup [.str "either", .non, .lst [r, r']] ∧ R r ∧ R r') ∨
  (∃ r, d = .tup [.str "rounds", .non, .lst [r]] ∧ R r)
def wfRow (W : Nat) : Nat → Dt → Prop
  | 0, _ => False
  | n + 1, d => ∃ ss, d = .lst ss ∧ ss.length ≤ W ∧ ∀ s ∈ ss, wfOne (wfRow W n) s
theorem wfOne.mono {R R' : Dt → Prop} {d : Dt} (h : wfOne R d) (k : ∀ r, R r → R' r) : wfOne R' d := by
  rcases h with ⟨z, r, e, g, h⟩ | h | h | h | ⟨r, r', e, h, h'⟩ | ⟨r, e, h⟩
  · exact .inl ⟨z, r, e, g, k r h⟩
  · exact .inr (.inl h)
  · exact .inr (.inr (.inl h))
  · exact .inr (.inr (.inr (.inl h)))
  · exact .inr (.inr (.inr (.inr (.inl ⟨r, r', e, k r h, k r' h'⟩))))
  · exact .inr (.inr (.inr (.inr (.inr ⟨r, e, k r h⟩))))
theorem wfRow.mono {W W' : Nat} (hW : W ≤ W') : ∀ {n n' : Nat} {d : Dt}, n ≤ n' → wfRow W n d → wfRow W' n' d
  | 0, _, _, _, h => h.elim
  | n + 1, 0, _, hn, _ => by omega
  | n + 1, n' + 1, d, hn, h => by
    obtain ⟨ss, e, hl, hs⟩ := h
    exact ⟨ss, e, by omega, fun s hm => (hs s hm).mono fun r hr => wfRow.mono hW (by omega) hr⟩
theorem wfRow.app {W W' n : Nat} {xs ys : List Dt} (h : wfRow W (n + 1) (.lst xs)) (h' : wfRow W' (n + 1) (.lst ys)) : wfRow (W + W') (n + 1) (.lst (xs ++ ys)) := by
  obtain ⟨ss, e, hl, hs⟩ := h
  obtain ⟨ss', e', hl', hs'⟩ := h'
  cases e; cases e'
  refine ⟨xs ++ ys, rfl, by simp; omega, fun s hm => ?_⟩
  rcases List.mem_append.mp hm with hm | hm
  · exact (hs s hm).mono fun r hr => hr.mono (by omega) (Nat.le_refl _)
  · exact (hs' s hm).mono fun r hr => hr.mono (by omega) (Nat.le_refl _)
/-! ### the bodies of rows -/
def toS (B : Dt → Dt) : Dt → Dt
  | .tup [.str w, .str z, .lst [r]] => .ins 2 [.str z, B r]
  | .tup [.str w, .str z, .lst []] => if w = "mark" then .ins 6 [.str z] else .ins 5 [.str z]
  | .tup [_, .non, .lst []] => .ins 7 []
  | .tup [_, .non, .lst [r, r']] => .ins 3 [B r, B r']
  | .tup [_, .non, .lst [r]] => .ins 4 [B r]
  | d => d
def toB : Nat → Dt → Dt
  | n + 1, .lst ss => .ins 8 [.tup (ss.map (toS (toB n)))]
  | _, d => d
theorem ne_mc : ¬ (("call" : Str) = "mark") := by decide +kernel
section
variable {B : Dt → Dt} {z : Str} {r r' : Dt}
theorem toS_h : toS B (.tup [.str "hold", .str z, .lst [r]]) = .ins 2 [.str z, B r] := rfl
theorem toS_m : toS B (.tup [.str "mark", .str z, .lst []]) = .ins 6 [.str z] := by simp [toS]
theorem toS_c : toS B (.tup [.str "call", .str z, .lst []]) = .ins 5 [.str z] := by simp [toS, ne_mc]
theorem toS_s : toS B (.tup [.str "stop", .non, .lst []]) = .ins 7 [] := rfl
theorem toS_e : toS B (.tup [.str "either", .non, .lst [r, r']]) = .ins 3 [B r, B r'] := rfl
theorem toS_r : toS B (.tup [.str "rounds", .non, .lst [r]]) = .ins 4 [B r] := rfl
end
theorem inj_map {f : Dt → Dt} : ∀ {xs ys : List Dt}, (∀ x ∈ xs, ∀ y ∈ ys, f x = f y → x = y) → xs.map f = ys.map f → xs = ys
  | [], [], _, _ => rfl
  | [], _ :: _, _, h => by simp at h
  | _ :: _, [], _, h => by simp at h
  | x :: xs, y :: ys, k, h => by
    simp only [List.map_cons, List.cons.injEq] at h
    rw [k x (by simp) y (by simp) h.1, inj_map (fun a ha b hb => k a (by simp [ha]) b (by simp [hb])) h.2]
theorem toS_inj {B : Dt → Dt} {R R' : Dt → Prop} (k : ∀ x y, R x → R' y → B x = B y → x = y) {x y : Dt} (hx : wfOne R x) (hy : wfOne R' y) (h : toS B x = toS B y) : x = y := by
  rcases hx with ⟨z, r, rfl, g, hr⟩ | ⟨z, rfl, g⟩ | ⟨z, rfl, g⟩ | rfl | ⟨r, r2, rfl, hr, hr2⟩ | ⟨r, rfl, hr⟩ <;>
  rcases hy with ⟨z', r', rfl, g', hr'⟩ | ⟨z', rfl, g'⟩ | ⟨z', rfl, g'⟩ | rfl | ⟨r', r2', rfl, hr', hr2'⟩ | ⟨r', rfl, hr'⟩ <;>
  simp only [toS_h, toS_m, toS_c, toS_s, toS_e, toS_r, Dt.ins.injEq, List.cons.injEq, Dt.str.injEq] at h
  all_goals first | (exfalso; omega) | skip
  · obtain ⟨_, rfl, h, _⟩ := h; rw [k _ _ hr hr' h]
  · obtain ⟨_, rfl, _⟩ := h; rfl
  · obtain ⟨_, rfl, _⟩ := h; rfl
  · rfl
  · obtain ⟨_, h, h2, _⟩ := h; rw [k _ _ hr hr' h, k _ _ hr2 hr2' h2]
  · obtain ⟨_, h, _⟩ := h; rw [k _ _ hr hr' h]
theorem toB_inj {W W' : Nat} : ∀ {n k : Nat} {x y : Dt}, n ≤ k → wfRow W n x → wfRow W' n y → toB k x = toB k y → x = y
  | 0, _, _, _, _, h, _, _ => h.elim
  | n + 1, 0, _, _, hk, _, _, _ => by omega
  | n + 1, k + 1, x, y, hk, ⟨xs, e1, _, h1⟩, ⟨ys, e2, _, h2⟩, h => by
    subst e1 e2
    simp only [toB, Dt.ins.injEq, Dt.tup.injEq, List.cons.injEq, true_and, and_true] at h
    rw [inj_map (fun a ha b hb => toS_inj (fun x y hx hy => toB_inj (by omega) hx hy) (h1 a ha) (h2 b hb)) h]
theorem oneS_inj {W W' n k : Nat} (hk : n ≤ k) {x y : Dt} (hx : wfOne (wfRow W n) x) (hy : wfOne (wfRow W' n) y) (h : toS (toB k) x = toS (toB k) y) : x = y :=
  toS_inj (fun _ _ hx hy => toB_inj hk hx hy) hx hy h
theorem wfSs_of {ss : List Dt} (h : ∀ s ∈ ss, wfS s = true) : wfSs ss = true := by
  induction ss with
  | nil => rfl
  | cons s ss ih => simp [wfSs, h s (by simp), ih fun x hx => h x (by simp [hx])]
theorem wfS_toS {B : Dt → Dt} {R : Dt → Prop} (k : ∀ r, R r → wfB (B r) = true) {x : Dt} (h : wfOne R x) : wfS (toS B x) = true := by
  rcases h with ⟨z, r, rfl, g, hr⟩ | ⟨z, rfl, g⟩ | ⟨z, rfl, g⟩ | rfl | ⟨r, r2, rfl, hr, hr2⟩ | ⟨r, rfl, hr⟩ <;> simp [toS_h, toS_m, toS_c, toS_s, toS_e, toS_r, wfS, *]
theorem wfB_toB {W : Nat} : ∀ {n k : Nat} {x : Dt}, n ≤ k → wfRow W n x → wfB (toB k x) = true
  | 0, _, _, _, h => h.elim
  | n + 1, 0, _, hk, _ => by omega
  | n + 1, k + 1, x, hk, ⟨xs, e1, _, h1⟩ => by
    subst e1
    simp only [toB, wfB]
    refine wfSs_of fun s hs => ?_
    obtain ⟨a, ha, rfl⟩ := List.mem_map.mp hs
    exact wfS_toS (fun r hr => wfB_toB (by omega) hr) (h1 a ha)
/-! how large they are -/
def szR (W : Nat) : Nat → Nat
  | 0 => 0
  | n + 1 => 4 + W * (5 + 2 * szR W n)
theorem szs_le {K : Nat} : ∀ {ss : List Dt}, (∀ s ∈ ss, szD s ≤ K) → szsD ss ≤ ss.length * K
  | [], _ => by simp [szsD]
  | s :: ss, h => by
    have h1 := h s (by simp)
    have h2 := szs_le (K := K) (ss := ss) fun x hx => h x (by simp [hx])
    have e : (ss.length + 1) * K = ss.length * K + K := by rw [Nat.add_mul, Nat.one_mul]
    simp only [szsD, List.length_cons, e]
    omega
theorem sz_toS {B : Dt → Dt} {R : Dt → Prop} {K : Nat} (k : ∀ r, R r → szD (B r) ≤ K) {x : Dt} (h : wfOne R x) : szD (toS B x) ≤ 5 + 2 * K := by
  rcases h with ⟨z, r, rfl, g, hr⟩ | ⟨z, rfl, g⟩ | ⟨z, rfl, g⟩ | rfl | ⟨r, r2, rfl, hr, hr2⟩ | ⟨r, rfl, hr⟩
  · have := k r hr; simp [toS_h, szD, szsD]; omega
  · simp [toS_m, szD, szsD]; omega
  · simp [toS_c, szD, szsD]; omega
  · simp [toS_s, szD, szsD]; omega
  · have := k r hr; have := k r2 hr2; simp [toS_e, szD, szsD]; omega
  · have := k r hr; simp [toS_r, szD, szsD]; omega
theorem sz_toB {W : Nat} : ∀ {n k : Nat} {x : Dt}, n ≤ k → wfRow W n x → szD (toB k x) ≤ szR W n
  | 0, _, _, _, h => h.elim
  | n + 1, 0, _, hk, _ => by omega
  | n + 1, k + 1, x, hk, ⟨xs, e1, hl, h1⟩ => by
    subst e1
    have h := szs_le (K := 5 + 2 * szR W n) (ss := xs.map (toS (toB k))) fun s hs => by
      obtain ⟨a, ha, rfl⟩ := List.mem_map.mp hs
      exact sz_toS (fun r hr => sz_toB (by omega) hr) (h1 a ha)
    rw [List.length_map] at h
    have h2 : xs.length * (5 + 2 * szR W n) ≤ W * (5 + 2 * szR W n) := Nat.mul_le_mul_right _ hl
    simp only [toB, szD, szsD, szR]
    omega
end K03

namespace K03
open PySem PySem.Spec PyProof.Rows L2 FM
/-! ### == of rows -/
open Classical
theorem allQ_dec {q : Dt → Dt → Option Bool} : ∀ {xs ys : List Dt}, (∀ x ∈ xs, ∀ y ∈ ys, q x y = some (decide (x = y))) → (allQ q xs ys).map (fun b => b && xs.length == ys.length) = some (decide (xs = ys))
  | [], [], _ => by simp [allQ]
  | [], y :: ys, _ => by simp [allQ]
  | x :: xs, [], _ => by simp [allQ]
  | x :: xs, y :: ys, h => by
    have h1 := h x (by simp) y (by simp)
    have ih := allQ_dec (xs := xs) (ys := ys) fun a ha b hb => h a (by simp [ha]) b (by simp [hb])
    by_cases e : x = y
    · subst e
      simp only [allQ, h1, decide_true, List.length_cons]
      have e2 : ((x :: xs = x :: ys) ↔ xs = ys) := by simp
      rw [show ((xs.length + 1 == ys.length + 1) = (xs.length == ys.length)) from by simp [BEq.beq], ih]
      simp [e2]
    · simp [allQ, h1, e]
theorem allQ_len {q : Dt → Dt → Option Bool} {xs ys : List Dt} (h : ∀ x ∈ xs, ∀ y ∈ ys, q x y = some (decide (x = y))) : (if xs.length = ys.length then allQ q xs ys else some false) = some (decide (xs = ys)) := by
  have k := allQ_dec h
  by_cases e : xs.length = ys.length
  · rw [if_pos e]
    cases ea : allQ q xs ys with
    | none => rw [ea] at k; cases k
    | some b =>
      rw [ea] at k
      simp only [Option.map_some, e, BEq.rfl, Bool.and_true] at k
      exact k
  · rw [if_neg e]
    have : xs ≠ ys := fun h => e (by rw [h])
    simp [this]
theorem okB_lst {N : Nat} {xs : List Dt} (h : ∀ x ∈ xs, okB N x = true) : oksD xs = true ∧ inssD N xs = true := by
  induction xs with
  | nil => exact ⟨rfl, rfl⟩
  | cons x xs ih =>
    have h1 := Bool.and_eq_true_iff.mp (h x (by simp))
    have h2 := ih fun a ha => h a (by simp [ha])
    simp [oksD, inssD, h1, h2]
theorem okB_l {N : Nat} {xs : List Dt} (h : ∀ x ∈ xs, okB N x = true) : okB N (.lst xs) = true := by
  have := okB_lst h; simp [okB, okD, insD, this]
theorem okB_t {N : Nat} {xs : List Dt} (h : ∀ x ∈ xs, okB N x = true) : okB N (.tup xs) = true := by
  have := okB_lst h; simp [okB, okD, insD, this]
theorem okB_s {N : Nat} {z : Str} : okB N (.str z) = true := rfl
theorem okB_n {N : Nat} : okB N .non = true := rfl
theorem ok_one {R : Dt → Prop} (k : ∀ r, R r → okB 10 r = true) {x : Dt} (h : wfOne R x) : okB 10 x = true := by
  rcases h with ⟨z, r, rfl, g, hr⟩ | ⟨z, rfl, g⟩ | ⟨z, rfl, g⟩ | rfl | ⟨r, r2, rfl, hr, hr2⟩ | ⟨r, rfl, hr⟩
  · refine okB_t ?_; simp [okB_s, okB_l, k r hr]
  · rfl
  · rfl
  · rfl
  · refine okB_t ?_; simp [okB_s, okB_n, okB_l, k r hr, k r2 hr2]
  · refine okB_t ?_; simp [okB_s, okB_n, okB_l, k r hr]
theorem ok_row {W : Nat} : ∀ {n : Nat} {x : Dt}, wfRow W n x → okB 10 x = true
  | 0, _, h => h.elim
  | n + 1, x, ⟨xs, e1, _, h1⟩ => by
    subst e1
    exact okB_l fun a ha => ok_one (fun r hr => ok_row hr) (h1 a ha)
/-- what a statement's parts are -/
theorem one_parts {R : Dt → Prop} {x : Dt} (h : wfOne R x) : ∃ w nm rs, x = .tup [.str w, nm, .lst rs] ∧ (nm = .non ∨ ∃ z, nm = .str z) ∧ ∀ r ∈ rs, R r := by
  rcases h with ⟨z, r, rfl, g, hr⟩ | ⟨z, rfl, g⟩ | ⟨z, rfl, g⟩ | rfl | ⟨r, r2, rfl, hr, hr2⟩ | ⟨r, rfl, hr⟩
  · exact ⟨_, _, _, rfl, .inr ⟨_, rfl⟩, by simpa using hr⟩
  · exact ⟨_, _, _, rfl, .inr ⟨_, rfl⟩, by simp⟩
  · exact ⟨_, _, _, rfl, .inr ⟨_, rfl⟩, by simp⟩
  · exact ⟨_, _, _, rfl, .inl rfl, by simp⟩
  · exact ⟨_, _, _, rfl, .inl rfl, by simpa using ⟨hr, hr2⟩⟩
  · exact ⟨_, _, _, rfl, .inl rfl, by simpa using hr⟩
theorem flat_str {a b : Str} {q : Dt → Dt → Option Bool} : qItem q (.str a) (.str b) = some (decide (Dt.str a = Dt.str b)) := by
  simp only [qItem, flatQ, flatD, eqV, Dt.str.injEq]
  by_cases e : a = b <;> simp [e]
theorem flat_nm {a b : Dt} {q : Dt → Dt → Option Bool} (ha : a = .non ∨ ∃ z, a = .str z) (hb : b = .non ∨ ∃ z, b = .str z) : qItem q a b = some (decide (a = b)) := by
  rcases ha with rfl | ⟨z, rfl⟩ <;> rcases hb with rfl | ⟨w, rfl⟩
  · simp [qItem, flatQ, flatD, eqV]
  · simp [qItem, flatQ, flatD, eqV]
  · simp [qItem, flatQ, flatD, eqV]
  · exact flat_str
theorem qItem_l {q : Dt → Dt → Option Bool} {xs : List Dt} {y : Dt} : qItem q (.lst xs) y = q (.lst xs) y := rfl
theorem qItem_t {q : Dt → Dt → Option Bool} {xs : List Dt} {y : Dt} : qItem q (.tup xs) y = q (.tup xs) y := rfl
theorem qS_ll {E : Eqs} {n : Nat} {neg : Bool} {xs ys : List Dt} : qS E (n + 1) neg (.lst xs) (.lst ys) = if (okB E.N (.lst xs) && okB E.N (.lst ys)) = true then (if xs.length = ys.length then allQ (qItem (qS E n false)) xs ys else some false) else none := rfl
theorem qS_tt {E : Eqs} {n : Nat} {neg : Bool} {xs ys : List Dt} : qS E (n + 1) neg (.tup xs) (.tup ys) = if (okB E.N (.tup xs) && okB E.N (.tup ys)) = true then (allQ (qItem (qS E n false)) xs ys).map fun b => b && xs.length == ys.length else none := rfl
theorem eq_one {R R' : Dt → Prop} {t : Nat} (k : ∀ x y, R x → R' y → qItem (qS E_Z t false) x y = some (decide (x = y))) (ko : ∀ r, R r → okB 10 r = true) (ko' : ∀ r, R' r → okB 10 r = true) {neg : Bool} {x y : Dt} (hx : wfOne R x) (hy : wfOne R' y) : qS E_Z (t + 2) neg x y = some (decide (x = y)) := by
  have o1 := ok_one ko hx
  have o2 := ok_one ko' hy
  obtain ⟨w, nm, rs, rfl, hn, hr⟩ := one_parts hx
  obtain ⟨w', nm', rs', rfl, hn', hr'⟩ := one_parts hy
  have hl : qItem (qS E_Z (t + 1) false) (.lst rs) (.lst rs') = some (decide (Dt.lst rs = .lst rs')) := by
    rw [qItem_l]
    have e := allQ_len (q := qItem (qS E_Z t false)) (xs := rs) (ys := rs') fun a ha b hb => k a b (hr a ha) (hr' b hb)
    have p1 : okB E_Z.N (.lst rs) = true := okB_l fun a ha => ko a (hr a ha)
    have p2 : okB E_Z.N (.lst rs') = true := okB_l fun a ha => ko' a (hr' a ha)
    rw [qS_ll]
    simp only [p1, p2, Bool.and_self, if_true, e, Dt.lst.injEq]
  have e := allQ_dec (q := qItem (qS E_Z (t + 1) false)) (xs := [.str w, nm, .lst rs]) (ys := [.str w', nm', .lst rs'])
  have p1 : okB E_Z.N (.tup [.str w, nm, .lst rs]) = true := o1
  have p2 : okB E_Z.N (.tup [.str w', nm', .lst rs']) = true := o2
  have h3 : allQ (qItem (qS E_Z (t + 1) false)) [.str w, nm, .lst rs] [.str w', nm', .lst rs'] = some (decide ((Dt.tup [.str w, nm, .lst rs]) = .tup [.str w', nm', .lst rs'])) := by
    simp only [allQ, flat_str, flat_nm hn hn', hl]
    by_cases a : w = w'
    · by_cases b : nm = nm'
      · by_cases c : rs = rs'
        · simp [a, b, c]
        · simp [a, b, c]
      · simp [a, b]
    · simp [a]
  rw [qS_tt, h3]
  simp only [p1, p2, Bool.and_self, if_true, Option.map_some, List.length_cons, List.length_nil, BEq.rfl, Bool.and_true]
theorem eq_row {W W' : Nat} : ∀ {n t : Nat} {neg : Bool} {x y : Dt}, 3 * n ≤ t → wfRow W n x → wfRow W' n y → qS E_Z t neg x y = some (decide (x = y))
  | 0, _, _, _, _, _, h, _ => h.elim
  | n + 1, t, neg, x, y, ht, hx, hy => by
    have o1 : okB E_Z.N x = true := ok_row hx
    have o2 : okB E_Z.N y = true := ok_row hy
    obtain ⟨xs, rfl, _, h1⟩ := hx
    obtain ⟨ys, rfl, _, h2⟩ := hy
    obtain ⟨u, rfl⟩ : ∃ u, t = u + 3 := ⟨t - 3, by omega⟩
    have e := allQ_len (q := qItem (qS E_Z (u + 2) false)) (xs := xs) (ys := ys) fun a ha b hb => by
      have := eq_one (t := u) (neg := false) (fun r r' hr hr' => by
        cases n with
        | zero => exact hr.elim
        | succ n =>
          obtain ⟨zs, e, _⟩ := id hr
          rw [e, qItem_l, ← e]
          exact eq_row (by omega) hr hr') (fun r hr => ok_row hr) (fun r hr => ok_row hr) (h1 a ha) (h2 b hb)
      obtain ⟨w, nm, rs, e, _⟩ := one_parts (h1 a ha)
      rw [e, qItem_t, ← e]
      exact this
    rw [qS_ll]
    simp only [o1, o2, Bool.and_self, if_true, e, Dt.lst.injEq]
theorem eqF_l {xs : List Dt} {y : Dt} : eqF (.lst xs) y = none := by unfold eqF; rfl
theorem eqF_t {xs : List Dt} {y : Dt} : eqF (.tup xs) y = none := by unfold eqF; rfl
theorem eqT_row {W W' n t : Nat} {neg : Bool} {x y : Dt} (ht : 3 * n ≤ t) (hx : wfRow W n x) (hy : wfRow W' n y) : qT E_Z t neg x y = some (decide (x = y)) := by
  have h := eq_row (neg := neg) ht hx hy
  cases n with
  | zero => exact hx.elim
  | succ n =>
    obtain ⟨xs, rfl, _⟩ := hx
    simp only [qT, eqF_l]
    exact h
theorem eqT_one {W W' n t : Nat} {neg : Bool} {x y : Dt} (ht : 3 * n + 2 ≤ t) (hx : wfOne (wfRow W n) x) (hy : wfOne (wfRow W' n) y) : qT E_Z t neg x y = some (decide (x = y)) := by
  obtain ⟨u, rfl⟩ : ∃ u, t = u + 2 := ⟨t - 2, by omega⟩
  have h := eq_one (neg := neg) (t := u) (fun r r' hr hr' => by
    cases n with
    | zero => exact hr.elim
    | succ n =>
      obtain ⟨zs, e, _⟩ := id hr
      rw [e, qItem_l, ← e]
      exact eq_row (by omega) hr hr') (fun r hr => ok_row hr) (fun r hr => ok_row hr) hx hy
  obtain ⟨w, nm, rs, e, _⟩ := one_parts hx
  rw [e]
  simp only [qT, eqF_t]
  rw [← e]
  exact h
end K03

namespace K03
open PySem PySem.Spec PyProof.Rows L2 FM
local macro_rules
  | `(tactic| array_get_dec) => `(tactic| (first | with_reducible refine w_seq ?_ | with_reducible refine w_asg ?_ | with_reducible refine w_drop ?_ | with_reducible refine w_ret ?_ | with_reducible refine w_retN ?_ | with_reducible refine w_next ?_ | with_reducible refine w_brk ?_ | with_reducible refine w_cnt ?_ | with_reducible refine w_if ?_ | with_reducible refine w_par ?_ | with_reducible refine w_putD ?_ | with_reducible refine w_setF ?_ | with_reducible refine w_raise ?_ | with_reducible refine w_try ?_ | with_reducible refine w_for ?_ | with_reducible refine w_c ?_ | with_reducible refine w_op ?_ | with_reducible refine w_un ?_ | with_reducible refine w_nil ?_ | with_reducible refine w_cons ?_ | with_reducible refine w_call ?_ | with_reducible refine w_cb ?_ | with_reducible refine w_cl ?_ | with_reducible refine w_clC ?_ | with_reducible refine w_tup ?_ | with_reducible refine w_lst ?_ | with_reducible refine w_lstC ?_ | with_reducible refine w_test ?_ | with_reducible refine w_and ?_ | with_reducible refine w_or ?_ | with_reducible refine w_not ?_ | with_reducible refine w_andV ?_ | with_reducible refine w_orV ?_ | with_reducible refine w_ife ?_ | with_reducible refine w_tru ?_ | with_reducible refine w_chain ?_ | with_reducible refine w_make ?_ | with_reducible refine w_make0 ?_ | with_reducible refine w_meth ?_ | with_reducible refine w_noP ?_ | with_reducible refine w_part ?_ | with_reducible refine w_sl ?_ | with_reducible refine w_slC ?_ | with_reducible refine w_pnil ?_ | with_reducible refine w_pcons ?_ | with_reducible refine w_disp ?_ | with_reducible refine w_dispC ?_ | with_reducible refine w_dnew ?_ | with_reducible refine w_it ?_ | with_reducible refine w_itA ?_ | with_reducible refine w_lc ?_ | with_reducible refine w_lcC ?_ | with_reducible refine w_gnil ?_ | with_reducible refine w_gcons ?_ | with_reducible refine w_setL ?_ | with_reducible refine w_app ?_ | with_reducible refine w_frzL ?_ | with_reducible refine w_B ?_ | with_reducible refine wo_II ?_ | with_reducible refine wo_IB ?_ | with_reducible refine wo_eqI ?_ | with_reducible refine wo_eqS ?_ | with_reducible refine wo_eqB ?_ | with_reducible refine wo_neI ?_ | with_reducible refine wo_neS ?_ | with_reducible refine wo_neB ?_ | with_reducible refine wo_intI ?_ | with_reducible refine wo_intB ?_ | with_reducible refine wo_not ?_ | with_reducible refine wo_lst ?_ | with_reducible refine wo_scr ?_ | with_reducible refine wo_itup ?_ | with_reducible refine wo_zip ?_ | with_reducible refine wo_enum ?_ | with_reducible refine wo_slT ?_ | with_reducible refine w_Xd ?_ | with_reducible refine w_yes ?_ | with_reducible refine w_t1 ?_ | with_reducible refine wo_isN0 ?_ | with_reducible refine wo_isN1 ?_ | with_reducible refine w_pk ?_ | with_reducible refine w_pki ?_ | ((with_reducible refine w_nm ?_); (try simp only [List.set_cons_succ, List.set_cons_zero])) | ((with_reducible apply w_var); (focus rfl)) | ((with_reducible refine w_gtp ?_ ?_); (focus (first | rfl | (simp; done)))) | ((with_reducible apply w_dats); (focus (first | rfl | ((simp only [dats, Option.map_some]); (first | done | rfl))))) | ((with_reducible apply wo_isNf); (focus (first | rfl | assumption | (simp only [lstOf, tupOf, dctOf, seqL, isL, Option.or_none, Option.some_or, Option.none_or, *]; done) | ((simp [lstOf, tupOf, dctOf, seqL, isL, *]); (first | done | rfl))))) | ((with_reducible apply w_rl); (focus (first | rfl | assumption | (simp only [lstOf, tupOf, dctOf, seqL, isL, Option.or_none, Option.some_or, Option.none_or, *]; done) | ((simp [lstOf, tupOf, dctOf, seqL, isL, *]); (first | done | rfl))))) | ((with_reducible apply wo_rev); (focus (first | rfl | assumption | (simp only [lstOf, tupOf, dctOf, seqL, isL, Option.or_none, Option.some_or, Option.none_or, *]; done) | ((simp [lstOf, tupOf, dctOf, seqL, isL, *]); (first | done | rfl))))) | ((with_reducible apply wo_slL); (focus (first | rfl | assumption | (simp only [lstOf, tupOf, dctOf, seqL, isL, Option.or_none, Option.some_or, Option.none_or, *]; done) | ((simp [lstOf, tupOf, dctOf, seqL, isL, *]); (first | done | rfl))))) | ((with_reducible apply wo_nil); (focus (first | rfl | assumption | (simp only [lstOf, tupOf, dctOf, seqL, isL, Option.or_none, Option.some_or, Option.none_or, *]; done) | ((simp [lstOf, tupOf, dctOf, seqL, isL, *]); (first | done | rfl))))) | ((with_reducible apply wo_len); (focus (first | rfl | assumption | (simp only [lstOf, tupOf, dctOf, seqL, isL, Option.or_none, Option.some_or, Option.none_or, *]; done) | ((simp [lstOf, tupOf, dctOf, seqL, isL, *]); (first | done | rfl))))) | ((with_reducible apply wo_tup); (focus (first | rfl | assumption | (simp only [lstOf, tupOf, dctOf, seqL, isL, Option.or_none, Option.some_or, Option.none_or, *]; done) | ((simp [lstOf, tupOf, dctOf, seqL, isL, *]); (first | done | rfl))))) | ((with_reducible apply wo_list); (focus (first | rfl | assumption | (simp only [lstOf, tupOf, dctOf, seqL, isL, Option.or_none, Option.some_or, Option.none_or, *]; done) | ((simp [lstOf, tupOf, dctOf, seqL, isL, *]); (first | done | rfl))))) | (with_reducible refine wo_isN ?_) | (with_reducible refine w_i1 ?_) | (with_reducible refine w_tt ?_) | (with_reducible refine w_ff ?_) | ((with_reducible refine w_sz ?_ ?_); (focus (first | (simp; done) | (simp; omega)))) | ((with_reducible refine w_l15 ?_ ?_); (focus (simp; done))) | fail))
/-! ### the law's dict -/
structure Nms (ks ps ms : List Str) : Prop where
  k0 : 0 < ks.length
  p0 : 0 < ps.length
  m0 : 0 < ms.length
  k1 : ks.length ≤ 8
  p1 : ps.length ≤ 8
  m1 : ms.length ≤ 8
  kg : ∀ z ∈ ks, GName 8 z
  pg : ∀ z ∈ ps, GName 8 z
  mg : ∀ z ∈ ms, GName 8 z
def dmC (ks ps ms : List Str) (s : Int) : Cell := .dct [.inr "keys", .inr "parts", .inr "marks", .inr "still"] [.lst (ks.map .str), .lst (ps.map .str), .lst (ms.map .str), .int s]
def mm (m : Cells) (k j : Nat) (ks ps ms : List Str) (x : Cell) (s : Int) : Cells := (m.set k (some x)).set j (some (dmC ks ps ms s))
section
variable {m : Cells} {k j : Nat} {ks ps ms : List Str} {x x' : Cell} {s s' : Int} {c c' : Option Cell}
theorem mm_len : (mm m k j ks ps ms x s).length = m.length := by simp [mm]
theorem mm_k (h : j ≠ k) : (mm m k j ks ps ms x s).set k (some x') = mm m k j ks ps ms x' s := by
  unfold mm
  rw [List.set_comm _ _ h, List.set_set]
theorem mm_j : (mm m k j ks ps ms x s).set j (some (dmC ks ps ms s')) = mm m k j ks ps ms x s' := by
  unfold mm; rw [List.set_set]
theorem mm_st (h : j ≠ k) (hk : k < m.length) (hx : stX x) : stOk (mm m k j ks ps ms x s) k := by
  refine ⟨x, ?_, hx⟩
  unfold mm
  rw [List.getElem?_set_ne h, List.getElem?_set_self hk]
theorem mm_get (hj : j < m.length) : (mm m k j ks ps ms x s)[j]? = some (some (dmC ks ps ms s)) := by
  unfold mm
  rw [List.getElem?_set_self (by simpa using hj)]
theorem mm_app (hk : k < m.length) (hj : j < m.length) : mm m k j ks ps ms x s ++ [c] = mm (m ++ [c]) k j ks ps ms x s := by
  unfold mm
  rw [List.set_append_left _ _ hk, List.set_append_left _ _ (by simpa using hj)]
theorem mm_last (hk : k < m.length) (hj : j < m.length) : (mm (m ++ [c]) k j ks ps ms x s)[m.length]? = some c := by
  rw [← mm_app hk hj, ← mm_len (m := m) (k := k) (j := j) (ks := ks) (ps := ps) (ms := ms) (x := x) (s := s), get_last]
theorem mm_setl (hk : k < m.length) (hj : j < m.length) : (mm (m ++ [c]) k j ks ps ms x s).set m.length c' = mm (m ++ [c']) k j ks ps ms x s := by
  rw [← mm_app hk hj, ← mm_app hk hj, ← mm_len (m := m) (k := k) (j := j) (ks := ks) (ps := ps) (ms := ms) (x := x) (s := s), set_last]
theorem mm_take (hk : k < m.length) (hj : j < m.length) : (mm (m ++ [c]) k j ks ps ms x s).take m.length = mm m k j ks ps ms x s := by
  rw [← mm_app hk hj]
  simp [mm_len]
theorem mm_all : (mm m k j ks ps ms x s).take m.length = mm m k j ks ps ms x s := List.take_of_length_le (by rw [mm_len]; exact Nat.le_refl _)
theorem mm_id {y : Cell} (h : m[k]? = some (some y)) (h2 : m[j]? = some (some (dmC ks ps ms s))) : mm m k j ks ps ms y s = m := by
  obtain ⟨h1, e1⟩ := List.getElem?_eq_some_iff.mp h
  obtain ⟨h3, e2⟩ := List.getElem?_eq_some_iff.mp h2
  unfold mm
  rw [← e1, List.set_getElem_self, ← e2, List.set_getElem_self]
theorem get_keys : dGet [.inr "keys", .inr "parts", .inr "marks", .inr "still"] [.lst (ks.map .str), .lst (ps.map .str), .lst (ms.map .str), .int s] (.inr "keys") = some (.lst (ks.map .str)) := by simp [dGet]
theorem n1 : ¬ (("keys" : Str) = "parts") := by decide +kernel
theorem n2 : ¬ (("keys" : Str) = "marks") := by decide +kernel
theorem n3 : ¬ (("keys" : Str) = "still") := by decide +kernel
theorem n4 : ¬ (("parts" : Str) = "marks") := by decide +kernel
theorem n5 : ¬ (("parts" : Str) = "still") := by decide +kernel
theorem n6 : ¬ (("marks" : Str) = "still") := by decide +kernel
theorem get_parts : dGet [.inr "keys", .inr "parts", .inr "marks", .inr "still"] [.lst (ks.map .str), .lst (ps.map .str), .lst (ms.map .str), .int s] (.inr "parts") = some (.lst (ps.map .str)) := by simp [dGet, n1]
theorem get_marks : dGet [.inr "keys", .inr "parts", .inr "marks", .inr "still"] [.lst (ks.map .str), .lst (ps.map .str), .lst (ms.map .str), .int s] (.inr "marks") = some (.lst (ms.map .str)) := by simp [dGet, n2, n4]
theorem get_still : dGet [.inr "keys", .inr "parts", .inr "marks", .inr "still"] [.lst (ks.map .str), .lst (ps.map .str), .lst (ms.map .str), .int s] (.inr "still") = some (.int s) := by simp [dGet, n3, n5, n6]
theorem dct_mm (hj : j < m.length) : dctOf (mm m k j ks ps ms x s) (.ref j) = some ([.inr "keys", .inr "parts", .inr "marks", .inr "still"], [.lst (ks.map .str), .lst (ps.map .str), .lst (ms.map .str), .int s]) := by
  simp [dctOf, mm_get hj, dmC]
variable {Q : Vl → Prop}
theorem o_keys (hj : j < m.length) (q : Q (.d (.lst (ks.map .str)))) : wO (oDGet (mm m k j ks ps ms x s) (.ref j) (.d (.str "keys"))) Q := wo_dget (dct_mm hj) rfl get_keys q
theorem o_parts (hj : j < m.length) (q : Q (.d (.lst (ps.map .str)))) : wO (oDGet (mm m k j ks ps ms x s) (.ref j) (.d (.str "parts"))) Q := wo_dget (dct_mm hj) rfl get_parts q
theorem o_marks (hj : j < m.length) (q : Q (.d (.lst (ms.map .str)))) : wO (oDGet (mm m k j ks ps ms x s) (.ref j) (.d (.str "marks"))) Q := wo_dget (dct_mm hj) rfl get_marks q
theorem o_still (hj : j < m.length) (q : Q (.d (.int s))) : wO (oDGet (mm m k j ks ps ms x s) (.ref j) (.d (.str "still"))) Q := wo_dget (dct_mm hj) rfl get_still q
theorem put_still {pN pB pC : PN} {pR : PR} {pX : PX} {g : Gam} (hj : j < m.length) (q : pN g (mm m k j ks ps ms x s')) : wS (putD (.ref j) (.d (.str "still")) (.d (.int s')) g (mm m k j ks ps ms x s)) pN pR pB pC pX := by
  refine w_putDn (key := .inr "still") (mm_get hj) rfl (by simp) ?_
  have e : (Cell.dct (dPutK [.inr "keys", .inr "parts", .inr "marks", .inr "still"] (.inr "still")) (dPutV [.inr "keys", .inr "parts", .inr "marks", .inr "still"] [.lst (ks.map .str), .lst (ps.map .str), .lst (ms.map .str), .int s] (.inr "still") (.int s'))) = dmC ks ps ms s' := by
    simp [dPutK, dPutV, hasK, dRepl, dmC, n3, n5, n6]
  rw [e, mm_j]
  exact q
theorem digit_m {Q : Vl → Cells → Prop} {E : EX} {n : Int} (h : j ≠ k) (hk : k < m.length) (hx : stX x) (hn : 0 < n) (hn2 : n < 1073741824) (q : ∀ r x', 0 ≤ r → r < n → stX x' → Q (.d (.int r)) (mm m k j ks ps ms x' s)) : wR (FDigit [.ref k, .d (.int n)] (mm m k j ks ps ms x s)) Q E :=
  digit_w (mm_st h hk hx) hn hn2 fun r x' h0 h1 h2 => by rw [mm_k h]; exact q r x' h0 h1 h2
theorem pick_w {ys : List Str} {i : Int} (h0 : 0 ≤ i) (h1 : i < ((ys.map Dt.str).length : Nat)) {m : Cells} (hg : ∀ z ∈ ys, GName 8 z) (q : ∀ z, GName 8 z → Q (.d (.str z))) : wO (oIxL m (.d (.lst (ys.map .str))) (.d (.int i))) Q := by
  obtain ⟨d, e, hd⟩ := at_lt (xs := ys.map Dt.str) h0 h1
  obtain ⟨z, hz, rfl⟩ := List.mem_map.mp hd
  exact wo_ixL rfl e (q z (hg z hz))
end
/-- a statement is drawn -/
def RowP (ks ps ms : List Str) (n : Nat) : Prop := ∀ (m : Cells) (k j : Nat) (x : Cell) (s : Int) (d : Nat) (Q : Vl → Cells → Prop) (E : EX), j ≠ k → k < m.length → j < m.length → stX x → d < n →
  (∀ row x' s', wfRow 3 (d + 1) row → stX x' → Q (.d row) (mm m k j ks ps ms x' s')) → wR (rowN n [.ref k, .ref j, .d (.int (d : Nat))] (mm m k j ks ps ms x s)) Q E
theorem statement_w {ks ps ms : List Str} (N : Nms ks ps ms) {n : Nat} (ih : RowP ks ps ms n) {m : Cells} {k j : Nat} {x : Cell} {s : Int} {d : Nat} {Q : Vl → Cells → Prop} {E : EX} (h : j ≠ k) (hk : k < m.length) (hj : j < m.length) (hx : stX x) (hd : d ≤ n)
    (q : ∀ one x' s', wfOne (wfRow 3 d) one → stX x' → Q (.d one) (mm m k j ks ps ms x' s')) : wR (FStatement (rowN n) [.ref k, .ref j, .d (.int (d : Nat))] (mm m k j ks ps ms x s)) Q E := by
  ((show wR (runFn 3 4 (mStatement (rowN n)) _ _) _ _); (refine w_run (g := [_, _, _, none]) (by rfl) rfl ?_); (unfold mStatement))
  (repeat' array_get_dec)
  refine o_still hj ?_
  (repeat' array_get_dec)
  refine put_still hj ?_
  (repeat' array_get_dec)
  refine digit_m h hk hx (by decide) (by decide) fun r x1 h0 h1 hx1 => ?_
  (repeat' array_get_dec)
  refine w_d (fun h5 => ?_) (fun h5 => ?_)
  · (repeat' array_get_dec)
    refine w_d (fun hd0 => ?_) (fun hd0 => ?_)
    · (repeat' array_get_dec)
      refine o_keys hj ?_
      (repeat' array_get_dec)
      refine o_keys hj ?_
      (repeat' array_get_dec)
      refine digit_m h hk hx1 (by have := N.k0; simp; omega) (by have := N.k1; simp; omega) fun i x2 i0 i1 hx2 => ?_
      (repeat' array_get_dec)
      refine pick_w i0 i1 N.kg fun z gz => ?_
      (repeat' array_get_dec)
      obtain ⟨d', rfl⟩ : ∃ d', d = d' + 1 := ⟨d - 1, by omega⟩
      rw [show ((d' + 1 : Nat) : Int) - 1 = (d' : Nat) from by omega]
      refine ih m k j _ _ d' _ _ h hk hj hx2 (by omega) fun row x3 s3 w3 hx3 => ?_
      (repeat' array_get_dec)
      rw [mm_len, mm_all]
      exact q _ _ _ (.inl ⟨z, row, rfl, gz, w3⟩) hx3
    ((repeat' array_get_dec)
     refine w_d (fun h8 => ?_) (fun h8 => ?_)
     · (repeat' array_get_dec)
       refine o_marks hj ?_
       (repeat' array_get_dec)
       refine o_marks hj ?_
       (repeat' array_get_dec)
       refine digit_m h hk hx1 (by have := N.m0; simp; omega) (by have := N.m1; simp; omega) fun i x2 i0 i1 hx2 => ?_
       (repeat' array_get_dec)
       refine pick_w i0 i1 N.mg fun z gz => ?_
       (repeat' array_get_dec)
       rw [mm_len, mm_all]
       exact q _ _ _ (.inr (.inl ⟨z, rfl, gz⟩)) hx2
     (repeat' array_get_dec)
     refine w_d (fun h10 => ?_) (fun h10 => ?_)
     · (repeat' array_get_dec)
       refine o_parts hj ?_
       (repeat' array_get_dec)
       refine o_parts hj ?_
       (repeat' array_get_dec)
       refine digit_m h hk hx1 (by have := N.p0; simp; omega) (by have := N.p1; simp; omega) fun i x2 i0 i1 hx2 => ?_
       (repeat' array_get_dec)
       refine pick_w i0 i1 N.pg fun z gz => ?_
       (repeat' array_get_dec)
       rw [mm_len, mm_all]
       exact q _ _ _ (.inr (.inr (.inl ⟨z, rfl, gz⟩))) hx2
     (repeat' array_get_dec)
     refine w_d (fun h11 => ?_) (fun h11 => ?_)
     · (repeat' array_get_dec)
       rw [mm_len, mm_all]
       exact q _ _ _ (.inr (.inr (.inr (.inl rfl)))) hx1
     (repeat' array_get_dec)
     refine w_d (fun hz => ?_) (fun hz => ?_)
     · (repeat' array_get_dec)
       rw [mm_len, mm_all]
       exact q _ _ _ (.inr (.inr (.inr (.inl rfl)))) hx1
     (repeat' array_get_dec)
     obtain ⟨d', rfl⟩ : ∃ d', d = d' + 1 := ⟨d - 1, by omega⟩
     have ed : ((d' + 1 : Nat) : Int) - 1 = (d' : Nat) := by omega
     refine w_d (fun h13 => ?_) (fun h13 => ?_)
     · (repeat' array_get_dec)
       rw [ed]
       refine ih m k j _ _ d' _ _ h hk hj hx1 (by omega) fun row x3 s3 w3 hx3 => ?_
       (repeat' array_get_dec)
       rw [ed]
       refine ih m k j _ _ d' _ _ h hk hj hx3 (by omega) fun row2 x4 s4 w4 hx4 => ?_
       (repeat' array_get_dec)
       rw [mm_len, mm_all]
       exact q _ _ _ (.inr (.inr (.inr (.inr (.inl ⟨row, row2, rfl, w3, w4⟩))))) hx4
     (repeat' array_get_dec)
     rw [ed]
     refine ih m k j _ _ d' _ _ h hk hj hx1 (by omega) fun row x3 s3 w3 hx3 => ?_
     (repeat' array_get_dec)
     rw [mm_len, mm_all]
     exact q _ _ _ (.inr (.inr (.inr (.inr (.inr ⟨row, rfl, w3⟩))))) hx3)
  · ((repeat' array_get_dec)
     refine w_d (fun h8 => ?_) (fun h8 => ?_)
     · (repeat' array_get_dec)
       refine o_marks hj ?_
       (repeat' array_get_dec)
       refine o_marks hj ?_
       (repeat' array_get_dec)
       refine digit_m h hk hx1 (by have := N.m0; simp; omega) (by have := N.m1; simp; omega) fun i x2 i0 i1 hx2 => ?_
       (repeat' array_get_dec)
       refine pick_w i0 i1 N.mg fun z gz => ?_
       (repeat' array_get_dec)
       rw [mm_len, mm_all]
       exact q _ _ _ (.inr (.inl ⟨z, rfl, gz⟩)) hx2
     (repeat' array_get_dec)
     refine w_d (fun h10 => ?_) (fun h10 => ?_)
     · (repeat' array_get_dec)
       refine o_parts hj ?_
       (repeat' array_get_dec)
       refine o_parts hj ?_
       (repeat' array_get_dec)
       refine digit_m h hk hx1 (by have := N.p0; simp; omega) (by have := N.p1; simp; omega) fun i x2 i0 i1 hx2 => ?_
       (repeat' array_get_dec)
       refine pick_w i0 i1 N.pg fun z gz => ?_
       (repeat' array_get_dec)
       rw [mm_len, mm_all]
       exact q _ _ _ (.inr (.inr (.inl ⟨z, rfl, gz⟩))) hx2
     (repeat' array_get_dec)
     refine w_d (fun h11 => ?_) (fun h11 => ?_)
     · (repeat' array_get_dec)
       rw [mm_len, mm_all]
       exact q _ _ _ (.inr (.inr (.inr (.inl rfl)))) hx1
     (repeat' array_get_dec)
     refine w_d (fun hz => ?_) (fun hz => ?_)
     · (repeat' array_get_dec)
       rw [mm_len, mm_all]
       exact q _ _ _ (.inr (.inr (.inr (.inl rfl)))) hx1
     (repeat' array_get_dec)
     obtain ⟨d', rfl⟩ : ∃ d', d = d' + 1 := ⟨d - 1, by omega⟩
     have ed : ((d' + 1 : Nat) : Int) - 1 = (d' : Nat) := by omega
     refine w_d (fun h13 => ?_) (fun h13 => ?_)
     · (repeat' array_get_dec)
       rw [ed]
       refine ih m k j _ _ d' _ _ h hk hj hx1 (by omega) fun row x3 s3 w3 hx3 => ?_
       (repeat' array_get_dec)
       rw [ed]
       refine ih m k j _ _ d' _ _ h hk hj hx3 (by omega) fun row2 x4 s4 w4 hx4 => ?_
       (repeat' array_get_dec)
       rw [mm_len, mm_all]
       exact q _ _ _ (.inr (.inr (.inr (.inr (.inl ⟨row, row2, rfl, w3, w4⟩))))) hx4
     (repeat' array_get_dec)
     rw [ed]
     refine ih m k j _ _ d' _ _ h hk hj hx1 (by omega) fun row x3 s3 w3 hx3 => ?_
     (repeat' array_get_dec)
     rw [mm_len, mm_all]
     exact q _ _ _ (.inr (.inr (.inr (.inr (.inr ⟨row, rfl, w3⟩))))) hx3)
end K03

namespace K03
open PySem PySem.Spec PyProof.Rows L2 FM
local macro_rules
  | `(tactic| array_get_dec) => `(tactic| (first | with_reducible refine w_seq ?_ | with_reducible refine w_asg ?_ | with_reducible refine w_drop ?_ | with_reducible refine w_ret ?_ | with_reducible refine w_retN ?_ | with_reducible refine w_next ?_ | with_reducible refine w_brk ?_ | with_reducible refine w_cnt ?_ | with_reducible refine w_if ?_ | with_reducible refine w_par ?_ | with_reducible refine w_putD ?_ | with_reducible refine w_setF ?_ | with_reducible refine w_raise ?_ | with_reducible refine w_try ?_ | with_reducible refine w_for ?_ | with_reducible refine w_c ?_ | with_reducible refine w_op ?_ | with_reducible refine w_un ?_ | with_reducible refine w_nil ?_ | with_reducible refine w_cons ?_ | with_reducible refine w_call ?_ | with_reducible refine w_cb ?_ | with_reducible refine w_cl ?_ | with_reducible refine w_clC ?_ | with_reducible refine w_tup ?_ | with_reducible refine w_lst ?_ | with_reducible refine w_lstC ?_ | with_reducible refine w_test ?_ | with_reducible refine w_and ?_ | with_reducible refine w_or ?_ | with_reducible refine w_not ?_ | with_reducible refine w_andV ?_ | with_reducible refine w_orV ?_ | with_reducible refine w_ife ?_ | with_reducible refine w_tru ?_ | with_reducible refine w_chain ?_ | with_reducible refine w_make ?_ | with_reducible refine w_make0 ?_ | with_reducible refine w_meth ?_ | with_reducible refine w_noP ?_ | with_reducible refine w_part ?_ | with_reducible refine w_sl ?_ | with_reducible refine w_slC ?_ | with_reducible refine w_pnil ?_ | with_reducible refine w_pcons ?_ | with_reducible refine w_disp ?_ | with_reducible refine w_dispC ?_ | with_reducible refine w_dnew ?_ | with_reducible refine w_it ?_ | with_reducible refine w_itA ?_ | with_reducible refine w_lc ?_ | with_reducible refine w_lcC ?_ | with_reducible refine w_gnil ?_ | with_reducible refine w_gcons ?_ | with_reducible refine w_setL ?_ | with_reducible refine w_app ?_ | with_reducible refine w_frzL ?_ | with_reducible refine w_B ?_ | with_reducible refine wo_II ?_ | with_reducible refine wo_IB ?_ | with_reducible refine wo_eqI ?_ | with_reducible refine wo_eqS ?_ | with_reducible refine wo_eqB ?_ | with_reducible refine wo_neI ?_ | with_reducible refine wo_neS ?_ | with_reducible refine wo_neB ?_ | with_reducible refine wo_intI ?_ | with_reducible refine wo_intB ?_ | with_reducible refine wo_not ?_ | with_reducible refine wo_lst ?_ | with_reducible refine wo_scr ?_ | with_reducible refine wo_itup ?_ | with_reducible refine wo_zip ?_ | with_reducible refine wo_enum ?_ | with_reducible refine wo_slT ?_ | with_reducible refine w_Xd ?_ | with_reducible refine w_yes ?_ | with_reducible refine w_t1 ?_ | with_reducible refine wo_isN0 ?_ | with_reducible refine wo_isN1 ?_ | with_reducible refine w_pk ?_ | with_reducible refine w_pki ?_ | ((with_reducible refine w_nm ?_); (try simp only [List.set_cons_succ, List.set_cons_zero])) | ((with_reducible apply w_var); (focus rfl)) | ((with_reducible refine w_gtp ?_ ?_); (focus (first | rfl | (simp; done)))) | ((with_reducible apply w_dats); (focus (first | rfl | ((simp only [dats, Option.map_some]); (first | done | rfl))))) | ((with_reducible apply wo_isNf); (focus (first | rfl | assumption | (simp only [lstOf, tupOf, dctOf, seqL, isL, Option.or_none, Option.some_or, Option.none_or, *]; done) | ((simp [lstOf, tupOf, dctOf, seqL, isL, *]); (first | done | rfl))))) | ((with_reducible apply w_rl); (focus (first | rfl | assumption | (simp only [lstOf, tupOf, dctOf, seqL, isL, Option.or_none, Option.some_or, Option.none_or, *]; done) | ((simp [lstOf, tupOf, dctOf, seqL, isL, *]); (first | done | rfl))))) | ((with_reducible apply wo_rev); (focus (first | rfl | assumption | (simp only [lstOf, tupOf, dctOf, seqL, isL, Option.or_none, Option.some_or, Option.none_or, *]; done) | ((simp [lstOf, tupOf, dctOf, seqL, isL, *]); (first | done | rfl))))) | ((with_reducible apply wo_slL); (focus (first | rfl | assumption | (simp only [lstOf, tupOf, dctOf, seqL, isL, Option.or_none, Option.some_or, Option.none_or, *]; done) | ((simp [lstOf, tupOf, dctOf, seqL, isL, *]); (first | done | rfl))))) | ((with_reducible apply wo_nil); (focus (first | rfl | assumption | (simp only [lstOf, tupOf, dctOf, seqL, isL, Option.or_none, Option.some_or, Option.none_or, *]; done) | ((simp [lstOf, tupOf, dctOf, seqL, isL, *]); (first | done | rfl))))) | ((with_reducible apply wo_len); (focus (first | rfl | assumption | (simp only [lstOf, tupOf, dctOf, seqL, isL, Option.or_none, Option.some_or, Option.none_or, *]; done) | ((simp [lstOf, tupOf, dctOf, seqL, isL, *]); (first | done | rfl))))) | ((with_reducible apply wo_tup); (focus (first | rfl | assumption | (simp only [lstOf, tupOf, dctOf, seqL, isL, Option.or_none, Option.some_or, Option.none_or, *]; done) | ((simp [lstOf, tupOf, dctOf, seqL, isL, *]); (first | done | rfl))))) | ((with_reducible apply wo_list); (focus (first | rfl | assumption | (simp only [lstOf, tupOf, dctOf, seqL, isL, Option.or_none, Option.some_or, Option.none_or, *]; done) | ((simp [lstOf, tupOf, dctOf, seqL, isL, *]); (first | done | rfl))))) | (with_reducible refine wo_isN ?_) | (with_reducible refine w_i1 ?_) | (with_reducible refine w_tt ?_) | (with_reducible refine w_ff ?_) | ((with_reducible refine w_sz ?_ ?_); (focus (first | (simp; done) | (simp; omega)))) | ((with_reducible refine w_l15 ?_ ?_); (focus (simp; done))) | fail))
theorem five {i : Int} (h0 : 0 ≤ i) (h1 : i < 5) : ∃ n : Nat, n ≤ 3 ∧ atI ([.int 1, .int 2, .int 3, .int 2, .int 0] : List Dt) i = some (.int (n : Nat)) := by
  have : i = 0 ∨ i = 1 ∨ i = 2 ∨ i = 3 ∨ i = 4 := by omega
  rcases this with rfl | rfl | rfl | rfl | rfl
  · exact ⟨1, by omega, rfl⟩
  · exact ⟨2, by omega, rfl⟩
  · exact ⟨3, by omega, rfl⟩
  · exact ⟨2, by omega, rfl⟩
  · exact ⟨0, by omega, rfl⟩
theorem row_w {ks ps ms : List Str} (N : Nms ks ps ms) : ∀ n, RowP ks ps ms n
  | 0 => fun m k j x s d Q E h hk hj hx hd q => by omega
  | n + 1 => fun m k j x s d Q E h hk hj hx hd q => by
    have ih := row_w N n
    show wR (FRow (FStatement (rowN n)) _ _) _ _
    ((show wR (runFn 3 5 (mRow (FStatement (rowN n))) _ _) _ _); (refine w_run (g := [_, _, _, none, none]) (by rfl) rfl ?_); (unfold mRow))
    (repeat' array_get_dec)
    rw [mm_len, mm_app hk hj]
    have hk' : k < (m ++ [some (Cell.lst [])]).length := by simp; omega
    refine digit_m h hk' hx (by decide) (by decide) fun r x1 h0 h1 hx1 => ?_
    (repeat' array_get_dec)
    obtain ⟨w, hw, ew⟩ := five h0 h1
    refine wo_ixL rfl ew ?_
    (repeat' array_get_dec)
    refine wo_rng1 ⟨by omega, by omega⟩ ?_
    refine w_loop (fun r g m' => ∃ (ss : List Dt) (x : Cell) (s : Int) (x4 : Option Vl), ss.length + r.length ≤ 3 ∧ (∀ o ∈ ss, wfOne (wfRow 3 d) o) ∧ stX x ∧ g = [some (.ref k), some (.ref j), some (.d (.int (d : Nat))), some (.ref m.length), x4] ∧ m' = mm (m ++ [some (.lst ss)]) k j ks ps ms x s) ?_ ?_ _ _ _ ?_
    · rintro y r g m' ⟨ss, x, s, x4, a1, a2, a3, rfl, rfl⟩
      rw [List.length_cons] at a1
      have hk' : k < (m ++ [some (Cell.lst ss)]).length := by simp; omega
      have hj' : j < (m ++ [some (Cell.lst ss)]).length := by simp; omega
      (repeat' array_get_dec)
      refine o_still hj' ?_
      (repeat' array_get_dec)
      refine w_d (fun h5 => ?_) (fun h5 => ?_)
      · (repeat' array_get_dec)
        refine w_rl (mm_last hk hj) ?_
        (repeat' array_get_dec)
        refine statement_w N ih h hk' hj' a3 (by omega) fun one x' s' w' hx' => ?_
        (repeat' array_get_dec)
        refine w_ad (mm_last hk hj) (by omega) ?_
        rw [mm_setl hk hj]
        refine ⟨ss ++ [one], x', s', _, by simp; omega, ?_, hx', rfl, rfl⟩
        intro o ho
        rcases List.mem_append.mp ho with ho | ho
        · exact a2 o ho
        · rw [List.mem_singleton.mp ho]; exact w'
      · (repeat' array_get_dec)
        exact ⟨ss, x, s, _, by omega, a2, a3, rfl, rfl⟩
    · rintro g m' ⟨ss, x, s, x4, a1, a2, a3, rfl, rfl⟩
      (repeat' array_get_dec)
      refine w_rl (mm_last hk hj) ?_
      (repeat' array_get_dec)
      rw [mm_setl hk hj, mm_take hk hj]
      exact q _ _ _ ⟨ss, rfl, by simpa using a1, a2⟩ a3
    · exact ⟨[], x1, s, none, by simp [rng_len]; omega, (fun o ho => by cases ho), hx1, rfl, rfl⟩
/-! ### the bodies are made -/
theorem make_w {c n : Nat} {f : Fn} {fs : List Dt} {m : Cells} {xs : List Vl} {Q : Vl → Cells → Prop} {E : EX} (h : f (.ref m.length :: xs) (m ++ [some (.ins c [])]) = .ok (.d .non) (m ++ [some (.ins c fs)])) (hn : fs.length = n) (q : Q (.d (.ins c fs)) m) :
    wR (f (.ref m.length :: xs) (m ++ [some (.ins c [])])) (fun v m2 => v = .d .non ∧ ∃ fs, isI c m2[m.length]? = some fs ∧ fs.length = n ∧ Q (.d (.ins c fs)) (m2.take m.length)) E :=
  wR_eq h ⟨rfl, fs, by simp [isI], hn, by simpa using q⟩
theorem good_len {z : Str} (h : GName 8 z) : z.length ≤ 1000 := by have := h.ln; omega
section
variable {m : Cells} {Q : Vl → Cells → Prop} {E : EX}
theorem hold_w {z : Str} {b : Dt} (g : GName 8 z) (q : Q (.d (.ins 2 [.str z, b])) m) : wR (FHoldI [.ref m.length, .d (.str z), .d b] (m ++ [some (.ins 2 [])])) (fun v m2 => v = .d .non ∧ ∃ fs, isI 2 m2[m.length]? = some fs ∧ fs.length = 2 ∧ Q (.d (.ins 2 fs)) (m2.take m.length)) E :=
  make_w (by rw [mk_hold (good_len g), if_pos (isN_good g)]) rfl q
theorem call_w {z : Str} (g : GName 8 z) (q : Q (.d (.ins 5 [.str z])) m) : wR (FCallI [.ref m.length, .d (.str z)] (m ++ [some (.ins 5 [])])) (fun v m2 => v = .d .non ∧ ∃ fs, isI 5 m2[m.length]? = some fs ∧ fs.length = 1 ∧ Q (.d (.ins 5 fs)) (m2.take m.length)) E :=
  make_w (by rw [mk_call (good_len g), if_pos (isN_good g)]) rfl q
theorem mark_w {z : Str} (g : GName 8 z) (q : Q (.d (.ins 6 [.str z])) m) : wR (FMarkI [.ref m.length, .d (.str z)] (m ++ [some (.ins 6 [])])) (fun v m2 => v = .d .non ∧ ∃ fs, isI 6 m2[m.length]? = some fs ∧ fs.length = 1 ∧ Q (.d (.ins 6 fs)) (m2.take m.length)) E :=
  make_w (by rw [mk_mark (good_len g), if_pos (isN_good g)]) rfl q
theorem either_w {b b' : Dt} (q : Q (.d (.ins 3 [b, b'])) m) : wR (FEitherI [.ref m.length, .d b, .d b'] (m ++ [some (.ins 3 [])])) (fun v m2 => v = .d .non ∧ ∃ fs, isI 3 m2[m.length]? = some fs ∧ fs.length = 2 ∧ Q (.d (.ins 3 fs)) (m2.take m.length)) E := make_w mk_either rfl q
theorem rounds_w {b : Dt} (q : Q (.d (.ins 4 [b])) m) : wR (FRoundsI [.ref m.length, .d b] (m ++ [some (.ins 4 [])])) (fun v m2 => v = .d .non ∧ ∃ fs, isI 4 m2[m.length]? = some fs ∧ fs.length = 1 ∧ Q (.d (.ins 4 fs)) (m2.take m.length)) E := make_w mk_rounds rfl q
theorem body_w {ss : List Dt} (q : Q (.d (.ins 8 [.tup ss])) m) : wR (FBodyI [.ref m.length, .d (.lst ss)] (m ++ [some (.ins 8 [])])) (fun v m2 => v = .d .non ∧ ∃ fs, isI 8 m2[m.length]? = some fs ∧ fs.length = 1 ∧ Q (.d (.ins 8 fs)) (m2.take m.length)) E := make_w (mk_body rfl) rfl q
end
theorem ne_he : ¬ (("hold" : Str) = "either") := by decide +kernel
theorem e_h : ∀ w ∈ (["hold", "either", "rounds", "call", "mark", "stop"] : List Str), ∀ v ∈ (["hold", "either", "rounds", "call", "mark", "stop"] : List Str), True := fun _ _ _ _ => trivial
def BodyP (W n k : Nat) : Prop := ∀ (m : Cells) (x : Dt) (Q : Vl → Cells → Prop) (E : EX), wfRow W n x → Q (.d (toB k x)) m → wR (bodyN k [.d x] m) Q E
theorem one_w {W n k : Nat} (ih : BodyP W n k) {m : Cells} {x : Dt} {Q : Vl → Cells → Prop} {E : EX} (h : wfOne (wfRow W n) x) (q : Q (.d (toS (toB k) x)) m) : wR (FOne (bodyN k) [.d x] m) Q E := by
  rcases h with ⟨z, r, rfl, g, hr⟩ | ⟨z, rfl, g⟩ | ⟨z, rfl, g⟩ | rfl | ⟨r, r2, rfl, hr, hr2⟩ | ⟨r, rfl, hr⟩
  all_goals ((show wR (runFn 1 6 (mOne (bodyN k)) _ _) _ _); (refine w_run (g := [_, none, none, none, none, none]) (by rfl) rfl ?_); (unfold mOne))
  all_goals (repeat' array_get_dec)
  · refine w_lcMap (toB k) (fun r hr' => ?_) (by simp) ?_
    · rw [List.mem_singleton.mp hr']; (repeat' array_get_dec); exact ih _ _ _ _ hr ⟨rfl, rfl⟩
    (repeat' array_get_dec)
    refine w_dt rfl ?_
    (repeat' array_get_dec)
    refine wo_ixL rfl rfl ?_
    (repeat' array_get_dec)
    refine hold_w g ?_
    (repeat' array_get_dec)
    rw [List.take_length]; exact q
  · refine w_lcMap (toB k) (fun r hr' => by simp at hr') (by simp) ?_
    (repeat' array_get_dec)
    refine w_df (by decide +kernel) ?_
    (repeat' array_get_dec)
    refine w_df (by decide +kernel) ?_
    (repeat' array_get_dec)
    refine w_df (by decide +kernel) ?_
    (repeat' array_get_dec)
    refine w_df (by decide +kernel) ?_
    (repeat' array_get_dec)
    refine w_dt rfl ?_
    (repeat' array_get_dec)
    refine mark_w g ?_
    (repeat' array_get_dec)
    rw [List.take_length]; rw [toS_m] at q; exact q
  · refine w_lcMap (toB k) (fun r hr' => by simp at hr') (by simp) ?_
    (repeat' array_get_dec)
    refine w_df (by decide +kernel) ?_
    (repeat' array_get_dec)
    refine w_df (by decide +kernel) ?_
    (repeat' array_get_dec)
    refine w_df (by decide +kernel) ?_
    (repeat' array_get_dec)
    refine w_dt rfl ?_
    (repeat' array_get_dec)
    refine call_w g ?_
    (repeat' array_get_dec)
    rw [List.take_length]; rw [toS_c] at q; exact q
  · refine w_lcMap (toB k) (fun r hr' => by simp at hr') (by simp) ?_
    (repeat' array_get_dec)
    refine w_df (by decide +kernel) ?_
    (repeat' array_get_dec)
    refine w_df (by decide +kernel) ?_
    (repeat' array_get_dec)
    refine w_df (by decide +kernel) ?_
    (repeat' array_get_dec)
    refine w_df (by decide +kernel) ?_
    (repeat' array_get_dec)
    refine w_df (by decide +kernel) ?_
    (repeat' array_get_dec)
    rw [List.take_length]; exact q
  · refine w_lcMap (toB k) (fun r' hr' => ?_) (by simp) ?_
    · have e : r' = r ∨ r' = r2 := by simpa using hr'
      (repeat' array_get_dec)
      rcases e with rfl | rfl
      · exact ih _ _ _ _ hr ⟨rfl, rfl⟩
      · exact ih _ _ _ _ hr2 ⟨rfl, rfl⟩
    (repeat' array_get_dec)
    refine w_df (by decide +kernel) ?_
    (repeat' array_get_dec)
    refine w_dt rfl ?_
    (repeat' array_get_dec)
    refine wo_ixL rfl rfl ?_
    (repeat' array_get_dec)
    refine wo_ixL rfl rfl ?_
    (repeat' array_get_dec)
    refine either_w ?_
    (repeat' array_get_dec)
    rw [List.take_length]; exact q
  · refine w_lcMap (toB k) (fun r hr' => ?_) (by simp) ?_
    · rw [List.mem_singleton.mp hr']; (repeat' array_get_dec); exact ih _ _ _ _ hr ⟨rfl, rfl⟩
    (repeat' array_get_dec)
    refine w_df (by decide +kernel) ?_
    (repeat' array_get_dec)
    refine w_df (by decide +kernel) ?_
    (repeat' array_get_dec)
    refine w_dt rfl ?_
    (repeat' array_get_dec)
    refine wo_ixL rfl rfl ?_
    (repeat' array_get_dec)
    refine rounds_w ?_
    (repeat' array_get_dec)
    rw [List.take_length]; exact q
theorem bodyN_w {W : Nat} (hW : W ≤ 1000) : ∀ {n k : Nat}, n ≤ k → BodyP W n k
  | 0, _, _ => fun m x Q E h q => h.elim
  | n + 1, 0, hk => by omega
  | n + 1, k + 1, hk => fun m x Q E h q => by
    have ih := bodyN_w hW (n := n) (k := k) (by omega)
    obtain ⟨ss, rfl, hl, hs⟩ := h
    show wR (FLBody (FOne (bodyN k)) _ _) _ _
    ((show wR (runFn 1 2 (mLBody (FOne (bodyN k))) _ _) _ _); (refine w_run (g := [_, none]) (by rfl) rfl ?_); (unfold mLBody))
    (repeat' array_get_dec)
    refine w_lcMap (toS (toB k)) (fun s hs' => ?_) (by omega) ?_
    · (repeat' array_get_dec)
      exact one_w ih (hs s hs') ⟨rfl, rfl⟩
    (repeat' array_get_dec)
    refine body_w ?_
    (repeat' array_get_dec)
    rw [List.take_length]; exact q
end K03

namespace K03
open PySem PySem.Spec PyProof.Rows L2 FM
local macro_rules
  | `(tactic| array_get_dec) => `(tactic| (first | with_reducible refine w_seq ?_ | with_reducible refine w_asg ?_ | with_reducible refine w_drop ?_ | with_reducible refine w_ret ?_ | with_reducible refine w_retN ?_ | with_reducible refine w_next ?_ | with_reducible refine w_brk ?_ | with_reducible refine w_cnt ?_ | with_reducible refine w_if ?_ | with_reducible refine w_par ?_ | with_reducible refine w_putD ?_ | with_reducible refine w_setF ?_ | with_reducible refine w_raise ?_ | with_reducible refine w_try ?_ | with_reducible refine w_for ?_ | with_reducible refine w_c ?_ | with_reducible refine w_op ?_ | with_reducible refine w_un ?_ | with_reducible refine w_nil ?_ | with_reducible refine w_cons ?_ | with_reducible refine w_call ?_ | with_reducible refine w_cb ?_ | with_reducible refine w_cl ?_ | with_reducible refine w_clC ?_ | with_reducible refine w_tup ?_ | with_reducible refine w_lst ?_ | with_reducible refine w_lstC ?_ | with_reducible refine w_test ?_ | with_reducible refine w_and ?_ | with_reducible refine w_or ?_ | with_reducible refine w_not ?_ | with_reducible refine w_andV ?_ | with_reducible refine w_orV ?_ | with_reducible refine w_ife ?_ | with_reducible refine w_tru ?_ | with_reducible refine w_chain ?_ | with_reducible refine w_make ?_ | with_reducible refine w_make0 ?_ | with_reducible refine w_meth ?_ | with_reducible refine w_noP ?_ | with_reducible refine w_part ?_ | with_reducible refine w_sl ?_ | with_reducible refine w_slC ?_ | with_reducible refine w_pnil ?_ | with_reducible refine w_pcons ?_ | with_reducible refine w_disp ?_ | with_reducible refine w_dispC ?_ | with_reducible refine w_dnew ?_ | with_reducible refine w_it ?_ | with_reducible refine w_itA ?_ | with_reducible refine w_lc ?_ | with_reducible refine w_lcC ?_ | with_reducible refine w_gnil ?_ | with_reducible refine w_gcons ?_ | with_reducible refine w_setL ?_ | with_reducible refine w_app ?_ | with_reducible refine w_frzL ?_ | with_reducible refine w_B ?_ | with_reducible refine wo_II ?_ | with_reducible refine wo_IB ?_ | with_reducible refine wo_eqI ?_ | with_reducible refine wo_eqS ?_ | with_reducible refine wo_eqB ?_ | with_reducible refine wo_neI ?_ | with_reducible refine wo_neS ?_ | with_reducible refine wo_neB ?_ | with_reducible refine wo_intI ?_ | with_reducible refine wo_intB ?_ | with_reducible refine wo_not ?_ | with_reducible refine wo_lst ?_ | with_reducible refine wo_scr ?_ | with_reducible refine wo_itup ?_ | with_reducible refine wo_zip ?_ | with_reducible refine wo_enum ?_ | with_reducible refine wo_slT ?_ | with_reducible refine w_Xd ?_ | with_reducible refine w_yes ?_ | with_reducible refine w_t1 ?_ | with_reducible refine wo_isN0 ?_ | with_reducible refine wo_isN1 ?_ | with_reducible refine w_pk ?_ | with_reducible refine w_pki ?_ | ((with_reducible refine w_nm ?_); (try simp only [List.set_cons_succ, List.set_cons_zero])) | ((with_reducible apply w_var); (focus rfl)) | ((with_reducible refine w_gtp ?_ ?_); (focus (first | rfl | (simp; done)))) | ((with_reducible apply w_dats); (focus (first | rfl | ((simp only [dats, Option.map_some]); (first | done | rfl))))) | ((with_reducible apply wo_isNf); (focus (first | rfl | assumption | (simp only [lstOf, tupOf, dctOf, seqL, isL, Option.or_none, Option.some_or, Option.none_or, *]; done) | ((simp [lstOf, tupOf, dctOf, seqL, isL, *]); (first | done | rfl))))) | ((with_reducible apply w_rl); (focus (first | rfl | assumption | (simp only [lstOf, tupOf, dctOf, seqL, isL, Option.or_none, Option.some_or, Option.none_or, *]; done) | ((simp [lstOf, tupOf, dctOf, seqL, isL, *]); (first | done | rfl))))) | ((with_reducible apply wo_rev); (focus (first | rfl | assumption | (simp only [lstOf, tupOf, dctOf, seqL, isL, Option.or_none, Option.some_or, Option.none_or, *]; done) | ((simp [lstOf, tupOf, dctOf, seqL, isL, *]); (first | done | rfl))))) | ((with_reducible apply wo_slL); (focus (first | rfl | assumption | (simp only [lstOf, tupOf, dctOf, seqL, isL, Option.or_none, Option.some_or, Option.none_or, *]; done) | ((simp [lstOf, tupOf, dctOf, seqL, isL, *]); (first | done | rfl))))) | ((with_reducible apply wo_nil); (focus (first | rfl | assumption | (simp only [lstOf, tupOf, dctOf, seqL, isL, Option.or_none, Option.some_or, Option.none_or, *]; done) | ((simp [lstOf, tupOf, dctOf, seqL, isL, *]); (first | done | rfl))))) | ((with_reducible apply wo_len); (focus (first | rfl | assumption | (simp only [lstOf, tupOf, dctOf, seqL, isL, Option.or_none, Option.some_or, Option.none_or, *]; done) | ((simp [lstOf, tupOf, dctOf, seqL, isL, *]); (first | done | rfl))))) | ((with_reducible apply wo_tup); (focus (first | rfl | assumption | (simp only [lstOf, tupOf, dctOf, seqL, isL, Option.or_none, Option.some_or, Option.none_or, *]; done) | ((simp [lstOf, tupOf, dctOf, seqL, isL, *]); (first | done | rfl))))) | ((with_reducible apply wo_list); (focus (first | rfl | assumption | (simp only [lstOf, tupOf, dctOf, seqL, isL, Option.or_none, Option.some_or, Option.none_or, *]; done) | ((simp [lstOf, tupOf, dctOf, seqL, isL, *]); (first | done | rfl))))) | (with_reducible refine wo_isN ?_) | (with_reducible refine w_i1 ?_) | (with_reducible refine w_tt ?_) | (with_reducible refine w_ff ?_) | ((with_reducible refine w_sz ?_ ?_); (focus (first | (simp; done) | (simp; omega)))) | ((with_reducible refine w_l15 ?_ ?_); (focus (simp; done))) | fail))
/-! ### a row otherwise -/
def OthP (ks ps ms : List Str) (W n : Nat) : Prop := ∀ (m : Cells) (k j : Nat) (x : Cell) (s : Int) (d : Nat) (row : Dt) (Q : Vl → Cells → Prop) (E : EX), j ≠ k → k < m.length → j < m.length → stX x → d ≤ n → wfRow W d row →
  (∀ row' x', wfRow (W + 1) d row' → stX x' → Q (.d row') (mm m k j ks ps ms x' s)) → wR (othN n [.ref k, .ref j, .d row] (mm m k j ks ps ms x s)) Q E
theorem mem_take {α : Type} {x : α} {n : Nat} {xs : List α} (h : x ∈ xs.take n) : x ∈ xs := List.mem_of_mem_take h
theorem mem_drop {α : Type} {x : α} {n : Nat} {xs : List α} (h : x ∈ xs.drop n) : x ∈ xs := List.mem_of_mem_drop h
theorem one_re {R R' : Dt → Prop} {w : Str} {nm : Dt} {rs rs' : List Dt} (h : wfOne R (.tup [.str w, nm, .lst rs])) (hl : rs'.length = rs.length) (hr : ∀ r ∈ rs', R' r) : wfOne R' (.tup [.str w, nm, .lst rs']) := by
  rcases h with ⟨z, r, e, g, _⟩ | ⟨z, e, g⟩ | ⟨z, e, g⟩ | e | ⟨r, r2, e, _, _⟩ | ⟨r, e, _⟩ <;> cases e
  · obtain ⟨a, rfl⟩ := List.length_eq_one_iff.mp hl
    exact .inl ⟨_, _, rfl, g, hr a (by simp)⟩
  · cases List.length_eq_zero_iff.mp hl; exact .inr (.inl ⟨_, rfl, g⟩)
  · cases List.length_eq_zero_iff.mp hl; exact .inr (.inr (.inl ⟨_, rfl, g⟩))
  · cases List.length_eq_zero_iff.mp hl; exact .inr (.inr (.inr (.inl rfl)))
  · match rs', hl, hr with
    | [a, b], _, hr => exact .inr (.inr (.inr (.inr (.inl ⟨_, _, rfl, hr a (by simp), hr b (by simp)⟩))))
  · obtain ⟨a, rfl⟩ := List.length_eq_one_iff.mp hl
    exact .inr (.inr (.inr (.inr (.inr ⟨_, rfl, hr a (by simp)⟩))))
theorem in_two {w : Str} {m : Cells} : oIn false m (.d (.str w)) (.d (.tup [.str "call", .str "mark"])) = some (.d (.bl (decide (w ∈ (["call", "mark"] : List Str))))) := by
  have e : flatsD [.str "call", .str "mark"] = some ((["call", "mark"] : List Str).map V.str) := rfl
  simp only [oIn, lstOf, tupOf, Option.none_or, flatD, e, inV_str]
  simp
theorem ncm : ¬ (("call" : Str) = "mark") := by decide +kernel
theorem gt_m : dGet [.inr "call", .inr "mark"] [.str "mark", .str "call"] (.inr "mark") = some (.str "call") := by simp [dGet, ncm]
theorem gt_c : dGet [.inr "call", .inr "mark"] [.str "mark", .str "call"] (.inr "call") = some (.str "mark") := by simp [dGet]
theorem mg2 {m : Cells} : dctOf m (.d (.dct (mergeD [] [] [((.inr "call" : L2.Key), Dt.str "mark"), (.inr "mark", .str "call")]).1 (mergeD [] [] [((.inr "call" : L2.Key), Dt.str "mark"), (.inr "mark", .str "call")]).2)) = some ([.inr "call", .inr "mark"], [.str "mark", .str "call"]) := by
  simp [dctOf, mergeD, dPutK, dPutV, hasK, dRepl, ncm]
theorem turned_w {ks ps ms : List Str} (N : Nms ks ps ms) {W n : Nat} (ih : OthP ks ps ms W n) {m : Cells} {k j : Nat} {x : Cell} {s : Int} {d : Nat} {one : Dt} {Q : Vl → Cells → Prop} {E : EX} (h : j ≠ k) (hk : k < m.length) (hj : j < m.length) (hx : stX x) (hd : d ≤ n) (ho : wfOne (wfRow W d) one)
    (q : ∀ one' x', wfOne (wfRow (W + 1) d) one' → stX x' → Q (.d one') (mm m k j ks ps ms x' s)) : wR (FTurned (othN n) [.ref k, .ref j, .d one] (mm m k j ks ps ms x s)) Q E := by
  have up : ∀ r, wfRow W d r → wfRow (W + 1) d r := fun r hr => hr.mono (by omega) (Nat.le_refl _)
  have ho1 := ho
  obtain ⟨w, nm, rs, e, hn, hr⟩ := one_parts ho
  have hl : rs.length ≤ 2 := by
    rcases ho with ⟨z, r, e', g, hr⟩ | ⟨z, e', g⟩ | ⟨z, e', g⟩ | e' | ⟨r, r2, e', hr, hr2⟩ | ⟨r, e', hr⟩ <;> (rw [e] at e'; cases e'; simp)
  subst e
  ((show wR (runFn 3 8 (mTurned (othN n)) _ _) _ _); (refine w_run (g := [_, _, _, none, none, none, none, none]) (by rfl) rfl ?_); (unfold mTurned))
  (repeat' array_get_dec)
  refine digit_m h hk hx (by decide) (by decide) fun r x1 h0 h1 hx1 => ?_
  (repeat' array_get_dec)
  refine ⟨fun e1 => ?_, fun e1 => ?_⟩
  · (repeat' array_get_dec)
    refine w_d (fun r0 => ?_) (fun r0 => ?_)
    · (repeat' array_get_dec)
      have hpos : 0 < rs.length := by
        cases rs with
        | nil => simp at e1
        | cons a b => simp
      refine digit_m h hk hx1 (by omega) (by omega) fun i x2 i0 i1 hx2 => ?_
      (repeat' array_get_dec)
      refine w_d (fun r1 => ?_) (fun r1 => ?_)
      · (repeat' array_get_dec)
        rw [mm_len, mm_all]
        exact q _ _ (one_re ho1 (by simp) fun a ha => up _ (hr a (by simpa using ha))) hx2
      · (repeat' array_get_dec)
        obtain ⟨a, rfl⟩ := Int.eq_ofNat_of_zero_le i0
        have ha : a < rs.length := by omega
        refine wo_ixL (ds := rs) rfl (at_nat (List.getElem?_eq_getElem ha)) ?_
        (repeat' array_get_dec)
        refine ih m k j _ _ d _ _ _ h hk hj hx2 hd (hr _ (List.getElem_mem ha)) fun row' x3 w3 hx3 => ?_
        (repeat' array_get_dec)
        rw [cut_to]
        refine wo_catL rfl rfl (by simp; omega) ?_
        (repeat' array_get_dec)
        rw [nat1, cut_from]
        refine wo_catL rfl rfl (by simp; omega) ?_
        (repeat' array_get_dec)
        rw [mm_len, mm_all]
        refine q _ _ (one_re ho1 (by simp; omega) fun b hb => ?_) hx3
        simp only [List.mem_append, List.mem_singleton] at hb
        rcases hb with (hb | hb) | hb
        · exact up _ (hr b (mem_take hb))
        · rw [hb]; exact w3
        · exact up _ (hr b (mem_drop hb))
    ((repeat' array_get_dec)
     refine wO_eq in_two ?_
     (repeat' array_get_dec)
     rcases ho1 with ⟨z, r1, e', g, hr1⟩ | ⟨z, e', g⟩ | ⟨z, e', g⟩ | e' | ⟨r1, r2, e', hr1, hr2⟩ | ⟨r1, e', hr1⟩
     all_goals cases e'
     · refine w_df (by decide +kernel) ?_
       (repeat' array_get_dec)
       refine o_keys hj ?_
       (repeat' array_get_dec)
       refine o_keys hj ?_
       (repeat' array_get_dec)
       refine digit_m h hk hx1 (by have := N.k0; simp; omega) (by have := N.k1; simp; omega) fun i x2 i0 i1 hx2 => ?_
       (repeat' array_get_dec)
       refine pick_w i0 i1 N.kg fun z gz => ?_
       (repeat' array_get_dec)
       rw [mm_len, mm_all]
       exact q _ _ (.inl ⟨z, r1, rfl, gz, up _ hr1⟩) hx2
     · refine w_dt (by decide +kernel) ?_
       (repeat' array_get_dec)
       refine w_d (fun c1 => ?_) (fun c1 => ?_)
       · (repeat' array_get_dec)
         refine wo_dget (ks := [.inr "call", .inr "mark"]) (ds := [.str "mark", .str "call"]) mg2 (by rfl) gt_m ?_
         (repeat' array_get_dec)
         rw [mm_len, mm_all]
         exact q _ _ (.inr (.inr (.inl ⟨z, rfl, g⟩))) hx1
       · (repeat' array_get_dec)
         refine o_keys hj ?_
         (repeat' array_get_dec)
         refine o_keys hj ?_
         (repeat' array_get_dec)
         refine digit_m h hk hx1 (by have := N.k0; simp; omega) (by have := N.k1; simp; omega) fun i x2 i0 i1 hx2 => ?_
         (repeat' array_get_dec)
         refine pick_w i0 i1 N.kg fun z gz => ?_
         (repeat' array_get_dec)
         rw [mm_len, mm_all]
         exact q _ _ (.inr (.inl ⟨z, rfl, gz⟩)) hx2
     · refine w_dt (by decide +kernel) ?_
       (repeat' array_get_dec)
       refine w_d (fun c1 => ?_) (fun c1 => ?_)
       · (repeat' array_get_dec)
         refine wo_dget (ks := [.inr "call", .inr "mark"]) (ds := [.str "mark", .str "call"]) mg2 (by rfl) gt_c ?_
         (repeat' array_get_dec)
         rw [mm_len, mm_all]
         exact q _ _ (.inr (.inl ⟨z, rfl, g⟩)) hx1
       · (repeat' array_get_dec)
         refine o_keys hj ?_
         (repeat' array_get_dec)
         refine o_keys hj ?_
         (repeat' array_get_dec)
         refine digit_m h hk hx1 (by have := N.k0; simp; omega) (by have := N.k1; simp; omega) fun i x2 i0 i1 hx2 => ?_
         (repeat' array_get_dec)
         refine pick_w i0 i1 N.kg fun z gz => ?_
         (repeat' array_get_dec)
         rw [mm_len, mm_all]
         exact q _ _ (.inr (.inr (.inl ⟨z, rfl, gz⟩))) hx2
     all_goals
       refine w_df (by decide +kernel) ?_
       (repeat' array_get_dec)
       refine o_marks hj ?_
       (repeat' array_get_dec)
       refine pick_w (i := 0) (by decide) (by have := N.m0; simp; omega) N.mg fun z gz => ?_
       (repeat' array_get_dec)
       rw [mm_len, mm_all]
       exact q _ _ (.inr (.inl ⟨z, rfl, gz⟩)) hx1)
  · ((repeat' array_get_dec)
     refine wO_eq in_two ?_
     (repeat' array_get_dec)
     rcases ho1 with ⟨z, r1, e', g, hr1⟩ | ⟨z, e', g⟩ | ⟨z, e', g⟩ | e' | ⟨r1, r2, e', hr1, hr2⟩ | ⟨r1, e', hr1⟩
     all_goals cases e'
     · refine w_df (by decide +kernel) ?_
       (repeat' array_get_dec)
       refine o_keys hj ?_
       (repeat' array_get_dec)
       refine o_keys hj ?_
       (repeat' array_get_dec)
       refine digit_m h hk hx1 (by have := N.k0; simp; omega) (by have := N.k1; simp; omega) fun i x2 i0 i1 hx2 => ?_
       (repeat' array_get_dec)
       refine pick_w i0 i1 N.kg fun z gz => ?_
       (repeat' array_get_dec)
       rw [mm_len, mm_all]
       exact q _ _ (.inl ⟨z, r1, rfl, gz, up _ hr1⟩) hx2
     · refine w_dt (by decide +kernel) ?_
       (repeat' array_get_dec)
       refine w_d (fun c1 => ?_) (fun c1 => ?_)
       · (repeat' array_get_dec)
         refine wo_dget (ks := [.inr "call", .inr "mark"]) (ds := [.str "mark", .str "call"]) mg2 (by rfl) gt_m ?_
         (repeat' array_get_dec)
         rw [mm_len, mm_all]
         exact q _ _ (.inr (.inr (.inl ⟨z, rfl, g⟩))) hx1
       · (repeat' array_get_dec)
         refine o_keys hj ?_
         (repeat' array_get_dec)
         refine o_keys hj ?_
         (repeat' array_get_dec)
         refine digit_m h hk hx1 (by have := N.k0; simp; omega) (by have := N.k1; simp; omega) fun i x2 i0 i1 hx2 => ?_
         (repeat' array_get_dec)
         refine pick_w i0 i1 N.kg fun z gz => ?_
         (repeat' array_get_dec)
         rw [mm_len, mm_all]
         exact q _ _ (.inr (.inl ⟨z, rfl, gz⟩)) hx2
     · refine w_dt (by decide +kernel) ?_
       (repeat' array_get_dec)
       refine w_d (fun c1 => ?_) (fun c1 => ?_)
       · (repeat' array_get_dec)
         refine wo_dget (ks := [.inr "call", .inr "mark"]) (ds := [.str "mark", .str "call"]) mg2 (by rfl) gt_c ?_
         (repeat' array_get_dec)
         rw [mm_len, mm_all]
         exact q _ _ (.inr (.inl ⟨z, rfl, g⟩)) hx1
       · (repeat' array_get_dec)
         refine o_keys hj ?_
         (repeat' array_get_dec)
         refine o_keys hj ?_
         (repeat' array_get_dec)
         refine digit_m h hk hx1 (by have := N.k0; simp; omega) (by have := N.k1; simp; omega) fun i x2 i0 i1 hx2 => ?_
         (repeat' array_get_dec)
         refine pick_w i0 i1 N.kg fun z gz => ?_
         (repeat' array_get_dec)
         rw [mm_len, mm_all]
         exact q _ _ (.inr (.inr (.inl ⟨z, rfl, gz⟩))) hx2
     all_goals
       refine w_df (by decide +kernel) ?_
       (repeat' array_get_dec)
       refine o_marks hj ?_
       (repeat' array_get_dec)
       refine pick_w (i := 0) (by decide) (by have := N.m0; simp; omega) N.mg fun z gz => ?_
       (repeat' array_get_dec)
       rw [mm_len, mm_all]
       exact q _ _ (.inr (.inl ⟨z, rfl, gz⟩)) hx1)
end K03

namespace K03
open PySem PySem.Spec PyProof.Rows L2 FM
local macro_rules
  | `(tactic| array_get_dec) => `(tactic| (first | with_reducible refine w_seq ?_ | with_reducible refine w_asg ?_ | with_reducible refine w_drop ?_ | with_reducible refine w_ret ?_ | with_reducible refine w_retN ?_ | with_reducible refine w_next ?_ | with_reducible refine w_brk ?_ | with_reducible refine w_cnt ?_ | with_reducible refine w_if ?_ | with_reducible refine w_par ?_ | with_reducible refine w_putD ?_ | with_reducible refine w_setF ?_ | with_reducible refine w_raise ?_ | with_reducible refine w_try ?_ | with_reducible refine w_for ?_ | with_reducible refine w_c ?_ | with_reducible refine w_op ?_ | with_reducible refine w_un ?_ | with_reducible refine w_nil ?_ | with_reducible refine w_cons ?_ | with_reducible refine w_call ?_ | with_reducible refine w_cb ?_ | with_reducible refine w_cl ?_ | with_reducible refine w_clC ?_ | with_reducible refine w_tup ?_ | with_reducible refine w_lst ?_ | with_reducible refine w_lstC ?_ | with_reducible refine w_test ?_ | with_reducible refine w_and ?_ | with_reducible refine w_or ?_ | with_reducible refine w_not ?_ | with_reducible refine w_andV ?_ | with_reducible refine w_orV ?_ | with_reducible refine w_ife ?_ | with_reducible refine w_tru ?_ | with_reducible refine w_chain ?_ | with_reducible refine w_make ?_ | with_reducible refine w_make0 ?_ | with_reducible refine w_meth ?_ | with_reducible refine w_noP ?_ | with_reducible refine w_part ?_ | with_reducible refine w_sl ?_ | with_reducible refine w_slC ?_ | with_reducible refine w_pnil ?_ | with_reducible refine w_pcons ?_ | with_reducible refine w_disp ?_ | with_reducible refine w_dispC ?_ | with_reducible refine w_dnew ?_ | with_reducible refine w_it ?_ | with_reducible refine w_itA ?_ | with_reducible refine w_lc ?_ | with_reducible refine w_lcC ?_ | with_reducible refine w_gnil ?_ | with_reducible refine w_gcons ?_ | with_reducible refine w_setL ?_ | with_reducible refine w_app ?_ | with_reducible refine w_frzL ?_ | with_reducible refine w_B ?_ | with_reducible refine wo_II ?_ | with_reducible refine wo_IB ?_ | with_reducible refine wo_eqI ?_ | with_reducible refine wo_eqS ?_ | with_reducible refine wo_eqB ?_ | with_reducible refine wo_neI ?_ | with_reducible refine wo_neS ?_ | with_reducible refine wo_neB ?_ | with_reducible refine wo_intI ?_ | with_reducible refine wo_intB ?_ | with_reducible refine wo_not ?_ | with_reducible refine wo_lst ?_ | with_reducible refine wo_scr ?_ | with_reducible refine wo_itup ?_ | with_reducible refine wo_zip ?_ | with_reducible refine wo_enum ?_ | with_reducible refine wo_slT ?_ | with_reducible refine w_Xd ?_ | with_reducible refine w_yes ?_ | with_reducible refine w_t1 ?_ | with_reducible refine wo_isN0 ?_ | with_reducible refine wo_isN1 ?_ | with_reducible refine w_pk ?_ | with_reducible refine w_pki ?_ | ((with_reducible refine w_nm ?_); (try simp only [List.set_cons_succ, List.set_cons_zero])) | ((with_reducible apply w_var); (focus rfl)) | ((with_reducible refine w_gtp ?_ ?_); (focus (first | rfl | (simp; done)))) | ((with_reducible apply w_dats); (focus (first | rfl | ((simp only [dats, Option.map_some]); (first | done | rfl))))) | ((with_reducible apply wo_isNf); (focus (first | rfl | assumption | (simp only [lstOf, tupOf, dctOf, seqL, isL, Option.or_none, Option.some_or, Option.none_or, *]; done) | ((simp [lstOf, tupOf, dctOf, seqL, isL, *]); (first | done | rfl))))) | ((with_reducible apply w_rl); (focus (first | rfl | assumption | (simp only [lstOf, tupOf, dctOf, seqL, isL, Option.or_none, Option.some_or, Option.none_or, *]; done) | ((simp [lstOf, tupOf, dctOf, seqL, isL, *]); (first | done | rfl))))) | ((with_reducible apply wo_rev); (focus (first | rfl | assumption | (simp only [lstOf, tupOf, dctOf, seqL, isL, Option.or_none, Option.some_or, Option.none_or, *]; done) | ((simp [lstOf, tupOf, dctOf, seqL, isL, *]); (first | done | rfl))))) | ((with_reducible apply wo_slL); (focus (first | rfl | assumption | (simp only [lstOf, tupOf, dctOf, seqL, isL, Option.or_none, Option.some_or, Option.none_or, *]; done) | ((simp [lstOf, tupOf, dctOf, seqL, isL, *]); (first | done | rfl))))) | ((with_reducible apply wo_nil); (focus (first | rfl | assumption | (simp only [lstOf, tupOf, dctOf, seqL, isL, Option.or_none, Option.some_or, Option.none_or, *]; done) | ((simp [lstOf, tupOf, dctOf, seqL, isL, *]); (first | done | rfl))))) | ((with_reducible apply wo_len); (focus (first | rfl | assumption | (simp only [lstOf, tupOf, dctOf, seqL, isL, Option.or_none, Option.some_or, Option.none_or, *]; done) | ((simp [lstOf, tupOf, dctOf, seqL, isL, *]); (first | done | rfl))))) | ((with_reducible apply wo_tup); (focus (first | rfl | assumption | (simp only [lstOf, tupOf, dctOf, seqL, isL, Option.or_none, Option.some_or, Option.none_or, *]; done) | ((simp [lstOf, tupOf, dctOf, seqL, isL, *]); (first | done | rfl))))) | ((with_reducible apply wo_list); (focus (first | rfl | assumption | (simp only [lstOf, tupOf, dctOf, seqL, isL, Option.or_none, Option.some_or, Option.none_or, *]; done) | ((simp [lstOf, tupOf, dctOf, seqL, isL, *]); (first | done | rfl))))) | (with_reducible refine wo_isN ?_) | (with_reducible refine w_i1 ?_) | (with_reducible refine w_tt ?_) | (with_reducible refine w_ff ?_) | ((with_reducible refine w_sz ?_ ?_); (focus (first | (simp; done) | (simp; omega)))) | ((with_reducible refine w_l15 ?_ ?_); (focus (simp; done))) | fail))
theorem oth_w {ks ps ms : List Str} (N : Nms ks ps ms) {W : Nat} (hW : W ≤ 1000) : ∀ n, OthP ks ps ms W n
  | 0 => fun m k j x s d row Q E h hk hj hx hd hr q => by
    have : d = 0 := by omega
    subst this
    exact hr.elim
  | n + 1 => fun m k j x s d row Q E h hk hj hx hd hr q => by
    have ih := oth_w N hW n
    match d, hr with
    | d + 1, ⟨ss, e, hl, hs⟩ =>
      subst e
      have up : ∀ o, wfOne (wfRow W d) o → wfOne (wfRow (W + 1) d) o := fun o ho => ho.mono fun r hr => hr.mono (by omega) (Nat.le_refl _)
      show wR (FOtherwise (FTurned (othN n)) _ _) _ _
      ((show wR (runFn 3 5 (mOtherwise (FTurned (othN n))) _ _) _ _); (refine w_run (g := [_, _, _, none, none]) (by rfl) rfl ?_); (unfold mOtherwise))
      (repeat' array_get_dec)
      refine digit_m h hk hx (by decide) (by decide) fun r x1 h0 h1 hx1 => ?_
      (repeat' array_get_dec)
      refine ⟨fun e1 => ?_, fun e1 => ?_⟩
      · (repeat' array_get_dec)
        rw [mm_len, mm_all]
        refine q _ _ ⟨_, rfl, by simp, fun o ho => ?_⟩ hx1
        rw [List.mem_singleton.mp ho]
        exact .inr (.inr (.inr (.inl rfl)))
      (repeat' array_get_dec)
      have hpos : 0 < ss.length := by
        cases ss with
        | nil => simp at e1
        | cons a b => simp
      refine digit_m h hk hx1 (by omega) (by omega) fun i x2 i0 i1 hx2 => ?_
      (repeat' array_get_dec)
      obtain ⟨a, rfl⟩ := Int.eq_ofNat_of_zero_le i0
      have ha : a < ss.length := by omega
      refine w_d (fun c0 => ?_) (fun c0 => ?_)
      · (repeat' array_get_dec)
        rw [cut_to, nat1, cut_from]
        refine wo_catL rfl rfl (by simp; omega) ?_
        (repeat' array_get_dec)
        rw [mm_len, mm_all]
        refine q _ _ ⟨_, rfl, by simp; omega, fun o ho => ?_⟩ hx2
        rcases List.mem_append.mp ho with ho | ho
        · exact up _ (hs o (mem_take ho))
        · exact up _ (hs o (mem_drop ho))
      (repeat' array_get_dec)
      refine w_d (fun c1 => ?_) (fun c1 => ?_)
      · (repeat' array_get_dec)
        rw [cut_to, nat1, cut_mid]
        refine wo_catL rfl rfl (by simp; omega) ?_
        (repeat' array_get_dec)
        rw [cut_from]
        refine wo_catL rfl rfl (by simp; omega) ?_
        (repeat' array_get_dec)
        rw [mm_len, mm_all]
        refine q _ _ ⟨_, rfl, by simp; omega, fun o ho => ?_⟩ hx2
        simp only [List.mem_append] at ho
        rcases ho with (ho | ho) | ho
        · exact up _ (hs o (mem_take ho))
        · exact up _ (hs o (mem_drop (mem_take ho)))
        · exact up _ (hs o (mem_drop ho))
      (repeat' array_get_dec)
      refine w_d (fun c2 => ?_) (fun c2 => ?_)
      · (repeat' array_get_dec)
        rw [cut_to, nat2, cut_mid]
        refine wo_catL rfl rfl (by simp; omega) ?_
        (repeat' array_get_dec)
        rw [nat2, cut_from]
        refine wo_catL rfl rfl (by simp; omega) ?_
        (repeat' array_get_dec)
        rw [mm_len, mm_all]
        refine q _ _ ⟨_, rfl, by simp; omega, fun o ho => ?_⟩ hx2
        simp only [List.mem_append, List.mem_reverse] at ho
        rcases ho with (ho | ho) | ho
        · exact up _ (hs o (mem_take ho))
        · exact up _ (hs o (mem_drop (mem_take ho)))
        · exact up _ (hs o (mem_drop ho))
      (repeat' array_get_dec)
      refine wo_ixL (ds := ss) rfl (at_nat (List.getElem?_eq_getElem ha)) ?_
      (repeat' array_get_dec)
      refine turned_w N ih h hk hj hx2 (by omega) (hs _ (List.getElem_mem ha)) fun one' x3 w3 hx3 => ?_
      (repeat' array_get_dec)
      rw [cut_to]
      refine wo_catL rfl rfl (by simp; omega) ?_
      (repeat' array_get_dec)
      rw [nat1, cut_from]
      refine wo_catL rfl rfl (by simp; omega) ?_
      (repeat' array_get_dec)
      rw [mm_len, mm_all]
      refine q _ _ ⟨_, rfl, by simp; omega, fun o ho => ?_⟩ hx3
      simp only [List.mem_append, List.mem_singleton] at ho
      rcases ho with (ho | ho) | ho
      · exact up _ (hs o (mem_take ho))
      · rw [ho]; exact w3
      · exact up _ (hs o (mem_drop ho))
end K03

namespace K03
open PySem PySem.Spec PyProof.Rows L2 FM
local macro_rules
  | `(tactic| array_get_dec) => `(tactic| (first | with_reducible refine w_seq ?_ | with_reducible refine w_asg ?_ | with_reducible refine w_drop ?_ | with_reducible refine w_ret ?_ | with_reducible refine w_retN ?_ | with_reducible refine w_next ?_ | with_reducible refine w_brk ?_ | with_reducible refine w_cnt ?_ | with_reducible refine w_if ?_ | with_reducible refine w_par ?_ | with_reducible refine w_putD ?_ | with_reducible refine w_setF ?_ | with_reducible refine w_raise ?_ | with_reducible refine w_try ?_ | with_reducible refine w_for ?_ | with_reducible refine w_c ?_ | with_reducible refine w_op ?_ | with_reducible refine w_un ?_ | with_reducible refine w_nil ?_ | with_reducible refine w_cons ?_ | with_reducible refine w_call ?_ | with_reducible refine w_cb ?_ | with_reducible refine w_cl ?_ | with_reducible refine w_clC ?_ | with_reducible refine w_tup ?_ | with_reducible refine w_lst ?_ | with_reducible refine w_lstC ?_ | with_reducible refine w_test ?_ | with_reducible refine w_and ?_ | with_reducible refine w_or ?_ | with_reducible refine w_not ?_ | with_reducible refine w_andV ?_ | with_reducible refine w_orV ?_ | with_reducible refine w_ife ?_ | with_reducible refine w_tru ?_ | with_reducible refine w_chain ?_ | with_reducible refine w_make ?_ | with_reducible refine w_make0 ?_ | with_reducible refine w_meth ?_ | with_reducible refine w_noP ?_ | with_reducible refine w_part ?_ | with_reducible refine w_sl ?_ | with_reducible refine w_slC ?_ | with_reducible refine w_pnil ?_ | with_reducible refine w_pcons ?_ | with_reducible refine w_disp ?_ | with_reducible refine w_dispC ?_ | with_reducible refine w_dnew ?_ | with_reducible refine w_it ?_ | with_reducible refine w_itA ?_ | with_reducible refine w_lc ?_ | with_reducible refine w_lcC ?_ | with_reducible refine w_gnil ?_ | with_reducible refine w_gcons ?_ | with_reducible refine w_setL ?_ | with_reducible refine w_app ?_ | with_reducible refine w_frzL ?_ | with_reducible refine w_B ?_ | with_reducible refine wo_II ?_ | with_reducible refine wo_IB ?_ | with_reducible refine wo_eqI ?_ | with_reducible refine wo_eqS ?_ | with_reducible refine wo_eqB ?_ | with_reducible refine wo_neI ?_ | with_reducible refine wo_neS ?_ | with_reducible refine wo_neB ?_ | with_reducible refine wo_intI ?_ | with_reducible refine wo_intB ?_ | with_reducible refine wo_not ?_ | with_reducible refine wo_lst ?_ | with_reducible refine wo_scr ?_ | with_reducible refine wo_itup ?_ | with_reducible refine wo_zip ?_ | with_reducible refine wo_enum ?_ | with_reducible refine wo_slT ?_ | with_reducible refine w_Xd ?_ | with_reducible refine w_yes ?_ | with_reducible refine w_t1 ?_ | with_reducible refine wo_isN0 ?_ | with_reducible refine wo_isN1 ?_ | with_reducible refine w_pk ?_ | with_reducible refine w_pki ?_ | ((with_reducible refine w_nm ?_); (try simp only [List.set_cons_succ, List.set_cons_zero])) | ((with_reducible apply w_var); (focus rfl)) | ((with_reducible refine w_gtp ?_ ?_); (focus (first | rfl | (simp; done)))) | ((with_reducible apply w_dats); (focus (first | rfl | ((simp only [dats, Option.map_some]); (first | done | rfl))))) | ((with_reducible apply wo_isNf); (focus (first | rfl | assumption | (simp only [lstOf, tupOf, dctOf, seqL, isL, Option.or_none, Option.some_or, Option.none_or, *]; done) | ((simp [lstOf, tupOf, dctOf, seqL, isL, *]); (first | done | rfl))))) | ((with_reducible apply w_rl); (focus (first | rfl | assumption | (simp only [lstOf, tupOf, dctOf, seqL, isL, Option.or_none, Option.some_or, Option.none_or, *]; done) | ((simp [lstOf, tupOf, dctOf, seqL, isL, *]); (first | done | rfl))))) | ((with_reducible apply wo_rev); (focus (first | rfl | assumption | (simp only [lstOf, tupOf, dctOf, seqL, isL, Option.or_none, Option.some_or, Option.none_or, *]; done) | ((simp [lstOf, tupOf, dctOf, seqL, isL, *]); (first | done | rfl))))) | ((with_reducible apply wo_slL); (focus (first | rfl | assumption | (simp only [lstOf, tupOf, dctOf, seqL, isL, Option.or_none, Option.some_or, Option.none_or, *]; done) | ((simp [lstOf, tupOf, dctOf, seqL, isL, *]); (first | done | rfl))))) | ((with_reducible apply wo_nil); (focus (first | rfl | assumption | (simp only [lstOf, tupOf, dctOf, seqL, isL, Option.or_none, Option.some_or, Option.none_or, *]; done) | ((simp [lstOf, tupOf, dctOf, seqL, isL, *]); (first | done | rfl))))) | ((with_reducible apply wo_len); (focus (first | rfl | assumption | (simp only [lstOf, tupOf, dctOf, seqL, isL, Option.or_none, Option.some_or, Option.none_or, *]; done) | ((simp [lstOf, tupOf, dctOf, seqL, isL, *]); (first | done | rfl))))) | ((with_reducible apply wo_tup); (focus (first | rfl | assumption | (simp only [lstOf, tupOf, dctOf, seqL, isL, Option.or_none, Option.some_or, Option.none_or, *]; done) | ((simp [lstOf, tupOf, dctOf, seqL, isL, *]); (first | done | rfl))))) | ((with_reducible apply wo_list); (focus (first | rfl | assumption | (simp only [lstOf, tupOf, dctOf, seqL, isL, Option.or_none, Option.some_or, Option.none_or, *]; done) | ((simp [lstOf, tupOf, dctOf, seqL, isL, *]); (first | done | rfl))))) | (with_reducible refine wo_isN ?_) | (with_reducible refine w_i1 ?_) | (with_reducible refine w_tt ?_) | (with_reducible refine w_ff ?_) | ((with_reducible refine w_sz ?_ ?_); (focus (first | (simp; done) | (simp; omega)))) | ((with_reducible refine w_l15 ?_ ?_); (focus (simp; done))) | fail))
open Classical
theorem w_bf {b : Bool} {A B : Prop} (h : b = false) (q : B) : (b = true → A) ∧ (b = false → B) := ⟨fun e => (by rw [h] at e; cases e), fun _ => q⟩
theorem w_bt {b : Bool} {A B : Prop} (h : b = true) (q : A) : (b = true → A) ∧ (b = false → B) := ⟨fun _ => q, fun e => (by rw [h] at e; cases e)⟩
theorem toB_lvl {W : Nat} : ∀ {n k k' : Nat} {x : Dt}, n ≤ k → n ≤ k' → wfRow W n x → toB k x = toB k' x
  | 0, _, _, _, _, _, h => h.elim
  | n + 1, 0, _, _, hk, _, _ => by omega
  | n + 1, _, 0, _, _, hk, _ => by omega
  | n + 1, k + 1, k' + 1, x, hk, hk', ⟨xs, e1, _, h1⟩ => by
    subst e1
    simp only [toB, Dt.ins.injEq, Dt.tup.injEq, List.cons.injEq, true_and, and_true]
    refine List.map_congr_left fun a ha => ?_
    rcases h1 a ha with ⟨z, r, rfl, g, hr⟩ | ⟨z, rfl, g⟩ | ⟨z, rfl, g⟩ | rfl | ⟨r, r2, rfl, hr, hr2⟩ | ⟨r, rfl, hr⟩
    · rw [toS_h, toS_h, toB_lvl (k := k) (k' := k') (by omega) (by omega) hr]
    · rw [toS_m, toS_m]
    · rw [toS_c, toS_c]
    · rw [toS_s, toS_s]
    · rw [toS_e, toS_e, toB_lvl (k := k) (k' := k') (by omega) (by omega) hr, toB_lvl (k := k) (k' := k') (by omega) (by omega) hr2]
    · rw [toS_r, toS_r, toB_lvl (k := k) (k' := k') (by omega) (by omega) hr]
theorem toS_lvl {W n k k' : Nat} {a : Dt} (hk : n ≤ k) (hk' : n ≤ k') (h : wfOne (wfRow W n) a) : toS (toB k) a = toS (toB k') a := by
  rcases h with ⟨z, r, rfl, g, hr⟩ | ⟨z, rfl, g⟩ | ⟨z, rfl, g⟩ | rfl | ⟨r, r2, rfl, hr, hr2⟩ | ⟨r, rfl, hr⟩
  · rw [toS_h, toS_h, toB_lvl hk hk' hr]
  · rw [toS_m, toS_m]
  · rw [toS_c, toS_c]
  · rw [toS_s, toS_s]
  · rw [toS_e, toS_e, toB_lvl hk hk' hr, toB_lvl hk hk' hr2]
  · rw [toS_r, toS_r, toB_lvl hk hk' hr]
noncomputable def fS : Dt → Dt
  | .tup [a, b] => .bl (decide (toS (toB 6) a = toS (toB 6) b))
  | d => d
noncomputable def fR : Dt → Dt
  | .tup [a, b] => .bl (decide (a = b))
  | d => d
theorem mem_zip {xs ys : List Dt} {p : Dt} (h : p ∈ zipD xs ys) : ∃ a b, p = .tup [a, b] ∧ a ∈ xs ∧ b ∈ ys := by
  unfold zipD at h
  obtain ⟨⟨a, b⟩, hm, rfl⟩ := List.mem_map.mp h
  exact ⟨a, b, rfl, (List.of_mem_zip hm).1, (List.of_mem_zip hm).2⟩
theorem szR14 : szR 14 3 ≤ 1000000 := by decide +kernel
theorem sz3 {x : Dt} (h : wfRow 14 3 x) : szD (toB 6 x) ≤ 1000000 := Nat.le_trans (sz_toB (by omega) h) szR14
theorem szS3 {x : Dt} (h : wfOne (wfRow 14 2) x) : szD (toS (toB 6) x) ≤ 1000000 := Nat.le_trans (sz_toS (fun r hr => sz_toB (by omega) hr) h) (by decide +kernel)
theorem alike_w {x y : Dt} {m : Cells} {Q : Vl → Cells → Prop} {E : EX} (hx : wfRow 14 3 x) (hy : wfRow 14 3 y) (q : Q (.d (.bl true)) m) : wR (FAlike [.d x, .d y] m) Q E := by
  have hb : decide (toB 6 x = toB 6 y) = decide (x = y) := by
    by_cases e : x = y
    · simp [e]
    · have : ¬ toB 6 x = toB 6 y := fun h => e (toB_inj (by omega) hx hy h)
      simp [e, this]
  have hb2 : decide (toB 6 y = toB 6 x) = decide (x = y) := by rw [← hb]; simp [eq_comm]
  have bx := wfB_toB (k := 6) (by omega) hx
  have by_ := wfB_toB (k := 6) (by omega) hy
  have hx1 := hx
  have hy1 := hy
  obtain ⟨xs, ex, lx, sx⟩ := hx1
  obtain ⟨ys, ey, ly, sy⟩ := hy1
  have bd : BodyP 14 3 6 := bodyN_w (by omega) (by omega)
  have bd2 : BodyP 14 2 6 := bodyN_w (by omega) (by omega)
  ((show wR (runFn 2 7 (mAlike) _ _) _ _); (refine w_run (g := [_, _, none, none, none, none, none]) (by rfl) rfl ?_); (unfold mAlike))
  (repeat' array_get_dec)
  refine wo_Q (eqT_row (by decide) hx hy) ?_
  (repeat' array_get_dec)
  refine bd _ _ _ _ hx ?_
  (repeat' array_get_dec)
  refine bd _ _ _ _ hy ?_
  (repeat' array_get_dec)
  refine wo_Q (eq_BB bx by_ (sz3 hx)) ?_
  (repeat' array_get_dec)
  refine w_bf (by simp [hb]) ?_
  (repeat' array_get_dec)
  refine wo_Q (eq_BB by_ bx (sz3 hy)) ?_
  (repeat' array_get_dec)
  refine w_bf (by simp [hb2]) ?_
  (repeat' array_get_dec)
  refine wo_Q (eq_BB bx by_ (sz3 hx)) ?_
  (repeat' array_get_dec)
  refine w_bf (by rw [hb]; cases decide (x = y) <;> rfl) ?_
  (repeat' array_get_dec)
  refine bd _ _ _ _ hx ?_
  refine wo_Q (eq_BB bx bx (sz3 hx)) ?_
  (repeat' array_get_dec)
  refine w_bf (by simp) ?_
  (repeat' array_get_dec)
  subst ex ey
  (repeat' array_get_dec)
  refine w_lcMap fS (fun p hp => ?_) (by rw [zipD_len]; omega) ?_
  · obtain ⟨a, b, rfl, ha, hb⟩ := mem_zip hp
    (repeat' array_get_dec)
    refine one_w bd2 (sx a ha) ?_
    (repeat' array_get_dec)
    refine one_w bd2 (sy b hb) ?_
    refine wo_Q (eq_SS (wfS_toS (fun r hr => wfB_toB (n := 2) (by decide) hr) (sx a ha)) (wfS_toS (fun r hr => wfB_toB (n := 2) (by decide) hr) (sy b hb)) (szS3 (sx a ha))) ?_
    exact ⟨by simp [fS], rfl⟩
  (repeat' array_get_dec)
  refine w_lcMap fR (fun p hp => ?_) (by rw [zipD_len]; omega) ?_
  · obtain ⟨a, b, rfl, ha, hb⟩ := mem_zip hp
    (repeat' array_get_dec)
    refine wo_Q (eqT_one (by decide) (sx a ha) (sy b hb)) ?_
    exact ⟨by simp [fR], rfl⟩
  have em : (zipD xs ys).map fS = (zipD xs ys).map fR := List.map_congr_left fun p hp => by
    obtain ⟨a, b, rfl, ha, hb⟩ := mem_zip hp
    simp only [fS, fR, Dt.bl.injEq]
    by_cases e : a = b
    · simp [e]
    · have : ¬ toS (toB 6) a = toS (toB 6) b := fun h => e (oneS_inj (n := 2) (by decide) (sx a ha) (sy b hb) h)
      simp [e, this]
  rw [em]
  refine wo_Q (eq_ll (n := 9) fun d hd => ?_) ?_
  · obtain ⟨p, hp, rfl⟩ := List.mem_map.mp hd
    obtain ⟨a, b, rfl, ha, hb⟩ := mem_zip hp
    exact .inr (.inl ⟨_, rfl⟩)
  (repeat' array_get_dec)
  rw [List.take_length]
  exact q
end K03

namespace K03
open PySem PySem.Spec PyProof.Rows L2 FM
section
variable {m : Cells} {g : Gam} {mr : MA} {Q : Vl → Cells → Prop} {E : EX}
theorem mkB (h : wR (mr g m) (fun xs m1 => ∃ ss, xs = [.d (.lst ss)] ∧ Q (.d (.ins 8 [.tup ss])) m1) E) : wR (mMake 8 1 FBodyI mr g m) Q E :=
  w_make (wR_mono h fun xs m1 ⟨ss, e, q⟩ => by subst e; exact body_w q)
theorem mkH (h : wR (mr g m) (fun xs m1 => ∃ z b, xs = [.d (.str z), .d b] ∧ GName 8 z ∧ Q (.d (.ins 2 [.str z, b])) m1) E) : wR (mMake 2 2 FHoldI mr g m) Q E :=
  w_make (wR_mono h fun xs m1 ⟨z, b, e, g, q⟩ => by subst e; exact hold_w g q)
theorem mkC (h : wR (mr g m) (fun xs m1 => ∃ z, xs = [.d (.str z)] ∧ GName 8 z ∧ Q (.d (.ins 5 [.str z])) m1) E) : wR (mMake 5 1 FCallI mr g m) Q E :=
  w_make (wR_mono h fun xs m1 ⟨z, e, g, q⟩ => by subst e; exact call_w g q)
theorem mkM (h : wR (mr g m) (fun xs m1 => ∃ z, xs = [.d (.str z)] ∧ GName 8 z ∧ Q (.d (.ins 6 [.str z])) m1) E) : wR (mMake 6 1 FMarkI mr g m) Q E :=
  w_make (wR_mono h fun xs m1 ⟨z, e, g, q⟩ => by subst e; exact mark_w g q)
theorem mkEi (h : wR (mr g m) (fun xs m1 => ∃ b b', xs = [.d b, .d b'] ∧ Q (.d (.ins 3 [b, b'])) m1) E) : wR (mMake 3 2 FEitherI mr g m) Q E :=
  w_make (wR_mono h fun xs m1 ⟨b, b', e, q⟩ => by subst e; exact either_w q)
theorem mkR (h : wR (mr g m) (fun xs m1 => ∃ b, xs = [.d b] ∧ Q (.d (.ins 4 [b])) m1) E) : wR (mMake 4 1 FRoundsI mr g m) Q E :=
  w_make (wR_mono h fun xs m1 ⟨b, e, q⟩ => by subst e; exact rounds_w q)
theorem x_l {ds : List Dt} {p : List Dt → Prop} (q : p ds) : ∃ ss, [Vl.d (.lst ds)] = [.d (.lst ss)] ∧ p ss := ⟨ds, rfl, q⟩
theorem x_h {z : Str} {b : Dt} {p : Str → Dt → Prop} (q : p z b) : ∃ z' b', [Vl.d (.str z), Vl.d b] = [.d (.str z'), .d b'] ∧ p z' b' := ⟨z, b, rfl, q⟩
theorem x_s {z : Str} {p : Str → Prop} (q : p z) : ∃ z', [Vl.d (.str z)] = [.d (.str z')] ∧ p z' := ⟨z, rfl, q⟩
theorem x_2 {a b : Dt} {p : Dt → Dt → Prop} (q : p a b) : ∃ a' b', [Vl.d a, Vl.d b] = [.d a', .d b'] ∧ p a' b' := ⟨a, b, rfl, q⟩
theorem x_1 {a : Dt} {p : Dt → Prop} (q : p a) : ∃ a', [Vl.d a] = [.d a'] ∧ p a' := ⟨a, rfl, q⟩
end
end K03

-- rules: mkB mkH mkC mkM mkEi mkR x_l x_h x_s x_2 x_1
namespace K03
open PySem PySem.Spec PyProof.Rows L2 FM
local macro_rules
  | `(tactic| array_get_dec) => `(tactic| (first | with_reducible refine mkB ?_ | with_reducible refine mkH ?_ | with_reducible refine mkC ?_ | with_reducible refine mkM ?_ | with_reducible refine mkEi ?_ | with_reducible refine mkR ?_ | with_reducible refine x_l ?_ | with_reducible refine x_h ?_ | with_reducible refine x_s ?_ | with_reducible refine x_2 ?_ | with_reducible refine x_1 ?_ | with_reducible refine w_seq ?_ | with_reducible refine w_asg ?_ | with_reducible refine w_drop ?_ | with_reducible refine w_ret ?_ | with_reducible refine w_retN ?_ | with_reducible refine w_next ?_ | with_reducible refine w_brk ?_ | with_reducible refine w_cnt ?_ | with_reducible refine w_if ?_ | with_reducible refine w_par ?_ | with_reducible refine w_putD ?_ | with_reducible refine w_setF ?_ | with_reducible refine w_raise ?_ | with_reducible refine w_try ?_ | with_reducible refine w_for ?_ | with_reducible refine w_c ?_ | with_reducible refine w_op ?_ | with_reducible refine w_un ?_ | with_reducible refine w_nil ?_ | with_reducible refine w_cons ?_ | with_reducible refine w_call ?_ | with_reducible refine w_cb ?_ | with_reducible refine w_cl ?_ | with_reducible refine w_clC ?_ | with_reducible refine w_tup ?_ | with_reducible refine w_lst ?_ | with_reducible refine w_lstC ?_ | with_reducible refine w_test ?_ | with_reducible refine w_and ?_ | with_reducible refine w_or ?_ | with_reducible refine w_not ?_ | with_reducible refine w_andV ?_ | with_reducible refine w_orV ?_ | with_reducible refine w_ife ?_ | with_reducible refine w_tru ?_ | with_reducible refine w_chain ?_ | with_reducible refine w_make ?_ | with_reducible refine w_make0 ?_ | with_reducible refine w_meth ?_ | with_reducible refine w_noP ?_ | with_reducible refine w_part ?_ | with_reducible refine w_sl ?_ | with_reducible refine w_slC ?_ | with_reducible refine w_pnil ?_ | with_reducible refine w_pcons ?_ | with_reducible refine w_disp ?_ | with_reducible refine w_dispC ?_ | with_reducible refine w_dnew ?_ | with_reducible refine w_it ?_ | with_reducible refine w_itA ?_ | with_reducible refine w_lc ?_ | with_reducible refine w_lcC ?_ | with_reducible refine w_gnil ?_ | with_reducible refine w_gcons ?_ | with_reducible refine w_setL ?_ | with_reducible refine w_app ?_ | with_reducible refine w_frzL ?_ | with_reducible refine w_B ?_ | with_reducible refine wo_II ?_ | with_reducible refine wo_IB ?_ | with_reducible refine wo_eqI ?_ | with_reducible refine wo_eqS ?_ | with_reducible refine wo_eqB ?_ | with_reducible refine wo_neI ?_ | with_reducible refine wo_neS ?_ | with_reducible refine wo_neB ?_ | with_reducible refine wo_intI ?_ | with_reducible refine wo_intB ?_ | with_reducible refine wo_not ?_ | with_reducible refine wo_lst ?_ | with_reducible refine wo_scr ?_ | with_reducible refine wo_itup ?_ | with_reducible refine wo_zip ?_ | with_reducible refine wo_enum ?_ | with_reducible refine wo_slT ?_ | with_reducible refine w_Xd ?_ | with_reducible refine w_yes ?_ | with_reducible refine w_t1 ?_ | with_reducible refine wo_isN0 ?_ | with_reducible refine wo_isN1 ?_ | with_reducible refine w_pk ?_ | with_reducible refine w_pki ?_ | ((with_reducible refine w_nm ?_); (try simp only [List.set_cons_succ, List.set_cons_zero])) | ((with_reducible apply w_var); (focus rfl)) | ((with_reducible refine w_gtp ?_ ?_); (focus (first | rfl | (simp; done)))) | ((with_reducible apply w_dats); (focus (first | ((simp only [dats, Option.map_some]); rfl) | rfl))) | ((with_reducible apply wo_isNf); (focus (first | rfl | assumption | (simp only [lstOf, tupOf, dctOf, seqL, isL, Option.or_none, Option.some_or, Option.none_or, *]; done) | ((simp [lstOf, tupOf, dctOf, seqL, isL, *]); (first | done | rfl))))) | ((with_reducible apply w_rl); (focus (first | rfl | assumption | (simp only [lstOf, tupOf, dctOf, seqL, isL, Option.or_none, Option.some_or, Option.none_or, *]; done) | ((simp [lstOf, tupOf, dctOf, seqL, isL, *]); (first | done | rfl))))) | ((with_reducible apply wo_rev); (focus (first | rfl | assumption | (simp only [lstOf, tupOf, dctOf, seqL, isL, Option.or_none, Option.some_or, Option.none_or, *]; done) | ((simp [lstOf, tupOf, dctOf, seqL, isL, *]); (first | done | rfl))))) | ((with_reducible apply wo_slL); (focus (first | rfl | assumption | (simp only [lstOf, tupOf, dctOf, seqL, isL, Option.or_none, Option.some_or, Option.none_or, *]; done) | ((simp [lstOf, tupOf, dctOf, seqL, isL, *]); (first | done | rfl))))) | ((with_reducible apply wo_nil); (focus (first | rfl | assumption | (simp only [lstOf, tupOf, dctOf, seqL, isL, Option.or_none, Option.some_or, Option.none_or, *]; done) | ((simp [lstOf, tupOf, dctOf, seqL, isL, *]); (first | done | rfl))))) | ((with_reducible apply wo_len); (focus (first | rfl | assumption | (simp only [lstOf, tupOf, dctOf, seqL, isL, Option.or_none, Option.some_or, Option.none_or, *]; done) | ((simp [lstOf, tupOf, dctOf, seqL, isL, *]); (first | done | rfl))))) | ((with_reducible apply wo_tup); (focus (first | rfl | assumption | (simp only [lstOf, tupOf, dctOf, seqL, isL, Option.or_none, Option.some_or, Option.none_or, *]; done) | ((simp [lstOf, tupOf, dctOf, seqL, isL, *]); (first | done | rfl))))) | ((with_reducible apply wo_list); (focus (first | rfl | assumption | (simp only [lstOf, tupOf, dctOf, seqL, isL, Option.or_none, Option.some_or, Option.none_or, *]; done) | ((simp [lstOf, tupOf, dctOf, seqL, isL, *]); (first | done | rfl))))) | (with_reducible refine wo_isN ?_) | (with_reducible refine w_i1 ?_) | (with_reducible refine w_tt ?_) | (with_reducible refine w_ff ?_) | ((with_reducible refine w_sz ?_ ?_); (focus (first | (simp; done) | (simp; omega)))) | ((with_reducible refine w_l15 ?_ ?_); (focus (simp; done))) | fail))
open Classical
theorem good_a : GName 8 "a" := ⟨⟨97, [], rfl, by decide, by decide⟩, by unfold NameCp; decide +kernel, by decide +kernel⟩
theorem good_b : GName 8 "b" := ⟨⟨98, [], rfl, by decide, by decide⟩, by unfold NameCp; decide +kernel, by decide +kernel⟩
theorem good_k : GName 8 "k" := ⟨⟨107, [], rfl, by decide, by decide⟩, by unfold NameCp; decide +kernel, by decide +kernel⟩
theorem at0 {α : Type} {a : α} {r : List α} : atI (a :: r) 0 = some a := at_nat (n := 0) rfl
theorem at1 {α : Type} {a b : α} {r : List α} : atI (a :: b :: r) 1 = some b := at_nat (n := 1) rfl
theorem shared_w {a : Dt} {ss : List Dt} {m : Cells} {Q : Vl → Cells → Prop} {E : EX} (ha : wfOne (wfRow 6 2) a) (q : Q (.d (.bl true)) m) : wR (FShared [.d (.lst (a :: ss))] m) Q E := by
  have bd2 : BodyP 6 2 6 := bodyN_w (by omega) (by omega)
  have bd4 : BodyP 6 4 6 := bodyN_w (by omega) (by omega)
  have r1 : wfRow 6 3 (.lst [a]) := ⟨[a], rfl, by simp, by simpa using ha⟩
  have r1' : wfRow 6 3 (.lst [a]) := r1
  have w1 : wfRow 6 4 (.lst [a, .tup [.str "stop", .non, .lst []], a]) := by
    refine ⟨_, rfl, by simp, fun o ho => ?_⟩
    have : o = a ∨ o = .tup [.str "stop", .non, .lst []] ∨ o = a := by simpa using ho
    rcases this with rfl | rfl | rfl
    · exact ha.mono fun r hr => hr.mono (by omega) (by decide)
    · exact .inr (.inr (.inr (.inl rfl)))
    · exact ha.mono fun r hr => hr.mono (by omega) (by decide)
  have w2 : wfRow 6 4 (.lst [.tup [.str "either", .non, .lst [.lst [a], .lst [a]]], .tup [.str "hold", .str "a", .lst [.lst [a]]], .tup [.str "rounds", .non, .lst [.lst [a]]]]) := by
    refine ⟨_, rfl, by simp, fun o ho => ?_⟩
    have : o = .tup [.str "either", .non, .lst [.lst [a], .lst [a]]] ∨ o = .tup [.str "hold", .str "a", .lst [.lst [a]]] ∨ o = .tup [.str "rounds", .non, .lst [.lst [a]]] := by simpa using ho
    rcases this with rfl | rfl | rfl
    · exact .inr (.inr (.inr (.inr (.inl ⟨_, _, rfl, r1, r1⟩))))
    · exact .inl ⟨_, _, rfl, good_a, r1⟩
    · exact .inr (.inr (.inr (.inr (.inr ⟨_, rfl, r1⟩))))
  have e5 : toS (toB 5) a = toS (toB 6) a := toS_lvl (n := 2) (by decide) (by decide) ha
  have e4 : toS (toB 4) a = toS (toB 6) a := toS_lvl (n := 2) (by decide) (by decide) ha
  have hz : szR 6 4 ≤ 1000000 := by decide +kernel
  have b1 := wfB_toB (k := 6) (by decide) w1
  have b2 := wfB_toB (k := 6) (by decide) w2
  have z1 := Nat.le_trans (sz_toB (k := 6) (by decide) w1) hz
  have z2 := Nat.le_trans (sz_toB (k := 6) (by decide) w2) hz
  have t1 : toB 6 (.lst [a, .tup [.str "stop", .non, .lst []], a]) = .ins 8 [.tup [toS (toB 6) a, .ins 7 [], toS (toB 6) a]] := by
    simp only [toB, List.map_cons, List.map_nil, toS_s, e5]
  have t2 : toB 6 (.lst [.tup [.str "either", .non, .lst [.lst [a], .lst [a]]], .tup [.str "hold", .str "a", .lst [.lst [a]]], .tup [.str "rounds", .non, .lst [.lst [a]]]]) = .ins 8 [.tup [.ins 3 [.ins 8 [.tup [toS (toB 6) a]], .ins 8 [.tup [toS (toB 6) a]]], .ins 2 [.str "a", .ins 8 [.tup [toS (toB 6) a]]], .ins 4 [.ins 8 [.tup [toS (toB 6) a]]]]] := by
    simp only [toB, List.map_cons, List.map_nil, toS_e, toS_h, toS_r, e4]
  ((show wR (runFn 1 8 (mShared) _ _) _ _); (refine w_run (g := [_, none, none, none, none, none, none, none]) (by rfl) rfl ?_); (unfold mShared))
  (repeat' array_get_dec)
  refine wo_ixL rfl at0 ?_
  (repeat' array_get_dec)
  refine one_w bd2 ha ?_
  (repeat' array_get_dec)
  refine ⟨good_a, ?_⟩
  (repeat' array_get_dec)
  refine wo_ixL rfl at0 ?_
  (repeat' array_get_dec)
  refine wo_ixL rfl at0 ?_
  (repeat' array_get_dec)
  refine wo_ixL rfl at0 ?_
  (repeat' array_get_dec)
  refine wo_ixL rfl at0 ?_
  (repeat' array_get_dec)
  rw [show (1 : Int) = ((1 : Nat) : Int) from rfl, cut_to]
  (repeat' array_get_dec)
  simp only [List.take_succ_cons, List.take_zero]
  refine w_lcMap (toB 6) (fun p hp => ?_) (by simp) ?_
  · have : p = .lst [a, .tup [.str "stop", .non, .lst []], a] ∨ p = .lst [.tup [.str "either", .non, .lst [.lst [a], .lst [a]]], .tup [.str "hold", .str "a", .lst [.lst [a]]], .tup [.str "rounds", .non, .lst [.lst [a]]]] := by simpa using hp
    (repeat' array_get_dec)
    rcases this with rfl | rfl
    · exact bd4 _ _ _ _ w1 ⟨rfl, rfl⟩
    · exact bd4 _ _ _ _ w2 ⟨rfl, rfl⟩
  simp only [List.map_cons, List.map_nil, t1, t2]
  rw [t1] at b1 z1
  rw [t2] at b2 z2
  refine wo_Q (eq_ll (n := 1) fun d hd => ?_) ?_
  · have : d = .ins 8 [.tup [toS (toB 6) a, .ins 7 [], toS (toB 6) a]] ∨ d = .ins 8 [.tup [.ins 3 [.ins 8 [.tup [toS (toB 6) a]], .ins 8 [.tup [toS (toB 6) a]]], .ins 2 [.str "a", .ins 8 [.tup [toS (toB 6) a]]], .ins 4 [.ins 8 [.tup [toS (toB 6) a]]]]] := by simpa using hd
    rcases this with rfl | rfl
    · exact .inr (.inr (.inr ⟨b1, z1⟩))
    · exact .inr (.inr (.inr ⟨b2, z2⟩))
  (repeat' array_get_dec)
  refine w_bt rfl ?_
  (repeat' array_get_dec)
  refine wo_ixL rfl at0 ?_
  (repeat' array_get_dec)
  refine wo_ixL rfl (at_nat (n := 1) rfl) ?_
  refine wo_Q (eq_BB b1 b2 z1) ?_
  (repeat' array_get_dec)
  rw [List.take_length]
  simpa using q
end K03

-- rules: mkB mkH mkC mkM mkEi mkR x_l x_h x_s x_2 x_1
namespace K03
open PySem PySem.Spec PyProof.Rows L2 FM
local macro_rules
  | `(tactic| array_get_dec) => `(tactic| (first | with_reducible refine mkB ?_ | with_reducible refine mkH ?_ | with_reducible refine mkC ?_ | with_reducible refine mkM ?_ | with_reducible refine mkEi ?_ | with_reducible refine mkR ?_ | with_reducible refine x_l ?_ | with_reducible refine x_h ?_ | with_reducible refine x_s ?_ | with_reducible refine x_2 ?_ | with_reducible refine x_1 ?_ | with_reducible refine w_seq ?_ | with_reducible refine w_asg ?_ | with_reducible refine w_drop ?_ | with_reducible refine w_ret ?_ | with_reducible refine w_retN ?_ | with_reducible refine w_next ?_ | with_reducible refine w_brk ?_ | with_reducible refine w_cnt ?_ | with_reducible refine w_if ?_ | with_reducible refine w_par ?_ | with_reducible refine w_putD ?_ | with_reducible refine w_setF ?_ | with_reducible refine w_raise ?_ | with_reducible refine w_try ?_ | with_reducible refine w_for ?_ | with_reducible refine w_c ?_ | with_reducible refine w_op ?_ | with_reducible refine w_un ?_ | with_reducible refine w_nil ?_ | with_reducible refine w_cons ?_ | with_reducible refine w_call ?_ | with_reducible refine w_cb ?_ | with_reducible refine w_cl ?_ | with_reducible refine w_clC ?_ | with_reducible refine w_tup ?_ | with_reducible refine w_lst ?_ | with_reducible refine w_lstC ?_ | with_reducible refine w_test ?_ | with_reducible refine w_and ?_ | with_reducible refine w_or ?_ | with_reducible refine w_not ?_ | with_reducible refine w_andV ?_ | with_reducible refine w_orV ?_ | with_reducible refine w_ife ?_ | with_reducible refine w_tru ?_ | with_reducible refine w_chain ?_ | with_reducible refine w_make ?_ | with_reducible refine w_make0 ?_ | with_reducible refine w_meth ?_ | with_reducible refine w_noP ?_ | with_reducible refine w_part ?_ | with_reducible refine w_sl ?_ | with_reducible refine w_slC ?_ | with_reducible refine w_pnil ?_ | with_reducible refine w_pcons ?_ | with_reducible refine w_disp ?_ | with_reducible refine w_dispC ?_ | with_reducible refine w_dnew ?_ | with_reducible refine w_it ?_ | with_reducible refine w_itA ?_ | with_reducible refine w_lc ?_ | with_reducible refine w_lcC ?_ | with_reducible refine w_gnil ?_ | with_reducible refine w_gcons ?_ | with_reducible refine w_setL ?_ | with_reducible refine w_app ?_ | with_reducible refine w_frzL ?_ | with_reducible refine w_B ?_ | with_reducible refine wo_II ?_ | with_reducible refine wo_IB ?_ | with_reducible refine wo_eqI ?_ | with_reducible refine wo_eqS ?_ | with_reducible refine wo_eqB ?_ | with_reducible refine wo_neI ?_ | with_reducible refine wo_neS ?_ | with_reducible refine wo_neB ?_ | with_reducible refine wo_intI ?_ | with_reducible refine wo_intB ?_ | with_reducible refine wo_not ?_ | with_reducible refine wo_lst ?_ | with_reducible refine wo_scr ?_ | with_reducible refine wo_itup ?_ | with_reducible refine wo_zip ?_ | with_reducible refine wo_enum ?_ | with_reducible refine wo_slT ?_ | with_reducible refine w_Xd ?_ | with_reducible refine w_yes ?_ | with_reducible refine w_t1 ?_ | with_reducible refine wo_isN0 ?_ | with_reducible refine wo_isN1 ?_ | with_reducible refine w_pk ?_ | with_reducible refine w_pki ?_ | ((with_reducible refine w_nm ?_); (try simp only [List.set_cons_succ, List.set_cons_zero])) | ((with_reducible apply w_var); (focus rfl)) | ((with_reducible refine w_gtp ?_ ?_); (focus (first | rfl | (simp; done)))) | ((with_reducible apply w_dats); (focus (first | ((simp only [dats, Option.map_some]); rfl) | rfl))) | ((with_reducible apply wo_isNf); (focus (first | rfl | assumption | (simp only [lstOf, tupOf, dctOf, seqL, isL, Option.or_none, Option.some_or, Option.none_or, *]; done) | ((simp [lstOf, tupOf, dctOf, seqL, isL, *]); (first | done | rfl))))) | ((with_reducible apply w_rl); (focus (first | rfl | assumption | (simp only [lstOf, tupOf, dctOf, seqL, isL, Option.or_none, Option.some_or, Option.none_or, *]; done) | ((simp [lstOf, tupOf, dctOf, seqL, isL, *]); (first | done | rfl))))) | ((with_reducible apply wo_rev); (focus (first | rfl | assumption | (simp only [lstOf, tupOf, dctOf, seqL, isL, Option.or_none, Option.some_or, Option.none_or, *]; done) | ((simp [lstOf, tupOf, dctOf, seqL, isL, *]); (first | done | rfl))))) | ((with_reducible apply wo_slL); (focus (first | rfl | assumption | (simp only [lstOf, tupOf, dctOf, seqL, isL, Option.or_none, Option.some_or, Option.none_or, *]; done) | ((simp [lstOf, tupOf, dctOf, seqL, isL, *]); (first | done | rfl))))) | ((with_reducible apply wo_nil); (focus (first | rfl | assumption | (simp only [lstOf, tupOf, dctOf, seqL, isL, Option.or_none, Option.some_or, Option.none_or, *]; done) | ((simp [lstOf, tupOf, dctOf, seqL, isL, *]); (first | done | rfl))))) | ((with_reducible apply wo_len); (focus (first | rfl | assumption | (simp only [lstOf, tupOf, dctOf, seqL, isL, Option.or_none, Option.some_or, Option.none_or, *]; done) | ((simp [lstOf, tupOf, dctOf, seqL, isL, *]); (first | done | rfl))))) | ((with_reducible apply wo_tup); (focus (first | rfl | assumption | (simp only [lstOf, tupOf, dctOf, seqL, isL, Option.or_none, Option.some_or, Option.none_or, *]; done) | ((simp [lstOf, tupOf, dctOf, seqL, isL, *]); (first | done | rfl))))) | ((with_reducible apply wo_list); (focus (first | rfl | assumption | (simp only [lstOf, tupOf, dctOf, seqL, isL, Option.or_none, Option.some_or, Option.none_or, *]; done) | ((simp [lstOf, tupOf, dctOf, seqL, isL, *]); (first | done | rfl))))) | (with_reducible refine wo_isN ?_) | (with_reducible refine w_i1 ?_) | (with_reducible refine w_tt ?_) | (with_reducible refine w_ff ?_) | ((with_reducible refine w_sz ?_ ?_); (focus (first | (simp; done) | (simp; omega)))) | ((with_reducible refine w_l15 ?_ ?_); (focus (simp; done))) | fail))
open Classical
theorem w_par3 {i j l : Nat} {mr : MA} {g : Gam} {m : Cells} {pN pB pC : PN} {pR : PR} {pX : PX} (h : wR (mr g m) (fun vs m1 => ∃ u v w, vs = [u, v, w] ∧ pN (((g.set i (some u)).set j (some v)).set l (some w)) m1) (fun c fs m => pX c fs g m)) : wS (mPar3 i j l mr g m) pN pR pB pC pX :=
  w_then (wR_mono h fun vs m1 ⟨u, v, w, e, q⟩ => by subst e; exact sN.symm ▸ q)
theorem w_gul {n : Nat} {mr : MGs} {ds : List Dt} {v : Vl} {g : Gam} {m : Cells} {N : Gam × Cells → Prop} (hl : lstOf m v = some ds) (hn : ds.length = n) (h : wO (mr ds g m) N) : wO (gUl n mr v g m) N := by
  have e : gUl n mr v g m = mr ds g m := by unfold gUl; simp only [hl, if_pos hn]
  rw [e]; exact h
theorem rangeD_drop {n i : Nat} (h : i < n) : (rangeD 0 n).drop i = .int (i : Nat) :: (rangeD 0 n).drop (i + 1) := by
  have hl : i < (rangeD 0 n).length := by rw [rangeD_len]; exact h
  rw [List.drop_eq_getElem_cons hl]
  have := (rangeD_get (lo := 0) (n := n) (i := i) (d := (rangeD 0 n)[i]) (List.getElem?_eq_getElem hl)).2
  rw [this]; simp
theorem w_rng {mg : MG} {s : MS} {pN pB pC : PN} {pR : PR} {pX : PX} {g : Gam} {m : Cells} (n : Nat) (I : Nat → Gam → Cells → Prop)
    (hs : ∀ i, i < n → ∀ g m, I i g m → wO (mg (.d (.int (i : Nat))) g m) fun p => wS (s p.1 p.2) (I (i + 1)) pR pN (I (i + 1)) pX)
    (he : ∀ g m, I n g m → pN g m) (h0 : I 0 g m) : wS (mLoop mg s (rangeD 0 n) g m) pN pR pB pC pX := by
  refine w_loop (fun r g m => ∃ i, i ≤ n ∧ r = (rangeD 0 n).drop i ∧ I i g m) ?_ ?_ _ _ _ ⟨0, Nat.zero_le n, rfl, h0⟩
  · rintro x r g m ⟨i, hi, e, h⟩
    by_cases hn : i < n
    · rw [rangeD_drop hn] at e
      cases e
      obtain ⟨p, e, h⟩ := wO_ok (hs i hn g m h)
      exact wO_eq e (wS_mono h (fun g m h => ⟨i + 1, hn, rfl, h⟩) (fun _ _ h => h) (fun _ _ h => h) (fun g m h => ⟨i + 1, hn, rfl, h⟩) (fun _ _ _ _ h => h))
    · rw [List.drop_eq_nil_of_le (by rw [rangeD_len]; omega)] at e
      cases e
  · rintro g m ⟨i, hi, e, h⟩
    have : ¬ i < n := fun hn => by rw [rangeD_drop hn] at e; cases e
    have : i = n := by omega
    subst this
    exact he g m h
/-! ### bodies a thousand deep -/
def dpS (i : Nat) (b : Dt) : Dt := match i % 4 with
  | 0 => .ins 2 [.str "k", b]
  | 1 => .ins 4 [b]
  | 2 => .ins 3 [b, .ins 8 [.tup []]]
  | _ => .ins 3 [.ins 8 [.tup [.ins 7 []]], b]
def dpB (kd : Nat) (z : Str) : Nat → Dt
  | 0 => .ins 8 [.tup [.ins 6 [.str z]]]
  | k + 1 => .ins 8 [.tup [dpS (kd + k / 7) (dpB kd z k)]]
theorem four {n : Nat} : n % 4 = 0 ∨ n % 4 = 1 ∨ n % 4 = 2 ∨ n % 4 = 3 := by omega
theorem wf_dpS {i : Nat} {b : Dt} (h : wfB b = true) : wfS (dpS i b) = true := by
  unfold dpS
  rcases four (n := i) with e | e | e | e <;> simp [e, wfS, h, wfB, wfSs]
theorem wf_dpB {kd : Nat} {z : Str} : ∀ {k : Nat}, wfB (dpB kd z k) = true
  | 0 => rfl
  | k + 1 => by simp [dpB, wfB, wfSs, wf_dpS (wf_dpB (kd := kd) (z := z) (k := k))]
theorem sz_dpS {i : Nat} {b : Dt} : szD (dpS i b) ≤ 12 + szD b := by
  unfold dpS
  rcases four (n := i) with e | e | e | e <;> simp [e, szD, szsD] <;> omega
theorem sz_dpB {kd : Nat} {z : Str} : ∀ {k : Nat}, szD (dpB kd z k) ≤ 8 + 16 * k
  | 0 => by simp [dpB, szD, szsD]
  | k + 1 => by
    have := sz_dpB (kd := kd) (z := z) (k := k)
    have h2 := sz_dpS (i := kd + k / 7) (b := dpB kd z k)
    simp only [dpB, szD, szsD]
    omega
theorem dpS_inj {i : Nat} {b b' : Dt} (h : dpS i b = dpS i b') : b = b' := by
  unfold dpS at h
  rcases four (n := i) with e | e | e | e <;> simp [e] at h <;> exact h
theorem dpB_inj {kd : Nat} {z z' : Str} : ∀ {k : Nat}, dpB kd z k = dpB kd z' k → z = z'
  | 0, h => by simpa [dpB] using h
  | k + 1, h => by
    simp only [dpB, Dt.ins.injEq, Dt.tup.injEq, List.cons.injEq, true_and, and_true] at h
    exact dpB_inj (dpS_inj h)
theorem dp_at {kd i : Nat} {b : Dt} : atI [.ins 2 [.str "k", b], .ins 4 [b], .ins 3 [b, .ins 8 [.tup []]], .ins 3 [.ins 8 [.tup [.ins 7 []]], b]] (((kd : Int) + (i : Int) / 7) % 4) = some (dpS (kd + i / 7) b) := by
  have e : ((kd : Int) + (i : Int) / 7) % 4 = (((kd + i / 7) % 4 : Nat) : Int) := by omega
  rw [e]
  refine at_nat ?_
  unfold dpS
  rcases four (n := kd + i / 7) with e | e | e | e <;> simp [e]
theorem thousands_w {m : Cells} {k : Nat} {Q : Vl → Cells → Prop} {E : EX} (h : stOk m k) (q : ∀ x, stX x → Q (.d (.bl true)) (m.set k (some x))) : wR (FThousands [.ref k] m) Q E := by
  have hk := h.lt
  ((show wR (runFn 1 10 (mThousands) _ _) _ _); (refine w_run (g := [_, none, none, none, none, none, none, none, none, none]) (by rfl) rfl ?_); (unfold mThousands))
  (repeat' array_get_dec)
  refine w_par3 ?_
  (repeat' array_get_dec)
  refine digit_w h (by decide) (by decide) fun r1 x1 a1 b1 hx1 => ?_
  (repeat' array_get_dec)
  refine digit_w (h.set hx1) (by decide) (by decide) fun r2 x2 a2 b2 hx2 => ?_
  rw [List.set_set]
  (repeat' array_get_dec)
  refine ⟨_, _, _, rfl, ?_⟩
  simp only [List.set_cons_succ, List.set_cons_zero]
  (repeat' array_get_dec)
  obtain ⟨n1, rfl⟩ := Int.eq_ofNat_of_zero_le a1
  obtain ⟨kd, rfl⟩ := Int.eq_ofNat_of_zero_le a2
  have en : (1100 : Int) + (n1 : Nat) = ((1100 + n1 : Nat) : Int) := by omega
  rw [en]
  have hl : (m.set k (some x2)).length = m.length := by simp
  rw [hl]
  generalize em : m.set k (some x2) = M at hl ⊢
  have hn1 : n1 < 300 := by omega
  refine w_loop (fun r g m' => ∃ (zs : List Str) (x4 x5 x6 x7 : Option Vl), zs.map Dt.str ++ r = [.str "a", .str "a", .str "b"] ∧ g = [some (.ref k), some (.d (.int ((1100 + n1 : Nat) : Int))), some (.d (.int (kd : Nat))), some (.ref m.length), x4, x5, x6, x7, none, none] ∧ m' = M ++ [some (.lst (zs.map fun z => dpB kd z (1100 + n1)))]) ?_ ?_ _ _ _ ?_
  · rintro y r g m' ⟨zs, x4, x5, x6, x7, c1, rfl, rfl⟩
    obtain ⟨z, rfl, gz⟩ : ∃ z, y = .str z ∧ GName 8 z := by
      have : y ∈ ([.str "a", .str "a", .str "b"] : List Dt) := by rw [← c1]; simp
      simp at this
      rcases this with rfl | rfl
      · exact ⟨_, rfl, good_a⟩
      · exact ⟨_, rfl, good_b⟩
    have hz3 : zs.length ≤ 3 := by
      have := congrArg List.length c1
      simp at this; omega
    (repeat' array_get_dec)
    refine ⟨gz, ?_⟩
    (repeat' array_get_dec)
    refine wo_rng1 ⟨by omega, by omega⟩ ?_
    rw [Int.toNat_natCast]
    refine w_rng (1100 + n1) (fun i g m' => ∃ (x6 x7 : Option Vl), g = [some (.ref k), some (.d (.int ((1100 + n1 : Nat) : Int))), some (.d (.int (kd : Nat))), some (.ref m.length), some (.d (.str z)), some (.d (dpB kd z i)), x6, x7, none, none] ∧ m' = M ++ [some (.lst (zs.map fun z => dpB kd z (1100 + n1)))]) ?_ ?_ ?_
    · rintro i hi g m' ⟨x6, x7, rfl, rfl⟩
      (repeat' array_get_dec)
      refine ⟨good_k, ?_⟩
      (repeat' array_get_dec)
      refine wo_Ic (decide_eq_true ⟨by decide, by decide⟩) ?_
      (repeat' array_get_dec)
      refine wo_Ic rfl ?_
      (repeat' array_get_dec)
      refine wo_ixL rfl dp_at ?_
      (repeat' array_get_dec)
      first | exact ⟨_, _, rfl, rfl⟩ | exact ⟨_, _, rfl, trivial⟩
    · rintro g m' ⟨x6, x7, rfl, rfl⟩
      (repeat' array_get_dec)
      refine w_ad (ds := zs.map fun z => dpB kd z (1100 + n1)) (by simp [← hl]) (by simp; omega) ?_
      refine ⟨zs ++ [z], _, _, _, _, by simpa using c1, rfl, ?_⟩
      rw [← hl, set_last]
      simp
    · exact ⟨_, _, rfl, rfl⟩
  · rintro g m' ⟨zs, x4, x5, x6, x7, c1, rfl, rfl⟩
    rw [List.append_nil] at c1
    have ez : zs = (["a", "a", "b"] : List Str) := by
      match zs, c1 with
      | [p, q, r], c1 => simp at c1; rw [c1.1, c1.2.1, c1.2.2]
    subst ez
    (repeat' array_get_dec)
    refine w_gul (ds := [dpB kd "a" (1100 + n1), dpB kd "a" (1100 + n1), dpB kd "b" (1100 + n1)]) (by simp [lstOf, ← hl]) rfl ?_
    (repeat' array_get_dec)
    have wa : wfB (dpB kd "a" (1100 + n1)) = true := wf_dpB
    have wb : wfB (dpB kd "b" (1100 + n1)) = true := wf_dpB
    have za : szD (dpB kd "a" (1100 + n1)) ≤ 900000 := Nat.le_trans sz_dpB (by omega)
    have zb : szD (dpB kd "b" (1100 + n1)) ≤ 900000 := Nat.le_trans sz_dpB (by omega)
    have nab : ¬ dpB kd "a" (1100 + n1) = dpB kd "b" (1100 + n1) := fun h => absurd (dpB_inj h) (by decide +kernel)
    generalize dpB kd "a" (1100 + n1) = A at wa za nab ⊢
    generalize dpB kd "b" (1100 + n1) = B at wb zb nab ⊢
    have nba : ¬ B = A := fun h => nab h.symm
    have sa : wfS (.ins 4 [A]) = true := by simp [wfS, wa]
    have sb : wfS (.ins 4 [B]) = true := by simp [wfS, wb]
    have ya : szD (.ins 4 [A]) ≤ 1000000 := by simp [szD, szsD]; omega
    refine wo_Q (eq_BB wa wa (by omega)) ?_
    (repeat' array_get_dec)
    refine w_bf (by simp) ?_
    (repeat' array_get_dec)
    refine wo_Q (eq_BB wa wa (by omega)) ?_
    (repeat' array_get_dec)
    refine w_bf (by simp) ?_
    (repeat' array_get_dec)
    refine wo_Q (eq_BB wa wb (by omega)) ?_
    (repeat' array_get_dec)
    refine w_bf (by simp [nab]) ?_
    (repeat' array_get_dec)
    refine wo_Q (eq_BB wb wa (by omega)) ?_
    (repeat' array_get_dec)
    refine w_bf (by simp [nba]) ?_
    (repeat' array_get_dec)
    refine wo_Q (eq_SS sa sa ya) ?_
    (repeat' array_get_dec)
    refine w_bt (by simp) ?_
    (repeat' array_get_dec)
    refine wo_Q (eq_SS sa sb ya) ?_
    (repeat' array_get_dec)
    refine w_bt (by simp [nab]) ?_
    (repeat' array_get_dec)
    have oa := okB_ A wa
    obtain ⟨ss, rfl, hss⟩ := wfB_cases wa
    refine wo_fld (n := 0) rfl rfl ?_
    refine wo_Q (eq_Bo wa (by simpa [okB, okD, oksD, insD, inssD] using oa) (.inr (.inr ⟨_, rfl⟩))) ?_
    (repeat' array_get_dec)
    have et : ∀ c, (M ++ [c]).take m.length = M := fun c => by simp [← hl]
    show Q (.d (.bl true)) ((M ++ [_]).take m.length)
    rw [et, ← em]
    exact q x2 hx2
  · exact ⟨[], none, none, none, none, rfl, rfl, rfl⟩
end K03

-- rules: mkB mkH mkC mkM mkEi mkR x_l x_h x_s x_2 x_1
namespace K03
open PySem PySem.Spec PyProof.Rows L2 FM
local macro_rules
  | `(tactic| array_get_dec) => `(tactic| (first | with_reducible refine mkB ?_ | with_reducible refine mkH ?_ | with_reducible refine mkC ?_ | with_reducible refine mkM ?_ | with_reducible refine mkEi ?_ | with_reducible refine mkR ?_ | with_reducible refine x_l ?_ | with_reducible refine x_h ?_ | with_reducible refine x_s ?_ | with_reducible refine x_2 ?_ | with_reducible refine x_1 ?_ | with_reducible refine w_seq ?_ | with_reducible refine w_asg ?_ | with_reducible refine w_drop ?_ | with_reducible refine w_ret ?_ | with_reducible refine w_retN ?_ | with_reducible refine w_next ?_ | with_reducible refine w_brk ?_ | with_reducible refine w_cnt ?_ | with_reducible refine w_if ?_ | with_reducible refine w_par ?_ | with_reducible refine w_putD ?_ | with_reducible refine w_setF ?_ | with_reducible refine w_raise ?_ | with_reducible refine w_try ?_ | with_reducible refine w_for ?_ | with_reducible refine w_c ?_ | with_reducible refine w_op ?_ | with_reducible refine w_un ?_ | with_reducible refine w_nil ?_ | with_reducible refine w_cons ?_ | with_reducible refine w_call ?_ | with_reducible refine w_cb ?_ | with_reducible refine w_cl ?_ | with_reducible refine w_clC ?_ | with_reducible refine w_tup ?_ | with_reducible refine w_lst ?_ | with_reducible refine w_lstC ?_ | with_reducible refine w_test ?_ | with_reducible refine w_and ?_ | with_reducible refine w_or ?_ | with_reducible refine w_not ?_ | with_reducible refine w_andV ?_ | with_reducible refine w_orV ?_ | with_reducible refine w_ife ?_ | with_reducible refine w_tru ?_ | with_reducible refine w_chain ?_ | with_reducible refine w_make ?_ | with_reducible refine w_make0 ?_ | with_reducible refine w_meth ?_ | with_reducible refine w_noP ?_ | with_reducible refine w_part ?_ | with_reducible refine w_sl ?_ | with_reducible refine w_slC ?_ | with_reducible refine w_pnil ?_ | with_reducible refine w_pcons ?_ | with_reducible refine w_disp ?_ | with_reducible refine w_dispC ?_ | with_reducible refine w_dnew ?_ | with_reducible refine w_it ?_ | with_reducible refine w_itA ?_ | with_reducible refine w_lc ?_ | with_reducible refine w_lcC ?_ | with_reducible refine w_gnil ?_ | with_reducible refine w_gcons ?_ | with_reducible refine w_setL ?_ | with_reducible refine w_app ?_ | with_reducible refine w_frzL ?_ | with_reducible refine w_B ?_ | with_reducible refine wo_II ?_ | with_reducible refine wo_IB ?_ | with_reducible refine wo_eqI ?_ | with_reducible refine wo_eqS ?_ | with_reducible refine wo_eqB ?_ | with_reducible refine wo_neI ?_ | with_reducible refine wo_neS ?_ | with_reducible refine wo_neB ?_ | with_reducible refine wo_intI ?_ | with_reducible refine wo_intB ?_ | with_reducible refine wo_not ?_ | with_reducible refine wo_lst ?_ | with_reducible refine wo_scr ?_ | with_reducible refine wo_itup ?_ | with_reducible refine wo_zip ?_ | with_reducible refine wo_enum ?_ | with_reducible refine wo_slT ?_ | with_reducible refine w_Xd ?_ | with_reducible refine w_yes ?_ | with_reducible refine w_t1 ?_ | with_reducible refine wo_isN0 ?_ | with_reducible refine wo_isN1 ?_ | with_reducible refine w_pk ?_ | with_reducible refine w_pki ?_ | ((with_reducible refine w_nm ?_); (try simp only [List.set_cons_succ, List.set_cons_zero])) | ((with_reducible apply w_var); (focus rfl)) | ((with_reducible refine w_gtp ?_ ?_); (focus (first | rfl | (simp; done)))) | ((with_reducible apply w_dats); (focus (first | ((simp only [dats, Option.map_some]); rfl) | rfl))) | ((with_reducible apply wo_isNf); (focus (first | rfl | assumption | (simp only [lstOf, tupOf, dctOf, seqL, isL, Option.or_none, Option.some_or, Option.none_or, *]; done) | ((simp [lstOf, tupOf, dctOf, seqL, isL, *]); (first | done | rfl))))) | ((with_reducible apply w_rl); (focus (first | rfl | assumption | (simp only [lstOf, tupOf, dctOf, seqL, isL, Option.or_none, Option.some_or, Option.none_or, *]; done) | ((simp [lstOf, tupOf, dctOf, seqL, isL, *]); (first | done | rfl))))) | ((with_reducible apply wo_rev); (focus (first | rfl | assumption | (simp only [lstOf, tupOf, dctOf, seqL, isL, Option.or_none, Option.some_or, Option.none_or, *]; done) | ((simp [lstOf, tupOf, dctOf, seqL, isL, *]); (first | done | rfl))))) | ((with_reducible apply wo_slL); (focus (first | rfl | assumption | (simp only [lstOf, tupOf, dctOf, seqL, isL, Option.or_none, Option.some_or, Option.none_or, *]; done) | ((simp [lstOf, tupOf, dctOf, seqL, isL, *]); (first | done | rfl))))) | ((with_reducible apply wo_nil); (focus (first | rfl | assumption | (simp only [lstOf, tupOf, dctOf, seqL, isL, Option.or_none, Option.some_or, Option.none_or, *]; done) | ((simp [lstOf, tupOf, dctOf, seqL, isL, *]); (first | done | rfl))))) | ((with_reducible apply wo_len); (focus (first | rfl | assumption | (simp only [lstOf, tupOf, dctOf, seqL, isL, Option.or_none, Option.some_or, Option.none_or, *]; done) | ((simp [lstOf, tupOf, dctOf, seqL, isL, *]); (first | done | rfl))))) | ((with_reducible apply wo_tup); (focus (first | rfl | assumption | (simp only [lstOf, tupOf, dctOf, seqL, isL, Option.or_none, Option.some_or, Option.none_or, *]; done) | ((simp [lstOf, tupOf, dctOf, seqL, isL, *]); (first | done | rfl))))) | ((with_reducible apply wo_list); (focus (first | rfl | assumption | (simp only [lstOf, tupOf, dctOf, seqL, isL, Option.or_none, Option.some_or, Option.none_or, *]; done) | ((simp [lstOf, tupOf, dctOf, seqL, isL, *]); (first | done | rfl))))) | (with_reducible refine wo_isN ?_) | (with_reducible refine w_i1 ?_) | (with_reducible refine w_tt ?_) | (with_reducible refine w_ff ?_) | ((with_reducible refine w_sz ?_ ?_); (focus (first | (simp; done) | (simp; omega)))) | ((with_reducible refine w_l15 ?_ ?_); (focus (simp; done))) | fail))
open Classical
theorem calm_Bn {x : Dt} : Calm (FBoEq FIsSame) x .non false := fun m => by
  have e1 : isiQ isi_Body .non = some false := by decide +kernel
  unfold FBoEq runFn mBoEq
  simp [mSeq, mIfS, mTest, mOp, mVar, mC, mAsg, mRet, gNm, thenG, Rs.bind, Rs.then, ofO, exitF, mCons, mNil, mCall, mNext, mCB, mDrop, turn, mItA, mIt, mFor, sz_lit, mUn, mAndV, oIsi, kdOf, kdD, e1]
theorem eq_Bn {x : Dt} {neg : Bool} {n : Nat} (hx : wfB x = true) : qT E_Z n neg x .non = some false := by
  have hox := okB_ x hx
  have hr : rfl1 x .non (some false) = some false := rfl1_false fun e => by subst e; simp [wfB] at hx
  have hq := calmQ_of (calm_Bn (x := x))
  have n8 : nfD (nfT nfC nfK) 8 .non = true := rfl
  have ho : okB 10 .non = true := rfl
  have h : qOwn E_Z neg x .non = some false := by
    obtain ⟨ss, rfl, _⟩ := wfB_cases hx
    simp [qOwn, E_Z, FM.Eqs.N, K03.mkE, hox, ho, hq, hr, n8]
  obtain ⟨c, fs, rfl⟩ := B_ins hx
  rw [qT_ins, h]
theorem merge_dm {ks ps ms : List Str} {s : Int} : Cell.dct (mergeD [] [] [((.inr "keys" : L2.Key), Dt.lst (ks.map .str)), (.inr "parts", .lst (ps.map .str)), (.inr "marks", .lst (ms.map .str)), (.inr "still", .int s)]).1 (mergeD [] [] [((.inr "keys" : L2.Key), Dt.lst (ks.map .str)), (.inr "parts", .lst (ps.map .str)), (.inr "marks", .lst (ms.map .str)), (.inr "still", .int s)]).2 = dmC ks ps ms s := by
  simp [mergeD, dPutK, dPutV, hasK, dRepl, dmC, n1, n2, n3, n4, n5, n6]
theorem body_ok {ns : List Int} {c : Int} {M : Cells} {x2 x3 x4 x5 x6 x7 x8 x9 : Option Vl} {r : List Dt} {pB pC : PN} {pR : PR} {pX : PX} (hd : ∀ d ∈ Dt.int c :: r, ∃ c, d = Dt.int c) : True := trivial
def LInv (ns : List Int) (r : List Dt) (g : Gam) (m' : Cells) : Prop := ∃ (x1 x2 x3 x4 x5 x6 x7 x8 x9 : Option Vl), (∀ d ∈ r, ∃ c, d = Dt.int c) ∧ g = [some (.d (.scr (ns.map Dt.int))), x1, x2, x3, x4, x5, x6, x7, x8, x9]
theorem law_ok (ns : List Int) (hl : ns.length ≤ 63) : FLaw [.d (.scr (ns.map Dt.int))] [] = .ok (.d (.bl true)) [] := by
  suffices h : wR (FLaw [.d (.scr (ns.map Dt.int))] []) (fun v m => v = .d (.bl true) ∧ m = []) eNo by
    obtain ⟨v, m, e, rfl, rfl⟩ := wR_ok h
    exact e
  have bd : BodyP 14 3 6 := bodyN_w (by omega) (by omega)
  have hints : ∀ d ∈ ns.map Dt.int ++ [.int 0], ∃ c, d = Dt.int c := fun d hd => by
    rcases List.mem_append.mp hd with hd | hd
    · obtain ⟨c, _, rfl⟩ := List.mem_map.mp hd; exact ⟨c, rfl⟩
    · exact ⟨0, List.mem_singleton.mp hd⟩
  ((show wR (runFn 1 10 (mLaw) _ _) _ _); (refine w_run (g := [_, none, none, none, none, none, none, none, none, none]) (by rfl) rfl ?_); (unfold mLaw))
  (repeat' array_get_dec)
  refine wo_catL (ds := ns.map Dt.int) (es := [.int 0]) rfl rfl (by simp; omega) ?_
  (repeat' array_get_dec)
  obtain ⟨d0, e0, hd0⟩ := at_lt (xs := ns.map Dt.int ++ [.int 0]) (i := 0) (by decide) (by simp)
  obtain ⟨c0, rfl⟩ := hints d0 hd0
  refine wo_ixL rfl e0 ?_
  (repeat' array_get_dec)
  refine state_w fun x hx => ?_
  (repeat' array_get_dec)
  refine thousands_w (k := 0) ⟨x, rfl, hx⟩ fun x' hx' => ?_
  (repeat' array_get_dec)
  refine w_bf rfl ?_
  (repeat' array_get_dec)
  refine wo_catL (ds := ns.map Dt.int) (es := [.int 0]) rfl rfl (by simp; omega) ?_
  (repeat' array_get_dec)
  rw [show (8 : Int) = ((8 : Nat) : Int) from rfl, cut_to]
  (repeat' array_get_dec)
  refine w_loop (LInv ns) ?_ ?_ _ _ _ ?_
  · rintro y r g M ⟨x1, x2, x3, x4, x5, x6, x7, x8, x9, hd, rfl⟩
    obtain ⟨c, rfl⟩ := hd y (by simp)
    (repeat' array_get_dec)
    refine state_w fun x hx => ?_
    (repeat' array_get_dec)
    have h0 : stOk (M ++ [some x]) M.length := ⟨x, get_last, hx⟩
    refine names_w (n := 3) (by decide) h0 fun ks xa lk gk nk hxa => ?_
    rw [set_last]
    (repeat' array_get_dec)
    refine names_w (n := 2) (by decide) ⟨xa, get_last, hxa⟩ fun ps xb lp gp np hxb => ?_
    rw [set_last]
    (repeat' array_get_dec)
    refine names_w (n := 2) (by decide) ⟨xb, get_last, hxb⟩ fun ms xc lm gm nm hxc => ?_
    rw [set_last]
    (repeat' array_get_dec)
    rw [merge_dm]
    have eL : (M ++ [some xc]).length = M.length + 1 := by simp
    rw [eL]
    have N : Nms ks ps ms := ⟨by omega, by omega, by omega, by omega, by omega, by omega, gk, gp, gm⟩
    have em : M ++ [some xc] ++ [some (dmC ks ps ms 9)] = mm (M ++ [some xc] ++ [some (dmC ks ps ms 9)]) M.length (M.length + 1) ks ps ms xc 9 := (mm_id (by simp) (by simp)).symm
    rw [em]
    have hk : M.length < (M ++ [some xc] ++ [some (dmC ks ps ms 9)]).length := by simp
    have hj : M.length + 1 < (M ++ [some xc] ++ [some (dmC ks ps ms 9)]).length := by simp
    clear em
    generalize M ++ [some xc] ++ [some (dmC ks ps ms 9)] = m0 at hk hj ⊢
    have hne : M.length + 1 ≠ M.length := by omega
    rw [show (2 : Int) = ((2 : Nat) : Int) from rfl]
    refine row_w N 5 m0 M.length (M.length + 1) _ _ 2 _ _ hne hk hj hxc (by decide) fun row1 y1 s1 w1 hy1 => ?_
    (repeat' array_get_dec)
    refine row_w N 5 m0 M.length (M.length + 1) _ _ 2 _ _ hne hk hj hy1 (by decide) fun row2 y2 s2 w2 hy2 => ?_
    have w1' := w1
    have w2' := w2
    obtain ⟨r1, rfl, l1, q1⟩ := w1'
    obtain ⟨r2, rfl, l2, q2⟩ := w2'
    refine wo_catL rfl rfl (by omega) ?_
    have hrow : wfRow 6 3 (.lst (r1 ++ r2)) := w1.app w2
    have hlr : (r1 ++ r2).length ≤ 6 := by simp; omega
    generalize r1 ++ r2 = row at hrow hlr ⊢
    have bw : wfB (toB 6 (.lst row)) = true := wfB_toB (by decide) hrow
    have ok6 := okB_ _ bw
    have okT : okB 10 (.tup (row.map (toS (toB 5)))) = true := by
      have e : toB 6 (.lst row) = .ins 8 [.tup (row.map (toS (toB 5)))] := rfl
      rw [e] at ok6
      simpa [okB, okD, oksD, insD, inssD] using ok6
    have okL : okB 10 (.lst (row.map (toS (toB 5)))) = true := by simpa [okB, okD, insD] using okT
    (repeat' array_get_dec)
    refine digit_m hne hk hy2 (by decide) (by decide) fun dg y3 d0 d1 hy3 => ?_
    (repeat' array_get_dec)
    refine w_d (fun hp => ?_) (fun hp => ?_)
    · (repeat' array_get_dec)
      refine oth_w N (W := 6) (by omega) 5 m0 M.length (M.length + 1) _ _ 3 _ _ _ hne hk hj hy3 (by decide) hrow fun row' y4 w4 hy4 => ?_
      have hoth := w4
      obtain ⟨oth, rfl, lo, qo⟩ := w4
      (repeat' array_get_dec)
      refine wo_catL rfl rfl (by omega) ?_
      (repeat' array_get_dec)
      refine w_loop (fun r g m' => ∃ (x6 x7 : Option Vl), (∀ p ∈ r, ∃ a b, p = Dt.tup [a, b] ∧ wfRow 14 3 a ∧ wfRow 14 3 b) ∧ g = [some (.d (.scr (ns.map Dt.int))), some (.d (.int c)), some (.ref M.length), some (.ref (M.length + 1)), some (.d (.lst row)), some (.d (.lst oth)), x6, x7, x8, x9]) ?_ ?_ _ _ _ ?_
      · rintro p r g m' ⟨x6, x7, hp, rfl⟩
        obtain ⟨a, b, rfl, ha, hb⟩ := hp p (by simp)
        (repeat' array_get_dec)
        refine alike_w ha hb ?_
        (repeat' array_get_dec)
        refine w_bf rfl ?_
        (repeat' array_get_dec)
        exact ⟨_, _, (fun p hp' => hp p (by simp [hp'])), rfl⟩
      · rintro g m' ⟨x6, x7, -, rfl⟩
        (repeat' array_get_dec)
        refine bd _ _ _ _ (hrow.mono (by omega) (Nat.le_refl _)) ?_
        (repeat' array_get_dec)
        refine wo_fld (n := 0) rfl rfl ?_
        (repeat' array_get_dec)
        refine wo_fld (n := 0) rfl rfl ?_
        (repeat' array_get_dec)
        refine w_loop (fun r g m' => ∃ (x9 : Option Vl), (∀ t ∈ r, othr t ∧ okB 10 t = true ∨ t = .non) ∧ g = [some (.d (.scr (ns.map Dt.int))), some (.d (.int c)), some (.ref M.length), some (.ref (M.length + 1)), some (.d (.lst row)), some (.d (.lst oth)), x6, x7, some (.d (toB 6 (.lst row))), x9]) ?_ ?_ _ _ _ ?_
        · rintro t r g m' ⟨x9, ht, rfl⟩
          have hq : ∀ neg, qT E_Z 2 neg (toB 6 (.lst row)) t = some false := fun neg => by
            rcases ht t (by simp) with ⟨h1, h2⟩ | rfl
            · exact eq_Bo bw h2 h1
            · exact eq_Bn bw
          (repeat' array_get_dec)
          refine wo_Q (hq false) ?_
          (repeat' array_get_dec)
          refine w_bf rfl ?_
          (repeat' array_get_dec)
          refine wo_Q (hq true) ?_
          (repeat' array_get_dec)
          refine w_bf rfl ?_
          (repeat' array_get_dec)
          exact ⟨_, (fun t ht' => ht t (by simp [ht'])), rfl⟩
        · rintro g m' ⟨x9, -, rfl⟩
          (repeat' array_get_dec)
          refine ⟨fun e1 => ?_, fun e1 => ?_⟩
          · cases row with
            | nil => simp at e1
            | cons a row =>
              (repeat' array_get_dec)
              obtain ⟨ss, e, _, hs⟩ := hrow
              cases e
              refine shared_w (hs a (by simp)) ?_
              (repeat' array_get_dec)
              refine w_bf rfl ?_
              (repeat' array_get_dec)
              exact ⟨_, _, _, _, _, _, _, _, _, (fun d hd' => hd d (by simp [hd'])), rfl⟩
          · (repeat' array_get_dec)
            exact ⟨_, _, _, _, _, _, _, _, _, (fun d hd' => hd d (by simp [hd'])), rfl⟩
        · refine ⟨_, ?_, rfl⟩
          intro t ht
          simp at ht
          rcases ht with rfl | rfl | rfl | rfl
          · exact .inl ⟨.inr (.inr ⟨_, rfl⟩), okT⟩
          · exact .inl ⟨.inr (.inl ⟨_, rfl⟩), okL⟩
          · exact .inr rfl
          · exact .inl ⟨.inl ⟨_, rfl⟩, rfl⟩
      · refine ⟨_, _, ?_, rfl⟩
        intro p hp
        simp at hp
        rcases hp with rfl | rfl | rfl
        · exact ⟨_, _, rfl, hrow.mono (by omega) (Nat.le_refl _), hoth.mono (by omega) (Nat.le_refl _)⟩
        · exact ⟨_, _, rfl, hoth.mono (by omega) (Nat.le_refl _), hrow.mono (by omega) (Nat.le_refl _)⟩
        · exact ⟨_, _, rfl, hoth.mono (by omega) (Nat.le_refl _), (hrow.app hoth).mono (by omega) (Nat.le_refl _)⟩
    · have hoth : wfRow 7 3 (.lst row) := hrow.mono (by omega) (Nat.le_refl _)
      (repeat' array_get_dec)
      refine wo_catL rfl rfl (by omega) ?_
      (repeat' array_get_dec)
      refine w_loop (fun r g m' => ∃ (x6 x7 : Option Vl), (∀ p ∈ r, ∃ a b, p = Dt.tup [a, b] ∧ wfRow 14 3 a ∧ wfRow 14 3 b) ∧ g = [some (.d (.scr (ns.map Dt.int))), some (.d (.int c)), some (.ref M.length), some (.ref (M.length + 1)), some (.d (.lst row)), some (.d (.lst row)), x6, x7, x8, x9]) ?_ ?_ _ _ _ ?_
      · rintro p r g m' ⟨x6, x7, hp, rfl⟩
        obtain ⟨a, b, rfl, ha, hb⟩ := hp p (by simp)
        (repeat' array_get_dec)
        refine alike_w ha hb ?_
        (repeat' array_get_dec)
        refine w_bf rfl ?_
        (repeat' array_get_dec)
        exact ⟨_, _, (fun p hp' => hp p (by simp [hp'])), rfl⟩
      · rintro g m' ⟨x6, x7, -, rfl⟩
        (repeat' array_get_dec)
        refine bd _ _ _ _ (hrow.mono (by omega) (Nat.le_refl _)) ?_
        (repeat' array_get_dec)
        refine wo_fld (n := 0) rfl rfl ?_
        (repeat' array_get_dec)
        refine wo_fld (n := 0) rfl rfl ?_
        (repeat' array_get_dec)
        refine w_loop (fun r g m' => ∃ (x9 : Option Vl), (∀ t ∈ r, othr t ∧ okB 10 t = true ∨ t = .non) ∧ g = [some (.d (.scr (ns.map Dt.int))), some (.d (.int c)), some (.ref M.length), some (.ref (M.length + 1)), some (.d (.lst row)), some (.d (.lst row)), x6, x7, some (.d (toB 6 (.lst row))), x9]) ?_ ?_ _ _ _ ?_
        · rintro t r g m' ⟨x9, ht, rfl⟩
          have hq : ∀ neg, qT E_Z 2 neg (toB 6 (.lst row)) t = some false := fun neg => by
            rcases ht t (by simp) with ⟨h1, h2⟩ | rfl
            · exact eq_Bo bw h2 h1
            · exact eq_Bn bw
          (repeat' array_get_dec)
          refine wo_Q (hq false) ?_
          (repeat' array_get_dec)
          refine w_bf rfl ?_
          (repeat' array_get_dec)
          refine wo_Q (hq true) ?_
          (repeat' array_get_dec)
          refine w_bf rfl ?_
          (repeat' array_get_dec)
          exact ⟨_, (fun t ht' => ht t (by simp [ht'])), rfl⟩
        · rintro g m' ⟨x9, -, rfl⟩
          (repeat' array_get_dec)
          refine ⟨fun e1 => ?_, fun e1 => ?_⟩
          · cases row with
            | nil => simp at e1
            | cons a row =>
              (repeat' array_get_dec)
              obtain ⟨ss, e, _, hs⟩ := hrow
              cases e
              refine shared_w (hs a (by simp)) ?_
              (repeat' array_get_dec)
              refine w_bf rfl ?_
              (repeat' array_get_dec)
              exact ⟨_, _, _, _, _, _, _, _, _, (fun d hd' => hd d (by simp [hd'])), rfl⟩
          · (repeat' array_get_dec)
            exact ⟨_, _, _, _, _, _, _, _, _, (fun d hd' => hd d (by simp [hd'])), rfl⟩
        · refine ⟨_, ?_, rfl⟩
          intro t ht
          simp at ht
          rcases ht with rfl | rfl | rfl | rfl
          · exact .inl ⟨.inr (.inr ⟨_, rfl⟩), okT⟩
          · exact .inl ⟨.inr (.inl ⟨_, rfl⟩), okL⟩
          · exact .inr rfl
          · exact .inl ⟨.inl ⟨_, rfl⟩, rfl⟩
      · refine ⟨_, _, ?_, rfl⟩
        intro p hp
        simp at hp
        rcases hp with rfl | rfl
        · exact ⟨_, _, rfl, hrow.mono (by omega) (Nat.le_refl _), hoth.mono (by omega) (Nat.le_refl _)⟩
        · exact ⟨_, _, rfl, hoth.mono (by omega) (Nat.le_refl _), (hrow.app hoth).mono (by omega) (Nat.le_refl _)⟩
  · rintro g m' ⟨x1, x2, x3, x4, x5, x6, x7, x8, x9, hd, rfl⟩
    (repeat' array_get_dec)
    exact ⟨rfl, rfl⟩
  · exact ⟨_, _, _, _, _, _, _, _, _, (fun d hd => hints d (List.mem_of_mem_take hd)), rfl⟩
end K03
open PySem PySem.W PySem.Calls PyProof.Rows
set_option maxHeartbeats 0 in
theorem PySem.Challenge.cw_nestkeys_k03_bodies_alike_holds : PySem.Challenge.rw_nestkeys_k03_bodies_alike.Holds := by
  w_on; o_law
  refine HandSHeadRun.head_any (r := OpenLaw.row PySem.Challenge.rw_nestkeys_k03_bodies_alike) (q := view (OpenLaw.row PySem.Challenge.rw_nestkeys_k03_bodies_alike).prog [35]) (H := K03.hk) (ob := K03.obz) (M := 4000) (loose := K03.loose) (d := HandSHeadRun.topDef (OpenLaw.row PySem.Challenge.rw_nestkeys_k03_bodies_alike).prog 35) (kwd := []) K03.obz_eq
    (by kernel_rfl) (fun s => by kernel_rfl) K03.run (by kernel_rfl) (by kernel_rfl) (by kernel_rfl) (by rfl) (by first | assumption | decide +kernel) (by decide +kernel) ⟨rfl, rfl, rfl, rfl, rfl, by decide +kernel⟩ ?hw ?hc
  case hw => w_witness2
  case hc =>
    refine FM.walkW (l := PySem.Challenge.rw_nestkeys_k03_bodies_alike) (n := 63) (k := 20) (x := "_law_script") (CX := fun w => L2.CX (PySem.Challenge.rw_nestkeys_k03_bodies_alike).prog w) rfl (by decide) (by kernel_rfl) ⟨rfl, by decide, by decide⟩ ?F (fun w => FM.cx_none)
    intro w mg fa h Y G hmg0
    obtain ⟨K, KX, c⟩ := Y
    have hmg : mg ("law" : PySem.Str) = some (.ref fa) := by
      have e : (HandSHeadRun.topDef (OpenLaw.row PySem.Challenge.rw_nestkeys_k03_bodies_alike).prog 35).name = ("law" : PySem.Str) := by kernel_rfl
      rw [← e]
      exact hmg0
    obtain ⟨fd, hb, hF⟩ := K03.facts (P := (PySem.Challenge.rw_nestkeys_k03_bodies_alike).prog) (w := w) KX G hmg c
    exact ⟨K, fd, FM.spFn (K03.TT K) K03.FLaw, KX, hb, fun H a ns hl hS => FM.law_start hS (K03.law_ok ns hl), hF⟩
