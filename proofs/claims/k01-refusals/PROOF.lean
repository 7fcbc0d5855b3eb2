import PyProof.Rows.All
import Wide.All
import OpenK.AllK
import Wide.FinOn
import HandS.ForMost
import HandS.Flow
import HandS.FStr
import HandS.TupAny
import HandS.Steps
import HandS.ForExc
import HandS.ExcInit
import HandS.ExcField
import HandS.Zip
import HandS.OwnEq
import HandS.IsInst
import HandS.CallRecv
import HandS.TryMany
import HandS.Style
import HandS.ExcIs
import HandS.CallLocal
import KE.KExcIs
import HandS.Lambda
import HandS.HotCalls
import KE.KStateDown
import HandS.More
import HandS.Defaults
import HandS.Head0
import HandS.Head1
import HandS.Head2
import HandS.HeadEnd
import HandS.HeadHook1
import HandS.HeadHook2
import HandS.HeadHook4
import HandS.NoneIn
import HandS.SetTxt0
import HandS.Set
import HandS.SetBool
import HandS.SetFor
import HandS.TupSets
import HandS.NestedK
import KE.GoesEnum
import HandS.TupMul
import HandS.Conv
import HandS.WordsDict
import HandS.DictComp
import HandS.SortInts
import HandS.Iter
import HandS.Deep
import HandS.MakeKwOnly
import HandS.Text
import HandS.SetKeys
import HandS.Exc
import HandS.Call
import HandS.ExcValue
import KE.KExcMore
import PySem.Challenge.RW_nestkeys_k01_refusals_told
set_option Elab.async false
set_option linter.all false
set_option maxRecDepth 100000
set_option autoImplicit false
namespace FM
open PySem PySem.Spec PyProof.Rows L2
/-! ### data -/
inductive Dt where
  | non | bl (b : Bool) | int (i : Int) | str (x : Str) | lst (xs : List Dt) | tup (xs : List Dt)
  | dct (ks : List L2.Key) (vs : List Dt) | ins (c : Nat) (fs : List Dt) | glo (i : Nat) | scr (xs : List Dt) | exc (c : Nat) (fs : List Dt)
/-- a lambda that was made: its object, its code object, its name, what stood then -/
structure Lm where
  f : Addr
  c : Addr
  q : Str
  I : Hp
  A : List Addr
/-- a value: data, or a cell, or a lambda -/
inductive Vl where
  | d (d : Dt) | ref (k : Nat) | lam (z : Lm)
instance : Coe Dt Vl := ⟨.d⟩
/-- the shape of a thing whose parts may be cells: an object of a class, a dict, a list, a tuple -/
inductive Shape where
  | cls (c : Nat)
  | dct (ks : List L2.Key)
  | lst
  | tup
instance {n : Nat} : OfNat Shape n := ⟨.cls n⟩
instance : Coe Nat Shape := ⟨.cls⟩
/-- what may change -/
inductive Cell where
  | lst (ds : List Dt)
  | ins (c : Nat) (fs : List Dt)
  | dct (ks : List L2.Key) (vs : List Dt)
  | set (xs : List Str)
  | ob (c : Shape) (fs : List Vl)
def Cell.isOb : Cell → Bool
  | .ob _ _ => true
  | _ => false
abbrev Cells := List (Option Cell)
/-- the tables of a law: its classes, their fields, the things of its top -/
structure Tab where
  K : PySem.W.Frag
  ca : Nat → Addr
  cf : Nat → List Str
  ga : Nat → Addr
  tb : List (Addr × Str) := []
  rich : Bool := false
  so : Addr → List Str → HO := fun _ _ => .tup []
mutual
inductive DR (T : Tab) (I : Hp) : V → Dt → Prop
  | non : DR T I .non .non
  | bl (b : Bool) : DR T I (.bl b) (.bl b)
  | int (i : Int) : DR T I (.int i) (.int i)
  | str (x : Str) : DR T I (.str x) (.str x)
  | glo (i : Nat) : DR T I (.ref (T.ga i)) (.glo i)
  | lst {a : Addr} {xs : List V} {ds : List Dt} : I a = some (.lst xs) → DRs T I xs ds → DR T I (.ref a) (.lst ds)
  | scr {a : Addr} {xs : List V} {ds : List Dt} : SqL T.K I a xs → DRs T I xs ds → DR T I (.ref a) (.scr ds)
  | tup {a : Addr} {xs : List V} {ds : List Dt} : SqT T.K I a xs → DRs T I xs ds → DR T I (.ref a) (.tup ds)
  | dct {a : Addr} {ks : List L2.Key} {xs : List V} {ds : List Dt} : I a = some (.dK (ks.zip xs)) → ks.length = xs.length → DRs T I xs ds → DR T I (.ref a) (.dct ks ds)
  | ins {a dx : Addr} {c : Nat} {xs : List V} {ds : List Dt} : I a = some (.ins (T.ca c) dx ((T.cf c).zip xs)) → xs.length = (T.cf c).length → DRs T I xs ds → DR T I (.ref a) (.ins c ds)
  | exc {a d : Addr} {c : Nat} {xs : List V} {ds : List Dt} : I a = some (exo a (T.ca c) (some d)) → I d = some (.xd ((T.cf c).zip xs)) → xs.length = (T.cf c).length → DRs T I xs ds → DR T I (.ref a) (.exc c ds)
  | exc0 {a : Addr} {c : Nat} : I a = some (exo a (T.ca c) none) → T.cf c = [] → DR T I (.ref a) (.exc c [])
inductive DRs (T : Tab) (I : Hp) : List V → List Dt → Prop
  | nil : DRs T I [] []
  | cons {v : V} {vs : List V} {d : Dt} {ds : List Dt} : DR T I v d → DRs T I vs ds → DRs T I (v :: vs) (d :: ds)
end
theorem same_rd {H H' : Hp} {a : Addr} {u : HO} (e : Same H H') (h : Rd H a u) : Rd H' a u := by
  rcases h with h | ⟨o, h⟩
  · exact .inl (e _ _ h)
  · exact .inr ⟨o, e _ _ h⟩
theorem same_l {K : PySem.W.Frag} {H H' : Hp} {a : Addr} {xs : List V} (e : Same H H') (h : SqL K H a xs) : SqL K H' a xs := by
  rcases h with h | h
  · exact .inl (same_rd e h)
  · exact .inr h
theorem same_t {K : PySem.W.Frag} {H H' : Hp} {a : Addr} {xs : List V} (e : Same H H') (h : SqT K H a xs) : SqT K H' a xs := by
  rcases h with h | h
  · exact .inl (same_rd e h)
  · exact .inr h
theorem pre_get {α : Type} {A A' : List α} (p : A <+: A') {k : Nat} {a : α} (h : A[k]? = some a) : A'[k]? = some a := by
  obtain ⟨t, rfl⟩ := p
  obtain ⟨hl, _⟩ := List.getElem?_eq_some_iff.mp h
  rw [List.getElem?_append_left hl]
  exact h
/-- what is known has grown -/
structure Up (I I' : Hp) (A A' : List Addr) : Prop where
  i : Same I I'
  a : A <+: A'
theorem Up.trans {I I1 I2 : Hp} {A A1 A2 : List Addr} (h : Up I I1 A A1) (k : Up I1 I2 A1 A2) : Up I I2 A A2 := ⟨h.i.trans k.i, h.a.trans k.a⟩
mutual
theorem DR.mono {T : Tab} {I I' : Hp} (e : Same I I') : ∀ {v : V} {d : Dt}, DR T I v d → DR T I' v d
  | _, _, .non => .non
  | _, _, .bl b => .bl b
  | _, _, .int i => .int i
  | _, _, .str x => .str x
  | _, _, .glo i => .glo i
  | _, _, .lst h hs => .lst (e _ _ h) (DRs.mono e hs)
  | _, _, .scr h hs => .scr (same_l e h) (DRs.mono e hs)
  | _, _, .tup h hs => .tup (same_t e h) (DRs.mono e hs)
  | _, _, .dct h hl hs => .dct (e _ _ h) hl (DRs.mono e hs)
  | _, _, .ins h hl hs => .ins (e _ _ h) hl (DRs.mono e hs)
  | _, _, .exc h h2 hl hs => .exc (e _ _ h) (e _ _ h2) hl (DRs.mono e hs)
  | _, _, .exc0 h e0 => .exc0 (e _ _ h) e0
theorem DRs.mono {T : Tab} {I I' : Hp} (e : Same I I') : ∀ {vs : List V} {ds : List Dt}, DRs T I vs ds → DRs T I' vs ds
  | _, _, .nil => .nil
  | _, _, .cons h t => .cons (DR.mono e h) (DRs.mono e t)
end
inductive VR (T : Tab) (I : Hp) (A : List Addr) : V → Vl → Prop
  | d {v : V} {d : Dt} : DR T I v d → VR T I A v (.d d)
  | ref {k : Nat} {a : Addr} : A[k]? = some a → VR T I A (.ref a) (.ref k)
  | lam {z : Lm} : I z.c = some (LamX.CodeO z.c z.q) → Up z.I I z.A A → VR T I A (.ref z.f) (.lam z)
inductive VRs (T : Tab) (I : Hp) (A : List Addr) : List V → List Vl → Prop
  | nil : VRs T I A [] []
  | cons {v : V} {vs : List V} {d : Vl} {ds : List Vl} : VR T I A v d → VRs T I A vs ds → VRs T I A (v :: vs) (d :: ds)
theorem VR.mono {T : Tab} {I I' : Hp} {A A' : List Addr} (e : Up I I' A A') {v : V} {d : Vl} (h : VR T I A v d) : VR T I' A' v d := by
  cases h with
  | d h => exact .d (h.mono e.i)
  | ref h => exact .ref (pre_get e.a h)
  | lam h u => exact .lam (e.i _ _ h) (u.trans e)
theorem VRs.mono {T : Tab} {I I' : Hp} {A A' : List Addr} (e : Up I I' A A') {vs : List V} {ds : List Vl} (h : VRs T I A vs ds) : VRs T I' A' vs ds := by
  induction vs generalizing ds with
  | nil => cases h; exact .nil
  | cons v vs ih => cases h with | cons a t => exact .cons (a.mono e) (ih t)
section
variable {T : Tab} {I : Hp} {A : List Addr}
theorem VRs.len {vs : List V} {ds : List Vl} (h : VRs T I A vs ds) : vs.length = ds.length := by
  induction vs generalizing ds with
  | nil => cases h; rfl
  | cons v vs ih => cases h with | cons _ t => rw [List.length_cons, List.length_cons, ih t]
end
section
variable {T : Tab} {I : Hp}
theorem DRs.len {vs : List V} {ds : List Dt} (h : DRs T I vs ds) : vs.length = ds.length := by
  induction vs generalizing ds with
  | nil => cases h; rfl
  | cons v vs ih => cases h with | cons _ t => rw [List.length_cons, List.length_cons, ih t]
theorem DRs.set {vs : List V} {ds : List Dt} {v : V} {d : Dt} (h : DRs T I vs ds) (hv : DR T I v d) (i : Nat) : DRs T I (vs.set i v) (ds.set i d) := by
  induction vs generalizing ds i with
  | nil => cases h; exact .nil
  | cons w vs ih =>
    cases h with
    | cons a t =>
      cases i with
      | zero => exact .cons hv t
      | succ i => exact .cons a (ih t i)
theorem DRs.take {vs : List V} {ds : List Dt} (h : DRs T I vs ds) (n : Nat) : DRs T I (vs.take n) (ds.take n) := by
  induction vs generalizing ds n with
  | nil => cases h; simp; exact .nil
  | cons w vs ih =>
    cases h with
    | cons a t =>
      cases n with
      | zero => exact .nil
      | succ n => exact .cons a (ih t n)
theorem DRs.one {v : V} {d : Dt} (h : DR T I v d) : DRs T I [v] [d] := .cons h .nil
end
/-! ### cells, the state -/
def CellOk (T : Tab) (I H : Hp) (a : Addr) : Cell → Prop
  | .lst ds => ∃ vs, H a = some (.lst vs) ∧ DRs T I vs ds
  | .ins c ds => ∃ dx vs, H a = some (.ins (T.ca c) dx ((T.cf c).zip vs)) ∧ vs.length ≤ (T.cf c).length ∧ DRs T I vs ds
  | .dct ks ds => ∃ vs, H a = some (.dK (ks.zip vs)) ∧ ks.length = vs.length ∧ DRs T I vs ds
  | .set xs => H a = some (T.so a xs) ∧ ∀ ps, T.so a xs ≠ .tbl ps
  | .ob _ _ => ∃ o, H a = some o ∧ ∀ ps, o ≠ .tbl ps
theorem CellOk.mono {T : Tab} {I H I' H' : Hp} {a : Addr} {c : Cell} (h : CellOk T I H a c) (e : Same I I') (k : ∀ o, H a = some o → H' a = some o) : CellOk T I' H' a c := by
  cases c with
  | lst ds => obtain ⟨vs, h1, h2⟩ := h; exact ⟨vs, k _ h1, h2.mono e⟩
  | ins c ds => obtain ⟨dx, vs, h1, h2, h3⟩ := h; exact ⟨dx, vs, k _ h1, h2, h3.mono e⟩
  | dct ks ds => obtain ⟨vs, h1, h2, h3⟩ := h; exact ⟨vs, k _ h1, h2, h3.mono e⟩
  | set xs => exact ⟨k _ h.1, h.2⟩
  | ob c fs => obtain ⟨o, h1, h2⟩ := h; exact ⟨o, k _ h1, h2⟩
/-- what stands beside: things that may change, which nobody here names -/
abbrev Frm := List (Addr × HO)
/-- the tables of code objects -/
structure Tbs (T : Tab) (F : Frm) (I H : Hp) : Prop where
  it : ∀ b ps, I b ≠ some (.tbl ps)
  ft : ∀ q ∈ F, ∀ ps, q.2 ≠ .tbl ps
  ok : ∀ p ∈ T.tb, ∃ ps, H p.1 = some (.tbl ps) ∧ TriplesOk ps.toList ∧ ∀ (pos : Pos) (cv : Value), codeAmong pos ps.toList = some cv → ∃ c, cv = .ref c ∧ I c = some (LamX.CodeO c p.2)
section
variable {T : Tab} {F : Frm} {I H : Hp}
theorem Tbs.upd (t : Tbs T F I H) {a : Addr} {o : HO} (h : ∀ ps, H a ≠ some (.tbl ps)) : Tbs T F I (upd H a o) := ⟨t.it, t.ft, fun p hp => by
  obtain ⟨ps, h1, h2⟩ := t.ok p hp
  exact ⟨ps, by rw [upd_ne (fun e => h ps (by rw [← e]; exact h1))]; exact h1, h2⟩⟩
theorem Tbs.see (t : Tbs T F I H) {a : Addr} {o : HO} (hI : I a = none) (ho : ∀ ps, o ≠ .tbl ps) : Tbs T F (L2.upd I a o) H := by
  have e : Same I (L2.upd I a o) := fun b x q => by rw [upd_ne (ne_of_none q hI)]; exact q
  refine ⟨fun b ps q => ?_, t.ft, fun p hp => ?_⟩
  · by_cases hb : b = a
    · subst hb; rw [upd_same] at q; exact ho ps (Option.some.inj q)
    · rw [upd_ne hb] at q; exact t.it b ps q
  · obtain ⟨ps, h1, h2, h3⟩ := t.ok p hp
    refine ⟨ps, h1, h2, fun pos cv hc => ?_⟩
    obtain ⟨c, e1, e2⟩ := h3 pos cv hc
    exact ⟨c, e1, e _ _ e2⟩
theorem Tbs.fm (t : Tbs T F I H) {G : Frm} (h : ∀ q ∈ G, ∀ ps, q.2 ≠ .tbl ps) : Tbs T G I H := ⟨t.it, h, t.ok⟩
end
/-- what stands there for such a thing -/
def hob (T : Tab) (dx : Addr) (vs : List V) : Shape → HO
  | .cls c => .ins (T.ca c) dx ((T.cf c).zip vs)
  | .dct ks => .dK (ks.zip vs)
  | .lst => .lst vs
  | .tup => .tup vs
def lob (T : Tab) (n : Nat) : Shape → Prop
  | .cls c => n ≤ (T.cf c).length
  | .dct ks => ks.length = n
  | _ => True
/-- things whose parts may be cells -/
def ObsOk (T : Tab) (I H : Hp) (A : List Addr) (m : Cells) : Prop := ∀ (k : Nat) (c : Shape) (fs : List Vl) (a : Addr), m[k]? = some (some (.ob c fs)) → A[k]? = some a →
  T.rich = true ∧ ∃ dx vs, H a = some (hob T dx vs c) ∧ lob T vs.length c ∧ VRs T I A vs fs ∧ ∀ z, Vl.lam z ∉ fs
theorem ObsOk.mono {T : Tab} {I H I' H' : Hp} {A A' : List Addr} {m m' : Cells} (h : ObsOk T I H A m) (e : Up I I' A A') (hm : ∀ (k : Nat) (c : Shape) (fs : List Vl) (a : Addr), m'[k]? = some (some (.ob c fs)) → A'[k]? = some a → m[k]? = some (some (.ob c fs)) ∧ A[k]? = some a ∧ H' a = H a) : ObsOk T I' H' A' m' := fun k c fs a h1 h2 => by
  obtain ⟨h3, h4, h5⟩ := hm k c fs a h1 h2
  obtain ⟨r, dx, vs, q1, q2, q3, q4⟩ := h k c fs a h3 h4
  exact ⟨r, dx, vs, by rw [h5]; exact q1, q2, q3.mono e, q4⟩
/-- no object below n has a field from n on -/
def Clo (n : Nat) (m : Cells) : Prop := ∀ (k : Nat) (c : Shape) (fs : List Vl) (j : Nat), k < n → m[k]? = some (some (.ob c fs)) → Vl.ref j ∈ fs → j < n
theorem VR.take {T : Tab} {I : Hp} {A : List Addr} {n : Nat} {v : V} {d : Vl} (h : VR T I A v d) (hd : ∀ j, d = .ref j → j < n) (hl : ∀ z, d ≠ .lam z) : VR T I (A.take n) v d := by
  cases h with
  | d h => exact .d h
  | ref h => exact .ref (by rw [List.getElem?_take_of_lt (hd _ rfl)]; exact h)
  | lam _ _ => exact absurd rfl (hl _)
theorem VRs.take {T : Tab} {I : Hp} {A : List Addr} {n : Nat} {vs : List V} {ds : List Vl} (h : VRs T I A vs ds) (hd : ∀ j, Vl.ref j ∈ ds → j < n) (hl : ∀ z, Vl.lam z ∉ ds) : VRs T I (A.take n) vs ds := by
  induction vs generalizing ds with
  | nil => cases h; exact .nil
  | cons v vs ih =>
    cases h with
    | cons a t => exact .cons (a.take (fun j e => hd j (by rw [e]; simp)) (fun z e => hl z (by rw [e]; simp))) (ih t (fun j hj => hd j (List.mem_cons_of_mem _ hj)) fun z hz => hl z (List.mem_cons_of_mem _ hz))
theorem set_ob {m : Cells} {o : Option Cell} {i : Nat} (hc : ∀ c fs, o ≠ some (.ob c fs)) {k : Nat} {c' : Shape} {fs : List Vl} (h1 : (m.set i o)[k]? = some (some (.ob c' fs))) : k ≠ i ∧ m[k]? = some (some (.ob c' fs)) := by
  by_cases hk : i = k
  · subst hk
    have hl := (List.getElem?_eq_some_iff.mp h1).1
    rw [List.length_set] at hl
    rw [List.getElem?_set_self hl] at h1
    exact absurd (Option.some.inj h1) (hc c' fs)
  · rw [List.getElem?_set_ne hk] at h1
    exact ⟨fun e => hk e.symm, h1⟩
structure Base (T : Tab) (F : Frm) (I H : Hp) (A : List Addr) (m : Cells) : Prop where
  sub : Same I H
  fm : ∀ q ∈ F, H q.1 = some q.2 ∧ q.1 ∉ A ∧ I q.1 = none
  fnd : (F.map (·.1)).Nodup
  len : A.length = m.length
  nd : A.Nodup
  al : ∀ a ∈ A, H a ≠ none
  fr : ∀ (k : Nat) (c : Cell) (a : Addr), m[k]? = some (some c) → A[k]? = some a → I a = none
  ok : ∀ (k : Nat) (c : Cell) (a : Addr), m[k]? = some (some c) → A[k]? = some a → CellOk T I H a c
  tbs : Tbs T F I H
  obs : ObsOk T I H A m
theorem nt_none {H : Hp} {a : Addr} (h : H a = none) : ∀ ps, H a ≠ some (.tbl ps) := fun ps e => by rw [h] at e; cases e
abbrev Gam := List (Option Vl)
structure Ctx (T : Tab) (I : Hp) (A : List Addr) (σ : L2.St) (g : Gam) : Prop where
  len : σ.length = g.length
  look : ∀ (i : Nat) (d : Vl), g[i]? = some (some d) → ∃ v, σ[i]? = some (some v) ∧ VR T I A v d
theorem Ctx.mono {T : Tab} {I I' : Hp} {A A' : List Addr} {σ : L2.St} {g : Gam} (h : Ctx T I A σ g) (e : Up I I' A A') : Ctx T I' A' σ g := ⟨h.len, fun i d q => by
  obtain ⟨v, h1, h2⟩ := h.look i d q
  exact ⟨v, h1, h2.mono e⟩⟩
theorem Ctx.set {T : Tab} {I : Hp} {A : List Addr} {σ : L2.St} {g : Gam} {i : Nat} {v : V} {d : Vl} (h : Ctx T I A σ g) (hv : VR T I A v d) : Ctx T I A (σ.set i (some v)) (g.set i (some d)) := ⟨by rw [List.length_set, List.length_set, h.len], fun j e q => by
  by_cases hj : i = j
  · subst hj
    have hl : i < g.length := by
      by_cases hl : i < g.length
      · exact hl
      · rw [List.getElem?_eq_none (by rw [List.length_set]; omega)] at q
        cases q
    rw [List.getElem?_set_self hl] at q
    rw [List.getElem?_set_self (by rw [h.len]; exact hl)]
    cases q
    exact ⟨v, rfl, hv⟩
  · rw [List.getElem?_set_ne hj] at q
    rw [List.getElem?_set_ne hj]
    exact h.look j e q⟩
/-- the caught exception: its slot, its address, its dict, its class, its fields -/
structure Xc where
  i : Nat
  a : Addr
  d : Addr
  c : Nat
  ds : List Dt
def XcOk (T : Tab) (I : Hp) (A : List Addr) (σ : L2.St) : Option Xc → Prop
  | none => True
  | some z => σ[z.i]? = some (some (.ref z.a)) ∧ ∃ vs, I z.d = some (.xd ((T.cf z.c).zip vs)) ∧ vs.length = (T.cf z.c).length ∧ DRs T I vs z.ds
def xfree : Option Xc → Nat → Bool
  | none, _ => true
  | some z, j => z.i != j
theorem XcOk.mono {T : Tab} {I I' : Hp} {A A' : List Addr} {σ : L2.St} {x : Option Xc} (h : XcOk T I A σ x) (e : Up I I' A A') : XcOk T I' A' σ x := by
  cases x with
  | none => trivial
  | some z =>
    obtain ⟨h1, vs, h2, h3, h4⟩ := h
    exact ⟨h1, vs, e.i _ _ h2, h3, h4.mono e.i⟩
theorem XcOk.set {T : Tab} {I : Hp} {A : List Addr} {σ : L2.St} {x : Option Xc} {j : Nat} {v : Option V} (h : XcOk T I A σ x) (hj : xfree x j = true) : XcOk T I A (σ.set j v) x := by
  cases x with
  | none => trivial
  | some z =>
    obtain ⟨h1, h2⟩ := h
    refine ⟨?_, h2⟩
    rw [List.getElem?_set_ne (fun e => by simp [xfree, e] at hj)]
    exact h1
/-- where one stands: from (I0, A0) on -/
structure Bs where
  F : Frm
  I : Hp
  A : List Addr
structure Rel (T : Tab) (x : Option Xc) (B : Bs) (g : Gam) (S : List Vl) (m : Cells) (σ : L2.St) (vs : List V) (H I : Hp) (A : List Addr) : Prop where
  base : Base T B.F I H A m
  up : Up B.I I B.A A
  ctx : Ctx T I A σ g
  stk : VRs T I A vs S
  xc : XcOk T I A σ x
section
variable {T : Tab} {x : Option Xc} {B : Bs} {F : Frm} {g g' : Gam} {S : List Vl} {m m' : Cells} {σ σ' : L2.St} {vs : List V} {H H' I I' : Hp} {A A' : List Addr}
theorem Rel.sub (r : Rel T x B g S m σ vs H I A) : Same I H := r.base.sub
/-- the state moves on -/
theorem Rel.step (r : Rel T x B g S m σ vs H I A) (b : Base T B.F I' H' A' m') (e : Up I I' A A') : Rel T x B g S m' σ vs H' I' A' := ⟨b, r.up.trans e, r.ctx.mono e, r.stk.mono e, r.xc.mono e⟩
theorem Rel.top {v : V} {d : Vl} (r : Rel T x B g (d :: S) m σ (v :: vs) H I A) : VR T I A v d := by cases r.stk with | cons h _ => exact h
theorem Rel.slot (r : Rel T x B g S m σ vs H I A) {i : Nat} {v : V} {d : Vl} (h : VR T I A v d) (hx : xfree x i = true) : Rel T x B (g.set i (some d)) S m (σ.set i (some v)) vs H I A := { r with ctx := r.ctx.set h, xc := r.xc.set hx }
theorem Rel.from {I1 : Hp} {A1 : List Addr} (r : Rel T x ⟨B.F, I1, A1⟩ g S m σ vs H I A) (e : Up B.I I1 B.A A1) : Rel T x B g S m σ vs H I A := ⟨r.base, e.trans r.up, r.ctx, r.stk, r.xc⟩
theorem none_of_sub {I H : Hp} {p : Addr} (h : Same I H) (hp : H p = none) : I p = none := by
  cases e : I p with
  | none => rfl
  | some o => rw [h p o e] at hp; cases hp
theorem same_upd {H : Hp} {p : Addr} {o : HO} (h : H p = none) : Same H (upd H p o) := fun b x e => by
  rw [upd_ne (ne_of_none e h)]
  exact e
theorem upd_some {H : Hp} {p a : Addr} {o : HO} (h : H a ≠ none) : upd H p o a ≠ none := by
  by_cases ha : a = p
  · subst ha; rw [upd_same]; exact fun z => nomatch z
  · rw [upd_ne ha]; exact h
/-- a new thing that never changes -/
theorem Base.new (b : Base T F I H A m) {p : Addr} {o : HO} (hp : H p = none) (ho : ∀ ps, o ≠ .tbl ps := by exact fun _ z => nomatch z) : Base T F (upd I p o) (upd H p o) A m ∧ Up I (upd I p o) A A := by
  have hI := none_of_sub b.sub hp
  have e : Up I (upd I p o) A A := ⟨same_upd hI, List.prefix_refl A⟩
  have ne : ∀ a ∈ A, a ≠ p := fun a ha z => b.al a ha (by rw [z]; exact hp)
  refine ⟨⟨fun a u q => ?_, fun q hq => by
    obtain ⟨f1, f2, f3⟩ := b.fm q hq
    have hne := ne_of_none f1 hp
    exact ⟨by rw [upd_ne hne]; exact f1, f2, by rw [upd_ne hne]; exact f3⟩, b.fnd, b.len, b.nd, fun a ha => upd_some (b.al a ha), fun k c a h1 h2 => ?_, fun k c a h1 h2 => (b.ok k c a h1 h2).mono e.i fun o q => by rw [upd_ne (ne_of_none q hp)]; exact q, (b.tbs.upd (nt_none hp)).see hI ho, b.obs.mono e fun k c fs a h1 h2 => ⟨h1, h2, upd_ne (ne a (List.mem_of_getElem? h2))⟩⟩, e⟩
  · by_cases ha : a = p
    · subst ha; rw [upd_same] at q ⊢; exact q
    · rw [upd_ne ha] at q ⊢; exact b.sub a u q
  · rw [upd_ne (ne a (List.mem_of_getElem? h2))]
    exact b.fr k c a h1 h2
/-- the later cells are forgotten -/
theorem Base.take (b : Base T F I H A m) (n : Nat) (hc : Clo n m) : Base T F I H (A.take n) (m.take n) := by
  have g1 : ∀ {α : Type} {l : List α} {k : Nat} {c : α}, (l.take n)[k]? = some c → l[k]? = some c := fun {α l k c} h => by
    by_cases hk : k < n
    · rw [List.getElem?_take_of_lt hk] at h; exact h
    · rw [List.getElem?_eq_none (by rw [List.length_take]; omega)] at h; cases h
  exact ⟨b.sub, fun q hq => ⟨(b.fm q hq).1, fun h => (b.fm q hq).2.1 (List.mem_of_mem_take h), (b.fm q hq).2.2⟩, b.fnd, by rw [List.length_take, List.length_take, b.len], (List.take_sublist n A).nodup b.nd, fun a ha => b.al a (List.mem_of_mem_take ha), fun k c a h1 h2 => b.fr k c a (g1 h1) (g1 h2), fun k c a h1 h2 => b.ok k c a (g1 h1) (g1 h2), b.tbs, fun k c fs a h1 h2 => by
    obtain ⟨r, dx, vs, q1, q2, q3, q4⟩ := b.obs k c fs a (g1 h1) (g1 h2)
    have hk : k < n := by
      have := (List.getElem?_eq_some_iff.mp h1).1
      rw [List.length_take] at this; omega
    exact ⟨r, dx, vs, q1, q2, q3.take (fun j hj => hc k c fs j hk (g1 h1) hj) q4, q4⟩⟩
end
end FM
namespace FM
open PySem PySem.Spec PyProof.Rows L2
/-! ### what a piece of text gives -/
inductive Rs (α : Type) where
  | ok (a : α) (m : Cells)
  | ex (c : Nat) (fs : List Dt) (m : Cells)
  | bad
inductive Out where
  | nx (g : Gam) (m : Cells)
  | rt (v : Vl) (m : Cells)
  | bk (g : Gam) (m : Cells)
  | ct (g : Gam) (m : Cells)
  | ex (c : Nat) (fs : List Dt) (g : Gam) (m : Cells)
  | bad
abbrev ME := Gam → Cells → Rs Vl
abbrev MT := Gam → Cells → Rs Bool
abbrev MA := Gam → Cells → Rs (List Vl)
abbrev MS := Gam → Cells → Out
abbrev Fn := List Vl → Cells → Rs Vl
def Rs.then {α : Type} (g : Gam) (r : Rs α) (k : α → Cells → Out) : Out := match r with
  | .ok a m => k a m
  | .ex c fs m => .ex c fs g m
  | .bad => .bad
/-- the context of a reading: tables, caught exception, wish of what is raised -/
structure Fc where
  T : Tab
  x : Option Xc
  W : WX
section
variable (C : Fc) (B : Bs) (g : Gam) (S : List Vl) (σ : L2.St) (vs : List V)
end
/-! ### readings by readings -/
section
variable {X : Cx} {e : Expr} {es : List Expr} {st : Stmt} {ss : List Stmt}
end
/-! ### expressions -/
/-- an operation on two values that changes no cell -/
abbrev O2 := Cells → Vl → Vl → Option Vl
section
variable {X : Cx} {C : Fc} {e : Expr} {ma mb mc : ME}
/-! ### arguments -/
/-! ### tests -/
end
end FM
namespace FM
open PySem PySem.Spec PyProof.Rows L2
/-! ### targets -/
abbrev MG := Vl → Gam → Cells → Option (Gam × Cells)
abbrev MGs := List Dt → Gam → Cells → Option (Gam × Cells)
section
variable {X : Cx} {C : Fc} {e : Expr} {es : List Expr} {mg : MG} {mr : MGs}
end
/-! ### statements -/
abbrev MI := Gam → Cells → Rs (List Dt)
section
variable {X : Cx} {C : Fc} {e : Expr} {st : Stmt} {ss : List Stmt} {me : ME} {mg : MG} {s t : MS} {c : MT}
/-! ### what is walked -/
end
end FM
namespace FM
open PySem PySem.Spec PyProof.Rows L2
/-! ### displays, calls of built-ins -/
section
variable {X : Cx} {C : Fc} {e : Expr} {ma : MA}
end
/-! ### list comprehensions -/
section
variable {X : Cx} {C : Fc} {e : Expr} {st : Stmt} {mi : MI} {mg : MG} {mt : MT} {me : ME} {own js : List Nat} {tg : TG}
end
/-! ### defs -/
/-- no object below is changed or new -/
def Obs (m m' : Cells) : Prop := m.length ≤ m'.length ∧ ∀ (k : Nat) (c : Shape) (fs : List Vl), k < m.length → m'[k]? = some (some (.ob c fs)) → ∃ c0 fs0, m[k]? = some (some (.ob c0 fs0)) ∧ ∀ j, Vl.ref j ∈ fs → Vl.ref j ∈ fs0
def Qr {α : Type} (m : Cells) : Rs α → Prop
  | .ok _ m' => Obs m m'
  | .ex _ _ m' => Obs m m'
  | .bad => True
def Qo (m : Cells) : Out → Prop
  | .nx _ m' => Obs m m'
  | .rt _ m' => Obs m m'
  | .bk _ m' => Obs m m'
  | .ct _ m' => Obs m m'
  | .ex _ _ _ m' => Obs m m'
  | .bad => True
section
variable {X : Cx} {C : Fc} {e : Expr} {ma : MA}
end
end FM
namespace NK
open PySem PySem.Spec PyProof.Rows L2
/-! ### rules of the machine by name -/
end NK
namespace NK
open PySem PySem.Spec PyProof.Rows L2
section
variable {X : Cx}
end
end NK
namespace NK
open PySem PySem.Spec PyProof.Rows L2
/-- what __init__ does that stores its arguments as fields -/
def spInit (K : PySem.W.Frag) (fs : List Str) : Sp := fun vs H Q _ => ∃ (a C : Addr) (ws : List V), vs = .ref a :: ws ∧ ws.length = fs.length ∧ OexC K C ∧ (∀ f ∈ fs, PySem.W.findIn K (.ref C) f = some none) ∧ H a = some (exo a C none) ∧
  ∀ dx H', H dx = none → dx ≠ a → H' a = some (exo a C (some dx)) → H' dx = some (exd dx (fs.zip ws).reverse) → (∀ b, b ≠ a → b ≠ dx → H' b = H b) → Q .non H'
end NK
namespace NK
open PySem PySem.Spec PyProof.Rows L2
/-! ### rules for raise and try -/
section
variable {X : Cx}
/-- an own exception class whose __init__ stores its arguments -/
structure ExC (P : Program) (w : World) (K : PySem.W.Frag) (mg : Str → Option Value) (base : Heap) (k : Nat) (x : Str) (Cc : Addr) (ps fs : List Str) : Prop where
  T : OexC K Cc
  g : mg x = some (.ref Cc)
  ini : ∃ (fI : Addr) (fd : FuncData), PySem.W.findIn K (.ref Cc) "__init__" = some (some (.ref fI)) ∧ PySem.W.typeIn K (.ref fI) = some (.type "function") ∧ FnOk P w K mg base CX0 k fI fd ps (spInit K fs) ∧ Binds K fd ps []
  no : ∀ f ∈ fs, PySem.W.findIn K (.ref Cc) f = some none
  xf : XfC K Cc
  te : PySem.W.exmOne K (.ref Cc) (.ref Cc) = some true
/-- what the data's side asks of the class -/
structure ExD (K : PySem.W.Frag) (Cc : Addr) (fs : List Str) : Prop where
  T : OexC K Cc
  no : ∀ f ∈ fs, PySem.W.findIn K (.ref Cc) f = some none
  te : PySem.W.exmOne K (.ref Cc) (.ref Cc) = some true
theorem ExC.d {P : Program} {w : World} {K : PySem.W.Frag} {mg : Str → Option Value} {base : Heap} {k : Nat} {x : Str} {Cc : Addr} {ps fs : List Str} (c : ExC P w K mg base k x Cc ps fs) : ExD K Cc fs := ⟨c.T, c.no, c.te⟩
end
end NK
namespace NK
open PySem PySem.Spec PyProof.Rows L2
end NK
namespace NK
open PySem PySem.Spec PyProof.Rows L2
/-! ### instances of own classes -/
section
variable {X : Cx} {C : Addr} {x : Str} {p pos : Pos}
end
end NK
namespace NK
open PySem PySem.Spec PyProof.Rows L2
def opN : Bool → CmpOp
  | true => .NotEq
  | false => .Eq
end NK
namespace FM
open PySem PySem.Spec PyProof.Rows L2
/-! ### operations -/
section
variable {T : Tab}
/-! ### texts -/
/-! ### lists and tuples, read -/
/-! ### built-ins -/
end
end FM
namespace FM
open PySem PySem.Spec PyProof.Rows L2
/-! ### what is walked, by arguments -/
section
variable {X : Cx} {C : Fc} {e : Expr} {ma : MA} {me mb mc : ME}
/-! ### slices -/
/-! ### is None; chains; truth -/
/-! ### methods of list cells -/
end
end FM
namespace FM
open PySem PySem.Spec PyProof.Rows L2
/-! ### instances -/
section
variable {X : Cx} {C : Fc} {e : Expr} {ma : MA} {me mb : ME}
/-! ### fields -/
/-- the place of a field, class by class -/
abbrev FTab := Nat → Option Nat
/-! ### methods -/
end
end FM
namespace FM
open PySem PySem.Spec PyProof.Rows L2
/-! ### raise -/
section
variable {X : Cx} {C : Fc} {e : Expr} {st : Stmt} {ma : MA} {me mb : ME}
/-! ### try -/
end
end FM
namespace FM
open PySem PySem.Spec PyProof.Rows L2
/-! ### == of data, own classes among them -/
mutual
def okD : Dt → Bool
  | .non => true | .bl _ => true | .int _ => true | .str _ => true
  | .lst xs => oksD xs | .tup xs => oksD xs | .ins _ fs => oksD fs
  | _ => false
def oksD : List Dt → Bool
  | [] => true
  | d :: ds => okD d && oksD ds
end
section
variable {X : Cx} {pins : List (Addr × Obj)} {σ : L2.St} {H I : Hp} {s : Shared} {T : Tab}
mutual
/-- the classes in data are known ones -/
def insD (N : Nat) : Dt → Bool
  | .lst xs => inssD N xs | .tup xs => inssD N xs | .ins c fs => decide (c < N) && inssD N fs
  | .dct _ xs => inssD N xs | .scr xs => inssD N xs
  | _ => true
def inssD (N : Nat) : List Dt → Bool
  | [] => true
  | d :: ds => insD N d && inssD N ds
end
variable {N : Nat}
end
/-- how two data compare -/
abbrev Dq := Dt → Dt → Bool → Prop
/-- the heap has grown -/
def Grow (X : Cx) (pins : List (Addr × Obj)) (σ : L2.St) (T : Tab) (F : Frm) (I : Hp) (L : List Addr) (m : Cells) (s' : Shared) : Prop := ∃ I' H', Inv X pins σ H' s' ∧ Base T F I' H' L m ∧ Same I I'
def EqK (X : Cx) (T : Tab) (n : Nat) (D : Dq) : Prop := ∀ (A : Around) (pins : List (Addr × Obj)) (s : Shared) (σ : L2.St) (F : Frm) (H I : Hp) (L : List Addr) (m : Cells) (x y : V) (u v : Value) (d1 d2 : Dt) (b : Bool), L2.Sub X n A → Inv X pins σ H s → Base T F I H L m → DR T I x d1 → DR T I y d2 → RelV x u → RelV y v → D d1 d2 b →
  wpAny (model X.prog X.w) A (eqBool u v) (fun r s' => r = b ∧ Grow X pins σ T F I L m s') X.xe s
def RcK (X : Cx) (T : Tab) (n : Nat) (neg : Bool) (D : Dq) : Prop := ∀ (A : Around) (pins : List (Addr × Obj)) (s : Shared) (σ : L2.St) (F : Frm) (H I : Hp) (L : List Addr) (m : Cells) (x y : V) (u v : Value) (d1 d2 : Dt) (b : Bool), L2.Sub X n A → Inv X pins σ H s → Base T F I H L m → DR T I x d1 → DR T I y d2 → RelV x u → RelV y v → D d1 d2 b →
  wpAny (model X.prog X.w) A (richCompare (NK.opN neg) u v) (fun r s' => r = .bool (neg != b) ∧ Grow X pins σ T F I L m s') X.xe s
/-- what is compared is whole data, and the same is equal -/
structure Tame (N : Nat) (D : Dq) : Prop where
  p1 : ∀ d1 d2 b, D d1 d2 b → okD d1 = true ∧ insD N d1 = true
  p2 : ∀ d1 d2 b, D d1 d2 b → okD d2 = true ∧ insD N d2 = true
  rf : ∀ d b, D d d b → b = true
section
variable {X : Cx} {T : Tab} {n m' : Nat} {D D' : Dq} {N : Nat}
theorem Tame.or (h : Tame N D) (h' : Tame N D') : Tame N (fun x y b => D x y b ∨ D' x y b) := ⟨fun d1 d2 b q => q.elim (h.p1 _ _ _) (h'.p1 _ _ _), fun d1 d2 b q => q.elim (h.p2 _ _ _) (h'.p2 _ _ _), fun d b q => q.elim (h.rf _ _) (h'.rf _ _)⟩
theorem EqK.mono (h : EqK X T n D) (hn : n ≤ m') : EqK X T m' D := fun A pins s σ F H I L m x y u v d1 d2 b sb => h A pins s σ F H I L m x y u v d1 d2 b (sb.mono hn)
theorem RcK.mono {neg : Bool} (h : RcK X T n neg D) (hn : n ≤ m') : RcK X T m' neg D := fun A pins s σ F H I L m x y u v d1 d2 b sb => h A pins s σ F H I L m x y u v d1 d2 b (sb.mono hn)
theorem EqK.or (h : EqK X T n D) (h' : EqK X T n D') : EqK X T n (fun x y b => D x y b ∨ D' x y b) := fun A pins s σ F H I L m x y u v d1 d2 b sb inv hs r1 r2 rx ry d => by
  rcases d with d | d
  · exact h A pins s σ F H I L m x y u v d1 d2 b sb inv hs r1 r2 rx ry d
  · exact h' A pins s σ F H I L m x y u v d1 d2 b sb inv hs r1 r2 rx ry d
theorem RcK.or {neg : Bool} (h : RcK X T n neg D) (h' : RcK X T n neg D') : RcK X T n neg (fun x y b => D x y b ∨ D' x y b) := fun A pins s σ F H I L m x y u v d1 d2 b sb inv hs r1 r2 rx ry d => by
  rcases d with d | d
  · exact h A pins s σ F H I L m x y u v d1 d2 b sb inv hs r1 r2 rx ry d
  · exact h' A pins s σ F H I L m x y u v d1 d2 b sb inv hs r1 r2 rx ry d
end
end FM
namespace FM
open PySem PySem.Spec PyProof.Rows L2
/-! ### dicts -/
section
variable {X : Cx} {C : Fc} {e : Expr} {st : Stmt} {me mb mc : ME}
inductive DPs (T : Tab) (I : Hp) : List (V × V) → List (L2.Key × Dt) → Prop
  | nil : DPs T I [] []
  | cons {k : L2.Key} {v : V} {d : Dt} {ps : List (V × V)} {ds : List (L2.Key × Dt)} : DR T I v d → DPs T I ps ds → DPs T I ((kV k, v) :: ps) ((k, d) :: ds)
theorem DPs.mono {T : Tab} {I I' : Hp} {ps : List (V × V)} {ds : List (L2.Key × Dt)} (h : DPs T I ps ds) (e : Same I I') : DPs T I' ps ds := by
  induction h with
  | nil => exact .nil
  | cons a _ ih => exact .cons (a.mono e) ih
end
end FM
namespace RZ
open PySem PySem.Calls PyProof.Rows
/-- the tuples that were drawn -/
structure ZG (xs ys : Array Value) (lo : Addr) (h : Heap) (as : List Addr) : Prop where
  rise : as.Pairwise (· < ·)
  above : ∀ a ∈ as, lo < a
  pairs : ∀ (j : Nat) (a : Addr), as[j]? = some a → ∃ x y, xs[j]? = some x ∧ ys[j]? = some y ∧ IsPair h a x y
theorem ZG.there {xs ys : Array Value} {lo : Addr} {h : Heap} {as : List Addr} (g : ZG xs ys lo h as) {a : Addr} (ha : a ∈ as) : a < h.objs.size := by
  obtain ⟨j, hj⟩ := List.mem_iff_getElem?.mp ha
  obtain ⟨_, _, _, _, e⟩ := g.pairs j a hj
  exact Heap.lt_size e
end RZ
namespace FM
open PySem PySem.Spec PyProof.Rows L2
/-! ### isinstance -/
section
variable {X : Cx} {C : Fc} {e : Expr} {ma : MA} {me mb mc : ME}
/-! ### list(zip(a, b)) -/
/-! ### and, or, not as values; -x -/
/-! ### max, min of two ints -/
/-! ### all of a list of bools -/
end
end FM
namespace FM
open PySem PySem.Spec PyProof.Rows L2
section
variable {X : Cx} {C : Fc} {e : Expr} {st : Stmt} {ma : MA} {me mb mc mi : ME}
/-! ### a, b = x, y -/
/-! ### x += e of a number -/
/-! ### xs[i] = v -/
/-! ### a list or a tuple, walked -/
/-! ### xs == [] -/
/-! ### isinstance(e, C) in the suite of a caught one -/
/-! ### xs[a:b] of a list, a cell -/
end
end FM
namespace FM
open PySem PySem.Spec PyProof.Rows L2
/-! ### == by own classes, as a function -/
end FM
namespace FM
open PySem PySem.Spec PyProof.Rows L2
/-! ### the tables of a law, and its facts as Bools over a part of the heap -/
def mkT (cs : List (Str × List Str)) (gs : List Str) (K : PySem.W.Frag) (tf : List (He.Defn × Str) := []) (rich : Bool := false) (so : Addr → List Str → HO := fun _ _ => .tup []) : Tab := ⟨K, fun c => He.ga K ((cs.getD c ("", [])).1), fun c => (cs.getD c ("", [])).2, fun i => He.ga K (gs.getD i ""), tf.map (fun p => ((He.cT K p.1).2, p.2)), rich, so⟩
def ob (K : PySem.W.Frag) (v : Value) (x : Str) (u : Option Value) : Bool := He.eqO (PySem.W.findIn K v x) (some u)
def excCB (K : PySem.W.Frag) (C : Addr) : Bool := ob K (.ref C) "__getattribute__" (some (.builtin "BaseException.__getattribute__")) && (ob K (.ref C) "__getattr__" none && (decide (PySem.W.subIn K (.ref C) (.type "BaseException") = some true) && (PySem.W.hasDictIn K C && (ob K (.ref C) "__class__" (some (.builtin "object.__class__")) && (decide (PySem.W.specialIn K (.builtin "object.__class__") "__get__" = some (some (.builtin "getset_descriptor.__get__"))) && (decide (PySem.W.takesIn K (.builtin "object.__class__") = some true) && decide (PySem.W.mroIn K C (.type "object") = some true)))))))
def oexB0 (K : PySem.W.Frag) (C : Addr) : Bool := match K.lookup C with
  | some ⟨.type "type", _, .cls cd, sl⟩ => (match cd.mro, sl.toList with
    | .ref C' :: bm, [_, _, _, _, some (.builtin n), _] => C' == C && n == "ValueError.__new__" && !cd.hasDel && cd.hasDict && PySem.HandSPX.refsVE bm
    | _, _ => false)
  | _ => false
def oexB (K : PySem.W.Frag) (C : Addr) : Bool := oexB0 K C && (ob K (.ref C) "__setattr__" (some (.builtin "object.__setattr__")) && (decide (PySem.W.subIn K (.ref C) (.type "BaseException") = some true) && (decide (PySem.W.typeIn K (.ref C) = some (.type "type")) && PySem.W.keepIn K (.ref C))))
def xfldB (T : Tab) (f : Str) (l : List (Nat × Nat)) : Bool := l.all fun p => xfB T.K (T.ca p.1) && (ob T.K (.ref (T.ca p.1)) f none && (decide ((T.cf p.1)[p.2]? = some f) && decide (T.cf p.1).Nodup))
def xisB (T : Tab) (u : Value) (l : List (Nat × Bool)) : Bool := l.all fun p => excCB T.K (T.ca p.1) && decide (PySem.W.kitOne T.K (.ref (T.ca p.1)) u = some p.2)
/-- an exception class of these fields, its __init__ at f -/
def exB (K : PySem.W.Frag) (C f : Addr) (fs : List Str) : Bool := oexB K C && (ob K (.ref C) "__init__" (some (.ref f)) && (decide (PySem.W.typeIn K (.ref f) = some (.type "function")) && ((fs.all fun x => ob K (.ref C) x none) && (xfB K C && decide (PySem.W.exmOne K (.ref C) (.ref C) = some true)))))
/-! ### the Hook -/
abbrev Fb := PySem.W.Frag → Bool
def obsF (fb : List Fb) (fn : List He.DefD) (K : PySem.W.Frag) : He.AlD := ((fb.all fun f => f K) && fn.all fun d => d.ok K, fn.map fun d => He.fnW K d.at_)
def SaysF (fb : List Fb) (fn : List He.DefD) (K : PySem.W.Frag) : Prop := obsF fb fn K = He.valD fn
def obsFG (n : Nat) (fb : List Fb) (fn : List He.DefD) (g : Addr → Option Obj) : He.AlD := obsF fb fn (He.frG g (He.asD g n))
def hookF (n : Nat) (fb : List Fb) (fn : List He.DefD) : PySem.W.Hook where
  α := He.AlD
  obs := fun s => obsFG n fb fn s.heap.get?
  val := fun _ => He.valD fn
  says := fun _ h => ∃ K : PySem.W.Frag, K.In h ∧ SaysF fb fn K
  of := fun _ _ e => ⟨_, He.frG_in, e⟩
  keeps := fun _ _ _ ⟨K, hK, c⟩ k => ⟨K, PySem.W.Frag.In.keeps hK k, c⟩
theorem obsFG_eq {n : Nat} {fb : List Fb} {fn : List He.DefD} {g : Addr → Option Obj} {s : Shared} (h : ∀ a, g a = s.heap.get? a) : obsFG n fb fn g = (hookF n fb fn).obs s := by
  have e : g = s.heap.get? := funext h
  rw [e] <;> rfl
section
variable {fb : List Fb} {fn : List He.DefD} {K : PySem.W.Frag}
end
end FM
namespace FM
open PySem PySem.Spec PyProof.Rows L2
end FM
namespace FM
open PySem PySem.Spec PyProof.Rows L2
/-! ### three at once; a list taken apart -/
end FM
namespace FM
open PySem PySem.Spec PyProof.Rows L2
/-! ### what a reading must give: weakest preconditions -/
abbrev EX := Nat → List Dt → Cells → Prop
@[irreducible] def wR {α : Type} (r : Rs α) (Q : α → Cells → Prop) (E : EX) : Prop := match r with
  | .ok a m => Q a m
  | .ex c fs m => E c fs m
  | .bad => False
abbrev PN := Gam → Cells → Prop
abbrev PR := Vl → Cells → Prop
abbrev PX := Nat → List Dt → Gam → Cells → Prop
@[irreducible] def wS (o : Out) (pN : PN) (pR : PR) (pB pC : PN) (pX : PX) : Prop := match o with
  | .nx g m => pN g m
  | .rt v m => pR v m
  | .bk g m => pB g m
  | .ct g m => pC g m
  | .ex c fs g m => pX c fs g m
  | .bad => False
section
variable {α : Type} {Q : α → Cells → Prop} {E : EX} {a : α} {m : Cells} {c : Nat} {fs : List Dt} {pN pB pC : PN} {pR : PR} {pX : PX} {g : Gam} {v : Vl}
end
section
variable {α β : Type} {g : Gam} {m : Cells} {E : EX}
/-! expressions -/
section
variable {Q : Vl → Cells → Prop} {ma mb mc : ME} {mr : MA}
/-! slices -/
/-! dicts -/
/-! what is walked -/
/-! list comprehensions -/
end
/-! targets -/
/-! statements -/
section
variable {pN pB pC : PN} {pR : PR} {pX : PX} {s t : MS} {me mo mi mv : ME} {mr : MA} {mg : MG}
/-! loops -/
/-! defs -/
@[irreducible] def wX (k : Nat) (Q : Vl → Cells → Prop) (v : Vl) (m : Cells) : Prop := match v with
  | .d d => Q (.d d) (m.take k)
  | .ref j => if j < k then Q (.ref j) (m.take k) else ∃ c, m[j]? = some (some c) ∧ c.isOb = false ∧ Q (.ref k) (m.take k ++ [some c])
  | .lam _ => False
end
end
end FM
namespace FM
open PySem PySem.Spec PyProof.Rows L2
/-! ### leaves -/
section
variable {m : Cells} {Q : Vl → Prop} {x y : Vl} {i j : Int} {a b : Str} {d e : Dt} {ds es : List Dt} {p : Bool}
/-! putting into a dict that may change -/
end
section
variable {g : Gam} {m : Cells} {E : EX} {Q : Vl → Cells → Prop} {ma : ME} {mr : MA}
end
end FM
namespace FS
open PySem PySem.Spec PyProof.Rows L2 PySem.Froz
/-! ### sets of texts: which ones, each once -/
def TxS (P : Program) (w : World) (h : Heap) (a : Addr) (L : List Str) : Prop :=
  ∃ D : SD, h.get? a = some (sObj "set" D) ∧ TxOk P w D L ∧ Ris D.2.2.place.toList ∧ (w.params.followText "set-order" = true ∨ D.2.2.led = true) ∧ L.Nodup
section
variable {P : Program} {w : World} {A : Around} {E : Value → Shared → Prop} {s : Shared} {h h' : Heap} {a : Addr} {L : List Str}
theorem TxS.at (R : TxS P w h a L) (k : ∀ o, h.get? a = some o → h'.get? a = some o) : TxS P w h' a L := let ⟨D, e, r⟩ := R; ⟨D, k _ e, r⟩
/-! sorted(the set) -/
end
end FS
namespace FS
open PySem PySem.Spec PyProof.Rows L2 PySem.Froz PpSet
/-! ### {text for .. in .. for .. in ..}: the machine's turns -/
section
variable {P : Program} {w : World} {A : Around} {R : Result → Shared → Prop} {s : Shared} {elt t0 i0 t1 i1 : Expr} {c0 c1 : List Expr} {scope : Scope} {pos : Pos} {it acc : Value} {env : Env}
/-- where something raised goes -/
abbrev nx (P : Program) (w : World) (A : Around) (env : Env) (R : Result → Shared → Prop) : Value → Shared → Prop := notedBy (model P w) A env fun e z => R (.error e) z
end
/-! ### the block -/
end FS
namespace FS
open PySem PySem.Spec PyProof.Rows L2 PySem.Froz PpSet
end FS
namespace FM
open PySem PySem.Spec PyProof.Rows L2 FS
/-! ### texts in order, each once -/
/-! ### sorted({.. for ..}) -/
end FM
namespace FM
open PySem PySem.Spec PyProof.Rows L2 FS
/-! ### two clauses -/
end FM
namespace FM
open PySem PySem.Spec PyProof.Rows L2 FS
/-! ### [.. for .. for ..] -/
end FM
namespace FS
open PySem PySem.Spec PyProof.Rows L2 PySem.Froz PpSet
/-! ### set(a list of texts) -/
section
variable {X : Cx}
end
end FS
namespace FM
open PySem PySem.Spec PyProof.Rows L2 FS
/-! ### sorted(set(xs)), sum(xs), max(xs), xs * n -/
/-! ### a dict that is done changing; dict(d) -/
end FM
namespace FM
open PySem PySem.Spec PyProof.Rows L2 FS
/-! ### a comprehension over a list that may change, and does not here -/
/-! ### sorted({..}), a new list that may change -/
end FM
namespace FM
open PySem PySem.Spec PyProof.Rows L2 FS
end FM
namespace FM
open PySem PySem.Spec PyProof.Rows L2 FS
/-! ### weakest preconditions of the newer readings -/
end FM
namespace FM
open PySem PySem.Spec PyProof.Rows L2
/-! ### a + b of lists, a cell; dict(d), a cell -/
section
variable {X : Cx} {C : Fc} {e : Expr} {ma mb me : ME}
end
/-! ### f(a, .., k = v, ..) -/
def pick {α : Type} (pm : List Nat) (l : List α) : List α := pm.filterMap fun i => l[i]?
/-- a def of the program, called with n values and keywords ks -/
structure CalW (P : Program) (w : World) (K : PySem.W.Frag) (mg : Str → Option Value) (base : Heap) (k : Nat) (x : Str) (ps : List Str) (n : Nat) (ks : List Str) (pm : List Nat) (sp : Sp) : Prop where
  ex : ∃ (f : Addr) (fd : FuncData), FnOk P w K mg base (L2N.CX P w) k f fd ps sp ∧ mg x = some (.ref f) ∧ PySem.W.keepIn K (.ref f) = true ∧ KBn K fd ps n ks (fun us ws => pick pm (us ++ ws)) (fun vs zs => pick pm (vs ++ zs))
section
variable {X : Cx} {C : Fc}
end
end FM
namespace FM
open PySem PySem.Spec PyProof.Rows L2
section
variable {g : Gam} {m : Cells} {Q : Vl → Cells → Prop} {E : EX} {ma mb me : ME}
end
end FM
namespace FM
open PySem PySem.Spec PyProof.Rows L2
/-! ### the head's run, looked at in parts -/
theorem omap3 {σ α β γ : Type} {e : Option σ} {f : σ → α} {g : σ → β} {h : σ → γ} {a : α} {b : β} {c : γ} (h1 : e.map (fun s => (f s, g s)) = some (a, b)) (h3 : e.map h = some c) : e.map (fun s => (f s, g s, h s)) = some (a, b, c) := by
  cases e with
  | none => cases h1
  | some s => cases h1; cases h3; rfl
def KG (n : Nat) (s : PySem.W.SharedT) : PySem.W.Frag := He.frG (HandSHeadRun.getT s) (He.asD (HandSHeadRun.getT s) n)
def appF (n : Nat) (s : PySem.W.SharedT) (f : Fb) : Bool := f (KG n s)
theorem omap_obs {e : Option PySem.W.SharedT} {n : Nat} {fb : List Fb} {fn : List He.DefD} (h1 : e.map (fun s => fb.all (appF n s)) = some true) (h2 : e.map (fun s => (fn.all fun d => d.ok (KG n s), fn.map fun d => He.fnW (KG n s) d.at_)) = some (true, fn.map He.DefD.val)) :
    e.map (fun s => obsFG n fb fn (HandSHeadRun.getT s)) = some (He.valD fn) := by
  cases e with
  | none => cases h1
  | some s =>
    have h1 : (fb.all fun f => f (KG n s)) = true := Option.some.inj h1
    have h2 : ((fn.all fun d => d.ok (KG n s), fn.map fun d => He.fnW (KG n s) d.at_) : He.AlD) = (true, fn.map He.DefD.val) := Option.some.inj h2
    have h3 : (fn.all fun d => d.ok (KG n s)) = true := congrArg Prod.fst h2
    have h4 : (fn.map fun d => He.fnW (KG n s) d.at_) = fn.map He.DefD.val := congrArg Prod.snd h2
    show some ((fb.all fun f => f (KG n s)) && fn.all fun d => d.ok (KG n s), fn.map fun d => He.fnW (KG n s) d.at_) = some (true, fn.map He.DefD.val)
    rw [h1, h3, h4]
    rfl
end FM
namespace FM
open PySem PySem.Spec PyProof.Rows L2
/-! ### xs.count(x), xs.index(x) of plain items -/
/-! ### where a comprehension's names stand -/
end FM
namespace FM
open PySem PySem.Spec PyProof.Rows L2
end FM
namespace FM
open PySem PySem.Spec PyProof.Rows L2
open Classical
/-! ### == of plain data, of whatever kinds -/
/-! plain: no bools, not deep -/
end FM
namespace FM
open PySem PySem.Spec PyProof.Rows L2
open Classical
/-! ### objects that are being built: their fields may be cells -/
section
variable {X : Cx} {C : Fc} {e : Expr} {ma : MA} {me mb : ME}
theorem VRs.set {T : Tab} {I : Hp} {A : List Addr} {vs : List V} {ds : List Vl} {v : V} {d : Vl} (h : VRs T I A vs ds) (hv : VR T I A v d) (i : Nat) : VRs T I A (vs.set i v) (ds.set i d) := by
  induction vs generalizing ds i with
  | nil => cases h; exact .nil
  | cons w vs ih =>
    cases h with
    | cons a t =>
      cases i with
      | zero => exact .cons hv t
      | succ i => exact .cons a (ih t i)
/-! methods -/
/-! a def that keeps what it makes -/
/-! the fields are done changing -/
end
/-! ### what these ask -/
end FM
namespace FM
open PySem PySem.Spec PyProof.Rows L2
/-! ### what leaves the objects that are being built as they are -/
section
variable {α β : Type} {m m1 m2 m3 : Cells}
theorem Obs.trans (h : Obs m m1) (k : Obs m1 m2) : Obs m m2 := ⟨Nat.le_trans h.1 k.1, fun i c fs hi q => by
  obtain ⟨c1, fs1, h1, h2⟩ := k.2 i c fs (Nat.lt_of_lt_of_le hi h.1) q
  obtain ⟨c0, fs0, h3, h4⟩ := h.2 i c1 fs1 hi h1
  exact ⟨c0, fs0, h3, fun j hj => h4 j (h2 j hj)⟩⟩
theorem Obs.set {i : Nat} {o : Option Cell} (ho : ∀ c fs, o ≠ some (.ob c fs)) : Obs m (m.set i o) := ⟨by simp, fun k c fs hk q => ⟨_, _, (set_ob ho q).2, fun _ h => h⟩⟩
theorem Obs.take {n : Nat} (h : Obs m m1) (hn : m.length ≤ n) : Obs m (m1.take n) := ⟨by rw [List.length_take]; have := h.1; omega, fun k c fs hk q => h.2 k c fs hk (by
  rw [List.getElem?_take_of_lt (by omega)] at q; exact q)⟩
theorem Qr.mono {r : Rs α} (h : Obs m m1) (q : Qr m1 r) : Qr m r := by
  cases r with
  | ok a m' => exact h.trans q
  | ex c fs m' => exact h.trans q
  | bad => trivial
theorem Qo.mono {o : Out} (h : Obs m m1) (q : Qo m1 o) : Qo m o := by
  cases o with
  | bad => trivial
  | nx g m' => exact h.trans q
  | rt v m' => exact h.trans q
  | bk g m' => exact h.trans q
  | ct g m' => exact h.trans q
  | ex c fs g m' => exact h.trans q
end
def Qe {α : Type} (f : Gam → Cells → Rs α) : Prop := ∀ g m, Qr m (f g m)
theorem Qe.ok {α : Type} {f : Gam → Cells → Rs α} (h : Qe f) {g : Gam} {m m' : Cells} {a : α} (e : f g m = .ok a m') : Obs m m' := by
  have := h g m
  rw [e] at this
  exact this
local macro_rules
  | `(tactic| array_get_dec) => `(tactic| (repeat' (first | exact q_bad | exact q_ok | exact q_ofO | exact trivial | exact Obs.refl | exact Obs.app | split | (refine Obs.set ?_; intro c fs e; cases e))))
section
variable {ma mb mc me mi mo mv mk : ME} {mr : MA} {t u : MT} {s s' : MS}
/-! targets -/
/-! comprehensions -/
section
variable {mg mg1 : MG} {mt mt1 : MT} {mi mi1 : MI} {own own1 : List Nat}
/-! statements -/
end
end
end FM
namespace FM
open PySem PySem.Spec PyProof.Rows L2
/-! ### enumerate(tuple) -/
end FM
namespace FM
open PySem PySem.Spec PyProof.Rows L2
/-! ### tuple * 0, tuple * 1 -/
/-! ### len of a dict -/
/-! ### isinstance(x, (A, B)) -/
end FM
namespace FM
open PySem PySem.Spec PyProof.Rows L2
/-! ### list(range(n)) -/
/-! ### a comprehension over a list that may change: a new cell -/
/-! ### x(a, .., k = v, ..), x a local name that holds a def -/
/-- the def at f, called with n values and keywords ks -/
structure CalA (P : Program) (w : World) (K : PySem.W.Frag) (mg : Str → Option Value) (base : Heap) (k : Nat) (f : Addr) (n : Nat) (ks : List Str) (pm : List Nat) (sp : Sp) : Prop where
  ex : ∃ (fd : FuncData) (ps : List Str), FnOk P w K mg base (L2N.CX P w) k f fd ps sp ∧ PySem.W.keepIn K (.ref f) = true ∧ KBn K fd ps n ks (fun us ws => pick pm (us ++ ws)) (fun vs zs => pick pm (vs ++ zs))
theorem CalW.at {P : Program} {w : World} {K : PySem.W.Frag} {mg : Str → Option Value} {base : Heap} {k n : Nat} {x : Str} {ps ks : List Str} {pm : List Nat} {sp : Sp} {a : Addr} (c : CalW P w K mg base k x ps n ks pm sp) (h : mg x = some (.ref a)) : CalA P w K mg base k a n ks pm sp := by
  obtain ⟨f, fd, F, hm, hk, hb⟩ := c.ex
  rw [h] at hm
  cases hm
  exact ⟨fd, ps, F, hk, hb⟩
section
variable {X : Cx} {C : Fc}
end
/-! ### what they leave as it is -/
section
variable {ma : MA} {m0 me : ME} {mk : MA} {mg : MG} {mt : MT} {own : List Nat}
end
end FM
namespace FS
open PySem PySem.Spec PyProof.Rows L2 PySem.Froz PpSet
/-! ### {k: v for .. in .. for .. in ..}: the machine's turns -/
end FS
namespace FM
open PySem PySem.Spec PyProof.Rows L2 FS
/-! ### {k: v for ..}, a dict that never changes -/
/-! ### in the style of weakest preconditions -/
/-! ### what they leave as it is -/
section
variable {mi mi1 : MI} {mg mg1 : MG} {mt mt1 : MT} {mk mv : ME} {own own1 : List Nat}
end
end FM
namespace FM
open PySem PySem.Spec PyProof.Rows L2
/-! ### dict(pairs) -/
end FM
namespace FM
open PySem PySem.Spec PyProof.Rows L2
/-! ### a for over a list that may change, and does not while it is walked -/
/-! ### in the style of weakest preconditions -/
section
variable {s : MS} {mg : MG} {m0 : ME}
end
end FM
namespace FM
open PySem PySem.Spec PyProof.Rows L2
/-! ### a for over enumerate(a list that may change, and does not while it is walked) -/
section
variable {s : MS} {mg : MG} {m0 : ME}
end
end FM
namespace FM
open PySem PySem.Spec PyProof.Rows L2
open Classical
/-! ### xs.insert(i, y) of a list that may change -/
/-! ### [x] * n -/
/-! ### x or y by truth -/
/-! ### == of plain data and lists that may change -/
end FM
namespace FM
open PySem PySem.Spec PyProof.Rows L2
/-! ### list(dict), sorted(ints), min(tuple of ints) -/
/-! list of a dict's keys -/
/-! sorted of ints -/
/-! f(k = v, ..) -/
/-! tuple * n -/
end FM
namespace FM
open PySem PySem.Spec PyProof.Rows L2
open Classical
/-! ### [k for k in d if d[k] != t[k]]: d a dict that may change, its keys ints; t a tuple of plain things -/
end FM
namespace FM
open PySem PySem.Spec PyProof.Rows L2
open Classical
/-! ### dicts whose values may be cells (boxes) -/
section
variable {X : Cx} {C : Fc} {e : Expr} {st : Stmt} {me mb mc : ME}
end
/-! what these ask -/
section
variable {g : Gam} {m : Cells} {E : EX} {mk mv mo mi me : ME}
/-! what these keep -/
end
end FM
namespace FM
open PySem PySem.Spec PyProof.Rows L2
open Classical
/-! ### lists and tuples whose items may be cells -/
section
variable {g : Gam} {m : Cells} {E : EX} {ma : MA} {P : Vl → Prop}
end
end FM
namespace FM
open PySem PySem.Spec PyProof.Rows L2
open Classical
/-! ### append and pop of a list box -/
end FM
namespace FM
open PySem PySem.Spec PyProof.Rows L2
open Classical
/-! ### a body that is looked at: no thing below gets new refs -/
/-! what these ask -/
end FM
namespace FM
open PySem PySem.Spec PyProof.Rows L2
open Classical
/-! ### targets: a tuple whose items may be cells -/
end FM
namespace FM
open PySem PySem.Spec PyProof.Rows L2
open Classical
/-! ### `in` a list of plain data, of whatever kinds -/
/-! ### where the names of a comprehension within one stand -/
end FM
namespace FM
open PySem PySem.Spec PyProof.Rows L2
open Classical
/-! ### x.f += n -/
section
variable {pN pB pC : PN} {pR : PR} {pX : PX} {mo mv : ME} {g : Gam} {m : Cells} {ix : FTab}
end
end FM
namespace FM
open PySem PySem.Spec PyProof.Rows L2 FS
open Classical
/-! ### targets of a comprehension: a tuple whose items may be cells -/
/-! ### a comprehension over a list whose items may be cells -/
section
variable {mg : MG} {mt : MT} {me m0 : ME} {own : List Nat}
/-! targets -/
end
end FM
namespace FM
open PySem PySem.Spec PyProof.Rows L2
open Classical
/-! ### a for over enumerate(a list cell, a list, a tuple) -/
section
variable {C : Fc} {mg : MG} {s : MS}
end
section
variable {pN pB pC : PN} {pR : PR} {pX : PX} {s : MS} {mg : MG} {m0 : ME} {g : Gam} {m : Cells}
end
end FM
namespace FM
open PySem PySem.Spec PyProof.Rows L2
open Classical
/-! ### C(a, .., k = v, ..) that may change; keyword-only parameters left out have their defaults; __init__ raises nothing -/
section
variable {ma mk : MA} {g : Gam} {m : Cells} {E : EX} {c n k : Nat} {pm : List Nat} {ms : List Dt} {f : Fn}
end
end FM
namespace FM
open PySem PySem.Spec PyProof.Rows L2
open Classical
/-! ### a.split(b), a.join(rows) -/
section
variable {X : Cx} {C : Fc} {e : Expr} {ma mb : ME}
end
section
variable {ma mb : ME} {g : Gam} {m : Cells} {E : EX} {f : O2}
end
end FM
namespace FM
open PySem PySem.Spec PyProof.Rows L2
open Classical
/-! ### C(k = v, ..) by keywords alone, frozen when it is made; __init__ raises nothing -/
section
variable {mk : MA} {g : Gam} {m : Cells} {E : EX} {c n k : Nat} {pm : List Nat} {f : Fn}
end
/-! ### f'..' -/
/-! ### int of a text -/
section
variable {me : ME} {ms : List ME} {g : Gam} {m : Cells} {E : EX} {Q : Vl → Cells → Prop} {acc : Str}
end
end FM
namespace FM
open PySem PySem.Spec PyProof.Rows L2 L2H
open Classical
/-! ### what is called while an exception is handled -/
/-! ### e.m() of the exception that is handled -/
section
variable {X : Cx} {e : Expr} {c i : Nat} {dd : Addr} {ds : List Dt} {T : Tab} {W : WX} {p : Addr × Obj} {apos pos : Pos} {m : Str} {k : Nat} {pl : Sem Bool}
/-! ### f(e) -/
end
end FM
namespace FM
open PySem PySem.Spec PyProof.Rows L2 L2H
/-! ### .. its context, its facts, what it keeps -/
def xmB (K : PySem.W.Frag) (C : Addr) (m : Str) (f : Addr) : Bool := xfB K C && (ob K (.ref C) m (some (.ref f)) && (PySem.W.isFn K (.ref f) && PySem.W.keepIn K (.ref f)))
end FM
namespace FS
open PySem PySem.Spec PyProof.Rows L2 PySem.Froz
/-! ### a set of texts that stands by a name -/
end FS
namespace FM
open PySem PySem.Spec PyProof.Rows L2 FS
/-! ### .. on the data's side: a cell -/
section
variable {X : Cx} {C : Fc} {e : Expr} {me mb : ME}
end
/-! ### weakest preconditions, and what these readings keep -/
section
variable {g : Gam} {m : Cells} {Q : Vl → Cells → Prop} {E : EX} {me mb : ME}
end
/-! ### texts by their order -/
end FM
namespace PySem
namespace HandSPX
open Builtin Builtin.ObjectAttr
section
variable {M : Model} {A : Around} {E : Value → Shared → Prop} {h : Heap} {g : Array GenState} {d : Drawn} {t : Nat} {os : OsState}
variable {nm q : Str} {C N : Addr} {bs bm mB : List Value} {hdct : Bool} {sn : List Str} {sub : List Value} {ab : Bool} {col : Option Bool} {dd : Option Addr} {k0 k1 k2 k3 k5 : Option Value} {B nI iI : String}
end
section
variable {prog : Program} {w : World} {A : Around} {E : Value → Shared → Prop} {R : Result → Shared → Prop} {h : Heap} {g : Array GenState} {d : Drawn} {t : Nat} {os : OsState}
variable {nm q : Str} {C N : Addr} {bs bm mB : List Value} {hdct : Bool} {sn : List Str} {sub : List Value} {ab : Bool} {col : Option Bool} {dd : Option Addr} {k0 k1 k2 k3 k5 : Option Value} {B nI iI : String}
end
end HandSPX
end PySem
namespace NK
open PySem PySem.Spec PyProof.Rows L2
/-! ### an own exception class, called: its instance as a value -/
end NK
namespace NK
open PySem PySem.Spec PyProof.Rows L2 FM
/-! ### X(..), X(k = ..), X() as values -/
section
variable {X : Cx} {x : Str} {Cc : Addr} {k n : Nat} {ks fs : List Str} {pm : List Nat} {p pos : Pos} {e : Expr} {es : List Expr} {kws : List Keyword} {t tk : TA}
end
end NK
namespace NK
open PySem PySem.Spec PyProof.Rows L2 FM
/-! ### what is read of such a value -/
end NK
namespace FM
open PySem PySem.Spec PyProof.Rows L2
/-! ### exceptions as data -/
section
variable {X : Cx} {C : Fc} {e : Expr} {ma mk me : MA} {mf : ME}
end
end FM
namespace FM
open PySem PySem.Spec PyProof.Rows L2
/-! ### what is read of an exception that is data -/
section
variable {X : Cx} {C : Fc} {e : Expr} {me : ME}
end
/-! ### what they leave as it is; in the style of weakest preconditions -/
section
variable {ma mk me : ME} {mr : MA}
variable {g : Gam} {m : Cells} {Q : Vl → Cells → Prop} {E : EX}
end
end FM
namespace FM
open PySem PySem.Spec PyProof.Rows L2
/-! ### facts of the classes, as Bools -/
def ex0B (K : PySem.W.Frag) (C : Addr) : Bool := PySem.W.excIn K C [.type "ValueError", .type "Exception", .type "BaseException", .type "object"] "ValueError.__new__" && PySem.W.keepIn K (.ref C)
end FM
namespace K01
open PySem PySem.Spec PyProof.Rows L2 FM
noncomputable section
def topS (i : Nat) : Stmt := PySem.Challenge.pw_nestkeys_k01_refusals_told.main.body.getD i (.Pass ⟨0, 0, 0, 0⟩)
def cs : List (Str × List Str) := [("KeysError", []), ("BadCount", ["count", "what"]), ("NoName", ["name"]), ("Twice", ["name"]), ("NoPart", ["name"]), ("NoSort", ["name"]), ("BadRow", ["place", "row"]), ("NoRoom", ["room"]), ("NoHand", ["hand"]), ("Ended", ["hand"]), ("NoStep", ["step"]), ("Taken", ["holder", "key"]), ("NoKey", ["name"]), ("Wide", ["count"]), ("Clash", ["why"]), ("NoMark", ["name"]), ("Never", []), ("Tangled", ["ring"]), ("Met", ["place"]), ("Broken", ["deeds", "hands", "name"]), ("NoBar", ["name"]), ("NoBack", [])]
def gs : List Str := []
abbrev TT (K : PySem.W.Frag) : Tab := mkT cs gs K [] true
def ixx_name : List (Nat × Nat) := [(2, 0), (3, 0), (4, 0), (5, 0), (12, 0), (15, 0), (19, 2), (20, 0)]
def ixx_room : List (Nat × Nat) := [(7, 0)]
def ixx_hand : List (Nat × Nat) := [(8, 0), (9, 0)]
def ixx_step : List (Nat × Nat) := [(10, 0)]
def ixx_count : List (Nat × Nat) := [(1, 0), (13, 0)]
def ixx_place : List (Nat × Nat) := [(6, 0), (18, 0)]
def ixx_what : List (Nat × Nat) := [(1, 1)]
def ixx_row : List (Nat × Nat) := [(6, 1)]
def ixx_key : List (Nat × Nat) := [(11, 1)]
def ixx_holder : List (Nat × Nat) := [(11, 0)]
def ixx_why : List (Nat × Nat) := [(14, 0)]
def ixx_ring : List (Nat × Nat) := [(17, 0)]
def ixx_hands : List (Nat × Nat) := [(19, 1)]
def ixx_deeds : List (Nat × Nat) := [(19, 0)]
def xis_NoName : List (Nat × Bool) := [(1, false), (2, true), (3, false), (4, false), (5, false), (6, false), (7, false), (8, false), (9, false), (10, false), (11, false), (12, false), (13, false), (14, false), (15, false), (16, false), (17, false), (18, false), (19, false), (20, false), (21, false)]
def xis_Twice : List (Nat × Bool) := [(1, false), (2, false), (3, true), (4, false), (5, false), (6, false), (7, false), (8, false), (9, false), (10, false), (11, false), (12, false), (13, false), (14, false), (15, false), (16, false), (17, false), (18, false), (19, false), (20, false), (21, false)]
def xis_NoPart : List (Nat × Bool) := [(1, false), (2, false), (3, false), (4, true), (5, false), (6, false), (7, false), (8, false), (9, false), (10, false), (11, false), (12, false), (13, false), (14, false), (15, false), (16, false), (17, false), (18, false), (19, false), (20, false), (21, false)]
def xis_NoSort : List (Nat × Bool) := [(1, false), (2, false), (3, false), (4, false), (5, true), (6, false), (7, false), (8, false), (9, false), (10, false), (11, false), (12, false), (13, false), (14, false), (15, false), (16, false), (17, false), (18, false), (19, false), (20, false), (21, false)]
def xis_NoKey : List (Nat × Bool) := [(1, false), (2, false), (3, false), (4, false), (5, false), (6, false), (7, false), (8, false), (9, false), (10, false), (11, false), (12, true), (13, false), (14, false), (15, false), (16, false), (17, false), (18, false), (19, false), (20, false), (21, false)]
def xis_NoMark : List (Nat × Bool) := [(1, false), (2, false), (3, false), (4, false), (5, false), (6, false), (7, false), (8, false), (9, false), (10, false), (11, false), (12, false), (13, false), (14, false), (15, true), (16, false), (17, false), (18, false), (19, false), (20, false), (21, false)]
def xis_NoBar : List (Nat × Bool) := [(1, false), (2, false), (3, false), (4, false), (5, false), (6, false), (7, false), (8, false), (9, false), (10, false), (11, false), (12, false), (13, false), (14, false), (15, false), (16, false), (17, false), (18, false), (19, false), (20, true), (21, false)]
def xis_NoRoom : List (Nat × Bool) := [(1, false), (2, false), (3, false), (4, false), (5, false), (6, false), (7, true), (8, false), (9, false), (10, false), (11, false), (12, false), (13, false), (14, false), (15, false), (16, false), (17, false), (18, false), (19, false), (20, false), (21, false)]
def xis_NoHand : List (Nat × Bool) := [(1, false), (2, false), (3, false), (4, false), (5, false), (6, false), (7, false), (8, true), (9, false), (10, false), (11, false), (12, false), (13, false), (14, false), (15, false), (16, false), (17, false), (18, false), (19, false), (20, false), (21, false)]
def xis_Ended : List (Nat × Bool) := [(1, false), (2, false), (3, false), (4, false), (5, false), (6, false), (7, false), (8, false), (9, true), (10, false), (11, false), (12, false), (13, false), (14, false), (15, false), (16, false), (17, false), (18, false), (19, false), (20, false), (21, false)]
def xis_NoStep : List (Nat × Bool) := [(1, false), (2, false), (3, false), (4, false), (5, false), (6, false), (7, false), (8, false), (9, false), (10, true), (11, false), (12, false), (13, false), (14, false), (15, false), (16, false), (17, false), (18, false), (19, false), (20, false), (21, false)]
def xis_Wide : List (Nat × Bool) := [(1, false), (2, false), (3, false), (4, false), (5, false), (6, false), (7, false), (8, false), (9, false), (10, false), (11, false), (12, false), (13, true), (14, false), (15, false), (16, false), (17, false), (18, false), (19, false), (20, false), (21, false)]
def xis_Met : List (Nat × Bool) := [(1, false), (2, false), (3, false), (4, false), (5, false), (6, false), (7, false), (8, false), (9, false), (10, false), (11, false), (12, false), (13, false), (14, false), (15, false), (16, false), (17, false), (18, true), (19, false), (20, false), (21, false)]
def xis_BadCount : List (Nat × Bool) := [(1, true), (2, false), (3, false), (4, false), (5, false), (6, false), (7, false), (8, false), (9, false), (10, false), (11, false), (12, false), (13, false), (14, false), (15, false), (16, false), (17, false), (18, false), (19, false), (20, false), (21, false)]
def xis_BadRow : List (Nat × Bool) := [(1, false), (2, false), (3, false), (4, false), (5, false), (6, true), (7, false), (8, false), (9, false), (10, false), (11, false), (12, false), (13, false), (14, false), (15, false), (16, false), (17, false), (18, false), (19, false), (20, false), (21, false)]
def xis_Taken : List (Nat × Bool) := [(1, false), (2, false), (3, false), (4, false), (5, false), (6, false), (7, false), (8, false), (9, false), (10, false), (11, true), (12, false), (13, false), (14, false), (15, false), (16, false), (17, false), (18, false), (19, false), (20, false), (21, false)]
def xis_Clash : List (Nat × Bool) := [(1, false), (2, false), (3, false), (4, false), (5, false), (6, false), (7, false), (8, false), (9, false), (10, false), (11, false), (12, false), (13, false), (14, true), (15, false), (16, false), (17, false), (18, false), (19, false), (20, false), (21, false)]
def xis_Tangled : List (Nat × Bool) := [(1, false), (2, false), (3, false), (4, false), (5, false), (6, false), (7, false), (8, false), (9, false), (10, false), (11, false), (12, false), (13, false), (14, false), (15, false), (16, false), (17, true), (18, false), (19, false), (20, false), (21, false)]
def xis_Broken : List (Nat × Bool) := [(1, false), (2, false), (3, false), (4, false), (5, false), (6, false), (7, false), (8, false), (9, false), (10, false), (11, false), (12, false), (13, false), (14, false), (15, false), (16, false), (17, false), (18, false), (19, true), (20, false), (21, false)]
def xis_Never : List (Nat × Bool) := [(1, false), (2, false), (3, false), (4, false), (5, false), (6, false), (7, false), (8, false), (9, false), (10, false), (11, false), (12, false), (13, false), (14, false), (15, false), (16, true), (17, false), (18, false), (19, false), (20, false), (21, false)]
def xis_NoBack : List (Nat × Bool) := [(1, false), (2, false), (3, false), (4, false), (5, false), (6, false), (7, false), (8, false), (9, false), (10, false), (11, false), (12, false), (13, false), (14, false), (15, false), (16, false), (17, false), (18, false), (19, false), (20, false), (21, true)]
def xis_KeysError : List (Nat × Bool) := [(1, true), (2, true), (3, true), (4, true), (5, true), (6, true), (7, true), (8, true), (9, true), (10, true), (11, true), (12, true), (13, true), (14, true), (15, true), (16, true), (17, true), (18, true), (19, true), (20, true), (21, true)]
def xis_ValueError : List (Nat × Bool) := [(1, true), (2, true), (3, true), (4, true), (5, true), (6, true), (7, true), (8, true), (9, true), (10, true), (11, true), (12, true), (13, true), (14, true), (15, true), (16, true), (17, true), (18, true), (19, true), (20, true), (21, true)]
abbrev sIBadCount : Stmt := inClass (topS 2) 0
abbrev sINoName : Stmt := inClass (topS 3) 0
abbrev sITwice : Stmt := inClass (topS 4) 0
abbrev sINoPart : Stmt := inClass (topS 5) 0
abbrev sINoSort : Stmt := inClass (topS 6) 0
abbrev sIBadRow : Stmt := inClass (topS 7) 0
abbrev sINoRoom : Stmt := inClass (topS 8) 0
abbrev sINoHand : Stmt := inClass (topS 9) 0
abbrev sIEnded : Stmt := inClass (topS 10) 0
abbrev sINoStep : Stmt := inClass (topS 11) 0
abbrev sITaken : Stmt := inClass (topS 12) 0
abbrev sINoKey : Stmt := inClass (topS 13) 0
abbrev sIWide : Stmt := inClass (topS 14) 0
abbrev sIClash : Stmt := inClass (topS 15) 0
abbrev sINoMark : Stmt := inClass (topS 16) 0
abbrev sITangled : Stmt := inClass (topS 18) 0
abbrev sIMet : Stmt := inClass (topS 19) 0
abbrev sIBroken : Stmt := inClass (topS 20) 0
abbrev sINoBar : Stmt := inClass (topS 21) 0
abbrev sBadCountT : Stmt := inClass (topS 2) 1
abbrev sNoNameT : Stmt := inClass (topS 3) 1
abbrev sTwiceT : Stmt := inClass (topS 4) 1
abbrev sNoPartT : Stmt := inClass (topS 5) 1
abbrev sNoSortT : Stmt := inClass (topS 6) 1
abbrev sBadRowT : Stmt := inClass (topS 7) 1
abbrev sNoRoomT : Stmt := inClass (topS 8) 1
abbrev sNoHandT : Stmt := inClass (topS 9) 1
abbrev sEndedT : Stmt := inClass (topS 10) 1
abbrev sNoStepT : Stmt := inClass (topS 11) 1
abbrev sTakenT : Stmt := inClass (topS 12) 1
abbrev sNoKeyT : Stmt := inClass (topS 13) 1
abbrev sWideT : Stmt := inClass (topS 14) 1
abbrev sClashT : Stmt := inClass (topS 15) 1
abbrev sNoMarkT : Stmt := inClass (topS 16) 1
abbrev sNeverT : Stmt := inClass (topS 17) 0
abbrev sTangledT : Stmt := inClass (topS 18) 1
abbrev sMetT : Stmt := inClass (topS 19) 1
abbrev sBrokenT : Stmt := inClass (topS 20) 1
abbrev sNoBarT : Stmt := inClass (topS 21) 1
abbrev sNoBackT : Stmt := inClass (topS 22) 0
abbrev sCellAt : Stmt := topS 24
abbrev sState : Stmt := topS 25
abbrev sDigit : Stmt := topS 26
abbrev sWord : Stmt := topS 27
abbrev sTextOne : Stmt := topS 28
abbrev sNumOne : Stmt := topS 29
abbrev sMade : Stmt := topS 30
abbrev sFields : Stmt := topS 31
abbrev sDue : Stmt := topS 32
abbrev sRight : Stmt := topS 33
abbrev sLaw : Stmt := topS 34
def dIBadCount : He.DefD := ⟨("BadCount", some "__init__"), "__init__", "BadCount.__init__", defArgs sIBadCount, defBody sIBadCount, defScope sIBadCount, [], []⟩
def dINoName : He.DefD := ⟨("NoName", some "__init__"), "__init__", "NoName.__init__", defArgs sINoName, defBody sINoName, defScope sINoName, [], []⟩
def dITwice : He.DefD := ⟨("Twice", some "__init__"), "__init__", "Twice.__init__", defArgs sITwice, defBody sITwice, defScope sITwice, [], []⟩
def dINoPart : He.DefD := ⟨("NoPart", some "__init__"), "__init__", "NoPart.__init__", defArgs sINoPart, defBody sINoPart, defScope sINoPart, [], []⟩
def dINoSort : He.DefD := ⟨("NoSort", some "__init__"), "__init__", "NoSort.__init__", defArgs sINoSort, defBody sINoSort, defScope sINoSort, [], []⟩
def dIBadRow : He.DefD := ⟨("BadRow", some "__init__"), "__init__", "BadRow.__init__", defArgs sIBadRow, defBody sIBadRow, defScope sIBadRow, [], []⟩
def dINoRoom : He.DefD := ⟨("NoRoom", some "__init__"), "__init__", "NoRoom.__init__", defArgs sINoRoom, defBody sINoRoom, defScope sINoRoom, [], []⟩
def dINoHand : He.DefD := ⟨("NoHand", some "__init__"), "__init__", "NoHand.__init__", defArgs sINoHand, defBody sINoHand, defScope sINoHand, [], []⟩
def dIEnded : He.DefD := ⟨("Ended", some "__init__"), "__init__", "Ended.__init__", defArgs sIEnded, defBody sIEnded, defScope sIEnded, [], []⟩
def dINoStep : He.DefD := ⟨("NoStep", some "__init__"), "__init__", "NoStep.__init__", defArgs sINoStep, defBody sINoStep, defScope sINoStep, [], []⟩
def dITaken : He.DefD := ⟨("Taken", some "__init__"), "__init__", "Taken.__init__", defArgs sITaken, defBody sITaken, defScope sITaken, [], []⟩
def dINoKey : He.DefD := ⟨("NoKey", some "__init__"), "__init__", "NoKey.__init__", defArgs sINoKey, defBody sINoKey, defScope sINoKey, [], []⟩
def dIWide : He.DefD := ⟨("Wide", some "__init__"), "__init__", "Wide.__init__", defArgs sIWide, defBody sIWide, defScope sIWide, [], []⟩
def dIClash : He.DefD := ⟨("Clash", some "__init__"), "__init__", "Clash.__init__", defArgs sIClash, defBody sIClash, defScope sIClash, [], []⟩
def dINoMark : He.DefD := ⟨("NoMark", some "__init__"), "__init__", "NoMark.__init__", defArgs sINoMark, defBody sINoMark, defScope sINoMark, [], []⟩
def dITangled : He.DefD := ⟨("Tangled", some "__init__"), "__init__", "Tangled.__init__", defArgs sITangled, defBody sITangled, defScope sITangled, [], []⟩
def dIMet : He.DefD := ⟨("Met", some "__init__"), "__init__", "Met.__init__", defArgs sIMet, defBody sIMet, defScope sIMet, [], []⟩
def dIBroken : He.DefD := ⟨("Broken", some "__init__"), "__init__", "Broken.__init__", defArgs sIBroken, defBody sIBroken, defScope sIBroken, [], []⟩
def dINoBar : He.DefD := ⟨("NoBar", some "__init__"), "__init__", "NoBar.__init__", defArgs sINoBar, defBody sINoBar, defScope sINoBar, [], []⟩
def dBadCountT : He.DefD := ⟨("BadCount", some "told"), "told", "BadCount.told", defArgs sBadCountT, defBody sBadCountT, defScope sBadCountT, [], []⟩
def dNoNameT : He.DefD := ⟨("NoName", some "told"), "told", "NoName.told", defArgs sNoNameT, defBody sNoNameT, defScope sNoNameT, [], []⟩
def dTwiceT : He.DefD := ⟨("Twice", some "told"), "told", "Twice.told", defArgs sTwiceT, defBody sTwiceT, defScope sTwiceT, [], []⟩
def dNoPartT : He.DefD := ⟨("NoPart", some "told"), "told", "NoPart.told", defArgs sNoPartT, defBody sNoPartT, defScope sNoPartT, [], []⟩
def dNoSortT : He.DefD := ⟨("NoSort", some "told"), "told", "NoSort.told", defArgs sNoSortT, defBody sNoSortT, defScope sNoSortT, [], []⟩
def dBadRowT : He.DefD := ⟨("BadRow", some "told"), "told", "BadRow.told", defArgs sBadRowT, defBody sBadRowT, defScope sBadRowT, [], []⟩
def dNoRoomT : He.DefD := ⟨("NoRoom", some "told"), "told", "NoRoom.told", defArgs sNoRoomT, defBody sNoRoomT, defScope sNoRoomT, [], []⟩
def dNoHandT : He.DefD := ⟨("NoHand", some "told"), "told", "NoHand.told", defArgs sNoHandT, defBody sNoHandT, defScope sNoHandT, [], []⟩
def dEndedT : He.DefD := ⟨("Ended", some "told"), "told", "Ended.told", defArgs sEndedT, defBody sEndedT, defScope sEndedT, [], []⟩
def dNoStepT : He.DefD := ⟨("NoStep", some "told"), "told", "NoStep.told", defArgs sNoStepT, defBody sNoStepT, defScope sNoStepT, [], []⟩
def dTakenT : He.DefD := ⟨("Taken", some "told"), "told", "Taken.told", defArgs sTakenT, defBody sTakenT, defScope sTakenT, [], []⟩
def dNoKeyT : He.DefD := ⟨("NoKey", some "told"), "told", "NoKey.told", defArgs sNoKeyT, defBody sNoKeyT, defScope sNoKeyT, [], []⟩
def dWideT : He.DefD := ⟨("Wide", some "told"), "told", "Wide.told", defArgs sWideT, defBody sWideT, defScope sWideT, [], []⟩
def dClashT : He.DefD := ⟨("Clash", some "told"), "told", "Clash.told", defArgs sClashT, defBody sClashT, defScope sClashT, [], []⟩
def dNoMarkT : He.DefD := ⟨("NoMark", some "told"), "told", "NoMark.told", defArgs sNoMarkT, defBody sNoMarkT, defScope sNoMarkT, [], []⟩
def dNeverT : He.DefD := ⟨("Never", some "told"), "told", "Never.told", defArgs sNeverT, defBody sNeverT, defScope sNeverT, [], []⟩
def dTangledT : He.DefD := ⟨("Tangled", some "told"), "told", "Tangled.told", defArgs sTangledT, defBody sTangledT, defScope sTangledT, [], []⟩
def dMetT : He.DefD := ⟨("Met", some "told"), "told", "Met.told", defArgs sMetT, defBody sMetT, defScope sMetT, [], []⟩
def dBrokenT : He.DefD := ⟨("Broken", some "told"), "told", "Broken.told", defArgs sBrokenT, defBody sBrokenT, defScope sBrokenT, [], []⟩
def dNoBarT : He.DefD := ⟨("NoBar", some "told"), "told", "NoBar.told", defArgs sNoBarT, defBody sNoBarT, defScope sNoBarT, [], []⟩
def dNoBackT : He.DefD := ⟨("NoBack", some "told"), "told", "NoBack.told", defArgs sNoBackT, defBody sNoBackT, defScope sNoBackT, [], []⟩
def dCellAt : He.DefD := ⟨("_law_cell_at", none), "_law_cell_at", "_law_cell_at", defArgs sCellAt, defBody sCellAt, defScope sCellAt, [], []⟩
def dState : He.DefD := ⟨("_law_state", none), "_law_state", "_law_state", defArgs sState, defBody sState, defScope sState, [], []⟩
def dDigit : He.DefD := ⟨("_law_digit", none), "_law_digit", "_law_digit", defArgs sDigit, defBody sDigit, defScope sDigit, [], []⟩
def dWord : He.DefD := ⟨("_law_word", none), "_law_word", "_law_word", defArgs sWord, defBody sWord, defScope sWord, [], []⟩
def dTextOne : He.DefD := ⟨("_law_text_one", none), "_law_text_one", "_law_text_one", defArgs sTextOne, defBody sTextOne, defScope sTextOne, [], []⟩
def dNumOne : He.DefD := ⟨("_law_number_one", none), "_law_number_one", "_law_number_one", defArgs sNumOne, defBody sNumOne, defScope sNumOne, [], []⟩
def dMade : He.DefD := ⟨("_law_made", none), "_law_made", "_law_made", defArgs sMade, defBody sMade, defScope sMade, [], []⟩
def dFields : He.DefD := ⟨("_law_fields", none), "_law_fields", "_law_fields", defArgs sFields, defBody sFields, defScope sFields, [], []⟩
def dDue : He.DefD := ⟨("_law_due", none), "_law_due", "_law_due", defArgs sDue, defBody sDue, defScope sDue, [], []⟩
def dRight : He.DefD := ⟨("_law_right", none), "_law_right", "_law_right", defArgs sRight, defBody sRight, defScope sRight, [], []⟩
def dLaw : He.DefD := ⟨("law", none), "law", "law", defArgs sLaw, defBody sLaw, defScope sLaw, [], []⟩
def fnl : List He.DefD := [dIBadCount, dINoName, dITwice, dINoPart, dINoSort, dIBadRow, dINoRoom, dINoHand, dIEnded, dINoStep, dITaken, dINoKey, dIWide, dIClash, dINoMark, dITangled, dIMet, dIBroken, dINoBar, dBadCountT, dNoNameT, dTwiceT, dNoPartT, dNoSortT, dBadRowT, dNoRoomT, dNoHandT, dEndedT, dNoStepT, dTakenT, dNoKeyT, dWideT, dClashT, dNoMarkT, dNeverT, dTangledT, dMetT, dBrokenT, dNoBarT, dNoBackT, dCellAt, dState, dDigit, dWord, dTextOne, dNumOne, dMade, dFields, dDue, dRight, dLaw]
def fbl0 : List Fb := [fun K => (He.Fa.free "len").ok K,
  fun K => (He.Fa.free "abs").ok K,
  fun K => (He.Fa.free "int").ok K,
  fun K => (He.Fa.free "range").ok K,
  fun K => (He.Fa.free "isinstance").ok K,
  fun K => (He.Fa.free "zip").ok K,
  fun K => (He.Fa.free "ValueError").ok K,
  fun K => (He.Fa.glo "KeysError").ok K,
  fun K => (He.Fa.glo "BadCount").ok K,
  fun K => (He.Fa.glo "NoName").ok K,
  fun K => (He.Fa.glo "Twice").ok K,
  fun K => (He.Fa.glo "NoPart").ok K,
  fun K => (He.Fa.glo "NoSort").ok K,
  fun K => (He.Fa.glo "BadRow").ok K,
  fun K => (He.Fa.glo "NoRoom").ok K,
  fun K => (He.Fa.glo "NoHand").ok K,
  fun K => (He.Fa.glo "Ended").ok K,
  fun K => (He.Fa.glo "NoStep").ok K,
  fun K => (He.Fa.glo "Taken").ok K,
  fun K => (He.Fa.glo "NoKey").ok K,
  fun K => (He.Fa.glo "Wide").ok K,
  fun K => (He.Fa.glo "Clash").ok K,
  fun K => (He.Fa.glo "NoMark").ok K,
  fun K => (He.Fa.glo "Never").ok K,
  fun K => (He.Fa.glo "Tangled").ok K,
  fun K => (He.Fa.glo "Met").ok K,
  fun K => (He.Fa.glo "Broken").ok K,
  fun K => (He.Fa.glo "NoBar").ok K,
  fun K => (He.Fa.glo "NoBack").ok K,
  fun K => xfldB (TT K) "name" ixx_name]
def fbl1 : List Fb := [fun K => xfldB (TT K) "room" ixx_room,
  fun K => xfldB (TT K) "hand" ixx_hand,
  fun K => xfldB (TT K) "step" ixx_step,
  fun K => xfldB (TT K) "count" ixx_count,
  fun K => xfldB (TT K) "place" ixx_place,
  fun K => xfldB (TT K) "what" ixx_what,
  fun K => xfldB (TT K) "row" ixx_row,
  fun K => xfldB (TT K) "key" ixx_key,
  fun K => xfldB (TT K) "holder" ixx_holder,
  fun K => xfldB (TT K) "why" ixx_why,
  fun K => xfldB (TT K) "ring" ixx_ring,
  fun K => xfldB (TT K) "hands" ixx_hands,
  fun K => xfldB (TT K) "deeds" ixx_deeds,
  fun K => xisB (TT K) (.ref ((TT K).ca 2)) xis_NoName,
  fun K => xisB (TT K) (.ref ((TT K).ca 3)) xis_Twice,
  fun K => xisB (TT K) (.ref ((TT K).ca 4)) xis_NoPart,
  fun K => xisB (TT K) (.ref ((TT K).ca 5)) xis_NoSort,
  fun K => xisB (TT K) (.ref ((TT K).ca 12)) xis_NoKey,
  fun K => xisB (TT K) (.ref ((TT K).ca 15)) xis_NoMark,
  fun K => xisB (TT K) (.ref ((TT K).ca 20)) xis_NoBar,
  fun K => xisB (TT K) (.ref ((TT K).ca 7)) xis_NoRoom,
  fun K => xisB (TT K) (.ref ((TT K).ca 8)) xis_NoHand,
  fun K => xisB (TT K) (.ref ((TT K).ca 9)) xis_Ended,
  fun K => xisB (TT K) (.ref ((TT K).ca 10)) xis_NoStep,
  fun K => xisB (TT K) (.ref ((TT K).ca 13)) xis_Wide,
  fun K => xisB (TT K) (.ref ((TT K).ca 18)) xis_Met,
  fun K => xisB (TT K) (.ref ((TT K).ca 1)) xis_BadCount,
  fun K => xisB (TT K) (.ref ((TT K).ca 6)) xis_BadRow,
  fun K => xisB (TT K) (.ref ((TT K).ca 11)) xis_Taken,
  fun K => xisB (TT K) (.ref ((TT K).ca 14)) xis_Clash]
def fbl2 : List Fb := [fun K => xisB (TT K) (.ref ((TT K).ca 17)) xis_Tangled,
  fun K => xisB (TT K) (.ref ((TT K).ca 19)) xis_Broken,
  fun K => xisB (TT K) (.ref ((TT K).ca 16)) xis_Never,
  fun K => xisB (TT K) (.ref ((TT K).ca 21)) xis_NoBack,
  fun K => xisB (TT K) (.ref ((TT K).ca 0)) xis_KeysError,
  fun K => xisB (TT K) (.type "ValueError") xis_ValueError,
  fun K => exB K ((TT K).ca 1) (He.fAd K ("BadCount", some "__init__")) ["what", "count"],
  fun K => exB K ((TT K).ca 2) (He.fAd K ("NoName", some "__init__")) ["name"],
  fun K => exB K ((TT K).ca 3) (He.fAd K ("Twice", some "__init__")) ["name"],
  fun K => exB K ((TT K).ca 4) (He.fAd K ("NoPart", some "__init__")) ["name"],
  fun K => exB K ((TT K).ca 5) (He.fAd K ("NoSort", some "__init__")) ["name"],
  fun K => exB K ((TT K).ca 6) (He.fAd K ("BadRow", some "__init__")) ["row", "place"],
  fun K => exB K ((TT K).ca 7) (He.fAd K ("NoRoom", some "__init__")) ["room"],
  fun K => exB K ((TT K).ca 8) (He.fAd K ("NoHand", some "__init__")) ["hand"],
  fun K => exB K ((TT K).ca 9) (He.fAd K ("Ended", some "__init__")) ["hand"],
  fun K => exB K ((TT K).ca 10) (He.fAd K ("NoStep", some "__init__")) ["step"],
  fun K => exB K ((TT K).ca 11) (He.fAd K ("Taken", some "__init__")) ["key", "holder"],
  fun K => exB K ((TT K).ca 12) (He.fAd K ("NoKey", some "__init__")) ["name"],
  fun K => exB K ((TT K).ca 13) (He.fAd K ("Wide", some "__init__")) ["count"],
  fun K => exB K ((TT K).ca 14) (He.fAd K ("Clash", some "__init__")) ["why"],
  fun K => exB K ((TT K).ca 15) (He.fAd K ("NoMark", some "__init__")) ["name"],
  fun K => ex0B K ((TT K).ca 16),
  fun K => exB K ((TT K).ca 17) (He.fAd K ("Tangled", some "__init__")) ["ring"],
  fun K => exB K ((TT K).ca 18) (He.fAd K ("Met", some "__init__")) ["place"],
  fun K => exB K ((TT K).ca 19) (He.fAd K ("Broken", some "__init__")) ["name", "hands", "deeds"],
  fun K => exB K ((TT K).ca 20) (He.fAd K ("NoBar", some "__init__")) ["name"],
  fun K => ex0B K ((TT K).ca 21),
  fun K => xmB K ((TT K).ca 1) "told" (He.fAd K ("BadCount", some "told")),
  fun K => xmB K ((TT K).ca 2) "told" (He.fAd K ("NoName", some "told")),
  fun K => xmB K ((TT K).ca 3) "told" (He.fAd K ("Twice", some "told"))]
def fbl3 : List Fb := [fun K => xmB K ((TT K).ca 4) "told" (He.fAd K ("NoPart", some "told")),
  fun K => xmB K ((TT K).ca 5) "told" (He.fAd K ("NoSort", some "told")),
  fun K => xmB K ((TT K).ca 6) "told" (He.fAd K ("BadRow", some "told")),
  fun K => xmB K ((TT K).ca 7) "told" (He.fAd K ("NoRoom", some "told")),
  fun K => xmB K ((TT K).ca 8) "told" (He.fAd K ("NoHand", some "told")),
  fun K => xmB K ((TT K).ca 9) "told" (He.fAd K ("Ended", some "told")),
  fun K => xmB K ((TT K).ca 10) "told" (He.fAd K ("NoStep", some "told")),
  fun K => xmB K ((TT K).ca 11) "told" (He.fAd K ("Taken", some "told")),
  fun K => xmB K ((TT K).ca 12) "told" (He.fAd K ("NoKey", some "told")),
  fun K => xmB K ((TT K).ca 13) "told" (He.fAd K ("Wide", some "told")),
  fun K => xmB K ((TT K).ca 14) "told" (He.fAd K ("Clash", some "told")),
  fun K => xmB K ((TT K).ca 15) "told" (He.fAd K ("NoMark", some "told")),
  fun K => xmB K ((TT K).ca 16) "told" (He.fAd K ("Never", some "told")),
  fun K => xmB K ((TT K).ca 17) "told" (He.fAd K ("Tangled", some "told")),
  fun K => xmB K ((TT K).ca 18) "told" (He.fAd K ("Met", some "told")),
  fun K => xmB K ((TT K).ca 19) "told" (He.fAd K ("Broken", some "told")),
  fun K => xmB K ((TT K).ca 20) "told" (He.fAd K ("NoBar", some "told")),
  fun K => xmB K ((TT K).ca 21) "told" (He.fAd K ("NoBack", some "told")),
  fun K => (He.Fa.glo "_law_cell_at").ok K,
  fun K => (He.Fa.glo "_law_state").ok K,
  fun K => (He.Fa.glo "_law_digit").ok K,
  fun K => (He.Fa.glo "_law_word").ok K,
  fun K => (He.Fa.glo "_law_text_one").ok K,
  fun K => (He.Fa.glo "_law_number_one").ok K,
  fun K => (He.Fa.glo "_law_made").ok K,
  fun K => (He.Fa.glo "_law_fields").ok K,
  fun K => (He.Fa.glo "_law_due").ok K,
  fun K => (He.Fa.glo "_law_right").ok K,
  fun K => (He.Fa.glo "law").ok K]
def fbl : List Fb := fbl0 ++ fbl1 ++ fbl2 ++ fbl3
end
end K01
namespace K01
open PySem PySem.Spec PyProof.Rows L2 FM PySem.W HandSHeadRun
def loose : List Str := (["KeysError", "BadCount", "NoName", "Twice", "NoPart", "NoSort", "BadRow", "NoRoom", "NoHand", "Ended", "NoStep", "Taken", "NoKey", "Wide", "Clash", "NoMark", "Never", "Tangled", "Met", "Broken", "NoBar", "NoBack", "_law_cell_at", "_law_state", "_law_digit", "_law_word", "_law_text_one", "_law_number_one", "_law_made", "_law_fields"] : List Str) ++ (["_law_due", "_law_right"] : List Str)
abbrev R : PySem.W.OpenRow := PySem.W.OpenLaw.row PySem.Challenge.rw_nestkeys_k01_refusals_told
abbrev hk : PySem.W.Hook := hookF 4 fbl fnl
def obz (s : PySem.W.SharedT) : He.AlD := obsFG 4 fbl fnl (HandSHeadRun.getT s)
theorem obz_eq (s : PySem.W.SharedT) : obz s = hk.obs s.abs := obsFG_eq (HandSHeadRun.getT_eq s)
set_option maxHeartbeats 0 in
theorem runA (w : World) (os : OsState) : (HandSHeadRun.endF (HandSHeadRun.stepQ (HandSHeadRun.denQ HandSHeadRun.tabQ) R.prog w) 9000 R.prog w os).map (fun s => (HandSHeadRun.looksF R.prog (boot_heap w.params) s.abs, HandSHeadRun.seenQ (PySem.W.view R.prog [34]) loose (importedModules R.prog.main.body) (fun s => PySem.W.xlAt (PySem.W.view R.prog [34]) [] s && PySem.W.recOk R.toRowW.records s) s.abs)) = some (true, PySem.W.openGood (PySem.W.view R.prog [34]) loose) := by
  kernel_rfl
set_option maxHeartbeats 0 in
theorem runF0 (w : World) (os : OsState) : (HandSHeadRun.endF (HandSHeadRun.stepQ (HandSHeadRun.denQ HandSHeadRun.tabQ) R.prog w) 9000 R.prog w os).map (fun s => (fbl0 ++ fbl1 ++ fbl2 ++ fbl3).all (appF 4 s)) = some (true) := by
  kernel_rfl
set_option maxHeartbeats 0 in
theorem runDf (w : World) (os : OsState) : (HandSHeadRun.endF (HandSHeadRun.stepQ (HandSHeadRun.denQ HandSHeadRun.tabQ) R.prog w) 9000 R.prog w os).map (fun s => (fnl.all fun d => d.ok (KG 4 s), fnl.map fun d => He.fnW (KG 4 s) d.at_)) = some (true, fnl.map He.DefD.val) := by
  kernel_rfl
theorem fbl_eq : fbl = (fbl0 ++ fbl1 ++ fbl2 ++ fbl3) := by simp only [fbl, List.append_assoc]
set_option maxHeartbeats 0 in
theorem runO (w : World) (os : OsState) : (HandSHeadRun.endF (HandSHeadRun.stepQ (HandSHeadRun.denQ HandSHeadRun.tabQ) R.prog w) 9000 R.prog w os).map obz = some (hk.val w) := by
  refine omap_obs ?_ (runDf w os)
  rw [fbl_eq]
  exact runF0 w os
set_option maxHeartbeats 0 in
theorem run (w : World) : HandSHeadRun.RunEq R (PySem.W.view R.prog [34]) hk obz 9000 loose w := fun os => omap3 (runA w os) (runO w os)
end K01
namespace FM
open PySem PySem.Spec PyProof.Rows L2
/-! ### data -/
theorem Up.refl {I : Hp} {A : List Addr} : Up I I A A := ⟨Same.refl I, List.prefix_refl A⟩
theorem VR.dat {T : Tab} {I : Hp} {A : List Addr} {v : V} {d : Dt} (h : VR T I A v (.d d)) : DR T I v d := by cases h; assumption
theorem VR.cel {T : Tab} {I : Hp} {A : List Addr} {v : V} {k : Nat} (h : VR T I A v (.ref k)) : ∃ a, v = .ref a ∧ A[k]? = some a := by
  cases h with | ref h => exact ⟨_, rfl, h⟩
section
variable {T : Tab} {I : Hp} {A : List Addr}
theorem VRs.app {vs ws : List V} {ds es : List Vl} (h : VRs T I A vs ds) (h2 : VRs T I A ws es) : VRs T I A (vs ++ ws) (ds ++ es) := by
  induction vs generalizing ds with
  | nil => cases h; exact h2
  | cons v vs ih => cases h with | cons a t => exact .cons a (ih t)
theorem VRs.split {vs ws : List V} {ds es : List Vl} (hl : vs.length = ds.length) (h : VRs T I A (vs ++ ws) (ds ++ es)) : VRs T I A vs ds ∧ VRs T I A ws es := by
  induction vs generalizing ds with
  | nil =>
    cases ds with
    | nil => exact ⟨.nil, h⟩
    | cons d ds => cases hl
  | cons v vs ih =>
    cases ds with
    | nil => cases hl
    | cons d ds =>
      cases h with
      | cons a t =>
        obtain ⟨p, q⟩ := ih (by simpa using hl) t
        exact ⟨.cons a p, q⟩
theorem VRs.get {vs : List V} {ds : List Vl} {i : Nat} {d : Vl} (h : VRs T I A vs ds) (e : ds[i]? = some d) : ∃ v, vs[i]? = some v ∧ VR T I A v d := by
  induction vs generalizing ds i with
  | nil => cases h; simp at e
  | cons v vs ih =>
    cases h with
    | cons a t =>
      cases i with
      | zero => simp at e; subst e; exact ⟨v, rfl, a⟩
      | succ i => obtain ⟨u, h1, h2⟩ := ih t (i := i) (by simpa using e); exact ⟨u, by simpa using h1, h2⟩
end
/-- all of them data -/
def dats : List Vl → Option (List Dt)
  | [] => some []
  | .d d :: r => (dats r).map (d :: ·)
  | _ :: _ => none
theorem VRs.dats {T : Tab} {I : Hp} {A : List Addr} {vs : List V} {ds : List Vl} {es : List Dt} (h : VRs T I A vs ds) (e : FM.dats ds = some es) : DRs T I vs es := by
  induction vs generalizing ds es with
  | nil => cases h; cases e; exact .nil
  | cons v vs ih =>
    cases h with
    | @cons _ _ d ds a t =>
      cases d with
      | ref k => cases e
      | lam z => cases e
      | d d =>
        cases q : FM.dats ds with
        | none => simp [FM.dats, q] at e
        | some r =>
          simp [FM.dats, q] at e
          subst e
          exact .cons a.dat (ih t q)
section
variable {T : Tab} {I : Hp}
theorem DRs.app {vs ws : List V} {ds es : List Dt} (h : DRs T I vs ds) (h2 : DRs T I ws es) : DRs T I (vs ++ ws) (ds ++ es) := by
  induction vs generalizing ds with
  | nil => cases h; exact h2
  | cons v vs ih => cases h with | cons a t => exact .cons a (ih t)
theorem DRs.split {vs ws : List V} {ds es : List Dt} (hl : vs.length = ds.length) (h : DRs T I (vs ++ ws) (ds ++ es)) : DRs T I vs ds ∧ DRs T I ws es := by
  induction vs generalizing ds with
  | nil =>
    cases ds with
    | nil => exact ⟨.nil, h⟩
    | cons d ds => cases hl
  | cons v vs ih =>
    cases ds with
    | nil => cases hl
    | cons d ds =>
      cases h with
      | cons a t =>
        obtain ⟨p, q⟩ := ih (by simpa using hl) t
        exact ⟨.cons a p, q⟩
theorem DRs.get {vs : List V} {ds : List Dt} {i : Nat} {d : Dt} (h : DRs T I vs ds) (e : ds[i]? = some d) : ∃ v, vs[i]? = some v ∧ DR T I v d := by
  induction vs generalizing ds i with
  | nil => cases h; simp at e
  | cons v vs ih =>
    cases h with
    | cons a t =>
      cases i with
      | zero => simp at e; subst e; exact ⟨v, rfl, a⟩
      | succ i => obtain ⟨u, h1, h2⟩ := ih t (i := i) (by simpa using e); exact ⟨u, by simpa using h1, h2⟩
theorem DRs.drop {vs : List V} {ds : List Dt} (h : DRs T I vs ds) (n : Nat) : DRs T I (vs.drop n) (ds.drop n) := by
  induction vs generalizing ds n with
  | nil => cases h; simp; exact .nil
  | cons w vs ih =>
    cases h with
    | cons a t =>
      cases n with
      | zero => exact .cons a t
      | succ n => exact ih t n
theorem DRs.rev {vs : List V} {ds : List Dt} (h : DRs T I vs ds) : DRs T I vs.reverse ds.reverse := by
  induction vs generalizing ds with
  | nil => cases h; exact .nil
  | cons v vs ih =>
    cases h with
    | cons a t =>
      rw [List.reverse_cons, List.reverse_cons]
      exact (ih t).app (.cons a .nil)
theorem DRs.one_inv {vs : List V} {d : Dt} (h : DRs T I vs [d]) : ∃ v, vs = [v] ∧ DR T I v d := by
  cases h with | cons a t => cases t; exact ⟨_, rfl, a⟩
theorem DRs.two_inv {vs : List V} {d e : Dt} (h : DRs T I vs [d, e]) : ∃ v w, vs = [v, w] ∧ DR T I v d ∧ DR T I w e := by
  cases h with | cons a t => cases t with | cons b t => cases t; exact ⟨_, _, rfl, a, b⟩
end
/-! ### cells, the state -/
section
variable {T : Tab} {F : Frm} {I H : Hp}
end
theorem VRs.lt {T : Tab} {I : Hp} {A : List Addr} {vs : List V} {ds : List Vl} (h : VRs T I A vs ds) {j : Nat} (hj : Vl.ref j ∈ ds) : j < A.length := by
  induction vs generalizing ds with
  | nil => cases h; exact absurd hj List.not_mem_nil
  | cons v vs ih =>
    cases h with
    | cons a t =>
      rcases List.mem_cons.mp hj with e | e
      · subst e
        obtain ⟨b, _, h⟩ := a.cel
        exact (List.getElem?_eq_some_iff.mp h).1
      · exact ih t e
theorem app_ob {A : List Addr} {m : Cells} {c : Cell} {p : Addr} (hl : A.length = m.length) (hc : c.isOb = false) {k : Nat} {c' : Shape} {fs : List Vl} {a : Addr} (h1 : (m ++ [some c])[k]? = some (some (.ob c' fs))) (h2 : (A ++ [p])[k]? = some a) : m[k]? = some (some (.ob c' fs)) ∧ A[k]? = some a := by
  by_cases hk : k < m.length
  · rw [List.getElem?_append_left hk] at h1
    rw [List.getElem?_append_left (by omega)] at h2
    exact ⟨h1, h2⟩
  · have : k = m.length := by
      have := (List.getElem?_eq_some_iff.mp h1).1
      simp at this; omega
    subst this
    simp at h1
    subst h1
    cases hc
theorem CellOk.nt {T : Tab} {I H : Hp} {a : Addr} {c : Cell} (h : CellOk T I H a c) : ∀ ps, H a ≠ some (.tbl ps) := fun ps e => by
  cases c with
  | lst ds => obtain ⟨vs, h1, _⟩ := h; rw [h1] at e; cases e
  | ins c ds => obtain ⟨dx, vs, h1, _⟩ := h; rw [h1] at e; cases e
  | dct ks ds => obtain ⟨vs, h1, _⟩ := h; rw [h1] at e; cases e
  | set xs => rw [h.1] at e; exact h.2 ps (Option.some.inj e)
  | ob c fs => obtain ⟨o, h1, h2⟩ := h; rw [h1] at e; exact h2 ps (Option.some.inj e)
theorem nt_some {H : Hp} {a : Addr} {o : HO} (h : H a = some o) (ho : ∀ ps, o ≠ .tbl ps) : ∀ ps, H a ≠ some (.tbl ps) := fun ps e => by rw [h] at e; exact ho ps (Option.some.inj e)
theorem Base.fnt {T : Tab} {F : Frm} {I H : Hp} {A : List Addr} {m : Cells} (b : Base T F I H A m) {q : Addr × HO} (hq : q ∈ F) : ∀ ps, H q.1 ≠ some (.tbl ps) := nt_some (b.fm q hq).1 (b.tbs.ft q hq)
theorem Ctx.drop {T : Tab} {I : Hp} {A : List Addr} {σ : L2.St} {g : Gam} {i : Nat} (h : Ctx T I A σ g) {x : Option V} : Ctx T I A (σ.set i x) (g.set i none) := ⟨by rw [List.length_set, List.length_set, h.len], fun j e q => by
  by_cases hj : i = j
  · subst hj
    by_cases hl : i < g.length
    · rw [List.getElem?_set_self hl] at q
      cases q
    · rw [List.getElem?_eq_none (by rw [List.length_set]; omega)] at q
      cases q
  · rw [List.getElem?_set_ne hj] at q
    rw [List.getElem?_set_ne hj]
    exact h.look j e q⟩
section
variable {T : Tab} {x : Option Xc} {B : Bs} {F : Frm} {g g' : Gam} {S : List Vl} {m m' : Cells} {σ σ' : L2.St} {vs : List V} {H H' I I' : Hp} {A A' : List Addr}
theorem Rel.push (r : Rel T x B g S m σ vs H I A) {v : V} {d : Vl} (h : VR T I A v d) : Rel T x B g (d :: S) m σ (v :: vs) H I A := { r with stk := .cons h r.stk }
theorem Rel.pop1 {v : V} {d : Vl} (r : Rel T x B g (d :: S) m σ (v :: vs) H I A) : Rel T x B g S m σ vs H I A := { r with stk := by cases r.stk with | cons _ t => exact t }
theorem Rel.grip (r : Rel T x B g S m σ vs H I A) : Rel T x ⟨B.F, I, A⟩ g S m σ vs H I A := ⟨r.base, Up.refl, r.ctx, r.stk, r.xc⟩
/-- a new thing that may change: a new cell -/
theorem Base.newC (b : Base T F I H A m) {p : Addr} {o : HO} {c : Cell} (hp : H p = none) (hc : CellOk T I (upd H p o) p c) (hob : c.isOb = false := by rfl) : Base T F I (upd H p o) (A ++ [p]) (m ++ [some c]) ∧ Up I I A (A ++ [p]) := by
  have e : Up I I A (A ++ [p]) := ⟨Same.refl I, List.prefix_append A [p]⟩
  have ne : ∀ a ∈ A, a ≠ p := fun a ha z => b.al a ha (by rw [z]; exact hp)
  have hI := none_of_sub b.sub hp
  refine ⟨⟨b.sub.trans (same_upd hp), fun q hq => by
    obtain ⟨f1, f2, f3⟩ := b.fm q hq
    have hne := ne_of_none f1 hp
    refine ⟨by rw [upd_ne hne]; exact f1, fun h => ?_, f3⟩
    rcases List.mem_append.mp h with h | h
    · exact f2 h
    · exact hne (List.mem_singleton.mp h), b.fnd, by simp [b.len], ?_, fun a ha => ?_, fun k c' a h1 h2 => ?_, fun k c' a h1 h2 => ?_, b.tbs.upd (nt_none hp), b.obs.mono e fun k c' fs a h1 h2 => by
      obtain ⟨q1, q2⟩ := app_ob b.len hob h1 h2
      exact ⟨q1, q2, upd_ne (ne a (List.mem_of_getElem? q2))⟩⟩, e⟩
  · refine List.nodup_append.mpr ⟨b.nd, by simp, fun a ha z hz => ?_⟩
    rw [List.mem_singleton.mp hz]
    exact ne a ha
  · rcases List.mem_append.mp ha with h | h
    · exact upd_some (b.al a h)
    · rw [List.mem_singleton.mp h, upd_same]; exact fun z => nomatch z
  · by_cases hk : k < m.length
    · rw [List.getElem?_append_left hk] at h1
      rw [List.getElem?_append_left (by rw [b.len]; exact hk)] at h2
      exact b.fr k c' a h1 h2
    · have : k = m.length := by
        have := (List.getElem?_eq_some_iff.mp h1).1
        simp at this; omega
      subst this
      rw [← b.len] at h2
      simp at h2
      rw [← h2]; exact hI
  · by_cases hk : k < m.length
    · rw [List.getElem?_append_left hk] at h1
      rw [List.getElem?_append_left (by rw [b.len]; exact hk)] at h2
      exact (b.ok k c' a h1 h2).mono e.i fun o q => by rw [upd_ne (ne_of_none q hp)]; exact q
    · have : k = m.length := by
        have := (List.getElem?_eq_some_iff.mp h1).1
        simp at this; omega
      subst this
      rw [← b.len] at h2
      simp at h1 h2
      subst h1 h2
      exact hc.mono e.i fun o q => q
theorem nodup_ix {α : Type} {l : List α} (h : l.Nodup) {i j : Nat} {x : α} (hi : l[i]? = some x) (hj : l[j]? = some x) : i = j := by
  obtain ⟨li, ei⟩ := List.getElem?_eq_some_iff.mp hi
  obtain ⟨lj, ej⟩ := List.getElem?_eq_some_iff.mp hj
  have pw := List.pairwise_iff_getElem.mp h
  rcases Nat.lt_trichotomy i j with w | w | w
  · exact absurd (ei.trans ej.symm) (pw i j li lj w)
  · exact w
  · exact absurd (ej.trans ei.symm) (pw j i lj li w)
/-- a cell changes -/
theorem Base.put (b : Base T F I H A m) {k : Nat} {c c' : Cell} {a : Addr} {o : HO} (hk : m[k]? = some (some c)) (ha : A[k]? = some a) (hc : CellOk T I (upd H a o) a c') (hob : c'.isOb = false := by rfl) : Base T F I (upd H a o) A (m.set k (some c')) := by
  have hI := b.fr k c a hk ha
  have hl : k < m.length := (List.getElem?_eq_some_iff.mp hk).1
  have hmem := List.mem_of_getElem? ha
  refine ⟨fun z u q => ?_, fun q hq => by
    obtain ⟨f1, f2, f3⟩ := b.fm q hq
    exact ⟨by rw [upd_ne (fun e => f2 (by rw [e]; exact hmem))]; exact f1, f2, f3⟩, b.fnd, by rw [List.length_set]; exact b.len, b.nd, fun z hz => upd_some (b.al z hz), fun j c2 z h1 h2 => ?_, fun j c2 z h1 h2 => ?_, b.tbs.upd (b.ok k c a hk ha).nt, b.obs.mono Up.refl fun j c2 fs z h1 h2 => by
    obtain ⟨q1, q2⟩ := set_ob (fun c fs e => by cases e; cases hob) h1
    exact ⟨q2, h2, upd_ne fun w => q1 (nodup_ix b.nd h2 (by rw [w]; exact ha))⟩⟩
  · rw [upd_ne (ne_of_none q hI)]; exact b.sub z u q
  · by_cases hj : k = j
    · subst hj
      rw [ha] at h2; cases h2; exact hI
    · rw [List.getElem?_set_ne hj] at h1
      exact b.fr j c2 z h1 h2
  · by_cases hj : k = j
    · subst hj
      rw [ha] at h2; cases h2
      rw [List.getElem?_set_self hl] at h1
      cases h1
      exact hc
    · rw [List.getElem?_set_ne hj] at h1
      have hz : z ≠ a := fun w => hj (nodup_ix b.nd ha (by rw [← w]; exact h2))
      exact (b.ok j c2 z h1 h2).mono (Same.refl I) fun o' q => by rw [upd_ne hz]; exact q
/-- a cell is done changing -/
theorem Base.frz (b : Base T F I H A m) {k : Nat} {c : Cell} {a : Addr} {o : HO} (hk : m[k]? = some (some c)) (ha : A[k]? = some a) (ho : H a = some o) : Base T F (upd I a o) H A (m.set k none) ∧ Up I (upd I a o) A A := by
  have hI := b.fr k c a hk ha
  have hl : k < m.length := (List.getElem?_eq_some_iff.mp hk).1
  have e : Up I (upd I a o) A A := ⟨same_upd hI, List.prefix_refl A⟩
  have hmem := List.mem_of_getElem? ha
  refine ⟨⟨fun z u q => ?_, fun q hq => by
    obtain ⟨f1, f2, f3⟩ := b.fm q hq
    exact ⟨f1, f2, by rw [upd_ne (fun e => f2 (by rw [e]; exact hmem))]; exact f3⟩, b.fnd, by rw [List.length_set]; exact b.len, b.nd, b.al, fun j c2 z h1 h2 => ?_, fun j c2 z h1 h2 => ?_, b.tbs.see hI (fun ps z => (b.ok k c a hk ha).nt ps (by rw [ho, z])), b.obs.mono e fun j c2 fs z h1 h2 => ⟨(set_ob (o := none) (fun c fs e => by cases e) h1).2, h2, rfl⟩⟩, e⟩
  · by_cases hz : z = a
    · subst hz; rw [upd_same] at q; cases q; exact ho
    · rw [upd_ne hz] at q; exact b.sub z u q
  · by_cases hj : k = j
    · subst hj
      rw [List.getElem?_set_self hl] at h1; cases h1
    · rw [List.getElem?_set_ne hj] at h1
      rw [upd_ne (fun w => hj (nodup_ix b.nd ha (by rw [← w]; exact h2)))]
      exact b.fr j c2 z h1 h2
  · by_cases hj : k = j
    · subst hj
      rw [List.getElem?_set_self hl] at h1; cases h1
    · rw [List.getElem?_set_ne hj] at h1
      exact (b.ok j c2 z h1 h2).mono e.i fun o' q => q
/-- a new thing beside -/
theorem Base.hide (b : Base T F I H A m) {p : Addr} {o : HO} (hp : H p = none) (ho : ∀ ps, o ≠ .tbl ps := by exact fun _ z => nomatch z) : Base T ((p, o) :: F) I (upd H p o) A m := by
  have ne : ∀ a ∈ A, a ≠ p := fun a ha z => b.al a ha (by rw [z]; exact hp)
  refine ⟨b.sub.trans (same_upd hp), fun q hq => ?_, ?_, b.len, b.nd, fun a ha => upd_some (b.al a ha), b.fr, fun k c a h1 h2 => (b.ok k c a h1 h2).mono (Same.refl I) fun o q => by rw [upd_ne (ne_of_none q hp)]; exact q, (b.tbs.upd (nt_none hp)).fm fun q hq => by
    rcases List.mem_cons.mp hq with e | e
    · subst e; exact ho
    · exact b.tbs.ft q e, b.obs.mono Up.refl fun k c fs a h1 h2 => ⟨h1, h2, upd_ne (ne a (List.mem_of_getElem? h2))⟩⟩
  · rcases List.mem_cons.mp hq with e | e
    · subst e; exact ⟨upd_same, fun h => ne _ h rfl, none_of_sub b.sub hp⟩
    · obtain ⟨f1, f2, f3⟩ := b.fm q e
      exact ⟨by rw [upd_ne (ne_of_none f1 hp)]; exact f1, f2, f3⟩
  · refine List.nodup_cons.mpr ⟨fun h => ?_, b.fnd⟩
    obtain ⟨q, h1, h2⟩ := List.mem_map.mp h
    exact ne_of_none (b.fm q h1).1 hp h2
/-- it changes -/
theorem Base.hput {p : Addr} {o o' : HO} (b : Base T ((p, o) :: F) I H A m) (ho : ∀ ps, o' ≠ .tbl ps := by exact fun _ z => nomatch z) : Base T ((p, o') :: F) I (upd H p o') A m := by
  obtain ⟨h1, h2, h3⟩ := b.fm _ List.mem_cons_self
  have hnd := List.nodup_cons.mp b.fnd
  refine ⟨fun a u q => by rw [upd_ne (ne_of_none q h3)]; exact b.sub a u q, fun q hq => ?_, b.fnd, b.len, b.nd, fun a ha => upd_some (b.al a ha), b.fr, fun k c a q1 q2 => (b.ok k c a q1 q2).mono (Same.refl I) fun o q => by rw [upd_ne (fun e => h2 (by rw [← e]; exact List.mem_of_getElem? q2))]; exact q, (b.tbs.upd (b.fnt List.mem_cons_self)).fm fun q hq => by
    rcases List.mem_cons.mp hq with e | e
    · subst e; exact ho
    · exact b.tbs.ft q (List.mem_cons_of_mem _ e), b.obs.mono Up.refl fun k c fs a q1 q2 => ⟨q1, q2, upd_ne fun e => h2 (by rw [← e]; exact List.mem_of_getElem? q2)⟩⟩
  rcases List.mem_cons.mp hq with e | e
  · subst e; exact ⟨upd_same, h2, h3⟩
  · obtain ⟨f1, f2, f3⟩ := b.fm q (List.mem_cons_of_mem _ e)
    exact ⟨by rw [upd_ne (fun z => hnd.1 (List.mem_map.mpr ⟨q, e, z⟩))]; exact f1, f2, f3⟩
/-- it is done changing -/
theorem Base.show_ {p : Addr} {o : HO} (b : Base T ((p, o) :: F) I H A m) : Base T F (upd I p o) H A m ∧ Up I (upd I p o) A A := by
  obtain ⟨h1, h2, h3⟩ := b.fm _ List.mem_cons_self
  have hnd := List.nodup_cons.mp b.fnd
  have e : Up I (upd I p o) A A := ⟨same_upd h3, List.prefix_refl A⟩
  refine ⟨⟨fun a u q => ?_, fun q hq => ?_, hnd.2, b.len, b.nd, b.al, fun k c a q1 q2 => ?_, fun k c a q1 q2 => (b.ok k c a q1 q2).mono e.i fun o q => q, (b.tbs.see h3 (b.tbs.ft _ List.mem_cons_self)).fm fun q hq => b.tbs.ft q (List.mem_cons_of_mem _ hq), b.obs.mono e fun k c fs a q1 q2 => ⟨q1, q2, rfl⟩⟩, e⟩
  · by_cases ha : a = p
    · subst ha; rw [upd_same] at q; cases q; exact h1
    · rw [upd_ne ha] at q; exact b.sub a u q
  · obtain ⟨f1, f2, f3⟩ := b.fm q (List.mem_cons_of_mem _ hq)
    exact ⟨f1, f2, by rw [upd_ne (fun z => hnd.1 (List.mem_map.mpr ⟨q, hq, z⟩))]; exact f3⟩
  · rw [upd_ne (fun e => h2 (by rw [← e]; exact List.mem_of_getElem? q2))]
    exact b.fr k c a q1 q2
/-- one more cell at the end -/
theorem Base.takeC (b : Base T F I H A m) {n k : Nat} {c : Cell} {a : Addr} (hn : n ≤ k) (hk : m[k]? = some (some c)) (ha : A[k]? = some a) (hcl : Clo n m) (hob : c.isOb = false) : Base T F I H (A.take n ++ [a]) (m.take n ++ [some c]) := by
  have b0 := b.take n hcl
  have hkl : k < A.length := (List.getElem?_eq_some_iff.mp ha).1
  have hni : a ∉ A.take n := fun h => by
    obtain ⟨j, hj⟩ := List.mem_iff_getElem?.mp h
    have hjn : j < n := by
      have := (List.getElem?_eq_some_iff.mp hj).1
      rw [List.length_take] at this; omega
    rw [List.getElem?_take_of_lt hjn] at hj
    have := nodup_ix b.nd hj ha
    omega
  have hl := b0.len
  have cs : ∀ {j : Nat} {c' : Cell} {z : Addr}, (m.take n ++ [some c])[j]? = some (some c') → (A.take n ++ [a])[j]? = some z → (c' = c ∧ z = a) ∨ ((m.take n)[j]? = some (some c') ∧ (A.take n)[j]? = some z) := fun {j c' z} h1 h2 => by
    by_cases hj : j < (m.take n).length
    · rw [List.getElem?_append_left hj] at h1
      rw [List.getElem?_append_left (by rw [hl]; exact hj)] at h2
      exact .inr ⟨h1, h2⟩
    · have e : j = (m.take n).length := by
        have := (List.getElem?_eq_some_iff.mp h1).1
        rw [List.length_append, List.length_singleton] at this; omega
      subst e
      rw [List.getElem?_append_right (Nat.le_refl _), Nat.sub_self] at h1
      rw [← hl, List.getElem?_append_right (Nat.le_refl _), Nat.sub_self] at h2
      exact .inl ⟨by simpa using h1.symm, by simpa using h2.symm⟩
  refine ⟨b.sub, fun q hq => by
    obtain ⟨f1, f2, f3⟩ := b.fm q hq
    refine ⟨f1, fun h => ?_, f3⟩
    rcases List.mem_append.mp h with h | h
    · exact f2 (List.mem_of_mem_take h)
    · exact f2 (by rw [List.mem_singleton.mp h]; exact List.mem_of_getElem? ha), b.fnd, by rw [List.length_append, List.length_append, hl, List.length_singleton, List.length_singleton], ?_, fun z hz => ?_, fun j c' z h1 h2 => ?_, fun j c' z h1 h2 => ?_, b.tbs, b0.obs.mono ⟨Same.refl I, List.prefix_append _ _⟩ fun j c' fs z h1 h2 => by
    rcases cs h1 h2 with ⟨rfl, rfl⟩ | ⟨h3, h4⟩
    · cases hob
    · exact ⟨h3, h4, rfl⟩⟩
  · refine List.nodup_append.mpr ⟨b0.nd, by simp, fun z hz y hy => ?_⟩
    rw [List.mem_singleton.mp hy]
    exact fun e => hni (e ▸ hz)
  · rcases List.mem_append.mp hz with h | h
    · exact b0.al z h
    · rw [List.mem_singleton.mp h]; exact b.al a (List.mem_of_getElem? ha)
  · rcases cs h1 h2 with ⟨rfl, rfl⟩ | ⟨h3, h4⟩
    · exact b.fr k _ _ hk ha
    · exact b0.fr j c' z h3 h4
  · rcases cs h1 h2 with ⟨rfl, rfl⟩ | ⟨h3, h4⟩
    · exact b.ok k _ _ hk ha
    · exact b0.ok j c' z h3 h4
end
end FM
namespace FM
open PySem PySem.Spec PyProof.Rows L2
/-! ### what a piece of text gives -/
def Rs.bind {α β : Type} (r : Rs α) (k : α → Cells → Rs β) : Rs β := match r with
  | .ok a m => k a m
  | .ex c fs m => .ex c fs m
  | .bad => .bad
/-- nothing may be raised -/
def Rs.calm {α : Type} : Rs α → Rs α
  | .ok a m => .ok a m
  | _ => .bad
section
variable (C : Fc) (B : Bs) (g : Gam) (S : List Vl) (σ : L2.St) (vs : List V)
def WantX (c : Nat) (fs : List Dt) (g : Gam) (m : Cells) : Prop := ∀ σ H' I' A' dx ws, Rel C.T C.x B g S m σ vs H' I' A' → I' dx = some (.xd ((C.T.cf c).zip ws)) → ws.length = (C.T.cf c).length → DRs C.T I' ws fs → C.W (.ref (C.T.ca c)) (some dx) σ H'
def WantE (Q : VK) : Rs Vl → Prop
  | .ok d m' => ∀ v H' I' A', Rel C.T C.x B g (d :: S) m' σ (v :: vs) H' I' A' → Q v H'
  | .ex c fs m' => WantX C B S vs c fs g m'
  | .bad => False
def WantT (Q : Bool → Hp → Prop) : Rs Bool → Prop
  | .ok b m' => ∀ H' I' A', Rel C.T C.x B g S m' σ vs H' I' A' → Q b H'
  | .ex c fs m' => WantX C B S vs c fs g m'
  | .bad => False
def WantA (Q : List V → Hp → Prop) : Rs (List Vl) → Prop
  | .ok ds m' => ∀ ws H' I' A', ws.length = ds.length → Rel C.T C.x B g (ds ++ S) m' σ (ws ++ vs) H' I' A' → Q ws H'
  | .ex c fs m' => WantX C B S vs c fs g m'
  | .bad => False
def WantS (D : Ends) : Out → Prop
  | .nx g' m' => ∀ σ' H' I' A', Rel C.T C.x B g' S m' σ' vs H' I' A' → D.nx σ' H'
  | .rt d m' => ∀ g' σ' v H' I' A', Rel C.T C.x B g' (d :: S) m' σ' (v :: vs) H' I' A' → D.rt v H'
  | .bk g' m' => ∀ σ' H' I' A', Rel C.T C.x B g' S m' σ' vs H' I' A' → D.bk σ' H'
  | .ct g' m' => ∀ σ' H' I' A', Rel C.T C.x B g' S m' σ' vs H' I' A' → D.ct σ' H'
  | .ex c fs g' m' => WantX C B S vs c fs g' m'
  | .bad => False
end
def FE (C : Fc) (me : ME) : TE := fun σ H Q => ∃ B g S m vs I A, Rel C.T C.x B g S m σ vs H I A ∧ WantE C B g S σ vs Q (me g m)
def FT (C : Fc) (mt : MT) : TT := fun σ H Q => ∃ B g S m vs I A, Rel C.T C.x B g S m σ vs H I A ∧ WantT C B g S σ vs Q (mt g m)
def FA (C : Fc) (ma : MA) : TA := fun σ H Q => ∃ B g S m vs I A, Rel C.T C.x B g S m σ vs H I A ∧ WantA C B g S σ vs Q (ma g m)
def FS (C : Fc) (ms : MS) : TS := fun D σ H => ∃ B g S m vs I A, Rel C.T C.x B g S m σ vs H I A ∧ WantS C B S vs D (ms g m)
/-! ### readings by readings -/
section
variable {X : Cx} {e : Expr} {es : List Expr} {st : Stmt} {ss : List Stmt}
theorem pe_of {t t' : TE} (h : PE X e t) (k : ∀ σ H Q, t' σ H Q → t σ H Q) : PE X e t' := ⟨fun pins s σ H Q I q => h.run pins s σ H Q I (k σ H Q q)⟩
theorem pt_of {t t' : TT} (h : PT X e t) (k : ∀ σ H Q, t' σ H Q → t σ H Q) : PT X e t' := ⟨fun pins s σ H Q I q => h.run pins s σ H Q I (k σ H Q q)⟩
theorem pts_of {t t' : TT} (h : PTs X es t) (k : ∀ σ H Q, t' σ H Q → t σ H Q) : PTs X es t' := ⟨fun pins s σ H Q I q => h.run pins s σ H Q I (k σ H Q q)⟩
theorem pw_of {t t' : TT} (h : PW X e t) (k : ∀ σ H Q, t' σ H Q → t σ H Q) : PW X e t' := ⟨fun w pins s σ H Q I q => h.run w pins s σ H Q I (k σ H Q q)⟩
theorem pa_of {t t' : TA} (h : PA X es t) (k : ∀ σ H Q, t' σ H Q → t σ H Q) : PA X es t' := ⟨fun pos pins s σ H Q I q => h.run pos pins s σ H Q I (k σ H Q q)⟩
theorem ps_of {t t' : TS} (h : PS X st t) (k : ∀ D σ H, t' D σ H → t D σ H) : PS X st t' := ⟨fun pins s σ H D I q => h.run pins s σ H D I (k D σ H q)⟩
theorem pss_of {t t' : TS} (h : PSs X ss t) (k : ∀ D σ H, t' D σ H → t D σ H) : PSs X ss t' := ⟨fun pins s σ H D I q => h.run pins s σ H D I (k D σ H q)⟩
end
/-! ### expressions -/
def mVar (i : Nat) : ME := fun g m => match g[i]? with
  | some (some d) => .ok d m
  | _ => .bad
def mC (d : Dt) : ME := fun _ m => .ok (.d d) m
def ofO {α : Type} (m : Cells) : Option α → Rs α
  | some d => .ok d m
  | none => .bad
def mOp (f : O2) (ma mb : ME) : ME := fun g m => (ma g m).bind fun x m1 => (mb g m1).bind fun y m2 => ofO m2 (f m2 x y)
def SimO (T : Tab) (r : R2) (f : O2) : Prop := ∀ (F : Frm) (I H : Hp) (A : List Addr) (m : Cells) (x y : V) (d1 d2 d : Vl), Base T F I H A m → VR T I A x d1 → VR T I A y d2 → f m d1 d2 = some d → ∀ Q : VK, (∀ v H' I', Base T F I' H' A m → Same I I' → VR T I' A v d → Q v H') → r x y H Q
section
variable {X : Cx} {C : Fc} {e : Expr} {ma mb mc : ME}
theorem fe_var {i : Nat} (h : PE X e (tVar i)) : PE X e (FE C (mVar i)) := pe_of h fun σ H Q ⟨B, g, S, m, vs, I, A, r, w⟩ => by
  unfold mVar at w
  split at w
  · rename_i d hd
    obtain ⟨v, h1, h2⟩ := r.ctx.look i d hd
    exact ⟨v, h1, w v H I A (r.push h2)⟩
  · exact w.elim
theorem fe_int {i : Int} (h : PE X e (tC (.int i))) : PE X e (FE C (mC (.int i))) := pe_of h fun σ H Q ⟨B, g, S, m, vs, I, A, r, w⟩ => w _ H I A (r.push (.d (.int i)))
theorem fe_str {z : Str} (h : PE X e (tC (.str z))) : PE X e (FE C (mC (.str z))) := pe_of h fun σ H Q ⟨B, g, S, m, vs, I, A, r, w⟩ => w _ H I A (r.push (.d (.str z)))
theorem fe_bl {b : Bool} (h : PE X e (tC (.bl b))) : PE X e (FE C (mC (.bl b))) := pe_of h fun σ H Q ⟨B, g, S, m, vs, I, A, r, w⟩ => w _ H I A (r.push (.d (.bl b)))
theorem fe_non (h : PE X e (tC .non)) : PE X e (FE C (mC .non)) := pe_of h fun σ H Q ⟨B, g, S, m, vs, I, A, r, w⟩ => w _ H I A (r.push (.d .non))
/-- two in a row -/
theorem two_ok {Q' : V → V → Hp → Prop} {σ : L2.St} {H : Hp} {k : Vl → Vl → Cells → Rs Vl} {B : Bs} {g : Gam} {S : List Vl} {m : Cells} {vs : List V} {I : Hp} {A : List Addr} {Q : VK} (r : Rel C.T C.x B g S m σ vs H I A)
    (w : WantE C B g S σ vs Q ((ma g m).bind fun x m1 => (mb g m1).bind fun y m2 => k x y m2))
    (hq : ∀ x y dx dy m2 H2 I2 A2, Rel C.T C.x B g (dy :: dx :: S) m2 σ (y :: x :: vs) H2 I2 A2 → WantE C B g S σ vs Q (k dx dy m2) → Q' x y H2) : FE C ma σ H fun x H1 => FE C mb σ H1 fun y H2 => Q' x y H2 := by
  refine ⟨B, g, S, m, vs, I, A, r, ?_⟩
  cases ea : ma g m with
  | bad => rw [ea] at w; exact w.elim
  | ex c fs m' => rw [ea] at w; exact w
  | ok d1 m1 =>
    rw [ea] at w
    intro x H1 I1 A1 r1
    refine ⟨B, g, d1 :: S, m1, x :: vs, I1, A1, r1, ?_⟩
    have w1 : WantE C B g S σ vs Q ((mb g m1).bind fun y m2 => k d1 y m2) := w
    cases eb : mb g m1 with
    | bad => rw [eb] at w1; exact w1.elim
    | ex c fs m' =>
      rw [eb] at w1
      intro σ' H' I' A' dx ws r' h1 h2 h3
      exact w1 σ' H' I' A' dx ws r'.pop1 h1 h2 h3
    | ok d2 m2 =>
      rw [eb] at w1
      intro y H2 I2 A2 r2
      exact hq x y d1 d2 m2 H2 I2 A2 r2 w1
theorem fe_op {r : R2} {f : O2} (h : PE X e (tOp r (FE C ma) (FE C mb))) (s : SimO C.T r f) : PE X e (FE C (mOp f ma mb)) := pe_of h fun σ H Q ⟨B, g, S, m, vs, I, A, rl, w⟩ =>
  two_ok rl w fun x y dx dy m2 H2 I2 A2 r2 w2 => by
    cases ef : f m2 dx dy with
    | none => rw [ef] at w2; exact w2.elim
    | some d =>
      rw [ef] at w2
      exact s _ I2 H2 A2 m2 x y dx dy d r2.base r2.pop1.top r2.top ef Q fun v H' I' b e hv => w2 v H' I' A2 ((r2.pop1.pop1.step b ⟨e, List.prefix_refl _⟩).push hv)
/-- an operation on one value -/
abbrev O1 := Cells → Vl → Option Vl
def mUn (f : O1) (ma : ME) : ME := fun g m => (ma g m).bind fun x m1 => ofO m1 (f m1 x)
theorem one_ok {Q' : V → Hp → Prop} {σ : L2.St} {H : Hp} {k : Vl → Cells → Rs Vl} {B : Bs} {g : Gam} {S : List Vl} {m : Cells} {vs : List V} {I : Hp} {A : List Addr} {Q : VK} (r : Rel C.T C.x B g S m σ vs H I A)
    (w : WantE C B g S σ vs Q ((ma g m).bind fun x m1 => k x m1))
    (hq : ∀ x dx m1 H1 I1 A1, Rel C.T C.x B g (dx :: S) m1 σ (x :: vs) H1 I1 A1 → WantE C B g S σ vs Q (k dx m1) → Q' x H1) : FE C ma σ H Q' := by
  refine ⟨B, g, S, m, vs, I, A, r, ?_⟩
  cases ea : ma g m with
  | bad => rw [ea] at w; exact w.elim
  | ex c fs m' => rw [ea] at w; exact w
  | ok d1 m1 =>
    rw [ea] at w
    intro x H1 I1 A1 r1
    exact hq x d1 m1 H1 I1 A1 r1 w
/-! ### arguments -/
def mNil : MA := fun _ m => .ok [] m
def mCons (me : ME) (ma : MA) : MA := fun g m => (me g m).bind fun x m1 => (ma g m1).bind fun xs m2 => .ok (x :: xs) m2
theorem fa_nil (h : PA X [] tNil) : PA X [] (FA C mNil) := pa_of h fun σ H Q ⟨B, g, S, m, vs, I, A, r, w⟩ => w [] H I A rfl r
theorem fa_cons {es : List Expr} {mr : MA} (h : PA X es (tCons (FE C ma) (FA C mr))) : PA X es (FA C (mCons ma mr)) := pa_of h fun σ H Q ⟨B, g, S, m, vs, I, A, r, w⟩ => by
  refine ⟨B, g, S, m, vs, I, A, r, ?_⟩
  unfold mCons at w
  cases ea : ma g m with
  | bad => rw [ea] at w; exact w.elim
  | ex c fs m' => rw [ea] at w; exact w
  | ok d1 m1 =>
    rw [ea] at w
    intro x H1 I1 A1 r1
    refine ⟨B, g, d1 :: S, m1, x :: vs, I1, A1, r1, ?_⟩
    have w1 : WantA C B g S σ vs Q ((mr g m1).bind fun xs m2 => .ok (d1 :: xs) m2) := w
    cases eb : mr g m1 with
    | bad => rw [eb] at w1; exact w1.elim
    | ex c fs m' =>
      rw [eb] at w1
      intro σ' H' I' A' dx ws r' h1 h2 h3
      exact w1 σ' H' I' A' dx ws r'.pop1 h1 h2 h3
    | ok ds m2 =>
      rw [eb] at w1
      intro ws H2 I2 A2 hl r2
      have e2 := r2.stk.split hl
      cases e2.2 with
      | cons hd ht => exact w1 (x :: ws) H2 I2 A2 (by rw [List.length_cons, List.length_cons, hl]) { r2 with stk := .cons hd (e2.1.app ht) }
/-! ### tests -/
def mTest (me : ME) : MT := fun g m => (me g m).bind fun x m1 => match x with
  | .d (.bl b) => .ok b m1
  | _ => .bad
theorem ft_le {σ : L2.St} {H : Hp} {Q : Bool → Hp → Prop} (h : FT C (mTest ma) σ H Q) : FE C ma σ H fun x H1 => ∃ k, x = .bl k ∧ Q k H1 := by
  obtain ⟨B, g, S, m, vs, I, A, r, w⟩ := h
  refine ⟨B, g, S, m, vs, I, A, r, ?_⟩
  unfold mTest at w
  cases ea : ma g m with
  | bad => rw [ea] at w; exact w.elim
  | ex c fs m' => rw [ea] at w; exact w
  | ok d1 m1 =>
    rw [ea] at w
    intro x H1 I1 A1 r1
    cases d1 with
    | ref k => exact (show False from w).elim
    | lam z => exact (show False from w).elim
    | d d =>
      cases d with
      | bl b =>
        have := r1.top.dat
        cases this
        exact ⟨b, rfl, w H1 I1 A1 r1.pop1⟩
      | _ => exact (show False from w).elim
theorem ft_B {e : Expr} (h : PT X e (tB (FE C ma))) : PT X e (FT C (mTest ma)) := pt_of h fun σ H Q q => ft_le q
def mAnd (t u : MT) : MT := fun g m => (t g m).bind fun b m1 => if b = true then u g m1 else .ok false m1
def mOr (t u : MT) : MT := fun g m => (t g m).bind fun b m1 => if b = true then .ok true m1 else u g m1
def mNot (t : MT) : MT := fun g m => (t g m).bind fun b m1 => .ok (!b) m1
theorem tone_ok {t : MT} {Q' : Bool → Hp → Prop} {σ : L2.St} {H : Hp} {k : Bool → Cells → Rs Bool} {B : Bs} {g : Gam} {S : List Vl} {m : Cells} {vs : List V} {I : Hp} {A : List Addr} {Q : Bool → Hp → Prop} (r : Rel C.T C.x B g S m σ vs H I A)
    (w : WantT C B g S σ vs Q ((t g m).bind fun x m1 => k x m1))
    (hq : ∀ b m1 H1 I1 A1, Rel C.T C.x B g S m1 σ vs H1 I1 A1 → WantT C B g S σ vs Q (k b m1) → Q' b H1) : FT C t σ H Q' := by
  refine ⟨B, g, S, m, vs, I, A, r, ?_⟩
  cases ea : t g m with
  | bad => rw [ea] at w; exact w.elim
  | ex c fs m' => rw [ea] at w; exact w
  | ok d1 m1 =>
    rw [ea] at w
    intro H1 I1 A1 r1
    exact hq d1 m1 H1 I1 A1 r1 w
theorem le_or {t u : MT} {σ : L2.St} {H : Hp} {Q : Bool → Hp → Prop} (h : FT C (mOr t u) σ H Q) : tOr (FT C t) (FT C u) σ H Q := by
  obtain ⟨B, g, S, m, vs, I, A, r, w⟩ := h
  refine tone_ok r w fun b m1 H1 I1 A1 r1 w1 => ?_
  cases b with
  | true => exact w1 H1 I1 A1 r1
  | false => exact ⟨B, g, S, m1, vs, I1, A1, r1, w1⟩
theorem le_not {t : MT} {σ : L2.St} {H : Hp} {Q : Bool → Hp → Prop} (h : FT C (mNot t) σ H Q) : tNot (FT C t) σ H Q := by
  obtain ⟨B, g, S, m, vs, I, A, r, w⟩ := h
  exact tone_ok r w fun b m1 H1 I1 A1 r1 w1 => w1 H1 I1 A1 r1
theorem ft_not {e : Expr} {t : MT} (h : PT X e (tNot (FT C t))) : PT X e (FT C (mNot t)) := pt_of h fun σ H Q => le_not
theorem fw_or {e : Expr} {t u : MT} (h : PW X e (tOr (FT C t) (FT C u))) : PW X e (FT C (mOr t u)) := pw_of h fun σ H Q => le_or
/-- x if t else y -/
def mIf (t : MT) (ma mb : ME) : ME := fun g m => (t g m).bind fun b m1 => if b = true then ma g m1 else mb g m1
theorem fe_if {t : MT} (h : PE X e (tIf (FT C t) (FE C ma) (FE C mb))) : PE X e (FE C (mIf t ma mb)) := pe_of h fun σ H Q ⟨B, g, S, m, vs, I, A, r, w⟩ => by
  refine ⟨B, g, S, m, vs, I, A, r, ?_⟩
  unfold mIf at w
  cases ea : t g m with
  | bad => rw [ea] at w; exact w.elim
  | ex c fs m' => rw [ea] at w; exact w
  | ok b m1 =>
    rw [ea] at w
    intro H1 I1 A1 r1
    cases b with
    | true => exact ⟨B, g, S, m1, vs, I1, A1, r1, w⟩
    | false => exact ⟨B, g, S, m1, vs, I1, A1, r1, w⟩
/-- a test as a value: (t) of and, or, not -/
def mBool (t : MT) : ME := fun g m => (t g m).bind fun b m1 => .ok (.d (.bl b)) m1
end
end FM
namespace FM
open PySem PySem.Spec PyProof.Rows L2
/-! ### targets -/
def WantG (C : Fc) (B : Bs) (S : List Vl) (vs : List V) (Q : L2.St → Hp → Prop) : Option (Gam × Cells) → Prop
  | some p => ∀ σ' H' I' A', Rel C.T C.x B p.1 S p.2 σ' vs H' I' A' → Q σ' H'
  | none => False
def FG (C : Fc) (mg : MG) : TG := fun v σ H Q => ∃ B g S m vs I A d, Rel C.T C.x B g (d :: S) m σ (v :: vs) H I A ∧ WantG C B S vs Q (mg d g m)
def FGs (C : Fc) (mg : MGs) : TGs := fun us σ H Q => ∃ B g S m vs I A ds, us.length = ds.length ∧ Rel C.T C.x B g (ds.map Vl.d ++ S) m σ (us ++ vs) H I A ∧ WantG C B S vs Q (mg ds g m)
def gNm (i : Nat) : MG := fun d g m => some (g.set i (some d), m)
def gsNil : MGs := fun ds g m => match ds with
  | [] => some (g, m)
  | _ => none
def gsCons (mg : MG) (mr : MGs) : MGs := fun ds g m => match ds with
  | d :: r => (mg (.d d) g m).bind fun p => mr r p.1 p.2
  | [] => none
def gTp (n : Nat) (mg : MGs) : MG := fun d g m => match d with
  | .d (.tup ds) => if ds.length = n then mg ds g m else none
  | _ => none
theorem DRs_vrs {T : Tab} {I : Hp} {A : List Addr} {us : List V} {ds : List Dt} (h : DRs T I us ds) : VRs T I A us (ds.map Vl.d) := by
  induction us generalizing ds with
  | nil => cases h; exact .nil
  | cons u us ih => cases h with | cons a t => exact .cons (.d a) (ih t)
section
variable {X : Cx} {C : Fc} {e : Expr} {es : List Expr} {mg : MG} {mr : MGs}
theorem pg_of {t t' : TG} (h : PG X e t) (k : ∀ v σ H Q, t' v σ H Q → t v σ H Q) : PG X e t' := ⟨fun pins s σ H v u Q I r q => h.run pins s σ H v u Q I r (k v σ H Q q)⟩
theorem fg_name {i : Nat} (h : PG X e (gName i)) (hx : xfree C.x i = true) : PG X e (FG C (gNm i)) := pg_of h fun v σ H Q ⟨B, g, S, m, vs, I, A, d, r, w⟩ => w _ H I A (r.pop1.slot r.top hx)
end
/-! ### statements -/
def thenG (o : Option (Gam × Cells)) : Out := match o with
  | some p => .nx p.1 p.2
  | none => .bad
def mAsg (me : ME) (mg : MG) : MS := fun g m => (me g m).then g fun d m1 => thenG (mg d g m1)
def mDrop (me : ME) : MS := fun g m => (me g m).then g fun _ m1 => .nx g m1
def mRet (me : ME) : MS := fun g m => (me g m).then g fun d m1 => .rt d m1
def mRetN : MS := fun _ m => .rt (.d .non) m
def mNext : MS := fun g m => .nx g m
def mBrk : MS := fun g m => .bk g m
def mCnt : MS := fun g m => .ct g m
def mSeq (s t : MS) : MS := fun g m => match s g m with
  | .nx g' m' => t g' m'
  | o => o
def mIfS (c : MT) (s t : MS) : MS := fun g m => (c g m).then g fun b m1 => if b = true then s g m1 else t g m1
/-- one turn of a loop -/
def turn (o : Out) (k : Gam → Cells → Out) : Out := match o with
  | .nx g m => k g m
  | .ct g m => k g m
  | .bk g m => .nx g m
  | o => o
def mWhile : Nat → MT → MS → MS
  | 0, _, _ => fun _ _ => .bad
  | n + 1, c, s => fun g m => (c g m).then g fun b m1 => if b = true then turn (s g m1) (mWhile n c s) else .nx g m1
def mLoop (mg : MG) (s : MS) : List Dt → MS
  | [] => fun g m => .nx g m
  | x :: r => fun g m => match mg (.d x) g m with
    | some p => turn (s p.1 p.2) (mLoop mg s r)
    | none => .bad
def mFor (mi : MI) (mg : MG) (s : MS) : MS := fun g m => (mi g m).then g fun xs m1 => mLoop mg s xs g m1
section
variable {X : Cx} {C : Fc} {e : Expr} {st : Stmt} {ss : List Stmt} {me : ME} {mg : MG} {s t : MS} {c : MT}
theorem fs_asg (h : PS X st (tAsg (FE C me) (FG C mg))) : PS X st (FS C (mAsg me mg)) := ps_of h fun D σ H ⟨B, g, S, m, vs, I, A, r, w⟩ => by
  refine ⟨B, g, S, m, vs, I, A, r, ?_⟩
  unfold mAsg at w
  cases ea : me g m with
  | bad => rw [ea] at w; exact w.elim
  | ex c fs m' => rw [ea] at w; exact w
  | ok d m1 =>
    rw [ea] at w
    intro v H1 I1 A1 r1
    refine ⟨B, g, S, m1, vs, I1, A1, d, r1, ?_⟩
    have w1 : WantS C B S vs D (thenG (mg d g m1)) := w
    cases eb : mg d g m1 with
    | none => rw [eb] at w1; exact w1.elim
    | some p => rw [eb] at w1; exact w1
theorem fs_set {i : Nat} (h : PS X st (tAsg (FE C me) (gName i))) (hx : xfree C.x i = true) : PS X st (FS C (mAsg me (gNm i))) := ps_of h fun D σ H ⟨B, g, S, m, vs, I, A, r, w⟩ => by
  refine ⟨B, g, S, m, vs, I, A, r, ?_⟩
  unfold mAsg at w
  cases ea : me g m with
  | bad => rw [ea] at w; exact w.elim
  | ex c fs m' => rw [ea] at w; exact w
  | ok d m1 =>
    rw [ea] at w
    intro v H1 I1 A1 r1
    exact w _ H1 I1 A1 (r1.pop1.slot r1.top hx)
theorem fs_drop (h : PS X st (tDrop (FE C me))) : PS X st (FS C (mDrop me)) := ps_of h fun D σ H ⟨B, g, S, m, vs, I, A, r, w⟩ => by
  refine ⟨B, g, S, m, vs, I, A, r, ?_⟩
  unfold mDrop at w
  cases ea : me g m with
  | bad => rw [ea] at w; exact w.elim
  | ex c fs m' => rw [ea] at w; exact w
  | ok d m1 =>
    rw [ea] at w
    intro v H1 I1 A1 r1
    exact w _ H1 I1 A1 r1.pop1
theorem fs_ret (h : PS X st (tRet (FE C me))) : PS X st (FS C (mRet me)) := ps_of h fun D σ H ⟨B, g, S, m, vs, I, A, r, w⟩ => by
  refine ⟨B, g, S, m, vs, I, A, r, ?_⟩
  unfold mRet at w
  cases ea : me g m with
  | bad => rw [ea] at w; exact w.elim
  | ex c fs m' => rw [ea] at w; exact w
  | ok d m1 =>
    rw [ea] at w
    intro v H1 I1 A1 r1
    exact w g _ v H1 I1 A1 r1
theorem fss_nil (h : PSs X ss tNext) : PSs X ss (FS C mNext) := pss_of h fun D σ H ⟨B, g, S, m, vs, I, A, r, w⟩ => w σ H I A r
theorem fss_cons (h : PSs X ss (tSeq (FS C s) (FS C t))) : PSs X ss (FS C (mSeq s t)) := pss_of h fun D σ H ⟨B, g, S, m, vs, I, A, r, w⟩ => by
  refine ⟨B, g, S, m, vs, I, A, r, ?_⟩
  unfold mSeq at w
  cases ea : s g m with
  | nx g' m' =>
    rw [ea] at w
    intro σ' H' I' A' r'
    exact ⟨B, g', S, m', vs, I', A', r', w⟩
  | rt d m' => rw [ea] at w; exact w
  | bk g' m' => rw [ea] at w; exact w
  | ct g' m' => rw [ea] at w; exact w
  | ex c fs g' m' => rw [ea] at w; exact w
  | bad => rw [ea] at w; exact w.elim
theorem fs_if (h : PS X st (tIfS (FT C c) (FS C s) (FS C t))) : PS X st (FS C (mIfS c s t)) := ps_of h fun D σ H ⟨B, g, S, m, vs, I, A, r, w⟩ => by
  refine ⟨B, g, S, m, vs, I, A, r, ?_⟩
  unfold mIfS at w
  cases ea : c g m with
  | bad => rw [ea] at w; exact w.elim
  | ex c fs m' => rw [ea] at w; exact w
  | ok b m1 =>
    rw [ea] at w
    intro H1 I1 A1 r1
    cases b with
    | true => exact ⟨B, g, S, m1, vs, I1, A1, r1, w⟩
    | false => exact ⟨B, g, S, m1, vs, I1, A1, r1, w⟩
/-! ### what is walked -/
structure ItD (T : Tab) (x : Option Xc) (B1 : Bs) (J : It) (xs : List Dt) : Prop where
  go : ∀ i g S m σ vs H I A, i < xs.length → Rel T x B1 g S m σ vs H I A → J.go i H
  yl : ∀ i g S m σ vs H I A v H' d, xs[i]? = some d → Rel T x B1 g S m σ vs H I A → J.yld i H v H' → ∃ I', Rel T x B1 g (.d d :: S) m σ (v :: vs) H' I' A
  st : ∀ i g S m σ vs H I A, xs.length ≤ i → Rel T x B1 g S m σ vs H I A → J.stop i H
def WantI (C : Fc) (B : Bs) (g : Gam) (S : List Vl) (σ : L2.St) (vs : List V) (R : It → Hp → Prop) : Rs (List Dt) → Prop
  | .ok xs m' => ∀ J H' I' A', Rel C.T C.x B g S m' σ vs H' I' A' → (∀ F, ItD C.T C.x ⟨F, I', A'⟩ J xs) → R J H'
  | .ex c fs m' => WantX C B S vs c fs g m'
  | .bad => False
def FI (C : Fc) (mi : MI) : TI := fun σ H R => ∃ B g S m vs I A, Rel C.T C.x B g S m σ vs H I A ∧ WantI C B g S σ vs R (mi g m)
theorem pi_of {tg it : Expr} {t t' : TI} (h : PI X tg it t) (k : ∀ σ H R, t' σ H R → t σ H R) : PI X tg it t' := ⟨fun pins s σ H R I q => h.run pins s σ H R I (k σ H R q)⟩
/-- a value and what is walked of it -/
def mIt (me : ME) (f : Vl → Option (List Dt)) : MI := fun g m => (me g m).bind fun d m1 => ofO m1 (f d)
def isLst : Vl → Option (List Dt)
  | .d (.lst ds) => some ds
  | .d (.scr ds) => some ds
  | _ => none
def isTup : Vl → Option (List Dt)
  | .d (.tup ds) => some ds
  | _ => none
/-- for -/
theorem fs_for {mi : MI} (h : PS X st (tFor (FI C mi) (FG C mg) (FS C s))) : PS X st (FS C (mFor mi mg s)) := ps_of h fun D σ H ⟨B, g, S, m, vs, I, A, r, w⟩ => by
  refine ⟨B, g, S, m, vs, I, A, r, ?_⟩
  unfold mFor at w
  cases ea : mi g m with
  | bad => rw [ea] at w; exact w.elim
  | ex c fs m' => rw [ea] at w; exact w
  | ok xs m1 =>
    rw [ea] at w
    intro J H1 I1 A1 r1 it
    have w1 : WantS C B S vs D (mLoop mg s xs g m1) := w
    have itd := it B.F
    refine ⟨fun i n σ' H' => i + n = xs.length ∧ ∃ g m I A, Rel C.T C.x ⟨B.F, I1, A1⟩ g S m σ' vs H' I A ∧ WantS C B S vs D (mLoop mg s (xs.drop i) g m), ⟨xs.length, by omega, g, m1, I1, A1, r1.grip, by simpa using w1⟩, ?_⟩
    rintro i n σ' H' ⟨hn, g, m, I, A, r, w⟩
    by_cases hi : i < xs.length
    · have hd : xs.drop i = xs[i] :: xs.drop (i + 1) := List.drop_eq_getElem_cons hi
      rw [hd] at w
      refine .inr ⟨itd.go i g S m σ' vs H' I A hi r, fun σ2 H2 => ∃ g m I A, Rel C.T C.x ⟨B.F, I1, A1⟩ g S m σ2 vs H2 I A ∧ WantS C B S vs D (mLoop mg s (xs.drop (i + 1)) g m), fun σ2 H2 q => ⟨n - 1, by omega, by omega, q⟩, fun v H2 hy => ?_⟩
      obtain ⟨I2, r2⟩ := itd.yl i g S m σ' vs H' I A v H2 xs[i] (List.getElem?_eq_getElem hi) r hy
      refine ⟨⟨B.F, I1, A1⟩, g, S, m, vs, I2, A, _, r2, ?_⟩
      unfold mLoop at w
      cases eb : mg (.d xs[i]) g m with
      | none => rw [eb] at w; exact w.elim
      | some p =>
        rw [eb] at w
        intro σ3 H3 I3 A3 r3
        refine ⟨⟨B.F, I1, A1⟩, p.1, S, p.2, vs, I3, A3, r3, ?_⟩
        have w2 : WantS C B S vs D (turn (s p.1 p.2) (mLoop mg s (xs.drop (i + 1)))) := w
        unfold turn at w2
        cases ec : s p.1 p.2 with
        | nx g' m' => rw [ec] at w2; exact fun σ' H' I' A' r' => ⟨g', m', I', A', r', w2⟩
        | ct g' m' => rw [ec] at w2; exact fun σ' H' I' A' r' => ⟨g', m', I', A', r', w2⟩
        | bk g' m' => rw [ec] at w2; exact fun σ' H' I' A' r' => w2 σ' H' I' A' (r'.from r1.up)
        | rt d m' => rw [ec] at w2; exact fun g' σ' v H' I' A' r' => w2 g' σ' v H' I' A' (r'.from r1.up)
        | ex c fs g' m' => rw [ec] at w2; exact fun σ' H' I' A' dx ws r' => w2 σ' H' I' A' dx ws (r'.from r1.up)
        | bad => rw [ec] at w2; exact w2.elim
    · have hd : xs.drop i = [] := List.drop_eq_nil_of_le (by omega)
      rw [hd] at w
      exact .inl ⟨itd.st i g S m σ' vs H' I A (by omega) r, w σ' H' I A (r.from r1.up)⟩
end
end FM
namespace FM
open PySem PySem.Spec PyProof.Rows L2
/-! ### displays, calls of built-ins -/
def szOk (n : Nat) : Bool := decide (n ≤ 16777216)
theorem szOk_line {n : Nat} (h : szOk n = true) : n ≤ sizeLine := by rw [sizeLine_eq]; exact of_decide_eq_true h
def mTup (ma : MA) : ME := fun g m => (ma g m).bind fun vs m1 => match dats vs with
  | some ds => if szOk ds.length then .ok (.d (.tup ds)) m1 else .bad
  | none => .bad
def mLst (ma : MA) : ME := fun g m => (ma g m).bind fun vs m1 => match dats vs with
  | some ds => if szOk ds.length then .ok (.d (.lst ds)) m1 else .bad
  | none => .bad
/-- a list that may change -/
def mLstC (ma : MA) : ME := fun g m => (ma g m).bind fun vs m1 => match dats vs with
  | some ds => if szOk ds.length then .ok (.ref m1.length) (m1 ++ [some (.lst ds)]) else .bad
  | none => .bad
section
variable {X : Cx} {C : Fc} {e : Expr} {ma : MA}
theorem args_ok {Q' : List V → Hp → Prop} {σ : L2.St} {H : Hp} {k : List Vl → Cells → Rs Vl} {B : Bs} {g : Gam} {S : List Vl} {m : Cells} {vs : List V} {I : Hp} {A : List Addr} {Q : VK} (r : Rel C.T C.x B g S m σ vs H I A)
    (w : WantE C B g S σ vs Q ((ma g m).bind fun x m1 => k x m1))
    (hq : ∀ ws ds m1 H1 I1 A1, Rel C.T C.x B g S m1 σ vs H1 I1 A1 → VRs C.T I1 A1 ws ds → WantE C B g S σ vs Q (k ds m1) → Q' ws H1) : FA C ma σ H Q' := by
  refine ⟨B, g, S, m, vs, I, A, r, ?_⟩
  cases ea : ma g m with
  | bad => rw [ea] at w; exact w.elim
  | ex c fs m' => rw [ea] at w; exact w
  | ok ds m1 =>
    rw [ea] at w
    intro ws H1 I1 A1 hl r1
    obtain ⟨q1, q2⟩ := r1.stk.split hl
    exact hq ws ds m1 H1 I1 A1 { r1 with stk := q2 } q1 w
theorem fe_tup (h : PE X e (tTup (FA C ma))) : PE X e (FE C (mTup ma)) := pe_of h fun σ H Q ⟨B, g, S, m, vs, I, A, r, w⟩ => args_ok r w fun ws ds m1 H1 I1 A1 r1 hv w1 => by
  cases ed : dats ds with
  | none => rw [ed] at w1; exact (show False from w1).elim
  | some es =>
    rw [ed] at w1
    by_cases hz : szOk es.length = true
    · have w2 : WantE C B g S σ vs Q (.ok (.d (.tup es)) m1) := by
        have := w1
        simp only [hz, if_true] at this
        exact this
      have hd := hv.dats ed
      refine ⟨by rw [hd.len]; exact szOk_line hz, fun p hp => ?_⟩
      obtain ⟨b, e⟩ := r1.base.new (o := .tup ws) hp
      exact w2 _ _ _ _ ((r1.step b e).push (.d (.tup (.inl (.inl upd_same)) (hd.mono e.i))))
    · simp only [hz, if_false] at w1; exact (show False from w1).elim
theorem fe_lst (h : PE X e (tLst (FA C ma))) : PE X e (FE C (mLst ma)) := pe_of h fun σ H Q ⟨B, g, S, m, vs, I, A, r, w⟩ => args_ok r w fun ws ds m1 H1 I1 A1 r1 hv w1 => by
  cases ed : dats ds with
  | none => rw [ed] at w1; exact (show False from w1).elim
  | some es =>
    rw [ed] at w1
    by_cases hz : szOk es.length = true
    · have w2 : WantE C B g S σ vs Q (.ok (.d (.lst es)) m1) := by
        have := w1
        simp only [hz, if_true] at this
        exact this
      have hd := hv.dats ed
      refine ⟨by rw [hd.len]; exact szOk_line hz, fun p hp => ?_⟩
      obtain ⟨b, e⟩ := r1.base.new (o := .lst ws) hp
      exact w2 _ _ _ _ ((r1.step b e).push (.d (.lst upd_same (hd.mono e.i))))
    · simp only [hz, if_false] at w1; exact (show False from w1).elim
theorem last_get {α : Type} (A : List α) (p : α) : (A ++ [p])[A.length]? = some p := by rw [List.getElem?_append_right (Nat.le_refl _), Nat.sub_self]; rfl
theorem fe_lstC (h : PE X e (tLst (FA C ma))) : PE X e (FE C (mLstC ma)) := pe_of h fun σ H Q ⟨B, g, S, m, vs, I, A, r, w⟩ => args_ok r w fun ws ds m1 H1 I1 A1 r1 hv w1 => by
  cases ed : dats ds with
  | none => rw [ed] at w1; exact (show False from w1).elim
  | some es =>
    rw [ed] at w1
    by_cases hz : szOk es.length = true
    · have w2 : WantE C B g S σ vs Q (.ok (.ref m1.length) (m1 ++ [some (.lst es)])) := by
        have := w1
        simp only [hz, if_true] at this
        exact this
      have hd := hv.dats ed
      refine ⟨by rw [hd.len]; exact szOk_line hz, fun p hp => ?_⟩
      obtain ⟨b, e⟩ := r1.base.newC (o := .lst ws) (c := .lst es) hp ⟨ws, upd_same, hd⟩
      exact w2 _ _ _ _ ((r1.step b e).push (.ref (by rw [← r1.base.len]; exact last_get A1 p)))
    · simp only [hz, if_false] at w1; exact (show False from w1).elim
/-- a call on values -/
abbrev ON := Cells → List Vl → Option Vl
def mCB (f : ON) (ma : MA) : ME := fun g m => (ma g m).bind fun xs m1 => ofO m1 (f m1 xs)
def SimN (T : Tab) (r : List V → Hp → VK → Prop) (f : ON) : Prop := ∀ (F : Frm) (I H : Hp) (A : List Addr) (m : Cells) (ws : List V) (ds : List Vl) (d : Vl), Base T F I H A m → VRs T I A ws ds → f m ds = some d → ∀ Q : VK, (∀ v H' I', Base T F I' H' A m → Same I I' → VR T I' A v d → Q v H') → r ws H Q
theorem fe_cb {r : List V → Hp → VK → Prop} {f : ON} (h : PE X e (tCB r (FA C ma))) (s : SimN C.T r f) : PE X e (FE C (mCB f ma)) := pe_of h fun σ H Q ⟨B, g, S, m, vs, I, A, rl, w⟩ => args_ok rl w fun ws ds m1 H1 I1 A1 r1 hv w1 => by
  cases ef : f m1 ds with
  | none => rw [ef] at w1; exact w1.elim
  | some d =>
    rw [ef] at w1
    exact s _ I1 H1 A1 m1 ws ds d r1.base hv ef Q fun v H' I' b e hd => w1 v H' I' A1 ((r1.step b ⟨e, List.prefix_refl _⟩).push hd)
/-- a call that makes a list, as data -/
abbrev OL := Cells → List Vl → Option (List Dt)
def mCL (f : OL) (ma : MA) : ME := fun g m => (ma g m).bind fun xs m1 => match f m1 xs with
  | some ds => .ok (.d (.lst ds)) m1
  | none => .bad
/-- the same, a cell -/
def mCLC (f : OL) (ma : MA) : ME := fun g m => (ma g m).bind fun xs m1 => match f m1 xs with
  | some ds => .ok (.ref m1.length) (m1 ++ [some (.lst ds)])
  | none => .bad
end
/-! ### list comprehensions -/
def Only (js : List Nat) (σ σ' : L2.St) : Prop := σ'.length = σ.length ∧ ∀ i, i ∉ js → σ'[i]? = σ[i]?
def Fills (tg : TG) (js : List Nat) : Prop := ∀ v σ H (Q Q' : L2.St → Hp → Prop), tg v σ H Q → (∀ σ' H', Only js σ σ' → Q σ' H' → Q' σ' H') → tg v σ H Q'
def FillsS (tg : TGs) (js : List Nat) : Prop := ∀ v σ H (Q Q' : L2.St → Hp → Prop), tg v σ H Q → (∀ σ' H', Only js σ σ' → Q σ' H' → Q' σ' H') → tg v σ H Q'
theorem fills_name {i : Nat} : Fills (gName i) [i] := fun v σ H Q Q' h k => k _ _ ⟨List.length_set, fun j hj => List.getElem?_set_ne (fun e => hj (by rw [e]; exact List.mem_singleton.mpr rfl))⟩ h
theorem fills_nil : FillsS gNil [] := fun vs σ H Q Q' h k => ⟨h.1, k _ _ ⟨rfl, fun _ _ => rfl⟩ h.2⟩
theorem fills_cons {tg : TG} {tr : TGs} {js ks : List Nat} (h : Fills tg js) (hr : FillsS tr ks) : FillsS (gCons tg tr) (js ++ ks) := fun vs σ H Q Q' ⟨v, r, e, q⟩ k => ⟨v, r, e, h _ _ _ _ _ q fun σ1 H1 o1 q1 => hr _ _ _ _ _ q1 fun σ2 H2 o2 q2 => k _ _ ⟨o2.1.trans o1.1, fun i hi => by
  have h1 : i ∉ js := fun z => hi (List.mem_append_left _ z)
  have h2 : i ∉ ks := fun z => hi (List.mem_append_right _ z)
  rw [o2.2 i h2, o1.2 i h1]⟩ q2⟩
theorem fills_tup {K : PySem.W.Frag} {n : Nat} {tr : TGs} {js : List Nat} (h : FillsS tr js) : Fills (gTup K n tr) js := fun v σ H Q Q' ⟨a, xs, e1, e2, e3, q⟩ k => ⟨a, xs, e1, e2, e3, h _ _ _ _ _ q k⟩
theorem sg_name {C : Fc} {i : Nat} (hx : xfree C.x i = true) : ∀ v σ H Q, FG C (gNm i) v σ H Q → gName i v σ H Q := fun v σ H Q ⟨B, g, S, m, vs, I, A, d, r, w⟩ => w _ H I A (r.pop1.slot r.top hx)
theorem sgs_nil {C : Fc} : ∀ us σ H Q, FGs C gsNil us σ H Q → gNil us σ H Q := fun us σ H Q ⟨B, g, S, m, vs, I, A, ds, hl, r, w⟩ => by
  cases ds with
  | nil => cases us with
    | nil => exact ⟨rfl, w σ H I A r⟩
    | cons u us => cases hl
  | cons d ds => exact w.elim
theorem sgs_cons {C : Fc} {mg : MG} {mr : MGs} {tg : TG} {tr : TGs} (h1 : ∀ v σ H Q, FG C mg v σ H Q → tg v σ H Q) (h2 : ∀ us σ H Q, FGs C mr us σ H Q → tr us σ H Q) : ∀ us σ H Q, FGs C (gsCons mg mr) us σ H Q → gCons tg tr us σ H Q := fun us σ H Q ⟨B, g, S, m, vs, I, A, ds, hl, r, w⟩ => by
  cases ds with
  | nil => exact w.elim
  | cons d ds =>
    cases us with
    | nil => cases hl
    | cons u us =>
      refine ⟨u, us, rfl, h1 _ _ _ _ ⟨B, g, ds.map Vl.d ++ S, m, us ++ vs, I, A, .d d, r, ?_⟩⟩
      have w1 : WantG C B S vs Q ((mg (.d d) g m).bind fun p => mr ds p.1 p.2) := w
      cases ea : mg (.d d) g m with
      | none => rw [ea] at w1; exact w1.elim
      | some p =>
        rw [ea] at w1
        intro σ' H' I' A' r'
        exact h2 _ _ _ _ ⟨B, p.1, S, p.2, vs, I', A', ds, by simpa using hl, r', w1⟩
theorem sg_tup {C : Fc} {n : Nat} {mr : MGs} {tr : TGs} (h2 : ∀ us σ H Q, FGs C mr us σ H Q → tr us σ H Q) : ∀ v σ H Q, FG C (gTp n mr) v σ H Q → gTup C.T.K n tr v σ H Q := fun v σ H Q ⟨B, g, S, m, vs, I, A, d, r, w⟩ => by
  cases d with
  | ref k => exact w.elim
  | lam z => exact w.elim
  | d d =>
    cases d with
    | tup ds =>
      have w1 : WantG C B S vs Q (if ds.length = n then mr ds g m else none) := w
      by_cases hn : ds.length = n
      · rw [if_pos hn] at w1
        cases r.top.dat with
        | tup h1 h3 => exact ⟨_, _, rfl, same_t r.sub h1, by rw [h3.len]; exact hn, h2 _ _ _ _ ⟨B, g, S, m, vs, I, A, ds, h3.len, { r.pop1 with stk := (DRs_vrs h3).app r.pop1.stk }, w1⟩⟩
      · rw [if_neg hn] at w1; exact w1.elim
    | _ => exact w.elim
def wipeG (g : Gam) : List Nat → Gam
  | [] => g
  | v :: vs => (wipeG g vs).set v none
theorem Ctx.wipe {T : Tab} {I : Hp} {A : List Addr} {σ : L2.St} {g : Gam} (h : Ctx T I A σ g) : ∀ vs : List Nat, Ctx T I A (L2.wipe σ vs) (wipeG g vs)
  | [] => h
  | v :: vs => (Ctx.wipe h vs).drop
theorem wipe_in {σ : L2.St} {i : Nat} : ∀ {vs : List Nat}, i ∈ vs → (L2.wipe σ vs)[i]? = σ[i]?.map fun _ => none
  | [], h => by cases h
  | v :: vs, h => by
    unfold L2.wipe
    by_cases e : v = i
    · subst e
      by_cases hl : v < σ.length
      · rw [List.getElem?_set_self (by rw [L2.wipe_length]; exact hl), List.getElem?_eq_getElem hl]
        rfl
      · rw [List.getElem?_eq_none (by rw [List.length_set, L2.wipe_length]; omega), List.getElem?_eq_none (by omega)]
        rfl
    · rw [List.getElem?_set_ne e]
      exact wipe_in (by
        rcases List.mem_cons.mp h with w | w
        · exact absurd w.symm e
        · exact w)
theorem wipe_only {σ σ2 : L2.St} {js vs : List Nat} (hj : ∀ j ∈ js, j ∈ vs) (h : Only js (L2.wipe σ vs) σ2) : L2.wipe σ2 vs = L2.wipe σ vs := by
  refine List.ext_getElem? fun i => ?_
  by_cases hi : i ∈ vs
  · rw [wipe_in hi, wipe_in hi]
    have hl : σ2.length = σ.length := by rw [h.1, L2.wipe_length]
    by_cases w : i < σ.length
    · rw [List.getElem?_eq_getElem w, List.getElem?_eq_getElem (by rw [hl]; exact w)]
      rfl
    · rw [List.getElem?_eq_none (by omega), List.getElem?_eq_none (by omega)]
  · rw [L2.wipe_out hi, h.2 i (fun w => hi (hj i w)), L2.wipe_out hi]
def lcLoop (mg : MG) (mt : MT) (me : ME) (g0 : Gam) : List Dt → List Dt → Cells → Rs (List Dt)
  | [], acc, m => .ok acc m
  | x :: r, acc, m => match mg (.d x) g0 m with
    | none => .bad
    | some p => match mt p.1 p.2 with
      | .ok true m2 => (match me p.1 m2 with
        | .ok (.d d) m3 => if szOk (acc.length + 1) then lcLoop mg mt me g0 r (acc ++ [d]) m3 else .bad
        | _ => .bad)
      | .ok false m2 => lcLoop mg mt me g0 r acc m2
      | _ => .bad
def mLc (mi : MI) (mg : MG) (mt : MT) (me : ME) (own : List Nat) : ME := fun g m => (mi g m).bind fun xs m1 => (lcLoop mg mt me (wipeG g own) xs [] m1).bind fun acc m2 => .ok (.d (.lst acc)) m2
/-- the same, a cell -/
def mLcC (mi : MI) (mg : MG) (mt : MT) (me : ME) (own : List Nat) : ME := fun g m => (mi g m).bind fun xs m1 => (lcLoop mg mt me (wipeG g own) xs [] m1).bind fun acc m2 => .ok (.ref m2.length) (m2 ++ [some (.lst acc)])
def mYes : MT := fun _ m => .ok true m
theorem ft_yes {X : Cx} {C : Fc} {es : List Expr} (h : PTs X es tYes) : PTs X es (FT C mYes) := pts_of h fun σ H Q ⟨B, g, S, m, vs, I, A, r, w⟩ => w H I A r
def W0 : WX := fun _ _ _ _ => False
abbrev Fc.quiet (C : Fc) : Fc := ⟨C.T, none, W0⟩
theorem vrs_drs {T : Tab} {I : Hp} {A : List Addr} {us : List V} {ds : List Dt} (h : VRs T I A us (ds.map Vl.d)) : DRs T I us ds := by
  induction us generalizing ds with
  | nil => cases ds with
    | nil => exact .nil
    | cons d ds => cases h
  | cons u us ih => cases ds with
    | nil => cases h
    | cons d ds => cases h with | cons a t => exact .cons a.dat (ih t)
/-- the loop of a comprehension; the end by fin -/
theorem lc_ok {C : Fc} {mi : MI} {mg : MG} {mt : MT} {me : ME} {own js : List Nat} {tg : TG} (hg : ∀ v σ H Q, FG C.quiet mg v σ H Q → tg v σ H Q) (hf : Fills tg js) (hj : ∀ j ∈ js, j ∈ own) (cx : C.x = none) {σ : L2.St} {H : Hp} {Q : VK} {k : List Dt → Cells → Rs Vl}
    {B : Bs} {g : Gam} {S : List Vl} {m : Cells} {vs : List V} {I : Hp} {A : List Addr} (r : Rel C.T C.x B g S m σ vs H I A) (w : WantE C B g S σ vs Q ((mi g m).bind fun xs m1 => (lcLoop mg mt me (wipeG g own) xs [] m1).bind k))
    (fin : ∀ D us acc m2 H2 I2 A2, Rel C.T C.x ⟨(D, .lst us) :: B.F, B.I, B.A⟩ g S m2 σ vs H2 I2 A2 → DRs C.T I2 us acc → WantE C B g S σ vs Q (k acc m2) → Q (.ref D) H2) : tLc (FI C mi) tg (FT C.quiet mt) (FE C.quiet me) own σ H Q := by
  refine ⟨B, g, S, m, vs, I, A, r, ?_⟩
  cases ea : mi g m with
  | bad => rw [ea] at w; exact w.elim
  | ex c fs m' => rw [ea] at w; exact w
  | ok xs m1 =>
    rw [ea] at w
    intro J H1 I1 A1 r1 it D hD
    have w1 : WantE C B g S σ vs Q ((lcLoop mg mt me (wipeG g own) xs [] m1).bind k) := w
    refine ⟨fun i n H' => i + n = xs.length ∧ ∃ (us : List V) (acc : List Dt) (m : Cells) (I : Hp) (A : List Addr), us.length = acc.length ∧ Rel C.T C.x ⟨(D, .lst us) :: B.F, I1, A1⟩ g (acc.map Vl.d ++ S) m σ (us ++ vs) H' I A ∧ WantE C B g S σ vs Q ((lcLoop mg mt me (wipeG g own) (xs.drop i) acc m).bind k), ⟨xs.length, by omega, [], [], m1, I1, A1, rfl, ⟨r1.base.hide hD, Up.refl, r1.ctx, r1.stk, r1.xc⟩, by simpa using w1⟩, ?_⟩
    rintro i n H' ⟨hn, us, acc, m, I, A, hl, r, w⟩
    have itd := it ((D, .lst us) :: B.F)
    by_cases hi : i < xs.length
    · have hdr : xs.drop i = xs[i] :: xs.drop (i + 1) := List.drop_eq_getElem_cons hi
      rw [hdr] at w
      refine .inr ⟨itd.go i _ _ _ _ _ H' I A hi r, fun H2 => ∃ (us : List V) (acc : List Dt) (m : Cells) (I : Hp) (A : List Addr), us.length = acc.length ∧ Rel C.T C.x ⟨(D, .lst us) :: B.F, I1, A1⟩ g (acc.map Vl.d ++ S) m σ (us ++ vs) H2 I A ∧ WantE C B g S σ vs Q ((lcLoop mg mt me (wipeG g own) (xs.drop (i + 1)) acc m).bind k), fun H2 q => ⟨n - 1, by omega, by omega, q⟩, fun v H2 hy => ?_⟩
      obtain ⟨I2, r2⟩ := itd.yl i _ _ _ _ _ H' I A v H2 xs[i] (List.getElem?_eq_getElem hi) r hy
      have back : ∀ {us : List V} {acc : List Dt} {g2 : Gam} {m2 : Cells} {σ2 : L2.St} {H2 I2 : Hp} {A2 : List Addr}, Rel C.T none ⟨(D, .lst us) :: B.F, I1, A1⟩ g2 (acc.map Vl.d ++ S) m2 σ2 (us ++ vs) H2 I2 A2 → Rel C.T C.x ⟨(D, .lst us) :: B.F, I1, A1⟩ g (acc.map Vl.d ++ S) m2 σ (us ++ vs) H2 I2 A2 := fun {us acc g2 m2 σ2 H2 I2 A2} r => ⟨r.base, r.up, r1.ctx.mono r.up, r.stk, by rw [cx]; trivial⟩
      have r3 : Rel C.T none ⟨(D, .lst us) :: B.F, I1, A1⟩ (wipeG g own) (.d xs[i] :: (acc.map Vl.d ++ S)) m (L2.wipe σ own) (v :: (us ++ vs)) H2 I2 A := ⟨r2.base, r2.up, r2.ctx.wipe own, r2.stk, trivial⟩
      unfold lcLoop at w
      cases eb : mg (.d xs[i]) (wipeG g own) m with
      | none => rw [eb] at w; exact (show False from w).elim
      | some p =>
        simp only [eb] at w
        refine hf _ _ _ (fun σ' Hq => Only js (L2.wipe σ own) σ' → L2.wipe σ' own = L2.wipe σ own ∧ FT C.quiet mt σ' Hq _) _ (hg _ _ _ _ ⟨_, wipeG g own, _, m, _, I2, A, _, r3, ?_⟩) fun σ' Hq ho hq => hq ho
        rw [eb]
        intro σ3 H3 I3 A3 r4 ho
        refine ⟨wipe_only hj ho, _, p.1, _, p.2, _, I3, A3, r4, ?_⟩
        cases ec : mt p.1 p.2 with
        | bad => simp only [ec] at w; exact (show False from w).elim
        | ex c fs m' => simp only [ec] at w; exact (show False from w).elim
        | ok b m2 =>
          simp only [ec] at w
          intro H4 I4 A4 r5
          cases b with
          | false =>
            rw [if_neg Bool.false_ne_true]
            exact ⟨us, acc, m2, I4, A4, hl, back r5, w⟩
          | true =>
            rw [if_pos rfl]
            refine ⟨_, p.1, _, m2, _, I4, A4, r5, ?_⟩
            cases ed : me p.1 m2 with
            | bad => simp only [ed] at w; exact (show False from w).elim
            | ex c fs m' => simp only [ed] at w; exact (show False from w).elim
            | ok y m3 =>
              simp only [ed] at w
              cases y with
              | ref j => exact (show False from w).elim
              | lam z => exact (show False from w).elim
              | d y =>
                intro u H5 I5 A5 r6
                have w2 : WantE C B g S σ vs Q ((if szOk (acc.length + 1) then lcLoop mg mt me (wipeG g own) (xs.drop (i + 1)) (acc ++ [y]) m3 else .bad).bind k) := w
                by_cases hz : szOk (acc.length + 1) = true
                · simp only [hz, if_true] at w2
                  obtain ⟨f1, f2, f3⟩ := r6.base.fm _ List.mem_cons_self
                  have hlt : us.length < sizeLine := by
                    have := szOk_line hz
                    rw [hl]; omega
                  have hsp := r6.pop1.stk.split (by simpa using hl)
                  have e1 : (acc ++ [y]).map Vl.d ++ S = acc.map Vl.d ++ (.d y :: S) := by simp
                  have e2 : (us ++ [u]) ++ vs = us ++ (u :: vs) := by simp
                  refine ⟨us, f1, hlt, us ++ [u], acc ++ [y], m3, I5, A5, by simp [hl], back ⟨r6.base.hput, r6.up, r6.ctx, ?_, trivial⟩, w2⟩
                  rw [e1, e2]
                  exact hsp.1.app (.cons r6.top hsp.2)
                · simp only [hz] at w2; exact (show False from w2).elim
    · have hdr : xs.drop i = [] := List.drop_eq_nil_of_le (by omega)
      rw [hdr] at w
      have hsp := r.stk.split (by simpa using hl)
      exact .inl ⟨itd.st i _ _ _ _ _ H' I A (by omega) r, fin D us acc m H' I A ⟨r.base, r1.up.trans r.up, r.ctx, hsp.2, r.xc⟩ (vrs_drs hsp.1) w⟩
section
variable {X : Cx} {C : Fc} {e : Expr} {st : Stmt} {mi : MI} {mg : MG} {mt : MT} {me : ME} {own js : List Nat} {tg : TG}
theorem le_lc (hg : ∀ v σ H Q, FG C.quiet mg v σ H Q → tg v σ H Q) (hf : Fills tg js) (hj : ∀ j ∈ js, j ∈ own) (cx : C.x = none) {σ : L2.St} {H : Hp} {Q : VK} (h : FE C (mLc mi mg mt me own) σ H Q) : tLc (FI C mi) tg (FT C.quiet mt) (FE C.quiet me) own σ H Q := by
  obtain ⟨B, g, S, m, vs, I, A, r, w⟩ := h
  refine lc_ok (k := fun (acc : List Dt) (m2 : Cells) => .ok (.d (.lst acc)) m2) hg hf hj cx r w fun D us acc m2 H2 I2 A2 r2 hd w2 => ?_
  obtain ⟨b, e⟩ := r2.base.show_
  exact w2 _ _ _ _ ((⟨b, r2.up.trans e, r2.ctx.mono e, r2.stk.mono e, r2.xc.mono e⟩ : Rel C.T C.x B g S m2 σ vs H2 _ A2).push (.d (.lst upd_same (hd.mono e.i))))
theorem fe_lc (h : PE X e (tLc (FI C mi) tg (FT C.quiet mt) (FE C.quiet me) own)) (hg : ∀ v σ H Q, FG C.quiet mg v σ H Q → tg v σ H Q) (hf : Fills tg js) (hj : ∀ j ∈ js, j ∈ own) (cx : C.x = none) : PE X e (FE C (mLc mi mg mt me own)) := pe_of h fun σ H Q => le_lc hg hf hj cx
/-- x = [..]: the machine's own rule -/
theorem fs_setLc {i : Nat} (h : PS X st (tAsg (tLc (FI C mi) tg (FT C.quiet mt) (FE C.quiet me) own) (gName i))) (hg : ∀ v σ H Q, FG C.quiet mg v σ H Q → tg v σ H Q) (hf : Fills tg js) (hj : ∀ j ∈ js, j ∈ own) (cx : C.x = none) : PS X st (FS C (mAsg (mLc mi mg mt me own) (gNm i))) :=
  fs_set (ps_of h fun D σ H q => le_lc hg hf hj cx q) (by rw [cx]; rfl)
end
/-! ### defs -/
def WantF (T : Tab) (F : Frm) (I : Hp) (A : List Addr) (Q : VK) (E : XK) : Rs Vl → Prop
  | .ok d m' => ∀ v H' I' A', Base T F I' H' A' m' → Up I I' A A' → VR T I' A' v d → Q v H'
  | .ex c fs m' => ∀ H' I' A' dx ws, Base T F I' H' A' m' → Up I I' A A' → I' dx = some (.xd ((T.cf c).zip ws)) → ws.length = (T.cf c).length → DRs T I' ws fs → E (.ref (T.ca c)) (some dx) H'
  | .bad => False
def spFn (T : Tab) (f : Fn) : Sp := fun vs H Q E => ∃ F I A m es, Base T F I H A m ∧ VRs T I A vs es ∧ WantF T F I A Q E (f es m)
def Qs (s : MS) : Prop := ∀ g m, Qo m (s g m)
def Qf (f : Fn) : Prop := ∀ es m, Qr m (f es m)
theorem clo_of {T : Tab} {F F' : Frm} {I H I' H' : Hp} {A A' : List Addr} {m m' : Cells} (b : Base T F I H A m) (b' : Base T F' I' H' A' m') (q : T.rich = false ∨ Obs m m') : Clo m.length m' := fun k c fs j hk h1 hj => by
  have hk' : k < A'.length := by rw [b'.len]; exact (List.getElem?_eq_some_iff.mp h1).1
  obtain ⟨r, _⟩ := b'.obs k c fs _ h1 (List.getElem?_eq_getElem hk')
  rcases q with q | q
  · rw [q] at r; cases r
  · obtain ⟨c0, fs0, h2, h3⟩ := q.2 k c fs hk h1
    obtain ⟨_, dx, vs, _, _, hv, _⟩ := b.obs k c0 fs0 _ h2 (List.getElem?_eq_getElem (by rw [b.len]; exact hk))
    rw [← b.len]
    exact hv.lt (h3 j hj)
def exitF (k : Nat) : Out → Rs Vl
  | .nx _ m => .ok (.d .non) (m.take k)
  | .rt (.d d) m => .ok (.d d) (m.take k)
  | .rt (.ref j) m => if j < k then .ok (.ref j) (m.take k) else match m[j]? with
    | some (some c) => if c.isOb then .bad else .ok (.ref k) (m.take k ++ [some c])
    | _ => .bad
  | .ex c fs _ m => .ex c fs (m.take k)
  | _ => .bad
def runFn (n N : Nat) (s : MS) : Fn := fun es m => if es.length = n then exitF m.length (s (es.map some ++ List.replicate (N - n) none) m) else .bad
theorem spFn_len {T : Tab} {n N : Nat} {s : MS} : ∀ vs H Q E, spFn T (runFn n N s) vs H Q E → vs.length = n := fun vs H Q E ⟨F, I, A, m, es, b, hv, w⟩ => by
  unfold runFn at w
  by_cases h : es.length = n
  · rw [hv.len, h]
  · rw [if_neg h] at w; exact w.elim
theorem ctx_start {T : Tab} {I : Hp} {A : List Addr} {N : List Str} {vs : List V} {es : List Vl} (h : VRs T I A vs es) : Ctx T I A (L2.start N vs) (es.map some ++ List.replicate (N.length - es.length) none) := by
  unfold L2.start
  refine ⟨by simp [h.len], fun i d q => ?_⟩
  have hl : i < es.length := by
    by_cases w : i < es.length
    · exact w
    · rw [List.getElem?_append_right (by simpa using Nat.le_of_not_lt w), List.getElem?_replicate] at q
      split at q <;> cases q
  rw [List.getElem?_append_left (by simpa using hl), List.getElem?_map] at q
  rw [List.getElem?_append_left (by simpa [h.len] using hl), List.getElem?_map]
  cases w : es[i]? with
  | none => rw [w] at q; cases q
  | some e =>
    rw [w] at q
    cases q
    obtain ⟨v, hv, hr⟩ := h.get w
    exact ⟨v, by rw [hv]; rfl, hr⟩
theorem pre_take {α : Type} {A A' : List α} (h : A <+: A') : A'.take A.length = A := by
  obtain ⟨t, rfl⟩ := h
  simp
/-- the body of a def, from its promise -/
theorem fn_enter {T : Tab} {n : Nat} {s : MS} {N : List Str} {vs : List V} {H : Hp} {Q : VK} {E : XK} (h : spFn T (runFn n N.length s) vs H Q E) (q : T.rich = false ∨ Qs s := by exact Or.inl rfl) : FS ⟨T, none, fun cls d _ H => E cls d H⟩ s { nx := fun _ H' => Q .non H', rt := Q } (L2.start N vs) H := by
  obtain ⟨F, I, A, m, es, b, hv, w⟩ := h
  unfold runFn at w
  by_cases hn : es.length = n
  · rw [if_pos hn] at w
    subst hn
    refine ⟨⟨F, I, A⟩, es.map some ++ List.replicate (N.length - es.length) none, [], m, [], I, A, ⟨b, Up.refl, ctx_start hv, .nil, trivial⟩, ?_⟩
    have cut : ∀ {g' : Gam} {S : List Vl} {m' : Cells} {σ' : L2.St} {vs' : List V} {H' I' : Hp} {A' : List Addr}, Rel T none ⟨F, I, A⟩ g' S m' σ' vs' H' I' A' → (T.rich = false ∨ Obs m m') → Base T F I' H' A (m'.take m.length) ∧ Up I I' A A := fun {g' S m' σ' vs' H' I' A'} r q => by
      have b1 := r.base.take m.length (clo_of b r.base q)
      rw [← b.len, pre_take r.up.a] at b1
      rw [← b.len]
      exact ⟨b1, ⟨r.up.i, List.prefix_refl A⟩⟩
    have qq : T.rich = false ∨ Qo m (s (es.map some ++ List.replicate (N.length - es.length) none) m) := q.imp id fun q => q _ _
    cases es' : s (es.map some ++ List.replicate (N.length - es.length) none) m with
    | nx g' m' =>
      rw [es'] at w qq
      intro σ' H' I' A' r
      obtain ⟨b1, u⟩ := cut r qq
      exact w _ H' I' A b1 u (.d .non)
    | rt d m' =>
      rw [es'] at w qq
      cases d with
      | d d =>
        intro g' σ' v H' I' A' r
        obtain ⟨b1, u⟩ := cut r qq
        exact w _ H' I' A b1 u (.d r.top.dat)
      | lam z => exact (show False from w).elim
      | ref j =>
        intro g' σ' v H' I' A' r
        have w1 : WantF T F I A Q E (if j < m.length then .ok (.ref j) (m'.take m.length) else match m'[j]? with
          | some (some c) => if c.isOb then .bad else .ok (.ref m.length) (m'.take m.length ++ [some c])
          | _ => .bad) := w
        obtain ⟨a, rfl, ha⟩ := r.top.cel
        by_cases hj : j < m.length
        · rw [if_pos hj] at w1
          obtain ⟨b1, u⟩ := cut r qq
          have e : A[j]? = some a := by
            have h1 : j < A.length := by rw [b.len]; exact hj
            rw [List.getElem?_eq_getElem h1]
            have := pre_get r.up.a (List.getElem?_eq_getElem h1)
            rw [ha] at this
            exact this.symm
          exact w1 _ H' I' A b1 u (.ref e)
        · rw [if_neg hj] at w1
          cases hc : m'[j]? with
          | none => rw [hc] at w1; exact (show False from w1).elim
          | some oc =>
            cases oc with
            | none => rw [hc] at w1; exact (show False from w1).elim
            | some c =>
              rw [hc] at w1
              have w1 : WantF T F I A Q E (if c.isOb = true then .bad else .ok (.ref m.length) (m'.take m.length ++ [some c])) := w1
              cases hob : c.isOb with
              | true => rw [hob] at w1; exact (show False from w1).elim
              | false =>
              rw [hob] at w1
              have w1 : WantF T F I A Q E (.ok (.ref m.length) (m'.take m.length ++ [some c])) := w1
              have b1 := r.base.takeC (n := m.length) (by omega) hc ha (clo_of b r.base qq) hob
              have e : A'.take m.length = A := by rw [← b.len]; exact pre_take r.up.a
              rw [e] at b1
              exact w1 _ H' I' (A ++ [a]) b1 ⟨r.up.i, List.prefix_append A [a]⟩ (.ref (by rw [← b.len]; exact last_get A a))
    | ex c fs g' m' =>
      rw [es'] at w qq
      intro σ' H' I' A' dx ws r h1 h2 h3
      obtain ⟨b1, u⟩ := cut r qq
      exact w H' I' A dx ws b1 u h1 h2 h3
    | bk g' m' => rw [es'] at w; exact (show False from w).elim
    | ct g' m' => rw [es'] at w; exact (show False from w).elim
    | bad => rw [es'] at w; exact (show False from w).elim
  · rw [if_neg hn] at w; exact w.elim
/-- a call of a def -/
def mCall (f : Fn) (ma : MA) : ME := fun g m => (ma g m).bind fun xs m1 => f xs m1
section
variable {X : Cx} {C : Fc} {e : Expr} {ma : MA}
theorem fe_call {f : Fn} (h : PE X e (tCallS (spFn C.T f) (WE C.W) (FA C ma))) : PE X e (FE C (mCall f ma)) := pe_of h fun σ H Q ⟨B, g, S, m, vs, I, A, rl, w⟩ => args_ok rl w fun ws ds m1 H1 I1 A1 r1 hv w1 => by
  refine ⟨B.F, I1, A1, m1, ds, r1.base, hv, ?_⟩
  cases ef : f ds m1 with
  | bad => rw [ef] at w1; exact w1.elim
  | ok d m2 => rw [ef] at w1; exact fun v H' I' A' b u hd => w1 v H' I' A' ((r1.step b u).push hd)
  | ex c fs m2 => rw [ef] at w1; exact fun H' I' A' dx us b u h1 h2 h3 => w1 σ H' I' A' dx us (r1.step b u) h1 h2 h3
end
end FM
namespace NK
open PySem PySem.Spec PyProof.Rows L2
/-! ### rules of the machine by name -/
theorem list_addAt (l : Addr) (items : Array Value) (n : Nat) (b : Addr) (items2 : Array Value) (n2 : Nat) (dd dd2 : Option Addr) (sl sl2 : Array (Option Value)) (hc0 : items.size + items2.size ≤ sizeLine) :
    Meets (Builtin.«list.__add__» ⟨[.ref l, .ref b], []⟩) (fun _ R s => s.heap.get? l = some { cls := .type "list", dict := dd, data := .seq items n, slots := sl } ∧ s.heap.get? b = some { cls := .type "list", dict := dd2, data := .seq items2 n2, slots := sl2 } ∧ R (.ok (.ret (Value.ref s.heap.objs.size))) { s with heap := s.heap.push { cls := Value.type "list", data := Data.seq (items ++ items2) }, toks := s.toks }) :=
  .of_wp fun prog w A R s h => by obtain ⟨hp, g, d, tk, os⟩ := s; obtain ⟨hl, hb, h⟩ := h; have f1 := AutoSeq1.idx_int; have f2 := AutoSeq1.sub_tuple_tuple; have f3 := AutoSeq1.sub_list_list; have f4 := AutoSeq1.sub_tuple_list; have f5 := AutoSeq1.sub_list_tuple; wp_walk using wpAny_loadPart' hl, wpAny_loadPart' hb; exact ⟨_, rfl, h⟩
/-- list + list, whatever stands there -/
def rCatL (K : PySem.W.Frag) : R2 := fun x y H Q => ∃ l b xs zs, x = .ref l ∧ y = .ref b ∧ SqL K H l xs ∧ SqL K H b zs ∧ xs.length + zs.length ≤ sizeLine ∧ ∀ p, H p = none → Q (.ref p) (upd H p (.lst (xs ++ zs)))
theorem op_catL {X : Cx} : OpR X (binaryOp .Add) (rCatL X.K) := by
  intro pins s σ H x y v u Q I rx ry h
  obtain ⟨l, b, xs, zs, rfl, rfl, hH, hB, hz, q⟩ := h
  cases rx
  cases ry
  obtain ⟨its, r, ⟨⟨cls, dd, data, sl⟩, n, ho, hc, hdn, hd⟩, hlen⟩ := I.list hH
  obtain ⟨its2, r2, ⟨⟨cls2, dd2, data2, sl2⟩, n2, ho2, hc2, hdn2, hd2⟩, hlen2⟩ := I.list hB
  simp only at hc hd hc2 hd2
  subst hc hd hc2 hd2
  have e1 := r.length
  have e2 := r2.length
  refine concat_meets ⟨_, ho, rfl⟩ ⟨_, ho2, rfl⟩ PySem.noFill_list_add PySem.seq_list_add PySem.F.slot_list_add PySem.F.entry_list_add (PySem.F.args_list_add_2 _ _) (list_addAt l its.toArray n b its2.toArray n2 dd dd2 sl sl2 (by rw [List.size_toArray, List.size_toArray]; omega)) ⟨ho, ho2, ?_⟩
  have ea : its.toArray ++ its2.toArray = (its ++ its2).toArray := by simp
  rw [ea]
  exact ⟨.ref _, _, I.lnew (t' := s.toks) (r.append r2) (by rw [List.length_append]; omega), rfl, q _ I.fresh⟩
end NK
namespace NK
open PySem PySem.Spec PyProof.Rows L2
section
variable {X : Cx}
def rCatStr : R2 := fun x y H Q => ∃ i j, x = V.str i ∧ y = V.str j ∧ i.length + j.length ≤ sizeLine ∧ Q (V.str (i ++ j)) H
theorem op_catStr : OpR X (binaryOp .Add) rCatStr := op_add_str
def rLenSeq (K : PySem.W.Frag) : List V → Hp → VK → Prop := fun xs H Q => ∃ p ys, xs = [.ref p] ∧ (SqL K H p ys ∨ SqT K H p ys) ∧ Q (.int ys.length) H
theorem call_lenSeq : CallR X (.builtin "len") (rLenSeq X.K) := call_len_seq
def rAbs : List V → Hp → VK → Prop := fun xs H Q => ∃ i, xs = [.int i] ∧ Q (.int (if i < 0 then -i else i)) H
theorem call_absI : CallR X (.builtin "abs") rAbs := call_abs
def rInt1 : List V → Hp → VK → Prop := fun xs H Q => (∃ i, xs = [.int i] ∧ Q (.int i) H) ∨ ∃ k, xs = [.bl k] ∧ Q (.int (if k then 1 else 0)) H
theorem call_intI : CallR X (.type "int") rInt1 := call_int1
/-- a module's name, by its value -/
theorem pe_gv {x : Str} {v : V} {pos : Pos} (hg : Gl X x) (h : ∃ u, X.mg x = some u ∧ RelV v u) (hd : (x == ("__debug__" : Str)) = false := by decide) : PE X (.Name x pos) (tC v) := by
  obtain ⟨u, hm, r⟩ := h
  exact pe_glob hg hm r hd
end
end NK
namespace NK
open PySem PySem.Spec PyProof.Rows L2
end NK
namespace NK
open PySem PySem.Spec PyProof.Rows L2
/-! ### rules for raise and try -/
section
variable {X : Cx}
structure CalX (P : Program) (w : World) (K : PySem.W.Frag) (mg : Str → Option Value) (base : Heap) (k : Nat) (x : Str) (ps : List Str) (sp : Sp) : Prop where
  ex : ∃ (f : Addr) (fd : FuncData), FnOk P w K mg base (L2N.CX P w) k f fd ps sp ∧ mg x = some (.ref f) ∧ PySem.W.keepIn K (.ref f) = true ∧ Binds K fd ps []
/-- a raising def called in a try -/
theorem pe_fnS {x : Str} {p pos : Pos} {e : Expr} {es : List Expr} {t : TA} {k : Nat} {ps : List Str} {sp : Sp} {W : WX} (c : CalX X.prog X.w X.K X.mg X.base k x ps sp) (hr : Room k X.A) (hg : Gl X x) (tk : L2N.Takes X W) (ha : PA X (e :: es) t) (hd : (x == ("__debug__" : Str)) = false := by decide)
    (he : starEach (e :: es) X.env = (false, eval e X.env) :: starEach es X.env := by rfl) (hpl : (backTo pos (starEach es X.env)).any (·.1) = false := by rfl) : PE X (.Call (.Name x p) (e :: es) [] pos) (tCallS sp (WE W) t) := by
  obtain ⟨f, fd, F, hm, hk, hb⟩ := c.ex
  exact pe_callS F hr hg hm hk hb (fun σ => L2N.passAt tk σ) ha hd he hpl
end
end NK
namespace NK
open PySem PySem.Spec PyProof.Rows L2
abbrev tInit1 (K : PySem.W.Frag) (f1 : Str) : TS := tOst K f1 (tVar 0) (tVar 1)
abbrev tInit2 (K : PySem.W.Frag) (f1 f2 : Str) : TS := tSeq (tOst K f1 (tVar 0) (tVar 1)) (tOst K f2 (tVar 0) (tVar 2))
abbrev tInit3 (K : PySem.W.Frag) (f1 f2 f3 : Str) : TS := tSeq (tOst K f1 (tVar 0) (tVar 1)) (tSeq (tOst K f2 (tVar 0) (tVar 2)) (tOst K f3 (tVar 0) (tVar 3)))
theorem init1_go {K : PySem.W.Frag} {f1 : Str} {vs : List V} {H : Hp} {Q : VK} {E : XK} {N : List Str} (hN : N.length = 2) (h : spInit K [f1] vs H Q E) : tInit1 K f1 { nx := fun _ H' => Q .non H', rt := Q } (L2.start N vs) H := by
  obtain ⟨a, C, ws, rfl, hl, T, hf, ha, q⟩ := h
  match ws, hl with
  | [x], _ =>
    refine ⟨x, rfl, .ref a, rfl, a, C, rfl, T, hf f1 (by simp), .inl ⟨ha, fun dx hdx hne => ?_⟩⟩
    exact q dx _ hdx hne upd_same (by rw [upd_ne hne, upd_same]; rfl) fun b h1 h2 => by rw [upd_ne h1, upd_ne h2]
theorem init2_go {K : PySem.W.Frag} {f1 f2 : Str} {vs : List V} {H : Hp} {Q : VK} {E : XK} {N : List Str} (hN : N.length = 3) (h : spInit K [f1, f2] vs H Q E) : tInit2 K f1 f2 { nx := fun _ H' => Q .non H', rt := Q } (L2.start N vs) H := by
  obtain ⟨a, C, ws, rfl, hl, T, hf, ha, q⟩ := h
  match ws, hl with
  | [x, y], _ =>
    refine ⟨x, rfl, .ref a, rfl, a, C, rfl, T, hf f1 (by simp), .inl ⟨ha, fun dx hdx hne => ?_⟩⟩
    refine ⟨y, rfl, .ref a, rfl, a, C, rfl, T, hf f2 (by simp), .inr ⟨dx, _, upd_same, by rw [upd_ne hne, upd_same], by simp, ?_⟩⟩
    exact q dx _ hdx hne (by rw [upd_ne hne.symm, upd_same]) upd_same fun b h1 h2 => by rw [upd_ne h2, upd_ne h1, upd_ne h2]
theorem init3_go {K : PySem.W.Frag} {f1 f2 f3 : Str} {vs : List V} {H : Hp} {Q : VK} {E : XK} {N : List Str} (hN : N.length = 4) (h : spInit K [f1, f2, f3] vs H Q E) : tInit3 K f1 f2 f3 { nx := fun _ H' => Q .non H', rt := Q } (L2.start N vs) H := by
  obtain ⟨a, C, ws, rfl, hl, T, hf, ha, q⟩ := h
  match ws, hl with
  | [x, y, z], _ =>
    refine ⟨x, rfl, .ref a, rfl, a, C, rfl, T, hf f1 (by simp), .inl ⟨ha, fun dx hdx hne => ?_⟩⟩
    refine ⟨y, rfl, .ref a, rfl, a, C, rfl, T, hf f2 (by simp), .inr ⟨dx, _, upd_same, by rw [upd_ne hne, upd_same], by simp, ?_⟩⟩
    refine ⟨z, rfl, .ref a, rfl, a, C, rfl, T, hf f3 (by simp), .inr ⟨dx, _, by rw [upd_ne hne.symm, upd_same], upd_same, by simp, ?_⟩⟩
    exact q dx _ hdx hne (by rw [upd_ne hne.symm, upd_ne hne.symm, upd_same]) upd_same fun b h1 h2 => by rw [upd_ne h2, upd_ne h2, upd_ne h1, upd_ne h2]
theorem init_len {K : PySem.W.Frag} {fs : List Str} : ∀ vs H Q E, spInit K fs vs H Q E → vs.length = fs.length + 1 := fun vs H Q E ⟨a, C, ws, e, hl, _⟩ => by rw [e, List.length_cons, hl]
end NK
namespace NK
open PySem PySem.Spec PyProof.Rows L2
/-! ### instances of own classes -/
section
variable {X : Cx} {C : Addr} {x : Str} {p pos : Pos}
/-- where the callee's exceptions are told never to come -/
theorem pass_never {X : Cx} : Passes (L2N.CX X.prog X.w) X E0 := fun pins σ H s e s' I h => by
  obtain ⟨_, _, _, _, _, _, _, _, _, _, _, _, q⟩ := h
  exact (show False from q).elim
end
end NK
namespace NK
open PySem PySem.Spec PyProof.Rows L2
end NK
namespace FM
open PySem PySem.Spec PyProof.Rows L2
/-! ### operations -/
def oII (f : Int → Int → Int) : O2 := fun _ x y => match x, y with
  | .d (.int i), .d (.int j) => some (.d (.int (f i j)))
  | _, _ => none
def oIc (c : Int → Int → Bool) (f : Int → Int → Int) : O2 := fun _ x y => match x, y with
  | .d (.int i), .d (.int j) => if c i j then some (.d (.int (f i j))) else none
  | _, _ => none
def oIB (f : Int → Int → Bool) : O2 := fun _ x y => match x, y with
  | .d (.int i), .d (.int j) => some (.d (.bl (f i j)))
  | _, _ => none
instance (i j : Int) : Decidable (CMul i j) := by unfold CMul; infer_instance
instance (i j : Int) : Decidable (CDiv i j) := by unfold CDiv; infer_instance
instance (i j : Int) : Decidable (CPow i j) := by unfold CPow; infer_instance
abbrev oAdd : O2 := oII fun i j => i + j
abbrev oSub : O2 := oII fun i j => i - j
abbrev oMul : O2 := oIc (fun i j => decide (CMul i j)) fun i j => i * j
abbrev oDiv : O2 := oIc (fun i j => decide (CDiv i j)) fun i j => i / j
abbrev oMod : O2 := oIc (fun _ j => decide (0 < j)) fun i j => i % j
abbrev oPow : O2 := oIc (fun i j => decide (CPow i j)) fun i j => i ^ j.toNat
section
variable {T : Tab}
/-- an operation that makes nothing -/
theorem simO_pure {r : R2} {f : O2} (h : ∀ (F : Frm) (I H : Hp) (A : List Addr) (m : Cells) (x y : V) (d1 d2 d : Vl), Base T F I H A m → VR T I A x d1 → VR T I A y d2 → f m d1 d2 = some d → ∀ Q : VK, (∀ v, VR T I A v d → Q v H) → r x y H Q) : SimO T r f :=
  fun F I H A m x y d1 d2 d b hx hy e Q q => h F I H A m x y d1 d2 d b hx hy e Q fun v hv => q v H I b (Same.refl I) hv
theorem sim_ii {f : Int → Int → Int} : SimO T (rI0 fun i j => .int (f i j)) (oII f) := simO_pure fun F I H A m x y d1 d2 d b hx hy e Q q => by
  unfold oII at e
  split at e
  · cases e
    cases hx.dat; cases hy.dat
    exact ⟨_, _, rfl, rfl, q _ (.d (.int _))⟩
  · cases e
theorem sim_ic {c : Int → Int → Bool} {cp : Int → Int → Prop} {f : Int → Int → Int} (hc : ∀ i j, c i j = true → cp i j) : SimO T (rI cp fun i j => .int (f i j)) (oIc c f) := simO_pure fun F I H A m x y d1 d2 d b hx hy e Q q => by
  unfold oIc at e
  split at e
  · rename_i i j
    by_cases h : c i j = true
    · rw [if_pos h] at e
      cases e
      cases hx.dat; cases hy.dat
      exact ⟨_, _, rfl, rfl, hc _ _ h, q _ (.d (.int _))⟩
    · rw [if_neg h] at e; cases e
  · cases e
theorem sim_mul : SimO T (rI CMul fun i j => .int (i * j)) oMul := sim_ic fun i j h => of_decide_eq_true h
theorem sim_div : SimO T (rI CDiv fun i j => .int (i / j)) oDiv := sim_ic fun i j h => of_decide_eq_true h
theorem sim_mod : SimO T (rI (fun _ j => 0 < j) fun i j => .int (i % j)) oMod := sim_ic fun i j h => of_decide_eq_true h
theorem sim_pow : SimO T (rI CPow fun i j => .int (i ^ j.toNat)) oPow := sim_ic fun i j h => of_decide_eq_true h
theorem sim_ib {f : Int → Int → Bool} : SimO T (rI0 fun i j => .bl (f i j)) (oIB f) := simO_pure fun F I H A m x y d1 d2 d b hx hy e Q q => by
  unfold oIB at e
  split at e
  · cases e
    cases hx.dat; cases hy.dat
    exact ⟨_, _, rfl, rfl, q _ (.d (.bl _))⟩
  · cases e
/-- == of ints, texts, bools, None, by the same kind -/
def eqF : Dt → Dt → Option Bool
  | .int i, .int j => some (decide (i = j))
  | .str i, .str j => some (decide (i = j))
  | .bl i, .bl j => some (decide (i = j))
  | _, _ => none
def oEq : O2 := fun _ x y => match x, y with
  | .d x, .d y => (eqF x y).map fun b => .d (.bl b)
  | _, _ => none
theorem eqF_ok {I : Hp} {x y : V} {a b : Dt} {k : Bool} (hx : DR T I x a) (hy : DR T I y b) (e : eqF a b = some k) : scal x y = true ∧ decide (x = y) = k := by
  unfold eqF at e
  split at e
  · cases e; cases hx; cases hy
    rename_i i j
    refine ⟨rfl, ?_⟩
    by_cases h : i = j
    · subst h; simp
    · rw [decide_eq_false h, decide_eq_false (fun e => h (V.int.inj e))]
  · cases e; cases hx; cases hy
    rename_i i j
    refine ⟨rfl, ?_⟩
    by_cases h : i = j
    · subst h; simp
    · rw [decide_eq_false h, decide_eq_false (fun e => h (V.str.inj e))]
  · cases e; cases hx; cases hy
    rename_i i j
    exact ⟨rfl, by cases i <;> cases j <;> rfl⟩
  · cases e
theorem sim_eq : SimO T rEq oEq := simO_pure fun F I H A m x y d1 d2 d b hx hy e Q q => by
  cases d1 with
  | ref k => cases e
  | lam z => cases e
  | d d1 =>
    cases d2 with
    | ref k => cases e
    | lam z => cases e
    | d d2 =>
      cases ef : eqF d1 d2 with
      | none => simp [oEq, ef] at e
      | some k =>
        simp [oEq, ef] at e
        subst e
        obtain ⟨h1, h2⟩ := eqF_ok hx.dat hy.dat ef
        exact ⟨h1, by rw [h2]; exact q _ (.d (.bl _))⟩
/-! ### texts -/
def oCatS : O2 := fun _ x y => match x, y with
  | .d (.str a), .d (.str b) => if szOk (a.length + b.length) then some (.d (.str (a ++ b))) else none
  | _, _ => none
theorem sim_catS : SimO T NK.rCatStr oCatS := simO_pure fun F I H A m x y d1 d2 d b hx hy e Q q => by
  unfold oCatS at e
  split at e
  · rename_i a b
    by_cases h : szOk (a.length + b.length) = true
    · rw [if_pos h] at e
      cases e
      cases hx.dat; cases hy.dat
      exact ⟨_, _, rfl, rfl, szOk_line h, q _ (.d (.str _))⟩
    · rw [if_neg h] at e; cases e
  · cases e
def oIxS : O2 := fun _ x y => match x, y with
  | .d (.str z), .d (.int i) => if szOk z.length then (atI z.cps.toList i).map fun c => .d (.str ⟨#[c]⟩) else none
  | _, _ => none
theorem sim_ixS : SimO T rIxS oIxS := simO_pure fun F I H A m x y d1 d2 d b hx hy e Q q => by
  unfold oIxS at e
  split at e
  · rename_i z i
    by_cases h : szOk z.length = true
    · rw [if_pos h] at e
      cases hx.dat; cases hy.dat
      cases ea : atI z.cps.toList i with
      | none => rw [ea] at e; cases e
      | some c =>
        rw [ea] at e
        cases e
        exact ⟨z, i, c, rfl, rfl, szOk_line h, ea, q _ (.d (.str _))⟩
    · rw [if_neg h] at e; cases e
  · cases e
/-! ### lists and tuples, read -/
/-- the items of a list: data, or a cell -/
def lstOf (m : Cells) : Vl → Option (List Dt)
  | .d (.lst ds) => some ds
  | .d (.scr ds) => some ds
  | .ref k => match m[k]? with
    | some (some (.lst ds)) => some ds
    | _ => none
  | _ => none
def tupOf : Vl → Option (List Dt)
  | .d (.tup ds) => some ds
  | _ => none
theorem lstOf_ok {F : Frm} {I H : Hp} {A : List Addr} {m : Cells} {x : V} {v : Vl} {ds : List Dt} (b : Base T F I H A m) (hx : VR T I A x v) (e : lstOf m v = some ds) : ∃ a vs, x = .ref a ∧ SqL T.K H a vs ∧ DRs T I vs ds := by
  cases v with
  | ref k =>
    obtain ⟨a, rfl, ha⟩ := hx.cel
    simp only [lstOf] at e
    split at e
    · rename_i ds' hm
      cases e
      obtain ⟨vs, h1, h2⟩ := b.ok _ _ a hm ha
      exact ⟨a, vs, rfl, .inl (.inl h1), h2⟩
    · cases e
  | lam z => cases e
  | d d =>
    cases d with
    | lst ds' =>
      cases e
      cases hx.dat with
      | lst h1 h2 => exact ⟨_, _, rfl, .inl (.inl (b.sub _ _ h1)), h2⟩
    | scr ds' =>
      cases e
      cases hx.dat with
      | scr h1 h2 => exact ⟨_, _, rfl, same_l b.sub h1, h2⟩
    | _ => cases e
theorem tupOf_ok {F : Frm} {I H : Hp} {A : List Addr} {m : Cells} {x : V} {v : Vl} {ds : List Dt} (b : Base T F I H A m) (hx : VR T I A x v) (e : tupOf v = some ds) : ∃ a vs, x = .ref a ∧ SqT T.K H a vs ∧ DRs T I vs ds := by
  cases v with
  | ref k => cases e
  | lam z => cases e
  | d d =>
    cases d with
    | tup ds' =>
      cases e
      cases hx.dat with
      | tup h1 h2 => exact ⟨_, _, rfl, same_t b.sub h1, h2⟩
    | _ => cases e
theorem atI_dr {I : Hp} {vs : List V} {ds : List Dt} {i : Int} {d : Dt} (h : DRs T I vs ds) (e : atI ds i = some d) : ∃ v, atI vs i = some v ∧ DR T I v d := by
  unfold atI at e ⊢
  rw [h.len]
  cases q : ixN ds.length i with
  | none => rw [q] at e; cases e
  | some j =>
    rw [q, Option.bind_some] at e
    rw [Option.bind_some]
    exact h.get e
def oIxL : O2 := fun m x y => match lstOf m x, y with
  | some ds, .d (.int i) => (atI ds i).map Vl.d
  | _, _ => none
theorem sim_ixL : SimO T (rIxL T.K) oIxL := simO_pure fun F I H A m x y d1 d2 d b hx hy e Q q => by
  unfold oIxL at e
  split at e
  · rename_i ds i h
    obtain ⟨a, vs, rfl, h1, h2⟩ := lstOf_ok b hx h
    cases hy.dat
    cases ea : atI ds i with
    | none => rw [ea] at e; cases e
    | some c =>
      rw [ea] at e
      cases e
      obtain ⟨v, hv, hd⟩ := atI_dr h2 ea
      exact ⟨a, vs, i, v, rfl, rfl, h1, hv, q _ (.d hd)⟩
  · cases e
def oCatL : O2 := fun m x y => match lstOf m x, lstOf m y with
  | some a, some b => if szOk (a.length + b.length) then some (.d (.lst (a ++ b))) else none
  | _, _ => none
theorem sim_catL : SimO T (NK.rCatL T.K) oCatL := fun F I H A m x y d1 d2 d b hx hy e Q q => by
  unfold oCatL at e
  split at e
  · rename_i as bs h1 h2
    by_cases h : szOk (as.length + bs.length) = true
    · rw [if_pos h] at e
      cases e
      obtain ⟨p, vs, rfl, p1, p2⟩ := lstOf_ok b hx h1
      obtain ⟨p', vs', rfl, p1', p2'⟩ := lstOf_ok b hy h2
      refine ⟨p, p', vs, vs', rfl, rfl, p1, p1', by rw [p2.len, p2'.len]; exact szOk_line h, fun l hl => ?_⟩
      obtain ⟨b', e⟩ := b.new (o := .lst (vs ++ vs')) hl
      exact q _ _ _ b' e.i (.d (.lst upd_same ((p2.app p2').mono e.i)))
    · rw [if_neg h] at e; cases e
  · cases e
def flatD : Dt → Option V
  | .non => some .non | .bl b => some (.bl b) | .int i => some (.int i) | .str x => some (.str x)
  | _ => none
theorem flatD_ok {I : Hp} {v x : V} {d : Dt} (h : flatD d = some x) (r : DR T I v d) : v = x ∧ flatV v = true := by
  cases r <;> simp [flatD] at h <;> subst h <;> exact ⟨rfl, rfl⟩
def flatsD : List Dt → Option (List V)
  | [] => some []
  | d :: r => match flatD d, flatsD r with
    | some v, some vs => some (v :: vs)
    | _, _ => none
theorem flatsD_ok {I : Hp} : ∀ {ds : List Dt} {vs xs : List V}, flatsD ds = some xs → DRs T I vs ds → vs = xs ∧ vs.all flatV = true
  | [], _, _, h, r => by cases h; cases r; exact ⟨rfl, rfl⟩
  | d :: ds, _, _, h, r => by
    cases r with
    | cons a t =>
      unfold flatsD at h
      split at h
      · rename_i v vs h1 h2
        cases h
        obtain ⟨e1, e2⟩ := flatD_ok h1 a
        obtain ⟨e3, e4⟩ := flatsD_ok h2 t
        subst e1 e3
        exact ⟨rfl, by rw [List.all_cons, e2, e4]; rfl⟩
      · cases h
/-- x in a list or tuple of flat things -/
def oIn (neg : Bool) : O2 := fun m x y => match x, (lstOf m y).or (tupOf y) with
  | .d x, some ys => match flatD x, flatsD ys with
    | some v, some vs => some (.d (.bl (if neg then !inV v vs else inV v vs)))
    | _, _ => none
  | _, _ => none
theorem sim_in {neg : Bool} : SimO T (rIn T.K neg) (oIn neg) := simO_pure fun F I H A m x y d1 d2 d b hx hy e Q q => by
  unfold oIn at e
  split at e
  · rename_i x' ys h
    split at e
    · rename_i v vs h1 h2
      cases e
      obtain ⟨e1, f1⟩ := flatD_ok h1 hx.dat
      subst e1
      cases hl : lstOf m d2 with
      | some ds =>
        rw [hl] at h
        cases h
        obtain ⟨p, us, rfl, p1, p2⟩ := lstOf_ok b hy hl
        obtain ⟨e2, f2⟩ := flatsD_ok h2 p2
        subst e2
        exact ⟨p, us, rfl, .inl p1, f1, f2, q _ (.d (.bl _))⟩
      | none =>
        rw [hl] at h
        obtain ⟨p, us, rfl, p1, p2⟩ := tupOf_ok b hy h
        obtain ⟨e2, f2⟩ := flatsD_ok h2 p2
        subst e2
        exact ⟨p, us, rfl, .inr p1, f1, f2, q _ (.d (.bl _))⟩
    · cases e
  · cases e
/-! ### built-ins -/
theorem simN_pure {r : List V → Hp → VK → Prop} {f : ON} (h : ∀ (F : Frm) (I H : Hp) (A : List Addr) (m : Cells) (ws : List V) (ds : List Vl) (d : Vl), Base T F I H A m → VRs T I A ws ds → f m ds = some d → ∀ Q : VK, (∀ v, VR T I A v d → Q v H) → r ws H Q) : SimN T r f :=
  fun F I H A m ws ds d b hv e Q q => h F I H A m ws ds d b hv e Q fun v hv => q v H I b (Same.refl I) hv
theorem VRs.one_inv {I : Hp} {A : List Addr} {ws : List V} {d : Vl} (h : VRs T I A ws [d]) : ∃ w, ws = [w] ∧ VR T I A w d := by
  cases h with | cons a t => cases t; exact ⟨_, rfl, a⟩
theorem VRs.two_inv {I : Hp} {A : List Addr} {ws : List V} {d e : Vl} (h : VRs T I A ws [d, e]) : ∃ w x, ws = [w, x] ∧ VR T I A w d ∧ VR T I A x e := by
  cases h with | cons a t => cases t with | cons b t => cases t; exact ⟨_, _, rfl, a, b⟩
def nLen : ON := fun m xs => match xs with
  | [x] => ((lstOf m x).or (tupOf x)).map fun ds => .d (.int (ds.length : Nat))
  | _ => none
theorem sim_len : SimN T (NK.rLenSeq T.K) nLen := simN_pure fun F I H A m ws ds d b hv e Q q => by
  unfold nLen at e
  split at e
  · rename_i x
    obtain ⟨w, rfl, hw⟩ := hv.one_inv
    cases hl : lstOf m x with
    | some ds =>
      rw [hl] at e; cases e
      obtain ⟨p, us, rfl, p1, p2⟩ := lstOf_ok b hw hl
      exact ⟨p, us, rfl, .inl p1, by rw [p2.len]; exact q _ (.d (.int _))⟩
    | none =>
      rw [hl] at e
      cases ht : tupOf x with
      | none => rw [ht] at e; cases e
      | some ds =>
        rw [ht] at e; cases e
        obtain ⟨p, us, rfl, p1, p2⟩ := tupOf_ok b hw ht
        exact ⟨p, us, rfl, .inr p1, by rw [p2.len]; exact q _ (.d (.int _))⟩
  · cases e
def nAbs : ON := fun _ xs => match xs with
  | [.d (.int i)] => some (.d (.int (if i < 0 then -i else i)))
  | _ => none
theorem sim_abs : SimN T NK.rAbs nAbs := simN_pure fun F I H A m ws ds d b hv e Q q => by
  unfold nAbs at e
  split at e
  · cases e
    obtain ⟨w, rfl, hw⟩ := hv.one_inv
    cases hw.dat
    exact ⟨_, rfl, q _ (.d (.int _))⟩
  · cases e
def nInt : ON := fun _ xs => match xs with
  | [.d (.int i)] => some (.d (.int i))
  | [.d (.bl b)] => some (.d (.int (if b then 1 else 0)))
  | _ => none
theorem sim_int : SimN T NK.rInt1 nInt := simN_pure fun F I H A m ws ds d b hv e Q q => by
  unfold nInt at e
  split at e
  · cases e
    obtain ⟨w, rfl, hw⟩ := hv.one_inv
    cases hw.dat
    exact .inl ⟨_, rfl, q _ (.d (.int _))⟩
  · cases e
    obtain ⟨w, rfl, hw⟩ := hv.one_inv
    cases hw.dat
    exact .inr ⟨_, rfl, q _ (.d (.int _))⟩
  · cases e
end
end FM
namespace FM
open PySem PySem.Spec PyProof.Rows L2
/-! ### what is walked, by arguments -/
def mItA (ma : MA) (f : List Vl → Option (List Dt)) : MI := fun g m => (ma g m).bind fun ds m1 => ofO m1 (f ds)
section
variable {X : Cx} {C : Fc} {e : Expr} {ma : MA} {me mb mc : ME}
theorem ita_ok {f : List Vl → Option (List Dt)} {Q' : List V → Hp → Prop} {σ : L2.St} {H : Hp} {R : It → Hp → Prop} (h : FI C (mItA ma f) σ H R)
    (hq : ∀ B g S vs ws ds xs m1 H1 I1 A1, Rel C.T C.x B g S m1 σ vs H1 I1 A1 → VRs C.T I1 A1 ws ds → f ds = some xs → (∀ J H' I' A', Rel C.T C.x B g S m1 σ vs H' I' A' → (∀ F, ItD C.T C.x ⟨F, I', A'⟩ J xs) → R J H') → Q' ws H1) : FA C ma σ H Q' := by
  obtain ⟨B, g, S, m, vs, I, A, r, w⟩ := h
  refine ⟨B, g, S, m, vs, I, A, r, ?_⟩
  unfold mItA at w
  cases ea : ma g m with
  | bad => rw [ea] at w; exact w.elim
  | ex c fs m' => rw [ea] at w; exact w
  | ok ds m1 =>
    rw [ea] at w
    intro ws H1 I1 A1 hl r1
    obtain ⟨q1, q2⟩ := r1.stk.split hl
    have w1 : WantI C B g S σ vs R (ofO m1 (f ds)) := w
    cases ef : f ds with
    | none => rw [ef] at w1; exact w1.elim
    | some xs => rw [ef] at w1; exact hq B g S vs ws ds xs m1 H1 I1 A1 { r1 with stk := q2 } q1 ef w1
def rangeD (lo : Int) (n : Nat) : List Dt := (List.range n).map fun i => .int (lo + (i : Nat))
theorem rangeD_len (lo : Int) (n : Nat) : (rangeD lo n).length = n := by unfold rangeD; rw [List.length_map, List.length_range]
theorem rangeD_get {lo : Int} {n i : Nat} {d : Dt} (h : (rangeD lo n)[i]? = some d) : i < n ∧ d = .int (lo + (i : Nat)) := by
  unfold rangeD at h
  rw [List.getElem?_map] at h
  cases q : (List.range n)[i]? with
  | none => rw [q] at h; cases h
  | some k =>
    rw [q] at h
    obtain ⟨hl, e⟩ := List.getElem?_eq_some_iff.mp q
    rw [List.length_range] at hl
    rw [List.getElem_range] at e
    subst e
    exact ⟨hl, (Option.some.inj h).symm⟩
theorem itr_itd {T : Tab} {x : Option Xc} {B : Bs} {lo : Int} {n : Nat} : ItD T x B (Itr lo n) (rangeD lo n) where
  go := fun i g S m σ vs H I A hi _ => by rw [rangeD_len] at hi; exact hi
  yl := fun i g S m σ vs H I A v H' d hx r hy => by
    obtain ⟨e1, e2⟩ := hy
    subst e1 e2
    rw [(rangeD_get hx).2]
    exact ⟨I, r.push (.d (.int _))⟩
  st := fun i g S m σ vs H I A hi _ => by rw [rangeD_len] at hi; exact hi
def okR (i : Int) : Bool := decide (-(2 ^ 62) ≤ i ∧ i < 2 ^ 62)
def isRng1 : List Vl → Option (List Dt)
  | [.d (.int n)] => if okR n then some (rangeD 0 n.toNat) else none
  | _ => none
theorem fi_rng1 {tg it : Expr} (h : PI X tg it (iRng1 (FA C ma))) : PI X tg it (FI C (mItA ma isRng1)) := pi_of h fun σ H R q => ita_ok q fun B g S vs ws ds xs m1 H1 I1 A1 r hv ef w => by
  unfold isRng1 at ef
  split at ef
  · rename_i n
    by_cases h : okR n = true
    · rw [if_pos h] at ef
      cases ef
      obtain ⟨v, rfl, hw⟩ := hv.one_inv
      cases hw.dat
      have h2 := of_decide_eq_true h
      exact ⟨n, rfl, h2.1, h2.2, w _ H1 I1 A1 r fun F => itr_itd⟩
    · rw [if_neg h] at ef; cases ef
  · cases ef
def enumD (ds : List Dt) : List Dt := (ds.zipIdx).map fun p => .tup [.int (p.2 : Nat), p.1]
theorem isLst_ok {T : Tab} {I : Hp} {A : List Addr} {v : V} {x : Vl} {ds : List Dt} (h : VR T I A v x) (e : isLst x = some ds) : ∃ a vs, v = .ref a ∧ SqL T.K I a vs ∧ DRs T I vs ds := by
  cases x with
  | ref k => cases e
  | lam z => cases e
  | d d =>
    cases d with
    | lst ds' =>
      cases e
      cases h.dat with
      | lst h1 h2 => exact ⟨_, _, rfl, .inl (.inl h1), h2⟩
    | scr ds' =>
      cases e
      cases h.dat with
      | scr h1 h2 => exact ⟨_, _, rfl, h1, h2⟩
    | _ => cases e
theorem isTup_ok {T : Tab} {I : Hp} {A : List Addr} {v : V} {x : Vl} {ds : List Dt} (h : VR T I A v x) (e : isTup x = some ds) : ∃ a vs, v = .ref a ∧ SqT T.K I a vs ∧ DRs T I vs ds := by
  cases x with
  | ref k => cases e
  | lam z => cases e
  | d d =>
    cases d with
    | tup ds' =>
      cases e
      cases h.dat with
      | tup h1 h2 => exact ⟨_, _, rfl, h1, h2⟩
    | _ => cases e
def zipD (xs ys : List Dt) : List Dt := (xs.zip ys).map fun p => .tup [p.1, p.2]
theorem zipD_len (xs ys : List Dt) : (zipD xs ys).length = min xs.length ys.length := by unfold zipD; rw [List.length_map, List.length_zip]
theorem zipD_get {xs ys : List Dt} {i : Nat} {d : Dt} (h : (zipD xs ys)[i]? = some d) : ∃ x y, xs[i]? = some x ∧ ys[i]? = some y ∧ d = .tup [x, y] := by
  unfold zipD at h
  rw [List.getElem?_map] at h
  cases q : (xs.zip ys)[i]? with
  | none => rw [q] at h; cases h
  | some p =>
    rw [q] at h
    obtain ⟨a, b⟩ := p
    have := List.getElem?_zip_eq_some.mp q
    exact ⟨a, b, this.1, this.2, (Option.some.inj h).symm⟩
def isZip : List Vl → Option (List Dt)
  | [x, y] => match isLst x, isLst y with
    | some a, some b => some (zipD a b)
    | _, _ => match isTup x, isTup y with
      | some a, some b => some (zipD a b)
      | _, _ => none
  | _ => none
theorem fi_zip {tg it : Expr} (h : PI X tg it (RZ.iZipA C.T.K (FA C ma))) : PI X tg it (FI C (mItA ma isZip)) := pi_of h fun σ H R q => ita_ok q fun B g S vs ws ds xs m1 H1 I1 A1 r hv ef w => by
  unfold isZip at ef
  split at ef
  · rename_i x y
    obtain ⟨v, u, rfl, hw, hu⟩ := hv.two_inv
    split at ef
    · rename_i as bs e1 e2
      cases ef
      obtain ⟨a, us, rfl, hl, hs⟩ := isLst_ok hw e1
      obtain ⟨b, us2, rfl, hl2, hs2⟩ := isLst_ok hu e2
      refine ⟨a, b, us, us2, rfl, .inl ⟨same_l r.sub hl, same_l r.sub hl2, w _ H1 I1 A1 r fun F => ⟨fun i g S m σ vs H I A hi r' => ?_, fun i g S m σ vs H I A x H' d hx r' hy => ?_, fun i g S m σ vs H I A hi r' => ⟨us, us2, same_l (r'.up.i.trans r'.sub) hl, same_l (r'.up.i.trans r'.sub) hl2, ?_⟩⟩⟩⟩
      · rw [zipD_len] at hi
        have h1 : i < us.length := by rw [hs.len]; omega
        have h2 : i < us2.length := by rw [hs2.len]; omega
        exact ⟨us, us2, _, _, same_l (r'.up.i.trans r'.sub) hl, same_l (r'.up.i.trans r'.sub) hl2, List.getElem?_eq_getElem h1, List.getElem?_eq_getElem h2⟩
      · obtain ⟨T, u, v, rfl, nT, rfl, f1, f2⟩ := hy
        obtain ⟨dx, dy, hdx, hdy, rfl⟩ := zipD_get hx
        obtain ⟨v1, hv1, hr1⟩ := hs.get hdx
        obtain ⟨v2, hv2, hr2⟩ := hs2.get hdy
        have e3 := f1 _ (same_l (r'.up.i.trans r'.sub) hl)
        have e4 := f2 _ (same_l (r'.up.i.trans r'.sub) hl2)
        rw [hv1] at e3
        rw [hv2] at e4
        cases e3
        cases e4
        obtain ⟨b', e⟩ := r'.base.new (o := .tup [u, v]) nT
        exact ⟨_, (r'.step b' e).push (.d (.tup (.inl (.inl upd_same)) (.cons (hr1.mono (r'.up.i.trans e.i)) (.cons (hr2.mono (r'.up.i.trans e.i)) .nil))))⟩
      · rw [zipD_len] at hi
        rw [hs.len, hs2.len]
        omega
    · split at ef
      · rename_i as bs e1 e2
        cases ef
        obtain ⟨a, us, rfl, hl, hs⟩ := isTup_ok hw e1
        obtain ⟨b, us2, rfl, hl2, hs2⟩ := isTup_ok hu e2
        refine ⟨a, b, us, us2, rfl, .inr ⟨same_t r.sub hl, same_t r.sub hl2, w _ H1 I1 A1 r fun F => ⟨fun i g S m σ vs H I A hi r' => ?_, fun i g S m σ vs H I A x H' d hx r' hy => ?_, fun i g S m σ vs H I A hi r' => ⟨us, us2, same_t (r'.up.i.trans r'.sub) hl, same_t (r'.up.i.trans r'.sub) hl2, ?_⟩⟩⟩⟩
        · rw [zipD_len] at hi
          have h1 : i < us.length := by rw [hs.len]; omega
          have h2 : i < us2.length := by rw [hs2.len]; omega
          exact ⟨us, us2, _, _, same_t (r'.up.i.trans r'.sub) hl, same_t (r'.up.i.trans r'.sub) hl2, List.getElem?_eq_getElem h1, List.getElem?_eq_getElem h2⟩
        · obtain ⟨T, u, v, rfl, nT, rfl, f1, f2⟩ := hy
          obtain ⟨dx, dy, hdx, hdy, rfl⟩ := zipD_get hx
          obtain ⟨v1, hv1, hr1⟩ := hs.get hdx
          obtain ⟨v2, hv2, hr2⟩ := hs2.get hdy
          have e3 := f1 _ (same_t (r'.up.i.trans r'.sub) hl)
          have e4 := f2 _ (same_t (r'.up.i.trans r'.sub) hl2)
          rw [hv1] at e3
          rw [hv2] at e4
          cases e3
          cases e4
          obtain ⟨b', e⟩ := r'.base.new (o := .tup [u, v]) nT
          exact ⟨_, (r'.step b' e).push (.d (.tup (.inl (.inl upd_same)) (.cons (hr1.mono (r'.up.i.trans e.i)) (.cons (hr2.mono (r'.up.i.trans e.i)) .nil))))⟩
        · rw [zipD_len] at hi
          rw [hs.len, hs2.len]
          omega
      · cases ef
  · cases ef
/-! ### slices -/
abbrev MO := Gam → Cells → Rs (Option Int)
def mNoP : MO := fun _ m => .ok none m
def mPart (me : ME) : MO := fun g m => (me g m).bind fun v m1 => match v with
  | .d (.int i) => .ok (some i) m1
  | _ => .bad
def cutL {α : Type} (xs : List α) (lo hi : Option Int) : List α := (xs.drop (HT.sIx xs.length 0 lo)).take (HT.sIx xs.length xs.length hi - HT.sIx xs.length 0 lo)
abbrev OS := Cells → Vl → Option Int → Option Int → Option Vl
def mSl (f : OS) (me : ME) (ml mh : MO) : ME := fun g m => (me g m).bind fun x m1 => (ml g m1).bind fun lo m2 => (mh g m2).bind fun hi m3 => ofO m3 (f m3 x lo hi)
/-! ### is None; chains; truth -/
def mChain (f f' : O2) (ma mb mc : ME) : ME := fun g m => (ma g m).bind fun x m1 => (mb g m1).bind fun y m2 => match f m2 x y with
  | some (.d (.bl true)) => (mc g m2).bind fun z m3 => ofO m3 (f' m3 y z)
  | some (.d (.bl false)) => .ok (.d (.bl false)) m2
  | _ => .bad
/-- truth of a value -/
def truD : Dt → Option Bool
  | .non => some false
  | .bl b => some b
  | .int i => some (i != 0)
  | .str z => if szOk z.length then some ((z.length : Int) != 0) else none
  | .lst ds => some (!ds.isEmpty)
  | .scr ds => some (!ds.isEmpty)
  | .tup ds => some (!ds.isEmpty)
  | .dct ks _ => some (!ks.isEmpty)
  | _ => none
def truV (m : Cells) : Vl → Option Bool
  | .d d => truD d
  | .ref k => match m[k]? with
    | some (some (.lst ds)) => some (!ds.isEmpty)
    | some (some (.dct ks _)) => some (!ks.isEmpty)
    | _ => none
  | .lam _ => none
def mTru (me : ME) : MT := fun g m => (me g m).bind fun x m1 => ofO m1 (truV m1 x)
/-! ### methods of list cells -/
/-- a method of a list cell: the value told, the list behind it -/
abbrev OM := List Dt → Cells → List Vl → Option (Vl × List Dt)
def isL : Option (Option Cell) → Option (List Dt)
  | some (some (.lst ds)) => some ds
  | _ => none
def mM (f : OM) (me : ME) (ma : MA) : ME := fun g m => (me g m).bind fun x m1 => match x with
  | .ref k => match isL m1[k]? with
    | some _ => (ma g m1).bind fun ys m2 => match isL m2[k]? with
      | some ds => (match f ds m2 ys with
        | some p => .ok p.1 (m2.set k (some (.lst p.2)))
        | none => .bad)
      | none => .bad
    | none => .bad
  | _ => .bad
def SimM (T : Tab) (r : V → List V → Hp → VK → Prop) (f : OM) : Prop := ∀ (F : Frm) (I H : Hp) (A : List Addr) (m : Cells) (a : Addr) (us : List V) (ds : List Dt) (ws : List V) (ys : List Vl) (v : Vl) (ds' : List Dt), Base T F I H A m → H a = some (.lst us) → DRs T I us ds → VRs T I A ws ys → f ds m ys = some (v, ds') →
  ∀ Q : VK, (∀ x us', DRs T I us' ds' → VR T I A x v → Q x (upd H a (.lst us'))) → r (.ref a) ws H Q
theorem isL_ok {o : Option (Option Cell)} {ds : List Dt} (h : isL o = some ds) : o = some (some (.lst ds)) := by
  unfold isL at h
  split at h
  · cases h; rfl
  · cases h
theorem le_m {r : V → List V → Hp → VK → Prop} {f : OM} {σ : L2.St} {H : Hp} {Q : VK} (s : SimM C.T r f) (h : FE C (mM f me ma) σ H Q) : FE C me σ H fun x H1 => tyV C.T.K "list" x H1 ∧ FA C ma σ H1 fun xs H2 => r x xs H2 Q := by
  obtain ⟨B, g, S, m, vs, I, A, rl, w⟩ := h
  refine ⟨B, g, S, m, vs, I, A, rl, ?_⟩
  unfold mM at w
  cases ea : me g m with
  | bad => rw [ea] at w; exact w.elim
  | ex c fs m' => rw [ea] at w; exact w
  | ok d m1 =>
    rw [ea] at w
    intro x H1 I1 A1 r1
    cases d with
    | d d => exact (show False from w).elim
    | lam z => exact (show False from w).elim
    | ref k =>
      obtain ⟨a, rfl, ha⟩ := r1.top.cel
      cases el : isL m1[k]? with
      | none => simp only [Rs.bind, el] at w; exact (show False from w).elim
      | some ds1 =>
        simp only [Rs.bind, el] at w
        obtain ⟨us1, hu1, _⟩ := r1.base.ok _ _ a (isL_ok el) ha
        refine ⟨.inl ⟨rfl, us1, .inl (.inl hu1)⟩, B, g, .ref k :: S, m1, .ref a :: vs, I1, A1, r1, ?_⟩
        cases eb : ma g m1 with
        | bad => simp only [eb] at w; exact (show False from w).elim
        | ex c fs m' =>
          simp only [eb] at w
          intro σ' H' I' A' dx ws r' h1 h2 h3
          exact w σ' H' I' A' dx ws r'.pop1 h1 h2 h3
        | ok ys m2 =>
          simp only [eb] at w
          intro ws H2 I2 A2 hl r2
          obtain ⟨q1, q2⟩ := r2.stk.split hl
          have r3 : Rel C.T C.x B g (.ref k :: S) m2 σ (.ref a :: vs) H2 I2 A2 := { r2 with stk := q2 }
          obtain ⟨a', e, ha'⟩ := r3.top.cel
          cases e
          cases el2 : isL m2[k]? with
          | none => simp only [el2] at w; exact (show False from w).elim
          | some ds =>
            simp only [el2] at w
            cases ef : f ds m2 ys with
            | none => simp only [ef] at w; exact (show False from w).elim
            | some p =>
              simp only [ef] at w
              obtain ⟨us, hu, hd⟩ := r3.base.ok _ _ a (isL_ok el2) ha'
              obtain ⟨v, ds'⟩ := p
              exact s _ I2 H2 A2 m2 a us ds ws ys v ds' r3.base hu hd q1 ef Q fun x us' hd' hx => w _ _ _ _ ((r3.pop1.step (r3.base.put (c' := .lst ds') (isL_ok el2) ha' ⟨us', upd_same, hd'⟩) Up.refl).push hx)
theorem fe_m {r : V → List V → Hp → VK → Prop} {f : OM} (h : PE X e (tBM C.T.K "list" r (FE C me) (FA C ma))) (s : SimM C.T r f) : PE X e (FE C (mM f me ma)) := pe_of h fun σ H Q q => le_m s q
def fAppend : OM := fun ds _ ys => match ys with
  | [.d d] => if szOk (ds.length + 1) then some (.d .non, ds ++ [d]) else none
  | _ => none
theorem sim_append {T : Tab} : SimM T rAppend fAppend := fun F I H A m a us ds ws ys v ds' b hu hd hw e Q q => by
  unfold fAppend at e
  split at e
  · rename_i d
    by_cases h : szOk (ds.length + 1) = true
    · rw [if_pos h] at e
      cases e
      obtain ⟨w, rfl, hw1⟩ := hw.one_inv
      refine ⟨a, us, w, rfl, rfl, hu, by rw [hd.len]; exact szOk_line h, q _ _ (hd.app (.one hw1.dat)) (.d .non)⟩
    · rw [if_neg h] at e; cases e
  · cases e
/-- a value that is a list cell, done changing -/
def mFrz (me : ME) : ME := fun g m => (me g m).bind fun x m1 => match x with
  | .ref k => match isL m1[k]? with
    | some ds => .ok (.d (.lst ds)) (m1.set k none)
    | none => .bad
  | .d d => .ok (.d d) m1
  | .lam z => .ok (.lam z) m1
theorem fe_frz (h : PE X e (FE C me)) : PE X e (FE C (mFrz me)) := pe_of h fun σ H Q ⟨B, g, S, m, vs, I, A, rl, w⟩ => one_ok rl w fun x d m1 H1 I1 A1 r1 w1 => by
  cases d with
  | d d => exact w1 x H1 I1 A1 r1
  | lam z => exact w1 x H1 I1 A1 r1
  | ref k =>
    obtain ⟨a, rfl, ha⟩ := r1.top.cel
    cases el : isL m1[k]? with
    | none => simp only [el] at w1; exact (show False from w1).elim
    | some ds =>
      simp only [el] at w1
      obtain ⟨us, hu, hd⟩ := r1.base.ok _ _ a (isL_ok el) ha
      obtain ⟨b, e⟩ := r1.base.frz (isL_ok el) ha hu
      exact w1 _ _ _ _ ((r1.pop1.step b e).push (.d (.lst upd_same (hd.mono e.i))))
/-- xs[i] = v of a list cell -/
def mSetL (me mi : ME) : MG := fun v g m => match me g m with
  | .ok (.ref k) m1 => (match mi g m1 with
    | .ok (.d (.int i)) m2 => (match isL m2[k]?, v with
      | some ds, .d d => (ixN ds.length i).map fun j => (g, m2.set k (some (.lst (ds.set j d))))
      | _, _ => none)
    | _ => none)
  | _ => none
end
end FM
namespace FM
open PySem PySem.Spec PyProof.Rows L2
/-! ### instances -/
def isI (c : Nat) : Option (Option Cell) → Option (List Dt)
  | some (some (.ins c' fs)) => if c' = c then some fs else none
  | _ => none
/-- C(..): n fields, never changed again -/
def mMake (c n : Nat) (f : Fn) (ma : MA) : ME := fun g m => (ma g m).bind fun xs m1 => match f (.ref m1.length :: xs) (m1 ++ [some (.ins c [])]) with
  | .ok (.d .non) m2 => (match isI c m2[m1.length]? with
    | some fs => if fs.length = n then .ok (.d (.ins c fs)) (m2.take m1.length) else .bad
    | none => .bad)
  | .ex c' fs m2 => .ex c' fs (m2.take m1.length)
  | _ => .bad
/-- C(..), that may change -/
def mMakeC (c : Nat) (f : Fn) (ma : MA) : ME := fun g m => (ma g m).bind fun xs m1 => match f (.ref m1.length :: xs) (m1 ++ [some (.ins c [])]) with
  | .ok (.d .non) m2 => .ok (.ref m1.length) m2
  | .ex c' fs m2 => .ex c' fs (m2.take m1.length)
  | _ => .bad
/-- a class without __init__ -/
def mMake0 (c : Nat) : ME := fun _ m => .ok (.d (.ins c [])) m
section
variable {X : Cx} {C : Fc} {e : Expr} {ma : MA} {me mb : ME}
/-! ### fields -/
theorem zip_look {ks : List Str} {vs : List V} {i : Nat} {f : Str} {v : V} (nd : ks.Nodup) (hk : ks[i]? = some f) (hv : vs[i]? = some v) : (ks.zip vs).lookup f = some v := by
  induction ks generalizing vs i with
  | nil => simp at hk
  | cons k ks ih =>
    cases vs with
    | nil => simp at hv
    | cons u vs =>
      rw [List.zip_cons_cons]
      cases i with
      | zero =>
        simp at hk hv
        subst hk hv
        simp [List.lookup]
      | succ i =>
        have hk' : ks[i]? = some f := by simpa using hk
        have hne : f ≠ k := fun e => (List.nodup_cons.mp nd).1 (by rw [← e]; exact List.mem_of_getElem? hk')
        have : (f == k) = false := by simpa using hne
        simp only [List.lookup, this]
        exact ih (List.nodup_cons.mp nd).2 hk' (by simpa using hv)
/-- the class and the fields of a value -/
def insOf (m : Cells) : Vl → Option (Nat × List Dt)
  | .d (.ins c fs) => some (c, fs)
  | .ref k => match m[k]? with
    | some (some (.ins c fs)) => some (c, fs)
    | _ => none
  | _ => none
/-- self.f = v, self a cell -/
def putAt (i : Nat) (d : Dt) (fs : List Dt) : Option (List Dt) := if i < fs.length then some (fs.set i d) else if i = fs.length then some (fs ++ [d]) else none
def isIns : Option (Option Cell) → Option (Nat × List Dt)
  | some (some (.ins c fs)) => some (c, fs)
  | _ => none
def setF (ix : FTab) (k : Nat) (d : Dt) (g : Gam) (m : Cells) : Out := match isIns m[k]? with
  | some p => (match (ix p.1).bind fun i => putAt i d p.2 with
    | some fs' => .nx g (m.set k (some (.ins p.1 fs')))
    | none => .bad)
  | none => .bad
def setV (ix : FTab) (x y : Vl) (g : Gam) (m : Cells) : Out := match x, y with
  | .ref k, .d d => setF ix k d g m
  | _, _ => .bad
def mSetF (ix : FTab) (mo mv : ME) : MS := fun g m => (mv g m).then g fun y m1 => (mo g m1).then g fun x m2 => setV ix x y g m2
/-! ### methods -/
def mMeth (mt : Nat → Option Fn) (me : ME) (ma : MA) : ME := fun g m => (me g m).bind fun x m1 => match insOf m1 x with
  | some p => (match mt p.1 with
    | some f => (ma g m1).bind fun ys m2 => f (x :: ys) m2
    | none => .bad)
  | none => .bad
end
end FM
namespace FM
open PySem PySem.Spec PyProof.Rows L2
/-! ### raise -/
def mRaise (c n : Nat) (ma : MA) : MS := fun g m => (ma g m).then g fun vs m1 => match dats vs with
  | some ds => if ds.length = n then .ex c ds.reverse g m1 else .bad
  | none => .bad
section
variable {X : Cx} {C : Fc} {e : Expr} {st : Stmt} {ma : MA} {me mb : ME}
theorem zip_rev {α β : Type} {a : List α} {b : List β} (h : a.length = b.length) : (a.zip b).reverse = a.reverse.zip b.reverse := by
  unfold List.zip
  exact List.reverse_zipWith h
/-! ### try -/
/-- a clause: its slot, which classes it takes, its suite -/
structure Hd where
  i : Option Nat
  mt : Nat → Option Bool
  su : Nat → List Dt → MS
def gOff (i : Option Nat) (g : Gam) : Gam := match i with
  | some i => g.set i none
  | none => g
def gIn (i : Option Nat) (g : Gam) : Bool := match i with
  | some i => decide (i < g.length)
  | none => true
def endS (i : Option Nat) : Out → Out
  | .nx g m => .nx (gOff i g) m
  | .bk g m => .bk (gOff i g) m
  | .ct g m => .ct (gOff i g) m
  | .rt v m => .rt v m
  | _ => .bad
def mHs : List Hd → Nat → List Dt → MS
  | [], c, ds => fun g m => .ex c ds g m
  | h :: r, c, ds => fun g m => match h.mt c with
    | some true => if gIn h.i g then endS h.i (h.su c ds (gOff h.i g) m) else .bad
    | some false => mHs r c ds g m
    | none => .bad
def mTry (s : MS) (hs : List Hd) : MS := fun g m => match s g m with
  | .ex c ds g' m' => mHs hs c ds g' m'
  | o => o
/-- e.f in the suite -/
def mXf (ix : FTab) (c : Nat) (ds : List Dt) : ME := fun _ m => match (ix c).bind fun i => ds[i]? with
  | some d => .ok (.d d) m
  | none => .bad
structure XFldOk (T : Tab) (f : Str) (ix : FTab) : Prop where
  ok : ∀ c i, ix c = some i → XfC T.K (T.ca c) ∧ PySem.W.findIn T.K (.ref (T.ca c)) f = some none ∧ (T.cf c)[i]? = some f ∧ (T.cf c).Nodup
end
end FM
namespace FM
open PySem PySem.Spec PyProof.Rows L2
/-! ### == of data, own classes among them -/
section
variable {X : Cx} {pins : List (Addr × Obj)} {σ : L2.St} {H I : Hp} {s : Shared} {T : Tab}
variable {N : Nat}
end
section
variable {X : Cx} {T : Tab} {n m' : Nat} {D D' : Dq} {N : Nat}
theorem EqK.imp (h : EqK X T n D) (hd : ∀ x y b, D' x y b → D x y b) : EqK X T n D' := fun A pins s σ F H I L m x y u v d1 d2 b sb inv hs r1 r2 rx ry d => h A pins s σ F H I L m x y u v d1 d2 b sb inv hs r1 r2 rx ry (hd _ _ _ d)
theorem RcK.imp {neg : Bool} (h : RcK X T n neg D) (hd : ∀ x y b, D' x y b → D x y b) : RcK X T n neg D' := fun A pins s σ F H I L m x y u v d1 d2 b sb inv hs r1 r2 rx ry d => h A pins s σ F H I L m x y u v d1 d2 b sb inv hs r1 r2 rx ry (hd _ _ _ d)
end
end FM
namespace FM
open PySem PySem.Spec PyProof.Rows L2
/-! ### dicts -/
def keyOf : Vl → Option L2.Key
  | .d (.int i) => some (.inl i)
  | .d (.str z) => some (.inr z)
  | _ => none
def dGet : List L2.Key → List Dt → L2.Key → Option Dt
  | k' :: ks, d :: ds, k => if k' = k then some d else dGet ks ds k
  | _, _, _ => none
def dRepl {α : Type} (k : L2.Key) (d : α) : List L2.Key → List α → List α
  | k' :: ks, x :: ds => (if k' = k then d else x) :: dRepl k d ks ds
  | _, _ => []
def hasK (ks : List L2.Key) (k : L2.Key) : Bool := ks.any fun k' => decide (k' = k)
def dPutK (ks : List L2.Key) (k : L2.Key) : List L2.Key := if hasK ks k then ks else ks ++ [k]
def dPutV {α : Type} (ks : List L2.Key) (ds : List α) (k : L2.Key) (d : α) : List α := if hasK ks k then dRepl k d ks ds else ds ++ [d]
/-- the pairs of a dict: data, or a cell -/
def dctOf (m : Cells) : Vl → Option (List L2.Key × List Dt)
  | .d (.dct ks ds) => some (ks, ds)
  | .ref k => match m[k]? with
    | some (some (.dct ks ds)) => some (ks, ds)
    | _ => none
  | _ => none
section
variable {X : Cx} {C : Fc} {e : Expr} {st : Stmt} {me mb mc : ME}
/-- d[k] = v of a cell -/
def isD (o : Option (Option Cell)) : Option (List L2.Key × List Dt) := match o with
  | some (some (.dct ks ds)) => some (ks, ds)
  | _ => none
def putD (x y v : Vl) (g : Gam) (m : Cells) : Out := match x, keyOf y, v with
  | .ref k, some key, .d d => (match isD m[k]? with
    | some p => if szOk (p.1.length + 1) then .nx g (m.set k (some (.dct (dPutK p.1 key) (dPutV p.1 p.2 key d)))) else .bad
    | none => .bad)
  | _, _, _ => .bad
def mPutD (mo mi mv : ME) : MS := fun g m => (mv g m).then g fun v m1 => (mo g m1).then g fun x m2 => (mi g m2).then g fun y m3 => putD x y v g m3
/-- {} -/
def mDNew : ME := fun _ m => .ok (.ref m.length) (m ++ [some (.dct [] [])])
/-- {k: v, ..} -/
abbrev MPs := Gam → Cells → Rs (List (L2.Key × Dt))
def mPNil : MPs := fun _ m => .ok [] m
def mPCons (mk mv : ME) (mr : MPs) : MPs := fun g m => (mk g m).bind fun x m1 => (mv g m1).bind fun y m2 => match keyOf x, y with
  | some k, .d d => (mr g m2).bind fun r m3 => .ok ((k, d) :: r) m3
  | _, _ => .bad
def mergeD : List L2.Key → List Dt → List (L2.Key × Dt) → List L2.Key × List Dt
  | ks, ds, [] => (ks, ds)
  | ks, ds, (k, d) :: r => mergeD (dPutK ks k) (dPutV ks ds k d) r
def mDisp (mp : MPs) : ME := fun g m => (mp g m).bind fun es m1 => if es.length ≤ 15 then .ok (.d (.dct (mergeD [] [] es).1 (mergeD [] [] es).2)) m1 else .bad
def mDispC (mp : MPs) : ME := fun g m => (mp g m).bind fun es m1 => if es.length ≤ 15 then .ok (.ref m1.length) (m1 ++ [some (.dct (mergeD [] [] es).1 (mergeD [] [] es).2)]) else .bad
/-- d.get(k, x) -/
def mDGet2 (mo mi mx : ME) : ME := fun g m => (mo g m).bind fun x m1 => match dctOf m1 x with
  | some _ => (mi g m1).bind fun y m2 => (mx g m2).bind fun z m3 => match dctOf m3 x, keyOf y with
    | some p, some k => (match dGet p.1 p.2 k with
      | some d => .ok (.d d) m3
      | none => .ok z m3)
    | _, _ => .bad
  | none => .bad
end
end FM
namespace RZ
open PySem PySem.Calls PyProof.Rows
end RZ
namespace FM
open PySem PySem.Spec PyProof.Rows L2
/-! ### isinstance -/
inductive Kd where
  | non | bl | int | str | lst | tup | ins (c : Nat)
  deriving DecidableEq
def Kd.ty (T : Tab) : Kd → Value
  | .non => .type "NoneType" | .bl => .type "bool" | .int => .type "int" | .str => .type "str" | .lst => .type "list" | .tup => .type "tuple"
  | .ins c => .ref (T.ca c)
section
variable {X : Cx} {C : Fc} {e : Expr} {ma : MA} {me mb mc : ME}
/-! ### list(zip(a, b)) -/
def mListZip (ma : MA) : ME := fun g m => (ma g m).bind fun vs m1 => match vs with
  | [x, y] => (match tupOf x, tupOf y with
    | some a, some b => .ok (.d (.lst (zipD a b))) m1
    | _, _ => .bad)
  | _ => .bad
/-! ### and, or, not as values; -x -/
def mOrV (ma mb : ME) : ME := fun g m => (ma g m).bind fun x m1 => match x with
  | .d (.bl true) => .ok (.d (.bl true)) m1
  | .d (.bl false) => mb g m1
  | _ => .bad
def mAndV (ma mb : ME) : ME := fun g m => (ma g m).bind fun x m1 => match x with
  | .d (.bl true) => mb g m1
  | .d (.bl false) => .ok (.d (.bl false)) m1
  | _ => .bad
theorem fe_andV (h : PE X e (tAndV (FE C me) (FE C mb))) : PE X e (FE C (mAndV me mb)) := pe_of h fun σ H Q ⟨B, g, S, m, vs, I, A, r, w⟩ => one_ok r w fun x d m1 H1 I1 A1 r1 w1 => by
  cases d with
  | ref k => exact (show False from w1).elim
  | lam z => exact (show False from w1).elim
  | d d =>
    cases d with
    | bl b =>
      cases r1.top.dat
      cases b with
      | true => exact ⟨true, rfl, by rw [if_pos rfl]; exact ⟨B, g, S, m1, vs, I1, A1, r1.pop1, w1⟩⟩
      | false => exact ⟨false, rfl, by rw [if_neg Bool.false_ne_true]; exact w1 _ _ _ _ r1⟩
    | _ => exact (show False from w1).elim
/-! ### max, min of two ints -/
/-! ### all of a list of bools -/
end
end FM
namespace FM
open PySem PySem.Spec PyProof.Rows L2
section
variable {X : Cx} {C : Fc} {e : Expr} {st : Stmt} {ma : MA} {me mb mc mi : ME}
theorem le_op {r : R2} {f : O2} {ma : ME} (s : SimO C.T r f) {σ : L2.St} {H : Hp} {Q : VK} (h : FE C (mOp f ma mb) σ H Q) : tOp r (FE C ma) (FE C mb) σ H Q := by
  obtain ⟨B, g, S, m, vs, I, A, rl, w⟩ := h
  exact two_ok rl w fun x y dx dy m2 H2 I2 A2 r2 w2 => by
    cases ef : f m2 dx dy with
    | none => rw [ef] at w2; exact w2.elim
    | some d =>
      rw [ef] at w2
      exact s _ I2 H2 A2 m2 x y dx dy d r2.base r2.pop1.top r2.top ef Q fun v H' I' b e hv => w2 v H' I' A2 ((r2.pop1.pop1.step b ⟨e, List.prefix_refl _⟩).push hv)
theorem ft_cmp {r : R2} {f : O2} {ma : ME} (h : PT X e (tTest (tOp r (FE C ma) (FE C mb)))) (s : SimO C.T r f) : PT X e (FT C (mTest (mOp f ma mb))) := pt_of h fun σ H Q q => le_op s (ft_le q)
/-! ### a, b = x, y -/
def mPar (i j : Nat) (ma : MA) : MS := fun g m => (ma g m).then g fun vs m1 => match vs with
  | [v, w] => .nx ((g.set i (some v)).set j (some w)) m1
  | _ => .bad
/-! ### x += e of a number -/
def mAug (i : Nat) (me : ME) : MS := fun g m => match g[i]? with
  | some (some (.d (.int a))) => (me g m).then g fun v m1 => match v with
    | .d (.int b) => .nx (g.set i (some (.d (.int (a + b))))) m1
    | _ => .bad
  | _ => .bad
/-! ### xs[i] = v -/
theorem fg_setL (h : PG X e (gSub (FE C me) (FE C mi) rSetL)) : PG X e (FG C (mSetL me mi)) := pg_of h fun v σ H Q ⟨B, g, S, m, vs, I, A, d, r, w⟩ => by
  unfold mSetL at w
  refine ⟨B, g, d :: S, m, v :: vs, I, A, r, ?_⟩
  cases e1 : me g m with
  | bad => rw [e1] at w; exact w.elim
  | ex c fs m' => rw [e1] at w; exact w.elim
  | ok d1 m1 =>
    rw [e1] at w
    cases d1 with
    | d _ => exact (show False from w).elim
    | lam z => first | (cases e; done) | exact (show False from w).elim | exact (show False from w1).elim | exact (show False from w2).elim | exact (show False from w3).elim | (cases ef; done) | (cases hl; done) | (cases ht; done) | (cases h1; done)
    | ref k =>
      intro x H1 I1 A1 r1
      refine ⟨B, g, .ref k :: d :: S, m1, x :: v :: vs, I1, A1, r1, ?_⟩
      simp only at w
      cases e2 : mi g m1 with
      | bad => rw [e2] at w; exact w.elim
      | ex c fs m' => rw [e2] at w; exact w.elim
      | ok d2 m2 =>
        rw [e2] at w
        intro y H2 I2 A2 r2
        obtain ⟨a, ex, ha⟩ := r2.pop1.top.cel
        subst ex
        cases d2 with
        | ref _ => exact (show False from w).elim
        | lam z => exact (show False from w).elim
        | d d2 =>
          cases r2.top.dat with
          | int i =>
            simp only at w
            cases el : isL m2[k]? with
            | none => rw [el] at w; exact (show False from w).elim
            | some ds =>
              rw [el] at w
              have t3 := r2.pop1.pop1.top
              cases d with
              | ref _ => exact (show False from w).elim
              | lam z => exact (show False from w).elim
              | d d =>
                simp only at w
                cases ej : ixN ds.length i with
                | none => rw [ej] at w; exact (show False from w).elim
                | some j =>
                  rw [ej] at w
                  obtain ⟨us, hu, hd⟩ := r2.base.ok _ _ a (isL_ok el) ha
                  have b := r2.base.put (c' := .lst (ds.set j d)) (o := .lst (us.set j v)) (isL_ok el) ha ⟨_, upd_same, hd.set t3.dat j⟩
                  refine ⟨a, us, i, j, rfl, rfl, hu, by rw [hd.len]; exact ej, ?_⟩
                  exact w σ _ _ _ (r2.pop1.pop1.pop1.step b Up.refl)
          | _ => exact (show False from w).elim
/-! ### a list or a tuple, walked -/
/-! ### xs == [] -/
def seqL (m : Cells) : Vl → Option (List Dt)
  | .d (.lst ds) => some ds
  | .d (.scr ds) => some ds
  | .ref k => isL m[k]?
  | _ => none
/-! ### isinstance(e, C) in the suite of a caught one -/
def mXis (q : Nat → Option Bool) (c : Nat) : ME := fun _ m => match q c with
  | some b => .ok (.d (.bl b)) m
  | none => .bad
structure XisOk (T : Tab) (u : Value) (q : Nat → Option Bool) : Prop where
  ok : ∀ c b, q c = some b → ExcC T.K (T.ca c) ∧ PySem.W.kitOne T.K (.ref (T.ca c)) u = some b
/-! ### xs[a:b] of a list, a cell -/
def mSlC (me : ME) (ml mh : MO) : ME := fun g m => (me g m).bind fun x m1 => (ml g m1).bind fun lo m2 => (mh g m2).bind fun hi m3 => match lstOf m3 x with
  | some ds => .ok (.ref m3.length) (m3 ++ [some (.lst (cutL ds lo hi))])
  | none => .bad
end
end FM
namespace FM
open PySem PySem.Spec PyProof.Rows L2
/-! ### == by own classes, as a function -/
end FM
namespace FM
open PySem PySem.Spec PyProof.Rows L2
/-! ### the tables of a law, and its facts as Bools over a part of the heap -/
def tabN (l : List (Nat × Nat)) : FTab := fun c => l.lookup c
def tabB (l : List (Nat × Bool)) : Nat → Option Bool := fun c => l.lookup c
theorem lookup_mem {α β : Type} [BEq α] [LawfulBEq α] {c : α} {b : β} : ∀ {l : List (α × β)}, l.lookup c = some b → (c, b) ∈ l
  | (a, x) :: r, h => by
    unfold List.lookup at h
    cases e : c == a with
    | true =>
      rw [e] at h
      cases h
      rw [eq_of_beq e]
      exact List.mem_cons_self
    | false =>
      rw [e] at h
      exact List.mem_cons_of_mem _ (lookup_mem h)
theorem ob_ok {K : PySem.W.Frag} {v : Value} {x : Str} {u : Option Value} (h : ob K v x u = true) : PySem.W.findIn K v x = some u := He.eqO_ok h
theorem excCB_ok {K : PySem.W.Frag} {C : Addr} (c : excCB K C = true) : ExcC K C := by
  obtain ⟨c1, c⟩ := He.ba c
  obtain ⟨c2, c⟩ := He.ba c
  obtain ⟨c3, c⟩ := He.ba c
  obtain ⟨c4, c⟩ := He.ba c
  obtain ⟨c5, c⟩ := He.ba c
  obtain ⟨c6, c⟩ := He.ba c
  obtain ⟨c7, c8⟩ := He.ba c
  exact ⟨ob_ok c1, ob_ok c2, of_decide_eq_true c3, c4, ob_ok c5, of_decide_eq_true c6, of_decide_eq_true c7, of_decide_eq_true c8⟩
theorem oexB0_ok {K : PySem.W.Frag} {C : Addr} (q : oexB0 K C = true) : ∃ nm q N bs bm sn sub ab col dd k0 k1 k2 k3 k5, K.lookup C = some (excClassObj nm q C N bs bm true sn sub ab col dd k0 k1 k2 k3 k5 "ValueError.__new__") ∧ PySem.HandSPX.refsVE bm = true := by
  unfold oexB0 at q
  split at q
  · rename_i dd cd sl ho
    split at q
    · rename_i C' bm k0 k1 k2 k3 n k5 hm hs
      simp only [Bool.and_eq_true, beq_iff_eq, Bool.not_eq_true'] at q
      obtain ⟨⟨⟨⟨rfl, rfl⟩, hdel⟩, hd'⟩, ht⟩ := q
      obtain ⟨nm, bs, mro, ns, qn, hd, sn, sub, ab, col, del⟩ := cd
      dsimp only at hm hdel hd'
      subst hm hdel hd'
      have hsl : sl = #[k0, k1, k2, k3, some (.builtin "ValueError.__new__"), k5] := by
        obtain ⟨l⟩ := sl
        simp only at hs
        rw [hs]
      subst hsl
      exact ⟨nm, qn, ns, bs, bm, sn, sub, ab, col, dd, k0, k1, k2, k3, k5, ho, ht⟩
    · cases q
  · cases q
theorem oexB_ok {K : PySem.W.Frag} {C : Addr} (c : oexB K C = true) : OexC K C := by
  obtain ⟨c1, c⟩ := He.ba c
  obtain ⟨c2, c⟩ := He.ba c
  obtain ⟨c3, c⟩ := He.ba c
  obtain ⟨c4, c5⟩ := He.ba c
  exact ⟨oexB0_ok c1, ob_ok c2, of_decide_eq_true c3, of_decide_eq_true c4, c5⟩
theorem xfldB_ok {T : Tab} {f : Str} {l : List (Nat × Nat)} (h : xfldB T f l = true) : XFldOk T f (tabN l) := ⟨fun c i e => by
  have c := List.all_eq_true.mp h _ (lookup_mem e)
  obtain ⟨c1, c⟩ := He.ba c
  obtain ⟨c2, c⟩ := He.ba c
  obtain ⟨c3, c4⟩ := He.ba c
  exact ⟨xfB_ok c1, ob_ok c2, of_decide_eq_true c3, of_decide_eq_true c4⟩⟩
theorem xisB_ok {T : Tab} {u : Value} {l : List (Nat × Bool)} (h : xisB T u l = true) : XisOk T u (tabB l) := ⟨fun c b e => by
  obtain ⟨c1, c2⟩ := He.ba (List.all_eq_true.mp h _ (lookup_mem (l := l) e))
  exact ⟨excCB_ok c1, of_decide_eq_true c2⟩⟩
/-! ### the Hook -/
section
variable {fb : List Fb} {fn : List He.DefD} {K : PySem.W.Frag}
theorem SaysF.fact (c : SaysF fb fn K) (i : Nat) {f : Fb} (h : fb[i]? = some f := by rfl) : f K = true := by
  have c1 := (He.ba (show ((fb.all fun f => f K) && fn.all fun d => d.ok K) = true from congrArg (fun z : He.AlD => z.1) c)).1
  exact List.all_eq_true.mp c1 f (List.mem_of_getElem? h)
theorem SaysF.def_ (c : SaysF fb fn K) (i : Nat) {d : He.DefD} (h : fn[i]? = some d := by rfl) : ∃ fd, FunD K d.name d.qual d.params d.body d.scope (d.dvs K) (d.kws K) (He.fAd K d.at_) fd := by
  have c2 := (He.ba (show ((fb.all fun f => f K) && fn.all fun d => d.ok K) = true from congrArg (fun z : He.AlD => z.1) c)).2
  have e : fn.map (fun d => He.fnW K d.at_) = fn.map He.DefD.val := congrArg (fun z : He.AlD => z.2) c
  have e2 : (fn.map fun d => He.fnW K d.at_)[i]? = (fn.map He.DefD.val)[i]? := by rw [e]
  rw [List.getElem?_map, List.getElem?_map, h] at e2
  exact He.DefD.funD (Option.some.inj e2) (List.all_eq_true.mp c2 d (List.mem_of_getElem? h))
end
/-- a function that is never reached -/
def fnNo : Fn := fun _ _ => .bad
theorem drs_int {T : Tab} {I : Hp} : ∀ ns : List Int, DRs T I (ns.map V.int) (ns.map Dt.int)
  | [] => .nil
  | n :: ns => .cons (.int n) (drs_int ns)
/-- H but for its tables -/
def noTb (H : Hp) : Hp := fun b => match H b with
  | some (.tbl _) => none
  | o => o
theorem noTb_sub {H : Hp} : Same (noTb H) H := fun b o e => by
  unfold noTb at e
  split at e
  · cases e
  · exact e
theorem noTb_at {H : Hp} {b : Addr} {o : HO} (h : H b = some o) (ho : ∀ ps, o ≠ .tbl ps) : noTb H b = some o := by
  unfold noTb
  split
  · rename_i ps e; rw [h] at e; exact absurd (Option.some.inj e) (ho ps)
  · exact h
theorem noTb_nt {H : Hp} : ∀ b ps, noTb H b ≠ some (.tbl ps) := fun b ps e => by
  unfold noTb at e
  split at e
  · cases e
  · rename_i h; exact h ps e
theorem sql_noTb {K : PySem.W.Frag} {H : Hp} {a : Addr} {xs : List V} (h : SqL K H a xs) : SqL K (noTb H) a xs := by
  rcases h with h | h
  · rcases h with h | ⟨o, h⟩
    · exact .inl (.inl (noTb_at h fun _ z => nomatch z))
    · exact .inl (.inr ⟨o, noTb_at h fun _ z => nomatch z⟩)
  · exact .inr h
theorem law_start {T : Tab} {f : Fn} {H : Hp} {a : Addr} {ns : List Int} {m' : Cells} (hS : SqL T.K H a (ns.map V.int)) (h : f [.d (.scr (ns.map Dt.int))] [] = .ok (.d (.bl true)) m') (ht : ∀ p ∈ T.tb, H p.1 = some (.tbl #[]) := by exact fun p hp => absurd hp List.not_mem_nil) : spFn T f [.ref a] H (fun v _ => v = .bl true) fun _ _ _ => False := by
  refine ⟨[], noTb H, [], [], [.d (.scr (ns.map Dt.int))], ⟨noTb_sub, fun q hq => absurd hq List.not_mem_nil, List.nodup_nil, rfl, List.nodup_nil, fun a ha => absurd ha List.not_mem_nil, fun k c a h1 _ => (by cases h1), fun k c a h1 _ => (by cases h1), ⟨noTb_nt, fun q hq => absurd hq List.not_mem_nil, fun p hp => ⟨#[], ht p hp, True.intro, fun pos cv hc => by
    have z : codeAmong pos [] = some cv := hc
    simp [codeAmong] at z⟩⟩, fun k c fs a h1 _ => (by cases h1)⟩, .cons (.d (.scr (sql_noTb hS) (drs_int ns))) .nil, ?_⟩
  rw [h]
  intro v H' I' A' _ _ hv
  cases hv.dat
  rfl
theorem cx_none {P : Program} {w : World} (H : Hp) (s : Shared) (e : Value) (s' : Shared) (h : L2N.CX P w [] H s (fun _ _ _ => False) e s') : False := by
  obtain ⟨_, _, _, _, _, _, _, _, _, _, _, _, z⟩ := h
  exact z.elim
end FM
namespace FM
open PySem PySem.Spec PyProof.Rows L2
/-- a law's walk, where what its defs let out hangs on the world -/
theorem walkW {l : PySem.W.OpenLaw} {n k : Nat} {q : Program} {loose : List Str} {XP : (Str → Option Value) → Heap → Prop} {YP : World → Heap → Prop} {d : DefRec} {CX : World → CXT} {x : Str}
    (hn : l.most = some n) (hn2 : n ≤ sizeLine) (hdf : d.params.defaults = []) (hr : Room k callerA)
    (F : ∀ (w : World) (mg : Str → Option Value) (fa : Addr) (h : Heap), YP w h → h.Ns mainGlobals mg → mg d.name = some (.ref fa) →
      ∃ (K : PySem.W.Frag) (fd : FuncData) (sp : Sp), K.In h ∧ (∀ (s : Shared) (u : Value), BindsTo s fd ⟨[u], []⟩ [(x, u)]) ∧
        (∀ (H : Hp) (a : Addr) (ns : List Int), ns.length ≤ n → SqL K H a (ns.map V.int) → sp [.ref a] H (fun v _ => v = .bl true) fun _ _ _ => False) ∧
        ∀ base : Heap, K.In base → base.Ns mainGlobals mg → FnOk l.prog w K mg base (CX w) k fa fd [x] sp)
    (hCX : ∀ (w : World) (H : Hp) (s : Shared) (e : Value) (s' : Shared), CX w [] H s (fun _ _ _ => False) e s' → False) :
    PySem.W.WalkO q loose XP YP l.row.toRowW d [] (fun f vs => PySem.call f vs) := by
  refine Att.attach_call hn hdf fun w s0 s1 mg mb fa o pm cd doc a vs ns G Y ho hd hcd hmg hobj hints hlen hg => ?_
  obtain ⟨K, fd, sp, KX, hb, hsp, hF⟩ := F w mg fa _ Y G.T.g hmg
  exact law_call KX G.T.g G.T.b G.T.builtins G.T.nolimit hg hobj hints (Nat.le_trans hlen hn2) hr hF hb (fun H hO hS => hsp H a ns hlen hS) fun H e s' => hCX w H s1 e s'
end FM
namespace FM
open PySem PySem.Spec PyProof.Rows L2
/-! ### three at once; a list taken apart -/
def mPar3 (i j l : Nat) (ma : MA) : MS := fun g m => (ma g m).then g fun vs m1 => match vs with
  | [u, v, w] => .nx (((g.set i (some u)).set j (some v)).set l (some w)) m1
  | _ => .bad
def gUl (n : Nat) (mg : MGs) : MG := fun d g m => match lstOf m d with
  | some ds => if ds.length = n then mg ds g m else none
  | none => none
end FM
namespace FM
open PySem PySem.Spec PyProof.Rows L2
/-! ### what a reading must give: weakest preconditions -/
def eNo : EX := fun _ _ _ => False
@[irreducible] def wO {α : Type} (o : Option α) (Q : α → Prop) : Prop := match o with
  | some a => Q a
  | none => False
section
variable {α : Type} {Q : α → Cells → Prop} {E : EX} {a : α} {m : Cells} {c : Nat} {fs : List Dt} {pN pB pC : PN} {pR : PR} {pX : PX} {g : Gam} {v : Vl}
theorem rE : wR (.ok a m) Q E = Q a m := by unfold wR; rfl
theorem rX : wR (.ex c fs m) Q E = E c fs m := by unfold wR; rfl
theorem rB : wR .bad Q E = False := by unfold wR; rfl
theorem oE {Q : α → Prop} : wO (some a) Q = Q a := by unfold wO; rfl
theorem oN {Q : α → Prop} : wO none Q = False := by unfold wO; rfl
theorem sN : wS (.nx g m) pN pR pB pC pX = pN g m := by unfold wS; rfl
theorem sR : wS (.rt v m) pN pR pB pC pX = pR v m := by unfold wS; rfl
theorem sK : wS (.bk g m) pN pR pB pC pX = pB g m := by unfold wS; rfl
theorem sC : wS (.ct g m) pN pR pB pC pX = pC g m := by unfold wS; rfl
theorem sX : wS (.ex c fs g m) pN pR pB pC pX = pX c fs g m := by unfold wS; rfl
theorem sB : wS .bad pN pR pB pC pX = False := by unfold wS; rfl
end
section
variable {α β : Type} {g : Gam} {m : Cells} {E : EX}
theorem wR_mono {r : Rs α} {Q Q' : α → Cells → Prop} (h : wR r Q E) (k : ∀ a m, Q a m → Q' a m) : wR r Q' E := by
  cases r with
  | ok a m => rw [rE] at h ⊢; exact k a m h
  | ex c fs m => rw [rX] at h ⊢; exact h
  | bad => rw [rB] at h; exact h.elim
theorem wR_eq {r : Rs α} {Q : α → Cells → Prop} {a : α} {m' : Cells} (h : r = .ok a m') (q : Q a m') : wR r Q E := by rw [h, rE]; exact q
theorem wR_ex {r : Rs α} {Q : α → Cells → Prop} {c : Nat} {fs : List Dt} {m' : Cells} (h : r = .ex c fs m') (q : E c fs m') : wR r Q E := by rw [h, rX]; exact q
theorem wR_ok {r : Rs α} {Q : α → Cells → Prop} (h : wR r Q eNo) : ∃ a m', r = .ok a m' ∧ Q a m' := by
  cases r with
  | ok a m => rw [rE] at h; exact ⟨a, m, rfl, h⟩
  | ex c fs m => rw [rX] at h; exact h.elim
  | bad => rw [rB] at h; exact h.elim
theorem wO_eq {o : Option α} {Q : α → Prop} {a : α} (h : o = some a) (q : Q a) : wO o Q := by rw [h, oE]; exact q
theorem wO_ok {o : Option α} {Q : α → Prop} (h : wO o Q) : ∃ a, o = some a ∧ Q a := by
  cases o with
  | some a => rw [oE] at h; exact ⟨a, rfl, h⟩
  | none => rw [oN] at h; exact h.elim
theorem wS_mono {o : Out} {pN pB pC : PN} {pR : PR} {pX : PX} {qN qB qC : PN} {qR : PR} {qX : PX} (h : wS o pN pR pB pC pX) (h1 : ∀ g m, pN g m → qN g m) (h2 : ∀ v m, pR v m → qR v m) (h3 : ∀ g m, pB g m → qB g m) (h4 : ∀ g m, pC g m → qC g m) (h5 : ∀ c fs g m, pX c fs g m → qX c fs g m) : wS o qN qR qB qC qX := by
  cases o with
  | nx g m => rw [sN] at h ⊢; exact h1 g m h
  | rt v m => rw [sR] at h ⊢; exact h2 v m h
  | bk g m => rw [sK] at h ⊢; exact h3 g m h
  | ct g m => rw [sC] at h ⊢; exact h4 g m h
  | ex c fs g m => rw [sX] at h ⊢; exact h5 c fs g m h
  | bad => rw [sB] at h; exact h.elim
theorem w_bind {r : Rs α} {k : α → Cells → Rs β} {Q : β → Cells → Prop} (h : wR r (fun a m => wR (k a m) Q E) E) : wR (r.bind k) Q E := by
  cases r with
  | ok a m => rw [rE] at h; exact h
  | ex c fs m => rw [rX] at h; exact (rX (Q := Q)).symm ▸ h
  | bad => rw [rB] at h; exact h.elim
theorem w_then {r : Rs α} {k : α → Cells → Out} {pN pB pC : PN} {pR : PR} {pX : PX} (h : wR r (fun a m => wS (k a m) pN pR pB pC pX) (fun c fs m => pX c fs g m)) : wS (r.then g k) pN pR pB pC pX := by
  cases r with
  | ok a m => rw [rE] at h; exact h
  | ex c fs m => rw [rX] at h; exact sX.symm ▸ h
  | bad => rw [rB] at h; exact h.elim
theorem w_ofO {o : Option α} {Q : α → Cells → Prop} (h : wO o fun a => Q a m) : wR (ofO m o) Q E := by
  obtain ⟨a, rfl, q⟩ := wO_ok h
  exact wR_eq rfl q
/-! expressions -/
section
variable {Q : Vl → Cells → Prop} {ma mb mc : ME} {mr : MA}
theorem w_var {i : Nat} {d : Vl} (h : g[i]? = some (some d)) (q : Q d m) : wR (mVar i g m) Q E := by exact wR_eq (by unfold mVar; rw [h]) q
theorem w_c {d : Dt} (q : Q (.d d) m) : wR (mC d g m) Q E := wR_eq rfl q
theorem w_op {f : O2} (h : wR (ma g m) (fun x m1 => wR (mb g m1) (fun y m2 => wO (f m2 x y) fun d => Q d m2) E) E) : wR (mOp f ma mb g m) Q E :=
  w_bind (wR_mono h fun x m1 h => w_bind (wR_mono h fun y m2 h => w_ofO h))
theorem w_un {f : O1} (h : wR (ma g m) (fun x m1 => wO (f m1 x) fun d => Q d m1) E) : wR (mUn f ma g m) Q E :=
  w_bind (wR_mono h fun x m1 h => w_ofO h)
theorem w_nil {Q : List Vl → Cells → Prop} (q : Q [] m) : wR (mNil g m) Q E := wR_eq rfl q
theorem w_cons {Q : List Vl → Cells → Prop} (h : wR (ma g m) (fun x m1 => wR (mr g m1) (fun xs m2 => Q (x :: xs) m2) E) E) : wR (mCons ma mr g m) Q E :=
  w_bind (wR_mono h fun x m1 h => w_bind (wR_mono h fun _ _ h => wR_eq rfl h))
theorem w_call {F : Fn} (h : wR (mr g m) (fun xs m1 => wR (F xs m1) Q E) E) : wR (mCall F mr g m) Q E := w_bind h
theorem w_cb {f : ON} (h : wR (mr g m) (fun xs m1 => wO (f m1 xs) fun d => Q d m1) E) : wR (mCB f mr g m) Q E := w_bind (wR_mono h fun x m1 h => w_ofO h)
theorem w_lst (h : wR (mr g m) (fun vs m1 => wO (dats vs) fun ds => szOk ds.length = true ∧ Q (.d (.lst ds)) m1) E) : wR (mLst mr g m) Q E := w_bind (wR_mono h fun x m1 h => by
  obtain ⟨ds, e, h1, q⟩ := wO_ok h
  simp only [e, h1, if_true]; exact wR_eq rfl q)
theorem w_lstC (h : wR (mr g m) (fun vs m1 => wO (dats vs) fun ds => szOk ds.length = true ∧ Q (.ref m1.length) (m1 ++ [some (.lst ds)])) E) : wR (mLstC mr g m) Q E := w_bind (wR_mono h fun x m1 h => by
  obtain ⟨ds, e, h1, q⟩ := wO_ok h
  simp only [e, h1, if_true]; exact wR_eq rfl q)
/-- a test's value -/
@[irreducible] def wB (v : Vl) (Q : Bool → Prop) : Prop := ∃ b, v = .d (.bl b) ∧ Q b
theorem w_B {b : Bool} {Q : Bool → Prop} (q : Q b) : wB (.d (.bl b)) Q := by unfold wB; exact ⟨b, rfl, q⟩
theorem wB_ok {v : Vl} {Q : Bool → Prop} (h : wB v Q) : ∃ b, v = .d (.bl b) ∧ Q b := by unfold wB at h; exact h
theorem w_test {Q : Bool → Cells → Prop} (h : wR (ma g m) (fun v m1 => wB v fun b => Q b m1) E) : wR (mTest ma g m) Q E := w_bind (wR_mono h fun x m1 h => by
  obtain ⟨b, rfl, q⟩ := wB_ok h
  exact wR_eq rfl q)
theorem w_or {t u : MT} {Q : Bool → Cells → Prop} (h : wR (t g m) (fun b m1 => (b = true → Q true m1) ∧ (b = false → wR (u g m1) Q E)) E) : wR (mOr t u g m) Q E := w_bind (wR_mono h fun b m1 h => by
  cases b with
  | true => exact wR_eq rfl (h.1 rfl)
  | false => exact h.2 rfl)
theorem w_not {t : MT} {Q : Bool → Cells → Prop} (h : wR (t g m) (fun b m1 => Q (!b) m1) E) : wR (mNot t g m) Q E := w_bind (wR_mono h fun b m1 h => wR_eq rfl h)
theorem w_andV (h : wR (ma g m) (fun v m1 => wB v fun b => (b = true → wR (mb g m1) Q E) ∧ (b = false → Q (.d (.bl false)) m1)) E) : wR (mAndV ma mb g m) Q E := w_bind (wR_mono h fun v m1 h => by
  obtain ⟨b, rfl, h2⟩ := wB_ok h; clear h; have h := h2
  cases b with
  | true => exact h.1 rfl
  | false => exact wR_eq rfl (h.2 rfl))
/-- a method of a list that may change -/
@[irreducible] def wMl (f : OM) (k : Nat) (m : Cells) (ys : List Vl) (Q : Vl → Cells → Prop) : Prop := wO (isL m[k]?) fun ds => wO (f ds m ys) fun p => Q p.1 (m.set k (some (.lst p.2)))
theorem w_Ml {f : OM} {k : Nat} {ys : List Vl} {ds : List Dt} {p : Vl × List Dt} (h : isL m[k]? = some ds) (h2 : f ds m ys = some p) (q : Q p.1 (m.set k (some (.lst p.2)))) : wMl f k m ys Q := by unfold wMl; exact wO_eq h (wO_eq h2 q)
theorem wMl_ok {f : OM} {k : Nat} {ys : List Vl} (h : wMl f k m ys Q) : wO (isL m[k]?) fun ds => wO (f ds m ys) fun p => Q p.1 (m.set k (some (.lst p.2))) := by unfold wMl at h; exact h
theorem w_m {f : OM} (h : wR (ma g m) (fun x m1 => ∃ k, x = .ref k ∧ (∃ ds, isL m1[k]? = some ds) ∧ wR (mr g m1) (fun ys m2 => wMl f k m2 ys Q) E) E) : wR (mM f ma mr g m) Q E :=
  w_bind (wR_mono h fun x m1 ⟨k, e, ⟨ds, e1⟩, h⟩ => by
    subst e
    simp only [e1]
    refine w_bind (wR_mono h fun ys m2 h => ?_)
    obtain ⟨ds2, e2, h⟩ := wO_ok (wMl_ok h)
    obtain ⟨p, e3, h⟩ := wO_ok h
    simp only [e2, e3]
    exact wR_eq rfl h)
theorem w_frz (h : wR (ma g m) (fun x m1 => (∃ k ds, x = .ref k ∧ isL m1[k]? = some ds ∧ Q (.d (.lst ds)) (m1.set k none)) ∨ ∃ d, x = .d d ∧ Q (.d d) m1) E) : wR (mFrz ma g m) Q E :=
  w_bind (wR_mono h fun x m1 h => by
    rcases h with ⟨k, ds, rfl, e, q⟩ | ⟨d, rfl, q⟩
    · simp only [e]; exact wR_eq rfl q
    · exact wR_eq rfl q)
/-! slices -/
/-! dicts -/
/-! what is walked -/
theorem w_itA {f : List Vl → Option (List Dt)} {Q : List Dt → Cells → Prop} (h : wR (mr g m) (fun x m1 => wO (f x) fun xs => Q xs m1) E) : wR (mItA mr f g m) Q E := w_bind (wR_mono h fun x m1 h => w_ofO h)
/-! list comprehensions -/
theorem w_lcLoop {mg : MG} {mt : MT} {me : ME} {g0 : Gam} {Q : List Dt → Cells → Prop} (I : List Dt → List Dt → Cells → Prop)
    (hs : ∀ x r acc m, I (x :: r) acc m → wO (mg (.d x) g0 m) fun p => wR (mt p.1 p.2) (fun b m2 => (b = true → wR (me p.1 m2) (fun v m3 => ∃ d, v = .d d ∧ szOk (acc.length + 1) = true ∧ I r (acc ++ [d]) m3) eNo) ∧ (b = false → I r acc m2)) eNo)
    (he : ∀ acc m, I [] acc m → Q acc m) : ∀ (xs acc : List Dt) (m : Cells), I xs acc m → wR (lcLoop mg mt me g0 xs acc m) Q E
  | [], acc, m, h => wR_eq rfl (he acc m h)
  | x :: r, acc, m, h => by
    unfold lcLoop
    obtain ⟨p, e, h1⟩ := wO_ok (hs x r acc m h)
    simp only [e]
    obtain ⟨b, m2, e2, h2⟩ := wR_ok h1
    simp only [e2]
    cases b with
    | false => exact w_lcLoop I hs he r acc m2 (h2.2 rfl)
    | true =>
      obtain ⟨v, m3, e3, d, rfl, h3, h4⟩ := wR_ok (h2.1 rfl)
      simp only [e3, h3, if_true]
      exact w_lcLoop I hs he r (acc ++ [d]) m3 h4
theorem w_lc {mi : MI} {mg : MG} {mt : MT} {me : ME} {own : List Nat} (h : wR (mi g m) (fun xs m1 => wR (lcLoop mg mt me (wipeG g own) xs [] m1) (fun acc m2 => Q (.d (.lst acc)) m2) E) E) : wR (mLc mi mg mt me own g m) Q E := w_bind (wR_mono h fun xs m1 h => w_bind (wR_mono h fun _ _ h => wR_eq rfl h))
end
/-! targets -/
theorem w_nm {i : Nat} {d : Vl} {N : Gam × Cells → Prop} (q : N (g.set i (some d), m)) : wO (gNm i d g m) N := wO_eq rfl q
theorem w_gnil {N : Gam × Cells → Prop} (q : N (g, m)) : wO (gsNil [] g m) N := wO_eq rfl q
theorem w_gcons {mg : MG} {mr : MGs} {d : Dt} {r : List Dt} {N : Gam × Cells → Prop} (h : wO (mg (.d d) g m) fun p => wO (mr r p.1 p.2) N) : wO (gsCons mg mr (d :: r) g m) N := by
  obtain ⟨p, e, q⟩ := wO_ok h
  show wO ((mg (.d d) g m).bind _) N
  rw [e]; exact q
theorem w_gtp {n : Nat} {mr : MGs} {ds : List Dt} {N : Gam × Cells → Prop} (hn : ds.length = n) (h : wO (mr ds g m) N) : wO (gTp n mr (.d (.tup ds)) g m) N := by
  show wO (if ds.length = n then mr ds g m else none) N
  rw [if_pos hn]; exact h
/-! statements -/
section
variable {pN pB pC : PN} {pR : PR} {pX : PX} {s t : MS} {me mo mi mv : ME} {mr : MA} {mg : MG}
theorem w_seq (h : wS (s g m) (fun g' m' => wS (t g' m') pN pR pB pC pX) pR pB pC pX) : wS (mSeq s t g m) pN pR pB pC pX := by
  unfold mSeq
  cases e : s g m with
  | nx g' m' => rw [e, sN] at h; exact h
  | rt v m' => rw [e, sR] at h; rw [sR]; exact h
  | bk g' m' => rw [e, sK] at h; rw [sK]; exact h
  | ct g' m' => rw [e, sC] at h; rw [sC]; exact h
  | ex c fs g' m' => rw [e, sX] at h; rw [sX]; exact h
  | bad => rw [e, sB] at h; exact h.elim
theorem w_asg (h : wR (me g m) (fun d m1 => wO (mg d g m1) fun p => pN p.1 p.2) (fun c fs m => pX c fs g m)) : wS (mAsg me mg g m) pN pR pB pC pX := w_then (wR_mono h fun d m1 h => by
  obtain ⟨p, e, q⟩ := wO_ok h
  rw [e]; exact sN.symm ▸ q)
theorem w_drop (h : wR (me g m) (fun _ m1 => pN g m1) (fun c fs m => pX c fs g m)) : wS (mDrop me g m) pN pR pB pC pX := w_then (wR_mono h fun _ _ h => sN.symm ▸ h)
theorem w_ret (h : wR (me g m) (fun d m1 => pR d m1) (fun c fs m => pX c fs g m)) : wS (mRet me g m) pN pR pB pC pX := w_then (wR_mono h fun _ _ h => sR.symm ▸ h)
theorem w_next (h : pN g m) : wS (mNext g m) pN pR pB pC pX := by unfold mNext; rw [sN]; exact h
theorem w_if {c : MT} (h : wR (c g m) (fun b m1 => (b = true → wS (s g m1) pN pR pB pC pX) ∧ (b = false → wS (t g m1) pN pR pB pC pX)) (fun c fs m => pX c fs g m)) : wS (mIfS c s t g m) pN pR pB pC pX := w_then (wR_mono h fun b m1 h => by
  cases b with
  | true => exact h.1 rfl
  | false => exact h.2 rfl)
/-! loops -/
theorem w_turn {o : Out} {k : Gam → Cells → Out} (h : wS o (fun g m => wS (k g m) pN pR pB pC pX) pR pN (fun g m => wS (k g m) pN pR pB pC pX) pX) : wS (turn o k) pN pR pB pC pX := by
  cases o with
  | nx g' m' => rw [sN] at h; exact h
  | rt v m' => rw [sR] at h; exact sR.symm ▸ h
  | bk g' m' => rw [sK] at h; exact sN.symm ▸ h
  | ct g' m' => rw [sC] at h; exact h
  | ex c fs g' m' => rw [sX] at h; exact sX.symm ▸ h
  | bad => rw [sB] at h; exact h.elim
theorem w_loop (I : List Dt → Gam → Cells → Prop)
    (hs : ∀ x r g m, I (x :: r) g m → wO (mg (.d x) g m) fun p => wS (s p.1 p.2) (I r) pR pN (I r) pX)
    (he : ∀ g m, I [] g m → pN g m) : ∀ (xs : List Dt) (g : Gam) (m : Cells), I xs g m → wS (mLoop mg s xs g m) pN pR pB pC pX
  | [], g, m, h => by unfold mLoop; rw [sN]; exact he g m h
  | x :: r, g, m, h => by
    unfold mLoop
    obtain ⟨p, e, h1⟩ := wO_ok (hs x r g m h)
    simp only [e]
    exact w_turn (wS_mono h1 (fun g' m' h => w_loop I hs he r g' m' h) (fun _ _ h => h) (fun _ _ h => h) (fun g' m' h => w_loop I hs he r g' m' h) (fun _ _ _ _ h => h))
theorem w_for {mi : MI} (h : wR (mi g m) (fun xs m1 => wS (mLoop mg s xs g m1) pN pR pB pC pX) (fun c fs m => pX c fs g m)) : wS (mFor mi mg s g m) pN pR pB pC pX := w_then h
/-! defs -/
theorem w_Xd {k : Nat} {Q : Vl → Cells → Prop} {d : Dt} (q : Q (.d d) (m.take k)) : wX k Q (.d d) m := by unfold wX; exact q
theorem w_run {n N : Nat} {es : List Vl} {Q : Vl → Cells → Prop} {g : Gam} (hn : es.length = n) (hg : g = es.map some ++ List.replicate (N - n) none)
    (h : wS (s g m) (fun _ m' => Q (.d .non) (m'.take m.length)) (wX m.length Q) (fun _ _ => False) (fun _ _ => False) (fun c fs _ m' => E c fs (m'.take m.length))) : wR (runFn n N s es m) Q E := by
  subst hg
  unfold runFn
  rw [if_pos hn]
  cases e : s (es.map some ++ List.replicate (N - n) none) m with
  | nx g' m' => rw [e, sN] at h; exact wR_eq rfl h
  | rt v m' =>
    rw [e, sR] at h
    cases v with
    | d d => unfold wX at h; exact wR_eq rfl h
    | lam z => unfold wX at h; exact h.elim
    | ref j =>
      unfold wX at h
      have h : if j < m.length then Q (.ref j) (m'.take m.length) else ∃ c, m'[j]? = some (some c) ∧ c.isOb = false ∧ Q (.ref m.length) (m'.take m.length ++ [some c]) := h
      by_cases hj : j < m.length
      · rw [if_pos hj] at h
        simp only [exitF, if_pos hj]; exact wR_eq rfl h
      · rw [if_neg hj] at h
        obtain ⟨c, e1, ho, q⟩ := h
        have e : exitF m.length (.rt (.ref j) m') = .ok (.ref m.length) (m'.take m.length ++ [some c]) := by
          simp only [exitF, if_neg hj, e1, ho]; rfl
        rw [e]; exact wR_eq rfl q
  | bk g' m' => rw [e, sK] at h; exact h.elim
  | ct g' m' => rw [e, sC] at h; exact h.elim
  | ex c fs g' m' => rw [e, sX] at h; exact wR_ex rfl h
  | bad => rw [e, sB] at h; exact h.elim
end
end
end FM
namespace FM
open PySem PySem.Spec PyProof.Rows L2
/-! ### leaves -/
section
variable {m : Cells} {Q : Vl → Prop} {x y : Vl} {i j : Int} {a b : Str} {d e : Dt} {ds es : List Dt} {p : Bool}
theorem sz_le {n : Nat} (h : n ≤ 16777216) : szOk n = true := decide_eq_true h
theorem w_dats {vs : List Vl} {K : List Dt → Prop} (h : dats vs = some ds) (q : K ds) : wO (dats vs) K := wO_eq h q
theorem wo_II {f : Int → Int → Int} (q : Q (.d (.int (f i j)))) : wO (oII f m (.d (.int i)) (.d (.int j))) Q := wO_eq rfl q
theorem wo_IB {f : Int → Int → Bool} (q : Q (.d (.bl (f i j)))) : wO (oIB f m (.d (.int i)) (.d (.int j))) Q := wO_eq rfl q
theorem wo_Ic {c : Int → Int → Bool} {f : Int → Int → Int} (h : c i j = true) (q : Q (.d (.int (f i j)))) : wO (oIc c f m (.d (.int i)) (.d (.int j))) Q := wO_eq (by simp only [oIc, h, if_true]) q
theorem wo_eqI (q : Q (.d (.bl (decide (i = j))))) : wO (oEq m (.d (.int i)) (.d (.int j))) Q := wO_eq rfl q
theorem wo_eqS (q : Q (.d (.bl (decide (a = b))))) : wO (oEq m (.d (.str a)) (.d (.str b))) Q := wO_eq rfl q
theorem wo_catS (h : a.length + b.length ≤ 16777216) (q : Q (.d (.str (a ++ b)))) : wO (oCatS m (.d (.str a)) (.d (.str b))) Q := wO_eq (by simp only [oCatS, sz_le h, if_true]) q
theorem wo_ixL (h : lstOf m x = some ds) (h2 : atI ds i = some d) (q : Q (.d d)) : wO (oIxL m x (.d (.int i))) Q := wO_eq (by simp only [oIxL, h, h2, Option.map_some]) q
theorem wo_ixS {c : Nat} (h : a.length ≤ 16777216) (h2 : atI a.cps.toList i = some c) (q : Q (.d (.str ⟨#[c]⟩))) : wO (oIxS m (.d (.str a)) (.d (.int i))) Q := wO_eq (by simp only [oIxS, sz_le h, if_true, h2, Option.map_some]) q
theorem wo_catL (h : lstOf m x = some ds) (h2 : lstOf m y = some es) (h3 : ds.length + es.length ≤ 16777216) (q : Q (.d (.lst (ds ++ es)))) : wO (oCatL m x y) Q := wO_eq (by simp only [oCatL, h, h2, sz_le h3, if_true]) q
theorem wo_len (h : (lstOf m x).or (tupOf x) = some ds) (q : Q (.d (.int (ds.length : Nat)))) : wO (nLen m [x]) Q := wO_eq (by simp only [nLen, h, Option.map_some]) q
theorem wo_rng1 {Q : List Dt → Prop} (h : -1000000000000 ≤ i ∧ i ≤ 1000000000000) (q : Q (rangeD 0 i.toNat)) : wO (isRng1 [.d (.int i)]) Q := wO_eq (by
  have e : okR i = true := by unfold okR; exact decide_eq_true ⟨by omega, by omega⟩
  simp only [isRng1, e, if_true]) q
theorem wo_zip {Q : List Dt → Prop} (q : Q (zipD ds es)) : wO (isZip [.d (.lst ds), .d (.lst es)]) Q := wO_eq rfl q
/-! putting into a dict that may change -/
end
section
variable {g : Gam} {m : Cells} {E : EX} {Q : Vl → Cells → Prop} {ma : ME} {mr : MA}
/-- append -/
theorem w_app (h : wR (ma g m) (fun x m1 => ∃ k ds, x = .ref k ∧ m1[k]? = some (some (.lst ds)) ∧ wR (mr g m1) (fun ys m2 => ∃ d ds, ys = [.d d] ∧ m2[k]? = some (some (.lst ds)) ∧ ds.length < 16777216 ∧ Q (.d .non) (m2.set k (some (.lst (ds ++ [d]))))) E) E) : wR (mM fAppend ma mr g m) Q E :=
  w_m (wR_mono h fun x m1 ⟨k, ds, e1, e2, h⟩ => ⟨k, e1, ⟨ds, by rw [e2]; rfl⟩, wR_mono h fun ys m2 ⟨d, ds, e3, e4, e5, q⟩ => by
    subst e3
    exact w_Ml (p := (.d .non, ds ++ [d])) (by rw [e4]; rfl) (by simp only [fAppend, sz_le (show ds.length + 1 ≤ 16777216 by omega), if_true]) q⟩)
theorem w_frzL (h : wR (ma g m) (fun x m1 => ∃ k ds, x = .ref k ∧ m1[k]? = some (some (.lst ds)) ∧ Q (.d (.lst ds)) (m1.set k none)) E) : wR (mFrz ma g m) Q E :=
  w_frz (wR_mono h fun x m1 ⟨k, ds, e1, e2, q⟩ => .inl ⟨k, ds, e1, by rw [e2]; rfl, q⟩)
theorem w_rl {j : Nat} {ds : List Dt} {p : Nat → List Dt → Prop} (h : m[j]? = some (some (.lst ds))) (q : p j ds) : ∃ k ds, Vl.ref j = .ref k ∧ m[k]? = some (some (.lst ds)) ∧ p k ds := ⟨j, ds, rfl, h, q⟩
theorem w_ad {k : Nat} {d : Dt} {ds : List Dt} {p : Dt → List Dt → Prop} (h : m[k]? = some (some (.lst ds))) (hl : ds.length < 16777216) (q : p d ds) : ∃ d' ds, [Vl.d d] = [.d d'] ∧ m[k]? = some (some (.lst ds)) ∧ ds.length < 16777216 ∧ p d' ds := ⟨d, ds, rfl, h, hl, q⟩
theorem w_yes {Q : Bool → Cells → Prop} (q : Q true m) : wR (mYes g m) Q E := wR_eq rfl q
theorem w_sz {n : Nat} {p : Prop} (h : n ≤ 16777216) (q : p) : szOk n = true ∧ p := ⟨sz_le h, q⟩
theorem w_tt {A B : Prop} (a : A) : (true = true → A) ∧ (true = false → B) := ⟨fun _ => a, (fun h => nomatch h)⟩
theorem w_ff {A B : Prop} (b : B) : (false = true → A) ∧ (false = false → B) := ⟨(fun h => nomatch h), fun _ => b⟩
theorem w_d {P A B : Prop} [Decidable P] (a : P → A) (b : ¬ P → B) : (decide P = true → A) ∧ (decide P = false → B) := ⟨fun e => a (of_decide_eq_true e), fun e => b (of_decide_eq_false e)⟩
end
end FM
namespace FS
open PySem PySem.Spec PyProof.Rows L2 PySem.Froz
/-! ### sets of texts: which ones, each once -/
def addL (L : List Str) (k : Str) : List Str := if k ∈ L then L else k :: L
theorem tail_tab {ep : Nat} {es : Array (Int × Value)} {t : SetTable} {b : Bool} (r : Ris t.place.toList) : Ris (tailTx ep es t b).2.2.place.toList ∧ (tailTx ep es t b).2.2.led = t.led := by
  unfold tailTx
  split
  · exact ⟨relayAll_ris t es _, relayAll_led t es _⟩
  · exact ⟨r, rfl⟩
theorem add_tab {h : Int} {v : Value} {D : SD} (r : Ris D.2.2.place.toList) : Ris (addTx h v D).2.2.place.toList ∧ (addTx h v D).2.2.led = D.2.2.led := by
  have r1 := layNew_ris D.2.2 D.1 h v r
  have l1 := layNew_led D.2.2 D.1 h v
  unfold addTx
  by_cases c : (layNew D.2.2 D.1 h v).2.1.plain = true
  · rw [if_pos c]
    have := tail_tab (ep := D.2.1) (es := (layNew D.2.2 D.1 h v).1) (t := { (layNew D.2.2 D.1 h v).2.1 with plain := false }) (b := (layNew D.2.2 D.1 h v).2.2.1) r1
    exact ⟨this.1, this.2.trans l1⟩
  · rw [if_neg c]
    have := tail_tab (ep := D.2.1) (es := (layNew D.2.2 D.1 h v).1) (t := (layNew D.2.2 D.1 h v).2.1) (b := (layNew D.2.2 D.1 h v).2.2.1) r1
    exact ⟨this.1, this.2.trans l1⟩
section
variable {P : Program} {w : World} {A : Around} {E : Value → Shared → Prop} {s : Shared} {h h' : Heap} {a : Addr} {L : List Str}
theorem TxS.fresh : TxS P w (h.push { cls := .type "set", dict := none, data := .set #[] 0 (.fresh 0 0 (!w.params.followText "set-order")) }) h.objs.size [] :=
  ⟨(#[], 0, .fresh 0 0 (!w.params.followText "set-order")), Heap.get?_push_size _ rfl, TxOk.nil (by rfl), List.Pairwise.nil, by
    show _ ∨ (!w.params.followText "set-order") = true
    cases w.params.followText "set-order" with
    | false => exact .inr rfl
    | true => exact .inl rfl, List.nodup_nil⟩
/-- it is there already -/
theorem has_add {D : SD} {k : Str} {u : Tok} {Q : Bool → Shared → Prop} (ho : s.heap.get? a = some (sObj "set" D)) (F : TxOk P w D L) (hk : k ∈ L) (hb : L.length < scanBound) (q : Q false s) :
    wpAny (model P w) A (setAddHashed a (.str k u) (hashStr w k)) Q E s := by
  obtain ⟨es, ep, t⟩ := D
  have hsz : es.size = L.length := F.sz
  unfold setAddHashed setAddHashedIn
  refine wpAny_holding (wpAny_bind (wpAny_setState_of (es := es) (ep := ep) (t := t) ho rfl F.fit ?_))
  dsimp only
  have hel : ElemsOf (strKind P w) es.toList := F.el
  have hb0 : es.size < scanBound := by omega
  rw [byScan_of (x := .str k u) rfl hb0 hel]
  simp only [↓reduceIte]
  unfold setAddByScan
  refine wpAny_bind (wpAny_bind (wpAny_rule (wpAny_bind (wpAny_setScan_of (knd := strKind P w) (k := k) (is_str k u) ho rfl F.fit F.el ?_))))
  cases e : List.findIdx? (fun e => (strKind P w).is k e.2) es.toList with
  | none =>
    obtain ⟨x, hx, qx⟩ := (F.mem k).mp hk
    have c := List.findIdx?_eq_none_iff.mp e x hx
    rw [qx] at c
    cases c
  | some j =>
    dsimp only
    exact wpAny_pure (wpAny_pure q)
theorem TxS.add {k : Str} {u : Tok} {Q : Bool → Shared → Prop} (R : TxS P w s.heap a L) (room : L.length + 1 < scanBound)
    (q : ∀ h' b, Heap.SameBut a s.heap h' → TxS P w h' a (addL L k) → Q b { s with heap := h' }) : wpAny (model P w) A (setAddHashed a (.str k u) (hashStr w k)) Q E s := by
  obtain ⟨D, ho, F, r, l, nd⟩ := R
  by_cases hk : k ∈ L
  · have e : addL L k = L := if_pos hk
    rw [e] at q
    exact has_add ho F hk (by omega) (q s.heap false (Heap.SameBut.refl a s.heap) ⟨D, ho, F, r, l, nd⟩)
  · have e : addL L k = k :: L := if_neg hk
    rw [e] at q
    refine add_x ho F hk room (q _ true (Heap.SameBut.update s.heap a _) ⟨_, get_upd _ ho rfl, add_ok u F, (add_tab r).1, l.imp id fun z => (by rw [(add_tab r).2]; exact z), List.nodup_cons.mpr ⟨hk, nd⟩⟩)
theorem TxS.typeIs (R : TxS P w s.heap a L) : s.TypeIs (.ref a) "set" := let ⟨D, ho, _⟩ := R; ⟨_, ho, rfl⟩
theorem TxS.call {k : Str} {u : Tok} {Q : Value → Shared → Prop} (R : TxS P w s.heap a L) (room : L.length + 1 < scanBound)
    (q : ∀ h', Heap.SameBut a s.heap h' → TxS P w h' a (addL L k) → Q .none { s with heap := h', toks := s.toks + 1 }) : wpAny (model P w) A (call (.builtin "set.add") [.ref a, .str k u]) Q E s := by
  refine wpAny_call_entry F.slot_set_add R.typeIs F.entry_set_add ?_ (F.args_set_add_2 _ _)
  unfold Builtin.«set.add» Builtin.Frozenset.oneOther
  simp only [List.isEmpty_nil, bind_assoc]
  unfold Builtin.Frozenset.addrOf setAdd
  refine wpAny_bind (wpAny_pure ?_)
  try dsimp only
  refine wpAny_bind (wpAny_pure ?_)
  try dsimp only
  refine wpAny_bind (wpAny_holding (wpAny_bind ((strKind P w).pyHash (is_str k u) ?_)))
  refine TxS.add (s := { s with toks := s.toks + 1 }) R room fun h' b sb r => ?_
  show wpAny _ _ (ret Value.none) _ _ _
  exact wpAny_pure ⟨_, rfl, q h' sb r⟩
/-! sorted(the set) -/
end
/-- the set of texts at a -/
def SetTx (P : Program) (w : World) (a : Addr) (L : List Str) : HO := .ext fun h => TxS P w h a L
end FS
namespace FS
open PySem PySem.Spec PyProof.Rows L2 PySem.Froz PpSet
/-! ### {text for .. in .. for .. in ..}: the machine's turns -/
section
variable {P : Program} {w : World} {A : Around} {R : Result → Shared → Prop} {s : Shared} {elt t0 i0 t1 i1 : Expr} {c0 c1 : List Expr} {scope : Scope} {pos : Pos} {it acc : Value} {env : Env}
end
/-! ### the block -/
end FS
namespace FS
open PySem PySem.Spec PyProof.Rows L2 PySem.Froz PpSet
end FS
namespace FM
open PySem PySem.Spec PyProof.Rows L2 FS
/-! ### texts in order, each once -/
abbrev ltS (a b : Str) : Bool := ltCps a.cps.toList b.cps.toList
def insU (k : Str) : List Str → List Str
  | [] => [k]
  | x :: r => if k = x then x :: r else if ltS k x then k :: x :: r else x :: insU k r
def sortU (zs : List Str) : List Str := zs.foldr insU []
/-! ### sorted({.. for ..}) -/
def scLoop (mg : MG) (mt : MT) (me : ME) (g0 : Gam) : List Dt → List Str → Cells → Rs (List Str)
  | [], acc, m => .ok acc m
  | x :: r, acc, m => match mg (.d x) g0 m with
    | none => .bad
    | some p => match mt p.1 p.2 with
      | .ok true m2 => (match me p.1 m2 with
        | .ok (.d (.str z)) m3 => if acc.length < 63 then scLoop mg mt me g0 r (acc ++ [z]) m3 else .bad
        | _ => .bad)
      | .ok false m2 => scLoop mg mt me g0 r acc m2
      | _ => .bad
def sorted_ (m : Cells) (zs : List Str) : Rs Vl := if zs.length < 64 then .ok (.d (.lst ((sortU zs).map .str))) m else .bad
def mSortC (mi : MI) (mg : MG) (mt : MT) (me : ME) (own : List Nat) : ME := fun g m => (mi g m).bind fun xs m1 => (scLoop mg mt me (wipeG g own) xs [] m1).bind fun zs m2 => sorted_ m2 zs
end FM
namespace FM
open PySem PySem.Spec PyProof.Rows L2 FS
/-! ### two clauses -/
def scLoop2 (mg : MG) (mt : MT) (mi1 : MI) (mg1 : MG) (mt1 : MT) (me : ME) (own1 : List Nat) (g0 : Gam) : List Dt → List Str → Cells → Rs (List Str)
  | [], acc, m => .ok acc m
  | x :: r, acc, m => match mg (.d x) g0 m with
    | none => .bad
    | some p => match mt p.1 p.2 with
      | .ok true m2 => (match mi1 p.1 m2 with
        | .ok ys m3 => (scLoop mg1 mt1 me (wipeG p.1 own1) ys acc m3).bind fun acc' m4 => scLoop2 mg mt mi1 mg1 mt1 me own1 g0 r acc' m4
        | _ => .bad)
      | .ok false m2 => scLoop2 mg mt mi1 mg1 mt1 me own1 g0 r acc m2
      | _ => .bad
def mSortC2 (mi : MI) (mg : MG) (mt : MT) (mi1 : MI) (mg1 : MG) (mt1 : MT) (me : ME) (own own1 : List Nat) : ME := fun g m => (mi g m).bind fun xs m1 => (scLoop2 mg mt mi1 mg1 mt1 me own1 (wipeG g own) xs [] m1).bind fun zs m2 => sorted_ m2 zs
end FM
namespace FM
open PySem PySem.Spec PyProof.Rows L2 FS
/-! ### [.. for .. for ..] -/
def lcLoop2 (mg : MG) (mt : MT) (mi1 : MI) (mg1 : MG) (mt1 : MT) (me : ME) (own1 : List Nat) (g0 : Gam) : List Dt → List Dt → Cells → Rs (List Dt)
  | [], acc, m => .ok acc m
  | x :: r, acc, m => match mg (.d x) g0 m with
    | none => .bad
    | some p => match mt p.1 p.2 with
      | .ok true m2 => (match mi1 p.1 m2 with
        | .ok ys m3 => (lcLoop mg1 mt1 me (wipeG p.1 own1) ys acc m3).bind fun acc' m4 => lcLoop2 mg mt mi1 mg1 mt1 me own1 g0 r acc' m4
        | _ => .bad)
      | .ok false m2 => lcLoop2 mg mt mi1 mg1 mt1 me own1 g0 r acc m2
      | _ => .bad
def mLc2 (mi : MI) (mg : MG) (mt : MT) (mi1 : MI) (mg1 : MG) (mt1 : MT) (me : ME) (own own1 : List Nat) : ME := fun g m => (mi g m).bind fun xs m1 => (lcLoop2 mg mt mi1 mg1 mt1 me own1 (wipeG g own) xs [] m1).bind fun acc m2 => .ok (.d (.lst acc)) m2
end FM
namespace FS
open PySem PySem.Spec PyProof.Rows L2 PySem.Froz PpSet
/-! ### set(a list of texts) -/
def setFrom (zs : List Str) : List Str := zs.foldl addL []
section
variable {X : Cx}
def rSetL (K : PySem.W.Frag) (P : Program) (w : World) : List V → Hp → VK → Prop := fun xs H Q => ∃ (l : Addr) (zs : List Str), xs = [V.ref l] ∧ SqL K H l (zs.map V.str) ∧ zs.length < 64 ∧ ∀ a, H a = none → Q (.ref a) (upd H a (SetTx P w a (setFrom zs)))
end
end FS
namespace FM
open PySem PySem.Spec PyProof.Rows L2 FS
/-! ### sorted(set(xs)), sum(xs), max(xs), xs * n -/
def strsD : List Dt → Option (List Str)
  | [] => some []
  | .str z :: r => (strsD r).map (z :: ·)
  | _ :: _ => none
def mSortL (ma : ME) : ME := fun g m => (ma g m).bind fun x m1 => match (lstOf m1 x).bind strsD with
  | some zs => sorted_ m1 zs
  | none => .bad
/-! ### a dict that is done changing; dict(d) -/
def mFrzD (me : ME) : ME := fun g m => (me g m).bind fun x m1 => match x with
  | .ref k => match isD m1[k]? with
    | some p => .ok (.d (.dct p.1 p.2)) (m1.set k none)
    | none => .bad
  | .d d => .ok (.d d) m1
  | .lam z => .ok (.lam z) m1
end FM
namespace FM
open PySem PySem.Spec PyProof.Rows L2 FS
/-! ### a comprehension over a list that may change, and does not here -/
open Classical in
noncomputable def lcLoopV (k : Nat) (ds : List Dt) (mg : MG) (mt : MT) (me : ME) (g0 : Gam) : List Dt → List Dt → Cells → Rs (List Dt)
  | [], acc, m => if isL m[k]? = some ds then .ok acc m else .bad
  | x :: r, acc, m => if isL m[k]? = some ds then (match mg (.d x) g0 m with
    | none => .bad
    | some p => match mt p.1 p.2 with
      | .ok true m2 => (match me p.1 m2 with
        | .ok (.d d) m3 => if szOk (acc.length + 1) then lcLoopV k ds mg mt me g0 r (acc ++ [d]) m3 else .bad
        | _ => .bad)
      | .ok false m2 => lcLoopV k ds mg mt me g0 r acc m2
      | _ => .bad) else .bad
noncomputable def mLcV (m0 : ME) (mg : MG) (mt : MT) (me : ME) (own : List Nat) : ME := fun g m => (m0 g m).bind fun x m1 => match x with
  | .ref k => (match isL m1[k]? with
    | some ds => (lcLoopV k ds mg mt me (wipeG g own) ds [] m1).bind fun acc m2 => .ok (.d (.lst acc)) m2
    | none => .bad)
  | .d d => (match isLst (.d d) with
    | some xs => (lcLoop mg mt me (wipeG g own) xs [] m1).bind fun acc m2 => .ok (.d (.lst acc)) m2
    | none => .bad)
  | .lam _ => .bad
/-! ### sorted({..}), a new list that may change -/
def sortedC_ (m : Cells) (zs : List Str) : Rs Vl := if zs.length < 64 then .ok (.ref m.length) (m ++ [some (.lst ((sortU zs).map .str))]) else .bad
def mSortCC (mi : MI) (mg : MG) (mt : MT) (me : ME) (own : List Nat) : ME := fun g m => (mi g m).bind fun xs m1 => (scLoop mg mt me (wipeG g own) xs [] m1).bind fun zs m2 => sortedC_ m2 zs
def mSortC2C (mi : MI) (mg : MG) (mt : MT) (mi1 : MI) (mg1 : MG) (mt1 : MT) (me : ME) (own own1 : List Nat) : ME := fun g m => (mi g m).bind fun xs m1 => (scLoop2 mg mt mi1 mg1 mt1 me own1 (wipeG g own) xs [] m1).bind fun zs m2 => sortedC_ m2 zs
end FM
namespace FM
open PySem PySem.Spec PyProof.Rows L2 FS
end FM
namespace FM
open PySem PySem.Spec PyProof.Rows L2 FS
/-! ### weakest preconditions of the newer readings -/
end FM
namespace FM
open PySem PySem.Spec PyProof.Rows L2
/-! ### a + b of lists, a cell; dict(d), a cell -/
def mCatC (ma mb : ME) : ME := fun g m => (ma g m).bind fun x m1 => (mb g m1).bind fun y m2 => match oCatL m2 x y with
  | some (.d (.lst ds)) => .ok (.ref m2.length) (m2 ++ [some (.lst ds)])
  | _ => .bad
section
variable {X : Cx} {C : Fc} {e : Expr} {ma mb me : ME}
theorem fe_catC (h : PE X e (tOp (NK.rCatL C.T.K) (FE C ma) (FE C mb))) : PE X e (FE C (mCatC ma mb)) := pe_of h fun σ H Q ⟨B, g, S, m, vs, I, A, rl, w⟩ =>
  two_ok (k := fun x y m2 => match oCatL m2 x y with
    | some (.d (.lst ds)) => .ok (.ref m2.length) (m2 ++ [some (.lst ds)])
    | _ => .bad) rl w fun x y dx dy m2 H2 I2 A2 r2 w2 => by
    unfold oCatL at w2
    cases h1 : lstOf m2 dx with
    | none => simp only [h1] at w2; exact (show False from w2).elim
    | some as =>
      cases h2 : lstOf m2 dy with
      | none => simp only [h1, h2] at w2; exact (show False from w2).elim
      | some bs =>
        simp only [h1, h2] at w2
        by_cases hz : szOk (as.length + bs.length) = true
        · rw [if_pos hz] at w2
          obtain ⟨p, us, rfl, p1, p2⟩ := lstOf_ok r2.base r2.pop1.top h1
          obtain ⟨p', us', rfl, p1', p2'⟩ := lstOf_ok r2.base r2.top h2
          refine ⟨p, p', us, us', rfl, rfl, p1, p1', by rw [p2.len, p2'.len]; exact szOk_line hz, fun l hl => ?_⟩
          obtain ⟨b, e⟩ := r2.base.newC (o := .lst (us ++ us')) (c := .lst (as ++ bs)) hl ⟨us ++ us', upd_same, p2.app p2'⟩
          exact w2 _ _ _ _ ((r2.pop1.pop1.step b e).push (.ref (by rw [← r2.base.len]; exact last_get A2 l)))
        · rw [if_neg hz] at w2; exact (show False from w2).elim
def mDictC (me : ME) : ME := fun g m => (me g m).bind fun x m1 => match dctOf m1 x with
  | some p => .ok (.ref m1.length) (m1 ++ [some (.dct p.1 p.2)])
  | none => .bad
end
/-! ### f(a, .., k = v, ..) -/
theorem pick_vals {xs : List V} {us : List Value} (r : Vals xs us) : ∀ pm : List Nat, Vals (pick pm xs) (pick pm us)
  | [] => .nil
  | i :: pm => by
    have ih := pick_vals r pm
    unfold pick at *
    cases ei : xs[i]? with
    | none =>
      have e2 : us[i]? = none := by
        have := r.length
        rw [List.getElem?_eq_none_iff] at ei ⊢
        omega
      rw [List.filterMap_cons_none ei, List.filterMap_cons_none e2]
      exact ih
    | some x =>
      obtain ⟨u, e2, rx⟩ := r.get ei
      rw [List.filterMap_cons_some ei, List.filterMap_cons_some e2]
      exact .cons rx ih
theorem pick_vrs {T : Tab} {I : Hp} {A : List Addr} {xs : List V} {ds : List Vl} (r : VRs T I A xs ds) : ∀ pm : List Nat, VRs T I A (pick pm xs) (pick pm ds)
  | [] => .nil
  | i :: pm => by
    have ih := pick_vrs r pm
    unfold pick at *
    cases ei : ds[i]? with
    | none =>
      have e2 : xs[i]? = none := by
        have := r.len
        rw [List.getElem?_eq_none_iff] at ei ⊢
        omega
      rw [List.filterMap_cons_none ei, List.filterMap_cons_none e2]
      exact ih
    | some d =>
      obtain ⟨v, e2, rx⟩ := r.get ei
      rw [List.filterMap_cons_some ei, List.filterMap_cons_some e2]
      exact .cons rx ih
theorem vals_app {a b : List V} {c d : List Value} (h : Vals a c) (h2 : Vals b d) : Vals (a ++ b) (c ++ d) := h.append h2
theorem kbn_of {K : PySem.W.Frag} {x qual : Str} {params : Arguments} {body : List Stmt} {scope : Scope} {f : Addr} {fd : FuncData} {ps : List Str} (F : FunD K x qual params body scope [] [] f fd) (n : Nat) (ks : List Str) (pm : List Nat)
    (h : ∀ (kV doc pm' : Value) (an : Option Addr) (cdv ct : Value) (us ws : List Value), us.length = n → ws.length = ks.length → bindArgs (PySem.W.fnOf x qual params body scope .none kV doc pm' an cdv ct) ⟨us, ks.zip ws⟩ = pure (ps.zip (pick pm (us ++ ws)))) :
    KBn K fd ps n ks (fun us ws => pick pm (us ++ ws)) (fun vs zs => pick pm (vs ++ zs)) := by
  obtain ⟨oc, od, dV, kV, doc, pm', an, cdv, ct, osl, rfl, lk, hcd, hD, hK⟩ := F.ex
  rcases hD with ⟨_, rfl⟩ | ⟨e, _⟩
  · exact ⟨fun s us ws _ l1 l2 => .of_eq (h kV doc pm' an cdv ct us ws l1 l2), fun r1 r2 => pick_vals (vals_app r1 r2) pm⟩
  · exact absurd rfl e
section
variable {X : Cx} {C : Fc}
theorem pk_of {kws : List Keyword} {t t' : TA} (h : PK X kws t) (k : ∀ σ H Q, t' σ H Q → t σ H Q) : PK X kws t' := ⟨fun pos pins s σ H Q I q => h.run pos pins s σ H Q I (k σ H Q q)⟩
theorem fk_nil : PK X [] (FA C mNil) := pk_of pk_nil fun σ H Q ⟨B, g, S, m, vs, I, A, r, w⟩ => w [] H I A rfl r
theorem fk_cons {kws : List Keyword} {ma : ME} {mr : MA} (h : PK X kws (tCons (FE C ma) (FA C mr))) : PK X kws (FA C (mCons ma mr)) := pk_of h fun σ H Q ⟨B, g, S, m, vs, I, A, r, w⟩ => by
  refine ⟨B, g, S, m, vs, I, A, r, ?_⟩
  unfold mCons at w
  cases ea : ma g m with
  | bad => rw [ea] at w; exact w.elim
  | ex c fs m' => rw [ea] at w; exact w
  | ok d1 m1 =>
    rw [ea] at w
    intro x H1 I1 A1 r1
    refine ⟨B, g, d1 :: S, m1, x :: vs, I1, A1, r1, ?_⟩
    have w1 : WantA C B g S σ vs Q ((mr g m1).bind fun xs m2 => .ok (d1 :: xs) m2) := w
    cases eb : mr g m1 with
    | bad => rw [eb] at w1; exact w1.elim
    | ex c fs m' =>
      rw [eb] at w1
      intro σ' H' I' A' dx ws r' h1 h2 h3
      exact w1 σ' H' I' A' dx ws r'.pop1 h1 h2 h3
    | ok ds m2 =>
      rw [eb] at w1
      intro ws H2 I2 A2 hl r2
      have e2 := r2.stk.split hl
      cases e2.2 with
      | cons hd ht => exact w1 (x :: ws) H2 I2 A2 (by rw [List.length_cons, List.length_cons, hl]) { r2 with stk := .cons hd (e2.1.app ht) }
/-- f(a, .., k = v, ..): n values, k keywords, put in the order pm; the keywords' values raise nothing -/
def mCallW (n k : Nat) (pm : List Nat) (f : Fn) (ma mk : MA) : ME := fun g m => (ma g m).bind fun xs m1 => match mk g m1 with
  | .ok zs m2 => if xs.length = n ∧ zs.length = k then f (pick pm (xs ++ zs)) m2 else .bad
  | _ => .bad
end
end FM
namespace FM
open PySem PySem.Spec PyProof.Rows L2
section
variable {g : Gam} {m : Cells} {Q : Vl → Cells → Prop} {E : EX} {ma mb me : ME}
theorem w_catC (h : wR (ma g m) (fun x m1 => wR (mb g m1) (fun y m2 => ∃ as bs, lstOf m2 x = some as ∧ lstOf m2 y = some bs ∧ as.length + bs.length ≤ 16777216 ∧ Q (.ref m2.length) (m2 ++ [some (.lst (as ++ bs))])) E) E) : wR (mCatC ma mb g m) Q E :=
  w_bind (wR_mono h fun x m1 h => w_bind (wR_mono h fun y m2 ⟨as, bs, h1, h2, h3, q⟩ => by
    refine wR_eq ?_ q
    simp only [oCatL, h1, h2, sz_le h3, if_true]))
end
end FM
namespace FM
open PySem PySem.Spec PyProof.Rows L2
/-! ### the head's run, looked at in parts -/
end FM
namespace FM
open PySem PySem.Spec PyProof.Rows L2
/-! ### xs.count(x), xs.index(x) of plain items -/
def lmO (f : List V → V → Option Int) (m : Cells) (x y : Vl) : Option Vl := match lstOf m x, y with
  | some ds, .d d => (match flatsD ds, flatD d with
    | some vs, some v => (f vs v).map fun i => .d (.int i)
    | _, _ => none)
  | _, _ => none
def mLM (f : List V → V → Option Int) (ma mb : ME) : ME := fun g m => (ma g m).bind fun x m1 => match lstOf m1 x with
  | some _ => (mb g m1).bind fun y m2 => ofO m2 (lmO f m2 x y)
  | none => .bad
/-! ### where a comprehension's names stand -/
end FM
namespace FM
open PySem PySem.Spec PyProof.Rows L2
end FM
namespace FM
open PySem PySem.Spec PyProof.Rows L2
open Classical
/-! ### == of plain data, of whatever kinds -/
mutual
def toP : Dt → Option PyData
  | .non => some .none
  | .bl b => some (.bool b)
  | .int i => some (.int i)
  | .str x => if PyData.strOk x = true then some (.str x) else none
  | .lst xs => (toPs xs).map .list
  | .scr xs => (toPs xs).map .list
  | .tup xs => (toPs xs).map .tuple
  | .dct _ _ => none
  | .ins _ _ => none
  | .glo _ => none
  | .exc _ _ => none
def toPs : List Dt → Option (List PyData)
  | [] => some []
  | x :: xs => match toP x, toPs xs with
    | some p, some ps => some (p :: ps)
    | _, _ => none
end
mutual
theorem toP_ok {T : Tab} {I H : Hp} (e : Same I H) : ∀ (d : Dt) {v : V} {p : PyData}, DR T I v d → toP d = some p → Dp T.K H v p ∧ p.canLay0 = true
  | .non, v, p, h, k => by cases h; unfold toP at k; cases k; exact ⟨.non, rfl⟩
  | .bl b, v, p, h, k => by cases h; unfold toP at k; cases k; exact ⟨.bl b, rfl⟩
  | .int i, v, p, h, k => by cases h; unfold toP at k; cases k; exact ⟨.int i, rfl⟩
  | .str x, v, p, h, k => by
    cases h
    unfold toP at k
    split at k
    · rename_i hx; cases k; exact ⟨.str x, by unfold PyData.canLay0; exact hx⟩
    · cases k
  | .lst xs, v, p, h, k => by
    unfold toP at k
    obtain ⟨ps, k2, rfl⟩ := Option.map_eq_some_iff.mp k
    cases h with
    | lst h1 h2 =>
      obtain ⟨a, b⟩ := toPs_ok e xs h2 k2
      exact ⟨.lst (.inl (.inl (e _ _ h1))) a, by unfold PyData.canLay0; exact b⟩
  | .scr xs, v, p, h, k => by
    unfold toP at k
    obtain ⟨ps, k2, rfl⟩ := Option.map_eq_some_iff.mp k
    cases h with
    | scr h1 h2 =>
      obtain ⟨a, b⟩ := toPs_ok e xs h2 k2
      exact ⟨.lst (same_l e h1) a, by unfold PyData.canLay0; exact b⟩
  | .tup xs, v, p, h, k => by
    unfold toP at k
    obtain ⟨ps, k2, rfl⟩ := Option.map_eq_some_iff.mp k
    cases h with
    | tup h1 h2 =>
      obtain ⟨a, b⟩ := toPs_ok e xs h2 k2
      exact ⟨.tup (same_t e h1) a, by unfold PyData.canLay0; exact b⟩
  | .dct _ _, v, p, h, k => by unfold toP at k; cases k
  | .ins _ _, v, p, h, k => by unfold toP at k; cases k
  | .glo _, v, p, h, k => by unfold toP at k; cases k
  | .exc _ _, v, p, h, k => by unfold toP at k; cases k
theorem toPs_ok {T : Tab} {I H : Hp} (e : Same I H) : ∀ (ds : List Dt) {vs : List V} {ps : List PyData}, DRs T I vs ds → toPs ds = some ps → DpAll T.K H vs ps ∧ PyData.canLayAll0 ps = true
  | [], vs, ps, h, k => by cases h; unfold toPs at k; cases k; exact ⟨.nil, rfl⟩
  | d :: ds, vs, ps, h, k => by
    cases h with
    | cons h1 h2 =>
      unfold toPs at k
      cases e1 : toP d with
      | none => simp [e1] at k
      | some p =>
        cases e2 : toPs ds with
        | none => simp [e1, e2] at k
        | some qs =>
          simp only [e1, e2] at k
          cases k
          obtain ⟨a, b⟩ := toP_ok e d h1 e1
          obtain ⟨a2, b2⟩ := toPs_ok e ds h2 e2
          exact ⟨.cons a a2, by unfold PyData.canLayAll0; rw [b, b2]; rfl⟩
end
def pyOf (m : Cells) : Vl → Option PyData
  | .d d => toP d
  | .ref k => (isL m[k]?).bind fun ds => (toPs ds).map .list
  | .lam _ => none
theorem pyOf_ok {T : Tab} {F : Frm} {I H : Hp} {A : List Addr} {m : Cells} {x : V} {d : Vl} {p : PyData} (b : Base T F I H A m) (h : VR T I A x d) (k : pyOf m d = some p) : Dp T.K H x p ∧ p.canLay0 = true := by
  cases d with
  | lam z => cases k
  | d d => exact toP_ok b.sub d h.dat k
  | ref j =>
    unfold pyOf at k
    cases e : isL m[j]? with
    | none => simp [e] at k
    | some ds =>
      simp only [e, Option.bind_some] at k
      obtain ⟨ps, k2, rfl⟩ := Option.map_eq_some_iff.mp k
      obtain ⟨a, rfl, ha⟩ := h.cel
      have hm : m[j]? = some (some (.lst ds)) := by
        cases q : m[j]? with
        | none => rw [q] at e; cases e
        | some c =>
          rw [q] at e
          cases c with
          | none => cases e
          | some c => cases c <;> first | cases e; rfl | cases e
      obtain ⟨vs, h1, h2⟩ := b.ok j _ a hm ha
      obtain ⟨a1, a2⟩ := toPs_ok b.sub ds h2 k2
      exact ⟨.lst (.inl (.inl h1)) a1, by unfold PyData.canLay0; exact a2⟩
noncomputable def oPl (neg : Bool) : O2 := fun m x y => (pyOf m x).bind fun p => (pyOf m y).bind fun q => if p.depth ≤ 64 ∧ q.depth ≤ 64 then some (.d (.bl (neg != PyData.eqv p q))) else none
def rPl (K : PySem.W.Frag) (neg : Bool) : R2 := fun x y H Q => ∃ d e, Dp K H x d ∧ Dp K H y e ∧ SeqAt.shaped d = true ∧ SeqAt.shaped e = true ∧ Q (.bl (neg != PyData.eqv d e)) H
theorem op_Pl {X : Cx} {K : PySem.W.Frag} {neg : Bool} (hu : X.A.units + 64 < cLine) (hK : K = X.K) : OpR X (compareOp (NK.opN neg)) (rPl K neg) := by
  subst hK
  cases neg with
  | false =>
    intro pins s σ H x y v u Q I rx ry ⟨d, e, h1, h2, h3, h4, q⟩
    exact op_eqD hu pins s σ H x y v u Q I rx ry ⟨d, e, h1, h2, h3, h4, by simpa using q⟩
  | true =>
    intro pins s σ H x y v u Q I rx ry ⟨d, e, h1, h2, h3, h4, q⟩
    exact op_neD hu pins s σ H x y v u Q I rx ry ⟨d, e, h1, h2, h3, h4, by simpa using q⟩
theorem sim_Pl {T : Tab} {neg : Bool} : SimO T (rPl T.K neg) (oPl neg) := simO_pure fun F I H A m x y d1 d2 d b hx hy e Q q => by
  unfold oPl at e
  cases e1 : pyOf m d1 with
  | none => simp [e1] at e
  | some p =>
    cases e2 : pyOf m d2 with
    | none => simp [e1, e2] at e
    | some p2 =>
      simp only [e1, e2, Option.bind_some] at e
      by_cases h : p.depth ≤ 64 ∧ p2.depth ≤ 64
      · rw [if_pos h] at e
        cases e
        obtain ⟨a1, a2⟩ := pyOf_ok b hx e1
        obtain ⟨b1, b2⟩ := pyOf_ok b hy e2
        exact ⟨p, p2, a1, b1, by unfold SeqAt.shaped; rw [a2]; simpa using h.1, by unfold SeqAt.shaped; rw [b2]; simpa using h.2, q _ (.d (.bl _))⟩
      · rw [if_neg h] at e; cases e
theorem bq {α : Type} [BEq α] [LawfulBEq α] {a b : α} : (a == b) = decide (a = b) := by by_cases h : a = b <;> simp [h]
/-! plain: no bools, not deep -/
def plZ : Nat → Dt → Bool
  | _, .non => true
  | _, .int _ => true
  | _, .str x => PyData.strOk x
  | n + 1, .lst xs => xs.all (plZ n)
  | n + 1, .tup xs => xs.all (plZ n)
  | _, _ => false
theorem toPs_pl {n : Nat} (ih : ∀ d : Dt, plZ n d = true → ∃ p, toP d = some p ∧ p.depth ≤ n) : ∀ xs : List Dt, xs.all (plZ n) = true → ∃ ps, toPs xs = some ps ∧ PyData.depthAll ps ≤ n
  | [], _ => ⟨[], by unfold toPs; rfl, by unfold PyData.depthAll; omega⟩
  | x :: xs, h => by
    obtain ⟨h1, h2⟩ := (Bool.and_eq_true_iff.mp (by rw [List.all_cons] at h; exact h))
    obtain ⟨p, e1, l1⟩ := ih x h1
    obtain ⟨ps, e2, l2⟩ := toPs_pl ih xs h2
    exact ⟨p :: ps, by unfold toPs; rw [e1, e2], by unfold PyData.depthAll; exact Nat.max_le.mpr ⟨l1, l2⟩⟩
theorem toP_pl : ∀ (n : Nat) (d : Dt), plZ n d = true → ∃ p, toP d = some p ∧ p.depth ≤ n
  | n, .non, _ => ⟨_, by unfold toP; rfl, by unfold PyData.depth; omega⟩
  | n, .int i, _ => ⟨_, by unfold toP; rfl, by unfold PyData.depth; omega⟩
  | n, .str x, h => ⟨.str x, by unfold toP; rw [if_pos (by cases n <;> simpa [plZ] using h)], by unfold PyData.depth; omega⟩
  | n, .bl _, h => by cases n <;> simp [plZ] at h
  | n, .dct _ _, h => by cases n <;> simp [plZ] at h
  | n, .ins _ _, h => by cases n <;> simp [plZ] at h
  | n, .glo _, h => by cases n <;> simp [plZ] at h
  | n, .exc _ _, h => by cases n <;> simp [plZ] at h
  | n, .scr _, h => by cases n <;> simp [plZ] at h
  | 0, .lst _, h => by simp [plZ] at h
  | 0, .tup _, h => by simp [plZ] at h
  | n + 1, .lst xs, h => by
    obtain ⟨ps, e, l⟩ := toPs_pl (toP_pl n) xs (by simpa [plZ] using h)
    exact ⟨.list ps, by unfold toP; rw [e]; rfl, by unfold PyData.depth; omega⟩
  | n + 1, .tup xs, h => by
    obtain ⟨ps, e, l⟩ := toPs_pl (toP_pl n) xs (by simpa [plZ] using h)
    exact ⟨.tuple ps, by unfold toP; rw [e]; rfl, by unfold PyData.depth; omega⟩
theorem eqvs_pl {n n' : Nat} (ih : ∀ (d e : Dt) {p q : PyData}, plZ n d = true → plZ n' e = true → toP d = some p → toP e = some q → PyData.eqv p q = decide (d = e)) : ∀ (xs ys : List Dt) {ps qs : List PyData}, xs.all (plZ n) = true → ys.all (plZ n') = true → toPs xs = some ps → toPs ys = some qs → PyData.eqvAll ps qs = decide (xs = ys)
  | [], [], ps, qs, _, _, e1, e2 => by unfold toPs at e1 e2; cases e1; cases e2; simp [PyData.eqvAll]
  | [], y :: ys, ps, qs, _, h2, e1, e2 => by
    unfold toPs at e1; cases e1
    unfold toPs at e2
    split at e2
    · cases e2; simp [PyData.eqvAll]
    · cases e2
  | x :: xs, [], ps, qs, _, h2, e1, e2 => by
    unfold toPs at e2; cases e2
    unfold toPs at e1
    split at e1
    · cases e1; simp [PyData.eqvAll]
    · cases e1
  | x :: xs, y :: ys, ps, qs, h1, h2, e1, e2 => by
    rw [List.all_cons, Bool.and_eq_true_iff] at h1 h2
    unfold toPs at e1 e2
    split at e1
    · rename_i p ps' f1 f2
      cases e1
      split at e2
      · rename_i q qs' g1 g2
        cases e2
        have a := ih x y h1.1 h2.1 f1 g1
        have b := eqvs_pl ih xs ys h1.2 h2.2 f2 g2
        unfold PyData.eqvAll
        rw [a, b]
        by_cases c : x = y
        · by_cases c2 : xs = ys
          · simp [c, c2]
          · simp [c, c2]
        · simp [c]
      · cases e2
    · cases e1
theorem eqv_pl : ∀ (n n' : Nat) (d e : Dt) {p q : PyData}, plZ n d = true → plZ n' e = true → toP d = some p → toP e = some q → PyData.eqv p q = decide (d = e) := by
  intro n
  induction n with
  | zero =>
    intro n' d e p q h1 h2 e1 e2
    cases d <;> first | (simp [plZ] at h1; done) | skip
    all_goals cases e <;> first | (cases n' <;> simp [plZ] at h2; done) | skip
    all_goals simp only [toP] at e1 e2
    all_goals first
      | (cases e1; cases e2; simp [PyData.eqv, bq]; done)
      | (split at e1 <;> split at e2 <;> cases e1 <;> cases e2 <;> simp [PyData.eqv, bq]; done)
      | (split at e1 <;> cases e1 <;> cases e2 <;> simp [PyData.eqv, bq]; done)
      | (split at e2 <;> cases e2 <;> cases e1 <;> simp [PyData.eqv, bq]; done)
      | (obtain ⟨ps, _, rfl⟩ := Option.map_eq_some_iff.mp e2; cases e1; simp [PyData.eqv, bq]; done)
      | (obtain ⟨ps, _, rfl⟩ := Option.map_eq_some_iff.mp e2; split at e1 <;> cases e1 <;> simp [PyData.eqv, bq]; done)
  | succ n ih =>
    intro n' d e p q h1 h2 e1 e2
    cases d <;> first | (simp [plZ] at h1; done) | skip
    all_goals cases e <;> first | (cases n' <;> simp [plZ] at h2; done) | skip
    all_goals simp only [toP] at e1 e2
    all_goals first
      | (cases e1; cases e2; simp [PyData.eqv, bq]; done)
      | (split at e1 <;> split at e2 <;> cases e1 <;> cases e2 <;> simp [PyData.eqv, bq]; done)
      | (split at e1 <;> cases e1 <;> cases e2 <;> simp [PyData.eqv, bq]; done)
      | (split at e2 <;> cases e2 <;> cases e1 <;> simp [PyData.eqv, bq]; done)
      | (obtain ⟨ps, _, rfl⟩ := Option.map_eq_some_iff.mp e2; cases e1; simp [PyData.eqv, bq]; done)
      | (obtain ⟨ps, _, rfl⟩ := Option.map_eq_some_iff.mp e2; split at e1 <;> cases e1 <;> simp [PyData.eqv, bq]; done)
      | (obtain ⟨ps, _, rfl⟩ := Option.map_eq_some_iff.mp e1; cases e2; simp [PyData.eqv, bq]; done)
      | (obtain ⟨ps, _, rfl⟩ := Option.map_eq_some_iff.mp e1; split at e2 <;> cases e2 <;> simp [PyData.eqv, bq]; done)
      | (obtain ⟨ps, k1, rfl⟩ := Option.map_eq_some_iff.mp e1
         obtain ⟨qs, k2, rfl⟩ := Option.map_eq_some_iff.mp e2
         cases n' with
         | zero => simp [plZ] at h2
         | succ n' =>
           first
           | (have := eqvs_pl (n := n) (n' := n') (fun d e _ _ => ih n' d e) _ _ (by simpa [plZ] using h1) (by simpa [plZ] using h2) k1 k2
              simp [PyData.eqv, this]; done)
           | (simp [PyData.eqv, bq]; done))
theorem wo_pl {m : Cells} {neg : Bool} {d e : Dt} {Q : Vl → Prop} (h1 : plZ 64 d = true) (h2 : plZ 64 e = true) (q : Q (.d (.bl (neg != decide (d = e))))) : wO (oPl neg m (.d d) (.d e)) Q := by
  obtain ⟨p, a1, a2⟩ := toP_pl 64 d h1
  obtain ⟨p2, b1, b2⟩ := toP_pl 64 e h2
  refine wO_eq ?_ q
  show (toP d).bind _ = _
  rw [a1]
  show (toP e).bind _ = _
  rw [b1]
  show (if _ then _ else _) = _
  rw [if_pos ⟨a2, b2⟩, eqv_pl 64 64 d e h1 h2 a1 b1]
end FM
namespace FM
open PySem PySem.Spec PyProof.Rows L2
open Classical
/-! ### objects that are being built: their fields may be cells -/
/-- the class and the fields of an object that is being built -/
def obOf (m : Cells) : Vl → Option (Nat × List Vl)
  | .ref k => match m[k]? with
    | some (some (.ob (.cls c) fs)) => some (c, fs)
    | _ => none
  | _ => none
section
variable {X : Cx} {C : Fc} {e : Expr} {ma : MA} {me mb : ME}
/-! methods -/
def clsOf (m : Cells) (x : Vl) : Option Nat := match obOf m x with
  | some p => some p.1
  | none => (insOf m x).map (·.1)
def mMethO (mt : Nat → Option Fn) (me : ME) (ma : MA) : ME := fun g m => (me g m).bind fun x m1 => match clsOf m1 x with
  | some p => (match mt p with
    | some f => (ma g m1).bind fun ys m2 => f (x :: ys) m2
    | none => .bad)
  | none => .bad
/-! a def that keeps what it makes -/
/-! the fields are done changing -/
def frzL : Cells → List Vl → Option (List Dt × Cells)
  | m, [] => some ([], m)
  | m, .d d :: r => (frzL m r).map fun p => (d :: p.1, p.2)
  | m, .ref j :: r => match m[j]? with
    | some (some (.lst ds)) => (frzL (m.set j none) r).map fun p => (.lst ds :: p.1, p.2)
    | some (some (.dct ks ds)) => (frzL (m.set j none) r).map fun p => (.dct ks ds :: p.1, p.2)
    | _ => none
  | _, .lam _ :: _ => none
/-- C(..), an object whose fields are cells while it is being built -/
noncomputable def mMakeO (c n : Nat) (f : Fn) (ma : MA) : ME := fun g m => (ma g m).bind fun xs m1 => match f (.ref m1.length :: xs) (m1 ++ [some (.ob (.cls c) [])]) with
  | .ok (.d .non) m2 => (match obOf m2 (.ref m1.length) with
    | some p => (match frzL m2 p.2 with
      | some q => if p.1 = c ∧ p.2.length = n ∧ q.2.take m1.length = m1 then .ok (.d (.ins c q.1)) m1 else .bad
      | none => .bad)
    | none => .bad)
  | _ => .bad
end
/-! ### what these ask -/
end FM
namespace FM
open PySem PySem.Spec PyProof.Rows L2
/-! ### what leaves the objects that are being built as they are -/
section
variable {α β : Type} {m m1 m2 m3 : Cells}
theorem Obs.refl : Obs m m := ⟨Nat.le_refl _, fun _ _ _ _ h => ⟨_, _, h, fun _ h => h⟩⟩
theorem Obs.app {c : Option Cell} : Obs m (m ++ [c]) := ⟨by simp, fun i c fs hi q => by rw [List.getElem?_append_left hi] at q; exact ⟨_, _, q, fun _ h => h⟩⟩
theorem Obs.sub1 {c : Option Cell} (h : Obs (m ++ [c]) m1) : Obs m m1 := Obs.app.trans h
theorem q_ok {a : α} : Qr m (.ok a m) := Obs.refl
theorem q_bad : Qr (α := α) m .bad := trivial
theorem q_bind {r : Rs α} {k : α → Cells → Rs β} (h : Qr m r) (hk : ∀ a m1, Qr m1 (k a m1)) : Qr m (r.bind k) := by
  cases r with
  | ok a m' => exact (hk a m').mono h
  | ex c fs m' => exact h
  | bad => trivial
theorem q_then {g : Gam} {r : Rs α} {k : α → Cells → Out} (h : Qr m r) (hk : ∀ a m1, Qo m1 (k a m1)) : Qo m (r.then g k) := by
  cases r with
  | ok a m' => exact (hk a m').mono h
  | ex c fs m' => exact h
  | bad => trivial
theorem q_ofO {o : Option α} : Qr m (ofO m o) := by cases o <;> first | trivial | exact Obs.refl
end
def Qg (f : MG) : Prop := ∀ v g m p, f v g m = some p → Obs m p.2
def Qgs (f : MGs) : Prop := ∀ v g m p, f v g m = some p → Obs m p.2
local macro_rules
  | `(tactic| array_get_dec) => `(tactic| (repeat' (first | exact q_bad | exact q_ok | exact q_ofO | exact trivial | exact Obs.refl | exact Obs.app | split | (refine Obs.set ?_; intro c fs e; cases e))))
section
variable {ma mb mc me mi mo mv mk : ME} {mr : MA} {t u : MT} {s s' : MS}
theorem qe_var {i : Nat} : Qe (mVar i) := fun g m => by unfold mVar; array_get_dec
theorem qe_c {d : Dt} : Qe (mC d) := fun g m => q_ok
theorem qe_op {f : O2} (ha : Qe ma) (hb : Qe mb) : Qe (mOp f ma mb) := fun g m => q_bind (ha g m) fun x m1 => q_bind (hb g m1) fun y m2 => q_ofO
theorem qe_un {f : O1} (ha : Qe ma) : Qe (mUn f ma) := fun g m => q_bind (ha g m) fun x m1 => q_ofO
theorem qe_nil : Qe mNil := fun g m => q_ok
theorem qe_cons (ha : Qe ma) (hr : Qe mr) : Qe (mCons ma mr) := fun g m => q_bind (ha g m) fun x m1 => q_bind (hr g m1) fun y m2 => q_ok
theorem qe_call {f : Fn} (hf : Qf f) (hr : Qe mr) : Qe (mCall f mr) := fun g m => q_bind (hr g m) fun x m1 => hf x m1
theorem qe_cb {f : ON} (hr : Qe mr) : Qe (mCB f mr) := fun g m => q_bind (hr g m) fun x m1 => q_ofO
theorem qe_cl {f : OL} (hr : Qe mr) : Qe (mCL f mr) := fun g m => q_bind (hr g m) fun x m1 => by array_get_dec
theorem qe_clC {f : OL} (hr : Qe mr) : Qe (mCLC f mr) := fun g m => q_bind (hr g m) fun x m1 => by array_get_dec
theorem qe_tup (hr : Qe mr) : Qe (mTup mr) := fun g m => q_bind (hr g m) fun x m1 => by array_get_dec
theorem qe_lst (hr : Qe mr) : Qe (mLst mr) := fun g m => q_bind (hr g m) fun x m1 => by array_get_dec
theorem qe_lstC (hr : Qe mr) : Qe (mLstC mr) := fun g m => q_bind (hr g m) fun x m1 => by array_get_dec
theorem qe_test (ha : Qe ma) : Qe (mTest ma) := fun g m => q_bind (ha g m) fun x m1 => by array_get_dec
theorem qe_tru (ha : Qe ma) : Qe (mTru ma) := fun g m => q_bind (ha g m) fun x m1 => q_ofO
theorem qe_and (ht : Qe t) (hu : Qe u) : Qe (mAnd t u) := fun g m => q_bind (ht g m) fun b m1 => by
  split
  · exact hu g m1
  · exact q_ok
theorem qe_or (ht : Qe t) (hu : Qe u) : Qe (mOr t u) := fun g m => q_bind (ht g m) fun b m1 => by
  split
  · exact q_ok
  · exact hu g m1
theorem qe_not (ht : Qe t) : Qe (mNot t) := fun g m => q_bind (ht g m) fun b m1 => q_ok
theorem qe_bool (ht : Qe t) : Qe (mBool t) := fun g m => q_bind (ht g m) fun b m1 => q_ok
theorem qe_yes : Qe mYes := fun g m => q_ok
theorem qe_andV (ha : Qe ma) (hb : Qe mb) : Qe (mAndV ma mb) := fun g m => q_bind (ha g m) fun x m1 => by
  split
  · exact hb g m1
  · exact q_ok
  · exact q_bad
theorem qe_orV (ha : Qe ma) (hb : Qe mb) : Qe (mOrV ma mb) := fun g m => q_bind (ha g m) fun x m1 => by
  split
  · exact q_ok
  · exact hb g m1
  · exact q_bad
theorem qe_if (ht : Qe t) (ha : Qe ma) (hb : Qe mb) : Qe (mIf t ma mb) := fun g m => q_bind (ht g m) fun b m1 => by
  split
  · exact ha g m1
  · exact hb g m1
theorem qe_chain {f f' : O2} (ha : Qe ma) (hb : Qe mb) (hc : Qe mc) : Qe (mChain f f' ma mb mc) := fun g m => q_bind (ha g m) fun x m1 => q_bind (hb g m1) fun y m2 => by
  split
  · exact q_bind (hc g m2) fun z m3 => q_ofO
  · exact q_ok
  · exact q_bad
theorem qe_frz (ha : Qe ma) : Qe (mFrz ma) := fun g m => q_bind (ha g m) fun x m1 => by array_get_dec
theorem qe_frzD (ha : Qe ma) : Qe (mFrzD ma) := fun g m => q_bind (ha g m) fun x m1 => by array_get_dec
theorem qe_lm {f : List V → V → Option Int} (ha : Qe ma) (hb : Qe mb) : Qe (mLM f ma mb) := fun g m => q_bind (ha g m) fun x m1 => by
  split
  · exact q_bind (hb g m1) fun y m2 => q_ofO
  · exact q_bad
theorem qe_m {f : OM} (ha : Qe ma) (hr : Qe mr) : Qe (mM f ma mr) := fun g m => q_bind (ha g m) fun x m1 => by
  split
  · split
    · exact q_bind (hr g m1) fun ys m2 => by array_get_dec
    · exact q_bad
  · exact q_bad
theorem qe_meth {mt : Nat → Option Fn} (hm : ∀ c f, mt c = some f → Qf f) (ha : Qe ma) (hr : Qe mr) : Qe (mMeth mt ma mr) := fun g m => q_bind (ha g m) fun x m1 => by
  split
  · split
    · rename_i f e
      exact q_bind (hr g m1) fun ys m2 => hm _ f e _ m2
    · exact q_bad
  · exact q_bad
theorem qe_methO {mt : Nat → Option Fn} (hm : ∀ c f, mt c = some f → Qf f) (ha : Qe ma) (hr : Qe mr) : Qe (mMethO mt ma mr) := fun g m => q_bind (ha g m) fun x m1 => by
  split
  · split
    · rename_i f e
      exact q_bind (hr g m1) fun ys m2 => hm _ f e _ m2
    · exact q_bad
  · exact q_bad
theorem qe_makeO {c n : Nat} {f : Fn} (hr : Qe mr) : Qe (mMakeO c n f mr) := fun g m => q_bind (hr g m) fun xs m1 => by
  split
  · split
    · split
      · split
        · exact q_ok
        · exact q_bad
      · exact q_bad
    · exact q_bad
  · exact q_bad
theorem qe_make {c n : Nat} {f : Fn} (hf : Qf f) (hr : Qe mr) : Qe (mMake c n f mr) := fun g m => q_bind (hr g m) fun xs m1 => by
  have h := hf (.ref m1.length :: xs) (m1 ++ [some (.ins c [])])
  split
  · rename_i m2 e
    rw [e] at h
    split
    · split
      · exact (Obs.sub1 h).take (Nat.le_refl _)
      · exact q_bad
    · exact q_bad
  · rename_i c' fs m2 e
    rw [e] at h
    exact (Obs.sub1 h).take (Nat.le_refl _)
  · exact q_bad
theorem qe_makeC {c : Nat} {f : Fn} (hf : Qf f) (hr : Qe mr) : Qe (mMakeC c f mr) := fun g m => q_bind (hr g m) fun xs m1 => by
  have h := hf (.ref m1.length :: xs) (m1 ++ [some (.ins c [])])
  split
  · rename_i m2 e
    rw [e] at h
    exact Obs.sub1 h
  · rename_i c' fs m2 e
    rw [e] at h
    exact (Obs.sub1 h).take (Nat.le_refl _)
  · exact q_bad
theorem qe_make0 {c : Nat} : Qe (mMake0 c) := fun g m => q_ok
theorem qe_callW {n k : Nat} {pm : List Nat} {f : Fn} {mk : MA} (hf : Qf f) (hr : Qe mr) (hk : Qe mk) : Qe (mCallW n k pm f mr mk) := fun g m => q_bind (hr g m) fun xs m1 => by
  have h := hk g m1
  split
  · rename_i zs m2 e
    rw [e] at h
    split
    · exact (hf _ m2).mono h
    · exact q_bad
  · exact q_bad
theorem qe_catC (ha : Qe ma) (hb : Qe mb) : Qe (mCatC ma mb) := fun g m => q_bind (ha g m) fun x m1 => q_bind (hb g m1) fun y m2 => by array_get_dec
theorem qe_dictC (ha : Qe ma) : Qe (mDictC ma) := fun g m => q_bind (ha g m) fun x m1 => by array_get_dec
theorem qe_dget2 (ho : Qe mo) (hi : Qe mi) (hx : Qe ma) : Qe (mDGet2 mo mi ma) := fun g m => q_bind (ho g m) fun x m1 => by
  split
  · exact q_bind (hi g m1) fun y m2 => q_bind (hx g m2) fun z m3 => by array_get_dec
  · exact q_bad
theorem qe_dnew : Qe mDNew := fun g m => Obs.app
theorem qe_pnil : Qe mPNil := fun g m => q_ok
theorem qe_pcons {mp : MPs} (hk : Qe mk) (hv : Qe mv) (hp : Qe mp) : Qe (mPCons mk mv mp) := fun g m => q_bind (hk g m) fun x m1 => q_bind (hv g m1) fun y m2 => by
  split
  · exact q_bind (hp g m2) fun r m3 => q_ok
  · exact q_bad
theorem qe_disp {mp : MPs} (hp : Qe mp) : Qe (mDisp mp) := fun g m => q_bind (hp g m) fun r m3 => by array_get_dec
theorem qe_dispC {mp : MPs} (hp : Qe mp) : Qe (mDispC mp) := fun g m => q_bind (hp g m) fun r m3 => by array_get_dec
theorem qe_noP : Qe mNoP := fun g m => q_ok
theorem qe_part (ha : Qe ma) : Qe (mPart ma) := fun g m => q_bind (ha g m) fun x m1 => by array_get_dec
theorem qe_sl {f : OS} {ml mh : MO} (ha : Qe ma) (hl : Qe ml) (hh : Qe mh) : Qe (mSl f ma ml mh) := fun g m => q_bind (ha g m) fun x m1 => q_bind (hl g m1) fun y m2 => q_bind (hh g m2) fun z m3 => q_ofO
theorem qe_slC {ml mh : MO} (ha : Qe ma) (hl : Qe ml) (hh : Qe mh) : Qe (mSlC ma ml mh) := fun g m => q_bind (ha g m) fun x m1 => q_bind (hl g m1) fun y m2 => q_bind (hh g m2) fun z m3 => by array_get_dec
theorem qe_listZip (hr : Qe mr) : Qe (mListZip mr) := fun g m => q_bind (hr g m) fun x m1 => by array_get_dec
theorem qe_it {f : Vl → Option (List Dt)} (ha : Qe ma) : Qe (mIt ma f) := fun g m => q_bind (ha g m) fun x m1 => q_ofO
theorem qe_itA {f : List Vl → Option (List Dt)} (hr : Qe mr) : Qe (mItA mr f) := fun g m => q_bind (hr g m) fun x m1 => q_ofO
theorem qe_xf {ix : FTab} {c : Nat} {ds : List Dt} : Qe (mXf ix c ds) := fun g m => by unfold mXf; array_get_dec
theorem qe_xis {q : Nat → Option Bool} {c : Nat} : Qe (mXis q c) := fun g m => by unfold mXis; array_get_dec
/-! targets -/
theorem qg_nm {i : Nat} : Qg (gNm i) := fun v g m p e => by cases e; exact Obs.refl
theorem qg_nil : Qgs gsNil := fun v g m p e => by
  unfold gsNil at e
  split at e
  · cases e; exact Obs.refl
  · cases e
theorem qg_cons {mg : MG} {ms : MGs} (h : Qg mg) (h2 : Qgs ms) : Qgs (gsCons mg ms) := fun v g m p e => by
  unfold gsCons at e
  split at e
  · obtain ⟨p1, e1, e2⟩ := Option.bind_eq_some_iff.mp e
    exact (h _ _ _ _ e1).trans (h2 _ _ _ _ e2)
  · cases e
theorem qg_tp {n : Nat} {ms : MGs} (h : Qgs ms) : Qg (gTp n ms) := fun v g m p e => by
  unfold gTp at e
  split at e
  · split at e
    · exact h _ _ _ _ e
    · cases e
  · cases e
theorem qg_ul {n : Nat} {ms : MGs} (h : Qgs ms) : Qg (gUl n ms) := fun v g m p e => by
  unfold gUl at e
  split at e
  · split at e
    · exact h _ _ _ _ e
    · cases e
  · cases e
theorem qg_setL (he : Qe me) (hi : Qe mi) : Qg (mSetL me mi) := fun v g m p e => by
  unfold mSetL at e
  split at e
  · rename_i k m1 e1
    split at e
    · rename_i i m2 e2
      split at e
      · obtain ⟨j, _, e3⟩ := Option.map_eq_some_iff.mp e
        subst e3
        exact ((he.ok e1).trans (hi.ok e2)).trans (Obs.set fun c fs e => by cases e)
      · cases e
    · cases e
  · cases e
/-! comprehensions -/
theorem q_lc {mg : MG} {mt : MT} {g0 : Gam} (h1 : Qg mg) (h2 : Qe mt) (h3 : Qe me) : ∀ (xs acc : List Dt) (m : Cells), Qr m (lcLoop mg mt me g0 xs acc m)
  | [], acc, m => q_ok
  | x :: r, acc, m => by
    unfold lcLoop
    split
    · exact q_bad
    · rename_i p e
      have a := h1 _ _ _ _ e
      split
      · rename_i m2 e2
        have b := a.trans (h2.ok e2)
        split
        · rename_i d m3 e3
          split
          · exact (q_lc h1 h2 h3 r _ m3).mono (b.trans (h3.ok e3))
          · exact q_bad
        · exact q_bad
      · rename_i m2 e2
        exact (q_lc h1 h2 h3 r _ m2).mono (a.trans (h2.ok e2))
      · exact q_bad
theorem q_lcV {k : Nat} {ds : List Dt} {mg : MG} {mt : MT} {g0 : Gam} (h1 : Qg mg) (h2 : Qe mt) (h3 : Qe me) : ∀ (xs acc : List Dt) (m : Cells), Qr m (lcLoopV k ds mg mt me g0 xs acc m)
  | [], acc, m => by
    unfold lcLoopV
    split
    · exact q_ok
    · exact q_bad
  | x :: r, acc, m => by
    unfold lcLoopV
    split
    · split
      · exact q_bad
      · rename_i p e
        have a := h1 _ _ _ _ e
        split
        · rename_i m2 e2
          have b := a.trans (h2.ok e2)
          split
          · rename_i d m3 e3
            split
            · exact (q_lcV h1 h2 h3 r _ m3).mono (b.trans (h3.ok e3))
            · exact q_bad
          · exact q_bad
        · rename_i m2 e2
          exact (q_lcV h1 h2 h3 r _ m2).mono (a.trans (h2.ok e2))
        · exact q_bad
    · exact q_bad
theorem q_lc2 {mg mg1 : MG} {mt mt1 : MT} {mi1 : MI} {own1 : List Nat} {g0 : Gam} (h1 : Qg mg) (h2 : Qe mt) (h4 : Qe mi1) (h5 : Qg mg1) (h6 : Qe mt1) (h3 : Qe me) : ∀ (xs acc : List Dt) (m : Cells), Qr m (lcLoop2 mg mt mi1 mg1 mt1 me own1 g0 xs acc m)
  | [], acc, m => q_ok
  | x :: r, acc, m => by
    unfold lcLoop2
    split
    · exact q_bad
    · rename_i p e
      have a := h1 _ _ _ _ e
      split
      · rename_i m2 e2
        have b := a.trans (h2.ok e2)
        split
        · rename_i ys m3 e3
          exact (q_bind (q_lc h5 h6 h3 ys acc m3) fun acc' m4 => q_lc2 h1 h2 h4 h5 h6 h3 r acc' m4).mono (b.trans (h4.ok e3))
        · exact q_bad
      · rename_i m2 e2
        exact (q_lc2 h1 h2 h4 h5 h6 h3 r _ m2).mono (a.trans (h2.ok e2))
      · exact q_bad
theorem q_sc {mg : MG} {mt : MT} {g0 : Gam} (h1 : Qg mg) (h2 : Qe mt) (h3 : Qe me) : ∀ (xs : List Dt) (acc : List Str) (m : Cells), Qr m (scLoop mg mt me g0 xs acc m)
  | [], acc, m => q_ok
  | x :: r, acc, m => by
    unfold scLoop
    split
    · exact q_bad
    · rename_i p e
      have a := h1 _ _ _ _ e
      split
      · rename_i m2 e2
        have b := a.trans (h2.ok e2)
        split
        · rename_i d m3 e3
          split
          · exact (q_sc h1 h2 h3 r _ m3).mono (b.trans (h3.ok e3))
          · exact q_bad
        · exact q_bad
      · rename_i m2 e2
        exact (q_sc h1 h2 h3 r _ m2).mono (a.trans (h2.ok e2))
      · exact q_bad
theorem q_sc2 {mg mg1 : MG} {mt mt1 : MT} {mi1 : MI} {own1 : List Nat} {g0 : Gam} (h1 : Qg mg) (h2 : Qe mt) (h4 : Qe mi1) (h5 : Qg mg1) (h6 : Qe mt1) (h3 : Qe me) : ∀ (xs : List Dt) (acc : List Str) (m : Cells), Qr m (scLoop2 mg mt mi1 mg1 mt1 me own1 g0 xs acc m)
  | [], acc, m => q_ok
  | x :: r, acc, m => by
    unfold scLoop2
    split
    · exact q_bad
    · rename_i p e
      have a := h1 _ _ _ _ e
      split
      · rename_i m2 e2
        have b := a.trans (h2.ok e2)
        split
        · rename_i ys m3 e3
          exact (q_bind (q_sc h5 h6 h3 ys acc m3) fun acc' m4 => q_sc2 h1 h2 h4 h5 h6 h3 r acc' m4).mono (b.trans (h4.ok e3))
        · exact q_bad
      · rename_i m2 e2
        exact (q_sc2 h1 h2 h4 h5 h6 h3 r _ m2).mono (a.trans (h2.ok e2))
      · exact q_bad
section
variable {mg mg1 : MG} {mt mt1 : MT} {mi mi1 : MI} {own own1 : List Nat}
theorem qe_lc (hi : Qe mi) (h1 : Qg mg) (h2 : Qe mt) (h3 : Qe me) : Qe (mLc mi mg mt me own) := fun g m => q_bind (hi g m) fun xs m1 => q_bind (q_lc h1 h2 h3 xs [] m1) fun _ _ => q_ok
theorem qe_lcC (hi : Qe mi) (h1 : Qg mg) (h2 : Qe mt) (h3 : Qe me) : Qe (mLcC mi mg mt me own) := fun g m => q_bind (hi g m) fun xs m1 => q_bind (q_lc h1 h2 h3 xs [] m1) fun _ _ => Obs.app
theorem qe_lcV (ha : Qe ma) (h1 : Qg mg) (h2 : Qe mt) (h3 : Qe me) : Qe (mLcV ma mg mt me own) := fun g m => q_bind (ha g m) fun x m1 => by
  split
  · split
    · exact q_bind (q_lcV h1 h2 h3 _ [] m1) fun _ _ => q_ok
    · exact q_bad
  · split
    · exact q_bind (q_lc h1 h2 h3 _ [] m1) fun _ _ => q_ok
    · exact q_bad
  · exact q_bad
theorem qe_lc2 (hi : Qe mi) (h1 : Qg mg) (h2 : Qe mt) (h4 : Qe mi1) (h5 : Qg mg1) (h6 : Qe mt1) (h3 : Qe me) : Qe (mLc2 mi mg mt mi1 mg1 mt1 me own own1) := fun g m => q_bind (hi g m) fun xs m1 => q_bind (q_lc2 h1 h2 h4 h5 h6 h3 xs [] m1) fun _ _ => q_ok
theorem q_srt {m : Cells} {zs : List Str} : Qr m (sorted_ m zs) := by unfold sorted_; array_get_dec
theorem q_srtC {m : Cells} {zs : List Str} : Qr m (sortedC_ m zs) := by unfold sortedC_; array_get_dec
theorem qe_sortC (hi : Qe mi) (h1 : Qg mg) (h2 : Qe mt) (h3 : Qe me) : Qe (mSortC mi mg mt me own) := fun g m => q_bind (hi g m) fun xs m1 => q_bind (q_sc h1 h2 h3 xs [] m1) fun _ _ => q_srt
theorem qe_sortCC (hi : Qe mi) (h1 : Qg mg) (h2 : Qe mt) (h3 : Qe me) : Qe (mSortCC mi mg mt me own) := fun g m => q_bind (hi g m) fun xs m1 => q_bind (q_sc h1 h2 h3 xs [] m1) fun _ _ => q_srtC
theorem qe_sortC2 (hi : Qe mi) (h1 : Qg mg) (h2 : Qe mt) (h4 : Qe mi1) (h5 : Qg mg1) (h6 : Qe mt1) (h3 : Qe me) : Qe (mSortC2 mi mg mt mi1 mg1 mt1 me own own1) := fun g m => q_bind (hi g m) fun xs m1 => q_bind (q_sc2 h1 h2 h4 h5 h6 h3 xs [] m1) fun _ _ => q_srt
theorem qe_sortC2C (hi : Qe mi) (h1 : Qg mg) (h2 : Qe mt) (h4 : Qe mi1) (h5 : Qg mg1) (h6 : Qe mt1) (h3 : Qe me) : Qe (mSortC2C mi mg mt mi1 mg1 mt1 me own own1) := fun g m => q_bind (hi g m) fun xs m1 => q_bind (q_sc2 h1 h2 h4 h5 h6 h3 xs [] m1) fun _ _ => q_srtC
theorem qe_sortL (ha : Qe ma) : Qe (mSortL ma) := fun g m => q_bind (ha g m) fun x m1 => by
  split
  · exact q_srt
  · exact q_bad
/-! statements -/
theorem qs_seq (h : Qs s) (h2 : Qs s') : Qs (mSeq s s') := fun g m => by
  have a := h g m
  unfold mSeq
  split
  · rename_i g' m' e
    rw [e] at a
    exact (h2 g' m').mono a
  · exact a
theorem qs_asg (h : Qe me) (h2 : Qg mg) : Qs (mAsg me mg) := fun g m => q_then (h g m) fun d m1 => by
  unfold thenG
  split
  · rename_i p e
    exact h2 _ _ _ _ e
  · exact trivial
theorem qs_drop (h : Qe me) : Qs (mDrop me) := fun g m => q_then (h g m) fun d m1 => Obs.refl
theorem qs_ret (h : Qe me) : Qs (mRet me) := fun g m => q_then (h g m) fun d m1 => Obs.refl
theorem qs_retN : Qs mRetN := fun g m => Obs.refl
theorem qs_next : Qs mNext := fun g m => Obs.refl
theorem qs_brk : Qs mBrk := fun g m => Obs.refl
theorem qs_cnt : Qs mCnt := fun g m => Obs.refl
theorem qs_if (ht : Qe t) (h : Qs s) (h2 : Qs s') : Qs (mIfS t s s') := fun g m => q_then (ht g m) fun b m1 => by
  split
  · exact h g m1
  · exact h2 g m1
theorem qs_par {i j : Nat} (hr : Qe mr) : Qs (mPar i j mr) := fun g m => q_then (hr g m) fun vs m1 => by
  split
  · exact Obs.refl
  · exact trivial
theorem qs_par3 {i j l : Nat} (hr : Qe mr) : Qs (mPar3 i j l mr) := fun g m => q_then (hr g m) fun vs m1 => by
  split
  · exact Obs.refl
  · exact trivial
theorem qs_aug {i : Nat} (he : Qe me) : Qs (mAug i me) := fun g m => by
  unfold mAug
  split
  · refine q_then (he g m) fun vs m1 => ?_
    split
    · exact Obs.refl
    · exact trivial
  · exact trivial
theorem qs_putD (ho : Qe mo) (hi : Qe mk) (hv : Qe mv) : Qs (mPutD mo mk mv) := fun g m => q_then (hv g m) fun v m1 => q_then (ho g m1) fun x m2 => q_then (hi g m2) fun y m3 => by
  unfold putD
  split
  · split
    · split
      · exact Obs.set fun c fs e => by cases e
      · exact trivial
    · exact trivial
  · exact trivial
theorem qs_setF {ix : FTab} (ho : Qe mo) (hv : Qe mv) : Qs (mSetF ix mo mv) := fun g m => q_then (hv g m) fun v m1 => q_then (ho g m1) fun x m2 => by
  unfold setV
  split
  · unfold setF
    split
    · split
      · exact Obs.set fun c fs e => by cases e
      · exact trivial
    · exact trivial
  · exact trivial
theorem qs_raise {c n : Nat} (hr : Qe mr) : Qs (mRaise c n mr) := fun g m => q_then (hr g m) fun vs m1 => by
  split
  · split
    · exact Obs.refl
    · exact trivial
  · exact trivial
theorem q_turn {o : Out} {m : Cells} {k : Gam → Cells → Out} (h : Qo m o) (hk : ∀ g m, Qo m (k g m)) : Qo m (turn o k) := by
  unfold turn
  split
  · exact (hk _ _).mono h
  · exact (hk _ _).mono h
  · exact h
  · exact h
theorem q_loop (h1 : Qg mg) (h : Qs s) : ∀ (xs : List Dt) (g : Gam) (m : Cells), Qo m (mLoop mg s xs g m)
  | [], g, m => Obs.refl
  | x :: r, g, m => by
    unfold mLoop
    split
    · rename_i p e
      exact (q_turn (h p.1 p.2) fun g m => q_loop h1 h r g m).mono (h1 _ _ _ _ e)
    · exact trivial
theorem qs_for (hi : Qe mi) (h1 : Qg mg) (h : Qs s) : Qs (mFor mi mg s) := fun g m => q_then (hi g m) fun xs m1 => q_loop h1 h xs g m1
theorem qs_while (ht : Qe t) (h : Qs s) : ∀ n, Qs (mWhile n t s)
  | 0 => fun g m => trivial
  | n + 1 => fun g m => by
    unfold mWhile
    refine q_then (ht g m) fun b m1 => ?_
    split
    · exact q_turn (h g m1) fun g m => qs_while ht h n g m
    · exact Obs.refl
theorem q_endS {i : Option Nat} {o : Out} {m : Cells} (h : Qo m o) : Qo m (endS i o) := by
  cases o <;> first | exact h | exact trivial
theorem q_hs : ∀ (hs : List Hd), (∀ h ∈ hs, ∀ c ds, Qs (h.su c ds)) → ∀ (c : Nat) (ds : List Dt), Qs (mHs hs c ds)
  | [], _, c, ds => fun g m => Obs.refl
  | h :: r, k, c, ds => fun g m => by
    unfold mHs
    split
    · split
      · exact q_endS (k h (by simp) c ds _ m)
      · exact trivial
    · exact q_hs r (fun h hh => k h (by simp [hh])) c ds g m
    · exact trivial
theorem qs_try {hs : List Hd} (h : Qs s) (k : ∀ h ∈ hs, ∀ c ds, Qs (h.su c ds)) : Qs (mTry s hs) := fun g m => by
  have a := h g m
  unfold mTry
  split
  · rename_i c ds g' m' e
    rw [e] at a
    exact (q_hs hs k c ds g' m').mono a
  · exact a
theorem q_run {n N : Nat} (h : Qs s) : Qf (runFn n N s) := fun es m => by
  unfold runFn
  split
  · have a := h (es.map some ++ List.replicate (N - n) none) m
    generalize s (es.map some ++ List.replicate (N - n) none) m = o at a
    unfold exitF
    cases o with
    | nx g m' => exact Obs.take a (Nat.le_refl _)
    | rt v m' =>
      cases v with
      | d d => exact Obs.take a (Nat.le_refl _)
      | lam z => exact trivial
      | ref j =>
        show Qr (α := Vl) m (if j < m.length then .ok (Vl.ref j) (m'.take m.length) else _)
        split
        · exact Obs.take a (Nat.le_refl _)
        · split
          · split
            · exact trivial
            · exact (Obs.take a (Nat.le_refl _)).trans Obs.app
          · exact trivial
    | bk g m' => exact trivial
    | ct g m' => exact trivial
    | ex c fs g m' => exact Obs.take a (Nat.le_refl _)
    | bad => exact trivial
  · exact trivial
theorem q_fnNo : Qf fnNo := fun es m => trivial
end
end
end FM
namespace FM
open PySem PySem.Spec PyProof.Rows L2
/-! ### enumerate(tuple) -/
end FM
namespace FM
open PySem PySem.Spec PyProof.Rows L2
/-! ### tuple * 0, tuple * 1 -/
/-! ### len of a dict -/
/-! ### isinstance(x, (A, B)) -/
end FM
namespace FM
open PySem PySem.Spec PyProof.Rows L2
/-! ### list(range(n)) -/
/-! ### a comprehension over a list that may change: a new cell -/
noncomputable def mLcVC (m0 : ME) (mg : MG) (mt : MT) (me : ME) (own : List Nat) : ME := fun g m => (m0 g m).bind fun x m1 => match x with
  | .ref k => (match isL m1[k]? with
    | some ds => (lcLoopV k ds mg mt me (wipeG g own) ds [] m1).bind fun acc m2 => .ok (.ref m2.length) (m2 ++ [some (.lst acc)])
    | none => .bad)
  | _ => .bad
/-! ### x(a, .., k = v, ..), x a local name that holds a def -/
section
variable {X : Cx} {C : Fc}
def mCallV (S : Nat → Option Fn) (n k : Nat) (pm : List Nat) (me : ME) (ma mk : MA) : ME := fun g m => (me g m).bind fun x m1 => match x with
  | .d (.glo j) => (match S j with
    | some f => mCallW n k pm f ma mk g m1
    | none => .bad)
  | _ => .bad
end
/-! ### what they leave as it is -/
section
variable {ma : MA} {m0 me : ME} {mk : MA} {mg : MG} {mt : MT} {own : List Nat}
theorem qe_lcVC (ha : Qe m0) (h1 : Qg mg) (h2 : Qe mt) (h3 : Qe me) : Qe (mLcVC m0 mg mt me own) := fun g m => q_bind (ha g m) fun x m1 => by
  split
  · split
    · exact q_bind (q_lcV h1 h2 h3 _ [] m1) fun _ _ => Obs.app
    · exact q_bad
  · exact q_bad
theorem qe_callV {S : Nat → Option Fn} {n k : Nat} {pm : List Nat} (hS : ∀ j f, S j = some f → Qf f) (h0 : Qe me) (hr : Qe ma) (hk : Qe mk) : Qe (mCallV S n k pm me ma mk) := fun g m => q_bind (h0 g m) fun x m1 => by
  split
  · split
    · rename_i f e
      exact qe_callW (hS _ _ e) hr hk g m1
    · exact q_bad
  · exact q_bad
end
theorem qh_nil : ∀ h ∈ ([] : List Hd), ∀ c ds, Qs (h.su c ds) := fun h hh => by cases hh
theorem qh_cons {i : Option Nat} {q : Nat → Option Bool} {su : Nat → List Dt → MS} {hs : List Hd} (h : ∀ c ds, Qs (su c ds)) (k : ∀ h ∈ hs, ∀ c ds, Qs (h.su c ds)) : ∀ h ∈ (⟨i, q, su⟩ : Hd) :: hs, ∀ c ds, Qs (h.su c ds) := fun x hx => by
  rcases List.mem_cons.mp hx with e | e
  · rw [e]; exact h
  · exact k x e
end FM
namespace FS
open PySem PySem.Spec PyProof.Rows L2 PySem.Froz PpSet
/-! ### {k: v for .. in .. for .. in ..}: the machine's turns -/
end FS
namespace FM
open PySem PySem.Spec PyProof.Rows L2 FS
/-! ### {k: v for ..}, a dict that never changes -/
abbrev Kd2 := List L2.Key × List Dt
def dcPut {β : Type} (mk mv : ME) (g : Gam) (m : Cells) (ks : List L2.Key) (ds : List Dt) (k : List L2.Key → List Dt → Cells → Rs β) : Rs β := match mk g m with
  | .ok y m3 => (match mv g m3 with
    | .ok (.d d) m4 => (match keyOf y with
      | some key => if szOk (ks.length + 1) then k (dPutK ks key) (dPutV ks ds key d) m4 else .bad
      | none => .bad)
    | _ => .bad)
  | _ => .bad
def dcLoop (mg : MG) (mt : MT) (mk mv : ME) (g0 : Gam) : List Dt → List L2.Key → List Dt → Cells → Rs Kd2
  | [], ks, ds, m => .ok (ks, ds) m
  | x :: r, ks, ds, m => match mg (.d x) g0 m with
    | none => .bad
    | some p => match mt p.1 p.2 with
      | .ok true m2 => dcPut mk mv p.1 m2 ks ds fun ks ds m => dcLoop mg mt mk mv g0 r ks ds m
      | .ok false m2 => dcLoop mg mt mk mv g0 r ks ds m2
      | _ => .bad
def dcLoop2 (mg : MG) (mt : MT) (mi1 : MI) (mg1 : MG) (mt1 : MT) (mk mv : ME) (own1 : List Nat) (g0 : Gam) : List Dt → List L2.Key → List Dt → Cells → Rs Kd2
  | [], ks, ds, m => .ok (ks, ds) m
  | x :: r, ks, ds, m => match mg (.d x) g0 m with
    | none => .bad
    | some p => match mt p.1 p.2 with
      | .ok true m2 => (match mi1 p.1 m2 with
        | .ok ys m3 => (dcLoop mg1 mt1 mk mv (wipeG p.1 own1) ys ks ds m3).bind fun q m4 => dcLoop2 mg mt mi1 mg1 mt1 mk mv own1 g0 r q.1 q.2 m4
        | _ => .bad)
      | .ok false m2 => dcLoop2 mg mt mi1 mg1 mt1 mk mv own1 g0 r ks ds m2
      | _ => .bad
def mDc (mi : MI) (mg : MG) (mt : MT) (mk mv : ME) (own : List Nat) : ME := fun g m => (mi g m).bind fun xs m1 => (dcLoop mg mt mk mv (wipeG g own) xs [] [] m1).bind fun q m2 => .ok (.d (.dct q.1 q.2)) m2
def mDc2 (mi : MI) (mg : MG) (mt : MT) (mi1 : MI) (mg1 : MG) (mt1 : MT) (mk mv : ME) (own own1 : List Nat) : ME := fun g m => (mi g m).bind fun xs m1 => (dcLoop2 mg mt mi1 mg1 mt1 mk mv own1 (wipeG g own) xs [] [] m1).bind fun q m2 => .ok (.d (.dct q.1 q.2)) m2
/-! ### in the style of weakest preconditions -/
/-! ### what they leave as it is -/
section
variable {mi mi1 : MI} {mg mg1 : MG} {mt mt1 : MT} {mk mv : ME} {own own1 : List Nat}
theorem q_dcPut {β : Type} {k : List L2.Key → List Dt → Cells → Rs β} (h1 : Qe mk) (h2 : Qe mv) (hk : ∀ ks ds m, Qr m (k ks ds m)) {g : Gam} {m : Cells} {ks : List L2.Key} {ds : List Dt} : Qr m (dcPut mk mv g m ks ds k) := by
  unfold dcPut
  split
  · rename_i y m3 e3
    have a := h1.ok e3
    split
    · rename_i d m4 e4
      have b := a.trans (h2.ok e4)
      split
      · split
        · exact (hk _ _ _).mono b
        · exact q_bad
      · exact q_bad
    · exact q_bad
  · exact q_bad
theorem q_dc {g0 : Gam} (h1 : Qg mg) (h2 : Qe mt) (h3 : Qe mk) (h4 : Qe mv) : ∀ (xs : List Dt) (ks : List L2.Key) (ds : List Dt) (m : Cells), Qr m (dcLoop mg mt mk mv g0 xs ks ds m)
  | [], ks, ds, m => q_ok
  | x :: r, ks, ds, m => by
    unfold dcLoop
    split
    · exact q_bad
    · rename_i p e
      have a := h1 _ _ _ _ e
      split
      · rename_i m2 e2
        exact (q_dcPut h3 h4 (fun ks ds m => q_dc h1 h2 h3 h4 r ks ds m)).mono (a.trans (h2.ok e2))
      · rename_i m2 e2
        exact (q_dc h1 h2 h3 h4 r _ _ m2).mono (a.trans (h2.ok e2))
      · exact q_bad
theorem q_dc2 {g0 : Gam} (h1 : Qg mg) (h2 : Qe mt) (hi : Qe mi1) (h5 : Qg mg1) (h6 : Qe mt1) (h3 : Qe mk) (h4 : Qe mv) : ∀ (xs : List Dt) (ks : List L2.Key) (ds : List Dt) (m : Cells), Qr m (dcLoop2 mg mt mi1 mg1 mt1 mk mv own1 g0 xs ks ds m)
  | [], ks, ds, m => q_ok
  | x :: r, ks, ds, m => by
    unfold dcLoop2
    split
    · exact q_bad
    · rename_i p e
      have a := h1 _ _ _ _ e
      split
      · rename_i m2 e2
        have b := a.trans (h2.ok e2)
        split
        · rename_i ys m3 e3
          exact (q_bind (q_dc h5 h6 h3 h4 ys ks ds m3) fun q m4 => q_dc2 h1 h2 hi h5 h6 h3 h4 r q.1 q.2 m4).mono (b.trans (hi.ok e3))
        · exact q_bad
      · rename_i m2 e2
        exact (q_dc2 h1 h2 hi h5 h6 h3 h4 r _ _ m2).mono (a.trans (h2.ok e2))
      · exact q_bad
theorem qe_dc (hi : Qe mi) (h1 : Qg mg) (h2 : Qe mt) (h3 : Qe mk) (h4 : Qe mv) : Qe (mDc mi mg mt mk mv own) := fun g m => q_bind (hi g m) fun xs m1 => q_bind (q_dc h1 h2 h3 h4 xs [] [] m1) fun _ _ => q_ok
theorem qe_dc2 (hi : Qe mi) (h1 : Qg mg) (h2 : Qe mt) (hi1 : Qe mi1) (h5 : Qg mg1) (h6 : Qe mt1) (h3 : Qe mk) (h4 : Qe mv) : Qe (mDc2 mi mg mt mi1 mg1 mt1 mk mv own own1) := fun g m => q_bind (hi g m) fun xs m1 => q_bind (q_dc2 h1 h2 hi1 h5 h6 h3 h4 xs [] [] m1) fun _ _ => q_ok
end
end FM
namespace FM
open PySem PySem.Spec PyProof.Rows L2
/-! ### dict(pairs) -/
end FM
namespace FM
open PySem PySem.Spec PyProof.Rows L2
/-! ### a for over a list that may change, and does not while it is walked -/
open Classical in
noncomputable def mLoopV (k : Nat) (ds : List Dt) (mg : MG) (s : MS) : List Dt → Gam → Cells → Out
  | [], g, m => if isL m[k]? = some ds then .nx g m else .bad
  | x :: r, g, m => if isL m[k]? = some ds then (match mg (.d x) g m with
    | none => .bad
    | some p => turn (s p.1 p.2) (mLoopV k ds mg s r)) else .bad
noncomputable def mForV (m0 : ME) (mg : MG) (s : MS) : MS := fun g m => (m0 g m).then g fun x m1 => match x with
  | .ref k => (match isL m1[k]? with
    | some ds => mLoopV k ds mg s ds g m1
    | none => .bad)
  | .d d => (match isLst (.d d) with
    | some xs => mLoop mg s xs g m1
    | none => .bad)
  | .lam _ => .bad
/-! ### in the style of weakest preconditions -/
section
variable {s : MS} {mg : MG} {m0 : ME}
theorem q_loopV {k : Nat} {ds : List Dt} (h1 : Qg mg) (h2 : Qs s) : ∀ (xs : List Dt) (g : Gam) (m : Cells), Qo m (mLoopV k ds mg s xs g m)
  | [], g, m => by
    unfold mLoopV
    split
    · exact Obs.refl
    · trivial
  | x :: r, g, m => by
    unfold mLoopV
    split
    · split
      · trivial
      · rename_i p e
        have a := h1 _ _ _ _ e
        have b := h2 p.1 p.2
        refine Qo.mono a ?_
        unfold turn
        cases ec : s p.1 p.2 with
        | nx g' m' => rw [ec] at b; exact Qo.mono b (q_loopV h1 h2 r g' m')
        | ct g' m' => rw [ec] at b; exact Qo.mono b (q_loopV h1 h2 r g' m')
        | bk g' m' => rw [ec] at b; exact b
        | rt d m' => rw [ec] at b; exact b
        | ex c fs g' m' => rw [ec] at b; exact b
        | bad => trivial
    · trivial
theorem qs_forV (h0 : Qe m0) (h1 : Qg mg) (h2 : Qs s) : Qs (mForV m0 mg s) := fun g m => q_then (h0 g m) fun x m1 => by
  split
  · split
    · exact q_loopV h1 h2 _ g m1
    · trivial
  · rename_i d
    split
    · rename_i xs e
      have h := (qs_for (mi := fun _ m => .ok xs m) (fun g m => q_ok) h1 h2 : Qs (mFor (fun _ m => .ok xs m) mg s)) g m1
      exact h
    · trivial
  · trivial
end
end FM
namespace FM
open PySem PySem.Spec PyProof.Rows L2
/-! ### a for over enumerate(a list that may change, and does not while it is walked) -/
open Classical in
noncomputable def mLoopEV (k : Nat) (ds : List Dt) (mg : MG) (s : MS) : Nat → List Dt → Gam → Cells → Out
  | _, [], g, m => if isL m[k]? = some ds then .nx g m else .bad
  | i, x :: r, g, m => if isL m[k]? = some ds then (match mg (.d (.tup [.int ((i : Nat) : Int), x])) g m with
    | none => .bad
    | some p => turn (s p.1 p.2) (mLoopEV k ds mg s (i + 1) r)) else .bad
noncomputable def mForEV (m0 : ME) (mg : MG) (s : MS) : MS := fun g m => (m0 g m).then g fun x m1 => match x with
  | .ref k => (match isL m1[k]? with
    | some ds => mLoopEV k ds mg s 0 ds g m1
    | none => .bad)
  | _ => .bad
section
variable {s : MS} {mg : MG} {m0 : ME}
theorem q_loopEV {k : Nat} {ds : List Dt} (h1 : Qg mg) (h2 : Qs s) : ∀ (xs : List Dt) (i : Nat) (g : Gam) (m : Cells), Qo m (mLoopEV k ds mg s i xs g m)
  | [], i, g, m => by
    unfold mLoopEV
    split
    · exact Obs.refl
    · trivial
  | x :: r, i, g, m => by
    unfold mLoopEV
    split
    · split
      · trivial
      · rename_i p e
        have a := h1 _ _ _ _ e
        have b := h2 p.1 p.2
        refine Qo.mono a ?_
        unfold turn
        cases ec : s p.1 p.2 with
        | nx g' m' => rw [ec] at b; exact Qo.mono b (q_loopEV h1 h2 r (i + 1) g' m')
        | ct g' m' => rw [ec] at b; exact Qo.mono b (q_loopEV h1 h2 r (i + 1) g' m')
        | bk g' m' => rw [ec] at b; exact b
        | rt d m' => rw [ec] at b; exact b
        | ex c fs g' m' => rw [ec] at b; exact b
        | bad => trivial
    · trivial
theorem qs_forEV (h0 : Qe m0) (h1 : Qg mg) (h2 : Qs s) : Qs (mForEV m0 mg s) := fun g m => q_then (h0 g m) fun x m1 => by
  split
  · split
    · exact q_loopEV h1 h2 _ 0 g m1
    · trivial
  · trivial
end
end FM
namespace FM
open PySem PySem.Spec PyProof.Rows L2
open Classical
/-! ### xs.insert(i, y) of a list that may change -/
/-! ### [x] * n -/
/-! ### x or y by truth -/
def mOrT (ma mb : ME) : ME := fun g m => (ma g m).bind fun x m1 => match truV m1 x with
  | some true => .ok x m1
  | some false => mb g m1
  | none => .bad
theorem qe_orT {ma mb : ME} (ha : Qe ma) (hb : Qe mb) : Qe (mOrT ma mb) := fun g m => q_bind (ha g m) fun x m1 => by
  split
  · exact q_ok
  · exact hb g m1
  · exact q_bad
/-! ### == of plain data and lists that may change -/
end FM
namespace FM
open PySem PySem.Spec PyProof.Rows L2
/-! ### list(dict), sorted(ints), min(tuple of ints) -/
/-! list of a dict's keys -/
def kDt : L2.Key → Dt
  | .inl i => .int i
  | .inr z => .str z
/-! sorted of ints -/
/-! f(k = v, ..) -/
/-! tuple * n -/
end FM
namespace FM
open PySem PySem.Spec PyProof.Rows L2
open Classical
/-! ### [k for k in d if d[k] != t[k]]: d a dict that may change, its keys ints; t a tuple of plain things -/
noncomputable def neK (ks : List L2.Key) (ds ts : List Dt) : L2.Key → Option Bool
  | .inl i => (dGet ks ds (.inl i)).bind fun d => (atI ts i).bind fun e => (toP d).bind fun p => (toP e).bind fun q => if p.depth ≤ 64 ∧ q.depth ≤ 64 then some (!PyData.eqv p q) else none
  | .inr _ => none
noncomputable def filK (ks : List L2.Key) (ds ts : List Dt) : List L2.Key → Option (List Dt)
  | [] => some []
  | k :: r => (neK ks ds ts k).bind fun b => (filK ks ds ts r).map fun l => if b then kDt k :: l else l
noncomputable def mKeysNe (iD iS iX : Nat) : ME := fun g m => match g[iD]?, g[iS]? with
  | some (some (.ref k)), some (some (.d (.tup ts))) => match isD m[k]? with
    | some (ks, ds) => match filK ks ds ts ks with
      | some l => if iX < g.length ∧ szOk ks.length = true then .ok (.d (.lst l)) m else .bad
      | none => .bad
    | none => .bad
  | _, _ => .bad
theorem qe_keysNe {iD iS iX : Nat} : Qe (mKeysNe iD iS iX) := fun g m => by
  unfold mKeysNe
  split
  · split
    · split
      · split
        · exact q_ok
        · exact q_bad
      · exact q_bad
    · exact q_bad
  · exact q_bad
end FM
namespace FM
open PySem PySem.Spec PyProof.Rows L2
open Classical
/-! ### dicts whose values may be cells (boxes) -/
/-- the keys and the values of a box -/
def boxD (m : Cells) : Vl → Option (List L2.Key × List Vl)
  | .ref k => match m[k]? with
    | some (some (.ob (.dct ks) vs)) => some (ks, vs)
    | _ => none
  | _ => none
theorem boxD_ok {m : Cells} {v : Vl} {ks : List L2.Key} {fs : List Vl} (e : boxD m v = some (ks, fs)) : ∃ k, v = .ref k ∧ m[k]? = some (some (.ob (.dct ks) fs)) := by
  unfold boxD at e
  split at e
  · rename_i k
    split at e
    · rename_i ks' fs' hm
      cases e; exact ⟨k, rfl, hm⟩
    · cases e
  · cases e
section
variable {X : Cx} {C : Fc} {e : Expr} {st : Stmt} {me mb mc : ME}
/-- d[k] = data, k one of the box's keys -/
def putBx (x y v : Vl) (g : Gam) (m : Cells) : Out := match x, keyOf y, v with
  | .ref k, some key, .d d => (match boxD m (.ref k) with
    | some p => if hasK p.1 key = true ∧ szOk (p.1.length + 1) = true then .nx g (m.set k (some (.ob (.dct p.1) (dRepl key (Vl.d d) p.1 p.2)))) else .bad
    | none => .bad)
  | _, _, _ => .bad
def mPutB (mo mi mv : ME) : MS := fun g m => (mv g m).then g fun v m1 => (mo g m1).then g fun x m2 => (mi g m2).then g fun y m3 => putBx x y v g m3
theorem dRepl_mem {k : L2.Key} {d z : Vl} : ∀ {ks : List L2.Key} {ds : List Vl}, z ∈ dRepl k d ks ds → z = d ∨ z ∈ ds
  | [], ds, h => by unfold dRepl at h; cases ds <;> simp at h
  | k' :: ks, [], h => by unfold dRepl at h; simp at h
  | k' :: ks, x :: ds, h => by
    unfold dRepl at h
    rcases List.mem_cons.mp h with h | h
    · split at h
      · exact .inl h
      · exact .inr (by rw [h]; simp)
    · rcases dRepl_mem h with h | h
      · exact .inl h
      · exact .inr (List.mem_cons_of_mem _ h)
/-- {k: v, ..}, the values may be cells -/
abbrev MPBs := Gam → Cells → Rs (List (L2.Key × Vl))
def mBNil : MPBs := fun _ m => .ok [] m
def mBCons (mk mv : ME) (mr : MPBs) : MPBs := fun g m => (mk g m).bind fun x m1 => (mv g m1).bind fun y m2 => match keyOf x with
  | some k => (mr g m2).bind fun r m3 => .ok ((k, y) :: r) m3
  | none => .bad
inductive VPs (T : Tab) (I : Hp) (A : List Addr) : List (V × V) → List (L2.Key × Vl) → Prop
  | nil : VPs T I A [] []
  | cons {k : L2.Key} {v : V} {d : Vl} {ps : List (V × V)} {ds : List (L2.Key × Vl)} : VR T I A v d → VPs T I A ps ds → VPs T I A ((kV k, v) :: ps) ((k, d) :: ds)
theorem VPs.split {T : Tab} {I : Hp} {A : List Addr} {ps : List (V × V)} {es : List (L2.Key × Vl)} (h : VPs T I A ps es) : ∃ us : List V, us.length = es.length ∧ ps = ((es.map (·.1)).zip us).map (fun kv => (kV kv.1, kv.2)) ∧ VRs T I A us (es.map (·.2)) := by
  induction h with
  | nil => exact ⟨[], rfl, rfl, .nil⟩
  | @cons k v d ps ds a _ ih =>
    obtain ⟨us, h1, h2, h3⟩ := ih
    exact ⟨v :: us, by simp [h1], by rw [h2]; rfl, .cons a h3⟩
def okBx (es : List (L2.Key × Vl)) : Prop := es.length ≤ 15 ∧ (es.map (·.1)).Nodup ∧ ∀ z, Vl.lam z ∉ es.map (·.2)
noncomputable def mDispB (mp : MPBs) : ME := fun g m => (mp g m).bind fun es m1 => if okBx es then .ok (.ref m1.length) (m1 ++ [some (.ob (.dct (es.map (·.1))) (es.map (·.2)))]) else .bad
end
/-! what these ask -/
section
variable {g : Gam} {m : Cells} {E : EX} {mk mv mo mi me : ME}
/-! what these keep -/
theorem qe_bnil : Qe mBNil := fun g m => q_ok
theorem qe_bcons {mr : MPBs} (hk : Qe mk) (hv : Qe mv) (hp : Qe mr) : Qe (mBCons mk mv mr) := fun g m => q_bind (hk g m) fun x m1 => q_bind (hv g m1) fun y m2 => by
  split
  · exact q_bind (hp g m2) fun _ _ => q_ok
  · exact q_bad
theorem qe_dispB {mp : MPBs} (hp : Qe mp) : Qe (mDispB mp) := fun g m => q_bind (hp g m) fun es m1 => by
  split
  · exact Obs.app
  · exact q_bad
theorem qs_putB (ho : Qe mo) (hi : Qe mi) (hv : Qe mv) : Qs (mPutB mo mi mv) := fun g m => q_then (hv g m) fun v m1 => q_then (ho g m1) fun x m2 => q_then (hi g m2) fun y m3 => by
  unfold putBx
  split
  · rename_i k key d hk
    split
    · rename_i p hp
      split
      · obtain ⟨k2, e2, hm⟩ := boxD_ok (show boxD m3 (.ref k) = some (p.1, p.2) from hp)
        cases e2
        refine ⟨by simp, fun j c fs hj q => ?_⟩
        by_cases hjk : k = j
        · subst hjk
          rw [List.getElem?_set_self hj] at q
          cases q
          refine ⟨_, _, hm, fun i hi => ?_⟩
          rcases dRepl_mem hi with h | h
          · cases h
          · exact h
        · rw [List.getElem?_set_ne hjk] at q
          exact ⟨_, _, q, fun _ h => h⟩
      · trivial
    · trivial
  · trivial
end
end FM
namespace FM
open PySem PySem.Spec PyProof.Rows L2
open Classical
/-! ### lists and tuples whose items may be cells -/
def noLam (vs : List Vl) : Prop := ∀ z, Vl.lam z ∉ vs
noncomputable def mLstB (ma : MA) : ME := fun g m => (ma g m).bind fun vs m1 => if noLam vs ∧ szOk vs.length = true then .ok (.ref m1.length) (m1 ++ [some (.ob .lst vs)]) else .bad
noncomputable def mTupB (ma : MA) : ME := fun g m => (ma g m).bind fun vs m1 => if noLam vs ∧ szOk vs.length = true then .ok (.ref m1.length) (m1 ++ [some (.ob .tup vs)]) else .bad
/-- the items of a list box, of a tuple box -/
def boxL (m : Cells) : Vl → Option (List Vl)
  | .ref k => match m[k]? with
    | some (some (.ob .lst vs)) => some vs
    | _ => none
  | _ => none
def boxT (m : Cells) : Vl → Option (List Vl)
  | .ref k => match m[k]? with
    | some (some (.ob .tup vs)) => some vs
    | _ => none
  | _ => none
section
variable {g : Gam} {m : Cells} {E : EX} {ma : MA} {P : Vl → Prop}
theorem qe_lstB (h : Qe ma) : Qe (mLstB ma) := fun g m => q_bind (h g m) fun vs m1 => by
  split
  · exact Obs.app
  · exact q_bad
theorem qe_tupB (h : Qe ma) : Qe (mTupB ma) := fun g m => q_bind (h g m) fun vs m1 => by
  split
  · exact Obs.app
  · exact q_bad
end
end FM
namespace FM
open PySem PySem.Spec PyProof.Rows L2
open Classical
/-! ### append and pop of a list box -/
end FM
namespace FM
open PySem PySem.Spec PyProof.Rows L2
open Classical
/-! ### a body that is looked at: no thing below gets new refs -/
noncomputable def chkS (s : MS) : MS := fun g m => if Qo m (s g m) then s g m else .bad
theorem qs_chk {s : MS} : Qs (chkS s) := fun g m => by
  unfold chkS
  by_cases h : Qo m (s g m)
  · rw [if_pos h]; exact h
  · rw [if_neg h]; trivial
/-! what these ask -/
end FM
namespace FM
open PySem PySem.Spec PyProof.Rows L2
open Classical
/-! ### targets: a tuple whose items may be cells -/
abbrev MGBs := List Vl → Gam → Cells → Option (Gam × Cells)
def gbNil : MGBs := fun ds g m => match ds with
  | [] => some (g, m)
  | _ => none
def gbCons (mg : MG) (mr : MGBs) : MGBs := fun ds g m => match ds with
  | d :: r => (mg d g m).bind fun p => mr r p.1 p.2
  | [] => none
def gTpB (n : Nat) (mg : MGBs) : MG := fun d g m => match d with
  | .d (.tup ds) => if ds.length = n then mg (ds.map Vl.d) g m else none
  | .ref k => (match boxT m (.ref k) with
    | some ds => if ds.length = n then mg ds g m else none
    | none => none)
  | _ => none
end FM
namespace FM
open PySem PySem.Spec PyProof.Rows L2
open Classical
/-! ### `in` a list of plain data, of whatever kinds -/
/-! ### where the names of a comprehension within one stand -/
end FM
namespace FM
open PySem PySem.Spec PyProof.Rows L2
open Classical
/-! ### x.f += n -/
def setI (c i k : Nat) (d : Dt) (g : Gam) (m : Cells) : Out := match isIns m[k]? with
  | some q => if q.1 = c then (match putAt i d q.2 with
    | some fs' => .nx g (m.set k (some (.ins c fs')))
    | none => .bad) else .bad
  | none => .bad
def mFldAug (ix : FTab) (mo mv : ME) : MS := fun g m => (mo g m).then g fun x m1 => match x with
  | .ref k => (match isIns m1[k]? with
    | some p => (match ix p.1 with
      | some i => (match p.2[i]? with
        | some (.int u) => (mv g m1).then g fun y m2 => (match y with
          | .d (.int j) => setI p.1 i k (.int (u + j)) g m2
          | _ => .bad)
        | _ => .bad)
      | none => .bad)
    | none => .bad)
  | _ => .bad
section
variable {pN pB pC : PN} {pR : PR} {pX : PX} {mo mv : ME} {g : Gam} {m : Cells} {ix : FTab}
theorem qs_fldaug (h1 : Qe mo) (h2 : Qe mv) : Qs (mFldAug ix mo mv) := fun g m => q_then (h1 g m) fun x m1 => by
  split
  · split
    · split
      · split
        · exact q_then (h2 g m1) fun y m2 => by
            split
            · unfold setI
              split
              · split
                · split
                  · exact Obs.set fun c fs e => by cases e
                  · exact trivial
                · exact trivial
              · exact trivial
            · exact trivial
        · exact trivial
      · exact trivial
    · exact trivial
  · exact trivial
end
end FM
namespace FM
open PySem PySem.Spec PyProof.Rows L2 FS
open Classical
/-! ### targets of a comprehension: a tuple whose items may be cells -/
/-! ### a comprehension over a list whose items may be cells -/
noncomputable def lcLoopB (k : Nat) (ds : List Vl) (mg : MG) (mt : MT) (me : ME) (g0 : Gam) : List Vl → List Dt → Cells → Rs (List Dt)
  | [], acc, m => if boxL m (.ref k) = some ds then .ok acc m else .bad
  | x :: r, acc, m => if boxL m (.ref k) = some ds then (match mg x g0 m with
    | none => .bad
    | some p => match mt p.1 p.2 with
      | .ok true m2 => (match me p.1 m2 with
        | .ok (.d d) m3 => if szOk (acc.length + 1) then lcLoopB k ds mg mt me g0 r (acc ++ [d]) m3 else .bad
        | _ => .bad)
      | .ok false m2 => lcLoopB k ds mg mt me g0 r acc m2
      | _ => .bad) else .bad
noncomputable def mLcB (m0 : ME) (mg : MG) (mt : MT) (me : ME) (own : List Nat) : ME := fun g m => (m0 g m).bind fun x m1 => match x with
  | .ref k => (match boxL m1 (.ref k) with
    | some ds => (lcLoopB k ds mg mt me (wipeG g own) ds [] m1).bind fun acc m2 => .ok (.d (.lst acc)) m2
    | none => .bad)
  | _ => .bad
section
variable {mg : MG} {mt : MT} {me m0 : ME} {own : List Nat}
theorem q_lcLoopB {k : Nat} {ds : List Vl} {g0 : Gam} (h1 : Qg mg) (h2 : Qe mt) (h3 : Qe me) : ∀ (xs : List Vl) (acc : List Dt) (m : Cells), Qr m (lcLoopB k ds mg mt me g0 xs acc m)
  | [], acc, m => by
    unfold lcLoopB
    split
    · exact q_ok
    · exact q_bad
  | x :: r, acc, m => by
    unfold lcLoopB
    split
    · split
      · exact q_bad
      · rename_i p e
        have a := h1 _ _ _ _ e
        split
        · rename_i m2 e2
          have b := a.trans (h2.ok e2)
          split
          · rename_i d m3 e3
            split
            · exact (q_lcLoopB h1 h2 h3 r _ m3).mono (b.trans (h3.ok e3))
            · exact q_bad
          · exact q_bad
        · rename_i m2 e2
          exact (q_lcLoopB h1 h2 h3 r _ m2).mono (a.trans (h2.ok e2))
        · exact q_bad
    · exact q_bad
theorem qe_lcB (h0 : Qe m0) (h1 : Qg mg) (h2 : Qe mt) (h3 : Qe me) : Qe (mLcB m0 mg mt me own) := fun g m => q_bind (h0 g m) fun x m1 => by
  split
  · split
    · exact q_bind (q_lcLoopB h1 h2 h3 _ [] m1) fun _ _ => q_ok
    · exact q_bad
  · exact q_bad
/-! targets -/
theorem qg_gbNil : ∀ ds g m p, gbNil ds g m = some p → Obs m p.2 := fun ds g m p e => by
  unfold gbNil at e
  split at e
  · cases e; exact Obs.refl
  · cases e
theorem qg_gbCons {mr : MGBs} (h1 : Qg mg) (h2 : ∀ ds g m p, mr ds g m = some p → Obs m p.2) : ∀ ds g m p, gbCons mg mr ds g m = some p → Obs m p.2 := fun ds g m p e => by
  unfold gbCons at e
  split at e
  · obtain ⟨q, e1, e2⟩ := Option.bind_eq_some_iff.mp e
    exact (h1 _ _ _ _ e1).trans (h2 _ _ _ _ e2)
  · cases e
theorem qg_tpB {n : Nat} {mr : MGBs} (h : ∀ ds g m p, mr ds g m = some p → Obs m p.2) : Qg (gTpB n mr) := fun d g m p e => by
  unfold gTpB at e
  split at e
  · split at e
    · exact h _ _ _ _ e
    · cases e
  · split at e
    · split at e
      · exact h _ _ _ _ e
      · cases e
    · cases e
  · cases e
end
end FM
namespace FM
open PySem PySem.Spec PyProof.Rows L2
open Classical
/-! ### a for over enumerate(a list cell, a list, a tuple) -/
section
variable {C : Fc} {mg : MG} {s : MS}
noncomputable def mForES (m0 : ME) (mg : MG) (s : MS) : MS := fun g m => (m0 g m).then g fun x m1 => match x with
  | .ref k => (match isL m1[k]? with
    | some ds => mLoopEV k ds mg s 0 ds g m1
    | none => .bad)
  | .d d => (match isLst (.d d) with
    | some es => mLoop mg s (enumD es) g m1
    | none => (match isTup (.d d) with
      | some es => mLoop mg s (enumD es) g m1
      | none => .bad))
  | .lam _ => .bad
end
section
variable {pN pB pC : PN} {pR : PR} {pX : PX} {s : MS} {mg : MG} {m0 : ME} {g : Gam} {m : Cells}
theorem qs_forES (h0 : Qe m0) (h1 : Qg mg) (h2 : Qs s) : Qs (mForES m0 mg s) := fun g m => q_then (h0 g m) fun x m1 => by
  split
  · split
    · exact q_loopEV h1 h2 _ 0 g m1
    · trivial
  · split
    · exact q_loop h1 h2 _ g m1
    · split
      · exact q_loop h1 h2 _ g m1
      · trivial
  · trivial
end
end FM
namespace FM
open PySem PySem.Spec PyProof.Rows L2
open Classical
/-! ### C(a, .., k = v, ..) that may change; keyword-only parameters left out have their defaults; __init__ raises nothing -/
def mMakeKC (c n k : Nat) (pm : List Nat) (ms : List Dt) (f : Fn) (ma mk : MA) : ME := fun g m => (ma g m).bind fun xs m1 => match mk g m1 with
  | .ok zs m2 => if xs.length = n ∧ zs.length = k then (match f (pick pm (.ref m2.length :: xs ++ zs ++ ms.map Vl.d)) (m2 ++ [some (.ins c [])]) with
    | .ok (.d .non) m3 => .ok (.ref m2.length) m3
    | _ => .bad) else .bad
  | _ => .bad
section
variable {ma mk : MA} {g : Gam} {m : Cells} {E : EX} {c n k : Nat} {pm : List Nat} {ms : List Dt} {f : Fn}
theorem qe_makeKC (qf : Qf f) (h1 : Qe ma) (h2 : Qe mk) : Qe (mMakeKC c n k pm ms f ma mk) := fun g m => q_bind (h1 g m) fun xs m1 => by
  split
  · rename_i zs m2 e2
    split
    · split
      · rename_i m3 e3
        have a := h2.ok e2
        have b := qf (pick pm (.ref m2.length :: xs ++ zs ++ ms.map Vl.d)) (m2 ++ [some (.ins c [])])
        rw [e3] at b
        exact (a.trans (Obs.app.trans b))
      · exact q_bad
    · exact q_bad
  · exact q_bad
end
end FM
namespace FM
open PySem PySem.Spec PyProof.Rows L2
open Classical
/-! ### a.split(b), a.join(rows) -/
def mM1 (f : O2) (ma mb : ME) : ME := fun g m => (ma g m).bind fun x m1 => match x with
  | .d (.str a) => (match mb g m1 with
    | .ok y m2 => ofO m2 (f m2 (.d (.str a)) y)
    | _ => .bad)
  | _ => .bad
section
variable {X : Cx} {C : Fc} {e : Expr} {ma mb : ME}
theorem fe_m1 {r : V → List V → Hp → VK → Prop} {f : O2} (h : PE X e (tM1 r (FE C ma) (FE C mb))) (s : SimO C.T (fun x y H Q => r x [y] H Q) f) : PE X e (FE C (mM1 f ma mb)) := pe_of h fun σ H Q ⟨B, g, S, m, vs, I, A, rl, w⟩ => by
  refine ⟨B, g, S, m, vs, I, A, rl, ?_⟩
  unfold mM1 at w
  cases ea : ma g m with
  | bad => rw [ea] at w; exact w.elim
  | ex c fs m' => rw [ea] at w; exact w
  | ok x m1 =>
    rw [ea] at w
    intro xv H1 I1 A1 r1
    cases x with
    | ref k => exact (show False from w).elim
    | lam z => exact (show False from w).elim
    | d d =>
      cases d with
      | str a =>
        cases r1.top.dat
        refine ⟨⟨a, rfl⟩, B, g, .d (.str a) :: S, m1, .str a :: vs, I1, A1, r1, ?_⟩
        have w1 : WantE C B g S σ vs Q (match mb g m1 with
          | .ok y m2 => ofO m2 (f m2 (.d (.str a)) y)
          | _ => .bad) := w
        cases eb : mb g m1 with
        | bad => rw [eb] at w1; exact (show False from w1).elim
        | ex c fs m' => rw [eb] at w1; exact (show False from w1).elim
        | ok y m2 =>
          rw [eb] at w1
          intro yv H2 I2 A2 r2
          have w2 : WantE C B g S σ vs Q (ofO m2 (f m2 (.d (.str a)) y)) := w1
          cases ef : f m2 (.d (.str a)) y with
          | none => rw [ef] at w2; exact (show False from w2).elim
          | some d =>
            rw [ef] at w2
            have w3 : WantE C B g S σ vs Q (.ok d m2) := w2
            exact s B.F I2 H2 A2 m2 _ _ _ _ d r2.base r2.pop1.top r2.top ef Q fun v H' I' b e hv => w3 v H' I' A2 ((r2.pop1.pop1.step b ⟨e, List.prefix_refl _⟩).push hv)
      | _ => exact (show False from w).elim
end
def strsE : List Dt → Option (List Str)
  | [] => some []
  | .str z :: r => (strsE r).map (z :: ·)
  | _ => none
theorem strsE_ok {T : Tab} {I : Hp} : ∀ {ds : List Dt} {vs : List V} {zs : List Str}, strsE ds = some zs → DRs T I vs ds → vs = zs.map V.str
  | [], vs, zs, h, r => by cases h; cases r; rfl
  | d :: ds, vs, zs, h, r => by
    cases r with
    | cons a t =>
      cases d with
      | str z =>
        unfold strsE at h
        obtain ⟨ys, h1, rfl⟩ := Option.map_eq_some_iff.mp h
        cases a
        rw [strsE_ok h1 t]; rfl
      | _ => simp [strsE] at h
theorem strsE_map : ∀ zs : List Str, strsE (zs.map Dt.str) = some zs
  | [] => rfl
  | z :: zs => by rw [List.map_cons, strsE, strsE_map zs]; rfl
def rJoin1 (K : PySem.W.Frag) : V → List V → Hp → VK → Prop := fun x xs H Q => ∃ a p, ∃ ys : List Str, x = .str a ∧ xs = [.ref p] ∧ (SqL K H p (ys.map V.str) ∨ SqT K H p (ys.map V.str)) ∧ (ys.map (·.length)).sum + ys.length * a.length ≤ 16777216 ∧ Q (.str (Txt.join a ys)) H
noncomputable def oJoin : O2 := fun m x y => match x, lstOf m y with
  | .d (.str a), some ds => (strsE ds).bind fun ys => if (ys.map (·.length)).sum + ys.length * a.length ≤ 16777216 then some (.d (.str (Txt.join a ys))) else none
  | _, _ => none
theorem sim_join {T : Tab} : SimO T (fun x y H Q => rJoin1 T.K x [y] H Q) oJoin := simO_pure fun F I H A m x y d1 d2 d b hx hy e Q q => by
  unfold oJoin at e
  split at e
  · rename_i a ds h1
    cases e2 : strsE ds with
    | none => simp [e2] at e
    | some ys =>
      simp only [e2, Option.bind_some] at e
      by_cases h : (ys.map (·.length)).sum + ys.length * a.length ≤ 16777216
      · rw [if_pos h] at e
        cases e
        cases hx.dat
        obtain ⟨p, vs, rfl, p1, p2⟩ := lstOf_ok b hy h1
        rw [strsE_ok e2 p2] at p1
        exact ⟨a, p, ys, rfl, rfl, .inl p1, h, q _ (.d (.str _))⟩
      · rw [if_neg h] at e; cases e
  · cases e
section
variable {ma mb : ME} {g : Gam} {m : Cells} {E : EX} {f : O2}
theorem w_m1 {Q : Vl → Cells → Prop} (h : wR (ma g m) (fun x m1 => ∃ a, x = .d (.str a) ∧ wR (mb g m1) (fun y m2 => wO (f m2 (.d (.str a)) y) fun d => Q d m2) eNo) E) : wR (mM1 f ma mb g m) Q E :=
  w_bind (wR_mono h fun x m1 ⟨a, e, h2⟩ => by
    subst e
    obtain ⟨y, m2, e2, h3⟩ := wR_ok h2
    obtain ⟨d, e3, q⟩ := wO_ok h3
    dsimp only
    rw [e2]
    dsimp only
    rw [e3]
    show wR (.ok d m2) Q E
    rw [rE]
    exact q)
theorem wo_join {a : Str} {y : Vl} {ys : List Str} {P : Vl → Prop} (h1 : lstOf m y = some (ys.map .str)) (h2 : (ys.map (·.length)).sum + ys.length * a.length ≤ 16777216) (q : P (.d (.str (Txt.join a ys)))) : wO (oJoin m (.d (.str a)) y) P := wO_eq (by simp only [oJoin, h1, strsE_map, Option.bind_some]; exact if_pos h2) q
theorem qe_m1 (h1 : Qe ma) (h2 : Qe mb) : Qe (mM1 f ma mb) := fun g m => q_bind (h1 g m) fun x m1 => by
  split
  · split
    · rename_i y m2 e2
      have a := h2.ok e2
      unfold ofO
      split
      · exact a
      · exact q_bad
    · exact q_bad
  · exact q_bad
end
end FM
namespace FM
open PySem PySem.Spec PyProof.Rows L2
open Classical
/-! ### C(k = v, ..) by keywords alone, frozen when it is made; __init__ raises nothing -/
def mMakeKF (c n k : Nat) (pm : List Nat) (f : Fn) (mk : MA) : ME := fun g m => (mk g m).bind fun zs m2 => if zs.length = k then (match f (pick pm (.ref m2.length :: zs)) (m2 ++ [some (.ins c [])]) with
  | .ok (.d .non) m3 => (match isI c m3[m2.length]? with
    | some fs => if fs.length = n then .ok (.d (.ins c fs)) (m3.take m2.length) else .bad
    | none => .bad)
  | _ => .bad) else .bad
section
variable {mk : MA} {g : Gam} {m : Cells} {E : EX} {c n k : Nat} {pm : List Nat} {f : Fn}
theorem qe_makeKF (qf : Qf f) (h2 : Qe mk) : Qe (mMakeKF c n k pm f mk) := fun g m => q_bind (h2 g m) fun zs m2 => by
  split
  · split
    · rename_i m3 e3
      split
      · split
        · have b := qf (pick pm (.ref m2.length :: zs)) (m2 ++ [some (.ins c [])])
          rw [e3] at b
          exact (Obs.app.trans b).take (Nat.le_refl _)
        · exact q_bad
      · exact q_bad
    · exact q_bad
  · exact q_bad
end
/-! ### f'..' -/
def mFmt (me : ME) : ME := fun g m => (me g m).bind fun x m1 => match x with
  | .d (.str y) => if y.length ≤ sizeLine then .ok (.d (.str y)) m1 else .bad
  | .d (.int i) => if i.natAbs.log2 < 1920 then .ok (.d (.str (toString i : String))) m1 else .bad
  | _ => .bad
def mJs : List ME → Str → ME
  | [], acc => fun _ m => .ok (.d (.str acc)) m
  | me :: r, acc => fun g m => (me g m).bind fun x m1 => match x with
    | .d (.str y) => if (acc ++ y).length ≤ sizeLine then mJs r (acc ++ y) g m1 else .bad
    | _ => .bad
/-! ### int of a text -/
section
variable {me : ME} {ms : List ME} {g : Gam} {m : Cells} {E : EX} {Q : Vl → Cells → Prop} {acc : Str}
theorem qe_fmt (h : Qe me) : Qe (mFmt me) := fun g m => q_bind (h g m) fun x m1 => by
  split
  · split
    · exact q_ok
    · exact q_bad
  · split
    · exact q_ok
    · exact q_bad
  · exact q_bad
theorem qe_js0 : Qe (mJs [] acc) := fun g m => q_ok
theorem qe_js (h : Qe me) (h2 : ∀ acc, Qe (mJs ms acc)) : Qe (mJs (me :: ms) acc) := fun g m => by
  unfold mJs
  exact q_bind (h g m) fun x m1 => by
    split
    · split
      · exact h2 _ g m1
      · exact q_bad
    · exact q_bad
theorem qe_js3 {a b c : ME} (h1 : Qe a) (h2 : Qe b) (h3 : Qe c) : Qe (mJs [a, b, c] acc) := qe_js h1 fun _ => qe_js h2 fun _ => qe_js h3 fun _ => qe_js0
end
end FM
namespace FM
open PySem PySem.Spec PyProof.Rows L2 L2H
open Classical
theorem takes0N {X : Cx} : L2N.Takes X (fun _ _ _ _ => False) := fun u s' ⟨_, _, _, _, _, _, _, _, _, _, _, _, _, _, _, _, w⟩ => w.elim
/-! ### what is called while an exception is handled -/
/-- a function of the exception: class, fields, cells -/
abbrev FnX := Nat → List Dt → Cells → Rs Vl
/-! ### e.m() of the exception that is handled -/
def mXM (tab : Nat → Option FnX) (c : Nat) (ds : List Dt) : ME := fun _ m => match tab c with
  | some f => (f c ds m).calm
  | none => .bad
theorem calm_want {T : Tab} {F : Frm} {I : Hp} {A : List Addr} {Q : VK} {r : Rs Vl} {B : Bs} {g : Gam} {S : List Vl} {m : Cells} {σ : L2.St} {vs : List V} {H : Hp} {x : Option Xc} {W : WX} (rl : Rel T x B g S m σ vs H I A) (hF : F = B.F) (w : WantE ⟨T, x, W⟩ B g S σ vs Q r.calm) : WantF T F I A Q E0 r := by
  subst hF
  cases r with
  | ok d m' => exact fun v H' I' A' b u hv => w v H' I' A' ((rl.step b u).push hv)
  | ex c fs m' => exact (show False from w).elim
  | bad => exact (show False from w).elim
theorem zip_none {f : Str} : ∀ {fs : List Str} {us : List V}, f ∉ fs → (fs.zip us).lookup f = none
  | [], us, _ => rfl
  | g :: fs, [], _ => rfl
  | g :: fs, u :: us, h => by
    rw [List.zip_cons_cons, List.lookup_cons]
    have : (f == g) = false := beq_eq_false_iff_ne.mpr fun e => h (by rw [e]; simp)
    rw [this]
    exact zip_none fun hh => h (List.mem_cons_of_mem _ hh)
section
variable {X : Cx} {e : Expr} {c i : Nat} {dd : Addr} {ds : List Dt} {T : Tab} {W : WX} {p : Addr × Obj} {apos pos : Pos} {m : Str} {k : Nat} {pl : Sem Bool}
/-! ### f(e) -/
def mXCall (fx : FnX) (c : Nat) (ds : List Dt) : ME := fun _ m => (fx c ds m).calm
end
end FM
namespace FM
open PySem PySem.Spec PyProof.Rows L2 L2H
/-! ### .. its context, its facts, what it keeps -/
theorem xmB_ok {K : PySem.W.Frag} {C f : Addr} {m : Str} (h : xmB K C m f = true) : XfC K C ∧ Meth K C m f := by
  obtain ⟨c1, h⟩ := He.ba h
  obtain ⟨c2, h⟩ := He.ba h
  obtain ⟨c3, c4⟩ := He.ba h
  exact ⟨xfB_ok c1, ob_ok c2, c3, c4⟩
theorem q_calm {m : Cells} {r : Rs Vl} (h : Qr m r) : Qr m r.calm := by
  cases r with
  | ok a m' => exact h
  | ex c fs m' => exact trivial
  | bad => exact trivial
theorem qe_xm {tab : Nat → Option FnX} {c : Nat} {ds : List Dt} (h : ∀ c f, tab c = some f → ∀ c ds m, Qr m (f c ds m)) : Qe (mXM tab c ds) := fun g m => by
  unfold mXM
  cases e : tab c with
  | none => exact q_bad
  | some f => exact q_calm (h c f e c ds m)
theorem qe_xcall {f : FnX} {c : Nat} {ds : List Dt} (h : ∀ c ds m, Qr m (f c ds m)) : Qe (mXCall f c ds) := fun g m => q_calm (h c ds m)
end FM
namespace FS
open PySem PySem.Spec PyProof.Rows L2 PySem.Froz
/-! ### a set of texts that stands by a name -/
end FS
namespace FM
open PySem PySem.Spec PyProof.Rows L2 FS
/-! ### .. on the data's side: a cell -/
section
variable {X : Cx} {C : Fc} {e : Expr} {me mb : ME}
def mSet0 : ME := fun _ m => .ok (.ref m.length) (m ++ [some (.set [])])
def setOf_ (m : Cells) : Vl → Option (Nat × List Str)
  | .ref k => match m[k]? with
    | some (some (.set L)) => if L.length + 1 < scanBound then some (k, L) else none
    | _ => none
  | _ => none
def mSAdd (me mb : ME) : ME := fun g m => (me g m).bind fun x m1 => match setOf_ m1 x with
  | some _ => (mb g m1).bind fun y m2 => match y, setOf_ m2 x with
    | .d (.str z), some (k, L) => .ok (.d .non) (m2.set k (some (.set (addL L z))))
    | _, _ => .bad
  | none => .bad
def mTruS (me : ME) : MT := fun g m => (me g m).bind fun x m1 => match setOf_ m1 x with
  | some p => .ok (!p.2.isEmpty) m1
  | none => .bad
/-- sorted(x), x a set: a list -/
def mSortS (me : ME) : ME := fun g m => (me g m).bind fun x m1 => match setOf_ m1 x with
  | some p => sorted_ m1 p.2
  | none => .bad
end
/-! ### weakest preconditions, and what these readings keep -/
section
variable {g : Gam} {m : Cells} {Q : Vl → Cells → Prop} {E : EX} {me mb : ME}
theorem qe_set0 : Qe mSet0 := fun g m => Obs.app
theorem qe_sadd (h1 : Qe me) (h2 : Qe mb) : Qe (mSAdd me mb) := fun g m => by
  unfold mSAdd
  refine q_bind (h1 g m) fun x m1 => ?_
  split
  · refine q_bind (h2 g m1) fun y m2 => ?_
    split
    · exact Obs.set (fun c fs e => by cases e)
    · exact q_bad
  · exact q_bad
theorem qe_truS (h1 : Qe me) : Qe (mTruS me) := fun g m => by
  unfold mTruS
  refine q_bind (h1 g m) fun x m1 => ?_
  split
  · exact q_ok
  · exact q_bad
theorem qe_sortS (h1 : Qe me) : Qe (mSortS me) := fun g m => by
  unfold mSortS
  refine q_bind (h1 g m) fun x m1 => ?_
  split
  · unfold sorted_
    split
    · exact q_ok
    · exact q_bad
  · exact q_bad
end
/-! ### texts by their order -/
end FM
namespace PySem
namespace HandSPX
open Builtin Builtin.ObjectAttr
section
variable {M : Model} {A : Around} {E : Value → Shared → Prop} {h : Heap} {g : Array GenState} {d : Drawn} {t : Nat} {os : OsState}
variable {nm q : Str} {C N : Addr} {bs bm mB : List Value} {hdct : Bool} {sn : List Str} {sub : List Value} {ab : Bool} {col : Option Bool} {dd : Option Addr} {k0 k1 k2 k3 k5 : Option Value} {B nI iI : String}
theorem kwcheck_new (F : ExcBaseFacts B nI iI mB) (hT : ∀ X : String, bm.contains (.type X) = mB.contains (.type X)) {us : List Value} {kw : List (Str × Value)} {Q : Unit → Shared → Prop}
    (hC : h.get? C = some (excClassObj nm q C N bs bm hdct sn sub ab col dd k0 k1 k2 k3 k5 nI)) (hq : Q () ⟨h, g, d, t, os⟩) : wpAny M A (checkBuiltinCall nI ⟨.ref C :: us, kw⟩) Q E ⟨h, g, d, t, os⟩ := by
  have c1 : (Value.ref C :: bm).contains (.type B) = true := by
    rw [List.contains_cons, hT, F.hasB]; exact Bool.or_true _
  have c2 := F.noStar
  simp only [checkBuiltinCall, F.newKind, F.newSplit, F.newRow]
  repeat (first
    | refine wpAny_loadPart_at hC ?_
    | (refine wpAny_isSubtype_exc hC ?_; rw [c1])
    | refine wpAny_staticBase_exc hC ?_
    | refine wpAny_madeBy_exc hC ?_
    | simp only [bne_self_eq_false, Bool.false_eq_true, if_false]
    | wp_step)
  exact hq
end
section
variable {prog : Program} {w : World} {A : Around} {E : Value → Shared → Prop} {R : Result → Shared → Prop} {h : Heap} {g : Array GenState} {d : Drawn} {t : Nat} {os : OsState}
variable {nm q : Str} {C N : Addr} {bs bm mB : List Value} {hdct : Bool} {sn : List Str} {sub : List Value} {ab : Bool} {col : Option Bool} {dd : Option Addr} {k0 k1 k2 k3 k5 : Option Value} {B nI iI : String}
theorem kwnew (F : ExcBaseFacts B nI iI mB) (hT : ∀ X : String, bm.contains (.type X) = mB.contains (.type X)) {us : List Value} {kw : List (Str × Value)}
    (hC : h.get? C = some (excClassObj nm q C N bs bm hdct sn sub ab col dd k0 k1 k2 k3 k5 nI)) (hz : us.length ≤ sizeLine)
    (hq : R (.ok (.ret (.ref (h.objs.size + 1)))) ⟨(h.push (W.kdv_tup us)).push (excO C h.objs.size), g, d, t, os⟩) :
    codeAny (model prog w) A (.builtin nI ⟨.ref C :: us, kw⟩) R ⟨h, g, d, t, os⟩ := by
  have he := F.ends
  have c1 : (Value.ref C :: bm).contains (.type B) = true := by
    rw [List.contains_cons, hT, F.hasB]; exact Bool.or_true _
  have c2 : (Value.ref C :: bm).contains (.type "AttributeError") = false := by
    rw [List.contains_cons, hT, F.noAttr]; rfl
  have c3 : (Value.ref C :: bm).contains (.type "NameError") = false := by
    rw [List.contains_cons, hT, F.noName]; rfl
  refine codeAny_builtinAt F.entry ?_
  unfold Builtin.«BaseException.__new__»
  refine wpAt_bind ?_
  show wpAt _ _ _ (stack >>= _) _ _ _
  refine wpAt_bind (wpAt_stack fun p below => wpAt_of_wpAny ?_)
  wp_walk
  refine wpAt_of_wpAny ?_
  rw [F.owner]
  repeat (first
    | with_reducible refine wpAny_madeHere_exc F.canon hC ?_
    | with_reducible refine wpAny_loadPart_at hC ?_
    | (with_reducible refine wpAny_isSubtype_exc hC ?_; first | rw [c1] | rw [c2] | rw [c3])
    | wp_step)
  show R _ _
  rw [Heap.size_push]
  exact hq
theorem kwtype_call (F : ExcBaseFacts B nI iI mB) (hT : ∀ X : String, bm.contains (.type X) = mB.contains (.type X)) {us : List Value} {kw : List (Str × Value)} {fI : Addr} {Q : Fin → Shared → Prop}
    (hC : h.get? C = some (excClassObj nm q C N bs bm hdct sn sub ab col dd k0 k1 k2 k3 k5 nI))
    (hi : W.Looks (model prog w) h (typeLookup (.ref C) "__init__") (some (.ref fI))) (hb : ∀ x, W.Looks (model prog w) h (bindSpecial (.ref fI) x) (.ref fI, [x])) (hz : us.length ≤ sizeLine)
    (hq : codeAny (model prog w) A (.call (.ref fI) ⟨.ref (h.objs.size + 1) :: us, kw⟩)
      (fun r z => match r with | .ok (.ret v) => v = .none ∧ Q (.done (.ret (.ref (h.objs.size + 1)))) z | .ok _ => False | .error e => E e z)
      ⟨(h.push (W.kdv_tup us)).push (excO C h.objs.size), g, d, t, os⟩) :
    wpAny (model prog w) A (Builtin.«type.__call__» ⟨.ref C :: us, kw⟩) Q E ⟨h, g, d, t, os⟩ := by
  repeat (first
    | with_reducible refine wpAny_loadPart_at hC ?_
    | with_reducible refine wpAny_madeBy_exc hC ?_
    | wp_step)
  refine codeAny_call_builtin_code (Code.quiet_builtin _ F.quiet) (kwcheck_new F hT hC ?_)
  refine kwnew F hT hC hz ?_
  show wpAny _ _ _ _ _ _
  have k : ∀ b o, h.get? b = some o → ((h.push (W.kdv_tup us)).push (excO C h.objs.size)).get? b = some o := fun b o e => Heap.get?_push_of_some _ (Heap.get?_push_of_some _ e)
  have d1 := k _ _ hC
  have d2 : ((h.push (W.kdv_tup us)).push (excO C h.objs.size)).get? (h.objs.size + 1) = some (excO C h.objs.size) := by heap_get
  have d3 : (Value.ref C :: bm).contains (.ref C) = true := by simp
  have d4 := hi.keeps k
  have d5 := (hb (.ref (h.objs.size + 1))).keeps k
  unfold isInstance
  repeat (first
    | with_reducible refine wpAny_loadPart_at d2 ?_
    | (with_reducible refine wpAny_isSubtype_exc d1 ?_; rw [d3])
    | wp_step)
  show wpAny _ _ (typeLookup (.ref C) _) _ _ _
  refine d4.at ?_
  refine wpAny_holding (wpAny_bind (d5.at ?_))
  refine wpAny_bind (wpAny_call (codeAny_mono hq fun r z y => ?_))
  rcases r with e | (v | _ | _ | _) <;> first | exact y | exact y.elim | skip
  obtain ⟨rfl, y⟩ := y
  first
    | exact wpAny_pure (wpAny_pure y)
    | (wp_walk; exact y)
theorem kwcall_own (F : ExcBaseFacts B nI iI mB) (hT : ∀ X : String, bm.contains (.type X) = mB.contains (.type X)) {us : List Value} {kw : List (Str × Value)} {fI : Addr}
    (hC : h.get? C = some (excClassObj nm q C N bs bm hdct sn sub ab col dd k0 k1 k2 k3 k5 nI))
    (hi : W.Looks (model prog w) h (typeLookup (.ref C) "__init__") (some (.ref fI))) (hb : ∀ x, W.Looks (model prog w) h (bindSpecial (.ref fI) x) (.ref fI, [x])) (hz : us.length ≤ sizeLine)
    (hq : codeAny (model prog w) (A.under (.builtin "type.__call__" ⟨.ref C :: us, kw⟩)) (.call (.ref fI) ⟨.ref (h.objs.size + 1) :: us, kw⟩) (W.InitBack (h.objs.size + 1) R)
      ⟨(h.push (W.kdv_tup us)).push (excO C h.objs.size), g, d, t, os⟩) :
    codeAny (model prog w) A (.call (.ref C) ⟨us, kw⟩) R ⟨h, g, d, t, os⟩ := by
  have f1 := tc_lookup
  have f2 := tc_bind (.ref C)
  have f3 : (⟨h, g, d, t, os⟩ : Shared).TypeIs (.ref C) "type" := ⟨_, hC, rfl⟩
  refine codeAny_of_tree ?_
  show wpAny _ _ (callAny (.ref C) _) _ _ _
  repeat (any_goals (first
    | assumption
    | with_reducible refine wpAny_loadPart_at hC ?_
    | wp_step))
  refine ⟨rfl, ?_⟩
  refine codeAny_call_builtin_at (Code.quiet_builtin _ (by decide +kernel)) entry_typeCall (wpAny_check_type_call_sub hC (kwtype_call F hT hC hi hb hz ?_))
  refine codeAny_mono hq fun r z y => ?_
  rcases r with e | (v | _ | _ | _) <;> exact y
end
end HandSPX
end PySem
namespace NK
open PySem PySem.Spec PyProof.Rows L2
/-! ### an own exception class, called: its instance as a value -/
theorem run_mkV {X : Cx} {CX : CXT} {C fI : Addr} {k n : Nat} {fd : FuncData} {ps ks : List Str} {sp : Sp} {g : List Value → List Value → List Value} {gV : List V → List V → List V} {pins : List (Addr × Obj)} {σ : L2.St} {H : Hp} {s : Shared} {Q : VK} {us ws : List Value} {vs zs : List V}
    (T : OexC X.K C) (iC : PySem.W.findIn X.K (.ref C) "__init__" = some (some (.ref fI))) (tI : PySem.W.typeIn X.K (.ref fI) = some (.type "function")) (F1 : FnOk X.prog X.w X.K X.mg X.base CX k fI fd ps sp) (hr : Room (k + 1) X.A) (hb : KBn X.K fd ps (n + 1) ks g gV) (hx : Passes CX X (fun _ _ _ => False))
    (I : Inv X pins σ H s) (r : Vals vs us) (rz : Vals zs ws) (l1 : vs.length = n) (l2 : zs.length = ks.length) (hz : vs.length ≤ 1000)
    (h : ∀ a, H a = none → sp (gV (.ref a :: vs) zs) (upd H a (exo a C none)) (fun v H2 => v = .non ∧ ∃ (d : Addr) (fs : List (Str × V)), H2 a = some (exo a C (some d)) ∧ H2 d = some (exd d fs) ∧ Q (.ref a) (upd H2 d (.xd fs))) (fun _ _ _ => False)) :
    wpAny (model X.prog X.w) X.A (call (.ref C) us (ks.zip ws)) (EP X pins σ Q) X.xe s := by
  obtain ⟨nm, q, N, bs, bm, sn, sub, ab, col, dd, k0, k1, k2, k3, k5, hC, hbm⟩ := T.cls
  obtain ⟨hp, gg, dr, tk, os⟩ := s
  have hsz : hp.objs.size ≤ hp.objs.size + 1 := Nat.le_succ _
  have hn : H (hp.objs.size + 1) = none := I.hok.fresh hsz
  have hq := h (hp.objs.size + 1) hn
  have kk : ∀ b o, hp.get? b = some o → ((hp.push (PySem.W.kdv_tup us)).push (PySem.HandSPX.excO C hp.objs.size)).get? b = some o := fun b o e => Heap.get?_push_of_some _ (Heap.get?_push_of_some _ e)
  have hget : ((hp.push (PySem.W.kdv_tup us)).push (PySem.HandSPX.excO C hp.objs.size)).get? (hp.objs.size + 1) = some (PySem.HandSPX.excO C hp.objs.size) := by heap_get
  have I2 : Inv X pins σ (upd H (hp.objs.size + 1) (exo (hp.objs.size + 1) C none)) ⟨(hp.push (PySem.W.kdv_tup us)).push (PySem.HandSPX.excO C hp.objs.size), gg, dr, tk, os⟩ :=
    I.laid (t' := tk) (a := hp.objs.size + 1) (o := exo (hp.objs.size + 1) C none) (h' := (hp.push (PySem.W.kdv_tup us)).push (PySem.HandSPX.excO C hp.objs.size)) kk hsz (exo_ok hget)
  have r1 : Vals (V.ref (hp.objs.size + 1) :: vs) (Value.ref (hp.objs.size + 1) :: us) := .cons rfl r
  have r2 := hb.rel r1 rz
  have n1 : (Value.ref (hp.objs.size + 1) :: us).length = n + 1 := by
    rw [List.length_cons, ← r.length, l1]
  have hus : us.length ≤ sizeLine := by
    rw [← r.length, sizeLine_eq]
    omega
  refine wpAny_call (PySem.HandSPX.kwcall_own F.excBase_ValueError (fun Y => PySem.HandSPX.refsVE_contains Y bm hbm) (I.kIn _ _ hC) (PySem.W.looks_findIn I.kIn iC) (fun self => PySem.W.bind_fn I.kIn self tI) hus
    (codeAny_mono (F1.run _ X.stack _ _ ⟨Value.ref (hp.objs.size + 1) :: us, ks.zip ws⟩ (g (Value.ref (hp.objs.size + 1) :: us) ws) _ _ (fun _ _ _ => False) (hr.make C us (ks.zip ws)) (I2.env0.make C us (ks.zip ws)) (hb.to _ (Value.ref (hp.objs.size + 1) :: us) ws I2.kIn n1 (rz.length.symm.trans l2)) r2 hq) fun r s' hq' => ?_))
  cases r with
  | error er => exact hx pins σ _ _ er s' I2 hq'
  | ok fl =>
    cases fl with
    | ret u =>
      obtain ⟨v, H', I3, rv, ev, d, fs, ea, ed, q3⟩ := I2.after hq'
      subst ev
      obtain ⟨mA, hns, rel⟩ := exd_at I3.hok ed
      have I4 : Inv X pins σ (upd H' d (.xd fs)) s' := I3.write (t' := s'.toks) (h' := s'.heap) (x := d) (e := d) (o := .xd fs) (by rw [ed]; exact True.intro) (.inl rfl) (fun b u _ e => e) (by obtain ⟨o, _, _, e1, _⟩ := hns; exact ⟨o, e1⟩) ⟨mA, hns, rel⟩
      exact ⟨rv, V.ref (hp.objs.size + 1), _, I4, rfl, q3⟩
    | next => exact False.elim hq'
    | brk => exact False.elim hq'
    | cont => exact False.elim hq'
end NK
namespace NK
open PySem PySem.Spec PyProof.Rows L2 FM
/-! ### X(..), X(k = ..), X() as values -/
def tMkV (C : Addr) (n m : Nat) (sp : Sp) (gV : List V → List V → List V) (t tk : TA) : TE := fun σ H Q => t σ H fun vs H1 => tk σ H1 fun zs H2 => vs.length = n ∧ zs.length = m ∧ vs.length ≤ 1000 ∧ ∀ a, H2 a = none →
  sp (gV (.ref a :: vs) zs) (upd H2 a (exo a C none)) (fun v H3 => v = .non ∧ ∃ (d : Addr) (fs : List (Str × V)), H3 a = some (exo a C (some d)) ∧ H3 d = some (exd d fs) ∧ Q (.ref a) (upd H3 d (.xd fs))) (fun _ _ _ => False)
/-- an own exception class, called with so many and with these names -/
structure ExV (P : Program) (w : World) (K : PySem.W.Frag) (mg : Str → Option Value) (base : Heap) (k : Nat) (x : Str) (Cc : Addr) (n : Nat) (ks fs : List Str) (pm : List Nat) : Prop where
  T : OexC K Cc
  g : mg x = some (.ref Cc)
  ini : ∃ (fI : Addr) (fd : FuncData) (ps : List Str) (g : List Value → List Value → List Value), PySem.W.findIn K (.ref Cc) "__init__" = some (some (.ref fI)) ∧ PySem.W.typeIn K (.ref fI) = some (.type "function") ∧ FnOk P w K mg base CX0 k fI fd ps (spInit K fs) ∧ KBn K fd ps (n + 1) ks g (fun vs zs => vs ++ pick pm zs)
  no : ∀ f ∈ fs, PySem.W.findIn K (.ref Cc) f = some none
section
variable {X : Cx} {x : Str} {Cc : Addr} {k n : Nat} {ks fs : List Str} {pm : List Nat} {p pos : Pos} {e : Expr} {es : List Expr} {kws : List Keyword} {t tk : TA}
theorem pe_exv (c : ExV X.prog X.w X.K X.mg X.base k x Cc n [] fs pm) (hr : Room (k + 1) X.A) (hg : Gl X x) (ha : PA X (e :: es) t)
    (hdb : (x == ("__debug__" : Str)) = false := by decide) (he : starEach (e :: es) X.env = (false, eval e X.env) :: starEach es X.env := by rfl) (hpl : (backTo pos (starEach es X.env)).any (·.1) = false := by rfl) :
    PE X (.Call (.Name x p) (e :: es) [] pos) (tMkV Cc n 0 (spInit X.K fs) (fun vs zs => vs ++ pick pm zs) t tNil) := by
  obtain ⟨fI, fd, ps, g, h1, h2, h3, h4⟩ := c.ini
  refine ⟨fun pins s σ H Q I h => ?_⟩
  refine wpAny_Call_Name_kw (ld_glob I hg c.g ?_ hdb)
  refine PySem.W.callWith_K (h₀ := X.base) I.ok.mod.kin c.T.kC (thn (ha.run pos pins s σ H _ I h) fun us s1 ⟨vs, H1, I1, r, q⟩ => ⟨I1.kIn, ?_⟩) he hpl
  obtain ⟨l1, _, hz, q⟩ := q
  exact run_mkV (ks := []) (ws := []) (zs := []) c.T h1 h2 h3 hr h4 pass0 I1 r .nil l1 rfl hz q
theorem pe_exvK (c : ExV X.prog X.w X.K X.mg X.base k x Cc 0 ks fs pm) (hr : Room (k + 1) X.A) (hg : Gl X x) (hkw : PK X kws tk)
    (hall : (backToKw pos (keywordEach kws X.env)).all (·.1.isSome) = true := by rfl) (hks : (backToKw pos (keywordEach kws X.env)).filterMap (·.1) = ks := by rfl)
    (hdb : (x == ("__debug__" : Str)) = false := by decide) (hpl : ((backTo pos (starEach [] X.env)).any (·.1) || (backToKw pos (keywordEach kws X.env)).any (·.1.isNone)) = false := by rfl) :
    PE X (.Call (.Name x p) [] kws pos) (tMkV Cc 0 ks.length (spInit X.K fs) (fun vs zs => vs ++ pick pm zs) tNil tk) := by
  obtain ⟨fI, fd, ps, g, h1, h2, h3, h4⟩ := c.ini
  refine ⟨fun pins s σ H Q I h => ?_⟩
  refine wpAny_Call_Name_kw (ld_glob I hg c.g ?_ hdb)
  refine PySem.W.callWith_KW0 (h₀ := X.base) I.ok.mod.kin c.T.kC hall ?_ hpl
  refine thn (hkw.run pos pins s σ H _ I h) fun ws s2 ⟨zs, H2, I2, rz, _, l2, hz, q2⟩ => ⟨I2.kIn, ?_⟩
  rw [hks]
  exact run_mkV (us := []) (vs := []) c.T h1 h2 h3 hr h4 pass0 I2 .nil rz rfl l2 (by simp) q2
/-- X(), no __init__ of its own -/
def tMkV0 (C : Addr) : TE := fun _ H Q => ∀ a, H a = none → Q (.ref a) (upd H a (exo a C none))
theorem pe_exv0 {C : Addr} {mB : List Value} {B nI iI : String} (F : ExcBaseFacts B nI iI mB) (q : PySem.W.excIn X.K C mB nI = true) (gC : X.mg x = some (.ref C)) (kC : PySem.W.keepIn X.K (.ref C) = true) (hg : Gl X x)
    (hdb : (x == ("__debug__" : Str)) = false := by decide) : PE X (.Call (.Name x p) [] [] pos) (tMkV0 C) := by
  refine ⟨fun pins s σ H Q I h => ?_⟩
  refine wpAny_Call_Name_kw (ld_glob I hg gC ?_ hdb)
  refine PySem.W.callWith_K0 (first := []) I.kIn kC ?_
  show wpAny _ _ (call (.ref C) []) _ _ _
  obtain ⟨bm, N, nm, qn, bs, hdct, sn, sub, ab, col, dd, k0, k1, k2, k3, k5, mN, hC, hN, hni, T⟩ := exc_obj I.kIn q
  refine wpAny_call_exc_subT F T hC hN hni (fun h' e1 hm => ?_) (by show 0 ≤ sizeLine; rw [sizeLine_eq]; omega)
  have hn : H e1 = none := I.hok.gone hm.new
  obtain ⟨t1, he, _, _⟩ := hm.there
  exact ⟨V.ref e1, _, I.laidN (t' := s.toks) hm.keeps hm.new hn (exo_ok he), rfl, h e1 hn⟩
end
end NK
namespace NK
open PySem PySem.Spec PyProof.Rows L2 FM
/-! ### what is read of such a value -/
theorem exv_inst {Y : Cx} {a C : Addr} {d : Option Addr} {pins : List (Addr × Obj)} {σ : L2.St} {H : Hp} {s : Shared} (I : Inv Y pins σ H s) (ea : H a = some (exo a C d)) {fs : List (Str × V)} (ed : ∀ dd, d = some dd → H dd = some (.xd fs)) (e0 : d = none → fs = []) :
    ∃ (oe : Obj) (od : Option Obj), PySem.W.InstAt s.heap a oe C od ∧ (∀ n, fs.lookup n = none → PySem.W.shadowIn od n = some false) ∧ ∀ n v, fs.lookup n = some v → ∃ o u, od = some o ∧ RelV v u ∧ PySem.W.lookIn n o = some (some u) := by
  obtain ⟨t1, he⟩ := exo_at I.hok ea
  cases d with
  | none =>
    have := e0 rfl
    subst this
    exact ⟨_, none, ⟨he, rfl, rfl, trivial⟩, fun n _ => rfl, fun n v h => by cases h⟩
  | some dd =>
    have hx : ObjOk Y.prog Y.w H s.heap dd (.xd fs) := I.hok dd _ (ed dd rfl)
    obtain ⟨mA, hns, hr⟩ := hx
    obtain ⟨od, ho, hl⟩ := lookIn_ns hns
    refine ⟨_, some od, ⟨he, rfl, rfl, ho⟩, fun n hn => ?_, fun n v hv => ?_⟩
    · have hnn : mA n = none := RelO.none_of (by rw [← hn]; exact hr n)
      show (PySem.W.lookIn n od).map (·.isSome) = some false
      rw [hl, hnn]; rfl
    · obtain ⟨u, hu, ru⟩ := RelO.some_of (v := v) (o := mA n) (by rw [← hv]; exact hr n)
      exact ⟨od, u, rfl, ru, by rw [hl, hu]⟩
def ExAt (H : Hp) (a C : Addr) (fs : List (Str × V)) : Prop := ∃ d : Option Addr, H a = some (exo a C d) ∧ (∀ dd, d = some dd → H dd = some (.xd fs)) ∧ (d = none → fs = [])
def tXv (K : PySem.W.Frag) (n : Str) (te : TE) : TE := fun σ H Q => te σ H fun x H1 => ∃ (a C : Addr) (fs : List (Str × V)) (v : V), x = .ref a ∧ XfC K C ∧ PySem.W.findIn K (.ref C) n = some none ∧ ExAt H1 a C fs ∧ fs.lookup n = some v ∧ Q v H1
theorem pe_xv {Y : Cx} {e : Expr} {te : TE} {pos : Pos} {n : Str} (he : PE Y e te) (hb : attributeBase e n Y.env (eval e Y.env) = eval e Y.env := by rfl) : PE Y (.Attribute e n pos) (tXv Y.K n te) := by
  refine ⟨fun pins s σ H Q I h => ?_⟩
  refine attr_of hb (thn (he.run pins s σ H _ I h) fun u s1 hh => ?_)
  obtain ⟨x, H1, I1, rx, a, C, fs, v, ex, T, hno, ⟨d, h1, h2, h3⟩, l, q⟩ := hh
  subst ex
  obtain rfl : u = Value.ref a := rx
  obtain ⟨oe, od, J, _, hl⟩ := exv_inst I1 h1 h2 h3
  obtain ⟨o, u, rfl, ru, hu⟩ := hl n v l
  exact HandSPX.exc_get I1.kIn J T.ga T.gg T.exC (PySem.W.findObj_own T.hdC hno rfl (by rw [hu])) (handed_of ru) ⟨v, H1, I1.tok _, ru, q⟩
def rXv (K : PySem.W.Frag) : List V → Hp → VK → Prop := fun xs H Q => ∃ (a C : Addr) (fs : List (Str × V)) (c : V) (cv : Value) (b : Bool), xs = [.ref a, c] ∧ ExcC K C ∧ ExAt H a C fs ∧ ClsV c cv ∧ PySem.W.kitOne K (.ref C) cv = some b ∧ Q (.bl b) H
theorem call_isXv {Y : Cx} : CallR Y (.builtin "isinstance") (rXv Y.K) := by
  intro pins s σ H xs us Q I r h
  obtain ⟨a, C, fs, c, cv, b, rfl, T, ⟨d, h1, h2, h3⟩, hcv, e, q⟩ := h
  cases r with
  | cons rx rr =>
    cases rr with
    | cons rt rr =>
      cases rr
      cases rx
      have ec := hcv.eq rt
      subst ec
      obtain ⟨oe, od, J, _, _⟩ := exv_inst I h1 h2 h3
      obtain ⟨cdD, hcD, _⟩ := PySem.W.any_some T.hd
      exact PySem.W.kia_one (PySem.W.kitx_exc (by rw [hcD]; rfl) T.hg T.hk T.hs T.ha T.hn T.ht T.hm) I.kIn J e (fun z => nomatch z) fun tk => ⟨.bl b, H, I.kept (t' := tk) fun _ _ z => z, rfl, q⟩
/-- e.m(), e such a value -/
def tXvM (P : Program) (w : World) (K : PySem.W.Frag) (mg : Str → Option Value) (base : Heap) (k : Nat) (m : Str) (te : TE) : TE := fun σ H Q => te σ H fun x H1 => ∃ (a C f : Addr) (fd : FuncData) (ps : List Str) (fs : List (Str × V)) (sp : Sp), x = .ref a ∧ XfC K C ∧ Meth K C m f ∧ FnOk P w K mg base (L2N.CX P w) k f fd ps sp ∧ Binds K fd ps [] ∧ ExAt H1 a C fs ∧ fs.lookup m = none ∧ sp [.ref a] H1 Q E0
theorem pe_xvM {X : Cx} {k : Nat} {m : Str} {o : Expr} {te : TE} {apos pos : Pos} {pl : Sem Bool} (he : PE X o te) (hr : Room k X.A)
    (ht : eval (.Call (.Attribute o m apos) [] [] pos) X.env = (do
      let ov ← eval o X.env
      standAt apos.atName
      let (f, first) ← holding [ov] (getMethod ov m pl)
      callWith pos f first (backTo pos (starEach [] X.env)) (backToKw pos (keywordEach [] X.env))) := by rfl) :
    PE X (.Call (.Attribute o m apos) [] [] pos) (tXvM X.prog X.w X.K X.mg X.base k m te) := by
  refine ⟨fun pins s σ H Q I h => ?_⟩
  refine PySem.W.methodCall_KW (pl := pl) (thn (he.run pins s σ H _ I h) fun u s1 hh => ?_) ht
  obtain ⟨x, H1, I1, rx, a, C, f, fd, ps, fs, sp, ex, xf, hm, F, hb, ⟨d, h1, h2, h3⟩, hl, q⟩ := hh
  subst ex
  obtain rfl : u = Value.ref a := rx
  obtain ⟨oe, od, J, hs, _⟩ := exv_inst I1 h1 h2 h3
  obtain ⟨mF, Fr1⟩ := I1.fr
  refine PySem.W.method_exc Fr1 I1.ok.mod.kin J xf.ga xf.gg hm.at_ hm.fn (hs m hl) ?_
  exact PySem.W.callWith_K0 (first := [.ref a]) I1.kIn hm.kp (run_fn (us := [.ref a]) (vs := [.ref a]) F hr hb .nil NK.pass_never I1 (.cons rfl .nil) q)
end NK
namespace FM
open PySem PySem.Spec PyProof.Rows L2
/-! ### exceptions as data -/
def mExcV (c n : Nat) (ma : MA) : ME := fun g m => (ma g m).bind fun vs m1 => match dats vs with
  | some ds => if ds.length = n then .ok (.d (.exc c ds.reverse)) m1 else .bad
  | none => .bad
def mExcK (c n : Nat) (pm : List Nat) (mk : MA) : ME := fun g m => (mk g m).bind fun vs m1 => match dats (pick pm vs) with
  | some ds => if vs.length = n ∧ ds.length = n then .ok (.d (.exc c ds.reverse)) m1 else .bad
  | none => .bad
def mExc0 (c : Nat) : ME := fun _ m => .ok (.d (.exc c [])) m
structure ExVOk (T : Tab) (c n : Nat) (fs : List Str) : Prop where
  ox : OexC T.K (T.ca c)
  no : ∀ f ∈ fs, PySem.W.findIn T.K (.ref (T.ca c)) f = some none
  hc : T.cf c = fs.reverse
  hn : fs.length = n
  hs : n ≤ 900
theorem exv_go {C : Fc} {B : Bs} {g : Gam} {S : List Vl} {m1 : Cells} {σ : L2.St} {vs : List V} {H1 I1 : Hp} {A1 : List Addr} {Q : VK} {c n : Nat} {fs : List Str} {us : List V} {es : List Dt} (k : ExVOk C.T c n fs) (r0 : Rel C.T C.x B g S m1 σ vs H1 I1 A1) (hd : DRs C.T I1 us es) (he : es.length = n)
    (w : WantE C B g S σ vs Q (.ok (.d (.exc c es.reverse)) m1)) {a : Addr} (ha : H1 a = none) :
    NK.spInit C.T.K fs (.ref a :: us) (upd H1 a (exo a (C.T.ca c) none)) (fun v H3 => v = .non ∧ ∃ (d : Addr) (fs : List (Str × V)), H3 a = some (exo a (C.T.ca c) (some d)) ∧ H3 d = some (exd d fs) ∧ Q (.ref a) (upd H3 d (.xd fs))) (fun _ _ _ => False) := by
  have hwl : us.length = fs.length := by rw [hd.len, he, k.hn]
  refine ⟨a, C.T.ca c, us, rfl, hwl, k.ox, k.no, upd_same, fun dx H' hdx hne h1 h2 h3 => ⟨rfl, dx, _, h1, h2, ?_⟩⟩
  rw [upd_ne hne] at hdx
  have eh : upd H' dx (.xd (fs.zip us).reverse) = upd (upd H1 a (exo a (C.T.ca c) (some dx))) dx (.xd (fs.zip us).reverse) := by
    funext b
    by_cases e1 : b = dx
    · subst e1; rw [upd_same, upd_same]
    · rw [upd_ne e1, upd_ne e1]
      by_cases e2 : b = a
      · subst e2; rw [upd_same, h1]
      · rw [h3 b e2 e1, upd_ne e2, upd_ne e2]
  rw [eh]
  obtain ⟨b1, u1⟩ := r0.base.new (o := exo a (C.T.ca c) (some dx)) ha (fun ps => exo_tbl)
  have r1 := r0.step b1 u1
  obtain ⟨b2, u2⟩ := r1.base.new (p := dx) (o := .xd (fs.zip us).reverse) (by rw [upd_ne hne]; exact hdx)
  have r2 := r1.step b2 u2
  refine w _ _ _ _ (r2.push (.d (DR.exc (d := dx) (xs := us.reverse) ?_ ?_ ?_ ?_)))
  · rw [upd_ne (fun z => hne z.symm), upd_same]
  · rw [upd_same, k.hc, zip_rev hwl.symm]
  · rw [k.hc, List.length_reverse, List.length_reverse, hwl]
  · exact (hd.rev.mono u1.i).mono u2.i
section
variable {X : Cx} {C : Fc} {e : Expr} {ma mk me : MA} {mf : ME}
theorem fe_excV {c n : Nat} {fs : List Str} (h : PE X e (NK.tMkV (C.T.ca c) n 0 (NK.spInit C.T.K fs) (fun vs zs => vs ++ pick [] zs) (FA C ma) tNil)) (k : ExVOk C.T c n fs) : PE X e (FE C (mExcV c n ma)) := pe_of h fun σ H Q ⟨B, g, S, m, vs, I, A, r, w⟩ => args_ok r w fun ws ds m1 H1 I1 A1 r1 hv w1 => by
  cases ed : dats ds with
  | none => simp only [ed] at w1; exact (show False from w1).elim
  | some es =>
    simp only [ed] at w1
    by_cases he : es.length = n
    · rw [if_pos he] at w1
      have hd := hv.dats ed
      have hs := k.hs
      refine ⟨by rw [hd.len, he], rfl, by rw [hd.len, he]; omega, fun a ha => ?_⟩
      show NK.spInit C.T.K fs ((.ref a :: ws) ++ []) _ _ _
      rw [List.append_nil]
      exact exv_go k r1 hd he w1 ha
    · rw [if_neg he] at w1; exact (show False from w1).elim
theorem fe_excK {c n : Nat} {fs : List Str} {pm : List Nat} (h : PE X e (NK.tMkV (C.T.ca c) 0 n (NK.spInit C.T.K fs) (fun vs zs => vs ++ pick pm zs) tNil (FA C mk))) (k : ExVOk C.T c n fs) : PE X e (FE C (mExcK c n pm mk)) := pe_of h fun σ H Q ⟨B, g, S, m, vs, I, A, r, w⟩ => by
  show (FA C mk) σ H _
  refine args_ok r w fun ws ds m1 H1 I1 A1 r1 hv w1 => ?_
  cases ed : dats (pick pm ds) with
  | none => simp only [ed] at w1; exact (show False from w1).elim
  | some es =>
    simp only [ed] at w1
    by_cases he : ds.length = n ∧ es.length = n
    · rw [if_pos he] at w1
      have hd := (pick_vrs hv pm).dats ed
      refine ⟨rfl, hv.len.trans he.1, Nat.zero_le _, fun a ha => ?_⟩
      exact exv_go k r1 hd he.2 w1 ha
    · rw [if_neg he] at w1; exact (show False from w1).elim
theorem fe_exc0 {c : Nat} (h : PE X e (NK.tMkV0 (C.T.ca c))) (hc : C.T.cf c = []) : PE X e (FE C (mExc0 c)) := pe_of h fun σ H Q ⟨B, g, S, m, vs, I, A, r, w⟩ => fun a ha => by
  obtain ⟨b1, u1⟩ := r.base.new (o := exo a (C.T.ca c) none) ha (fun ps => exo_tbl)
  exact w _ _ _ _ ((r.step b1 u1).push (.d (DR.exc0 upd_same hc)))
end
end FM
namespace FM
open PySem PySem.Spec PyProof.Rows L2
/-! ### what is read of an exception that is data -/
def oXvF (ix : FTab) : O1 := fun _ x => match x with
  | .d (.exc c ds) => ((ix c).bind fun i => ds[i]?).map Vl.d
  | _ => none
def oXvI (q : Nat → Option Bool) : O1 := fun _ x => match x with
  | .d (.exc c _) => (q c).map fun b => .d (.bl b)
  | _ => none
def mXvM (tab : Nat → Option Fn) (me : ME) : ME := fun g m => (me g m).bind fun x m1 => match x with
  | .d (.exc c _) => (match tab c with
    | some f => (f [x] m1).calm
    | none => .bad)
  | _ => .bad
structure XvMOk (P : Program) (w : World) (mg : Str → Option Value) (base : Heap) (T : Tab) (k : Nat) (m : Str) (tab : Nat → Option Fn) : Prop where
  ok : ∀ c f, tab c = some f → XfC T.K (T.ca c) ∧ m ∉ T.cf c ∧ ∃ (fa : Addr) (fd : FuncData) (ps : List Str), Meth T.K (T.ca c) m fa ∧ FnOk P w T.K mg base (L2N.CX P w) k fa fd ps (spFn T f) ∧ Binds T.K fd ps []
theorem dr_exat {T : Tab} {I H : Hp} {v : V} {c : Nat} {ds : List Dt} (h : DR T I v (.exc c ds)) (s : Same I H) : ∃ (a : Addr) (xs : List V), v = .ref a ∧ NK.ExAt H a (T.ca c) ((T.cf c).zip xs) ∧ xs.length = (T.cf c).length ∧ DRs T I xs ds := by
  cases h with
  | @exc a d _ xs _ h1 h2 h3 h4 => exact ⟨a, xs, rfl, ⟨some d, s _ _ h1, fun dd e => by cases e; exact s _ _ h2, fun e => by cases e⟩, h3, h4⟩
  | @exc0 a _ h1 h2 => exact ⟨a, [], rfl, ⟨none, s _ _ h1, (fun dd e => by cases e), fun _ => by rw [h2]; rfl⟩, by rw [h2]; rfl, .nil⟩
section
variable {X : Cx} {C : Fc} {e : Expr} {me : ME}
theorem fe_xv {n : Str} {ix : FTab} (h : PE X e (NK.tXv C.T.K n (FE C me))) (k : XFldOk C.T n ix) : PE X e (FE C (mUn (oXvF ix) me)) := pe_of h fun σ H Q ⟨B, g, S, m, vs, I, A, r, w⟩ => one_ok r w fun x dx m1 H1 I1 A1 r1 w1 => by
  cases eo : oXvF ix m1 dx with
  | none => simp only [eo] at w1; exact (show False from w1).elim
  | some y =>
    simp only [eo] at w1
    unfold oXvF at eo
    split at eo
    · rename_i c ds
      obtain ⟨d, e1, rfl⟩ := Option.map_eq_some_iff.mp eo
      obtain ⟨i, e2, e3⟩ := Option.bind_eq_some_iff.mp e1
      obtain ⟨k1, k2, k3, k4⟩ := k.ok c i e2
      have hv : DR C.T I1 x (.exc c ds) := by
        cases r1.top with
        | d h => exact h
      obtain ⟨a, xs, rfl, h1, h2, h3⟩ := dr_exat hv r1.base.sub
      obtain ⟨u, hu, hd⟩ := h3.get e3
      exact ⟨a, C.T.ca c, _, u, rfl, k1, k2, h1, zip_look k4 k3 hu, w1 _ _ _ _ (r1.pop1.push (.d hd))⟩
    · cases eo
theorem fe_xvi {q : Nat → Option Bool} {cv : V} {u : Value} (k : XisOk C.T u q) (hK : C.T.K = X.K) (hc : ClsV cv u) (h : ∀ R, CallR X (.builtin "isinstance") R → PE X e (tCB R (tCons (FE C me) (tCons (tC cv) tNil)))) : PE X e (FE C (mUn (oXvI q) me)) := pe_of (h _ NK.call_isXv) fun σ H Q ⟨B, g, S, m, vs, I, A, r, w⟩ => one_ok r w fun x dx m1 H1 I1 A1 r1 w1 => by
  cases eo : oXvI q m1 dx with
  | none => simp only [eo] at w1; exact (show False from w1).elim
  | some y =>
    simp only [eo] at w1
    unfold oXvI at eo
    split at eo
    · rename_i c ds
      obtain ⟨b, e1, rfl⟩ := Option.map_eq_some_iff.mp eo
      obtain ⟨k1, k2⟩ := k.ok c b e1
      have hv : DR C.T I1 x (.exc c ds) := by
        cases r1.top with
        | d h => exact h
      obtain ⟨a, xs, rfl, h1, h2, h3⟩ := dr_exat hv r1.base.sub
      exact ⟨a, C.T.ca c, _, cv, u, b, rfl, hK ▸ k1, h1, hc, hK ▸ k2, w1 _ _ _ _ (r1.pop1.push (.d (.bl b)))⟩
    · cases eo
theorem fe_xvM {k : Nat} {n : Str} {tab : Nat → Option Fn} (h : PE X e (NK.tXvM X.prog X.w C.T.K X.mg X.base k n (FE C me))) (t : XvMOk X.prog X.w X.mg X.base C.T k n tab) : PE X e (FE C (mXvM tab me)) := pe_of h fun σ H Q ⟨B, g, S, m, vs, I, A, r, w⟩ => one_ok r w fun x dx m1 H1 I1 A1 r1 w1 => by
  split at w1
  · rename_i c ds
    split at w1
    · rename_i f ef
      obtain ⟨k1, k2, fa, fd, ps, k3, k4, k5⟩ := t.ok c f ef
      have hv : DR C.T I1 x (.exc c ds) := by
        cases r1.top with
        | d h => exact h
      obtain ⟨a, xs, ex, h1, h2, h3⟩ := dr_exat hv r1.base.sub
      subst ex
      exact ⟨a, C.T.ca c, fa, fd, ps, _, spFn C.T f, rfl, k1, k3, k4, k5, h1, zip_none k2, B.F, I1, A1, m1, [.d (.exc c ds)], r1.base, .cons (.d hv) .nil, calm_want r1.pop1 rfl w1⟩
    · exact (show False from w1).elim
  · exact (show False from w1).elim
end
/-! ### what they leave as it is; in the style of weakest preconditions -/
section
variable {ma mk me : ME} {mr : MA}
theorem qe_excV {c n : Nat} (h : Qe mr) : Qe (mExcV c n mr) := fun g m => q_bind (h g m) fun x m1 => by
  split
  · split
    · exact q_ok
    · exact q_bad
  · exact q_bad
theorem qe_excK {c n : Nat} {pm : List Nat} (h : Qe mr) : Qe (mExcK c n pm mr) := fun g m => q_bind (h g m) fun x m1 => by
  split
  · split
    · exact q_ok
    · exact q_bad
  · exact q_bad
theorem qe_exc0 {c : Nat} : Qe (mExc0 c) := fun g m => q_ok
theorem qe_xvM {tab : Nat → Option Fn} (ht : ∀ c f, tab c = some f → Qf f) (h : Qe me) : Qe (mXvM tab me) := fun g m => q_bind (h g m) fun x m1 => by
  split
  · split
    · rename_i f ef
      exact q_calm (ht _ f ef _ _)
    · exact q_bad
  · exact q_bad
variable {g : Gam} {m : Cells} {Q : Vl → Cells → Prop} {E : EX}
theorem w_exc0 {c : Nat} (q : Q (.d (.exc c [])) m) : wR (mExc0 c g m) Q E := wR_eq rfl q
theorem w_xvM {tab : Nat → Option Fn} (h : wR (me g m) (fun x m1 => ∃ c ds f, x = .d (.exc c ds) ∧ tab c = some f ∧ wR (f [x] m1) Q eNo) E) : wR (mXvM tab me g m) Q E := w_bind (wR_mono h fun x m1 ⟨c, ds, f, e, e1, q⟩ => by
  subst e
  simp only [e1]
  obtain ⟨v, m2, e2, q2⟩ := wR_ok q
  rw [e2]
  exact wR_eq rfl q2)
theorem wo_xvI {q : Nat → Option Bool} {c : Nat} {ds : List Dt} {b : Bool} {P : Vl → Prop} (h1 : q c = some b) (p : P (.d (.bl b))) : wO (oXvI q m (.d (.exc c ds))) P := wO_eq (by simp only [oXvI, h1, Option.map_some]) p
end
end FM
namespace FM
open PySem PySem.Spec PyProof.Rows L2
/-! ### facts of the classes, as Bools -/
theorem pick_succ {α : Type} {x : α} {zs : List α} (pm : List Nat) : pick (0 :: pm.map (· + 1)) (x :: zs) = x :: pick pm zs := by
  unfold pick
  rw [List.filterMap_cons]
  show x :: _ = _
  rw [List.filterMap_map]
  rfl
theorem kbn_shift {K : PySem.W.Frag} {fd : FuncData} {ps ks : List Str} {pm : List Nat} (h : KBn K fd ps 1 ks (fun us ws => pick (0 :: pm.map (· + 1)) (us ++ ws)) (fun vs zs => pick (0 :: pm.map (· + 1)) (vs ++ zs))) : KBn K fd ps 1 ks (fun us ws => us ++ pick pm ws) (fun vs zs => vs ++ pick pm zs) := ⟨fun s us ws X l1 l2 => by
  have := h.to s us ws X l1 l2
  match us, l1 with
  | [u], _ =>
    rw [show pick (0 :: pm.map (· + 1)) ([u] ++ ws) = [u] ++ pick pm ws from pick_succ pm] at this
    exact this, fun r1 r2 => vals_app r1 (pick_vals r2 pm)⟩
theorem kbn_only {K : PySem.W.Frag} {fd : FuncData} {ps : List Str} {n : Nat} (hb : Binds K fd ps []) (hn : ps.length = n) : KBn K fd ps n [] (fun us ws => us ++ pick [] ws) (fun vs zs => vs ++ pick [] zs) := ⟨fun s us ws X l1 l2 => by
  have h := hb s us X (by rw [List.append_nil, hn]; exact l1)
  rw [List.append_nil] at h
  show BindsTo s fd ⟨us, []⟩ (ps.zip (us ++ []))
  rw [List.append_nil]
  exact h, fun r1 r2 => by
  show Vals (_ ++ []) (_ ++ [])
  rw [List.append_nil, List.append_nil]
  exact r1⟩
theorem exV_ok {K : PySem.W.Frag} {C f : Addr} {fs ps ks : List Str} {pm : List Nat} {n : Nat} {g : List Value → List Value → List Value} {P : Program} {w : World} {mg : Str → Option Value} {base : Heap} {k : Nat} {x : Str} {fd : FuncData} (h : exB K C f fs = true) (hg : mg x = some (.ref C)) (F : FnOk P w K mg base CX0 k f fd ps (NK.spInit K fs)) (hb : KBn K fd ps (n + 1) ks g (fun vs zs => vs ++ pick pm zs)) : NK.ExV P w K mg base k x C n ks fs pm := by
  obtain ⟨c1, h⟩ := He.ba h
  obtain ⟨c2, h⟩ := He.ba h
  obtain ⟨c3, h⟩ := He.ba h
  obtain ⟨c4, h⟩ := He.ba h
  exact ⟨oexB_ok c1, hg, ⟨f, fd, ps, g, ob_ok c2, of_decide_eq_true c3, F, hb⟩, fun y hy => ob_ok (List.all_eq_true.mp c4 y hy)⟩
structure Ex0 (K : PySem.W.Frag) (mg : Str → Option Value) (x : Str) (C : Addr) : Prop where
  q : PySem.W.excIn K C [.type "ValueError", .type "Exception", .type "BaseException", .type "object"] "ValueError.__new__" = true
  g : mg x = some (.ref C)
  kp : PySem.W.keepIn K (.ref C) = true
theorem ex0B_ok {K : PySem.W.Frag} {mg : Str → Option Value} {x : Str} {C : Addr} (h : ex0B K C = true) (g : mg x = some (.ref C)) : Ex0 K mg x C := by
  obtain ⟨c1, c2⟩ := He.ba h
  exact ⟨c1, g, c2⟩
theorem pe_exv0' {X : Cx} {x : Str} {C : Addr} {p pos : Pos} (c : Ex0 X.K X.mg x C) (hg : Gl X x) (hdb : (x == ("__debug__" : Str)) = false := by decide) : PE X (.Call (.Name x p) [] [] pos) (NK.tMkV0 C) := NK.pe_exv0 PySem.F.excBase_ValueError c.q c.g c.kp hg hdb
end FM
namespace K01
open PySem PySem.Spec PyProof.Rows L2 FM
noncomputable section
abbrev FnP (K : PySem.W.Frag) (x q : Str) (st : Stmt) (f : Addr) (fd : FuncData) : Prop := FunD K x q (defArgs st) (defBody st) (defScope st) [] [] f fd
local macro_rules
  | `(tactic| array_get_dec) => `(tactic| (first | assumption | with_reducible exact qe_var | with_reducible exact qe_c | with_reducible exact qe_nil | with_reducible exact qe_yes | with_reducible exact qs_retN | with_reducible exact qs_next | with_reducible exact qs_brk | with_reducible exact qs_cnt | with_reducible exact qe_make0 | with_reducible exact qe_dnew | with_reducible exact qe_pnil | with_reducible exact qe_noP | with_reducible exact qe_xf | with_reducible exact qe_xis | with_reducible exact qg_nm | with_reducible exact qg_nil | with_reducible exact q_fnNo | with_reducible exact qh_nil | with_reducible exact qe_bnil | with_reducible exact qg_gbNil | with_reducible exact qe_set0 | with_reducible exact qe_exc0 | with_reducible apply qe_excV | with_reducible apply qe_excK | with_reducible apply qe_xvM | with_reducible apply qe_dc | with_reducible apply qe_dc2 | with_reducible apply qe_lamCall | with_reducible apply qs_seq | with_reducible apply qs_asg | with_reducible apply qs_drop | with_reducible apply qs_ret | with_reducible apply qs_if | with_reducible apply qe_op | with_reducible apply qe_un | with_reducible apply qe_cons | with_reducible apply qe_call | with_reducible apply qe_cb | with_reducible apply qe_cl | with_reducible apply qe_clC | with_reducible apply qe_tup | with_reducible apply qe_lst | with_reducible apply qe_lstC | with_reducible apply qe_test | with_reducible apply qe_tru | with_reducible apply qe_and | with_reducible apply qe_or | with_reducible apply qe_not | with_reducible apply qe_bool | with_reducible apply qe_andV | with_reducible apply qe_orV | with_reducible apply qe_if | with_reducible apply qe_chain | with_reducible apply qe_frz | with_reducible apply qe_frzD | with_reducible apply qe_lm | with_reducible apply qe_m | with_reducible apply qe_meth | with_reducible apply qe_methO | with_reducible apply qe_makeO | with_reducible apply qe_make | with_reducible apply qe_makeC | with_reducible apply qe_callW | with_reducible apply qe_callV | with_reducible apply qe_catC | with_reducible apply qe_dictC | with_reducible apply qe_dget2 | with_reducible apply qe_pcons | with_reducible apply qe_disp | with_reducible apply qe_dispC | with_reducible apply qe_part | with_reducible apply qe_sl | with_reducible apply qe_slC | with_reducible apply qe_listZip | with_reducible apply qe_it | with_reducible apply qe_itA | with_reducible apply qg_cons | with_reducible apply qg_tp | with_reducible apply qg_ul | with_reducible apply qg_setL | with_reducible apply qe_lc | with_reducible apply qe_lcC | with_reducible apply qe_lcV | with_reducible apply qe_lcVC | with_reducible apply qe_lc2 | with_reducible apply qe_sortC | with_reducible apply qe_sortCC | with_reducible apply qe_sortC2 | with_reducible apply qe_sortC2C | with_reducible apply qe_sortL | with_reducible apply qs_par | with_reducible apply qs_par3 | with_reducible apply qs_aug | with_reducible apply qs_putD | with_reducible apply qs_setF | with_reducible apply qs_raise | with_reducible apply qs_for | with_reducible apply qs_while | with_reducible apply qs_try | with_reducible apply qh_cons | with_reducible apply qs_forV | with_reducible apply qs_forEV | with_reducible apply qe_orT | with_reducible apply qe_keysNe | with_reducible apply qe_dispB | with_reducible apply qe_bcons | with_reducible apply qs_putB | with_reducible apply qe_lstB | with_reducible apply qe_tupB | with_reducible apply qe_mB | with_reducible apply qe_lcB | with_reducible apply qs_fldaug | with_reducible apply qs_forES | with_reducible apply qe_makeKC | with_reducible apply qe_m1 | with_reducible apply qg_tpB | with_reducible apply qg_gbCons | with_reducible apply qg_setB | with_reducible apply qs_chk | with_reducible apply qe_fmt | with_reducible apply qe_js3 | with_reducible apply qe_makeKF | with_reducible apply qe_xcall | with_reducible apply qe_xm | with_reducible apply qe_sadd | with_reducible apply qe_truS | with_reducible apply qe_sortS))
structure Wd (K : PySem.W.Frag) (mg : Str → Option Value) : Prop where
  b_len : mg "len" = none
  b_abs : mg "abs" = none
  b_int : mg "int" = none
  b_range : mg "range" = none
  b_isinstance : mg "isinstance" = none
  b_zip : mg "zip" = none
  b_ValueError : mg "ValueError" = none
  mg_KeysError : mg "KeysError" = some (.ref ((TT K).ca 0))
  mg_BadCount : mg "BadCount" = some (.ref ((TT K).ca 1))
  mg_NoName : mg "NoName" = some (.ref ((TT K).ca 2))
  mg_Twice : mg "Twice" = some (.ref ((TT K).ca 3))
  mg_NoPart : mg "NoPart" = some (.ref ((TT K).ca 4))
  mg_NoSort : mg "NoSort" = some (.ref ((TT K).ca 5))
  mg_BadRow : mg "BadRow" = some (.ref ((TT K).ca 6))
  mg_NoRoom : mg "NoRoom" = some (.ref ((TT K).ca 7))
  mg_NoHand : mg "NoHand" = some (.ref ((TT K).ca 8))
  mg_Ended : mg "Ended" = some (.ref ((TT K).ca 9))
  mg_NoStep : mg "NoStep" = some (.ref ((TT K).ca 10))
  mg_Taken : mg "Taken" = some (.ref ((TT K).ca 11))
  mg_NoKey : mg "NoKey" = some (.ref ((TT K).ca 12))
  mg_Wide : mg "Wide" = some (.ref ((TT K).ca 13))
  mg_Clash : mg "Clash" = some (.ref ((TT K).ca 14))
  mg_NoMark : mg "NoMark" = some (.ref ((TT K).ca 15))
  mg_Never : mg "Never" = some (.ref ((TT K).ca 16))
  mg_Tangled : mg "Tangled" = some (.ref ((TT K).ca 17))
  mg_Met : mg "Met" = some (.ref ((TT K).ca 18))
  mg_Broken : mg "Broken" = some (.ref ((TT K).ca 19))
  mg_NoBar : mg "NoBar" = some (.ref ((TT K).ca 20))
  mg_NoBack : mg "NoBack" = some (.ref ((TT K).ca 21))
  xfld_name : xfldB (TT K) "name" ixx_name = true
  xfld_room : xfldB (TT K) "room" ixx_room = true
  xfld_hand : xfldB (TT K) "hand" ixx_hand = true
  xfld_step : xfldB (TT K) "step" ixx_step = true
  xfld_count : xfldB (TT K) "count" ixx_count = true
  xfld_place : xfldB (TT K) "place" ixx_place = true
  xfld_what : xfldB (TT K) "what" ixx_what = true
  xfld_row : xfldB (TT K) "row" ixx_row = true
  xfld_key : xfldB (TT K) "key" ixx_key = true
  xfld_holder : xfldB (TT K) "holder" ixx_holder = true
  xfld_why : xfldB (TT K) "why" ixx_why = true
  xfld_ring : xfldB (TT K) "ring" ixx_ring = true
  xfld_hands : xfldB (TT K) "hands" ixx_hands = true
  xfld_deeds : xfldB (TT K) "deeds" ixx_deeds = true
  xis_NoName : xisB (TT K) (.ref ((TT K).ca 2)) xis_NoName = true
  xis_Twice : xisB (TT K) (.ref ((TT K).ca 3)) xis_Twice = true
  xis_NoPart : xisB (TT K) (.ref ((TT K).ca 4)) xis_NoPart = true
  xis_NoSort : xisB (TT K) (.ref ((TT K).ca 5)) xis_NoSort = true
  xis_NoKey : xisB (TT K) (.ref ((TT K).ca 12)) xis_NoKey = true
  xis_NoMark : xisB (TT K) (.ref ((TT K).ca 15)) xis_NoMark = true
  xis_NoBar : xisB (TT K) (.ref ((TT K).ca 20)) xis_NoBar = true
  xis_NoRoom : xisB (TT K) (.ref ((TT K).ca 7)) xis_NoRoom = true
  xis_NoHand : xisB (TT K) (.ref ((TT K).ca 8)) xis_NoHand = true
  xis_Ended : xisB (TT K) (.ref ((TT K).ca 9)) xis_Ended = true
  xis_NoStep : xisB (TT K) (.ref ((TT K).ca 10)) xis_NoStep = true
  xis_Wide : xisB (TT K) (.ref ((TT K).ca 13)) xis_Wide = true
  xis_Met : xisB (TT K) (.ref ((TT K).ca 18)) xis_Met = true
  xis_BadCount : xisB (TT K) (.ref ((TT K).ca 1)) xis_BadCount = true
  xis_BadRow : xisB (TT K) (.ref ((TT K).ca 6)) xis_BadRow = true
  xis_Taken : xisB (TT K) (.ref ((TT K).ca 11)) xis_Taken = true
  xis_Clash : xisB (TT K) (.ref ((TT K).ca 14)) xis_Clash = true
  xis_Tangled : xisB (TT K) (.ref ((TT K).ca 17)) xis_Tangled = true
  xis_Broken : xisB (TT K) (.ref ((TT K).ca 19)) xis_Broken = true
  xis_Never : xisB (TT K) (.ref ((TT K).ca 16)) xis_Never = true
  xis_NoBack : xisB (TT K) (.ref ((TT K).ca 21)) xis_NoBack = true
  xis_KeysError : xisB (TT K) (.ref ((TT K).ca 0)) xis_KeysError = true
  xis_ValueError : xisB (TT K) (.type "ValueError") xis_ValueError = true
/-! ### BadCount.__init__ -/
theorem scIBadCount : FnScope ["self", "what", "count"] ["self", "what", "count"] (defScope sIBadCount) := ⟨rfl, rfl, rfl, by decide +kernel, rfl, by decide +kernel, by decide +kernel⟩
theorem okIBadCount {P : Program} {w : World} {K : PySem.W.Frag} {mg : Str → Option Value} {base : Heap} {f : Addr} {fd : FuncData} (F : FnP K "__init__" "BadCount.__init__" sIBadCount f fd) : FnOk P w K mg base CX0 1 f fd ["self", "what", "count"] (NK.spInit K ["what", "count"]) :=
  F.ok (k := 0) scIBadCount NK.init_len (fun cdv A outer st H vs Q E hr h => ⟨NK.tInit2 K "what" "count", pss_cons (ps_ost (pv 0) (pv 1)) (pss_one (ps_ost (pv 0) (pv 2))), NK.init2_go rfl h⟩)
/-! ### NoName.__init__ -/
theorem scINoName : FnScope ["self", "name"] ["self", "name"] (defScope sINoName) := ⟨rfl, rfl, rfl, by decide +kernel, rfl, by decide +kernel, by decide +kernel⟩
theorem okINoName {P : Program} {w : World} {K : PySem.W.Frag} {mg : Str → Option Value} {base : Heap} {f : Addr} {fd : FuncData} (F : FnP K "__init__" "NoName.__init__" sINoName f fd) : FnOk P w K mg base CX0 1 f fd ["self", "name"] (NK.spInit K ["name"]) :=
  F.ok (k := 0) scINoName NK.init_len (fun cdv A outer st H vs Q E hr h => ⟨NK.tInit1 K "name", pss_one (ps_ost (pv 0) (pv 1)), NK.init1_go rfl h⟩)
/-! ### Twice.__init__ -/
theorem scITwice : FnScope ["self", "name"] ["self", "name"] (defScope sITwice) := ⟨rfl, rfl, rfl, by decide +kernel, rfl, by decide +kernel, by decide +kernel⟩
theorem okITwice {P : Program} {w : World} {K : PySem.W.Frag} {mg : Str → Option Value} {base : Heap} {f : Addr} {fd : FuncData} (F : FnP K "__init__" "Twice.__init__" sITwice f fd) : FnOk P w K mg base CX0 1 f fd ["self", "name"] (NK.spInit K ["name"]) :=
  F.ok (k := 0) scITwice NK.init_len (fun cdv A outer st H vs Q E hr h => ⟨NK.tInit1 K "name", pss_one (ps_ost (pv 0) (pv 1)), NK.init1_go rfl h⟩)
/-! ### NoPart.__init__ -/
theorem scINoPart : FnScope ["self", "name"] ["self", "name"] (defScope sINoPart) := ⟨rfl, rfl, rfl, by decide +kernel, rfl, by decide +kernel, by decide +kernel⟩
theorem okINoPart {P : Program} {w : World} {K : PySem.W.Frag} {mg : Str → Option Value} {base : Heap} {f : Addr} {fd : FuncData} (F : FnP K "__init__" "NoPart.__init__" sINoPart f fd) : FnOk P w K mg base CX0 1 f fd ["self", "name"] (NK.spInit K ["name"]) :=
  F.ok (k := 0) scINoPart NK.init_len (fun cdv A outer st H vs Q E hr h => ⟨NK.tInit1 K "name", pss_one (ps_ost (pv 0) (pv 1)), NK.init1_go rfl h⟩)
/-! ### NoSort.__init__ -/
theorem scINoSort : FnScope ["self", "name"] ["self", "name"] (defScope sINoSort) := ⟨rfl, rfl, rfl, by decide +kernel, rfl, by decide +kernel, by decide +kernel⟩
theorem okINoSort {P : Program} {w : World} {K : PySem.W.Frag} {mg : Str → Option Value} {base : Heap} {f : Addr} {fd : FuncData} (F : FnP K "__init__" "NoSort.__init__" sINoSort f fd) : FnOk P w K mg base CX0 1 f fd ["self", "name"] (NK.spInit K ["name"]) :=
  F.ok (k := 0) scINoSort NK.init_len (fun cdv A outer st H vs Q E hr h => ⟨NK.tInit1 K "name", pss_one (ps_ost (pv 0) (pv 1)), NK.init1_go rfl h⟩)
/-! ### BadRow.__init__ -/
theorem scIBadRow : FnScope ["self", "row", "place"] ["self", "row", "place"] (defScope sIBadRow) := ⟨rfl, rfl, rfl, by decide +kernel, rfl, by decide +kernel, by decide +kernel⟩
theorem okIBadRow {P : Program} {w : World} {K : PySem.W.Frag} {mg : Str → Option Value} {base : Heap} {f : Addr} {fd : FuncData} (F : FnP K "__init__" "BadRow.__init__" sIBadRow f fd) : FnOk P w K mg base CX0 1 f fd ["self", "row", "place"] (NK.spInit K ["row", "place"]) :=
  F.ok (k := 0) scIBadRow NK.init_len (fun cdv A outer st H vs Q E hr h => ⟨NK.tInit2 K "row" "place", pss_cons (ps_ost (pv 0) (pv 1)) (pss_one (ps_ost (pv 0) (pv 2))), NK.init2_go rfl h⟩)
/-! ### NoRoom.__init__ -/
theorem scINoRoom : FnScope ["self", "room"] ["self", "room"] (defScope sINoRoom) := ⟨rfl, rfl, rfl, by decide +kernel, rfl, by decide +kernel, by decide +kernel⟩
theorem okINoRoom {P : Program} {w : World} {K : PySem.W.Frag} {mg : Str → Option Value} {base : Heap} {f : Addr} {fd : FuncData} (F : FnP K "__init__" "NoRoom.__init__" sINoRoom f fd) : FnOk P w K mg base CX0 1 f fd ["self", "room"] (NK.spInit K ["room"]) :=
  F.ok (k := 0) scINoRoom NK.init_len (fun cdv A outer st H vs Q E hr h => ⟨NK.tInit1 K "room", pss_one (ps_ost (pv 0) (pv 1)), NK.init1_go rfl h⟩)
/-! ### NoHand.__init__ -/
theorem scINoHand : FnScope ["self", "hand"] ["self", "hand"] (defScope sINoHand) := ⟨rfl, rfl, rfl, by decide +kernel, rfl, by decide +kernel, by decide +kernel⟩
theorem okINoHand {P : Program} {w : World} {K : PySem.W.Frag} {mg : Str → Option Value} {base : Heap} {f : Addr} {fd : FuncData} (F : FnP K "__init__" "NoHand.__init__" sINoHand f fd) : FnOk P w K mg base CX0 1 f fd ["self", "hand"] (NK.spInit K ["hand"]) :=
  F.ok (k := 0) scINoHand NK.init_len (fun cdv A outer st H vs Q E hr h => ⟨NK.tInit1 K "hand", pss_one (ps_ost (pv 0) (pv 1)), NK.init1_go rfl h⟩)
/-! ### Ended.__init__ -/
theorem scIEnded : FnScope ["self", "hand"] ["self", "hand"] (defScope sIEnded) := ⟨rfl, rfl, rfl, by decide +kernel, rfl, by decide +kernel, by decide +kernel⟩
theorem okIEnded {P : Program} {w : World} {K : PySem.W.Frag} {mg : Str → Option Value} {base : Heap} {f : Addr} {fd : FuncData} (F : FnP K "__init__" "Ended.__init__" sIEnded f fd) : FnOk P w K mg base CX0 1 f fd ["self", "hand"] (NK.spInit K ["hand"]) :=
  F.ok (k := 0) scIEnded NK.init_len (fun cdv A outer st H vs Q E hr h => ⟨NK.tInit1 K "hand", pss_one (ps_ost (pv 0) (pv 1)), NK.init1_go rfl h⟩)
/-! ### NoStep.__init__ -/
theorem scINoStep : FnScope ["self", "step"] ["self", "step"] (defScope sINoStep) := ⟨rfl, rfl, rfl, by decide +kernel, rfl, by decide +kernel, by decide +kernel⟩
theorem okINoStep {P : Program} {w : World} {K : PySem.W.Frag} {mg : Str → Option Value} {base : Heap} {f : Addr} {fd : FuncData} (F : FnP K "__init__" "NoStep.__init__" sINoStep f fd) : FnOk P w K mg base CX0 1 f fd ["self", "step"] (NK.spInit K ["step"]) :=
  F.ok (k := 0) scINoStep NK.init_len (fun cdv A outer st H vs Q E hr h => ⟨NK.tInit1 K "step", pss_one (ps_ost (pv 0) (pv 1)), NK.init1_go rfl h⟩)
/-! ### Taken.__init__ -/
theorem scITaken : FnScope ["self", "key", "holder"] ["self", "key", "holder"] (defScope sITaken) := ⟨rfl, rfl, rfl, by decide +kernel, rfl, by decide +kernel, by decide +kernel⟩
theorem okITaken {P : Program} {w : World} {K : PySem.W.Frag} {mg : Str → Option Value} {base : Heap} {f : Addr} {fd : FuncData} (F : FnP K "__init__" "Taken.__init__" sITaken f fd) : FnOk P w K mg base CX0 1 f fd ["self", "key", "holder"] (NK.spInit K ["key", "holder"]) :=
  F.ok (k := 0) scITaken NK.init_len (fun cdv A outer st H vs Q E hr h => ⟨NK.tInit2 K "key" "holder", pss_cons (ps_ost (pv 0) (pv 1)) (pss_one (ps_ost (pv 0) (pv 2))), NK.init2_go rfl h⟩)
/-! ### NoKey.__init__ -/
theorem scINoKey : FnScope ["self", "name"] ["self", "name"] (defScope sINoKey) := ⟨rfl, rfl, rfl, by decide +kernel, rfl, by decide +kernel, by decide +kernel⟩
theorem okINoKey {P : Program} {w : World} {K : PySem.W.Frag} {mg : Str → Option Value} {base : Heap} {f : Addr} {fd : FuncData} (F : FnP K "__init__" "NoKey.__init__" sINoKey f fd) : FnOk P w K mg base CX0 1 f fd ["self", "name"] (NK.spInit K ["name"]) :=
  F.ok (k := 0) scINoKey NK.init_len (fun cdv A outer st H vs Q E hr h => ⟨NK.tInit1 K "name", pss_one (ps_ost (pv 0) (pv 1)), NK.init1_go rfl h⟩)
/-! ### Wide.__init__ -/
theorem scIWide : FnScope ["self", "count"] ["self", "count"] (defScope sIWide) := ⟨rfl, rfl, rfl, by decide +kernel, rfl, by decide +kernel, by decide +kernel⟩
theorem okIWide {P : Program} {w : World} {K : PySem.W.Frag} {mg : Str → Option Value} {base : Heap} {f : Addr} {fd : FuncData} (F : FnP K "__init__" "Wide.__init__" sIWide f fd) : FnOk P w K mg base CX0 1 f fd ["self", "count"] (NK.spInit K ["count"]) :=
  F.ok (k := 0) scIWide NK.init_len (fun cdv A outer st H vs Q E hr h => ⟨NK.tInit1 K "count", pss_one (ps_ost (pv 0) (pv 1)), NK.init1_go rfl h⟩)
/-! ### Clash.__init__ -/
theorem scIClash : FnScope ["self", "why"] ["self", "why"] (defScope sIClash) := ⟨rfl, rfl, rfl, by decide +kernel, rfl, by decide +kernel, by decide +kernel⟩
theorem okIClash {P : Program} {w : World} {K : PySem.W.Frag} {mg : Str → Option Value} {base : Heap} {f : Addr} {fd : FuncData} (F : FnP K "__init__" "Clash.__init__" sIClash f fd) : FnOk P w K mg base CX0 1 f fd ["self", "why"] (NK.spInit K ["why"]) :=
  F.ok (k := 0) scIClash NK.init_len (fun cdv A outer st H vs Q E hr h => ⟨NK.tInit1 K "why", pss_one (ps_ost (pv 0) (pv 1)), NK.init1_go rfl h⟩)
/-! ### NoMark.__init__ -/
theorem scINoMark : FnScope ["self", "name"] ["self", "name"] (defScope sINoMark) := ⟨rfl, rfl, rfl, by decide +kernel, rfl, by decide +kernel, by decide +kernel⟩
theorem okINoMark {P : Program} {w : World} {K : PySem.W.Frag} {mg : Str → Option Value} {base : Heap} {f : Addr} {fd : FuncData} (F : FnP K "__init__" "NoMark.__init__" sINoMark f fd) : FnOk P w K mg base CX0 1 f fd ["self", "name"] (NK.spInit K ["name"]) :=
  F.ok (k := 0) scINoMark NK.init_len (fun cdv A outer st H vs Q E hr h => ⟨NK.tInit1 K "name", pss_one (ps_ost (pv 0) (pv 1)), NK.init1_go rfl h⟩)
/-! ### Tangled.__init__ -/
theorem scITangled : FnScope ["self", "ring"] ["self", "ring"] (defScope sITangled) := ⟨rfl, rfl, rfl, by decide +kernel, rfl, by decide +kernel, by decide +kernel⟩
theorem okITangled {P : Program} {w : World} {K : PySem.W.Frag} {mg : Str → Option Value} {base : Heap} {f : Addr} {fd : FuncData} (F : FnP K "__init__" "Tangled.__init__" sITangled f fd) : FnOk P w K mg base CX0 1 f fd ["self", "ring"] (NK.spInit K ["ring"]) :=
  F.ok (k := 0) scITangled NK.init_len (fun cdv A outer st H vs Q E hr h => ⟨NK.tInit1 K "ring", pss_one (ps_ost (pv 0) (pv 1)), NK.init1_go rfl h⟩)
/-! ### Met.__init__ -/
theorem scIMet : FnScope ["self", "place"] ["self", "place"] (defScope sIMet) := ⟨rfl, rfl, rfl, by decide +kernel, rfl, by decide +kernel, by decide +kernel⟩
theorem okIMet {P : Program} {w : World} {K : PySem.W.Frag} {mg : Str → Option Value} {base : Heap} {f : Addr} {fd : FuncData} (F : FnP K "__init__" "Met.__init__" sIMet f fd) : FnOk P w K mg base CX0 1 f fd ["self", "place"] (NK.spInit K ["place"]) :=
  F.ok (k := 0) scIMet NK.init_len (fun cdv A outer st H vs Q E hr h => ⟨NK.tInit1 K "place", pss_one (ps_ost (pv 0) (pv 1)), NK.init1_go rfl h⟩)
/-! ### Broken.__init__ -/
theorem scIBroken : FnScope ["self", "name", "hands", "deeds"] ["self", "name", "hands", "deeds"] (defScope sIBroken) := ⟨rfl, rfl, rfl, by decide +kernel, rfl, by decide +kernel, by decide +kernel⟩
theorem okIBroken {P : Program} {w : World} {K : PySem.W.Frag} {mg : Str → Option Value} {base : Heap} {f : Addr} {fd : FuncData} (F : FnP K "__init__" "Broken.__init__" sIBroken f fd) : FnOk P w K mg base CX0 1 f fd ["self", "name", "hands", "deeds"] (NK.spInit K ["name", "hands", "deeds"]) :=
  F.ok (k := 0) scIBroken NK.init_len (fun cdv A outer st H vs Q E hr h => ⟨NK.tInit3 K "name" "hands" "deeds", pss_cons (ps_ost (pv 0) (pv 1)) (pss_cons (ps_ost (pv 0) (pv 2)) (pss_one (ps_ost (pv 0) (pv 3)))), NK.init3_go rfl h⟩)
/-! ### NoBar.__init__ -/
theorem scINoBar : FnScope ["self", "name"] ["self", "name"] (defScope sINoBar) := ⟨rfl, rfl, rfl, by decide +kernel, rfl, by decide +kernel, by decide +kernel⟩
theorem okINoBar {P : Program} {w : World} {K : PySem.W.Frag} {mg : Str → Option Value} {base : Heap} {f : Addr} {fd : FuncData} (F : FnP K "__init__" "NoBar.__init__" sINoBar f fd) : FnOk P w K mg base CX0 1 f fd ["self", "name"] (NK.spInit K ["name"]) :=
  F.ok (k := 0) scINoBar NK.init_len (fun cdv A outer st H vs Q E hr h => ⟨NK.tInit1 K "name", pss_one (ps_ost (pv 0) (pv 1)), NK.init1_go rfl h⟩)
/-! ### BadCount.told -/
theorem scBadCountT : FnScope ["self"] ["self"] (defScope sBadCountT) := ⟨rfl, rfl, rfl, by decide +kernel, rfl, by decide +kernel, by decide +kernel⟩
def mBadCountT : MS :=
  mRet (mC (.str "refused badcount"))
def FBadCountT : Fn := runFn 1 1 (mBadCountT)
set_option maxHeartbeats 4000000 in
theorem qBadCountT : Qs (mBadCountT) := by
  unfold mBadCountT
  repeat (first | array_get_dec | intro _ _)
theorem qFBadCountT : Qf (FBadCountT) := q_run (qBadCountT)
set_option maxHeartbeats 4000000 in
theorem okBadCountT {P : Program} {w : World} {K : PySem.W.Frag} {mg : Str → Option Value} {base : Heap} {f : Addr} {fd : FuncData} {k : Nat} (W : Wd K mg) (F : FnP K "told" "BadCount.told" sBadCountT f fd) : FnOk P w K mg base (L2N.CX P w) (k + 1) f fd ["self"] (spFn (TT K) (FBadCountT)) := by
  refine F.ok (CX := L2N.CX P w) scBadCountT spFn_len (fun cdv A outer st H vs Q E hr h => ⟨FS ⟨TT K, none, fun cls d _ H => E cls d H⟩ (mBadCountT), ?_, fn_enter (N := ["self"]) h (Or.inr (qBadCountT))⟩)
  unfold mBadCountT
  exact pss_one (fs_ret (ps_ret (fe_str pe_str)))
/-! ### NoName.told -/
theorem scNoNameT : FnScope ["self"] ["self"] (defScope sNoNameT) := ⟨rfl, rfl, rfl, by decide +kernel, rfl, by decide +kernel, by decide +kernel⟩
def mNoNameT : MS :=
  mRet (mC (.str "refused noname"))
def FNoNameT : Fn := runFn 1 1 (mNoNameT)
set_option maxHeartbeats 4000000 in
theorem qNoNameT : Qs (mNoNameT) := by
  unfold mNoNameT
  repeat (first | array_get_dec | intro _ _)
theorem qFNoNameT : Qf (FNoNameT) := q_run (qNoNameT)
set_option maxHeartbeats 4000000 in
theorem okNoNameT {P : Program} {w : World} {K : PySem.W.Frag} {mg : Str → Option Value} {base : Heap} {f : Addr} {fd : FuncData} {k : Nat} (W : Wd K mg) (F : FnP K "told" "NoName.told" sNoNameT f fd) : FnOk P w K mg base (L2N.CX P w) (k + 1) f fd ["self"] (spFn (TT K) (FNoNameT)) := by
  refine F.ok (CX := L2N.CX P w) scNoNameT spFn_len (fun cdv A outer st H vs Q E hr h => ⟨FS ⟨TT K, none, fun cls d _ H => E cls d H⟩ (mNoNameT), ?_, fn_enter (N := ["self"]) h (Or.inr (qNoNameT))⟩)
  unfold mNoNameT
  exact pss_one (fs_ret (ps_ret (fe_str pe_str)))
/-! ### Twice.told -/
theorem scTwiceT : FnScope ["self"] ["self"] (defScope sTwiceT) := ⟨rfl, rfl, rfl, by decide +kernel, rfl, by decide +kernel, by decide +kernel⟩
def mTwiceT : MS :=
  mRet (mC (.str "refused twice"))
def FTwiceT : Fn := runFn 1 1 (mTwiceT)
set_option maxHeartbeats 4000000 in
theorem qTwiceT : Qs (mTwiceT) := by
  unfold mTwiceT
  repeat (first | array_get_dec | intro _ _)
theorem qFTwiceT : Qf (FTwiceT) := q_run (qTwiceT)
set_option maxHeartbeats 4000000 in
theorem okTwiceT {P : Program} {w : World} {K : PySem.W.Frag} {mg : Str → Option Value} {base : Heap} {f : Addr} {fd : FuncData} {k : Nat} (W : Wd K mg) (F : FnP K "told" "Twice.told" sTwiceT f fd) : FnOk P w K mg base (L2N.CX P w) (k + 1) f fd ["self"] (spFn (TT K) (FTwiceT)) := by
  refine F.ok (CX := L2N.CX P w) scTwiceT spFn_len (fun cdv A outer st H vs Q E hr h => ⟨FS ⟨TT K, none, fun cls d _ H => E cls d H⟩ (mTwiceT), ?_, fn_enter (N := ["self"]) h (Or.inr (qTwiceT))⟩)
  unfold mTwiceT
  exact pss_one (fs_ret (ps_ret (fe_str pe_str)))
/-! ### NoPart.told -/
theorem scNoPartT : FnScope ["self"] ["self"] (defScope sNoPartT) := ⟨rfl, rfl, rfl, by decide +kernel, rfl, by decide +kernel, by decide +kernel⟩
def mNoPartT : MS :=
  mRet (mC (.str "refused nopart"))
def FNoPartT : Fn := runFn 1 1 (mNoPartT)
set_option maxHeartbeats 4000000 in
theorem qNoPartT : Qs (mNoPartT) := by
  unfold mNoPartT
  repeat (first | array_get_dec | intro _ _)
theorem qFNoPartT : Qf (FNoPartT) := q_run (qNoPartT)
set_option maxHeartbeats 4000000 in
theorem okNoPartT {P : Program} {w : World} {K : PySem.W.Frag} {mg : Str → Option Value} {base : Heap} {f : Addr} {fd : FuncData} {k : Nat} (W : Wd K mg) (F : FnP K "told" "NoPart.told" sNoPartT f fd) : FnOk P w K mg base (L2N.CX P w) (k + 1) f fd ["self"] (spFn (TT K) (FNoPartT)) := by
  refine F.ok (CX := L2N.CX P w) scNoPartT spFn_len (fun cdv A outer st H vs Q E hr h => ⟨FS ⟨TT K, none, fun cls d _ H => E cls d H⟩ (mNoPartT), ?_, fn_enter (N := ["self"]) h (Or.inr (qNoPartT))⟩)
  unfold mNoPartT
  exact pss_one (fs_ret (ps_ret (fe_str pe_str)))
/-! ### NoSort.told -/
theorem scNoSortT : FnScope ["self"] ["self"] (defScope sNoSortT) := ⟨rfl, rfl, rfl, by decide +kernel, rfl, by decide +kernel, by decide +kernel⟩
def mNoSortT : MS :=
  mRet (mC (.str "refused nosort"))
def FNoSortT : Fn := runFn 1 1 (mNoSortT)
set_option maxHeartbeats 4000000 in
theorem qNoSortT : Qs (mNoSortT) := by
  unfold mNoSortT
  repeat (first | array_get_dec | intro _ _)
theorem qFNoSortT : Qf (FNoSortT) := q_run (qNoSortT)
set_option maxHeartbeats 4000000 in
theorem okNoSortT {P : Program} {w : World} {K : PySem.W.Frag} {mg : Str → Option Value} {base : Heap} {f : Addr} {fd : FuncData} {k : Nat} (W : Wd K mg) (F : FnP K "told" "NoSort.told" sNoSortT f fd) : FnOk P w K mg base (L2N.CX P w) (k + 1) f fd ["self"] (spFn (TT K) (FNoSortT)) := by
  refine F.ok (CX := L2N.CX P w) scNoSortT spFn_len (fun cdv A outer st H vs Q E hr h => ⟨FS ⟨TT K, none, fun cls d _ H => E cls d H⟩ (mNoSortT), ?_, fn_enter (N := ["self"]) h (Or.inr (qNoSortT))⟩)
  unfold mNoSortT
  exact pss_one (fs_ret (ps_ret (fe_str pe_str)))
/-! ### BadRow.told -/
theorem scBadRowT : FnScope ["self"] ["self"] (defScope sBadRowT) := ⟨rfl, rfl, rfl, by decide +kernel, rfl, by decide +kernel, by decide +kernel⟩
def mBadRowT : MS :=
  mRet (mC (.str "refused badrow"))
def FBadRowT : Fn := runFn 1 1 (mBadRowT)
set_option maxHeartbeats 4000000 in
theorem qBadRowT : Qs (mBadRowT) := by
  unfold mBadRowT
  repeat (first | array_get_dec | intro _ _)
theorem qFBadRowT : Qf (FBadRowT) := q_run (qBadRowT)
set_option maxHeartbeats 4000000 in
theorem okBadRowT {P : Program} {w : World} {K : PySem.W.Frag} {mg : Str → Option Value} {base : Heap} {f : Addr} {fd : FuncData} {k : Nat} (W : Wd K mg) (F : FnP K "told" "BadRow.told" sBadRowT f fd) : FnOk P w K mg base (L2N.CX P w) (k + 1) f fd ["self"] (spFn (TT K) (FBadRowT)) := by
  refine F.ok (CX := L2N.CX P w) scBadRowT spFn_len (fun cdv A outer st H vs Q E hr h => ⟨FS ⟨TT K, none, fun cls d _ H => E cls d H⟩ (mBadRowT), ?_, fn_enter (N := ["self"]) h (Or.inr (qBadRowT))⟩)
  unfold mBadRowT
  exact pss_one (fs_ret (ps_ret (fe_str pe_str)))
/-! ### NoRoom.told -/
theorem scNoRoomT : FnScope ["self"] ["self"] (defScope sNoRoomT) := ⟨rfl, rfl, rfl, by decide +kernel, rfl, by decide +kernel, by decide +kernel⟩
def mNoRoomT : MS :=
  mRet (mC (.str "refused noroom"))
def FNoRoomT : Fn := runFn 1 1 (mNoRoomT)
set_option maxHeartbeats 4000000 in
theorem qNoRoomT : Qs (mNoRoomT) := by
  unfold mNoRoomT
  repeat (first | array_get_dec | intro _ _)
theorem qFNoRoomT : Qf (FNoRoomT) := q_run (qNoRoomT)
set_option maxHeartbeats 4000000 in
theorem okNoRoomT {P : Program} {w : World} {K : PySem.W.Frag} {mg : Str → Option Value} {base : Heap} {f : Addr} {fd : FuncData} {k : Nat} (W : Wd K mg) (F : FnP K "told" "NoRoom.told" sNoRoomT f fd) : FnOk P w K mg base (L2N.CX P w) (k + 1) f fd ["self"] (spFn (TT K) (FNoRoomT)) := by
  refine F.ok (CX := L2N.CX P w) scNoRoomT spFn_len (fun cdv A outer st H vs Q E hr h => ⟨FS ⟨TT K, none, fun cls d _ H => E cls d H⟩ (mNoRoomT), ?_, fn_enter (N := ["self"]) h (Or.inr (qNoRoomT))⟩)
  unfold mNoRoomT
  exact pss_one (fs_ret (ps_ret (fe_str pe_str)))
/-! ### NoHand.told -/
theorem scNoHandT : FnScope ["self"] ["self"] (defScope sNoHandT) := ⟨rfl, rfl, rfl, by decide +kernel, rfl, by decide +kernel, by decide +kernel⟩
def mNoHandT : MS :=
  mRet (mC (.str "refused nohand"))
def FNoHandT : Fn := runFn 1 1 (mNoHandT)
set_option maxHeartbeats 4000000 in
theorem qNoHandT : Qs (mNoHandT) := by
  unfold mNoHandT
  repeat (first | array_get_dec | intro _ _)
theorem qFNoHandT : Qf (FNoHandT) := q_run (qNoHandT)
set_option maxHeartbeats 4000000 in
theorem okNoHandT {P : Program} {w : World} {K : PySem.W.Frag} {mg : Str → Option Value} {base : Heap} {f : Addr} {fd : FuncData} {k : Nat} (W : Wd K mg) (F : FnP K "told" "NoHand.told" sNoHandT f fd) : FnOk P w K mg base (L2N.CX P w) (k + 1) f fd ["self"] (spFn (TT K) (FNoHandT)) := by
  refine F.ok (CX := L2N.CX P w) scNoHandT spFn_len (fun cdv A outer st H vs Q E hr h => ⟨FS ⟨TT K, none, fun cls d _ H => E cls d H⟩ (mNoHandT), ?_, fn_enter (N := ["self"]) h (Or.inr (qNoHandT))⟩)
  unfold mNoHandT
  exact pss_one (fs_ret (ps_ret (fe_str pe_str)))
/-! ### Ended.told -/
theorem scEndedT : FnScope ["self"] ["self"] (defScope sEndedT) := ⟨rfl, rfl, rfl, by decide +kernel, rfl, by decide +kernel, by decide +kernel⟩
def mEndedT : MS :=
  mRet (mC (.str "refused ended"))
def FEndedT : Fn := runFn 1 1 (mEndedT)
set_option maxHeartbeats 4000000 in
theorem qEndedT : Qs (mEndedT) := by
  unfold mEndedT
  repeat (first | array_get_dec | intro _ _)
theorem qFEndedT : Qf (FEndedT) := q_run (qEndedT)
set_option maxHeartbeats 4000000 in
theorem okEndedT {P : Program} {w : World} {K : PySem.W.Frag} {mg : Str → Option Value} {base : Heap} {f : Addr} {fd : FuncData} {k : Nat} (W : Wd K mg) (F : FnP K "told" "Ended.told" sEndedT f fd) : FnOk P w K mg base (L2N.CX P w) (k + 1) f fd ["self"] (spFn (TT K) (FEndedT)) := by
  refine F.ok (CX := L2N.CX P w) scEndedT spFn_len (fun cdv A outer st H vs Q E hr h => ⟨FS ⟨TT K, none, fun cls d _ H => E cls d H⟩ (mEndedT), ?_, fn_enter (N := ["self"]) h (Or.inr (qEndedT))⟩)
  unfold mEndedT
  exact pss_one (fs_ret (ps_ret (fe_str pe_str)))
/-! ### NoStep.told -/
theorem scNoStepT : FnScope ["self"] ["self"] (defScope sNoStepT) := ⟨rfl, rfl, rfl, by decide +kernel, rfl, by decide +kernel, by decide +kernel⟩
def mNoStepT : MS :=
  mRet (mC (.str "refused nostep"))
def FNoStepT : Fn := runFn 1 1 (mNoStepT)
set_option maxHeartbeats 4000000 in
theorem qNoStepT : Qs (mNoStepT) := by
  unfold mNoStepT
  repeat (first | array_get_dec | intro _ _)
theorem qFNoStepT : Qf (FNoStepT) := q_run (qNoStepT)
set_option maxHeartbeats 4000000 in
theorem okNoStepT {P : Program} {w : World} {K : PySem.W.Frag} {mg : Str → Option Value} {base : Heap} {f : Addr} {fd : FuncData} {k : Nat} (W : Wd K mg) (F : FnP K "told" "NoStep.told" sNoStepT f fd) : FnOk P w K mg base (L2N.CX P w) (k + 1) f fd ["self"] (spFn (TT K) (FNoStepT)) := by
  refine F.ok (CX := L2N.CX P w) scNoStepT spFn_len (fun cdv A outer st H vs Q E hr h => ⟨FS ⟨TT K, none, fun cls d _ H => E cls d H⟩ (mNoStepT), ?_, fn_enter (N := ["self"]) h (Or.inr (qNoStepT))⟩)
  unfold mNoStepT
  exact pss_one (fs_ret (ps_ret (fe_str pe_str)))
/-! ### Taken.told -/
theorem scTakenT : FnScope ["self"] ["self"] (defScope sTakenT) := ⟨rfl, rfl, rfl, by decide +kernel, rfl, by decide +kernel, by decide +kernel⟩
def mTakenT : MS :=
  mRet (mC (.str "refused taken"))
def FTakenT : Fn := runFn 1 1 (mTakenT)
set_option maxHeartbeats 4000000 in
theorem qTakenT : Qs (mTakenT) := by
  unfold mTakenT
  repeat (first | array_get_dec | intro _ _)
theorem qFTakenT : Qf (FTakenT) := q_run (qTakenT)
set_option maxHeartbeats 4000000 in
theorem okTakenT {P : Program} {w : World} {K : PySem.W.Frag} {mg : Str → Option Value} {base : Heap} {f : Addr} {fd : FuncData} {k : Nat} (W : Wd K mg) (F : FnP K "told" "Taken.told" sTakenT f fd) : FnOk P w K mg base (L2N.CX P w) (k + 1) f fd ["self"] (spFn (TT K) (FTakenT)) := by
  refine F.ok (CX := L2N.CX P w) scTakenT spFn_len (fun cdv A outer st H vs Q E hr h => ⟨FS ⟨TT K, none, fun cls d _ H => E cls d H⟩ (mTakenT), ?_, fn_enter (N := ["self"]) h (Or.inr (qTakenT))⟩)
  unfold mTakenT
  exact pss_one (fs_ret (ps_ret (fe_str pe_str)))
/-! ### NoKey.told -/
theorem scNoKeyT : FnScope ["self"] ["self"] (defScope sNoKeyT) := ⟨rfl, rfl, rfl, by decide +kernel, rfl, by decide +kernel, by decide +kernel⟩
def mNoKeyT : MS :=
  mRet (mC (.str "refused nokey"))
def FNoKeyT : Fn := runFn 1 1 (mNoKeyT)
set_option maxHeartbeats 4000000 in
theorem qNoKeyT : Qs (mNoKeyT) := by
  unfold mNoKeyT
  repeat (first | array_get_dec | intro _ _)
theorem qFNoKeyT : Qf (FNoKeyT) := q_run (qNoKeyT)
set_option maxHeartbeats 4000000 in
theorem okNoKeyT {P : Program} {w : World} {K : PySem.W.Frag} {mg : Str → Option Value} {base : Heap} {f : Addr} {fd : FuncData} {k : Nat} (W : Wd K mg) (F : FnP K "told" "NoKey.told" sNoKeyT f fd) : FnOk P w K mg base (L2N.CX P w) (k + 1) f fd ["self"] (spFn (TT K) (FNoKeyT)) := by
  refine F.ok (CX := L2N.CX P w) scNoKeyT spFn_len (fun cdv A outer st H vs Q E hr h => ⟨FS ⟨TT K, none, fun cls d _ H => E cls d H⟩ (mNoKeyT), ?_, fn_enter (N := ["self"]) h (Or.inr (qNoKeyT))⟩)
  unfold mNoKeyT
  exact pss_one (fs_ret (ps_ret (fe_str pe_str)))
/-! ### Wide.told -/
theorem scWideT : FnScope ["self"] ["self"] (defScope sWideT) := ⟨rfl, rfl, rfl, by decide +kernel, rfl, by decide +kernel, by decide +kernel⟩
def mWideT : MS :=
  mRet (mC (.str "refused wide"))
def FWideT : Fn := runFn 1 1 (mWideT)
set_option maxHeartbeats 4000000 in
theorem qWideT : Qs (mWideT) := by
  unfold mWideT
  repeat (first | array_get_dec | intro _ _)
theorem qFWideT : Qf (FWideT) := q_run (qWideT)
set_option maxHeartbeats 4000000 in
theorem okWideT {P : Program} {w : World} {K : PySem.W.Frag} {mg : Str → Option Value} {base : Heap} {f : Addr} {fd : FuncData} {k : Nat} (W : Wd K mg) (F : FnP K "told" "Wide.told" sWideT f fd) : FnOk P w K mg base (L2N.CX P w) (k + 1) f fd ["self"] (spFn (TT K) (FWideT)) := by
  refine F.ok (CX := L2N.CX P w) scWideT spFn_len (fun cdv A outer st H vs Q E hr h => ⟨FS ⟨TT K, none, fun cls d _ H => E cls d H⟩ (mWideT), ?_, fn_enter (N := ["self"]) h (Or.inr (qWideT))⟩)
  unfold mWideT
  exact pss_one (fs_ret (ps_ret (fe_str pe_str)))
/-! ### Clash.told -/
theorem scClashT : FnScope ["self"] ["self"] (defScope sClashT) := ⟨rfl, rfl, rfl, by decide +kernel, rfl, by decide +kernel, by decide +kernel⟩
def mClashT : MS :=
  mRet (mC (.str "refused clash"))
def FClashT : Fn := runFn 1 1 (mClashT)
set_option maxHeartbeats 4000000 in
theorem qClashT : Qs (mClashT) := by
  unfold mClashT
  repeat (first | array_get_dec | intro _ _)
theorem qFClashT : Qf (FClashT) := q_run (qClashT)
set_option maxHeartbeats 4000000 in
theorem okClashT {P : Program} {w : World} {K : PySem.W.Frag} {mg : Str → Option Value} {base : Heap} {f : Addr} {fd : FuncData} {k : Nat} (W : Wd K mg) (F : FnP K "told" "Clash.told" sClashT f fd) : FnOk P w K mg base (L2N.CX P w) (k + 1) f fd ["self"] (spFn (TT K) (FClashT)) := by
  refine F.ok (CX := L2N.CX P w) scClashT spFn_len (fun cdv A outer st H vs Q E hr h => ⟨FS ⟨TT K, none, fun cls d _ H => E cls d H⟩ (mClashT), ?_, fn_enter (N := ["self"]) h (Or.inr (qClashT))⟩)
  unfold mClashT
  exact pss_one (fs_ret (ps_ret (fe_str pe_str)))
/-! ### NoMark.told -/
theorem scNoMarkT : FnScope ["self"] ["self"] (defScope sNoMarkT) := ⟨rfl, rfl, rfl, by decide +kernel, rfl, by decide +kernel, by decide +kernel⟩
def mNoMarkT : MS :=
  mRet (mC (.str "refused nomark"))
def FNoMarkT : Fn := runFn 1 1 (mNoMarkT)
set_option maxHeartbeats 4000000 in
theorem qNoMarkT : Qs (mNoMarkT) := by
  unfold mNoMarkT
  repeat (first | array_get_dec | intro _ _)
theorem qFNoMarkT : Qf (FNoMarkT) := q_run (qNoMarkT)
set_option maxHeartbeats 4000000 in
theorem okNoMarkT {P : Program} {w : World} {K : PySem.W.Frag} {mg : Str → Option Value} {base : Heap} {f : Addr} {fd : FuncData} {k : Nat} (W : Wd K mg) (F : FnP K "told" "NoMark.told" sNoMarkT f fd) : FnOk P w K mg base (L2N.CX P w) (k + 1) f fd ["self"] (spFn (TT K) (FNoMarkT)) := by
  refine F.ok (CX := L2N.CX P w) scNoMarkT spFn_len (fun cdv A outer st H vs Q E hr h => ⟨FS ⟨TT K, none, fun cls d _ H => E cls d H⟩ (mNoMarkT), ?_, fn_enter (N := ["self"]) h (Or.inr (qNoMarkT))⟩)
  unfold mNoMarkT
  exact pss_one (fs_ret (ps_ret (fe_str pe_str)))
/-! ### Never.told -/
theorem scNeverT : FnScope ["self"] ["self"] (defScope sNeverT) := ⟨rfl, rfl, rfl, by decide +kernel, rfl, by decide +kernel, by decide +kernel⟩
def mNeverT : MS :=
  mRet (mC (.str "refused never"))
def FNeverT : Fn := runFn 1 1 (mNeverT)
set_option maxHeartbeats 4000000 in
theorem qNeverT : Qs (mNeverT) := by
  unfold mNeverT
  repeat (first | array_get_dec | intro _ _)
theorem qFNeverT : Qf (FNeverT) := q_run (qNeverT)
set_option maxHeartbeats 4000000 in
theorem okNeverT {P : Program} {w : World} {K : PySem.W.Frag} {mg : Str → Option Value} {base : Heap} {f : Addr} {fd : FuncData} {k : Nat} (W : Wd K mg) (F : FnP K "told" "Never.told" sNeverT f fd) : FnOk P w K mg base (L2N.CX P w) (k + 1) f fd ["self"] (spFn (TT K) (FNeverT)) := by
  refine F.ok (CX := L2N.CX P w) scNeverT spFn_len (fun cdv A outer st H vs Q E hr h => ⟨FS ⟨TT K, none, fun cls d _ H => E cls d H⟩ (mNeverT), ?_, fn_enter (N := ["self"]) h (Or.inr (qNeverT))⟩)
  unfold mNeverT
  exact pss_one (fs_ret (ps_ret (fe_str pe_str)))
/-! ### Tangled.told -/
theorem scTangledT : FnScope ["self"] ["self"] (defScope sTangledT) := ⟨rfl, rfl, rfl, by decide +kernel, rfl, by decide +kernel, by decide +kernel⟩
def mTangledT : MS :=
  mRet (mC (.str "refused tangled"))
def FTangledT : Fn := runFn 1 1 (mTangledT)
set_option maxHeartbeats 4000000 in
theorem qTangledT : Qs (mTangledT) := by
  unfold mTangledT
  repeat (first | array_get_dec | intro _ _)
theorem qFTangledT : Qf (FTangledT) := q_run (qTangledT)
set_option maxHeartbeats 4000000 in
theorem okTangledT {P : Program} {w : World} {K : PySem.W.Frag} {mg : Str → Option Value} {base : Heap} {f : Addr} {fd : FuncData} {k : Nat} (W : Wd K mg) (F : FnP K "told" "Tangled.told" sTangledT f fd) : FnOk P w K mg base (L2N.CX P w) (k + 1) f fd ["self"] (spFn (TT K) (FTangledT)) := by
  refine F.ok (CX := L2N.CX P w) scTangledT spFn_len (fun cdv A outer st H vs Q E hr h => ⟨FS ⟨TT K, none, fun cls d _ H => E cls d H⟩ (mTangledT), ?_, fn_enter (N := ["self"]) h (Or.inr (qTangledT))⟩)
  unfold mTangledT
  exact pss_one (fs_ret (ps_ret (fe_str pe_str)))
/-! ### Met.told -/
theorem scMetT : FnScope ["self"] ["self"] (defScope sMetT) := ⟨rfl, rfl, rfl, by decide +kernel, rfl, by decide +kernel, by decide +kernel⟩
def mMetT : MS :=
  mRet (mC (.str "refused met"))
def FMetT : Fn := runFn 1 1 (mMetT)
set_option maxHeartbeats 4000000 in
theorem qMetT : Qs (mMetT) := by
  unfold mMetT
  repeat (first | array_get_dec | intro _ _)
theorem qFMetT : Qf (FMetT) := q_run (qMetT)
set_option maxHeartbeats 4000000 in
theorem okMetT {P : Program} {w : World} {K : PySem.W.Frag} {mg : Str → Option Value} {base : Heap} {f : Addr} {fd : FuncData} {k : Nat} (W : Wd K mg) (F : FnP K "told" "Met.told" sMetT f fd) : FnOk P w K mg base (L2N.CX P w) (k + 1) f fd ["self"] (spFn (TT K) (FMetT)) := by
  refine F.ok (CX := L2N.CX P w) scMetT spFn_len (fun cdv A outer st H vs Q E hr h => ⟨FS ⟨TT K, none, fun cls d _ H => E cls d H⟩ (mMetT), ?_, fn_enter (N := ["self"]) h (Or.inr (qMetT))⟩)
  unfold mMetT
  exact pss_one (fs_ret (ps_ret (fe_str pe_str)))
/-! ### Broken.told -/
theorem scBrokenT : FnScope ["self"] ["self"] (defScope sBrokenT) := ⟨rfl, rfl, rfl, by decide +kernel, rfl, by decide +kernel, by decide +kernel⟩
def mBrokenT : MS :=
  mRet (mC (.str "refused broken"))
def FBrokenT : Fn := runFn 1 1 (mBrokenT)
set_option maxHeartbeats 4000000 in
theorem qBrokenT : Qs (mBrokenT) := by
  unfold mBrokenT
  repeat (first | array_get_dec | intro _ _)
theorem qFBrokenT : Qf (FBrokenT) := q_run (qBrokenT)
set_option maxHeartbeats 4000000 in
theorem okBrokenT {P : Program} {w : World} {K : PySem.W.Frag} {mg : Str → Option Value} {base : Heap} {f : Addr} {fd : FuncData} {k : Nat} (W : Wd K mg) (F : FnP K "told" "Broken.told" sBrokenT f fd) : FnOk P w K mg base (L2N.CX P w) (k + 1) f fd ["self"] (spFn (TT K) (FBrokenT)) := by
  refine F.ok (CX := L2N.CX P w) scBrokenT spFn_len (fun cdv A outer st H vs Q E hr h => ⟨FS ⟨TT K, none, fun cls d _ H => E cls d H⟩ (mBrokenT), ?_, fn_enter (N := ["self"]) h (Or.inr (qBrokenT))⟩)
  unfold mBrokenT
  exact pss_one (fs_ret (ps_ret (fe_str pe_str)))
/-! ### NoBar.told -/
theorem scNoBarT : FnScope ["self"] ["self"] (defScope sNoBarT) := ⟨rfl, rfl, rfl, by decide +kernel, rfl, by decide +kernel, by decide +kernel⟩
def mNoBarT : MS :=
  mRet (mC (.str "refused nobar"))
def FNoBarT : Fn := runFn 1 1 (mNoBarT)
set_option maxHeartbeats 4000000 in
theorem qNoBarT : Qs (mNoBarT) := by
  unfold mNoBarT
  repeat (first | array_get_dec | intro _ _)
theorem qFNoBarT : Qf (FNoBarT) := q_run (qNoBarT)
set_option maxHeartbeats 4000000 in
theorem okNoBarT {P : Program} {w : World} {K : PySem.W.Frag} {mg : Str → Option Value} {base : Heap} {f : Addr} {fd : FuncData} {k : Nat} (W : Wd K mg) (F : FnP K "told" "NoBar.told" sNoBarT f fd) : FnOk P w K mg base (L2N.CX P w) (k + 1) f fd ["self"] (spFn (TT K) (FNoBarT)) := by
  refine F.ok (CX := L2N.CX P w) scNoBarT spFn_len (fun cdv A outer st H vs Q E hr h => ⟨FS ⟨TT K, none, fun cls d _ H => E cls d H⟩ (mNoBarT), ?_, fn_enter (N := ["self"]) h (Or.inr (qNoBarT))⟩)
  unfold mNoBarT
  exact pss_one (fs_ret (ps_ret (fe_str pe_str)))
/-! ### NoBack.told -/
theorem scNoBackT : FnScope ["self"] ["self"] (defScope sNoBackT) := ⟨rfl, rfl, rfl, by decide +kernel, rfl, by decide +kernel, by decide +kernel⟩
def mNoBackT : MS :=
  mRet (mC (.str "refused noback"))
def FNoBackT : Fn := runFn 1 1 (mNoBackT)
set_option maxHeartbeats 4000000 in
theorem qNoBackT : Qs (mNoBackT) := by
  unfold mNoBackT
  repeat (first | array_get_dec | intro _ _)
theorem qFNoBackT : Qf (FNoBackT) := q_run (qNoBackT)
set_option maxHeartbeats 4000000 in
theorem okNoBackT {P : Program} {w : World} {K : PySem.W.Frag} {mg : Str → Option Value} {base : Heap} {f : Addr} {fd : FuncData} {k : Nat} (W : Wd K mg) (F : FnP K "told" "NoBack.told" sNoBackT f fd) : FnOk P w K mg base (L2N.CX P w) (k + 1) f fd ["self"] (spFn (TT K) (FNoBackT)) := by
  refine F.ok (CX := L2N.CX P w) scNoBackT spFn_len (fun cdv A outer st H vs Q E hr h => ⟨FS ⟨TT K, none, fun cls d _ H => E cls d H⟩ (mNoBackT), ?_, fn_enter (N := ["self"]) h (Or.inr (qNoBackT))⟩)
  unfold mNoBackT
  exact pss_one (fs_ret (ps_ret (fe_str pe_str)))
def mt_told : Nat → Option Fn := fun c => match c with
  | 1 => some FBadCountT | 2 => some FNoNameT | 3 => some FTwiceT | 4 => some FNoPartT | 5 => some FNoSortT | 6 => some FBadRowT | 7 => some FNoRoomT | 8 => some FNoHandT | 9 => some FEndedT | 10 => some FNoStepT | 11 => some FTakenT | 12 => some FNoKeyT | 13 => some FWideT | 14 => some FClashT | 15 => some FNoMarkT | 16 => some FNeverT | 17 => some FTangledT | 18 => some FMetT | 19 => some FBrokenT | 20 => some FNoBarT | 21 => some FNoBackT
  | _ => none
theorem qt_told : ∀ c f, mt_told c = some f → Qf f := fun c f h => by
  unfold mt_told at h
  split at h
  all_goals (cases h)
  all_goals (repeat (first | array_get_dec | with_reducible apply qFBadCountT | with_reducible apply qFNoNameT | with_reducible apply qFTwiceT | with_reducible apply qFNoPartT | with_reducible apply qFNoSortT | with_reducible apply qFBadRowT | with_reducible apply qFNoRoomT | with_reducible apply qFNoHandT | with_reducible apply qFEndedT | with_reducible apply qFNoStepT | with_reducible apply qFTakenT | with_reducible apply qFNoKeyT | with_reducible apply qFWideT | with_reducible apply qFClashT | with_reducible apply qFNoMarkT | with_reducible apply qFNeverT | with_reducible apply qFTangledT | with_reducible apply qFMetT | with_reducible apply qFBrokenT | with_reducible apply qFNoBarT | with_reducible apply qFNoBackT | intro _ _))
/-! ### _law_cell_at -/
theorem scCellAt : FnScope ["_law_script", "_law_k"] ["_law_script", "_law_k"] (defScope sCellAt) := ⟨rfl, rfl, rfl, by decide +kernel, rfl, by decide +kernel, by decide +kernel⟩
def mCellAt : MS :=
  mSeq (mIfS (mTest (mOp (oIB fun i j => decide (i < j)) (mVar 1) (mCB nLen (mCons (mVar 0) (mNil)))))
  (mRet (mOp oIxL (mVar 0) (mVar 1))) (mNext))
  (mRet (mC (.int 0)))
def FCellAt : Fn := runFn 2 2 (mCellAt)
set_option maxHeartbeats 4000000 in
theorem qCellAt : Qs (mCellAt) := by
  unfold mCellAt
  repeat (first | array_get_dec | intro _ _)
theorem qFCellAt : Qf (FCellAt) := q_run (qCellAt)
set_option maxHeartbeats 4000000 in
theorem okCellAt {P : Program} {w : World} {K : PySem.W.Frag} {mg : Str → Option Value} {base : Heap} {f : Addr} {fd : FuncData} {k : Nat} (W : Wd K mg) (F : FnP K "_law_cell_at" "_law_cell_at" sCellAt f fd) : FnOk P w K mg base (L2N.CX P w) (k + 1) f fd ["_law_script", "_law_k"] (spFn (TT K) (FCellAt)) := by
  refine F.ok (CX := L2N.CX P w) scCellAt spFn_len (fun cdv A outer st H vs Q E hr h => ⟨FS ⟨TT K, none, fun cls d _ H => E cls d H⟩ (mCellAt), ?_, fn_enter (N := ["_law_script", "_law_k"]) h (Or.inr (qCellAt))⟩)
  unfold mCellAt
  exact fss_cons (pss_cons (fs_if (ps_if (ft_cmp (pt_cmpR op_lt (fe_var (pv 1)) (fe_cb (pe_callB NK.call_lenSeq (by rfl) W.b_len (by decide +kernel) (fa_cons (pa_cons (fe_var (pv 0)) ((fa_nil pa_nil))))) sim_len) (nomark _)) sim_ib)
    (pss_one (fs_ret (ps_ret (fe_op (pe_ix ix_list (fe_var (pv 0)) (fe_var (pv 1)) (fun _ _ => rfl)) sim_ixL)))) ((fss_nil pss_nil))))
    (pss_one (fs_ret (ps_ret (fe_int pe_int)))))
/-! ### _law_state -/
theorem scState : FnScope ["_law_cell"] ["_law_cell"] (defScope sState) := ⟨rfl, rfl, rfl, by decide +kernel, rfl, by decide +kernel, by decide +kernel⟩
def mState : MS :=
  mSeq (mAsg (mCB nAbs (mCons (mVar 0) (mNil))) (gNm 0))
  (mRet (mLstC (mCons (mOp oMul (mVar 0) (mCB nInt (mCons (mOp (oIB fun i j => decide (j ≤ i)) (mVar 0) (mOp oPow (mC (.int 10)) (mC (.int 18)))) (mNil)))) (mCons (mOp oAdd (mOp oMod (mVar 0) (mC (.int 2147483629))) (mC (.int 7))) (mCons (mOp oMod (mVar 0) (mC (.int 2147483587))) (mNil))))))
def FState : Fn := runFn 1 1 (mState)
set_option maxHeartbeats 4000000 in
theorem qState : Qs (mState) := by
  unfold mState
  repeat (first | array_get_dec | intro _ _)
theorem qFState : Qf (FState) := q_run (qState)
set_option maxHeartbeats 4000000 in
theorem okState {P : Program} {w : World} {K : PySem.W.Frag} {mg : Str → Option Value} {base : Heap} {f : Addr} {fd : FuncData} {k : Nat} (W : Wd K mg) (F : FnP K "_law_state" "_law_state" sState f fd) : FnOk P w K mg base (L2N.CX P w) (k + 1) f fd ["_law_cell"] (spFn (TT K) (FState)) := by
  refine F.ok (CX := L2N.CX P w) scState spFn_len (fun cdv A outer st H vs Q E hr h => ⟨FS ⟨TT K, none, fun cls d _ H => E cls d H⟩ (mState), ?_, fn_enter (N := ["_law_cell"]) h (Or.inr (qState))⟩)
  unfold mState
  exact fss_cons (pss_cons (fs_set (ps_set (i := 0) scState.nd rfl (Or.inl rfl) (fe_cb (pe_callB NK.call_absI (by rfl) W.b_abs (by decide +kernel) (fa_cons (pa_cons (fe_var (pv 0)) ((fa_nil pa_nil))))) sim_abs)) rfl)
    (pss_one (fs_ret (ps_ret (fe_lstC (pe_lst (fa_cons (pa_cons (fe_op (pe_op op_mul (fe_var (pv 0)) (fe_cb (pe_callTy NK.call_intI (by rfl) W.b_int (by decide +kernel) (fa_cons (pa_cons (fe_op (pe_cmpR op_ge (fe_var (pv 0)) (fe_op (pe_op op_pow (fe_int pe_int) (fe_int pe_int)) sim_pow) (nomark _)) sim_ib) ((fa_nil pa_nil))))) sim_int)) sim_mul) (fa_cons (pa_cons (fe_op (pe_op op_add (fe_op (pe_op op_mod (fe_var (pv 0)) (fe_int pe_int)) sim_mod) (fe_int pe_int)) sim_ii) (fa_cons (pa_cons (fe_op (pe_op op_mod (fe_var (pv 0)) (fe_int pe_int)) sim_mod) ((fa_nil pa_nil))))))))))))))
/-! ### _law_digit -/
theorem scDigit : FnScope ["_law_state_here", "_law_base", "_law_found", "_law_more"] ["_law_state_here", "_law_base"] (defScope sDigit) := ⟨rfl, rfl, rfl, by decide +kernel, rfl, by decide +kernel, by decide +kernel⟩
def mDigit : MS :=
  mSeq (mIfS (mTest (mOp (oIB fun i j => decide (j < i)) (mOp oIxL (mVar 0) (mC (.int 0))) (mC (.int 0))))
  (mSeq (mAsg (mOp oMod (mOp oIxL (mVar 0) (mC (.int 0))) (mVar 1)) (gNm 2))
  (mSeq (mAsg (mOp oDiv (mOp oIxL (mVar 0) (mC (.int 0))) (mVar 1)) (mSetL (mVar 0) (mC (.int 0))))
  (mRet (mVar 2)))) (mNext))
  (mSeq (mAsg (mOp oMul (mOp oIxL (mVar 0) (mC (.int 1))) (mOp oAdd (mOp oDiv (mOp oIxL (mVar 0) (mC (.int 1))) (mC (.int 1009))) (mC (.int 69621)))) (gNm 3))
  (mSeq (mAsg (mOp oAdd (mOp oMod (mOp oAdd (mVar 3) (mOp oIxL (mVar 0) (mC (.int 2)))) (mC (.int 2147483629))) (mC (.int 7))) (mSetL (mVar 0) (mC (.int 1))))
  (mRet (mOp oMod (mOp oDiv (mOp oIxL (mVar 0) (mC (.int 1))) (mC (.int 97))) (mVar 1)))))
def FDigit : Fn := runFn 2 4 (mDigit)
set_option maxHeartbeats 4000000 in
theorem qDigit : Qs (mDigit) := by
  unfold mDigit
  repeat (first | array_get_dec | intro _ _)
theorem qFDigit : Qf (FDigit) := q_run (qDigit)
set_option maxHeartbeats 4000000 in
theorem okDigit {P : Program} {w : World} {K : PySem.W.Frag} {mg : Str → Option Value} {base : Heap} {f : Addr} {fd : FuncData} {k : Nat} (W : Wd K mg) (F : FnP K "_law_digit" "_law_digit" sDigit f fd) : FnOk P w K mg base (L2N.CX P w) (k + 1) f fd ["_law_state_here", "_law_base"] (spFn (TT K) (FDigit)) := by
  refine F.ok (CX := L2N.CX P w) scDigit spFn_len (fun cdv A outer st H vs Q E hr h => ⟨FS ⟨TT K, none, fun cls d _ H => E cls d H⟩ (mDigit), ?_, fn_enter (N := ["_law_state_here", "_law_base", "_law_found", "_law_more"]) h (Or.inr (qDigit))⟩)
  unfold mDigit
  exact fss_cons (pss_cons (fs_if (ps_if (ft_cmp (pt_cmpR op_gt (fe_op (pe_ix ix_list (fe_var (pv 0)) (fe_int pe_int) (fun _ _ => rfl)) sim_ixL) (fe_int pe_int) (nomark _)) sim_ib)
    (fss_cons (pss_cons (fs_set (ps_set (i := 2) scDigit.nd rfl (Or.inl rfl) (fe_op (pe_op op_mod (fe_op (pe_ix ix_list (fe_var (pv 0)) (fe_int pe_int) (fun _ _ => rfl)) sim_ixL) (fe_var (pv 1))) sim_mod)) rfl)
    (fss_cons (pss_cons (fs_asg (ps_asg (fe_op (pe_op op_fdiv (fe_op (pe_ix ix_list (fe_var (pv 0)) (fe_int pe_int) (fun _ _ => rfl)) sim_ixL) (fe_var (pv 1))) sim_div) (fg_setL (pg_sub (fe_var (pv 0)) (fe_int pe_int) set_list))))
    (pss_one (fs_ret (ps_ret (fe_var (pv 2))))))))) ((fss_nil pss_nil))))
    (fss_cons (pss_cons (fs_set (ps_set (i := 3) scDigit.nd rfl (Or.inl rfl) (fe_op (pe_op op_mul (fe_op (pe_ix ix_list (fe_var (pv 0)) (fe_int pe_int) (fun _ _ => rfl)) sim_ixL) (fe_op (pe_op op_add (fe_op (pe_op op_fdiv (fe_op (pe_ix ix_list (fe_var (pv 0)) (fe_int pe_int) (fun _ _ => rfl)) sim_ixL) (fe_int pe_int)) sim_div) (fe_int pe_int)) sim_ii)) sim_mul)) rfl)
    (fss_cons (pss_cons (fs_asg (ps_asg (fe_op (pe_op op_add (fe_op (pe_op op_mod (fe_op (pe_op op_add (fe_var (pv 3)) (fe_op (pe_ix ix_list (fe_var (pv 0)) (fe_int pe_int) (fun _ _ => rfl)) sim_ixL)) sim_ii) (fe_int pe_int)) sim_mod) (fe_int pe_int)) sim_ii) (fg_setL (pg_sub (fe_var (pv 0)) (fe_int pe_int) set_list))))
    (pss_one (fs_ret (ps_ret (fe_op (pe_op op_mod (fe_op (pe_op op_fdiv (fe_op (pe_ix ix_list (fe_var (pv 0)) (fe_int pe_int) (fun _ _ => rfl)) sim_ixL) (fe_int pe_int)) sim_div) (fe_var (pv 1))) sim_mod)))))))))
/-! ### _law_word -/
theorem scWord : FnScope ["_law_s", "_law_some", "_law_j"] ["_law_s"] (defScope sWord) := ⟨rfl, rfl, rfl, by decide +kernel, rfl, by decide +kernel, by decide +kernel⟩
def mWord : MS :=
  mSeq (mAsg (mC (.str "abcdefghijklmnopqrstuvwxyz0123456789")) (gNm 1))
  (mRet (mM1 oJoin (mC (.str "")) (mLc (mItA (mCons (mCall FDigit (mCons (mVar 0) (mCons (mC (.int 6)) (mNil)))) (mNil)) isRng1) (gNm 2) (mYes) (mOp oIxS (mVar 1) (mCall FDigit (mCons (mVar 0) (mCons (mC (.int 36)) (mNil))))) [2])))
def FWord : Fn := runFn 1 3 (mWord)
set_option maxHeartbeats 4000000 in
theorem qWord : Qs (mWord) := by
  unfold mWord
  repeat (first | array_get_dec | with_reducible apply qFDigit | intro _ _)
theorem qFWord : Qf (FWord) := q_run (qWord)
set_option maxHeartbeats 4000000 in
theorem okWord {P : Program} {w : World} {K : PySem.W.Frag} {mg : Str → Option Value} {base : Heap} {f : Addr} {fd : FuncData} {k : Nat} (W : Wd K mg) (F : FnP K "_law_word" "_law_word" sWord f fd) {l_Digit : Nat} (h_Digit : NK.CalX P w K mg base l_Digit "_law_digit" ["_law_state_here", "_law_base"] (spFn (TT K) FDigit)) (hl_Digit : l_Digit ≤ k) : FnOk P w K mg base (L2N.CX P w) (k + 1) f fd ["_law_s"] (spFn (TT K) (FWord)) := by
  refine F.ok (CX := L2N.CX P w) scWord spFn_len (fun cdv A outer st H vs Q E hr h => ⟨FS ⟨TT K, none, fun cls d _ H => E cls d H⟩ (mWord), ?_, fn_enter (N := ["_law_s", "_law_some", "_law_j"]) h (Or.inr (qWord))⟩)
  unfold mWord
  exact fss_cons (pss_cons (fs_set (ps_set (i := 1) scWord.nd rfl (Or.inr rfl) (fe_str pe_str)) rfl)
    (pss_one (fs_ret (ps_ret (fe_m1 (pe_join (fe_str pe_str) (fe_lc (pe_lc (own := [("_law_j", 2)]) rfl scWord.nd (fi_rng1 (pi_range1 (by rfl) W.b_range (fa_cons (pa_cons (fe_call (NK.pe_fnS h_Digit (hr.mono hl_Digit) (by rfl) (L2N.takes_of rfl rfl rfl rfl) (fa_cons (pa_cons (fe_var (pv 0)) (fa_cons (pa_cons (fe_int pe_int) ((fa_nil pa_nil)))))))) ((fa_nil pa_nil)))))) (blkOk_by (own := [("_law_j", 2)]) (N := ["_law_s", "_law_some", "_law_j"]) (sc := defScope sWord) (by decide +kernel)) (fun _ _ _ _ _ => pg_name (i := 2) scWord.nd rfl (Or.inl rfl)) (fun _ _ _ _ _ => (ft_yes pts_nil)) (fun _ _ _ _ _ => fe_op (pe_ix ix_str (fe_var (pv 1)) (fe_call (NK.pe_fnS h_Digit (hr.mono hl_Digit) (by rfl) takes0N (fa_cons (pa_cons (fe_var (pv 0)) (fa_cons (pa_cons (fe_int pe_int) ((fa_nil pa_nil)))))))) (fun _ _ => rfl)) sim_ixS)) (sg_name rfl) fills_name (by decide) rfl)) sim_join)))))
/-! ### _law_text_one -/
theorem scTextOne : FnScope ["_law_k", "_law_a", "_law_called"] ["_law_k", "_law_a", "_law_called"] (defScope sTextOne) := ⟨rfl, rfl, rfl, by decide +kernel, rfl, by decide +kernel, by decide +kernel⟩
def mTextOne : MS :=
  mSeq (mIfS (mTest (mOp oEq (mVar 0) (mC (.int 0))))
  (mRet (mIf (mTest (mVar 2)) (mExcK 2 1 [0] (mCons (mVar 1) (mNil))) (mExcV 2 1 (mCons (mVar 1) (mNil))))) (mNext))
  (mSeq (mIfS (mTest (mOp oEq (mVar 0) (mC (.int 1))))
  (mRet (mIf (mTest (mVar 2)) (mExcK 3 1 [0] (mCons (mVar 1) (mNil))) (mExcV 3 1 (mCons (mVar 1) (mNil))))) (mNext))
  (mSeq (mIfS (mTest (mOp oEq (mVar 0) (mC (.int 2))))
  (mRet (mIf (mTest (mVar 2)) (mExcK 4 1 [0] (mCons (mVar 1) (mNil))) (mExcV 4 1 (mCons (mVar 1) (mNil))))) (mNext))
  (mSeq (mIfS (mTest (mOp oEq (mVar 0) (mC (.int 3))))
  (mRet (mIf (mTest (mVar 2)) (mExcK 5 1 [0] (mCons (mVar 1) (mNil))) (mExcV 5 1 (mCons (mVar 1) (mNil))))) (mNext))
  (mSeq (mIfS (mTest (mOp oEq (mVar 0) (mC (.int 4))))
  (mRet (mIf (mTest (mVar 2)) (mExcK 12 1 [0] (mCons (mVar 1) (mNil))) (mExcV 12 1 (mCons (mVar 1) (mNil))))) (mNext))
  (mSeq (mIfS (mTest (mOp oEq (mVar 0) (mC (.int 5))))
  (mRet (mIf (mTest (mVar 2)) (mExcK 15 1 [0] (mCons (mVar 1) (mNil))) (mExcV 15 1 (mCons (mVar 1) (mNil))))) (mNext))
  (mRet (mIf (mTest (mVar 2)) (mExcK 20 1 [0] (mCons (mVar 1) (mNil))) (mExcV 20 1 (mCons (mVar 1) (mNil))))))))))
def FTextOne : Fn := runFn 3 3 (mTextOne)
set_option maxHeartbeats 4000000 in
theorem qTextOne : Qs (mTextOne) := by
  unfold mTextOne
  repeat (first | array_get_dec | intro _ _)
theorem qFTextOne : Qf (FTextOne) := q_run (qTextOne)
set_option maxHeartbeats 4000000 in
theorem okTextOne {P : Program} {w : World} {K : PySem.W.Frag} {mg : Str → Option Value} {base : Heap} {f : Addr} {fd : FuncData} {k : Nat} (W : Wd K mg) (F : FnP K "_law_text_one" "_law_text_one" sTextOne f fd) (hx2 : 2 ≤ k) (xw_NoName : NK.ExV P w K mg base 1 "NoName" ((TT K).ca 2) 0 ["name"] ["name"] [0]) (xv_NoName : NK.ExV P w K mg base 1 "NoName" ((TT K).ca 2) 1 [] ["name"] []) (xw_Twice : NK.ExV P w K mg base 1 "Twice" ((TT K).ca 3) 0 ["name"] ["name"] [0]) (xv_Twice : NK.ExV P w K mg base 1 "Twice" ((TT K).ca 3) 1 [] ["name"] []) (xw_NoPart : NK.ExV P w K mg base 1 "NoPart" ((TT K).ca 4) 0 ["name"] ["name"] [0]) (xv_NoPart : NK.ExV P w K mg base 1 "NoPart" ((TT K).ca 4) 1 [] ["name"] []) (xw_NoSort : NK.ExV P w K mg base 1 "NoSort" ((TT K).ca 5) 0 ["name"] ["name"] [0]) (xv_NoSort : NK.ExV P w K mg base 1 "NoSort" ((TT K).ca 5) 1 [] ["name"] []) (xw_NoKey : NK.ExV P w K mg base 1 "NoKey" ((TT K).ca 12) 0 ["name"] ["name"] [0]) (xv_NoKey : NK.ExV P w K mg base 1 "NoKey" ((TT K).ca 12) 1 [] ["name"] []) (xw_NoMark : NK.ExV P w K mg base 1 "NoMark" ((TT K).ca 15) 0 ["name"] ["name"] [0]) (xv_NoMark : NK.ExV P w K mg base 1 "NoMark" ((TT K).ca 15) 1 [] ["name"] []) (xw_NoBar : NK.ExV P w K mg base 1 "NoBar" ((TT K).ca 20) 0 ["name"] ["name"] [0]) (xv_NoBar : NK.ExV P w K mg base 1 "NoBar" ((TT K).ca 20) 1 [] ["name"] []) : FnOk P w K mg base (L2N.CX P w) (k + 1) f fd ["_law_k", "_law_a", "_law_called"] (spFn (TT K) (FTextOne)) := by
  refine F.ok (CX := L2N.CX P w) scTextOne spFn_len (fun cdv A outer st H vs Q E hr h => ⟨FS ⟨TT K, none, fun cls d _ H => E cls d H⟩ (mTextOne), ?_, fn_enter (N := ["_law_k", "_law_a", "_law_called"]) h (Or.inr (qTextOne))⟩)
  unfold mTextOne
  exact fss_cons (pss_cons (fs_if (ps_if (ft_cmp (pt_cmpR op_eq (fe_var (pv 0)) (fe_int pe_int) (nomark _)) sim_eq)
    (pss_one (fs_ret (ps_ret (fe_if (pe_ifExp (ft_B (pt_val (fe_var (pv 2)))) (fe_excK (NK.pe_exvK (ks := ["name"]) xw_NoName (hr.mono hx2) (by rfl) (fk_cons (pk_cons (fe_var (pv 1)) (fk_nil)))) ⟨xw_NoName.T, xw_NoName.no, rfl, rfl, by decide⟩) (fe_excV (NK.pe_exv xv_NoName (hr.mono hx2) (by rfl) (fa_cons (pa_cons (fe_var (pv 1)) ((fa_nil pa_nil))))) ⟨xv_NoName.T, xv_NoName.no, rfl, rfl, by decide⟩)))))) ((fss_nil pss_nil))))
    (fss_cons (pss_cons (fs_if (ps_if (ft_cmp (pt_cmpR op_eq (fe_var (pv 0)) (fe_int pe_int) (nomark _)) sim_eq)
    (pss_one (fs_ret (ps_ret (fe_if (pe_ifExp (ft_B (pt_val (fe_var (pv 2)))) (fe_excK (NK.pe_exvK (ks := ["name"]) xw_Twice (hr.mono hx2) (by rfl) (fk_cons (pk_cons (fe_var (pv 1)) (fk_nil)))) ⟨xw_Twice.T, xw_Twice.no, rfl, rfl, by decide⟩) (fe_excV (NK.pe_exv xv_Twice (hr.mono hx2) (by rfl) (fa_cons (pa_cons (fe_var (pv 1)) ((fa_nil pa_nil))))) ⟨xv_Twice.T, xv_Twice.no, rfl, rfl, by decide⟩)))))) ((fss_nil pss_nil))))
    (fss_cons (pss_cons (fs_if (ps_if (ft_cmp (pt_cmpR op_eq (fe_var (pv 0)) (fe_int pe_int) (nomark _)) sim_eq)
    (pss_one (fs_ret (ps_ret (fe_if (pe_ifExp (ft_B (pt_val (fe_var (pv 2)))) (fe_excK (NK.pe_exvK (ks := ["name"]) xw_NoPart (hr.mono hx2) (by rfl) (fk_cons (pk_cons (fe_var (pv 1)) (fk_nil)))) ⟨xw_NoPart.T, xw_NoPart.no, rfl, rfl, by decide⟩) (fe_excV (NK.pe_exv xv_NoPart (hr.mono hx2) (by rfl) (fa_cons (pa_cons (fe_var (pv 1)) ((fa_nil pa_nil))))) ⟨xv_NoPart.T, xv_NoPart.no, rfl, rfl, by decide⟩)))))) ((fss_nil pss_nil))))
    (fss_cons (pss_cons (fs_if (ps_if (ft_cmp (pt_cmpR op_eq (fe_var (pv 0)) (fe_int pe_int) (nomark _)) sim_eq)
    (pss_one (fs_ret (ps_ret (fe_if (pe_ifExp (ft_B (pt_val (fe_var (pv 2)))) (fe_excK (NK.pe_exvK (ks := ["name"]) xw_NoSort (hr.mono hx2) (by rfl) (fk_cons (pk_cons (fe_var (pv 1)) (fk_nil)))) ⟨xw_NoSort.T, xw_NoSort.no, rfl, rfl, by decide⟩) (fe_excV (NK.pe_exv xv_NoSort (hr.mono hx2) (by rfl) (fa_cons (pa_cons (fe_var (pv 1)) ((fa_nil pa_nil))))) ⟨xv_NoSort.T, xv_NoSort.no, rfl, rfl, by decide⟩)))))) ((fss_nil pss_nil))))
    (fss_cons (pss_cons (fs_if (ps_if (ft_cmp (pt_cmpR op_eq (fe_var (pv 0)) (fe_int pe_int) (nomark _)) sim_eq)
    (pss_one (fs_ret (ps_ret (fe_if (pe_ifExp (ft_B (pt_val (fe_var (pv 2)))) (fe_excK (NK.pe_exvK (ks := ["name"]) xw_NoKey (hr.mono hx2) (by rfl) (fk_cons (pk_cons (fe_var (pv 1)) (fk_nil)))) ⟨xw_NoKey.T, xw_NoKey.no, rfl, rfl, by decide⟩) (fe_excV (NK.pe_exv xv_NoKey (hr.mono hx2) (by rfl) (fa_cons (pa_cons (fe_var (pv 1)) ((fa_nil pa_nil))))) ⟨xv_NoKey.T, xv_NoKey.no, rfl, rfl, by decide⟩)))))) ((fss_nil pss_nil))))
    (fss_cons (pss_cons (fs_if (ps_if (ft_cmp (pt_cmpR op_eq (fe_var (pv 0)) (fe_int pe_int) (nomark _)) sim_eq)
    (pss_one (fs_ret (ps_ret (fe_if (pe_ifExp (ft_B (pt_val (fe_var (pv 2)))) (fe_excK (NK.pe_exvK (ks := ["name"]) xw_NoMark (hr.mono hx2) (by rfl) (fk_cons (pk_cons (fe_var (pv 1)) (fk_nil)))) ⟨xw_NoMark.T, xw_NoMark.no, rfl, rfl, by decide⟩) (fe_excV (NK.pe_exv xv_NoMark (hr.mono hx2) (by rfl) (fa_cons (pa_cons (fe_var (pv 1)) ((fa_nil pa_nil))))) ⟨xv_NoMark.T, xv_NoMark.no, rfl, rfl, by decide⟩)))))) ((fss_nil pss_nil))))
    (pss_one (fs_ret (ps_ret (fe_if (pe_ifExp (ft_B (pt_val (fe_var (pv 2)))) (fe_excK (NK.pe_exvK (ks := ["name"]) xw_NoBar (hr.mono hx2) (by rfl) (fk_cons (pk_cons (fe_var (pv 1)) (fk_nil)))) ⟨xw_NoBar.T, xw_NoBar.no, rfl, rfl, by decide⟩) (fe_excV (NK.pe_exv xv_NoBar (hr.mono hx2) (by rfl) (fa_cons (pa_cons (fe_var (pv 1)) ((fa_nil pa_nil))))) ⟨xv_NoBar.T, xv_NoBar.no, rfl, rfl, by decide⟩)))))))))))))))))
/-! ### _law_number_one -/
theorem scNumOne : FnScope ["_law_k", "_law_n", "_law_called"] ["_law_k", "_law_n", "_law_called"] (defScope sNumOne) := ⟨rfl, rfl, rfl, by decide +kernel, rfl, by decide +kernel, by decide +kernel⟩
def mNumOne : MS :=
  mSeq (mIfS (mTest (mOp oEq (mVar 0) (mC (.int 7))))
  (mRet (mIf (mTest (mVar 2)) (mExcK 7 1 [0] (mCons (mVar 1) (mNil))) (mExcV 7 1 (mCons (mVar 1) (mNil))))) (mNext))
  (mSeq (mIfS (mTest (mOp oEq (mVar 0) (mC (.int 8))))
  (mRet (mIf (mTest (mVar 2)) (mExcK 8 1 [0] (mCons (mVar 1) (mNil))) (mExcV 8 1 (mCons (mVar 1) (mNil))))) (mNext))
  (mSeq (mIfS (mTest (mOp oEq (mVar 0) (mC (.int 9))))
  (mRet (mIf (mTest (mVar 2)) (mExcK 9 1 [0] (mCons (mVar 1) (mNil))) (mExcV 9 1 (mCons (mVar 1) (mNil))))) (mNext))
  (mSeq (mIfS (mTest (mOp oEq (mVar 0) (mC (.int 10))))
  (mRet (mIf (mTest (mVar 2)) (mExcK 10 1 [0] (mCons (mVar 1) (mNil))) (mExcV 10 1 (mCons (mVar 1) (mNil))))) (mNext))
  (mSeq (mIfS (mTest (mOp oEq (mVar 0) (mC (.int 11))))
  (mRet (mIf (mTest (mVar 2)) (mExcK 13 1 [0] (mCons (mVar 1) (mNil))) (mExcV 13 1 (mCons (mVar 1) (mNil))))) (mNext))
  (mRet (mIf (mTest (mVar 2)) (mExcK 18 1 [0] (mCons (mVar 1) (mNil))) (mExcV 18 1 (mCons (mVar 1) (mNil)))))))))
def FNumOne : Fn := runFn 3 3 (mNumOne)
set_option maxHeartbeats 4000000 in
theorem qNumOne : Qs (mNumOne) := by
  unfold mNumOne
  repeat (first | array_get_dec | intro _ _)
theorem qFNumOne : Qf (FNumOne) := q_run (qNumOne)
set_option maxHeartbeats 4000000 in
theorem okNumOne {P : Program} {w : World} {K : PySem.W.Frag} {mg : Str → Option Value} {base : Heap} {f : Addr} {fd : FuncData} {k : Nat} (W : Wd K mg) (F : FnP K "_law_number_one" "_law_number_one" sNumOne f fd) (hx2 : 2 ≤ k) (xw_NoRoom : NK.ExV P w K mg base 1 "NoRoom" ((TT K).ca 7) 0 ["room"] ["room"] [0]) (xv_NoRoom : NK.ExV P w K mg base 1 "NoRoom" ((TT K).ca 7) 1 [] ["room"] []) (xw_NoHand : NK.ExV P w K mg base 1 "NoHand" ((TT K).ca 8) 0 ["hand"] ["hand"] [0]) (xv_NoHand : NK.ExV P w K mg base 1 "NoHand" ((TT K).ca 8) 1 [] ["hand"] []) (xw_Ended : NK.ExV P w K mg base 1 "Ended" ((TT K).ca 9) 0 ["hand"] ["hand"] [0]) (xv_Ended : NK.ExV P w K mg base 1 "Ended" ((TT K).ca 9) 1 [] ["hand"] []) (xw_NoStep : NK.ExV P w K mg base 1 "NoStep" ((TT K).ca 10) 0 ["step"] ["step"] [0]) (xv_NoStep : NK.ExV P w K mg base 1 "NoStep" ((TT K).ca 10) 1 [] ["step"] []) (xw_Wide : NK.ExV P w K mg base 1 "Wide" ((TT K).ca 13) 0 ["count"] ["count"] [0]) (xv_Wide : NK.ExV P w K mg base 1 "Wide" ((TT K).ca 13) 1 [] ["count"] []) (xw_Met : NK.ExV P w K mg base 1 "Met" ((TT K).ca 18) 0 ["place"] ["place"] [0]) (xv_Met : NK.ExV P w K mg base 1 "Met" ((TT K).ca 18) 1 [] ["place"] []) : FnOk P w K mg base (L2N.CX P w) (k + 1) f fd ["_law_k", "_law_n", "_law_called"] (spFn (TT K) (FNumOne)) := by
  refine F.ok (CX := L2N.CX P w) scNumOne spFn_len (fun cdv A outer st H vs Q E hr h => ⟨FS ⟨TT K, none, fun cls d _ H => E cls d H⟩ (mNumOne), ?_, fn_enter (N := ["_law_k", "_law_n", "_law_called"]) h (Or.inr (qNumOne))⟩)
  unfold mNumOne
  exact fss_cons (pss_cons (fs_if (ps_if (ft_cmp (pt_cmpR op_eq (fe_var (pv 0)) (fe_int pe_int) (nomark _)) sim_eq)
    (pss_one (fs_ret (ps_ret (fe_if (pe_ifExp (ft_B (pt_val (fe_var (pv 2)))) (fe_excK (NK.pe_exvK (ks := ["room"]) xw_NoRoom (hr.mono hx2) (by rfl) (fk_cons (pk_cons (fe_var (pv 1)) (fk_nil)))) ⟨xw_NoRoom.T, xw_NoRoom.no, rfl, rfl, by decide⟩) (fe_excV (NK.pe_exv xv_NoRoom (hr.mono hx2) (by rfl) (fa_cons (pa_cons (fe_var (pv 1)) ((fa_nil pa_nil))))) ⟨xv_NoRoom.T, xv_NoRoom.no, rfl, rfl, by decide⟩)))))) ((fss_nil pss_nil))))
    (fss_cons (pss_cons (fs_if (ps_if (ft_cmp (pt_cmpR op_eq (fe_var (pv 0)) (fe_int pe_int) (nomark _)) sim_eq)
    (pss_one (fs_ret (ps_ret (fe_if (pe_ifExp (ft_B (pt_val (fe_var (pv 2)))) (fe_excK (NK.pe_exvK (ks := ["hand"]) xw_NoHand (hr.mono hx2) (by rfl) (fk_cons (pk_cons (fe_var (pv 1)) (fk_nil)))) ⟨xw_NoHand.T, xw_NoHand.no, rfl, rfl, by decide⟩) (fe_excV (NK.pe_exv xv_NoHand (hr.mono hx2) (by rfl) (fa_cons (pa_cons (fe_var (pv 1)) ((fa_nil pa_nil))))) ⟨xv_NoHand.T, xv_NoHand.no, rfl, rfl, by decide⟩)))))) ((fss_nil pss_nil))))
    (fss_cons (pss_cons (fs_if (ps_if (ft_cmp (pt_cmpR op_eq (fe_var (pv 0)) (fe_int pe_int) (nomark _)) sim_eq)
    (pss_one (fs_ret (ps_ret (fe_if (pe_ifExp (ft_B (pt_val (fe_var (pv 2)))) (fe_excK (NK.pe_exvK (ks := ["hand"]) xw_Ended (hr.mono hx2) (by rfl) (fk_cons (pk_cons (fe_var (pv 1)) (fk_nil)))) ⟨xw_Ended.T, xw_Ended.no, rfl, rfl, by decide⟩) (fe_excV (NK.pe_exv xv_Ended (hr.mono hx2) (by rfl) (fa_cons (pa_cons (fe_var (pv 1)) ((fa_nil pa_nil))))) ⟨xv_Ended.T, xv_Ended.no, rfl, rfl, by decide⟩)))))) ((fss_nil pss_nil))))
    (fss_cons (pss_cons (fs_if (ps_if (ft_cmp (pt_cmpR op_eq (fe_var (pv 0)) (fe_int pe_int) (nomark _)) sim_eq)
    (pss_one (fs_ret (ps_ret (fe_if (pe_ifExp (ft_B (pt_val (fe_var (pv 2)))) (fe_excK (NK.pe_exvK (ks := ["step"]) xw_NoStep (hr.mono hx2) (by rfl) (fk_cons (pk_cons (fe_var (pv 1)) (fk_nil)))) ⟨xw_NoStep.T, xw_NoStep.no, rfl, rfl, by decide⟩) (fe_excV (NK.pe_exv xv_NoStep (hr.mono hx2) (by rfl) (fa_cons (pa_cons (fe_var (pv 1)) ((fa_nil pa_nil))))) ⟨xv_NoStep.T, xv_NoStep.no, rfl, rfl, by decide⟩)))))) ((fss_nil pss_nil))))
    (fss_cons (pss_cons (fs_if (ps_if (ft_cmp (pt_cmpR op_eq (fe_var (pv 0)) (fe_int pe_int) (nomark _)) sim_eq)
    (pss_one (fs_ret (ps_ret (fe_if (pe_ifExp (ft_B (pt_val (fe_var (pv 2)))) (fe_excK (NK.pe_exvK (ks := ["count"]) xw_Wide (hr.mono hx2) (by rfl) (fk_cons (pk_cons (fe_var (pv 1)) (fk_nil)))) ⟨xw_Wide.T, xw_Wide.no, rfl, rfl, by decide⟩) (fe_excV (NK.pe_exv xv_Wide (hr.mono hx2) (by rfl) (fa_cons (pa_cons (fe_var (pv 1)) ((fa_nil pa_nil))))) ⟨xv_Wide.T, xv_Wide.no, rfl, rfl, by decide⟩)))))) ((fss_nil pss_nil))))
    (pss_one (fs_ret (ps_ret (fe_if (pe_ifExp (ft_B (pt_val (fe_var (pv 2)))) (fe_excK (NK.pe_exvK (ks := ["place"]) xw_Met (hr.mono hx2) (by rfl) (fk_cons (pk_cons (fe_var (pv 1)) (fk_nil)))) ⟨xw_Met.T, xw_Met.no, rfl, rfl, by decide⟩) (fe_excV (NK.pe_exv xv_Met (hr.mono hx2) (by rfl) (fa_cons (pa_cons (fe_var (pv 1)) ((fa_nil pa_nil))))) ⟨xv_Met.T, xv_Met.no, rfl, rfl, by decide⟩)))))))))))))))
/-! ### _law_made -/
theorem scMade : FnScope ["_law_k", "_law_a", "_law_n", "_law_called"] ["_law_k", "_law_a", "_law_n", "_law_called"] (defScope sMade) := ⟨rfl, rfl, rfl, by decide +kernel, rfl, by decide +kernel, by decide +kernel⟩
def mMade : MS :=
  mSeq (mIfS (mTest (mOp (oIB fun i j => decide (i < j)) (mVar 0) (mC (.int 7))))
  (mRet (mCall FTextOne (mCons (mVar 0) (mCons (mVar 1) (mCons (mVar 3) (mNil)))))) (mNext))
  (mSeq (mIfS (mTest (mOp (oIB fun i j => decide (i < j)) (mVar 0) (mC (.int 13))))
  (mRet (mCall FNumOne (mCons (mVar 0) (mCons (mVar 2) (mCons (mVar 3) (mNil)))))) (mNext))
  (mSeq (mIfS (mTest (mOp oEq (mVar 0) (mC (.int 13))))
  (mRet (mIf (mTest (mVar 3)) (mExcK 1 2 [1, 0] (mCons (mVar 2) (mCons (mVar 1) (mNil)))) (mExcV 1 2 (mCons (mVar 1) (mCons (mVar 2) (mNil)))))) (mNext))
  (mSeq (mIfS (mTest (mOp oEq (mVar 0) (mC (.int 14))))
  (mRet (mIf (mTest (mVar 3)) (mExcK 6 2 [1, 0] (mCons (mVar 2) (mCons (mOp oAdd (mVar 2) (mC (.int 1))) (mNil)))) (mExcV 6 2 (mCons (mOp oAdd (mVar 2) (mC (.int 1))) (mCons (mVar 2) (mNil)))))) (mNext))
  (mSeq (mIfS (mTest (mOp oEq (mVar 0) (mC (.int 15))))
  (mRet (mIf (mTest (mVar 3)) (mExcK 11 2 [1, 0] (mCons (mVar 2) (mCons (mVar 1) (mNil)))) (mExcV 11 2 (mCons (mVar 1) (mCons (mVar 2) (mNil)))))) (mNext))
  (mSeq (mIfS (mTest (mOp oEq (mVar 0) (mC (.int 16))))
  (mRet (mIf (mTest (mVar 3)) (mExcK 14 1 [0] (mCons (mTup (mCons (mC (.str "twice")) (mCons (mVar 1) (mNil)))) (mNil))) (mExcV 14 1 (mCons (mTup (mCons (mC (.str "twice")) (mCons (mVar 1) (mNil)))) (mNil))))) (mNext))
  (mSeq (mIfS (mTest (mOp oEq (mVar 0) (mC (.int 17))))
  (mRet (mIf (mTest (mVar 3)) (mExcK 17 1 [0] (mCons (mTup (mCons (mVar 1) (mCons (mVar 1) (mNil)))) (mNil))) (mExcV 17 1 (mCons (mTup (mCons (mVar 1) (mCons (mVar 1) (mNil)))) (mNil))))) (mNext))
  (mRet (mIf (mTest (mVar 3)) (mExcK 19 3 [2, 1, 0] (mCons (mLst (mCons (mTup (mCons (mC (.int 0)) (mCons (mVar 2) (mNil)))) (mNil))) (mCons (mLst (mCons (mVar 1) (mNil))) (mCons (mVar 1) (mNil))))) (mExcV 19 3 (mCons (mVar 1) (mCons (mLst (mCons (mVar 1) (mNil))) (mCons (mLst (mCons (mTup (mCons (mC (.int 0)) (mCons (mVar 2) (mNil)))) (mNil))) (mNil)))))))))))))
def FMade : Fn := runFn 4 4 (mMade)
set_option maxHeartbeats 4000000 in
theorem qMade : Qs (mMade) := by
  unfold mMade
  repeat (first | array_get_dec | with_reducible apply qFTextOne | with_reducible apply qFNumOne | intro _ _)
theorem qFMade : Qf (FMade) := q_run (qMade)
set_option maxHeartbeats 4000000 in
theorem okMade {P : Program} {w : World} {K : PySem.W.Frag} {mg : Str → Option Value} {base : Heap} {f : Addr} {fd : FuncData} {k : Nat} (W : Wd K mg) (F : FnP K "_law_made" "_law_made" sMade f fd) {l_TextOne : Nat} (h_TextOne : NK.CalX P w K mg base l_TextOne "_law_text_one" ["_law_k", "_law_a", "_law_called"] (spFn (TT K) FTextOne)) (hl_TextOne : l_TextOne ≤ k) {l_NumOne : Nat} (h_NumOne : NK.CalX P w K mg base l_NumOne "_law_number_one" ["_law_k", "_law_n", "_law_called"] (spFn (TT K) FNumOne)) (hl_NumOne : l_NumOne ≤ k) (hx2 : 2 ≤ k) (xw_BadCount : NK.ExV P w K mg base 1 "BadCount" ((TT K).ca 1) 0 ["count", "what"] ["what", "count"] [1, 0]) (xv_BadCount : NK.ExV P w K mg base 1 "BadCount" ((TT K).ca 1) 2 [] ["what", "count"] []) (xw_BadRow : NK.ExV P w K mg base 1 "BadRow" ((TT K).ca 6) 0 ["place", "row"] ["row", "place"] [1, 0]) (xv_BadRow : NK.ExV P w K mg base 1 "BadRow" ((TT K).ca 6) 2 [] ["row", "place"] []) (xw_Taken : NK.ExV P w K mg base 1 "Taken" ((TT K).ca 11) 0 ["holder", "key"] ["key", "holder"] [1, 0]) (xv_Taken : NK.ExV P w K mg base 1 "Taken" ((TT K).ca 11) 2 [] ["key", "holder"] []) (xw_Clash : NK.ExV P w K mg base 1 "Clash" ((TT K).ca 14) 0 ["why"] ["why"] [0]) (xv_Clash : NK.ExV P w K mg base 1 "Clash" ((TT K).ca 14) 1 [] ["why"] []) (xw_Tangled : NK.ExV P w K mg base 1 "Tangled" ((TT K).ca 17) 0 ["ring"] ["ring"] [0]) (xv_Tangled : NK.ExV P w K mg base 1 "Tangled" ((TT K).ca 17) 1 [] ["ring"] []) (xw_Broken : NK.ExV P w K mg base 1 "Broken" ((TT K).ca 19) 0 ["deeds", "hands", "name"] ["name", "hands", "deeds"] [2, 1, 0]) (xv_Broken : NK.ExV P w K mg base 1 "Broken" ((TT K).ca 19) 3 [] ["name", "hands", "deeds"] []) : FnOk P w K mg base (L2N.CX P w) (k + 1) f fd ["_law_k", "_law_a", "_law_n", "_law_called"] (spFn (TT K) (FMade)) := by
  refine F.ok (CX := L2N.CX P w) scMade spFn_len (fun cdv A outer st H vs Q E hr h => ⟨FS ⟨TT K, none, fun cls d _ H => E cls d H⟩ (mMade), ?_, fn_enter (N := ["_law_k", "_law_a", "_law_n", "_law_called"]) h (Or.inr (qMade))⟩)
  unfold mMade
  exact fss_cons (pss_cons (fs_if (ps_if (ft_cmp (pt_cmpR op_lt (fe_var (pv 0)) (fe_int pe_int) (nomark _)) sim_ib)
    (pss_one (fs_ret (ps_ret (fe_call (NK.pe_fnS h_TextOne (hr.mono hl_TextOne) (by rfl) (L2N.takes_of rfl rfl rfl rfl) (fa_cons (pa_cons (fe_var (pv 0)) (fa_cons (pa_cons (fe_var (pv 1)) (fa_cons (pa_cons (fe_var (pv 3)) ((fa_nil pa_nil))))))))))))) ((fss_nil pss_nil))))
    (fss_cons (pss_cons (fs_if (ps_if (ft_cmp (pt_cmpR op_lt (fe_var (pv 0)) (fe_int pe_int) (nomark _)) sim_ib)
    (pss_one (fs_ret (ps_ret (fe_call (NK.pe_fnS h_NumOne (hr.mono hl_NumOne) (by rfl) (L2N.takes_of rfl rfl rfl rfl) (fa_cons (pa_cons (fe_var (pv 0)) (fa_cons (pa_cons (fe_var (pv 2)) (fa_cons (pa_cons (fe_var (pv 3)) ((fa_nil pa_nil))))))))))))) ((fss_nil pss_nil))))
    (fss_cons (pss_cons (fs_if (ps_if (ft_cmp (pt_cmpR op_eq (fe_var (pv 0)) (fe_int pe_int) (nomark _)) sim_eq)
    (pss_one (fs_ret (ps_ret (fe_if (pe_ifExp (ft_B (pt_val (fe_var (pv 3)))) (fe_excK (NK.pe_exvK (ks := ["count", "what"]) xw_BadCount (hr.mono hx2) (by rfl) (fk_cons (pk_cons (fe_var (pv 2)) (fk_cons (pk_cons (fe_var (pv 1)) (fk_nil)))))) ⟨xw_BadCount.T, xw_BadCount.no, rfl, rfl, by decide⟩) (fe_excV (NK.pe_exv xv_BadCount (hr.mono hx2) (by rfl) (fa_cons (pa_cons (fe_var (pv 1)) (fa_cons (pa_cons (fe_var (pv 2)) ((fa_nil pa_nil))))))) ⟨xv_BadCount.T, xv_BadCount.no, rfl, rfl, by decide⟩)))))) ((fss_nil pss_nil))))
    (fss_cons (pss_cons (fs_if (ps_if (ft_cmp (pt_cmpR op_eq (fe_var (pv 0)) (fe_int pe_int) (nomark _)) sim_eq)
    (pss_one (fs_ret (ps_ret (fe_if (pe_ifExp (ft_B (pt_val (fe_var (pv 3)))) (fe_excK (NK.pe_exvK (ks := ["place", "row"]) xw_BadRow (hr.mono hx2) (by rfl) (fk_cons (pk_cons (fe_var (pv 2)) (fk_cons (pk_cons (fe_op (pe_op op_add (fe_var (pv 2)) (fe_int pe_int)) sim_ii) (fk_nil)))))) ⟨xw_BadRow.T, xw_BadRow.no, rfl, rfl, by decide⟩) (fe_excV (NK.pe_exv xv_BadRow (hr.mono hx2) (by rfl) (fa_cons (pa_cons (fe_op (pe_op op_add (fe_var (pv 2)) (fe_int pe_int)) sim_ii) (fa_cons (pa_cons (fe_var (pv 2)) ((fa_nil pa_nil))))))) ⟨xv_BadRow.T, xv_BadRow.no, rfl, rfl, by decide⟩)))))) ((fss_nil pss_nil))))
    (fss_cons (pss_cons (fs_if (ps_if (ft_cmp (pt_cmpR op_eq (fe_var (pv 0)) (fe_int pe_int) (nomark _)) sim_eq)
    (pss_one (fs_ret (ps_ret (fe_if (pe_ifExp (ft_B (pt_val (fe_var (pv 3)))) (fe_excK (NK.pe_exvK (ks := ["holder", "key"]) xw_Taken (hr.mono hx2) (by rfl) (fk_cons (pk_cons (fe_var (pv 2)) (fk_cons (pk_cons (fe_var (pv 1)) (fk_nil)))))) ⟨xw_Taken.T, xw_Taken.no, rfl, rfl, by decide⟩) (fe_excV (NK.pe_exv xv_Taken (hr.mono hx2) (by rfl) (fa_cons (pa_cons (fe_var (pv 1)) (fa_cons (pa_cons (fe_var (pv 2)) ((fa_nil pa_nil))))))) ⟨xv_Taken.T, xv_Taken.no, rfl, rfl, by decide⟩)))))) ((fss_nil pss_nil))))
    (fss_cons (pss_cons (fs_if (ps_if (ft_cmp (pt_cmpR op_eq (fe_var (pv 0)) (fe_int pe_int) (nomark _)) sim_eq)
    (pss_one (fs_ret (ps_ret (fe_if (pe_ifExp (ft_B (pt_val (fe_var (pv 3)))) (fe_excK (NK.pe_exvK (ks := ["why"]) xw_Clash (hr.mono hx2) (by rfl) (fk_cons (pk_cons (fe_tup (pe_tup (fa_cons (pa_cons (fe_str pe_str) (fa_cons (pa_cons (fe_var (pv 1)) ((fa_nil pa_nil)))))))) (fk_nil)))) ⟨xw_Clash.T, xw_Clash.no, rfl, rfl, by decide⟩) (fe_excV (NK.pe_exv xv_Clash (hr.mono hx2) (by rfl) (fa_cons (pa_cons (fe_tup (pe_tup (fa_cons (pa_cons (fe_str pe_str) (fa_cons (pa_cons (fe_var (pv 1)) ((fa_nil pa_nil)))))))) ((fa_nil pa_nil))))) ⟨xv_Clash.T, xv_Clash.no, rfl, rfl, by decide⟩)))))) ((fss_nil pss_nil))))
    (fss_cons (pss_cons (fs_if (ps_if (ft_cmp (pt_cmpR op_eq (fe_var (pv 0)) (fe_int pe_int) (nomark _)) sim_eq)
    (pss_one (fs_ret (ps_ret (fe_if (pe_ifExp (ft_B (pt_val (fe_var (pv 3)))) (fe_excK (NK.pe_exvK (ks := ["ring"]) xw_Tangled (hr.mono hx2) (by rfl) (fk_cons (pk_cons (fe_tup (pe_tup (fa_cons (pa_cons (fe_var (pv 1)) (fa_cons (pa_cons (fe_var (pv 1)) ((fa_nil pa_nil)))))))) (fk_nil)))) ⟨xw_Tangled.T, xw_Tangled.no, rfl, rfl, by decide⟩) (fe_excV (NK.pe_exv xv_Tangled (hr.mono hx2) (by rfl) (fa_cons (pa_cons (fe_tup (pe_tup (fa_cons (pa_cons (fe_var (pv 1)) (fa_cons (pa_cons (fe_var (pv 1)) ((fa_nil pa_nil)))))))) ((fa_nil pa_nil))))) ⟨xv_Tangled.T, xv_Tangled.no, rfl, rfl, by decide⟩)))))) ((fss_nil pss_nil))))
    (pss_one (fs_ret (ps_ret (fe_if (pe_ifExp (ft_B (pt_val (fe_var (pv 3)))) (fe_excK (NK.pe_exvK (ks := ["deeds", "hands", "name"]) xw_Broken (hr.mono hx2) (by rfl) (fk_cons (pk_cons (fe_lst (pe_lst (fa_cons (pa_cons (fe_tup (pe_tup (fa_cons (pa_cons (fe_int pe_int) (fa_cons (pa_cons (fe_var (pv 2)) ((fa_nil pa_nil)))))))) ((fa_nil pa_nil)))))) (fk_cons (pk_cons (fe_lst (pe_lst (fa_cons (pa_cons (fe_var (pv 1)) ((fa_nil pa_nil)))))) (fk_cons (pk_cons (fe_var (pv 1)) (fk_nil)))))))) ⟨xw_Broken.T, xw_Broken.no, rfl, rfl, by decide⟩) (fe_excV (NK.pe_exv xv_Broken (hr.mono hx2) (by rfl) (fa_cons (pa_cons (fe_var (pv 1)) (fa_cons (pa_cons (fe_lst (pe_lst (fa_cons (pa_cons (fe_var (pv 1)) ((fa_nil pa_nil)))))) (fa_cons (pa_cons (fe_lst (pe_lst (fa_cons (pa_cons (fe_tup (pe_tup (fa_cons (pa_cons (fe_int pe_int) (fa_cons (pa_cons (fe_var (pv 2)) ((fa_nil pa_nil)))))))) ((fa_nil pa_nil)))))) ((fa_nil pa_nil))))))))) ⟨xv_Broken.T, xv_Broken.no, rfl, rfl, by decide⟩)))))))))))))))))))
/-! ### _law_fields -/
theorem scFields : FnScope ["_law_k", "_law_e"] ["_law_k", "_law_e"] (defScope sFields) := ⟨rfl, rfl, rfl, by decide +kernel, rfl, by decide +kernel, by decide +kernel⟩
def mFields : MS :=
  mSeq (mIfS (mTest (mOp (oIB fun i j => decide (i < j)) (mVar 0) (mC (.int 7))))
  (mRet (mUn (oXvF (tabN ixx_name)) (mVar 1))) (mNext))
  (mSeq (mIfS (mTest (mOp (oIB fun i j => decide (i < j)) (mVar 0) (mC (.int 13))))
  (mRet (mOp oIxL (mLst (mCons (mIf (mTest (mOp oEq (mVar 0) (mC (.int 7)))) (mUn (oXvF (tabN ixx_room)) (mVar 1)) (mC .non)) (mCons (mIf (mTest (mOp (oIn false) (mVar 0) (mTup (mCons (mC (.int 8)) (mCons (mC (.int 9)) (mNil)))))) (mUn (oXvF (tabN ixx_hand)) (mVar 1)) (mC .non)) (mCons (mIf (mTest (mOp oEq (mVar 0) (mC (.int 10)))) (mUn (oXvF (tabN ixx_step)) (mVar 1)) (mC .non)) (mCons (mIf (mTest (mOp oEq (mVar 0) (mC (.int 11)))) (mUn (oXvF (tabN ixx_count)) (mVar 1)) (mC .non)) (mCons (mIf (mTest (mOp oEq (mVar 0) (mC (.int 12)))) (mUn (oXvF (tabN ixx_place)) (mVar 1)) (mC .non)) (mNil))))))) (mOp oIxL (mLst (mCons (mC (.int 0)) (mCons (mC (.int 1)) (mCons (mC (.int 1)) (mCons (mC (.int 2)) (mCons (mC (.int 3)) (mCons (mC (.int 4)) (mNil)))))))) (mOp oSub (mVar 0) (mC (.int 7)))))) (mNext))
  (mSeq (mIfS (mTest (mOp oEq (mVar 0) (mC (.int 13))))
  (mRet (mTup (mCons (mUn (oXvF (tabN ixx_what)) (mVar 1)) (mCons (mUn (oXvF (tabN ixx_count)) (mVar 1)) (mNil))))) (mNext))
  (mSeq (mIfS (mTest (mOp oEq (mVar 0) (mC (.int 14))))
  (mRet (mTup (mCons (mUn (oXvF (tabN ixx_row)) (mVar 1)) (mCons (mUn (oXvF (tabN ixx_place)) (mVar 1)) (mNil))))) (mNext))
  (mSeq (mIfS (mTest (mOp oEq (mVar 0) (mC (.int 15))))
  (mRet (mTup (mCons (mUn (oXvF (tabN ixx_key)) (mVar 1)) (mCons (mUn (oXvF (tabN ixx_holder)) (mVar 1)) (mNil))))) (mNext))
  (mSeq (mIfS (mTest (mOp oEq (mVar 0) (mC (.int 16))))
  (mRet (mUn (oXvF (tabN ixx_why)) (mVar 1))) (mNext))
  (mSeq (mIfS (mTest (mOp oEq (mVar 0) (mC (.int 17))))
  (mRet (mUn (oXvF (tabN ixx_ring)) (mVar 1))) (mNext))
  (mRet (mTup (mCons (mUn (oXvF (tabN ixx_name)) (mVar 1)) (mCons (mUn (oXvF (tabN ixx_hands)) (mVar 1)) (mCons (mUn (oXvF (tabN ixx_deeds)) (mVar 1)) (mNil))))))))))))
def FFields : Fn := runFn 2 2 (mFields)
set_option maxHeartbeats 4000000 in
theorem qFields : Qs (mFields) := by
  unfold mFields
  repeat (first | array_get_dec | intro _ _)
theorem qFFields : Qf (FFields) := q_run (qFields)
set_option maxHeartbeats 4000000 in
theorem okFields {P : Program} {w : World} {K : PySem.W.Frag} {mg : Str → Option Value} {base : Heap} {f : Addr} {fd : FuncData} {k : Nat} (W : Wd K mg) (F : FnP K "_law_fields" "_law_fields" sFields f fd) : FnOk P w K mg base (L2N.CX P w) (k + 1) f fd ["_law_k", "_law_e"] (spFn (TT K) (FFields)) := by
  refine F.ok (CX := L2N.CX P w) scFields spFn_len (fun cdv A outer st H vs Q E hr h => ⟨FS ⟨TT K, none, fun cls d _ H => E cls d H⟩ (mFields), ?_, fn_enter (N := ["_law_k", "_law_e"]) h (Or.inr (qFields))⟩)
  unfold mFields
  exact fss_cons (pss_cons (fs_if (ps_if (ft_cmp (pt_cmpR op_lt (fe_var (pv 0)) (fe_int pe_int) (nomark _)) sim_ib)
    (pss_one (fs_ret (ps_ret (fe_xv (NK.pe_xv (fe_var (pv 1))) (xfldB_ok W.xfld_name))))) ((fss_nil pss_nil))))
    (fss_cons (pss_cons (fs_if (ps_if (ft_cmp (pt_cmpR op_lt (fe_var (pv 0)) (fe_int pe_int) (nomark _)) sim_ib)
    (pss_one (fs_ret (ps_ret (fe_op (pe_ix ix_list (fe_lst (pe_lst (fa_cons (pa_cons (fe_if (pe_ifExp (ft_cmp (pt_cmpR op_eq (fe_var (pv 0)) (fe_int pe_int) (nomark _)) sim_eq) (fe_xv (NK.pe_xv (fe_var (pv 1))) (xfldB_ok W.xfld_room)) (fe_non pe_non))) (fa_cons (pa_cons (fe_if (pe_ifExp (ft_cmp (pt_cmpR op_in_seq (fe_var (pv 0)) (fe_tup (pe_tup (fa_cons (pa_cons (fe_int pe_int) (fa_cons (pa_cons (fe_int pe_int) ((fa_nil pa_nil)))))))) rfl) sim_in) (fe_xv (NK.pe_xv (fe_var (pv 1))) (xfldB_ok W.xfld_hand)) (fe_non pe_non))) (fa_cons (pa_cons (fe_if (pe_ifExp (ft_cmp (pt_cmpR op_eq (fe_var (pv 0)) (fe_int pe_int) (nomark _)) sim_eq) (fe_xv (NK.pe_xv (fe_var (pv 1))) (xfldB_ok W.xfld_step)) (fe_non pe_non))) (fa_cons (pa_cons (fe_if (pe_ifExp (ft_cmp (pt_cmpR op_eq (fe_var (pv 0)) (fe_int pe_int) (nomark _)) sim_eq) (fe_xv (NK.pe_xv (fe_var (pv 1))) (xfldB_ok W.xfld_count)) (fe_non pe_non))) (fa_cons (pa_cons (fe_if (pe_ifExp (ft_cmp (pt_cmpR op_eq (fe_var (pv 0)) (fe_int pe_int) (nomark _)) sim_eq) (fe_xv (NK.pe_xv (fe_var (pv 1))) (xfldB_ok W.xfld_place)) (fe_non pe_non))) ((fa_nil pa_nil)))))))))))))) (fe_op (pe_ix ix_list (fe_lst (pe_lst (fa_cons (pa_cons (fe_int pe_int) (fa_cons (pa_cons (fe_int pe_int) (fa_cons (pa_cons (fe_int pe_int) (fa_cons (pa_cons (fe_int pe_int) (fa_cons (pa_cons (fe_int pe_int) (fa_cons (pa_cons (fe_int pe_int) ((fa_nil pa_nil)))))))))))))))) (fe_op (pe_op op_sub (fe_var (pv 0)) (fe_int pe_int)) sim_ii) (fun _ _ => rfl)) sim_ixL) (fun _ _ => rfl)) sim_ixL)))) ((fss_nil pss_nil))))
    (fss_cons (pss_cons (fs_if (ps_if (ft_cmp (pt_cmpR op_eq (fe_var (pv 0)) (fe_int pe_int) (nomark _)) sim_eq)
    (pss_one (fs_ret (ps_ret (fe_tup (pe_tup (fa_cons (pa_cons (fe_xv (NK.pe_xv (fe_var (pv 1))) (xfldB_ok W.xfld_what)) (fa_cons (pa_cons (fe_xv (NK.pe_xv (fe_var (pv 1))) (xfldB_ok W.xfld_count)) ((fa_nil pa_nil))))))))))) ((fss_nil pss_nil))))
    (fss_cons (pss_cons (fs_if (ps_if (ft_cmp (pt_cmpR op_eq (fe_var (pv 0)) (fe_int pe_int) (nomark _)) sim_eq)
    (pss_one (fs_ret (ps_ret (fe_tup (pe_tup (fa_cons (pa_cons (fe_xv (NK.pe_xv (fe_var (pv 1))) (xfldB_ok W.xfld_row)) (fa_cons (pa_cons (fe_xv (NK.pe_xv (fe_var (pv 1))) (xfldB_ok W.xfld_place)) ((fa_nil pa_nil))))))))))) ((fss_nil pss_nil))))
    (fss_cons (pss_cons (fs_if (ps_if (ft_cmp (pt_cmpR op_eq (fe_var (pv 0)) (fe_int pe_int) (nomark _)) sim_eq)
    (pss_one (fs_ret (ps_ret (fe_tup (pe_tup (fa_cons (pa_cons (fe_xv (NK.pe_xv (fe_var (pv 1))) (xfldB_ok W.xfld_key)) (fa_cons (pa_cons (fe_xv (NK.pe_xv (fe_var (pv 1))) (xfldB_ok W.xfld_holder)) ((fa_nil pa_nil))))))))))) ((fss_nil pss_nil))))
    (fss_cons (pss_cons (fs_if (ps_if (ft_cmp (pt_cmpR op_eq (fe_var (pv 0)) (fe_int pe_int) (nomark _)) sim_eq)
    (pss_one (fs_ret (ps_ret (fe_xv (NK.pe_xv (fe_var (pv 1))) (xfldB_ok W.xfld_why))))) ((fss_nil pss_nil))))
    (fss_cons (pss_cons (fs_if (ps_if (ft_cmp (pt_cmpR op_eq (fe_var (pv 0)) (fe_int pe_int) (nomark _)) sim_eq)
    (pss_one (fs_ret (ps_ret (fe_xv (NK.pe_xv (fe_var (pv 1))) (xfldB_ok W.xfld_ring))))) ((fss_nil pss_nil))))
    (pss_one (fs_ret (ps_ret (fe_tup (pe_tup (fa_cons (pa_cons (fe_xv (NK.pe_xv (fe_var (pv 1))) (xfldB_ok W.xfld_name)) (fa_cons (pa_cons (fe_xv (NK.pe_xv (fe_var (pv 1))) (xfldB_ok W.xfld_hands)) (fa_cons (pa_cons (fe_xv (NK.pe_xv (fe_var (pv 1))) (xfldB_ok W.xfld_deeds)) ((fa_nil pa_nil))))))))))))))))))))))))))
/-! ### _law_due -/
theorem scDue : FnScope ["_law_k", "_law_a", "_law_n"] ["_law_k", "_law_a", "_law_n"] (defScope sDue) := ⟨rfl, rfl, rfl, by decide +kernel, rfl, by decide +kernel, by decide +kernel⟩
def mDue : MS :=
  mSeq (mIfS (mTest (mOp (oIB fun i j => decide (i < j)) (mVar 0) (mC (.int 7))))
  (mRet (mVar 1)) (mNext))
  (mSeq (mIfS (mTest (mOp (oIB fun i j => decide (i < j)) (mVar 0) (mC (.int 13))))
  (mRet (mVar 2)) (mNext))
  (mRet (mOp oIxL (mLst (mCons (mTup (mCons (mVar 1) (mCons (mVar 2) (mNil)))) (mCons (mTup (mCons (mOp oAdd (mVar 2) (mC (.int 1))) (mCons (mVar 2) (mNil)))) (mCons (mTup (mCons (mVar 1) (mCons (mVar 2) (mNil)))) (mCons (mTup (mCons (mC (.str "twice")) (mCons (mVar 1) (mNil)))) (mCons (mTup (mCons (mVar 1) (mCons (mVar 1) (mNil)))) (mCons (mTup (mCons (mVar 1) (mCons (mLst (mCons (mVar 1) (mNil))) (mCons (mLst (mCons (mTup (mCons (mC (.int 0)) (mCons (mVar 2) (mNil)))) (mNil))) (mNil))))) (mNil)))))))) (mOp oSub (mVar 0) (mC (.int 13))))))
def FDue : Fn := runFn 3 3 (mDue)
set_option maxHeartbeats 4000000 in
theorem qDue : Qs (mDue) := by
  unfold mDue
  repeat (first | array_get_dec | intro _ _)
theorem qFDue : Qf (FDue) := q_run (qDue)
set_option maxHeartbeats 4000000 in
theorem okDue {P : Program} {w : World} {K : PySem.W.Frag} {mg : Str → Option Value} {base : Heap} {f : Addr} {fd : FuncData} {k : Nat} (W : Wd K mg) (F : FnP K "_law_due" "_law_due" sDue f fd) : FnOk P w K mg base (L2N.CX P w) (k + 1) f fd ["_law_k", "_law_a", "_law_n"] (spFn (TT K) (FDue)) := by
  refine F.ok (CX := L2N.CX P w) scDue spFn_len (fun cdv A outer st H vs Q E hr h => ⟨FS ⟨TT K, none, fun cls d _ H => E cls d H⟩ (mDue), ?_, fn_enter (N := ["_law_k", "_law_a", "_law_n"]) h (Or.inr (qDue))⟩)
  unfold mDue
  exact fss_cons (pss_cons (fs_if (ps_if (ft_cmp (pt_cmpR op_lt (fe_var (pv 0)) (fe_int pe_int) (nomark _)) sim_ib)
    (pss_one (fs_ret (ps_ret (fe_var (pv 1))))) ((fss_nil pss_nil))))
    (fss_cons (pss_cons (fs_if (ps_if (ft_cmp (pt_cmpR op_lt (fe_var (pv 0)) (fe_int pe_int) (nomark _)) sim_ib)
    (pss_one (fs_ret (ps_ret (fe_var (pv 2))))) ((fss_nil pss_nil))))
    (pss_one (fs_ret (ps_ret (fe_op (pe_ix ix_list (fe_lst (pe_lst (fa_cons (pa_cons (fe_tup (pe_tup (fa_cons (pa_cons (fe_var (pv 1)) (fa_cons (pa_cons (fe_var (pv 2)) ((fa_nil pa_nil)))))))) (fa_cons (pa_cons (fe_tup (pe_tup (fa_cons (pa_cons (fe_op (pe_op op_add (fe_var (pv 2)) (fe_int pe_int)) sim_ii) (fa_cons (pa_cons (fe_var (pv 2)) ((fa_nil pa_nil)))))))) (fa_cons (pa_cons (fe_tup (pe_tup (fa_cons (pa_cons (fe_var (pv 1)) (fa_cons (pa_cons (fe_var (pv 2)) ((fa_nil pa_nil)))))))) (fa_cons (pa_cons (fe_tup (pe_tup (fa_cons (pa_cons (fe_str pe_str) (fa_cons (pa_cons (fe_var (pv 1)) ((fa_nil pa_nil)))))))) (fa_cons (pa_cons (fe_tup (pe_tup (fa_cons (pa_cons (fe_var (pv 1)) (fa_cons (pa_cons (fe_var (pv 1)) ((fa_nil pa_nil)))))))) (fa_cons (pa_cons (fe_tup (pe_tup (fa_cons (pa_cons (fe_var (pv 1)) (fa_cons (pa_cons (fe_lst (pe_lst (fa_cons (pa_cons (fe_var (pv 1)) ((fa_nil pa_nil)))))) (fa_cons (pa_cons (fe_lst (pe_lst (fa_cons (pa_cons (fe_tup (pe_tup (fa_cons (pa_cons (fe_int pe_int) (fa_cons (pa_cons (fe_var (pv 2)) ((fa_nil pa_nil)))))))) ((fa_nil pa_nil)))))) ((fa_nil pa_nil)))))))))) ((fa_nil pa_nil)))))))))))))))) (fe_op (pe_op op_sub (fe_var (pv 0)) (fe_int pe_int)) sim_ii) (fun _ _ => rfl)) sim_ixL)))))))
/-! ### _law_right -/
theorem scRight : FnScope ["_law_e", "_law_word_here", "_law_kinds", "_law_words", "_law_found", "_law_one", "_law_is_so"] ["_law_e", "_law_word_here"] (defScope sRight) := ⟨rfl, rfl, rfl, by decide +kernel, rfl, by decide +kernel, by decide +kernel⟩
def mRight : MS :=
  mSeq (mAsg (mLstC (mCons (mUn (oXvI (tabB xis_NoName)) (mVar 0)) (mCons (mUn (oXvI (tabB xis_Twice)) (mVar 0)) (mCons (mUn (oXvI (tabB xis_NoPart)) (mVar 0)) (mCons (mUn (oXvI (tabB xis_NoSort)) (mVar 0)) (mNil)))))) (gNm 2))
  (mSeq (mAsg (mCatC (mVar 2) (mLst (mCons (mUn (oXvI (tabB xis_NoKey)) (mVar 0)) (mCons (mUn (oXvI (tabB xis_NoMark)) (mVar 0)) (mCons (mUn (oXvI (tabB xis_NoBar)) (mVar 0)) (mCons (mUn (oXvI (tabB xis_NoRoom)) (mVar 0)) (mNil))))))) (gNm 2))
  (mSeq (mAsg (mCatC (mVar 2) (mLst (mCons (mUn (oXvI (tabB xis_NoHand)) (mVar 0)) (mCons (mUn (oXvI (tabB xis_Ended)) (mVar 0)) (mCons (mUn (oXvI (tabB xis_NoStep)) (mVar 0)) (mCons (mUn (oXvI (tabB xis_Wide)) (mVar 0)) (mNil))))))) (gNm 2))
  (mSeq (mAsg (mCatC (mVar 2) (mLst (mCons (mUn (oXvI (tabB xis_Met)) (mVar 0)) (mCons (mUn (oXvI (tabB xis_BadCount)) (mVar 0)) (mCons (mUn (oXvI (tabB xis_BadRow)) (mVar 0)) (mCons (mUn (oXvI (tabB xis_Taken)) (mVar 0)) (mNil))))))) (gNm 2))
  (mSeq (mAsg (mCatC (mVar 2) (mLst (mCons (mUn (oXvI (tabB xis_Clash)) (mVar 0)) (mCons (mUn (oXvI (tabB xis_Tangled)) (mVar 0)) (mCons (mUn (oXvI (tabB xis_Broken)) (mVar 0)) (mCons (mUn (oXvI (tabB xis_Never)) (mVar 0)) (mNil))))))) (gNm 2))
  (mSeq (mDrop (mM fAppend (mVar 2) (mCons (mUn (oXvI (tabB xis_NoBack)) (mVar 0)) (mNil))))
  (mSeq (mAsg (mLst (mCons (mC (.str "noname")) (mCons (mC (.str "twice")) (mCons (mC (.str "nopart")) (mCons (mC (.str "nosort")) (mCons (mC (.str "nokey")) (mCons (mC (.str "nomark")) (mCons (mC (.str "nobar")) (mCons (mC (.str "noroom")) (mCons (mC (.str "nohand")) (mCons (mC (.str "ended")) (mCons (mC (.str "nostep")) (mNil))))))))))))) (gNm 3))
  (mSeq (mAsg (mOp oCatL (mVar 3) (mLst (mCons (mC (.str "wide")) (mCons (mC (.str "met")) (mCons (mC (.str "badcount")) (mCons (mC (.str "badrow")) (mCons (mC (.str "taken")) (mCons (mC (.str "clash")) (mCons (mC (.str "tangled")) (mCons (mC (.str "broken")) (mCons (mC (.str "never")) (mCons (mC (.str "noback")) (mNil))))))))))))) (gNm 3))
  (mSeq (mAsg (mLc (mItA (mCons (mVar 3) (mCons (mFrz (mVar 2)) (mNil))) isZip) (gTp 2 (gsCons (gNm 5) (gsCons (gNm 6) (gsNil)))) (mTest (mVar 6)) (mVar 5) [5, 6]) (gNm 4))
  (mRet (mAndV (mOp (oPl false) (mVar 4) (mLst (mCons (mVar 1) (mNil)))) (mAndV (mOp oEq (mXvM mt_told (mVar 0)) (mOp oCatS (mC (.str "refused ")) (mVar 1))) (mAndV (mUn (oXvI (tabB xis_KeysError)) (mVar 0)) (mUn (oXvI (tabB xis_ValueError)) (mVar 0))))))))))))))
def FRight : Fn := runFn 2 7 (mRight)
set_option maxHeartbeats 4000000 in
theorem qRight : Qs (mRight) := by
  unfold mRight
  repeat (first | array_get_dec | with_reducible exact qt_told | intro _ _)
theorem qFRight : Qf (FRight) := q_run (qRight)
set_option maxHeartbeats 4000000 in
theorem okRight {P : Program} {w : World} {K : PySem.W.Frag} {mg : Str → Option Value} {base : Heap} {f : Addr} {fd : FuncData} {k : Nat} (W : Wd K mg) (F : FnP K "_law_right" "_law_right" sRight f fd) (hx2 : 2 ≤ k) (xvm_told : XvMOk P w mg base (TT K) 1 "told" mt_told) : FnOk P w K mg base (L2N.CX P w) (k + 1) f fd ["_law_e", "_law_word_here"] (spFn (TT K) (FRight)) := by
  refine F.ok (CX := L2N.CX P w) scRight spFn_len (fun cdv A outer st H vs Q E hr h => ⟨FS ⟨TT K, none, fun cls d _ H => E cls d H⟩ (mRight), ?_, fn_enter (N := ["_law_e", "_law_word_here", "_law_kinds", "_law_words", "_law_found", "_law_one", "_law_is_so"]) h (Or.inr (qRight))⟩)
  unfold mRight
  exact fss_cons (pss_cons (fs_set (ps_set (i := 2) scRight.nd rfl (Or.inl rfl) (fe_lstC (pe_lst (fa_cons (pa_cons (fe_xvi (xisB_ok W.xis_NoName) rfl (.own _) (fun R hR => pe_callB hR (by rfl) W.b_isinstance (by decide +kernel) (pa_cons (fe_var (pv 0)) (pa_cons (NK.pe_gv (v := .ref ((TT K).ca 2)) rfl ⟨_, W.mg_NoName, rfl⟩) pa_nil)))) (fa_cons (pa_cons (fe_xvi (xisB_ok W.xis_Twice) rfl (.own _) (fun R hR => pe_callB hR (by rfl) W.b_isinstance (by decide +kernel) (pa_cons (fe_var (pv 0)) (pa_cons (NK.pe_gv (v := .ref ((TT K).ca 3)) rfl ⟨_, W.mg_Twice, rfl⟩) pa_nil)))) (fa_cons (pa_cons (fe_xvi (xisB_ok W.xis_NoPart) rfl (.own _) (fun R hR => pe_callB hR (by rfl) W.b_isinstance (by decide +kernel) (pa_cons (fe_var (pv 0)) (pa_cons (NK.pe_gv (v := .ref ((TT K).ca 4)) rfl ⟨_, W.mg_NoPart, rfl⟩) pa_nil)))) (fa_cons (pa_cons (fe_xvi (xisB_ok W.xis_NoSort) rfl (.own _) (fun R hR => pe_callB hR (by rfl) W.b_isinstance (by decide +kernel) (pa_cons (fe_var (pv 0)) (pa_cons (NK.pe_gv (v := .ref ((TT K).ca 5)) rfl ⟨_, W.mg_NoSort, rfl⟩) pa_nil)))) ((fa_nil pa_nil))))))))))))) rfl)
    (fss_cons (pss_cons (fs_set (ps_set (i := 2) scRight.nd rfl (Or.inl rfl) (fe_catC (pe_op NK.op_catL (fe_var (pv 2)) (fe_lst (pe_lst (fa_cons (pa_cons (fe_xvi (xisB_ok W.xis_NoKey) rfl (.own _) (fun R hR => pe_callB hR (by rfl) W.b_isinstance (by decide +kernel) (pa_cons (fe_var (pv 0)) (pa_cons (NK.pe_gv (v := .ref ((TT K).ca 12)) rfl ⟨_, W.mg_NoKey, rfl⟩) pa_nil)))) (fa_cons (pa_cons (fe_xvi (xisB_ok W.xis_NoMark) rfl (.own _) (fun R hR => pe_callB hR (by rfl) W.b_isinstance (by decide +kernel) (pa_cons (fe_var (pv 0)) (pa_cons (NK.pe_gv (v := .ref ((TT K).ca 15)) rfl ⟨_, W.mg_NoMark, rfl⟩) pa_nil)))) (fa_cons (pa_cons (fe_xvi (xisB_ok W.xis_NoBar) rfl (.own _) (fun R hR => pe_callB hR (by rfl) W.b_isinstance (by decide +kernel) (pa_cons (fe_var (pv 0)) (pa_cons (NK.pe_gv (v := .ref ((TT K).ca 20)) rfl ⟨_, W.mg_NoBar, rfl⟩) pa_nil)))) (fa_cons (pa_cons (fe_xvi (xisB_ok W.xis_NoRoom) rfl (.own _) (fun R hR => pe_callB hR (by rfl) W.b_isinstance (by decide +kernel) (pa_cons (fe_var (pv 0)) (pa_cons (NK.pe_gv (v := .ref ((TT K).ca 7)) rfl ⟨_, W.mg_NoRoom, rfl⟩) pa_nil)))) ((fa_nil pa_nil))))))))))))))) rfl)
    (fss_cons (pss_cons (fs_set (ps_set (i := 2) scRight.nd rfl (Or.inl rfl) (fe_catC (pe_op NK.op_catL (fe_var (pv 2)) (fe_lst (pe_lst (fa_cons (pa_cons (fe_xvi (xisB_ok W.xis_NoHand) rfl (.own _) (fun R hR => pe_callB hR (by rfl) W.b_isinstance (by decide +kernel) (pa_cons (fe_var (pv 0)) (pa_cons (NK.pe_gv (v := .ref ((TT K).ca 8)) rfl ⟨_, W.mg_NoHand, rfl⟩) pa_nil)))) (fa_cons (pa_cons (fe_xvi (xisB_ok W.xis_Ended) rfl (.own _) (fun R hR => pe_callB hR (by rfl) W.b_isinstance (by decide +kernel) (pa_cons (fe_var (pv 0)) (pa_cons (NK.pe_gv (v := .ref ((TT K).ca 9)) rfl ⟨_, W.mg_Ended, rfl⟩) pa_nil)))) (fa_cons (pa_cons (fe_xvi (xisB_ok W.xis_NoStep) rfl (.own _) (fun R hR => pe_callB hR (by rfl) W.b_isinstance (by decide +kernel) (pa_cons (fe_var (pv 0)) (pa_cons (NK.pe_gv (v := .ref ((TT K).ca 10)) rfl ⟨_, W.mg_NoStep, rfl⟩) pa_nil)))) (fa_cons (pa_cons (fe_xvi (xisB_ok W.xis_Wide) rfl (.own _) (fun R hR => pe_callB hR (by rfl) W.b_isinstance (by decide +kernel) (pa_cons (fe_var (pv 0)) (pa_cons (NK.pe_gv (v := .ref ((TT K).ca 13)) rfl ⟨_, W.mg_Wide, rfl⟩) pa_nil)))) ((fa_nil pa_nil))))))))))))))) rfl)
    (fss_cons (pss_cons (fs_set (ps_set (i := 2) scRight.nd rfl (Or.inl rfl) (fe_catC (pe_op NK.op_catL (fe_var (pv 2)) (fe_lst (pe_lst (fa_cons (pa_cons (fe_xvi (xisB_ok W.xis_Met) rfl (.own _) (fun R hR => pe_callB hR (by rfl) W.b_isinstance (by decide +kernel) (pa_cons (fe_var (pv 0)) (pa_cons (NK.pe_gv (v := .ref ((TT K).ca 18)) rfl ⟨_, W.mg_Met, rfl⟩) pa_nil)))) (fa_cons (pa_cons (fe_xvi (xisB_ok W.xis_BadCount) rfl (.own _) (fun R hR => pe_callB hR (by rfl) W.b_isinstance (by decide +kernel) (pa_cons (fe_var (pv 0)) (pa_cons (NK.pe_gv (v := .ref ((TT K).ca 1)) rfl ⟨_, W.mg_BadCount, rfl⟩) pa_nil)))) (fa_cons (pa_cons (fe_xvi (xisB_ok W.xis_BadRow) rfl (.own _) (fun R hR => pe_callB hR (by rfl) W.b_isinstance (by decide +kernel) (pa_cons (fe_var (pv 0)) (pa_cons (NK.pe_gv (v := .ref ((TT K).ca 6)) rfl ⟨_, W.mg_BadRow, rfl⟩) pa_nil)))) (fa_cons (pa_cons (fe_xvi (xisB_ok W.xis_Taken) rfl (.own _) (fun R hR => pe_callB hR (by rfl) W.b_isinstance (by decide +kernel) (pa_cons (fe_var (pv 0)) (pa_cons (NK.pe_gv (v := .ref ((TT K).ca 11)) rfl ⟨_, W.mg_Taken, rfl⟩) pa_nil)))) ((fa_nil pa_nil))))))))))))))) rfl)
    (fss_cons (pss_cons (fs_set (ps_set (i := 2) scRight.nd rfl (Or.inl rfl) (fe_catC (pe_op NK.op_catL (fe_var (pv 2)) (fe_lst (pe_lst (fa_cons (pa_cons (fe_xvi (xisB_ok W.xis_Clash) rfl (.own _) (fun R hR => pe_callB hR (by rfl) W.b_isinstance (by decide +kernel) (pa_cons (fe_var (pv 0)) (pa_cons (NK.pe_gv (v := .ref ((TT K).ca 14)) rfl ⟨_, W.mg_Clash, rfl⟩) pa_nil)))) (fa_cons (pa_cons (fe_xvi (xisB_ok W.xis_Tangled) rfl (.own _) (fun R hR => pe_callB hR (by rfl) W.b_isinstance (by decide +kernel) (pa_cons (fe_var (pv 0)) (pa_cons (NK.pe_gv (v := .ref ((TT K).ca 17)) rfl ⟨_, W.mg_Tangled, rfl⟩) pa_nil)))) (fa_cons (pa_cons (fe_xvi (xisB_ok W.xis_Broken) rfl (.own _) (fun R hR => pe_callB hR (by rfl) W.b_isinstance (by decide +kernel) (pa_cons (fe_var (pv 0)) (pa_cons (NK.pe_gv (v := .ref ((TT K).ca 19)) rfl ⟨_, W.mg_Broken, rfl⟩) pa_nil)))) (fa_cons (pa_cons (fe_xvi (xisB_ok W.xis_Never) rfl (.own _) (fun R hR => pe_callB hR (by rfl) W.b_isinstance (by decide +kernel) (pa_cons (fe_var (pv 0)) (pa_cons (NK.pe_gv (v := .ref ((TT K).ca 16)) rfl ⟨_, W.mg_Never, rfl⟩) pa_nil)))) ((fa_nil pa_nil))))))))))))))) rfl)
    (fss_cons (pss_cons (fs_drop (ps_expr (fe_m (pe_bm PySem.F.plainAttrs_list PySem.F.slot_list_append PySem.F.type_list_append mt_append (fe_var (pv 2)) (fa_cons (pa_cons (fe_xvi (xisB_ok W.xis_NoBack) rfl (.own _) (fun R hR => pe_callB hR (by rfl) W.b_isinstance (by decide +kernel) (pa_cons (fe_var (pv 0)) (pa_cons (NK.pe_gv (v := .ref ((TT K).ca 21)) rfl ⟨_, W.mg_NoBack, rfl⟩) pa_nil)))) ((fa_nil pa_nil))))) sim_append)))
    (fss_cons (pss_cons (fs_set (ps_set (i := 3) scRight.nd rfl (Or.inl rfl) (fe_lst (pe_lst (fa_cons (pa_cons (fe_str pe_str) (fa_cons (pa_cons (fe_str pe_str) (fa_cons (pa_cons (fe_str pe_str) (fa_cons (pa_cons (fe_str pe_str) (fa_cons (pa_cons (fe_str pe_str) (fa_cons (pa_cons (fe_str pe_str) (fa_cons (pa_cons (fe_str pe_str) (fa_cons (pa_cons (fe_str pe_str) (fa_cons (pa_cons (fe_str pe_str) (fa_cons (pa_cons (fe_str pe_str) (fa_cons (pa_cons (fe_str pe_str) ((fa_nil pa_nil))))))))))))))))))))))))))) rfl)
    (fss_cons (pss_cons (fs_set (ps_set (i := 3) scRight.nd rfl (Or.inl rfl) (fe_op (pe_op NK.op_catL (fe_var (pv 3)) (fe_lst (pe_lst (fa_cons (pa_cons (fe_str pe_str) (fa_cons (pa_cons (fe_str pe_str) (fa_cons (pa_cons (fe_str pe_str) (fa_cons (pa_cons (fe_str pe_str) (fa_cons (pa_cons (fe_str pe_str) (fa_cons (pa_cons (fe_str pe_str) (fa_cons (pa_cons (fe_str pe_str) (fa_cons (pa_cons (fe_str pe_str) (fa_cons (pa_cons (fe_str pe_str) (fa_cons (pa_cons (fe_str pe_str) ((fa_nil pa_nil))))))))))))))))))))))))) sim_catL)) rfl)
    (fss_cons (pss_cons (fs_setLc (ps_setLc (i := 4) (own := [("_law_one", 5), ("_law_is_so", 6)]) rfl scRight.nd rfl rfl (sw_true rfl rfl rfl (by decide +kernel)) (fi_zip (RZ.pi_zipA (by rfl) W.b_zip (fa_cons (pa_cons (fe_var (pv 3)) (fa_cons (pa_cons (fe_frz (fe_var (pv 2))) ((fa_nil pa_nil)))))))) (blkOk_by (own := [("_law_one", 5), ("_law_is_so", 6)]) (N := ["_law_e", "_law_word_here", "_law_kinds", "_law_words", "_law_found", "_law_one", "_law_is_so"]) (sc := defScope sRight) (by decide +kernel)) (fun _ _ _ _ _ => pg_tup rfl (pgs_cons (pg_name (i := 5) scRight.nd rfl (Or.inl rfl)) (pgs_cons (pg_name (i := 6) scRight.nd rfl (Or.inl rfl)) (pgs_nil)))) (fun _ _ _ _ _ => (pts_one (ft_B (pt_val (fe_var (pv 6)))))) (fun _ _ _ _ _ => fe_var (pv 5))) (sg_tup (sgs_cons (sg_name rfl) (sgs_cons (sg_name rfl) sgs_nil))) (fills_tup (fills_cons fills_name (fills_cons fills_name fills_nil))) (by decide) rfl)
    (pss_one (fs_ret (ps_ret (fe_andV (pe_and (fe_op (pe_cmpR (op_Pl (neg := false) hr.units rfl) (fe_var (pv 4)) (fe_lst (pe_lst (fa_cons (pa_cons (fe_var (pv 1)) ((fa_nil pa_nil)))))) (nomark _)) sim_Pl) (fe_andV (pe_and (fe_op (pe_cmpR op_eq (fe_xvM (NK.pe_xvM (fe_var (pv 0)) (hr.mono (Nat.le_trans (by decide) hx2))) xvm_told) (fe_op (pe_op NK.op_catStr (fe_str pe_str) (fe_var (pv 1))) sim_catS) (nomark _)) sim_eq) (fe_andV (pe_and (fe_xvi (xisB_ok W.xis_KeysError) rfl (.own _) (fun R hR => pe_callB hR (by rfl) W.b_isinstance (by decide +kernel) (pa_cons (fe_var (pv 0)) (pa_cons (NK.pe_gv (v := .ref ((TT K).ca 0)) rfl ⟨_, W.mg_KeysError, rfl⟩) pa_nil)))) (pe_one (fe_xvi (xisB_ok W.xis_ValueError) rfl (.ty _) (fun R hR => pe_callB hR (by rfl) W.b_isinstance (by decide +kernel) (pa_cons (fe_var (pv 0)) (pa_cons (pe_bltn (v := .ty "ValueError") (by rfl) W.b_ValueError (by decide +kernel) rfl) pa_nil)))))))))))))))))))))))))))))))
/-! ### law -/
theorem scLaw : FnScope ["_law_script", "_law_words", "_law_at", "_law_s", "_law_called", "_law_a", "_law_n", "_law_e"] ["_law_script"] (defScope sLaw) := ⟨rfl, rfl, rfl, by decide +kernel, rfl, by decide +kernel, by decide +kernel⟩
def mLaw : MS :=
  mSeq (mAsg (mLst (mCons (mC (.str "noname")) (mCons (mC (.str "twice")) (mCons (mC (.str "nopart")) (mCons (mC (.str "nosort")) (mCons (mC (.str "nokey")) (mCons (mC (.str "nomark")) (mCons (mC (.str "nobar")) (mCons (mC (.str "noroom")) (mCons (mC (.str "nohand")) (mCons (mC (.str "ended")) (mCons (mC (.str "nostep")) (mNil))))))))))))) (gNm 1))
  (mSeq (mAsg (mOp oCatL (mVar 1) (mLst (mCons (mC (.str "wide")) (mCons (mC (.str "met")) (mCons (mC (.str "badcount")) (mCons (mC (.str "badrow")) (mCons (mC (.str "taken")) (mCons (mC (.str "clash")) (mCons (mC (.str "tangled")) (mCons (mC (.str "broken")) (mNil))))))))))) (gNm 1))
  (mSeq (mFor (mItA (mCons (mC (.int 19)) (mNil)) isRng1) (gNm 2)
  (mSeq (mAsg (mCall FState (mCons (mOp oAdd (mCall FCellAt (mCons (mVar 0) (mCons (mVar 2) (mNil)))) (mOp oMul (mC (.int 13)) (mVar 2))) (mNil))) (gNm 3))
  (mSeq (mAsg (mOp oEq (mCall FDigit (mCons (mVar 3) (mCons (mC (.int 2)) (mNil)))) (mC (.int 1))) (gNm 4))
  (mSeq (mAsg (mCall FWord (mCons (mVar 3) (mNil))) (gNm 5))
  (mSeq (mAsg (mOp oSub (mCall FDigit (mCons (mVar 3) (mCons (mC (.int 500)) (mNil)))) (mC (.int 100))) (gNm 6))
  (mSeq (mAsg (mCall FMade (mCons (mVar 2) (mCons (mVar 5) (mCons (mVar 6) (mCons (mVar 4) (mNil)))))) (gNm 7))
  (mIfS (mOr (mNot (mTest (mCall FRight (mCons (mVar 7) (mCons (mOp oIxL (mVar 1) (mVar 2)) (mNil)))))) (mTest (mOp (oPl true) (mCall FFields (mCons (mVar 2) (mCons (mVar 7) (mNil)))) (mCall FDue (mCons (mVar 2) (mCons (mVar 5) (mCons (mVar 6) (mNil))))))))
  (mRet (mC (.bl false))) (mNext))))))))
  (mRet (mAndV (mCall FRight (mCons (mExc0 16) (mCons (mC (.str "never")) (mNil)))) (mCall FRight (mCons (mExc0 21) (mCons (mC (.str "noback")) (mNil))))))))
def FLaw : Fn := runFn 1 8 (mLaw)
set_option maxHeartbeats 4000000 in
theorem qLaw : Qs (mLaw) := by
  unfold mLaw
  repeat (first | array_get_dec | with_reducible apply qFCellAt | with_reducible apply qFState | with_reducible apply qFDigit | with_reducible apply qFWord | with_reducible apply qFMade | with_reducible apply qFFields | with_reducible apply qFDue | with_reducible apply qFRight | intro _ _)
set_option maxHeartbeats 4000000 in
theorem okLaw {P : Program} {w : World} {K : PySem.W.Frag} {mg : Str → Option Value} {base : Heap} {f : Addr} {fd : FuncData} {k : Nat} (W : Wd K mg) (F : FnP K "law" "law" sLaw f fd) {l_State : Nat} (h_State : NK.CalX P w K mg base l_State "_law_state" ["_law_cell"] (spFn (TT K) FState)) (hl_State : l_State ≤ k) {l_CellAt : Nat} (h_CellAt : NK.CalX P w K mg base l_CellAt "_law_cell_at" ["_law_script", "_law_k"] (spFn (TT K) FCellAt)) (hl_CellAt : l_CellAt ≤ k) {l_Digit : Nat} (h_Digit : NK.CalX P w K mg base l_Digit "_law_digit" ["_law_state_here", "_law_base"] (spFn (TT K) FDigit)) (hl_Digit : l_Digit ≤ k) {l_Word : Nat} (h_Word : NK.CalX P w K mg base l_Word "_law_word" ["_law_s"] (spFn (TT K) FWord)) (hl_Word : l_Word ≤ k) {l_Made : Nat} (h_Made : NK.CalX P w K mg base l_Made "_law_made" ["_law_k", "_law_a", "_law_n", "_law_called"] (spFn (TT K) FMade)) (hl_Made : l_Made ≤ k) {l_Right : Nat} (h_Right : NK.CalX P w K mg base l_Right "_law_right" ["_law_e", "_law_word_here"] (spFn (TT K) FRight)) (hl_Right : l_Right ≤ k) {l_Fields : Nat} (h_Fields : NK.CalX P w K mg base l_Fields "_law_fields" ["_law_k", "_law_e"] (spFn (TT K) FFields)) (hl_Fields : l_Fields ≤ k) {l_Due : Nat} (h_Due : NK.CalX P w K mg base l_Due "_law_due" ["_law_k", "_law_a", "_law_n"] (spFn (TT K) FDue)) (hl_Due : l_Due ≤ k) (x0_Never : Ex0 K mg "Never" ((TT K).ca 16)) (x0_NoBack : Ex0 K mg "NoBack" ((TT K).ca 21)) : FnOk P w K mg base (L2N.CX P w) (k + 1) f fd ["_law_script"] (spFn (TT K) (FLaw)) := by
  refine F.ok (CX := L2N.CX P w) scLaw spFn_len (fun cdv A outer st H vs Q E hr h => ⟨FS ⟨TT K, none, fun cls d _ H => E cls d H⟩ (mLaw), ?_, fn_enter (N := ["_law_script", "_law_words", "_law_at", "_law_s", "_law_called", "_law_a", "_law_n", "_law_e"]) h (Or.inr (qLaw))⟩)
  unfold mLaw
  exact fss_cons (pss_cons (fs_set (ps_set (i := 1) scLaw.nd rfl (Or.inl rfl) (fe_lst (pe_lst (fa_cons (pa_cons (fe_str pe_str) (fa_cons (pa_cons (fe_str pe_str) (fa_cons (pa_cons (fe_str pe_str) (fa_cons (pa_cons (fe_str pe_str) (fa_cons (pa_cons (fe_str pe_str) (fa_cons (pa_cons (fe_str pe_str) (fa_cons (pa_cons (fe_str pe_str) (fa_cons (pa_cons (fe_str pe_str) (fa_cons (pa_cons (fe_str pe_str) (fa_cons (pa_cons (fe_str pe_str) (fa_cons (pa_cons (fe_str pe_str) ((fa_nil pa_nil))))))))))))))))))))))))))) rfl)
    (fss_cons (pss_cons (fs_set (ps_set (i := 1) scLaw.nd rfl (Or.inl rfl) (fe_op (pe_op NK.op_catL (fe_var (pv 1)) (fe_lst (pe_lst (fa_cons (pa_cons (fe_str pe_str) (fa_cons (pa_cons (fe_str pe_str) (fa_cons (pa_cons (fe_str pe_str) (fa_cons (pa_cons (fe_str pe_str) (fa_cons (pa_cons (fe_str pe_str) (fa_cons (pa_cons (fe_str pe_str) (fa_cons (pa_cons (fe_str pe_str) (fa_cons (pa_cons (fe_str pe_str) ((fa_nil pa_nil))))))))))))))))))))) sim_catL)) rfl)
    (fss_cons (pss_cons (fs_for (ps_for (passes_of rfl) rfl (fi_rng1 (pi_range1 (by rfl) W.b_range (fa_cons (pa_cons (fe_int pe_int) ((fa_nil pa_nil)))))) (fg_name (pg_name (i := 2) scLaw.nd rfl (Or.inl rfl)) rfl)
    (fss_cons (pss_cons (fs_set (ps_set (i := 3) scLaw.nd rfl (Or.inl rfl) (fe_call (NK.pe_fnS h_State (hr.mono hl_State) (by rfl) (L2N.takes_of rfl rfl rfl rfl) (fa_cons (pa_cons (fe_op (pe_op op_add (fe_call (NK.pe_fnS h_CellAt (hr.mono hl_CellAt) (by rfl) (L2N.takes_of rfl rfl rfl rfl) (fa_cons (pa_cons (fe_var (pv 0)) (fa_cons (pa_cons (fe_var (pv 2)) ((fa_nil pa_nil)))))))) (fe_op (pe_op op_mul (fe_int pe_int) (fe_var (pv 2))) sim_mul)) sim_ii) ((fa_nil pa_nil))))))) rfl)
    (fss_cons (pss_cons (fs_set (ps_set (i := 4) scLaw.nd rfl (Or.inl rfl) (fe_op (pe_cmpR op_eq (fe_call (NK.pe_fnS h_Digit (hr.mono hl_Digit) (by rfl) (L2N.takes_of rfl rfl rfl rfl) (fa_cons (pa_cons (fe_var (pv 3)) (fa_cons (pa_cons (fe_int pe_int) ((fa_nil pa_nil)))))))) (fe_int pe_int) (nomark _)) sim_eq)) rfl)
    (fss_cons (pss_cons (fs_set (ps_set (i := 5) scLaw.nd rfl (Or.inl rfl) (fe_call (NK.pe_fnS h_Word (hr.mono hl_Word) (by rfl) (L2N.takes_of rfl rfl rfl rfl) (fa_cons (pa_cons (fe_var (pv 3)) ((fa_nil pa_nil))))))) rfl)
    (fss_cons (pss_cons (fs_set (ps_set (i := 6) scLaw.nd rfl (Or.inl rfl) (fe_op (pe_op op_sub (fe_call (NK.pe_fnS h_Digit (hr.mono hl_Digit) (by rfl) (L2N.takes_of rfl rfl rfl rfl) (fa_cons (pa_cons (fe_var (pv 3)) (fa_cons (pa_cons (fe_int pe_int) ((fa_nil pa_nil)))))))) (fe_int pe_int)) sim_ii)) rfl)
    (fss_cons (pss_cons (fs_set (ps_set (i := 7) scLaw.nd rfl (Or.inl rfl) (fe_call (NK.pe_fnS h_Made (hr.mono hl_Made) (by rfl) (L2N.takes_of rfl rfl rfl rfl) (fa_cons (pa_cons (fe_var (pv 2)) (fa_cons (pa_cons (fe_var (pv 5)) (fa_cons (pa_cons (fe_var (pv 6)) (fa_cons (pa_cons (fe_var (pv 4)) ((fa_nil pa_nil))))))))))))) rfl)
    (pss_one (fs_if (ps_if (PW.pt (fw_or (pw_or (ft_not (pt_not (ft_B (pt_val (fe_call (NK.pe_fnS h_Right (hr.mono hl_Right) (by rfl) (L2N.takes_of rfl rfl rfl rfl) (fa_cons (pa_cons (fe_var (pv 7)) (fa_cons (pa_cons (fe_op (pe_ix ix_list (fe_var (pv 1)) (fe_var (pv 2)) (fun _ _ => rfl)) sim_ixL) ((fa_nil pa_nil)))))))))))) (pw_or1 (ft_cmp (pt_cmpR (op_Pl (neg := true) hr.units rfl) (fe_call (NK.pe_fnS h_Fields (hr.mono hl_Fields) (by rfl) (L2N.takes_of rfl rfl rfl rfl) (fa_cons (pa_cons (fe_var (pv 2)) (fa_cons (pa_cons (fe_var (pv 7)) ((fa_nil pa_nil)))))))) (fe_call (NK.pe_fnS h_Due (hr.mono hl_Due) (by rfl) (L2N.takes_of rfl rfl rfl rfl) (fa_cons (pa_cons (fe_var (pv 2)) (fa_cons (pa_cons (fe_var (pv 5)) (fa_cons (pa_cons (fe_var (pv 6)) ((fa_nil pa_nil)))))))))) (nomark _)) sim_Pl)))))
    (pss_one (fs_ret (ps_ret (fe_bl pe_bl)))) ((fss_nil pss_nil)))))))))))))))))
    (pss_one (fs_ret (ps_ret (fe_andV (pe_and (fe_call (NK.pe_fnS h_Right (hr.mono hl_Right) (by rfl) (L2N.takes_of rfl rfl rfl rfl) (fa_cons (pa_cons (fe_exc0 (pe_exv0' x0_Never (by rfl)) rfl) (fa_cons (pa_cons (fe_str pe_str) ((fa_nil pa_nil)))))))) (pe_one (fe_call (NK.pe_fnS h_Right (hr.mono hl_Right) (by rfl) (L2N.takes_of rfl rfl rfl rfl) (fa_cons (pa_cons (fe_exc0 (pe_exv0' x0_NoBack (by rfl)) rfl) (fa_cons (pa_cons (fe_str pe_str) ((fa_nil pa_nil)))))))))))))))))))
end
end K01
namespace K01
open PySem PySem.Spec PyProof.Rows L2 FM
theorem wd_of {K : PySem.W.Frag} {h : Heap} {mg : Str → Option Value} (X : K.In h) (G : h.Ns mainGlobals mg) (c : SaysF fbl fnl K) : Wd K mg where
  b_len := He.free_ok X G (c.fact 0)
  b_abs := He.free_ok X G (c.fact 1)
  b_int := He.free_ok X G (c.fact 2)
  b_range := He.free_ok X G (c.fact 3)
  b_isinstance := He.free_ok X G (c.fact 4)
  b_zip := He.free_ok X G (c.fact 5)
  b_ValueError := He.free_ok X G (c.fact 6)
  mg_KeysError := He.glo_ok X G (c.fact 7)
  mg_BadCount := He.glo_ok X G (c.fact 8)
  mg_NoName := He.glo_ok X G (c.fact 9)
  mg_Twice := He.glo_ok X G (c.fact 10)
  mg_NoPart := He.glo_ok X G (c.fact 11)
  mg_NoSort := He.glo_ok X G (c.fact 12)
  mg_BadRow := He.glo_ok X G (c.fact 13)
  mg_NoRoom := He.glo_ok X G (c.fact 14)
  mg_NoHand := He.glo_ok X G (c.fact 15)
  mg_Ended := He.glo_ok X G (c.fact 16)
  mg_NoStep := He.glo_ok X G (c.fact 17)
  mg_Taken := He.glo_ok X G (c.fact 18)
  mg_NoKey := He.glo_ok X G (c.fact 19)
  mg_Wide := He.glo_ok X G (c.fact 20)
  mg_Clash := He.glo_ok X G (c.fact 21)
  mg_NoMark := He.glo_ok X G (c.fact 22)
  mg_Never := He.glo_ok X G (c.fact 23)
  mg_Tangled := He.glo_ok X G (c.fact 24)
  mg_Met := He.glo_ok X G (c.fact 25)
  mg_Broken := He.glo_ok X G (c.fact 26)
  mg_NoBar := He.glo_ok X G (c.fact 27)
  mg_NoBack := He.glo_ok X G (c.fact 28)
  xfld_name := (c.fact 29)
  xfld_room := (c.fact 30)
  xfld_hand := (c.fact 31)
  xfld_step := (c.fact 32)
  xfld_count := (c.fact 33)
  xfld_place := (c.fact 34)
  xfld_what := (c.fact 35)
  xfld_row := (c.fact 36)
  xfld_key := (c.fact 37)
  xfld_holder := (c.fact 38)
  xfld_why := (c.fact 39)
  xfld_ring := (c.fact 40)
  xfld_hands := (c.fact 41)
  xfld_deeds := (c.fact 42)
  xis_NoName := (c.fact 43)
  xis_Twice := (c.fact 44)
  xis_NoPart := (c.fact 45)
  xis_NoSort := (c.fact 46)
  xis_NoKey := (c.fact 47)
  xis_NoMark := (c.fact 48)
  xis_NoBar := (c.fact 49)
  xis_NoRoom := (c.fact 50)
  xis_NoHand := (c.fact 51)
  xis_Ended := (c.fact 52)
  xis_NoStep := (c.fact 53)
  xis_Wide := (c.fact 54)
  xis_Met := (c.fact 55)
  xis_BadCount := (c.fact 56)
  xis_BadRow := (c.fact 57)
  xis_Taken := (c.fact 58)
  xis_Clash := (c.fact 59)
  xis_Tangled := (c.fact 60)
  xis_Broken := (c.fact 61)
  xis_Never := (c.fact 62)
  xis_NoBack := (c.fact 63)
  xis_KeysError := (c.fact 64)
  xis_ValueError := (c.fact 65)
set_option maxHeartbeats 4000000 in
theorem facts {P : Program} {w : World} {K : PySem.W.Frag} {h : Heap} {mg : Str → Option Value} {f : Addr} (X : K.In h) (G : h.Ns mainGlobals mg) (hfa : mg ("law" : Str) = some (.ref f)) (c : SaysF fbl fnl K) :
    ∃ fd : FuncData, (∀ (s : Shared) (v : Value), BindsTo s fd ⟨[v], []⟩ [("_law_script", v)]) ∧ ∀ base : Heap, K.In base → base.Ns mainGlobals mg → FnOk P w K mg base (L2N.CX P w) 5 f fd ["_law_script"] (spFn (TT K) FLaw) := by
  have W := wd_of X G c
  have e := hfa.symm.trans (He.glo_ok X G (c.fact 118 (f := fun K => (He.Fa.glo "law").ok K)))
  cases e
  obtain ⟨fd_IBadCount, D_IBadCount⟩ := c.def_ 0 (d := dIBadCount) rfl
  have B_IBadCount := D_IBadCount.bindsN (ps := ["self", "what", "count"]) fun _ _ _ _ _ _ us hl => match us, hl with | [_, _, _], _ => rfl
  obtain ⟨fd_INoName, D_INoName⟩ := c.def_ 1 (d := dINoName) rfl
  have B_INoName := D_INoName.bindsN (ps := ["self", "name"]) fun _ _ _ _ _ _ us hl => match us, hl with | [_, _], _ => rfl
  obtain ⟨fd_ITwice, D_ITwice⟩ := c.def_ 2 (d := dITwice) rfl
  have B_ITwice := D_ITwice.bindsN (ps := ["self", "name"]) fun _ _ _ _ _ _ us hl => match us, hl with | [_, _], _ => rfl
  obtain ⟨fd_INoPart, D_INoPart⟩ := c.def_ 3 (d := dINoPart) rfl
  have B_INoPart := D_INoPart.bindsN (ps := ["self", "name"]) fun _ _ _ _ _ _ us hl => match us, hl with | [_, _], _ => rfl
  obtain ⟨fd_INoSort, D_INoSort⟩ := c.def_ 4 (d := dINoSort) rfl
  have B_INoSort := D_INoSort.bindsN (ps := ["self", "name"]) fun _ _ _ _ _ _ us hl => match us, hl with | [_, _], _ => rfl
  obtain ⟨fd_IBadRow, D_IBadRow⟩ := c.def_ 5 (d := dIBadRow) rfl
  have B_IBadRow := D_IBadRow.bindsN (ps := ["self", "row", "place"]) fun _ _ _ _ _ _ us hl => match us, hl with | [_, _, _], _ => rfl
  obtain ⟨fd_INoRoom, D_INoRoom⟩ := c.def_ 6 (d := dINoRoom) rfl
  have B_INoRoom := D_INoRoom.bindsN (ps := ["self", "room"]) fun _ _ _ _ _ _ us hl => match us, hl with | [_, _], _ => rfl
  obtain ⟨fd_INoHand, D_INoHand⟩ := c.def_ 7 (d := dINoHand) rfl
  have B_INoHand := D_INoHand.bindsN (ps := ["self", "hand"]) fun _ _ _ _ _ _ us hl => match us, hl with | [_, _], _ => rfl
  obtain ⟨fd_IEnded, D_IEnded⟩ := c.def_ 8 (d := dIEnded) rfl
  have B_IEnded := D_IEnded.bindsN (ps := ["self", "hand"]) fun _ _ _ _ _ _ us hl => match us, hl with | [_, _], _ => rfl
  obtain ⟨fd_INoStep, D_INoStep⟩ := c.def_ 9 (d := dINoStep) rfl
  have B_INoStep := D_INoStep.bindsN (ps := ["self", "step"]) fun _ _ _ _ _ _ us hl => match us, hl with | [_, _], _ => rfl
  obtain ⟨fd_ITaken, D_ITaken⟩ := c.def_ 10 (d := dITaken) rfl
  have B_ITaken := D_ITaken.bindsN (ps := ["self", "key", "holder"]) fun _ _ _ _ _ _ us hl => match us, hl with | [_, _, _], _ => rfl
  obtain ⟨fd_INoKey, D_INoKey⟩ := c.def_ 11 (d := dINoKey) rfl
  have B_INoKey := D_INoKey.bindsN (ps := ["self", "name"]) fun _ _ _ _ _ _ us hl => match us, hl with | [_, _], _ => rfl
  obtain ⟨fd_IWide, D_IWide⟩ := c.def_ 12 (d := dIWide) rfl
  have B_IWide := D_IWide.bindsN (ps := ["self", "count"]) fun _ _ _ _ _ _ us hl => match us, hl with | [_, _], _ => rfl
  obtain ⟨fd_IClash, D_IClash⟩ := c.def_ 13 (d := dIClash) rfl
  have B_IClash := D_IClash.bindsN (ps := ["self", "why"]) fun _ _ _ _ _ _ us hl => match us, hl with | [_, _], _ => rfl
  obtain ⟨fd_INoMark, D_INoMark⟩ := c.def_ 14 (d := dINoMark) rfl
  have B_INoMark := D_INoMark.bindsN (ps := ["self", "name"]) fun _ _ _ _ _ _ us hl => match us, hl with | [_, _], _ => rfl
  obtain ⟨fd_ITangled, D_ITangled⟩ := c.def_ 15 (d := dITangled) rfl
  have B_ITangled := D_ITangled.bindsN (ps := ["self", "ring"]) fun _ _ _ _ _ _ us hl => match us, hl with | [_, _], _ => rfl
  obtain ⟨fd_IMet, D_IMet⟩ := c.def_ 16 (d := dIMet) rfl
  have B_IMet := D_IMet.bindsN (ps := ["self", "place"]) fun _ _ _ _ _ _ us hl => match us, hl with | [_, _], _ => rfl
  obtain ⟨fd_IBroken, D_IBroken⟩ := c.def_ 17 (d := dIBroken) rfl
  have B_IBroken := D_IBroken.bindsN (ps := ["self", "name", "hands", "deeds"]) fun _ _ _ _ _ _ us hl => match us, hl with | [_, _, _, _], _ => rfl
  obtain ⟨fd_INoBar, D_INoBar⟩ := c.def_ 18 (d := dINoBar) rfl
  have B_INoBar := D_INoBar.bindsN (ps := ["self", "name"]) fun _ _ _ _ _ _ us hl => match us, hl with | [_, _], _ => rfl
  obtain ⟨fd_BadCountT, D_BadCountT⟩ := c.def_ 19 (d := dBadCountT) rfl
  have B_BadCountT := D_BadCountT.bindsN (ps := ["self"]) fun _ _ _ _ _ _ us hl => match us, hl with | [_], _ => rfl
  obtain ⟨fd_NoNameT, D_NoNameT⟩ := c.def_ 20 (d := dNoNameT) rfl
  have B_NoNameT := D_NoNameT.bindsN (ps := ["self"]) fun _ _ _ _ _ _ us hl => match us, hl with | [_], _ => rfl
  obtain ⟨fd_TwiceT, D_TwiceT⟩ := c.def_ 21 (d := dTwiceT) rfl
  have B_TwiceT := D_TwiceT.bindsN (ps := ["self"]) fun _ _ _ _ _ _ us hl => match us, hl with | [_], _ => rfl
  obtain ⟨fd_NoPartT, D_NoPartT⟩ := c.def_ 22 (d := dNoPartT) rfl
  have B_NoPartT := D_NoPartT.bindsN (ps := ["self"]) fun _ _ _ _ _ _ us hl => match us, hl with | [_], _ => rfl
  obtain ⟨fd_NoSortT, D_NoSortT⟩ := c.def_ 23 (d := dNoSortT) rfl
  have B_NoSortT := D_NoSortT.bindsN (ps := ["self"]) fun _ _ _ _ _ _ us hl => match us, hl with | [_], _ => rfl
  obtain ⟨fd_BadRowT, D_BadRowT⟩ := c.def_ 24 (d := dBadRowT) rfl
  have B_BadRowT := D_BadRowT.bindsN (ps := ["self"]) fun _ _ _ _ _ _ us hl => match us, hl with | [_], _ => rfl
  obtain ⟨fd_NoRoomT, D_NoRoomT⟩ := c.def_ 25 (d := dNoRoomT) rfl
  have B_NoRoomT := D_NoRoomT.bindsN (ps := ["self"]) fun _ _ _ _ _ _ us hl => match us, hl with | [_], _ => rfl
  obtain ⟨fd_NoHandT, D_NoHandT⟩ := c.def_ 26 (d := dNoHandT) rfl
  have B_NoHandT := D_NoHandT.bindsN (ps := ["self"]) fun _ _ _ _ _ _ us hl => match us, hl with | [_], _ => rfl
  obtain ⟨fd_EndedT, D_EndedT⟩ := c.def_ 27 (d := dEndedT) rfl
  have B_EndedT := D_EndedT.bindsN (ps := ["self"]) fun _ _ _ _ _ _ us hl => match us, hl with | [_], _ => rfl
  obtain ⟨fd_NoStepT, D_NoStepT⟩ := c.def_ 28 (d := dNoStepT) rfl
  have B_NoStepT := D_NoStepT.bindsN (ps := ["self"]) fun _ _ _ _ _ _ us hl => match us, hl with | [_], _ => rfl
  obtain ⟨fd_TakenT, D_TakenT⟩ := c.def_ 29 (d := dTakenT) rfl
  have B_TakenT := D_TakenT.bindsN (ps := ["self"]) fun _ _ _ _ _ _ us hl => match us, hl with | [_], _ => rfl
  obtain ⟨fd_NoKeyT, D_NoKeyT⟩ := c.def_ 30 (d := dNoKeyT) rfl
  have B_NoKeyT := D_NoKeyT.bindsN (ps := ["self"]) fun _ _ _ _ _ _ us hl => match us, hl with | [_], _ => rfl
  obtain ⟨fd_WideT, D_WideT⟩ := c.def_ 31 (d := dWideT) rfl
  have B_WideT := D_WideT.bindsN (ps := ["self"]) fun _ _ _ _ _ _ us hl => match us, hl with | [_], _ => rfl
  obtain ⟨fd_ClashT, D_ClashT⟩ := c.def_ 32 (d := dClashT) rfl
  have B_ClashT := D_ClashT.bindsN (ps := ["self"]) fun _ _ _ _ _ _ us hl => match us, hl with | [_], _ => rfl
  obtain ⟨fd_NoMarkT, D_NoMarkT⟩ := c.def_ 33 (d := dNoMarkT) rfl
  have B_NoMarkT := D_NoMarkT.bindsN (ps := ["self"]) fun _ _ _ _ _ _ us hl => match us, hl with | [_], _ => rfl
  obtain ⟨fd_NeverT, D_NeverT⟩ := c.def_ 34 (d := dNeverT) rfl
  have B_NeverT := D_NeverT.bindsN (ps := ["self"]) fun _ _ _ _ _ _ us hl => match us, hl with | [_], _ => rfl
  obtain ⟨fd_TangledT, D_TangledT⟩ := c.def_ 35 (d := dTangledT) rfl
  have B_TangledT := D_TangledT.bindsN (ps := ["self"]) fun _ _ _ _ _ _ us hl => match us, hl with | [_], _ => rfl
  obtain ⟨fd_MetT, D_MetT⟩ := c.def_ 36 (d := dMetT) rfl
  have B_MetT := D_MetT.bindsN (ps := ["self"]) fun _ _ _ _ _ _ us hl => match us, hl with | [_], _ => rfl
  obtain ⟨fd_BrokenT, D_BrokenT⟩ := c.def_ 37 (d := dBrokenT) rfl
  have B_BrokenT := D_BrokenT.bindsN (ps := ["self"]) fun _ _ _ _ _ _ us hl => match us, hl with | [_], _ => rfl
  obtain ⟨fd_NoBarT, D_NoBarT⟩ := c.def_ 38 (d := dNoBarT) rfl
  have B_NoBarT := D_NoBarT.bindsN (ps := ["self"]) fun _ _ _ _ _ _ us hl => match us, hl with | [_], _ => rfl
  obtain ⟨fd_NoBackT, D_NoBackT⟩ := c.def_ 39 (d := dNoBackT) rfl
  have B_NoBackT := D_NoBackT.bindsN (ps := ["self"]) fun _ _ _ _ _ _ us hl => match us, hl with | [_], _ => rfl
  obtain ⟨fd_CellAt, D_CellAt⟩ := c.def_ 40 (d := dCellAt) rfl
  have B_CellAt := D_CellAt.bindsN (ps := ["_law_script", "_law_k"]) fun _ _ _ _ _ _ us hl => match us, hl with | [_, _], _ => rfl
  obtain ⟨fd_State, D_State⟩ := c.def_ 41 (d := dState) rfl
  have B_State := D_State.bindsN (ps := ["_law_cell"]) fun _ _ _ _ _ _ us hl => match us, hl with | [_], _ => rfl
  obtain ⟨fd_Digit, D_Digit⟩ := c.def_ 42 (d := dDigit) rfl
  have B_Digit := D_Digit.bindsN (ps := ["_law_state_here", "_law_base"]) fun _ _ _ _ _ _ us hl => match us, hl with | [_, _], _ => rfl
  obtain ⟨fd_Word, D_Word⟩ := c.def_ 43 (d := dWord) rfl
  have B_Word := D_Word.bindsN (ps := ["_law_s"]) fun _ _ _ _ _ _ us hl => match us, hl with | [_], _ => rfl
  obtain ⟨fd_TextOne, D_TextOne⟩ := c.def_ 44 (d := dTextOne) rfl
  have B_TextOne := D_TextOne.bindsN (ps := ["_law_k", "_law_a", "_law_called"]) fun _ _ _ _ _ _ us hl => match us, hl with | [_, _, _], _ => rfl
  obtain ⟨fd_NumOne, D_NumOne⟩ := c.def_ 45 (d := dNumOne) rfl
  have B_NumOne := D_NumOne.bindsN (ps := ["_law_k", "_law_n", "_law_called"]) fun _ _ _ _ _ _ us hl => match us, hl with | [_, _, _], _ => rfl
  obtain ⟨fd_Made, D_Made⟩ := c.def_ 46 (d := dMade) rfl
  have B_Made := D_Made.bindsN (ps := ["_law_k", "_law_a", "_law_n", "_law_called"]) fun _ _ _ _ _ _ us hl => match us, hl with | [_, _, _, _], _ => rfl
  obtain ⟨fd_Fields, D_Fields⟩ := c.def_ 47 (d := dFields) rfl
  have B_Fields := D_Fields.bindsN (ps := ["_law_k", "_law_e"]) fun _ _ _ _ _ _ us hl => match us, hl with | [_, _], _ => rfl
  obtain ⟨fd_Due, D_Due⟩ := c.def_ 48 (d := dDue) rfl
  have B_Due := D_Due.bindsN (ps := ["_law_k", "_law_a", "_law_n"]) fun _ _ _ _ _ _ us hl => match us, hl with | [_, _, _], _ => rfl
  obtain ⟨fd_Right, D_Right⟩ := c.def_ 49 (d := dRight) rfl
  have B_Right := D_Right.bindsN (ps := ["_law_e", "_law_word_here"]) fun _ _ _ _ _ _ us hl => match us, hl with | [_, _], _ => rfl
  obtain ⟨fd_Law, D_Law⟩ := c.def_ 50 (d := dLaw) rfl
  have b := FunD.bindsA (ps := ["_law_script"]) D_Law fun _ _ _ _ _ _ us hl => match us, hl with | [_], _ => rfl
  refine ⟨fd_Law, fun s v => b s [v] rfl, fun base _ _ => ?_⟩
  have xv_BadCount : NK.ExV P w K mg base 1 "BadCount" ((TT K).ca 1) 2 [] ["what", "count"] [] := exV_ok (c.fact 66) W.mg_BadCount (okIBadCount D_IBadCount) (kbn_only B_IBadCount rfl)
  have xw_BadCount : NK.ExV P w K mg base 1 "BadCount" ((TT K).ca 1) 0 ["count", "what"] ["what", "count"] [1, 0] := exV_ok (c.fact 66) W.mg_BadCount (okIBadCount D_IBadCount) (kbn_shift (ps := ["self", "what", "count"]) (ks := ["count", "what"]) (pm := [1, 0]) (kbn_of D_IBadCount 1 ["count", "what"] [0, 2, 1] fun _ _ _ _ _ _ us ws h1 h2 => match us, ws, h1, h2 with | [_], [_, _], _, _ => rfl))
  have xv_NoName : NK.ExV P w K mg base 1 "NoName" ((TT K).ca 2) 1 [] ["name"] [] := exV_ok (c.fact 67) W.mg_NoName (okINoName D_INoName) (kbn_only B_INoName rfl)
  have xw_NoName : NK.ExV P w K mg base 1 "NoName" ((TT K).ca 2) 0 ["name"] ["name"] [0] := exV_ok (c.fact 67) W.mg_NoName (okINoName D_INoName) (kbn_shift (ps := ["self", "name"]) (ks := ["name"]) (pm := [0]) (kbn_of D_INoName 1 ["name"] [0, 1] fun _ _ _ _ _ _ us ws h1 h2 => match us, ws, h1, h2 with | [_], [_], _, _ => rfl))
  have xv_Twice : NK.ExV P w K mg base 1 "Twice" ((TT K).ca 3) 1 [] ["name"] [] := exV_ok (c.fact 68) W.mg_Twice (okITwice D_ITwice) (kbn_only B_ITwice rfl)
  have xw_Twice : NK.ExV P w K mg base 1 "Twice" ((TT K).ca 3) 0 ["name"] ["name"] [0] := exV_ok (c.fact 68) W.mg_Twice (okITwice D_ITwice) (kbn_shift (ps := ["self", "name"]) (ks := ["name"]) (pm := [0]) (kbn_of D_ITwice 1 ["name"] [0, 1] fun _ _ _ _ _ _ us ws h1 h2 => match us, ws, h1, h2 with | [_], [_], _, _ => rfl))
  have xv_NoPart : NK.ExV P w K mg base 1 "NoPart" ((TT K).ca 4) 1 [] ["name"] [] := exV_ok (c.fact 69) W.mg_NoPart (okINoPart D_INoPart) (kbn_only B_INoPart rfl)
  have xw_NoPart : NK.ExV P w K mg base 1 "NoPart" ((TT K).ca 4) 0 ["name"] ["name"] [0] := exV_ok (c.fact 69) W.mg_NoPart (okINoPart D_INoPart) (kbn_shift (ps := ["self", "name"]) (ks := ["name"]) (pm := [0]) (kbn_of D_INoPart 1 ["name"] [0, 1] fun _ _ _ _ _ _ us ws h1 h2 => match us, ws, h1, h2 with | [_], [_], _, _ => rfl))
  have xv_NoSort : NK.ExV P w K mg base 1 "NoSort" ((TT K).ca 5) 1 [] ["name"] [] := exV_ok (c.fact 70) W.mg_NoSort (okINoSort D_INoSort) (kbn_only B_INoSort rfl)
  have xw_NoSort : NK.ExV P w K mg base 1 "NoSort" ((TT K).ca 5) 0 ["name"] ["name"] [0] := exV_ok (c.fact 70) W.mg_NoSort (okINoSort D_INoSort) (kbn_shift (ps := ["self", "name"]) (ks := ["name"]) (pm := [0]) (kbn_of D_INoSort 1 ["name"] [0, 1] fun _ _ _ _ _ _ us ws h1 h2 => match us, ws, h1, h2 with | [_], [_], _, _ => rfl))
  have xv_BadRow : NK.ExV P w K mg base 1 "BadRow" ((TT K).ca 6) 2 [] ["row", "place"] [] := exV_ok (c.fact 71) W.mg_BadRow (okIBadRow D_IBadRow) (kbn_only B_IBadRow rfl)
  have xw_BadRow : NK.ExV P w K mg base 1 "BadRow" ((TT K).ca 6) 0 ["place", "row"] ["row", "place"] [1, 0] := exV_ok (c.fact 71) W.mg_BadRow (okIBadRow D_IBadRow) (kbn_shift (ps := ["self", "row", "place"]) (ks := ["place", "row"]) (pm := [1, 0]) (kbn_of D_IBadRow 1 ["place", "row"] [0, 2, 1] fun _ _ _ _ _ _ us ws h1 h2 => match us, ws, h1, h2 with | [_], [_, _], _, _ => rfl))
  have xv_NoRoom : NK.ExV P w K mg base 1 "NoRoom" ((TT K).ca 7) 1 [] ["room"] [] := exV_ok (c.fact 72) W.mg_NoRoom (okINoRoom D_INoRoom) (kbn_only B_INoRoom rfl)
  have xw_NoRoom : NK.ExV P w K mg base 1 "NoRoom" ((TT K).ca 7) 0 ["room"] ["room"] [0] := exV_ok (c.fact 72) W.mg_NoRoom (okINoRoom D_INoRoom) (kbn_shift (ps := ["self", "room"]) (ks := ["room"]) (pm := [0]) (kbn_of D_INoRoom 1 ["room"] [0, 1] fun _ _ _ _ _ _ us ws h1 h2 => match us, ws, h1, h2 with | [_], [_], _, _ => rfl))
  have xv_NoHand : NK.ExV P w K mg base 1 "NoHand" ((TT K).ca 8) 1 [] ["hand"] [] := exV_ok (c.fact 73) W.mg_NoHand (okINoHand D_INoHand) (kbn_only B_INoHand rfl)
  have xw_NoHand : NK.ExV P w K mg base 1 "NoHand" ((TT K).ca 8) 0 ["hand"] ["hand"] [0] := exV_ok (c.fact 73) W.mg_NoHand (okINoHand D_INoHand) (kbn_shift (ps := ["self", "hand"]) (ks := ["hand"]) (pm := [0]) (kbn_of D_INoHand 1 ["hand"] [0, 1] fun _ _ _ _ _ _ us ws h1 h2 => match us, ws, h1, h2 with | [_], [_], _, _ => rfl))
  have xv_Ended : NK.ExV P w K mg base 1 "Ended" ((TT K).ca 9) 1 [] ["hand"] [] := exV_ok (c.fact 74) W.mg_Ended (okIEnded D_IEnded) (kbn_only B_IEnded rfl)
  have xw_Ended : NK.ExV P w K mg base 1 "Ended" ((TT K).ca 9) 0 ["hand"] ["hand"] [0] := exV_ok (c.fact 74) W.mg_Ended (okIEnded D_IEnded) (kbn_shift (ps := ["self", "hand"]) (ks := ["hand"]) (pm := [0]) (kbn_of D_IEnded 1 ["hand"] [0, 1] fun _ _ _ _ _ _ us ws h1 h2 => match us, ws, h1, h2 with | [_], [_], _, _ => rfl))
  have xv_NoStep : NK.ExV P w K mg base 1 "NoStep" ((TT K).ca 10) 1 [] ["step"] [] := exV_ok (c.fact 75) W.mg_NoStep (okINoStep D_INoStep) (kbn_only B_INoStep rfl)
  have xw_NoStep : NK.ExV P w K mg base 1 "NoStep" ((TT K).ca 10) 0 ["step"] ["step"] [0] := exV_ok (c.fact 75) W.mg_NoStep (okINoStep D_INoStep) (kbn_shift (ps := ["self", "step"]) (ks := ["step"]) (pm := [0]) (kbn_of D_INoStep 1 ["step"] [0, 1] fun _ _ _ _ _ _ us ws h1 h2 => match us, ws, h1, h2 with | [_], [_], _, _ => rfl))
  have xv_Taken : NK.ExV P w K mg base 1 "Taken" ((TT K).ca 11) 2 [] ["key", "holder"] [] := exV_ok (c.fact 76) W.mg_Taken (okITaken D_ITaken) (kbn_only B_ITaken rfl)
  have xw_Taken : NK.ExV P w K mg base 1 "Taken" ((TT K).ca 11) 0 ["holder", "key"] ["key", "holder"] [1, 0] := exV_ok (c.fact 76) W.mg_Taken (okITaken D_ITaken) (kbn_shift (ps := ["self", "key", "holder"]) (ks := ["holder", "key"]) (pm := [1, 0]) (kbn_of D_ITaken 1 ["holder", "key"] [0, 2, 1] fun _ _ _ _ _ _ us ws h1 h2 => match us, ws, h1, h2 with | [_], [_, _], _, _ => rfl))
  have xv_NoKey : NK.ExV P w K mg base 1 "NoKey" ((TT K).ca 12) 1 [] ["name"] [] := exV_ok (c.fact 77) W.mg_NoKey (okINoKey D_INoKey) (kbn_only B_INoKey rfl)
  have xw_NoKey : NK.ExV P w K mg base 1 "NoKey" ((TT K).ca 12) 0 ["name"] ["name"] [0] := exV_ok (c.fact 77) W.mg_NoKey (okINoKey D_INoKey) (kbn_shift (ps := ["self", "name"]) (ks := ["name"]) (pm := [0]) (kbn_of D_INoKey 1 ["name"] [0, 1] fun _ _ _ _ _ _ us ws h1 h2 => match us, ws, h1, h2 with | [_], [_], _, _ => rfl))
  have xv_Wide : NK.ExV P w K mg base 1 "Wide" ((TT K).ca 13) 1 [] ["count"] [] := exV_ok (c.fact 78) W.mg_Wide (okIWide D_IWide) (kbn_only B_IWide rfl)
  have xw_Wide : NK.ExV P w K mg base 1 "Wide" ((TT K).ca 13) 0 ["count"] ["count"] [0] := exV_ok (c.fact 78) W.mg_Wide (okIWide D_IWide) (kbn_shift (ps := ["self", "count"]) (ks := ["count"]) (pm := [0]) (kbn_of D_IWide 1 ["count"] [0, 1] fun _ _ _ _ _ _ us ws h1 h2 => match us, ws, h1, h2 with | [_], [_], _, _ => rfl))
  have xv_Clash : NK.ExV P w K mg base 1 "Clash" ((TT K).ca 14) 1 [] ["why"] [] := exV_ok (c.fact 79) W.mg_Clash (okIClash D_IClash) (kbn_only B_IClash rfl)
  have xw_Clash : NK.ExV P w K mg base 1 "Clash" ((TT K).ca 14) 0 ["why"] ["why"] [0] := exV_ok (c.fact 79) W.mg_Clash (okIClash D_IClash) (kbn_shift (ps := ["self", "why"]) (ks := ["why"]) (pm := [0]) (kbn_of D_IClash 1 ["why"] [0, 1] fun _ _ _ _ _ _ us ws h1 h2 => match us, ws, h1, h2 with | [_], [_], _, _ => rfl))
  have xv_NoMark : NK.ExV P w K mg base 1 "NoMark" ((TT K).ca 15) 1 [] ["name"] [] := exV_ok (c.fact 80) W.mg_NoMark (okINoMark D_INoMark) (kbn_only B_INoMark rfl)
  have xw_NoMark : NK.ExV P w K mg base 1 "NoMark" ((TT K).ca 15) 0 ["name"] ["name"] [0] := exV_ok (c.fact 80) W.mg_NoMark (okINoMark D_INoMark) (kbn_shift (ps := ["self", "name"]) (ks := ["name"]) (pm := [0]) (kbn_of D_INoMark 1 ["name"] [0, 1] fun _ _ _ _ _ _ us ws h1 h2 => match us, ws, h1, h2 with | [_], [_], _, _ => rfl))
  have x0_Never : Ex0 K mg "Never" ((TT K).ca 16) := ex0B_ok (c.fact 81) W.mg_Never
  have xv_Tangled : NK.ExV P w K mg base 1 "Tangled" ((TT K).ca 17) 1 [] ["ring"] [] := exV_ok (c.fact 82) W.mg_Tangled (okITangled D_ITangled) (kbn_only B_ITangled rfl)
  have xw_Tangled : NK.ExV P w K mg base 1 "Tangled" ((TT K).ca 17) 0 ["ring"] ["ring"] [0] := exV_ok (c.fact 82) W.mg_Tangled (okITangled D_ITangled) (kbn_shift (ps := ["self", "ring"]) (ks := ["ring"]) (pm := [0]) (kbn_of D_ITangled 1 ["ring"] [0, 1] fun _ _ _ _ _ _ us ws h1 h2 => match us, ws, h1, h2 with | [_], [_], _, _ => rfl))
  have xv_Met : NK.ExV P w K mg base 1 "Met" ((TT K).ca 18) 1 [] ["place"] [] := exV_ok (c.fact 83) W.mg_Met (okIMet D_IMet) (kbn_only B_IMet rfl)
  have xw_Met : NK.ExV P w K mg base 1 "Met" ((TT K).ca 18) 0 ["place"] ["place"] [0] := exV_ok (c.fact 83) W.mg_Met (okIMet D_IMet) (kbn_shift (ps := ["self", "place"]) (ks := ["place"]) (pm := [0]) (kbn_of D_IMet 1 ["place"] [0, 1] fun _ _ _ _ _ _ us ws h1 h2 => match us, ws, h1, h2 with | [_], [_], _, _ => rfl))
  have xv_Broken : NK.ExV P w K mg base 1 "Broken" ((TT K).ca 19) 3 [] ["name", "hands", "deeds"] [] := exV_ok (c.fact 84) W.mg_Broken (okIBroken D_IBroken) (kbn_only B_IBroken rfl)
  have xw_Broken : NK.ExV P w K mg base 1 "Broken" ((TT K).ca 19) 0 ["deeds", "hands", "name"] ["name", "hands", "deeds"] [2, 1, 0] := exV_ok (c.fact 84) W.mg_Broken (okIBroken D_IBroken) (kbn_shift (ps := ["self", "name", "hands", "deeds"]) (ks := ["deeds", "hands", "name"]) (pm := [2, 1, 0]) (kbn_of D_IBroken 1 ["deeds", "hands", "name"] [0, 3, 2, 1] fun _ _ _ _ _ _ us ws h1 h2 => match us, ws, h1, h2 with | [_], [_, _, _], _, _ => rfl))
  have xv_NoBar : NK.ExV P w K mg base 1 "NoBar" ((TT K).ca 20) 1 [] ["name"] [] := exV_ok (c.fact 85) W.mg_NoBar (okINoBar D_INoBar) (kbn_only B_INoBar rfl)
  have xw_NoBar : NK.ExV P w K mg base 1 "NoBar" ((TT K).ca 20) 0 ["name"] ["name"] [0] := exV_ok (c.fact 85) W.mg_NoBar (okINoBar D_INoBar) (kbn_shift (ps := ["self", "name"]) (ks := ["name"]) (pm := [0]) (kbn_of D_INoBar 1 ["name"] [0, 1] fun _ _ _ _ _ _ us ws h1 h2 => match us, ws, h1, h2 with | [_], [_], _, _ => rfl))
  have x0_NoBack : Ex0 K mg "NoBack" ((TT K).ca 21) := ex0B_ok (c.fact 86) W.mg_NoBack
  have xvm_told : XvMOk P w mg base (TT K) 1 "told" mt_told := by
    refine ⟨fun cc ff hh => ?_⟩
    match cc, hh with
    | 0, hh => cases hh
    | 1, hh => cases hh; exact ⟨(xmB_ok (c.fact 87)).1, of_decide_eq_true rfl, _, _, _, (xmB_ok (c.fact 87)).2, okBadCountT (k := 0)  W D_BadCountT , B_BadCountT⟩
    | 2, hh => cases hh; exact ⟨(xmB_ok (c.fact 88)).1, of_decide_eq_true rfl, _, _, _, (xmB_ok (c.fact 88)).2, okNoNameT (k := 0)  W D_NoNameT , B_NoNameT⟩
    | 3, hh => cases hh; exact ⟨(xmB_ok (c.fact 89)).1, of_decide_eq_true rfl, _, _, _, (xmB_ok (c.fact 89)).2, okTwiceT (k := 0)  W D_TwiceT , B_TwiceT⟩
    | 4, hh => cases hh; exact ⟨(xmB_ok (c.fact 90)).1, of_decide_eq_true rfl, _, _, _, (xmB_ok (c.fact 90)).2, okNoPartT (k := 0)  W D_NoPartT , B_NoPartT⟩
    | 5, hh => cases hh; exact ⟨(xmB_ok (c.fact 91)).1, of_decide_eq_true rfl, _, _, _, (xmB_ok (c.fact 91)).2, okNoSortT (k := 0)  W D_NoSortT , B_NoSortT⟩
    | 6, hh => cases hh; exact ⟨(xmB_ok (c.fact 92)).1, of_decide_eq_true rfl, _, _, _, (xmB_ok (c.fact 92)).2, okBadRowT (k := 0)  W D_BadRowT , B_BadRowT⟩
    | 7, hh => cases hh; exact ⟨(xmB_ok (c.fact 93)).1, of_decide_eq_true rfl, _, _, _, (xmB_ok (c.fact 93)).2, okNoRoomT (k := 0)  W D_NoRoomT , B_NoRoomT⟩
    | 8, hh => cases hh; exact ⟨(xmB_ok (c.fact 94)).1, of_decide_eq_true rfl, _, _, _, (xmB_ok (c.fact 94)).2, okNoHandT (k := 0)  W D_NoHandT , B_NoHandT⟩
    | 9, hh => cases hh; exact ⟨(xmB_ok (c.fact 95)).1, of_decide_eq_true rfl, _, _, _, (xmB_ok (c.fact 95)).2, okEndedT (k := 0)  W D_EndedT , B_EndedT⟩
    | 10, hh => cases hh; exact ⟨(xmB_ok (c.fact 96)).1, of_decide_eq_true rfl, _, _, _, (xmB_ok (c.fact 96)).2, okNoStepT (k := 0)  W D_NoStepT , B_NoStepT⟩
    | 11, hh => cases hh; exact ⟨(xmB_ok (c.fact 97)).1, of_decide_eq_true rfl, _, _, _, (xmB_ok (c.fact 97)).2, okTakenT (k := 0)  W D_TakenT , B_TakenT⟩
    | 12, hh => cases hh; exact ⟨(xmB_ok (c.fact 98)).1, of_decide_eq_true rfl, _, _, _, (xmB_ok (c.fact 98)).2, okNoKeyT (k := 0)  W D_NoKeyT , B_NoKeyT⟩
    | 13, hh => cases hh; exact ⟨(xmB_ok (c.fact 99)).1, of_decide_eq_true rfl, _, _, _, (xmB_ok (c.fact 99)).2, okWideT (k := 0)  W D_WideT , B_WideT⟩
    | 14, hh => cases hh; exact ⟨(xmB_ok (c.fact 100)).1, of_decide_eq_true rfl, _, _, _, (xmB_ok (c.fact 100)).2, okClashT (k := 0)  W D_ClashT , B_ClashT⟩
    | 15, hh => cases hh; exact ⟨(xmB_ok (c.fact 101)).1, of_decide_eq_true rfl, _, _, _, (xmB_ok (c.fact 101)).2, okNoMarkT (k := 0)  W D_NoMarkT , B_NoMarkT⟩
    | 16, hh => cases hh; exact ⟨(xmB_ok (c.fact 102)).1, of_decide_eq_true rfl, _, _, _, (xmB_ok (c.fact 102)).2, okNeverT (k := 0)  W D_NeverT , B_NeverT⟩
    | 17, hh => cases hh; exact ⟨(xmB_ok (c.fact 103)).1, of_decide_eq_true rfl, _, _, _, (xmB_ok (c.fact 103)).2, okTangledT (k := 0)  W D_TangledT , B_TangledT⟩
    | 18, hh => cases hh; exact ⟨(xmB_ok (c.fact 104)).1, of_decide_eq_true rfl, _, _, _, (xmB_ok (c.fact 104)).2, okMetT (k := 0)  W D_MetT , B_MetT⟩
    | 19, hh => cases hh; exact ⟨(xmB_ok (c.fact 105)).1, of_decide_eq_true rfl, _, _, _, (xmB_ok (c.fact 105)).2, okBrokenT (k := 0)  W D_BrokenT , B_BrokenT⟩
    | 20, hh => cases hh; exact ⟨(xmB_ok (c.fact 106)).1, of_decide_eq_true rfl, _, _, _, (xmB_ok (c.fact 106)).2, okNoBarT (k := 0)  W D_NoBarT , B_NoBarT⟩
    | 21, hh => cases hh; exact ⟨(xmB_ok (c.fact 107)).1, of_decide_eq_true rfl, _, _, _, (xmB_ok (c.fact 107)).2, okNoBackT (k := 0)  W D_NoBackT , B_NoBackT⟩
    | _ + 22, hh => cases hh
  have h_CellAt : NK.CalX P w K mg base 1 "_law_cell_at" ["_law_script", "_law_k"] (spFn (TT K) FCellAt) := ⟨⟨_, _, okCellAt (k := 0)  W D_CellAt , He.glo_ok X G (c.fact 108), D_CellAt.kp, B_CellAt⟩⟩
  have h_State : NK.CalX P w K mg base 1 "_law_state" ["_law_cell"] (spFn (TT K) FState) := ⟨⟨_, _, okState (k := 0)  W D_State , He.glo_ok X G (c.fact 109), D_State.kp, B_State⟩⟩
  have h_Digit : NK.CalX P w K mg base 1 "_law_digit" ["_law_state_here", "_law_base"] (spFn (TT K) FDigit) := ⟨⟨_, _, okDigit (k := 0)  W D_Digit , He.glo_ok X G (c.fact 110), D_Digit.kp, B_Digit⟩⟩
  have h_Word : NK.CalX P w K mg base 2 "_law_word" ["_law_s"] (spFn (TT K) FWord) := ⟨⟨_, _, okWord (k := 1)  W D_Word h_Digit (by decide), He.glo_ok X G (c.fact 111), D_Word.kp, B_Word⟩⟩
  have h_TextOne : NK.CalX P w K mg base 3 "_law_text_one" ["_law_k", "_law_a", "_law_called"] (spFn (TT K) FTextOne) := ⟨⟨_, _, okTextOne (k := 2)  W D_TextOne (by decide) xw_NoName xv_NoName xw_Twice xv_Twice xw_NoPart xv_NoPart xw_NoSort xv_NoSort xw_NoKey xv_NoKey xw_NoMark xv_NoMark xw_NoBar xv_NoBar, He.glo_ok X G (c.fact 112), D_TextOne.kp, B_TextOne⟩⟩
  have h_NumOne : NK.CalX P w K mg base 3 "_law_number_one" ["_law_k", "_law_n", "_law_called"] (spFn (TT K) FNumOne) := ⟨⟨_, _, okNumOne (k := 2)  W D_NumOne (by decide) xw_NoRoom xv_NoRoom xw_NoHand xv_NoHand xw_Ended xv_Ended xw_NoStep xv_NoStep xw_Wide xv_Wide xw_Met xv_Met, He.glo_ok X G (c.fact 113), D_NumOne.kp, B_NumOne⟩⟩
  have h_Made : NK.CalX P w K mg base 4 "_law_made" ["_law_k", "_law_a", "_law_n", "_law_called"] (spFn (TT K) FMade) := ⟨⟨_, _, okMade (k := 3)  W D_Made h_TextOne (by decide) h_NumOne (by decide) (by decide) xw_BadCount xv_BadCount xw_BadRow xv_BadRow xw_Taken xv_Taken xw_Clash xv_Clash xw_Tangled xv_Tangled xw_Broken xv_Broken, He.glo_ok X G (c.fact 114), D_Made.kp, B_Made⟩⟩
  have h_Fields : NK.CalX P w K mg base 1 "_law_fields" ["_law_k", "_law_e"] (spFn (TT K) FFields) := ⟨⟨_, _, okFields (k := 0)  W D_Fields , He.glo_ok X G (c.fact 115), D_Fields.kp, B_Fields⟩⟩
  have h_Due : NK.CalX P w K mg base 1 "_law_due" ["_law_k", "_law_a", "_law_n"] (spFn (TT K) FDue) := ⟨⟨_, _, okDue (k := 0)  W D_Due , He.glo_ok X G (c.fact 116), D_Due.kp, B_Due⟩⟩
  have h_Right : NK.CalX P w K mg base 3 "_law_right" ["_law_e", "_law_word_here"] (spFn (TT K) FRight) := ⟨⟨_, _, okRight (k := 2)  W D_Right (by decide) xvm_told, He.glo_ok X G (c.fact 117), D_Right.kp, B_Right⟩⟩
  exact okLaw (k := 4)  W D_Law h_State (by decide) h_CellAt (by decide) h_Digit (by decide) h_Word (by decide) h_Made (by decide) h_Right (by decide) h_Fields (by decide) h_Due (by decide) x0_Never x0_NoBack
end K01
namespace K01
open PySem PySem.Spec PyProof.Rows L2 FM
/-! ### the draws -/
structure Ok3 (a b c : Int) : Prop where
  a0 : 0 ≤ a
  b0 : 0 ≤ b
  b1 : b < 4294967296
  c0 : 0 ≤ c
  c1 : c < 4294967296
abbrev stC (a b c : Int) : Option Cell := some (.lst [.int a, .int b, .int c])
theorem lt_of {α : Type} {l : List α} {k : Nat} {x : α} (h : l[k]? = some x) : k < l.length := (List.getElem?_eq_some_iff.mp h).1
theorem set_get {α : Type} {l : List α} {k : Nat} {x y : α} (h : l[k]? = some x) : (l.set k y)[k]? = some y := by
  rw [List.getElem?_set_self (lt_of h)]
theorem take_set {α : Type} {l : List α} {k : Nat} {y : α} : (l.set k y).take l.length = l.set k y := List.take_of_length_le (by simp)
theorem digit_ok {m : Cells} {k : Nat} {a b c n : Int} (h : m[k]? = some (stC a b c)) (o : Ok3 a b c) (hn : 0 < n) (hn2 : n < 1073741824) :
    ∃ r a' b', FDigit [.ref k, .d (.int n)] m = .ok (.d (.int r)) (m.set k (stC a' b' c)) ∧ 0 ≤ r ∧ r < n ∧ Ok3 a' b' c := by
  have cd : CDiv a n := ⟨hn, hn2⟩
  by_cases ha : 0 < a
  · refine ⟨a % n, a / n, b, ?_, Int.emod_nonneg a (by omega), Int.emod_lt_of_pos a hn, ⟨Int.ediv_nonneg o.a0 (by omega), o.b0, o.b1, o.c0, o.c1⟩⟩
    unfold FDigit runFn mDigit
    simp [mSeq, mIfS, mTest, mOp, mVar, mC, mAsg, mRet, gNm, thenG, Rs.bind, Rs.then, ofO, exitF, oIB, oIxL, lstOf, h, ha, hn, cd, oIc, mCB, mCons, mNil, nInt, mSetL, isL, ixN, atI, take_set, mNext]
  · have ha0 : a = 0 := by have := o.a0; omega
    have cd1 : CDiv b 1009 := ⟨by decide, by decide⟩
    have cm : CMul b (b / 1009 + 69621) := Or.inl ⟨by have := o.b0; omega, by have := o.b1; omega⟩
    refine ⟨((b * (b / 1009 + 69621) + c) % 2147483629 + 7) / 97 % n, a, (b * (b / 1009 + 69621) + c) % 2147483629 + 7, ?_, Int.emod_nonneg _ (by omega), Int.emod_lt_of_pos _ hn, ⟨o.a0, ?_, ?_, o.c0, o.c1⟩⟩
    · have cd2 : CDiv ((b * (b / 1009 + 69621) + c) % 2147483629 + 7) 97 := ⟨by decide, by decide⟩
      unfold FDigit runFn mDigit
      simp [mSeq, mIfS, mTest, mOp, mVar, mC, mAsg, mRet, gNm, thenG, Rs.bind, Rs.then, ofO, exitF, oIB, oIxL, lstOf, h, ha, hn, cd1, cd2, cm, oIc, mCB, mCons, mNil, nInt, oII, mSetL, isL, ixN, atI, take_set, mNext, set_get h, ha0]
    · have := Int.emod_nonneg (b * (b / 1009 + 69621) + c) (b := 2147483629) (by decide); omega
    · have := Int.emod_lt_of_pos (b * (b / 1009 + 69621) + c) (b := 2147483629) (by decide); omega
theorem state_ok {m : Cells} {c : Int} : ∃ a b d, FState [.d (.int c)] m = .ok (.ref m.length) (m ++ [stC a b d]) ∧ Ok3 a b d := by
  obtain ⟨e, he, he0⟩ : ∃ e : Int, (if c < 0 then -c else c) = e ∧ 0 ≤ e := ⟨_, rfl, by split <;> omega⟩
  obtain ⟨t, ht, ht1⟩ : ∃ t : Int, (if (1000000000000000000 : Int) ≤ e then (1 : Int) else 0) = t ∧ (0 ≤ t ∧ t ≤ 1) := ⟨_, rfl, by split <;> omega⟩
  refine ⟨e * t, e % 2147483629 + 7, e % 2147483587, ?_, ?_⟩
  · have cp : CPow 10 18 := ⟨by decide, by decide, by decide⟩
    have cm : CMul e t := Or.inr ⟨by omega, by omega⟩
    unfold FState runFn mState
    simp [mSeq, mTest, mOp, mVar, mC, mAsg, mRet, gNm, thenG, Rs.bind, Rs.then, ofO, exitF, oIB, mCB, mCons, mNil, nAbs, nInt, oIc, oII, mLstC, dats, szOk, he, cp, ht, cm, Cell.isOb]
  · refine ⟨Int.mul_nonneg he0 ht1.1, ?_, ?_, ?_, ?_⟩
    · have := Int.emod_nonneg e (b := 2147483629) (by decide); omega
    · have := Int.emod_lt_of_pos e (b := 2147483629) (by decide); omega
    · exact Int.emod_nonneg e (by decide)
    · have := Int.emod_lt_of_pos e (b := 2147483587) (by decide); omega
end K01
namespace K01
open PySem PySem.Spec PyProof.Rows L2 FM
/-! ### names -/
theorem str_app_len (x y : Str) : (x ++ y).length = x.length + y.length := by
  show (x.cps ++ y.cps).size = _
  rw [Array.size_append]
  rfl
theorem app_tl (x y : Str) : (x ++ y).cps.toList = x.cps.toList ++ y.cps.toList := by
  have e : (x ++ y).cps = x.cps ++ y.cps := rfl
  rw [e, Array.toList_append]
def NameCp (c : Nat) : Prop := (97 ≤ c ∧ c ≤ 122) ∨ (48 ≤ c ∧ c ≤ 57)
/-- a name of at most n signs -/
structure GName (n : Nat) (z : Str) : Prop where
  hd : ∃ c cs, z.cps.toList = c :: cs ∧ 97 ≤ c ∧ c ≤ 122
  cp : ∀ c ∈ z.cps.toList, NameCp c
  ln : z.length ≤ n
theorem GName.app {n k : Nat} {z y : Str} (h : GName n z) (hy : ∀ c ∈ y.cps.toList, NameCp c) (hk : n + y.length ≤ k) : GName k (z ++ y) := by
  obtain ⟨c, cs, e, h1, h2⟩ := h.hd
  refine ⟨⟨c, cs ++ y.cps.toList, by rw [app_tl, e]; rfl, h1, h2⟩, fun x hx => ?_, by rw [str_app_len]; have := h.ln; omega⟩
  rw [app_tl] at hx
  rcases List.mem_append.mp hx with w | w
  · exact h.cp x w
  · exact hy x w
theorem GName.mono {n k : Nat} {z : Str} (h : GName n z) (hk : n ≤ k) : GName k z := ⟨h.hd, h.cp, Nat.le_trans h.ln hk⟩
theorem signs36 : ∀ c ∈ ("abcdefghijklmnopqrstuvwxyz0123456789" : Str).cps.toList, NameCp c := by
  unfold NameCp
  decide +kernel
theorem pick36 {i : Int} (h0 : 0 ≤ i) (h1 : i < 36) : ∃ c, atI ("abcdefghijklmnopqrstuvwxyz0123456789" : Str).cps.toList i = some c ∧ NameCp c := by
  have hl : ("abcdefghijklmnopqrstuvwxyz0123456789" : Str).cps.toList.length = 36 := by decide +kernel
  have hi : i.toNat < ("abcdefghijklmnopqrstuvwxyz0123456789" : Str).cps.toList.length := by rw [hl]; omega
  refine ⟨_, ?_, signs36 _ (List.getElem_mem hi)⟩
  unfold atI ixN
  rw [if_pos h0, if_pos (by rw [hl]; omega), Option.bind_some]
  exact List.getElem?_eq_getElem hi
end K01
namespace K01
open PySem PySem.Spec PyProof.Rows L2 FM
/-! ### draws -/
def stX (x : Cell) : Prop := ∃ a b c, x = .lst [.int a, .int b, .int c] ∧ Ok3 a b c
def stOk (m : Cells) (k : Nat) : Prop := ∃ x, m[k]? = some (some x) ∧ stX x
section
variable {m : Cells} {k j : Nat} {Q : Vl → Cells → Prop} {E : EX} {x : Cell} {y : Option Cell}
theorem stOk.lt (h : stOk m k) : k < m.length := by obtain ⟨x, h, _⟩ := h; exact lt_of h
theorem stOk.set (h : stOk m k) (hx : stX x) : stOk (m.set k (some x)) k := by
  obtain ⟨z, h, _⟩ := h; exact ⟨x, set_get h, hx⟩
theorem stOk.app (h : stOk m k) : stOk (m ++ [y]) k := by
  obtain ⟨z, h, hz⟩ := h; exact ⟨z, by rw [List.getElem?_append_left (lt_of h)]; exact h, hz⟩
theorem digit_w {n : Int} (h : stOk m k) (hn : 0 < n) (hn2 : n < 1073741824) (q : ∀ r x, 0 ≤ r → r < n → stX x → Q (.d (.int r)) (m.set k (some x))) : wR (FDigit [.ref k, .d (.int n)] m) Q E := by
  obtain ⟨x, hk, a, b, c, rfl, o⟩ := h
  obtain ⟨r, a', b', e, r0, r1, o'⟩ := digit_ok hk o hn hn2
  exact wR_eq e (q r _ r0 r1 ⟨a', b', c, rfl, o'⟩)
theorem state_w {c : Int} (q : ∀ x, stX x → Q (.ref m.length) (m ++ [some x])) : wR (FState [.d (.int c)] m) Q E := by
  obtain ⟨a, b, d, e, o⟩ := state_ok (m := m) (c := c)
  exact wR_eq e (q _ ⟨a, b, d, rfl, o⟩)
theorem set_last {x y : Option Cell} : (m ++ [y]).set m.length x = m ++ [x] := by rw [List.set_append_right _ _ (Nat.le_refl _)]; simp
theorem get_last {y : Option Cell} : (m ++ [y])[m.length]? = some y := by simp
end
end K01
namespace K01
open PySem PySem.Spec PyProof.Rows L2 FM
/-! ### a drawn text -/
def low (w : Str) : Prop := ∀ c ∈ TL.tl w, c < 128
theorem low_ok {w : Str} (h : low w) : PyData.strOk w = true := by
  unfold PyData.strOk
  rw [← Array.all_toList]
  exact List.all_eq_true.mpr fun c hc => decide_eq_true (by have := h c hc; omega)
theorem joinL_low {S : List Nat} (hS : ∀ c ∈ S, c < 128) : ∀ {ps : List (List Nat)}, (∀ p ∈ ps, ∀ c ∈ p, c < 128) → ∀ c ∈ TL.joinL S ps, c < 128
  | [], _, c, hc => by cases hc
  | [p], h, c, hc => h p (by simp) c hc
  | p :: q :: r, h, c, hc => by
    rw [show TL.joinL S (p :: q :: r) = p ++ (S ++ TL.joinL S (q :: r)) from rfl] at hc
    rcases List.mem_append.mp hc with hc | hc
    · exact h p (by simp) c hc
    rcases List.mem_append.mp hc with hc | hc
    · exact hS c hc
    · exact joinL_low hS (fun x hx => h x (by simp [List.mem_cons.mp hx])) c hc
theorem join_low {ws : List Str} (h : ∀ w ∈ ws, low w) : low (Txt.join "" ws) := fun c hc => by
  rw [TL.join_eq, TL.tl_join] at hc
  refine joinL_low (fun c hc => by cases hc) (fun p hp => ?_) c hc
  obtain ⟨w, hw, rfl⟩ := List.mem_map.mp hp
  exact h w hw
theorem sum_ones {ys : List Str} (h : ∀ y ∈ ys, y.length = 1) : (ys.map (·.length)).sum = ys.length := by
  induction ys with
  | nil => rfl
  | cons y ys ih => rw [List.map_cons, List.sum_cons, ih fun z hz => h z (List.mem_cons_of_mem _ hz), h y (by simp), List.length_cons]; omega
section
variable {m : Cells} {Q : Vl → Cells → Prop} {E : EX}
theorem word_w {k : Nat} (hst : stOk m k) (q : ∀ (z : Str) (x : Cell), low z → stX x → Q (.d (.str z)) (m.set k (some x))) : wR (FWord [.ref k] m) Q E := by
  have hk := hst.lt
  have hst0 := hst
  obtain ⟨x0, hk0, hx0⟩ := hst
  have gk : ∀ {x : Cell}, (m.set k (some x))[k]? = some (some x) := fun {x} => by rw [List.getElem?_set_self hk]
  have sk : ∀ {x y : Cell}, (m.set k (some x)).set k (some y) = m.set k (some y) := fun {x y} => by rw [List.set_set]
  ((show wR (runFn 1 3 (mWord) _ _) _ _); (refine w_run (g := [_, none, none]) (by rfl) rfl ?_); (unfold mWord))
  (refine w_seq (w_asg (w_c ?_)); ((with_reducible refine w_nm ?_); (try simp only [List.set_cons_succ, List.set_cons_zero])); refine w_ret (w_m1 (w_c ?_)))
  refine ⟨_, rfl, ?_⟩
  (refine w_lc (w_itA (w_cons (w_call (w_cons (w_var rfl (w_cons (w_c (w_nil ?_)))))))))
  refine digit_w hst0 (by decide) (by decide) fun r1 xa a0 a1 hxa => ?_
  (refine w_nil ?_)
  refine wo_rng1 (by omega) ?_
  refine w_lcLoop (fun r acc m' => ∃ (ys : List Str) (x : Cell), acc = ys.map .str ∧ (∀ y ∈ ys, low y ∧ y.length = 1) ∧ ys.length + r.length ≤ 5 ∧ stX x ∧ m' = m.set k (some x)) ?_ ?_ _ _ _ ⟨[], xa, rfl, by simp, by rw [rangeD_len]; simp; omega, hxa, rfl⟩
  · rintro d r acc m' ⟨ys, x, rfl, hy, hl, hx, rfl⟩
    rw [List.length_cons] at hl
    (((with_reducible refine w_nm ?_); (try simp only [List.set_cons_succ, List.set_cons_zero])); refine w_yes (w_tt (w_op (w_var rfl (w_call (w_cons (w_var rfl (w_cons (w_c (w_nil ?_))))))))))
    refine digit_w ⟨x, gk, hx⟩ (by decide) (by decide) fun r2 xb b0 b1 hxb => ?_
    rw [sk]
    skip
    obtain ⟨c, hc, gc⟩ := pick36 b0 b1
    refine wo_ixS (by decide +kernel) hc ?_
    refine ⟨_, rfl, by unfold szOk; simp; omega, ys ++ [⟨#[c]⟩], xb, by simp, ?_, by simp; omega, hxb, rfl⟩
    intro y hy'
    rcases List.mem_append.mp hy' with hy' | hy'
    · exact hy y hy'
    · rw [List.mem_singleton.mp hy']
      refine ⟨fun c' hc' => ?_, rfl⟩
      have : c' = c := by simpa [TL.tl] using hc'
      subst this
      unfold NameCp at gc
      omega
  · rintro acc m' ⟨ys, x, rfl, hy, hl, hx, rfl⟩
    skip
    refine wo_join rfl (by rw [sum_ones fun y h => (hy y h).2, show ("" : Str).length = 0 from rfl, Nat.mul_zero]; simp at hl; omega) ?_
    (refine w_Xd ?_)
    rw [show (m.set k (some x)).take m.length = m.set k (some x) from by rw [List.take_of_length_le (by simp)]]
    exact q _ x (join_low fun y h => (hy y h).1) hx
theorem cellat_w {ns : List Int} {k : Nat} (q : ∀ c, Q (.d (.int c)) m) : wR (FCellAt [.d (.scr (ns.map Dt.int)), .d (.int (k : Nat))] m) Q E := by
  ((show wR (runFn 2 2 (mCellAt) _ _) _ _); (refine w_run (g := [_, _]) (by rfl) rfl ?_); (unfold mCellAt))
  (refine w_seq (w_if (w_test (w_op (w_var rfl (w_cb (w_cons (w_var rfl (w_nil ?_)))))))); ((with_reducible apply wo_len); (focus (first | rfl | assumption | (simp only [lstOf, tupOf, dctOf, seqL, isL, Option.or_none, Option.some_or, Option.none_or, *]; done) | ((simp [lstOf, tupOf, dctOf, seqL, isL, *]); (first | done | rfl))))); refine wo_IB (w_B ?_))
  refine w_d (fun h => ?_) (fun h => ?_)
  · (refine w_ret (w_op (w_var rfl (w_var rfl ?_))))
    have hk : k < ns.length := by simpa using h
    refine wo_ixL (ds := ns.map Dt.int) (d := .int ns[k]) rfl ?_ ?_
    · unfold atI ixN
      rw [List.length_map, if_pos (by omega), if_pos (by omega), Option.bind_some, List.getElem?_map, Int.toNat_natCast, List.getElem?_eq_getElem hk]; rfl
    (refine w_Xd ?_)
    rw [List.take_length]; exact q _
  · (refine w_next (w_ret (w_c (w_Xd ?_))))
    rw [List.take_length]; exact q 0
/-! ### what is made -/
def clsK (k : Nat) : Nat := [2, 3, 4, 5, 12, 15, 20, 7, 8, 9, 10, 13, 18, 1, 6, 11, 14, 17, 19].getD k 0
def fldK (k : Nat) (a : Str) (n : Int) : List Dt :=
  if k < 7 then [.str a] else if k < 13 then [.int n] else
  [[.int n, .str a], [.int n, .int (n + 1)], [.int n, .str a], [.tup [.str "twice", .str a]], [.tup [.str a, .str a]], [.lst [.tup [.int 0, .int n]], .lst [.str a], .str a]].getD (k - 13) []
def excK (k : Nat) (a : Str) (n : Int) : Dt := .exc (clsK k) (fldK k a n)
theorem textone_w {k : Nat} {a : Str} {n : Int} {b : Bool} (hk : k < 7) (q : Q (.d (excK k a n)) m) : wR (FTextOne [.d (.int (k : Nat)), .d (.str a), .d (.bl b)] m) Q E := by
  have : k = 0 ∨ k = 1 ∨ k = 2 ∨ k = 3 ∨ k = 4 ∨ k = 5 ∨ k = 6 := by omega
  rcases this with rfl | rfl | rfl | rfl | rfl | rfl | rfl <;> cases b <;> exact wR_eq (m' := m.take m.length) rfl (by rw [List.take_length]; exact q)
theorem numone_w {k : Nat} {a : Str} {n : Int} {b : Bool} (h7 : 7 ≤ k) (hk : k < 13) (q : Q (.d (excK k a n)) m) : wR (FNumOne [.d (.int (k : Nat)), .d (.int n), .d (.bl b)] m) Q E := by
  have : k = 7 ∨ k = 8 ∨ k = 9 ∨ k = 10 ∨ k = 11 ∨ k = 12 := by omega
  rcases this with rfl | rfl | rfl | rfl | rfl | rfl <;> cases b <;> exact wR_eq (m' := m.take m.length) rfl (by rw [List.take_length]; exact q)
theorem made_w {k : Nat} {a : Str} {n : Int} {b : Bool} (hk : k < 19) (q : Q (.d (excK k a n)) m) : wR (FMade [.d (.int (k : Nat)), .d (.str a), .d (.int n), .d (.bl b)] m) Q E := by
  by_cases h7 : k < 7
  · ((show wR (runFn 4 4 (mMade) _ _) _ _); (refine w_run (g := [_, _, _, _]) (by rfl) rfl ?_); (unfold mMade))
    (refine w_seq (w_if (w_test (w_op (w_var rfl (w_c (wo_IB (w_B ?_))))))))
    refine w_d (fun _ => ?_) (fun h => absurd (by omega) h)
    (refine w_ret (w_call (w_cons (w_var rfl (w_cons (w_var rfl (w_cons (w_var rfl (w_nil ?_)))))))))
    refine textone_w (n := n) h7 ?_
    (refine w_Xd ?_)
    rw [List.take_length]; exact q
  by_cases h13 : k < 13
  · ((show wR (runFn 4 4 (mMade) _ _) _ _); (refine w_run (g := [_, _, _, _]) (by rfl) rfl ?_); (unfold mMade))
    (refine w_seq (w_if (w_test (w_op (w_var rfl (w_c (wo_IB (w_B ?_))))))))
    refine w_d (fun h => absurd h (by omega)) (fun _ => w_next ?_)
    (refine w_seq (w_if (w_test (w_op (w_var rfl (w_c (wo_IB (w_B ?_))))))))
    refine w_d (fun _ => ?_) (fun h => absurd (by omega) h)
    (refine w_ret (w_call (w_cons (w_var rfl (w_cons (w_var rfl (w_cons (w_var rfl (w_nil ?_)))))))))
    refine numone_w (a := a) (by omega) h13 ?_
    (refine w_Xd ?_)
    rw [List.take_length]; exact q
  have : k = 13 ∨ k = 14 ∨ k = 15 ∨ k = 16 ∨ k = 17 ∨ k = 18 := by omega
  rcases this with rfl | rfl | rfl | rfl | rfl | rfl <;> cases b <;> exact wR_eq (m' := m.take m.length) rfl (by rw [List.take_length]; exact q)
/-! ### what is told of the fields -/
def dueK (k : Nat) (a : Str) (n : Int) : Dt :=
  if k < 7 then .str a else if k < 13 then .int n else
  [.tup [.str a, .int n], .tup [.int (n + 1), .int n], .tup [.str a, .int n], .tup [.str "twice", .str a], .tup [.str a, .str a], .tup [.str a, .lst [.str a], .lst [.tup [.int 0, .int n]]]].getD (k - 13) .non
theorem fields_w {k : Nat} {a : Str} {n : Int} (hk : k < 19) (q : Q (.d (dueK k a n)) m) : wR (FFields [.d (.int (k : Nat)), .d (excK k a n)] m) Q E := by
  have : k = 0 ∨ k = 1 ∨ k = 2 ∨ k = 3 ∨ k = 4 ∨ k = 5 ∨ k = 6 ∨ k = 7 ∨ k = 8 ∨ k = 9 ∨ k = 10 ∨ k = 11 ∨ k = 12 ∨ k = 13 ∨ k = 14 ∨ k = 15 ∨ k = 16 ∨ k = 17 ∨ k = 18 := by omega
  rcases this with rfl | rfl | rfl | rfl | rfl | rfl | rfl | rfl | rfl | rfl | rfl | rfl | rfl | rfl | rfl | rfl | rfl | rfl | rfl <;> exact wR_eq (m' := m.take m.length) rfl (by rw [List.take_length]; exact q)
theorem due_w {k : Nat} {a : Str} {n : Int} (hk : k < 19) (q : Q (.d (dueK k a n)) m) : wR (FDue [.d (.int (k : Nat)), .d (.str a), .d (.int n)] m) Q E := by
  have : k = 0 ∨ k = 1 ∨ k = 2 ∨ k = 3 ∨ k = 4 ∨ k = 5 ∨ k = 6 ∨ k = 7 ∨ k = 8 ∨ k = 9 ∨ k = 10 ∨ k = 11 ∨ k = 12 ∨ k = 13 ∨ k = 14 ∨ k = 15 ∨ k = 16 ∨ k = 17 ∨ k = 18 := by omega
  rcases this with rfl | rfl | rfl | rfl | rfl | rfl | rfl | rfl | rfl | rfl | rfl | rfl | rfl | rfl | rfl | rfl | rfl | rfl | rfl <;> exact wR_eq (m' := m.take m.length) rfl (by rw [List.take_length]; exact q)
end
end K01
namespace K01
open PySem PySem.Spec PyProof.Rows L2 FM
/-! ### which classes it is of -/
theorem tb {l : List (Nat × Bool)} {c i : Nat} (h : ((List.range 21).all fun j => decide (tabB l (j + 1) = some (decide (j + 1 = i)))) = true) (h1 : 1 ≤ c) (h2 : c ≤ 21) : tabB l c = some (decide (c = i)) := by
  have := List.all_eq_true.mp h (c - 1) (List.mem_range.mpr (by omega))
  have := of_decide_eq_true this
  rwa [show c - 1 + 1 = c by omega] at this
theorem tt {l : List (Nat × Bool)} {c : Nat} (h : ((List.range 21).all fun j => decide (tabB l (j + 1) = some true)) = true) (h1 : 1 ≤ c) (h2 : c ≤ 21) : tabB l c = some true := by
  have := List.all_eq_true.mp h (c - 1) (List.mem_range.mpr (by omega))
  have := of_decide_eq_true this
  rwa [show c - 1 + 1 = c by omega] at this
def kindL : List Nat := [2, 3, 4, 5, 12, 15, 20, 7, 8, 9, 10, 13, 18, 1, 6, 11, 14, 17, 19, 16, 21]
def wordL : List Str := ["noname", "twice", "nopart", "nosort", "nokey", "nomark", "nobar", "noroom", "nohand", "ended", "nostep", "wide", "met", "badcount", "badrow", "taken", "clash", "tangled", "broken", "never", "noback"]
def wordC (c : Nat) : Str := ((kindL.zip wordL).lookup c).getD ""
theorem filt {c : Nat} (h1 : 1 ≤ c) (h2 : c ≤ 21) : (((wordL.zip (kindL.map fun i => decide (c = i))).filter fun q => q.2).map fun q => Dt.str q.1) = [.str (wordC c)] := by
  have : c = 1 ∨ c = 2 ∨ c = 3 ∨ c = 4 ∨ c = 5 ∨ c = 6 ∨ c = 7 ∨ c = 8 ∨ c = 9 ∨ c = 10 ∨ c = 11 ∨ c = 12 ∨ c = 13 ∨ c = 14 ∨ c = 15 ∨ c = 16 ∨ c = 17 ∨ c = 18 ∨ c = 19 ∨ c = 20 ∨ c = 21 := by omega
  rcases this with rfl | rfl | rfl | rfl | rfl | rfl | rfl | rfl | rfl | rfl | rfl | rfl | rfl | rfl | rfl | rfl | rfl | rfl | rfl | rfl | rfl <;> rfl
theorem word_ok {c : Nat} (h1 : 1 ≤ c) (h2 : c ≤ 21) : PyData.strOk (wordC c) = true ∧ (wordC c).length ≤ 20 := by
  have : ((List.range 21).all fun j => PyData.strOk (wordC (j + 1)) && decide ((wordC (j + 1)).length ≤ 20)) = true := by decide +kernel
  have := List.all_eq_true.mp this (c - 1) (List.mem_range.mpr (by omega))
  rw [show c - 1 + 1 = c by omega, Bool.and_eq_true] at this
  exact ⟨this.1, of_decide_eq_true this.2⟩
theorem w_lcFilA {α : Type} {mg : MG} {mt : MT} {me : ME} {g0 : Gam} {Q : List Dt → Cells → Prop} {E : EX} (e : α → Dt) (p : α → Bool) (f : α → Dt) {xs : List α} {m : Cells}
    (hs : ∀ x ∈ xs, wO (mg (.d (e x)) g0 m) fun q => wR (mt q.1 q.2) (fun b m2 => (b = true → p x = true ∧ wR (me q.1 m2) (fun v m3 => v = .d (f x) ∧ m3 = m) eNo) ∧ (b = false → p x = false ∧ m2 = m)) eNo)
    (hz : xs.length ≤ 16777216) (he : Q ((xs.filter p).map f) m) : wR (lcLoop mg mt me g0 (xs.map e) [] m) Q E := by
  refine w_lcLoop (fun r acc m' => ∃ a b, xs = a ++ b ∧ r = b.map e ∧ acc = (a.filter p).map f ∧ m' = m) (fun x r acc m' ⟨a, b, e1, e2, e3, e4⟩ => ?_) (fun acc m' ⟨a, b, e1, e2, e3, e4⟩ => ?_) _ [] m ⟨[], xs, rfl, rfl, rfl, rfl⟩
  · subst e4
    cases b with
    | nil => simp at e2
    | cons y b =>
    simp only [List.map_cons, List.cons.injEq] at e2
    obtain ⟨rfl, rfl⟩ := e2
    obtain ⟨q, eq, h1⟩ := wO_ok (hs y (by rw [e1]; simp))
    refine wO_eq eq (wR_mono h1 fun b' m2 ⟨ht, hf⟩ => ⟨fun hb => ?_, fun hb => ?_⟩)
    · obtain ⟨hp, h2⟩ := ht hb
      refine wR_mono h2 fun v m3 h3 => ⟨f y, h3.1, ?_, a ++ [y], b, by rw [e1]; simp, rfl, by rw [e3]; simp [List.filter_append, List.filter_cons, hp], h3.2⟩
      have h4 : a.length + 1 ≤ xs.length := by rw [e1]; simp
      have h5 : (a.filter p).length ≤ a.length := List.length_filter_le _ _
      unfold szOk
      rw [e3, List.length_map]
      exact decide_eq_true (by omega)
    · obtain ⟨hp, rfl⟩ := hf hb
      exact ⟨a ++ [y], b, by rw [e1]; simp, rfl, by rw [e3]; simp [List.filter_append, List.filter_cons, hp], rfl⟩
  · have hb : b = [] := by cases b with | nil => rfl | cons s b => simp at e2
    subst hb
    rw [List.append_nil] at e1
    subst e1 e4
    rw [e3]; exact he
section
variable {m : Cells} {Q : Vl → Cells → Prop} {E : EX}
theorem told_w {c : Nat} {ds : List Dt} (h1 : 1 ≤ c) (h2 : c ≤ 21) : ∃ f, mt_told c = some f ∧ ∀ (m : Cells) (Q : Vl → Cells → Prop) (E : EX), Q (.d (.str ("refused " ++ wordC c))) m → wR (f [.d (.exc c ds)] m) Q E := by
  have : c = 1 ∨ c = 2 ∨ c = 3 ∨ c = 4 ∨ c = 5 ∨ c = 6 ∨ c = 7 ∨ c = 8 ∨ c = 9 ∨ c = 10 ∨ c = 11 ∨ c = 12 ∨ c = 13 ∨ c = 14 ∨ c = 15 ∨ c = 16 ∨ c = 17 ∨ c = 18 ∨ c = 19 ∨ c = 20 ∨ c = 21 := by omega
  rcases this with rfl | rfl | rfl | rfl | rfl | rfl | rfl | rfl | rfl | rfl | rfl | rfl | rfl | rfl | rfl | rfl | rfl | rfl | rfl | rfl | rfl <;>
    exact ⟨_, rfl, fun m Q E q => wR_eq (m' := m.take m.length) rfl (by rw [List.take_length]; exact q)⟩
theorem w_tr {b : Bool} {A B : Prop} (h : b = true) (a : A) : (b = true → A) ∧ (b = false → B) := ⟨fun _ => a, fun e => by rw [h] at e; cases e⟩
open Classical in
theorem wo_plE {d : Dt} {Q : Vl → Prop} (h : plZ 64 d = true) (q : Q (.d (.bl true))) : wO (oPl false m (.d d) (.d d)) Q := by
  refine wo_pl (d := d) (e := d) h h ?_
  rw [show (false != decide (d = d)) = true by simp]; exact q
open Classical in
theorem wo_same {d : Dt} {Q : Vl → Prop} (h : plZ 64 d = true) (q : Q (.d (.bl false))) : wO (oPl true m (.d d) (.d d)) Q := by
  refine wo_pl (d := d) (e := d) h h ?_
  rw [show (true != decide (d = d)) = false by simp]; exact q
theorem wR_xs {mg : MG} {mt : MT} {me : ME} {g0 : Gam} {xs ys : List Dt} {Q : List Dt → Cells → Prop} (e : xs = ys) (h : wR (lcLoop mg mt me g0 ys [] m) Q E) : wR (lcLoop mg mt me g0 xs [] m) Q E := e ▸ h
theorem right_w {c : Nat} {ds : List Dt} (h1 : 1 ≤ c) (h2 : c ≤ 21) (q : Q (.d (.bl true)) m) : wR (FRight [.d (.exc c ds), .d (.str (wordC c))] m) Q E := by
  ((show wR (runFn 2 7 (mRight) _ _) _ _); (refine w_run (g := [_, _, none, none, none, none, none]) (by rfl) rfl ?_); (unfold mRight))
  (refine w_seq (w_asg (w_lstC (w_cons (w_un (w_var rfl ?_))))))
  refine wo_xvI (tb (i := 2) (by decide +kernel) h1 h2) ?_
  (refine w_cons (w_un (w_var rfl ?_)))
  refine wo_xvI (tb (i := 3) (by decide +kernel) h1 h2) ?_
  (refine w_cons (w_un (w_var rfl ?_)))
  refine wo_xvI (tb (i := 4) (by decide +kernel) h1 h2) ?_
  (refine w_cons (w_un (w_var rfl ?_)))
  refine wo_xvI (tb (i := 5) (by decide +kernel) h1 h2) ?_
  (refine w_nil ?_; ((with_reducible apply w_dats); (focus (first | ((simp only [dats, Option.map_some]); rfl) | rfl))); ((with_reducible refine w_sz ?_ ?_); (focus (first | (simp; done) | (simp; omega)))); ((with_reducible refine w_nm ?_); (try simp only [List.set_cons_succ, List.set_cons_zero])); refine w_seq (w_asg ?_))
  refine w_catC ?_
  (refine w_var rfl (w_lst (w_cons (w_un (w_var rfl ?_)))))
  refine wo_xvI (tb (i := 12) (by decide +kernel) h1 h2) ?_
  (refine w_cons (w_un (w_var rfl ?_)))
  refine wo_xvI (tb (i := 15) (by decide +kernel) h1 h2) ?_
  (refine w_cons (w_un (w_var rfl ?_)))
  refine wo_xvI (tb (i := 20) (by decide +kernel) h1 h2) ?_
  (refine w_cons (w_un (w_var rfl ?_)))
  refine wo_xvI (tb (i := 7) (by decide +kernel) h1 h2) ?_
  (refine w_nil ?_; ((with_reducible apply w_dats); (focus (first | ((simp only [dats, Option.map_some]); rfl) | rfl))); ((with_reducible refine w_sz ?_ ?_); (focus (first | (simp; done) | (simp; omega)))))
  refine ⟨[Dt.bl (decide (c = 2)), Dt.bl (decide (c = 3)), Dt.bl (decide (c = 4)), Dt.bl (decide (c = 5))], _, by simp [lstOf, get_last], rfl, by simp, ?_⟩
  (((with_reducible refine w_nm ?_); (try simp only [List.set_cons_succ, List.set_cons_zero])); refine w_seq (w_asg ?_))
  refine w_catC ?_
  (refine w_var rfl (w_lst (w_cons (w_un (w_var rfl ?_)))))
  refine wo_xvI (tb (i := 8) (by decide +kernel) h1 h2) ?_
  (refine w_cons (w_un (w_var rfl ?_)))
  refine wo_xvI (tb (i := 9) (by decide +kernel) h1 h2) ?_
  (refine w_cons (w_un (w_var rfl ?_)))
  refine wo_xvI (tb (i := 10) (by decide +kernel) h1 h2) ?_
  (refine w_cons (w_un (w_var rfl ?_)))
  refine wo_xvI (tb (i := 13) (by decide +kernel) h1 h2) ?_
  (refine w_nil ?_; ((with_reducible apply w_dats); (focus (first | ((simp only [dats, Option.map_some]); rfl) | rfl))); ((with_reducible refine w_sz ?_ ?_); (focus (first | (simp; done) | (simp; omega)))))
  refine ⟨[Dt.bl (decide (c = 2)), Dt.bl (decide (c = 3)), Dt.bl (decide (c = 4)), Dt.bl (decide (c = 5)), Dt.bl (decide (c = 12)), Dt.bl (decide (c = 15)), Dt.bl (decide (c = 20)), Dt.bl (decide (c = 7))], _, by simp [lstOf, get_last], rfl, by simp, ?_⟩
  (((with_reducible refine w_nm ?_); (try simp only [List.set_cons_succ, List.set_cons_zero])); refine w_seq (w_asg ?_))
  refine w_catC ?_
  (refine w_var rfl (w_lst (w_cons (w_un (w_var rfl ?_)))))
  refine wo_xvI (tb (i := 18) (by decide +kernel) h1 h2) ?_
  (refine w_cons (w_un (w_var rfl ?_)))
  refine wo_xvI (tb (i := 1) (by decide +kernel) h1 h2) ?_
  (refine w_cons (w_un (w_var rfl ?_)))
  refine wo_xvI (tb (i := 6) (by decide +kernel) h1 h2) ?_
  (refine w_cons (w_un (w_var rfl ?_)))
  refine wo_xvI (tb (i := 11) (by decide +kernel) h1 h2) ?_
  (refine w_nil ?_; ((with_reducible apply w_dats); (focus (first | ((simp only [dats, Option.map_some]); rfl) | rfl))); ((with_reducible refine w_sz ?_ ?_); (focus (first | (simp; done) | (simp; omega)))))
  refine ⟨[Dt.bl (decide (c = 2)), Dt.bl (decide (c = 3)), Dt.bl (decide (c = 4)), Dt.bl (decide (c = 5)), Dt.bl (decide (c = 12)), Dt.bl (decide (c = 15)), Dt.bl (decide (c = 20)), Dt.bl (decide (c = 7)), Dt.bl (decide (c = 8)), Dt.bl (decide (c = 9)), Dt.bl (decide (c = 10)), Dt.bl (decide (c = 13))], _, by simp [lstOf, get_last], rfl, by simp, ?_⟩
  (((with_reducible refine w_nm ?_); (try simp only [List.set_cons_succ, List.set_cons_zero])); refine w_seq (w_asg ?_))
  refine w_catC ?_
  (refine w_var rfl (w_lst (w_cons (w_un (w_var rfl ?_)))))
  refine wo_xvI (tb (i := 14) (by decide +kernel) h1 h2) ?_
  (refine w_cons (w_un (w_var rfl ?_)))
  refine wo_xvI (tb (i := 17) (by decide +kernel) h1 h2) ?_
  (refine w_cons (w_un (w_var rfl ?_)))
  refine wo_xvI (tb (i := 19) (by decide +kernel) h1 h2) ?_
  (refine w_cons (w_un (w_var rfl ?_)))
  refine wo_xvI (tb (i := 16) (by decide +kernel) h1 h2) ?_
  (refine w_nil ?_; ((with_reducible apply w_dats); (focus (first | ((simp only [dats, Option.map_some]); rfl) | rfl))); ((with_reducible refine w_sz ?_ ?_); (focus (first | (simp; done) | (simp; omega)))))
  refine ⟨[Dt.bl (decide (c = 2)), Dt.bl (decide (c = 3)), Dt.bl (decide (c = 4)), Dt.bl (decide (c = 5)), Dt.bl (decide (c = 12)), Dt.bl (decide (c = 15)), Dt.bl (decide (c = 20)), Dt.bl (decide (c = 7)), Dt.bl (decide (c = 8)), Dt.bl (decide (c = 9)), Dt.bl (decide (c = 10)), Dt.bl (decide (c = 13)), Dt.bl (decide (c = 18)), Dt.bl (decide (c = 1)), Dt.bl (decide (c = 6)), Dt.bl (decide (c = 11))], _, by simp [lstOf, get_last], rfl, by simp, ?_⟩
  (((with_reducible refine w_nm ?_); (try simp only [List.set_cons_succ, List.set_cons_zero])); refine w_seq (w_drop (w_app (w_var rfl ?_))); ((with_reducible apply w_rl); (focus (first | rfl | assumption | (simp only [lstOf, tupOf, dctOf, seqL, isL, Option.or_none, Option.some_or, Option.none_or, *]; done) | ((simp [lstOf, tupOf, dctOf, seqL, isL, *]); (first | done | rfl))))); refine w_cons (w_un (w_var rfl ?_)))
  refine wo_xvI (tb (i := 21) (by decide +kernel) h1 h2) ?_
  (refine w_nil ?_)
  refine w_ad get_last (by simp) ?_
  rw [set_last]
  (refine w_seq (w_asg (w_lst (w_cons (w_c (w_cons (w_c (w_cons (w_c (w_cons (w_c (w_cons (w_c (w_cons (w_c (w_cons (w_c (w_cons (w_c (w_cons (w_c (w_cons (w_c (w_cons (w_c (w_nil ?_))))))))))))))))))))))))); ((with_reducible apply w_dats); (focus (first | ((simp only [dats, Option.map_some]); rfl) | rfl))); ((with_reducible refine w_sz ?_ ?_); (focus (first | (simp; done) | (simp; omega)))); ((with_reducible refine w_nm ?_); (try simp only [List.set_cons_succ, List.set_cons_zero])); refine w_seq (w_asg (w_op (w_var rfl (w_lst (w_cons (w_c (w_cons (w_c (w_cons (w_c (w_cons (w_c (w_cons (w_c (w_cons (w_c (w_cons (w_c (w_cons (w_c (w_cons (w_c (w_cons (w_c (w_nil ?_))))))))))))))))))))))))); ((with_reducible apply w_dats); (focus (first | ((simp only [dats, Option.map_some]); rfl) | rfl))); ((with_reducible refine w_sz ?_ ?_); (focus (first | (simp; done) | (simp; omega)))))
  refine wo_catL rfl rfl (by simp) ?_
  (((with_reducible refine w_nm ?_); (try simp only [List.set_cons_succ, List.set_cons_zero])); refine w_seq (w_asg (w_lc (w_itA (w_cons (w_var rfl (w_cons (w_frzL (w_var rfl ?_)))))))); ((with_reducible apply w_rl); (focus (first | rfl | assumption | (simp only [lstOf, tupOf, dctOf, seqL, isL, Option.or_none, Option.some_or, Option.none_or, *]; done) | ((simp [lstOf, tupOf, dctOf, seqL, isL, *]); (first | done | rfl))))); refine w_nil (wo_zip ?_))
  refine wR_xs (ys := (wordL.zip (kindL.map fun i => decide (c = i))).map fun q => Dt.tup [.str q.1, .bl q.2]) rfl ?_
  refine w_lcFilA (fun q : Str × Bool => Dt.tup [.str q.1, .bl q.2]) (fun q => q.2) (fun q => Dt.str q.1) (fun x hx => ?_) (by simp [wordL]; omega) ?_
  · (((with_reducible refine w_gtp ?_ ?_); (focus (first | rfl | (simp; done)))); refine w_gcons ?_; ((with_reducible refine w_nm ?_); (try simp only [List.set_cons_succ, List.set_cons_zero])); refine w_gcons ?_; ((with_reducible refine w_nm ?_); (try simp only [List.set_cons_succ, List.set_cons_zero])); refine w_gnil (w_test (w_var rfl (w_B ?_))))
    refine ⟨fun h => ⟨h, ?_⟩, fun h => ⟨h, rfl⟩⟩
    (refine w_var rfl ?_)
    exact ⟨rfl, rfl⟩
  rw [filt h1 h2]
  obtain ⟨wk, wl⟩ := word_ok h1 h2
  (((with_reducible refine w_nm ?_); (try simp only [List.set_cons_succ, List.set_cons_zero])); refine w_ret (w_andV (w_op (w_var rfl (w_lst (w_cons (w_var rfl (w_nil ?_))))))); ((with_reducible apply w_dats); (focus (first | ((simp only [dats, Option.map_some]); rfl) | rfl))); ((with_reducible refine w_sz ?_ ?_); (focus (first | (simp; done) | (simp; omega)))))
  have pl : plZ 64 (.lst [.str (wordC c)]) = true := by
    show ([Dt.str (wordC c)].all (plZ 63)) = true
    rw [List.all_cons, List.all_nil, Bool.and_true]
    exact wk
  refine wo_plE pl ?_
  (refine w_B (w_tt (w_andV (w_op ?_))))
  refine w_xvM ?_
  (refine w_var rfl ?_)
  obtain ⟨f, hf, ht⟩ := told_w (ds := ds) h1 h2
  refine ⟨c, ds, f, rfl, hf, ht _ _ _ ?_⟩
  (refine w_op (w_c (w_var rfl ?_)))
  refine wo_catS (by have : ("refused " : Str).length = 8 := rfl; omega) ?_
  (refine wo_eqS (w_B ?_))
  refine w_tr (decide_eq_true rfl) ?_
  (refine w_andV (w_un (w_var rfl ?_)))
  refine wo_xvI (tt (by decide +kernel) h1 h2) ?_
  (refine w_B (w_tt (w_un (w_var rfl ?_))))
  refine wo_xvI (tt (by decide +kernel) h1 h2) ?_
  (refine w_Xd ?_)
  rw [List.take_set, List.set_eq_of_length_le (by rw [List.length_take]; simp)]
  rw [List.append_assoc, List.append_assoc, List.append_assoc, List.append_assoc, List.take_left]
  exact q
end
end K01
namespace K01
open PySem PySem.Spec PyProof.Rows L2 FM
theorem cls_ok {k : Nat} (hk : k < 19) : 1 ≤ clsK k ∧ clsK k ≤ 21 ∧ wordL[k]? = some (wordC (clsK k)) := by
  have : k = 0 ∨ k = 1 ∨ k = 2 ∨ k = 3 ∨ k = 4 ∨ k = 5 ∨ k = 6 ∨ k = 7 ∨ k = 8 ∨ k = 9 ∨ k = 10 ∨ k = 11 ∨ k = 12 ∨ k = 13 ∨ k = 14 ∨ k = 15 ∨ k = 16 ∨ k = 17 ∨ k = 18 := by omega
  rcases this with rfl | rfl | rfl | rfl | rfl | rfl | rfl | rfl | rfl | rfl | rfl | rfl | rfl | rfl | rfl | rfl | rfl | rfl | rfl <;> exact ⟨by decide, by decide, rfl⟩
theorem two_ok : PyData.strOk "twice" = true := by decide +kernel
theorem due_pl {k : Nat} {a : Str} {n : Int} (ha : PyData.strOk a = true) (hk : k < 19) : plZ 64 (dueK k a n) = true := by
  have : k = 0 ∨ k = 1 ∨ k = 2 ∨ k = 3 ∨ k = 4 ∨ k = 5 ∨ k = 6 ∨ k = 7 ∨ k = 8 ∨ k = 9 ∨ k = 10 ∨ k = 11 ∨ k = 12 ∨ k = 13 ∨ k = 14 ∨ k = 15 ∨ k = 16 ∨ k = 17 ∨ k = 18 := by omega
  rcases this with rfl | rfl | rfl | rfl | rfl | rfl | rfl | rfl | rfl | rfl | rfl | rfl | rfl | rfl | rfl | rfl | rfl | rfl | rfl <;> simp [dueK, plZ, ha, two_ok]
theorem wordS {k : Nat} (hk : k < 19) : atI ((wordL.take 19).map Dt.str) ((k : Nat) : Int) = some (.str (wordC (clsK k))) := by
  have h := (cls_ok hk).2.2
  unfold atI ixN
  rw [List.length_map, show (wordL.take 19).length = 19 from rfl, if_pos (by omega), if_pos (by omega), Option.bind_some, List.getElem?_map, Int.toNat_natCast, List.getElem?_take, if_pos hk, h]
  rfl
theorem law_ok (ns : List Int) (hl : ns.length ≤ 63) : FLaw [.d (.scr (ns.map Dt.int))] [] = .ok (.d (.bl true)) [] := by
  suffices h : wR (FLaw [.d (.scr (ns.map Dt.int))] []) (fun v m => v = .d (.bl true) ∧ m = []) eNo by
    obtain ⟨v, m, e, rfl, rfl⟩ := wR_ok h
    exact e
  ((show wR (runFn 1 8 (mLaw) _ _) _ _); (refine w_run (g := [_, none, none, none, none, none, none, none]) (by rfl) rfl ?_); (unfold mLaw))
  (refine w_seq (w_asg (w_lst (w_cons (w_c (w_cons (w_c (w_cons (w_c (w_cons (w_c (w_cons (w_c (w_cons (w_c (w_cons (w_c (w_cons (w_c (w_cons (w_c (w_cons (w_c (w_cons (w_c (w_nil ?_))))))))))))))))))))))))); ((with_reducible apply w_dats); (focus (first | ((simp only [dats, Option.map_some]); rfl) | rfl))); ((with_reducible refine w_sz ?_ ?_); (focus (first | (simp; done) | (simp; omega)))); ((with_reducible refine w_nm ?_); (try simp only [List.set_cons_succ, List.set_cons_zero])); refine w_seq (w_asg (w_op (w_var rfl (w_lst (w_cons (w_c (w_cons (w_c (w_cons (w_c (w_cons (w_c (w_cons (w_c (w_cons (w_c (w_cons (w_c (w_cons (w_c (w_nil ?_))))))))))))))))))))); ((with_reducible apply w_dats); (focus (first | ((simp only [dats, Option.map_some]); rfl) | rfl))); ((with_reducible refine w_sz ?_ ?_); (focus (first | (simp; done) | (simp; omega)))))
  refine wo_catL rfl rfl (by simp) ?_
  (((with_reducible refine w_nm ?_); (try simp only [List.set_cons_succ, List.set_cons_zero])); refine w_seq (w_for (w_itA (w_cons (w_c (w_nil ?_))))))
  refine wo_rng1 (by decide) ?_
  rw [show ((19 : Int)).toNat = 19 from rfl]
  unfold rangeD
  refine w_loop (fun r g m' => ∃ (b : List Nat) (x2 x3 x4 x5 x6 x7 : Option Vl), r = b.map (fun i => Dt.int (0 + (i : Nat))) ∧ (∀ i ∈ b, i < 19) ∧ g = [some (.d (.scr (ns.map Dt.int))), some (.d (.lst ((wordL.take 19).map Dt.str))), x2, x3, x4, x5, x6, x7]) ?_ ?_ _ _ _ ⟨List.range 19, none, none, none, none, none, none, rfl, (fun i hi => List.mem_range.mp hi), rfl⟩
  · rintro d r g M ⟨b, x2, x3, x4, x5, x6, x7, e1, hb, rfl⟩
    cases b with
    | nil => simp at e1
    | cons k b =>
    simp only [List.map_cons, List.cons.injEq] at e1
    obtain ⟨rfl, rfl⟩ := e1
    have hk := hb k (by simp)
    have hb' : ∀ i ∈ b, i < 19 := fun i hi => hb i (List.mem_cons_of_mem _ hi)
    obtain ⟨c1, c2, c3⟩ := cls_ok hk
    rw [show (0 + ((k : Nat) : Int)) = ((k : Nat) : Int) by omega]
    (((with_reducible refine w_nm ?_); (try simp only [List.set_cons_succ, List.set_cons_zero])); refine w_seq (w_asg (w_call (w_cons (w_op (w_call (w_cons (w_var rfl (w_cons (w_var rfl (w_nil ?_)))))))))))
    refine cellat_w fun c => ?_
    (refine w_op (w_c (w_var rfl ?_)))
    refine wo_Ic (by first | exact decide_eq_true (Or.inl ⟨by omega, by omega⟩) | exact decide_eq_true (Or.inr ⟨by omega, by omega⟩)) ?_
    (refine wo_II (w_nil ?_))
    refine state_w fun x hx => ?_
    (((with_reducible refine w_nm ?_); (try simp only [List.set_cons_succ, List.set_cons_zero])); refine w_seq (w_asg (w_op (w_call (w_cons (w_var rfl (w_cons (w_c (w_nil ?_)))))))))
    refine digit_w ⟨x, get_last, hx⟩ (by decide) (by decide) fun r1 xa a0 a1 hxa => ?_
    rw [set_last]
    (refine w_c (wo_eqI ?_); ((with_reducible refine w_nm ?_); (try simp only [List.set_cons_succ, List.set_cons_zero])); refine w_seq (w_asg (w_call (w_cons (w_var rfl (w_nil ?_))))))
    refine word_w ⟨xa, get_last, hxa⟩ fun a xb la hxb => ?_
    rw [set_last]
    (((with_reducible refine w_nm ?_); (try simp only [List.set_cons_succ, List.set_cons_zero])); refine w_seq (w_asg (w_op (w_call (w_cons (w_var rfl (w_cons (w_c (w_nil ?_)))))))))
    refine digit_w ⟨xb, get_last, hxb⟩ (by decide) (by decide) fun r2 xc b0 b1 hxc => ?_
    rw [set_last]
    (refine w_c (wo_II ?_); ((with_reducible refine w_nm ?_); (try simp only [List.set_cons_succ, List.set_cons_zero])); refine w_seq (w_asg (w_call (w_cons (w_var rfl (w_cons (w_var rfl (w_cons (w_var rfl (w_cons (w_var rfl (w_nil ?_))))))))))))
    refine made_w hk ?_
    (((with_reducible refine w_nm ?_); (try simp only [List.set_cons_succ, List.set_cons_zero])); refine w_if (w_or (w_not (w_test (w_call (w_cons (w_var rfl (w_cons (w_op (w_var rfl (w_var rfl ?_)))))))))))
    refine wo_ixL (d := .str (wordC (clsK k))) rfl (wordS hk) ?_
    (refine w_nil ?_)
    refine right_w c1 c2 ?_
    (refine w_B ?_)
    refine ⟨fun h => (by cases h), fun _ => ?_⟩
    (refine w_test (w_op (w_call (w_cons (w_var rfl (w_cons (w_var rfl (w_nil ?_))))))))
    refine fields_w hk ?_
    (refine w_call (w_cons (w_var rfl (w_cons (w_var rfl (w_cons (w_var rfl (w_nil ?_))))))))
    refine due_w hk ?_
    skip
    refine wo_same (due_pl (low_ok la) hk) ?_
    (refine w_B (w_ff (w_next ?_)))
    exact ⟨b, _, _, _, _, _, _, rfl, hb', rfl⟩
  · rintro g M ⟨b, x2, x3, x4, x5, x6, x7, e1, hb, rfl⟩
    (refine w_ret (w_andV (w_call (w_cons (w_exc0 (w_cons (w_c (w_nil ?_))))))))
    refine right_w (c := 16) (by decide) (by decide) ?_
    (refine w_B (w_tt (w_call (w_cons (w_exc0 (w_cons (w_c (w_nil ?_))))))))
    refine right_w (c := 21) (by decide) (by decide) ?_
    (refine w_Xd ?_)
    exact ⟨rfl, by simp⟩
end K01
open PySem PySem.W PySem.Calls PyProof.Rows
set_option maxHeartbeats 0 in
theorem PySem.Challenge.cw_nestkeys_k01_refusals_told_holds : PySem.Challenge.rw_nestkeys_k01_refusals_told.Holds := by
  w_on; o_law
  refine HandSHeadRun.head_any (r := OpenLaw.row PySem.Challenge.rw_nestkeys_k01_refusals_told) (q := view (OpenLaw.row PySem.Challenge.rw_nestkeys_k01_refusals_told).prog [34]) (H := K01.hk) (ob := K01.obz) (M := 9000) (loose := K01.loose) (d := HandSHeadRun.topDef (OpenLaw.row PySem.Challenge.rw_nestkeys_k01_refusals_told).prog 34) (kwd := []) K01.obz_eq
    (by kernel_rfl) (fun s => by kernel_rfl) K01.run (by kernel_rfl) (by kernel_rfl) (by kernel_rfl) (by rfl) (by first | assumption | decide +kernel) (by decide +kernel) ⟨rfl, rfl, rfl, rfl, rfl, by decide +kernel⟩ ?hw ?hc
  case hw => w_witness2
  case hc =>
    refine FM.walkW (l := PySem.Challenge.rw_nestkeys_k01_refusals_told) (n := 63) (k := 5) (x := "_law_script") (CX := fun w => L2N.CX (PySem.Challenge.rw_nestkeys_k01_refusals_told).prog w) rfl (by decide) (by kernel_rfl) ⟨rfl, by decide, by decide⟩ ?F (fun w => FM.cx_none)
    intro w mg fa h Y G hmg0
    obtain ⟨K, KX, c⟩ := Y
    have hmg : mg ("law" : PySem.Str) = some (.ref fa) := by
      have e : (HandSHeadRun.topDef (OpenLaw.row PySem.Challenge.rw_nestkeys_k01_refusals_told).prog 34).name = ("law" : PySem.Str) := by kernel_rfl
      rw [← e]
      exact hmg0
    obtain ⟨fd, hb, hF⟩ := K01.facts (P := (PySem.Challenge.rw_nestkeys_k01_refusals_told).prog) (w := w) KX G hmg c
    exact ⟨K, fd, FM.spFn (K01.TT K) K01.FLaw, KX, hb, fun H a ns hl hS => FM.law_start hS (K01.law_ok ns hl), hF⟩
