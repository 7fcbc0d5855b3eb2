import PyProof.Rows.All
import Wide.All
import OpenK.AllK
import Wide.FinOn
import HandS.ForMost
import HandS.Flow
import HandS.FStr
import HandS.TupAny
import HandS.Steps
import HandS.ForExc
import HandS.ExcInit
import HandS.ExcField
import HandS.Zip
import HandS.OwnEq
import HandS.IsInst
import HandS.CallRecv
import HandS.TryMany
import HandS.Style
import HandS.ExcIs
import HandS.CallLocal
import KE.KExcIs
import HandS.Lambda
import HandS.HotCalls
import KE.KStateDown
import HandS.More
import HandS.Defaults
import HandS.Head0
import HandS.Head1
import HandS.Head2
import HandS.HeadEnd
import HandS.HeadHook1
import HandS.HeadHook2
import HandS.HeadHook4
import HandS.NoneIn
import HandS.SetTxt0
import HandS.Set
import HandS.SetBool
import HandS.SetFor
import HandS.TupSets
import HandS.NestedK
import KE.GoesEnum
import HandS.TupMul
import HandS.Conv
import HandS.WordsDict
import HandS.DictComp
import HandS.SortInts
import HandS.Iter
import HandS.Deep
import HandS.MakeKwOnly
import HandS.Text
import HandS.SetKeys
import KE.KDictZip
import HandS.Dict
import PySem.Challenge.RW_nestkeys_k31_clashes
set_option Elab.async false
set_option linter.all false
set_option maxRecDepth 100000
set_option autoImplicit false
namespace FM
open PySem PySem.Spec PyProof.Rows L2
/-! ### data -/
inductive Dt where
  | non | bl (b : Bool) | int (i : Int) | str (x : Str) | lst (xs : List Dt) | tup (xs : List Dt)
  | dct (ks : List L2.Key) (vs : List Dt) | ins (c : Nat) (fs : List Dt) | glo (i : Nat) | scr (xs : List Dt) | exc (c : Nat) (fs : List Dt)
/-- a lambda that was made: its object, its code object, its name, what stood then -/
structure Lm where
  f : Addr
  c : Addr
  q : Str
  I : Hp
  A : List Addr
/-- a value: data, or a cell, or a lambda -/
inductive Vl where
  | d (d : Dt) | ref (k : Nat) | lam (z : Lm)
instance : Coe Dt Vl := ⟨.d⟩
/-- the shape of a thing whose parts may be cells: an object of a class, a dict, a list, a tuple -/
inductive Shape where
  | cls (c : Nat)
  | dct (ks : List L2.Key)
  | lst
  | tup
instance {n : Nat} : OfNat Shape n := ⟨.cls n⟩
instance : Coe Nat Shape := ⟨.cls⟩
/-- what may change -/
inductive Cell where
  | lst (ds : List Dt)
  | ins (c : Nat) (fs : List Dt)
  | dct (ks : List L2.Key) (vs : List Dt)
  | set (xs : List Str)
  | ob (c : Shape) (fs : List Vl)
def Cell.isOb : Cell → Bool
  | .ob _ _ => true
  | _ => false
abbrev Cells := List (Option Cell)
/-- the tables of a law: its classes, their fields, the things of its top -/
structure Tab where
  K : PySem.W.Frag
  ca : Nat → Addr
  cf : Nat → List Str
  ga : Nat → Addr
  tb : List (Addr × Str) := []
  rich : Bool := false
  so : Addr → List Str → HO := fun _ _ => .tup []
mutual
inductive DR (T : Tab) (I : Hp) : V → Dt → Prop
  | non : DR T I .non .non
  | bl (b : Bool) : DR T I (.bl b) (.bl b)
  | int (i : Int) : DR T I (.int i) (.int i)
  | str (x : Str) : DR T I (.str x) (.str x)
  | glo (i : Nat) : DR T I (.ref (T.ga i)) (.glo i)
  | lst {a : Addr} {xs : List V} {ds : List Dt} : I a = some (.lst xs) → DRs T I xs ds → DR T I (.ref a) (.lst ds)
  | scr {a : Addr} {xs : List V} {ds : List Dt} : SqL T.K I a xs → DRs T I xs ds → DR T I (.ref a) (.scr ds)
  | tup {a : Addr} {xs : List V} {ds : List Dt} : SqT T.K I a xs → DRs T I xs ds → DR T I (.ref a) (.tup ds)
  | dct {a : Addr} {ks : List L2.Key} {xs : List V} {ds : List Dt} : I a = some (.dK (ks.zip xs)) → ks.length = xs.length → DRs T I xs ds → DR T I (.ref a) (.dct ks ds)
  | ins {a dx : Addr} {c : Nat} {xs : List V} {ds : List Dt} : I a = some (.ins (T.ca c) dx ((T.cf c).zip xs)) → xs.length = (T.cf c).length → DRs T I xs ds → DR T I (.ref a) (.ins c ds)
  | exc {a d : Addr} {c : Nat} {xs : List V} {ds : List Dt} : I a = some (exo a (T.ca c) (some d)) → I d = some (.xd ((T.cf c).zip xs)) → xs.length = (T.cf c).length → DRs T I xs ds → DR T I (.ref a) (.exc c ds)
inductive DRs (T : Tab) (I : Hp) : List V → List Dt → Prop
  | nil : DRs T I [] []
  | cons {v : V} {vs : List V} {d : Dt} {ds : List Dt} : DR T I v d → DRs T I vs ds → DRs T I (v :: vs) (d :: ds)
end
theorem same_rd {H H' : Hp} {a : Addr} {u : HO} (e : Same H H') (h : Rd H a u) : Rd H' a u := by
  rcases h with h | ⟨o, h⟩
  · exact .inl (e _ _ h)
  · exact .inr ⟨o, e _ _ h⟩
theorem same_l {K : PySem.W.Frag} {H H' : Hp} {a : Addr} {xs : List V} (e : Same H H') (h : SqL K H a xs) : SqL K H' a xs := by
  rcases h with h | h
  · exact .inl (same_rd e h)
  · exact .inr h
theorem same_t {K : PySem.W.Frag} {H H' : Hp} {a : Addr} {xs : List V} (e : Same H H') (h : SqT K H a xs) : SqT K H' a xs := by
  rcases h with h | h
  · exact .inl (same_rd e h)
  · exact .inr h
theorem pre_get {α : Type} {A A' : List α} (p : A <+: A') {k : Nat} {a : α} (h : A[k]? = some a) : A'[k]? = some a := by
  obtain ⟨t, rfl⟩ := p
  obtain ⟨hl, _⟩ := List.getElem?_eq_some_iff.mp h
  rw [List.getElem?_append_left hl]
  exact h
/-- what is known has grown -/
structure Up (I I' : Hp) (A A' : List Addr) : Prop where
  i : Same I I'
  a : A <+: A'
theorem Up.refl {I : Hp} {A : List Addr} : Up I I A A := ⟨Same.refl I, List.prefix_refl A⟩
theorem Up.trans {I I1 I2 : Hp} {A A1 A2 : List Addr} (h : Up I I1 A A1) (k : Up I1 I2 A1 A2) : Up I I2 A A2 := ⟨h.i.trans k.i, h.a.trans k.a⟩
mutual
theorem DR.mono {T : Tab} {I I' : Hp} (e : Same I I') : ∀ {v : V} {d : Dt}, DR T I v d → DR T I' v d
  | _, _, .non => .non
  | _, _, .bl b => .bl b
  | _, _, .int i => .int i
  | _, _, .str x => .str x
  | _, _, .glo i => .glo i
  | _, _, .lst h hs => .lst (e _ _ h) (DRs.mono e hs)
  | _, _, .scr h hs => .scr (same_l e h) (DRs.mono e hs)
  | _, _, .tup h hs => .tup (same_t e h) (DRs.mono e hs)
  | _, _, .dct h hl hs => .dct (e _ _ h) hl (DRs.mono e hs)
  | _, _, .ins h hl hs => .ins (e _ _ h) hl (DRs.mono e hs)
  | _, _, .exc h h2 hl hs => .exc (e _ _ h) (e _ _ h2) hl (DRs.mono e hs)
theorem DRs.mono {T : Tab} {I I' : Hp} (e : Same I I') : ∀ {vs : List V} {ds : List Dt}, DRs T I vs ds → DRs T I' vs ds
  | _, _, .nil => .nil
  | _, _, .cons h t => .cons (DR.mono e h) (DRs.mono e t)
end
inductive VR (T : Tab) (I : Hp) (A : List Addr) : V → Vl → Prop
  | d {v : V} {d : Dt} : DR T I v d → VR T I A v (.d d)
  | ref {k : Nat} {a : Addr} : A[k]? = some a → VR T I A (.ref a) (.ref k)
  | lam {z : Lm} : I z.c = some (LamX.CodeO z.c z.q) → Up z.I I z.A A → VR T I A (.ref z.f) (.lam z)
inductive VRs (T : Tab) (I : Hp) (A : List Addr) : List V → List Vl → Prop
  | nil : VRs T I A [] []
  | cons {v : V} {vs : List V} {d : Vl} {ds : List Vl} : VR T I A v d → VRs T I A vs ds → VRs T I A (v :: vs) (d :: ds)
theorem VR.mono {T : Tab} {I I' : Hp} {A A' : List Addr} (e : Up I I' A A') {v : V} {d : Vl} (h : VR T I A v d) : VR T I' A' v d := by
  cases h with
  | d h => exact .d (h.mono e.i)
  | ref h => exact .ref (pre_get e.a h)
  | lam h u => exact .lam (e.i _ _ h) (u.trans e)
theorem VRs.mono {T : Tab} {I I' : Hp} {A A' : List Addr} (e : Up I I' A A') {vs : List V} {ds : List Vl} (h : VRs T I A vs ds) : VRs T I' A' vs ds := by
  induction vs generalizing ds with
  | nil => cases h; exact .nil
  | cons v vs ih => cases h with | cons a t => exact .cons (a.mono e) (ih t)
section
variable {T : Tab} {I : Hp} {A : List Addr}
theorem VRs.len {vs : List V} {ds : List Vl} (h : VRs T I A vs ds) : vs.length = ds.length := by
  induction vs generalizing ds with
  | nil => cases h; rfl
  | cons v vs ih => cases h with | cons _ t => rw [List.length_cons, List.length_cons, ih t]
end
section
variable {T : Tab} {I : Hp}
theorem DRs.len {vs : List V} {ds : List Dt} (h : DRs T I vs ds) : vs.length = ds.length := by
  induction vs generalizing ds with
  | nil => cases h; rfl
  | cons v vs ih => cases h with | cons _ t => rw [List.length_cons, List.length_cons, ih t]
theorem DRs.set {vs : List V} {ds : List Dt} {v : V} {d : Dt} (h : DRs T I vs ds) (hv : DR T I v d) (i : Nat) : DRs T I (vs.set i v) (ds.set i d) := by
  induction vs generalizing ds i with
  | nil => cases h; exact .nil
  | cons w vs ih =>
    cases h with
    | cons a t =>
      cases i with
      | zero => exact .cons hv t
      | succ i => exact .cons a (ih t i)
theorem DRs.take {vs : List V} {ds : List Dt} (h : DRs T I vs ds) (n : Nat) : DRs T I (vs.take n) (ds.take n) := by
  induction vs generalizing ds n with
  | nil => cases h; simp; exact .nil
  | cons w vs ih =>
    cases h with
    | cons a t =>
      cases n with
      | zero => exact .nil
      | succ n => exact .cons a (ih t n)
theorem DRs.one {v : V} {d : Dt} (h : DR T I v d) : DRs T I [v] [d] := .cons h .nil
end
/-! ### cells, the state -/
def CellOk (T : Tab) (I H : Hp) (a : Addr) : Cell → Prop
  | .lst ds => ∃ vs, H a = some (.lst vs) ∧ DRs T I vs ds
  | .ins c ds => ∃ dx vs, H a = some (.ins (T.ca c) dx ((T.cf c).zip vs)) ∧ vs.length ≤ (T.cf c).length ∧ DRs T I vs ds
  | .dct ks ds => ∃ vs, H a = some (.dK (ks.zip vs)) ∧ ks.length = vs.length ∧ DRs T I vs ds
  | .set xs => H a = some (T.so a xs) ∧ ∀ ps, T.so a xs ≠ .tbl ps
  | .ob _ _ => ∃ o, H a = some o ∧ ∀ ps, o ≠ .tbl ps
theorem CellOk.mono {T : Tab} {I H I' H' : Hp} {a : Addr} {c : Cell} (h : CellOk T I H a c) (e : Same I I') (k : ∀ o, H a = some o → H' a = some o) : CellOk T I' H' a c := by
  cases c with
  | lst ds => obtain ⟨vs, h1, h2⟩ := h; exact ⟨vs, k _ h1, h2.mono e⟩
  | ins c ds => obtain ⟨dx, vs, h1, h2, h3⟩ := h; exact ⟨dx, vs, k _ h1, h2, h3.mono e⟩
  | dct ks ds => obtain ⟨vs, h1, h2, h3⟩ := h; exact ⟨vs, k _ h1, h2, h3.mono e⟩
  | set xs => exact ⟨k _ h.1, h.2⟩
  | ob c fs => obtain ⟨o, h1, h2⟩ := h; exact ⟨o, k _ h1, h2⟩
/-- what stands beside: things that may change, which nobody here names -/
abbrev Frm := List (Addr × HO)
/-- the tables of code objects -/
structure Tbs (T : Tab) (F : Frm) (I H : Hp) : Prop where
  it : ∀ b ps, I b ≠ some (.tbl ps)
  ft : ∀ q ∈ F, ∀ ps, q.2 ≠ .tbl ps
  ok : ∀ p ∈ T.tb, ∃ ps, H p.1 = some (.tbl ps) ∧ TriplesOk ps.toList ∧ ∀ (pos : Pos) (cv : Value), codeAmong pos ps.toList = some cv → ∃ c, cv = .ref c ∧ I c = some (LamX.CodeO c p.2)
section
variable {T : Tab} {F : Frm} {I H : Hp}
theorem Tbs.upd (t : Tbs T F I H) {a : Addr} {o : HO} (h : ∀ ps, H a ≠ some (.tbl ps)) : Tbs T F I (upd H a o) := ⟨t.it, t.ft, fun p hp => by
  obtain ⟨ps, h1, h2⟩ := t.ok p hp
  exact ⟨ps, by rw [upd_ne (fun e => h ps (by rw [← e]; exact h1))]; exact h1, h2⟩⟩
theorem Tbs.see (t : Tbs T F I H) {a : Addr} {o : HO} (hI : I a = none) (ho : ∀ ps, o ≠ .tbl ps) : Tbs T F (L2.upd I a o) H := by
  have e : Same I (L2.upd I a o) := fun b x q => by rw [upd_ne (ne_of_none q hI)]; exact q
  refine ⟨fun b ps q => ?_, t.ft, fun p hp => ?_⟩
  · by_cases hb : b = a
    · subst hb; rw [upd_same] at q; exact ho ps (Option.some.inj q)
    · rw [upd_ne hb] at q; exact t.it b ps q
  · obtain ⟨ps, h1, h2, h3⟩ := t.ok p hp
    refine ⟨ps, h1, h2, fun pos cv hc => ?_⟩
    obtain ⟨c, e1, e2⟩ := h3 pos cv hc
    exact ⟨c, e1, e _ _ e2⟩
theorem Tbs.fm (t : Tbs T F I H) {G : Frm} (h : ∀ q ∈ G, ∀ ps, q.2 ≠ .tbl ps) : Tbs T G I H := ⟨t.it, h, t.ok⟩
end
/-- what stands there for such a thing -/
def hob (T : Tab) (dx : Addr) (vs : List V) : Shape → HO
  | .cls c => .ins (T.ca c) dx ((T.cf c).zip vs)
  | .dct ks => .dK (ks.zip vs)
  | .lst => .lst vs
  | .tup => .tup vs
def lob (T : Tab) (n : Nat) : Shape → Prop
  | .cls c => n ≤ (T.cf c).length
  | .dct ks => ks.length = n
  | _ => True
/-- things whose parts may be cells -/
def ObsOk (T : Tab) (I H : Hp) (A : List Addr) (m : Cells) : Prop := ∀ (k : Nat) (c : Shape) (fs : List Vl) (a : Addr), m[k]? = some (some (.ob c fs)) → A[k]? = some a →
  T.rich = true ∧ ∃ dx vs, H a = some (hob T dx vs c) ∧ lob T vs.length c ∧ VRs T I A vs fs ∧ ∀ z, Vl.lam z ∉ fs
theorem ObsOk.mono {T : Tab} {I H I' H' : Hp} {A A' : List Addr} {m m' : Cells} (h : ObsOk T I H A m) (e : Up I I' A A') (hm : ∀ (k : Nat) (c : Shape) (fs : List Vl) (a : Addr), m'[k]? = some (some (.ob c fs)) → A'[k]? = some a → m[k]? = some (some (.ob c fs)) ∧ A[k]? = some a ∧ H' a = H a) : ObsOk T I' H' A' m' := fun k c fs a h1 h2 => by
  obtain ⟨h3, h4, h5⟩ := hm k c fs a h1 h2
  obtain ⟨r, dx, vs, q1, q2, q3, q4⟩ := h k c fs a h3 h4
  exact ⟨r, dx, vs, by rw [h5]; exact q1, q2, q3.mono e, q4⟩
/-- no object below n has a field from n on -/
def Clo (n : Nat) (m : Cells) : Prop := ∀ (k : Nat) (c : Shape) (fs : List Vl) (j : Nat), k < n → m[k]? = some (some (.ob c fs)) → Vl.ref j ∈ fs → j < n
theorem VR.take {T : Tab} {I : Hp} {A : List Addr} {n : Nat} {v : V} {d : Vl} (h : VR T I A v d) (hd : ∀ j, d = .ref j → j < n) (hl : ∀ z, d ≠ .lam z) : VR T I (A.take n) v d := by
  cases h with
  | d h => exact .d h
  | ref h => exact .ref (by rw [List.getElem?_take_of_lt (hd _ rfl)]; exact h)
  | lam _ _ => exact absurd rfl (hl _)
theorem VRs.take {T : Tab} {I : Hp} {A : List Addr} {n : Nat} {vs : List V} {ds : List Vl} (h : VRs T I A vs ds) (hd : ∀ j, Vl.ref j ∈ ds → j < n) (hl : ∀ z, Vl.lam z ∉ ds) : VRs T I (A.take n) vs ds := by
  induction vs generalizing ds with
  | nil => cases h; exact .nil
  | cons v vs ih =>
    cases h with
    | cons a t => exact .cons (a.take (fun j e => hd j (by rw [e]; simp)) (fun z e => hl z (by rw [e]; simp))) (ih t (fun j hj => hd j (List.mem_cons_of_mem _ hj)) fun z hz => hl z (List.mem_cons_of_mem _ hz))
theorem app_ob {A : List Addr} {m : Cells} {c : Cell} {p : Addr} (hl : A.length = m.length) (hc : c.isOb = false) {k : Nat} {c' : Shape} {fs : List Vl} {a : Addr} (h1 : (m ++ [some c])[k]? = some (some (.ob c' fs))) (h2 : (A ++ [p])[k]? = some a) : m[k]? = some (some (.ob c' fs)) ∧ A[k]? = some a := by
  by_cases hk : k < m.length
  · rw [List.getElem?_append_left hk] at h1
    rw [List.getElem?_append_left (by omega)] at h2
    exact ⟨h1, h2⟩
  · have : k = m.length := by
      have := (List.getElem?_eq_some_iff.mp h1).1
      simp at this; omega
    subst this
    simp at h1
    subst h1
    cases hc
theorem set_ob {m : Cells} {o : Option Cell} {i : Nat} (hc : ∀ c fs, o ≠ some (.ob c fs)) {k : Nat} {c' : Shape} {fs : List Vl} (h1 : (m.set i o)[k]? = some (some (.ob c' fs))) : k ≠ i ∧ m[k]? = some (some (.ob c' fs)) := by
  by_cases hk : i = k
  · subst hk
    have hl := (List.getElem?_eq_some_iff.mp h1).1
    rw [List.length_set] at hl
    rw [List.getElem?_set_self hl] at h1
    exact absurd (Option.some.inj h1) (hc c' fs)
  · rw [List.getElem?_set_ne hk] at h1
    exact ⟨fun e => hk e.symm, h1⟩
structure Base (T : Tab) (F : Frm) (I H : Hp) (A : List Addr) (m : Cells) : Prop where
  sub : Same I H
  fm : ∀ q ∈ F, H q.1 = some q.2 ∧ q.1 ∉ A ∧ I q.1 = none
  fnd : (F.map (·.1)).Nodup
  len : A.length = m.length
  nd : A.Nodup
  al : ∀ a ∈ A, H a ≠ none
  fr : ∀ (k : Nat) (c : Cell) (a : Addr), m[k]? = some (some c) → A[k]? = some a → I a = none
  ok : ∀ (k : Nat) (c : Cell) (a : Addr), m[k]? = some (some c) → A[k]? = some a → CellOk T I H a c
  tbs : Tbs T F I H
  obs : ObsOk T I H A m
theorem nt_none {H : Hp} {a : Addr} (h : H a = none) : ∀ ps, H a ≠ some (.tbl ps) := fun ps e => by rw [h] at e; cases e
abbrev Gam := List (Option Vl)
structure Ctx (T : Tab) (I : Hp) (A : List Addr) (σ : L2.St) (g : Gam) : Prop where
  len : σ.length = g.length
  look : ∀ (i : Nat) (d : Vl), g[i]? = some (some d) → ∃ v, σ[i]? = some (some v) ∧ VR T I A v d
theorem Ctx.mono {T : Tab} {I I' : Hp} {A A' : List Addr} {σ : L2.St} {g : Gam} (h : Ctx T I A σ g) (e : Up I I' A A') : Ctx T I' A' σ g := ⟨h.len, fun i d q => by
  obtain ⟨v, h1, h2⟩ := h.look i d q
  exact ⟨v, h1, h2.mono e⟩⟩
theorem Ctx.set {T : Tab} {I : Hp} {A : List Addr} {σ : L2.St} {g : Gam} {i : Nat} {v : V} {d : Vl} (h : Ctx T I A σ g) (hv : VR T I A v d) : Ctx T I A (σ.set i (some v)) (g.set i (some d)) := ⟨by rw [List.length_set, List.length_set, h.len], fun j e q => by
  by_cases hj : i = j
  · subst hj
    have hl : i < g.length := by
      by_cases hl : i < g.length
      · exact hl
      · rw [List.getElem?_eq_none (by rw [List.length_set]; omega)] at q
        cases q
    rw [List.getElem?_set_self hl] at q
    rw [List.getElem?_set_self (by rw [h.len]; exact hl)]
    cases q
    exact ⟨v, rfl, hv⟩
  · rw [List.getElem?_set_ne hj] at q
    rw [List.getElem?_set_ne hj]
    exact h.look j e q⟩
/-- the caught exception: its slot, its address, its dict, its class, its fields -/
structure Xc where
  i : Nat
  a : Addr
  d : Addr
  c : Nat
  ds : List Dt
def XcOk (T : Tab) (I : Hp) (A : List Addr) (σ : L2.St) : Option Xc → Prop
  | none => True
  | some z => σ[z.i]? = some (some (.ref z.a)) ∧ ∃ vs, I z.d = some (.xd ((T.cf z.c).zip vs)) ∧ vs.length = (T.cf z.c).length ∧ DRs T I vs z.ds
def xfree : Option Xc → Nat → Bool
  | none, _ => true
  | some z, j => z.i != j
theorem XcOk.mono {T : Tab} {I I' : Hp} {A A' : List Addr} {σ : L2.St} {x : Option Xc} (h : XcOk T I A σ x) (e : Up I I' A A') : XcOk T I' A' σ x := by
  cases x with
  | none => trivial
  | some z =>
    obtain ⟨h1, vs, h2, h3, h4⟩ := h
    exact ⟨h1, vs, e.i _ _ h2, h3, h4.mono e.i⟩
theorem XcOk.set {T : Tab} {I : Hp} {A : List Addr} {σ : L2.St} {x : Option Xc} {j : Nat} {v : Option V} (h : XcOk T I A σ x) (hj : xfree x j = true) : XcOk T I A (σ.set j v) x := by
  cases x with
  | none => trivial
  | some z =>
    obtain ⟨h1, h2⟩ := h
    refine ⟨?_, h2⟩
    rw [List.getElem?_set_ne (fun e => by simp [xfree, e] at hj)]
    exact h1
/-- where one stands: from (I0, A0) on -/
structure Bs where
  F : Frm
  I : Hp
  A : List Addr
structure Rel (T : Tab) (x : Option Xc) (B : Bs) (g : Gam) (S : List Vl) (m : Cells) (σ : L2.St) (vs : List V) (H I : Hp) (A : List Addr) : Prop where
  base : Base T B.F I H A m
  up : Up B.I I B.A A
  ctx : Ctx T I A σ g
  stk : VRs T I A vs S
  xc : XcOk T I A σ x
section
variable {T : Tab} {x : Option Xc} {B : Bs} {F : Frm} {g g' : Gam} {S : List Vl} {m m' : Cells} {σ σ' : L2.St} {vs : List V} {H H' I I' : Hp} {A A' : List Addr}
theorem Rel.sub (r : Rel T x B g S m σ vs H I A) : Same I H := r.base.sub
theorem Rel.top {v : V} {d : Vl} (r : Rel T x B g (d :: S) m σ (v :: vs) H I A) : VR T I A v d := by cases r.stk with | cons h _ => exact h
theorem Rel.slot (r : Rel T x B g S m σ vs H I A) {i : Nat} {v : V} {d : Vl} (h : VR T I A v d) (hx : xfree x i = true) : Rel T x B (g.set i (some d)) S m (σ.set i (some v)) vs H I A := { r with ctx := r.ctx.set h, xc := r.xc.set hx }
theorem Rel.from {I1 : Hp} {A1 : List Addr} (r : Rel T x ⟨B.F, I1, A1⟩ g S m σ vs H I A) (e : Up B.I I1 B.A A1) : Rel T x B g S m σ vs H I A := ⟨r.base, e.trans r.up, r.ctx, r.stk, r.xc⟩
theorem none_of_sub {I H : Hp} {p : Addr} (h : Same I H) (hp : H p = none) : I p = none := by
  cases e : I p with
  | none => rfl
  | some o => rw [h p o e] at hp; cases hp
theorem same_upd {H : Hp} {p : Addr} {o : HO} (h : H p = none) : Same H (upd H p o) := fun b x e => by
  rw [upd_ne (ne_of_none e h)]
  exact e
theorem upd_some {H : Hp} {p a : Addr} {o : HO} (h : H a ≠ none) : upd H p o a ≠ none := by
  by_cases ha : a = p
  · subst ha; rw [upd_same]; exact fun z => nomatch z
  · rw [upd_ne ha]; exact h
/-- a new thing that never changes -/
theorem Base.new (b : Base T F I H A m) {p : Addr} {o : HO} (hp : H p = none) (ho : ∀ ps, o ≠ .tbl ps := by exact fun _ z => nomatch z) : Base T F (upd I p o) (upd H p o) A m ∧ Up I (upd I p o) A A := by
  have hI := none_of_sub b.sub hp
  have e : Up I (upd I p o) A A := ⟨same_upd hI, List.prefix_refl A⟩
  have ne : ∀ a ∈ A, a ≠ p := fun a ha z => b.al a ha (by rw [z]; exact hp)
  refine ⟨⟨fun a u q => ?_, fun q hq => by
    obtain ⟨f1, f2, f3⟩ := b.fm q hq
    have hne := ne_of_none f1 hp
    exact ⟨by rw [upd_ne hne]; exact f1, f2, by rw [upd_ne hne]; exact f3⟩, b.fnd, b.len, b.nd, fun a ha => upd_some (b.al a ha), fun k c a h1 h2 => ?_, fun k c a h1 h2 => (b.ok k c a h1 h2).mono e.i fun o q => by rw [upd_ne (ne_of_none q hp)]; exact q, (b.tbs.upd (nt_none hp)).see hI ho, b.obs.mono e fun k c fs a h1 h2 => ⟨h1, h2, upd_ne (ne a (List.mem_of_getElem? h2))⟩⟩, e⟩
  · by_cases ha : a = p
    · subst ha; rw [upd_same] at q ⊢; exact q
    · rw [upd_ne ha] at q ⊢; exact b.sub a u q
  · rw [upd_ne (ne a (List.mem_of_getElem? h2))]
    exact b.fr k c a h1 h2
/-- a new thing that may change: a new cell -/
theorem Base.newC (b : Base T F I H A m) {p : Addr} {o : HO} {c : Cell} (hp : H p = none) (hc : CellOk T I (upd H p o) p c) (hob : c.isOb = false := by rfl) : Base T F I (upd H p o) (A ++ [p]) (m ++ [some c]) ∧ Up I I A (A ++ [p]) := by
  have e : Up I I A (A ++ [p]) := ⟨Same.refl I, List.prefix_append A [p]⟩
  have ne : ∀ a ∈ A, a ≠ p := fun a ha z => b.al a ha (by rw [z]; exact hp)
  have hI := none_of_sub b.sub hp
  refine ⟨⟨b.sub.trans (same_upd hp), fun q hq => by
    obtain ⟨f1, f2, f3⟩ := b.fm q hq
    have hne := ne_of_none f1 hp
    refine ⟨by rw [upd_ne hne]; exact f1, fun h => ?_, f3⟩
    rcases List.mem_append.mp h with h | h
    · exact f2 h
    · exact hne (List.mem_singleton.mp h), b.fnd, by simp [b.len], ?_, fun a ha => ?_, fun k c' a h1 h2 => ?_, fun k c' a h1 h2 => ?_, b.tbs.upd (nt_none hp), b.obs.mono e fun k c' fs a h1 h2 => by
      obtain ⟨q1, q2⟩ := app_ob b.len hob h1 h2
      exact ⟨q1, q2, upd_ne (ne a (List.mem_of_getElem? q2))⟩⟩, e⟩
  · refine List.nodup_append.mpr ⟨b.nd, by simp, fun a ha z hz => ?_⟩
    rw [List.mem_singleton.mp hz]
    exact ne a ha
  · rcases List.mem_append.mp ha with h | h
    · exact upd_some (b.al a h)
    · rw [List.mem_singleton.mp h, upd_same]; exact fun z => nomatch z
  · by_cases hk : k < m.length
    · rw [List.getElem?_append_left hk] at h1
      rw [List.getElem?_append_left (by rw [b.len]; exact hk)] at h2
      exact b.fr k c' a h1 h2
    · have : k = m.length := by
        have := (List.getElem?_eq_some_iff.mp h1).1
        simp at this; omega
      subst this
      rw [← b.len] at h2
      simp at h2
      rw [← h2]; exact hI
  · by_cases hk : k < m.length
    · rw [List.getElem?_append_left hk] at h1
      rw [List.getElem?_append_left (by rw [b.len]; exact hk)] at h2
      exact (b.ok k c' a h1 h2).mono e.i fun o q => by rw [upd_ne (ne_of_none q hp)]; exact q
    · have : k = m.length := by
        have := (List.getElem?_eq_some_iff.mp h1).1
        simp at this; omega
      subst this
      rw [← b.len] at h2
      simp at h1 h2
      subst h1 h2
      exact hc.mono e.i fun o q => q
/-- the later cells are forgotten -/
theorem Base.take (b : Base T F I H A m) (n : Nat) (hc : Clo n m) : Base T F I H (A.take n) (m.take n) := by
  have g1 : ∀ {α : Type} {l : List α} {k : Nat} {c : α}, (l.take n)[k]? = some c → l[k]? = some c := fun {α l k c} h => by
    by_cases hk : k < n
    · rw [List.getElem?_take_of_lt hk] at h; exact h
    · rw [List.getElem?_eq_none (by rw [List.length_take]; omega)] at h; cases h
  exact ⟨b.sub, fun q hq => ⟨(b.fm q hq).1, fun h => (b.fm q hq).2.1 (List.mem_of_mem_take h), (b.fm q hq).2.2⟩, b.fnd, by rw [List.length_take, List.length_take, b.len], (List.take_sublist n A).nodup b.nd, fun a ha => b.al a (List.mem_of_mem_take ha), fun k c a h1 h2 => b.fr k c a (g1 h1) (g1 h2), fun k c a h1 h2 => b.ok k c a (g1 h1) (g1 h2), b.tbs, fun k c fs a h1 h2 => by
    obtain ⟨r, dx, vs, q1, q2, q3, q4⟩ := b.obs k c fs a (g1 h1) (g1 h2)
    have hk : k < n := by
      have := (List.getElem?_eq_some_iff.mp h1).1
      rw [List.length_take] at this; omega
    exact ⟨r, dx, vs, q1, q2, q3.take (fun j hj => hc k c fs j hk (g1 h1) hj) q4, q4⟩⟩
end
end FM
namespace FM
open PySem PySem.Spec PyProof.Rows L2
/-! ### what a piece of text gives -/
inductive Rs (α : Type) where
  | ok (a : α) (m : Cells)
  | ex (c : Nat) (fs : List Dt) (m : Cells)
  | bad
inductive Out where
  | nx (g : Gam) (m : Cells)
  | rt (v : Vl) (m : Cells)
  | bk (g : Gam) (m : Cells)
  | ct (g : Gam) (m : Cells)
  | ex (c : Nat) (fs : List Dt) (g : Gam) (m : Cells)
  | bad
abbrev ME := Gam → Cells → Rs Vl
abbrev MT := Gam → Cells → Rs Bool
abbrev MA := Gam → Cells → Rs (List Vl)
abbrev MS := Gam → Cells → Out
abbrev Fn := List Vl → Cells → Rs Vl
def Rs.then {α : Type} (g : Gam) (r : Rs α) (k : α → Cells → Out) : Out := match r with
  | .ok a m => k a m
  | .ex c fs m => .ex c fs g m
  | .bad => .bad
/-- the context of a reading: tables, caught exception, wish of what is raised -/
structure Fc where
  T : Tab
  x : Option Xc
  W : WX
section
variable (C : Fc) (B : Bs) (g : Gam) (S : List Vl) (σ : L2.St) (vs : List V)
end
/-! ### readings by readings -/
section
variable {X : Cx} {e : Expr} {es : List Expr} {st : Stmt} {ss : List Stmt}
end
/-! ### expressions -/
section
variable {X : Cx} {C : Fc} {e : Expr} {ma mb mc : ME}
/-! ### arguments -/
/-! ### tests -/
end
end FM
namespace FM
open PySem PySem.Spec PyProof.Rows L2
/-! ### targets -/
abbrev MG := Vl → Gam → Cells → Option (Gam × Cells)
abbrev MGs := List Dt → Gam → Cells → Option (Gam × Cells)
section
variable {X : Cx} {C : Fc} {e : Expr} {es : List Expr} {mg : MG} {mr : MGs}
end
/-! ### statements -/
abbrev MI := Gam → Cells → Rs (List Dt)
section
variable {X : Cx} {C : Fc} {e : Expr} {st : Stmt} {ss : List Stmt} {me : ME} {mg : MG} {s t : MS} {c : MT}
/-! ### what is walked -/
end
end FM
namespace FM
open PySem PySem.Spec PyProof.Rows L2
/-! ### displays, calls of built-ins -/
section
variable {X : Cx} {C : Fc} {e : Expr} {ma : MA}
end
/-! ### list comprehensions -/
section
variable {X : Cx} {C : Fc} {e : Expr} {st : Stmt} {mi : MI} {mg : MG} {mt : MT} {me : ME} {own js : List Nat} {tg : TG}
end
/-! ### defs -/
/-- no object below is changed or new -/
def Obs (m m' : Cells) : Prop := m.length ≤ m'.length ∧ ∀ (k : Nat) (c : Shape) (fs : List Vl), k < m.length → m'[k]? = some (some (.ob c fs)) → ∃ c0 fs0, m[k]? = some (some (.ob c0 fs0)) ∧ ∀ j, Vl.ref j ∈ fs → Vl.ref j ∈ fs0
def Qr {α : Type} (m : Cells) : Rs α → Prop
  | .ok _ m' => Obs m m'
  | .ex _ _ m' => Obs m m'
  | .bad => True
def Qo (m : Cells) : Out → Prop
  | .nx _ m' => Obs m m'
  | .rt _ m' => Obs m m'
  | .bk _ m' => Obs m m'
  | .ct _ m' => Obs m m'
  | .ex _ _ _ m' => Obs m m'
  | .bad => True
def Qf (f : Fn) : Prop := ∀ es m, Qr m (f es m)
section
variable {X : Cx} {C : Fc} {e : Expr} {ma : MA}
end
end FM
namespace NK
open PySem PySem.Spec PyProof.Rows L2
/-! ### rules of the machine by name -/
end NK
namespace NK
open PySem PySem.Spec PyProof.Rows L2
section
variable {X : Cx}
end
end NK
namespace NK
open PySem PySem.Spec PyProof.Rows L2
/-! ### list or tuple, walked -/
end NK
namespace NK
open PySem PySem.Spec PyProof.Rows L2
/-- what __init__ does that stores its arguments as fields -/
def spInit (K : PySem.W.Frag) (fs : List Str) : Sp := fun vs H Q _ => ∃ (a C : Addr) (ws : List V), vs = .ref a :: ws ∧ ws.length = fs.length ∧ OexC K C ∧ (∀ f ∈ fs, PySem.W.findIn K (.ref C) f = some none) ∧ H a = some (exo a C none) ∧
  ∀ dx H', H dx = none → dx ≠ a → H' a = some (exo a C (some dx)) → H' dx = some (exd dx (fs.zip ws).reverse) → (∀ b, b ≠ a → b ≠ dx → H' b = H b) → Q .non H'
end NK
namespace NK
open PySem PySem.Spec PyProof.Rows L2
/-! ### rules for raise and try -/
section
variable {X : Cx}
/-- an own exception class whose __init__ stores its arguments -/
structure ExC (P : Program) (w : World) (K : PySem.W.Frag) (mg : Str → Option Value) (base : Heap) (k : Nat) (x : Str) (Cc : Addr) (ps fs : List Str) : Prop where
  T : OexC K Cc
  g : mg x = some (.ref Cc)
  ini : ∃ (fI : Addr) (fd : FuncData), PySem.W.findIn K (.ref Cc) "__init__" = some (some (.ref fI)) ∧ PySem.W.typeIn K (.ref fI) = some (.type "function") ∧ FnOk P w K mg base CX0 k fI fd ps (spInit K fs) ∧ Binds K fd ps []
  no : ∀ f ∈ fs, PySem.W.findIn K (.ref Cc) f = some none
  xf : XfC K Cc
  te : PySem.W.exmOne K (.ref Cc) (.ref Cc) = some true
/-- what the data's side asks of the class -/
structure ExD (K : PySem.W.Frag) (Cc : Addr) (fs : List Str) : Prop where
  T : OexC K Cc
  no : ∀ f ∈ fs, PySem.W.findIn K (.ref Cc) f = some none
  te : PySem.W.exmOne K (.ref Cc) (.ref Cc) = some true
theorem ExC.d {P : Program} {w : World} {K : PySem.W.Frag} {mg : Str → Option Value} {base : Heap} {k : Nat} {x : Str} {Cc : Addr} {ps fs : List Str} (c : ExC P w K mg base k x Cc ps fs) : ExD K Cc fs := ⟨c.T, c.no, c.te⟩
end
end NK
namespace NQ
open PySem PySem.SeqAt
open AutoSeq1 (wpAny_loadPart')
open MeetsSeq MeetsSeq2 MeetsSeq3 SeqRoads2
open GQ (FinOf call_here)
section
variable {prog : Program} {w : World} {A : Around} {R : Result → Shared → Prop}
end
end NQ
namespace NQ
open PySem PySem.SeqAt
open AutoSeq1 (wpAny_loadPart')
open MeetsSeq MeetsSeq2 MeetsSeq3 SeqRoads2
open GQ (FinOf call_here)
section
variable {prog : Program} {w : World} {A : Around} {R : Result → Shared → Prop}
end
section
variable {prog : Program} {w : World} {A : Around} {E : Value → Shared → Prop} {s : Shared}
end
end NQ
namespace NK
open PySem PySem.Spec PyProof.Rows L2
def opN : Bool → CmpOp
  | true => .NotEq
  | false => .Eq
end NK
namespace NK
open PySem PySem.Spec PyProof.Rows L2
section
variable {X : Cx}
end
end NK
namespace FM
open PySem PySem.Spec PyProof.Rows L2
/-! ### operations -/
section
variable {T : Tab}
/-! ### texts -/
/-! ### lists and tuples, read -/
/-! ### built-ins -/
end
end FM
namespace FM
open PySem PySem.Spec PyProof.Rows L2
/-! ### what is walked, by arguments -/
section
variable {X : Cx} {C : Fc} {e : Expr} {ma : MA} {me mb mc : ME}
/-! ### slices -/
/-! ### is None; chains; truth -/
/-! ### methods of list cells -/
end
end FM
namespace FM
open PySem PySem.Spec PyProof.Rows L2
/-! ### instances -/
section
variable {T : Tab} {F : Frm} {I H I' H' : Hp} {A A' : List Addr} {m m' : Cells}
/-- a new thing that nobody names -/
theorem Base.junk (b : Base T F I H A m) {p : Addr} {o : HO} (hp : H p = none) : Base T F I (upd H p o) A m := by
  refine ⟨b.sub.trans (same_upd hp), fun q hq => ?_, b.fnd, b.len, b.nd, fun a ha => upd_some (b.al a ha), b.fr, fun k c a h1 h2 => (b.ok k c a h1 h2).mono (Same.refl I) fun o q => by rw [upd_ne (ne_of_none q hp)]; exact q, b.tbs.upd (nt_none hp), b.obs.mono Up.refl fun k c fs a h1 h2 => ⟨h1, h2, upd_ne fun z => b.al a (List.mem_of_getElem? h2) (by rw [z]; exact hp)⟩⟩
  obtain ⟨f1, f2, f3⟩ := b.fm q hq
  exact ⟨by rw [upd_ne (ne_of_none f1 hp)]; exact f1, f2, f3⟩
theorem Base.made (b : Base T F I H A m) {x dx : Addr} (c : Nat) (nx : H x = none) (nd : H dx = none) (ne : dx ≠ x) : Base T F I (upd (upd H dx (.own x)) x (.ins (T.ca c) dx [])) (A ++ [x]) (m ++ [some (.ins c [])]) ∧ Up I I A (A ++ [x]) := by
  refine (b.junk nd).newC (c := .ins c []) (by rw [upd_ne (Ne.symm ne)]; exact nx) ⟨dx, [], ?_, Nat.zero_le _, .nil⟩
  rw [upd_same, List.zip_nil_right]
end
end FM
namespace FM
open PySem PySem.Spec PyProof.Rows L2
/-! ### raise -/
end FM
namespace FM
open PySem PySem.Spec PyProof.Rows L2
/-! ### == of data, own classes among them -/
mutual
def okD : Dt → Bool
  | .non => true | .bl _ => true | .int _ => true | .str _ => true
  | .lst xs => oksD xs | .tup xs => oksD xs | .ins _ fs => oksD fs
  | _ => false
def oksD : List Dt → Bool
  | [] => true
  | d :: ds => okD d && oksD ds
end
section
variable {X : Cx} {pins : List (Addr × Obj)} {σ : L2.St} {H I : Hp} {s : Shared} {T : Tab}
mutual
/-- the classes in data are known ones -/
def insD (N : Nat) : Dt → Bool
  | .lst xs => inssD N xs | .tup xs => inssD N xs | .ins c fs => decide (c < N) && inssD N fs
  | .dct _ xs => inssD N xs | .scr xs => inssD N xs
  | _ => true
def inssD (N : Nat) : List Dt → Bool
  | [] => true
  | d :: ds => insD N d && inssD N ds
end
variable {N : Nat}
end
/-- how two data compare -/
abbrev Dq := Dt → Dt → Bool → Prop
/-- the heap has grown -/
def Grow (X : Cx) (pins : List (Addr × Obj)) (σ : L2.St) (T : Tab) (F : Frm) (I : Hp) (L : List Addr) (m : Cells) (s' : Shared) : Prop := ∃ I' H', Inv X pins σ H' s' ∧ Base T F I' H' L m ∧ Same I I'
def EqK (X : Cx) (T : Tab) (n : Nat) (D : Dq) : Prop := ∀ (A : Around) (pins : List (Addr × Obj)) (s : Shared) (σ : L2.St) (F : Frm) (H I : Hp) (L : List Addr) (m : Cells) (x y : V) (u v : Value) (d1 d2 : Dt) (b : Bool), L2.Sub X n A → Inv X pins σ H s → Base T F I H L m → DR T I x d1 → DR T I y d2 → RelV x u → RelV y v → D d1 d2 b →
  wpAny (model X.prog X.w) A (eqBool u v) (fun r s' => r = b ∧ Grow X pins σ T F I L m s') X.xe s
def RcK (X : Cx) (T : Tab) (n : Nat) (neg : Bool) (D : Dq) : Prop := ∀ (A : Around) (pins : List (Addr × Obj)) (s : Shared) (σ : L2.St) (F : Frm) (H I : Hp) (L : List Addr) (m : Cells) (x y : V) (u v : Value) (d1 d2 : Dt) (b : Bool), L2.Sub X n A → Inv X pins σ H s → Base T F I H L m → DR T I x d1 → DR T I y d2 → RelV x u → RelV y v → D d1 d2 b →
  wpAny (model X.prog X.w) A (richCompare (NK.opN neg) u v) (fun r s' => r = .bool (neg != b) ∧ Grow X pins σ T F I L m s') X.xe s
/-- what is compared is whole data, and the same is equal -/
structure Tame (N : Nat) (D : Dq) : Prop where
  p1 : ∀ d1 d2 b, D d1 d2 b → okD d1 = true ∧ insD N d1 = true
  p2 : ∀ d1 d2 b, D d1 d2 b → okD d2 = true ∧ insD N d2 = true
  rf : ∀ d b, D d d b → b = true
section
variable {X : Cx} {T : Tab} {n m' : Nat} {D D' : Dq} {N : Nat}
theorem Tame.or (h : Tame N D) (h' : Tame N D') : Tame N (fun x y b => D x y b ∨ D' x y b) := ⟨fun d1 d2 b q => q.elim (h.p1 _ _ _) (h'.p1 _ _ _), fun d1 d2 b q => q.elim (h.p2 _ _ _) (h'.p2 _ _ _), fun d b q => q.elim (h.rf _ _) (h'.rf _ _)⟩
theorem EqK.mono (h : EqK X T n D) (hn : n ≤ m') : EqK X T m' D := fun A pins s σ F H I L m x y u v d1 d2 b sb => h A pins s σ F H I L m x y u v d1 d2 b (sb.mono hn)
theorem RcK.mono {neg : Bool} (h : RcK X T n neg D) (hn : n ≤ m') : RcK X T m' neg D := fun A pins s σ F H I L m x y u v d1 d2 b sb => h A pins s σ F H I L m x y u v d1 d2 b (sb.mono hn)
theorem EqK.or (h : EqK X T n D) (h' : EqK X T n D') : EqK X T n (fun x y b => D x y b ∨ D' x y b) := fun A pins s σ F H I L m x y u v d1 d2 b sb inv hs r1 r2 rx ry d => by
  rcases d with d | d
  · exact h A pins s σ F H I L m x y u v d1 d2 b sb inv hs r1 r2 rx ry d
  · exact h' A pins s σ F H I L m x y u v d1 d2 b sb inv hs r1 r2 rx ry d
theorem RcK.or {neg : Bool} (h : RcK X T n neg D) (h' : RcK X T n neg D') : RcK X T n neg (fun x y b => D x y b ∨ D' x y b) := fun A pins s σ F H I L m x y u v d1 d2 b sb inv hs r1 r2 rx ry d => by
  rcases d with d | d
  · exact h A pins s σ F H I L m x y u v d1 d2 b sb inv hs r1 r2 rx ry d
  · exact h' A pins s σ F H I L m x y u v d1 d2 b sb inv hs r1 r2 rx ry d
end
end FM
namespace FM
open PySem PySem.Spec PyProof.Rows L2
/-! ### dicts -/
section
variable {X : Cx} {C : Fc} {e : Expr} {st : Stmt} {me mb mc : ME}
inductive DPs (T : Tab) (I : Hp) : List (V × V) → List (L2.Key × Dt) → Prop
  | nil : DPs T I [] []
  | cons {k : L2.Key} {v : V} {d : Dt} {ps : List (V × V)} {ds : List (L2.Key × Dt)} : DR T I v d → DPs T I ps ds → DPs T I ((kV k, v) :: ps) ((k, d) :: ds)
theorem DPs.mono {T : Tab} {I I' : Hp} {ps : List (V × V)} {ds : List (L2.Key × Dt)} (h : DPs T I ps ds) (e : Same I I') : DPs T I' ps ds := by
  induction h with
  | nil => exact .nil
  | cons a _ ih => exact .cons (a.mono e) ih
end
end FM
namespace RZ
open PySem PySem.Calls PyProof.Rows
section
variable {prog : Program} {w : World} {A : Around} {E : Value → Shared → Prop} {s : Shared}
end
end RZ
namespace RZ
open PySem PySem.Calls PyProof.Rows
section
variable {prog : Program} {w : World} {A : Around} {E : Value → Shared → Prop} {s : Shared}
end
end RZ
namespace RZ
open PySem PySem.Calls PyProof.Rows
end RZ
namespace FM
open PySem PySem.Spec PyProof.Rows L2
/-! ### isinstance -/
section
variable {X : Cx} {C : Fc} {e : Expr} {ma : MA} {me mb mc : ME}
/-! ### list(zip(a, b)) -/
/-! ### and, or, not as values; -x -/
/-! ### max, min of two ints -/
/-! ### all of a list of bools -/
end
end FM
namespace FM
open PySem PySem.Spec PyProof.Rows L2
section
variable {X : Cx} {C : Fc} {e : Expr} {st : Stmt} {ma : MA} {me mb mc mi : ME}
/-! ### a, b = x, y -/
/-! ### x += e of a number -/
/-! ### xs[i] = v -/
/-! ### a list or a tuple, walked -/
/-! ### xs == [] -/
/-! ### isinstance(e, C) in the suite of a caught one -/
/-! ### xs[a:b] of a list, a cell -/
end
end FM
namespace FM
open PySem PySem.Spec PyProof.Rows L2
/-! ### == by own classes, as a function -/
end FM
namespace FM
open PySem PySem.Spec PyProof.Rows L2
/-! ### the tables of a law, and its facts as Bools over a part of the heap -/
def ob (K : PySem.W.Frag) (v : Value) (x : Str) (u : Option Value) : Bool := He.eqO (PySem.W.findIn K v x) (some u)
/-! ### the Hook -/
abbrev Fb := PySem.W.Frag → Bool
def obsF (fb : List Fb) (fn : List He.DefD) (K : PySem.W.Frag) : He.AlD := ((fb.all fun f => f K) && fn.all fun d => d.ok K, fn.map fun d => He.fnW K d.at_)
def SaysF (fb : List Fb) (fn : List He.DefD) (K : PySem.W.Frag) : Prop := obsF fb fn K = He.valD fn
def obsFG (n : Nat) (fb : List Fb) (fn : List He.DefD) (g : Addr → Option Obj) : He.AlD := obsF fb fn (He.frG g (He.asD g n))
def hookF (n : Nat) (fb : List Fb) (fn : List He.DefD) : PySem.W.Hook where
  α := He.AlD
  obs := fun s => obsFG n fb fn s.heap.get?
  val := fun _ => He.valD fn
  says := fun _ h => ∃ K : PySem.W.Frag, K.In h ∧ SaysF fb fn K
  of := fun _ _ e => ⟨_, He.frG_in, e⟩
  keeps := fun _ _ _ ⟨K, hK, c⟩ k => ⟨K, PySem.W.Frag.In.keeps hK k, c⟩
theorem obsFG_eq {n : Nat} {fb : List Fb} {fn : List He.DefD} {g : Addr → Option Obj} {s : Shared} (h : ∀ a, g a = s.heap.get? a) : obsFG n fb fn g = (hookF n fb fn).obs s := by
  have e : g = s.heap.get? := funext h
  rw [e] <;> rfl
section
variable {fb : List Fb} {fn : List He.DefD} {K : PySem.W.Frag}
end
end FM
namespace FM
open PySem PySem.Spec PyProof.Rows L2
end FM
namespace FM
open PySem PySem.Spec PyProof.Rows L2
/-! ### three at once; a list taken apart -/
end FM
namespace FM
open PySem PySem.Spec PyProof.Rows L2
/-! ### what a reading must give: weakest preconditions -/
abbrev EX := Nat → List Dt → Cells → Prop
@[irreducible] def wR {α : Type} (r : Rs α) (Q : α → Cells → Prop) (E : EX) : Prop := match r with
  | .ok a m => Q a m
  | .ex c fs m => E c fs m
  | .bad => False
abbrev PN := Gam → Cells → Prop
abbrev PR := Vl → Cells → Prop
abbrev PX := Nat → List Dt → Gam → Cells → Prop
@[irreducible] def wS (o : Out) (pN : PN) (pR : PR) (pB pC : PN) (pX : PX) : Prop := match o with
  | .nx g m => pN g m
  | .rt v m => pR v m
  | .bk g m => pB g m
  | .ct g m => pC g m
  | .ex c fs g m => pX c fs g m
  | .bad => False
section
variable {α : Type} {Q : α → Cells → Prop} {E : EX} {a : α} {m : Cells} {c : Nat} {fs : List Dt} {pN pB pC : PN} {pR : PR} {pX : PX} {g : Gam} {v : Vl}
end
section
variable {α β : Type} {g : Gam} {m : Cells} {E : EX}
/-! expressions -/
section
variable {Q : Vl → Cells → Prop} {ma mb mc : ME} {mr : MA}
/-! slices -/
/-! dicts -/
/-! what is walked -/
/-! list comprehensions -/
end
/-! targets -/
/-! statements -/
section
variable {pN pB pC : PN} {pR : PR} {pX : PX} {s t : MS} {me mo mi mv : ME} {mr : MA} {mg : MG}
/-! loops -/
/-! defs -/
@[irreducible] def wX (k : Nat) (Q : Vl → Cells → Prop) (v : Vl) (m : Cells) : Prop := match v with
  | .d d => Q (.d d) (m.take k)
  | .ref j => if j < k then Q (.ref j) (m.take k) else ∃ c, m[j]? = some (some c) ∧ c.isOb = false ∧ Q (.ref k) (m.take k ++ [some c])
  | .lam _ => False
end
end
end FM
namespace FM
open PySem PySem.Spec PyProof.Rows L2
/-! ### leaves -/
section
variable {m : Cells} {Q : Vl → Prop} {x y : Vl} {i j : Int} {a b : Str} {d e : Dt} {ds es : List Dt} {p : Bool}
/-! putting into a dict that may change -/
end
section
variable {g : Gam} {m : Cells} {E : EX} {Q : Vl → Cells → Prop} {ma : ME} {mr : MA}
end
end FM
namespace FS
open PySem PySem.Spec PyProof.Rows L2 PySem.Froz
/-! ### sets of texts: which ones, each once -/
def TxS (P : Program) (w : World) (h : Heap) (a : Addr) (L : List Str) : Prop :=
  ∃ D : SD, h.get? a = some (sObj "set" D) ∧ TxOk P w D L ∧ Ris D.2.2.place.toList ∧ (w.params.followText "set-order" = true ∨ D.2.2.led = true) ∧ L.Nodup
section
variable {P : Program} {w : World} {A : Around} {E : Value → Shared → Prop} {s : Shared} {h h' : Heap} {a : Addr} {L : List Str}
theorem TxS.at (R : TxS P w h a L) (k : ∀ o, h.get? a = some o → h'.get? a = some o) : TxS P w h' a L := let ⟨D, e, r⟩ := R; ⟨D, k _ e, r⟩
/-! sorted(the set) -/
end
section
variable {X : Cx} {pins : List (Addr × Obj)} {σ : L2.St} {H : Hp} {s : Shared} {E : Value → Shared → Prop}
end
end FS
namespace FS
open PySem PySem.Spec PyProof.Rows L2 PySem.Froz PpSet
/-! ### {text for .. in .. for .. in ..}: the machine's turns -/
section
variable {P : Program} {w : World} {A : Around} {R : Result → Shared → Prop} {s : Shared} {elt t0 i0 t1 i1 : Expr} {c0 c1 : List Expr} {scope : Scope} {pos : Pos} {it acc : Value} {env : Env}
/-- where something raised goes -/
abbrev nx (P : Program) (w : World) (A : Around) (env : Env) (R : Result → Shared → Prop) : Value → Shared → Prop := notedBy (model P w) A env fun e z => R (.error e) z
end
/-! ### the block -/
section
variable {X : Cx} {pins : List (Addr × Obj)} {s : Shared} {σ : L2.St} {H : Hp} {elt tg iter : Expr} {ifs : List Expr} {rest : List Comprehension} {scope : Scope} {own : List (Str × Nat)} {pos pos' : Pos} {wi : TI} {use : Option (Value → Sem Unit)} {Qf : Value → Shared → Prop} {R : It → Hp → Prop}
end
end FS
namespace FS
open PySem PySem.Spec PyProof.Rows L2 PySem.Froz PpSet
section
variable {X : Cx} {elt tg iter : Expr} {ifs : List Expr} {scope : Scope} {own : List (Str × Nat)} {pos : Pos} {wi : TI} {g : TG} {tt : TT} {te : TE}
end
end FS
namespace FM
open PySem PySem.Spec PyProof.Rows L2 FS
/-! ### texts in order, each once -/
/-! ### sorted({.. for ..}) -/
section
variable {C : Fc} {P : Program} {wd : World} {mi : MI} {mg : MG} {mt : MT} {me : ME} {own js : List Nat} {tg : TG}
end
end FM
namespace FM
open PySem PySem.Spec PyProof.Rows L2 FS
/-! ### two clauses -/
end FM
namespace FM
open PySem PySem.Spec PyProof.Rows L2 FS
/-! ### [.. for .. for ..] -/
section
variable {C : Fc} {mi mi1 : MI} {mg mg1 : MG} {mt mt1 : MT} {me : ME} {own own1 js js1 : List Nat} {tg tg1 : TG}
end
end FM
namespace FS
open PySem PySem.Spec PyProof.Rows L2 PySem.Froz PpSet
/-! ### set(a list of texts) -/
section
variable {P : Program} {w : World} {A : Around} {E : Value → Shared → Prop} {s : Shared}
end
section
variable {X : Cx}
end
end FS
namespace FM
open PySem PySem.Spec PyProof.Rows L2 FS
/-! ### sorted(set(xs)), sum(xs), max(xs), xs * n -/
/-! ### a dict that is done changing; dict(d) -/
end FM
namespace FM
open PySem PySem.Spec PyProof.Rows L2 FS
/-! ### a comprehension over a list that may change, and does not here -/
section
variable {C : Fc} {m0 : ME} {mg : MG} {mt : MT} {me : ME} {own js : List Nat} {tg : TG}
end
/-! ### sorted({..}), a new list that may change -/
end FM
namespace FM
open PySem PySem.Spec PyProof.Rows L2 FS
end FM
namespace FM
open PySem PySem.Spec PyProof.Rows L2 FS
/-! ### weakest preconditions of the newer readings -/
section
variable {m : Cells} {g : Gam} {Q : Vl → Cells → Prop} {E : EX} {ds : List Dt} {x : Vl}
variable {Q : Vl → Prop}
end
end FM
namespace FM
open PySem PySem.Spec PyProof.Rows L2
/-! ### a + b of lists, a cell; dict(d), a cell -/
/-! ### f(a, .., k = v, ..) -/
def pick {α : Type} (pm : List Nat) (l : List α) : List α := pm.filterMap fun i => l[i]?
/-- a def of the program, called with n values and keywords ks -/
structure CalW (P : Program) (w : World) (K : PySem.W.Frag) (mg : Str → Option Value) (base : Heap) (k : Nat) (x : Str) (ps : List Str) (n : Nat) (ks : List Str) (pm : List Nat) (sp : Sp) : Prop where
  ex : ∃ (f : Addr) (fd : FuncData), FnOk P w K mg base (L2N.CX P w) k f fd ps sp ∧ mg x = some (.ref f) ∧ PySem.W.keepIn K (.ref f) = true ∧ KBn K fd ps n ks (fun us ws => pick pm (us ++ ws)) (fun vs zs => pick pm (vs ++ zs))
end FM
namespace FM
open PySem PySem.Spec PyProof.Rows L2
section
variable {g : Gam} {m : Cells} {Q : Vl → Cells → Prop} {E : EX} {ma mb me : ME}
end
end FM
namespace FM
open PySem PySem.Spec PyProof.Rows L2
/-! ### the head's run, looked at in parts -/
theorem omap3 {σ α β γ : Type} {e : Option σ} {f : σ → α} {g : σ → β} {h : σ → γ} {a : α} {b : β} {c : γ} (h1 : e.map (fun s => (f s, g s)) = some (a, b)) (h3 : e.map h = some c) : e.map (fun s => (f s, g s, h s)) = some (a, b, c) := by
  cases e with
  | none => cases h1
  | some s => cases h1; cases h3; rfl
def KG (n : Nat) (s : PySem.W.SharedT) : PySem.W.Frag := He.frG (HandSHeadRun.getT s) (He.asD (HandSHeadRun.getT s) n)
def appF (n : Nat) (s : PySem.W.SharedT) (f : Fb) : Bool := f (KG n s)
theorem omap_obs {e : Option PySem.W.SharedT} {n : Nat} {fb : List Fb} {fn : List He.DefD} (h1 : e.map (fun s => fb.all (appF n s)) = some true) (h2 : e.map (fun s => (fn.all fun d => d.ok (KG n s), fn.map fun d => He.fnW (KG n s) d.at_)) = some (true, fn.map He.DefD.val)) :
    e.map (fun s => obsFG n fb fn (HandSHeadRun.getT s)) = some (He.valD fn) := by
  cases e with
  | none => cases h1
  | some s =>
    have h1 : (fb.all fun f => f (KG n s)) = true := Option.some.inj h1
    have h2 : ((fn.all fun d => d.ok (KG n s), fn.map fun d => He.fnW (KG n s) d.at_) : He.AlD) = (true, fn.map He.DefD.val) := Option.some.inj h2
    have h3 : (fn.all fun d => d.ok (KG n s)) = true := congrArg Prod.fst h2
    have h4 : (fn.map fun d => He.fnW (KG n s) d.at_) = fn.map He.DefD.val := congrArg Prod.snd h2
    show some ((fb.all fun f => f (KG n s)) && fn.all fun d => d.ok (KG n s), fn.map fun d => He.fnW (KG n s) d.at_) = some (true, fn.map He.DefD.val)
    rw [h1, h3, h4]
    rfl
end FM
namespace FM
open PySem PySem.Spec PyProof.Rows L2
/-! ### xs.count(x), xs.index(x) of plain items -/
section
variable {X : Cx}
end
section
variable {X : Cx} {C : Fc} {e : Expr} {ma mb : ME}
end
section
variable {g : Gam} {m : Cells} {Q : Vl → Cells → Prop} {E : EX} {ma mb : ME}
end
/-! ### where a comprehension's names stand -/
end FM
namespace FM
open PySem PySem.Spec PyProof.Rows L2
end FM
namespace FM
open PySem PySem.Spec PyProof.Rows L2
open Classical
/-! ### == of plain data, of whatever kinds -/
/-! plain: no bools, not deep -/
end FM
namespace FM
open PySem PySem.Spec PyProof.Rows L2
open Classical
/-! ### objects that are being built: their fields may be cells -/
section
variable {X : Cx} {C : Fc} {e : Expr} {ma : MA} {me mb : ME}
theorem VRs.set {T : Tab} {I : Hp} {A : List Addr} {vs : List V} {ds : List Vl} {v : V} {d : Vl} (h : VRs T I A vs ds) (hv : VR T I A v d) (i : Nat) : VRs T I A (vs.set i v) (ds.set i d) := by
  induction vs generalizing ds i with
  | nil => cases h; exact .nil
  | cons w vs ih =>
    cases h with
    | cons a t =>
      cases i with
      | zero => exact .cons hv t
      | succ i => exact .cons a (ih t i)
/-! methods -/
/-! a def that keeps what it makes -/
/-! the fields are done changing -/
end
/-! ### what these ask -/
end FM
namespace FM
open PySem PySem.Spec PyProof.Rows L2
/-! ### what leaves the objects that are being built as they are -/
section
variable {α β : Type} {m m1 m2 m3 : Cells}
theorem Obs.refl : Obs m m := ⟨Nat.le_refl _, fun _ _ _ _ h => ⟨_, _, h, fun _ h => h⟩⟩
theorem Obs.trans (h : Obs m m1) (k : Obs m1 m2) : Obs m m2 := ⟨Nat.le_trans h.1 k.1, fun i c fs hi q => by
  obtain ⟨c1, fs1, h1, h2⟩ := k.2 i c fs (Nat.lt_of_lt_of_le hi h.1) q
  obtain ⟨c0, fs0, h3, h4⟩ := h.2 i c1 fs1 hi h1
  exact ⟨c0, fs0, h3, fun j hj => h4 j (h2 j hj)⟩⟩
theorem Obs.set {i : Nat} {o : Option Cell} (ho : ∀ c fs, o ≠ some (.ob c fs)) : Obs m (m.set i o) := ⟨by simp, fun k c fs hk q => ⟨_, _, (set_ob ho q).2, fun _ h => h⟩⟩
theorem Obs.take {n : Nat} (h : Obs m m1) (hn : m.length ≤ n) : Obs m (m1.take n) := ⟨by rw [List.length_take]; have := h.1; omega, fun k c fs hk q => h.2 k c fs hk (by
  rw [List.getElem?_take_of_lt (by omega)] at q; exact q)⟩
theorem Qr.mono {r : Rs α} (h : Obs m m1) (q : Qr m1 r) : Qr m r := by
  cases r with
  | ok a m' => exact h.trans q
  | ex c fs m' => exact h.trans q
  | bad => trivial
theorem Qo.mono {o : Out} (h : Obs m m1) (q : Qo m1 o) : Qo m o := by
  cases o with
  | bad => trivial
  | nx g m' => exact h.trans q
  | rt v m' => exact h.trans q
  | bk g m' => exact h.trans q
  | ct g m' => exact h.trans q
  | ex c fs g m' => exact h.trans q
end
def Qe {α : Type} (f : Gam → Cells → Rs α) : Prop := ∀ g m, Qr m (f g m)
theorem Qe.ok {α : Type} {f : Gam → Cells → Rs α} (h : Qe f) {g : Gam} {m m' : Cells} {a : α} (e : f g m = .ok a m') : Obs m m' := by
  have := h g m
  rw [e] at this
  exact this
local macro_rules
  | `(tactic| array_get_dec) => `(tactic| (repeat' (first | exact q_bad | exact q_ok | exact q_ofO | exact trivial | exact Obs.refl | exact Obs.app | split | (refine Obs.set ?_; intro c fs e; cases e))))
end FM
namespace FM
open PySem PySem.Spec PyProof.Rows L2
/-! ### enumerate(tuple) -/
end FM
namespace FM
open PySem PySem.Spec PyProof.Rows L2
/-! ### tuple * 0, tuple * 1 -/
/-! ### len of a dict -/
/-! ### isinstance(x, (A, B)) -/
end FM
namespace FM
open PySem PySem.Spec PyProof.Rows L2
/-! ### list(range(n)) -/
/-! ### a comprehension over a list that may change: a new cell -/
/-! ### x(a, .., k = v, ..), x a local name that holds a def -/
/-- the def at f, called with n values and keywords ks -/
structure CalA (P : Program) (w : World) (K : PySem.W.Frag) (mg : Str → Option Value) (base : Heap) (k : Nat) (f : Addr) (n : Nat) (ks : List Str) (pm : List Nat) (sp : Sp) : Prop where
  ex : ∃ (fd : FuncData) (ps : List Str), FnOk P w K mg base (L2N.CX P w) k f fd ps sp ∧ PySem.W.keepIn K (.ref f) = true ∧ KBn K fd ps n ks (fun us ws => pick pm (us ++ ws)) (fun vs zs => pick pm (vs ++ zs))
theorem CalW.at {P : Program} {w : World} {K : PySem.W.Frag} {mg : Str → Option Value} {base : Heap} {k n : Nat} {x : Str} {ps ks : List Str} {pm : List Nat} {sp : Sp} {a : Addr} (c : CalW P w K mg base k x ps n ks pm sp) (h : mg x = some (.ref a)) : CalA P w K mg base k a n ks pm sp := by
  obtain ⟨f, fd, F, hm, hk, hb⟩ := c.ex
  rw [h] at hm
  cases hm
  exact ⟨fd, ps, F, hk, hb⟩
/-! ### what they leave as it is -/
end FM
namespace FS
open PySem PySem.Spec PyProof.Rows L2 PySem.Froz PpSet
/-! ### {k: v for .. in .. for .. in ..}: the machine's turns -/
section
variable {P : Program} {w : World} {A : Around} {R : Result → Shared → Prop} {s : Shared} {kx vx t0 i0 t1 i1 : Expr} {c0 c1 : List Expr} {scope : Scope} {pos : Pos} {it acc : Value} {env : Env} {D : Addr}
end
section
variable {X : Cx} {pins : List (Addr × Obj)} {s : Shared} {σ : L2.St} {H : Hp} {kx vx tg iter : Expr} {ifs : List Expr} {rest : List Comprehension} {scope : Scope} {own : List (Str × Nat)} {pos pos' : Pos} {wi : TI} {use : Option (Value → Sem Unit)} {Qf : Value → Shared → Prop} {R : It → Hp → Prop}
end
section
variable {X : Cx} {kx vx tg iter : Expr} {ifs : List Expr} {scope : Scope} {own : List (Str × Nat)} {pos : Pos} {wi : TI} {g : TG} {tt : TT} {tk tv : TE}
end
end FS
namespace FM
open PySem PySem.Spec PyProof.Rows L2 FS
/-! ### {k: v for ..}, a dict that never changes -/
section
variable {C : Fc} {mi mi1 : MI} {mg mg1 : MG} {mt mt1 : MT} {mk mv : ME} {own own1 js js1 : List Nat} {tg tg1 : TG}
end
/-! ### in the style of weakest preconditions -/
section
variable {g : Gam} {m : Cells} {E : EX} {Q : Vl → Cells → Prop} {mi mi1 : MI} {mg mg1 : MG} {mt mt1 : MT} {mk mv : ME} {own own1 : List Nat}
end
/-! ### what they leave as it is -/
end FM
namespace FM
open PySem PySem.Spec PyProof.Rows L2
/-! ### dict(pairs) -/
end FM
namespace FM
open PySem PySem.Spec PyProof.Rows L2
/-! ### a for over a list that may change, and does not while it is walked -/
/-! ### in the style of weakest preconditions -/
end FM
namespace FM
open PySem PySem.Spec PyProof.Rows L2
/-! ### a for over enumerate(a list that may change, and does not while it is walked) -/
end FM
namespace FM
open PySem PySem.Spec PyProof.Rows L2
open Classical
/-! ### xs.insert(i, y) of a list that may change -/
/-! ### [x] * n -/
/-! ### x or y by truth -/
/-! ### == of plain data and lists that may change -/
end FM
namespace FM
open PySem PySem.Spec PyProof.Rows L2
/-! ### list(dict), sorted(ints), min(tuple of ints) -/
/-! list of a dict's keys -/
/-! sorted of ints -/
/-! f(k = v, ..) -/
/-! tuple * n -/
end FM
namespace FM
open PySem PySem.Spec PyProof.Rows L2
open Classical
/-! ### [k for k in d if d[k] != t[k]]: d a dict that may change, its keys ints; t a tuple of plain things -/
end FM
namespace FM
open PySem PySem.Spec PyProof.Rows L2
open Classical
/-! ### dicts whose values may be cells (boxes) -/
section
variable {X : Cx} {C : Fc} {e : Expr} {st : Stmt} {me mb mc : ME}
end
/-! what these ask -/
end FM
namespace FM
open PySem PySem.Spec PyProof.Rows L2
open Classical
/-! ### lists and tuples whose items may be cells -/
end FM
namespace FM
open PySem PySem.Spec PyProof.Rows L2
open Classical
/-! ### append and pop of a list box -/
end FM
namespace FM
open PySem PySem.Spec PyProof.Rows L2
open Classical
/-! ### a body that is looked at: no thing below gets new refs -/
/-! what these ask -/
end FM
namespace FM
open PySem PySem.Spec PyProof.Rows L2
open Classical
/-! ### targets: a tuple whose items may be cells -/
end FM
namespace FM
open PySem PySem.Spec PyProof.Rows L2
open Classical
/-! ### `in` a list of plain data, of whatever kinds -/
/-! ### where the names of a comprehension within one stand -/
end FM
namespace FM
open PySem PySem.Spec PyProof.Rows L2
open Classical
/-! ### x.f += n -/
end FM
namespace FM
open PySem PySem.Spec PyProof.Rows L2 FS
open Classical
/-! ### targets of a comprehension: a tuple whose items may be cells -/
/-! ### a comprehension over a list whose items may be cells -/
end FM
namespace FM
open PySem PySem.Spec PyProof.Rows L2
open Classical
/-! ### a for over enumerate(a list cell, a list, a tuple) -/
end FM
namespace FM
open PySem PySem.Spec PyProof.Rows L2
open Classical
/-! ### C(a, .., k = v, ..) that may change; keyword-only parameters left out have their defaults; __init__ raises nothing -/
end FM
namespace FM
open PySem PySem.Spec PyProof.Rows L2
open Classical
/-! ### a.split(b), a.join(rows) -/
end FM
namespace FM
open PySem PySem.Spec PyProof.Rows L2
open Classical
/-! ### C(k = v, ..) by keywords alone, frozen when it is made; __init__ raises nothing -/
/-! ### f'..' -/
/-! ### int of a text -/
end FM
namespace FM
open PySem PySem.Spec PyProof.Rows L2 L2H
open Classical
/-! ### what is called while an exception is handled -/
/-! ### e.m() of the exception that is handled -/
end FM
namespace FM
open PySem PySem.Spec PyProof.Rows L2 L2H
/-! ### .. its context, its facts, what it keeps -/
end FM
namespace FS
open PySem PySem.Spec PyProof.Rows L2 PySem.Froz
/-! ### a set of texts that stands by a name -/
section
variable {X : Cx}
end
end FS
namespace FM
open PySem PySem.Spec PyProof.Rows L2 FS
/-! ### .. on the data's side: a cell -/
section
variable {X : Cx} {C : Fc} {e : Expr} {me mb : ME}
end
/-! ### weakest preconditions, and what these readings keep -/
section
variable {g : Gam} {m : Cells} {Q : Vl → Cells → Prop} {E : EX} {me mb : ME}
end
/-! ### texts by their order -/
end FM
namespace RZ
open PySem PySem.Calls PyProof.Rows
end RZ
namespace NK
open PySem PySem.Spec PyProof.Rows L2
section
variable {X : Cx} {e e2 : Expr} {ta : TA} {p pos p2 pos2 : Pos}
end
end NK
namespace NK
open PySem PySem.Spec PyProof.Rows L2
section
variable {X : Cx} {o e : Expr} {td ty : TE} {apos cpos : Pos}
end
end NK
namespace FM
open PySem PySem.Spec PyProof.Rows L2
/-! ### on the data's side -/
section
variable {X : Cx} {C : Fc} {e : Expr} {ma : MA} {me mb : ME}
end
end FM
namespace FM
open PySem PySem.Spec PyProof.Rows L2
/-! ### sorted(texts), min(a tuple of texts), xs.pop(i) -/
section
variable {prog : Program} {w : World} {A : Around} {E : Value → Shared → Prop} {s : Shared} {l : Addr}
end
/-! sorted, as often as they stand there -/
/-! xs.pop(i) -/
end FM
namespace K31
open PySem PySem.Spec PyProof.Rows L2 FM
noncomputable section
def topS (i : Nat) : Stmt := PySem.Challenge.pw_nestkeys_k31_clashes.main.body.getD i (.Pass ⟨0, 0, 0, 0⟩)
abbrev sThrough : Stmt := topS 1
abbrev sRingOf : Stmt := topS 2
abbrev sArcsOf : Stmt := topS 3
abbrev sClash : Stmt := topS 4
abbrev sState : Stmt := topS 7
abbrev sDigit : Stmt := topS 8
abbrev sName : Stmt := topS 9
abbrev sNames : Stmt := topS 10
abbrev sRecords : Stmt := topS 11
abbrev sRows : Stmt := topS 12
abbrev sIsRing : Stmt := topS 13
abbrev sDue : Stmt := topS 14
abbrev sLaw : Stmt := topS 15
def dThrough : He.DefD := ⟨("ring_through", none), "ring_through", "ring_through", defArgs sThrough, defBody sThrough, defScope sThrough, [], []⟩
def dRingOf : He.DefD := ⟨("ring_of", none), "ring_of", "ring_of", defArgs sRingOf, defBody sRingOf, defScope sRingOf, [], []⟩
def dArcsOf : He.DefD := ⟨("arcs_of", none), "arcs_of", "arcs_of", defArgs sArcsOf, defBody sArcsOf, defScope sArcsOf, [], []⟩
def dClash : He.DefD := ⟨("clash", none), "clash", "clash", defArgs sClash, defBody sClash, defScope sClash, [], []⟩
def dState : He.DefD := ⟨("_law_state", none), "_law_state", "_law_state", defArgs sState, defBody sState, defScope sState, [], []⟩
def dDigit : He.DefD := ⟨("_law_digit", none), "_law_digit", "_law_digit", defArgs sDigit, defBody sDigit, defScope sDigit, [], []⟩
def dName : He.DefD := ⟨("_law_name", none), "_law_name", "_law_name", defArgs sName, defBody sName, defScope sName, [], []⟩
def dNames : He.DefD := ⟨("_law_names", none), "_law_names", "_law_names", defArgs sNames, defBody sNames, defScope sNames, [], []⟩
def dRecords : He.DefD := ⟨("_law_records", none), "_law_records", "_law_records", defArgs sRecords, defBody sRecords, defScope sRecords, [], []⟩
def dRows : He.DefD := ⟨("_law_rows", none), "_law_rows", "_law_rows", defArgs sRows, defBody sRows, defScope sRows, [], []⟩
def dIsRing : He.DefD := ⟨("_law_is_ring", none), "_law_is_ring", "_law_is_ring", defArgs sIsRing, defBody sIsRing, defScope sIsRing, [], []⟩
def dDue : He.DefD := ⟨("_law_due", none), "_law_due", "_law_due", defArgs sDue, defBody sDue, defScope sDue, [], []⟩
def dLaw : He.DefD := ⟨("law", none), "law", "law", defArgs sLaw, defBody sLaw, defScope sLaw, [], []⟩
def fnl : List He.DefD := [dThrough, dRingOf, dArcsOf, dClash, dState, dDigit, dName, dNames, dRecords, dRows, dIsRing, dDue, dLaw]
def fbl0 : List Fb := [fun K => (He.Fa.free "len").ok K,
  fun K => (He.Fa.free "sorted").ok K,
  fun K => (He.Fa.free "set").ok K,
  fun K => (He.Fa.free "range").ok K,
  fun K => (He.Fa.free "list").ok K,
  fun K => (He.Fa.free "zip").ok K,
  fun K => (He.Fa.free "abs").ok K,
  fun K => (He.Fa.free "int").ok K,
  fun K => (He.Fa.free "str").ok K,
  fun K => (He.Fa.free "tuple").ok K,
  fun K => (He.Fa.free "min").ok K,
  fun K => (He.Fa.free "dict").ok K,
  fun K => (He.Fa.glo "ring_through").ok K,
  fun K => (He.Fa.glo "ring_of").ok K,
  fun K => (He.Fa.glo "arcs_of").ok K,
  fun K => (He.Fa.glo "clash").ok K,
  fun K => (He.Fa.glo "_law_state").ok K,
  fun K => (He.Fa.glo "_law_digit").ok K,
  fun K => (He.Fa.glo "_law_name").ok K,
  fun K => (He.Fa.glo "_law_names").ok K,
  fun K => (He.Fa.glo "_law_records").ok K,
  fun K => (He.Fa.glo "_law_rows").ok K,
  fun K => (He.Fa.glo "_law_is_ring").ok K,
  fun K => (He.Fa.glo "_law_due").ok K,
  fun K => (He.Fa.glo "law").ok K]
def fbl : List Fb := fbl0
end
end K31
namespace K31
open PySem PySem.Spec PyProof.Rows L2 FM PySem.W HandSHeadRun
def loose : List Str := (["ring_through", "ring_of", "arcs_of", "clash", "_law_cell_at", "_law_state", "_law_digit", "_law_name", "_law_names", "_law_records", "_law_rows", "_law_is_ring", "_law_due"] : List Str)
abbrev R : PySem.W.OpenRow := PySem.W.OpenLaw.row PySem.Challenge.rw_nestkeys_k31_clashes
abbrev hk : PySem.W.Hook := hookF 4 fbl fnl
def obz (s : PySem.W.SharedT) : He.AlD := obsFG 4 fbl fnl (HandSHeadRun.getT s)
theorem obz_eq (s : PySem.W.SharedT) : obz s = hk.obs s.abs := obsFG_eq (HandSHeadRun.getT_eq s)
set_option maxHeartbeats 0 in
theorem runA (w : World) (os : OsState) : (HandSHeadRun.endF (HandSHeadRun.stepQ (HandSHeadRun.denQ HandSHeadRun.tabQ) R.prog w) 9000 R.prog w os).map (fun s => (HandSHeadRun.looksF R.prog (boot_heap w.params) s.abs, HandSHeadRun.seenQ (PySem.W.view R.prog [15]) loose (importedModules R.prog.main.body) (fun s => PySem.W.xlAt (PySem.W.view R.prog [15]) [] s && PySem.W.recOk R.toRowW.records s) s.abs)) = some (true, PySem.W.openGood (PySem.W.view R.prog [15]) loose) := by
  kernel_rfl
set_option maxHeartbeats 0 in
theorem runF0 (w : World) (os : OsState) : (HandSHeadRun.endF (HandSHeadRun.stepQ (HandSHeadRun.denQ HandSHeadRun.tabQ) R.prog w) 9000 R.prog w os).map (fun s => (fbl0).all (appF 4 s)) = some (true) := by
  kernel_rfl
set_option maxHeartbeats 0 in
theorem runDf (w : World) (os : OsState) : (HandSHeadRun.endF (HandSHeadRun.stepQ (HandSHeadRun.denQ HandSHeadRun.tabQ) R.prog w) 9000 R.prog w os).map (fun s => (fnl.all fun d => d.ok (KG 4 s), fnl.map fun d => He.fnW (KG 4 s) d.at_)) = some (true, fnl.map He.DefD.val) := by
  kernel_rfl
theorem fbl_eq : fbl = (fbl0) := by simp only [fbl, List.append_assoc]
set_option maxHeartbeats 0 in
theorem runO (w : World) (os : OsState) : (HandSHeadRun.endF (HandSHeadRun.stepQ (HandSHeadRun.denQ HandSHeadRun.tabQ) R.prog w) 9000 R.prog w os).map obz = some (hk.val w) := by
  refine omap_obs ?_ (runDf w os)
  rw [fbl_eq]
  exact runF0 w os
set_option maxHeartbeats 0 in
theorem run (w : World) : HandSHeadRun.RunEq R (PySem.W.view R.prog [15]) hk obz 9000 loose w := fun os => omap3 (runA w os) (runO w os)
end K31
namespace FM
open PySem PySem.Spec PyProof.Rows L2
/-! ### data -/
theorem VR.dat {T : Tab} {I : Hp} {A : List Addr} {v : V} {d : Dt} (h : VR T I A v (.d d)) : DR T I v d := by cases h; assumption
theorem VR.cel {T : Tab} {I : Hp} {A : List Addr} {v : V} {k : Nat} (h : VR T I A v (.ref k)) : ∃ a, v = .ref a ∧ A[k]? = some a := by
  cases h with | ref h => exact ⟨_, rfl, h⟩
section
variable {T : Tab} {I : Hp} {A : List Addr}
theorem VRs.app {vs ws : List V} {ds es : List Vl} (h : VRs T I A vs ds) (h2 : VRs T I A ws es) : VRs T I A (vs ++ ws) (ds ++ es) := by
  induction vs generalizing ds with
  | nil => cases h; exact h2
  | cons v vs ih => cases h with | cons a t => exact .cons a (ih t)
theorem VRs.split {vs ws : List V} {ds es : List Vl} (hl : vs.length = ds.length) (h : VRs T I A (vs ++ ws) (ds ++ es)) : VRs T I A vs ds ∧ VRs T I A ws es := by
  induction vs generalizing ds with
  | nil =>
    cases ds with
    | nil => exact ⟨.nil, h⟩
    | cons d ds => cases hl
  | cons v vs ih =>
    cases ds with
    | nil => cases hl
    | cons d ds =>
      cases h with
      | cons a t =>
        obtain ⟨p, q⟩ := ih (by simpa using hl) t
        exact ⟨.cons a p, q⟩
theorem VRs.get {vs : List V} {ds : List Vl} {i : Nat} {d : Vl} (h : VRs T I A vs ds) (e : ds[i]? = some d) : ∃ v, vs[i]? = some v ∧ VR T I A v d := by
  induction vs generalizing ds i with
  | nil => cases h; simp at e
  | cons v vs ih =>
    cases h with
    | cons a t =>
      cases i with
      | zero => simp at e; subst e; exact ⟨v, rfl, a⟩
      | succ i => obtain ⟨u, h1, h2⟩ := ih t (i := i) (by simpa using e); exact ⟨u, by simpa using h1, h2⟩
end
/-- all of them data -/
def dats : List Vl → Option (List Dt)
  | [] => some []
  | .d d :: r => (dats r).map (d :: ·)
  | _ :: _ => none
theorem VRs.dats {T : Tab} {I : Hp} {A : List Addr} {vs : List V} {ds : List Vl} {es : List Dt} (h : VRs T I A vs ds) (e : FM.dats ds = some es) : DRs T I vs es := by
  induction vs generalizing ds es with
  | nil => cases h; cases e; exact .nil
  | cons v vs ih =>
    cases h with
    | @cons _ _ d ds a t =>
      cases d with
      | ref k => cases e
      | lam z => cases e
      | d d =>
        cases q : FM.dats ds with
        | none => simp [FM.dats, q] at e
        | some r =>
          simp [FM.dats, q] at e
          subst e
          exact .cons a.dat (ih t q)
section
variable {T : Tab} {I : Hp}
theorem DRs.app {vs ws : List V} {ds es : List Dt} (h : DRs T I vs ds) (h2 : DRs T I ws es) : DRs T I (vs ++ ws) (ds ++ es) := by
  induction vs generalizing ds with
  | nil => cases h; exact h2
  | cons v vs ih => cases h with | cons a t => exact .cons a (ih t)
theorem DRs.split {vs ws : List V} {ds es : List Dt} (hl : vs.length = ds.length) (h : DRs T I (vs ++ ws) (ds ++ es)) : DRs T I vs ds ∧ DRs T I ws es := by
  induction vs generalizing ds with
  | nil =>
    cases ds with
    | nil => exact ⟨.nil, h⟩
    | cons d ds => cases hl
  | cons v vs ih =>
    cases ds with
    | nil => cases hl
    | cons d ds =>
      cases h with
      | cons a t =>
        obtain ⟨p, q⟩ := ih (by simpa using hl) t
        exact ⟨.cons a p, q⟩
theorem DRs.get {vs : List V} {ds : List Dt} {i : Nat} {d : Dt} (h : DRs T I vs ds) (e : ds[i]? = some d) : ∃ v, vs[i]? = some v ∧ DR T I v d := by
  induction vs generalizing ds i with
  | nil => cases h; simp at e
  | cons v vs ih =>
    cases h with
    | cons a t =>
      cases i with
      | zero => simp at e; subst e; exact ⟨v, rfl, a⟩
      | succ i => obtain ⟨u, h1, h2⟩ := ih t (i := i) (by simpa using e); exact ⟨u, by simpa using h1, h2⟩
theorem DRs.drop {vs : List V} {ds : List Dt} (h : DRs T I vs ds) (n : Nat) : DRs T I (vs.drop n) (ds.drop n) := by
  induction vs generalizing ds n with
  | nil => cases h; simp; exact .nil
  | cons w vs ih =>
    cases h with
    | cons a t =>
      cases n with
      | zero => exact .cons a t
      | succ n => exact ih t n
theorem DRs.rev {vs : List V} {ds : List Dt} (h : DRs T I vs ds) : DRs T I vs.reverse ds.reverse := by
  induction vs generalizing ds with
  | nil => cases h; exact .nil
  | cons v vs ih =>
    cases h with
    | cons a t =>
      rw [List.reverse_cons, List.reverse_cons]
      exact (ih t).app (.cons a .nil)
theorem DRs.one_inv {vs : List V} {d : Dt} (h : DRs T I vs [d]) : ∃ v, vs = [v] ∧ DR T I v d := by
  cases h with | cons a t => cases t; exact ⟨_, rfl, a⟩
theorem DRs.two_inv {vs : List V} {d e : Dt} (h : DRs T I vs [d, e]) : ∃ v w, vs = [v, w] ∧ DR T I v d ∧ DR T I w e := by
  cases h with | cons a t => cases t with | cons b t => cases t; exact ⟨_, _, rfl, a, b⟩
end
/-! ### cells, the state -/
section
variable {T : Tab} {F : Frm} {I H : Hp}
end
theorem VRs.lt {T : Tab} {I : Hp} {A : List Addr} {vs : List V} {ds : List Vl} (h : VRs T I A vs ds) {j : Nat} (hj : Vl.ref j ∈ ds) : j < A.length := by
  induction vs generalizing ds with
  | nil => cases h; exact absurd hj List.not_mem_nil
  | cons v vs ih =>
    cases h with
    | cons a t =>
      rcases List.mem_cons.mp hj with e | e
      · subst e
        obtain ⟨b, _, h⟩ := a.cel
        exact (List.getElem?_eq_some_iff.mp h).1
      · exact ih t e
theorem CellOk.nt {T : Tab} {I H : Hp} {a : Addr} {c : Cell} (h : CellOk T I H a c) : ∀ ps, H a ≠ some (.tbl ps) := fun ps e => by
  cases c with
  | lst ds => obtain ⟨vs, h1, _⟩ := h; rw [h1] at e; cases e
  | ins c ds => obtain ⟨dx, vs, h1, _⟩ := h; rw [h1] at e; cases e
  | dct ks ds => obtain ⟨vs, h1, _⟩ := h; rw [h1] at e; cases e
  | set xs => rw [h.1] at e; exact h.2 ps (Option.some.inj e)
  | ob c fs => obtain ⟨o, h1, h2⟩ := h; rw [h1] at e; exact h2 ps (Option.some.inj e)
theorem nt_some {H : Hp} {a : Addr} {o : HO} (h : H a = some o) (ho : ∀ ps, o ≠ .tbl ps) : ∀ ps, H a ≠ some (.tbl ps) := fun ps e => by rw [h] at e; exact ho ps (Option.some.inj e)
theorem Base.fnt {T : Tab} {F : Frm} {I H : Hp} {A : List Addr} {m : Cells} (b : Base T F I H A m) {q : Addr × HO} (hq : q ∈ F) : ∀ ps, H q.1 ≠ some (.tbl ps) := nt_some (b.fm q hq).1 (b.tbs.ft q hq)
theorem Ctx.drop {T : Tab} {I : Hp} {A : List Addr} {σ : L2.St} {g : Gam} {i : Nat} (h : Ctx T I A σ g) {x : Option V} : Ctx T I A (σ.set i x) (g.set i none) := ⟨by rw [List.length_set, List.length_set, h.len], fun j e q => by
  by_cases hj : i = j
  · subst hj
    by_cases hl : i < g.length
    · rw [List.getElem?_set_self hl] at q
      cases q
    · rw [List.getElem?_eq_none (by rw [List.length_set]; omega)] at q
      cases q
  · rw [List.getElem?_set_ne hj] at q
    rw [List.getElem?_set_ne hj]
    exact h.look j e q⟩
section
variable {T : Tab} {x : Option Xc} {B : Bs} {F : Frm} {g g' : Gam} {S : List Vl} {m m' : Cells} {σ σ' : L2.St} {vs : List V} {H H' I I' : Hp} {A A' : List Addr}
/-- the state moves on -/
theorem Rel.step (r : Rel T x B g S m σ vs H I A) (b : Base T B.F I' H' A' m') (e : Up I I' A A') : Rel T x B g S m' σ vs H' I' A' := ⟨b, r.up.trans e, r.ctx.mono e, r.stk.mono e, r.xc.mono e⟩
theorem Rel.push (r : Rel T x B g S m σ vs H I A) {v : V} {d : Vl} (h : VR T I A v d) : Rel T x B g (d :: S) m σ (v :: vs) H I A := { r with stk := .cons h r.stk }
theorem Rel.pop1 {v : V} {d : Vl} (r : Rel T x B g (d :: S) m σ (v :: vs) H I A) : Rel T x B g S m σ vs H I A := { r with stk := by cases r.stk with | cons _ t => exact t }
theorem Rel.grip (r : Rel T x B g S m σ vs H I A) : Rel T x ⟨B.F, I, A⟩ g S m σ vs H I A := ⟨r.base, Up.refl, r.ctx, r.stk, r.xc⟩
theorem nodup_ix {α : Type} {l : List α} (h : l.Nodup) {i j : Nat} {x : α} (hi : l[i]? = some x) (hj : l[j]? = some x) : i = j := by
  obtain ⟨li, ei⟩ := List.getElem?_eq_some_iff.mp hi
  obtain ⟨lj, ej⟩ := List.getElem?_eq_some_iff.mp hj
  have pw := List.pairwise_iff_getElem.mp h
  rcases Nat.lt_trichotomy i j with w | w | w
  · exact absurd (ei.trans ej.symm) (pw i j li lj w)
  · exact w
  · exact absurd (ej.trans ei.symm) (pw j i lj li w)
/-- a cell changes -/
theorem Base.put (b : Base T F I H A m) {k : Nat} {c c' : Cell} {a : Addr} {o : HO} (hk : m[k]? = some (some c)) (ha : A[k]? = some a) (hc : CellOk T I (upd H a o) a c') (hob : c'.isOb = false := by rfl) : Base T F I (upd H a o) A (m.set k (some c')) := by
  have hI := b.fr k c a hk ha
  have hl : k < m.length := (List.getElem?_eq_some_iff.mp hk).1
  have hmem := List.mem_of_getElem? ha
  refine ⟨fun z u q => ?_, fun q hq => by
    obtain ⟨f1, f2, f3⟩ := b.fm q hq
    exact ⟨by rw [upd_ne (fun e => f2 (by rw [e]; exact hmem))]; exact f1, f2, f3⟩, b.fnd, by rw [List.length_set]; exact b.len, b.nd, fun z hz => upd_some (b.al z hz), fun j c2 z h1 h2 => ?_, fun j c2 z h1 h2 => ?_, b.tbs.upd (b.ok k c a hk ha).nt, b.obs.mono Up.refl fun j c2 fs z h1 h2 => by
    obtain ⟨q1, q2⟩ := set_ob (fun c fs e => by cases e; cases hob) h1
    exact ⟨q2, h2, upd_ne fun w => q1 (nodup_ix b.nd h2 (by rw [w]; exact ha))⟩⟩
  · rw [upd_ne (ne_of_none q hI)]; exact b.sub z u q
  · by_cases hj : k = j
    · subst hj
      rw [ha] at h2; cases h2; exact hI
    · rw [List.getElem?_set_ne hj] at h1
      exact b.fr j c2 z h1 h2
  · by_cases hj : k = j
    · subst hj
      rw [ha] at h2; cases h2
      rw [List.getElem?_set_self hl] at h1
      cases h1
      exact hc
    · rw [List.getElem?_set_ne hj] at h1
      have hz : z ≠ a := fun w => hj (nodup_ix b.nd ha (by rw [← w]; exact h2))
      exact (b.ok j c2 z h1 h2).mono (Same.refl I) fun o' q => by rw [upd_ne hz]; exact q
/-- a cell is done changing -/
theorem Base.frz (b : Base T F I H A m) {k : Nat} {c : Cell} {a : Addr} {o : HO} (hk : m[k]? = some (some c)) (ha : A[k]? = some a) (ho : H a = some o) : Base T F (upd I a o) H A (m.set k none) ∧ Up I (upd I a o) A A := by
  have hI := b.fr k c a hk ha
  have hl : k < m.length := (List.getElem?_eq_some_iff.mp hk).1
  have e : Up I (upd I a o) A A := ⟨same_upd hI, List.prefix_refl A⟩
  have hmem := List.mem_of_getElem? ha
  refine ⟨⟨fun z u q => ?_, fun q hq => by
    obtain ⟨f1, f2, f3⟩ := b.fm q hq
    exact ⟨f1, f2, by rw [upd_ne (fun e => f2 (by rw [e]; exact hmem))]; exact f3⟩, b.fnd, by rw [List.length_set]; exact b.len, b.nd, b.al, fun j c2 z h1 h2 => ?_, fun j c2 z h1 h2 => ?_, b.tbs.see hI (fun ps z => (b.ok k c a hk ha).nt ps (by rw [ho, z])), b.obs.mono e fun j c2 fs z h1 h2 => ⟨(set_ob (o := none) (fun c fs e => by cases e) h1).2, h2, rfl⟩⟩, e⟩
  · by_cases hz : z = a
    · subst hz; rw [upd_same] at q; cases q; exact ho
    · rw [upd_ne hz] at q; exact b.sub z u q
  · by_cases hj : k = j
    · subst hj
      rw [List.getElem?_set_self hl] at h1; cases h1
    · rw [List.getElem?_set_ne hj] at h1
      rw [upd_ne (fun w => hj (nodup_ix b.nd ha (by rw [← w]; exact h2)))]
      exact b.fr j c2 z h1 h2
  · by_cases hj : k = j
    · subst hj
      rw [List.getElem?_set_self hl] at h1; cases h1
    · rw [List.getElem?_set_ne hj] at h1
      exact (b.ok j c2 z h1 h2).mono e.i fun o' q => q
/-- a new thing beside -/
theorem Base.hide (b : Base T F I H A m) {p : Addr} {o : HO} (hp : H p = none) (ho : ∀ ps, o ≠ .tbl ps := by exact fun _ z => nomatch z) : Base T ((p, o) :: F) I (upd H p o) A m := by
  have ne : ∀ a ∈ A, a ≠ p := fun a ha z => b.al a ha (by rw [z]; exact hp)
  refine ⟨b.sub.trans (same_upd hp), fun q hq => ?_, ?_, b.len, b.nd, fun a ha => upd_some (b.al a ha), b.fr, fun k c a h1 h2 => (b.ok k c a h1 h2).mono (Same.refl I) fun o q => by rw [upd_ne (ne_of_none q hp)]; exact q, (b.tbs.upd (nt_none hp)).fm fun q hq => by
    rcases List.mem_cons.mp hq with e | e
    · subst e; exact ho
    · exact b.tbs.ft q e, b.obs.mono Up.refl fun k c fs a h1 h2 => ⟨h1, h2, upd_ne (ne a (List.mem_of_getElem? h2))⟩⟩
  · rcases List.mem_cons.mp hq with e | e
    · subst e; exact ⟨upd_same, fun h => ne _ h rfl, none_of_sub b.sub hp⟩
    · obtain ⟨f1, f2, f3⟩ := b.fm q e
      exact ⟨by rw [upd_ne (ne_of_none f1 hp)]; exact f1, f2, f3⟩
  · refine List.nodup_cons.mpr ⟨fun h => ?_, b.fnd⟩
    obtain ⟨q, h1, h2⟩ := List.mem_map.mp h
    exact ne_of_none (b.fm q h1).1 hp h2
/-- it changes -/
theorem Base.hput {p : Addr} {o o' : HO} (b : Base T ((p, o) :: F) I H A m) (ho : ∀ ps, o' ≠ .tbl ps := by exact fun _ z => nomatch z) : Base T ((p, o') :: F) I (upd H p o') A m := by
  obtain ⟨h1, h2, h3⟩ := b.fm _ List.mem_cons_self
  have hnd := List.nodup_cons.mp b.fnd
  refine ⟨fun a u q => by rw [upd_ne (ne_of_none q h3)]; exact b.sub a u q, fun q hq => ?_, b.fnd, b.len, b.nd, fun a ha => upd_some (b.al a ha), b.fr, fun k c a q1 q2 => (b.ok k c a q1 q2).mono (Same.refl I) fun o q => by rw [upd_ne (fun e => h2 (by rw [← e]; exact List.mem_of_getElem? q2))]; exact q, (b.tbs.upd (b.fnt List.mem_cons_self)).fm fun q hq => by
    rcases List.mem_cons.mp hq with e | e
    · subst e; exact ho
    · exact b.tbs.ft q (List.mem_cons_of_mem _ e), b.obs.mono Up.refl fun k c fs a q1 q2 => ⟨q1, q2, upd_ne fun e => h2 (by rw [← e]; exact List.mem_of_getElem? q2)⟩⟩
  rcases List.mem_cons.mp hq with e | e
  · subst e; exact ⟨upd_same, h2, h3⟩
  · obtain ⟨f1, f2, f3⟩ := b.fm q (List.mem_cons_of_mem _ e)
    exact ⟨by rw [upd_ne (fun z => hnd.1 (List.mem_map.mpr ⟨q, e, z⟩))]; exact f1, f2, f3⟩
/-- it is done changing -/
theorem Base.show_ {p : Addr} {o : HO} (b : Base T ((p, o) :: F) I H A m) : Base T F (upd I p o) H A m ∧ Up I (upd I p o) A A := by
  obtain ⟨h1, h2, h3⟩ := b.fm _ List.mem_cons_self
  have hnd := List.nodup_cons.mp b.fnd
  have e : Up I (upd I p o) A A := ⟨same_upd h3, List.prefix_refl A⟩
  refine ⟨⟨fun a u q => ?_, fun q hq => ?_, hnd.2, b.len, b.nd, b.al, fun k c a q1 q2 => ?_, fun k c a q1 q2 => (b.ok k c a q1 q2).mono e.i fun o q => q, (b.tbs.see h3 (b.tbs.ft _ List.mem_cons_self)).fm fun q hq => b.tbs.ft q (List.mem_cons_of_mem _ hq), b.obs.mono e fun k c fs a q1 q2 => ⟨q1, q2, rfl⟩⟩, e⟩
  · by_cases ha : a = p
    · subst ha; rw [upd_same] at q; cases q; exact h1
    · rw [upd_ne ha] at q; exact b.sub a u q
  · obtain ⟨f1, f2, f3⟩ := b.fm q (List.mem_cons_of_mem _ hq)
    exact ⟨f1, f2, by rw [upd_ne (fun z => hnd.1 (List.mem_map.mpr ⟨q, hq, z⟩))]; exact f3⟩
  · rw [upd_ne (fun e => h2 (by rw [← e]; exact List.mem_of_getElem? q2))]
    exact b.fr k c a q1 q2
/-- one more cell at the end -/
theorem Base.takeC (b : Base T F I H A m) {n k : Nat} {c : Cell} {a : Addr} (hn : n ≤ k) (hk : m[k]? = some (some c)) (ha : A[k]? = some a) (hcl : Clo n m) (hob : c.isOb = false) : Base T F I H (A.take n ++ [a]) (m.take n ++ [some c]) := by
  have b0 := b.take n hcl
  have hkl : k < A.length := (List.getElem?_eq_some_iff.mp ha).1
  have hni : a ∉ A.take n := fun h => by
    obtain ⟨j, hj⟩ := List.mem_iff_getElem?.mp h
    have hjn : j < n := by
      have := (List.getElem?_eq_some_iff.mp hj).1
      rw [List.length_take] at this; omega
    rw [List.getElem?_take_of_lt hjn] at hj
    have := nodup_ix b.nd hj ha
    omega
  have hl := b0.len
  have cs : ∀ {j : Nat} {c' : Cell} {z : Addr}, (m.take n ++ [some c])[j]? = some (some c') → (A.take n ++ [a])[j]? = some z → (c' = c ∧ z = a) ∨ ((m.take n)[j]? = some (some c') ∧ (A.take n)[j]? = some z) := fun {j c' z} h1 h2 => by
    by_cases hj : j < (m.take n).length
    · rw [List.getElem?_append_left hj] at h1
      rw [List.getElem?_append_left (by rw [hl]; exact hj)] at h2
      exact .inr ⟨h1, h2⟩
    · have e : j = (m.take n).length := by
        have := (List.getElem?_eq_some_iff.mp h1).1
        rw [List.length_append, List.length_singleton] at this; omega
      subst e
      rw [List.getElem?_append_right (Nat.le_refl _), Nat.sub_self] at h1
      rw [← hl, List.getElem?_append_right (Nat.le_refl _), Nat.sub_self] at h2
      exact .inl ⟨by simpa using h1.symm, by simpa using h2.symm⟩
  refine ⟨b.sub, fun q hq => by
    obtain ⟨f1, f2, f3⟩ := b.fm q hq
    refine ⟨f1, fun h => ?_, f3⟩
    rcases List.mem_append.mp h with h | h
    · exact f2 (List.mem_of_mem_take h)
    · exact f2 (by rw [List.mem_singleton.mp h]; exact List.mem_of_getElem? ha), b.fnd, by rw [List.length_append, List.length_append, hl, List.length_singleton, List.length_singleton], ?_, fun z hz => ?_, fun j c' z h1 h2 => ?_, fun j c' z h1 h2 => ?_, b.tbs, b0.obs.mono ⟨Same.refl I, List.prefix_append _ _⟩ fun j c' fs z h1 h2 => by
    rcases cs h1 h2 with ⟨rfl, rfl⟩ | ⟨h3, h4⟩
    · cases hob
    · exact ⟨h3, h4, rfl⟩⟩
  · refine List.nodup_append.mpr ⟨b0.nd, by simp, fun z hz y hy => ?_⟩
    rw [List.mem_singleton.mp hy]
    exact fun e => hni (e ▸ hz)
  · rcases List.mem_append.mp hz with h | h
    · exact b0.al z h
    · rw [List.mem_singleton.mp h]; exact b.al a (List.mem_of_getElem? ha)
  · rcases cs h1 h2 with ⟨rfl, rfl⟩ | ⟨h3, h4⟩
    · exact b.fr k _ _ hk ha
    · exact b0.fr j c' z h3 h4
  · rcases cs h1 h2 with ⟨rfl, rfl⟩ | ⟨h3, h4⟩
    · exact b.ok k _ _ hk ha
    · exact b0.ok j c' z h3 h4
end
end FM
namespace FM
open PySem PySem.Spec PyProof.Rows L2
/-! ### what a piece of text gives -/
def Rs.bind {α β : Type} (r : Rs α) (k : α → Cells → Rs β) : Rs β := match r with
  | .ok a m => k a m
  | .ex c fs m => .ex c fs m
  | .bad => .bad
/-- nothing may be raised -/
def Rs.calm {α : Type} : Rs α → Rs α
  | .ok a m => .ok a m
  | _ => .bad
section
variable (C : Fc) (B : Bs) (g : Gam) (S : List Vl) (σ : L2.St) (vs : List V)
def WantX (c : Nat) (fs : List Dt) (g : Gam) (m : Cells) : Prop := ∀ σ H' I' A' dx ws, Rel C.T C.x B g S m σ vs H' I' A' → I' dx = some (.xd ((C.T.cf c).zip ws)) → ws.length = (C.T.cf c).length → DRs C.T I' ws fs → C.W (.ref (C.T.ca c)) (some dx) σ H'
def WantE (Q : VK) : Rs Vl → Prop
  | .ok d m' => ∀ v H' I' A', Rel C.T C.x B g (d :: S) m' σ (v :: vs) H' I' A' → Q v H'
  | .ex c fs m' => WantX C B S vs c fs g m'
  | .bad => False
def WantT (Q : Bool → Hp → Prop) : Rs Bool → Prop
  | .ok b m' => ∀ H' I' A', Rel C.T C.x B g S m' σ vs H' I' A' → Q b H'
  | .ex c fs m' => WantX C B S vs c fs g m'
  | .bad => False
def WantA (Q : List V → Hp → Prop) : Rs (List Vl) → Prop
  | .ok ds m' => ∀ ws H' I' A', ws.length = ds.length → Rel C.T C.x B g (ds ++ S) m' σ (ws ++ vs) H' I' A' → Q ws H'
  | .ex c fs m' => WantX C B S vs c fs g m'
  | .bad => False
def WantS (D : Ends) : Out → Prop
  | .nx g' m' => ∀ σ' H' I' A', Rel C.T C.x B g' S m' σ' vs H' I' A' → D.nx σ' H'
  | .rt d m' => ∀ g' σ' v H' I' A', Rel C.T C.x B g' (d :: S) m' σ' (v :: vs) H' I' A' → D.rt v H'
  | .bk g' m' => ∀ σ' H' I' A', Rel C.T C.x B g' S m' σ' vs H' I' A' → D.bk σ' H'
  | .ct g' m' => ∀ σ' H' I' A', Rel C.T C.x B g' S m' σ' vs H' I' A' → D.ct σ' H'
  | .ex c fs g' m' => WantX C B S vs c fs g' m'
  | .bad => False
end
def FE (C : Fc) (me : ME) : TE := fun σ H Q => ∃ B g S m vs I A, Rel C.T C.x B g S m σ vs H I A ∧ WantE C B g S σ vs Q (me g m)
def FT (C : Fc) (mt : MT) : TT := fun σ H Q => ∃ B g S m vs I A, Rel C.T C.x B g S m σ vs H I A ∧ WantT C B g S σ vs Q (mt g m)
def FA (C : Fc) (ma : MA) : TA := fun σ H Q => ∃ B g S m vs I A, Rel C.T C.x B g S m σ vs H I A ∧ WantA C B g S σ vs Q (ma g m)
def FS (C : Fc) (ms : MS) : TS := fun D σ H => ∃ B g S m vs I A, Rel C.T C.x B g S m σ vs H I A ∧ WantS C B S vs D (ms g m)
/-! ### readings by readings -/
section
variable {X : Cx} {e : Expr} {es : List Expr} {st : Stmt} {ss : List Stmt}
theorem pe_of {t t' : TE} (h : PE X e t) (k : ∀ σ H Q, t' σ H Q → t σ H Q) : PE X e t' := ⟨fun pins s σ H Q I q => h.run pins s σ H Q I (k σ H Q q)⟩
theorem pt_of {t t' : TT} (h : PT X e t) (k : ∀ σ H Q, t' σ H Q → t σ H Q) : PT X e t' := ⟨fun pins s σ H Q I q => h.run pins s σ H Q I (k σ H Q q)⟩
theorem pts_of {t t' : TT} (h : PTs X es t) (k : ∀ σ H Q, t' σ H Q → t σ H Q) : PTs X es t' := ⟨fun pins s σ H Q I q => h.run pins s σ H Q I (k σ H Q q)⟩
theorem pw_of {t t' : TT} (h : PW X e t) (k : ∀ σ H Q, t' σ H Q → t σ H Q) : PW X e t' := ⟨fun w pins s σ H Q I q => h.run w pins s σ H Q I (k σ H Q q)⟩
theorem pa_of {t t' : TA} (h : PA X es t) (k : ∀ σ H Q, t' σ H Q → t σ H Q) : PA X es t' := ⟨fun pos pins s σ H Q I q => h.run pos pins s σ H Q I (k σ H Q q)⟩
theorem ps_of {t t' : TS} (h : PS X st t) (k : ∀ D σ H, t' D σ H → t D σ H) : PS X st t' := ⟨fun pins s σ H D I q => h.run pins s σ H D I (k D σ H q)⟩
theorem pss_of {t t' : TS} (h : PSs X ss t) (k : ∀ D σ H, t' D σ H → t D σ H) : PSs X ss t' := ⟨fun pins s σ H D I q => h.run pins s σ H D I (k D σ H q)⟩
end
/-! ### expressions -/
def mVar (i : Nat) : ME := fun g m => match g[i]? with
  | some (some d) => .ok d m
  | _ => .bad
def mC (d : Dt) : ME := fun _ m => .ok (.d d) m
/-- an operation on two values that changes no cell -/
abbrev O2 := Cells → Vl → Vl → Option Vl
def ofO {α : Type} (m : Cells) : Option α → Rs α
  | some d => .ok d m
  | none => .bad
def mOp (f : O2) (ma mb : ME) : ME := fun g m => (ma g m).bind fun x m1 => (mb g m1).bind fun y m2 => ofO m2 (f m2 x y)
def SimO (T : Tab) (r : R2) (f : O2) : Prop := ∀ (F : Frm) (I H : Hp) (A : List Addr) (m : Cells) (x y : V) (d1 d2 d : Vl), Base T F I H A m → VR T I A x d1 → VR T I A y d2 → f m d1 d2 = some d → ∀ Q : VK, (∀ v H' I', Base T F I' H' A m → Same I I' → VR T I' A v d → Q v H') → r x y H Q
section
variable {X : Cx} {C : Fc} {e : Expr} {ma mb mc : ME}
theorem fe_var {i : Nat} (h : PE X e (tVar i)) : PE X e (FE C (mVar i)) := pe_of h fun σ H Q ⟨B, g, S, m, vs, I, A, r, w⟩ => by
  unfold mVar at w
  split at w
  · rename_i d hd
    obtain ⟨v, h1, h2⟩ := r.ctx.look i d hd
    exact ⟨v, h1, w v H I A (r.push h2)⟩
  · exact w.elim
theorem fe_int {i : Int} (h : PE X e (tC (.int i))) : PE X e (FE C (mC (.int i))) := pe_of h fun σ H Q ⟨B, g, S, m, vs, I, A, r, w⟩ => w _ H I A (r.push (.d (.int i)))
theorem fe_str {z : Str} (h : PE X e (tC (.str z))) : PE X e (FE C (mC (.str z))) := pe_of h fun σ H Q ⟨B, g, S, m, vs, I, A, r, w⟩ => w _ H I A (r.push (.d (.str z)))
theorem fe_bl {b : Bool} (h : PE X e (tC (.bl b))) : PE X e (FE C (mC (.bl b))) := pe_of h fun σ H Q ⟨B, g, S, m, vs, I, A, r, w⟩ => w _ H I A (r.push (.d (.bl b)))
theorem fe_non (h : PE X e (tC .non)) : PE X e (FE C (mC .non)) := pe_of h fun σ H Q ⟨B, g, S, m, vs, I, A, r, w⟩ => w _ H I A (r.push (.d .non))
/-- two in a row -/
theorem two_ok {Q' : V → V → Hp → Prop} {σ : L2.St} {H : Hp} {k : Vl → Vl → Cells → Rs Vl} {B : Bs} {g : Gam} {S : List Vl} {m : Cells} {vs : List V} {I : Hp} {A : List Addr} {Q : VK} (r : Rel C.T C.x B g S m σ vs H I A)
    (w : WantE C B g S σ vs Q ((ma g m).bind fun x m1 => (mb g m1).bind fun y m2 => k x y m2))
    (hq : ∀ x y dx dy m2 H2 I2 A2, Rel C.T C.x B g (dy :: dx :: S) m2 σ (y :: x :: vs) H2 I2 A2 → WantE C B g S σ vs Q (k dx dy m2) → Q' x y H2) : FE C ma σ H fun x H1 => FE C mb σ H1 fun y H2 => Q' x y H2 := by
  refine ⟨B, g, S, m, vs, I, A, r, ?_⟩
  cases ea : ma g m with
  | bad => rw [ea] at w; exact w.elim
  | ex c fs m' => rw [ea] at w; exact w
  | ok d1 m1 =>
    rw [ea] at w
    intro x H1 I1 A1 r1
    refine ⟨B, g, d1 :: S, m1, x :: vs, I1, A1, r1, ?_⟩
    have w1 : WantE C B g S σ vs Q ((mb g m1).bind fun y m2 => k d1 y m2) := w
    cases eb : mb g m1 with
    | bad => rw [eb] at w1; exact w1.elim
    | ex c fs m' =>
      rw [eb] at w1
      intro σ' H' I' A' dx ws r' h1 h2 h3
      exact w1 σ' H' I' A' dx ws r'.pop1 h1 h2 h3
    | ok d2 m2 =>
      rw [eb] at w1
      intro y H2 I2 A2 r2
      exact hq x y d1 d2 m2 H2 I2 A2 r2 w1
theorem fe_op {r : R2} {f : O2} (h : PE X e (tOp r (FE C ma) (FE C mb))) (s : SimO C.T r f) : PE X e (FE C (mOp f ma mb)) := pe_of h fun σ H Q ⟨B, g, S, m, vs, I, A, rl, w⟩ =>
  two_ok rl w fun x y dx dy m2 H2 I2 A2 r2 w2 => by
    cases ef : f m2 dx dy with
    | none => rw [ef] at w2; exact w2.elim
    | some d =>
      rw [ef] at w2
      exact s _ I2 H2 A2 m2 x y dx dy d r2.base r2.pop1.top r2.top ef Q fun v H' I' b e hv => w2 v H' I' A2 ((r2.pop1.pop1.step b ⟨e, List.prefix_refl _⟩).push hv)
/-- an operation on one value -/
abbrev O1 := Cells → Vl → Option Vl
def mUn (f : O1) (ma : ME) : ME := fun g m => (ma g m).bind fun x m1 => ofO m1 (f m1 x)
theorem one_ok {Q' : V → Hp → Prop} {σ : L2.St} {H : Hp} {k : Vl → Cells → Rs Vl} {B : Bs} {g : Gam} {S : List Vl} {m : Cells} {vs : List V} {I : Hp} {A : List Addr} {Q : VK} (r : Rel C.T C.x B g S m σ vs H I A)
    (w : WantE C B g S σ vs Q ((ma g m).bind fun x m1 => k x m1))
    (hq : ∀ x dx m1 H1 I1 A1, Rel C.T C.x B g (dx :: S) m1 σ (x :: vs) H1 I1 A1 → WantE C B g S σ vs Q (k dx m1) → Q' x H1) : FE C ma σ H Q' := by
  refine ⟨B, g, S, m, vs, I, A, r, ?_⟩
  cases ea : ma g m with
  | bad => rw [ea] at w; exact w.elim
  | ex c fs m' => rw [ea] at w; exact w
  | ok d1 m1 =>
    rw [ea] at w
    intro x H1 I1 A1 r1
    exact hq x d1 m1 H1 I1 A1 r1 w
def SimU (T : Tab) (r : V → Hp → VK → Prop) (f : O1) : Prop := ∀ (F : Frm) (I H : Hp) (A : List Addr) (m : Cells) (x : V) (d1 d : Vl), Base T F I H A m → VR T I A x d1 → f m d1 = some d → ∀ Q : VK, (∀ v H' I', Base T F I' H' A m → Same I I' → VR T I' A v d → Q v H') → r x H Q
theorem fe_un {r : V → Hp → VK → Prop} {f : O1} {t : TE} (h : PE X e t) (ht : ∀ σ H Q, FE C ma σ H (fun x H1 => r x H1 Q) → t σ H Q) (s : SimU C.T r f) : PE X e (FE C (mUn f ma)) := pe_of h fun σ H Q ⟨B, g, S, m, vs, I, A, rl, w⟩ => ht σ H Q <|
  one_ok rl w fun x dx m2 H2 I2 A2 r2 w2 => by
    cases ef : f m2 dx with
    | none => rw [ef] at w2; exact w2.elim
    | some d =>
      rw [ef] at w2
      exact s _ I2 H2 A2 m2 x dx d r2.base r2.top ef Q fun v H' I' b e hv => w2 v H' I' A2 ((r2.pop1.step b ⟨e, List.prefix_refl _⟩).push hv)
/-! ### arguments -/
def mNil : MA := fun _ m => .ok [] m
def mCons (me : ME) (ma : MA) : MA := fun g m => (me g m).bind fun x m1 => (ma g m1).bind fun xs m2 => .ok (x :: xs) m2
theorem fa_nil (h : PA X [] tNil) : PA X [] (FA C mNil) := pa_of h fun σ H Q ⟨B, g, S, m, vs, I, A, r, w⟩ => w [] H I A rfl r
theorem fa_cons {es : List Expr} {mr : MA} (h : PA X es (tCons (FE C ma) (FA C mr))) : PA X es (FA C (mCons ma mr)) := pa_of h fun σ H Q ⟨B, g, S, m, vs, I, A, r, w⟩ => by
  refine ⟨B, g, S, m, vs, I, A, r, ?_⟩
  unfold mCons at w
  cases ea : ma g m with
  | bad => rw [ea] at w; exact w.elim
  | ex c fs m' => rw [ea] at w; exact w
  | ok d1 m1 =>
    rw [ea] at w
    intro x H1 I1 A1 r1
    refine ⟨B, g, d1 :: S, m1, x :: vs, I1, A1, r1, ?_⟩
    have w1 : WantA C B g S σ vs Q ((mr g m1).bind fun xs m2 => .ok (d1 :: xs) m2) := w
    cases eb : mr g m1 with
    | bad => rw [eb] at w1; exact w1.elim
    | ex c fs m' =>
      rw [eb] at w1
      intro σ' H' I' A' dx ws r' h1 h2 h3
      exact w1 σ' H' I' A' dx ws r'.pop1 h1 h2 h3
    | ok ds m2 =>
      rw [eb] at w1
      intro ws H2 I2 A2 hl r2
      have e2 := r2.stk.split hl
      cases e2.2 with
      | cons hd ht => exact w1 (x :: ws) H2 I2 A2 (by rw [List.length_cons, List.length_cons, hl]) { r2 with stk := .cons hd (e2.1.app ht) }
/-! ### tests -/
def mTest (me : ME) : MT := fun g m => (me g m).bind fun x m1 => match x with
  | .d (.bl b) => .ok b m1
  | _ => .bad
theorem ft_le {σ : L2.St} {H : Hp} {Q : Bool → Hp → Prop} (h : FT C (mTest ma) σ H Q) : FE C ma σ H fun x H1 => ∃ k, x = .bl k ∧ Q k H1 := by
  obtain ⟨B, g, S, m, vs, I, A, r, w⟩ := h
  refine ⟨B, g, S, m, vs, I, A, r, ?_⟩
  unfold mTest at w
  cases ea : ma g m with
  | bad => rw [ea] at w; exact w.elim
  | ex c fs m' => rw [ea] at w; exact w
  | ok d1 m1 =>
    rw [ea] at w
    intro x H1 I1 A1 r1
    cases d1 with
    | ref k => exact (show False from w).elim
    | lam z => exact (show False from w).elim
    | d d =>
      cases d with
      | bl b =>
        have := r1.top.dat
        cases this
        exact ⟨b, rfl, w H1 I1 A1 r1.pop1⟩
      | _ => exact (show False from w).elim
theorem ft_B {e : Expr} (h : PT X e (tB (FE C ma))) : PT X e (FT C (mTest ma)) := pt_of h fun σ H Q q => ft_le q
def mAnd (t u : MT) : MT := fun g m => (t g m).bind fun b m1 => if b = true then u g m1 else .ok false m1
def mOr (t u : MT) : MT := fun g m => (t g m).bind fun b m1 => if b = true then .ok true m1 else u g m1
theorem tone_ok {t : MT} {Q' : Bool → Hp → Prop} {σ : L2.St} {H : Hp} {k : Bool → Cells → Rs Bool} {B : Bs} {g : Gam} {S : List Vl} {m : Cells} {vs : List V} {I : Hp} {A : List Addr} {Q : Bool → Hp → Prop} (r : Rel C.T C.x B g S m σ vs H I A)
    (w : WantT C B g S σ vs Q ((t g m).bind fun x m1 => k x m1))
    (hq : ∀ b m1 H1 I1 A1, Rel C.T C.x B g S m1 σ vs H1 I1 A1 → WantT C B g S σ vs Q (k b m1) → Q' b H1) : FT C t σ H Q' := by
  refine ⟨B, g, S, m, vs, I, A, r, ?_⟩
  cases ea : t g m with
  | bad => rw [ea] at w; exact w.elim
  | ex c fs m' => rw [ea] at w; exact w
  | ok d1 m1 =>
    rw [ea] at w
    intro H1 I1 A1 r1
    exact hq d1 m1 H1 I1 A1 r1 w
theorem le_and {t u : MT} {σ : L2.St} {H : Hp} {Q : Bool → Hp → Prop} (h : FT C (mAnd t u) σ H Q) : tAnd (FT C t) (FT C u) σ H Q := by
  obtain ⟨B, g, S, m, vs, I, A, r, w⟩ := h
  refine tone_ok r w fun b m1 H1 I1 A1 r1 w1 => ?_
  cases b with
  | true => exact ⟨B, g, S, m1, vs, I1, A1, r1, w1⟩
  | false => exact w1 H1 I1 A1 r1
theorem le_or {t u : MT} {σ : L2.St} {H : Hp} {Q : Bool → Hp → Prop} (h : FT C (mOr t u) σ H Q) : tOr (FT C t) (FT C u) σ H Q := by
  obtain ⟨B, g, S, m, vs, I, A, r, w⟩ := h
  refine tone_ok r w fun b m1 H1 I1 A1 r1 w1 => ?_
  cases b with
  | true => exact w1 H1 I1 A1 r1
  | false => exact ⟨B, g, S, m1, vs, I1, A1, r1, w1⟩
theorem fw_and {e : Expr} {t u : MT} (h : PW X e (tAnd (FT C t) (FT C u))) : PW X e (FT C (mAnd t u)) := pw_of h fun σ H Q => le_and
theorem fw_or {e : Expr} {t u : MT} (h : PW X e (tOr (FT C t) (FT C u))) : PW X e (FT C (mOr t u)) := pw_of h fun σ H Q => le_or
end
end FM
namespace FM
open PySem PySem.Spec PyProof.Rows L2
/-! ### targets -/
def WantG (C : Fc) (B : Bs) (S : List Vl) (vs : List V) (Q : L2.St → Hp → Prop) : Option (Gam × Cells) → Prop
  | some p => ∀ σ' H' I' A', Rel C.T C.x B p.1 S p.2 σ' vs H' I' A' → Q σ' H'
  | none => False
def FG (C : Fc) (mg : MG) : TG := fun v σ H Q => ∃ B g S m vs I A d, Rel C.T C.x B g (d :: S) m σ (v :: vs) H I A ∧ WantG C B S vs Q (mg d g m)
def FGs (C : Fc) (mg : MGs) : TGs := fun us σ H Q => ∃ B g S m vs I A ds, us.length = ds.length ∧ Rel C.T C.x B g (ds.map Vl.d ++ S) m σ (us ++ vs) H I A ∧ WantG C B S vs Q (mg ds g m)
def gNm (i : Nat) : MG := fun d g m => some (g.set i (some d), m)
def gsNil : MGs := fun ds g m => match ds with
  | [] => some (g, m)
  | _ => none
def gsCons (mg : MG) (mr : MGs) : MGs := fun ds g m => match ds with
  | d :: r => (mg (.d d) g m).bind fun p => mr r p.1 p.2
  | [] => none
def gTp (n : Nat) (mg : MGs) : MG := fun d g m => match d with
  | .d (.tup ds) => if ds.length = n then mg ds g m else none
  | _ => none
theorem DRs_vrs {T : Tab} {I : Hp} {A : List Addr} {us : List V} {ds : List Dt} (h : DRs T I us ds) : VRs T I A us (ds.map Vl.d) := by
  induction us generalizing ds with
  | nil => cases h; exact .nil
  | cons u us ih => cases h with | cons a t => exact .cons (.d a) (ih t)
section
variable {X : Cx} {C : Fc} {e : Expr} {es : List Expr} {mg : MG} {mr : MGs}
theorem pg_of {t t' : TG} (h : PG X e t) (k : ∀ v σ H Q, t' v σ H Q → t v σ H Q) : PG X e t' := ⟨fun pins s σ H v u Q I r q => h.run pins s σ H v u Q I r (k v σ H Q q)⟩
theorem pgs_of {t t' : TGs} (h : PGs X es t) (k : ∀ v σ H Q, t' v σ H Q → t v σ H Q) : PGs X es t' := ⟨fun pins s σ H v u Q I r q => h.run pins s σ H v u Q I r (k v σ H Q q)⟩
theorem fg_name {i : Nat} (h : PG X e (gName i)) (hx : xfree C.x i = true) : PG X e (FG C (gNm i)) := pg_of h fun v σ H Q ⟨B, g, S, m, vs, I, A, d, r, w⟩ => w _ H I A (r.pop1.slot r.top hx)
theorem fgs_nil (h : PGs X es gNil) : PGs X es (FGs C gsNil) := pgs_of h fun us σ H Q ⟨B, g, S, m, vs, I, A, ds, hl, r, w⟩ => by
  cases ds with
  | nil => cases us with
    | nil => exact ⟨rfl, w σ H I A r⟩
    | cons u us => cases hl
  | cons d ds => exact w.elim
theorem fgs_cons (h : PGs X es (gCons (FG C mg) (FGs C mr))) : PGs X es (FGs C (gsCons mg mr)) := pgs_of h fun us σ H Q ⟨B, g, S, m, vs, I, A, ds, hl, r, w⟩ => by
  cases ds with
  | nil => exact w.elim
  | cons d ds =>
    cases us with
    | nil => cases hl
    | cons u us =>
      refine ⟨u, us, rfl, B, g, ds.map Vl.d ++ S, m, us ++ vs, I, A, .d d, r, ?_⟩
      have w1 : WantG C B S vs Q ((mg (.d d) g m).bind fun p => mr ds p.1 p.2) := w
      cases ea : mg (.d d) g m with
      | none => rw [ea] at w1; exact w1.elim
      | some p =>
        rw [ea] at w1
        intro σ' H' I' A' r'
        exact ⟨B, p.1, S, p.2, vs, I', A', ds, by simpa using hl, r', w1⟩
theorem fg_tup {n : Nat} {mr : MGs} (h : PG X e (gTup C.T.K n (FGs C mr))) : PG X e (FG C (gTp n mr)) := pg_of h fun v σ H Q ⟨B, g, S, m, vs, I, A, d, r, w⟩ => by
  cases d with
  | ref k => exact w.elim
  | lam z => exact w.elim
  | d d =>
    cases d with
    | tup ds =>
      have w1 : WantG C B S vs Q (if ds.length = n then mr ds g m else none) := w
      by_cases hn : ds.length = n
      · rw [if_pos hn] at w1
        cases r.top.dat with
        | tup h1 h2 => exact ⟨_, _, rfl, same_t r.sub h1, by rw [h2.len]; exact hn, B, g, S, m, vs, I, A, ds, h2.len, { r.pop1 with stk := (DRs_vrs h2).app r.pop1.stk }, w1⟩
      · rw [if_neg hn] at w1; exact w1.elim
    | _ => exact w.elim
end
/-! ### statements -/
def thenG (o : Option (Gam × Cells)) : Out := match o with
  | some p => .nx p.1 p.2
  | none => .bad
def mAsg (me : ME) (mg : MG) : MS := fun g m => (me g m).then g fun d m1 => thenG (mg d g m1)
def mDrop (me : ME) : MS := fun g m => (me g m).then g fun _ m1 => .nx g m1
def mRet (me : ME) : MS := fun g m => (me g m).then g fun d m1 => .rt d m1
def mNext : MS := fun g m => .nx g m
def mSeq (s t : MS) : MS := fun g m => match s g m with
  | .nx g' m' => t g' m'
  | o => o
def mIfS (c : MT) (s t : MS) : MS := fun g m => (c g m).then g fun b m1 => if b = true then s g m1 else t g m1
/-- one turn of a loop -/
def turn (o : Out) (k : Gam → Cells → Out) : Out := match o with
  | .nx g m => k g m
  | .ct g m => k g m
  | .bk g m => .nx g m
  | o => o
def mWhile : Nat → MT → MS → MS
  | 0, _, _ => fun _ _ => .bad
  | n + 1, c, s => fun g m => (c g m).then g fun b m1 => if b = true then turn (s g m1) (mWhile n c s) else .nx g m1
def mLoop (mg : MG) (s : MS) : List Dt → MS
  | [] => fun g m => .nx g m
  | x :: r => fun g m => match mg (.d x) g m with
    | some p => turn (s p.1 p.2) (mLoop mg s r)
    | none => .bad
def mFor (mi : MI) (mg : MG) (s : MS) : MS := fun g m => (mi g m).then g fun xs m1 => mLoop mg s xs g m1
section
variable {X : Cx} {C : Fc} {e : Expr} {st : Stmt} {ss : List Stmt} {me : ME} {mg : MG} {s t : MS} {c : MT}
theorem fs_asg (h : PS X st (tAsg (FE C me) (FG C mg))) : PS X st (FS C (mAsg me mg)) := ps_of h fun D σ H ⟨B, g, S, m, vs, I, A, r, w⟩ => by
  refine ⟨B, g, S, m, vs, I, A, r, ?_⟩
  unfold mAsg at w
  cases ea : me g m with
  | bad => rw [ea] at w; exact w.elim
  | ex c fs m' => rw [ea] at w; exact w
  | ok d m1 =>
    rw [ea] at w
    intro v H1 I1 A1 r1
    refine ⟨B, g, S, m1, vs, I1, A1, d, r1, ?_⟩
    have w1 : WantS C B S vs D (thenG (mg d g m1)) := w
    cases eb : mg d g m1 with
    | none => rw [eb] at w1; exact w1.elim
    | some p => rw [eb] at w1; exact w1
theorem fs_set {i : Nat} (h : PS X st (tAsg (FE C me) (gName i))) (hx : xfree C.x i = true) : PS X st (FS C (mAsg me (gNm i))) := ps_of h fun D σ H ⟨B, g, S, m, vs, I, A, r, w⟩ => by
  refine ⟨B, g, S, m, vs, I, A, r, ?_⟩
  unfold mAsg at w
  cases ea : me g m with
  | bad => rw [ea] at w; exact w.elim
  | ex c fs m' => rw [ea] at w; exact w
  | ok d m1 =>
    rw [ea] at w
    intro v H1 I1 A1 r1
    exact w _ H1 I1 A1 (r1.pop1.slot r1.top hx)
theorem fs_drop (h : PS X st (tDrop (FE C me))) : PS X st (FS C (mDrop me)) := ps_of h fun D σ H ⟨B, g, S, m, vs, I, A, r, w⟩ => by
  refine ⟨B, g, S, m, vs, I, A, r, ?_⟩
  unfold mDrop at w
  cases ea : me g m with
  | bad => rw [ea] at w; exact w.elim
  | ex c fs m' => rw [ea] at w; exact w
  | ok d m1 =>
    rw [ea] at w
    intro v H1 I1 A1 r1
    exact w _ H1 I1 A1 r1.pop1
theorem fs_ret (h : PS X st (tRet (FE C me))) : PS X st (FS C (mRet me)) := ps_of h fun D σ H ⟨B, g, S, m, vs, I, A, r, w⟩ => by
  refine ⟨B, g, S, m, vs, I, A, r, ?_⟩
  unfold mRet at w
  cases ea : me g m with
  | bad => rw [ea] at w; exact w.elim
  | ex c fs m' => rw [ea] at w; exact w
  | ok d m1 =>
    rw [ea] at w
    intro v H1 I1 A1 r1
    exact w g _ v H1 I1 A1 r1
theorem fss_nil (h : PSs X ss tNext) : PSs X ss (FS C mNext) := pss_of h fun D σ H ⟨B, g, S, m, vs, I, A, r, w⟩ => w σ H I A r
theorem fss_cons (h : PSs X ss (tSeq (FS C s) (FS C t))) : PSs X ss (FS C (mSeq s t)) := pss_of h fun D σ H ⟨B, g, S, m, vs, I, A, r, w⟩ => by
  refine ⟨B, g, S, m, vs, I, A, r, ?_⟩
  unfold mSeq at w
  cases ea : s g m with
  | nx g' m' =>
    rw [ea] at w
    intro σ' H' I' A' r'
    exact ⟨B, g', S, m', vs, I', A', r', w⟩
  | rt d m' => rw [ea] at w; exact w
  | bk g' m' => rw [ea] at w; exact w
  | ct g' m' => rw [ea] at w; exact w
  | ex c fs g' m' => rw [ea] at w; exact w
  | bad => rw [ea] at w; exact w.elim
theorem fs_if (h : PS X st (tIfS (FT C c) (FS C s) (FS C t))) : PS X st (FS C (mIfS c s t)) := ps_of h fun D σ H ⟨B, g, S, m, vs, I, A, r, w⟩ => by
  refine ⟨B, g, S, m, vs, I, A, r, ?_⟩
  unfold mIfS at w
  cases ea : c g m with
  | bad => rw [ea] at w; exact w.elim
  | ex c fs m' => rw [ea] at w; exact w
  | ok b m1 =>
    rw [ea] at w
    intro H1 I1 A1 r1
    cases b with
    | true => exact ⟨B, g, S, m1, vs, I1, A1, r1, w⟩
    | false => exact ⟨B, g, S, m1, vs, I1, A1, r1, w⟩
theorem fs_while (n : Nat) (h : PS X st (tWhile (FT C c) (FS C s))) : PS X st (FS C (mWhile n c s)) := ps_of h fun D σ H ⟨B, g, S, m, vs, I, A, r, w⟩ => by
  refine ⟨fun n σ' H' => ∃ g m I A, Rel C.T C.x B g S m σ' vs H' I A ∧ WantS C B S vs D (mWhile n c s g m), ⟨n, g, m, I, A, r, w⟩, ?_⟩
  rintro n σ' H' ⟨g, m, I, A, r, w⟩
  refine ⟨B, g, S, m, vs, I, A, r, ?_⟩
  cases n with
  | zero => exact w.elim
  | succ n =>
    unfold mWhile at w
    cases ea : c g m with
    | bad => rw [ea] at w; exact w.elim
    | ex c fs m' => rw [ea] at w; exact w
    | ok b m1 =>
      rw [ea] at w
      intro H1 I1 A1 r1
      cases b with
      | false => exact w _ H1 I1 A1 r1
      | true =>
        have w1 : WantS C B S vs D (turn (s g m1) (mWhile n c s)) := w
        refine ⟨fun σ3 H3 => ∃ g m I A, Rel C.T C.x B g S m σ3 vs H3 I A ∧ WantS C B S vs D (mWhile n c s g m), fun σ3 H3 q => ⟨n, Nat.lt_succ_self n, q⟩, B, g, S, m1, vs, I1, A1, r1, ?_⟩
        unfold turn at w1
        cases eb : s g m1 with
        | nx g' m' => rw [eb] at w1; exact fun σ' H' I' A' r' => ⟨g', m', I', A', r', w1⟩
        | ct g' m' => rw [eb] at w1; exact fun σ' H' I' A' r' => ⟨g', m', I', A', r', w1⟩
        | bk g' m' => rw [eb] at w1; exact w1
        | rt d m' => rw [eb] at w1; exact w1
        | ex c fs g' m' => rw [eb] at w1; exact w1
        | bad => rw [eb] at w1; exact w1.elim
/-! ### what is walked -/
structure ItD (T : Tab) (x : Option Xc) (B1 : Bs) (J : It) (xs : List Dt) : Prop where
  go : ∀ i g S m σ vs H I A, i < xs.length → Rel T x B1 g S m σ vs H I A → J.go i H
  yl : ∀ i g S m σ vs H I A v H' d, xs[i]? = some d → Rel T x B1 g S m σ vs H I A → J.yld i H v H' → ∃ I', Rel T x B1 g (.d d :: S) m σ (v :: vs) H' I' A
  st : ∀ i g S m σ vs H I A, xs.length ≤ i → Rel T x B1 g S m σ vs H I A → J.stop i H
def WantI (C : Fc) (B : Bs) (g : Gam) (S : List Vl) (σ : L2.St) (vs : List V) (R : It → Hp → Prop) : Rs (List Dt) → Prop
  | .ok xs m' => ∀ J H' I' A', Rel C.T C.x B g S m' σ vs H' I' A' → (∀ F, ItD C.T C.x ⟨F, I', A'⟩ J xs) → R J H'
  | .ex c fs m' => WantX C B S vs c fs g m'
  | .bad => False
def FI (C : Fc) (mi : MI) : TI := fun σ H R => ∃ B g S m vs I A, Rel C.T C.x B g S m σ vs H I A ∧ WantI C B g S σ vs R (mi g m)
theorem pi_of {tg it : Expr} {t t' : TI} (h : PI X tg it t) (k : ∀ σ H R, t' σ H R → t σ H R) : PI X tg it t' := ⟨fun pins s σ H R I q => h.run pins s σ H R I (k σ H R q)⟩
/-- a value and what is walked of it -/
def mIt (me : ME) (f : Vl → Option (List Dt)) : MI := fun g m => (me g m).bind fun d m1 => ofO m1 (f d)
theorem it_ok {f : Vl → Option (List Dt)} {Q' : V → Hp → Prop} {σ : L2.St} {H : Hp} {R : It → Hp → Prop} (h : FI C (mIt me f) σ H R)
    (hq : ∀ B g S vs v d xs m1 H1 I1 A1, Rel C.T C.x B g (d :: S) m1 σ (v :: vs) H1 I1 A1 → f d = some xs → (∀ J H' I' A', Rel C.T C.x B g S m1 σ vs H' I' A' → (∀ F, ItD C.T C.x ⟨F, I', A'⟩ J xs) → R J H') → Q' v H1) : FE C me σ H Q' := by
  obtain ⟨B, g, S, m, vs, I, A, r, w⟩ := h
  refine ⟨B, g, S, m, vs, I, A, r, ?_⟩
  unfold mIt at w
  cases ea : me g m with
  | bad => rw [ea] at w; exact w.elim
  | ex c fs m' => rw [ea] at w; exact w
  | ok d m1 =>
    rw [ea] at w
    intro v H1 I1 A1 r1
    have w1 : WantI C B g S σ vs R (ofO m1 (f d)) := w
    cases ef : f d with
    | none => rw [ef] at w1; exact w1.elim
    | some xs => rw [ef] at w1; exact hq B g S vs v d xs m1 H1 I1 A1 r1 ef w1
def isLst : Vl → Option (List Dt)
  | .d (.lst ds) => some ds
  | .d (.scr ds) => some ds
  | _ => none
def isTup : Vl → Option (List Dt)
  | .d (.tup ds) => some ds
  | _ => none
def isSeq : Vl → Option (List Dt)
  | .d (.lst ds) => some ds
  | .d (.tup ds) => some ds
  | _ => none
theorem itl_itd {x : Option Xc} {T : Tab} {F : Frm} {I1 : Hp} {A1 : List Addr} {a : Addr} {xs : List V} {ds : List Dt} (hl : SqL T.K I1 a xs) (hs : DRs T I1 xs ds) : ItD T x ⟨F, I1, A1⟩ (Itl T.K a) ds where
  go := fun i g S m σ vs H I A hi r => ⟨xs, _, same_l (r.up.i.trans r.sub) hl, List.getElem?_eq_getElem (by rw [hs.len]; exact hi)⟩
  yl := fun i g S m σ vs H I A v H' d hx r hy => by
    obtain ⟨e1, e2⟩ := hy
    subst e1
    obtain ⟨u, hv, hr⟩ := hs.get hx
    have e3 := e2 _ (same_l (r.up.i.trans r.sub) hl)
    rw [hv] at e3
    cases e3
    exact ⟨I, r.push (.d (hr.mono r.up.i))⟩
  st := fun i g S m σ vs H I A hi r => ⟨xs, same_l (r.up.i.trans r.sub) hl, by rw [hs.len]; exact hi⟩
theorem itt_itd {x : Option Xc} {T : Tab} {F : Frm} {I1 : Hp} {A1 : List Addr} {a : Addr} {xs : List V} {ds : List Dt} (hl : SqT T.K I1 a xs) (hs : DRs T I1 xs ds) : ItD T x ⟨F, I1, A1⟩ (Itt T.K a) ds where
  go := fun i g S m σ vs H I A hi r => ⟨xs, _, same_t (r.up.i.trans r.sub) hl, List.getElem?_eq_getElem (by rw [hs.len]; exact hi)⟩
  yl := fun i g S m σ vs H I A v H' d hx r hy => by
    obtain ⟨e1, e2⟩ := hy
    subst e1
    obtain ⟨u, hv, hr⟩ := hs.get hx
    have e3 := e2 _ (same_t (r.up.i.trans r.sub) hl)
    rw [hv] at e3
    cases e3
    exact ⟨I, r.push (.d (hr.mono r.up.i))⟩
  st := fun i g S m σ vs H I A hi r => ⟨xs, same_t (r.up.i.trans r.sub) hl, by rw [hs.len]; exact hi⟩
theorem fi_lst {tg it : Expr} (h : PI X tg it (iList C.T.K (FE C me))) : PI X tg it (FI C (mIt me isLst)) := pi_of h fun σ H R q => it_ok q fun B g S vs v d xs m1 H1 I1 A1 r ef w => by
  cases d with
  | ref k => cases ef
  | lam z => cases ef
  | d d =>
    cases d with
    | lst ds =>
      cases ef
      cases r.top.dat with
      | @lst a ys _ hl hs => exact ⟨a, rfl, ⟨ys, .inl (.inl (r.sub _ _ hl))⟩, w _ H1 I1 A1 r.pop1 fun F => itl_itd (.inl (.inl hl)) hs⟩
    | scr ds =>
      cases ef
      cases r.top.dat with
      | @scr a ys _ hl hs => exact ⟨a, rfl, ⟨ys, same_l r.sub hl⟩, w _ H1 I1 A1 r.pop1 fun F => itl_itd hl hs⟩
    | _ => cases ef
theorem fi_tup {tg it : Expr} (h : PI X tg it (iTup C.T.K (FE C me))) : PI X tg it (FI C (mIt me isTup)) := pi_of h fun σ H R q => it_ok q fun B g S vs v d xs m1 H1 I1 A1 r ef w => by
  cases d with
  | ref k => cases ef
  | lam z => cases ef
  | d d =>
    cases d with
    | tup ds =>
      cases ef
      cases r.top.dat with
      | @tup a ys _ hl hs => exact ⟨a, rfl, ⟨ys, same_t r.sub hl⟩, w _ H1 I1 A1 r.pop1 fun F => itt_itd hl hs⟩
    | _ => cases ef
/-- for -/
theorem fs_for {mi : MI} (h : PS X st (tFor (FI C mi) (FG C mg) (FS C s))) : PS X st (FS C (mFor mi mg s)) := ps_of h fun D σ H ⟨B, g, S, m, vs, I, A, r, w⟩ => by
  refine ⟨B, g, S, m, vs, I, A, r, ?_⟩
  unfold mFor at w
  cases ea : mi g m with
  | bad => rw [ea] at w; exact w.elim
  | ex c fs m' => rw [ea] at w; exact w
  | ok xs m1 =>
    rw [ea] at w
    intro J H1 I1 A1 r1 it
    have w1 : WantS C B S vs D (mLoop mg s xs g m1) := w
    have itd := it B.F
    refine ⟨fun i n σ' H' => i + n = xs.length ∧ ∃ g m I A, Rel C.T C.x ⟨B.F, I1, A1⟩ g S m σ' vs H' I A ∧ WantS C B S vs D (mLoop mg s (xs.drop i) g m), ⟨xs.length, by omega, g, m1, I1, A1, r1.grip, by simpa using w1⟩, ?_⟩
    rintro i n σ' H' ⟨hn, g, m, I, A, r, w⟩
    by_cases hi : i < xs.length
    · have hd : xs.drop i = xs[i] :: xs.drop (i + 1) := List.drop_eq_getElem_cons hi
      rw [hd] at w
      refine .inr ⟨itd.go i g S m σ' vs H' I A hi r, fun σ2 H2 => ∃ g m I A, Rel C.T C.x ⟨B.F, I1, A1⟩ g S m σ2 vs H2 I A ∧ WantS C B S vs D (mLoop mg s (xs.drop (i + 1)) g m), fun σ2 H2 q => ⟨n - 1, by omega, by omega, q⟩, fun v H2 hy => ?_⟩
      obtain ⟨I2, r2⟩ := itd.yl i g S m σ' vs H' I A v H2 xs[i] (List.getElem?_eq_getElem hi) r hy
      refine ⟨⟨B.F, I1, A1⟩, g, S, m, vs, I2, A, _, r2, ?_⟩
      unfold mLoop at w
      cases eb : mg (.d xs[i]) g m with
      | none => rw [eb] at w; exact w.elim
      | some p =>
        rw [eb] at w
        intro σ3 H3 I3 A3 r3
        refine ⟨⟨B.F, I1, A1⟩, p.1, S, p.2, vs, I3, A3, r3, ?_⟩
        have w2 : WantS C B S vs D (turn (s p.1 p.2) (mLoop mg s (xs.drop (i + 1)))) := w
        unfold turn at w2
        cases ec : s p.1 p.2 with
        | nx g' m' => rw [ec] at w2; exact fun σ' H' I' A' r' => ⟨g', m', I', A', r', w2⟩
        | ct g' m' => rw [ec] at w2; exact fun σ' H' I' A' r' => ⟨g', m', I', A', r', w2⟩
        | bk g' m' => rw [ec] at w2; exact fun σ' H' I' A' r' => w2 σ' H' I' A' (r'.from r1.up)
        | rt d m' => rw [ec] at w2; exact fun g' σ' v H' I' A' r' => w2 g' σ' v H' I' A' (r'.from r1.up)
        | ex c fs g' m' => rw [ec] at w2; exact fun σ' H' I' A' dx ws r' => w2 σ' H' I' A' dx ws (r'.from r1.up)
        | bad => rw [ec] at w2; exact w2.elim
    · have hd : xs.drop i = [] := List.drop_eq_nil_of_le (by omega)
      rw [hd] at w
      exact .inl ⟨itd.st i g S m σ' vs H' I A (by omega) r, w σ' H' I A (r.from r1.up)⟩
end
end FM
namespace FM
open PySem PySem.Spec PyProof.Rows L2
/-! ### displays, calls of built-ins -/
def szOk (n : Nat) : Bool := decide (n ≤ 16777216)
theorem szOk_line {n : Nat} (h : szOk n = true) : n ≤ sizeLine := by rw [sizeLine_eq]; exact of_decide_eq_true h
def mTup (ma : MA) : ME := fun g m => (ma g m).bind fun vs m1 => match dats vs with
  | some ds => if szOk ds.length then .ok (.d (.tup ds)) m1 else .bad
  | none => .bad
def mLst (ma : MA) : ME := fun g m => (ma g m).bind fun vs m1 => match dats vs with
  | some ds => if szOk ds.length then .ok (.d (.lst ds)) m1 else .bad
  | none => .bad
/-- a list that may change -/
def mLstC (ma : MA) : ME := fun g m => (ma g m).bind fun vs m1 => match dats vs with
  | some ds => if szOk ds.length then .ok (.ref m1.length) (m1 ++ [some (.lst ds)]) else .bad
  | none => .bad
section
variable {X : Cx} {C : Fc} {e : Expr} {ma : MA}
theorem args_ok {Q' : List V → Hp → Prop} {σ : L2.St} {H : Hp} {k : List Vl → Cells → Rs Vl} {B : Bs} {g : Gam} {S : List Vl} {m : Cells} {vs : List V} {I : Hp} {A : List Addr} {Q : VK} (r : Rel C.T C.x B g S m σ vs H I A)
    (w : WantE C B g S σ vs Q ((ma g m).bind fun x m1 => k x m1))
    (hq : ∀ ws ds m1 H1 I1 A1, Rel C.T C.x B g S m1 σ vs H1 I1 A1 → VRs C.T I1 A1 ws ds → WantE C B g S σ vs Q (k ds m1) → Q' ws H1) : FA C ma σ H Q' := by
  refine ⟨B, g, S, m, vs, I, A, r, ?_⟩
  cases ea : ma g m with
  | bad => rw [ea] at w; exact w.elim
  | ex c fs m' => rw [ea] at w; exact w
  | ok ds m1 =>
    rw [ea] at w
    intro ws H1 I1 A1 hl r1
    obtain ⟨q1, q2⟩ := r1.stk.split hl
    exact hq ws ds m1 H1 I1 A1 { r1 with stk := q2 } q1 w
theorem fe_tup (h : PE X e (tTup (FA C ma))) : PE X e (FE C (mTup ma)) := pe_of h fun σ H Q ⟨B, g, S, m, vs, I, A, r, w⟩ => args_ok r w fun ws ds m1 H1 I1 A1 r1 hv w1 => by
  cases ed : dats ds with
  | none => rw [ed] at w1; exact (show False from w1).elim
  | some es =>
    rw [ed] at w1
    by_cases hz : szOk es.length = true
    · have w2 : WantE C B g S σ vs Q (.ok (.d (.tup es)) m1) := by
        have := w1
        simp only [hz, if_true] at this
        exact this
      have hd := hv.dats ed
      refine ⟨by rw [hd.len]; exact szOk_line hz, fun p hp => ?_⟩
      obtain ⟨b, e⟩ := r1.base.new (o := .tup ws) hp
      exact w2 _ _ _ _ ((r1.step b e).push (.d (.tup (.inl (.inl upd_same)) (hd.mono e.i))))
    · simp only [hz, if_false] at w1; exact (show False from w1).elim
theorem fe_lst (h : PE X e (tLst (FA C ma))) : PE X e (FE C (mLst ma)) := pe_of h fun σ H Q ⟨B, g, S, m, vs, I, A, r, w⟩ => args_ok r w fun ws ds m1 H1 I1 A1 r1 hv w1 => by
  cases ed : dats ds with
  | none => rw [ed] at w1; exact (show False from w1).elim
  | some es =>
    rw [ed] at w1
    by_cases hz : szOk es.length = true
    · have w2 : WantE C B g S σ vs Q (.ok (.d (.lst es)) m1) := by
        have := w1
        simp only [hz, if_true] at this
        exact this
      have hd := hv.dats ed
      refine ⟨by rw [hd.len]; exact szOk_line hz, fun p hp => ?_⟩
      obtain ⟨b, e⟩ := r1.base.new (o := .lst ws) hp
      exact w2 _ _ _ _ ((r1.step b e).push (.d (.lst upd_same (hd.mono e.i))))
    · simp only [hz, if_false] at w1; exact (show False from w1).elim
theorem last_get {α : Type} (A : List α) (p : α) : (A ++ [p])[A.length]? = some p := by rw [List.getElem?_append_right (Nat.le_refl _), Nat.sub_self]; rfl
theorem fe_lstC (h : PE X e (tLst (FA C ma))) : PE X e (FE C (mLstC ma)) := pe_of h fun σ H Q ⟨B, g, S, m, vs, I, A, r, w⟩ => args_ok r w fun ws ds m1 H1 I1 A1 r1 hv w1 => by
  cases ed : dats ds with
  | none => rw [ed] at w1; exact (show False from w1).elim
  | some es =>
    rw [ed] at w1
    by_cases hz : szOk es.length = true
    · have w2 : WantE C B g S σ vs Q (.ok (.ref m1.length) (m1 ++ [some (.lst es)])) := by
        have := w1
        simp only [hz, if_true] at this
        exact this
      have hd := hv.dats ed
      refine ⟨by rw [hd.len]; exact szOk_line hz, fun p hp => ?_⟩
      obtain ⟨b, e⟩ := r1.base.newC (o := .lst ws) (c := .lst es) hp ⟨ws, upd_same, hd⟩
      exact w2 _ _ _ _ ((r1.step b e).push (.ref (by rw [← r1.base.len]; exact last_get A1 p)))
    · simp only [hz, if_false] at w1; exact (show False from w1).elim
/-- a call on values -/
abbrev ON := Cells → List Vl → Option Vl
def mCB (f : ON) (ma : MA) : ME := fun g m => (ma g m).bind fun xs m1 => ofO m1 (f m1 xs)
def SimN (T : Tab) (r : List V → Hp → VK → Prop) (f : ON) : Prop := ∀ (F : Frm) (I H : Hp) (A : List Addr) (m : Cells) (ws : List V) (ds : List Vl) (d : Vl), Base T F I H A m → VRs T I A ws ds → f m ds = some d → ∀ Q : VK, (∀ v H' I', Base T F I' H' A m → Same I I' → VR T I' A v d → Q v H') → r ws H Q
theorem fe_cb {r : List V → Hp → VK → Prop} {f : ON} (h : PE X e (tCB r (FA C ma))) (s : SimN C.T r f) : PE X e (FE C (mCB f ma)) := pe_of h fun σ H Q ⟨B, g, S, m, vs, I, A, rl, w⟩ => args_ok rl w fun ws ds m1 H1 I1 A1 r1 hv w1 => by
  cases ef : f m1 ds with
  | none => rw [ef] at w1; exact w1.elim
  | some d =>
    rw [ef] at w1
    exact s _ I1 H1 A1 m1 ws ds d r1.base hv ef Q fun v H' I' b e hd => w1 v H' I' A1 ((r1.step b ⟨e, List.prefix_refl _⟩).push hd)
/-- a call that makes a list, as data -/
abbrev OL := Cells → List Vl → Option (List Dt)
def SimL (T : Tab) (r : List V → Hp → VK → Prop) (f : OL) : Prop := ∀ (F : Frm) (I H : Hp) (A : List Addr) (m : Cells) (ws : List V) (ds : List Vl) (es : List Dt), Base T F I H A m → VRs T I A ws ds → f m ds = some es → ∀ Q : VK, (∀ p us, H p = none → DRs T I us es → Q (.ref p) (upd H p (.lst us))) → r ws H Q
def mCL (f : OL) (ma : MA) : ME := fun g m => (ma g m).bind fun xs m1 => match f m1 xs with
  | some ds => .ok (.d (.lst ds)) m1
  | none => .bad
/-- the same, a cell -/
def mCLC (f : OL) (ma : MA) : ME := fun g m => (ma g m).bind fun xs m1 => match f m1 xs with
  | some ds => .ok (.ref m1.length) (m1 ++ [some (.lst ds)])
  | none => .bad
theorem fe_cl {r : List V → Hp → VK → Prop} {f : OL} (h : PE X e (tCB r (FA C ma))) (s : SimL C.T r f) : PE X e (FE C (mCL f ma)) := pe_of h fun σ H Q ⟨B, g, S, m, vs, I, A, rl, w⟩ => args_ok rl w fun ws ds m1 H1 I1 A1 r1 hv w1 => by
  cases ef : f m1 ds with
  | none => rw [ef] at w1; exact (show False from w1).elim
  | some es =>
    rw [ef] at w1
    exact s _ I1 H1 A1 m1 ws ds es r1.base hv ef Q fun p us hp hd => by
      obtain ⟨b, e⟩ := r1.base.new (o := .lst us) hp
      exact w1 _ _ _ _ ((r1.step b e).push (.d (.lst upd_same (hd.mono e.i))))
theorem fe_clC {r : List V → Hp → VK → Prop} {f : OL} (h : PE X e (tCB r (FA C ma))) (s : SimL C.T r f) : PE X e (FE C (mCLC f ma)) := pe_of h fun σ H Q ⟨B, g, S, m, vs, I, A, rl, w⟩ => args_ok rl w fun ws ds m1 H1 I1 A1 r1 hv w1 => by
  cases ef : f m1 ds with
  | none => rw [ef] at w1; exact (show False from w1).elim
  | some es =>
    rw [ef] at w1
    exact s _ I1 H1 A1 m1 ws ds es r1.base hv ef Q fun p us hp hd => by
      obtain ⟨b, e⟩ := r1.base.newC (o := .lst us) (c := .lst es) hp ⟨us, upd_same, hd⟩
      exact w1 _ _ _ _ ((r1.step b e).push (.ref (by rw [← r1.base.len]; exact last_get A1 p)))
end
/-! ### list comprehensions -/
def Only (js : List Nat) (σ σ' : L2.St) : Prop := σ'.length = σ.length ∧ ∀ i, i ∉ js → σ'[i]? = σ[i]?
def Fills (tg : TG) (js : List Nat) : Prop := ∀ v σ H (Q Q' : L2.St → Hp → Prop), tg v σ H Q → (∀ σ' H', Only js σ σ' → Q σ' H' → Q' σ' H') → tg v σ H Q'
def FillsS (tg : TGs) (js : List Nat) : Prop := ∀ v σ H (Q Q' : L2.St → Hp → Prop), tg v σ H Q → (∀ σ' H', Only js σ σ' → Q σ' H' → Q' σ' H') → tg v σ H Q'
theorem fills_name {i : Nat} : Fills (gName i) [i] := fun v σ H Q Q' h k => k _ _ ⟨List.length_set, fun j hj => List.getElem?_set_ne (fun e => hj (by rw [e]; exact List.mem_singleton.mpr rfl))⟩ h
theorem fills_nil : FillsS gNil [] := fun vs σ H Q Q' h k => ⟨h.1, k _ _ ⟨rfl, fun _ _ => rfl⟩ h.2⟩
theorem fills_cons {tg : TG} {tr : TGs} {js ks : List Nat} (h : Fills tg js) (hr : FillsS tr ks) : FillsS (gCons tg tr) (js ++ ks) := fun vs σ H Q Q' ⟨v, r, e, q⟩ k => ⟨v, r, e, h _ _ _ _ _ q fun σ1 H1 o1 q1 => hr _ _ _ _ _ q1 fun σ2 H2 o2 q2 => k _ _ ⟨o2.1.trans o1.1, fun i hi => by
  have h1 : i ∉ js := fun z => hi (List.mem_append_left _ z)
  have h2 : i ∉ ks := fun z => hi (List.mem_append_right _ z)
  rw [o2.2 i h2, o1.2 i h1]⟩ q2⟩
theorem fills_tup {K : PySem.W.Frag} {n : Nat} {tr : TGs} {js : List Nat} (h : FillsS tr js) : Fills (gTup K n tr) js := fun v σ H Q Q' ⟨a, xs, e1, e2, e3, q⟩ k => ⟨a, xs, e1, e2, e3, h _ _ _ _ _ q k⟩
theorem sg_name {C : Fc} {i : Nat} (hx : xfree C.x i = true) : ∀ v σ H Q, FG C (gNm i) v σ H Q → gName i v σ H Q := fun v σ H Q ⟨B, g, S, m, vs, I, A, d, r, w⟩ => w _ H I A (r.pop1.slot r.top hx)
theorem sgs_nil {C : Fc} : ∀ us σ H Q, FGs C gsNil us σ H Q → gNil us σ H Q := fun us σ H Q ⟨B, g, S, m, vs, I, A, ds, hl, r, w⟩ => by
  cases ds with
  | nil => cases us with
    | nil => exact ⟨rfl, w σ H I A r⟩
    | cons u us => cases hl
  | cons d ds => exact w.elim
theorem sgs_cons {C : Fc} {mg : MG} {mr : MGs} {tg : TG} {tr : TGs} (h1 : ∀ v σ H Q, FG C mg v σ H Q → tg v σ H Q) (h2 : ∀ us σ H Q, FGs C mr us σ H Q → tr us σ H Q) : ∀ us σ H Q, FGs C (gsCons mg mr) us σ H Q → gCons tg tr us σ H Q := fun us σ H Q ⟨B, g, S, m, vs, I, A, ds, hl, r, w⟩ => by
  cases ds with
  | nil => exact w.elim
  | cons d ds =>
    cases us with
    | nil => cases hl
    | cons u us =>
      refine ⟨u, us, rfl, h1 _ _ _ _ ⟨B, g, ds.map Vl.d ++ S, m, us ++ vs, I, A, .d d, r, ?_⟩⟩
      have w1 : WantG C B S vs Q ((mg (.d d) g m).bind fun p => mr ds p.1 p.2) := w
      cases ea : mg (.d d) g m with
      | none => rw [ea] at w1; exact w1.elim
      | some p =>
        rw [ea] at w1
        intro σ' H' I' A' r'
        exact h2 _ _ _ _ ⟨B, p.1, S, p.2, vs, I', A', ds, by simpa using hl, r', w1⟩
theorem sg_tup {C : Fc} {n : Nat} {mr : MGs} {tr : TGs} (h2 : ∀ us σ H Q, FGs C mr us σ H Q → tr us σ H Q) : ∀ v σ H Q, FG C (gTp n mr) v σ H Q → gTup C.T.K n tr v σ H Q := fun v σ H Q ⟨B, g, S, m, vs, I, A, d, r, w⟩ => by
  cases d with
  | ref k => exact w.elim
  | lam z => exact w.elim
  | d d =>
    cases d with
    | tup ds =>
      have w1 : WantG C B S vs Q (if ds.length = n then mr ds g m else none) := w
      by_cases hn : ds.length = n
      · rw [if_pos hn] at w1
        cases r.top.dat with
        | tup h1 h3 => exact ⟨_, _, rfl, same_t r.sub h1, by rw [h3.len]; exact hn, h2 _ _ _ _ ⟨B, g, S, m, vs, I, A, ds, h3.len, { r.pop1 with stk := (DRs_vrs h3).app r.pop1.stk }, w1⟩⟩
      · rw [if_neg hn] at w1; exact w1.elim
    | _ => exact w.elim
def wipeG (g : Gam) : List Nat → Gam
  | [] => g
  | v :: vs => (wipeG g vs).set v none
theorem Ctx.wipe {T : Tab} {I : Hp} {A : List Addr} {σ : L2.St} {g : Gam} (h : Ctx T I A σ g) : ∀ vs : List Nat, Ctx T I A (L2.wipe σ vs) (wipeG g vs)
  | [] => h
  | v :: vs => (Ctx.wipe h vs).drop
theorem wipe_in {σ : L2.St} {i : Nat} : ∀ {vs : List Nat}, i ∈ vs → (L2.wipe σ vs)[i]? = σ[i]?.map fun _ => none
  | [], h => by cases h
  | v :: vs, h => by
    unfold L2.wipe
    by_cases e : v = i
    · subst e
      by_cases hl : v < σ.length
      · rw [List.getElem?_set_self (by rw [L2.wipe_length]; exact hl), List.getElem?_eq_getElem hl]
        rfl
      · rw [List.getElem?_eq_none (by rw [List.length_set, L2.wipe_length]; omega), List.getElem?_eq_none (by omega)]
        rfl
    · rw [List.getElem?_set_ne e]
      exact wipe_in (by
        rcases List.mem_cons.mp h with w | w
        · exact absurd w.symm e
        · exact w)
theorem wipe_only {σ σ2 : L2.St} {js vs : List Nat} (hj : ∀ j ∈ js, j ∈ vs) (h : Only js (L2.wipe σ vs) σ2) : L2.wipe σ2 vs = L2.wipe σ vs := by
  refine List.ext_getElem? fun i => ?_
  by_cases hi : i ∈ vs
  · rw [wipe_in hi, wipe_in hi]
    have hl : σ2.length = σ.length := by rw [h.1, L2.wipe_length]
    by_cases w : i < σ.length
    · rw [List.getElem?_eq_getElem w, List.getElem?_eq_getElem (by rw [hl]; exact w)]
      rfl
    · rw [List.getElem?_eq_none (by omega), List.getElem?_eq_none (by omega)]
  · rw [L2.wipe_out hi, h.2 i (fun w => hi (hj i w)), L2.wipe_out hi]
def lcLoop (mg : MG) (mt : MT) (me : ME) (g0 : Gam) : List Dt → List Dt → Cells → Rs (List Dt)
  | [], acc, m => .ok acc m
  | x :: r, acc, m => match mg (.d x) g0 m with
    | none => .bad
    | some p => match mt p.1 p.2 with
      | .ok true m2 => (match me p.1 m2 with
        | .ok (.d d) m3 => if szOk (acc.length + 1) then lcLoop mg mt me g0 r (acc ++ [d]) m3 else .bad
        | _ => .bad)
      | .ok false m2 => lcLoop mg mt me g0 r acc m2
      | _ => .bad
def mLc (mi : MI) (mg : MG) (mt : MT) (me : ME) (own : List Nat) : ME := fun g m => (mi g m).bind fun xs m1 => (lcLoop mg mt me (wipeG g own) xs [] m1).bind fun acc m2 => .ok (.d (.lst acc)) m2
def mYes : MT := fun _ m => .ok true m
theorem ft_yes {X : Cx} {C : Fc} {es : List Expr} (h : PTs X es tYes) : PTs X es (FT C mYes) := pts_of h fun σ H Q ⟨B, g, S, m, vs, I, A, r, w⟩ => w H I A r
def W0 : WX := fun _ _ _ _ => False
abbrev Fc.quiet (C : Fc) : Fc := ⟨C.T, none, W0⟩
theorem vrs_drs {T : Tab} {I : Hp} {A : List Addr} {us : List V} {ds : List Dt} (h : VRs T I A us (ds.map Vl.d)) : DRs T I us ds := by
  induction us generalizing ds with
  | nil => cases ds with
    | nil => exact .nil
    | cons d ds => cases h
  | cons u us ih => cases ds with
    | nil => cases h
    | cons d ds => cases h with | cons a t => exact .cons a.dat (ih t)
/-- the loop of a comprehension; the end by fin -/
theorem lc_ok {C : Fc} {mi : MI} {mg : MG} {mt : MT} {me : ME} {own js : List Nat} {tg : TG} (hg : ∀ v σ H Q, FG C.quiet mg v σ H Q → tg v σ H Q) (hf : Fills tg js) (hj : ∀ j ∈ js, j ∈ own) (cx : C.x = none) {σ : L2.St} {H : Hp} {Q : VK} {k : List Dt → Cells → Rs Vl}
    {B : Bs} {g : Gam} {S : List Vl} {m : Cells} {vs : List V} {I : Hp} {A : List Addr} (r : Rel C.T C.x B g S m σ vs H I A) (w : WantE C B g S σ vs Q ((mi g m).bind fun xs m1 => (lcLoop mg mt me (wipeG g own) xs [] m1).bind k))
    (fin : ∀ D us acc m2 H2 I2 A2, Rel C.T C.x ⟨(D, .lst us) :: B.F, B.I, B.A⟩ g S m2 σ vs H2 I2 A2 → DRs C.T I2 us acc → WantE C B g S σ vs Q (k acc m2) → Q (.ref D) H2) : tLc (FI C mi) tg (FT C.quiet mt) (FE C.quiet me) own σ H Q := by
  refine ⟨B, g, S, m, vs, I, A, r, ?_⟩
  cases ea : mi g m with
  | bad => rw [ea] at w; exact w.elim
  | ex c fs m' => rw [ea] at w; exact w
  | ok xs m1 =>
    rw [ea] at w
    intro J H1 I1 A1 r1 it D hD
    have w1 : WantE C B g S σ vs Q ((lcLoop mg mt me (wipeG g own) xs [] m1).bind k) := w
    refine ⟨fun i n H' => i + n = xs.length ∧ ∃ (us : List V) (acc : List Dt) (m : Cells) (I : Hp) (A : List Addr), us.length = acc.length ∧ Rel C.T C.x ⟨(D, .lst us) :: B.F, I1, A1⟩ g (acc.map Vl.d ++ S) m σ (us ++ vs) H' I A ∧ WantE C B g S σ vs Q ((lcLoop mg mt me (wipeG g own) (xs.drop i) acc m).bind k), ⟨xs.length, by omega, [], [], m1, I1, A1, rfl, ⟨r1.base.hide hD, Up.refl, r1.ctx, r1.stk, r1.xc⟩, by simpa using w1⟩, ?_⟩
    rintro i n H' ⟨hn, us, acc, m, I, A, hl, r, w⟩
    have itd := it ((D, .lst us) :: B.F)
    by_cases hi : i < xs.length
    · have hdr : xs.drop i = xs[i] :: xs.drop (i + 1) := List.drop_eq_getElem_cons hi
      rw [hdr] at w
      refine .inr ⟨itd.go i _ _ _ _ _ H' I A hi r, fun H2 => ∃ (us : List V) (acc : List Dt) (m : Cells) (I : Hp) (A : List Addr), us.length = acc.length ∧ Rel C.T C.x ⟨(D, .lst us) :: B.F, I1, A1⟩ g (acc.map Vl.d ++ S) m σ (us ++ vs) H2 I A ∧ WantE C B g S σ vs Q ((lcLoop mg mt me (wipeG g own) (xs.drop (i + 1)) acc m).bind k), fun H2 q => ⟨n - 1, by omega, by omega, q⟩, fun v H2 hy => ?_⟩
      obtain ⟨I2, r2⟩ := itd.yl i _ _ _ _ _ H' I A v H2 xs[i] (List.getElem?_eq_getElem hi) r hy
      have back : ∀ {us : List V} {acc : List Dt} {g2 : Gam} {m2 : Cells} {σ2 : L2.St} {H2 I2 : Hp} {A2 : List Addr}, Rel C.T none ⟨(D, .lst us) :: B.F, I1, A1⟩ g2 (acc.map Vl.d ++ S) m2 σ2 (us ++ vs) H2 I2 A2 → Rel C.T C.x ⟨(D, .lst us) :: B.F, I1, A1⟩ g (acc.map Vl.d ++ S) m2 σ (us ++ vs) H2 I2 A2 := fun {us acc g2 m2 σ2 H2 I2 A2} r => ⟨r.base, r.up, r1.ctx.mono r.up, r.stk, by rw [cx]; trivial⟩
      have r3 : Rel C.T none ⟨(D, .lst us) :: B.F, I1, A1⟩ (wipeG g own) (.d xs[i] :: (acc.map Vl.d ++ S)) m (L2.wipe σ own) (v :: (us ++ vs)) H2 I2 A := ⟨r2.base, r2.up, r2.ctx.wipe own, r2.stk, trivial⟩
      unfold lcLoop at w
      cases eb : mg (.d xs[i]) (wipeG g own) m with
      | none => rw [eb] at w; exact (show False from w).elim
      | some p =>
        simp only [eb] at w
        refine hf _ _ _ (fun σ' Hq => Only js (L2.wipe σ own) σ' → L2.wipe σ' own = L2.wipe σ own ∧ FT C.quiet mt σ' Hq _) _ (hg _ _ _ _ ⟨_, wipeG g own, _, m, _, I2, A, _, r3, ?_⟩) fun σ' Hq ho hq => hq ho
        rw [eb]
        intro σ3 H3 I3 A3 r4 ho
        refine ⟨wipe_only hj ho, _, p.1, _, p.2, _, I3, A3, r4, ?_⟩
        cases ec : mt p.1 p.2 with
        | bad => simp only [ec] at w; exact (show False from w).elim
        | ex c fs m' => simp only [ec] at w; exact (show False from w).elim
        | ok b m2 =>
          simp only [ec] at w
          intro H4 I4 A4 r5
          cases b with
          | false =>
            rw [if_neg Bool.false_ne_true]
            exact ⟨us, acc, m2, I4, A4, hl, back r5, w⟩
          | true =>
            rw [if_pos rfl]
            refine ⟨_, p.1, _, m2, _, I4, A4, r5, ?_⟩
            cases ed : me p.1 m2 with
            | bad => simp only [ed] at w; exact (show False from w).elim
            | ex c fs m' => simp only [ed] at w; exact (show False from w).elim
            | ok y m3 =>
              simp only [ed] at w
              cases y with
              | ref j => exact (show False from w).elim
              | lam z => exact (show False from w).elim
              | d y =>
                intro u H5 I5 A5 r6
                have w2 : WantE C B g S σ vs Q ((if szOk (acc.length + 1) then lcLoop mg mt me (wipeG g own) (xs.drop (i + 1)) (acc ++ [y]) m3 else .bad).bind k) := w
                by_cases hz : szOk (acc.length + 1) = true
                · simp only [hz, if_true] at w2
                  obtain ⟨f1, f2, f3⟩ := r6.base.fm _ List.mem_cons_self
                  have hlt : us.length < sizeLine := by
                    have := szOk_line hz
                    rw [hl]; omega
                  have hsp := r6.pop1.stk.split (by simpa using hl)
                  have e1 : (acc ++ [y]).map Vl.d ++ S = acc.map Vl.d ++ (.d y :: S) := by simp
                  have e2 : (us ++ [u]) ++ vs = us ++ (u :: vs) := by simp
                  refine ⟨us, f1, hlt, us ++ [u], acc ++ [y], m3, I5, A5, by simp [hl], back ⟨r6.base.hput, r6.up, r6.ctx, ?_, trivial⟩, w2⟩
                  rw [e1, e2]
                  exact hsp.1.app (.cons r6.top hsp.2)
                · simp only [hz] at w2; exact (show False from w2).elim
    · have hdr : xs.drop i = [] := List.drop_eq_nil_of_le (by omega)
      rw [hdr] at w
      have hsp := r.stk.split (by simpa using hl)
      exact .inl ⟨itd.st i _ _ _ _ _ H' I A (by omega) r, fin D us acc m H' I A ⟨r.base, r1.up.trans r.up, r.ctx, hsp.2, r.xc⟩ (vrs_drs hsp.1) w⟩
section
variable {X : Cx} {C : Fc} {e : Expr} {st : Stmt} {mi : MI} {mg : MG} {mt : MT} {me : ME} {own js : List Nat} {tg : TG}
theorem le_lc (hg : ∀ v σ H Q, FG C.quiet mg v σ H Q → tg v σ H Q) (hf : Fills tg js) (hj : ∀ j ∈ js, j ∈ own) (cx : C.x = none) {σ : L2.St} {H : Hp} {Q : VK} (h : FE C (mLc mi mg mt me own) σ H Q) : tLc (FI C mi) tg (FT C.quiet mt) (FE C.quiet me) own σ H Q := by
  obtain ⟨B, g, S, m, vs, I, A, r, w⟩ := h
  refine lc_ok (k := fun (acc : List Dt) (m2 : Cells) => .ok (.d (.lst acc)) m2) hg hf hj cx r w fun D us acc m2 H2 I2 A2 r2 hd w2 => ?_
  obtain ⟨b, e⟩ := r2.base.show_
  exact w2 _ _ _ _ ((⟨b, r2.up.trans e, r2.ctx.mono e, r2.stk.mono e, r2.xc.mono e⟩ : Rel C.T C.x B g S m2 σ vs H2 _ A2).push (.d (.lst upd_same (hd.mono e.i))))
theorem fe_lc (h : PE X e (tLc (FI C mi) tg (FT C.quiet mt) (FE C.quiet me) own)) (hg : ∀ v σ H Q, FG C.quiet mg v σ H Q → tg v σ H Q) (hf : Fills tg js) (hj : ∀ j ∈ js, j ∈ own) (cx : C.x = none) : PE X e (FE C (mLc mi mg mt me own)) := pe_of h fun σ H Q => le_lc hg hf hj cx
end
/-! ### defs -/
def WantF (T : Tab) (F : Frm) (I : Hp) (A : List Addr) (Q : VK) (E : XK) : Rs Vl → Prop
  | .ok d m' => ∀ v H' I' A', Base T F I' H' A' m' → Up I I' A A' → VR T I' A' v d → Q v H'
  | .ex c fs m' => ∀ H' I' A' dx ws, Base T F I' H' A' m' → Up I I' A A' → I' dx = some (.xd ((T.cf c).zip ws)) → ws.length = (T.cf c).length → DRs T I' ws fs → E (.ref (T.ca c)) (some dx) H'
  | .bad => False
def spFn (T : Tab) (f : Fn) : Sp := fun vs H Q E => ∃ F I A m es, Base T F I H A m ∧ VRs T I A vs es ∧ WantF T F I A Q E (f es m)
def Qs (s : MS) : Prop := ∀ g m, Qo m (s g m)
theorem clo_of {T : Tab} {F F' : Frm} {I H I' H' : Hp} {A A' : List Addr} {m m' : Cells} (b : Base T F I H A m) (b' : Base T F' I' H' A' m') (q : T.rich = false ∨ Obs m m') : Clo m.length m' := fun k c fs j hk h1 hj => by
  have hk' : k < A'.length := by rw [b'.len]; exact (List.getElem?_eq_some_iff.mp h1).1
  obtain ⟨r, _⟩ := b'.obs k c fs _ h1 (List.getElem?_eq_getElem hk')
  rcases q with q | q
  · rw [q] at r; cases r
  · obtain ⟨c0, fs0, h2, h3⟩ := q.2 k c fs hk h1
    obtain ⟨_, dx, vs, _, _, hv, _⟩ := b.obs k c0 fs0 _ h2 (List.getElem?_eq_getElem (by rw [b.len]; exact hk))
    rw [← b.len]
    exact hv.lt (h3 j hj)
def exitF (k : Nat) : Out → Rs Vl
  | .nx _ m => .ok (.d .non) (m.take k)
  | .rt (.d d) m => .ok (.d d) (m.take k)
  | .rt (.ref j) m => if j < k then .ok (.ref j) (m.take k) else match m[j]? with
    | some (some c) => if c.isOb then .bad else .ok (.ref k) (m.take k ++ [some c])
    | _ => .bad
  | .ex c fs _ m => .ex c fs (m.take k)
  | _ => .bad
def runFn (n N : Nat) (s : MS) : Fn := fun es m => if es.length = n then exitF m.length (s (es.map some ++ List.replicate (N - n) none) m) else .bad
theorem spFn_len {T : Tab} {n N : Nat} {s : MS} : ∀ vs H Q E, spFn T (runFn n N s) vs H Q E → vs.length = n := fun vs H Q E ⟨F, I, A, m, es, b, hv, w⟩ => by
  unfold runFn at w
  by_cases h : es.length = n
  · rw [hv.len, h]
  · rw [if_neg h] at w; exact w.elim
theorem ctx_start {T : Tab} {I : Hp} {A : List Addr} {N : List Str} {vs : List V} {es : List Vl} (h : VRs T I A vs es) : Ctx T I A (L2.start N vs) (es.map some ++ List.replicate (N.length - es.length) none) := by
  unfold L2.start
  refine ⟨by simp [h.len], fun i d q => ?_⟩
  have hl : i < es.length := by
    by_cases w : i < es.length
    · exact w
    · rw [List.getElem?_append_right (by simpa using Nat.le_of_not_lt w), List.getElem?_replicate] at q
      split at q <;> cases q
  rw [List.getElem?_append_left (by simpa using hl), List.getElem?_map] at q
  rw [List.getElem?_append_left (by simpa [h.len] using hl), List.getElem?_map]
  cases w : es[i]? with
  | none => rw [w] at q; cases q
  | some e =>
    rw [w] at q
    cases q
    obtain ⟨v, hv, hr⟩ := h.get w
    exact ⟨v, by rw [hv]; rfl, hr⟩
theorem pre_take {α : Type} {A A' : List α} (h : A <+: A') : A'.take A.length = A := by
  obtain ⟨t, rfl⟩ := h
  simp
/-- the body of a def, from its promise -/
theorem fn_enter {T : Tab} {n : Nat} {s : MS} {N : List Str} {vs : List V} {H : Hp} {Q : VK} {E : XK} (h : spFn T (runFn n N.length s) vs H Q E) (q : T.rich = false ∨ Qs s := by exact Or.inl rfl) : FS ⟨T, none, fun cls d _ H => E cls d H⟩ s { nx := fun _ H' => Q .non H', rt := Q } (L2.start N vs) H := by
  obtain ⟨F, I, A, m, es, b, hv, w⟩ := h
  unfold runFn at w
  by_cases hn : es.length = n
  · rw [if_pos hn] at w
    subst hn
    refine ⟨⟨F, I, A⟩, es.map some ++ List.replicate (N.length - es.length) none, [], m, [], I, A, ⟨b, Up.refl, ctx_start hv, .nil, trivial⟩, ?_⟩
    have cut : ∀ {g' : Gam} {S : List Vl} {m' : Cells} {σ' : L2.St} {vs' : List V} {H' I' : Hp} {A' : List Addr}, Rel T none ⟨F, I, A⟩ g' S m' σ' vs' H' I' A' → (T.rich = false ∨ Obs m m') → Base T F I' H' A (m'.take m.length) ∧ Up I I' A A := fun {g' S m' σ' vs' H' I' A'} r q => by
      have b1 := r.base.take m.length (clo_of b r.base q)
      rw [← b.len, pre_take r.up.a] at b1
      rw [← b.len]
      exact ⟨b1, ⟨r.up.i, List.prefix_refl A⟩⟩
    have qq : T.rich = false ∨ Qo m (s (es.map some ++ List.replicate (N.length - es.length) none) m) := q.imp id fun q => q _ _
    cases es' : s (es.map some ++ List.replicate (N.length - es.length) none) m with
    | nx g' m' =>
      rw [es'] at w qq
      intro σ' H' I' A' r
      obtain ⟨b1, u⟩ := cut r qq
      exact w _ H' I' A b1 u (.d .non)
    | rt d m' =>
      rw [es'] at w qq
      cases d with
      | d d =>
        intro g' σ' v H' I' A' r
        obtain ⟨b1, u⟩ := cut r qq
        exact w _ H' I' A b1 u (.d r.top.dat)
      | lam z => exact (show False from w).elim
      | ref j =>
        intro g' σ' v H' I' A' r
        have w1 : WantF T F I A Q E (if j < m.length then .ok (.ref j) (m'.take m.length) else match m'[j]? with
          | some (some c) => if c.isOb then .bad else .ok (.ref m.length) (m'.take m.length ++ [some c])
          | _ => .bad) := w
        obtain ⟨a, rfl, ha⟩ := r.top.cel
        by_cases hj : j < m.length
        · rw [if_pos hj] at w1
          obtain ⟨b1, u⟩ := cut r qq
          have e : A[j]? = some a := by
            have h1 : j < A.length := by rw [b.len]; exact hj
            rw [List.getElem?_eq_getElem h1]
            have := pre_get r.up.a (List.getElem?_eq_getElem h1)
            rw [ha] at this
            exact this.symm
          exact w1 _ H' I' A b1 u (.ref e)
        · rw [if_neg hj] at w1
          cases hc : m'[j]? with
          | none => rw [hc] at w1; exact (show False from w1).elim
          | some oc =>
            cases oc with
            | none => rw [hc] at w1; exact (show False from w1).elim
            | some c =>
              rw [hc] at w1
              have w1 : WantF T F I A Q E (if c.isOb = true then .bad else .ok (.ref m.length) (m'.take m.length ++ [some c])) := w1
              cases hob : c.isOb with
              | true => rw [hob] at w1; exact (show False from w1).elim
              | false =>
              rw [hob] at w1
              have w1 : WantF T F I A Q E (.ok (.ref m.length) (m'.take m.length ++ [some c])) := w1
              have b1 := r.base.takeC (n := m.length) (by omega) hc ha (clo_of b r.base qq) hob
              have e : A'.take m.length = A := by rw [← b.len]; exact pre_take r.up.a
              rw [e] at b1
              exact w1 _ H' I' (A ++ [a]) b1 ⟨r.up.i, List.prefix_append A [a]⟩ (.ref (by rw [← b.len]; exact last_get A a))
    | ex c fs g' m' =>
      rw [es'] at w qq
      intro σ' H' I' A' dx ws r h1 h2 h3
      obtain ⟨b1, u⟩ := cut r qq
      exact w H' I' A dx ws b1 u h1 h2 h3
    | bk g' m' => rw [es'] at w; exact (show False from w).elim
    | ct g' m' => rw [es'] at w; exact (show False from w).elim
    | bad => rw [es'] at w; exact (show False from w).elim
  · rw [if_neg hn] at w; exact w.elim
/-- a call of a def -/
def mCall (f : Fn) (ma : MA) : ME := fun g m => (ma g m).bind fun xs m1 => f xs m1
section
variable {X : Cx} {C : Fc} {e : Expr} {ma : MA}
theorem fe_call {f : Fn} (h : PE X e (tCallS (spFn C.T f) (WE C.W) (FA C ma))) : PE X e (FE C (mCall f ma)) := pe_of h fun σ H Q ⟨B, g, S, m, vs, I, A, rl, w⟩ => args_ok rl w fun ws ds m1 H1 I1 A1 r1 hv w1 => by
  refine ⟨B.F, I1, A1, m1, ds, r1.base, hv, ?_⟩
  cases ef : f ds m1 with
  | bad => rw [ef] at w1; exact w1.elim
  | ok d m2 => rw [ef] at w1; exact fun v H' I' A' b u hd => w1 v H' I' A' ((r1.step b u).push hd)
  | ex c fs m2 => rw [ef] at w1; exact fun H' I' A' dx us b u h1 h2 h3 => w1 σ H' I' A' dx us (r1.step b u) h1 h2 h3
end
end FM
namespace NK
open PySem PySem.Spec PyProof.Rows L2
/-! ### rules of the machine by name -/
theorem list_addAt (l : Addr) (items : Array Value) (n : Nat) (b : Addr) (items2 : Array Value) (n2 : Nat) (dd dd2 : Option Addr) (sl sl2 : Array (Option Value)) (hc0 : items.size + items2.size ≤ sizeLine) :
    Meets (Builtin.«list.__add__» ⟨[.ref l, .ref b], []⟩) (fun _ R s => s.heap.get? l = some { cls := .type "list", dict := dd, data := .seq items n, slots := sl } ∧ s.heap.get? b = some { cls := .type "list", dict := dd2, data := .seq items2 n2, slots := sl2 } ∧ R (.ok (.ret (Value.ref s.heap.objs.size))) { s with heap := s.heap.push { cls := Value.type "list", data := Data.seq (items ++ items2) }, toks := s.toks }) :=
  .of_wp fun prog w A R s h => by obtain ⟨hp, g, d, tk, os⟩ := s; obtain ⟨hl, hb, h⟩ := h; have f1 := AutoSeq1.idx_int; have f2 := AutoSeq1.sub_tuple_tuple; have f3 := AutoSeq1.sub_list_list; have f4 := AutoSeq1.sub_tuple_list; have f5 := AutoSeq1.sub_list_tuple; wp_walk using wpAny_loadPart' hl, wpAny_loadPart' hb; exact ⟨_, rfl, h⟩
/-- list + list, whatever stands there -/
def rCatL (K : PySem.W.Frag) : R2 := fun x y H Q => ∃ l b xs zs, x = .ref l ∧ y = .ref b ∧ SqL K H l xs ∧ SqL K H b zs ∧ xs.length + zs.length ≤ sizeLine ∧ ∀ p, H p = none → Q (.ref p) (upd H p (.lst (xs ++ zs)))
theorem op_catL {X : Cx} : OpR X (binaryOp .Add) (rCatL X.K) := by
  intro pins s σ H x y v u Q I rx ry h
  obtain ⟨l, b, xs, zs, rfl, rfl, hH, hB, hz, q⟩ := h
  cases rx
  cases ry
  obtain ⟨its, r, ⟨⟨cls, dd, data, sl⟩, n, ho, hc, hdn, hd⟩, hlen⟩ := I.list hH
  obtain ⟨its2, r2, ⟨⟨cls2, dd2, data2, sl2⟩, n2, ho2, hc2, hdn2, hd2⟩, hlen2⟩ := I.list hB
  simp only at hc hd hc2 hd2
  subst hc hd hc2 hd2
  have e1 := r.length
  have e2 := r2.length
  refine concat_meets ⟨_, ho, rfl⟩ ⟨_, ho2, rfl⟩ PySem.noFill_list_add PySem.seq_list_add PySem.F.slot_list_add PySem.F.entry_list_add (PySem.F.args_list_add_2 _ _) (list_addAt l its.toArray n b its2.toArray n2 dd dd2 sl sl2 (by rw [List.size_toArray, List.size_toArray]; omega)) ⟨ho, ho2, ?_⟩
  have ea : its.toArray ++ its2.toArray = (its ++ its2).toArray := by simp
  rw [ea]
  exact ⟨.ref _, _, I.lnew (t' := s.toks) (r.append r2) (by rw [List.length_append]; omega), rfl, q _ I.fresh⟩
end NK
namespace NK
open PySem PySem.Spec PyProof.Rows L2
section
variable {X : Cx}
def rCatStr : R2 := fun x y H Q => ∃ i j, x = V.str i ∧ y = V.str j ∧ i.length + j.length ≤ sizeLine ∧ Q (V.str (i ++ j)) H
theorem op_catStr : OpR X (binaryOp .Add) rCatStr := op_add_str
def rLenSeq (K : PySem.W.Frag) : List V → Hp → VK → Prop := fun xs H Q => ∃ p ys, xs = [.ref p] ∧ (SqL K H p ys ∨ SqT K H p ys) ∧ Q (.int ys.length) H
theorem call_lenSeq : CallR X (.builtin "len") (rLenSeq X.K) := call_len_seq
def rAbs : List V → Hp → VK → Prop := fun xs H Q => ∃ i, xs = [.int i] ∧ Q (.int (if i < 0 then -i else i)) H
theorem call_absI : CallR X (.builtin "abs") rAbs := call_abs
def rInt1 : List V → Hp → VK → Prop := fun xs H Q => (∃ i, xs = [.int i] ∧ Q (.int i) H) ∨ ∃ k, xs = [.bl k] ∧ Q (.int (if k then 1 else 0)) H
theorem call_intI : CallR X (.type "int") rInt1 := call_int1
def rStrInt : List V → Hp → VK → Prop := fun xs H Q => ∃ i, xs = [.int i] ∧ i.natAbs.log2 < 1920 ∧ Q (.str (toString i)) H
theorem call_strI : CallR X (.type "str") rStrInt := call_str_int
def rListOf (K : PySem.W.Frag) : List V → Hp → VK → Prop := fun xs H Q => ∃ p ys, xs = [.ref p] ∧ (SqL K H p ys ∨ SqT K H p ys) ∧ ∀ l, H l = none → Q (.ref l) (upd H l (.lst ys))
theorem call_listOf : CallR X (.type "list") (rListOf X.K) := call_list_of
def rTupOf (K : PySem.W.Frag) : List V → Hp → VK → Prop := fun xs H Q => ∃ p ys, xs = [.ref p] ∧ ((SqL K H p ys ∧ ∀ l, H l = none → Q (.ref l) (upd H l (.tup ys))) ∨ (SqT K H p ys ∧ Q (.ref p) H))
theorem call_tupOf : CallR X (.type "tuple") (rTupOf X.K) := call_tuple_of
end
end NK
namespace NK
open PySem PySem.Spec PyProof.Rows L2
/-! ### list or tuple, walked -/
def iSeq (K : PySem.W.Frag) (tl : TE) : TI := fun σ H R => tl σ H fun x H1 => ∃ a, x = .ref a ∧ (((∃ xs, SqL K H1 a xs) ∧ R (Itl K a) H1) ∨ ((∃ xs, SqT K H1 a xs) ∧ R (Itt K a) H1))
theorem pi_seq {X : Cx} {tg l : Expr} {tl : TE} (hl : PE X l tl) : PI X tg l (iSeq X.K tl) := by
  refine ⟨fun pins s σ H R I h => ?_⟩
  refine thn (hl.run pins s σ H _ I h) fun v s1 ⟨x, H1, I1, r1, q1⟩ => ?_
  obtain ⟨a, e, q⟩ := q1
  subst e
  cases r1
  rcases q with ⟨⟨xs, hq⟩, q⟩ | ⟨⟨xs, hq⟩, q⟩
  · obtain ⟨its, rv, p, hz⟩ := I1.list hq
    refine wpAny_pyIter_list p.isList ?_
    refine ⟨s1.heap.objs.size, [s1.heap.objs.size], _, _, H1, rfl, I1.kept (t' := s1.toks) fun b o e => Heap.get?_push_of_some _ e, turn_list a _, ⟨_, Heap.get?_push_size _ rfl, rfl, rfl⟩, fun b hb => ?_, q⟩
    have e : b = s1.heap.objs.size := by simpa using hb
    subst e
    exact I1.fpOk (Nat.le_refl _) (I1.hok.fresh (Nat.le_refl _))
  · obtain ⟨its, rv, p, hz⟩ := I1.tuple hq
    refine wpAny_pyIter_tuple (show s1.heap.IsTuple a its.toArray from p) ?_
    refine ⟨s1.heap.objs.size, [s1.heap.objs.size], _, _, H1, rfl, I1.kept (t' := s1.toks) fun b o e => Heap.get?_push_of_some _ e, turn_tuple a _, ⟨_, Heap.get?_push_size _ rfl, rfl, rfl⟩, fun b hb => ?_, q⟩
    have e : b = s1.heap.objs.size := by simpa using hb
    subst e
    exact I1.fpOk (Nat.le_refl _) (I1.hok.fresh (Nat.le_refl _))
end NK
namespace NK
open PySem PySem.Spec PyProof.Rows L2
end NK
namespace NK
open PySem PySem.Spec PyProof.Rows L2
/-! ### rules for raise and try -/
section
variable {X : Cx}
structure CalX (P : Program) (w : World) (K : PySem.W.Frag) (mg : Str → Option Value) (base : Heap) (k : Nat) (x : Str) (ps : List Str) (sp : Sp) : Prop where
  ex : ∃ (f : Addr) (fd : FuncData), FnOk P w K mg base (L2N.CX P w) k f fd ps sp ∧ mg x = some (.ref f) ∧ PySem.W.keepIn K (.ref f) = true ∧ Binds K fd ps []
/-- a raising def called in a try -/
theorem pe_fnS {x : Str} {p pos : Pos} {e : Expr} {es : List Expr} {t : TA} {k : Nat} {ps : List Str} {sp : Sp} {W : WX} (c : CalX X.prog X.w X.K X.mg X.base k x ps sp) (hr : Room k X.A) (hg : Gl X x) (tk : L2N.Takes X W) (ha : PA X (e :: es) t) (hd : (x == ("__debug__" : Str)) = false := by decide)
    (he : starEach (e :: es) X.env = (false, eval e X.env) :: starEach es X.env := by rfl) (hpl : (backTo pos (starEach es X.env)).any (·.1) = false := by rfl) : PE X (.Call (.Name x p) (e :: es) [] pos) (tCallS sp (WE W) t) := by
  obtain ⟨f, fd, F, hm, hk, hb⟩ := c.ex
  exact pe_callS F hr hg hm hk hb (fun σ => L2N.passAt tk σ) ha hd he hpl
end
end NK
namespace NQ
open PySem PySem.SeqAt
open AutoSeq1 (wpAny_loadPart')
open MeetsSeq MeetsSeq2 MeetsSeq3 SeqRoads2
open GQ (FinOf call_here)
section
variable {prog : Program} {w : World} {A : Around} {R : Result → Shared → Prop}
/-- the items of two lists compared one by one, each by e -/
def ListJ (prog : Program) (w : World) (A : Around) (E : Value → Shared → Prop) (l b : Addr) (N : Nat) (e : Nat → Bool) (I : Nat → Shared → Prop) : Prop :=
  ∀ i s, I i s → ∃ (items items2 : Array Value) (n n2 : Nat) (dd dd2 : Option Addr) (sl sl2 : Array (Option Value)), s.heap.get? l = some { cls := .type "list", dict := dd, data := .seq items n, slots := sl } ∧ s.heap.get? b = some { cls := .type "list", dict := dd2, data := .seq items2 n2, slots := sl2 } ∧ items.size = N ∧ items2.size = N ∧
    ((∀ j, j < i → e j = true) → ∀ (h1 : i < items.size) (h2 : i < items2.size), wpAny (model prog w) A.in1 (eqBool items[i] items2[i]) (fun r s' => r = e i ∧ I (i + 1) s') E s)
def allFrom (e : Nat → Bool) (N i : Nat) : Bool := ((List.range N).drop i).all e
theorem allFrom_end {e : Nat → Bool} {N : Nat} : allFrom e N N = true := by
  unfold allFrom
  rw [List.drop_of_length_le (by simp)]
  rfl
theorem allFrom_step {e : Nat → Bool} {N i : Nat} (h : i < N) : allFrom e N i = (e i && allFrom e N (i + 1)) := by
  unfold allFrom
  have hd : (List.range N).drop i = i :: (List.range N).drop (i + 1) := by simp [List.drop_eq_getElem_cons, h]
  rw [hd, List.all_cons]
theorem eq_loopJ (l b : Addr) (N : Nat) (e : Nat → Bool) (I : Nat → Shared → Prop) (hl : ListJ prog w A (fun e s' => R (.error e) s') l b N e I) (k : Nat) :
    ∀ i : Nat, N - i = k → i ≤ N → (∀ j, j < i → e j = true) → (∀ j s, I j s → R (.ok (.ret (.bool (allFrom e N i)))) s) → ∀ s, I i s →
      wpAny (model prog w) A.in1 (Builtin.«list.__eq__.loop» ⟨[.ref l, .ref b, rawInt i, rawInt 2], []⟩) (FinOf prog w A R) (fun e s' => R (.error e) s') s := by
  induction k with
  | zero =>
    intro i hk hi pre fin s h
    obtain ⟨items, items2, n, n2, dd, dd2, sl, sl2, hl1, hb1, hs1, hs2, _⟩ := hl _ _ h
    have hi' : i = N := by omega
    have hR : R (.ok (.ret (.bool true))) s := by
      have := fin i s h
      rw [hi', allFrom_end] at this
      exact this
    obtain ⟨hp, g, d, tk, os⟩ := s
    wp_walk using wpAny_loadPart' hl1, wpAny_loadPart' hb1
    have hi1 : items[((i : Nat) : Int).toNat]? = none := by simp; omega
    have hi2 : items2[((i : Nat) : Int).toNat]? = none := by simp; omega
    rw [hi1, hi2]
    wp_walk using wpAny_loadPart' hl1, wpAny_loadPart' hb1
    show R (.ok (.ret (.bool (items.size == items2.size)))) _
    rw [hs1, hs2]
    simpa using hR
  | succ k ih =>
    intro i hk hi pre fin s h
    obtain ⟨items, items2, n, n2, dd, dd2, sl, sl2, hl1, hb1, hs1, hs2, turn⟩ := hl _ _ h
    have hlt : i < items.size := by omega
    have hlt2 : i < items2.size := by omega
    have ht := turn pre hlt hlt2
    obtain ⟨hp, g, d, tk, os⟩ := s
    wp_walk using wpAny_loadPart' hl1, wpAny_loadPart' hb1
    have hi1 : items[((i : Nat) : Int).toNat]? = some items[i] := by simp [hlt]
    have hi2 : items2[((i : Nat) : Int).toNat]? = some items2[i] := by simp [hlt2]
    have hc : ((i : Int) + 1) = ((i + 1 : Nat) : Int) := by omega
    rw [hi1, hi2]
    refine wpAny_bind (wpAny_mono ht (fun r s2 h2 => ?_) fun _ _ x => x)
    obtain ⟨hr, h2⟩ := h2
    subst hr
    have hst := allFrom_step (e := e) (show i < N by omega)
    cases he : e i with
    | true =>
      have hrec := ih (i + 1) (by omega) (by omega) (fun j hj => by rcases Nat.lt_succ_iff_lt_or_eq.mp hj with q | q; exact pre j q; rw [q]; exact he) (fun j s q => by have := fin j s q; rw [hst, he, Bool.true_and] at this; exact this) s2 h2
      obtain ⟨hp2, g2, d2, tk2, os2⟩ := s2
      wp_walk
      rw [hc]
      exact ⟨plainId_quiet plain_eq_loop _, codeAny_builtin entry_eq_loop (by
        rw [Around.under_plainId plain_eq_loop _]
        exact hrec)⟩
    | false =>
      have hR : R (.ok (.ret (.bool false))) s2 := by have := fin _ s2 h2; rw [hst, he, Bool.false_and] at this; exact this
      obtain ⟨items', items2', n', n2', dd', dd2', sl', sl2', hl1', hb1', hs1', hs2', _⟩ := hl _ _ h2
      obtain ⟨hp2, g2, d2, tk2, os2⟩ := s2
      have hi1' : items'[((i : Nat) : Int).toNat]? = some items'[i] := by simp [show i < items'.size by omega]
      have hi2' : items2'[((i : Nat) : Int).toNat]? = some items2'[i] := by simp [show i < items2'.size by omega]
      wp_walk using wpAny_loadPart' hl1', wpAny_loadPart' hb1'
      rw [hi1', hi2']
      wp_walk
      exact hR
theorem ne_loopJ (l b : Addr) (N : Nat) (e : Nat → Bool) (I : Nat → Shared → Prop) (hl : ListJ prog w A (fun e s' => R (.error e) s') l b N e I) (k : Nat) :
    ∀ i : Nat, N - i = k → i ≤ N → (∀ j, j < i → e j = true) → (∀ j s, I j s → R (.ok (.ret (.bool (!allFrom e N i)))) s) → ∀ s, I i s →
      wpAny (model prog w) A.in1 (Builtin.«list.__eq__.loop» ⟨[.ref l, .ref b, rawInt i, rawInt 3], []⟩) (FinOf prog w A R) (fun e s' => R (.error e) s') s := by
  induction k with
  | zero =>
    intro i hk hi pre fin s h
    obtain ⟨items, items2, n, n2, dd, dd2, sl, sl2, hl1, hb1, hs1, hs2, _⟩ := hl _ _ h
    have hi' : i = N := by omega
    have hR : R (.ok (.ret (.bool false))) s := by
      have := fin i s h
      rw [hi', allFrom_end] at this
      exact this
    obtain ⟨hp, g, d, tk, os⟩ := s
    wp_walk using wpAny_loadPart' hl1, wpAny_loadPart' hb1
    have hi1 : items[((i : Nat) : Int).toNat]? = none := by simp; omega
    have hi2 : items2[((i : Nat) : Int).toNat]? = none := by simp; omega
    rw [hi1, hi2]
    wp_walk using wpAny_loadPart' hl1, wpAny_loadPart' hb1
    show R (.ok (.ret (.bool (items.size != items2.size)))) _
    rw [hs1, hs2]
    simpa using hR
  | succ k ih =>
    intro i hk hi pre fin s h
    obtain ⟨items, items2, n, n2, dd, dd2, sl, sl2, hl1, hb1, hs1, hs2, turn⟩ := hl _ _ h
    have hlt : i < items.size := by omega
    have hlt2 : i < items2.size := by omega
    have ht := turn pre hlt hlt2
    obtain ⟨hp, g, d, tk, os⟩ := s
    wp_walk using wpAny_loadPart' hl1, wpAny_loadPart' hb1
    have hi1 : items[((i : Nat) : Int).toNat]? = some items[i] := by simp [hlt]
    have hi2 : items2[((i : Nat) : Int).toNat]? = some items2[i] := by simp [hlt2]
    have hc : ((i : Int) + 1) = ((i + 1 : Nat) : Int) := by omega
    rw [hi1, hi2]
    refine wpAny_bind (wpAny_mono ht (fun r s2 h2 => ?_) fun _ _ x => x)
    obtain ⟨hr, h2⟩ := h2
    subst hr
    have hst := allFrom_step (e := e) (show i < N by omega)
    cases he : e i with
    | true =>
      have hrec := ih (i + 1) (by omega) (by omega) (fun j hj => by rcases Nat.lt_succ_iff_lt_or_eq.mp hj with q | q; exact pre j q; rw [q]; exact he) (fun j s q => by have := fin j s q; rw [hst, he, Bool.true_and] at this; exact this) s2 h2
      obtain ⟨hp2, g2, d2, tk2, os2⟩ := s2
      wp_walk
      rw [hc]
      exact ⟨plainId_quiet plain_eq_loop _, codeAny_builtin entry_eq_loop (by
        rw [Around.under_plainId plain_eq_loop _]
        exact hrec)⟩
    | false =>
      have hR : R (.ok (.ret (.bool true))) s2 := by have := fin _ s2 h2; rw [hst, he, Bool.false_and] at this; exact this
      obtain ⟨items', items2', n', n2', dd', dd2', sl', sl2', hl1', hb1', hs1', hs2', _⟩ := hl _ _ h2
      obtain ⟨hp2, g2, d2, tk2, os2⟩ := s2
      have hi1' : items'[((i : Nat) : Int).toNat]? = some items'[i] := by simp [show i < items'.size by omega]
      have hi2' : items2'[((i : Nat) : Int).toNat]? = some items2'[i] := by simp [show i < items2'.size by omega]
      wp_walk using wpAny_loadPart' hl1', wpAny_loadPart' hb1'
      rw [hi1', hi2']
      wp_walk
      exact hR
end
end NQ
namespace NQ
open PySem PySem.SeqAt
open AutoSeq1 (wpAny_loadPart')
open MeetsSeq MeetsSeq2 MeetsSeq3 SeqRoads2
open GQ (FinOf call_here)
section
variable {prog : Program} {w : World} {A : Around} {R : Result → Shared → Prop}
theorem list_eqJ (l b : Addr) (N : Nat) (e : Nat → Bool) (I : Nat → Shared → Prop) (hl : ListJ prog w A (fun e s' => R (.error e) s') l b N e I)
    (fin : ∀ j s, I j s → R (.ok (.ret (.bool (allFrom e N 0)))) s) {s : Shared} (h : I 0 s) :
    wpAny (model prog w) A.in1 (Builtin.«list.__eq__» ⟨[.ref l, .ref b], []⟩) (FinOf prog w A R) (fun e s' => R (.error e) s') s := by
  obtain ⟨items, items2, n, n2, dd, dd2, sl, sl2, hl1, hb1, hs1, hs2, _⟩ := hl _ _ h
  have hrec := eq_loopJ (A := A) (R := R) l b N e I hl _ 0 rfl (Nat.zero_le _) (fun j hj => absurd hj (Nat.not_lt_zero j)) fin s h
  obtain ⟨hp, g, d, tk, os⟩ := s
  have f3 := AutoSeq1.sub_list_list
  have hne : ¬ (items.size != items2.size) = true := by simp [hs1, hs2]
  wp_walk using wpAny_loadPart' hl1, wpAny_loadPart' hb1
  exact ⟨plainId_quiet plain_eq_loop _, codeAny_builtin entry_eq_loop (by
    rw [Around.under_plainId plain_eq_loop _]
    exact hrec)⟩
theorem list_neJ (l b : Addr) (N : Nat) (e : Nat → Bool) (I : Nat → Shared → Prop) (hl : ListJ prog w A (fun e s' => R (.error e) s') l b N e I)
    (fin : ∀ j s, I j s → R (.ok (.ret (.bool (!allFrom e N 0)))) s) {s : Shared} (h : I 0 s) :
    wpAny (model prog w) A.in1 (Builtin.«list.__ne__» ⟨[.ref l, .ref b], []⟩) (FinOf prog w A R) (fun e s' => R (.error e) s') s := by
  obtain ⟨items, items2, n, n2, dd, dd2, sl, sl2, hl1, hb1, hs1, hs2, _⟩ := hl _ _ h
  have hrec := ne_loopJ (A := A) (R := R) l b N e I hl _ 0 rfl (Nat.zero_le _) (fun j hj => absurd hj (Nat.not_lt_zero j)) fin s h
  obtain ⟨hp, g, d, tk, os⟩ := s
  have f3 := AutoSeq1.sub_list_list
  have hne : ¬ (items.size != items2.size) = true := by simp [hs1, hs2]
  wp_walk using wpAny_loadPart' hl1, wpAny_loadPart' hb1
  exact ⟨plainId_quiet plain_eq_loop _, codeAny_builtin entry_eq_loop (by
    rw [Around.under_plainId plain_eq_loop _]
    exact hrec)⟩
end
section
variable {prog : Program} {w : World} {A : Around} {E : Value → Shared → Prop} {s : Shared}
theorem rc_eqL {l b : Addr} {N : Nat} {e : Nat → Bool} {Q : Value → Shared → Prop} (hu : A.units < cLine) (I : Nat → Shared → Prop) (hl : ListJ prog w A E l b N e I)
    (fin : ∀ j s, I j s → Q (.bool (allFrom e N 0)) s) (h : I 0 s) : wpAny (model prog w) A (richCompare .Eq (.ref l) (.ref b)) Q E s := by
  obtain ⟨items, items2, n, n2, dd, dd2, sl, sl2, hl1, hb1, _, _, _⟩ := hl _ _ h
  refine wpAny_richCompare_same_room (op := .Eq) ⟨_, hl1, rfl⟩ ⟨_, hb1, rfl⟩ F.slot_list_eq (call_here F.slot_list_eq ⟨_, hl1, rfl⟩ F.entry_list_eq (F.args_list_eq_2 _ _) ?_) hu
  exact list_eqJ (R := wants (fun v s' => v ≠ .notImplemented ∧ Q v s') E) l b N e I hl (fun j s' q => ⟨(fun x => nomatch x), fin j s' q⟩) h
theorem rc_neL {l b : Addr} {N : Nat} {e : Nat → Bool} {Q : Value → Shared → Prop} (hu : A.units < cLine) (I : Nat → Shared → Prop) (hl : ListJ prog w A E l b N e I)
    (fin : ∀ j s, I j s → Q (.bool (!allFrom e N 0)) s) (h : I 0 s) : wpAny (model prog w) A (richCompare .NotEq (.ref l) (.ref b)) Q E s := by
  obtain ⟨items, items2, n, n2, dd, dd2, sl, sl2, hl1, hb1, _, _, _⟩ := hl _ _ h
  refine wpAny_richCompare_same_room (op := .NotEq) ⟨_, hl1, rfl⟩ ⟨_, hb1, rfl⟩ F.slot_list_ne (call_here F.slot_list_ne ⟨_, hl1, rfl⟩ F.entry_list_ne (F.args_list_ne_2 _ _) ?_) hu
  exact list_neJ (R := wants (fun v s' => v ≠ .notImplemented ∧ Q v s') E) l b N e I hl (fun j s' q => ⟨(fun x => nomatch x), fin j s' q⟩) h
/-- lists of unlike lengths -/
theorem list_eq_len (l b : Addr) (items items2 : Array Value) (n n2 : Nat) (dd dd2 : Option Addr) (sl sl2 : Array (Option Value)) (hsz : items.size ≠ items2.size) :
    Meets (Builtin.«list.__eq__» ⟨[.ref l, .ref b], []⟩) (fun _ R s => s.heap.get? l = some { cls := .type "list", dict := dd, data := .seq items n, slots := sl } ∧ s.heap.get? b = some { cls := .type "list", dict := dd2, data := .seq items2 n2, slots := sl2 } ∧ R (.ok (.ret (.bool false))) s) :=
  .of_wp fun prog w A R s h => by
    obtain ⟨hp, g, d, tk, os⟩ := s; obtain ⟨hl, hb, h⟩ := h
    have f3 := AutoSeq1.sub_list_list
    have hne : (items.size != items2.size) = true := by simp [hsz]
    wp_walk using wpAny_loadPart' hl, wpAny_loadPart' hb
    exact ⟨_, rfl, h⟩
theorem list_ne_len (l b : Addr) (items items2 : Array Value) (n n2 : Nat) (dd dd2 : Option Addr) (sl sl2 : Array (Option Value)) (hsz : items.size ≠ items2.size) :
    Meets (Builtin.«list.__ne__» ⟨[.ref l, .ref b], []⟩) (fun _ R s => s.heap.get? l = some { cls := .type "list", dict := dd, data := .seq items n, slots := sl } ∧ s.heap.get? b = some { cls := .type "list", dict := dd2, data := .seq items2 n2, slots := sl2 } ∧ R (.ok (.ret (.bool true))) s) :=
  .of_wp fun prog w A R s h => by
    obtain ⟨hp, g, d, tk, os⟩ := s; obtain ⟨hl, hb, h⟩ := h
    have f3 := AutoSeq1.sub_list_list
    have hne : (items.size != items2.size) = true := by simp [hsz]
    wp_walk using wpAny_loadPart' hl, wpAny_loadPart' hb
    exact ⟨_, rfl, h⟩
end
end NQ
namespace NK
open PySem PySem.Spec PyProof.Rows L2
end NK
namespace NK
open PySem PySem.Spec PyProof.Rows L2
section
variable {X : Cx}
/-- xs == [], xs != [] -/
def rNil (K : PySem.W.Frag) (neg : Bool) : R2 := fun x y H Q => ∃ a b xs, x = .ref a ∧ y = .ref b ∧ SqL K H a xs ∧ SqL K H b [] ∧ Q (.bl (neg != xs.isEmpty)) H
theorem op_nil {neg : Bool} {n : Nat} (hr : Room (n + 1) X.A) : OpR X (compareOp (opN neg)) (rNil X.K neg) := by
  intro pins s σ H x y v u Q inv rx ry hq
  obtain ⟨a, b, xs, rfl, rfl, s1, s2, q⟩ := hq
  have sb : L2.Sub X (n + 1) X.A := ⟨hr, rfl⟩
  cases (show v = Value.ref a from rx)
  cases (show u = Value.ref b from ry)
  have e : compareOp (opN neg) (.ref a) (.ref b) = richCompare (opN neg) (.ref a) (.ref b) := by cases neg <;> rfl
  rw [e]
  cases xs with
  | nil =>
    have J : NQ.ListJ X.prog X.w X.A X.xe a b 0 (fun _ => true) (fun _ s' => Inv X pins σ H s') := fun i s' inv1 => by
      obtain ⟨its, r, ⟨⟨c, dd, dt, sl⟩, k, g1, g2, _, g4⟩, _⟩ := inv1.list s1
      obtain ⟨its2, r', ⟨⟨c', dd', dt', sl'⟩, k', g1', g2', _, g4'⟩, _⟩ := inv1.list s2
      simp only at g2 g4 g2' g4'
      subst g2 g4 g2' g4'
      cases r
      cases r'
      exact ⟨_, _, k, k', dd, dd', sl, sl', g1, g1', rfl, rfl, fun _ h1 _ => absurd h1 (Nat.not_lt_zero _)⟩
    cases neg with
    | false => exact NQ.rc_eqL sb.room.units0 _ J (fun j s' g => ⟨.bl true, H, g, rfl, q⟩) inv
    | true => exact NQ.rc_neL sb.room.units0 _ J (fun j s' g => ⟨.bl false, H, g, rfl, q⟩) inv
  | cons z zs =>
    obtain ⟨its, r, ⟨⟨c, dd, dt, sl⟩, k, g1, g2, _, g4⟩, _⟩ := inv.list s1
    obtain ⟨its2, r', ⟨⟨c', dd', dt', sl'⟩, k', g1', g2', _, g4'⟩, _⟩ := inv.list s2
    simp only at g2 g4 g2' g4'
    subst g2 g4 g2' g4'
    have hsz : its.toArray.size ≠ its2.toArray.size := by
      rw [List.size_toArray, List.size_toArray, ← r.length, ← r'.length]
      exact fun w => nomatch w
    cases neg with
    | false => exact richCompare_meets_room (op := .Eq) ⟨_, g1, rfl⟩ ⟨_, g1', rfl⟩ F.slot_list_eq F.entry_list_eq (F.args_list_eq_2 _ _) (NQ.list_eq_len _ _ _ _ _ _ _ _ _ _ hsz) ⟨g1, g1', ⟨(fun z => nomatch z), .bl false, H, inv, rfl, q⟩⟩ sb.room.units0
    | true => exact richCompare_meets_room (op := .NotEq) ⟨_, g1, rfl⟩ ⟨_, g1', rfl⟩ F.slot_list_ne F.entry_list_ne (F.args_list_ne_2 _ _) (NQ.list_ne_len _ _ _ _ _ _ _ _ _ _ hsz) ⟨g1, g1', ⟨(fun z => nomatch z), .bl true, H, inv, rfl, q⟩⟩ sb.room.units0
end
end NK
namespace FM
open PySem PySem.Spec PyProof.Rows L2
/-! ### operations -/
def oII (f : Int → Int → Int) : O2 := fun _ x y => match x, y with
  | .d (.int i), .d (.int j) => some (.d (.int (f i j)))
  | _, _ => none
def oIc (c : Int → Int → Bool) (f : Int → Int → Int) : O2 := fun _ x y => match x, y with
  | .d (.int i), .d (.int j) => if c i j then some (.d (.int (f i j))) else none
  | _, _ => none
def oIB (f : Int → Int → Bool) : O2 := fun _ x y => match x, y with
  | .d (.int i), .d (.int j) => some (.d (.bl (f i j)))
  | _, _ => none
instance (i j : Int) : Decidable (CMul i j) := by unfold CMul; infer_instance
instance (i j : Int) : Decidable (CDiv i j) := by unfold CDiv; infer_instance
instance (i j : Int) : Decidable (CPow i j) := by unfold CPow; infer_instance
abbrev oAdd : O2 := oII fun i j => i + j
abbrev oMul : O2 := oIc (fun i j => decide (CMul i j)) fun i j => i * j
abbrev oDiv : O2 := oIc (fun i j => decide (CDiv i j)) fun i j => i / j
abbrev oMod : O2 := oIc (fun _ j => decide (0 < j)) fun i j => i % j
abbrev oPow : O2 := oIc (fun i j => decide (CPow i j)) fun i j => i ^ j.toNat
section
variable {T : Tab}
/-- an operation that makes nothing -/
theorem simO_pure {r : R2} {f : O2} (h : ∀ (F : Frm) (I H : Hp) (A : List Addr) (m : Cells) (x y : V) (d1 d2 d : Vl), Base T F I H A m → VR T I A x d1 → VR T I A y d2 → f m d1 d2 = some d → ∀ Q : VK, (∀ v, VR T I A v d → Q v H) → r x y H Q) : SimO T r f :=
  fun F I H A m x y d1 d2 d b hx hy e Q q => h F I H A m x y d1 d2 d b hx hy e Q fun v hv => q v H I b (Same.refl I) hv
theorem sim_ii {f : Int → Int → Int} : SimO T (rI0 fun i j => .int (f i j)) (oII f) := simO_pure fun F I H A m x y d1 d2 d b hx hy e Q q => by
  unfold oII at e
  split at e
  · cases e
    cases hx.dat; cases hy.dat
    exact ⟨_, _, rfl, rfl, q _ (.d (.int _))⟩
  · cases e
theorem sim_ic {c : Int → Int → Bool} {cp : Int → Int → Prop} {f : Int → Int → Int} (hc : ∀ i j, c i j = true → cp i j) : SimO T (rI cp fun i j => .int (f i j)) (oIc c f) := simO_pure fun F I H A m x y d1 d2 d b hx hy e Q q => by
  unfold oIc at e
  split at e
  · rename_i i j
    by_cases h : c i j = true
    · rw [if_pos h] at e
      cases e
      cases hx.dat; cases hy.dat
      exact ⟨_, _, rfl, rfl, hc _ _ h, q _ (.d (.int _))⟩
    · rw [if_neg h] at e; cases e
  · cases e
theorem sim_mul : SimO T (rI CMul fun i j => .int (i * j)) oMul := sim_ic fun i j h => of_decide_eq_true h
theorem sim_div : SimO T (rI CDiv fun i j => .int (i / j)) oDiv := sim_ic fun i j h => of_decide_eq_true h
theorem sim_mod : SimO T (rI (fun _ j => 0 < j) fun i j => .int (i % j)) oMod := sim_ic fun i j h => of_decide_eq_true h
theorem sim_pow : SimO T (rI CPow fun i j => .int (i ^ j.toNat)) oPow := sim_ic fun i j h => of_decide_eq_true h
theorem sim_ib {f : Int → Int → Bool} : SimO T (rI0 fun i j => .bl (f i j)) (oIB f) := simO_pure fun F I H A m x y d1 d2 d b hx hy e Q q => by
  unfold oIB at e
  split at e
  · cases e
    cases hx.dat; cases hy.dat
    exact ⟨_, _, rfl, rfl, q _ (.d (.bl _))⟩
  · cases e
/-- == of ints, texts, bools, None, by the same kind -/
def eqF : Dt → Dt → Option Bool
  | .int i, .int j => some (decide (i = j))
  | .str i, .str j => some (decide (i = j))
  | .bl i, .bl j => some (decide (i = j))
  | _, _ => none
def oEq : O2 := fun _ x y => match x, y with
  | .d x, .d y => (eqF x y).map fun b => .d (.bl b)
  | _, _ => none
theorem eqF_ok {I : Hp} {x y : V} {a b : Dt} {k : Bool} (hx : DR T I x a) (hy : DR T I y b) (e : eqF a b = some k) : scal x y = true ∧ decide (x = y) = k := by
  unfold eqF at e
  split at e
  · cases e; cases hx; cases hy
    rename_i i j
    refine ⟨rfl, ?_⟩
    by_cases h : i = j
    · subst h; simp
    · rw [decide_eq_false h, decide_eq_false (fun e => h (V.int.inj e))]
  · cases e; cases hx; cases hy
    rename_i i j
    refine ⟨rfl, ?_⟩
    by_cases h : i = j
    · subst h; simp
    · rw [decide_eq_false h, decide_eq_false (fun e => h (V.str.inj e))]
  · cases e; cases hx; cases hy
    rename_i i j
    exact ⟨rfl, by cases i <;> cases j <;> rfl⟩
  · cases e
theorem sim_eq : SimO T rEq oEq := simO_pure fun F I H A m x y d1 d2 d b hx hy e Q q => by
  cases d1 with
  | ref k => cases e
  | lam z => cases e
  | d d1 =>
    cases d2 with
    | ref k => cases e
    | lam z => cases e
    | d d2 =>
      cases ef : eqF d1 d2 with
      | none => simp [oEq, ef] at e
      | some k =>
        simp [oEq, ef] at e
        subst e
        obtain ⟨h1, h2⟩ := eqF_ok hx.dat hy.dat ef
        exact ⟨h1, by rw [h2]; exact q _ (.d (.bl _))⟩
/-! ### texts -/
def oCatS : O2 := fun _ x y => match x, y with
  | .d (.str a), .d (.str b) => if szOk (a.length + b.length) then some (.d (.str (a ++ b))) else none
  | _, _ => none
theorem sim_catS : SimO T NK.rCatStr oCatS := simO_pure fun F I H A m x y d1 d2 d b hx hy e Q q => by
  unfold oCatS at e
  split at e
  · rename_i a b
    by_cases h : szOk (a.length + b.length) = true
    · rw [if_pos h] at e
      cases e
      cases hx.dat; cases hy.dat
      exact ⟨_, _, rfl, rfl, szOk_line h, q _ (.d (.str _))⟩
    · rw [if_neg h] at e; cases e
  · cases e
def oIxS : O2 := fun _ x y => match x, y with
  | .d (.str z), .d (.int i) => if szOk z.length then (atI z.cps.toList i).map fun c => .d (.str ⟨#[c]⟩) else none
  | _, _ => none
theorem sim_ixS : SimO T rIxS oIxS := simO_pure fun F I H A m x y d1 d2 d b hx hy e Q q => by
  unfold oIxS at e
  split at e
  · rename_i z i
    by_cases h : szOk z.length = true
    · rw [if_pos h] at e
      cases hx.dat; cases hy.dat
      cases ea : atI z.cps.toList i with
      | none => rw [ea] at e; cases e
      | some c =>
        rw [ea] at e
        cases e
        exact ⟨z, i, c, rfl, rfl, szOk_line h, ea, q _ (.d (.str _))⟩
    · rw [if_neg h] at e; cases e
  · cases e
/-! ### lists and tuples, read -/
/-- the items of a list: data, or a cell -/
def lstOf (m : Cells) : Vl → Option (List Dt)
  | .d (.lst ds) => some ds
  | .d (.scr ds) => some ds
  | .ref k => match m[k]? with
    | some (some (.lst ds)) => some ds
    | _ => none
  | _ => none
def tupOf : Vl → Option (List Dt)
  | .d (.tup ds) => some ds
  | _ => none
theorem lstOf_ok {F : Frm} {I H : Hp} {A : List Addr} {m : Cells} {x : V} {v : Vl} {ds : List Dt} (b : Base T F I H A m) (hx : VR T I A x v) (e : lstOf m v = some ds) : ∃ a vs, x = .ref a ∧ SqL T.K H a vs ∧ DRs T I vs ds := by
  cases v with
  | ref k =>
    obtain ⟨a, rfl, ha⟩ := hx.cel
    simp only [lstOf] at e
    split at e
    · rename_i ds' hm
      cases e
      obtain ⟨vs, h1, h2⟩ := b.ok _ _ a hm ha
      exact ⟨a, vs, rfl, .inl (.inl h1), h2⟩
    · cases e
  | lam z => cases e
  | d d =>
    cases d with
    | lst ds' =>
      cases e
      cases hx.dat with
      | lst h1 h2 => exact ⟨_, _, rfl, .inl (.inl (b.sub _ _ h1)), h2⟩
    | scr ds' =>
      cases e
      cases hx.dat with
      | scr h1 h2 => exact ⟨_, _, rfl, same_l b.sub h1, h2⟩
    | _ => cases e
theorem tupOf_ok {F : Frm} {I H : Hp} {A : List Addr} {m : Cells} {x : V} {v : Vl} {ds : List Dt} (b : Base T F I H A m) (hx : VR T I A x v) (e : tupOf v = some ds) : ∃ a vs, x = .ref a ∧ SqT T.K H a vs ∧ DRs T I vs ds := by
  cases v with
  | ref k => cases e
  | lam z => cases e
  | d d =>
    cases d with
    | tup ds' =>
      cases e
      cases hx.dat with
      | tup h1 h2 => exact ⟨_, _, rfl, same_t b.sub h1, h2⟩
    | _ => cases e
theorem atI_dr {I : Hp} {vs : List V} {ds : List Dt} {i : Int} {d : Dt} (h : DRs T I vs ds) (e : atI ds i = some d) : ∃ v, atI vs i = some v ∧ DR T I v d := by
  unfold atI at e ⊢
  rw [h.len]
  cases q : ixN ds.length i with
  | none => rw [q] at e; cases e
  | some j =>
    rw [q, Option.bind_some] at e
    rw [Option.bind_some]
    exact h.get e
def oIxL : O2 := fun m x y => match lstOf m x, y with
  | some ds, .d (.int i) => (atI ds i).map Vl.d
  | _, _ => none
def oIxT : O2 := fun _ x y => match tupOf x, y with
  | some ds, .d (.int i) => (atI ds i).map Vl.d
  | _, _ => none
theorem sim_ixL : SimO T (rIxL T.K) oIxL := simO_pure fun F I H A m x y d1 d2 d b hx hy e Q q => by
  unfold oIxL at e
  split at e
  · rename_i ds i h
    obtain ⟨a, vs, rfl, h1, h2⟩ := lstOf_ok b hx h
    cases hy.dat
    cases ea : atI ds i with
    | none => rw [ea] at e; cases e
    | some c =>
      rw [ea] at e
      cases e
      obtain ⟨v, hv, hd⟩ := atI_dr h2 ea
      exact ⟨a, vs, i, v, rfl, rfl, h1, hv, q _ (.d hd)⟩
  · cases e
theorem sim_ixT : SimO T (rIxT T.K) oIxT := simO_pure fun F I H A m x y d1 d2 d b hx hy e Q q => by
  unfold oIxT at e
  split at e
  · rename_i ds i h
    obtain ⟨a, vs, rfl, h1, h2⟩ := tupOf_ok b hx h
    cases hy.dat
    cases ea : atI ds i with
    | none => rw [ea] at e; cases e
    | some c =>
      rw [ea] at e
      cases e
      obtain ⟨v, hv, hd⟩ := atI_dr h2 ea
      exact ⟨a, vs, i, v, rfl, rfl, h1, hv, q _ (.d hd)⟩
  · cases e
def oCatL : O2 := fun m x y => match lstOf m x, lstOf m y with
  | some a, some b => if szOk (a.length + b.length) then some (.d (.lst (a ++ b))) else none
  | _, _ => none
theorem sim_catL : SimO T (NK.rCatL T.K) oCatL := fun F I H A m x y d1 d2 d b hx hy e Q q => by
  unfold oCatL at e
  split at e
  · rename_i as bs h1 h2
    by_cases h : szOk (as.length + bs.length) = true
    · rw [if_pos h] at e
      cases e
      obtain ⟨p, vs, rfl, p1, p2⟩ := lstOf_ok b hx h1
      obtain ⟨p', vs', rfl, p1', p2'⟩ := lstOf_ok b hy h2
      refine ⟨p, p', vs, vs', rfl, rfl, p1, p1', by rw [p2.len, p2'.len]; exact szOk_line h, fun l hl => ?_⟩
      obtain ⟨b', e⟩ := b.new (o := .lst (vs ++ vs')) hl
      exact q _ _ _ b' e.i (.d (.lst upd_same ((p2.app p2').mono e.i)))
    · rw [if_neg h] at e; cases e
  · cases e
def flatD : Dt → Option V
  | .non => some .non | .bl b => some (.bl b) | .int i => some (.int i) | .str x => some (.str x)
  | _ => none
theorem flatD_ok {I : Hp} {v x : V} {d : Dt} (h : flatD d = some x) (r : DR T I v d) : v = x ∧ flatV v = true := by
  cases r <;> simp [flatD] at h <;> subst h <;> exact ⟨rfl, rfl⟩
def flatsD : List Dt → Option (List V)
  | [] => some []
  | d :: r => match flatD d, flatsD r with
    | some v, some vs => some (v :: vs)
    | _, _ => none
theorem flatsD_ok {I : Hp} : ∀ {ds : List Dt} {vs xs : List V}, flatsD ds = some xs → DRs T I vs ds → vs = xs ∧ vs.all flatV = true
  | [], _, _, h, r => by cases h; cases r; exact ⟨rfl, rfl⟩
  | d :: ds, _, _, h, r => by
    cases r with
    | cons a t =>
      unfold flatsD at h
      split at h
      · rename_i v vs h1 h2
        cases h
        obtain ⟨e1, e2⟩ := flatD_ok h1 a
        obtain ⟨e3, e4⟩ := flatsD_ok h2 t
        subst e1 e3
        exact ⟨rfl, by rw [List.all_cons, e2, e4]; rfl⟩
      · cases h
/-- x in a list or tuple of flat things -/
def oIn (neg : Bool) : O2 := fun m x y => match x, (lstOf m y).or (tupOf y) with
  | .d x, some ys => match flatD x, flatsD ys with
    | some v, some vs => some (.d (.bl (if neg then !inV v vs else inV v vs)))
    | _, _ => none
  | _, _ => none
theorem sim_in {neg : Bool} : SimO T (rIn T.K neg) (oIn neg) := simO_pure fun F I H A m x y d1 d2 d b hx hy e Q q => by
  unfold oIn at e
  split at e
  · rename_i x' ys h
    split at e
    · rename_i v vs h1 h2
      cases e
      obtain ⟨e1, f1⟩ := flatD_ok h1 hx.dat
      subst e1
      cases hl : lstOf m d2 with
      | some ds =>
        rw [hl] at h
        cases h
        obtain ⟨p, us, rfl, p1, p2⟩ := lstOf_ok b hy hl
        obtain ⟨e2, f2⟩ := flatsD_ok h2 p2
        subst e2
        exact ⟨p, us, rfl, .inl p1, f1, f2, q _ (.d (.bl _))⟩
      | none =>
        rw [hl] at h
        obtain ⟨p, us, rfl, p1, p2⟩ := tupOf_ok b hy h
        obtain ⟨e2, f2⟩ := flatsD_ok h2 p2
        subst e2
        exact ⟨p, us, rfl, .inr p1, f1, f2, q _ (.d (.bl _))⟩
    · cases e
  · cases e
/-! ### built-ins -/
theorem simN_pure {r : List V → Hp → VK → Prop} {f : ON} (h : ∀ (F : Frm) (I H : Hp) (A : List Addr) (m : Cells) (ws : List V) (ds : List Vl) (d : Vl), Base T F I H A m → VRs T I A ws ds → f m ds = some d → ∀ Q : VK, (∀ v, VR T I A v d → Q v H) → r ws H Q) : SimN T r f :=
  fun F I H A m ws ds d b hv e Q q => h F I H A m ws ds d b hv e Q fun v hv => q v H I b (Same.refl I) hv
theorem VRs.one_inv {I : Hp} {A : List Addr} {ws : List V} {d : Vl} (h : VRs T I A ws [d]) : ∃ w, ws = [w] ∧ VR T I A w d := by
  cases h with | cons a t => cases t; exact ⟨_, rfl, a⟩
theorem VRs.two_inv {I : Hp} {A : List Addr} {ws : List V} {d e : Vl} (h : VRs T I A ws [d, e]) : ∃ w x, ws = [w, x] ∧ VR T I A w d ∧ VR T I A x e := by
  cases h with | cons a t => cases t with | cons b t => cases t; exact ⟨_, _, rfl, a, b⟩
def nLen : ON := fun m xs => match xs with
  | [x] => ((lstOf m x).or (tupOf x)).map fun ds => .d (.int (ds.length : Nat))
  | _ => none
theorem sim_len : SimN T (NK.rLenSeq T.K) nLen := simN_pure fun F I H A m ws ds d b hv e Q q => by
  unfold nLen at e
  split at e
  · rename_i x
    obtain ⟨w, rfl, hw⟩ := hv.one_inv
    cases hl : lstOf m x with
    | some ds =>
      rw [hl] at e; cases e
      obtain ⟨p, us, rfl, p1, p2⟩ := lstOf_ok b hw hl
      exact ⟨p, us, rfl, .inl p1, by rw [p2.len]; exact q _ (.d (.int _))⟩
    | none =>
      rw [hl] at e
      cases ht : tupOf x with
      | none => rw [ht] at e; cases e
      | some ds =>
        rw [ht] at e; cases e
        obtain ⟨p, us, rfl, p1, p2⟩ := tupOf_ok b hw ht
        exact ⟨p, us, rfl, .inr p1, by rw [p2.len]; exact q _ (.d (.int _))⟩
  · cases e
def nAbs : ON := fun _ xs => match xs with
  | [.d (.int i)] => some (.d (.int (if i < 0 then -i else i)))
  | _ => none
theorem sim_abs : SimN T NK.rAbs nAbs := simN_pure fun F I H A m ws ds d b hv e Q q => by
  unfold nAbs at e
  split at e
  · cases e
    obtain ⟨w, rfl, hw⟩ := hv.one_inv
    cases hw.dat
    exact ⟨_, rfl, q _ (.d (.int _))⟩
  · cases e
def nInt : ON := fun _ xs => match xs with
  | [.d (.int i)] => some (.d (.int i))
  | [.d (.bl b)] => some (.d (.int (if b then 1 else 0)))
  | _ => none
theorem sim_int : SimN T NK.rInt1 nInt := simN_pure fun F I H A m ws ds d b hv e Q q => by
  unfold nInt at e
  split at e
  · cases e
    obtain ⟨w, rfl, hw⟩ := hv.one_inv
    cases hw.dat
    exact .inl ⟨_, rfl, q _ (.d (.int _))⟩
  · cases e
    obtain ⟨w, rfl, hw⟩ := hv.one_inv
    cases hw.dat
    exact .inr ⟨_, rfl, q _ (.d (.int _))⟩
  · cases e
def nStr : ON := fun _ xs => match xs with
  | [.d (.int i)] => if i.natAbs.log2 < 1920 then some (.d (.str (toString i))) else none
  | _ => none
theorem sim_str : SimN T NK.rStrInt nStr := simN_pure fun F I H A m ws ds d b hv e Q q => by
  unfold nStr at e
  split at e
  · rename_i i
    by_cases h : i.natAbs.log2 < 1920
    · rw [if_pos h] at e; cases e
      obtain ⟨w, rfl, hw⟩ := hv.one_inv
      cases hw.dat
      exact ⟨_, rfl, h, q _ (.d (.str _))⟩
    · rw [if_neg h] at e; cases e
  · cases e
/-- list(x): a new list -/
def lList : OL := fun m xs => match xs with
  | [x] => (lstOf m x).or (tupOf x)
  | _ => none
theorem sim_list : SimL T (NK.rListOf T.K) lList := fun F I H A m ws ds es b hv e Q q => by
  unfold lList at e
  split at e
  · rename_i x
    obtain ⟨w, rfl, hw⟩ := hv.one_inv
    cases hl : lstOf m x with
    | some ds =>
      rw [hl] at e; cases e
      obtain ⟨p, us, rfl, p1, p2⟩ := lstOf_ok b hw hl
      exact ⟨p, us, rfl, .inl p1, fun l h => q l us h p2⟩
    | none =>
      rw [hl] at e
      obtain ⟨p, us, rfl, p1, p2⟩ := tupOf_ok b hw e
      exact ⟨p, us, rfl, .inr p1, fun l h => q l us h p2⟩
  · cases e
/-- tuple(x) -/
def nTup : ON := fun m xs => match xs with
  | [x] => ((lstOf m x).or (tupOf x)).map fun ds => .d (.tup ds)
  | _ => none
theorem sim_tup : SimN T (NK.rTupOf T.K) nTup := fun F I H A m ws ds d b hv e Q q => by
  unfold nTup at e
  split at e
  · rename_i x
    obtain ⟨w, rfl, hw⟩ := hv.one_inv
    cases hl : lstOf m x with
    | some ds =>
      rw [hl] at e; cases e
      obtain ⟨p, us, rfl, p1, p2⟩ := lstOf_ok b hw hl
      refine ⟨p, us, rfl, .inl ⟨p1, fun l h => ?_⟩⟩
      obtain ⟨b', e⟩ := b.new (o := .tup us) h
      exact q _ _ _ b' e.i (.d (.tup (.inl (.inl upd_same)) (p2.mono e.i)))
    | none =>
      rw [hl] at e
      cases ht : tupOf x with
      | none => rw [ht] at e; cases e
      | some ds =>
        rw [ht] at e; cases e
        cases x with
        | ref k => cases ht
        | lam z => cases ht
        | d x =>
          cases x with
          | tup ds' =>
            cases ht
            cases hw.dat with
            | tup h1 h2 => exact ⟨_, _, rfl, .inr ⟨same_t b.sub h1, q _ H I b (Same.refl I) (.d (.tup h1 h2))⟩⟩
          | _ => cases ht
  · cases e
end
end FM
namespace FM
open PySem PySem.Spec PyProof.Rows L2
/-! ### what is walked, by arguments -/
def mItA (ma : MA) (f : List Vl → Option (List Dt)) : MI := fun g m => (ma g m).bind fun ds m1 => ofO m1 (f ds)
section
variable {X : Cx} {C : Fc} {e : Expr} {ma : MA} {me mb mc : ME}
theorem ita_ok {f : List Vl → Option (List Dt)} {Q' : List V → Hp → Prop} {σ : L2.St} {H : Hp} {R : It → Hp → Prop} (h : FI C (mItA ma f) σ H R)
    (hq : ∀ B g S vs ws ds xs m1 H1 I1 A1, Rel C.T C.x B g S m1 σ vs H1 I1 A1 → VRs C.T I1 A1 ws ds → f ds = some xs → (∀ J H' I' A', Rel C.T C.x B g S m1 σ vs H' I' A' → (∀ F, ItD C.T C.x ⟨F, I', A'⟩ J xs) → R J H') → Q' ws H1) : FA C ma σ H Q' := by
  obtain ⟨B, g, S, m, vs, I, A, r, w⟩ := h
  refine ⟨B, g, S, m, vs, I, A, r, ?_⟩
  unfold mItA at w
  cases ea : ma g m with
  | bad => rw [ea] at w; exact w.elim
  | ex c fs m' => rw [ea] at w; exact w
  | ok ds m1 =>
    rw [ea] at w
    intro ws H1 I1 A1 hl r1
    obtain ⟨q1, q2⟩ := r1.stk.split hl
    have w1 : WantI C B g S σ vs R (ofO m1 (f ds)) := w
    cases ef : f ds with
    | none => rw [ef] at w1; exact w1.elim
    | some xs => rw [ef] at w1; exact hq B g S vs ws ds xs m1 H1 I1 A1 { r1 with stk := q2 } q1 ef w1
def rangeD (lo : Int) (n : Nat) : List Dt := (List.range n).map fun i => .int (lo + (i : Nat))
theorem rangeD_len (lo : Int) (n : Nat) : (rangeD lo n).length = n := by unfold rangeD; rw [List.length_map, List.length_range]
theorem rangeD_get {lo : Int} {n i : Nat} {d : Dt} (h : (rangeD lo n)[i]? = some d) : i < n ∧ d = .int (lo + (i : Nat)) := by
  unfold rangeD at h
  rw [List.getElem?_map] at h
  cases q : (List.range n)[i]? with
  | none => rw [q] at h; cases h
  | some k =>
    rw [q] at h
    obtain ⟨hl, e⟩ := List.getElem?_eq_some_iff.mp q
    rw [List.length_range] at hl
    rw [List.getElem_range] at e
    subst e
    exact ⟨hl, (Option.some.inj h).symm⟩
theorem itr_itd {T : Tab} {x : Option Xc} {B : Bs} {lo : Int} {n : Nat} : ItD T x B (Itr lo n) (rangeD lo n) where
  go := fun i g S m σ vs H I A hi _ => by rw [rangeD_len] at hi; exact hi
  yl := fun i g S m σ vs H I A v H' d hx r hy => by
    obtain ⟨e1, e2⟩ := hy
    subst e1 e2
    rw [(rangeD_get hx).2]
    exact ⟨I, r.push (.d (.int _))⟩
  st := fun i g S m σ vs H I A hi _ => by rw [rangeD_len] at hi; exact hi
def okR (i : Int) : Bool := decide (-(2 ^ 62) ≤ i ∧ i < 2 ^ 62)
def isRng1 : List Vl → Option (List Dt)
  | [.d (.int n)] => if okR n then some (rangeD 0 n.toNat) else none
  | _ => none
def isRng2 : List Vl → Option (List Dt)
  | [.d (.int lo), .d (.int n)] => if okR lo && okR n then some (rangeD lo (n - lo).toNat) else none
  | _ => none
theorem fi_rng1 {tg it : Expr} (h : PI X tg it (iRng1 (FA C ma))) : PI X tg it (FI C (mItA ma isRng1)) := pi_of h fun σ H R q => ita_ok q fun B g S vs ws ds xs m1 H1 I1 A1 r hv ef w => by
  unfold isRng1 at ef
  split at ef
  · rename_i n
    by_cases h : okR n = true
    · rw [if_pos h] at ef
      cases ef
      obtain ⟨v, rfl, hw⟩ := hv.one_inv
      cases hw.dat
      have h2 := of_decide_eq_true h
      exact ⟨n, rfl, h2.1, h2.2, w _ H1 I1 A1 r fun F => itr_itd⟩
    · rw [if_neg h] at ef; cases ef
  · cases ef
theorem fi_rng2 {tg it : Expr} (h : PI X tg it (iRng2 (FA C ma))) : PI X tg it (FI C (mItA ma isRng2)) := pi_of h fun σ H R q => ita_ok q fun B g S vs ws ds xs m1 H1 I1 A1 r hv ef w => by
  unfold isRng2 at ef
  split at ef
  · rename_i lo n
    by_cases h : (okR lo && okR n) = true
    · rw [if_pos h] at ef
      cases ef
      obtain ⟨v, u, rfl, hw, hu⟩ := hv.two_inv
      cases hw.dat; cases hu.dat
      obtain ⟨h1, h2⟩ := Bool.and_eq_true_iff.mp h
      have k1 := of_decide_eq_true h1
      have k2 := of_decide_eq_true h2
      exact ⟨lo, n, rfl, ⟨k1.1, k1.2, k2.1, k2.2⟩, w _ H1 I1 A1 r fun F => itr_itd⟩
    · rw [if_neg h] at ef; cases ef
  · cases ef
theorem isLst_ok {T : Tab} {I : Hp} {A : List Addr} {v : V} {x : Vl} {ds : List Dt} (h : VR T I A v x) (e : isLst x = some ds) : ∃ a vs, v = .ref a ∧ SqL T.K I a vs ∧ DRs T I vs ds := by
  cases x with
  | ref k => cases e
  | lam z => cases e
  | d d =>
    cases d with
    | lst ds' =>
      cases e
      cases h.dat with
      | lst h1 h2 => exact ⟨_, _, rfl, .inl (.inl h1), h2⟩
    | scr ds' =>
      cases e
      cases h.dat with
      | scr h1 h2 => exact ⟨_, _, rfl, h1, h2⟩
    | _ => cases e
theorem isTup_ok {T : Tab} {I : Hp} {A : List Addr} {v : V} {x : Vl} {ds : List Dt} (h : VR T I A v x) (e : isTup x = some ds) : ∃ a vs, v = .ref a ∧ SqT T.K I a vs ∧ DRs T I vs ds := by
  cases x with
  | ref k => cases e
  | lam z => cases e
  | d d =>
    cases d with
    | tup ds' =>
      cases e
      cases h.dat with
      | tup h1 h2 => exact ⟨_, _, rfl, h1, h2⟩
    | _ => cases e
def zipD (xs ys : List Dt) : List Dt := (xs.zip ys).map fun p => .tup [p.1, p.2]
theorem zipD_len (xs ys : List Dt) : (zipD xs ys).length = min xs.length ys.length := by unfold zipD; rw [List.length_map, List.length_zip]
theorem zipD_get {xs ys : List Dt} {i : Nat} {d : Dt} (h : (zipD xs ys)[i]? = some d) : ∃ x y, xs[i]? = some x ∧ ys[i]? = some y ∧ d = .tup [x, y] := by
  unfold zipD at h
  rw [List.getElem?_map] at h
  cases q : (xs.zip ys)[i]? with
  | none => rw [q] at h; cases h
  | some p =>
    rw [q] at h
    obtain ⟨a, b⟩ := p
    have := List.getElem?_zip_eq_some.mp q
    exact ⟨a, b, this.1, this.2, (Option.some.inj h).symm⟩
def isZip : List Vl → Option (List Dt)
  | [x, y] => match isLst x, isLst y with
    | some a, some b => some (zipD a b)
    | _, _ => match isTup x, isTup y with
      | some a, some b => some (zipD a b)
      | _, _ => none
  | _ => none
theorem fi_zip {tg it : Expr} (h : PI X tg it (RZ.iZipA C.T.K (FA C ma))) : PI X tg it (FI C (mItA ma isZip)) := pi_of h fun σ H R q => ita_ok q fun B g S vs ws ds xs m1 H1 I1 A1 r hv ef w => by
  unfold isZip at ef
  split at ef
  · rename_i x y
    obtain ⟨v, u, rfl, hw, hu⟩ := hv.two_inv
    split at ef
    · rename_i as bs e1 e2
      cases ef
      obtain ⟨a, us, rfl, hl, hs⟩ := isLst_ok hw e1
      obtain ⟨b, us2, rfl, hl2, hs2⟩ := isLst_ok hu e2
      refine ⟨a, b, us, us2, rfl, .inl ⟨same_l r.sub hl, same_l r.sub hl2, w _ H1 I1 A1 r fun F => ⟨fun i g S m σ vs H I A hi r' => ?_, fun i g S m σ vs H I A x H' d hx r' hy => ?_, fun i g S m σ vs H I A hi r' => ⟨us, us2, same_l (r'.up.i.trans r'.sub) hl, same_l (r'.up.i.trans r'.sub) hl2, ?_⟩⟩⟩⟩
      · rw [zipD_len] at hi
        have h1 : i < us.length := by rw [hs.len]; omega
        have h2 : i < us2.length := by rw [hs2.len]; omega
        exact ⟨us, us2, _, _, same_l (r'.up.i.trans r'.sub) hl, same_l (r'.up.i.trans r'.sub) hl2, List.getElem?_eq_getElem h1, List.getElem?_eq_getElem h2⟩
      · obtain ⟨T, u, v, rfl, nT, rfl, f1, f2⟩ := hy
        obtain ⟨dx, dy, hdx, hdy, rfl⟩ := zipD_get hx
        obtain ⟨v1, hv1, hr1⟩ := hs.get hdx
        obtain ⟨v2, hv2, hr2⟩ := hs2.get hdy
        have e3 := f1 _ (same_l (r'.up.i.trans r'.sub) hl)
        have e4 := f2 _ (same_l (r'.up.i.trans r'.sub) hl2)
        rw [hv1] at e3
        rw [hv2] at e4
        cases e3
        cases e4
        obtain ⟨b', e⟩ := r'.base.new (o := .tup [u, v]) nT
        exact ⟨_, (r'.step b' e).push (.d (.tup (.inl (.inl upd_same)) (.cons (hr1.mono (r'.up.i.trans e.i)) (.cons (hr2.mono (r'.up.i.trans e.i)) .nil))))⟩
      · rw [zipD_len] at hi
        rw [hs.len, hs2.len]
        omega
    · split at ef
      · rename_i as bs e1 e2
        cases ef
        obtain ⟨a, us, rfl, hl, hs⟩ := isTup_ok hw e1
        obtain ⟨b, us2, rfl, hl2, hs2⟩ := isTup_ok hu e2
        refine ⟨a, b, us, us2, rfl, .inr ⟨same_t r.sub hl, same_t r.sub hl2, w _ H1 I1 A1 r fun F => ⟨fun i g S m σ vs H I A hi r' => ?_, fun i g S m σ vs H I A x H' d hx r' hy => ?_, fun i g S m σ vs H I A hi r' => ⟨us, us2, same_t (r'.up.i.trans r'.sub) hl, same_t (r'.up.i.trans r'.sub) hl2, ?_⟩⟩⟩⟩
        · rw [zipD_len] at hi
          have h1 : i < us.length := by rw [hs.len]; omega
          have h2 : i < us2.length := by rw [hs2.len]; omega
          exact ⟨us, us2, _, _, same_t (r'.up.i.trans r'.sub) hl, same_t (r'.up.i.trans r'.sub) hl2, List.getElem?_eq_getElem h1, List.getElem?_eq_getElem h2⟩
        · obtain ⟨T, u, v, rfl, nT, rfl, f1, f2⟩ := hy
          obtain ⟨dx, dy, hdx, hdy, rfl⟩ := zipD_get hx
          obtain ⟨v1, hv1, hr1⟩ := hs.get hdx
          obtain ⟨v2, hv2, hr2⟩ := hs2.get hdy
          have e3 := f1 _ (same_t (r'.up.i.trans r'.sub) hl)
          have e4 := f2 _ (same_t (r'.up.i.trans r'.sub) hl2)
          rw [hv1] at e3
          rw [hv2] at e4
          cases e3
          cases e4
          obtain ⟨b', e⟩ := r'.base.new (o := .tup [u, v]) nT
          exact ⟨_, (r'.step b' e).push (.d (.tup (.inl (.inl upd_same)) (.cons (hr1.mono (r'.up.i.trans e.i)) (.cons (hr2.mono (r'.up.i.trans e.i)) .nil))))⟩
        · rw [zipD_len] at hi
          rw [hs.len, hs2.len]
          omega
      · cases ef
  · cases ef
/-! ### slices -/
abbrev MO := Gam → Cells → Rs (Option Int)
def WantO (C : Fc) (B : Bs) (g : Gam) (S : List Vl) (σ : L2.St) (vs : List V) (Q : Option Int → Hp → Prop) : Rs (Option Int) → Prop
  | .ok o m' => ∀ H' I' A', Rel C.T C.x B g S m' σ vs H' I' A' → Q o H'
  | .ex c fs m' => WantX C B S vs c fs g m'
  | .bad => False
def FO (C : Fc) (mo : MO) : TO := fun σ H Q => ∃ B g S m vs I A, Rel C.T C.x B g S m σ vs H I A ∧ WantO C B g S σ vs Q (mo g m)
def mNoP : MO := fun _ m => .ok none m
def mPart (me : ME) : MO := fun g m => (me g m).bind fun v m1 => match v with
  | .d (.int i) => .ok (some i) m1
  | _ => .bad
theorem po_of {o : Option Expr} {t t' : TO} (h : PO X o t) (k : ∀ σ H Q, t' σ H Q → t σ H Q) : PO X o t' := ⟨fun pins s σ H Q I q => h.run pins s σ H Q I (k σ H Q q)⟩
theorem fo_none {o : Option Expr} (h : PO X o tNoPart) : PO X o (FO C mNoP) := po_of h fun σ H Q ⟨B, g, S, m, vs, I, A, r, w⟩ => w H I A r
theorem fo_some {o : Option Expr} (h : PO X o (tPart (FE C me))) : PO X o (FO C (mPart me)) := po_of h fun σ H Q ⟨B, g, S, m, vs, I, A, r, w⟩ => by
  refine ⟨B, g, S, m, vs, I, A, r, ?_⟩
  unfold mPart at w
  cases ea : me g m with
  | bad => rw [ea] at w; exact w.elim
  | ex c fs m' => rw [ea] at w; exact w
  | ok d m1 =>
    rw [ea] at w
    intro v H1 I1 A1 r1
    cases d with
    | ref k => exact (show False from w).elim
    | lam z => exact (show False from w).elim
    | d d =>
      cases d with
      | int i =>
        cases r1.top.dat
        exact ⟨i, rfl, w H1 I1 A1 r1.pop1⟩
      | _ => exact (show False from w).elim
def cutL {α : Type} (xs : List α) (lo hi : Option Int) : List α := (xs.drop (HT.sIx xs.length 0 lo)).take (HT.sIx xs.length xs.length hi - HT.sIx xs.length 0 lo)
theorem cut_dr {T : Tab} {I : Hp} {vs : List V} {ds : List Dt} (h : DRs T I vs ds) (lo hi : Option Int) : DRs T I (cutV vs lo hi) (cutL ds lo hi) := by
  unfold cutV cutL
  rw [h.len]
  exact (h.drop _).take _
abbrev OS := Cells → Vl → Option Int → Option Int → Option Vl
def mSl (f : OS) (me : ME) (ml mh : MO) : ME := fun g m => (me g m).bind fun x m1 => (ml g m1).bind fun lo m2 => (mh g m2).bind fun hi m3 => ofO m3 (f m3 x lo hi)
def SimS (T : Tab) (r : V → Option Int → Option Int → Hp → VK → Prop) (f : OS) : Prop := ∀ (F : Frm) (I H : Hp) (A : List Addr) (m : Cells) (x : V) (d1 d : Vl) (lo hi : Option Int), Base T F I H A m → VR T I A x d1 → f m d1 lo hi = some d → ∀ Q : VK, (∀ v H' I', Base T F I' H' A m → Same I I' → VR T I' A v d → Q v H') → r x lo hi H Q
theorem fe_sl {r : V → Option Int → Option Int → Hp → VK → Prop} {f : OS} {ml mh : MO} (h : PE X e (tSl r (FE C me) (FO C ml) (FO C mh))) (s : SimS C.T r f) : PE X e (FE C (mSl f me ml mh)) := pe_of h fun σ H Q ⟨B, g, S, m, vs, I, A, rl, w⟩ =>
  one_ok rl w fun x dx m1 H1 I1 A1 r1 w1 => by
    refine ⟨B, g, dx :: S, m1, x :: vs, I1, A1, r1, ?_⟩
    cases ea : ml g m1 with
    | bad => rw [ea] at w1; exact w1.elim
    | ex c fs m' =>
      rw [ea] at w1
      intro σ' H' I' A' dy ws r' h1 h2 h3
      exact w1 σ' H' I' A' dy ws r'.pop1 h1 h2 h3
    | ok lo m2 =>
      rw [ea] at w1
      intro H2 I2 A2 r2
      refine ⟨B, g, dx :: S, m2, x :: vs, I2, A2, r2, ?_⟩
      have w2 : WantE C B g S σ vs Q ((mh g m2).bind fun hi m3 => ofO m3 (f m3 dx lo hi)) := w1
      cases eb : mh g m2 with
      | bad => rw [eb] at w2; exact w2.elim
      | ex c fs m' =>
        rw [eb] at w2
        intro σ' H' I' A' dy ws r' h1 h2 h3
        exact w2 σ' H' I' A' dy ws r'.pop1 h1 h2 h3
      | ok hi m3 =>
        rw [eb] at w2
        intro H3 I3 A3 r3
        have w3 : WantE C B g S σ vs Q (ofO m3 (f m3 dx lo hi)) := w2
        cases ef : f m3 dx lo hi with
        | none => rw [ef] at w3; exact w3.elim
        | some d =>
          rw [ef] at w3
          exact s _ I3 H3 A3 m3 x dx d lo hi r3.base r3.top ef Q fun v H' I' b e hv => w3 v H' I' A3 ((r3.pop1.step b ⟨e, List.prefix_refl _⟩).push hv)
def oSlL : OS := fun m x lo hi => (lstOf m x).map fun ds => .d (.lst (cutL ds lo hi))
theorem sim_slL {T : Tab} : SimS T (rSlL T.K) oSlL := fun F I H A m x d1 d lo hi b hx e Q q => by
  unfold oSlL at e
  cases hl : lstOf m d1 with
  | none => rw [hl] at e; cases e
  | some ds =>
    rw [hl] at e
    cases e
    obtain ⟨a, vs, rfl, h1, h2⟩ := lstOf_ok b hx hl
    refine ⟨a, vs, rfl, h1, fun p hp => ?_⟩
    obtain ⟨b', e⟩ := b.new (o := .lst (cutV vs lo hi)) hp
    exact q _ _ _ b' e.i (.d (.lst upd_same ((cut_dr h2 lo hi).mono e.i)))
/-- xs[::-1] -/
def oRev : O1 := fun m x => (lstOf m x).map fun ds => .d (.lst ds.reverse)
theorem fe_rev (h : PE X e (tRevL C.T.K (FE C me))) : PE X e (FE C (mUn oRev me)) :=
  fe_un (r := fun x H1 Q => ∃ a xs, x = .ref a ∧ SqL C.T.K H1 a xs ∧ ∀ p, H1 p = none → Q (.ref p) (upd H1 p (.lst xs.reverse))) h (fun σ H Q q => q) fun F I H A m x d1 d b hx e Q q => by
    unfold oRev at e
    cases hl : lstOf m d1 with
    | none => rw [hl] at e; cases e
    | some ds =>
      rw [hl] at e
      cases e
      obtain ⟨a, vs, rfl, h1, h2⟩ := lstOf_ok b hx hl
      refine ⟨a, vs, rfl, h1, fun p hp => ?_⟩
      obtain ⟨b', e⟩ := b.new (o := .lst vs.reverse) hp
      exact q _ _ _ b' e.i (.d (.lst upd_same (h2.rev.mono e.i)))
/-- tuple + tuple -/
def oCatT : O2 := fun _ x y => match tupOf x, tupOf y with
  | some a, some b => if szOk (a.length + b.length) then some (.d (.tup (a ++ b))) else none
  | _, _ => none
theorem sim_catT {T : Tab} : SimO T (rCatA T.K) oCatT := fun F I H A m x y d1 d2 d b hx hy e Q q => by
  unfold oCatT at e
  split at e
  · rename_i as bs h1 h2
    by_cases h : szOk (as.length + bs.length) = true
    · rw [if_pos h] at e
      cases e
      cases d1 with
      | ref k => cases h1
      | lam z => cases h1
      | d d1 =>
        cases d1 with
        | tup as' =>
          cases d2 with
          | ref k => cases h2
          | lam z => cases h2
          | d d2 =>
            cases d2 with
            | tup bs' =>
              cases h1; cases h2
              cases hx.dat with
              | @tup p vs _ p1 p2 =>
                cases hy.dat with
                | @tup p' vs' _ p1' p2' =>
                  refine ⟨p, p', vs, vs', rfl, rfl, same_t b.sub p1, same_t b.sub p1', by rw [p2.len, p2'.len]; exact szOk_line h, fun hn => ?_, fun _ hn => ?_, fun _ _ l hl => ?_⟩
                  · subst hn; cases p2; exact q _ H I b (Same.refl I) (.d (.tup p1' p2'))
                  · subst hn; cases p2'; rw [List.append_nil] at q; exact q _ H I b (Same.refl I) (.d (.tup p1 p2))
                  · obtain ⟨b', e⟩ := b.new (o := .tup (vs ++ vs')) hl
                    exact q _ _ _ b' e.i (.d (.tup (.inl (.inl upd_same)) ((p2.app p2').mono e.i)))
            | _ => cases h2
        | _ => cases h1
    · rw [if_neg h] at e; cases e
  · cases e
/-! ### is None; chains; truth -/
def isNon : Vl → Bool
  | .d .non => true
  | _ => false
def oIsN (neg : Bool) : O2 := fun _ x y => match y with
  | .d .non => some (.d (.bl (neg != isNon x)))
  | _ => none
theorem isNon_ok {T : Tab} {I : Hp} {A : List Addr} {x : V} {d : Vl} (h : VR T I A x d) : decide (x = .non) = isNon d := by
  cases h with
  | ref h => rfl
  | lam h u => rfl
  | d h => cases h <;> rfl
theorem sim_notN {T : Tab} : SimO T rNotN (oIsN true) := simO_pure fun F I H A m x y d1 d2 d b hx hy e Q q => by
  unfold oIsN at e
  split at e
  · cases e
    cases hy.dat
    exact ⟨rfl, by rw [isNon_ok hx]; rw [Bool.true_bne] at q; exact q _ (.d (.bl _))⟩
  · cases e
/-! ### methods of list cells -/
/-- a method of a list cell: the value told, the list behind it -/
abbrev OM := List Dt → Cells → List Vl → Option (Vl × List Dt)
def isL : Option (Option Cell) → Option (List Dt)
  | some (some (.lst ds)) => some ds
  | _ => none
def mM (f : OM) (me : ME) (ma : MA) : ME := fun g m => (me g m).bind fun x m1 => match x with
  | .ref k => match isL m1[k]? with
    | some _ => (ma g m1).bind fun ys m2 => match isL m2[k]? with
      | some ds => (match f ds m2 ys with
        | some p => .ok p.1 (m2.set k (some (.lst p.2)))
        | none => .bad)
      | none => .bad
    | none => .bad
  | _ => .bad
def SimM (T : Tab) (r : V → List V → Hp → VK → Prop) (f : OM) : Prop := ∀ (F : Frm) (I H : Hp) (A : List Addr) (m : Cells) (a : Addr) (us : List V) (ds : List Dt) (ws : List V) (ys : List Vl) (v : Vl) (ds' : List Dt), Base T F I H A m → H a = some (.lst us) → DRs T I us ds → VRs T I A ws ys → f ds m ys = some (v, ds') →
  ∀ Q : VK, (∀ x us', DRs T I us' ds' → VR T I A x v → Q x (upd H a (.lst us'))) → r (.ref a) ws H Q
theorem isL_ok {o : Option (Option Cell)} {ds : List Dt} (h : isL o = some ds) : o = some (some (.lst ds)) := by
  unfold isL at h
  split at h
  · cases h; rfl
  · cases h
theorem le_m {r : V → List V → Hp → VK → Prop} {f : OM} {σ : L2.St} {H : Hp} {Q : VK} (s : SimM C.T r f) (h : FE C (mM f me ma) σ H Q) : FE C me σ H fun x H1 => tyV C.T.K "list" x H1 ∧ FA C ma σ H1 fun xs H2 => r x xs H2 Q := by
  obtain ⟨B, g, S, m, vs, I, A, rl, w⟩ := h
  refine ⟨B, g, S, m, vs, I, A, rl, ?_⟩
  unfold mM at w
  cases ea : me g m with
  | bad => rw [ea] at w; exact w.elim
  | ex c fs m' => rw [ea] at w; exact w
  | ok d m1 =>
    rw [ea] at w
    intro x H1 I1 A1 r1
    cases d with
    | d d => exact (show False from w).elim
    | lam z => exact (show False from w).elim
    | ref k =>
      obtain ⟨a, rfl, ha⟩ := r1.top.cel
      cases el : isL m1[k]? with
      | none => simp only [Rs.bind, el] at w; exact (show False from w).elim
      | some ds1 =>
        simp only [Rs.bind, el] at w
        obtain ⟨us1, hu1, _⟩ := r1.base.ok _ _ a (isL_ok el) ha
        refine ⟨.inl ⟨rfl, us1, .inl (.inl hu1)⟩, B, g, .ref k :: S, m1, .ref a :: vs, I1, A1, r1, ?_⟩
        cases eb : ma g m1 with
        | bad => simp only [eb] at w; exact (show False from w).elim
        | ex c fs m' =>
          simp only [eb] at w
          intro σ' H' I' A' dx ws r' h1 h2 h3
          exact w σ' H' I' A' dx ws r'.pop1 h1 h2 h3
        | ok ys m2 =>
          simp only [eb] at w
          intro ws H2 I2 A2 hl r2
          obtain ⟨q1, q2⟩ := r2.stk.split hl
          have r3 : Rel C.T C.x B g (.ref k :: S) m2 σ (.ref a :: vs) H2 I2 A2 := { r2 with stk := q2 }
          obtain ⟨a', e, ha'⟩ := r3.top.cel
          cases e
          cases el2 : isL m2[k]? with
          | none => simp only [el2] at w; exact (show False from w).elim
          | some ds =>
            simp only [el2] at w
            cases ef : f ds m2 ys with
            | none => simp only [ef] at w; exact (show False from w).elim
            | some p =>
              simp only [ef] at w
              obtain ⟨us, hu, hd⟩ := r3.base.ok _ _ a (isL_ok el2) ha'
              obtain ⟨v, ds'⟩ := p
              exact s _ I2 H2 A2 m2 a us ds ws ys v ds' r3.base hu hd q1 ef Q fun x us' hd' hx => w _ _ _ _ ((r3.pop1.step (r3.base.put (c' := .lst ds') (isL_ok el2) ha' ⟨us', upd_same, hd'⟩) Up.refl).push hx)
theorem fe_m {r : V → List V → Hp → VK → Prop} {f : OM} (h : PE X e (tBM C.T.K "list" r (FE C me) (FA C ma))) (s : SimM C.T r f) : PE X e (FE C (mM f me ma)) := pe_of h fun σ H Q q => le_m s q
def fAppend : OM := fun ds _ ys => match ys with
  | [.d d] => if szOk (ds.length + 1) then some (.d .non, ds ++ [d]) else none
  | _ => none
theorem sim_append {T : Tab} : SimM T rAppend fAppend := fun F I H A m a us ds ws ys v ds' b hu hd hw e Q q => by
  unfold fAppend at e
  split at e
  · rename_i d
    by_cases h : szOk (ds.length + 1) = true
    · rw [if_pos h] at e
      cases e
      obtain ⟨w, rfl, hw1⟩ := hw.one_inv
      refine ⟨a, us, w, rfl, rfl, hu, by rw [hd.len]; exact szOk_line h, q _ _ (hd.app (.one hw1.dat)) (.d .non)⟩
    · rw [if_neg h] at e; cases e
  · cases e
/-- a value that is a list cell, done changing -/
def mFrz (me : ME) : ME := fun g m => (me g m).bind fun x m1 => match x with
  | .ref k => match isL m1[k]? with
    | some ds => .ok (.d (.lst ds)) (m1.set k none)
    | none => .bad
  | .d d => .ok (.d d) m1
  | .lam z => .ok (.lam z) m1
theorem fe_frz (h : PE X e (FE C me)) : PE X e (FE C (mFrz me)) := pe_of h fun σ H Q ⟨B, g, S, m, vs, I, A, rl, w⟩ => one_ok rl w fun x d m1 H1 I1 A1 r1 w1 => by
  cases d with
  | d d => exact w1 x H1 I1 A1 r1
  | lam z => exact w1 x H1 I1 A1 r1
  | ref k =>
    obtain ⟨a, rfl, ha⟩ := r1.top.cel
    cases el : isL m1[k]? with
    | none => simp only [el] at w1; exact (show False from w1).elim
    | some ds =>
      simp only [el] at w1
      obtain ⟨us, hu, hd⟩ := r1.base.ok _ _ a (isL_ok el) ha
      obtain ⟨b, e⟩ := r1.base.frz (isL_ok el) ha hu
      exact w1 _ _ _ _ ((r1.pop1.step b e).push (.d (.lst upd_same (hd.mono e.i))))
/-- xs[i] = v of a list cell -/
def mSetL (me mi : ME) : MG := fun v g m => match me g m with
  | .ok (.ref k) m1 => (match mi g m1 with
    | .ok (.d (.int i)) m2 => (match isL m2[k]?, v with
      | some ds, .d d => (ixN ds.length i).map fun j => (g, m2.set k (some (.lst (ds.set j d))))
      | _, _ => none)
    | _ => none)
  | _ => none
end
end FM
namespace FM
open PySem PySem.Spec PyProof.Rows L2
/-! ### instances -/
section
variable {T : Tab} {F : Frm} {I H I' H' : Hp} {A A' : List Addr} {m m' : Cells}
end
end FM
namespace FM
open PySem PySem.Spec PyProof.Rows L2
/-! ### raise -/
end FM
namespace FM
open PySem PySem.Spec PyProof.Rows L2
/-! ### == of data, own classes among them -/
section
variable {X : Cx} {pins : List (Addr × Obj)} {σ : L2.St} {H I : Hp} {s : Shared} {T : Tab}
variable {N : Nat}
end
section
variable {X : Cx} {T : Tab} {n m' : Nat} {D D' : Dq} {N : Nat}
theorem EqK.imp (h : EqK X T n D) (hd : ∀ x y b, D' x y b → D x y b) : EqK X T n D' := fun A pins s σ F H I L m x y u v d1 d2 b sb inv hs r1 r2 rx ry d => h A pins s σ F H I L m x y u v d1 d2 b sb inv hs r1 r2 rx ry (hd _ _ _ d)
theorem RcK.imp {neg : Bool} (h : RcK X T n neg D) (hd : ∀ x y b, D' x y b → D x y b) : RcK X T n neg D' := fun A pins s σ F H I L m x y u v d1 d2 b sb inv hs r1 r2 rx ry d => h A pins s σ F H I L m x y u v d1 d2 b sb inv hs r1 r2 rx ry (hd _ _ _ d)
end
end FM
namespace FM
open PySem PySem.Spec PyProof.Rows L2
/-! ### dicts -/
def keyOf : Vl → Option L2.Key
  | .d (.int i) => some (.inl i)
  | .d (.str z) => some (.inr z)
  | _ => none
theorem keyOf_ok {T : Tab} {I : Hp} {A : List Addr} {v : V} {x : Vl} {k : L2.Key} (h : VR T I A v x) (e : keyOf x = some k) : v = kV k := by
  unfold keyOf at e
  split at e
  · cases e; cases h.dat; rfl
  · cases e; cases h.dat; rfl
  · cases e
def dGet : List L2.Key → List Dt → L2.Key → Option Dt
  | k' :: ks, d :: ds, k => if k' = k then some d else dGet ks ds k
  | _, _, _ => none
theorem dGet_ok {T : Tab} {I : Hp} (k : L2.Key) : ∀ {ks : List L2.Key} {xs : List V} {ds : List Dt}, ks.length = xs.length → DRs T I xs ds → (valV (ks.zip xs) k = none ∧ dGet ks ds k = none) ∨ ∃ v d, valV (ks.zip xs) k = some v ∧ dGet ks ds k = some d ∧ DR T I v d
  | [], [], ds, _, h => by cases h; exact .inl ⟨rfl, rfl⟩
  | k' :: ks, x :: xs, ds, hl, h => by
    cases h with
    | @cons _ _ d ds a t =>
      rw [List.zip_cons_cons]
      by_cases e : k' = k
      · exact .inr ⟨x, d, valV_pos e, by unfold dGet; rw [if_pos e], a⟩
      · rcases dGet_ok k (by simpa using hl) t with ⟨h1, h2⟩ | ⟨v, d', h1, h2, h3⟩
        · exact .inl ⟨by rw [valV_neg e]; exact h1, by unfold dGet; rw [if_neg e]; exact h2⟩
        · exact .inr ⟨v, d', by rw [valV_neg e]; exact h1, by unfold dGet; rw [if_neg e]; exact h2, h3⟩
def dRepl {α : Type} (k : L2.Key) (d : α) : List L2.Key → List α → List α
  | k' :: ks, x :: ds => (if k' = k then d else x) :: dRepl k d ks ds
  | _, _ => []
def hasK (ks : List L2.Key) (k : L2.Key) : Bool := ks.any fun k' => decide (k' = k)
def dPutK (ks : List L2.Key) (k : L2.Key) : List L2.Key := if hasK ks k then ks else ks ++ [k]
def dPutV {α : Type} (ks : List L2.Key) (ds : List α) (k : L2.Key) (d : α) : List α := if hasK ks k then dRepl k d ks ds else ds ++ [d]
theorem dRepl_len {α : Type} (k : L2.Key) (d : α) : ∀ {ks : List L2.Key} {xs : List α}, ks.length = xs.length → (dRepl k d ks xs).length = ks.length
  | [], [], _ => rfl
  | k' :: ks, x :: xs, h => by
    show (dRepl k d ks xs).length + 1 = ks.length + 1
    rw [dRepl_len k d (by simpa using h)]
theorem dRepl_dr {T : Tab} {I : Hp} {k : L2.Key} {v : V} {d : Dt} (hv : DR T I v d) : ∀ {ks : List L2.Key} {xs : List V} {ds : List Dt}, ks.length = xs.length → DRs T I xs ds → DRs T I (dRepl k v ks xs) (dRepl k d ks ds)
  | [], [], _, _, h => by cases h; exact .nil
  | k' :: ks, x :: xs, ds, hl, h => by
    cases h with
    | cons a t =>
      unfold dRepl
      refine .cons ?_ (dRepl_dr hv (by simpa using hl) t)
      by_cases e : k' = k
      · rw [if_pos e, if_pos e]; exact hv
      · rw [if_neg e, if_neg e]; exact a
theorem any_zip (k : L2.Key) : ∀ {ks : List L2.Key} {xs : List V}, ks.length = xs.length → ((ks.zip xs).any fun kv => decide (kv.1 = k)) = hasK ks k
  | [], [], _ => rfl
  | k' :: ks, x :: xs, h => by
    rw [List.zip_cons_cons, List.any_cons, any_zip k (by simpa using h)]
    rfl
theorem map_zip (k : L2.Key) (v : V) : ∀ {ks : List L2.Key} {xs : List V}, ks.length = xs.length → (ks.zip xs).map (fun kv => if kv.1 = k then (kv.1, v) else kv) = ks.zip (dRepl k v ks xs)
  | [], [], _ => rfl
  | k' :: ks, x :: xs, h => by
    rw [List.zip_cons_cons, List.map_cons, map_zip k v (by simpa using h)]
    show _ = (k' :: ks).zip ((if k' = k then v else x) :: dRepl k v ks xs)
    rw [List.zip_cons_cons]
    by_cases e : k' = k
    · simp only [e, if_true]
    · simp only [e, if_false]
theorem putK_zip {k : L2.Key} {v : V} {ks : List L2.Key} {xs : List V} (h : ks.length = xs.length) : putK (ks.zip xs) k v = (dPutK ks k).zip (dPutV ks xs k v) ∧ (dPutK ks k).length = (dPutV ks xs k v).length := by
  unfold putK dPutK dPutV
  rw [any_zip k h]
  by_cases e : hasK ks k = true
  · rw [if_pos e, if_pos e, if_pos e, map_zip k v h, dRepl_len k v h]
    exact ⟨rfl, rfl⟩
  · rw [if_neg e, if_neg e, if_neg e, List.zip_append h]
    exact ⟨rfl, by simp [h]⟩
theorem dPutV_dr {T : Tab} {I : Hp} {k : L2.Key} {v : V} {d : Dt} {ks : List L2.Key} {xs : List V} {ds : List Dt} (hv : DR T I v d) (hl : ks.length = xs.length) (h : DRs T I xs ds) : DRs T I (dPutV ks xs k v) (dPutV ks ds k d) := by
  unfold dPutV
  by_cases e : hasK ks k = true
  · rw [if_pos e, if_pos e]; exact dRepl_dr hv hl h
  · rw [if_neg e, if_neg e]; exact h.app (.one hv)
/-- the pairs of a dict: data, or a cell -/
def dctOf (m : Cells) : Vl → Option (List L2.Key × List Dt)
  | .d (.dct ks ds) => some (ks, ds)
  | .ref k => match m[k]? with
    | some (some (.dct ks ds)) => some (ks, ds)
    | _ => none
  | _ => none
theorem dctOf_ok {T : Tab} {F : Frm} {I H : Hp} {A : List Addr} {m : Cells} {x : V} {v : Vl} {ks : List L2.Key} {ds : List Dt} (b : Base T F I H A m) (hx : VR T I A x v) (e : dctOf m v = some (ks, ds)) : ∃ a xs, x = .ref a ∧ H a = some (.dK (ks.zip xs)) ∧ ks.length = xs.length ∧ DRs T I xs ds := by
  cases v with
  | lam z => first | (cases e; done) | exact (show False from w).elim | exact (show False from w1).elim | exact (show False from w2).elim | exact (show False from w3).elim | (cases ef; done) | (cases hl; done) | (cases ht; done) | (cases h1; done)
  | ref k =>
    obtain ⟨a, rfl, ha⟩ := hx.cel
    simp only [dctOf] at e
    split at e
    · rename_i ks' ds' hm
      cases e
      obtain ⟨vs, h1, h2, h3⟩ := b.ok _ _ a hm ha
      exact ⟨a, vs, rfl, h1, h2, h3⟩
    · cases e
  | d d =>
    cases d with
    | dct ks' ds' =>
      cases e
      cases hx.dat with
      | dct h1 h2 h3 => exact ⟨_, _, rfl, b.sub _ _ h1, h2, h3⟩
    | _ => cases e
section
variable {X : Cx} {C : Fc} {e : Expr} {st : Stmt} {me mb mc : ME}
/-- d[k] -/
def oDGet : O2 := fun m x y => match dctOf m x, keyOf y with
  | some p, some k => (dGet p.1 p.2 k).map Vl.d
  | _, _ => none
theorem fe_dget (h : PE X e (tDGet (FE C me) (FE C mb))) : PE X e (FE C (mOp oDGet me mb)) :=
  fe_op (r := fun x y H Q => ∃ a v, x = .ref a ∧ DGet H a y (some v) ∧ Q v H) (pe_of h fun σ H Q q => q) fun F I H A m x y d1 d2 d b hx hy e Q q => by
    unfold oDGet at e
    split at e
    · rename_i p k h1 h2
      obtain ⟨ks, ds⟩ := p
      obtain ⟨a, xs, rfl, g1, g2, g3⟩ := dctOf_ok b hx h1
      have ek := keyOf_ok hy h2
      subst ek
      rcases dGet_ok k g2 g3 with ⟨_, e2⟩ | ⟨v, d', e1, e2, e3⟩
      · rw [e2] at e; cases e
      · rw [e2] at e
        cases e
        exact ⟨a, v, rfl, by rw [← e1]; exact DGet.k g1, q _ H I b (Same.refl I) (.d e3)⟩
    · cases e
/-- k in d -/
def oDIn (neg : Bool) : O2 := fun m y x => match dctOf m x, keyOf y with
  | some p, some k => some (.d (.bl (neg != (dGet p.1 p.2 k).isSome)))
  | _, _ => none
theorem sim_din {T : Tab} {neg : Bool} : SimO T (fun y x H Q => ∃ a o, x = .ref a ∧ DGet H a y o ∧ Q (.bl (neg != o.isSome)) H) (oDIn neg) := fun F I H A m y x d1 d2 d b hy hx e Q q => by
  unfold oDIn at e
  split at e
  · rename_i p k h1 h2
    cases e
    obtain ⟨ks, ds⟩ := p
    obtain ⟨a, xs, rfl, g1, g2, g3⟩ := dctOf_ok b hx h1
    have ek := keyOf_ok hy h2
    subst ek
    rcases dGet_ok k g2 g3 with ⟨e1, e2⟩ | ⟨v, d', e1, e2, e3⟩
    · refine ⟨a, none, rfl, by rw [← e1]; exact DGet.k g1, ?_⟩
      simp only [e2] at q
      exact q _ H I b (Same.refl I) (.d (.bl _))
    · refine ⟨a, some v, rfl, by rw [← e1]; exact DGet.k g1, ?_⟩
      simp only [e2] at q
      exact q _ H I b (Same.refl I) (.d (.bl _))
  · cases e
/-- d[k] = v of a cell -/
def isD (o : Option (Option Cell)) : Option (List L2.Key × List Dt) := match o with
  | some (some (.dct ks ds)) => some (ks, ds)
  | _ => none
theorem isD_ok {o : Option (Option Cell)} {ks : List L2.Key} {ds : List Dt} (h : isD o = some (ks, ds)) : o = some (some (.dct ks ds)) := by
  unfold isD at h
  split at h
  · cases h; rfl
  · cases h
def putD (x y v : Vl) (g : Gam) (m : Cells) : Out := match x, keyOf y, v with
  | .ref k, some key, .d d => (match isD m[k]? with
    | some p => if szOk (p.1.length + 1) then .nx g (m.set k (some (.dct (dPutK p.1 key) (dPutV p.1 p.2 key d)))) else .bad
    | none => .bad)
  | _, _, _ => .bad
def mPutD (mo mi mv : ME) : MS := fun g m => (mv g m).then g fun v m1 => (mo g m1).then g fun x m2 => (mi g m2).then g fun y m3 => putD x y v g m3
theorem fs_dput (h : PS X st (sDPut (FE C me) (FE C mb) (FE C mc))) : PS X st (FS C (mPutD me mb mc)) := ps_of h fun D σ H ⟨B, g, S, m, vs, I, A, r, w⟩ => by
  refine ⟨B, g, S, m, vs, I, A, r, ?_⟩
  unfold mPutD at w
  cases ea : mc g m with
  | bad => rw [ea] at w; exact w.elim
  | ex c fs m' => rw [ea] at w; exact w
  | ok v m1 =>
    rw [ea] at w
    intro vv H1 I1 A1 r1
    refine ⟨B, g, v :: S, m1, vv :: vs, I1, A1, r1, ?_⟩
    have w1 : WantS C B S vs D ((me g m1).then g fun x m2 => (mb g m2).then g fun y m3 => putD x y v g m3) := w
    cases eb : me g m1 with
    | bad => rw [eb] at w1; exact (show False from w1).elim
    | ex c fs m' =>
      rw [eb] at w1
      intro σ' H' I' A' dx ws r' h1 h2 h3
      exact w1 σ' H' I' A' dx ws r'.pop1 h1 h2 h3
    | ok x m2 =>
      rw [eb] at w1
      intro xv H2 I2 A2 r2
      refine ⟨B, g, x :: v :: S, m2, xv :: vv :: vs, I2, A2, r2, ?_⟩
      have w2 : WantS C B S vs D ((mb g m2).then g fun y m3 => putD x y v g m3) := w1
      cases ec : mb g m2 with
      | bad => rw [ec] at w2; exact (show False from w2).elim
      | ex c fs m' =>
        rw [ec] at w2
        intro σ' H' I' A' dx ws r' h1 h2 h3
        exact w2 σ' H' I' A' dx ws r'.pop1.pop1 h1 h2 h3
      | ok y m3 =>
        rw [ec] at w2
        intro yv H3 I3 A3 r3
        have w3 : WantS C B S vs D (putD x y v g m3) := w2
        unfold putD at w3
        split at w3
        · rename_i k key d hk
          cases ei : isD m3[k]? with
          | none => rw [ei] at w3; exact (show False from w3).elim
          | some p =>
            obtain ⟨ks, ds⟩ := p
            rw [ei] at w3
            by_cases hz : szOk (ks.length + 1) = true
            · simp only [hz, if_true] at w3
              obtain ⟨a, rfl, ha⟩ := r3.pop1.top.cel
              obtain ⟨us, g1, g2, g3⟩ := r3.base.ok _ _ a (isD_ok ei) ha
              have ek := keyOf_ok r3.top hk
              subst ek
              have hd := r3.pop1.pop1.top.dat
              obtain ⟨e1, e2⟩ := putK_zip (k := key) (v := vv) g2
              have hlen : (ks.zip us).length < sizeLine := by
                have := szOk_line hz
                rw [List.length_zip, g2, Nat.min_self]
                omega
              refine ⟨a, _, rfl, DPut.k g1 hlen, ?_⟩
              rw [e1]
              exact w3 _ _ _ _ (r3.pop1.pop1.pop1.step (r3.base.put (c' := .dct (dPutK ks key) (dPutV ks ds key d)) (isD_ok ei) ha ⟨_, upd_same, e2, dPutV_dr hd g2 g3⟩) Up.refl)
            · simp only [hz] at w3; exact (show False from w3).elim
        · exact (show False from w3).elim
/-- {} -/
def mDNew : ME := fun _ m => .ok (.ref m.length) (m ++ [some (.dct [] [])])
theorem fe_dnew (h : PE X e tDNewK) : PE X e (FE C mDNew) := pe_of h fun σ H Q ⟨B, g, S, m, vs, I, A, r, w⟩ p hp => by
  obtain ⟨b, u⟩ := r.base.newC (o := .dK []) (c := .dct [] []) hp ⟨[], upd_same, rfl, .nil⟩
  exact w _ _ _ _ ((r.step b u).push (.ref (by rw [← r.base.len]; exact last_get A p)))
def mergeD : List L2.Key → List Dt → List (L2.Key × Dt) → List L2.Key × List Dt
  | ks, ds, [] => (ks, ds)
  | ks, ds, (k, d) :: r => mergeD (dPutK ks k) (dPutV ks ds k d) r
theorem merge_ok {T : Tab} {I : Hp} {ps : List (V × V)} {es : List (L2.Key × Dt)} (h : DPs T I ps es) : ∃ kvs : List (L2.Key × V), ps = kvs.map (fun kv => (kV kv.1, kv.2)) ∧ kvs.length = es.length ∧ ∀ {ks : List L2.Key} {xs : List V} {ds : List Dt}, ks.length = xs.length → DRs T I xs ds →
    ∃ xs', mergeK (ks.zip xs) kvs = (mergeD ks ds es).1.zip xs' ∧ (mergeD ks ds es).1.length = xs'.length ∧ DRs T I xs' (mergeD ks ds es).2 := by
  induction h with
  | nil => exact ⟨[], rfl, rfl, fun {ks xs ds} hl hd => ⟨xs, rfl, hl, hd⟩⟩
  | @cons k v d ps es a _ ih =>
    obtain ⟨kvs, e, hl, hm⟩ := ih
    refine ⟨(k, v) :: kvs, by rw [List.map_cons, ← e], by simp [hl], fun {ks xs ds} hl hd => ?_⟩
    obtain ⟨e1, e2⟩ := putK_zip (k := k) (v := v) hl
    have e3 : mergeK (ks.zip xs) ((k, v) :: kvs) = mergeK (putK (ks.zip xs) k v) kvs := rfl
    rw [e3, e1]
    exact hm e2 (dPutV_dr a hl hd)
end
end FM
namespace RZ
open PySem PySem.Calls PyProof.Rows
/-- a zip object whose last tuple is out, at a -/
abbrev ZipOut (h : Heap) (z TI TO a : Addr) (f : Bool) : Prop :=
  h.get? z = some { cls := .type "zip", dict := none, data := .fields #[rawInt a, .bool f, .bool false, .ref TI, .ref TO], slots := #[] }
section
variable {prog : Program} {w : World} {A : Around} {E : Value → Shared → Prop} {s : Shared}
theorem zo_alive {a : Addr} {o : Obj} {Q : Option Obj → Shared → Prop} (ho : s.heap.get? a = some o) (h : Q (some o) s) : wpAny (model prog w) A (loadIfAlive a) Q E s := by
  have h' : Q (s.heap.get? a) s := by rw [ho]; exact h
  exact fun _ _ _ => h'
theorem zo_free {z TI TO a : Addr} {f : Bool} {oa : Obj} {Q : Bool → Shared → Prop} (hz : ZipOut s.heap z TI TO a f) (ha : s.heap.get? a = some oa)
    (h : ∀ h', ZipOut h' z TI TO a true → Heap.SameBut z s.heap h' → Q false { s with heap := h' }) : wpAny (model prog w) A (Builtin.SmallTypes.ownedTupleIsFree (.ref z)) Q E s := by
  unfold Builtin.SmallTypes.ownedTupleIsFree
  refine wpAny_bind (wpAny_field hz rfl (x := rawInt a) rfl ?_)
  show wpAny _ _ (loadIfAlive ((a : Int).toNat) >>= _) _ _ _
  rw [Int.toNat_natCast]
  refine wpAny_bind (zo_alive ha ?_)
  simp only [Option.isNone_some, Bool.false_eq_true, if_false]
  refine wpAny_bind (wpAny_field hz rfl (x := .bool f) rfl ?_)
  cases f with
  | true =>
    rw [if_neg (show ¬ ((Value.bool true != Value.bool true) = true) from Bool.false_ne_true)]
    exact wpAny_pure (h s.heap hz (Heap.SameBut.refl _ _))
  | false =>
    rw [if_pos (show (Value.bool false != Value.bool true) = true from rfl)]
    refine wpAny_bind (wpAny_setField_rec hz (by simp) fun h₃ he₃ hs₃ => ?_)
    exact wpAny_pure (h h₃ he₃ hs₃)
theorem zo_next {z TI TO a i1 i2 l1 l2 : Addr} {f : Bool} {oa : Obj} {k1 k2 : Nat} {xs ys : Array Value} {x y : Value} {Q : Value → Shared → Prop} (D : ZipApart z TI TO i1 i2 l1 l2)
    (hz : ZipOut s.heap z TI TO a f) (ha : s.heap.get? a = some oa) (hTI : IsPair s.heap TI (.ref i1) (.ref i2))
    (h1 : s.heap.IsTupleIter i1 l1 k1) (h2 : s.heap.IsTupleIter i2 l2 k2) (hl1 : s.heap.IsTuple l1 xs) (hl2 : s.heap.IsTuple l2 ys) (hx : xs[k1]? = some x) (hy : ys[k2]? = some y)
    (hQ : ∀ h', ZipOut h' z TI TO a true → h'.IsTupleIter i1 l1 (k1 + 1) → h'.IsTupleIter i2 l2 (k2 + 1) → IsPair h' s.heap.objs.size x y → h'.objs.size = s.heap.objs.size + 1 →
      (∀ c o, c ≠ z → c ≠ i1 → c ≠ i2 → s.heap.get? c = some o → h'.get? c = some o) → Q (.ref s.heap.objs.size) { s with heap := h' }) :
    wpAny (model prog w) A (Builtin.«zip.__next__» ⟨[.ref z], []⟩) (fun fin s' => ∃ v, fin = .done (.ret v) ∧ Q v s') E s := by
  show wpAny _ _ (field (.ref z) 2 >>= _) _ _ _
  refine wpAny_bind (wpAny_field hz rfl (x := .bool false) rfl ?_)
  show wpAny _ _ (field (.ref z) 3 >>= _) _ _ _
  refine wpAny_bind (wpAny_field hz rfl (x := .ref TI) rfl ?_)
  refine wpAny_bind (wpAny_seqItems hTI rfl ?_)
  show wpAny _ _ (Builtin.SmallTypes.ownedTupleIsFree (.ref z) >>= _) _ _ _
  refine wpAny_bind (zo_free hz ha fun h₁ hz₁ hs₁ => ?_)
  simp only [Bool.false_eq_true, if_false]
  refine wpAny_bind ?_
  simp only [← Array.forIn_toList, List.forIn_cons, List.forIn_nil]
  refine wpAny_bind (wpAny_bind (wpAny_holding ?_))
  show wpAny _ _ (Builtin.SmallTypes.nextOf (.ref i1) >>= _) _ _ _
  refine wpAny_bind (nextOf_tuple_item (h1.extBut hs₁.extBut D.i1z) (hl1.extBut hs₁.extBut D.l1z) hx fun h₂ h1₂ hs₂ => wpAny_pure ?_)
  refine wpAny_pure ?_
  refine wpAny_bind (wpAny_bind (wpAny_holding ?_))
  show wpAny _ _ (Builtin.SmallTypes.nextOf (.ref i2) >>= _) _ _ _
  refine wpAny_bind (nextOf_tuple_item ((h2.extBut hs₁.extBut D.i2z).extBut hs₂.extBut D.i12.symm) ((hl2.extBut hs₁.extBut D.l2z).extBut hs₂.extBut D.l2i1) hy fun h₄ h2₄ hs₄ => wpAny_pure ?_)
  refine wpAny_pure (wpAny_pure ?_)
  show wpAny _ _ (newTuple [x, y] >>= _) _ _ _
  refine wpAny_bind (wpAny_newTuple ?_)
  have hsz : h₄.objs.size = s.heap.objs.size := by rw [hs₄.1, hs₂.1, hs₁.1]
  have hz₄ : ZipOut h₄ z TI TO a true := hs₄.extBut _ _ D.i2z.symm (hs₂.extBut _ _ D.i1z.symm hz₁)
  have hk : ∀ c o, c ≠ z → c ≠ i1 → c ≠ i2 → s.heap.get? c = some o → h₄.get? c = some o := fun c o c1 c3 c4 e => hs₄.extBut _ _ c4 (hs₂.extBut _ _ c3 (hs₁.extBut _ _ c1 e))
  have h1₄ : h₄.IsTupleIter i1 l1 (k1 + 1) := h1₂.extBut hs₄.extBut D.i12
  refine wpAny_pure ⟨_, rfl, ?_⟩
  show Q (.ref h₄.objs.size) _
  have hT : IsPair (h₄.push { cls := .type "tuple", data := .seq #[x, y] }) h₄.objs.size x y := Heap.get?_push_size _ rfl
  rw [hsz] at hT ⊢
  exact hQ _ (Heap.get?_push_of_some _ hz₄) (h1₄.at fun o e => Heap.get?_push_of_some _ e) (h2₄.at fun o e => Heap.get?_push_of_some _ e) hT (by rw [Heap.size_push, hsz]) fun c o c1 c3 c4 e => Heap.get?_push_of_some _ (hk c o c1 c3 c4 e)
end
end RZ
namespace RZ
open PySem PySem.Calls PyProof.Rows
section
variable {prog : Program} {w : World} {A : Around} {E : Value → Shared → Prop} {s : Shared}
theorem zo_end {z TI TO a i1 i2 l1 l2 : Addr} {f : Bool} {oa : Obj} {k1 k2 : Nat} {xs ys : Array Value} {Q : Fin → Shared → Prop} (hh : A.handled = none) (D : ZipApart z TI TO i1 i2 l1 l2)
    (hz : ZipOut s.heap z TI TO a f) (ha : s.heap.get? a = some oa) (hTI : IsPair s.heap TI (.ref i1) (.ref i2))
    (h1 : s.heap.IsTupleIter i1 l1 k1) (h2 : s.heap.IsTupleIter i2 l2 k2) (hl1 : s.heap.IsTuple l1 xs) (hl2 : s.heap.IsTuple l2 ys) (hend : xs[k1]? = none ∨ ys[k2]? = none)
    (hE : ∀ h' e, (∀ c o, c ≠ z → c ≠ i1 → c ≠ i2 → s.heap.get? c = some o → h'.get? c = some o) → (∃ o, h'.get? e = some o ∧ o.cls = .type "StopIteration") → E (.ref e) { s with heap := h' }) :
    wpAny (model prog w) A (Builtin.«zip.__next__» ⟨[.ref z], []⟩) Q E s := by
  show wpAny _ _ (field (.ref z) 2 >>= _) _ _ _
  refine wpAny_bind (wpAny_field hz rfl (x := .bool false) rfl ?_)
  show wpAny _ _ (field (.ref z) 3 >>= _) _ _ _
  refine wpAny_bind (wpAny_field hz rfl (x := .ref TI) rfl ?_)
  refine wpAny_bind (wpAny_seqItems hTI rfl ?_)
  show wpAny _ _ (Builtin.SmallTypes.ownedTupleIsFree (.ref z) >>= _) _ _ _
  refine wpAny_bind (zo_free hz ha fun h₁ hz₁ hs₁ => ?_)
  simp only [Bool.false_eq_true, if_false]
  refine wpAny_bind ?_
  simp only [← Array.forIn_toList, List.forIn_cons, List.forIn_nil]
  refine wpAny_bind (wpAny_bind (wpAny_holding ?_))
  show wpAny _ _ (Builtin.SmallTypes.nextOf (.ref i1) >>= _) _ _ _
  cases hx : xs[k1]? with
  | none => exact wpAny_bind (nextOf_tuple_end hh (h1.extBut hs₁.extBut D.i1z) (hl1.extBut hs₁.extBut D.l1z) hx fun h₂ e hs₂ he => hE h₂ e (fun c o c1 c3 _ q => hs₂ _ _ c3 (hs₁.extBut _ _ c1 q)) he)
  | some x =>
    have hy : ys[k2]? = none := by rcases hend with h | h; rw [hx] at h; cases h; exact h
    refine wpAny_bind (nextOf_tuple_item (h1.extBut hs₁.extBut D.i1z) (hl1.extBut hs₁.extBut D.l1z) hx fun h₂ h1₂ hs₂ => wpAny_pure ?_)
    refine wpAny_pure ?_
    refine wpAny_bind (wpAny_bind (wpAny_holding ?_))
    show wpAny _ _ (Builtin.SmallTypes.nextOf (.ref i2) >>= _) _ _ _
    exact wpAny_bind (nextOf_tuple_end hh ((h2.extBut hs₁.extBut D.i2z).extBut hs₂.extBut D.i12.symm) ((hl2.extBut hs₁.extBut D.l2z).extBut hs₂.extBut D.l2i1) hy fun h₃ e hs₃ he => hE h₃ e (fun c o c1 c3 c4 q => hs₃ _ _ c4 (hs₂.extBut _ _ c3 (hs₁.extBut _ _ c1 q))) he)
/-- where a zip stands whose tuples are kept -/
structure ZSt (h : Heap) (z TI TO i1 i2 l1 l2 S : Addr) (i : Nat) : Prop where
  ti : IsPair h TI (.ref i1) (.ref i2)
  t1 : h.IsTupleIter i1 l1 i
  t2 : h.IsTupleIter i2 l2 i
  zz : (IsZip h z TI TO .none ∧ ∃ x y, IsPair h TO x y) ∨ ∃ a f oa, ZipOut h z TI TO a f ∧ h.get? a = some oa ∧ a ≠ z ∧ a ≠ i1 ∧ a ≠ i2 ∧ a ≠ S
theorem zs_item {z TI TO i1 i2 l1 l2 S : Addr} {i : Nat} {xs ys : Array Value} {x y : Value} {Q : Option Value → Shared → Prop} (D : ZipApart z TI TO i1 i2 l1 l2) (hst : ZSt s.heap z TI TO i1 i2 l1 l2 S i) (hS : S < s.heap.objs.size)
    (hl1 : s.heap.IsTuple l1 xs) (hl2 : s.heap.IsTuple l2 ys) (hx : xs[i]? = some x) (hy : ys[i]? = some y)
    (hQ : ∀ h', ZSt h' z TI TO i1 i2 l1 l2 S (i + 1) → IsPair h' s.heap.objs.size x y → h'.objs.size = s.heap.objs.size + 1 → (∀ c o, c ≠ z → c ≠ TO → c ≠ i1 → c ≠ i2 → s.heap.get? c = some o → h'.get? c = some o) → Q (some (.ref s.heap.objs.size)) { s with heap := h' }) :
    wpAny (model prog w) A (pyNext (.ref z)) Q E s := by
  have lt1 : i1 < s.heap.objs.size := by obtain ⟨_, e, _⟩ := hst.t1; exact Heap.lt_size e
  have lt2 : i2 < s.heap.objs.size := by obtain ⟨_, e, _⟩ := hst.t2; exact Heap.lt_size e
  rcases hst.zz with ⟨hz, a, b, hTO⟩ | ⟨a, f, oa, hz, ha, az, a1, a2, aS⟩
  · exact pyNext_zipT_item D hz hst.ti hTO hst.t1 hst.t2 hl1 hl2 hx hy fun h' q1 q2 q3 q4 q5 q6 q7 => hQ h' ⟨q7 _ _ D.TIz D.TITO D.TIi1 D.TIi2 hst.ti, q3, q4, .inr ⟨_, false, _, q1, q5, Nat.ne_of_gt (Heap.lt_size hz), Nat.ne_of_gt lt1, Nat.ne_of_gt lt2, Nat.ne_of_gt hS⟩⟩ q5 q6 q7
  · have hT : s.TypeIs (.ref z) "zip" := ⟨_, hz, rfl⟩
    unfold pyNext
    exact wpAny_bind (wpAny_attempt (wpAny_callSpecial?_slot (name := Str.ofString "__next__") hT F.slot_zip_next
      (wpAny_call_entry F.slot_zip_next hT F.entry_zip_next
        (zo_next D hz ha hst.ti hst.t1 hst.t2 hl1 hl2 hx hy fun h' q1 q3 q4 q5 q6 q7 => wpAny_pure (hQ h' ⟨q7 _ _ D.TIz D.TIi1 D.TIi2 hst.ti, q3, q4, .inr ⟨a, true, oa, q1, q7 _ _ az a1 a2 ha, az, a1, a2, aS⟩⟩ q5 q6 fun c o c1 _ c3 c4 e => q7 c o c1 c3 c4 e)) (F.args_zip_next_1 _))))
theorem zs_done {z TI TO i1 i2 l1 l2 S : Addr} {i : Nat} {xs ys : Array Value} {Q : Option Value → Shared → Prop} (hh : A.handled = none) (D : ZipApart z TI TO i1 i2 l1 l2) (hst : ZSt s.heap z TI TO i1 i2 l1 l2 S i)
    (hl1 : s.heap.IsTuple l1 xs) (hl2 : s.heap.IsTuple l2 ys) (hend : xs[i]? = none ∨ ys[i]? = none)
    (hQ : ∀ h', (∀ c o, c ≠ z → c ≠ TO → c ≠ i1 → c ≠ i2 → s.heap.get? c = some o → h'.get? c = some o) → Q none { s with heap := h' }) : wpAny (model prog w) A (pyNext (.ref z)) Q E s := by
  rcases hst.zz with ⟨hz, a, b, hTO⟩ | ⟨a, f, oa, hz, ha, az, a1, a2, aS⟩
  · exact pyNext_zipT_end hh D hz hst.ti hTO hst.t1 hst.t2 hl1 hl2 hend hQ
  · have hT : s.TypeIs (.ref z) "zip" := ⟨_, hz, rfl⟩
    unfold pyNext
    refine wpAny_bind (wpAny_attempt (wpAny_callSpecial?_slot (name := Str.ofString "__next__") hT F.slot_zip_next
      (wpAny_call_entry F.slot_zip_next hT F.entry_zip_next (zo_end hh D hz ha hst.ti hst.t1 hst.t2 hl1 hl2 hend fun h' e hk he => ?_) (F.args_zip_next_1 _))))
    obtain ⟨o, ho, hc⟩ := he
    refine wpAny_bind (wpAny_isInstance (T := "StopIteration") (b := true) ⟨o, ho, hc⟩ isSubtype_stop ?_)
    exact wpAny_pure (hQ _ fun c o c1 _ c3 c4 e => hk c o c1 c3 c4 e)
end
end RZ
namespace RZ
open PySem PySem.Calls PyProof.Rows
theorem ZSt.keep {h h' : Heap} {z TI TO i1 i2 l1 l2 S : Addr} {i : Nat} (q : ZSt h z TI TO i1 i2 l1 l2 S i) (hk : ∀ b o, b ≠ S → h.get? b = some o → h'.get? b = some o) (nz : z ≠ S) (nTI : TI ≠ S) (nTO : TO ≠ S) (n1 : i1 ≠ S) (n2 : i2 ≠ S) : ZSt h' z TI TO i1 i2 l1 l2 S i := by
  refine ⟨hk _ _ nTI q.ti, q.t1.at fun o e => hk _ o n1 e, q.t2.at fun o e => hk _ o n2 e, ?_⟩
  rcases q.zz with ⟨hz, a, b, hTO⟩ | ⟨a, f, oa, hz, ha, az, a1, a2, aS⟩
  · exact .inl ⟨hk _ _ nz hz, a, b, hk _ _ nTO hTO⟩
  · exact .inr ⟨a, f, oa, hk _ _ nz hz, hk _ _ aS ha, az, a1, a2, aS⟩
end RZ
namespace FM
open PySem PySem.Spec PyProof.Rows L2
/-! ### isinstance -/
section
variable {X : Cx} {C : Fc} {e : Expr} {ma : MA} {me mb mc : ME}
/-! ### list(zip(a, b)) -/
/-! ### and, or, not as values; -x -/
def oNeg : O1 := fun _ x => match x with
  | .d (.int i) => some (.d (.int (-i)))
  | _ => none
theorem fe_neg (h : PE X e (tUn (rU fun i => .int (-i)) (FE C me))) : PE X e (FE C (mUn oNeg me)) :=
  fe_un (r := rU fun i => .int (-i)) h (fun σ H Q q => q) fun F I H A m x d1 d b hx e Q p => by
    unfold oNeg at e
    split at e
    · cases e
      cases hx.dat
      exact ⟨_, rfl, p _ H I b (Same.refl I) (.d (.int _))⟩
    · cases e
/-! ### max, min of two ints -/
/-! ### all of a list of bools -/
end
end FM
namespace FM
open PySem PySem.Spec PyProof.Rows L2
section
variable {X : Cx} {C : Fc} {e : Expr} {st : Stmt} {ma : MA} {me mb mc mi : ME}
theorem le_op {r : R2} {f : O2} {ma : ME} (s : SimO C.T r f) {σ : L2.St} {H : Hp} {Q : VK} (h : FE C (mOp f ma mb) σ H Q) : tOp r (FE C ma) (FE C mb) σ H Q := by
  obtain ⟨B, g, S, m, vs, I, A, rl, w⟩ := h
  exact two_ok rl w fun x y dx dy m2 H2 I2 A2 r2 w2 => by
    cases ef : f m2 dx dy with
    | none => rw [ef] at w2; exact w2.elim
    | some d =>
      rw [ef] at w2
      exact s _ I2 H2 A2 m2 x y dx dy d r2.base r2.pop1.top r2.top ef Q fun v H' I' b e hv => w2 v H' I' A2 ((r2.pop1.pop1.step b ⟨e, List.prefix_refl _⟩).push hv)
theorem ft_cmp {r : R2} {f : O2} {ma : ME} (h : PT X e (tTest (tOp r (FE C ma) (FE C mb)))) (s : SimO C.T r f) : PT X e (FT C (mTest (mOp f ma mb))) := pt_of h fun σ H Q q => le_op s (ft_le q)
/-! ### a, b = x, y -/
/-! ### x += e of a number -/
/-! ### xs[i] = v -/
theorem fg_setL (h : PG X e (gSub (FE C me) (FE C mi) rSetL)) : PG X e (FG C (mSetL me mi)) := pg_of h fun v σ H Q ⟨B, g, S, m, vs, I, A, d, r, w⟩ => by
  unfold mSetL at w
  refine ⟨B, g, d :: S, m, v :: vs, I, A, r, ?_⟩
  cases e1 : me g m with
  | bad => rw [e1] at w; exact w.elim
  | ex c fs m' => rw [e1] at w; exact w.elim
  | ok d1 m1 =>
    rw [e1] at w
    cases d1 with
    | d _ => exact (show False from w).elim
    | lam z => first | (cases e; done) | exact (show False from w).elim | exact (show False from w1).elim | exact (show False from w2).elim | exact (show False from w3).elim | (cases ef; done) | (cases hl; done) | (cases ht; done) | (cases h1; done)
    | ref k =>
      intro x H1 I1 A1 r1
      refine ⟨B, g, .ref k :: d :: S, m1, x :: v :: vs, I1, A1, r1, ?_⟩
      simp only at w
      cases e2 : mi g m1 with
      | bad => rw [e2] at w; exact w.elim
      | ex c fs m' => rw [e2] at w; exact w.elim
      | ok d2 m2 =>
        rw [e2] at w
        intro y H2 I2 A2 r2
        obtain ⟨a, ex, ha⟩ := r2.pop1.top.cel
        subst ex
        cases d2 with
        | ref _ => exact (show False from w).elim
        | lam z => exact (show False from w).elim
        | d d2 =>
          cases r2.top.dat with
          | int i =>
            simp only at w
            cases el : isL m2[k]? with
            | none => rw [el] at w; exact (show False from w).elim
            | some ds =>
              rw [el] at w
              have t3 := r2.pop1.pop1.top
              cases d with
              | ref _ => exact (show False from w).elim
              | lam z => exact (show False from w).elim
              | d d =>
                simp only at w
                cases ej : ixN ds.length i with
                | none => rw [ej] at w; exact (show False from w).elim
                | some j =>
                  rw [ej] at w
                  obtain ⟨us, hu, hd⟩ := r2.base.ok _ _ a (isL_ok el) ha
                  have b := r2.base.put (c' := .lst (ds.set j d)) (o := .lst (us.set j v)) (isL_ok el) ha ⟨_, upd_same, hd.set t3.dat j⟩
                  refine ⟨a, us, i, j, rfl, rfl, hu, by rw [hd.len]; exact ej, ?_⟩
                  exact w σ _ _ _ (r2.pop1.pop1.pop1.step b Up.refl)
          | _ => exact (show False from w).elim
/-! ### a list or a tuple, walked -/
theorem fi_seq {tg it : Expr} (h : PI X tg it (NK.iSeq C.T.K (FE C me))) : PI X tg it (FI C (mIt me isSeq)) := pi_of h fun σ H R q => it_ok q fun B g S vs v d xs m1 H1 I1 A1 r ef w => by
  cases d with
  | ref k => cases ef
  | lam z => cases ef
  | d d =>
    have t := r.top.dat
    cases t with
    | lst h1 h2 =>
      cases ef
      exact ⟨_, rfl, .inl ⟨⟨_, same_l r.sub (.inl (.inl h1))⟩, w _ _ _ _ r.pop1 (fun _ => itl_itd (.inl (.inl h1)) h2)⟩⟩
    | tup h1 h2 =>
      cases ef
      exact ⟨_, rfl, .inr ⟨⟨_, same_t r.sub h1⟩, w _ _ _ _ r.pop1 (fun _ => itt_itd h1 h2)⟩⟩
    | _ => cases ef
/-! ### xs == [] -/
def seqL (m : Cells) : Vl → Option (List Dt)
  | .d (.lst ds) => some ds
  | .d (.scr ds) => some ds
  | .ref k => isL m[k]?
  | _ => none
def oNil (neg : Bool) : O2 := fun m x y => match y with
  | .d (.lst []) => (seqL m x).map fun ds => .d (.bl (neg != ds.isEmpty))
  | _ => none
theorem seqL_ok {T : Tab} {F : Frm} {I H : Hp} {A : List Addr} {m : Cells} {x : V} {v : Vl} {ds : List Dt} (b : Base T F I H A m) (h : VR T I A x v) (e : seqL m v = some ds) : ∃ a us, x = .ref a ∧ SqL T.K H a us ∧ DRs T I us ds := by
  cases v with
  | lam z => first | (cases e; done) | exact (show False from w).elim | exact (show False from w1).elim | exact (show False from w2).elim | exact (show False from w3).elim | (cases ef; done) | (cases hl; done) | (cases ht; done) | (cases h1; done)
  | ref j =>
    obtain ⟨a, rfl, ha⟩ := h.cel
    obtain ⟨us, hu, hd⟩ := b.ok _ _ a (isL_ok e) ha
    exact ⟨a, us, rfl, .inl (.inl hu), hd⟩
  | d d =>
    cases h.dat with
    | lst h1 h2 => cases e; exact ⟨_, _, rfl, .inl (.inl (b.sub _ _ h1)), h2⟩
    | scr h1 h2 => cases e; exact ⟨_, _, rfl, same_l b.sub h1, h2⟩
    | _ => cases e
theorem sim_nil {T : Tab} {neg : Bool} : SimO T (NK.rNil T.K neg) (oNil neg) := fun F I H A m x y d1 d2 d b hx hy e Q q => by
  unfold oNil at e
  split at e
  · cases es : seqL m d1 with
    | none => rw [es] at e; cases e
    | some ds =>
      rw [es] at e
      cases e
      obtain ⟨a, us, rfl, hu, hd⟩ := seqL_ok b hx es
      cases hy.dat with
      | lst h1 h2 =>
        cases h2
        have : us.isEmpty = ds.isEmpty := by cases hd <;> rfl
        exact ⟨a, _, us, rfl, rfl, hu, .inl (.inl (b.sub _ _ h1)), by rw [this]; exact q _ H I b (Same.refl I) (.d (.bl _))⟩
  · cases e
/-! ### isinstance(e, C) in the suite of a caught one -/
/-! ### xs[a:b] of a list, a cell -/
end
end FM
namespace FM
open PySem PySem.Spec PyProof.Rows L2
/-! ### == by own classes, as a function -/
end FM
namespace FM
open PySem PySem.Spec PyProof.Rows L2
/-! ### the tables of a law, and its facts as Bools over a part of the heap -/
def mkT (cs : List (Str × List Str)) (gs : List Str) (K : PySem.W.Frag) (tf : List (He.Defn × Str) := []) (rich : Bool := false) (so : Addr → List Str → HO := fun _ _ => .tup []) : Tab := ⟨K, fun c => He.ga K ((cs.getD c ("", [])).1), fun c => (cs.getD c ("", [])).2, fun i => He.ga K (gs.getD i ""), tf.map (fun p => ((He.cT K p.1).2, p.2)), rich, so⟩
/-! ### the Hook -/
section
variable {fb : List Fb} {fn : List He.DefD} {K : PySem.W.Frag}
theorem SaysF.fact (c : SaysF fb fn K) (i : Nat) {f : Fb} (h : fb[i]? = some f := by rfl) : f K = true := by
  have c1 := (He.ba (show ((fb.all fun f => f K) && fn.all fun d => d.ok K) = true from congrArg (fun z : He.AlD => z.1) c)).1
  exact List.all_eq_true.mp c1 f (List.mem_of_getElem? h)
theorem SaysF.def_ (c : SaysF fb fn K) (i : Nat) {d : He.DefD} (h : fn[i]? = some d := by rfl) : ∃ fd, FunD K d.name d.qual d.params d.body d.scope (d.dvs K) (d.kws K) (He.fAd K d.at_) fd := by
  have c2 := (He.ba (show ((fb.all fun f => f K) && fn.all fun d => d.ok K) = true from congrArg (fun z : He.AlD => z.1) c)).2
  have e : fn.map (fun d => He.fnW K d.at_) = fn.map He.DefD.val := congrArg (fun z : He.AlD => z.2) c
  have e2 : (fn.map fun d => He.fnW K d.at_)[i]? = (fn.map He.DefD.val)[i]? := by rw [e]
  rw [List.getElem?_map, List.getElem?_map, h] at e2
  exact He.DefD.funD (Option.some.inj e2) (List.all_eq_true.mp c2 d (List.mem_of_getElem? h))
end
/-- a function that is never reached -/
def fnNo : Fn := fun _ _ => .bad
theorem spNo {T : Tab} {vs : List V} {H : Hp} {Q : VK} {E : XK} (h : spFn T fnNo vs H Q E) : False := by
  obtain ⟨F, I, A, m, es, _, _, w⟩ := h
  exact w
def fuel : Nat := 1048576
theorem drs_int {T : Tab} {I : Hp} : ∀ ns : List Int, DRs T I (ns.map V.int) (ns.map Dt.int)
  | [] => .nil
  | n :: ns => .cons (.int n) (drs_int ns)
/-- H but for its tables -/
def noTb (H : Hp) : Hp := fun b => match H b with
  | some (.tbl _) => none
  | o => o
theorem noTb_sub {H : Hp} : Same (noTb H) H := fun b o e => by
  unfold noTb at e
  split at e
  · cases e
  · exact e
theorem noTb_at {H : Hp} {b : Addr} {o : HO} (h : H b = some o) (ho : ∀ ps, o ≠ .tbl ps) : noTb H b = some o := by
  unfold noTb
  split
  · rename_i ps e; rw [h] at e; exact absurd (Option.some.inj e) (ho ps)
  · exact h
theorem noTb_nt {H : Hp} : ∀ b ps, noTb H b ≠ some (.tbl ps) := fun b ps e => by
  unfold noTb at e
  split at e
  · cases e
  · rename_i h; exact h ps e
theorem sql_noTb {K : PySem.W.Frag} {H : Hp} {a : Addr} {xs : List V} (h : SqL K H a xs) : SqL K (noTb H) a xs := by
  rcases h with h | h
  · rcases h with h | ⟨o, h⟩
    · exact .inl (.inl (noTb_at h fun _ z => nomatch z))
    · exact .inl (.inr ⟨o, noTb_at h fun _ z => nomatch z⟩)
  · exact .inr h
theorem law_start {T : Tab} {f : Fn} {H : Hp} {a : Addr} {ns : List Int} {m' : Cells} (hS : SqL T.K H a (ns.map V.int)) (h : f [.d (.scr (ns.map Dt.int))] [] = .ok (.d (.bl true)) m') (ht : ∀ p ∈ T.tb, H p.1 = some (.tbl #[]) := by exact fun p hp => absurd hp List.not_mem_nil) : spFn T f [.ref a] H (fun v _ => v = .bl true) fun _ _ _ => False := by
  refine ⟨[], noTb H, [], [], [.d (.scr (ns.map Dt.int))], ⟨noTb_sub, fun q hq => absurd hq List.not_mem_nil, List.nodup_nil, rfl, List.nodup_nil, fun a ha => absurd ha List.not_mem_nil, fun k c a h1 _ => (by cases h1), fun k c a h1 _ => (by cases h1), ⟨noTb_nt, fun q hq => absurd hq List.not_mem_nil, fun p hp => ⟨#[], ht p hp, True.intro, fun pos cv hc => by
    have z : codeAmong pos [] = some cv := hc
    simp [codeAmong] at z⟩⟩, fun k c fs a h1 _ => (by cases h1)⟩, .cons (.d (.scr (sql_noTb hS) (drs_int ns))) .nil, ?_⟩
  rw [h]
  intro v H' I' A' _ _ hv
  cases hv.dat
  rfl
theorem cx_none {P : Program} {w : World} (H : Hp) (s : Shared) (e : Value) (s' : Shared) (h : L2N.CX P w [] H s (fun _ _ _ => False) e s') : False := by
  obtain ⟨_, _, _, _, _, _, _, _, _, _, _, _, z⟩ := h
  exact z.elim
end FM
namespace FM
open PySem PySem.Spec PyProof.Rows L2
/-- a law's walk, where what its defs let out hangs on the world -/
theorem walkW {l : PySem.W.OpenLaw} {n k : Nat} {q : Program} {loose : List Str} {XP : (Str → Option Value) → Heap → Prop} {YP : World → Heap → Prop} {d : DefRec} {CX : World → CXT} {x : Str}
    (hn : l.most = some n) (hn2 : n ≤ sizeLine) (hdf : d.params.defaults = []) (hr : Room k callerA)
    (F : ∀ (w : World) (mg : Str → Option Value) (fa : Addr) (h : Heap), YP w h → h.Ns mainGlobals mg → mg d.name = some (.ref fa) →
      ∃ (K : PySem.W.Frag) (fd : FuncData) (sp : Sp), K.In h ∧ (∀ (s : Shared) (u : Value), BindsTo s fd ⟨[u], []⟩ [(x, u)]) ∧
        (∀ (H : Hp) (a : Addr) (ns : List Int), ns.length ≤ n → SqL K H a (ns.map V.int) → sp [.ref a] H (fun v _ => v = .bl true) fun _ _ _ => False) ∧
        ∀ base : Heap, K.In base → base.Ns mainGlobals mg → FnOk l.prog w K mg base (CX w) k fa fd [x] sp)
    (hCX : ∀ (w : World) (H : Hp) (s : Shared) (e : Value) (s' : Shared), CX w [] H s (fun _ _ _ => False) e s' → False) :
    PySem.W.WalkO q loose XP YP l.row.toRowW d [] (fun f vs => PySem.call f vs) := by
  refine Att.attach_call hn hdf fun w s0 s1 mg mb fa o pm cd doc a vs ns G Y ho hd hcd hmg hobj hints hlen hg => ?_
  obtain ⟨K, fd, sp, KX, hb, hsp, hF⟩ := F w mg fa _ Y G.T.g hmg
  exact law_call KX G.T.g G.T.b G.T.builtins G.T.nolimit hg hobj hints (Nat.le_trans hlen hn2) hr hF hb (fun H hO hS => hsp H a ns hlen hS) fun H e s' => hCX w H s1 e s'
end FM
namespace FM
open PySem PySem.Spec PyProof.Rows L2
/-! ### three at once; a list taken apart -/
end FM
namespace FM
open PySem PySem.Spec PyProof.Rows L2
/-! ### what a reading must give: weakest preconditions -/
def eNo : EX := fun _ _ _ => False
@[irreducible] def wO {α : Type} (o : Option α) (Q : α → Prop) : Prop := match o with
  | some a => Q a
  | none => False
section
variable {α : Type} {Q : α → Cells → Prop} {E : EX} {a : α} {m : Cells} {c : Nat} {fs : List Dt} {pN pB pC : PN} {pR : PR} {pX : PX} {g : Gam} {v : Vl}
theorem rE : wR (.ok a m) Q E = Q a m := by unfold wR; rfl
theorem rX : wR (.ex c fs m) Q E = E c fs m := by unfold wR; rfl
theorem rB : wR .bad Q E = False := by unfold wR; rfl
theorem oE {Q : α → Prop} : wO (some a) Q = Q a := by unfold wO; rfl
theorem oN {Q : α → Prop} : wO none Q = False := by unfold wO; rfl
theorem sN : wS (.nx g m) pN pR pB pC pX = pN g m := by unfold wS; rfl
theorem sR : wS (.rt v m) pN pR pB pC pX = pR v m := by unfold wS; rfl
theorem sK : wS (.bk g m) pN pR pB pC pX = pB g m := by unfold wS; rfl
theorem sC : wS (.ct g m) pN pR pB pC pX = pC g m := by unfold wS; rfl
theorem sX : wS (.ex c fs g m) pN pR pB pC pX = pX c fs g m := by unfold wS; rfl
theorem sB : wS .bad pN pR pB pC pX = False := by unfold wS; rfl
end
section
variable {α β : Type} {g : Gam} {m : Cells} {E : EX}
theorem wR_mono {r : Rs α} {Q Q' : α → Cells → Prop} (h : wR r Q E) (k : ∀ a m, Q a m → Q' a m) : wR r Q' E := by
  cases r with
  | ok a m => rw [rE] at h ⊢; exact k a m h
  | ex c fs m => rw [rX] at h ⊢; exact h
  | bad => rw [rB] at h; exact h.elim
theorem wR_eq {r : Rs α} {Q : α → Cells → Prop} {a : α} {m' : Cells} (h : r = .ok a m') (q : Q a m') : wR r Q E := by rw [h, rE]; exact q
theorem wR_ex {r : Rs α} {Q : α → Cells → Prop} {c : Nat} {fs : List Dt} {m' : Cells} (h : r = .ex c fs m') (q : E c fs m') : wR r Q E := by rw [h, rX]; exact q
theorem wR_ok {r : Rs α} {Q : α → Cells → Prop} (h : wR r Q eNo) : ∃ a m', r = .ok a m' ∧ Q a m' := by
  cases r with
  | ok a m => rw [rE] at h; exact ⟨a, m, rfl, h⟩
  | ex c fs m => rw [rX] at h; exact h.elim
  | bad => rw [rB] at h; exact h.elim
theorem wO_eq {o : Option α} {Q : α → Prop} {a : α} (h : o = some a) (q : Q a) : wO o Q := by rw [h, oE]; exact q
theorem wO_ok {o : Option α} {Q : α → Prop} (h : wO o Q) : ∃ a, o = some a ∧ Q a := by
  cases o with
  | some a => rw [oE] at h; exact ⟨a, rfl, h⟩
  | none => rw [oN] at h; exact h.elim
theorem wS_mono {o : Out} {pN pB pC : PN} {pR : PR} {pX : PX} {qN qB qC : PN} {qR : PR} {qX : PX} (h : wS o pN pR pB pC pX) (h1 : ∀ g m, pN g m → qN g m) (h2 : ∀ v m, pR v m → qR v m) (h3 : ∀ g m, pB g m → qB g m) (h4 : ∀ g m, pC g m → qC g m) (h5 : ∀ c fs g m, pX c fs g m → qX c fs g m) : wS o qN qR qB qC qX := by
  cases o with
  | nx g m => rw [sN] at h ⊢; exact h1 g m h
  | rt v m => rw [sR] at h ⊢; exact h2 v m h
  | bk g m => rw [sK] at h ⊢; exact h3 g m h
  | ct g m => rw [sC] at h ⊢; exact h4 g m h
  | ex c fs g m => rw [sX] at h ⊢; exact h5 c fs g m h
  | bad => rw [sB] at h; exact h.elim
theorem w_bind {r : Rs α} {k : α → Cells → Rs β} {Q : β → Cells → Prop} (h : wR r (fun a m => wR (k a m) Q E) E) : wR (r.bind k) Q E := by
  cases r with
  | ok a m => rw [rE] at h; exact h
  | ex c fs m => rw [rX] at h; exact (rX (Q := Q)).symm ▸ h
  | bad => rw [rB] at h; exact h.elim
theorem w_then {r : Rs α} {k : α → Cells → Out} {pN pB pC : PN} {pR : PR} {pX : PX} (h : wR r (fun a m => wS (k a m) pN pR pB pC pX) (fun c fs m => pX c fs g m)) : wS (r.then g k) pN pR pB pC pX := by
  cases r with
  | ok a m => rw [rE] at h; exact h
  | ex c fs m => rw [rX] at h; exact sX.symm ▸ h
  | bad => rw [rB] at h; exact h.elim
theorem w_ofO {o : Option α} {Q : α → Cells → Prop} (h : wO o fun a => Q a m) : wR (ofO m o) Q E := by
  obtain ⟨a, rfl, q⟩ := wO_ok h
  exact wR_eq rfl q
/-! expressions -/
section
variable {Q : Vl → Cells → Prop} {ma mb mc : ME} {mr : MA}
theorem w_var {i : Nat} {d : Vl} (h : g[i]? = some (some d)) (q : Q d m) : wR (mVar i g m) Q E := by exact wR_eq (by unfold mVar; rw [h]) q
theorem w_c {d : Dt} (q : Q (.d d) m) : wR (mC d g m) Q E := wR_eq rfl q
theorem w_op {f : O2} (h : wR (ma g m) (fun x m1 => wR (mb g m1) (fun y m2 => wO (f m2 x y) fun d => Q d m2) E) E) : wR (mOp f ma mb g m) Q E :=
  w_bind (wR_mono h fun x m1 h => w_bind (wR_mono h fun y m2 h => w_ofO h))
theorem w_un {f : O1} (h : wR (ma g m) (fun x m1 => wO (f m1 x) fun d => Q d m1) E) : wR (mUn f ma g m) Q E :=
  w_bind (wR_mono h fun x m1 h => w_ofO h)
theorem w_nil {Q : List Vl → Cells → Prop} (q : Q [] m) : wR (mNil g m) Q E := wR_eq rfl q
theorem w_cons {Q : List Vl → Cells → Prop} (h : wR (ma g m) (fun x m1 => wR (mr g m1) (fun xs m2 => Q (x :: xs) m2) E) E) : wR (mCons ma mr g m) Q E :=
  w_bind (wR_mono h fun x m1 h => w_bind (wR_mono h fun _ _ h => wR_eq rfl h))
theorem w_call {F : Fn} (h : wR (mr g m) (fun xs m1 => wR (F xs m1) Q E) E) : wR (mCall F mr g m) Q E := w_bind h
theorem w_cb {f : ON} (h : wR (mr g m) (fun xs m1 => wO (f m1 xs) fun d => Q d m1) E) : wR (mCB f mr g m) Q E := w_bind (wR_mono h fun x m1 h => w_ofO h)
theorem w_cl {f : OL} (h : wR (mr g m) (fun xs m1 => wO (f m1 xs) fun ds => Q (.d (.lst ds)) m1) E) : wR (mCL f mr g m) Q E := w_bind (wR_mono h fun x m1 h => by
  obtain ⟨ds, e, q⟩ := wO_ok h
  simp only [e]; exact wR_eq rfl q)
theorem w_clC {f : OL} (h : wR (mr g m) (fun xs m1 => wO (f m1 xs) fun ds => Q (.ref m1.length) (m1 ++ [some (.lst ds)])) E) : wR (mCLC f mr g m) Q E := w_bind (wR_mono h fun x m1 h => by
  obtain ⟨ds, e, q⟩ := wO_ok h
  simp only [e]; exact wR_eq rfl q)
theorem w_tup (h : wR (mr g m) (fun vs m1 => wO (dats vs) fun ds => szOk ds.length = true ∧ Q (.d (.tup ds)) m1) E) : wR (mTup mr g m) Q E := w_bind (wR_mono h fun x m1 h => by
  obtain ⟨ds, e, h1, q⟩ := wO_ok h
  simp only [e, h1, if_true]; exact wR_eq rfl q)
theorem w_lst (h : wR (mr g m) (fun vs m1 => wO (dats vs) fun ds => szOk ds.length = true ∧ Q (.d (.lst ds)) m1) E) : wR (mLst mr g m) Q E := w_bind (wR_mono h fun x m1 h => by
  obtain ⟨ds, e, h1, q⟩ := wO_ok h
  simp only [e, h1, if_true]; exact wR_eq rfl q)
theorem w_lstC (h : wR (mr g m) (fun vs m1 => wO (dats vs) fun ds => szOk ds.length = true ∧ Q (.ref m1.length) (m1 ++ [some (.lst ds)])) E) : wR (mLstC mr g m) Q E := w_bind (wR_mono h fun x m1 h => by
  obtain ⟨ds, e, h1, q⟩ := wO_ok h
  simp only [e, h1, if_true]; exact wR_eq rfl q)
/-- a test's value -/
@[irreducible] def wB (v : Vl) (Q : Bool → Prop) : Prop := ∃ b, v = .d (.bl b) ∧ Q b
theorem w_B {b : Bool} {Q : Bool → Prop} (q : Q b) : wB (.d (.bl b)) Q := by unfold wB; exact ⟨b, rfl, q⟩
theorem wB_ok {v : Vl} {Q : Bool → Prop} (h : wB v Q) : ∃ b, v = .d (.bl b) ∧ Q b := by unfold wB at h; exact h
theorem w_test {Q : Bool → Cells → Prop} (h : wR (ma g m) (fun v m1 => wB v fun b => Q b m1) E) : wR (mTest ma g m) Q E := w_bind (wR_mono h fun x m1 h => by
  obtain ⟨b, rfl, q⟩ := wB_ok h
  exact wR_eq rfl q)
theorem w_and {t u : MT} {Q : Bool → Cells → Prop} (h : wR (t g m) (fun b m1 => (b = true → wR (u g m1) Q E) ∧ (b = false → Q false m1)) E) : wR (mAnd t u g m) Q E := w_bind (wR_mono h fun b m1 h => by
  cases b with
  | true => exact h.1 rfl
  | false => exact wR_eq rfl (h.2 rfl))
theorem w_or {t u : MT} {Q : Bool → Cells → Prop} (h : wR (t g m) (fun b m1 => (b = true → Q true m1) ∧ (b = false → wR (u g m1) Q E)) E) : wR (mOr t u g m) Q E := w_bind (wR_mono h fun b m1 h => by
  cases b with
  | true => exact wR_eq rfl (h.1 rfl)
  | false => exact h.2 rfl)
/-- a method of a list that may change -/
@[irreducible] def wMl (f : OM) (k : Nat) (m : Cells) (ys : List Vl) (Q : Vl → Cells → Prop) : Prop := wO (isL m[k]?) fun ds => wO (f ds m ys) fun p => Q p.1 (m.set k (some (.lst p.2)))
theorem w_Ml {f : OM} {k : Nat} {ys : List Vl} {ds : List Dt} {p : Vl × List Dt} (h : isL m[k]? = some ds) (h2 : f ds m ys = some p) (q : Q p.1 (m.set k (some (.lst p.2)))) : wMl f k m ys Q := by unfold wMl; exact wO_eq h (wO_eq h2 q)
theorem wMl_ok {f : OM} {k : Nat} {ys : List Vl} (h : wMl f k m ys Q) : wO (isL m[k]?) fun ds => wO (f ds m ys) fun p => Q p.1 (m.set k (some (.lst p.2))) := by unfold wMl at h; exact h
theorem w_m {f : OM} (h : wR (ma g m) (fun x m1 => ∃ k, x = .ref k ∧ (∃ ds, isL m1[k]? = some ds) ∧ wR (mr g m1) (fun ys m2 => wMl f k m2 ys Q) E) E) : wR (mM f ma mr g m) Q E :=
  w_bind (wR_mono h fun x m1 ⟨k, e, ⟨ds, e1⟩, h⟩ => by
    subst e
    simp only [e1]
    refine w_bind (wR_mono h fun ys m2 h => ?_)
    obtain ⟨ds2, e2, h⟩ := wO_ok (wMl_ok h)
    obtain ⟨p, e3, h⟩ := wO_ok h
    simp only [e2, e3]
    exact wR_eq rfl h)
theorem w_frz (h : wR (ma g m) (fun x m1 => (∃ k ds, x = .ref k ∧ isL m1[k]? = some ds ∧ Q (.d (.lst ds)) (m1.set k none)) ∨ ∃ d, x = .d d ∧ Q (.d d) m1) E) : wR (mFrz ma g m) Q E :=
  w_bind (wR_mono h fun x m1 h => by
    rcases h with ⟨k, ds, rfl, e, q⟩ | ⟨d, rfl, q⟩
    · simp only [e]; exact wR_eq rfl q
    · exact wR_eq rfl q)
/-! slices -/
theorem w_noP {Q : Option Int → Cells → Prop} (q : Q none m) : wR (mNoP g m) Q E := wR_eq rfl q
theorem w_part {Q : Option Int → Cells → Prop} (h : wR (ma g m) (fun x m1 => ∃ i, x = .d (.int i) ∧ Q (some i) m1) E) : wR (mPart ma g m) Q E := w_bind (wR_mono h fun x m1 ⟨i, e, q⟩ => by subst e; exact wR_eq rfl q)
theorem w_sl {f : OS} {ml mh : MO} (h : wR (ma g m) (fun x m1 => wR (ml g m1) (fun lo m2 => wR (mh g m2) (fun hi m3 => wO (f m3 x lo hi) fun d => Q d m3) E) E) E) : wR (mSl f ma ml mh g m) Q E :=
  w_bind (wR_mono h fun x m1 h => w_bind (wR_mono h fun lo m2 h => w_bind (wR_mono h fun hi m3 h => w_ofO h)))
/-! dicts -/
theorem w_dnew (q : Q (.ref m.length) (m ++ [some (.dct [] [])])) : wR (mDNew g m) Q E := wR_eq rfl q
/-! what is walked -/
theorem w_it {f : Vl → Option (List Dt)} {Q : List Dt → Cells → Prop} (h : wR (ma g m) (fun x m1 => wO (f x) fun xs => Q xs m1) E) : wR (mIt ma f g m) Q E := w_bind (wR_mono h fun x m1 h => w_ofO h)
theorem w_itA {f : List Vl → Option (List Dt)} {Q : List Dt → Cells → Prop} (h : wR (mr g m) (fun x m1 => wO (f x) fun xs => Q xs m1) E) : wR (mItA mr f g m) Q E := w_bind (wR_mono h fun x m1 h => w_ofO h)
/-! list comprehensions -/
theorem w_lcLoop {mg : MG} {mt : MT} {me : ME} {g0 : Gam} {Q : List Dt → Cells → Prop} (I : List Dt → List Dt → Cells → Prop)
    (hs : ∀ x r acc m, I (x :: r) acc m → wO (mg (.d x) g0 m) fun p => wR (mt p.1 p.2) (fun b m2 => (b = true → wR (me p.1 m2) (fun v m3 => ∃ d, v = .d d ∧ szOk (acc.length + 1) = true ∧ I r (acc ++ [d]) m3) eNo) ∧ (b = false → I r acc m2)) eNo)
    (he : ∀ acc m, I [] acc m → Q acc m) : ∀ (xs acc : List Dt) (m : Cells), I xs acc m → wR (lcLoop mg mt me g0 xs acc m) Q E
  | [], acc, m, h => wR_eq rfl (he acc m h)
  | x :: r, acc, m, h => by
    unfold lcLoop
    obtain ⟨p, e, h1⟩ := wO_ok (hs x r acc m h)
    simp only [e]
    obtain ⟨b, m2, e2, h2⟩ := wR_ok h1
    simp only [e2]
    cases b with
    | false => exact w_lcLoop I hs he r acc m2 (h2.2 rfl)
    | true =>
      obtain ⟨v, m3, e3, d, rfl, h3, h4⟩ := wR_ok (h2.1 rfl)
      simp only [e3, h3, if_true]
      exact w_lcLoop I hs he r (acc ++ [d]) m3 h4
theorem w_lc {mi : MI} {mg : MG} {mt : MT} {me : ME} {own : List Nat} (h : wR (mi g m) (fun xs m1 => wR (lcLoop mg mt me (wipeG g own) xs [] m1) (fun acc m2 => Q (.d (.lst acc)) m2) E) E) : wR (mLc mi mg mt me own g m) Q E := w_bind (wR_mono h fun xs m1 h => w_bind (wR_mono h fun _ _ h => wR_eq rfl h))
end
/-! targets -/
theorem w_nm {i : Nat} {d : Vl} {N : Gam × Cells → Prop} (q : N (g.set i (some d), m)) : wO (gNm i d g m) N := wO_eq rfl q
theorem w_gnil {N : Gam × Cells → Prop} (q : N (g, m)) : wO (gsNil [] g m) N := wO_eq rfl q
theorem w_gcons {mg : MG} {mr : MGs} {d : Dt} {r : List Dt} {N : Gam × Cells → Prop} (h : wO (mg (.d d) g m) fun p => wO (mr r p.1 p.2) N) : wO (gsCons mg mr (d :: r) g m) N := by
  obtain ⟨p, e, q⟩ := wO_ok h
  show wO ((mg (.d d) g m).bind _) N
  rw [e]; exact q
theorem w_gtp {n : Nat} {mr : MGs} {ds : List Dt} {N : Gam × Cells → Prop} (hn : ds.length = n) (h : wO (mr ds g m) N) : wO (gTp n mr (.d (.tup ds)) g m) N := by
  show wO (if ds.length = n then mr ds g m else none) N
  rw [if_pos hn]; exact h
/-! statements -/
section
variable {pN pB pC : PN} {pR : PR} {pX : PX} {s t : MS} {me mo mi mv : ME} {mr : MA} {mg : MG}
theorem w_seq (h : wS (s g m) (fun g' m' => wS (t g' m') pN pR pB pC pX) pR pB pC pX) : wS (mSeq s t g m) pN pR pB pC pX := by
  unfold mSeq
  cases e : s g m with
  | nx g' m' => rw [e, sN] at h; exact h
  | rt v m' => rw [e, sR] at h; rw [sR]; exact h
  | bk g' m' => rw [e, sK] at h; rw [sK]; exact h
  | ct g' m' => rw [e, sC] at h; rw [sC]; exact h
  | ex c fs g' m' => rw [e, sX] at h; rw [sX]; exact h
  | bad => rw [e, sB] at h; exact h.elim
theorem w_asg (h : wR (me g m) (fun d m1 => wO (mg d g m1) fun p => pN p.1 p.2) (fun c fs m => pX c fs g m)) : wS (mAsg me mg g m) pN pR pB pC pX := w_then (wR_mono h fun d m1 h => by
  obtain ⟨p, e, q⟩ := wO_ok h
  rw [e]; exact sN.symm ▸ q)
theorem w_drop (h : wR (me g m) (fun _ m1 => pN g m1) (fun c fs m => pX c fs g m)) : wS (mDrop me g m) pN pR pB pC pX := w_then (wR_mono h fun _ _ h => sN.symm ▸ h)
theorem w_ret (h : wR (me g m) (fun d m1 => pR d m1) (fun c fs m => pX c fs g m)) : wS (mRet me g m) pN pR pB pC pX := w_then (wR_mono h fun _ _ h => sR.symm ▸ h)
theorem w_next (h : pN g m) : wS (mNext g m) pN pR pB pC pX := by unfold mNext; rw [sN]; exact h
theorem w_if {c : MT} (h : wR (c g m) (fun b m1 => (b = true → wS (s g m1) pN pR pB pC pX) ∧ (b = false → wS (t g m1) pN pR pB pC pX)) (fun c fs m => pX c fs g m)) : wS (mIfS c s t g m) pN pR pB pC pX := w_then (wR_mono h fun b m1 h => by
  cases b with
  | true => exact h.1 rfl
  | false => exact h.2 rfl)
theorem w_putD (h : wR (mv g m) (fun v m1 => wR (mo g m1) (fun x m2 => wR (mi g m2) (fun y m3 => wS (putD x y v g m3) pN pR pB pC pX) (fun c fs m => pX c fs g m)) (fun c fs m => pX c fs g m)) (fun c fs m => pX c fs g m)) : wS (mPutD mo mi mv g m) pN pR pB pC pX :=
  w_then (wR_mono h fun v m1 h => w_then (wR_mono h fun x m2 h => w_then h))
/-! loops -/
theorem w_turn {o : Out} {k : Gam → Cells → Out} (h : wS o (fun g m => wS (k g m) pN pR pB pC pX) pR pN (fun g m => wS (k g m) pN pR pB pC pX) pX) : wS (turn o k) pN pR pB pC pX := by
  cases o with
  | nx g' m' => rw [sN] at h; exact h
  | rt v m' => rw [sR] at h; exact sR.symm ▸ h
  | bk g' m' => rw [sK] at h; exact sN.symm ▸ h
  | ct g' m' => rw [sC] at h; exact h
  | ex c fs g' m' => rw [sX] at h; exact sX.symm ▸ h
  | bad => rw [sB] at h; exact h.elim
theorem w_loop (I : List Dt → Gam → Cells → Prop)
    (hs : ∀ x r g m, I (x :: r) g m → wO (mg (.d x) g m) fun p => wS (s p.1 p.2) (I r) pR pN (I r) pX)
    (he : ∀ g m, I [] g m → pN g m) : ∀ (xs : List Dt) (g : Gam) (m : Cells), I xs g m → wS (mLoop mg s xs g m) pN pR pB pC pX
  | [], g, m, h => by unfold mLoop; rw [sN]; exact he g m h
  | x :: r, g, m, h => by
    unfold mLoop
    obtain ⟨p, e, h1⟩ := wO_ok (hs x r g m h)
    simp only [e]
    exact w_turn (wS_mono h1 (fun g' m' h => w_loop I hs he r g' m' h) (fun _ _ h => h) (fun _ _ h => h) (fun g' m' h => w_loop I hs he r g' m' h) (fun _ _ _ _ h => h))
theorem w_for {mi : MI} (h : wR (mi g m) (fun xs m1 => wS (mLoop mg s xs g m1) pN pR pB pC pX) (fun c fs m => pX c fs g m)) : wS (mFor mi mg s g m) pN pR pB pC pX := w_then h
/-! defs -/
theorem w_Xd {k : Nat} {Q : Vl → Cells → Prop} {d : Dt} (q : Q (.d d) (m.take k)) : wX k Q (.d d) m := by unfold wX; exact q
theorem w_run {n N : Nat} {es : List Vl} {Q : Vl → Cells → Prop} {g : Gam} (hn : es.length = n) (hg : g = es.map some ++ List.replicate (N - n) none)
    (h : wS (s g m) (fun _ m' => Q (.d .non) (m'.take m.length)) (wX m.length Q) (fun _ _ => False) (fun _ _ => False) (fun c fs _ m' => E c fs (m'.take m.length))) : wR (runFn n N s es m) Q E := by
  subst hg
  unfold runFn
  rw [if_pos hn]
  cases e : s (es.map some ++ List.replicate (N - n) none) m with
  | nx g' m' => rw [e, sN] at h; exact wR_eq rfl h
  | rt v m' =>
    rw [e, sR] at h
    cases v with
    | d d => unfold wX at h; exact wR_eq rfl h
    | lam z => unfold wX at h; exact h.elim
    | ref j =>
      unfold wX at h
      have h : if j < m.length then Q (.ref j) (m'.take m.length) else ∃ c, m'[j]? = some (some c) ∧ c.isOb = false ∧ Q (.ref m.length) (m'.take m.length ++ [some c]) := h
      by_cases hj : j < m.length
      · rw [if_pos hj] at h
        simp only [exitF, if_pos hj]; exact wR_eq rfl h
      · rw [if_neg hj] at h
        obtain ⟨c, e1, ho, q⟩ := h
        have e : exitF m.length (.rt (.ref j) m') = .ok (.ref m.length) (m'.take m.length ++ [some c]) := by
          simp only [exitF, if_neg hj, e1, ho]; rfl
        rw [e]; exact wR_eq rfl q
  | bk g' m' => rw [e, sK] at h; exact h.elim
  | ct g' m' => rw [e, sC] at h; exact h.elim
  | ex c fs g' m' => rw [e, sX] at h; exact wR_ex rfl h
  | bad => rw [e, sB] at h; exact h.elim
end
end
end FM
namespace FM
open PySem PySem.Spec PyProof.Rows L2
/-! ### leaves -/
section
variable {m : Cells} {Q : Vl → Prop} {x y : Vl} {i j : Int} {a b : Str} {d e : Dt} {ds es : List Dt} {p : Bool}
theorem sz_le {n : Nat} (h : n ≤ 16777216) : szOk n = true := decide_eq_true h
theorem w_dats {vs : List Vl} {K : List Dt → Prop} (h : dats vs = some ds) (q : K ds) : wO (dats vs) K := wO_eq h q
theorem wo_II {f : Int → Int → Int} (q : Q (.d (.int (f i j)))) : wO (oII f m (.d (.int i)) (.d (.int j))) Q := wO_eq rfl q
theorem wo_IB {f : Int → Int → Bool} (q : Q (.d (.bl (f i j)))) : wO (oIB f m (.d (.int i)) (.d (.int j))) Q := wO_eq rfl q
theorem wo_Ic {c : Int → Int → Bool} {f : Int → Int → Int} (h : c i j = true) (q : Q (.d (.int (f i j)))) : wO (oIc c f m (.d (.int i)) (.d (.int j))) Q := wO_eq (by simp only [oIc, h, if_true]) q
theorem wo_eqI (q : Q (.d (.bl (decide (i = j))))) : wO (oEq m (.d (.int i)) (.d (.int j))) Q := wO_eq rfl q
theorem wo_eqS (q : Q (.d (.bl (decide (a = b))))) : wO (oEq m (.d (.str a)) (.d (.str b))) Q := wO_eq rfl q
theorem wo_isN {neg : Bool} (q : Q (.d (.bl (neg != isNon x)))) : wO (oIsN neg m x (.d .non)) Q := wO_eq rfl q
theorem wo_isNf {neg : Bool} (h : isNon x = false) (q : Q (.d (.bl neg))) : wO (oIsN neg m x (.d .non)) Q := wO_eq (by simp only [oIsN, h]; cases neg <;> rfl) q
theorem wo_isN1 (q : Q (.d (.bl false))) : wO (oIsN true m (.d .non) (.d .non)) Q := wO_eq rfl q
theorem wo_ixL (h : lstOf m x = some ds) (h2 : atI ds i = some d) (q : Q (.d d)) : wO (oIxL m x (.d (.int i))) Q := wO_eq (by simp only [oIxL, h, h2, Option.map_some]) q
theorem wo_ixT (h2 : atI ds i = some d) (q : Q (.d d)) : wO (oIxT m (.d (.tup ds)) (.d (.int i))) Q := wO_eq (by simp only [oIxT, tupOf, h2, Option.map_some]) q
theorem wo_catL (h : lstOf m x = some ds) (h2 : lstOf m y = some es) (h3 : ds.length + es.length ≤ 16777216) (q : Q (.d (.lst (ds ++ es)))) : wO (oCatL m x y) Q := wO_eq (by simp only [oCatL, h, h2, sz_le h3, if_true]) q
theorem wo_catT (h3 : ds.length + es.length ≤ 16777216) (q : Q (.d (.tup (ds ++ es)))) : wO (oCatT m (.d (.tup ds)) (.d (.tup es))) Q := wO_eq (by simp only [oCatT, tupOf, sz_le h3, if_true]) q
theorem wo_len (h : (lstOf m x).or (tupOf x) = some ds) (q : Q (.d (.int (ds.length : Nat)))) : wO (nLen m [x]) Q := wO_eq (by simp only [nLen, h, Option.map_some]) q
theorem wo_tup (h : (lstOf m x).or (tupOf x) = some ds) (q : Q (.d (.tup ds))) : wO (nTup m [x]) Q := wO_eq (by simp only [nTup, h, Option.map_some]) q
theorem wo_list {Q : List Dt → Prop} (h : (lstOf m x).or (tupOf x) = some ds) (q : Q ds) : wO (lList m [x]) Q := wO_eq (by simp only [lList, h]) q
theorem wo_rev (h : lstOf m x = some ds) (q : Q (.d (.lst ds.reverse))) : wO (oRev m x) Q := wO_eq (by simp only [oRev, h, Option.map_some]) q
theorem wo_slL {lo hi : Option Int} (h : lstOf m x = some ds) (q : Q (.d (.lst (cutL ds lo hi)))) : wO (oSlL m x lo hi) Q := wO_eq (by simp only [oSlL, h, Option.map_some]) q
theorem wo_nil {neg : Bool} (h : seqL m x = some ds) (q : Q (.d (.bl (neg != ds.isEmpty)))) : wO (oNil neg m x (.d (.lst []))) Q := wO_eq (by simp only [oNil, h, Option.map_some]) q
theorem wo_dget {k : L2.Key} {ks : List L2.Key} (h : dctOf m x = some (ks, ds)) (hk : keyOf y = some k) (h2 : dGet ks ds k = some d) (q : Q (.d d)) : wO (oDGet m x y) Q := wO_eq (by simp only [oDGet, h, hk, h2, Option.map_some]) q
theorem wo_lst {Q : List Dt → Prop} (q : Q ds) : wO (isLst (.d (.lst ds))) Q := wO_eq rfl q
theorem wo_itup {Q : List Dt → Prop} (q : Q ds) : wO (isTup (.d (.tup ds))) Q := wO_eq rfl q
theorem wo_rng1 {Q : List Dt → Prop} (h : -1000000000000 ≤ i ∧ i ≤ 1000000000000) (q : Q (rangeD 0 i.toNat)) : wO (isRng1 [.d (.int i)]) Q := wO_eq (by
  have e : okR i = true := by unfold okR; exact decide_eq_true ⟨by omega, by omega⟩
  simp only [isRng1, e, if_true]) q
theorem wo_rng2 {Q : List Dt → Prop} (h : -1000000000000 ≤ i ∧ i ≤ 1000000000000) (h2 : -1000000000000 ≤ j ∧ j ≤ 1000000000000) (q : Q (rangeD i (j - i).toNat)) : wO (isRng2 [.d (.int i), .d (.int j)]) Q := wO_eq (by
  have e : okR i = true := by unfold okR; exact decide_eq_true ⟨by omega, by omega⟩
  have e2 : okR j = true := by unfold okR; exact decide_eq_true ⟨by omega, by omega⟩
  simp only [isRng2, e, e2, Bool.and_self, if_true]) q
theorem cut_to {α : Type} {xs : List α} {a : Nat} : cutL xs none (some (a : Int)) = xs.take a := by
  unfold cutL
  rw [HT.sIx_none, HT.sIx_nat, List.drop_zero, Nat.sub_zero, List.take_eq_take_iff]
  omega
theorem cut_from {α : Type} {xs : List α} {a : Nat} : cutL xs (some (a : Int)) none = xs.drop a := by
  unfold cutL
  rw [HT.sIx_none, HT.sIx_nat]
  by_cases h : a ≤ xs.length
  · rw [Nat.min_eq_left h, List.take_of_length_le (by simp)]
  · rw [Nat.min_eq_right (by omega), List.drop_eq_nil_of_le (Nat.le_refl _), List.drop_eq_nil_of_le (by omega), List.take_nil]
/-! putting into a dict that may change -/
theorem w_putDn {pN pB pC : PN} {pR : PR} {pX : PX} {g : Gam} {k : Nat} {key : L2.Key} {ks : List L2.Key} (h : m[k]? = some (some (.dct ks ds))) (hk : keyOf y = some key) (hl : ks.length < 16777216) (q : pN g (m.set k (some (.dct (dPutK ks key) (dPutV ks ds key d))))) : wS (putD (.ref k) y (.d d) g m) pN pR pB pC pX := by
  have e : putD (.ref k) y (.d d) g m = .nx g (m.set k (some (.dct (dPutK ks key) (dPutV ks ds key d)))) := by
    simp only [putD, hk, h, isD, sz_le (show ks.length + 1 ≤ 16777216 by omega), if_true]
  rw [e, sN]; exact q
end
section
variable {g : Gam} {m : Cells} {E : EX} {Q : Vl → Cells → Prop} {ma : ME} {mr : MA}
/-- append -/
theorem w_app (h : wR (ma g m) (fun x m1 => ∃ k ds, x = .ref k ∧ m1[k]? = some (some (.lst ds)) ∧ wR (mr g m1) (fun ys m2 => ∃ d ds, ys = [.d d] ∧ m2[k]? = some (some (.lst ds)) ∧ ds.length < 16777216 ∧ Q (.d .non) (m2.set k (some (.lst (ds ++ [d]))))) E) E) : wR (mM fAppend ma mr g m) Q E :=
  w_m (wR_mono h fun x m1 ⟨k, ds, e1, e2, h⟩ => ⟨k, e1, ⟨ds, by rw [e2]; rfl⟩, wR_mono h fun ys m2 ⟨d, ds, e3, e4, e5, q⟩ => by
    subst e3
    exact w_Ml (p := (.d .non, ds ++ [d])) (by rw [e4]; rfl) (by simp only [fAppend, sz_le (show ds.length + 1 ≤ 16777216 by omega), if_true]) q⟩)
theorem w_frzL (h : wR (ma g m) (fun x m1 => ∃ k ds, x = .ref k ∧ m1[k]? = some (some (.lst ds)) ∧ Q (.d (.lst ds)) (m1.set k none)) E) : wR (mFrz ma g m) Q E :=
  w_frz (wR_mono h fun x m1 ⟨k, ds, e1, e2, q⟩ => .inl ⟨k, ds, e1, by rw [e2]; rfl, q⟩)
theorem w_rl {j : Nat} {ds : List Dt} {p : Nat → List Dt → Prop} (h : m[j]? = some (some (.lst ds))) (q : p j ds) : ∃ k ds, Vl.ref j = .ref k ∧ m[k]? = some (some (.lst ds)) ∧ p k ds := ⟨j, ds, rfl, h, q⟩
theorem w_ad {k : Nat} {d : Dt} {ds : List Dt} {p : Dt → List Dt → Prop} (h : m[k]? = some (some (.lst ds))) (hl : ds.length < 16777216) (q : p d ds) : ∃ d' ds, [Vl.d d] = [.d d'] ∧ m[k]? = some (some (.lst ds)) ∧ ds.length < 16777216 ∧ p d' ds := ⟨d, ds, rfl, h, hl, q⟩
theorem w_i1 {i : Int} {p : Int → Prop} (q : p i) : ∃ j, Vl.d (.int i) = .d (.int j) ∧ p j := ⟨i, rfl, q⟩
theorem w_yes {Q : Bool → Cells → Prop} (q : Q true m) : wR (mYes g m) Q E := wR_eq rfl q
theorem w_t1 {p : Prop} (q : p) : true = true ∧ p := ⟨rfl, q⟩
theorem w_sz {n : Nat} {p : Prop} (h : n ≤ 16777216) (q : p) : szOk n = true ∧ p := ⟨sz_le h, q⟩
theorem w_tt {A B : Prop} (a : A) : (true = true → A) ∧ (true = false → B) := ⟨fun _ => a, (fun h => nomatch h)⟩
theorem w_ff {A B : Prop} (b : B) : (false = true → A) ∧ (false = false → B) := ⟨(fun h => nomatch h), fun _ => b⟩
theorem rng_len {lo : Int} {n : Nat} : (rangeD lo n).length = n := rangeD_len lo n
end
end FM
namespace FS
open PySem PySem.Spec PyProof.Rows L2 PySem.Froz
/-! ### sets of texts: which ones, each once -/
def addL (L : List Str) (k : Str) : List Str := if k ∈ L then L else k :: L
theorem addL_mem {L : List Str} {k j : Str} : j ∈ addL L k ↔ j ∈ L ∨ j = k := by
  unfold addL
  split
  · rename_i n
    exact ⟨.inl, fun q => q.elim id fun e => e ▸ n⟩
  · rw [List.mem_cons]; exact Or.comm
theorem addL_len {L : List Str} {k : Str} : (addL L k).length ≤ L.length + 1 := by
  unfold addL
  split
  · omega
  · exact Nat.le_refl _
theorem tail_tab {ep : Nat} {es : Array (Int × Value)} {t : SetTable} {b : Bool} (r : Ris t.place.toList) : Ris (tailTx ep es t b).2.2.place.toList ∧ (tailTx ep es t b).2.2.led = t.led := by
  unfold tailTx
  split
  · exact ⟨relayAll_ris t es _, relayAll_led t es _⟩
  · exact ⟨r, rfl⟩
theorem add_tab {h : Int} {v : Value} {D : SD} (r : Ris D.2.2.place.toList) : Ris (addTx h v D).2.2.place.toList ∧ (addTx h v D).2.2.led = D.2.2.led := by
  have r1 := layNew_ris D.2.2 D.1 h v r
  have l1 := layNew_led D.2.2 D.1 h v
  unfold addTx
  by_cases c : (layNew D.2.2 D.1 h v).2.1.plain = true
  · rw [if_pos c]
    have := tail_tab (ep := D.2.1) (es := (layNew D.2.2 D.1 h v).1) (t := { (layNew D.2.2 D.1 h v).2.1 with plain := false }) (b := (layNew D.2.2 D.1 h v).2.2.1) r1
    exact ⟨this.1, this.2.trans l1⟩
  · rw [if_neg c]
    have := tail_tab (ep := D.2.1) (es := (layNew D.2.2 D.1 h v).1) (t := (layNew D.2.2 D.1 h v).2.1) (b := (layNew D.2.2 D.1 h v).2.2.1) r1
    exact ⟨this.1, this.2.trans l1⟩
section
variable {P : Program} {w : World} {A : Around} {E : Value → Shared → Prop} {s : Shared} {h h' : Heap} {a : Addr} {L : List Str}
theorem TxS.fresh : TxS P w (h.push { cls := .type "set", dict := none, data := .set #[] 0 (.fresh 0 0 (!w.params.followText "set-order")) }) h.objs.size [] :=
  ⟨(#[], 0, .fresh 0 0 (!w.params.followText "set-order")), Heap.get?_push_size _ rfl, TxOk.nil (by rfl), List.Pairwise.nil, by
    show _ ∨ (!w.params.followText "set-order") = true
    cases w.params.followText "set-order" with
    | false => exact .inr rfl
    | true => exact .inl rfl, List.nodup_nil⟩
/-- it is there already -/
theorem has_add {D : SD} {k : Str} {u : Tok} {Q : Bool → Shared → Prop} (ho : s.heap.get? a = some (sObj "set" D)) (F : TxOk P w D L) (hk : k ∈ L) (hb : L.length < scanBound) (q : Q false s) :
    wpAny (model P w) A (setAddHashed a (.str k u) (hashStr w k)) Q E s := by
  obtain ⟨es, ep, t⟩ := D
  have hsz : es.size = L.length := F.sz
  unfold setAddHashed setAddHashedIn
  refine wpAny_holding (wpAny_bind (wpAny_setState_of (es := es) (ep := ep) (t := t) ho rfl F.fit ?_))
  dsimp only
  have hel : ElemsOf (strKind P w) es.toList := F.el
  have hb0 : es.size < scanBound := by omega
  rw [byScan_of (x := .str k u) rfl hb0 hel]
  simp only [↓reduceIte]
  unfold setAddByScan
  refine wpAny_bind (wpAny_bind (wpAny_rule (wpAny_bind (wpAny_setScan_of (knd := strKind P w) (k := k) (is_str k u) ho rfl F.fit F.el ?_))))
  cases e : List.findIdx? (fun e => (strKind P w).is k e.2) es.toList with
  | none =>
    obtain ⟨x, hx, qx⟩ := (F.mem k).mp hk
    have c := List.findIdx?_eq_none_iff.mp e x hx
    rw [qx] at c
    cases c
  | some j =>
    dsimp only
    exact wpAny_pure (wpAny_pure q)
theorem TxS.add {k : Str} {u : Tok} {Q : Bool → Shared → Prop} (R : TxS P w s.heap a L) (room : L.length + 1 < scanBound)
    (q : ∀ h' b, Heap.SameBut a s.heap h' → TxS P w h' a (addL L k) → Q b { s with heap := h' }) : wpAny (model P w) A (setAddHashed a (.str k u) (hashStr w k)) Q E s := by
  obtain ⟨D, ho, F, r, l, nd⟩ := R
  by_cases hk : k ∈ L
  · have e : addL L k = L := if_pos hk
    rw [e] at q
    exact has_add ho F hk (by omega) (q s.heap false (Heap.SameBut.refl a s.heap) ⟨D, ho, F, r, l, nd⟩)
  · have e : addL L k = k :: L := if_neg hk
    rw [e] at q
    refine add_x ho F hk room (q _ true (Heap.SameBut.update s.heap a _) ⟨_, get_upd _ ho rfl, add_ok u F, (add_tab r).1, l.imp id fun z => (by rw [(add_tab r).2]; exact z), List.nodup_cons.mpr ⟨hk, nd⟩⟩)
theorem TxS.typeIs (R : TxS P w s.heap a L) : s.TypeIs (.ref a) "set" := let ⟨D, ho, _⟩ := R; ⟨_, ho, rfl⟩
theorem TxS.call {k : Str} {u : Tok} {Q : Value → Shared → Prop} (R : TxS P w s.heap a L) (room : L.length + 1 < scanBound)
    (q : ∀ h', Heap.SameBut a s.heap h' → TxS P w h' a (addL L k) → Q .none { s with heap := h', toks := s.toks + 1 }) : wpAny (model P w) A (call (.builtin "set.add") [.ref a, .str k u]) Q E s := by
  refine wpAny_call_entry F.slot_set_add R.typeIs F.entry_set_add ?_ (F.args_set_add_2 _ _)
  unfold Builtin.«set.add» Builtin.Frozenset.oneOther
  simp only [List.isEmpty_nil, bind_assoc]
  unfold Builtin.Frozenset.addrOf setAdd
  refine wpAny_bind (wpAny_pure ?_)
  try dsimp only
  refine wpAny_bind (wpAny_pure ?_)
  try dsimp only
  refine wpAny_bind (wpAny_holding (wpAny_bind ((strKind P w).pyHash (is_str k u) ?_)))
  refine TxS.add (s := { s with toks := s.toks + 1 }) R room fun h' b sb r => ?_
  show wpAny _ _ (ret Value.none) _ _ _
  exact wpAny_pure ⟨_, rfl, q h' sb r⟩
/-! sorted(the set) -/
def txt : Value → Str
  | .str k _ => k
  | _ => Str.empty
theorem is_txt {k : Str} {v : Value} (h : (PySem.strKind P w).is k v = true) : ∃ t, v = .str k t := Value.isStrOf_shape h
theorem perm_of {α : Type} [DecidableEq α] : ∀ {l r : List α}, l.Nodup → (∀ x ∈ l, x ∈ r) → r.length = l.length → r.Perm l
  | [], r, _, _, h => by
    have : r = [] := List.length_eq_zero_iff.mp (by simpa using h)
    rw [this]
  | x :: l, r, nd, hs, h => by
    have nd' := List.nodup_cons.mp nd
    have hx := hs x (by simp)
    have p := List.perm_cons_erase hx
    refine p.trans (List.Perm.cons x (perm_of nd'.2 (fun y hy => ?_) ?_))
    · have : y ≠ x := fun e => nd'.1 (e ▸ hy)
      exact (List.mem_erase_of_ne this).mpr (hs y (by simp [hy]))
    · have := p.length_eq
      simp only [List.length_cons] at this h
      omega
theorem strs_are : ∀ {l : List Value}, (∀ v ∈ l, ∃ k t, v = Value.str k t) → StrsAre l (l.map txt)
  | [], _ => .nil
  | v :: l, h => by
    obtain ⟨k, t, rfl⟩ := h v (by simp)
    exact .cons k t (strs_are fun x hx => h x (List.mem_cons_of_mem _ hx))
theorem sorted_tx {Q : Value → Shared → Prop} (R : TxS P w s.heap a L) (hh : A.handled = none) (h64 : L.length < 64)
    (q : ∀ s' p (out : Array Value) (c : Nat) (ys : List Str), (∀ b o, s.heap.get? b = some o → s'.heap.get? b = some o) → s'.gens = s.gens → s'.os = s.os → s.heap.objs.size ≤ p →
      s'.heap.get? p = some (seqObj "list" out c) → StrsAre out.toList ys → ys.Perm L → sortedS ys = true → Q (.ref p) s') :
    wpAny (model P w) A (PySem.call (.builtin "sorted") [.ref a]) Q E s := by
  obtain ⟨D, ho, F, hr, hl, nd⟩ := R
  obtain ⟨es, ep, t⟩ := D
  have hsz : es.size = L.length := F.sz
  have hb : es.size < scanBound := Nat.lt_of_lt_of_le (by omega : es.size < 64) (by decide +kernel)
  refine Calls.call_function_entry kind_sorted plain_sorted entry_sorted (args_sorted1 _) ?_
  unfold Builtin.«sorted»
  refine wpAny_bind (m := checkCount "sorted" 1 1 _) (wpAny_pure ?_)
  refine wpAny_bind (collect_set (A := A.in1) hh (es := es) (ep := ep) (t := t) ⟨_, ho, rfl, rfl⟩ F.fit hb hr hl fun s1 vs k1 hz g1 o1 pm => ?_)
  have hvl : vs.length = L.length := by rw [pm.length_eq, List.length_map, Array.length_toList]; exact hsz
  have hv : ∀ v ∈ vs, ∃ k t, v = Value.str k t := fun v hv => by
    obtain ⟨e, he, rfl⟩ := List.mem_map.mp (pm.mem_iff.mp hv)
    obtain ⟨⟨k, hk, _⟩, _⟩ := F.el e he
    obtain ⟨t, ht⟩ := is_txt hk
    exact ⟨k, t, ht⟩
  have hS := strs_are hv
  have pk : (vs.map txt).Perm L := perm_of nd (fun k hk => by
    obtain ⟨e, he, ek⟩ := (F.mem k).mp hk
    obtain ⟨t, ht⟩ := is_txt ek
    exact List.mem_map.mpr ⟨e.2, pm.mem_iff.mpr (List.mem_map.mpr ⟨e, he, rfl⟩), by rw [ht]; rfl⟩) (by rw [List.length_map]; exact hvl)
  refine wpAny_bind (wpAny_newList ?_ (by rw [hvl, sizeLine_eq]; omega))
  have hoL : (s1.heap.push (seqObj "list" vs.toArray 0)).get? s1.heap.objs.size = some (seqObj "list" vs.toArray 0) := Heap.get?_push_size _ rfl
  refine wpAny_bind (wpAny_holding (wpAny_call_entry slot_list_sort ⟨_, hoL, rfl⟩ entry_list_sort (list_sort_treeK strKind_oneLt hoL hS.keysOf (fun v₁ v₂ rest e => keyKind_strs (by rw [← e]; exact hS)) (by rw [hvl]; exact h64) fun st' hp hs => ?_) (args_list_sort _)))
  obtain ⟨ys, a1, a2, a3⟩ := sorted_out_str hS hp hs
  obtain ⟨c, hc⟩ := sortedHeap_at (vs := vs) (out := (arrOf st').map (·.2)) hoL
  refine ⟨_, rfl, wpAny_pure ⟨_, rfl, q _ s1.heap.objs.size _ c ys (fun b u e => ?_) g1 o1 hz hc a1 (a2.trans pk) a3⟩⟩
  have e1 := k1 b u e
  have hlt := Heap.lt_size e1
  rw [sortedHeap_old (Nat.ne_of_lt hlt) (by rw [size_push']; exact Nat.lt_succ_of_lt hlt)]
  exact Heap.get?_push_of_some _ e1
end
/-- the set of texts at a -/
def SetTx (P : Program) (w : World) (a : Addr) (L : List Str) : HO := .ext fun h => TxS P w h a L
section
variable {X : Cx} {pins : List (Addr × Obj)} {σ : L2.St} {H : Hp} {s : Shared} {E : Value → Shared → Prop}
theorem setTx_new {w : World} {P : Program} {H : Hp} {h : Heap} {a : Addr} {L : List Str} (R : TxS P w h a L) : ObjOk P w H h a (SetTx P w a L) := by
  have ⟨D, ho, _⟩ := R
  exact ⟨R, ⟨_, ho⟩, fun h1 h2 p k => TxS.at p k⟩
theorem setTx_get {a : Addr} {L : List Str} (I : Inv X pins σ H s) (ha : H a = some (SetTx X.prog X.w a L)) : TxS X.prog X.w s.heap a L := (I.hok a _ ha).1
def rSortTx (P : Program) (w : World) : List V → Hp → VK → Prop := fun vs H Q => ∃ (a : Addr) (L : List Str), vs = [V.ref a] ∧ H a = some (SetTx P w a L) ∧ L.length < 64 ∧ ∀ (ys : List Str) (p : Addr), ys.Perm L → sortedS ys = true → L.Nodup → H p = none → Q (.ref p) (upd H p (.lst (ys.map V.str)))
theorem cr_sortTx (hc : X.calm = true) : CallR X (.builtin "sorted") (rSortTx X.prog X.w) := by
  intro pins s σ H vs us Q I r h
  obtain ⟨a, L, rfl, ha, h64, q⟩ := h
  have R := setTx_get I ha
  have nd : L.Nodup := by obtain ⟨D, _, _, _, _, nd⟩ := R; exact nd
  rw [Vals.ref1 r]
  refine sorted_tx R (I.ok.hd hc) h64 fun s' p out c ys k g o hp hg hi pm hs => ?_
  have hlen : (ys.map V.str).length ≤ sizeLine := by rw [List.length_map, pm.length_eq, sizeLine_eq]; omega
  have hn : H p = none := I.hok.fresh hp
  have J : Inv X pins σ (upd H p (.lst (ys.map V.str))) { s with heap := s'.heap, gens := s'.gens, drawn := s'.drawn, toks := s'.toks } :=
    I.call (ch := []) (Un.laid k hp hn) (I.hok.laid k hp ⟨hlen, out.toList, c, vals_of_strs hi, hg⟩) (by rw [g]; exact I.bare) (fun _ z => nomatch z)
  have e : s' = { s with heap := s'.heap, gens := s'.gens, drawn := s'.drawn, toks := s'.toks } := by
    obtain ⟨a1, a2, a3, a4, a5⟩ := s'
    obtain ⟨b1, b2, b3, b4, b5⟩ := s
    cases o
    rfl
  rw [e]
  exact ⟨.ref p, _, J, rfl, q ys p pm hs nd hn⟩
theorem addTx_ok {D : Addr} {L : List Str} {k : Str} {u : Tok} {Q : Value → Shared → Prop} (I : Inv X pins σ H s) (hD : H D = some (SetTx X.prog X.w D L)) (room : L.length + 1 < scanBound)
    (q : ∀ s', Inv X pins σ (upd H D (SetTx X.prog X.w D (addL L k))) s' → Q .none s') : wpAny (model X.prog X.w) X.A (call (.builtin "set.add") [.ref D, .str k u]) Q E s := by
  refine (setTx_get I hD).call room fun h' sb r => ?_
  have he : ∃ o, h'.get? D = some o := by have ⟨_, ho, _⟩ := r; exact ⟨_, ho⟩
  exact q _ (I.write (e := D) (t' := s.toks + 1) (by rw [hD]; trivial) (.inl rfl) (fun b o hb ho => (sb.2 b hb).trans ho) he (setTx_new r))
end
end FS
namespace FS
open PySem PySem.Spec PyProof.Rows L2 PySem.Froz PpSet
/-! ### {text for .. in .. for .. in ..}: the machine's turns -/
/-- all tests of a clause, one after the other -/
abbrev tests (cs : List Expr) (env : Env) : Sem Bool := forIn cs true fun c r => if r = true then do let ok ← isTrue c env (eval c env); pure (ForInStep.yield ok) else pure (ForInStep.yield r)
section
variable {P : Program} {w : World} {A : Around} {R : Result → Shared → Prop} {s : Shared} {elt t0 i0 t1 i1 : Expr} {c0 c1 : List Expr} {scope : Scope} {pos : Pos} {it acc : Value} {env : Env}
end
/-! ### the block -/
abbrev ceOf (scope : Scope) (s : Shared) (env : Env) : Env := compEnvC scope (cellsFrom (s.heap.objs.size + 1) scope.names (cloFrom env.cells scope.names [])) s.heap.objs.size env
section
variable {X : Cx} {pins : List (Addr × Obj)} {s : Shared} {σ : L2.St} {H : Hp} {elt tg iter : Expr} {ifs : List Expr} {rest : List Comprehension} {scope : Scope} {own : List (Str × Nat)} {pos pos' : Pos} {wi : TI} {use : Option (Value → Sem Unit)} {Qf : Value → Shared → Prop} {R : It → Hp → Prop}
theorem blk_stat {fp : List Addr} {s3 : Shared} {H3 : Hp} {ce : Env} {σ' : L2.St} {H' : Hp} {z : Shared} (j : Inv (X.blk s3 H3 scope ce fp) [] σ' H' z) (n : ∀ b ∈ fp, H' b = none) : ∀ b ∈ fp, FpOk (X.blk s3 H3 scope ce fp) [] H' b := fun b hb =>
  ⟨n b hb, (j.ok.exf b hb).1, j.ok.exfs b hb, .inl hb, fun x c e => (j.ok.exf b hb).2 x c e, fun p hp => absurd (show p ∈ ([] : List (Addr × Obj)) ++ [] from hp) (by simp)⟩
/-- out of the block -/
theorem sc_close {fp : List Addr} {s3 z : Shared} {H3 H5 : Hp} {D : Addr} {σ' : L2.St} (I3 : Inv X pins σ H3 s3) (f3 : ∀ b ∈ fp, FpOk X pins H3 b) (j : Inv (X.blk s3 H3 scope (ceOf scope s3 X.env) fp) [] σ' H5 z)
    (fin : ∀ m, Inv X pins σ H5 z → z.heap.Ns s3.heap.objs.size m → FpOk X pins H5 s3.heap.objs.size → compPost (model X.prog X.w) X.A X.xe use Qf (.ref D) s3.heap.objs.size (.ok .next) z) :
    compPost (model X.prog X.w) X.A X.xe use Qf (.ref D) s3.heap.objs.size (.ok .next) z := by
  have back : Inv X pins σ H5 z := I3.call' (ch := fp) j.os j.base j.hok j.bare fun b hb => ⟨(f3 b hb).2.2.2.1, (f3 b hb).2.1, (f3 b hb).2.2.2.2.1, (f3 b hb).2.2.2.2.2⟩
  have nC : H5 s3.heap.objs.size = none := j.free
  obtain ⟨m, hn, _⟩ := j.loc
  exact fin m back hn (I3.fpOk (Nat.le_refl _) nC)
end
end FS
namespace FS
open PySem PySem.Spec PyProof.Rows L2 PySem.Froz PpSet
/-- a turn is done: the walk stands one further -/
theorem turn_end {Y : Cx} {P : Program} {w : World} {K : PySem.W.Frag} {tg : Expr} {J : It} {it : Addr} {p0 : List (Addr × Obj)} {fp : List Addr} {tn : Nat → Heap → Prop} {i n : Nat} {W : Nat → Nat → Hp → Prop} {Nx : Hp → Prop} {σ0 σ9 : L2.St} {z7 z : Shared} {H' : Hp}
    (T : Turn P w K tg J fp it tn) (hNx : ∀ H', Nx H' → ∃ m', m' < n ∧ W (i + 1) m' H') (st : tn (i + 1) z7.heap) (j : Inv Y (p0 ++ pinsAt fp z7.heap) σ9 H' z)
    (hl : σ0.length = σ9.length) (hk : ∀ (l : Nat) v, σ0[l]? = some (some v) → σ9[l]? = some (some v)) (nx : Nx H') : ∃ m, m < n ∧ ∃ i H', Inv Y p0 σ0 H' z ∧ tn i z.heap ∧ (∀ b ∈ fp, H' b = none) ∧ W i m H' := by
  obtain ⟨m, hm, wm⟩ := hNx H' nx
  have held : ∀ b ∈ fp, ∀ o, z7.heap.get? b = some o → z.heap.get? b = some o ∧ H' b = none := fun b hb o e =>
    have q := j.pin (b, o) (List.mem_append_right _ (List.mem_append_right _ (mem_pinsAt hb e)))
    ⟨q.1, q.2.1⟩
  refine ⟨m, hm, i + 1, H', (j.unpinned (pins := p0)).weak hl hk, T.keep _ _ _ st fun b hb o e => (held b hb o e).1, fun b hb => ?_, wm⟩
  obtain ⟨o, e, _⟩ := T.obj _ _ st b hb
  exact (held b hb o e).2
theorem wiped {σ σ8 : L2.St} {vs : List Nat} (h : wipe σ8 vs = wipe σ vs) : (wipe σ vs).length = σ8.length ∧ ∀ (l : Nat) v, (wipe σ vs)[l]? = some (some v) → σ8[l]? = some (some v) :=
  ⟨by rw [← h, wipe_length], fun l v e => by rw [← h] at e; exact (wipe_some e).1⟩
section
variable {X : Cx} {elt tg iter : Expr} {ifs : List Expr} {scope : Scope} {own : List (Str × Nat)} {pos : Pos} {wi : TI} {g : TG} {tt : TT} {te : TE}
abbrev Blk (X : Cx) (scope : Scope) (s : Shared) (H : Hp) (C : Addr) (cl : List (Str × Addr)) (fp : List Addr) : Cx := X.blk s H scope (compEnvC scope cl C X.env) fp
end
end FS
namespace FM
open PySem PySem.Spec PyProof.Rows L2 FS
/-! ### texts in order, each once -/
abbrev ltS (a b : Str) : Bool := ltCps a.cps.toList b.cps.toList
def insU (k : Str) : List Str → List Str
  | [] => [k]
  | x :: r => if k = x then x :: r else if ltS k x then k :: x :: r else x :: insU k r
def sortU (zs : List Str) : List Str := zs.foldr insU []
theorem ltS_iff {a b : Str} : ltS a b = true ↔ a.cps.toList < b.cps.toList := by
  unfold ltS; rw [ltCps_eq]; simp
theorem ltS_irr {a : Str} : ltS a a = false := by
  cases h : ltS a a with
  | false => rfl
  | true => exact absurd (ltS_iff.mp h) (List.lt_irrefl _)
theorem ltS_tr {a b c : Str} (h : ltS a b = true) (h' : ltS b c = true) : ltS a c = true := ltS_iff.mpr (List.lt_trans (ltS_iff.mp h) (ltS_iff.mp h'))
theorem str_ext {a b : Str} (h : a.cps.toList = b.cps.toList) : a = b := by
  obtain ⟨⟨x⟩⟩ := a
  obtain ⟨⟨y⟩⟩ := b
  cases h
  rfl
theorem ltS_tot {a b : Str} (h : a ≠ b) (h' : ltS a b = false) : ltS b a = true := by
  refine ltS_iff.mpr ?_
  have n : ¬ a.cps.toList < b.cps.toList := fun z => by rw [ltS_iff.mpr z] at h'; cases h'
  have le : b.cps.toList ≤ a.cps.toList := List.not_lt.mp n
  rcases List.le_iff_lt_or_eq.mp le with z | z
  · exact z
  · exact absurd (str_ext z).symm h
/-- strictly rising -/
abbrev Rise (l : List Str) : Prop := l.Pairwise fun a b => ltS a b = true
theorem mem_insU {k j : Str} : ∀ {l : List Str}, j ∈ insU k l ↔ j = k ∨ j ∈ l
  | [] => by simp [insU]
  | x :: r => by
    unfold insU
    split
    · rename_i e; subst e; simp
    · split
      · simp
      · simp [mem_insU (l := r)]; exact ⟨fun h => h.elim (fun z => .inr (.inl z)) fun h => h.elim .inl fun z => .inr (.inr z), fun h => h.elim (fun z => .inr (.inl z)) fun h => h.elim .inl fun z => .inr (.inr z)⟩
theorem rise_insU {k : Str} : ∀ {l : List Str}, Rise l → Rise (insU k l)
  | [], _ => by simp [insU, Rise]
  | x :: r, h => by
    have h1 := List.pairwise_cons.mp h
    unfold insU
    split
    · exact h
    · rename_i ne
      split
      · rename_i lt
        refine List.pairwise_cons.mpr ⟨fun y hy => ?_, h⟩
        rcases List.mem_cons.mp hy with rfl | hy
        · exact lt
        · exact ltS_tr lt (h1.1 y hy)
      · rename_i nl
        refine List.pairwise_cons.mpr ⟨fun y hy => ?_, rise_insU h1.2⟩
        rcases mem_insU.mp hy with rfl | hy
        · exact ltS_tot ne (by simpa using nl)
        · exact h1.1 y hy
theorem mem_sortU {j : Str} : ∀ {zs : List Str}, j ∈ sortU zs ↔ j ∈ zs
  | [] => by simp [sortU]
  | z :: zs => by
    have ih := mem_sortU (j := j) (zs := zs)
    show j ∈ insU z (sortU zs) ↔ _
    rw [mem_insU, ih, List.mem_cons]
theorem rise_sortU : ∀ {zs : List Str}, Rise (sortU zs)
  | [] => List.Pairwise.nil
  | z :: zs => rise_insU (rise_sortU (zs := zs))
theorem rise_eq : ∀ {a b : List Str}, Rise a → Rise b → (∀ k, k ∈ a ↔ k ∈ b) → a = b
  | [], [], _, _, _ => rfl
  | [], y :: b, _, _, h => by have := (h y).mpr (by simp); simp at this
  | x :: a, [], _, _, h => by have := (h x).mp (by simp); simp at this
  | x :: a, y :: b, ha, hb, h => by
    have a1 := List.pairwise_cons.mp ha
    have b1 := List.pairwise_cons.mp hb
    have e : x = y := by
      rcases List.mem_cons.mp ((h x).mp (by simp)) with e | hx
      · exact e
      · rcases List.mem_cons.mp ((h y).mpr (by simp)) with e | hy
        · exact e.symm
        · have := ltS_tr (a1.1 y hy) (b1.1 x hx)
          rw [ltS_irr] at this; cases this
    subst e
    have ni : ∀ {l : List Str}, (∀ z ∈ l, ltS x z = true) → x ∉ l := fun hl hx => by have := hl x hx; rw [ltS_irr] at this; cases this
    rw [rise_eq a1.2 b1.2 fun k => ?_]
    have hk := h k
    rw [List.mem_cons, List.mem_cons] at hk
    constructor
    · intro hm
      rcases hk.mp (.inr hm) with e | z
      · subst e; exact absurd hm (ni a1.1)
      · exact z
    · intro hm
      rcases hk.mpr (.inr hm) with e | z
      · subst e; exact absurd hm (ni b1.1)
      · exact z
theorem rising_pw : ∀ {p : Str} {l : List Str}, risingS p l = true → (p :: l).Nodup → Rise (p :: l)
  | p, [], _, _ => by simp [Rise]
  | p, x :: r, h, nd => by
    have h2 : (!ltCps x.cps.toList p.cps.toList) = true ∧ risingS x r = true := Bool.and_eq_true_iff.mp h
    have nd1 := List.nodup_cons.mp nd
    have ih := rising_pw h2.2 nd1.2
    have i1 := List.pairwise_cons.mp ih
    have lt : ltS p x = true := ltS_tot (fun e => nd1.1 (by rw [← e]; simp)) (by simpa using h2.1)
    refine List.pairwise_cons.mpr ⟨fun y hy => ?_, ih⟩
    rcases List.mem_cons.mp hy with rfl | hy
    · exact lt
    · exact ltS_tr lt (i1.1 y hy)
theorem sorted_rise {l : List Str} (h : sortedS l = true) (nd : l.Nodup) : Rise l := by
  cases l with
  | nil => exact List.Pairwise.nil
  | cons x r => exact rising_pw h nd
/-- the set of some texts -/
def setOf (zs : List Str) : List Str := zs.foldl addL []
theorem mem_foldl {k : Str} : ∀ {zs acc : List Str}, k ∈ zs.foldl addL acc ↔ k ∈ acc ∨ k ∈ zs
  | [], acc => by simp
  | z :: zs, acc => by
    rw [List.foldl_cons, mem_foldl, addL_mem, List.mem_cons]
    exact ⟨fun h => h.elim (fun h => h.elim .inl fun e => .inr (.inl e)) fun h => .inr (.inr h), fun h => h.elim (fun h => .inl (.inl h)) fun h => h.elim (fun e => .inl (.inr e)) .inr⟩
theorem mem_setOf {zs : List Str} {k : Str} : k ∈ setOf zs ↔ k ∈ zs := by unfold setOf; rw [mem_foldl]; simp
theorem len_foldl : ∀ {zs acc : List Str}, (zs.foldl addL acc).length ≤ acc.length + zs.length
  | [], acc => by simp
  | z :: zs, acc => by
    have := len_foldl (zs := zs) (acc := addL acc z)
    have h2 := addL_len (L := acc) (k := z)
    rw [List.foldl_cons, List.length_cons]; omega
theorem len_setOf {zs : List Str} : (setOf zs).length ≤ zs.length := by have := len_foldl (zs := zs) (acc := []); simpa [setOf] using this
theorem sorted_set {zs ys : List Str} (pm : ys.Perm (setOf zs)) (hs : sortedS ys = true) (nd : (setOf zs).Nodup) : ys = sortU zs :=
  rise_eq (sorted_rise hs (pm.nodup_iff.mpr nd)) rise_sortU fun k => by rw [pm.mem_iff, mem_setOf, mem_sortU]
/-! ### sorted({.. for ..}) -/
def sorted_ (m : Cells) (zs : List Str) : Rs Vl := if zs.length < 64 then .ok (.d (.lst ((sortU zs).map .str))) m else .bad
theorem Base.dropF {T : Tab} {F : Frm} {I H : Hp} {A : List Addr} {m : Cells} {q : Addr × HO} (b : Base T (q :: F) I H A m) : Base T F I H A m :=
  ⟨b.sub, fun p hp => b.fm p (List.mem_cons_of_mem _ hp), (List.nodup_cons.mp b.fnd).2, b.len, b.nd, b.al, b.fr, b.ok, b.tbs.fm fun q hq => b.tbs.ft q (List.mem_cons_of_mem _ hq), b.obs⟩
section
variable {C : Fc} {P : Program} {wd : World} {mi : MI} {mg : MG} {mt : MT} {me : ME} {own js : List Nat} {tg : TG}
theorem drs_str {T : Tab} {I : Hp} : ∀ ys : List Str, DRs T I (ys.map V.str) (ys.map Dt.str)
  | [] => .nil
  | y :: ys => .cons (.str y) (drs_str ys)
theorem sort_end {D : Addr} {zs : List Str} {B : Bs} {g : Gam} {S : List Vl} {m2 : Cells} {σ : L2.St} {vs : List V} {H2 I2 : Hp} {A2 : List Addr} {Q : VK} (r : Rel C.T C.x ⟨(D, SetTx P wd D (setOf zs)) :: B.F, B.I, B.A⟩ g S m2 σ vs H2 I2 A2) (w : WantE C B g S σ vs Q (sorted_ m2 zs)) : rSortTx P wd [.ref D] H2 Q := by
  unfold sorted_ at w
  by_cases hz : zs.length < 64
  · rw [if_pos hz] at w
    have f1 := (r.base.fm _ List.mem_cons_self).1
    refine ⟨D, setOf zs, rfl, f1, Nat.lt_of_le_of_lt len_setOf hz, fun ys p pm hs nd hp => ?_⟩
    rw [sorted_set pm hs nd]
    obtain ⟨b, e⟩ := r.base.dropF.new (o := .lst ((sortU zs).map V.str)) hp
    exact w _ _ _ _ ((⟨b, r.up.trans e, r.ctx.mono e, r.stk.mono e, r.xc.mono e⟩ : Rel C.T C.x B g S m2 σ vs _ _ A2).push (.d (.lst upd_same (drs_str _))))
  · rw [if_neg hz] at w; exact w.elim
end
end FM
namespace FM
open PySem PySem.Spec PyProof.Rows L2 FS
/-! ### two clauses -/
theorem bind_bind {α β γ : Type} {r : Rs α} {f : α → Cells → Rs β} {k : β → Cells → Rs γ} : (r.bind f).bind k = r.bind fun a m => (f a m).bind k := by cases r <;> rfl
end FM
namespace FM
open PySem PySem.Spec PyProof.Rows L2 FS
/-! ### [.. for .. for ..] -/
section
variable {C : Fc} {mi mi1 : MI} {mg mg1 : MG} {mt mt1 : MT} {me : ME} {own own1 js js1 : List Nat} {tg tg1 : TG}
/-- the state with a list at hand that is not told yet -/
abbrev RelL (C : Fc) (x : Option Xc) (B : Bs) (D : Addr) (I1 : Hp) (A1 : List Addr) (g : Gam) (S : List Vl) (m : Cells) (σ : L2.St) (vs : List V) (H I : Hp) (A : List Addr) (us : List V) (acc : List Dt) : Prop :=
  us.length = acc.length ∧ Rel C.T x ⟨(D, .lst us) :: B.F, I1, A1⟩ g (acc.map Vl.d ++ S) m σ (us ++ vs) H I A
theorem lc_in (hg : ∀ v σ H Q, FG C.quiet mg1 v σ H Q → tg1 v σ H Q) (hf : Fills tg1 js1) (hj : ∀ j ∈ js1, j ∈ own1) {D : Addr} {B : Bs} {g : Gam} {S : List Vl} {σ : L2.St} {vs : List V} {J : It} {ys : List Dt} {I1 : Hp} {A1 : List Addr} {Z : Rs (List Dt) → Prop} {Nx : Hp → Prop}
    (it : ∀ F, ItD C.T none ⟨F, I1, A1⟩ J ys) (hz : ¬ Z .bad) (cg : Ctx C.T I1 A1 σ g)
    (fin : ∀ us acc m H' I A, RelL C none B D I1 A1 g S m σ vs H' I A us acc → Z (.ok acc m) → Nx H') {us : List V} {acc : List Dt} {m : Cells} {H I : Hp} {A : List Addr} (r : RelL C none B D I1 A1 g S m σ vs H I A us acc) (w : Z (lcLoop mg1 mt1 me (wipeG g own1) ys acc m)) :
    ∃ W1 : Nat → Nat → Hp → Prop, (∃ n, W1 0 n H) ∧ ∀ j k H, W1 j k H → (J.stop j H ∧ Nx H) ∨ (J.go j H ∧ ∃ Nx1 : Hp → Prop, (∀ H', Nx1 H' → ∃ k', k' < k ∧ W1 (j + 1) k' H') ∧ ∀ x H', J.yld j H x H' → tg1 x (L2.wipe σ own1) H' fun σ3 H5 => L2.wipe σ3 own1 = L2.wipe σ own1 ∧ FT C.quiet mt1 σ3 H5 fun b H6 =>
      if b = true then FE C.quiet me σ3 H6 fun y H7 => ∃ acc, H7 D = some (.lst acc) ∧ acc.length < sizeLine ∧ Nx1 (upd H7 D (.lst (acc ++ [y]))) else Nx1 H6) := by
  refine ⟨fun i n H' => i + n = ys.length ∧ ∃ (us : List V) (acc : List Dt) (m : Cells) (I : Hp) (A : List Addr), RelL C none B D I1 A1 g S m σ vs H' I A us acc ∧ Z (lcLoop mg1 mt1 me (wipeG g own1) (ys.drop i) acc m), ⟨ys.length, by omega, us, acc, m, I, A, r, by simpa using w⟩, ?_⟩
  rintro i n H' ⟨hn, us, acc, m, I, A, ⟨hl, r⟩, w⟩
  have itd := it ((D, .lst us) :: B.F)
  by_cases hi : i < ys.length
  · have hdr : ys.drop i = ys[i] :: ys.drop (i + 1) := List.drop_eq_getElem_cons hi
    rw [hdr] at w
    refine .inr ⟨itd.go i _ _ _ _ _ H' I A hi r, fun H2 => ∃ (us : List V) (acc : List Dt) (m : Cells) (I : Hp) (A : List Addr), RelL C none B D I1 A1 g S m σ vs H2 I A us acc ∧ Z (lcLoop mg1 mt1 me (wipeG g own1) (ys.drop (i + 1)) acc m), fun H2 q => ⟨n - 1, by omega, by omega, q⟩, fun v H2 hy => ?_⟩
    obtain ⟨I2, r2⟩ := itd.yl i _ _ _ _ _ H' I A v H2 ys[i] (List.getElem?_eq_getElem hi) r hy
    have back : ∀ {us : List V} {acc : List Dt} {g2 : Gam} {m2 : Cells} {σ2 : L2.St} {H2 I2 : Hp} {A2 : List Addr}, us.length = acc.length → Rel C.T none ⟨(D, .lst us) :: B.F, I1, A1⟩ g2 (acc.map Vl.d ++ S) m2 σ2 (us ++ vs) H2 I2 A2 → RelL C none B D I1 A1 g S m2 σ vs H2 I2 A2 us acc := fun {us acc g2 m2 σ2 H2 I2 A2} hl r => ⟨hl, r.base, r.up, cg.mono r.up, r.stk, trivial⟩
    have r3 : Rel C.T none ⟨(D, .lst us) :: B.F, I1, A1⟩ (wipeG g own1) (.d ys[i] :: (acc.map Vl.d ++ S)) m (L2.wipe σ own1) (v :: (us ++ vs)) H2 I2 A := ⟨r2.base, r2.up, r2.ctx.wipe own1, r2.stk, trivial⟩
    unfold lcLoop at w
    cases eb : mg1 (.d ys[i]) (wipeG g own1) m with
    | none => simp only [eb] at w; exact (hz w).elim
    | some p =>
      simp only [eb] at w
      refine hf _ _ _ (fun σ' Hq => Only js1 (L2.wipe σ own1) σ' → L2.wipe σ' own1 = L2.wipe σ own1 ∧ FT C.quiet mt1 σ' Hq _) _ (hg _ _ _ _ ⟨_, wipeG g own1, _, m, _, I2, A, _, r3, ?_⟩) fun σ' Hq ho hq => hq ho
      rw [eb]
      intro σ3 H3 I3 A3 r4 ho
      refine ⟨wipe_only hj ho, _, p.1, _, p.2, _, I3, A3, r4, ?_⟩
      cases ec : mt1 p.1 p.2 with
      | bad => simp only [ec] at w; exact (hz w).elim
      | ex c fs m' => simp only [ec] at w; exact (hz w).elim
      | ok b m2 =>
        simp only [ec] at w
        intro H4 I4 A4 r5
        cases b with
        | false =>
          rw [if_neg Bool.false_ne_true]
          exact ⟨us, acc, m2, I4, A4, back hl r5, w⟩
        | true =>
          rw [if_pos rfl]
          refine ⟨_, p.1, _, m2, _, I4, A4, r5, ?_⟩
          cases ed : me p.1 m2 with
          | bad => simp only [ed] at w; exact (hz w).elim
          | ex c fs m' => simp only [ed] at w; exact (hz w).elim
          | ok y m3 =>
            simp only [ed] at w
            cases y with
            | ref j => exact (hz w).elim
            | lam z => exact (hz w).elim
            | d y =>
              intro u H5 I5 A5 r6
              have w2 : Z (if szOk (acc.length + 1) then lcLoop mg1 mt1 me (wipeG g own1) (ys.drop (i + 1)) (acc ++ [y]) m3 else .bad) := w
              by_cases hq : szOk (acc.length + 1) = true
              · simp only [hq, if_true] at w2
                obtain ⟨f1, f2, f3⟩ := r6.base.fm _ List.mem_cons_self
                have hlt : us.length < sizeLine := by
                  have := szOk_line hq
                  rw [hl]; omega
                have hsp := r6.pop1.stk.split (by simpa using hl)
                have e1 : (acc ++ [y]).map Vl.d ++ S = acc.map Vl.d ++ (.d y :: S) := by simp
                have e2 : (us ++ [u]) ++ vs = us ++ (u :: vs) := by simp
                have r7 : Rel C.T none ⟨(D, .lst (us ++ [u])) :: B.F, I1, A1⟩ p.1 ((acc ++ [y]).map Vl.d ++ S) m3 σ3 ((us ++ [u]) ++ vs) (upd H5 D (.lst (us ++ [u]))) I5 A5 := by
                  rw [e1, e2]
                  exact ⟨r6.base.hput, r6.up, r6.ctx, hsp.1.app (.cons r6.top hsp.2), trivial⟩
                exact ⟨us, f1, hlt, us ++ [u], acc ++ [y], m3, I5, A5, back (by simp [hl]) r7, w2⟩
              · simp only [hq] at w2; exact (hz w2).elim
  · have hdr : ys.drop i = [] := List.drop_eq_nil_of_le (by omega)
    rw [hdr] at w
    exact .inl ⟨itd.st i _ _ _ _ _ H' I A (by omega) r, fin us acc m H' I A ⟨hl, r⟩ w⟩
end
end FM
namespace FS
open PySem PySem.Spec PyProof.Rows L2 PySem.Froz PpSet
/-! ### set(a list of texts) -/
def setFrom (zs : List Str) : List Str := zs.foldl addL []
theorem setFrom_len : ∀ {zs acc : List Str}, (zs.foldl addL acc).length ≤ acc.length + zs.length
  | [], acc => by simp
  | z :: zs, acc => by
    have a := setFrom_len (zs := zs) (acc := addL acc z)
    have b := addL_len (L := acc) (k := z)
    rw [List.foldl_cons, List.length_cons]; omega
theorem setFrom_take {zs : List Str} {i : Nat} {z : Str} (h : zs[i]? = some z) : setFrom (zs.take (i + 1)) = addL (setFrom (zs.take i)) z := by
  rw [List.take_add_one, h]
  simp [setFrom, List.foldl_append]
theorem strs_at : ∀ {vs : List Value} {zs : List Str} {i : Nat} {v : Value}, StrsAre vs zs → vs[i]? = some v → ∃ k t, zs[i]? = some k ∧ v = .str k t
  | _, _, i, v, .nil, e => by simp at e
  | _, _, 0, v, .cons y t _, e => by simp at e; subst e; exact ⟨y, t, rfl, rfl⟩
  | _, _, i + 1, v, .cons y t h, e => by
    obtain ⟨k, u, a, b⟩ := strs_at h (i := i) (by simpa using e)
    exact ⟨k, u, by simpa using a, b⟩
section
variable {P : Program} {w : World} {A : Around} {E : Value → Shared → Prop} {s : Shared}
theorem update_tx {I : Addr} {fp wr : List Addr} {G : Array GenState → Array GenState → Prop} {n : Nat} {Pv : Nat → Value → Prop} {St : Nat → Shared → Prop} {R : Result → Shared → Prop} (W : WalksS P w A.in1 I fp wr G n Pv St) (S : Addr) (hS : S ∉ fp) (zs : List Str) (hn : n = zs.length) (few : zs.length < 64)
    (val : ∀ i v, Pv i v → ∃ k t, zs[i]? = some k ∧ v = .str k t) : ∀ (k i : Nat) (s : Shared), n - i = k → i ≤ n → St i s → TxS P w s.heap S (setFrom (zs.take i)) → (∀ s', Moved (S :: wr) G s s' → TxS P w s'.heap S (setFrom zs) → R (.ok (.ret .none)) s') →
      codeAny (model P w) A (.builtin "set.update.loop" ⟨[.ref S, .ref I], []⟩) R s := by
  have nw : S ∉ wr := fun h => hS (W.sub _ h)
  have up : ∀ b ∈ wr, b ∈ S :: wr := fun b hb => List.mem_cons_of_mem _ hb
  intro k
  induction k with
  | zero =>
    intro i s ek hi st R0 fin
    have : i = n := by omega
    subst this
    refine codeAny_builtin F.entry_set_update_loop ?_
    rw [Around.under_plainId F.plain_set_update_loop _]
    show wpAny _ A.in1 (pyNext (.ref I) >>= _) _ _ s
    refine wpAny_bind (W.done s _ _ st fun s' mv => ?_)
    show wpAny _ A.in1 (ret Value.none) _ _ s'
    rw [List.take_of_length_le (show zs.length ≤ i by omega)] at R0
    exact wpAny_pure (fin s' (mv.mono up) (R0.at fun o e => mv.heap S o nw e))
  | succ k ih =>
    intro i s ek hi st R0 fin
    have lt : i < n := by omega
    refine codeAny_builtin F.entry_set_update_loop ?_
    rw [Around.under_plainId F.plain_set_update_loop _]
    show wpAny _ A.in1 (pyNext (.ref I) >>= _) _ _ s
    refine wpAny_bind (W.item i s _ _ lt st fun v s' pv st' mv => ?_)
    obtain ⟨z, t, hz, rfl⟩ := val i v pv
    have R1 : TxS P w s'.heap S (setFrom (zs.take i)) := R0.at fun o e => mv.heap S o nw e
    show wpAny _ A.in1 (holding [Value.str z t] (setAdd S (.str z t)) >>= _) _ _ s'
    refine wpAny_bind (wpAny_holding ?_)
    unfold setAdd
    refine wpAny_holding (wpAny_bind ((PySem.strKind P w).pyHash (k := z) (is_str z t) ?_))
    have len : (setFrom (zs.take i)).length + 1 < scanBound := by
      have a := setFrom_len (zs := zs.take i) (acc := [])
      have b : 128 < scanBound := by decide +kernel
      simp [setFrom] at a ⊢
      omega
    refine TxS.add (s := { s' with toks := s'.toks + 1 }) R1 len fun h' bb sb R2 => ?_
    rw [← setFrom_take hz] at R2
    refine wpAny_pure ⟨plainId_quiet F.plain_set_update_loop _, ih (i + 1) _ (by omega) lt (W.frame _ s' _ _ st' (Nat.le_succ _) fun b hb o e => ?_) R2 fun s'' mv2 R3 => ?_⟩
    · rw [sb.2 b (fun h : b = S => hS (by rw [← h]; exact hb))]; exact e
    · refine fin s'' (Moved.trans W.gtrans ((mv.mono up).then_heap (Nat.le_succ _) fun b o hb e => ?_) mv2) R3
      rw [sb.2 b (fun h : b = S => hb (by rw [h]; exact List.mem_cons_self))]; exact e
abbrev newS (w : World) : Obj := { cls := .type "set", dict := none, data := .set #[] 0 (.fresh 0 0 (!w.params.followText "set-order")) }
set_option maxRecDepth 100000 in
set_option maxHeartbeats 3200000 in
theorem call_set_tx {l : Addr} {items : Array Value} (zs : List Str) {Q : Value → Shared → Prop} (hh : A.handled = none) (hl : s.heap.IsList l items) (hit : StrsAre items.toList zs) (few : zs.length < 64)
    (q : ∀ (h' : Heap) (tk : Nat), TxS P w h' s.heap.objs.size (setFrom zs) → (∀ b o, s.heap.get? b = some o → h'.get? b = some o) → Q (.ref s.heap.objs.size) { s with heap := h', toks := tk }) : wpAny (model P w) A (call (.type "set") [.ref l]) Q E s := by
  have num : items.size = zs.length := by have := hit.length; rw [Array.length_toList] at this; exact this
  obtain ⟨c, tl, hmro⟩ := F.called_set.mro
  have hmade := F.called_set.made
  have hsub := F.called_set.sub
  refine wpAny_call (codeAny_of_tree ?_)
  show wpAny _ _ (callAny (.type "set") _) _ _ _
  refine wpAny_pure ⟨Code.quiet_builtin _ (by decide +kernel), codeAny_builtin F.entry_type_call ?_⟩
  rw [Around.under_plain (weight_type_call_type "set" [.ref l] []) rfl]
  have h1 := F.called_set.notType
  have h2 := F.called_set.canCreate
  have hct := F.typeCall_set_1 (.ref l)
  repeat (any_goals (first | assumption | wp_step))
  refine codeAny_mono (code_set_led1 (.ref l) (E := E) (Q₁ := fun obj z => obj = .ref s.heap.objs.size ∧ z = { s with heap := s.heap.push (newS w) }) ⟨rfl, rfl⟩) fun r z hr => ?_
  cases r with
  | error e => exact hr
  | ok fl =>
    cases fl with
    | ret obj =>
      obtain ⟨rfl, rfl⟩ := hr
      have hS : (s.heap.push (newS w)).get? s.heap.objs.size = some (newS w) := Heap.get?_push_size _ rfl
      have hT : Shared.TypeIs { s with heap := s.heap.push (newS w) } (.ref s.heap.objs.size) "set" := ⟨_, hS, rfl⟩
      have hli := F.called_set.init.lookup
      have hbi := F.called_set.init.bind (.ref s.heap.objs.size)
      repeat (any_goals (first | assumption | wp_step))
      refine codeAny_mono (codeAny_call_builtin (R := wants (fun r z => r = .none ∧ ∃ h' tk, z = { s with heap := h', toks := tk } ∧ TxS P w h' s.heap.objs.size (setFrom zs) ∧ (∀ b o, s.heap.get? b = some o → h'.get? b = some o)) E) F.called_set.init.plain F.entry_set_init (check_set_init_1 hT ?_)) fun r2 z2 hr2 => ?_
      · obtain ⟨ol, hol, hcl, nl, hdl⟩ := hl
        obtain ⟨ocls, odict, odata, oslots⟩ := ol
        simp only at hcl hdl
        subst hcl; subst hdl
        have hol' : (s.heap.push (newS w)).get? l = some { cls := .type "list", dict := odict, data := .seq items nl, slots := oslots } := Heap.get?_push_of_some _ hol
        have hsls := F.sub_list_set
        have hslf := F.sub_list_frozenset
        have hne : (Value.type "list" == Value.type "dict") = false := by decide
        have hl1 : (s.heap.push (newS w)).IsList l items := ⟨_, hol', rfl, nl, rfl⟩
        unfold Builtin.«set.__init__» noKeywords Builtin.Frozenset.updateFrom
        generalize hPI : pyIter = PI
        wp_walk
        subst hPI
        refine wpAny_pyIter_list hl1 (wpAny_bind (wpAny_runValue ?_))
        have lt := Heap.lt_size hol
        have hh3 : A.in1.in1.in1.handled = none := by simp [hh]
        have neI : l ≠ (s.heap.push (newS w)).objs.size := by rw [Heap.size_push]; exact Nat.ne_of_lt (Nat.lt_succ_of_lt lt)
        have nf : s.heap.objs.size ∉ [(s.heap.push (newS w)).objs.size, l] := by
          rw [Heap.size_push]
          simp only [List.mem_cons, List.mem_singleton, List.not_mem_nil, or_false, not_or]
          exact ⟨Nat.ne_of_lt (Nat.lt_succ_self _), Nat.ne_of_gt lt⟩
        have val : ∀ (i : Nat) (v : Value), items[i]? = some v → ∃ k t, zs[i]? = some k ∧ v = .str k t := fun i v hv => by
          have e : items.toList[i]? = some v := by rw [Array.getElem?_toList]; exact hv
          exact strs_at hit e
        refine update_tx ((Walks.list hh3 _ l neI items).toS) s.heap.objs.size nf zs num few val (items.size - 0) 0 _ (by omega) (Nat.zero_le _) ⟨⟨_, Heap.get?_push_size _ rfl, rfl, rfl⟩, (hl1.push _)⟩ ?_ ?_
        · exact TxS.fresh.at fun o e => Heap.get?_push_of_some _ e
        · intro s' mv R
          obtain ⟨h', g2, d', tk', os'⟩ := s'
          have eg : g2 = s.gens := mv.gens
          have ed : d' = s.drawn := mv.drawn
          have eo : os' = s.os := mv.os
          subst eg; subst ed; subst eo
          show wpAny _ _ _ _ _ _
          refine wpAny_pure ?_
          show wpAny _ _ (ret Value.none) _ _ _
          refine wpAny_pure ⟨rfl, h', tk', rfl, R, fun b o e => ?_⟩
          have lb := Heap.lt_size e
          refine mv.heap b o ?_ (Heap.get?_push_of_some _ (Heap.get?_push_of_some _ e))
          simp only [List.mem_cons, List.mem_singleton, List.not_mem_nil, or_false, not_or]
          exact ⟨Nat.ne_of_lt lb, Nat.ne_of_lt (by rw [Heap.size_push]; exact Nat.lt_succ_of_lt lb)⟩
      · cases r2 with
        | error e => exact hr2
        | ok fl2 =>
          cases fl2 with
          | ret r =>
            obtain ⟨rfl, h', tk, rfl, R, k⟩ := hr2
            repeat (any_goals (first | assumption | wp_step))
            exact q _ _ R k
          | _ => exact hr2.elim
    | _ => exact hr.elim
end
section
variable {X : Cx}
def rSetL (K : PySem.W.Frag) (P : Program) (w : World) : List V → Hp → VK → Prop := fun xs H Q => ∃ (l : Addr) (zs : List Str), xs = [V.ref l] ∧ SqL K H l (zs.map V.str) ∧ zs.length < 64 ∧ ∀ a, H a = none → Q (.ref a) (upd H a (SetTx P w a (setFrom zs)))
theorem cr_setL (hc : X.calm = true) : CallR X (.type "set") (rSetL X.K X.prog X.w) := by
  intro pins s σ H xs us Q I r h
  obtain ⟨l, zs, rfl, hl, few, q⟩ := h
  rw [Vals.ref1 r]
  obtain ⟨its, rv, pl, _⟩ := I.list hl
  have hn : H s.heap.objs.size = none := I.hok.fresh (Nat.le_refl _)
  refine call_set_tx (P := X.prog) (w := X.w) zs (I.ok.hd hc) pl.isList rv.strs few fun h' tk R k => ?_
  exact ⟨.ref s.heap.objs.size, _, I.laid (t' := tk) k (Nat.le_refl _) (setTx_new R), rfl, q _ hn⟩
end
end FS
namespace FM
open PySem PySem.Spec PyProof.Rows L2 FS
/-! ### sorted(set(xs)), sum(xs), max(xs), xs * n -/
def strsD : List Dt → Option (List Str)
  | [] => some []
  | .str z :: r => (strsD r).map (z :: ·)
  | _ :: _ => none
theorem strsD_ok {T : Tab} {I : Hp} : ∀ {ds : List Dt} {vs : List V} {zs : List Str}, strsD ds = some zs → DRs T I vs ds → vs = zs.map V.str
  | [], vs, zs, e, h => by cases h; cases e; rfl
  | d :: ds, vs, zs, e, h => by
    cases h with
    | @cons v vs _ _ h1 h2 =>
      cases d <;> first | cases e | skip
      rename_i z
      cases q : strsD ds with
      | none => simp [strsD, q] at e
      | some ys =>
        simp [strsD, q] at e
        subst e
        cases h1
        rw [strsD_ok q h2]; rfl
theorem strsD_map : ∀ {zs : List Str}, strsD (zs.map .str) = some zs
  | [] => rfl
  | z :: zs => by simp [strsD, strsD_map (zs := zs)]
def mSortL (ma : ME) : ME := fun g m => (ma g m).bind fun x m1 => match (lstOf m1 x).bind strsD with
  | some zs => sorted_ m1 zs
  | none => .bad
theorem fe_sortL {X : Cx} {C : Fc} {e : Expr} {ma : ME} (h : PE X e (tCB (rSortTx X.prog X.w) (tCons (tCB (rSetL C.T.K X.prog X.w) (tCons (FE C ma) tNil)) tNil))) : PE X e (FE C (mSortL ma)) :=
  pe_of h fun σ H Q ⟨B, g, S, m, vs, I, A, r, w⟩ => by
    show FE C ma σ H fun x H1 => rSetL C.T.K X.prog X.w [x] H1 fun y H2 => rSortTx X.prog X.w [y] H2 Q
    refine one_ok r w fun x d m1 H1 I1 A1 r1 w1 => ?_
    cases el : lstOf m1 d with
    | none => simp only [el] at w1; exact (show False from w1).elim
    | some ds =>
      cases ez : strsD ds with
      | none => simp only [el, Option.bind_some, ez] at w1; exact (show False from w1).elim
      | some zs =>
        simp only [el, Option.bind_some, ez] at w1
        obtain ⟨a, us, e1, e2, e3⟩ := lstOf_ok r1.base r1.top el
        have eu := strsD_ok ez e3
        subst eu
        have hz : zs.length < 64 := by
          unfold sorted_ at w1
          by_cases hz : zs.length < 64
          · exact hz
          · rw [if_neg hz] at w1; exact w1.elim
        refine ⟨a, zs, by rw [e1], e2, hz, fun D hD => ?_⟩
        have r2 := r1.pop1
        exact sort_end (zs := zs) ⟨r2.base.hide hD, r2.up, r2.ctx, r2.stk, r2.xc⟩ w1
/-! ### a dict that is done changing; dict(d) -/
def mFrzD (me : ME) : ME := fun g m => (me g m).bind fun x m1 => match x with
  | .ref k => match isD m1[k]? with
    | some p => .ok (.d (.dct p.1 p.2)) (m1.set k none)
    | none => .bad
  | .d d => .ok (.d d) m1
  | .lam z => .ok (.lam z) m1
theorem fe_frzD {X : Cx} {C : Fc} {e : Expr} {me : ME} (h : PE X e (FE C me)) : PE X e (FE C (mFrzD me)) := pe_of h fun σ H Q ⟨B, g, S, m, vs, I, A, rl, w⟩ => one_ok rl w fun x d m1 H1 I1 A1 r1 w1 => by
  cases d with
  | d d => exact w1 x H1 I1 A1 r1
  | lam z => exact w1 x H1 I1 A1 r1
  | ref k =>
    obtain ⟨a, rfl, ha⟩ := r1.top.cel
    cases el : isD m1[k]? with
    | none => simp only [el] at w1; exact (show False from w1).elim
    | some p =>
      simp only [el] at w1
      obtain ⟨us, hu, hl, hd⟩ := r1.base.ok _ _ a (isD_ok (ks := p.1) (ds := p.2) el) ha
      obtain ⟨b, e⟩ := r1.base.frz (isD_ok (ks := p.1) (ds := p.2) el) ha hu
      exact w1 _ _ _ _ ((r1.pop1.step b e).push (.d (.dct upd_same hl (hd.mono e.i))))
end FM
namespace FM
open PySem PySem.Spec PyProof.Rows L2 FS
/-! ### a comprehension over a list that may change, and does not here -/
open Classical in
noncomputable def lcLoopV (k : Nat) (ds : List Dt) (mg : MG) (mt : MT) (me : ME) (g0 : Gam) : List Dt → List Dt → Cells → Rs (List Dt)
  | [], acc, m => if isL m[k]? = some ds then .ok acc m else .bad
  | x :: r, acc, m => if isL m[k]? = some ds then (match mg (.d x) g0 m with
    | none => .bad
    | some p => match mt p.1 p.2 with
      | .ok true m2 => (match me p.1 m2 with
        | .ok (.d d) m3 => if szOk (acc.length + 1) then lcLoopV k ds mg mt me g0 r (acc ++ [d]) m3 else .bad
        | _ => .bad)
      | .ok false m2 => lcLoopV k ds mg mt me g0 r acc m2
      | _ => .bad) else .bad
noncomputable def mLcV (m0 : ME) (mg : MG) (mt : MT) (me : ME) (own : List Nat) : ME := fun g m => (m0 g m).bind fun x m1 => match x with
  | .ref k => (match isL m1[k]? with
    | some ds => (lcLoopV k ds mg mt me (wipeG g own) ds [] m1).bind fun acc m2 => .ok (.d (.lst acc)) m2
    | none => .bad)
  | .d d => (match isLst (.d d) with
    | some xs => (lcLoop mg mt me (wipeG g own) xs [] m1).bind fun acc m2 => .ok (.d (.lst acc)) m2
    | none => .bad)
  | .lam _ => .bad
section
variable {C : Fc} {m0 : ME} {mg : MG} {mt : MT} {me : ME} {own js : List Nat} {tg : TG}
theorem cell_at {T : Tab} {F : Frm} {I H : Hp} {A : List Addr} {m : Cells} {k : Nat} {a : Addr} {ds : List Dt} (b : Base T F I H A m) (ha : A[k]? = some a) (h : isL m[k]? = some ds) : ∃ vs, H a = some (.lst vs) ∧ DRs T I vs ds := b.ok k _ a (isL_ok h) ha
theorem lc_inV (hg : ∀ v σ H Q, FG C.quiet mg v σ H Q → tg v σ H Q) (hf : Fills tg js) (hj : ∀ j ∈ js, j ∈ own) {D : Addr} {B : Bs} {g : Gam} {S : List Vl} {σ : L2.St} {vs : List V} {k0 : Nat} {a0 : Addr} {ys : List Dt} {I1 : Hp} {A1 : List Addr} {Z : Rs (List Dt) → Prop} {Nx : Hp → Prop}
    (ha0 : A1[k0]? = some a0) (hz : ¬ Z .bad) (cg : Ctx C.T I1 A1 σ g)
    (fin : ∀ us acc m H' I A, RelL C none B D I1 A1 g S m σ vs H' I A us acc → Z (.ok acc m) → Nx H') {us : List V} {acc : List Dt} {m : Cells} {H I : Hp} {A : List Addr} (r : RelL C none B D I1 A1 g S m σ vs H I A us acc) (w : Z (lcLoopV k0 ys mg mt me (wipeG g own) ys acc m)) :
    ∃ W1 : Nat → Nat → Hp → Prop, (∃ n, W1 0 n H) ∧ ∀ j k H, W1 j k H → ((Itl C.T.K a0).stop j H ∧ Nx H) ∨ ((Itl C.T.K a0).go j H ∧ ∃ Nx1 : Hp → Prop, (∀ H', Nx1 H' → ∃ k', k' < k ∧ W1 (j + 1) k' H') ∧ ∀ x H', (Itl C.T.K a0).yld j H x H' → tg x (L2.wipe σ own) H' fun σ3 H5 => L2.wipe σ3 own = L2.wipe σ own ∧ FT C.quiet mt σ3 H5 fun b H6 =>
      if b = true then FE C.quiet me σ3 H6 fun y H7 => ∃ acc, H7 D = some (.lst acc) ∧ acc.length < sizeLine ∧ Nx1 (upd H7 D (.lst (acc ++ [y]))) else Nx1 H6) := by
  refine ⟨fun i n H' => i + n = ys.length ∧ ∃ (us : List V) (acc : List Dt) (m : Cells) (I : Hp) (A : List Addr), RelL C none B D I1 A1 g S m σ vs H' I A us acc ∧ Z (lcLoopV k0 ys mg mt me (wipeG g own) (ys.drop i) acc m), ⟨ys.length, by omega, us, acc, m, I, A, r, by simpa using w⟩, ?_⟩
  rintro i n H' ⟨hn, us, acc, m, I, A, ⟨hl, r⟩, w⟩
  by_cases hi : i < ys.length
  · have hdr : ys.drop i = ys[i] :: ys.drop (i + 1) := List.drop_eq_getElem_cons hi
    rw [hdr] at w
    unfold lcLoopV at w
    have hck : isL m[k0]? = some ys := Classical.byContradiction fun hn => by rw [if_neg hn] at w; exact hz w
    rw [if_pos hck] at w
    obtain ⟨ws, hws, hds⟩ := cell_at r.base (pre_get r.up.a ha0) hck
    have hiw : i < ws.length := by rw [hds.len]; exact hi
    refine .inr ⟨⟨ws, ws[i], .inl (.inl hws), List.getElem?_eq_getElem hiw⟩, fun H2 => ∃ (us : List V) (acc : List Dt) (m : Cells) (I : Hp) (A : List Addr), RelL C none B D I1 A1 g S m σ vs H2 I A us acc ∧ Z (lcLoopV k0 ys mg mt me (wipeG g own) (ys.drop (i + 1)) acc m), fun H2 q => ⟨n - 1, by omega, by omega, q⟩, fun v H2 hy => ?_⟩
    obtain ⟨hH2, hy⟩ := hy
    subst hH2
    obtain ⟨v', hv', hr'⟩ := hds.get (List.getElem?_eq_getElem hi)
    have ev : v = v' := (Option.some.inj (hv'.symm.trans (hy ws (.inl (.inl hws))))).symm
    subst ev
    have r2 := r.push (.d hr')
    let I2 := I
    have back : ∀ {us : List V} {acc : List Dt} {g2 : Gam} {m2 : Cells} {σ2 : L2.St} {H2 I2 : Hp} {A2 : List Addr}, us.length = acc.length → Rel C.T none ⟨(D, .lst us) :: B.F, I1, A1⟩ g2 (acc.map Vl.d ++ S) m2 σ2 (us ++ vs) H2 I2 A2 → RelL C none B D I1 A1 g S m2 σ vs H2 I2 A2 us acc := fun {us acc g2 m2 σ2 H2 I2 A2} hl r => ⟨hl, r.base, r.up, cg.mono r.up, r.stk, trivial⟩
    have r3 : Rel C.T none ⟨(D, .lst us) :: B.F, I1, A1⟩ (wipeG g own) (.d ys[i] :: (acc.map Vl.d ++ S)) m (L2.wipe σ own) (v :: (us ++ vs)) H2 I2 A := ⟨r2.base, r2.up, r2.ctx.wipe own, r2.stk, trivial⟩
    cases eb : mg (.d ys[i]) (wipeG g own) m with
    | none => simp only [eb] at w; exact (hz w).elim
    | some p =>
      simp only [eb] at w
      refine hf _ _ _ (fun σ' Hq => Only js (L2.wipe σ own) σ' → L2.wipe σ' own = L2.wipe σ own ∧ FT C.quiet mt σ' Hq _) _ (hg _ _ _ _ ⟨_, wipeG g own, _, m, _, I2, A, _, r3, ?_⟩) fun σ' Hq ho hq => hq ho
      rw [eb]
      intro σ3 H3 I3 A3 r4 ho
      refine ⟨wipe_only hj ho, _, p.1, _, p.2, _, I3, A3, r4, ?_⟩
      cases ec : mt p.1 p.2 with
      | bad => simp only [ec] at w; exact (hz w).elim
      | ex c fs m' => simp only [ec] at w; exact (hz w).elim
      | ok b m2 =>
        simp only [ec] at w
        intro H4 I4 A4 r5
        cases b with
        | false =>
          rw [if_neg Bool.false_ne_true]
          exact ⟨us, acc, m2, I4, A4, back hl r5, w⟩
        | true =>
          rw [if_pos rfl]
          refine ⟨_, p.1, _, m2, _, I4, A4, r5, ?_⟩
          cases ed : me p.1 m2 with
          | bad => simp only [ed] at w; exact (hz w).elim
          | ex c fs m' => simp only [ed] at w; exact (hz w).elim
          | ok y m3 =>
            simp only [ed] at w
            cases y with
            | ref j => exact (hz w).elim
            | lam z => exact (hz w).elim
            | d y =>
              intro u H5 I5 A5 r6
              have w2 : Z (if szOk (acc.length + 1) then lcLoopV k0 ys mg mt me (wipeG g own) (ys.drop (i + 1)) (acc ++ [y]) m3 else .bad) := w
              by_cases hq : szOk (acc.length + 1) = true
              · simp only [hq, if_true] at w2
                obtain ⟨f1, f2, f3⟩ := r6.base.fm _ List.mem_cons_self
                have hlt : us.length < sizeLine := by
                  have := szOk_line hq
                  rw [hl]; omega
                have hsp := r6.pop1.stk.split (by simpa using hl)
                have e1 : (acc ++ [y]).map Vl.d ++ S = acc.map Vl.d ++ (.d y :: S) := by simp
                have e2 : (us ++ [u]) ++ vs = us ++ (u :: vs) := by simp
                have r7 : Rel C.T none ⟨(D, .lst (us ++ [u])) :: B.F, I1, A1⟩ p.1 ((acc ++ [y]).map Vl.d ++ S) m3 σ3 ((us ++ [u]) ++ vs) (upd H5 D (.lst (us ++ [u]))) I5 A5 := by
                  rw [e1, e2]
                  exact ⟨r6.base.hput, r6.up, r6.ctx, hsp.1.app (.cons r6.top hsp.2), trivial⟩
                exact ⟨us, f1, hlt, us ++ [u], acc ++ [y], m3, I5, A5, back (by simp [hl]) r7, w2⟩
              · simp only [hq] at w2; exact (hz w2).elim
  · have hdr : ys.drop i = [] := List.drop_eq_nil_of_le (by omega)
    rw [hdr] at w
    unfold lcLoopV at w
    have hck : isL m[k0]? = some ys := Classical.byContradiction fun hn => by rw [if_neg hn] at w; exact hz w
    rw [if_pos hck] at w
    obtain ⟨ws, hws, hds⟩ := cell_at r.base (pre_get r.up.a ha0) hck
    exact .inl ⟨⟨ws, .inl (.inl hws), by rw [hds.len]; omega⟩, fin us acc m H' I A ⟨hl, r⟩ w⟩
theorem le_lcV (hg : ∀ v σ H Q, FG C.quiet mg v σ H Q → tg v σ H Q) (hf : Fills tg js) (hj : ∀ j ∈ js, j ∈ own) (cx : C.x = none) {σ : L2.St} {H : Hp} {Q : VK} (h : FE C (mLcV m0 mg mt me own) σ H Q) : tLc (iList C.T.K (FE C m0)) tg (FT C.quiet mt) (FE C.quiet me) own σ H Q := by
  obtain ⟨B, g, S, m, vs, I, A, r, w⟩ := h
  have fin : ∀ {D : Addr} {I1 : Hp} {A1 : List Addr} {us : List V} {acc : List Dt} {m2 : Cells} {H2 I2 : Hp} {A2 : List Addr}, Up B.I I1 B.A A1 → RelL C none B D I1 A1 g S m2 σ vs H2 I2 A2 us acc → WantE C B g S σ vs Q (.ok (.d (.lst acc)) m2) → Q (.ref D) H2 := fun {D I1 A1 us acc m2 H2 I2 A2} up ⟨hl, r2⟩ w2 => by
    have hsp := r2.stk.split (by simpa using hl)
    obtain ⟨b, e⟩ := r2.base.show_
    exact w2 _ _ _ _ ((⟨b, (up.trans r2.up).trans e, r2.ctx.mono e, hsp.2.mono e, by rw [cx]; trivial⟩ : Rel C.T C.x B g S m2 σ vs H2 _ A2).push (.d (.lst upd_same ((vrs_drs hsp.1).mono e.i))))
  refine ⟨B, g, S, m, vs, I, A, r, ?_⟩
  unfold mLcV at w
  cases ea : m0 g m with
  | bad => rw [ea] at w; exact w.elim
  | ex c fs m' => rw [ea] at w; exact w
  | ok x0 m1 =>
    rw [ea] at w
    intro u0 H1 I1 A1 r0
    have r1 := r0.pop1
    cases x0 with
    | d d0 =>
      have w0 : WantE C B g S σ vs Q (match isLst (.d d0) with
        | some xs => (lcLoop mg mt me (wipeG g own) xs [] m1).bind fun acc m2 => .ok (.d (.lst acc)) m2
        | none => .bad) := w
      cases ei : isLst (.d d0) with
      | none => rw [ei] at w0; exact w0.elim
      | some xs =>
        rw [ei] at w0
        obtain ⟨a, us, e1, e2, e3⟩ := isLst_ok r0.top ei
        refine ⟨a, e1, ⟨us, same_l r0.sub e2⟩, fun D hD => ?_⟩
        exact lc_in (B := B) (I1 := I1) (A1 := A1) (Z := fun q => WantE C B g S σ vs Q (q.bind fun acc m2 => .ok (.d (.lst acc)) m2)) hg hf hj (fun F => itl_itd e2 e3) (fun z => z) r1.ctx
          (fun us acc m H' I A r' z => fin r1.up r' z) (us := []) (acc := []) ⟨rfl, r1.base.hide hD, Up.refl, r1.ctx, r1.stk, trivial⟩ w0
    | lam z => exact (show False from w).elim
    | ref k =>
      have w0 : WantE C B g S σ vs Q (match isL m1[k]? with
        | some ds => (lcLoopV k ds mg mt me (wipeG g own) ds [] m1).bind fun acc m2 => .ok (.d (.lst acc)) m2
        | none => .bad) := w
      cases ei : isL m1[k]? with
      | none => rw [ei] at w0; exact w0.elim
      | some ds =>
        rw [ei] at w0
        obtain ⟨a, ev, ha⟩ := r0.top.cel
        obtain ⟨us, hu, _⟩ := cell_at r1.base ha ei
        refine ⟨a, ev, ⟨us, .inl (.inl hu)⟩, fun D hD => ?_⟩
        exact lc_inV (B := B) (I1 := I1) (A1 := A1) (Z := fun q => WantE C B g S σ vs Q (q.bind fun acc m2 => .ok (.d (.lst acc)) m2)) hg hf hj ha (fun z => z) r1.ctx
          (fun us acc m H' I A r' z => fin r1.up r' z) (us := []) (acc := []) ⟨rfl, r1.base.hide hD, Up.refl, r1.ctx, r1.stk, trivial⟩ w0
end
theorem fe_lcV {X : Cx} {C : Fc} {e : Expr} {m0 : ME} {mg : MG} {mt : MT} {me : ME} {own js : List Nat} {tg : TG} (h : PE X e (tLc (iList C.T.K (FE C m0)) tg (FT C.quiet mt) (FE C.quiet me) own)) (hg : ∀ v σ H Q, FG C.quiet mg v σ H Q → tg v σ H Q) (hf : Fills tg js) (hj : ∀ j ∈ js, j ∈ own) (cx : C.x = none) : PE X e (FE C (mLcV m0 mg mt me own)) := pe_of h fun σ H Q => le_lcV hg hf hj cx
/-! ### sorted({..}), a new list that may change -/
end FM
namespace FM
open PySem PySem.Spec PyProof.Rows L2 FS
theorem ft_din {X : Cx} {C : Fc} {e : Expr} {ma mb : ME} (h : PT X e (tB (tDIn (FE C ma) (FE C mb)))) : PT X e (FT C (mTest (mOp (oDIn false) ma mb))) := pt_of h fun σ H Q q =>
  le_op (r := fun y x H Q => ∃ a o, x = .ref a ∧ DGet H a y o ∧ Q (.bl o.isSome) H) (fun F I H A m x y d1 d2 d b hx hy e Q q => by
    have := sim_din (T := C.T) (neg := false) F I H A m x y d1 d2 d b hx hy e Q q
    simpa using this) (ft_le q)
end FM
namespace FM
open PySem PySem.Spec PyProof.Rows L2 FS
/-! ### weakest preconditions of the newer readings -/
section
variable {m : Cells} {g : Gam} {Q : Vl → Cells → Prop} {E : EX} {ds : List Dt} {x : Vl}
theorem w_sortL {ma : ME} (h : wR (ma g m) (fun x m1 => ∃ zs : List Str, x = .d (.lst (zs.map .str)) ∧ zs.length < 64 ∧ Q (.d (.lst ((sortU zs).map .str))) m1) E) : wR (mSortL ma g m) Q E :=
  w_bind (wR_mono h fun x m1 ⟨zs, e, hz, q⟩ => by
    subst e
    simp only [lstOf, Option.bind_some, strsD_map]
    exact wR_eq (by unfold sorted_; rw [if_pos hz]) q)
theorem sortU_eq {a b : List Str} (h : ∀ z, z ∈ a ↔ z ∈ b) : sortU a = sortU b := rise_eq rise_sortU rise_sortU fun k => by rw [mem_sortU, mem_sortU, h]
variable {Q : Vl → Prop}
end
end FM
namespace FM
open PySem PySem.Spec PyProof.Rows L2
/-! ### a + b of lists, a cell; dict(d), a cell -/
/-! ### f(a, .., k = v, ..) -/
end FM
namespace FM
open PySem PySem.Spec PyProof.Rows L2
section
variable {g : Gam} {m : Cells} {Q : Vl → Cells → Prop} {E : EX} {ma mb me : ME}
theorem w_frzD (h : wR (me g m) (fun x m1 => ∃ k ks ds, x = .ref k ∧ m1[k]? = some (some (.dct ks ds)) ∧ Q (.d (.dct ks ds)) (m1.set k none)) E) : wR (mFrzD me g m) Q E :=
  w_bind (wR_mono h fun x m1 ⟨k, ks, ds, e, h1, q⟩ => by
    subst e
    refine wR_eq ?_ q
    simp only [h1, isD])
end
end FM
namespace FM
open PySem PySem.Spec PyProof.Rows L2
/-! ### the head's run, looked at in parts -/
end FM
namespace FM
open PySem PySem.Spec PyProof.Rows L2
/-! ### xs.count(x), xs.index(x) of plain items -/
section
variable {X : Cx}
def rCntF (K : PySem.W.Frag) : V → List V → Hp → VK → Prop := fun x xs H Q => ∃ (a : Addr) (ys : List V) (y : V), x = .ref a ∧ xs = [y] ∧ SqL K H a ys ∧ flatV y = true ∧ ys.all flatV = true ∧ Q (.int ((ys.countP fun z => eqV z y : Nat) : Int)) H
theorem cntU {y : V} : ∀ {ys : List V} {us : List Value}, Vals ys us → ys.all flatV = true → us.countP (eqU y) = ys.countP fun z => eqV z y
  | _, _, .nil, _ => rfl
  | z :: ys, u :: us, .cons r t, f => by
    rw [List.all_cons, Bool.and_eq_true] at f
    rw [List.countP_cons, List.countP_cons, cntU t f.2, eqU_of r f.1]
theorem mt_cntF : MtR X "list.count" (rCntF X.K) := by
  intro pins s σ H x xs v us Q I rx rxs h
  obtain ⟨a, ys, y, rfl, rfl, hs, fy, fys, q⟩ := h
  cases rx
  cases rxs with
  | cons ry rt =>
    rename_i uy ut
    cases rt
    obtain ⟨its, rv, ⟨⟨cls, dd, data, sl⟩, n, ho, hc, hdn, hd⟩, hlen⟩ := I.list hs
    simp only at hc hd
    subst hc hd
    refine call_meets PySem.F.slot_list_count ⟨_, ho, rfl⟩ PySem.F.entry_list_count (PySem.F.args_list_count_2 _ _)
      (SeqAt.list_countAt a its.toArray n dd sl uy (eqU y)) ⟨ho, fun u' hu' => mem_eqAt ry fy rv fys u' (by simpa using hu'), ?_⟩
    have ec : its.toArray.toList.countP (eqU y) = ys.countP fun z => eqV z y := cntU rv fys
    refine ⟨.int ((ys.countP fun z => eqV z y : Nat) : Int), H, I.tok _, ⟨s.toks, ?_⟩, q⟩
    show Value.int ((its.toArray.toList.countP (eqU y) : Nat) : Int) s.toks = Value.int _ s.toks
    rw [ec]
end
def lmO (f : List V → V → Option Int) (m : Cells) (x y : Vl) : Option Vl := match lstOf m x, y with
  | some ds, .d d => (match flatsD ds, flatD d with
    | some vs, some v => (f vs v).map fun i => .d (.int i)
    | _, _ => none)
  | _, _ => none
def mLM (f : List V → V → Option Int) (ma mb : ME) : ME := fun g m => (ma g m).bind fun x m1 => match lstOf m1 x with
  | some _ => (mb g m1).bind fun y m2 => ofO m2 (lmO f m2 x y)
  | none => .bad
def LmOk (K : PySem.W.Frag) (r : V → List V → Hp → VK → Prop) (f : List V → V → Option Int) : Prop := ∀ (a : Addr) (ys : List V) (y : V) (i : Int) (H : Hp) (Q : VK), SqL K H a ys → ys.all flatV = true → flatV y = true → f ys y = some i → Q (.int i) H → r (.ref a) [y] H Q
def fCnt (ys : List V) (y : V) : Option Int := some ((ys.countP fun z => eqV z y : Nat) : Int)
theorem lm_cnt {K : PySem.W.Frag} : LmOk K (rCntF K) fCnt := fun a ys y i H Q hs fys fy e q => by
  cases e
  exact ⟨a, ys, y, rfl, rfl, hs, fy, fys, q⟩
section
variable {X : Cx} {C : Fc} {e : Expr} {ma mb : ME}
theorem fe_lm {r : V → List V → Hp → VK → Prop} {f : List V → V → Option Int} (h : PE X e (tBM C.T.K "list" r (FE C ma) (tCons (FE C mb) tNil))) (s : LmOk C.T.K r f) : PE X e (FE C (mLM f ma mb)) := pe_of h fun σ H Q ⟨B, g, S, m, vs, I, A, rl, w⟩ => by
  refine ⟨B, g, S, m, vs, I, A, rl, ?_⟩
  unfold mLM at w
  cases ea : ma g m with
  | bad => rw [ea] at w; exact w.elim
  | ex c fs m' => rw [ea] at w; exact w
  | ok d1 m1 =>
    rw [ea] at w
    intro x H1 I1 A1 r1
    cases el : lstOf m1 d1 with
    | none => simp only [Rs.bind, el] at w; exact (show False from w).elim
    | some ds1 =>
      simp only [Rs.bind, el] at w
      obtain ⟨p, us, rfl, p1, p2⟩ := lstOf_ok r1.base r1.top el
      refine ⟨.inl ⟨rfl, us, p1⟩, ?_⟩
      show FE C mb σ H1 fun y H2 => r (.ref p) [y] H2 Q
      refine ⟨B, g, d1 :: S, m1, .ref p :: vs, I1, A1, r1, ?_⟩
      cases eb : mb g m1 with
      | bad => simp only [eb] at w; exact (show False from w).elim
      | ex c fs m' =>
        simp only [eb] at w
        intro σ' H' I' A' dx ws r' h1 h2 h3
        exact w σ' H' I' A' dx ws r'.pop1 h1 h2 h3
      | ok d2 m2 =>
        simp only [eb] at w
        intro y H2 I2 A2 r2
        unfold lmO at w
        cases el2 : lstOf m2 d1 with
        | none => simp only [el2] at w; exact (show False from w).elim
        | some ds =>
          cases d2 with
          | ref k => simp only [el2] at w; exact (show False from w).elim
          | lam z => simp only [el2] at w; exact (show False from w).elim
          | d d =>
            cases ef : flatsD ds with
            | none => simp only [el2, ef] at w; exact (show False from w).elim
            | some ws =>
              cases eg : flatD d with
              | none => simp only [el2, ef, eg] at w; exact (show False from w).elim
              | some v =>
                simp only [el2, ef, eg] at w
                cases ei : f ws v with
                | none => simp only [ei] at w; exact (show False from w).elim
                | some i =>
                  simp only [ei] at w
                  obtain ⟨p', us', e1, p1', p2'⟩ := lstOf_ok r2.base r2.pop1.top el2
                  cases e1
                  obtain ⟨e3, f3⟩ := flatsD_ok ef p2'
                  obtain ⟨e4, f4⟩ := flatD_ok eg r2.top.dat
                  subst e3 e4
                  exact s p us' y i H2 Q p1' f3 f4 ei (w _ _ _ _ ((r2.pop1.pop1).push (.d (.int i))))
end
section
variable {g : Gam} {m : Cells} {Q : Vl → Cells → Prop} {E : EX} {ma mb : ME}
theorem w_lm {f : List V → V → Option Int} (h : wR (ma g m) (fun x m1 => ∃ ds, lstOf m1 x = some ds ∧ wR (mb g m1) (fun y m2 => wO (lmO f m2 x y) fun d => Q d m2) E) E) : wR (mLM f ma mb g m) Q E :=
  w_bind (wR_mono h fun x m1 ⟨ds, h1, h2⟩ => by
    simp only [h1]
    exact w_bind (wR_mono h2 fun y m2 h3 => w_ofO h3))
end
/-! ### where a comprehension's names stand -/
end FM
namespace FM
open PySem PySem.Spec PyProof.Rows L2
end FM
namespace FM
open PySem PySem.Spec PyProof.Rows L2
open Classical
/-! ### == of plain data, of whatever kinds -/
mutual
def toP : Dt → Option PyData
  | .non => some .none
  | .bl b => some (.bool b)
  | .int i => some (.int i)
  | .str x => if PyData.strOk x = true then some (.str x) else none
  | .lst xs => (toPs xs).map .list
  | .scr xs => (toPs xs).map .list
  | .tup xs => (toPs xs).map .tuple
  | .dct _ _ => none
  | .ins _ _ => none
  | .glo _ => none
  | .exc _ _ => none
def toPs : List Dt → Option (List PyData)
  | [] => some []
  | x :: xs => match toP x, toPs xs with
    | some p, some ps => some (p :: ps)
    | _, _ => none
end
mutual
theorem toP_ok {T : Tab} {I H : Hp} (e : Same I H) : ∀ (d : Dt) {v : V} {p : PyData}, DR T I v d → toP d = some p → Dp T.K H v p ∧ p.canLay0 = true
  | .non, v, p, h, k => by cases h; unfold toP at k; cases k; exact ⟨.non, rfl⟩
  | .bl b, v, p, h, k => by cases h; unfold toP at k; cases k; exact ⟨.bl b, rfl⟩
  | .int i, v, p, h, k => by cases h; unfold toP at k; cases k; exact ⟨.int i, rfl⟩
  | .str x, v, p, h, k => by
    cases h
    unfold toP at k
    split at k
    · rename_i hx; cases k; exact ⟨.str x, by unfold PyData.canLay0; exact hx⟩
    · cases k
  | .lst xs, v, p, h, k => by
    unfold toP at k
    obtain ⟨ps, k2, rfl⟩ := Option.map_eq_some_iff.mp k
    cases h with
    | lst h1 h2 =>
      obtain ⟨a, b⟩ := toPs_ok e xs h2 k2
      exact ⟨.lst (.inl (.inl (e _ _ h1))) a, by unfold PyData.canLay0; exact b⟩
  | .scr xs, v, p, h, k => by
    unfold toP at k
    obtain ⟨ps, k2, rfl⟩ := Option.map_eq_some_iff.mp k
    cases h with
    | scr h1 h2 =>
      obtain ⟨a, b⟩ := toPs_ok e xs h2 k2
      exact ⟨.lst (same_l e h1) a, by unfold PyData.canLay0; exact b⟩
  | .tup xs, v, p, h, k => by
    unfold toP at k
    obtain ⟨ps, k2, rfl⟩ := Option.map_eq_some_iff.mp k
    cases h with
    | tup h1 h2 =>
      obtain ⟨a, b⟩ := toPs_ok e xs h2 k2
      exact ⟨.tup (same_t e h1) a, by unfold PyData.canLay0; exact b⟩
  | .dct _ _, v, p, h, k => by unfold toP at k; cases k
  | .ins _ _, v, p, h, k => by unfold toP at k; cases k
  | .glo _, v, p, h, k => by unfold toP at k; cases k
  | .exc _ _, v, p, h, k => by unfold toP at k; cases k
theorem toPs_ok {T : Tab} {I H : Hp} (e : Same I H) : ∀ (ds : List Dt) {vs : List V} {ps : List PyData}, DRs T I vs ds → toPs ds = some ps → DpAll T.K H vs ps ∧ PyData.canLayAll0 ps = true
  | [], vs, ps, h, k => by cases h; unfold toPs at k; cases k; exact ⟨.nil, rfl⟩
  | d :: ds, vs, ps, h, k => by
    cases h with
    | cons h1 h2 =>
      unfold toPs at k
      cases e1 : toP d with
      | none => simp [e1] at k
      | some p =>
        cases e2 : toPs ds with
        | none => simp [e1, e2] at k
        | some qs =>
          simp only [e1, e2] at k
          cases k
          obtain ⟨a, b⟩ := toP_ok e d h1 e1
          obtain ⟨a2, b2⟩ := toPs_ok e ds h2 e2
          exact ⟨.cons a a2, by unfold PyData.canLayAll0; rw [b, b2]; rfl⟩
end
def pyOf (m : Cells) : Vl → Option PyData
  | .d d => toP d
  | .ref k => (isL m[k]?).bind fun ds => (toPs ds).map .list
  | .lam _ => none
theorem pyOf_ok {T : Tab} {F : Frm} {I H : Hp} {A : List Addr} {m : Cells} {x : V} {d : Vl} {p : PyData} (b : Base T F I H A m) (h : VR T I A x d) (k : pyOf m d = some p) : Dp T.K H x p ∧ p.canLay0 = true := by
  cases d with
  | lam z => cases k
  | d d => exact toP_ok b.sub d h.dat k
  | ref j =>
    unfold pyOf at k
    cases e : isL m[j]? with
    | none => simp [e] at k
    | some ds =>
      simp only [e, Option.bind_some] at k
      obtain ⟨ps, k2, rfl⟩ := Option.map_eq_some_iff.mp k
      obtain ⟨a, rfl, ha⟩ := h.cel
      have hm : m[j]? = some (some (.lst ds)) := by
        cases q : m[j]? with
        | none => rw [q] at e; cases e
        | some c =>
          rw [q] at e
          cases c with
          | none => cases e
          | some c => cases c <;> first | cases e; rfl | cases e
      obtain ⟨vs, h1, h2⟩ := b.ok j _ a hm ha
      obtain ⟨a1, a2⟩ := toPs_ok b.sub ds h2 k2
      exact ⟨.lst (.inl (.inl h1)) a1, by unfold PyData.canLay0; exact a2⟩
noncomputable def oPl (neg : Bool) : O2 := fun m x y => (pyOf m x).bind fun p => (pyOf m y).bind fun q => if p.depth ≤ 64 ∧ q.depth ≤ 64 then some (.d (.bl (neg != PyData.eqv p q))) else none
def rPl (K : PySem.W.Frag) (neg : Bool) : R2 := fun x y H Q => ∃ d e, Dp K H x d ∧ Dp K H y e ∧ SeqAt.shaped d = true ∧ SeqAt.shaped e = true ∧ Q (.bl (neg != PyData.eqv d e)) H
theorem op_Pl {X : Cx} {K : PySem.W.Frag} {neg : Bool} (hu : X.A.units + 64 < cLine) (hK : K = X.K) : OpR X (compareOp (NK.opN neg)) (rPl K neg) := by
  subst hK
  cases neg with
  | false =>
    intro pins s σ H x y v u Q I rx ry ⟨d, e, h1, h2, h3, h4, q⟩
    exact op_eqD hu pins s σ H x y v u Q I rx ry ⟨d, e, h1, h2, h3, h4, by simpa using q⟩
  | true =>
    intro pins s σ H x y v u Q I rx ry ⟨d, e, h1, h2, h3, h4, q⟩
    exact op_neD hu pins s σ H x y v u Q I rx ry ⟨d, e, h1, h2, h3, h4, by simpa using q⟩
theorem sim_Pl {T : Tab} {neg : Bool} : SimO T (rPl T.K neg) (oPl neg) := simO_pure fun F I H A m x y d1 d2 d b hx hy e Q q => by
  unfold oPl at e
  cases e1 : pyOf m d1 with
  | none => simp [e1] at e
  | some p =>
    cases e2 : pyOf m d2 with
    | none => simp [e1, e2] at e
    | some p2 =>
      simp only [e1, e2, Option.bind_some] at e
      by_cases h : p.depth ≤ 64 ∧ p2.depth ≤ 64
      · rw [if_pos h] at e
        cases e
        obtain ⟨a1, a2⟩ := pyOf_ok b hx e1
        obtain ⟨b1, b2⟩ := pyOf_ok b hy e2
        exact ⟨p, p2, a1, b1, by unfold SeqAt.shaped; rw [a2]; simpa using h.1, by unfold SeqAt.shaped; rw [b2]; simpa using h.2, q _ (.d (.bl _))⟩
      · rw [if_neg h] at e; cases e
theorem bq {α : Type} [BEq α] [LawfulBEq α] {a b : α} : (a == b) = decide (a = b) := by by_cases h : a = b <;> simp [h]
/-! plain: no bools, not deep -/
def plZ : Nat → Dt → Bool
  | _, .non => true
  | _, .int _ => true
  | _, .str x => PyData.strOk x
  | n + 1, .lst xs => xs.all (plZ n)
  | n + 1, .tup xs => xs.all (plZ n)
  | _, _ => false
theorem toPs_pl {n : Nat} (ih : ∀ d : Dt, plZ n d = true → ∃ p, toP d = some p ∧ p.depth ≤ n) : ∀ xs : List Dt, xs.all (plZ n) = true → ∃ ps, toPs xs = some ps ∧ PyData.depthAll ps ≤ n
  | [], _ => ⟨[], by unfold toPs; rfl, by unfold PyData.depthAll; omega⟩
  | x :: xs, h => by
    obtain ⟨h1, h2⟩ := (Bool.and_eq_true_iff.mp (by rw [List.all_cons] at h; exact h))
    obtain ⟨p, e1, l1⟩ := ih x h1
    obtain ⟨ps, e2, l2⟩ := toPs_pl ih xs h2
    exact ⟨p :: ps, by unfold toPs; rw [e1, e2], by unfold PyData.depthAll; exact Nat.max_le.mpr ⟨l1, l2⟩⟩
theorem toP_pl : ∀ (n : Nat) (d : Dt), plZ n d = true → ∃ p, toP d = some p ∧ p.depth ≤ n
  | n, .non, _ => ⟨_, by unfold toP; rfl, by unfold PyData.depth; omega⟩
  | n, .int i, _ => ⟨_, by unfold toP; rfl, by unfold PyData.depth; omega⟩
  | n, .str x, h => ⟨.str x, by unfold toP; rw [if_pos (by cases n <;> simpa [plZ] using h)], by unfold PyData.depth; omega⟩
  | n, .bl _, h => by cases n <;> simp [plZ] at h
  | n, .dct _ _, h => by cases n <;> simp [plZ] at h
  | n, .ins _ _, h => by cases n <;> simp [plZ] at h
  | n, .glo _, h => by cases n <;> simp [plZ] at h
  | n, .exc _ _, h => by cases n <;> simp [plZ] at h
  | n, .scr _, h => by cases n <;> simp [plZ] at h
  | 0, .lst _, h => by simp [plZ] at h
  | 0, .tup _, h => by simp [plZ] at h
  | n + 1, .lst xs, h => by
    obtain ⟨ps, e, l⟩ := toPs_pl (toP_pl n) xs (by simpa [plZ] using h)
    exact ⟨.list ps, by unfold toP; rw [e]; rfl, by unfold PyData.depth; omega⟩
  | n + 1, .tup xs, h => by
    obtain ⟨ps, e, l⟩ := toPs_pl (toP_pl n) xs (by simpa [plZ] using h)
    exact ⟨.tuple ps, by unfold toP; rw [e]; rfl, by unfold PyData.depth; omega⟩
theorem eqvs_pl {n n' : Nat} (ih : ∀ (d e : Dt) {p q : PyData}, plZ n d = true → plZ n' e = true → toP d = some p → toP e = some q → PyData.eqv p q = decide (d = e)) : ∀ (xs ys : List Dt) {ps qs : List PyData}, xs.all (plZ n) = true → ys.all (plZ n') = true → toPs xs = some ps → toPs ys = some qs → PyData.eqvAll ps qs = decide (xs = ys)
  | [], [], ps, qs, _, _, e1, e2 => by unfold toPs at e1 e2; cases e1; cases e2; simp [PyData.eqvAll]
  | [], y :: ys, ps, qs, _, h2, e1, e2 => by
    unfold toPs at e1; cases e1
    unfold toPs at e2
    split at e2
    · cases e2; simp [PyData.eqvAll]
    · cases e2
  | x :: xs, [], ps, qs, _, h2, e1, e2 => by
    unfold toPs at e2; cases e2
    unfold toPs at e1
    split at e1
    · cases e1; simp [PyData.eqvAll]
    · cases e1
  | x :: xs, y :: ys, ps, qs, h1, h2, e1, e2 => by
    rw [List.all_cons, Bool.and_eq_true_iff] at h1 h2
    unfold toPs at e1 e2
    split at e1
    · rename_i p ps' f1 f2
      cases e1
      split at e2
      · rename_i q qs' g1 g2
        cases e2
        have a := ih x y h1.1 h2.1 f1 g1
        have b := eqvs_pl ih xs ys h1.2 h2.2 f2 g2
        unfold PyData.eqvAll
        rw [a, b]
        by_cases c : x = y
        · by_cases c2 : xs = ys
          · simp [c, c2]
          · simp [c, c2]
        · simp [c]
      · cases e2
    · cases e1
theorem eqv_pl : ∀ (n n' : Nat) (d e : Dt) {p q : PyData}, plZ n d = true → plZ n' e = true → toP d = some p → toP e = some q → PyData.eqv p q = decide (d = e) := by
  intro n
  induction n with
  | zero =>
    intro n' d e p q h1 h2 e1 e2
    cases d <;> first | (simp [plZ] at h1; done) | skip
    all_goals cases e <;> first | (cases n' <;> simp [plZ] at h2; done) | skip
    all_goals simp only [toP] at e1 e2
    all_goals first
      | (cases e1; cases e2; simp [PyData.eqv, bq]; done)
      | (split at e1 <;> split at e2 <;> cases e1 <;> cases e2 <;> simp [PyData.eqv, bq]; done)
      | (split at e1 <;> cases e1 <;> cases e2 <;> simp [PyData.eqv, bq]; done)
      | (split at e2 <;> cases e2 <;> cases e1 <;> simp [PyData.eqv, bq]; done)
      | (obtain ⟨ps, _, rfl⟩ := Option.map_eq_some_iff.mp e2; cases e1; simp [PyData.eqv, bq]; done)
      | (obtain ⟨ps, _, rfl⟩ := Option.map_eq_some_iff.mp e2; split at e1 <;> cases e1 <;> simp [PyData.eqv, bq]; done)
  | succ n ih =>
    intro n' d e p q h1 h2 e1 e2
    cases d <;> first | (simp [plZ] at h1; done) | skip
    all_goals cases e <;> first | (cases n' <;> simp [plZ] at h2; done) | skip
    all_goals simp only [toP] at e1 e2
    all_goals first
      | (cases e1; cases e2; simp [PyData.eqv, bq]; done)
      | (split at e1 <;> split at e2 <;> cases e1 <;> cases e2 <;> simp [PyData.eqv, bq]; done)
      | (split at e1 <;> cases e1 <;> cases e2 <;> simp [PyData.eqv, bq]; done)
      | (split at e2 <;> cases e2 <;> cases e1 <;> simp [PyData.eqv, bq]; done)
      | (obtain ⟨ps, _, rfl⟩ := Option.map_eq_some_iff.mp e2; cases e1; simp [PyData.eqv, bq]; done)
      | (obtain ⟨ps, _, rfl⟩ := Option.map_eq_some_iff.mp e2; split at e1 <;> cases e1 <;> simp [PyData.eqv, bq]; done)
      | (obtain ⟨ps, _, rfl⟩ := Option.map_eq_some_iff.mp e1; cases e2; simp [PyData.eqv, bq]; done)
      | (obtain ⟨ps, _, rfl⟩ := Option.map_eq_some_iff.mp e1; split at e2 <;> cases e2 <;> simp [PyData.eqv, bq]; done)
      | (obtain ⟨ps, k1, rfl⟩ := Option.map_eq_some_iff.mp e1
         obtain ⟨qs, k2, rfl⟩ := Option.map_eq_some_iff.mp e2
         cases n' with
         | zero => simp [plZ] at h2
         | succ n' =>
           first
           | (have := eqvs_pl (n := n) (n' := n') (fun d e _ _ => ih n' d e) _ _ (by simpa [plZ] using h1) (by simpa [plZ] using h2) k1 k2
              simp [PyData.eqv, this]; done)
           | (simp [PyData.eqv, bq]; done))
theorem wo_pl {m : Cells} {neg : Bool} {d e : Dt} {Q : Vl → Prop} (h1 : plZ 64 d = true) (h2 : plZ 64 e = true) (q : Q (.d (.bl (neg != decide (d = e))))) : wO (oPl neg m (.d d) (.d e)) Q := by
  obtain ⟨p, a1, a2⟩ := toP_pl 64 d h1
  obtain ⟨p2, b1, b2⟩ := toP_pl 64 e h2
  refine wO_eq ?_ q
  show (toP d).bind _ = _
  rw [a1]
  show (toP e).bind _ = _
  rw [b1]
  show (if _ then _ else _) = _
  rw [if_pos ⟨a2, b2⟩, eqv_pl 64 64 d e h1 h2 a1 b1]
end FM
namespace FM
open PySem PySem.Spec PyProof.Rows L2
open Classical
/-! ### objects that are being built: their fields may be cells -/
section
variable {X : Cx} {C : Fc} {e : Expr} {ma : MA} {me mb : ME}
/-! methods -/
/-! a def that keeps what it makes -/
/-! the fields are done changing -/
end
/-! ### what these ask -/
end FM
namespace FM
open PySem PySem.Spec PyProof.Rows L2
/-! ### what leaves the objects that are being built as they are -/
section
variable {α β : Type} {m m1 m2 m3 : Cells}
theorem Obs.app {c : Option Cell} : Obs m (m ++ [c]) := ⟨by simp, fun i c fs hi q => by rw [List.getElem?_append_left hi] at q; exact ⟨_, _, q, fun _ h => h⟩⟩
theorem q_ok {a : α} : Qr m (.ok a m) := Obs.refl
theorem q_bad : Qr (α := α) m .bad := trivial
theorem q_ofO {o : Option α} : Qr m (ofO m o) := by cases o <;> first | trivial | exact Obs.refl
end
local macro_rules
  | `(tactic| array_get_dec) => `(tactic| (repeat' (first | exact q_bad | exact q_ok | exact q_ofO | exact trivial | exact Obs.refl | exact Obs.app | split | (refine Obs.set ?_; intro c fs e; cases e))))
end FM
namespace FM
open PySem PySem.Spec PyProof.Rows L2
/-! ### enumerate(tuple) -/
end FM
namespace FM
open PySem PySem.Spec PyProof.Rows L2
/-! ### tuple * 0, tuple * 1 -/
/-! ### len of a dict -/
def nLenD : ON := fun m xs => match xs with
  | [x] => (dctOf m x).map fun p => .d (.int (p.1.length : Nat))
  | _ => none
def rLenD : List V → Hp → VK → Prop := fun xs H Q => ∃ a kvs, xs = [V.ref a] ∧ H a = some (.dK kvs) ∧ Q (.int kvs.length) H
theorem call_lenDr {X : Cx} : CallR X (.builtin "len") rLenD := call_lenD
theorem sim_lenD {T : Tab} : SimN T rLenD nLenD := simN_pure fun F I H A m ws ds d b hv e Q q => by
  unfold nLenD at e
  split at e
  · rename_i x
    obtain ⟨w, rfl, hw⟩ := hv.one_inv
    cases hl : dctOf m x with
    | none => rw [hl] at e; cases e
    | some p =>
      rw [hl] at e; cases e
      obtain ⟨a, xs, rfl, g1, g2, g3⟩ := dctOf_ok b hw (ks := p.1) (ds := p.2) hl
      exact ⟨a, _, rfl, g1, by rw [List.length_zip, ← g2, Nat.min_self]; exact q _ (.d (.int _))⟩
  · cases e
theorem wo_lenD {m : Cells} {x : Vl} {ks : List L2.Key} {ds : List Dt} {Q : Vl → Prop} (h : dctOf m x = some (ks, ds)) (q : Q (.d (.int (ks.length : Nat)))) : wO (nLenD m [x]) Q := wO_eq (by simp only [nLenD, h, Option.map_some]) q
/-! ### isinstance(x, (A, B)) -/
end FM
namespace FM
open PySem PySem.Spec PyProof.Rows L2
/-! ### list(range(n)) -/
/-! ### a comprehension over a list that may change: a new cell -/
/-! ### x(a, .., k = v, ..), x a local name that holds a def -/
/-! ### what they leave as it is -/
end FM
namespace FS
open PySem PySem.Spec PyProof.Rows L2 PySem.Froz PpSet
/-! ### {k: v for .. in .. for .. in ..}: the machine's turns -/
abbrev dc2 (kx vx t0 i0 t1 i1 : Expr) (c0 c1 : List Expr) (scope : Scope) (pos : Pos) : Expr := .DictComp kx vx [⟨t0, i0, c0, 0⟩, ⟨t1, i1, c1, 0⟩] scope pos
theorem turnD_out (kx vx t0 i0 t1 i1 : Expr) (c0 c1 : List Expr) (scope : Scope) (pos : Pos) (it acc : Value) (env : Env) : compTurn (dc2 kx vx t0 i0 t1 i1 c0 c1 scope pos) 0 it acc env = (do
    standAt i0.pos
    match ← pyNext it with
    | none => pure (.done .next)
    | some v => do
      letOwnedTupleGo t0 it v
      assign t0 env v
      let mut go := true
      for c in c0 do
        if go then go ← isTrue c env (eval c env)
      if go then
        let y ← eval i1 env
        standAt i1.pos
        let y ← foldedSetIterable i1 env y
        let _ ← runOwn (.compStart (dc2 kx vx t0 i0 t1 i1 c0 c1 scope pos) 1 (← holding [y] (pyIter y)) acc env) env
      again (.compLoop (dc2 kx vx t0 i0 t1 i1 c0 c1 scope pos) 0 it acc env)) := by rfl
theorem turnD_in (kx vx t0 i0 t1 i1 : Expr) (c0 c1 : List Expr) (scope : Scope) (pos : Pos) (it : Value) (D : Addr) (env : Env) : compTurn (dc2 kx vx t0 i0 t1 i1 c0 c1 scope pos) 1 it (.ref D) env = (do
    standAt i1.pos
    match ← pyNext it with
    | none => pure (.done .next)
    | some v => do
      letOwnedTupleGo t1 it v
      assign t1 env v
      let mut go := true
      for c in c1 do
        if go then go ← isTrue c env (eval c env)
      if go then
        (do
          let kv ← eval kx env
          let vv ← holding [kv] (eval vx env)
          standAt { kx.pos with endLine := vx.pos.endLine, endCol := vx.pos.endCol }
          holding [kv, vv] (dictSet D kv vv))
      again (.compLoop (dc2 kx vx t0 i0 t1 i1 c0 c1 scope pos) 1 it (.ref D) env)) := by rfl
section
variable {P : Program} {w : World} {A : Around} {R : Result → Shared → Prop} {s : Shared} {kx vx t0 i0 t1 i1 : Expr} {c0 c1 : List Expr} {scope : Scope} {pos : Pos} {it acc : Value} {env : Env} {D : Addr}
theorem loopD_out (fold : ∀ x, foldedSetIterable i1 env x = pure x) (I : Nat → Shared → Prop)
    (one : ∀ n z, I n z → wpAny (model P w) A (pyNext it) (fun r z1 => match r with
      | none => R (.ok .next) z1
      | some v => wpAny (model P w) A (letOwnedTupleGo t0 it v) (fun _ z2 => wpAny (model P w) A (assign t0 env v) (fun _ z3 => wpAny (model P w) A (tests c0 env) (fun b z4 =>
          if b = true then wpAny (model P w) A (eval i1 env) (fun x z5 => wpAny (model P w) A (pyIter x) (fun jt z6 =>
              codeAny (model P w) A (.compStart (dc2 kx vx t0 i0 t1 i1 c0 c1 scope pos) 1 jt acc env) (fun q z7 => match q with
                | .ok _ => ∃ m, m < n ∧ I m z7
                | .error _ => False) z6) (nx P w A env R) z5) (nx P w A env R) z4
          else ∃ m, m < n ∧ I m z4) (nx P w A env R) z3) (nx P w A env R) z2) (nx P w A env R) z1) (nx P w A env R) z)
    (n : Nat) (h : I n s) : codeAny (model P w) A (.compLoop (dc2 kx vx t0 i0 t1 i1 c0 c1 scope pos) 0 it acc env) R s := by
  refine codeAny_loop rfl I (fun n z hz => ?_) n h
  show wpAny _ A ((compTurn (dc2 kx vx t0 i0 t1 i1 c0 c1 scope pos) 0 it acc env).onRaise (fun x => do noteFrame x env; theTreesLotGoes x)) _ _ z
  refine wpAny_noted ?_
  rw [turnD_out]
  refine wpAny_bind (wpAny_standAt (wpAny_bind (wpAny_mono (one n z hz) (fun r z1 h1 => ?_) fun _ _ k => k)))
  cases r with
  | none => exact wpAny_pure h1
  | some v =>
    refine wpAny_bind (wpAny_mono h1 (fun _ z2 h2 => wpAny_bind (wpAny_mono h2 (fun _ z3 h3 => wpAny_bind (wpAny_mono h3 (fun b z4 h4 => ?_) fun _ _ k => k)) fun _ _ k => k)) fun _ _ k => k)
    cases b with
    | false => exact wpAny_pure ⟨rfl, h4⟩
    | true =>
      refine wpAny_bind (wpAny_mono h4 (fun x z5 h5 => ?_) fun _ _ k => k)
      refine wpAny_bind (wpAny_standAt (wpAny_bind (wpAny_of_eq (fold x) (wpAny_bind (wpAny_holding (wpAny_mono h5 (fun jt z6 h6 => ?_) fun _ _ k => k))))))
      refine wpAny_bind (wpAny_runOwn ?_)
      rw [Around.mark_none]
      refine codeAny_mono h6 fun q z7 hq => ?_
      cases q with
      | error e => exact hq.elim
      | ok f => first | exact wpAny_pure ⟨rfl, hq⟩ | exact wpAny_bind (wpAny_pure (wpAny_pure ⟨rfl, hq⟩))
theorem loopD_in (I : Nat → Shared → Prop)
    (one : ∀ n z, I n z → wpAny (model P w) A (pyNext it) (fun r z1 => match r with
      | none => R (.ok .next) z1
      | some v => wpAny (model P w) A (letOwnedTupleGo t1 it v) (fun _ z2 => wpAny (model P w) A (assign t1 env v) (fun _ z3 => wpAny (model P w) A (tests c1 env) (fun b z4 =>
          if b = true then wpAny (model P w) A (eval kx env) (fun x z5 => wpAny (model P w) A (eval vx env) (fun y z6 => wpAny (model P w) A (dictSet D x y) (fun _ z7 => ∃ m, m < n ∧ I m z7) (nx P w A env R) z6) (nx P w A env R) z5) (nx P w A env R) z4
          else ∃ m, m < n ∧ I m z4) (nx P w A env R) z3) (nx P w A env R) z2) (nx P w A env R) z1) (nx P w A env R) z)
    (n : Nat) (h : I n s) : codeAny (model P w) A (.compLoop (dc2 kx vx t0 i0 t1 i1 c0 c1 scope pos) 1 it (.ref D) env) R s := by
  refine codeAny_loop rfl I (fun n z hz => ?_) n h
  show wpAny _ A ((compTurn (dc2 kx vx t0 i0 t1 i1 c0 c1 scope pos) 1 it (.ref D) env).onRaise (fun x => do noteFrame x env; theTreesLotGoes x)) _ _ z
  refine wpAny_noted ?_
  rw [turnD_in]
  refine wpAny_bind (wpAny_standAt (wpAny_bind (wpAny_mono (one n z hz) (fun r z1 h1 => ?_) fun _ _ k => k)))
  cases r with
  | none => exact wpAny_pure h1
  | some v =>
    refine wpAny_bind (wpAny_mono h1 (fun _ z2 h2 => wpAny_bind (wpAny_mono h2 (fun _ z3 h3 => wpAny_bind (wpAny_mono h3 (fun b z4 h4 => ?_) fun _ _ k => k)) fun _ _ k => k)) fun _ _ k => k)
    cases b with
    | false => exact wpAny_pure ⟨rfl, h4⟩
    | true =>
      exact wpAny_bind (wpAny_bind (wpAny_mono h4 (fun kv z5 h5 => wpAny_bind (wpAny_holding (wpAny_mono h5 (fun vv z6 h6 => wpAny_bind (wpAny_standAt (wpAny_holding (wpAny_mono h6 (fun _ z7 h7 => wpAny_pure ⟨rfl, h7⟩) fun _ _ k => k)))) fun _ _ k => k))) fun _ _ k => k))
theorem startD_in (h0 : codeAny (model P w) A (.compLoop (dc2 kx vx t0 i0 t1 i1 c0 c1 scope pos) 1 it acc env) R s)
    (h : wpAny (model P w) A (pyIter it) (fun jt z => codeAny (model P w) A (.compLoop (dc2 kx vx t0 i0 t1 i1 c0 c1 scope pos) 1 jt acc env) R z) (nx P w A env R) s) :
    codeAny (model P w) A (.compStart (dc2 kx vx t0 i0 t1 i1 c0 c1 scope pos) 1 it acc env) R s := by
  refine codeAny_of_tree ?_
  show wpAny _ _ ((compStart (dc2 kx vx t0 i0 t1 i1 c0 c1 scope pos) 1 it acc env).onRaise (fun x => do noteFrame x env; standAt theWindowsPlace)) _ _ s
  refine wpAny_notedAt ?_
  unfold compStart
  show wpAny _ _ (ask >>= _) _ _ s
  refine wpAny_bind (wpAny_askSetting (wpAny_ite ?_))
  split
  · first | exact wpAny_bind (wpAny_pure (wpAny_pure ⟨rfl, h0⟩)) | exact wpAny_pure ⟨rfl, h0⟩
  · first
      | exact wpAny_bind (wpAny_rule (wpAny_bind (wpAny_standAt (wpAny_bind (wpAny_mono h (fun jt z hz => wpAny_pure ⟨rfl, hz⟩) fun _ _ x => x)))))
      | (refine wpAny_bind (wpAny_rule ?_); show wpAny _ _ (standAt i1.pos >>= _) _ _ s; exact wpAny_bind (wpAny_standAt (wpAny_bind (wpAny_mono h (fun jt z hz => wpAny_pure ⟨rfl, hz⟩) fun _ _ x => x))))
end
abbrev LoopD (X : Cx) (gens : List Comprehension) (kx vx : Expr) (scope : Scope) (pos : Pos) (D it : Addr) (s3 : Shared) (use : Option (Value → Sem Unit)) (Qf : Value → Shared → Prop) (s4 : Shared) : Prop :=
  codeAny (model X.prog X.w) X.A (.compLoop (.DictComp kx vx gens scope pos) 0 (.ref it) (.ref D) (ceOf scope s3 X.env)) (compPost (model X.prog X.w) X.A X.xe use Qf (.ref D) s3.heap.objs.size) s4
section
variable {X : Cx} {pins : List (Addr × Obj)} {s : Shared} {σ : L2.St} {H : Hp} {kx vx tg iter : Expr} {ifs : List Expr} {rest : List Comprehension} {scope : Scope} {own : List (Str × Nat)} {pos pos' : Pos} {wi : TI} {use : Option (Value → Sem Unit)} {Qf : Value → Shared → Prop} {R : It → Hp → Prop}
/-- into the block: a new dict, its walk at the start -/
theorem dc_open (hN : X.N.Nodup) (I : Inv X pins σ H s) (hi : PI X tg iter wi) (ok : BlkOk X.N X.env.scope scope own) (hs : ∀ x, foldedSetIterable iter X.env x = pure x) (h : wi σ H R)
    (go : ∀ D it fp tn J H2 s3 s4, R J H2 → H2 D = none → Turn X.prog X.w X.K tg J fp it tn → Inv X pins σ (upd H2 D (.dK [])) s3 →
      Inv (X.blk s3 (upd H2 D (.dK [])) scope (ceOf scope s3 X.env) fp) [] (wipe σ (own.map (·.2))) (upd H2 D (.dK [])) s4 → tn 0 s4.heap → (∀ b ∈ fp, upd H2 D (.dK []) b = none) → (∀ b ∈ fp, FpOk X pins (upd H2 D (.dK [])) b) →
      LoopD X (⟨tg, iter, ifs, 0⟩ :: rest) kx vx scope pos D it s3 use Qf s4) :
    wpAny (model X.prog X.w) X.A (comprehension (.DictComp kx vx (⟨tg, iter, ifs, 0⟩ :: rest) scope pos) scope X.env pos' newDict false (eval iter X.env) use) Qf X.xe s := by
  have free : ∀ y ∈ scope.names, y.2 = .free → ∃ c, X.env.cells.lookup y.1 = some c := fun y hy e => (ok.free y hy e).elim (fun k => I.ok.has _ (.inl k)) fun k => I.ok.has _ (.inr k)
  refine wpAny_comprehension_free (use := use) rfl hs (closure_ok free) ok.kind (fun y hy e => by rw [ok.uniq y hy, e]) (thn (hi.run pins s σ H _ I h) fun xv s1 hx => thn hx fun itv s2 h2 => ?_)
  obtain ⟨it, fp, tn, J, H2, e, I2, T, st2, f2, q⟩ := h2
  subst e
  refine wpAny_newObj_type (newEnv_comp ?_)
  generalize hD : s2.heap.objs.size = D
  have hDn : H2 D = none := I2.hok.fresh (Nat.le_of_eq hD)
  generalize hs3 : ({ s2 with heap := s2.heap.push { cls := .type "dict", data := .dict #[] } } : Shared) = s3
  have h3 : s3.heap = s2.heap.push { cls := .type "dict", data := .dict #[] } := by rw [← hs3]
  have I3 : Inv X pins σ (upd H2 D (.dK [])) s3 := by
    rw [← hs3]
    refine I2.laid (t' := s2.toks) (fun b o e => Heap.get?_push_of_some _ e) (Nat.le_of_eq hD) ?_
    rw [← hD]
    exact dk_empty s2.heap I2.big
  have f3 : ∀ b ∈ fp, FpOk X pins (upd H2 D (.dK [])) b ∧ b < s3.heap.objs.size := fun b hb => by
    obtain ⟨o, e, _⟩ := T.obj _ _ st2 b hb
    have lt := Heap.lt_size e
    refine ⟨⟨?_, (f2 b hb).2⟩, by rw [h3, Heap.size_push]; exact Nat.lt_succ_of_lt lt⟩
    rw [upd_ne (by rw [← hD]; exact Nat.ne_of_lt lt)]
    exact (f2 b hb).1
  have st3 : tn 0 s3.heap := T.keep _ _ _ st2 fun b _ o e => by rw [h3]; exact Heap.get?_push_of_some _ e
  have st4 : tn 0 (pushCells (s3.heap.push { cls := .type "dict", data := .dict #[] }) scope.names) := T.keep _ _ _ st3 fun b _ o e => pushCells_keeps _ _ _ _ (Heap.get?_push_of_some _ e)
  have loop := go D it fp tn J H2 s3 { s3 with heap := pushCells (s3.heap.push { cls := .type "dict", data := .dict #[] }) scope.names } q hDn T I3 (block_start I3 ok hN f3) st4 (fun b hb => (f3 b hb).1.1) fun b hb => (f3 b hb).1
  exact codeAny_compStart_dict loop (T.self X.A 0 _ _ _ st4 loop)
end
/-- an entry is put in -/
def tPutD (D : Addr) (tk tv : TE) (Nx : Hp → Prop) : L2.St → Hp → Prop := fun σ H => tk σ H fun y H4 => tv σ H4 fun z H5 => ∃ kvs k, y = kV k ∧ H5 D = some (.dK kvs) ∧ kvs.length < sizeLine ∧ Nx (upd H5 D (.dK (putK kvs k z)))
/-- {k: v for tg in iter if .. for tg1 in iter1 if ..} -/
def tDc2 (wi : TI) (g : TG) (tt : TT) (wi1 : TI) (g1 : TG) (tt1 : TT) (tk tv : TE) (vs vs1 : List Nat) : TE := fun σ H Q => wi σ H fun J H1 => ∀ D, H1 D = none → ∃ W : Nat → Nat → Hp → Prop, (∃ m, W 0 m (upd H1 D (.dK []))) ∧ ∀ i m H, W i m H →
  (J.stop i H ∧ Q (.ref D) H) ∨ (J.go i H ∧ ∃ Nx : Hp → Prop, (∀ H', Nx H' → ∃ m', m' < m ∧ W (i + 1) m' H') ∧ ∀ x H', J.yld i H x H' → g x (wipe σ vs) H' fun σ2 H2 => wipe σ2 vs = wipe σ vs ∧ tt σ2 H2 fun b H3 =>
    if b = true then wi1 σ2 H3 fun J1 H4 => ∃ W1 : Nat → Nat → Hp → Prop, (∃ m, W1 0 m H4) ∧ ∀ j k H, W1 j k H →
      (J1.stop j H ∧ Nx H) ∨ (J1.go j H ∧ ∃ Nx1 : Hp → Prop, (∀ H', Nx1 H' → ∃ k', k' < k ∧ W1 (j + 1) k' H') ∧ ∀ x H', J1.yld j H x H' → g1 x (wipe σ2 vs1) H' fun σ3 H5 => wipe σ3 vs1 = wipe σ2 vs1 ∧ tt1 σ3 H5 fun b H6 =>
        if b = true then tPutD D tk tv Nx1 σ3 H6 else Nx1 H6)
    else Nx H3)
section
variable {X : Cx} {kx vx tg iter : Expr} {ifs : List Expr} {scope : Scope} {own : List (Str × Nat)} {pos : Pos} {wi : TI} {g : TG} {tt : TT} {tk tv : TE}
theorem pe_dc2 {tg1 iter1 : Expr} {ifs1 : List Expr} {vs1 : List Nat} {wi1 : TI} {g1 : TG} {tt1 : TT} (hc : X.calm = true) (hN : X.N.Nodup) (hi : PI X tg iter wi) (ok : BlkOk X.N X.env.scope scope own) (hv : ∀ i ∈ vs1, i ∈ own.map (·.2))
    (hg : ∀ s H C cl fp, PG (Blk X scope s H C cl fp) tg g) (ht : ∀ s H C cl fp, PTs (Blk X scope s H C cl fp) ifs tt) (hi1 : ∀ s H C cl fp, PI (Blk X scope s H C cl fp) tg1 iter1 wi1) (hg1 : ∀ s H C cl fp, PG (Blk X scope s H C cl fp) tg1 g1) (ht1 : ∀ s H C cl fp, PTs (Blk X scope s H C cl fp) ifs1 tt1)
    (hk : ∀ s H C cl fp, PE (Blk X scope s H C cl fp) kx tk) (he : ∀ s H C cl fp, PE (Blk X scope s H C cl fp) vx tv) (hs : ∀ x, foldedSetIterable iter X.env x = pure x := by intro _; rfl) (hs1 : ∀ env x, foldedSetIterable iter1 env x = pure x := by intro _ _; rfl) :
    PE X (.DictComp kx vx [⟨tg, iter, ifs, 0⟩, ⟨tg1, iter1, ifs1, 0⟩] scope pos) (tDc2 wi g tt wi1 g1 tt1 tk tv (own.map (·.2)) vs1) := by
  refine ⟨fun pins s σ H Q I h => ?_⟩
  rw [arm_eval_DictComp]
  refine dc_open hN I hi ok hs h fun D it fp tn J H2 s3 s4 q hDn T I3 I4 st4 nfp f3 => ?_
  obtain ⟨W, ⟨m0, w0⟩, turn⟩ := q D hDn
  generalize upd H2 D (.dK []) = H3 at I3 I4 nfp f3 w0
  have pg := hg s3 H3 s3.heap.objs.size (cellsFrom (s3.heap.objs.size + 1) scope.names (cloFrom X.env.cells scope.names [])) fp
  have pt := ht s3 H3 s3.heap.objs.size (cellsFrom (s3.heap.objs.size + 1) scope.names (cloFrom X.env.cells scope.names [])) fp
  have pk := hk s3 H3 s3.heap.objs.size (cellsFrom (s3.heap.objs.size + 1) scope.names (cloFrom X.env.cells scope.names [])) fp
  have pe := he s3 H3 s3.heap.objs.size (cellsFrom (s3.heap.objs.size + 1) scope.names (cloFrom X.env.cells scope.names [])) fp
  have pi1 := hi1 s3 H3 s3.heap.objs.size (cellsFrom (s3.heap.objs.size + 1) scope.names (cloFrom X.env.cells scope.names [])) fp
  have pg1 := hg1 s3 H3 s3.heap.objs.size (cellsFrom (s3.heap.objs.size + 1) scope.names (cloFrom X.env.cells scope.names [])) fp
  have pt1 := ht1 s3 H3 s3.heap.objs.size (cellsFrom (s3.heap.objs.size + 1) scope.names (cloFrom X.env.cells scope.names [])) fp
  refine loopD_out (hs1 _) (fun n z => ∃ i H', Inv (X.blk s3 H3 scope (ceOf scope s3 X.env) fp) [] (wipe σ (own.map (·.2))) H' z ∧ tn i z.heap ∧ (∀ b ∈ fp, H' b = none) ∧ W i n H') ?_ m0 ⟨0, H3, I4, st4, nfp, w0⟩
  rintro n z ⟨i, H5, I5, st5, n5, w5⟩
  rcases turn i n H5 w5 with ⟨stop, qq⟩ | ⟨go, Nx, hNx, step⟩
  · refine thnF (T.done (X.blk s3 H3 scope (ceOf scope s3 X.env) fp) rfl rfl rfl hc i [] z _ H5 (fun _ _ => False) I5 (blk_stat I5 n5) st5 stop) fun r z6 ⟨hr, I6⟩ => ?_
    subst hr
    refine sc_close I3 f3 I6 fun m I7 hn f => ⟨m, hn, fun h'' sb => ?_⟩
    exact ⟨.ref D, H5, I7.turned (t' := z6.toks) (fun b o hb e => (sb.2 b hb).trans e) f.1 f.2.1 f.2.2.2.1 f.2.2.2.2.1 f.2.2.2.2.2, rfl, qq⟩
  · refine thnF (T.item (X.blk s3 H3 scope (ceOf scope s3 X.env) fp) rfl rfl rfl hc i [] z _ H5 (fun _ _ => False) I5 (blk_stat I5 n5) st5 go) fun r z6 ⟨u, hr, h6⟩ => ?_
    subst hr
    refine thnF h6 fun _ z7 ⟨x, H7, I7, r7, y7, st7, n7⟩ => ?_
    refine thnF (pg.run _ z7 _ H7 x u _ (I7.pinned (blk_stat I7 n7) (T.obj _ _ st7)) r7 (step x H7 y7)) fun _ z8 ⟨σ8, H8, I8, hw8, q8⟩ => ?_
    refine thnF (pt.run _ z8 σ8 H8 _ I8 q8) fun b z9 ⟨H9, I9, q9⟩ => ?_
    obtain ⟨hl, hk'⟩ := wiped hw8
    cases b with
    | false =>
      rw [if_neg Bool.false_ne_true] at q9 ⊢
      exact turn_end T hNx st7 I9 hl hk' q9
    | true =>
      rw [if_pos rfl] at q9 ⊢
      refine thnF (pi1.run _ z9 σ8 H9 _ I9 q9) fun xv z10 hx => thnF hx fun itv z11 h11 => ?_
      obtain ⟨it1, fp1, tn1, J1, H11, e1, I11, T1, st11, f11, W1, ⟨m1, w1⟩, turn1⟩ := h11
      subst e1
      have hk9 : ∀ (l : Nat) v, (wipe σ (own.map (·.2)))[l]? = some (some v) → (wipe σ8 vs1)[l]? = some (some v) := fun l v e => by
        rw [← hw8] at e
        obtain ⟨e1, e2⟩ := wipe_some e
        rw [L2.wipe_out fun z => e2 (hv l z)]
        exact e1
      have stat1 : ∀ {H' : Hp}, (∀ b ∈ fp1, H' b = none) → ∀ b ∈ fp1, FpOk (X.blk s3 H3 scope (ceOf scope s3 X.env) fp) ([] ++ pinsAt fp z7.heap) H' b := fun hn b hb => ⟨hn b hb, (f11 b hb).2⟩
      have inner : codeAny (model X.prog X.w) X.A (.compLoop (dc2 kx vx tg iter tg1 iter1 ifs ifs1 scope pos) 1 (.ref it1) (.ref D) (ceOf scope s3 X.env)) (fun r z => match r with
          | .ok _ => ∃ m, m < n ∧ ∃ i H', Inv (X.blk s3 H3 scope (ceOf scope s3 X.env) fp) [] (wipe σ (own.map (·.2))) H' z ∧ tn i z.heap ∧ (∀ b ∈ fp, H' b = none) ∧ W i m H'
          | .error _ => False) z11 := by
        refine loopD_in (fun k z => ∃ j H', Inv (X.blk s3 H3 scope (ceOf scope s3 X.env) fp) ([] ++ pinsAt fp z7.heap) (wipe σ8 vs1) H' z ∧ tn1 j z.heap ∧ (∀ b ∈ fp1, H' b = none) ∧ W1 j k H') ?_ m1 ⟨0, H11, I11.weak (wipe_length _ _) (fun j v e => (wipe_some e).1), st11, fun b hb => (f11 b hb).1, w1⟩
        rintro k z12 ⟨j, H12, I12, st12, n12, w12⟩
        rcases turn1 j k H12 w12 with ⟨stop1, nx1⟩ | ⟨go1, Nx1, hNx1, step1⟩
        · refine thnF (T1.done (X.blk s3 H3 scope (ceOf scope s3 X.env) fp) rfl rfl rfl hc j _ z12 (wipe σ8 vs1) H12 (fun _ _ => False) I12 (stat1 n12) st12 stop1) fun r z13 ⟨hr, I13⟩ => ?_
          subst hr
          exact turn_end T hNx st7 I13 (hl.trans (wipe_length σ8 vs1).symm) hk9 nx1
        · refine thnF (T1.item (X.blk s3 H3 scope (ceOf scope s3 X.env) fp) rfl rfl rfl hc j _ z12 (wipe σ8 vs1) H12 (fun _ _ => False) I12 (stat1 n12) st12 go1) fun r z13 ⟨u1, hr, h13⟩ => ?_
          subst hr
          refine thnF h13 fun _ z14 ⟨x1, H14, I14, r14, y14, st14, n14⟩ => ?_
          refine thnF (pg1.run _ z14 (wipe σ8 vs1) H14 x1 u1 _ (I14.pinned (stat1 n14) (T1.obj _ _ st14)) r14 (step1 x1 H14 y14)) fun _ z15 ⟨σ15, H15, I15, hw15, q15⟩ => ?_
          refine thnF (pt1.run _ z15 σ15 H15 _ I15 q15) fun b1 z16 ⟨H16, I16, q16⟩ => ?_
          obtain ⟨hl1, hk1⟩ := wiped hw15
          cases b1 with
          | false =>
            rw [if_neg Bool.false_ne_true] at q16 ⊢
            exact turn_end T1 hNx1 st14 I16 hl1 hk1 q16
          | true =>
            rw [if_pos rfl] at q16 ⊢
            refine thnF (pk.run _ z16 σ15 H16 _ I16 q16) fun kv z17 ⟨yk, H17, I17, r17, q17⟩ => ?_
            refine thnF (pe.run _ z17 σ15 H17 _ I17 q17) fun vv z18 ⟨yv, H18, I18, r18, kvs, kk, ek, hD18, hz18, nx⟩ => ?_
            subst ek
            exact d_dictSet (X := X.blk s3 H3 scope (ceOf scope s3 X.env) fp) I18 hD18 hz18 r17 r18 fun z19 I19 => turn_end T1 hNx1 st14 I19 hl1 hk1 nx
      exact startD_in inner (T1.self X.A 0 _ _ _ st11 inner)
end
end FS
namespace FM
open PySem PySem.Spec PyProof.Rows L2 FS
/-! ### {k: v for ..}, a dict that never changes -/
abbrev Kd2 := List L2.Key × List Dt
def dcPut {β : Type} (mk mv : ME) (g : Gam) (m : Cells) (ks : List L2.Key) (ds : List Dt) (k : List L2.Key → List Dt → Cells → Rs β) : Rs β := match mk g m with
  | .ok y m3 => (match mv g m3 with
    | .ok (.d d) m4 => (match keyOf y with
      | some key => if szOk (ks.length + 1) then k (dPutK ks key) (dPutV ks ds key d) m4 else .bad
      | none => .bad)
    | _ => .bad)
  | _ => .bad
def dcLoop (mg : MG) (mt : MT) (mk mv : ME) (g0 : Gam) : List Dt → List L2.Key → List Dt → Cells → Rs Kd2
  | [], ks, ds, m => .ok (ks, ds) m
  | x :: r, ks, ds, m => match mg (.d x) g0 m with
    | none => .bad
    | some p => match mt p.1 p.2 with
      | .ok true m2 => dcPut mk mv p.1 m2 ks ds fun ks ds m => dcLoop mg mt mk mv g0 r ks ds m
      | .ok false m2 => dcLoop mg mt mk mv g0 r ks ds m2
      | _ => .bad
def dcLoop2 (mg : MG) (mt : MT) (mi1 : MI) (mg1 : MG) (mt1 : MT) (mk mv : ME) (own1 : List Nat) (g0 : Gam) : List Dt → List L2.Key → List Dt → Cells → Rs Kd2
  | [], ks, ds, m => .ok (ks, ds) m
  | x :: r, ks, ds, m => match mg (.d x) g0 m with
    | none => .bad
    | some p => match mt p.1 p.2 with
      | .ok true m2 => (match mi1 p.1 m2 with
        | .ok ys m3 => (dcLoop mg1 mt1 mk mv (wipeG p.1 own1) ys ks ds m3).bind fun q m4 => dcLoop2 mg mt mi1 mg1 mt1 mk mv own1 g0 r q.1 q.2 m4
        | _ => .bad)
      | .ok false m2 => dcLoop2 mg mt mi1 mg1 mt1 mk mv own1 g0 r ks ds m2
      | _ => .bad
def mDc2 (mi : MI) (mg : MG) (mt : MT) (mi1 : MI) (mg1 : MG) (mt1 : MT) (mk mv : ME) (own own1 : List Nat) : ME := fun g m => (mi g m).bind fun xs m1 => (dcLoop2 mg mt mi1 mg1 mt1 mk mv own1 (wipeG g own) xs [] [] m1).bind fun q m2 => .ok (.d (.dct q.1 q.2)) m2
section
variable {C : Fc} {mi mi1 : MI} {mg mg1 : MG} {mt mt1 : MT} {mk mv : ME} {own own1 js js1 : List Nat} {tg tg1 : TG}
/-- the state with a dict at hand that is not told yet -/
abbrev RelD (C : Fc) (x : Option Xc) (B : Bs) (D : Addr) (I1 : Hp) (A1 : List Addr) (g : Gam) (S : List Vl) (m : Cells) (σ : L2.St) (vs : List V) (H I : Hp) (A : List Addr) (us : List V) (ks : List L2.Key) (ds : List Dt) : Prop :=
  ks.length = us.length ∧ us.length = ds.length ∧ Rel C.T x ⟨(D, .dK (ks.zip us)) :: B.F, I1, A1⟩ g (ds.map Vl.d ++ S) m σ (us ++ vs) H I A
theorem drs_vrs {T : Tab} {I : Hp} {A : List Addr} {us : List V} {ds : List Dt} (h : DRs T I us ds) : VRs T I A us (ds.map Vl.d) := by
  induction us generalizing ds with
  | nil => cases h; exact .nil
  | cons u us ih => cases h with | cons a t => exact .cons (.d a) (ih t)
theorem put_in {β : Type} {D : Addr} {B : Bs} {g2 : Gam} {S : List Vl} {σ3 : L2.St} {vs : List V} {I1 : Hp} {A1 : List Addr} {Z : Rs β → Prop} {Nx : Hp → Prop} {k : List L2.Key → List Dt → Cells → Rs β} (hz : ¬ Z .bad) {us : List V} {ks : List L2.Key} {ds : List Dt} {m : Cells} {H I : Hp} {A : List Addr}
    (h1 : ks.length = us.length) (h2 : us.length = ds.length) (r : Rel C.T none ⟨(D, .dK (ks.zip us)) :: B.F, I1, A1⟩ g2 (ds.map Vl.d ++ S) m σ3 (us ++ vs) H I A) (w : Z (dcPut mk mv g2 m ks ds k))
    (fin : ∀ us ks ds m H I A, ks.length = us.length → us.length = ds.length → Rel C.T none ⟨(D, .dK (ks.zip us)) :: B.F, I1, A1⟩ g2 (ds.map Vl.d ++ S) m σ3 (us ++ vs) H I A → Z (k ks ds m) → Nx H) :
    tPutD D (FE C.quiet mk) (FE C.quiet mv) Nx σ3 H := by
  refine ⟨_, g2, _, m, _, I, A, r, ?_⟩
  unfold dcPut at w
  cases ea : mk g2 m with
  | bad => simp only [ea] at w; exact (hz w).elim
  | ex c fs m' => simp only [ea] at w; exact (hz w).elim
  | ok y m3 =>
    simp only [ea] at w
    intro yv H3 I3 A3 r3
    refine ⟨_, g2, _, m3, _, I3, A3, r3, ?_⟩
    cases eb : mv g2 m3 with
    | bad => simp only [eb] at w; exact (hz w).elim
    | ex c fs m' => simp only [eb] at w; exact (hz w).elim
    | ok v m4 =>
      simp only [eb] at w
      cases v with
      | ref j => exact (hz w).elim
      | lam z => exact (hz w).elim
      | d d =>
        intro zv H4 I4 A4 r4
        have w2 : Z (match keyOf y with
          | some key => if szOk (ks.length + 1) then k (dPutK ks key) (dPutV ks ds key d) m4 else .bad
          | none => .bad) := w
        cases ek : keyOf y with
        | none => rw [ek] at w2; exact (hz w2).elim
        | some key =>
          rw [ek] at w2
          by_cases hq : szOk (ks.length + 1) = true
          · simp only [hq, if_true] at w2
            obtain ⟨f1, f2, f3⟩ := r4.base.fm _ List.mem_cons_self
            have hlt : (ks.zip us).length < sizeLine := by
              have := szOk_line hq
              rw [List.length_zip, h1, Nat.min_self]
              omega
            have ey := keyOf_ok r4.pop1.top ek
            have hd := r4.top.dat
            have hsp := r4.pop1.pop1.stk.split (by simpa using h2)
            have hds : DRs C.T I4 us ds := vrs_drs hsp.1
            obtain ⟨e1, e2⟩ := putK_zip (k := key) (v := zv) h1
            have hput := dPutV_dr (k := key) hd h1 hds
            refine ⟨ks.zip us, key, ey, f1, hlt, fin (dPutV ks us key zv) (dPutK ks key) (dPutV ks ds key d) m4 _ I4 A4 e2 hput.len ?_ w2⟩
            rw [e1]
            exact ⟨r4.base.hput, r4.up, r4.ctx, (drs_vrs hput).app hsp.2, trivial⟩
          · simp only [hq] at w2; exact (hz w2).elim
theorem dc_in (hg : ∀ v σ H Q, FG C.quiet mg1 v σ H Q → tg1 v σ H Q) (hf : Fills tg1 js1) (hj : ∀ j ∈ js1, j ∈ own1) {D : Addr} {B : Bs} {g : Gam} {S : List Vl} {σ : L2.St} {vs : List V} {J : It} {ys : List Dt} {I1 : Hp} {A1 : List Addr} {Z : Rs Kd2 → Prop} {Nx : Hp → Prop}
    (it : ∀ F, ItD C.T none ⟨F, I1, A1⟩ J ys) (hz : ¬ Z .bad) (cg : Ctx C.T I1 A1 σ g)
    (fin : ∀ us ks ds m H' I A, RelD C none B D I1 A1 g S m σ vs H' I A us ks ds → Z (.ok (ks, ds) m) → Nx H') {us : List V} {ks : List L2.Key} {ds : List Dt} {m : Cells} {H I : Hp} {A : List Addr} (r : RelD C none B D I1 A1 g S m σ vs H I A us ks ds) (w : Z (dcLoop mg1 mt1 mk mv (wipeG g own1) ys ks ds m)) :
    ∃ W1 : Nat → Nat → Hp → Prop, (∃ n, W1 0 n H) ∧ ∀ j k H, W1 j k H → (J.stop j H ∧ Nx H) ∨ (J.go j H ∧ ∃ Nx1 : Hp → Prop, (∀ H', Nx1 H' → ∃ k', k' < k ∧ W1 (j + 1) k' H') ∧ ∀ x H', J.yld j H x H' → tg1 x (L2.wipe σ own1) H' fun σ3 H5 => L2.wipe σ3 own1 = L2.wipe σ own1 ∧ FT C.quiet mt1 σ3 H5 fun b H6 =>
      if b = true then tPutD D (FE C.quiet mk) (FE C.quiet mv) Nx1 σ3 H6 else Nx1 H6) := by
  refine ⟨fun i n H' => i + n = ys.length ∧ ∃ (us : List V) (ks : List L2.Key) (ds : List Dt) (m : Cells) (I : Hp) (A : List Addr), RelD C none B D I1 A1 g S m σ vs H' I A us ks ds ∧ Z (dcLoop mg1 mt1 mk mv (wipeG g own1) (ys.drop i) ks ds m), ⟨ys.length, by omega, us, ks, ds, m, I, A, r, by simpa using w⟩, ?_⟩
  rintro i n H' ⟨hn, us, ks, ds, m, I, A, ⟨hl, hl2, r⟩, w⟩
  have itd := it ((D, .dK (ks.zip us)) :: B.F)
  by_cases hi : i < ys.length
  · have hdr : ys.drop i = ys[i] :: ys.drop (i + 1) := List.drop_eq_getElem_cons hi
    rw [hdr] at w
    refine .inr ⟨itd.go i _ _ _ _ _ H' I A hi r, fun H2 => ∃ (us : List V) (ks : List L2.Key) (ds : List Dt) (m : Cells) (I : Hp) (A : List Addr), RelD C none B D I1 A1 g S m σ vs H2 I A us ks ds ∧ Z (dcLoop mg1 mt1 mk mv (wipeG g own1) (ys.drop (i + 1)) ks ds m), fun H2 q => ⟨n - 1, by omega, by omega, q⟩, fun v H2 hy => ?_⟩
    obtain ⟨I2, r2⟩ := itd.yl i _ _ _ _ _ H' I A v H2 ys[i] (List.getElem?_eq_getElem hi) r hy
    have back : ∀ {us : List V} {ks : List L2.Key} {ds : List Dt} {g2 : Gam} {m2 : Cells} {σ2 : L2.St} {H2 I2 : Hp} {A2 : List Addr}, ks.length = us.length → us.length = ds.length → Rel C.T none ⟨(D, .dK (ks.zip us)) :: B.F, I1, A1⟩ g2 (ds.map Vl.d ++ S) m2 σ2 (us ++ vs) H2 I2 A2 → RelD C none B D I1 A1 g S m2 σ vs H2 I2 A2 us ks ds := fun {us ks ds g2 m2 σ2 H2 I2 A2} hl hl2 r => ⟨hl, hl2, r.base, r.up, cg.mono r.up, r.stk, trivial⟩
    have r3 : Rel C.T none ⟨(D, .dK (ks.zip us)) :: B.F, I1, A1⟩ (wipeG g own1) (.d ys[i] :: (ds.map Vl.d ++ S)) m (L2.wipe σ own1) (v :: (us ++ vs)) H2 I2 A := ⟨r2.base, r2.up, r2.ctx.wipe own1, r2.stk, trivial⟩
    unfold dcLoop at w
    cases eb : mg1 (.d ys[i]) (wipeG g own1) m with
    | none => simp only [eb] at w; exact (hz w).elim
    | some p =>
      simp only [eb] at w
      refine hf _ _ _ (fun σ' Hq => Only js1 (L2.wipe σ own1) σ' → L2.wipe σ' own1 = L2.wipe σ own1 ∧ FT C.quiet mt1 σ' Hq _) _ (hg _ _ _ _ ⟨_, wipeG g own1, _, m, _, I2, A, _, r3, ?_⟩) fun σ' Hq ho hq => hq ho
      rw [eb]
      intro σ3 H3 I3 A3 r4 ho
      refine ⟨wipe_only hj ho, _, p.1, _, p.2, _, I3, A3, r4, ?_⟩
      cases ec : mt1 p.1 p.2 with
      | bad => simp only [ec] at w; exact (hz w).elim
      | ex c fs m' => simp only [ec] at w; exact (hz w).elim
      | ok b m2 =>
        simp only [ec] at w
        intro H4 I4 A4 r5
        cases b with
        | false =>
          rw [if_neg Bool.false_ne_true]
          exact ⟨us, ks, ds, m2, I4, A4, back hl hl2 r5, w⟩
        | true =>
          rw [if_pos rfl]
          exact put_in hz hl hl2 r5 w fun us ks ds m H I A q1 q2 r w => ⟨us, ks, ds, m, I, A, back q1 q2 r, w⟩
  · have hdr : ys.drop i = [] := List.drop_eq_nil_of_le (by omega)
    rw [hdr] at w
    exact .inl ⟨itd.st i _ _ _ _ _ H' I A (by omega) r, fin us ks ds m H' I A ⟨hl, hl2, r⟩ w⟩
theorem dc_fin {D : Addr} {B : Bs} {g : Gam} {S : List Vl} {σ : L2.St} {vs : List V} {Q : VK} {I1 : Hp} {A1 : List Addr} {us : List V} {ks : List L2.Key} {ds : List Dt} {m2 : Cells} {H2 I2 : Hp} {A2 : List Addr} (cx : C.x = none) (up : Up B.I I1 B.A A1) (r : RelD C none B D I1 A1 g S m2 σ vs H2 I2 A2 us ks ds) (w2 : WantE C B g S σ vs Q (.ok (.d (.dct ks ds)) m2)) : Q (.ref D) H2 := by
  obtain ⟨hl, hl2, r2⟩ := r
  have hsp := r2.stk.split (by simpa using hl2)
  obtain ⟨b, e⟩ := r2.base.show_
  exact w2 _ _ _ _ ((⟨b, (up.trans r2.up).trans e, r2.ctx.mono e, hsp.2.mono e, by rw [cx]; trivial⟩ : Rel C.T C.x B g S m2 σ vs H2 _ A2).push (.d (.dct upd_same hl ((vrs_drs hsp.1).mono e.i))))
theorem le_dc2 (hg : ∀ v σ H Q, FG C.quiet mg v σ H Q → tg v σ H Q) (hf : Fills tg js) (hj : ∀ j ∈ js, j ∈ own) (hg1 : ∀ v σ H Q, FG C.quiet mg1 v σ H Q → tg1 v σ H Q) (hf1 : Fills tg1 js1) (hj1 : ∀ j ∈ js1, j ∈ own1) (cx : C.x = none) {σ : L2.St} {H : Hp} {Q : VK} (h : FE C (mDc2 mi mg mt mi1 mg1 mt1 mk mv own own1) σ H Q) : tDc2 (FI C mi) tg (FT C.quiet mt) (FI C.quiet mi1) tg1 (FT C.quiet mt1) (FE C.quiet mk) (FE C.quiet mv) own own1 σ H Q := by
  obtain ⟨B, g, S, m, vs, I, A, r, w⟩ := h
  refine ⟨B, g, S, m, vs, I, A, r, ?_⟩
  unfold mDc2 at w
  cases ea : mi g m with
  | bad => rw [ea] at w; exact w.elim
  | ex c fs m' => rw [ea] at w; exact w
  | ok xs m1 =>
    rw [ea] at w
    intro J H1 I1 A1 r1 it D hD
    rw [cx] at r1 it
    have w1 : WantE C B g S σ vs Q ((dcLoop2 mg mt mi1 mg1 mt1 mk mv own1 (wipeG g own) xs [] [] m1).bind fun q m2 => .ok (.d (.dct q.1 q.2)) m2) := w
    refine ⟨fun i n H' => i + n = xs.length ∧ ∃ (us : List V) (ks : List L2.Key) (ds : List Dt) (m : Cells) (I : Hp) (A : List Addr), RelD C none B D I1 A1 g S m σ vs H' I A us ks ds ∧ WantE C B g S σ vs Q ((dcLoop2 mg mt mi1 mg1 mt1 mk mv own1 (wipeG g own) (xs.drop i) ks ds m).bind fun q m2 => .ok (.d (.dct q.1 q.2)) m2), ⟨xs.length, by omega, [], [], [], m1, I1, A1, ⟨rfl, rfl, r1.base.hide hD, Up.refl, r1.ctx, r1.stk, trivial⟩, by simpa using w1⟩, ?_⟩
    rintro i n H' ⟨hn, us, ks, ds, m, I, A, ⟨hl, hl2, r⟩, w⟩
    have itd := it ((D, .dK (ks.zip us)) :: B.F)
    by_cases hi : i < xs.length
    · have hdr : xs.drop i = xs[i] :: xs.drop (i + 1) := List.drop_eq_getElem_cons hi
      rw [hdr] at w
      refine .inr ⟨itd.go i _ _ _ _ _ H' I A hi r, fun H2 => ∃ (us : List V) (ks : List L2.Key) (ds : List Dt) (m : Cells) (I : Hp) (A : List Addr), RelD C none B D I1 A1 g S m σ vs H2 I A us ks ds ∧ WantE C B g S σ vs Q ((dcLoop2 mg mt mi1 mg1 mt1 mk mv own1 (wipeG g own) (xs.drop (i + 1)) ks ds m).bind fun q m2 => .ok (.d (.dct q.1 q.2)) m2), fun H2 q => ⟨n - 1, by omega, by omega, q⟩, fun v H2 hy => ?_⟩
      obtain ⟨I2, r2⟩ := itd.yl i _ _ _ _ _ H' I A v H2 xs[i] (List.getElem?_eq_getElem hi) r hy
      have back : ∀ {us : List V} {ks : List L2.Key} {ds : List Dt} {g2 : Gam} {m2 : Cells} {σ2 : L2.St} {H2 I2 : Hp} {A2 : List Addr}, ks.length = us.length → us.length = ds.length → Rel C.T none ⟨(D, .dK (ks.zip us)) :: B.F, I1, A1⟩ g2 (ds.map Vl.d ++ S) m2 σ2 (us ++ vs) H2 I2 A2 → RelD C none B D I1 A1 g S m2 σ vs H2 I2 A2 us ks ds := fun {us ks ds g2 m2 σ2 H2 I2 A2} hl hl2 r => ⟨hl, hl2, r.base, r.up, r1.ctx.mono r.up, r.stk, trivial⟩
      have r3 : Rel C.T none ⟨(D, .dK (ks.zip us)) :: B.F, I1, A1⟩ (wipeG g own) (.d xs[i] :: (ds.map Vl.d ++ S)) m (L2.wipe σ own) (v :: (us ++ vs)) H2 I2 A := ⟨r2.base, r2.up, r2.ctx.wipe own, r2.stk, trivial⟩
      unfold dcLoop2 at w
      cases eb : mg (.d xs[i]) (wipeG g own) m with
      | none => rw [eb] at w; exact (show False from w).elim
      | some p =>
        simp only [eb] at w
        refine hf _ _ _ (fun σ' Hq => Only js (L2.wipe σ own) σ' → L2.wipe σ' own = L2.wipe σ own ∧ FT C.quiet mt σ' Hq _) _ (hg _ _ _ _ ⟨_, wipeG g own, _, m, _, I2, A, _, r3, ?_⟩) fun σ' Hq ho hq => hq ho
        rw [eb]
        intro σ3 H3 I3 A3 r4 ho
        refine ⟨wipe_only hj ho, _, p.1, _, p.2, _, I3, A3, r4, ?_⟩
        cases ec : mt p.1 p.2 with
        | bad => simp only [ec] at w; exact (show False from w).elim
        | ex c fs m' => simp only [ec] at w; exact (show False from w).elim
        | ok b m2 =>
          simp only [ec] at w
          intro H4 I4 A4 r5
          cases b with
          | false =>
            rw [if_neg Bool.false_ne_true]
            exact ⟨us, ks, ds, m2, I4, A4, back hl hl2 r5, w⟩
          | true =>
            rw [if_pos rfl]
            refine ⟨_, p.1, _, m2, _, I4, A4, r5, ?_⟩
            cases ed : mi1 p.1 m2 with
            | bad => simp only [ed] at w; exact (show False from w).elim
            | ex c fs m' => simp only [ed] at w; exact (show False from w).elim
            | ok ys m3 =>
              simp only [ed] at w
              intro J1 H5 I5 A5 r6 it1
              have w2 : WantE C B g S σ vs Q ((dcLoop mg1 mt1 mk mv (wipeG p.1 own1) ys ks ds m3).bind fun q m4 => (dcLoop2 mg mt mi1 mg1 mt1 mk mv own1 (wipeG g own) (xs.drop (i + 1)) q.1 q.2 m4).bind fun q m2 => .ok (.d (.dct q.1 q.2)) m2) := by rw [← bind_bind]; exact w
              exact dc_in (Z := fun q => WantE C B g S σ vs Q (q.bind fun q m4 => (dcLoop2 mg mt mi1 mg1 mt1 mk mv own1 (wipeG g own) (xs.drop (i + 1)) q.1 q.2 m4).bind fun q m2 => .ok (.d (.dct q.1 q.2)) m2)) hg1 hf1 hj1 it1 (fun z => z) r6.ctx
                (fun us ks ds m H' I A r' z => ⟨us, ks, ds, m, I, A, back r'.1 r'.2.1 (r'.2.2.from r6.up), z⟩) ⟨hl, hl2, r6.grip⟩ w2
    · have hdr : xs.drop i = [] := List.drop_eq_nil_of_le (by omega)
      rw [hdr] at w
      exact .inl ⟨itd.st i _ _ _ _ _ H' I A (by omega) r, dc_fin cx r1.up ⟨hl, hl2, r⟩ w⟩
end
theorem fe_dc2 {X : Cx} {C : Fc} {e : Expr} {mi mi1 : MI} {mg mg1 : MG} {mt mt1 : MT} {mk mv : ME} {own own1 js js1 : List Nat} {tg tg1 : TG} (h : PE X e (tDc2 (FI C mi) tg (FT C.quiet mt) (FI C.quiet mi1) tg1 (FT C.quiet mt1) (FE C.quiet mk) (FE C.quiet mv) own own1)) (hg : ∀ v σ H Q, FG C.quiet mg v σ H Q → tg v σ H Q) (hf : Fills tg js) (hj : ∀ j ∈ js, j ∈ own) (hg1 : ∀ v σ H Q, FG C.quiet mg1 v σ H Q → tg1 v σ H Q) (hf1 : Fills tg1 js1) (hj1 : ∀ j ∈ js1, j ∈ own1) (cx : C.x = none) : PE X e (FE C (mDc2 mi mg mt mi1 mg1 mt1 mk mv own own1)) :=
  pe_of h fun σ H Q => le_dc2 hg hf hj hg1 hf1 hj1 cx
/-! ### in the style of weakest preconditions -/
section
variable {g : Gam} {m : Cells} {E : EX} {Q : Vl → Cells → Prop} {mi mi1 : MI} {mg mg1 : MG} {mt mt1 : MT} {mk mv : ME} {own own1 : List Nat}
theorem w_dc2 (h : wR (mi g m) (fun xs m1 => wR (dcLoop2 mg mt mi1 mg1 mt1 mk mv own1 (wipeG g own) xs [] [] m1) (fun q m2 => Q (.d (.dct q.1 q.2)) m2) E) E) : wR (mDc2 mi mg mt mi1 mg1 mt1 mk mv own own1 g m) Q E := w_bind (wR_mono h fun xs m1 h => w_bind (wR_mono h fun _ _ h => wR_eq rfl h))
/-- each gives an entry, nothing changes -/
theorem w_dcMap {α : Type} (e : α → Dt) (kf : α → L2.Key) (vf : α → Dt) {g0 : Gam} {Q : Kd2 → Cells → Prop} : ∀ {as : List α} {ks : List L2.Key} {ds : List Dt} {m : Cells},
    (∀ a ∈ as, wO (mg (.d (e a)) g0 m) fun p => wR (mt p.1 p.2) (fun b m2 => b = true ∧ wR (mk p.1 m2) (fun y m3 => keyOf y = some (kf a) ∧ wR (mv p.1 m3) (fun v m4 => v = .d (vf a) ∧ m4 = m) eNo) eNo) eNo) →
    ks.length + as.length ≤ 16777216 → Q (as.foldl (fun q a => (dPutK q.1 (kf a), dPutV q.1 q.2 (kf a) (vf a))) (ks, ds)) m → wR (dcLoop mg mt mk mv g0 (as.map e) ks ds m) Q E
  | [], ks, ds, m, hs, hz, q => wR_eq rfl q
  | a :: as, ks, ds, m, hs, hz, q => by
    rw [List.map_cons, dcLoop]
    rw [List.length_cons] at hz
    obtain ⟨p, e1, h1⟩ := wO_ok (hs a (by simp))
    simp only [e1]
    obtain ⟨b, m2, e2, rfl, h2⟩ := wR_ok h1
    simp only [e2]
    obtain ⟨y, m3, e3, h3, h4⟩ := wR_ok h2
    obtain ⟨v, m4, e4, rfl, rfl⟩ := wR_ok h4
    unfold dcPut
    simp only [e3, e4, h3, sz_le (show ks.length + 1 ≤ 16777216 by omega), if_true]
    refine w_dcMap e kf vf (fun a ha => hs a (List.mem_cons_of_mem _ ha)) ?_ q
    have : (dPutK ks (kf a)).length ≤ ks.length + 1 := by unfold dPutK; split <;> simp
    omega
theorem w_dcFlat {α β : Type} (e : α → Dt) (f : α → List β) (e1 : β → Dt) (kf : α → β → L2.Key) (vf : α → β → Dt) {g0 : Gam} {Q : Kd2 → Cells → Prop} : ∀ {as : List α} {ks : List L2.Key} {ds : List Dt} {m : Cells},
    (∀ a ∈ as, wO (mg (.d (e a)) g0 m) fun p => wR (mt p.1 p.2) (fun b m2 => b = true ∧ wR (mi1 p.1 m2) (fun ys m3 => ys = (f a).map e1 ∧ m3 = m ∧ ∀ c ∈ f a,
      wO (mg1 (.d (e1 c)) (wipeG p.1 own1) m3) fun p => wR (mt1 p.1 p.2) (fun b m2 => b = true ∧ wR (mk p.1 m2) (fun y m3 => keyOf y = some (kf a c) ∧ wR (mv p.1 m3) (fun v m4 => v = .d (vf a c) ∧ m4 = m) eNo) eNo) eNo) eNo) eNo) →
    ks.length + (as.map fun a => (f a).length).sum ≤ 16777216 → Q (as.foldl (fun q a => (f a).foldl (fun q c => (dPutK q.1 (kf a c), dPutV q.1 q.2 (kf a c) (vf a c))) q) (ks, ds)) m → wR (dcLoop2 mg mt mi1 mg1 mt1 mk mv own1 g0 (as.map e) ks ds m) Q E
  | [], ks, ds, m, hs, hz, q => wR_eq rfl q
  | a :: as, ks, ds, m, hs, hz, q => by
    rw [List.map_cons, dcLoop2]
    rw [List.map_cons, List.sum_cons] at hz
    obtain ⟨p, e1', h1⟩ := wO_ok (hs a (by simp))
    simp only [e1']
    obtain ⟨b, m2, e2, rfl, h2⟩ := wR_ok h1
    simp only [e2]
    obtain ⟨ys, m3, e3, rfl, rfl, h3⟩ := wR_ok h2
    simp only [e3]
    refine w_bind (w_dcMap (E := E) (mg := mg1) (mt := mt1) (mk := mk) (mv := mv) e1 (kf a) (vf a) h3 (by omega) ?_)
    refine w_dcFlat e f e1 kf vf (fun a ha => hs a (List.mem_cons_of_mem _ ha)) ?_ q
    have : ∀ (bs : List β) (q : Kd2), (bs.foldl (fun q c => (dPutK q.1 (kf a c), dPutV q.1 q.2 (kf a c) (vf a c))) q).1.length ≤ q.1.length + bs.length := by
      intro bs
      induction bs with
      | nil => intro q; simp
      | cons b bs ih =>
        intro q
        have h1 := ih (dPutK q.1 (kf a b), dPutV q.1 q.2 (kf a b) (vf a b))
        have h2 : (dPutK q.1 (kf a b)).length ≤ q.1.length + 1 := by unfold dPutK; split <;> simp
        rw [List.foldl_cons, List.length_cons]
        simp only at h1 ⊢
        omega
    exact Nat.le_trans (Nat.add_le_add_right (this (f a) (ks, ds)) _) (by show ks.length + _ + _ ≤ _; omega)
end
/-! ### what they leave as it is -/
end FM
namespace FM
open PySem PySem.Spec PyProof.Rows L2
/-! ### dict(pairs) -/
end FM
namespace FM
open PySem PySem.Spec PyProof.Rows L2
/-! ### a for over a list that may change, and does not while it is walked -/
/-! ### in the style of weakest preconditions -/
end FM
namespace FM
open PySem PySem.Spec PyProof.Rows L2
/-! ### a for over enumerate(a list that may change, and does not while it is walked) -/
end FM
namespace FM
open PySem PySem.Spec PyProof.Rows L2
open Classical
/-! ### xs.insert(i, y) of a list that may change -/
/-! ### [x] * n -/
/-! ### x or y by truth -/
/-! ### == of plain data and lists that may change -/
end FM
namespace FM
open PySem PySem.Spec PyProof.Rows L2
/-! ### list(dict), sorted(ints), min(tuple of ints) -/
/-! list of a dict's keys -/
def kDt : L2.Key → Dt
  | .inl i => .int i
  | .inr z => .str z
theorem dr_key {T : Tab} {I : Hp} (k : L2.Key) : DR T I (kV k) (kDt k) := by
  cases k with
  | inl i => exact .int i
  | inr z => exact .str z
theorem drs_keys {T : Tab} {I : Hp} : ∀ {ks : List L2.Key} {xs : List V}, ks.length = xs.length → DRs T I ((ks.zip xs).map fun kv => kV kv.1) (ks.map kDt)
  | [], [], _ => .nil
  | k :: ks, x :: xs, h => .cons (dr_key k) (drs_keys (by simpa using h))
  | [], _ :: _, h => by cases h
  | _ :: _, [], h => by cases h
def lListD : OL := fun m xs => match xs with
  | [x] => (dctOf m x).map fun p => p.1.map kDt
  | _ => none
theorem sim_listD {T : Tab} : SimL T rListD lListD := fun F I H A m ws ds es b hv e Q q => by
  unfold lListD at e
  split at e
  · rename_i x
    obtain ⟨w, rfl, hw⟩ := hv.one_inv
    cases hl : dctOf m x with
    | none => rw [hl] at e; cases e
    | some p =>
      rw [hl] at e; cases e
      obtain ⟨a, xs, rfl, g1, g2, g3⟩ := dctOf_ok b hw (ks := p.1) (ds := p.2) hl
      exact ⟨a, _, rfl, g1, fun l h => q l _ h (drs_keys g2)⟩
  · cases e
theorem wo_listD {m : Cells} {x : Vl} {ks : List L2.Key} {ds : List Dt} {Q : List Dt → Prop} (h : dctOf m x = some (ks, ds)) (q : Q (ks.map kDt)) : wO (lListD m [x]) Q := wO_eq (by simp only [lListD, h, Option.map_some]) q
/-! sorted of ints -/
/-! f(k = v, ..) -/
/-! tuple * n -/
end FM
namespace FM
open PySem PySem.Spec PyProof.Rows L2
open Classical
/-! ### [k for k in d if d[k] != t[k]]: d a dict that may change, its keys ints; t a tuple of plain things -/
end FM
namespace FM
open PySem PySem.Spec PyProof.Rows L2
open Classical
/-! ### dicts whose values may be cells (boxes) -/
section
variable {X : Cx} {C : Fc} {e : Expr} {st : Stmt} {me mb mc : ME}
inductive VPs (T : Tab) (I : Hp) (A : List Addr) : List (V × V) → List (L2.Key × Vl) → Prop
  | nil : VPs T I A [] []
  | cons {k : L2.Key} {v : V} {d : Vl} {ps : List (V × V)} {ds : List (L2.Key × Vl)} : VR T I A v d → VPs T I A ps ds → VPs T I A ((kV k, v) :: ps) ((k, d) :: ds)
theorem VPs.split {T : Tab} {I : Hp} {A : List Addr} {ps : List (V × V)} {es : List (L2.Key × Vl)} (h : VPs T I A ps es) : ∃ us : List V, us.length = es.length ∧ ps = ((es.map (·.1)).zip us).map (fun kv => (kV kv.1, kv.2)) ∧ VRs T I A us (es.map (·.2)) := by
  induction h with
  | nil => exact ⟨[], rfl, rfl, .nil⟩
  | @cons k v d ps ds a _ ih =>
    obtain ⟨us, h1, h2, h3⟩ := ih
    exact ⟨v :: us, by simp [h1], by rw [h2]; rfl, .cons a h3⟩
end
/-! what these ask -/
end FM
namespace FM
open PySem PySem.Spec PyProof.Rows L2
open Classical
/-! ### lists and tuples whose items may be cells -/
end FM
namespace FM
open PySem PySem.Spec PyProof.Rows L2
open Classical
/-! ### append and pop of a list box -/
end FM
namespace FM
open PySem PySem.Spec PyProof.Rows L2
open Classical
/-! ### a body that is looked at: no thing below gets new refs -/
/-! what these ask -/
end FM
namespace FM
open PySem PySem.Spec PyProof.Rows L2
open Classical
/-! ### targets: a tuple whose items may be cells -/
end FM
namespace FM
open PySem PySem.Spec PyProof.Rows L2
open Classical
/-! ### `in` a list of plain data, of whatever kinds -/
/-! ### where the names of a comprehension within one stand -/
end FM
namespace FM
open PySem PySem.Spec PyProof.Rows L2
open Classical
/-! ### x.f += n -/
end FM
namespace FM
open PySem PySem.Spec PyProof.Rows L2 FS
open Classical
/-! ### targets of a comprehension: a tuple whose items may be cells -/
/-! ### a comprehension over a list whose items may be cells -/
end FM
namespace FM
open PySem PySem.Spec PyProof.Rows L2
open Classical
/-! ### a for over enumerate(a list cell, a list, a tuple) -/
end FM
namespace FM
open PySem PySem.Spec PyProof.Rows L2
open Classical
/-! ### C(a, .., k = v, ..) that may change; keyword-only parameters left out have their defaults; __init__ raises nothing -/
end FM
namespace FM
open PySem PySem.Spec PyProof.Rows L2
open Classical
/-! ### a.split(b), a.join(rows) -/
end FM
namespace FM
open PySem PySem.Spec PyProof.Rows L2
open Classical
/-! ### C(k = v, ..) by keywords alone, frozen when it is made; __init__ raises nothing -/
/-! ### f'..' -/
/-! ### int of a text -/
end FM
namespace FM
open PySem PySem.Spec PyProof.Rows L2 L2H
open Classical
theorem takes0N {X : Cx} : L2N.Takes X (fun _ _ _ _ => False) := fun u s' ⟨_, _, _, _, _, _, _, _, _, _, _, _, _, _, _, _, w⟩ => w.elim
/-! ### what is called while an exception is handled -/
/-! ### e.m() of the exception that is handled -/
end FM
namespace FM
open PySem PySem.Spec PyProof.Rows L2 L2H
/-! ### .. its context, its facts, what it keeps -/
end FM
namespace FS
open PySem PySem.Spec PyProof.Rows L2 PySem.Froz
/-! ### a set of texts that stands by a name -/
section
variable {X : Cx}
theorem TxS.setOf {P : Program} {w : World} {h : Heap} {a : Addr} {L : List Str} (R : TxS P w h a L) (hb : L.length < scanBound) : h.SetOf (strKind P w) a (fun k => decide (k ∈ L)) L.length := by
  obtain ⟨⟨es, ep, t⟩, ho, F, _, _, _⟩ := R
  refine ⟨_, es, ep, t, ho, ⟨rfl, rfl, rfl⟩, rfl, F.el, fun k => ?_, by have := F.sz; simp only at this; omega, F.fit, F.sz⟩
  simp only [decide_eq_true_eq]
  exact F.mem k
/-- set() -/
def rSet0T (P : Program) (w : World) : List V → Hp → VK → Prop := fun xs H Q => xs = [] ∧ ∀ p, H p = none → Q (.ref p) (upd H p (SetTx P w p []))
theorem cr_set0T : CallR X (.type "set") (rSet0T X.prog X.w) := by
  intro pins s σ H xs us Q I r h
  obtain ⟨rfl, q⟩ := h
  cases r
  refine setR_new fun _ => ?_
  exact ⟨.ref _, upd H s.heap.objs.size (SetTx X.prog X.w s.heap.objs.size []), I.laid (t' := s.toks) (fun b u e => Heap.get?_push_of_some _ e) (Nat.le_refl _) (setTx_new TxS.fresh), rfl, q _ (I.hok.fresh (Nat.le_refl _))⟩
/-- x.add(k) -/
def rSAddT (P : Program) (w : World) : V → List V → Hp → VK → Prop := fun x xs H Q => ∃ (a : Addr) (k : Str) (L : List Str), x = V.ref a ∧ xs = [.str k] ∧ H a = some (SetTx P w a L) ∧ L.length + 1 < scanBound ∧ Q .non (upd H a (SetTx P w a (addL L k)))
theorem mt_saddT : MtR X "set.add" (rSAddT X.prog X.w) := by
  intro pins s σ H x xs v us Q I rx rxs h
  obtain ⟨a, k, L, rfl, rfl, ha, room, q⟩ := h
  cases rx
  cases rxs with
  | cons ry rt =>
    cases rt
    obtain ⟨t, rfl⟩ := ry
    exact addTx_ok I ha room fun s' J => ⟨.non, _, J, rfl, q⟩
def tSAddT (P : Program) (w : World) (to : TE) (t : TA) : TE := fun σ H Q => to σ H fun x H1 => (∃ a L, x = V.ref a ∧ H1 a = some (SetTx P w a L) ∧ L.length < scanBound) ∧ t σ H1 fun xs H2 => rSAddT P w x xs H2 Q
theorem pe_saddT {o e : Expr} {es : List Expr} {to : TE} {t : TA} {apos cpos : Pos} (ho : PE X o to) (ha : PA X (e :: es) t)
    (hbase : attributeBase o "add" X.env (eval o X.env) = eval o X.env := by rfl)
    (hfew : ((backTo cpos (starEach (e :: es) X.env)).all (fun x => !x.1) && (backToKw cpos (keywordEach [] X.env)).all (fun x => x.1.isSome)
      && decide ((e :: es).length + ([] : List Keyword).length + (if ([] : List Keyword).isEmpty then 0 else 1) < 30)) = true := by rfl)
    (hline : (apos.endLine == cpos.line) = true := by rfl) (hs : starEach (e :: es) X.env = (false, eval e X.env) :: starEach es X.env := by rfl) (hplain : (backTo cpos (starEach es X.env)).any (·.1) = false := by rfl) :
    PE X (.Call (.Attribute o "add" apos) (e :: es) [] cpos) (tSAddT X.prog X.w to t) := by
  refine ⟨fun pins s σ H Q I h => ?_⟩
  refine wpAny_Call_method_late hbase hfew hline rfl (thn (ho.run pins s σ H _ I h) fun v s1 ⟨x, H1, I1, r1, ty, q1⟩ => ?_)
  obtain ⟨a, L, rfl, hka, hb⟩ := ty
  have hS := (setTx_get I1 hka).setOf hb
  cases r1
  refine ⟨"set", "set.add", F.plainAttrs_set, F.slot_set_add, F.type_set_add, hS.typeIs, hS.noDict, ?_⟩
  have hA := ha.run cpos pins s1 σ H1 _ I1 q1
  rw [hs] at hA ⊢
  refine Calls.callWith_builtin (by show (false || (backTo cpos (starEach es X.env)).any (·.1)) = false; rw [hplain] <;> rfl) (Calls.evalArgs_plain ?_)
  exact thn hA fun us s2 ⟨vs, H2, I2, r2, q2⟩ => mt_saddT pins s2 σ H2 (.ref a) vs (.ref a) us Q I2 rfl r2 q2
/-- k in x, k not in x -/
def rSInT (P : Program) (w : World) (neg : Bool) : V → V → Hp → VK → Prop := fun x y H Q => ∃ (k : Str) (a : Addr) (L : List Str), x = .str k ∧ y = V.ref a ∧ H a = some (SetTx P w a L) ∧ L.length < scanBound ∧ Q (.bl (neg != decide (k ∈ L))) H
theorem op_sinT : OpR X (compareOp .In) (rSInT X.prog X.w false) := by
  intro pins s σ H x y v u Q I rx ry h
  obtain ⟨k, a, L, rfl, rfl, ha, hb, q⟩ := h
  cases ry
  obtain ⟨t, rfl⟩ := rx
  exact wpAny_inSet_of (is_str k t) rfl ((setTx_get I ha).setOf hb) ⟨.bl (decide (k ∈ L)), H, I.tok _, rfl, by simpa using q⟩
/-- if x: -/
theorem noBool_set : typeLookup (.type "set") "__bool__" = pure none := by rw [typeLookup_type, builtinLookup_eq_fast]; kernel_rfl
theorem tru_set {P : Program} {w : World} {A : Around} {E : Value → Shared → Prop} {s : Shared} {a : Addr} {L : List Str} {Q : Bool → Shared → Prop} (R : TxS P w s.heap a L) (hb : L.length < scanBound) (h : Q (!L.isEmpty) { s with toks := s.toks + 1 + 1 }) : wpAny (model P w) A (truthy (.ref a)) Q E s := by
  have hb2 : scanBound < 2 ^ 62 := by decide +kernel
  obtain ⟨o, es, ep, t, ho, hex, hd, _, _, _, hf, hn⟩ := R.setOf hb
  have hT : s.TypeIs (.ref a) "set" := ⟨o, ho, hex.1⟩
  have hne : ((es.size : Int) != 0) = !L.isEmpty := by rw [hn]; cases L <;> simp <;> omega
  have key : wpAny (model P w) A (runValue (.builtin "len" ⟨[.ref a], []⟩)) (fun r s' => r = .int es.size (s.toks + 1) ∧ Q (!L.isEmpty) s') E s := by
    refine wpAny_runValue (codeAny_builtin entry_len ?_)
    rw [Around.under_plainId plain_len _]
    exact wpAny_mono (wpAny_len_body_set (Q := fun r s' => r = .int es.size (s.toks + 1) ∧ Q (!L.isEmpty) s') ho hex hd hf (by rw [hn]; omega) ⟨rfl, h⟩) (fun fin s' h' => by obtain ⟨r, rfl, hq⟩ := h'; exact hq) fun _ _ e => e
  unfold truthy
  first
    | refine wpAny_bind (wpAny_callSpecial?_none (name := Str.ofString "__bool__") hT noBool_set ?_)
    | refine wpAny_bind (wpAny_pure (wpAny_bind (wpAny_callSpecial?_none (name := Str.ofString "__bool__") hT noBool_set ?_)))
  first
    | refine wpAny_bind (wpAny_specialOf (name := Str.ofString "__len__") hT F.slot_set_len.lookup ?_)
    | refine wpAny_bind (wpAny_pure (wpAny_bind (wpAny_specialOf (name := Str.ofString "__len__") hT F.slot_set_len.lookup ?_)))
  first
    | exact wpAny_bind (wpAny_mono key (fun r s' h' => by obtain ⟨rfl, hq⟩ := h'; exact wpAny_pure (hne ▸ hq)) fun _ _ e => e)
    | exact wpAny_bind (wpAny_pure (wpAny_bind (wpAny_mono key (fun r s' h' => by obtain ⟨rfl, hq⟩ := h'; exact wpAny_pure (hne ▸ hq)) fun _ _ e => e)))
def tTruS (P : Program) (w : World) (ta : TE) : TT := fun σ H Q => ta σ H fun x H' => ∃ a L, x = V.ref a ∧ H' a = some (SetTx P w a L) ∧ L.length < scanBound ∧ Q (!L.isEmpty) H'
theorem pt_truS {a : Expr} {ta : TE} (ha : PE X a ta) (he : ∀ whole, isTrue a X.env whole = (do let v ← whole; standAt a.pos; holding [v] (truthy v))) : PT X a (tTruS X.prog X.w ta) := by
  refine ⟨fun pins s σ H Q I h => ?_⟩
  refine isTrue_plain (thn (ha.run pins s σ H _ I h) fun v s1 ⟨x, H1, I1, r1, b, L, ex, hb, hl, q1⟩ => ?_) (he _)
  subst ex
  cases r1
  exact tru_set (setTx_get I1 hb) hl (I1.tok _ |> fun J => ⟨_, J, q1⟩)
end
end FS
namespace FM
open PySem PySem.Spec PyProof.Rows L2 FS
/-! ### .. on the data's side: a cell -/
section
variable {X : Cx} {C : Fc} {e : Expr} {me mb : ME}
theorem setTx_tbl {P : Program} {w : World} {a : Addr} {L : List Str} : ∀ ps, SetTx P w a L ≠ .tbl ps := fun ps z => by
  unfold SetTx at z
  cases z
def mSet0 : ME := fun _ m => .ok (.ref m.length) (m ++ [some (.set [])])
theorem fe_set0 (hT : C.T.so = SetTx X.prog X.w) (h : PE X e (tCB (rSet0T X.prog X.w) tNil)) : PE X e (FE C mSet0) := pe_of h fun σ H Q ⟨B, g, S, m, vs, I, A, r, w⟩ => by
  refine ⟨rfl, fun p hp => ?_⟩
  obtain ⟨b, u⟩ := r.base.newC (p := p) (o := SetTx X.prog X.w p []) (c := .set []) hp ⟨by rw [upd_same, hT], by rw [hT]; exact setTx_tbl⟩
  exact w _ _ _ _ ((r.step b u).push (.ref (by rw [← r.base.len]; exact last_get A p)))
def setOf_ (m : Cells) : Vl → Option (Nat × List Str)
  | .ref k => match m[k]? with
    | some (some (.set L)) => if L.length + 1 < scanBound then some (k, L) else none
    | _ => none
  | _ => none
theorem set_at {T : Tab} {F : Frm} {I H : Hp} {A : List Addr} {m : Cells} {x : V} {d : Vl} {k : Nat} {L : List Str} {P : Program} {w : World} (hT : T.so = SetTx P w) (b : Base T F I H A m) (hx : VR T I A x d) (e : setOf_ m d = some (k, L)) :
    ∃ a, x = .ref a ∧ d = .ref k ∧ A[k]? = some a ∧ H a = some (SetTx P w a L) ∧ L.length + 1 < scanBound ∧ m[k]? = some (some (.set L)) := by
  unfold setOf_ at e
  split at e
  · rename_i k'
    split at e
    · rename_i L' hm
      split at e
      · rename_i hl
        cases e
        obtain ⟨a, rfl, ha⟩ := hx.cel
        have q : H a = some (T.so a L) ∧ ∀ ps, T.so a L ≠ .tbl ps := b.ok _ _ a hm ha
        exact ⟨a, rfl, rfl, ha, by rw [q.1, hT], hl, hm⟩
      · cases e
    · cases e
  · cases e
def mSAdd (me mb : ME) : ME := fun g m => (me g m).bind fun x m1 => match setOf_ m1 x with
  | some _ => (mb g m1).bind fun y m2 => match y, setOf_ m2 x with
    | .d (.str z), some (k, L) => .ok (.d .non) (m2.set k (some (.set (addL L z))))
    | _, _ => .bad
  | none => .bad
theorem fe_sadd (hT : C.T.so = SetTx X.prog X.w) (h : PE X e (tSAddT X.prog X.w (FE C me) (FA C (mCons mb mNil)))) : PE X e (FE C (mSAdd me mb)) := pe_of h fun σ H Q ⟨B, g, S, m, vs, I, A, rl, w⟩ => by
  refine ⟨B, g, S, m, vs, I, A, rl, ?_⟩
  unfold mSAdd at w
  cases ea : me g m with
  | bad => rw [ea] at w; exact w.elim
  | ex c fs m' => rw [ea] at w; exact w
  | ok d m1 =>
    rw [ea] at w
    intro x H1 I1 A1 r1
    cases es : setOf_ m1 d with
    | none => simp only [Rs.bind, es] at w; exact (show False from w).elim
    | some p =>
      simp only [Rs.bind, es] at w
      obtain ⟨k, L⟩ := p
      obtain ⟨a, rfl, rfl, ha, hH, hl, hm⟩ := set_at hT r1.base r1.top es
      refine ⟨⟨a, L, rfl, hH, by omega⟩, B, g, .ref k :: S, m1, .ref a :: vs, I1, A1, r1, ?_⟩
      unfold mCons mNil
      cases eb : mb g m1 with
      | bad => simp only [eb] at w; exact (show False from w).elim
      | ex c fs m' =>
        simp only [eb] at w
        intro σ' H' I' A' dx ws r' h1 h2 h3
        exact w σ' H' I' A' dx ws r'.pop1 h1 h2 h3
      | ok y m2 =>
        simp only [eb] at w
        intro ws H2 I2 A2 hl2 r2
        obtain ⟨q1, q2⟩ := r2.stk.split (ds := [y]) hl2
        have r3 : Rel C.T C.x B g (.ref k :: S) m2 σ (.ref a :: vs) H2 I2 A2 := { r2 with stk := q2 }
        split at w
        · rename_i z k2 L2 es2
          obtain ⟨a2, ea2, ek, ha2, hH2, hl3, hm2⟩ := set_at hT r3.base r3.top es2
          cases ea2
          cases ek
          cases q1 with
          | cons qa qb =>
            cases qb
            cases qa.dat
            refine ⟨a, z, L2, rfl, rfl, hH2, hl3, ?_⟩
            exact w _ _ _ _ ((r3.pop1.step (r3.base.put (c' := .set (addL L2 z)) (o := SetTx X.prog X.w a (addL L2 z)) hm2 ha2 ⟨by rw [upd_same, hT], by rw [hT]; exact setTx_tbl⟩) Up.refl).push (.d .non))
        · exact (show False from w).elim
def oSIn (neg : Bool) : O2 := fun m x y => match x, setOf_ m y with
  | .d (.str z), some p => some (.d (.bl (neg != decide (z ∈ p.2))))
  | _, _ => none
theorem sim_sin {T : Tab} {P : Program} {wd : World} {neg : Bool} (hT : T.so = SetTx P wd) : SimO T (rSInT P wd neg) (oSIn neg) := fun F I H A m x y d1 d2 d b hx hy e Q q => by
  unfold oSIn at e
  split at e
  · rename_i z p es
    cases e
    obtain ⟨k, L⟩ := p
    obtain ⟨a, rfl, rfl, ha, hH, hl, hm⟩ := set_at hT b hy es
    cases hx.dat
    exact ⟨z, a, L, rfl, rfl, hH, by omega, q _ H I b (Same.refl I) (.d (.bl _))⟩
  · cases e
def mTruS (me : ME) : MT := fun g m => (me g m).bind fun x m1 => match setOf_ m1 x with
  | some p => .ok (!p.2.isEmpty) m1
  | none => .bad
theorem ft_truS (hT : C.T.so = SetTx X.prog X.w) (h : PT X e (tTruS X.prog X.w (FE C me))) : PT X e (FT C (mTruS me)) := pt_of h fun σ H Q ⟨B, g, S, m, vs, I, A, r, w⟩ => by
  refine ⟨B, g, S, m, vs, I, A, r, ?_⟩
  unfold mTruS at w
  cases ea : me g m with
  | bad => rw [ea] at w; exact w.elim
  | ex c fs m' => rw [ea] at w; exact w
  | ok d m1 =>
    rw [ea] at w
    intro x H1 I1 A1 r1
    cases es : setOf_ m1 d with
    | none => simp only [Rs.bind, es] at w; exact (show False from w).elim
    | some p =>
      simp only [Rs.bind, es] at w
      obtain ⟨k, L⟩ := p
      obtain ⟨a, rfl, rfl, ha, hH, hl, hm⟩ := set_at hT r1.base r1.top es
      exact ⟨a, L, rfl, hH, by omega, w H1 I1 A1 r1.pop1⟩
/-- sorted(x), x a set: a list -/
def mSortS (me : ME) : ME := fun g m => (me g m).bind fun x m1 => match setOf_ m1 x with
  | some p => sorted_ m1 p.2
  | none => .bad
theorem fold_nd : ∀ {L acc : List Str}, (acc ++ L).Nodup → (L.foldl addL acc).Perm (acc ++ L)
  | [], acc, _ => by simp
  | z :: L, acc, h => by
    have hz : z ∉ acc := fun q => (List.nodup_append.mp h).2.2 z q z (by simp) rfl
    have e : addL acc z = z :: acc := if_neg hz
    have p : (acc ++ z :: L).Perm (z :: acc ++ L) := List.perm_middle
    rw [List.foldl_cons, e]
    exact (fold_nd (p.nodup_iff.mp h)).trans p.symm
theorem fe_sortS (hT : C.T.so = SetTx X.prog X.w) (h : PE X e (tCB (rSortTx X.prog X.w) (tCons (FE C me) tNil))) : PE X e (FE C (mSortS me)) := pe_of h fun σ H Q ⟨B, g, S, m, vs, I, A, r, w⟩ => by
  refine ⟨B, g, S, m, vs, I, A, r, ?_⟩
  unfold mSortS at w
  cases ea : me g m with
  | bad => rw [ea] at w; exact w.elim
  | ex c fs m' => rw [ea] at w; exact w
  | ok d m1 =>
    rw [ea] at w
    intro x H1 I1 A1 r1
    cases es : setOf_ m1 d with
    | none => simp only [Rs.bind, es] at w; exact (show False from w).elim
    | some p =>
      simp only [Rs.bind, es] at w
      obtain ⟨k, L⟩ := p
      obtain ⟨a, rfl, rfl, ha, hH, hl, hm⟩ := set_at hT r1.base r1.top es
      unfold sorted_ at w
      by_cases hz : L.length < 64
      · rw [if_pos hz] at w
        refine ⟨a, L, rfl, hH, hz, fun ys p pm hs nd hp => ?_⟩
        have pz : (setOf L).Perm L := by simpa [setOf] using fold_nd (acc := []) (L := L) (by simpa using nd)
        rw [sorted_set (pm.trans pz.symm) hs (pz.nodup_iff.mpr nd)]
        obtain ⟨b, e⟩ := r1.pop1.base.new (o := .lst ((sortU L).map V.str)) hp
        exact w _ _ _ _ ((r1.pop1.step b e).push (.d (.lst upd_same (drs_str _))))
      · rw [if_neg hz] at w; exact w.elim
end
/-! ### weakest preconditions, and what these readings keep -/
section
variable {g : Gam} {m : Cells} {Q : Vl → Cells → Prop} {E : EX} {me mb : ME}
theorem w_set0 (q : Q (.ref m.length) (m ++ [some (.set [])])) : wR (mSet0 g m) Q E := wR_eq rfl q
theorem setOf_eq {m : Cells} {k : Nat} {L : List Str} (h : m[k]? = some (some (.set L))) (hl : L.length < 1000) : setOf_ m (.ref k) = some (k, L) := by
  have hb : 1002 < scanBound := by decide +kernel
  unfold setOf_
  simp only [h]
  rw [if_pos (by omega)]
/-- x.add(y): the set's texts ahead, at the place k -/
theorem w_sadd (h : wR (me g m) (fun x m1 => ∃ k L0, x = .ref k ∧ m1[k]? = some (some (.set L0)) ∧ L0.length < 1000 ∧ wR (mb g m1) (fun y m2 => ∃ L z, y = .d (.str z) ∧ m2[k]? = some (some (.set L)) ∧ L.length < 1000 ∧ Q (.d .non) (m2.set k (some (.set (addL L z))))) E) E) : wR (mSAdd me mb g m) Q E := by
  unfold mSAdd
  refine w_bind (wR_mono h fun x m1 h => ?_)
  obtain ⟨k, L0, rfl, h1, h2, h⟩ := h
  simp only [setOf_eq h1 h2]
  refine w_bind (wR_mono h fun y m2 h => ?_)
  obtain ⟨L, z, rfl, h3, h4, q⟩ := h
  simp only [setOf_eq h3 h4]
  exact wR_eq rfl q
theorem wo_sin {neg : Bool} {k : Nat} {z : Str} {L : List Str} {Q : Vl → Prop} (h : m[k]? = some (some (.set L))) (hl : L.length < 1000) (q : Q (.d (.bl (neg != decide (z ∈ L))))) : wO (oSIn neg m (.d (.str z)) (.ref k)) Q :=
  wO_eq (by unfold oSIn; simp only [setOf_eq h hl]) q
theorem w_truS {Q : Bool → Cells → Prop} (h : wR (me g m) (fun x m1 => ∃ k L, x = .ref k ∧ m1[k]? = some (some (.set L)) ∧ L.length < 1000 ∧ Q (!L.isEmpty) m1) E) : wR (mTruS me g m) Q E := by
  unfold mTruS
  refine w_bind (wR_mono h fun x m1 h => ?_)
  obtain ⟨k, L, rfl, h1, h2, q⟩ := h
  simp only [setOf_eq h1 h2]
  exact wR_eq rfl q
theorem w_sortS (h : wR (me g m) (fun x m1 => ∃ k L, x = .ref k ∧ m1[k]? = some (some (.set L)) ∧ L.length < 64 ∧ Q (.d (.lst ((sortU L).map .str))) m1) E) : wR (mSortS me g m) Q E := by
  unfold mSortS
  refine w_bind (wR_mono h fun x m1 h => ?_)
  obtain ⟨k, L, rfl, h1, h2, q⟩ := h
  simp only [setOf_eq h1 (show L.length < 1000 by omega)]
  exact wR_eq (by unfold sorted_; rw [if_pos h2]) q
end
/-! ### texts by their order -/
def oSB (f : Str → Str → Bool) : O2 := fun _ x y => match x, y with
  | .d (.str a), .d (.str b) => some (.d (.bl (f a b)))
  | _, _ => none
theorem sim_sb {T : Tab} {f : Str → Str → Bool} : SimO T (fun x y H Q => ∃ i j, x = .str i ∧ y = .str j ∧ Q (.bl (f i j)) H) (oSB f) := fun F I H A m x y d1 d2 d b hx hy e Q q => by
  unfold oSB at e
  split at e
  · cases e
    cases hx.dat
    cases hy.dat
    exact ⟨_, _, rfl, rfl, q _ H I b (Same.refl I) (.d (.bl _))⟩
  · cases e
theorem wo_sb {m : Cells} {f : Str → Str → Bool} {a b : Str} {Q : Vl → Prop} (q : Q (.d (.bl (f a b)))) : wO (oSB f m (.d (.str a)) (.d (.str b))) Q := wO_eq rfl q
def gtS (i j : Str) : Bool := decide (j.cps.toList < i.cps.toList)
end FM
namespace RZ
open PySem PySem.Calls PyProof.Rows
theorem pairArg_zipT {prog : Program} {w : World} (z TI TO i1 i2 l1 l2 : Addr) (D : ZipApart z TI TO i1 i2 l1 l2) (xs ys : Array Value) :
    PairArg prog w "zip" z [z, TI, TO, i1, i2, l1, l2] [z, TO, i1, i2] (min xs.size ys.size) (fun i k v => xs[i]? = some k ∧ ys[i]? = some v)
      (fun h => IsZip h z TI TO .none ∧ IsPair h TI (.ref i1) (.ref i2) ∧ (∃ a b, IsPair h TO a b) ∧ h.IsTupleIter i1 l1 0 ∧ h.IsTupleIter i2 l2 0 ∧ h.IsTuple l1 xs ∧ h.IsTuple l2 ys) where
  type := fun s ok => ⟨_, ok.1, rfl⟩
  notDict := by decide
  keep := fun h h' ⟨hz, hTI, ⟨a, b, hTO⟩, h1, h2, hl1, hl2⟩ up => ⟨up _ _ hz, up _ _ hTI, ⟨a, b, up _ _ hTO⟩, h1.at fun o e => up _ o e, h2.at fun o e => up _ o e, (let ⟨o, e, r⟩ := hl1; ⟨o, up _ _ e, r⟩), (let ⟨o, e, r⟩ := hl2; ⟨o, up _ _ e, r⟩)⟩
  there := fun h ok b hb => by
    obtain ⟨hz, hTI, ⟨a, c, hTO⟩, ⟨o1, h1, _⟩, ⟨o2, h2, _⟩, ⟨o3, hl1, _⟩, ⟨o4, hl2, _⟩⟩ := ok
    simp only [List.mem_cons, List.not_mem_nil, or_false] at hb
    rcases hb with rfl | rfl | rfl | rfl | rfl | rfl | rfl
    all_goals first | exact ⟨_, hz⟩ | exact ⟨_, hTI⟩ | exact ⟨_, hTO⟩ | exact ⟨_, h1⟩ | exact ⟨_, h2⟩ | exact ⟨_, hl1⟩ | exact ⟨_, hl2⟩
  sub := fun b hb => by simp at hb ⊢; rcases hb with rfl | rfl | rfl | rfl <;> simp
  noKeys := fun A s Q E hA ok h => getAttrOr_miss_zip ok.1 rfl rfl rfl zip_no_keys (by decide +kernel) hA h
  iter := fun A s d Q E hA ok hd hdf h => by
    obtain ⟨hz, hTI, ⟨a, b, hTO⟩, h1, h2, hl1, hl2⟩ := ok
    simp only [List.mem_cons, List.not_mem_nil, or_false, not_or] at hdf
    obtain ⟨dz, dTI, dTO, di1, di2, dl1, dl2⟩ := hdf
    refine wpAny_pyIter_zip hz (h z [z, TO, i1, i2] (fun i h => ZSt h z TI TO i1 i2 l1 l2 d i ∧ h.IsTuple l1 xs ∧ h.IsTuple l2 ys) s.heap s.toks ?_ ⟨⟨hTI, h1, h2, .inl ⟨hz, a, b, hTO⟩⟩, hl1, hl2⟩ (fun _ _ e => e) fun b hb => .inl hb)
    refine ⟨fun hm => ?_, fun i h₁ h₂ st up => ?_, fun i s₁ Q₁ E₁ hi st hds hQ => ?_, fun s₁ Q₁ E₁ st hQ => ?_⟩
    · simp only [List.mem_cons, List.not_mem_nil, or_false] at hm
      rcases hm with e | e | e | e
      · exact dz e
      · exact dTO e
      · exact di1 e
      · exact di2 e
    · obtain ⟨st, t1, t2⟩ := st
      obtain ⟨o1, e1, r1⟩ := t1
      obtain ⟨o2, e2, r2⟩ := t2
      exact ⟨st.keep up (Ne.symm dz) (Ne.symm dTI) (Ne.symm dTO) (Ne.symm di1) (Ne.symm di2), ⟨o1, up _ _ (Ne.symm dl1) e1, r1⟩, ⟨o2, up _ _ (Ne.symm dl2) e2, r2⟩⟩
    · obtain ⟨st, t1, t2⟩ := st
      have ex := Array.getElem?_eq_getElem (Nat.lt_of_lt_of_le hi (Nat.min_le_left ..))
      have ey := Array.getElem?_eq_getElem (Nat.lt_of_lt_of_le hi (Nat.min_le_right ..))
      refine zs_item D st hds t1 t2 ex ey fun h' q1 q2 q3 q4 => ?_
      obtain ⟨o1, e1, r1⟩ := t1
      obtain ⟨o2, e2, r2⟩ := t2
      exact hQ s₁.heap.objs.size _ _ h' s₁.toks ⟨ex, ey⟩ (.inl ⟨_, q2, rfl, _, rfl⟩) ⟨q1, ⟨o1, q4 _ _ D.l1z D.l1TO D.l1i1 D.l1i2 e1, r1⟩, ⟨o2, q4 _ _ D.l2z D.l2TO D.l2i1 D.l2i2 e2, r2⟩⟩
        fun c o hc e => q4 c o (fun x => hc (by simp [x])) (fun x => hc (by simp [x])) (fun x => hc (by simp [x])) (fun x => hc (by simp [x])) e
    · obtain ⟨st, t1, t2⟩ := st
      have hend : xs[min xs.size ys.size]? = none ∨ ys[min xs.size ys.size]? = none := by
        rcases Nat.le_total xs.size ys.size with h | h
        · exact .inl (by rw [Nat.min_eq_left h]; simp)
        · exact .inr (by rw [Nat.min_eq_right h]; simp)
      exact zs_done hA D st t1 t2 hend fun h' up => hQ h' s₁.toks fun c o hc e => up c o (fun x => hc (by simp [x])) (fun x => hc (by simp [x])) (fun x => hc (by simp [x])) (fun x => hc (by simp [x])) e
end RZ
namespace NK
open PySem PySem.Spec PyProof.Rows L2
/-- dict(zip(a, b)) of two tuples -/
def tDictZip (K : PySem.W.Frag) (ta : TA) : TE := fun σ H Q => ta σ H fun vs H1 => ∃ a b xs ys kvs, vs = [V.ref a, V.ref b] ∧ SqT K H1 a xs ∧ SqT K H1 b ys ∧ xs.zip ys = kvs.map (fun kv : Key × V => (kV kv.1, kv.2)) ∧ ∀ p, H1 p = none → Q (.ref p) (upd H1 p (.dK (mergeK [] kvs)))
theorem kvs_of {P : Program} {w : World} : ∀ {xs ys : List V} {us ws : List Value} {kvs : List (Key × V)}, Vals xs us → Vals ys ws → xs.zip ys = kvs.map (fun kv : Key × V => (kV kv.1, kv.2)) →
    ∃ prs : List (Key × Value), KV kvs prs ∧ prs.length = (xs.zip ys).length ∧ ∀ (i : Nat) (u v : Value), us[i]? = some u → ws[i]? = some v → ∃ k, prs[i]? = some (k, v) ∧ (mixKind P w).is k u = true
  | [], ys, us, ws, kvs, r1, r2, e => by
    cases r1
    have : kvs = [] := by cases kvs with | nil => rfl | cons q l => simp at e
    subst this
    exact ⟨[], .nil, rfl, fun i u v h => by simp at h⟩
  | x :: xs, [], us, ws, kvs, r1, r2, e => by
    cases r2
    have : kvs = [] := by cases kvs with | nil => rfl | cons q l => simp at e
    subst this
    exact ⟨[], .nil, rfl, fun i u v _ h => by simp at h⟩
  | x :: xs, y :: ys, us, ws, kvs, r1, r2, e => by
    cases r1 with
    | cons a1 t1 =>
      cases r2 with
      | cons a2 t2 =>
        cases kvs with
        | nil => simp at e
        | cons q l =>
          obtain ⟨k, v⟩ := q
          simp only [List.zip_cons_cons, List.map_cons, List.cons.injEq, Prod.mk.injEq] at e
          obtain ⟨⟨ex, ey⟩, e⟩ := e
          subst ex ey
          obtain ⟨prs, g1, g2, g3⟩ := kvs_of (P := P) (w := w) t1 t2 e
          refine ⟨(k, _) :: prs, .cons ⟨rfl, a2⟩ g1, by simp [g2], fun i u v h1 h2 => ?_⟩
          cases i with
          | zero =>
            simp at h1 h2
            subst h1 h2
            exact ⟨k, rfl, kV_is a1⟩
          | succ i => exact g3 i u v (by simpa using h1) (by simpa using h2)
section
variable {X : Cx} {e e2 : Expr} {ta : TA} {p pos p2 pos2 : Pos}
theorem pe_dictZip (hc : X.calm = true) (ha : PA X [e, e2] ta) (hg : Gl X "dict") (hm : X.mg "dict" = none) (hg2 : Gl X "zip") (hm2 : X.mg "zip" = none)
    (hs : starEach [.Call (.Name "zip" p2) [e, e2] [] pos2] X.env = (false, eval (.Call (.Name "zip" p2) [e, e2] [] pos2) X.env) :: starEach [] X.env := by rfl)
    (hs2 : starEach [e, e2] X.env = (false, eval e X.env) :: starEach [e2] X.env := by rfl) (hpl : (backTo pos2 (starEach [e2] X.env)).any (·.1) = false := by rfl) :
    PE X (.Call (.Name "dict" p) [.Call (.Name "zip" p2) [e, e2] [] pos2] [] pos) (tDictZip X.K ta) := by
  refine ⟨fun pins s σ H Q I hq => ?_⟩
  refine wpAny_Call_Name_kw (ld_blt I hg hm (show bootBuiltins "dict" = some (.type "dict") by decide +kernel) ?_)
  refine PyProof.Rows.callWith_type1 ?_ hs rfl
  rw [hs]
  show wpAny _ _ (spliced ((false, eval (.Call (.Name "zip" p2) [e, e2] [] pos2) X.env) :: backTo pos (starEach [] X.env))) _ _ s
  refine Calls.spliced_cons ?_
  refine Call_ (ld_blt I hg2 hm2 PyProof.Rows.boot_zip (PyProof.Rows.callWith_type1 (thn (ha.run pos2 pins s σ H _ I hq) fun us s1 ⟨vs, H1, I1, r1, q1⟩ => ?_) hs2 hpl))
  obtain ⟨a, b, xs, ys, kvs, ex, hqx, hqy, ek, q⟩ := q1
  subst ex
  cases r1 with
  | cons r rr =>
    cases rr with
    | cons r' rr =>
      cases rr
      cases r
      cases r'
      obtain ⟨its, rv, t1, l1⟩ := I1.tuple hqx
      obtain ⟨its2, rv2, t2, l2⟩ := I1.tuple hqy
      obtain ⟨o1, ho1, k1⟩ := id t1
      obtain ⟨o2, ho2, k2⟩ := id t2
      refine RZ.call_zipT (show s1.heap.IsTuple a its.toArray from t1) (show s1.heap.IsTuple b its2.toArray from t2) fun h' hz hTI hTO j1 j2 hsz hk => ?_
      refine Calls.spliced_nil ?_
      have D := PySem.W.ktu_apart s1.heap.objs.size a b (Heap.lt_size ho1) (Heap.lt_size ho2)
      obtain ⟨prs, g1, g2, g3⟩ := kvs_of (P := X.prog) (w := X.w) rv rv2 ek
      have hn : min its.toArray.size its2.toArray.size = (xs.zip ys).length := by rw [List.length_zip, rv.length, rv2.length]; simp
      have hln : (xs.zip ys).length ≤ sizeLine := by rw [List.length_zip]; omega
      refine PySem.call_dict_pairs (s := { s1 with heap := h' }) (knd := mixKind X.prog X.w) (kvs := prs) (RZ.pairArg_zipT _ _ _ _ _ a b D its.toArray its2.toArray) (I1.ok.hd hc) ⟨hz, hTI, ⟨_, _, hTO⟩, j1, j2, ⟨o1, hk _ _ ho1, k1⟩, ⟨o2, hk _ _ ho2, k2⟩⟩ ⟨by rw [g2, hn], fun i u v ⟨h1, h2⟩ => g3 i u v (by simpa using h1) (by simpa using h2)⟩ (by rw [hn]; exact hln) fun h2 tk hd' up => ?_
      have hbig : ((h'.objs.size == sysModules) = false) := beq_eq_false_iff_ne.mpr (Nat.ne_of_gt (Nat.lt_of_lt_of_le I1.big (by rw [hsz]; exact Nat.le_add_right _ _)))
      have hlen : (mergeK [] kvs).length ≤ sizeLine := by
        refine Nat.le_trans (length_mergeK kvs []) ?_
        rw [List.length_nil, Nat.zero_add, g1.length, g2]
        exact hln
      have keep : ∀ c o, s1.heap.get? c = some o → h2.get? c = some o := fun c o ec => by
        have lt := Heap.lt_size ec
        refine up c o (fun hm => ?_) (hk c o ec)
        simp only [List.mem_cons, List.not_mem_nil, or_false] at hm
        rcases hm with e | e | e | e <;> (rw [e] at lt; first | exact absurd lt (Nat.lt_irrefl _) | exact absurd lt (Nat.not_lt.mpr (Nat.le_add_right _ _)))
      exact ⟨.ref h'.objs.size, upd H1 h'.objs.size (.dK (mergeK [] kvs)), I1.laid (t' := tk) keep (by rw [hsz]; exact Nat.le_add_right _ _) (show ObjOk X.prog X.w _ _ _ (.dK (mergeK [] kvs)) from ⟨hlen, hbig, merged [] prs, KV.merge g1 .nil, hd'⟩), rfl, q _ (I1.hok.fresh (by rw [hsz]; exact Nat.le_add_right _ _))⟩
end
end NK
namespace NK
open PySem PySem.Spec PyProof.Rows L2
section
variable {X : Cx} {o e : Expr} {td ty : TE} {apos cpos : Pos}
/-- d.update(y), y another dict -/
def tDUpd (td ty : TE) : TE := fun σ H Q => td σ H fun x H1 => ∃ a, x = .ref a ∧ IsD H1 a ∧ ty σ H1 fun y H2 => ∃ (b : Addr) (kvs more : List (Key × V)), y = .ref b ∧ a ≠ b ∧ H2 a = some (.dK kvs) ∧ H2 b = some (.dK more) ∧ kvs.length + more.length ≤ sizeLine ∧ Q .non (upd H2 a (.dK (mergeK kvs more)))
theorem pe_dupd (ho : PE X o td) (he : PE X e ty) (m : M1 X o "update" apos e cpos) : PE X (.Call (.Attribute o "update" apos) [e] [] cpos) (tDUpd td ty) := by
  refine ⟨fun pins s σ H Q I h => ?_⟩
  refine wpAny_Call_method m.base m.few m.line PySem.F.plainAttrs_dict PySem.F.slot_dict_update PySem.F.type_dict_update (thn (ho.run pins s σ H _ I h) fun u s1 ⟨x, H1, I1, rx, a, ex, d, q1⟩ => ?_)
  subst ex
  obtain rfl : u = Value.ref a := rx
  obtain ⟨t1, t2, _⟩ := isD_at I1 d
  refine ⟨t1, t2, ?_⟩
  rw [m.trees]
  refine Calls.callWith_builtin rfl (Calls.evalArgs_plain (Calls.spliced_cons (thn (he.run pins s1 σ H1 _ I1 q1) fun iv s2 ⟨y, H2, I2, ry, b, kvs, more, ey, hab, ea, eb, hl, q2⟩ => Calls.spliced_nil ?_)))
  subst ey
  obtain rfl : iv = Value.ref b := ry
  obtain ⟨z, hd, vs, rel, dd⟩ := dk_of I2.hok ea
  obtain ⟨z2, hd2, vs2, rel2, dd2⟩ := dk_of I2.hok eb
  refine call_meetsIn PySem.F.slot_dict_update dd.typeIs PySem.F.entry_dict_update (PySem.F.args_dict_update_2 _ _) (PySem.meets_dict_update (mixKind X.prog X.w) a b hab hd2) ⟨vs, vs2, dd, dd2, by rw [← rel.length, ← rel2.length]; exact hl, fun h' dd' _ hs => ?_⟩
  have hl2 : (mergeK kvs more).length ≤ sizeLine := Nat.le_trans (length_mergeK more kvs) hl
  exact ⟨.non, _, I2.write (e := a) (t' := s2.toks) (by rw [ea]; trivial) (.inl rfl) (fun b u hb hu => (hs.2 b hb).trans hu) (by have ⟨_, _, _, ho, _⟩ := dd'; exact ⟨_, ho⟩) (show ObjOk X.prog X.w _ _ _ (.dK (mergeK kvs more)) from ⟨hl2, hd, _, KV.merge rel2 rel, dd'⟩), rfl, q2⟩
end
end NK
namespace FM
open PySem PySem.Spec PyProof.Rows L2
/-! ### on the data's side -/
def zipKD : List Dt → List Dt → Option (List (L2.Key × Dt))
  | [], _ => some []
  | _ :: _, [] => some []
  | k :: ks, d :: ds => (keyOf (.d k)).bind fun key => (zipKD ks ds).map fun es => (key, d) :: es
theorem zipKD_ok {T : Tab} {I : Hp} : ∀ {us vs : List V} {as bs : List Dt} {es : List (L2.Key × Dt)}, DRs T I us as → DRs T I vs bs → zipKD as bs = some es → DPs T I (us.zip vs) es
  | [], vs, as, bs, es, h1, h2, e => by
    cases h1
    cases e
    exact .nil
  | u :: us, [], as, bs, es, h1, h2, e => by
    cases h1
    cases h2
    cases e
    exact .nil
  | u :: us, v :: vs, as, bs, es, h1, h2, e => by
    cases h1 with
    | cons a1 t1 =>
      cases h2 with
      | cons a2 t2 =>
        unfold zipKD at e
        obtain ⟨key, e1, e⟩ := Option.bind_eq_some_iff.mp e
        obtain ⟨es', e2, rfl⟩ := Option.map_eq_some_iff.mp e
        have ek := keyOf_ok (T := T) (I := I) (A := []) (.d a1) e1
        subst ek
        exact .cons a2 (zipKD_ok t1 t2 e2)
def mDictZip (ma : MA) : ME := fun g m => (ma g m).bind fun xs m1 => match xs with
  | [x, y] => (match tupOf x, tupOf y with
    | some a, some b => (match zipKD a b with
      | some es => .ok (.d (.dct (mergeD [] [] es).1 (mergeD [] [] es).2)) m1
      | none => .bad)
    | _, _ => .bad)
  | _ => .bad
section
variable {X : Cx} {C : Fc} {e : Expr} {ma : MA} {me mb : ME}
theorem fe_dictZip (h : PE X e (NK.tDictZip C.T.K (FA C ma))) : PE X e (FE C (mDictZip ma)) := pe_of h fun σ H Q ⟨B, g, S, m, vs, I, A, r, w⟩ => args_ok r w fun ws ds m1 H1 I1 A1 r1 hv w1 => by
  split at w1
  · rename_i x y
    split at w1
    · rename_i as bs e1 e2
      split at w1
      · rename_i es e3
        obtain ⟨v, u, rfl, hw, hu⟩ := hv.two_inv
        obtain ⟨a, xs, rfl, g1, g2⟩ := tupOf_ok r1.base hw e1
        obtain ⟨b, ys, rfl, g1', g2'⟩ := tupOf_ok r1.base hu e2
        obtain ⟨kvs, k1, k2, k3⟩ := merge_ok (zipKD_ok g2 g2' e3)
        obtain ⟨xs', k4, k5, k6⟩ := k3 (ks := []) (xs := []) (ds := []) rfl .nil
        refine ⟨a, b, xs, ys, kvs, rfl, g1, g1', k1, fun p hp => ?_⟩
        obtain ⟨b', u⟩ := r1.base.new (o := .dK (mergeK [] kvs)) hp
        refine w1 _ _ _ _ ((r1.step b' u).push (.d (.dct (ks := (mergeD [] [] es).1) (xs := xs') ?_ k5 (k6.mono u.i))))
        rw [upd_same, ← k4]
        rfl
      · exact (show False from w1).elim
    · exact (show False from w1).elim
  · exact (show False from w1).elim
/-- d.update(y): d a cell, y data -/
def dUpd (k : Nat) (y : Vl) (m : Cells) : Rs Vl := match y, m[k]? with
  | .d (.dct ks2 ds2), some (some (.dct ks ds)) => if ks.length + ks2.length ≤ 10000 then .ok (.d .non) (m.set k (some (.dct (mergeD ks ds (ks2.zip ds2)).1 (mergeD ks ds (ks2.zip ds2)).2))) else .bad
  | _, _ => .bad
def mDUpd (me mb : ME) : ME := fun g m => (me g m).bind fun x m1 => match x with
  | .ref k => (match m1[k]? with
    | some (some (.dct _ _)) => (mb g m1).bind fun y m2 => dUpd k y m2
    | _ => .bad)
  | _ => .bad
theorem dps_zip {T : Tab} {I : Hp} : ∀ {ks : List L2.Key} {xs : List V} {ds : List Dt}, ks.length = xs.length → DRs T I xs ds → DPs T I ((ks.zip xs).map fun q => (kV q.1, q.2)) (ks.zip ds)
  | [], xs, ds, hl, h => by cases xs <;> exact .nil
  | k :: ks, [], ds, hl, h => by simp at hl
  | k :: ks, x :: xs, ds, hl, h => by
    cases h with
    | cons a t => exact .cons a (dps_zip (by simpa using hl) t)
theorem map_kv_inj : ∀ {a b : List (L2.Key × V)}, a.map (fun q => (kV q.1, q.2)) = b.map (fun q => (kV q.1, q.2)) → a = b
  | [], [], _ => rfl
  | [], _ :: _, h => by simp at h
  | _ :: _, [], h => by simp at h
  | (k, v) :: a, (k2, v2) :: b, h => by
    simp only [List.map_cons, List.cons.injEq, Prod.mk.injEq] at h
    obtain ⟨⟨h1, h2⟩, h3⟩ := h
    have : k = k2 := by
      cases k <;> cases k2 <;> simp [kV] at h1 <;> simp [h1]
    rw [this, h2, map_kv_inj h3]
theorem fe_dupd (h : PE X e (NK.tDUpd (FE C me) (FE C mb))) : PE X e (FE C (mDUpd me mb)) := pe_of h fun σ H Q ⟨B, g, S, m, vs, I, A, rl, w⟩ => by
  refine ⟨B, g, S, m, vs, I, A, rl, ?_⟩
  unfold mDUpd at w
  cases ea : me g m with
  | bad => rw [ea] at w; exact w.elim
  | ex c fs m' => rw [ea] at w; exact w
  | ok d m1 =>
    rw [ea] at w
    intro x H1 I1 A1 r1
    cases d with
    | d d => exact (show False from w).elim
    | lam z => exact (show False from w).elim
    | ref k =>
      obtain ⟨a, rfl, ha⟩ := r1.top.cel
      have w1 : WantE C B g S σ vs Q (match m1[k]? with
        | some (some (.dct _ _)) => (mb g m1).bind fun y m2 => dUpd k y m2
        | _ => .bad) := w
      split at w1
      · rename_i ks0 ds0 hm
        obtain ⟨us0, hu0, _⟩ := r1.base.ok _ _ a hm ha
        refine ⟨a, rfl, .inl ⟨_, .inl hu0⟩, B, g, .ref k :: S, m1, .ref a :: vs, I1, A1, r1, ?_⟩
        cases eb : mb g m1 with
        | bad => rw [eb] at w1; exact (show False from w1).elim
        | ex c fs m' =>
          rw [eb] at w1
          intro σ' H' I' A' dx ws r' h1 h2 h3
          exact w1 σ' H' I' A' dx ws r'.pop1 h1 h2 h3
        | ok y m2 =>
          rw [eb] at w1
          intro yv H2 I2 A2 r2
          have w2 : WantE C B g S σ vs Q (dUpd k y m2) := w1
          unfold dUpd at w2
          split at w2
          · rename_i ks2 ds2 ks ds hm2
            by_cases hl : ks.length + ks2.length ≤ 10000
            · rw [if_pos hl] at w2
              obtain ⟨a', ea', ha'⟩ := r2.pop1.top.cel
              cases ea'
              obtain ⟨us, hu, hul, hud⟩ := r2.base.ok _ _ a hm2 ha'
              cases r2.top.dat with
              | @dct b _ xs2 _ g1 g2 g3 =>
                have hb := r2.base.sub _ _ g1
                obtain ⟨kvs, k1, k2, k3⟩ := merge_ok (dps_zip g2 g3)
                have ekv := map_kv_inj k1
                subst ekv
                obtain ⟨xs', k4, k5, k6⟩ := k3 hul hud
                have hab : a ≠ b := fun z => by
                  have := r2.base.fr k _ a hm2 ha'
                  rw [z, g1] at this
                  cases this
                have hsz : 10000 ≤ sizeLine := by rw [sizeLine_eq]; omega
                refine ⟨b, ks.zip us, ks2.zip xs2, rfl, hab, hu, hb, by rw [List.length_zip, List.length_zip]; omega, ?_⟩
                have b3 := r2.pop1.pop1.base.put (c' := .dct (mergeD ks ds (ks2.zip ds2)).1 (mergeD ks ds (ks2.zip ds2)).2) (o := .dK (mergeK (ks.zip us) (ks2.zip xs2))) hm2 ha' ⟨xs', by rw [upd_same, k4], k5, k6⟩
                exact w2 _ _ _ _ ((r2.pop1.pop1.step b3 Up.refl).push (.d .non))
            · rw [if_neg hl] at w2; exact (show False from w2).elim
          · exact (show False from w2).elim
      · exact (show False from w1).elim
end
end FM
namespace FM
open PySem PySem.Spec PyProof.Rows L2
/-! ### sorted(texts), min(a tuple of texts), xs.pop(i) -/
section
variable {prog : Program} {w : World} {A : Around} {E : Value → Shared → Prop} {s : Shared} {l : Addr}
theorem cmp_strs {A : Around} {P : Nat → Value → Prop} (val : Nat → Str) (hval : ∀ i v, P i v → ∃ t, v = .str (val i) t) : CmpOf prog w A .Lt P fun i j => ltS (val i) (val j) := fun i j x y s Q E px py h => by
  obtain ⟨t, rfl⟩ := hval i x px
  obtain ⟨t', rfl⟩ := hval j y py
  have e : decide ((val i).cps.toList < (val j).cps.toList) = ltS (val i) (val j) := by
    cases h : ltS (val i) (val j) with
    | true => exact decide_eq_true (ltS_iff.mp h)
    | false => exact decide_eq_false fun z => by rw [ltS_iff.mpr z] at h; cases h
  exact richCompare_gives (op := .Lt) (typeIs_str s _ t) (typeIs_str s _ t') PySem.F.slot_str_lt PySem.F.entry_str_lt (PySem.F.args_str_lt_2 _ _) (gives_str_lt _ _ t t') (fun x => nomatch x) (by rw [e]; exact h)
theorem argBest_S (val : Nat → Str) : ∀ k, argBest (fun i j => ltS (val i) (val j)) k ≤ k ∧ ∀ j, j ≤ k → ltS (val j) (val (argBest (fun i j => ltS (val i) (val j)) k)) = false
  | 0 => ⟨Nat.le_refl _, fun j hj => by
    have : j = 0 := by omega
    subst this
    exact ltS_irr⟩
  | k + 1 => by
    obtain ⟨h1, h2⟩ := argBest_S val k
    simp only [argBest]
    by_cases hc : ltS (val (k + 1)) (val (argBest (fun i j => ltS (val i) (val j)) k)) = true
    · rw [if_pos hc]
      refine ⟨Nat.le_refl _, fun j hj => ?_⟩
      by_cases e : j = k + 1
      · rw [e]; exact ltS_irr
      · cases h : ltS (val j) (val (k + 1)) with
        | false => rfl
        | true => have := ltS_tr h hc; rw [h2 j (by omega)] at this; cases this
    · rw [if_neg hc]
      refine ⟨by omega, fun j hj => ?_⟩
      by_cases e : j = k + 1
      · rw [e]; simpa using hc
      · exact h2 j (by omega)
theorem min_tupS {its : List Value} {ns : List Str} {Q : Value → Shared → Prop} (hh : A.handled = none) (hl : s.heap.IsTuple l its.toArray) (hi : Vals (ns.map V.str) its) (hne : 0 < ns.length)
    (h : ∀ h' tk M t', (∀ b o, s.heap.get? b = some o → h'.get? b = some o) → M ∈ ns → (∀ a, a ∈ ns → ltS a M = false) → Q (.str M t') { s with heap := h', toks := tk }) : wpAny (model prog w) A (call (.builtin "min") [.ref l]) Q E s := by
  have hlt : l < s.heap.objs.size := by obtain ⟨_, e, _⟩ := hl; exact Heap.lt_size e
  have hlen : its.length = ns.length := by have := hi.length; simpa using this.symm
  have val_at : ∀ (i : Nat) (v : Value), its.toArray[i]? = some v → ∃ t, v = .str (ns.getD i "") t := fun i v e => by
    have e : its[i]? = some v := by simpa using e
    have hi' : i < ns.length := by rw [← hlen]; exact (List.getElem?_eq_some_iff.mp e).1
    obtain ⟨u, hu, ru⟩ := hi.get (x := V.str (ns.getD i "")) (i := i) (by rw [List.getElem?_map, List.getD_eq_getElem?_getD, List.getElem?_eq_getElem hi']; rfl)
    rw [e] at hu
    cases hu
    exact ru
  refine call_min_walk (wpAny_pyIter_tuple hl ?_)
  refine ⟨_, [_, l], [_], _, _, _, _, rfl, Walks.tuple (A := A.in1) hh s.heap.objs.size l (Nat.ne_of_lt hlt) its.toArray, ⟨⟨_, Heap.get?_push_size _ rfl, rfl, rfl⟩, hl.push _⟩, fun b hb => ?_, by simpa [hlen] using hne, cmp_strs (fun i => ns.getD i "") (fun i v e => val_at i v e), fun v h' tk hP hk => ?_⟩
  · show b < (s.heap.push _).objs.size
    rw [Heap.size_push]
    rcases List.mem_cons.mp hb with rfl | hb
    · exact Nat.lt_succ_self _
    · rcases List.mem_cons.mp hb with rfl | hb
      · exact Nat.lt_succ_of_lt hlt
      · cases hb
  · obtain ⟨t, rfl⟩ := val_at _ v hP
    obtain ⟨h1, h2⟩ := argBest_S (fun i => ns.getD i "") (its.toArray.size - 1)
    have hsz : its.toArray.size = ns.length := by simpa using hlen
    refine h h' tk _ t (fun b o e => ?_) ?_ fun a ha => ?_
    · refine hk b o (fun hm => ?_) (Heap.get?_push_of_some _ e)
      rcases List.mem_cons.mp hm with e1 | hm
      · exact absurd (e1 ▸ Heap.lt_size e) (Nat.lt_irrefl _)
      · cases hm
    · have hlt : argBest (fun i j => ltS (ns.getD i "") (ns.getD j "")) (its.toArray.size - 1) < ns.length := by rw [hsz] at h1 ⊢; omega
      rw [List.getD_eq_getElem?_getD, List.getElem?_eq_getElem hlt]
      exact List.getElem_mem hlt
    · obtain ⟨j, hj, e⟩ := List.mem_iff_getElem.mp ha
      have := h2 j (by omega)
      simp only [List.getD_eq_getElem?_getD, List.getElem?_eq_getElem hj, Option.getD_some, e] at this ⊢
      exact this
end
def rMinTS (K : PySem.W.Frag) : List V → Hp → VK → Prop := fun vs H Q => ∃ (a : Addr) (ns : List Str), vs = [V.ref a] ∧ SqT K H a (ns.map V.str) ∧ 0 < ns.length ∧ ∀ m, m ∈ ns → (∀ y, y ∈ ns → ltS y m = false) → Q (.str m) H
theorem cr_minTS {X : Cx} (hc : X.calm = true) : CallR X (.builtin "min") (rMinTS X.K) := by
  intro pins s σ H vs us Q I r h
  obtain ⟨a, ns, rfl, hs, hne, q⟩ := h
  obtain ⟨its, rv, hl, _⟩ := I.tuple hs
  rw [Vals.ref1 r]
  exact min_tupS (I.ok.hd hc) hl rv hne fun h' tk m t' hk h1 h2 => ⟨.str _, H, I.kept hk, ⟨_, rfl⟩, q m h1 h2⟩
def minS : Str → List Str → Str
  | a, [] => a
  | a, b :: r => minS (if ltS b a then b else a) r
theorem minS_mem : ∀ {r : List Str} {a : Str}, minS a r ∈ a :: r
  | [], a => by simp [minS]
  | b :: r, a => by
    have := minS_mem (r := r) (a := if ltS b a then b else a)
    unfold minS
    rcases List.mem_cons.mp this with e | e
    · rw [e]; split <;> simp
    · exact List.mem_cons_of_mem _ (List.mem_cons_of_mem _ e)
theorem leS_tr {a b c : Str} (h : ltS b a = false) (h' : ltS c b = false) : ltS c a = false := by
  cases h2 : ltS c a with
  | false => rfl
  | true =>
    by_cases e : b = c
    · subst e; rw [h] at h2; cases h2
    · have q := ltS_tot (a := c) (b := b) (fun z => e z.symm) h'
      have := ltS_tr q h2
      rw [h] at this; cases this
theorem minS_le : ∀ {r : List Str} {a x : Str}, x ∈ a :: r → ltS x (minS a r) = false
  | [], a, x, h => by simp at h; simp [minS, h, ltS_irr]
  | b :: r, a, x, h => by
    unfold minS
    have g : ∀ y, ltS y (if ltS b a then b else a) = false → ltS y (minS (if ltS b a then b else a) r) = false := fun y hy => leS_tr (minS_le (r := r) (by simp)) hy
    rcases List.mem_cons.mp h with rfl | h
    · refine g _ ?_
      split
      · rename_i q
        cases z : ltS x b with
        | false => rfl
        | true => have := ltS_tr z q; rw [ltS_irr] at this; cases this
      · exact ltS_irr
    · rcases List.mem_cons.mp h with rfl | h
      · refine g _ ?_
        split
        · exact ltS_irr
        · rename_i q; simpa using q
      · exact minS_le (r := r) (List.mem_cons_of_mem _ h)
theorem min_uniq {ns : List Str} {a b : Str} (ha : a ∈ ns) (hb : b ∈ ns) (ma : ∀ y ∈ ns, ltS y a = false) (mb : ∀ y ∈ ns, ltS y b = false) : a = b := by
  by_cases e : a = b
  · exact e
  · have := ltS_tot e (mb a ha)
    rw [ma b hb] at this; cases this
def nMinTS : ON := fun _ xs => match xs with
  | [x] => match (tupOf x).bind strsD with
    | some (n :: ns) => some (.d (.str (minS n ns)))
    | _ => none
  | _ => none
theorem sim_minTS {T : Tab} : SimN T (rMinTS T.K) nMinTS := simN_pure fun F I H A m ws ds d b hv e Q q => by
  unfold nMinTS at e
  split at e
  · rename_i x
    obtain ⟨u, rfl, hu⟩ := hv.one_inv
    cases el : tupOf x with
    | none => simp [el] at e
    | some es =>
      cases ei : strsD es with
      | none => simp [el, ei] at e
      | some ns =>
        cases ns with
        | nil => simp [el, ei] at e
        | cons n ns =>
          simp [el, ei] at e
          obtain ⟨a, us, e1, e2, e3⟩ := tupOf_ok b hu el
          have eu := strsD_ok ei e3
          subst eu e1 e
          refine ⟨a, n :: ns, rfl, e2, by simp, fun k hk hm => ?_⟩
          rw [min_uniq hk minS_mem hm (fun y hy => minS_le hy)]
          exact q _ (.d (.str _))
  · cases e
theorem wo_minTS {m : Cells} {n : Str} {ns : List Str} {Q : Vl → Prop} (q : Q (.d (.str (minS n ns)))) : wO (nMinTS m [.d (.tup ((n :: ns).map .str))]) Q := wO_eq (by simp only [nMinTS, tupOf, Option.bind_some, strsD_map]) q
/-! sorted, as often as they stand there -/
def insW (k : Str) : List Str → List Str
  | [] => [k]
  | x :: r => if ltS x k then x :: insW k r else k :: x :: r
def sortW (zs : List Str) : List Str := zs.foldr insW []
theorem insW_perm {k : Str} : ∀ l : List Str, (insW k l).Perm (k :: l)
  | [] => List.Perm.refl _
  | x :: r => by
    unfold insW
    split
    · exact ((insW_perm r).cons x).trans (List.Perm.swap k x r)
    · exact List.Perm.refl _
theorem sortW_perm : ∀ zs : List Str, (sortW zs).Perm zs
  | [] => List.Perm.refl _
  | z :: zs => (insW_perm _).trans ((sortW_perm zs).cons z)
abbrev RiseW (l : List Str) : Prop := l.Pairwise fun a b => ltS b a = false
theorem insW_rise {k : Str} : ∀ {l : List Str}, RiseW l → RiseW (insW k l)
  | [], _ => by simp [insW, RiseW]
  | x :: r, h => by
    have h1 := List.pairwise_cons.mp h
    unfold insW
    split
    · rename_i lt
      refine List.pairwise_cons.mpr ⟨fun y hy => ?_, insW_rise h1.2⟩
      rcases List.mem_cons.mp ((insW_perm r).mem_iff.mp hy) with e | hy
      · rw [e]
        cases z : ltS k x with
        | false => rfl
        | true => have := ltS_tr lt z; rw [ltS_irr] at this; cases this
      · exact h1.1 y hy
    · rename_i nl
      refine List.pairwise_cons.mpr ⟨fun y hy => ?_, h⟩
      have nl : ltS x k = false := by simpa using nl
      rcases List.mem_cons.mp hy with rfl | hy
      · exact nl
      · exact leS_tr nl (h1.1 y hy)
theorem sortW_rise : ∀ zs : List Str, RiseW (sortW zs)
  | [] => List.Pairwise.nil
  | z :: zs => insW_rise (sortW_rise zs)
theorem riseW_eq : ∀ {a b : List Str}, RiseW a → RiseW b → a.Perm b → a = b
  | [], b, _, _, p => by rw [List.nil_perm] at p; exact p.symm
  | x :: a, [], _, _, p => by have := p.length_eq; simp at this
  | x :: a, y :: b, ha, hb, p => by
    have a1 := List.pairwise_cons.mp ha
    have b1 := List.pairwise_cons.mp hb
    have e : x = y := by
      refine min_uniq (ns := x :: a) (by simp) (p.mem_iff.mpr (by simp)) (fun z hz => ?_) (fun z hz => ?_)
      · rcases List.mem_cons.mp hz with rfl | hz
        · exact ltS_irr
        · exact a1.1 z hz
      · rcases List.mem_cons.mp (p.mem_iff.mp hz) with rfl | hz
        · exact ltS_irr
        · exact b1.1 z hz
    subst e
    rw [riseW_eq a1.2 b1.2 (List.perm_cons x |>.mp p)]
theorem sorted_riseW : ∀ {l : List Str}, sortedS l = true → RiseW l
  | [], _ => List.Pairwise.nil
  | x :: r, h => by
    have key : ∀ {p : Str} {l : List Str}, risingS p l = true → RiseW (p :: l) := by
      intro p l
      induction l generalizing p with
      | nil => intro _; simp [RiseW]
      | cons x r ih =>
        intro h
        have h2 : (!ltCps x.cps.toList p.cps.toList) = true ∧ risingS x r = true := Bool.and_eq_true_iff.mp h
        have i1 := List.pairwise_cons.mp (ih h2.2)
        have hx : ltS x p = false := by simpa using h2.1
        refine List.pairwise_cons.mpr ⟨fun y hy => ?_, ih h2.2⟩
        rcases List.mem_cons.mp hy with rfl | hy
        · exact hx
        · exact leS_tr hx (i1.1 y hy)
    exact key h
def lSortS : OL := fun m xs => match xs with
  | [x] => ((lstOf m x).bind strsD).bind fun ns => if ns.length < 64 then some ((sortW ns).map .str) else none
  | _ => none
theorem drs_strs {T : Tab} {I : Hp} : ∀ {ns : List Str}, DRs T I (ns.map V.str) (ns.map Dt.str)
  | [] => .nil
  | n :: ns => .cons (.str n) drs_strs
theorem sim_sortS {T : Tab} : SimL T (rSortedS T.K) lSortS := fun F I H A m ws ds es b hv e Q q => by
  unfold lSortS at e
  split at e
  · rename_i x
    obtain ⟨w, rfl, hw⟩ := hv.one_inv
    cases el : lstOf m x with
    | none => simp [el] at e
    | some xs =>
      cases ei : strsD xs with
      | none => simp [el, ei] at e
      | some ns =>
        simp only [el, ei, Option.bind_some] at e
        split at e
        · rename_i hl
          cases e
          obtain ⟨a, us, e1, e2, e3⟩ := lstOf_ok b hw el
          have eu := strsD_ok ei e3
          subst eu e1
          refine ⟨a, ns, rfl, e2, hl, fun ys p pm hs hp => ?_⟩
          rw [riseW_eq (sorted_riseW hs) (sortW_rise ns) (pm.trans (sortW_perm ns).symm)]
          exact q p _ hp drs_strs
        · cases e
  · cases e
theorem wo_sortS {m : Cells} {x : Vl} {ns : List Str} {Q : List Dt → Prop} (h : lstOf m x = some (ns.map .str)) (hl : ns.length < 64) (q : Q ((sortW ns).map .str)) : wO (lSortS m [x]) Q := wO_eq (by simp only [lSortS, h, Option.bind_some, strsD_map, hl, if_true]) q
/-! xs.pop(i) -/
def fPopAt : OM := fun ds _ ys => match ys with
  | [.d (.int i)] => if 0 ≤ i ∧ i < ds.length ∧ ds.length < 1000000 then (ds[i.toNat]?).map fun d => (.d d, ds.eraseIdx i.toNat) else none
  | _ => none
theorem drs_erase {T : Tab} {I : Hp} : ∀ {vs : List V} {ds : List Dt} {i : Nat}, DRs T I vs ds → DRs T I (vs.eraseIdx i) (ds.eraseIdx i)
  | [], ds, i, h => by cases h; simpa using DRs.nil
  | v :: vs, ds, i, h => by
    cases h with
    | cons a t =>
      cases i with
      | zero => simpa using t
      | succ i => simpa using DRs.cons a (drs_erase t)
theorem sim_popAt {T : Tab} : SimM T rPopAt fPopAt := fun F I H A m a us ds ws ys v ds' b hu hd hw e Q q => by
  unfold fPopAt at e
  split at e
  · rename_i i
    split at e
    · rename_i hi
      obtain ⟨h0, h1, h2⟩ := hi
      cases ed : ds[i.toNat]? with
      | none => rw [ed] at e; cases e
      | some d =>
        rw [ed] at e
        cases e
        obtain ⟨w, rfl, hw1⟩ := hw.one_inv
        cases hw1.dat
        obtain ⟨u, g1, g2⟩ := hd.get ed
        refine ⟨a, us, i, i.toNat, u, rfl, rfl, hu, by omega, by omega, ?_, g1, q _ _ (drs_erase hd) (.d g2)⟩
        have hl := hd.len
        unfold seqIndex?
        dsimp only
        have e1 : (if i < 0 then i + (us.length : Int) else i) = i := if_neg (by omega)
        rw [e1]
        have e2 : (decide (0 ≤ i) && decide (i < (us.length : Int))) = true := by simp; omega
        rw [if_pos e2]
    · cases e
  · cases e
end FM
namespace K31
open PySem PySem.Spec PyProof.Rows L2 FM
noncomputable section
abbrev FnP (K : PySem.W.Frag) (x q : Str) (st : Stmt) (f : Addr) (fd : FuncData) : Prop := FunD K x q (defArgs st) (defBody st) (defScope st) [] [] f fd
def cs : List (Str × List Str) := []
abbrev TT (K : PySem.W.Frag) : Tab := mkT cs [] K
structure Wd (K : PySem.W.Frag) (mg : Str → Option Value) : Prop where
  b_len : mg "len" = none
  b_sorted : mg "sorted" = none
  b_set : mg "set" = none
  b_range : mg "range" = none
  b_list : mg "list" = none
  b_zip : mg "zip" = none
  b_abs : mg "abs" = none
  b_int : mg "int" = none
  b_str : mg "str" = none
  b_tuple : mg "tuple" = none
  b_min : mg "min" = none
  b_dict : mg "dict" = none
abbrev TTs (P : Program) (w : World) (K : PySem.W.Frag) : Tab := { TT K with so := FS.SetTx P w }
/-! ### ring_through -/
theorem scThrough : FnScope ["arcs", "path", "length", "goals", "key", "found"] ["arcs", "path", "length"] (defScope sThrough) := ⟨rfl, rfl, rfl, by decide +kernel, rfl, by decide +kernel, by decide +kernel⟩
def mThrough (r_Through : Fn) : MS :=
  mSeq (mAsg (mOp oDGet (mVar 0) (mOp oIxT (mVar 1) (mUn oNeg (mC (.int 1))))) (gNm 3))
  (mSeq (mIfS (mTest (mOp oEq (mCB nLen (mCons (mVar 1) (mNil))) (mVar 2)))
  (mSeq (mIfS (mTest (mOp (oIn false) (mOp oIxT (mVar 1) (mC (.int 0))) (mVar 3)))
  (mRet (mVar 1)) (mNext))
  (mRet (mC .non))) (mNext))
  (mSeq (mFor (mIt (mSortL (mVar 3)) isLst) (gNm 4)
  (mIfS (mAnd (mTest (mOp (oSB gtS) (mVar 4) (mOp oIxT (mVar 1) (mC (.int 0))))) (mTest (mOp (oIn true) (mVar 4) (mVar 1))))
  (mSeq (mAsg (mCall r_Through (mCons (mVar 0) (mCons (mOp oCatT (mVar 1) (mTup (mCons (mVar 4) (mNil)))) (mCons (mVar 2) (mNil))))) (gNm 5))
  (mIfS (mTest (mOp (oIsN true) (mVar 5) (mC .non)))
  (mRet (mVar 5)) (mNext))) (mNext)))
  (mRet (mC .non))))
def FThrough (r_Through : Fn) : Fn := runFn 3 6 (mThrough r_Through)
set_option maxHeartbeats 4000000 in
theorem okThrough {P : Program} {w : World} {K : PySem.W.Frag} {mg : Str → Option Value} {base : Heap} {f : Addr} {fd : FuncData} {k : Nat} {r_Through : Fn} (W : Wd K mg) (F : FnP K "ring_through" "ring_through" sThrough f fd) {l_Through : Nat} (h_Through : NK.CalX P w K mg base l_Through "ring_through" ["arcs", "path", "length"] (spFn (TTs P w K) r_Through)) (hl_Through : l_Through ≤ k) : FnOk P w K mg base (L2N.CX P w) (k + 1) f fd ["arcs", "path", "length"] (spFn (TTs P w K) (FThrough r_Through)) := by
  refine F.ok (CX := L2N.CX P w) scThrough spFn_len (fun cdv A outer st H vs Q E hr h => ⟨FS ⟨TTs P w K, none, fun cls d _ H => E cls d H⟩ (mThrough r_Through), ?_, fn_enter (N := ["arcs", "path", "length", "goals", "key", "found"]) h⟩)
  unfold mThrough
  exact fss_cons (pss_cons (fs_set (ps_set (i := 3) scThrough.nd rfl (Or.inl rfl) (fe_dget (pe_dget (hu_of hr) (fe_var (pv 0)) (fe_op (pe_ix ix_tup (fe_var (pv 1)) (fe_neg (pe_un un_neg (fe_int pe_int))) (fun _ _ => rfl)) sim_ixT) (fun _ _ => rfl)))) rfl)
    (fss_cons (pss_cons (fs_if (ps_if (ft_cmp (pt_cmpR op_eq (fe_cb (pe_callB NK.call_lenSeq (by rfl) W.b_len (by decide +kernel) (fa_cons (pa_cons (fe_var (pv 1)) ((fa_nil pa_nil))))) sim_len) (fe_var (pv 2)) (nomark _)) sim_eq)
    (fss_cons (pss_cons (fs_if (ps_if (ft_cmp (pt_cmpR op_in_seq (fe_op (pe_ix ix_tup (fe_var (pv 1)) (fe_int pe_int) (fun _ _ => rfl)) sim_ixT) (fe_var (pv 3)) rfl) sim_in)
    (pss_one (fs_ret (ps_ret (fe_var (pv 1))))) ((fss_nil pss_nil))))
    (pss_one (fs_ret (ps_ret (fe_non pe_non)))))) ((fss_nil pss_nil))))
    (fss_cons (pss_cons (fs_for (ps_for (passes_of rfl) rfl (fi_lst (pi_list (fe_sortL (pe_callB (FS.cr_sortTx rfl) (by rfl) W.b_sorted (by decide +kernel) (pa_cons (pe_callTy (FS.cr_setL rfl) (by rfl) W.b_set (by decide +kernel) (pa_cons (fe_var (pv 3)) pa_nil)) pa_nil))))) (fg_name (pg_name (i := 4) scThrough.nd rfl (Or.inl rfl)) rfl)
    (pss_one (fs_if (ps_if (PW.pt (fw_and (pw_and (ft_cmp (pt_cmpR op_gt_str (fe_var (pv 4)) (fe_op (pe_ix ix_tup (fe_var (pv 1)) (fe_int pe_int) (fun _ _ => rfl)) sim_ixT) (nomark _)) sim_sb) (pw_and1 (ft_cmp (pt_cmpR op_notIn_seq (fe_var (pv 4)) (fe_var (pv 1)) rfl) sim_in)))))
    (fss_cons (pss_cons (fs_set (ps_set (i := 5) scThrough.nd rfl (Or.inl rfl) (fe_call (NK.pe_fnS h_Through (hr.mono hl_Through) (by rfl) (L2N.takes_of rfl rfl rfl rfl) (fa_cons (pa_cons (fe_var (pv 0)) (fa_cons (pa_cons (fe_op (pe_op op_catA (fe_var (pv 1)) (fe_tup (pe_tup (fa_cons (pa_cons (fe_var (pv 4)) ((fa_nil pa_nil))))))) sim_catT) (fa_cons (pa_cons (fe_var (pv 2)) ((fa_nil pa_nil))))))))))) rfl)
    (pss_one (fs_if (ps_if (ft_cmp (pt_cmpR op_notN1 (fe_var (pv 5)) (fe_non pe_non) (nomark _)) sim_notN)
    (pss_one (fs_ret (ps_ret (fe_var (pv 5))))) ((fss_nil pss_nil))))))) ((fss_nil pss_nil)))))))
    (pss_one (fs_ret (ps_ret (fe_non pe_non)))))))))
def thrN : Nat → Fn
  | 0 => fnNo
  | n + 1 => FThrough (thrN n)
/-! ### ring_of -/
theorem scRingOf : FnScope ["arcs", "length", "key", "found"] ["arcs"] (defScope sRingOf) := ⟨rfl, rfl, rfl, by decide +kernel, rfl, by decide +kernel, by decide +kernel⟩
def mRingOf : MS :=
  mSeq (mFor (mItA (mCons (mC (.int 1)) (mCons (mOp oAdd (mCB nLenD (mCons (mVar 0) (mNil))) (mC (.int 1))) (mNil))) isRng2) (gNm 1)
  (mFor (mIt (mCL lSortS (mCons (mCL lListD (mCons (mVar 0) (mNil))) (mNil))) isLst) (gNm 2)
  (mSeq (mAsg (mCall (thrN 7) (mCons (mVar 0) (mCons (mTup (mCons (mVar 2) (mNil))) (mCons (mVar 1) (mNil))))) (gNm 3))
  (mIfS (mTest (mOp (oIsN true) (mVar 3) (mC .non)))
  (mRet (mVar 3)) (mNext)))))
  (mRet (mC .non))
def FRingOf : Fn := runFn 1 4 (mRingOf)
set_option maxHeartbeats 4000000 in
theorem okRingOf {P : Program} {w : World} {K : PySem.W.Frag} {mg : Str → Option Value} {base : Heap} {f : Addr} {fd : FuncData} {k : Nat} (W : Wd K mg) (F : FnP K "ring_of" "ring_of" sRingOf f fd) {l_Through : Nat} (h_Through : NK.CalX P w K mg base l_Through "ring_through" ["arcs", "path", "length"] (spFn (TTs P w K) (thrN 7))) (hl_Through : l_Through ≤ k) : FnOk P w K mg base (L2N.CX P w) (k + 1) f fd ["arcs"] (spFn (TTs P w K) (FRingOf)) := by
  refine F.ok (CX := L2N.CX P w) scRingOf spFn_len (fun cdv A outer st H vs Q E hr h => ⟨FS ⟨TTs P w K, none, fun cls d _ H => E cls d H⟩ (mRingOf), ?_, fn_enter (N := ["arcs", "length", "key", "found"]) h⟩)
  unfold mRingOf
  exact fss_cons (pss_cons (fs_for (ps_for (passes_of rfl) rfl (fi_rng2 (pi_range2 (by rfl) W.b_range (fa_cons (pa_cons (fe_int pe_int) (fa_cons (pa_cons (fe_op (pe_op op_add (fe_cb (pe_callB call_lenDr (by rfl) W.b_len (by decide +kernel) (fa_cons (pa_cons (fe_var (pv 0)) ((fa_nil pa_nil))))) sim_lenD) (fe_int pe_int)) sim_ii) ((fa_nil pa_nil)))))))) (fg_name (pg_name (i := 1) scRingOf.nd rfl (Or.inl rfl)) rfl)
    (pss_one (fs_for (ps_for (passes_of rfl) rfl (fi_lst (pi_list (fe_cl (pe_callB cr_sortedS (by rfl) W.b_sorted (by decide +kernel) (fa_cons (pa_cons (fe_cl (pe_callTy (call_list_dK rfl) (by rfl) W.b_list (by decide +kernel) (fa_cons (pa_cons (fe_var (pv 0)) ((fa_nil pa_nil))))) sim_listD) ((fa_nil pa_nil))))) sim_sortS))) (fg_name (pg_name (i := 2) scRingOf.nd rfl (Or.inl rfl)) rfl)
    (fss_cons (pss_cons (fs_set (ps_set (i := 3) scRingOf.nd rfl (Or.inl rfl) (fe_call (NK.pe_fnS h_Through (hr.mono hl_Through) (by rfl) (L2N.takes_of rfl rfl rfl rfl) (fa_cons (pa_cons (fe_var (pv 0)) (fa_cons (pa_cons (fe_tup (pe_tup (fa_cons (pa_cons (fe_var (pv 2)) ((fa_nil pa_nil)))))) (fa_cons (pa_cons (fe_var (pv 1)) ((fa_nil pa_nil))))))))))) rfl)
    (pss_one (fs_if (ps_if (ft_cmp (pt_cmpR op_notN1 (fe_var (pv 3)) (fe_non pe_non) (nomark _)) sim_notN)
    (pss_one (fs_ret (ps_ret (fe_var (pv 3))))) ((fss_nil pss_nil))))))))))))
    (pss_one (fs_ret (ps_ret (fe_non pe_non)))))
/-! ### arcs_of -/
theorem scArcsOf : FnScope ["records", "held", "keys", "since", "key", "found", "later", "one"] ["records"] (defScope sArcsOf) := ⟨rfl, rfl, rfl, by decide +kernel, rfl, by decide +kernel, by decide +kernel⟩
def mArcsOf : MS :=
  mSeq (mAsg (mDc2 (mIt (mVar 0) isSeq) (gTp 2 (gsCons (gNm 2) (gsCons (gNm 3) (gsNil)))) (mYes) (mIt (mVar 2) isTup) (gNm 4) (mYes) (mVar 4) (mC (.bl true)) [2, 3, 4] [4]) (gNm 1))
  (mSeq (mAsg (mDNew) (gNm 5))
  (mSeq (mFor (mIt (mVar 0) isSeq) (gTp 2 (gsCons (gNm 2) (gsCons (gNm 3) (gsNil))))
  (mFor (mItA (mCons (mVar 2) (mCons (mVar 3) (mNil))) isZip) (gTp 2 (gsCons (gNm 4) (gsCons (gNm 6) (gsNil))))
  (mPutD (mVar 5) (mVar 4) (mLc (mIt (mVar 6) isTup) (gNm 7) (mTest (mOp (oDIn false) (mVar 7) (mVar 1))) (mVar 7) [7]))))
  (mRet (mFrzD (mVar 5)))))
def FArcsOf : Fn := runFn 1 8 (mArcsOf)
set_option maxHeartbeats 4000000 in
theorem okArcsOf {P : Program} {w : World} {K : PySem.W.Frag} {mg : Str → Option Value} {base : Heap} {f : Addr} {fd : FuncData} {k : Nat} (W : Wd K mg) (F : FnP K "arcs_of" "arcs_of" sArcsOf f fd) : FnOk P w K mg base (L2N.CX P w) (k + 1) f fd ["records"] (spFn (TTs P w K) (FArcsOf)) := by
  refine F.ok (CX := L2N.CX P w) scArcsOf spFn_len (fun cdv A outer st H vs Q E hr h => ⟨FS ⟨TTs P w K, none, fun cls d _ H => E cls d H⟩ (mArcsOf), ?_, fn_enter (N := ["records", "held", "keys", "since", "key", "found", "later", "one"]) h⟩)
  unfold mArcsOf
  exact fss_cons (pss_cons (fs_set (ps_set (i := 1) scArcsOf.nd rfl (Or.inr rfl) (fe_dc2 (FS.pe_dc2 (own := [("keys", 2), ("since", 3), ("key", 4)]) (vs1 := [4]) rfl scArcsOf.nd (fi_seq (NK.pi_seq (fe_var (pv 0)))) (blkOk_by (own := [("keys", 2), ("since", 3), ("key", 4)]) (N := ["records", "held", "keys", "since", "key", "found", "later", "one"]) (sc := defScope sArcsOf) (by decide +kernel)) (by decide) (fun _ _ _ _ _ => pg_tup rfl (pgs_cons (pg_name (i := 2) scArcsOf.nd rfl (Or.inl rfl)) (pgs_cons (pg_name (i := 3) scArcsOf.nd rfl (Or.inl rfl)) (pgs_nil)))) (fun _ _ _ _ _ => (ft_yes pts_nil)) (fun _ _ _ _ _ => fi_tup (pi_tup (fe_var (pv 2)))) (fun _ _ _ _ _ => pg_name (i := 4) scArcsOf.nd rfl (Or.inl rfl)) (fun _ _ _ _ _ => (ft_yes pts_nil)) (fun _ _ _ _ _ => fe_var (pv 4)) (fun _ _ _ _ _ => fe_bl pe_bl)) (sg_tup (sgs_cons (sg_name rfl) (sgs_cons (sg_name rfl) sgs_nil))) (fills_tup (fills_cons fills_name (fills_cons fills_name fills_nil))) (by decide) (sg_name rfl) fills_name (by decide) rfl)) rfl)
    (fss_cons (pss_cons (fs_set (ps_set (i := 5) scArcsOf.nd rfl (Or.inl rfl) (fe_dnew pe_dnewK)) rfl)
    (fss_cons (pss_cons (fs_for (ps_for (passes_of rfl) rfl (fi_seq (NK.pi_seq (fe_var (pv 0)))) (fg_tup (pg_tup rfl (fgs_cons (pgs_cons (fg_name (pg_name (i := 2) scArcsOf.nd rfl (Or.inl rfl)) rfl) (fgs_cons (pgs_cons (fg_name (pg_name (i := 3) scArcsOf.nd rfl (Or.inl rfl)) rfl) (fgs_nil pgs_nil)))))))
    (pss_one (fs_for (ps_for (passes_of rfl) rfl (fi_zip (RZ.pi_zipA (by rfl) W.b_zip (fa_cons (pa_cons (fe_var (pv 2)) (fa_cons (pa_cons (fe_var (pv 3)) ((fa_nil pa_nil)))))))) (fg_tup (pg_tup rfl (fgs_cons (pgs_cons (fg_name (pg_name (i := 4) scArcsOf.nd rfl (Or.inl rfl)) rfl) (fgs_cons (pgs_cons (fg_name (pg_name (i := 6) scArcsOf.nd rfl (Or.inl rfl)) rfl) (fgs_nil pgs_nil)))))))
    (pss_one (fs_dput (ps_dput (hu_of hr) (fe_var (pv 5)) (fe_var (pv 4)) (fe_lc (pe_lc (own := [("one", 7)]) rfl scArcsOf.nd (fi_tup (pi_tup (fe_var (pv 6)))) (blkOk_by (own := [("one", 7)]) (N := ["records", "held", "keys", "since", "key", "found", "later", "one"]) (sc := defScope sArcsOf) (by decide +kernel)) (fun _ _ _ _ _ => pg_name (i := 7) scArcsOf.nd rfl (Or.inl rfl)) (fun _ _ _ _ _ => (pts_one (ft_din (pt_cmp (pc_din (hu_of hr) (fe_var (pv 7)) (fe_var (pv 1))) rfl)))) (fun _ _ _ _ _ => fe_var (pv 7))) (sg_name rfl) fills_name (by decide) rfl) rfl))))))))
    (pss_one (fs_ret (ps_ret (fe_frzD (fe_var (pv 5)))))))))))
/-! ### clash -/
theorem scClash : FnScope ["records", "seen", "twice", "keys", "since", "key", "ring"] ["records"] (defScope sClash) := ⟨rfl, rfl, rfl, by decide +kernel, rfl, by decide +kernel, by decide +kernel⟩
def mClash : MS :=
  mSeq (mAsg (mSet0) (gNm 1))
  (mSeq (mAsg (mSet0) (gNm 2))
  (mSeq (mFor (mIt (mVar 0) isSeq) (gTp 2 (gsCons (gNm 3) (gsCons (gNm 4) (gsNil))))
  (mFor (mIt (mVar 3) isTup) (gNm 5)
  (mSeq (mIfS (mTest (mOp (oSIn false) (mVar 5) (mVar 1)))
  (mDrop (mSAdd (mVar 2) (mVar 5))) (mNext))
  (mDrop (mSAdd (mVar 1) (mVar 5))))))
  (mSeq (mIfS (mTruS (mVar 2))
  (mRet (mTup (mCons (mC (.str "twice")) (mCons (mOp oIxL (mSortS (mVar 2)) (mC (.int 0))) (mNil))))) (mNext))
  (mSeq (mAsg (mCall FRingOf (mCons (mCall FArcsOf (mCons (mVar 0) (mNil))) (mNil))) (gNm 6))
  (mSeq (mIfS (mTest (mOp (oIsN true) (mVar 6) (mC .non)))
  (mRet (mTup (mCons (mC (.str "ring")) (mCons (mVar 6) (mNil))))) (mNext))
  (mRet (mC .non)))))))
def FClash : Fn := runFn 1 7 (mClash)
set_option maxHeartbeats 4000000 in
theorem okClash {P : Program} {w : World} {K : PySem.W.Frag} {mg : Str → Option Value} {base : Heap} {f : Addr} {fd : FuncData} {k : Nat} (W : Wd K mg) (F : FnP K "clash" "clash" sClash f fd) {l_RingOf : Nat} (h_RingOf : NK.CalX P w K mg base l_RingOf "ring_of" ["arcs"] (spFn (TTs P w K) FRingOf)) (hl_RingOf : l_RingOf ≤ k) {l_ArcsOf : Nat} (h_ArcsOf : NK.CalX P w K mg base l_ArcsOf "arcs_of" ["records"] (spFn (TTs P w K) FArcsOf)) (hl_ArcsOf : l_ArcsOf ≤ k) : FnOk P w K mg base (L2N.CX P w) (k + 1) f fd ["records"] (spFn (TTs P w K) (FClash)) := by
  refine F.ok (CX := L2N.CX P w) scClash spFn_len (fun cdv A outer st H vs Q E hr h => ⟨FS ⟨TTs P w K, none, fun cls d _ H => E cls d H⟩ (mClash), ?_, fn_enter (N := ["records", "seen", "twice", "keys", "since", "key", "ring"]) h⟩)
  unfold mClash
  exact fss_cons (pss_cons (fs_set (ps_set (i := 1) scClash.nd rfl (Or.inl rfl) (fe_set0 rfl (pe_callTy0 FS.cr_set0T (by rfl) W.b_set (by decide +kernel)))) rfl)
    (fss_cons (pss_cons (fs_set (ps_set (i := 2) scClash.nd rfl (Or.inl rfl) (fe_set0 rfl (pe_callTy0 FS.cr_set0T (by rfl) W.b_set (by decide +kernel)))) rfl)
    (fss_cons (pss_cons (fs_for (ps_for (passes_of rfl) rfl (fi_seq (NK.pi_seq (fe_var (pv 0)))) (fg_tup (pg_tup rfl (fgs_cons (pgs_cons (fg_name (pg_name (i := 3) scClash.nd rfl (Or.inl rfl)) rfl) (fgs_cons (pgs_cons (fg_name (pg_name (i := 4) scClash.nd rfl (Or.inl rfl)) rfl) (fgs_nil pgs_nil)))))))
    (pss_one (fs_for (ps_for (passes_of rfl) rfl (fi_tup (pi_tup (fe_var (pv 3)))) (fg_name (pg_name (i := 5) scClash.nd rfl (Or.inl rfl)) rfl)
    (fss_cons (pss_cons (fs_if (ps_if (ft_cmp (pt_cmpR FS.op_sinT (fe_var (pv 5)) (fe_var (pv 1)) rfl) (sim_sin rfl))
    (pss_one (fs_drop (ps_expr (fe_sadd rfl (FS.pe_saddT (fe_var (pv 2)) (fa_cons (pa_cons (fe_var (pv 5)) (fa_nil pa_nil)))))))) ((fss_nil pss_nil))))
    (pss_one (fs_drop (ps_expr (fe_sadd rfl (FS.pe_saddT (fe_var (pv 1)) (fa_cons (pa_cons (fe_var (pv 5)) (fa_nil pa_nil)))))))))))))))
    (fss_cons (pss_cons (fs_if (ps_if (ft_truS rfl (FS.pt_truS (fe_var (pv 2)) (by intro _; rfl)))
    (pss_one (fs_ret (ps_ret (fe_tup (pe_tup (fa_cons (pa_cons (fe_str pe_str) (fa_cons (pa_cons (fe_op (pe_ix ix_list (fe_sortS rfl (pe_callB (FS.cr_sortTx rfl) (by rfl) W.b_sorted (by decide +kernel) (pa_cons (fe_var (pv 2)) pa_nil))) (fe_int pe_int) (fun _ _ => rfl)) sim_ixL) ((fa_nil pa_nil))))))))))) ((fss_nil pss_nil))))
    (fss_cons (pss_cons (fs_set (ps_set (i := 6) scClash.nd rfl (Or.inl rfl) (fe_call (NK.pe_fnS h_RingOf (hr.mono hl_RingOf) (by rfl) (L2N.takes_of rfl rfl rfl rfl) (fa_cons (pa_cons (fe_call (NK.pe_fnS h_ArcsOf (hr.mono hl_ArcsOf) (by rfl) (L2N.takes_of rfl rfl rfl rfl) (fa_cons (pa_cons (fe_var (pv 0)) ((fa_nil pa_nil)))))) ((fa_nil pa_nil))))))) rfl)
    (fss_cons (pss_cons (fs_if (ps_if (ft_cmp (pt_cmpR op_notN1 (fe_var (pv 6)) (fe_non pe_non) (nomark _)) sim_notN)
    (pss_one (fs_ret (ps_ret (fe_tup (pe_tup (fa_cons (pa_cons (fe_str pe_str) (fa_cons (pa_cons (fe_var (pv 6)) ((fa_nil pa_nil))))))))))) ((fss_nil pss_nil))))
    (pss_one (fs_ret (ps_ret (fe_non pe_non)))))))))))))))
/-! ### _law_state -/
theorem scState : FnScope ["_law_cell"] ["_law_cell"] (defScope sState) := ⟨rfl, rfl, rfl, by decide +kernel, rfl, by decide +kernel, by decide +kernel⟩
def mState : MS :=
  mSeq (mAsg (mCB nAbs (mCons (mVar 0) (mNil))) (gNm 0))
  (mRet (mLstC (mCons (mOp oMul (mVar 0) (mCB nInt (mCons (mOp (oIB fun i j => decide (j ≤ i)) (mVar 0) (mOp oPow (mC (.int 10)) (mC (.int 18)))) (mNil)))) (mCons (mOp oAdd (mOp oMod (mVar 0) (mC (.int 2147483629))) (mC (.int 7))) (mCons (mOp oMod (mVar 0) (mC (.int 2147483587))) (mNil))))))
def FState : Fn := runFn 1 1 (mState)
set_option maxHeartbeats 4000000 in
theorem okState {P : Program} {w : World} {K : PySem.W.Frag} {mg : Str → Option Value} {base : Heap} {f : Addr} {fd : FuncData} {k : Nat} (W : Wd K mg) (F : FnP K "_law_state" "_law_state" sState f fd) : FnOk P w K mg base (L2N.CX P w) (k + 1) f fd ["_law_cell"] (spFn (TTs P w K) (FState)) := by
  refine F.ok (CX := L2N.CX P w) scState spFn_len (fun cdv A outer st H vs Q E hr h => ⟨FS ⟨TTs P w K, none, fun cls d _ H => E cls d H⟩ (mState), ?_, fn_enter (N := ["_law_cell"]) h⟩)
  unfold mState
  exact fss_cons (pss_cons (fs_set (ps_set (i := 0) scState.nd rfl (Or.inl rfl) (fe_cb (pe_callB NK.call_absI (by rfl) W.b_abs (by decide +kernel) (fa_cons (pa_cons (fe_var (pv 0)) ((fa_nil pa_nil))))) sim_abs)) rfl)
    (pss_one (fs_ret (ps_ret (fe_lstC (pe_lst (fa_cons (pa_cons (fe_op (pe_op op_mul (fe_var (pv 0)) (fe_cb (pe_callTy NK.call_intI (by rfl) W.b_int (by decide +kernel) (fa_cons (pa_cons (fe_op (pe_cmpR op_ge (fe_var (pv 0)) (fe_op (pe_op op_pow (fe_int pe_int) (fe_int pe_int)) sim_pow) (nomark _)) sim_ib) ((fa_nil pa_nil))))) sim_int)) sim_mul) (fa_cons (pa_cons (fe_op (pe_op op_add (fe_op (pe_op op_mod (fe_var (pv 0)) (fe_int pe_int)) sim_mod) (fe_int pe_int)) sim_ii) (fa_cons (pa_cons (fe_op (pe_op op_mod (fe_var (pv 0)) (fe_int pe_int)) sim_mod) ((fa_nil pa_nil))))))))))))))
/-! ### _law_digit -/
theorem scDigit : FnScope ["_law_state_here", "_law_base", "_law_found", "_law_more"] ["_law_state_here", "_law_base"] (defScope sDigit) := ⟨rfl, rfl, rfl, by decide +kernel, rfl, by decide +kernel, by decide +kernel⟩
def mDigit : MS :=
  mSeq (mIfS (mTest (mOp (oIB fun i j => decide (j < i)) (mOp oIxL (mVar 0) (mC (.int 0))) (mC (.int 0))))
  (mSeq (mAsg (mOp oMod (mOp oIxL (mVar 0) (mC (.int 0))) (mVar 1)) (gNm 2))
  (mSeq (mAsg (mOp oDiv (mOp oIxL (mVar 0) (mC (.int 0))) (mVar 1)) (mSetL (mVar 0) (mC (.int 0))))
  (mRet (mVar 2)))) (mNext))
  (mSeq (mAsg (mOp oMul (mOp oIxL (mVar 0) (mC (.int 1))) (mOp oAdd (mOp oDiv (mOp oIxL (mVar 0) (mC (.int 1))) (mC (.int 1009))) (mC (.int 69621)))) (gNm 3))
  (mSeq (mAsg (mOp oAdd (mOp oMod (mOp oAdd (mVar 3) (mOp oIxL (mVar 0) (mC (.int 2)))) (mC (.int 2147483629))) (mC (.int 7))) (mSetL (mVar 0) (mC (.int 1))))
  (mRet (mOp oMod (mOp oDiv (mOp oIxL (mVar 0) (mC (.int 1))) (mC (.int 97))) (mVar 1)))))
def FDigit : Fn := runFn 2 4 (mDigit)
set_option maxHeartbeats 4000000 in
theorem okDigit {P : Program} {w : World} {K : PySem.W.Frag} {mg : Str → Option Value} {base : Heap} {f : Addr} {fd : FuncData} {k : Nat} (W : Wd K mg) (F : FnP K "_law_digit" "_law_digit" sDigit f fd) : FnOk P w K mg base (L2N.CX P w) (k + 1) f fd ["_law_state_here", "_law_base"] (spFn (TTs P w K) (FDigit)) := by
  refine F.ok (CX := L2N.CX P w) scDigit spFn_len (fun cdv A outer st H vs Q E hr h => ⟨FS ⟨TTs P w K, none, fun cls d _ H => E cls d H⟩ (mDigit), ?_, fn_enter (N := ["_law_state_here", "_law_base", "_law_found", "_law_more"]) h⟩)
  unfold mDigit
  exact fss_cons (pss_cons (fs_if (ps_if (ft_cmp (pt_cmpR op_gt (fe_op (pe_ix ix_list (fe_var (pv 0)) (fe_int pe_int) (fun _ _ => rfl)) sim_ixL) (fe_int pe_int) (nomark _)) sim_ib)
    (fss_cons (pss_cons (fs_set (ps_set (i := 2) scDigit.nd rfl (Or.inl rfl) (fe_op (pe_op op_mod (fe_op (pe_ix ix_list (fe_var (pv 0)) (fe_int pe_int) (fun _ _ => rfl)) sim_ixL) (fe_var (pv 1))) sim_mod)) rfl)
    (fss_cons (pss_cons (fs_asg (ps_asg (fe_op (pe_op op_fdiv (fe_op (pe_ix ix_list (fe_var (pv 0)) (fe_int pe_int) (fun _ _ => rfl)) sim_ixL) (fe_var (pv 1))) sim_div) (fg_setL (pg_sub (fe_var (pv 0)) (fe_int pe_int) set_list))))
    (pss_one (fs_ret (ps_ret (fe_var (pv 2))))))))) ((fss_nil pss_nil))))
    (fss_cons (pss_cons (fs_set (ps_set (i := 3) scDigit.nd rfl (Or.inl rfl) (fe_op (pe_op op_mul (fe_op (pe_ix ix_list (fe_var (pv 0)) (fe_int pe_int) (fun _ _ => rfl)) sim_ixL) (fe_op (pe_op op_add (fe_op (pe_op op_fdiv (fe_op (pe_ix ix_list (fe_var (pv 0)) (fe_int pe_int) (fun _ _ => rfl)) sim_ixL) (fe_int pe_int)) sim_div) (fe_int pe_int)) sim_ii)) sim_mul)) rfl)
    (fss_cons (pss_cons (fs_asg (ps_asg (fe_op (pe_op op_add (fe_op (pe_op op_mod (fe_op (pe_op op_add (fe_var (pv 3)) (fe_op (pe_ix ix_list (fe_var (pv 0)) (fe_int pe_int) (fun _ _ => rfl)) sim_ixL)) sim_ii) (fe_int pe_int)) sim_mod) (fe_int pe_int)) sim_ii) (fg_setL (pg_sub (fe_var (pv 0)) (fe_int pe_int) set_list))))
    (pss_one (fs_ret (ps_ret (fe_op (pe_op op_mod (fe_op (pe_op op_fdiv (fe_op (pe_ix ix_list (fe_var (pv 0)) (fe_int pe_int) (fun _ _ => rfl)) sim_ixL) (fe_int pe_int)) sim_div) (fe_var (pv 1))) sim_mod)))))))))
/-! ### _law_name -/
theorem scName : FnScope ["_law_s", "_law_taken", "_law_some", "_law_kind", "_law_stem", "_law_k", "_law_found", "_law_n"] ["_law_s", "_law_taken"] (defScope sName) := ⟨rfl, rfl, rfl, by decide +kernel, rfl, by decide +kernel, by decide +kernel⟩
def mName : MS :=
  mSeq (mAsg (mC (.str "abcdefghijklmnopqrstuvwxyz0123456789")) (gNm 2))
  (mSeq (mAsg (mCall FDigit (mCons (mVar 0) (mCons (mC (.int 7)) (mNil)))) (gNm 3))
  (mSeq (mAsg (mOp oIxS (mVar 2) (mCall FDigit (mCons (mVar 0) (mCons (mC (.int 26)) (mNil))))) (gNm 4))
  (mSeq (mFor (mItA (mCons (mCall FDigit (mCons (mVar 0) (mCons (mC (.int 4)) (mNil)))) (mNil)) isRng1) (gNm 5)
  (mAsg (mOp oCatS (mVar 4) (mOp oIxS (mVar 2) (mCall FDigit (mCons (mVar 0) (mCons (mC (.int 36)) (mNil)))))) (gNm 4)))
  (mSeq (mIfS (mTest (mOp oEq (mVar 3) (mC (.int 6))))
  (mAsg (mOp oIxL (mLst (mCons (mC (.str "put")) (mCons (mC (.str "any")) (mCons (mC (.str "or")) (mCons (mC (.str "either")) (mCons (mC (.str "rounds")) (mCons (mC (.str "call")) (mCons (mC (.str "mark")) (mCons (mC (.str "names")) (mCons (mC (.str "part")) (mCons (mC (.str "none")) (mNil)))))))))))) (mCall FDigit (mCons (mVar 0) (mCons (mC (.int 10)) (mNil))))) (gNm 4)) (mNext))
  (mSeq (mAsg (mVar 4) (gNm 6))
  (mSeq (mAsg (mC (.int 0)) (gNm 7))
  (mSeq (mWhile fuel (mTest (mOp (oIn false) (mVar 6) (mVar 1)))
  (mSeq (mAsg (mOp oAdd (mVar 7) (mC (.int 1))) (gNm 7))
  (mAsg (mOp oCatS (mVar 4) (mCB nStr (mCons (mVar 7) (mNil)))) (gNm 6))))
  (mRet (mVar 6)))))))))
def FName : Fn := runFn 2 8 (mName)
set_option maxHeartbeats 4000000 in
theorem okName {P : Program} {w : World} {K : PySem.W.Frag} {mg : Str → Option Value} {base : Heap} {f : Addr} {fd : FuncData} {k : Nat} (W : Wd K mg) (F : FnP K "_law_name" "_law_name" sName f fd) {l_Digit : Nat} (h_Digit : NK.CalX P w K mg base l_Digit "_law_digit" ["_law_state_here", "_law_base"] (spFn (TTs P w K) FDigit)) (hl_Digit : l_Digit ≤ k) : FnOk P w K mg base (L2N.CX P w) (k + 1) f fd ["_law_s", "_law_taken"] (spFn (TTs P w K) (FName)) := by
  refine F.ok (CX := L2N.CX P w) scName spFn_len (fun cdv A outer st H vs Q E hr h => ⟨FS ⟨TTs P w K, none, fun cls d _ H => E cls d H⟩ (mName), ?_, fn_enter (N := ["_law_s", "_law_taken", "_law_some", "_law_kind", "_law_stem", "_law_k", "_law_found", "_law_n"]) h⟩)
  unfold mName
  exact fss_cons (pss_cons (fs_set (ps_set (i := 2) scName.nd rfl (Or.inl rfl) (fe_str pe_str)) rfl)
    (fss_cons (pss_cons (fs_set (ps_set (i := 3) scName.nd rfl (Or.inl rfl) (fe_call (NK.pe_fnS h_Digit (hr.mono hl_Digit) (by rfl) (L2N.takes_of rfl rfl rfl rfl) (fa_cons (pa_cons (fe_var (pv 0)) (fa_cons (pa_cons (fe_int pe_int) ((fa_nil pa_nil))))))))) rfl)
    (fss_cons (pss_cons (fs_set (ps_set (i := 4) scName.nd rfl (Or.inl rfl) (fe_op (pe_ix ix_str (fe_var (pv 2)) (fe_call (NK.pe_fnS h_Digit (hr.mono hl_Digit) (by rfl) (L2N.takes_of rfl rfl rfl rfl) (fa_cons (pa_cons (fe_var (pv 0)) (fa_cons (pa_cons (fe_int pe_int) ((fa_nil pa_nil)))))))) (fun _ _ => rfl)) sim_ixS)) rfl)
    (fss_cons (pss_cons (fs_for (ps_for (passes_of rfl) rfl (fi_rng1 (pi_range1 (by rfl) W.b_range (fa_cons (pa_cons (fe_call (NK.pe_fnS h_Digit (hr.mono hl_Digit) (by rfl) (L2N.takes_of rfl rfl rfl rfl) (fa_cons (pa_cons (fe_var (pv 0)) (fa_cons (pa_cons (fe_int pe_int) ((fa_nil pa_nil)))))))) ((fa_nil pa_nil)))))) (fg_name (pg_name (i := 5) scName.nd rfl (Or.inl rfl)) rfl)
    (pss_one (fs_set (ps_set (i := 4) scName.nd rfl (Or.inl rfl) (fe_op (pe_op NK.op_catStr (fe_var (pv 4)) (fe_op (pe_ix ix_str (fe_var (pv 2)) (fe_call (NK.pe_fnS h_Digit (hr.mono hl_Digit) (by rfl) (L2N.takes_of rfl rfl rfl rfl) (fa_cons (pa_cons (fe_var (pv 0)) (fa_cons (pa_cons (fe_int pe_int) ((fa_nil pa_nil)))))))) (fun _ _ => rfl)) sim_ixS)) sim_catS)) rfl))))
    (fss_cons (pss_cons (fs_if (ps_if (ft_cmp (pt_cmpR op_eq (fe_var (pv 3)) (fe_int pe_int) (nomark _)) sim_eq)
    (pss_one (fs_set (ps_set (i := 4) scName.nd rfl (Or.inl rfl) (fe_op (pe_ix ix_list (fe_lst (pe_lst (fa_cons (pa_cons (fe_str pe_str) (fa_cons (pa_cons (fe_str pe_str) (fa_cons (pa_cons (fe_str pe_str) (fa_cons (pa_cons (fe_str pe_str) (fa_cons (pa_cons (fe_str pe_str) (fa_cons (pa_cons (fe_str pe_str) (fa_cons (pa_cons (fe_str pe_str) (fa_cons (pa_cons (fe_str pe_str) (fa_cons (pa_cons (fe_str pe_str) (fa_cons (pa_cons (fe_str pe_str) ((fa_nil pa_nil)))))))))))))))))))))))) (fe_call (NK.pe_fnS h_Digit (hr.mono hl_Digit) (by rfl) (L2N.takes_of rfl rfl rfl rfl) (fa_cons (pa_cons (fe_var (pv 0)) (fa_cons (pa_cons (fe_int pe_int) ((fa_nil pa_nil)))))))) (fun _ _ => rfl)) sim_ixL)) rfl)) ((fss_nil pss_nil))))
    (fss_cons (pss_cons (fs_set (ps_set (i := 6) scName.nd rfl (Or.inl rfl) (fe_var (pv 4))) rfl)
    (fss_cons (pss_cons (fs_set (ps_set (i := 7) scName.nd rfl (Or.inl rfl) (fe_int pe_int)) rfl)
    (fss_cons (pss_cons (fs_while fuel (ps_while (passes_of rfl) (ft_cmp (pt_cmpR op_in_seq (fe_var (pv 6)) (fe_var (pv 1)) rfl) sim_in)
    (fss_cons (pss_cons (fs_set (ps_set (i := 7) scName.nd rfl (Or.inl rfl) (fe_op (pe_op op_add (fe_var (pv 7)) (fe_int pe_int)) sim_ii)) rfl)
    (pss_one (fs_set (ps_set (i := 6) scName.nd rfl (Or.inl rfl) (fe_op (pe_op NK.op_catStr (fe_var (pv 4)) (fe_cb (pe_callTy NK.call_strI (by rfl) W.b_str (by decide +kernel) (fa_cons (pa_cons (fe_var (pv 7)) ((fa_nil pa_nil))))) sim_str)) sim_catS)) rfl))))))
    (pss_one (fs_ret (ps_ret (fe_var (pv 6))))))))))))))))))))
/-! ### _law_names -/
theorem scNames : FnScope ["_law_s", "_law_many", "_law_found", "_law_k"] ["_law_s", "_law_many"] (defScope sNames) := ⟨rfl, rfl, rfl, by decide +kernel, rfl, by decide +kernel, by decide +kernel⟩
def mNames : MS :=
  mSeq (mAsg (mLstC (mNil)) (gNm 2))
  (mSeq (mFor (mItA (mCons (mVar 1) (mNil)) isRng1) (gNm 3)
  (mDrop (mM fAppend (mVar 2) (mCons (mCall FName (mCons (mVar 0) (mCons (mVar 2) (mNil)))) (mNil)))))
  (mRet (mFrz (mVar 2))))
def FNames : Fn := runFn 2 4 (mNames)
set_option maxHeartbeats 4000000 in
theorem okNames {P : Program} {w : World} {K : PySem.W.Frag} {mg : Str → Option Value} {base : Heap} {f : Addr} {fd : FuncData} {k : Nat} (W : Wd K mg) (F : FnP K "_law_names" "_law_names" sNames f fd) {l_Name : Nat} (h_Name : NK.CalX P w K mg base l_Name "_law_name" ["_law_s", "_law_taken"] (spFn (TTs P w K) FName)) (hl_Name : l_Name ≤ k) : FnOk P w K mg base (L2N.CX P w) (k + 1) f fd ["_law_s", "_law_many"] (spFn (TTs P w K) (FNames)) := by
  refine F.ok (CX := L2N.CX P w) scNames spFn_len (fun cdv A outer st H vs Q E hr h => ⟨FS ⟨TTs P w K, none, fun cls d _ H => E cls d H⟩ (mNames), ?_, fn_enter (N := ["_law_s", "_law_many", "_law_found", "_law_k"]) h⟩)
  unfold mNames
  exact fss_cons (pss_cons (fs_set (ps_set (i := 2) scNames.nd rfl (Or.inl rfl) (fe_lstC (pe_lst ((fa_nil pa_nil))))) rfl)
    (fss_cons (pss_cons (fs_for (ps_for (passes_of rfl) rfl (fi_rng1 (pi_range1 (by rfl) W.b_range (fa_cons (pa_cons (fe_var (pv 1)) ((fa_nil pa_nil)))))) (fg_name (pg_name (i := 3) scNames.nd rfl (Or.inl rfl)) rfl)
    (pss_one (fs_drop (ps_expr (fe_m (pe_bm PySem.F.plainAttrs_list PySem.F.slot_list_append PySem.F.type_list_append mt_append (fe_var (pv 2)) (fa_cons (pa_cons (fe_call (NK.pe_fnS h_Name (hr.mono hl_Name) (by rfl) (L2N.takes_of rfl rfl rfl rfl) (fa_cons (pa_cons (fe_var (pv 0)) (fa_cons (pa_cons (fe_var (pv 2)) ((fa_nil pa_nil)))))))) ((fa_nil pa_nil))))) sim_append))))))
    (pss_one (fs_ret (ps_ret (fe_frz (fe_var (pv 2)))))))))
/-! ### _law_records -/
theorem scRecords : FnScope ["_law_s", "_law_keys", "_law_many", "_law_found", "_law_k", "_law_free", "_law_owned", "_law_j", "_law_since", "_law_some", "_law_key"] ["_law_s", "_law_keys", "_law_many"] (defScope sRecords) := ⟨rfl, rfl, rfl, by decide +kernel, rfl, by decide +kernel, by decide +kernel⟩
def mRecords : MS :=
  mSeq (mAsg (mLstC (mNil)) (gNm 3))
  (mSeq (mFor (mItA (mCons (mVar 2) (mNil)) isRng1) (gNm 4)
  (mSeq (mAsg (mCLC lList (mCons (mVar 1) (mNil))) (gNm 5))
  (mSeq (mAsg (mLstC (mNil)) (gNm 6))
  (mSeq (mFor (mItA (mCons (mCall FDigit (mCons (mVar 0) (mCons (mC (.int 3)) (mNil)))) (mNil)) isRng1) (gNm 7)
  (mIfS (mTest (mOp (oNil true) (mVar 5) (mLst (mNil))))
  (mDrop (mM fAppend (mVar 6) (mCons (mM fPopAt (mVar 5) (mCons (mCall FDigit (mCons (mVar 0) (mCons (mCB nLen (mCons (mVar 5) (mNil))) (mNil)))) (mNil))) (mNil)))) (mNext)))
  (mSeq (mAsg (mLstC (mNil)) (gNm 8))
  (mSeq (mFor (mItA (mCons (mCB nLen (mCons (mVar 6) (mNil))) (mNil)) isRng1) (gNm 7)
  (mSeq (mAsg (mOp oCatL (mSl oSlL (mVar 6) (mPart (mOp oAdd (mVar 7) (mC (.int 1)))) mNoP) (mLcV (mVar 5) (gNm 10) (mTest (mOp oEq (mCall FDigit (mCons (mVar 0) (mCons (mC (.int 3)) (mNil)))) (mC (.int 0)))) (mVar 10) [10])) (gNm 9))
  (mDrop (mM fAppend (mVar 8) (mCons (mCB nTup (mCons (mCL lSortS (mCons (mVar 9) (mNil))) (mNil))) (mNil))))))
  (mDrop (mM fAppend (mVar 3) (mCons (mTup (mCons (mCB nTup (mCons (mVar 6) (mNil))) (mCons (mCB nTup (mCons (mVar 8) (mNil))) (mNil)))) (mNil))))))))))
  (mRet (mFrz (mVar 3))))
def FRecords : Fn := runFn 3 11 (mRecords)
set_option maxHeartbeats 4000000 in
theorem okRecords {P : Program} {w : World} {K : PySem.W.Frag} {mg : Str → Option Value} {base : Heap} {f : Addr} {fd : FuncData} {k : Nat} (W : Wd K mg) (F : FnP K "_law_records" "_law_records" sRecords f fd) {l_Digit : Nat} (h_Digit : NK.CalX P w K mg base l_Digit "_law_digit" ["_law_state_here", "_law_base"] (spFn (TTs P w K) FDigit)) (hl_Digit : l_Digit ≤ k) (h1k : 1 ≤ k) : FnOk P w K mg base (L2N.CX P w) (k + 1) f fd ["_law_s", "_law_keys", "_law_many"] (spFn (TTs P w K) (FRecords)) := by
  refine F.ok (CX := L2N.CX P w) scRecords spFn_len (fun cdv A outer st H vs Q E hr h => ⟨FS ⟨TTs P w K, none, fun cls d _ H => E cls d H⟩ (mRecords), ?_, fn_enter (N := ["_law_s", "_law_keys", "_law_many", "_law_found", "_law_k", "_law_free", "_law_owned", "_law_j", "_law_since", "_law_some", "_law_key"]) h⟩)
  unfold mRecords
  exact fss_cons (pss_cons (fs_set (ps_set (i := 3) scRecords.nd rfl (Or.inl rfl) (fe_lstC (pe_lst ((fa_nil pa_nil))))) rfl)
    (fss_cons (pss_cons (fs_for (ps_for (passes_of rfl) rfl (fi_rng1 (pi_range1 (by rfl) W.b_range (fa_cons (pa_cons (fe_var (pv 2)) ((fa_nil pa_nil)))))) (fg_name (pg_name (i := 4) scRecords.nd rfl (Or.inl rfl)) rfl)
    (fss_cons (pss_cons (fs_set (ps_set (i := 5) scRecords.nd rfl (Or.inl rfl) (fe_clC (pe_callTy NK.call_listOf (by rfl) W.b_list (by decide +kernel) (fa_cons (pa_cons (fe_var (pv 1)) ((fa_nil pa_nil))))) sim_list)) rfl)
    (fss_cons (pss_cons (fs_set (ps_set (i := 6) scRecords.nd rfl (Or.inl rfl) (fe_lstC (pe_lst ((fa_nil pa_nil))))) rfl)
    (fss_cons (pss_cons (fs_for (ps_for (passes_of rfl) rfl (fi_rng1 (pi_range1 (by rfl) W.b_range (fa_cons (pa_cons (fe_call (NK.pe_fnS h_Digit (hr.mono hl_Digit) (by rfl) (L2N.takes_of rfl rfl rfl rfl) (fa_cons (pa_cons (fe_var (pv 0)) (fa_cons (pa_cons (fe_int pe_int) ((fa_nil pa_nil)))))))) ((fa_nil pa_nil)))))) (fg_name (pg_name (i := 7) scRecords.nd rfl (Or.inl rfl)) rfl)
    (pss_one (fs_if (ps_if (ft_cmp (pt_cmpR (NK.op_nil (neg := true) (n := 0) (hr.mono h1k)) (fe_var (pv 5)) (fe_lst (pe_lst ((fa_nil pa_nil)))) (nomark _)) sim_nil)
    (pss_one (fs_drop (ps_expr (fe_m (pe_bm PySem.F.plainAttrs_list PySem.F.slot_list_append PySem.F.type_list_append mt_append (fe_var (pv 6)) (fa_cons (pa_cons (fe_m (pe_bm PySem.F.plainAttrs_list PySem.F.slot_list_pop PySem.F.type_list_pop mt_popAt (fe_var (pv 5)) (fa_cons (pa_cons (fe_call (NK.pe_fnS h_Digit (hr.mono hl_Digit) (by rfl) (L2N.takes_of rfl rfl rfl rfl) (fa_cons (pa_cons (fe_var (pv 0)) (fa_cons (pa_cons (fe_cb (pe_callB NK.call_lenSeq (by rfl) W.b_len (by decide +kernel) (fa_cons (pa_cons (fe_var (pv 5)) ((fa_nil pa_nil))))) sim_len) ((fa_nil pa_nil)))))))) ((fa_nil pa_nil))))) sim_popAt) ((fa_nil pa_nil))))) sim_append)))) ((fss_nil pss_nil)))))))
    (fss_cons (pss_cons (fs_set (ps_set (i := 8) scRecords.nd rfl (Or.inl rfl) (fe_lstC (pe_lst ((fa_nil pa_nil))))) rfl)
    (fss_cons (pss_cons (fs_for (ps_for (passes_of rfl) rfl (fi_rng1 (pi_range1 (by rfl) W.b_range (fa_cons (pa_cons (fe_cb (pe_callB NK.call_lenSeq (by rfl) W.b_len (by decide +kernel) (fa_cons (pa_cons (fe_var (pv 6)) ((fa_nil pa_nil))))) sim_len) ((fa_nil pa_nil)))))) (fg_name (pg_name (i := 7) scRecords.nd rfl (Or.inl rfl)) rfl)
    (fss_cons (pss_cons (fs_set (ps_set (i := 9) scRecords.nd rfl (Or.inl rfl) (fe_op (pe_op NK.op_catL (fe_sl (pe_slice sl_list (fe_var (pv 6)) (fo_some (po_some (fe_op (pe_op op_add (fe_var (pv 7)) (fe_int pe_int)) sim_ii))) (fo_none po_none)) sim_slL) (fe_lcV (pe_lc (own := [("_law_key", 10)]) rfl scRecords.nd (pi_list (fe_var (pv 5))) (blkOk_by (own := [("_law_key", 10)]) (N := ["_law_s", "_law_keys", "_law_many", "_law_found", "_law_k", "_law_free", "_law_owned", "_law_j", "_law_since", "_law_some", "_law_key"]) (sc := defScope sRecords) (by decide +kernel)) (fun _ _ _ _ _ => pg_name (i := 10) scRecords.nd rfl (Or.inl rfl)) (fun _ _ _ _ _ => (pts_one (ft_cmp (pt_cmpR op_eq (fe_call (NK.pe_fnS h_Digit (hr.mono hl_Digit) (by rfl) takes0N (fa_cons (pa_cons (fe_var (pv 0)) (fa_cons (pa_cons (fe_int pe_int) ((fa_nil pa_nil)))))))) (fe_int pe_int) (nomark _)) sim_eq))) (fun _ _ _ _ _ => fe_var (pv 10))) (sg_name rfl) fills_name (by decide) rfl)) sim_catL)) rfl)
    (pss_one (fs_drop (ps_expr (fe_m (pe_bm PySem.F.plainAttrs_list PySem.F.slot_list_append PySem.F.type_list_append mt_append (fe_var (pv 8)) (fa_cons (pa_cons (fe_cb (pe_callTy NK.call_tupOf (by rfl) W.b_tuple (by decide +kernel) (fa_cons (pa_cons (fe_cl (pe_callB cr_sortedS (by rfl) W.b_sorted (by decide +kernel) (fa_cons (pa_cons (fe_var (pv 9)) ((fa_nil pa_nil))))) sim_sortS) ((fa_nil pa_nil))))) sim_tup) ((fa_nil pa_nil))))) sim_append))))))))
    (pss_one (fs_drop (ps_expr (fe_m (pe_bm PySem.F.plainAttrs_list PySem.F.slot_list_append PySem.F.type_list_append mt_append (fe_var (pv 3)) (fa_cons (pa_cons (fe_tup (pe_tup (fa_cons (pa_cons (fe_cb (pe_callTy NK.call_tupOf (by rfl) W.b_tuple (by decide +kernel) (fa_cons (pa_cons (fe_var (pv 6)) ((fa_nil pa_nil))))) sim_tup) (fa_cons (pa_cons (fe_cb (pe_callTy NK.call_tupOf (by rfl) W.b_tuple (by decide +kernel) (fa_cons (pa_cons (fe_var (pv 8)) ((fa_nil pa_nil))))) sim_tup) ((fa_nil pa_nil)))))))) ((fa_nil pa_nil))))) sim_append))))))))))))))))
    (pss_one (fs_ret (ps_ret (fe_frz (fe_var (pv 3)))))))))
/-! ### _law_rows -/
theorem scRows : FnScope ["_law_keys", "_law_many", "_law_found", "_law_k", "_law_longer", "_law_row", "_law_key"] ["_law_keys", "_law_many"] (defScope sRows) := ⟨rfl, rfl, rfl, by decide +kernel, rfl, by decide +kernel, by decide +kernel⟩
def mRows : MS :=
  mSeq (mAsg (mLst (mCons (mTup (mNil)) (mNil))) (gNm 2))
  (mSeq (mFor (mItA (mCons (mVar 1) (mNil)) isRng1) (gNm 3)
  (mSeq (mAsg (mLst (mNil)) (gNm 4))
  (mSeq (mFor (mIt (mVar 2) isLst) (gNm 5)
  (mAsg (mOp oCatL (mVar 4) (mLc (mIt (mVar 0) isLst) (gNm 6) (mTest (mOp (oIn true) (mVar 6) (mVar 5))) (mOp oCatT (mVar 5) (mTup (mCons (mVar 6) (mNil)))) [6])) (gNm 4)))
  (mAsg (mVar 4) (gNm 2)))))
  (mRet (mVar 2)))
def FRows : Fn := runFn 2 7 (mRows)
set_option maxHeartbeats 4000000 in
theorem okRows {P : Program} {w : World} {K : PySem.W.Frag} {mg : Str → Option Value} {base : Heap} {f : Addr} {fd : FuncData} {k : Nat} (W : Wd K mg) (F : FnP K "_law_rows" "_law_rows" sRows f fd) : FnOk P w K mg base (L2N.CX P w) (k + 1) f fd ["_law_keys", "_law_many"] (spFn (TTs P w K) (FRows)) := by
  refine F.ok (CX := L2N.CX P w) scRows spFn_len (fun cdv A outer st H vs Q E hr h => ⟨FS ⟨TTs P w K, none, fun cls d _ H => E cls d H⟩ (mRows), ?_, fn_enter (N := ["_law_keys", "_law_many", "_law_found", "_law_k", "_law_longer", "_law_row", "_law_key"]) h⟩)
  unfold mRows
  exact fss_cons (pss_cons (fs_set (ps_set (i := 2) scRows.nd rfl (Or.inl rfl) (fe_lst (pe_lst (fa_cons (pa_cons (fe_tup (pe_tup ((fa_nil pa_nil)))) ((fa_nil pa_nil))))))) rfl)
    (fss_cons (pss_cons (fs_for (ps_for (passes_of rfl) rfl (fi_rng1 (pi_range1 (by rfl) W.b_range (fa_cons (pa_cons (fe_var (pv 1)) ((fa_nil pa_nil)))))) (fg_name (pg_name (i := 3) scRows.nd rfl (Or.inl rfl)) rfl)
    (fss_cons (pss_cons (fs_set (ps_set (i := 4) scRows.nd rfl (Or.inl rfl) (fe_lst (pe_lst ((fa_nil pa_nil))))) rfl)
    (fss_cons (pss_cons (fs_for (ps_for (passes_of rfl) rfl (fi_lst (pi_list (fe_var (pv 2)))) (fg_name (pg_name (i := 5) scRows.nd rfl (Or.inr rfl)) rfl)
    (pss_one (fs_set (ps_set (i := 4) scRows.nd rfl (Or.inl rfl) (fe_op (pe_op NK.op_catL (fe_var (pv 4)) (fe_lc (pe_lc (own := [("_law_key", 6)]) rfl scRows.nd (fi_lst (pi_list (fe_var (pv 0)))) (blkOk_by (own := [("_law_key", 6)]) (N := ["_law_keys", "_law_many", "_law_found", "_law_k", "_law_longer", "_law_row", "_law_key"]) (sc := defScope sRows) (by decide +kernel)) (fun _ _ _ _ _ => pg_name (i := 6) scRows.nd rfl (Or.inl rfl)) (fun _ _ _ _ _ => (pts_one (ft_cmp (pt_cmpR op_notIn_seq (fe_var (pv 6)) (fe_var (pv 5)) rfl) sim_in))) (fun _ _ _ _ _ => fe_op (pe_op op_catA (fe_var (pv 5)) (fe_tup (pe_tup (fa_cons (pa_cons (fe_var (pv 6)) ((fa_nil pa_nil))))))) sim_catT)) (sg_name rfl) fills_name (by decide) rfl)) sim_catL)) rfl))))
    (pss_one (fs_set (ps_set (i := 2) scRows.nd rfl (Or.inl rfl) (fe_var (pv 4))) rfl))))))))
    (pss_one (fs_ret (ps_ret (fe_var (pv 2))))))))
/-! ### _law_is_ring -/
theorem scIsRing : FnScope ["_law_later", "_law_row", "_law_k"] ["_law_later", "_law_row"] (defScope sIsRing) := ⟨rfl, rfl, rfl, by decide +kernel, rfl, by decide +kernel, by decide +kernel⟩
def mIsRing : MS :=
  mSeq (mFor (mItA (mCons (mCB nLen (mCons (mVar 1) (mNil))) (mNil)) isRng1) (gNm 2)
  (mIfS (mTest (mOp (oIn true) (mOp oIxT (mVar 1) (mOp oMod (mOp oAdd (mVar 2) (mC (.int 1))) (mCB nLen (mCons (mVar 1) (mNil))))) (mOp oDGet (mVar 0) (mOp oIxT (mVar 1) (mVar 2)))))
  (mRet (mC (.bl false))) (mNext)))
  (mRet (mOp oEq (mOp oIxT (mVar 1) (mC (.int 0))) (mCB nMinTS (mCons (mVar 1) (mNil)))))
def FIsRing : Fn := runFn 2 3 (mIsRing)
set_option maxHeartbeats 4000000 in
theorem okIsRing {P : Program} {w : World} {K : PySem.W.Frag} {mg : Str → Option Value} {base : Heap} {f : Addr} {fd : FuncData} {k : Nat} (W : Wd K mg) (F : FnP K "_law_is_ring" "_law_is_ring" sIsRing f fd) : FnOk P w K mg base (L2N.CX P w) (k + 1) f fd ["_law_later", "_law_row"] (spFn (TTs P w K) (FIsRing)) := by
  refine F.ok (CX := L2N.CX P w) scIsRing spFn_len (fun cdv A outer st H vs Q E hr h => ⟨FS ⟨TTs P w K, none, fun cls d _ H => E cls d H⟩ (mIsRing), ?_, fn_enter (N := ["_law_later", "_law_row", "_law_k"]) h⟩)
  unfold mIsRing
  exact fss_cons (pss_cons (fs_for (ps_for (passes_of rfl) rfl (fi_rng1 (pi_range1 (by rfl) W.b_range (fa_cons (pa_cons (fe_cb (pe_callB NK.call_lenSeq (by rfl) W.b_len (by decide +kernel) (fa_cons (pa_cons (fe_var (pv 1)) ((fa_nil pa_nil))))) sim_len) ((fa_nil pa_nil)))))) (fg_name (pg_name (i := 2) scIsRing.nd rfl (Or.inl rfl)) rfl)
    (pss_one (fs_if (ps_if (ft_cmp (pt_cmpR op_notIn_seq (fe_op (pe_ix ix_tup (fe_var (pv 1)) (fe_op (pe_op op_mod (fe_op (pe_op op_add (fe_var (pv 2)) (fe_int pe_int)) sim_ii) (fe_cb (pe_callB NK.call_lenSeq (by rfl) W.b_len (by decide +kernel) (fa_cons (pa_cons (fe_var (pv 1)) ((fa_nil pa_nil))))) sim_len)) sim_mod) (fun _ _ => rfl)) sim_ixT) (fe_dget (pe_dget (hu_of hr) (fe_var (pv 0)) (fe_op (pe_ix ix_tup (fe_var (pv 1)) (fe_var (pv 2)) (fun _ _ => rfl)) sim_ixT) (fun _ _ => rfl))) rfl) sim_in)
    (pss_one (fs_ret (ps_ret (fe_bl pe_bl)))) ((fss_nil pss_nil)))))))
    (pss_one (fs_ret (ps_ret (fe_op (pe_cmpR op_eq (fe_op (pe_ix ix_tup (fe_var (pv 1)) (fe_int pe_int) (fun _ _ => rfl)) sim_ixT) (fe_cb (pe_callB (cr_minTS rfl) (by rfl) W.b_min (by decide +kernel) (fa_cons (pa_cons (fe_var (pv 1)) ((fa_nil pa_nil))))) sim_minTS) (nomark _)) sim_eq)))))
/-! ### _law_due -/
theorem scDue : FnScope ["_law_rows_here", "_law_owned", "_law_keys", "_law_since", "_law_twice", "_law_key", "_law_later", "_law_many", "_law_row"] ["_law_rows_here"] (defScope sDue) := ⟨rfl, rfl, rfl, by decide +kernel, rfl, by decide +kernel, by decide +kernel⟩
def mDue : MS :=
  mSeq (mAsg (mLst (mNil)) (gNm 1))
  (mSeq (mFor (mIt (mVar 0) isLst) (gTp 2 (gsCons (gNm 2) (gsCons (gNm 3) (gsNil))))
  (mAsg (mOp oCatL (mVar 1) (mCL lList (mCons (mVar 2) (mNil)))) (gNm 1)))
  (mSeq (mAsg (mCL lSortS (mCons (mLc (mIt (mVar 1) isLst) (gNm 5) (mTest (mOp (oIB fun i j => decide (j < i)) (mLM fCnt (mVar 1) (mVar 5)) (mC (.int 1)))) (mVar 5) [5]) (mNil))) (gNm 4))
  (mSeq (mIfS (mTest (mOp (oNil true) (mVar 4) (mLst (mNil))))
  (mRet (mTup (mCons (mC (.str "twice")) (mCons (mOp oIxL (mVar 4) (mC (.int 0))) (mNil))))) (mNext))
  (mSeq (mAsg (mDNew) (gNm 6))
  (mSeq (mFor (mIt (mVar 0) isLst) (gTp 2 (gsCons (gNm 2) (gsCons (gNm 3) (gsNil))))
  (mDrop (mDUpd (mVar 6) (mDictZip (mCons (mVar 2) (mCons (mVar 3) (mNil)))))))
  (mSeq (mFor (mItA (mCons (mC (.int 1)) (mCons (mOp oAdd (mCB nLen (mCons (mVar 1) (mNil))) (mC (.int 1))) (mNil))) isRng2) (gNm 7)
  (mFor (mIt (mCall FRows (mCons (mCL lSortS (mCons (mVar 1) (mNil))) (mCons (mVar 7) (mNil)))) isLst) (gNm 8)
  (mIfS (mTest (mCall FIsRing (mCons (mVar 6) (mCons (mVar 8) (mNil)))))
  (mRet (mTup (mCons (mC (.str "ring")) (mCons (mVar 8) (mNil))))) (mNext))))
  (mRet (mC .non))))))))
def FDue : Fn := runFn 1 9 (mDue)
set_option maxHeartbeats 4000000 in
theorem okDue {P : Program} {w : World} {K : PySem.W.Frag} {mg : Str → Option Value} {base : Heap} {f : Addr} {fd : FuncData} {k : Nat} (W : Wd K mg) (F : FnP K "_law_due" "_law_due" sDue f fd) {l_Rows : Nat} (h_Rows : NK.CalX P w K mg base l_Rows "_law_rows" ["_law_keys", "_law_many"] (spFn (TTs P w K) FRows)) (hl_Rows : l_Rows ≤ k) {l_IsRing : Nat} (h_IsRing : NK.CalX P w K mg base l_IsRing "_law_is_ring" ["_law_later", "_law_row"] (spFn (TTs P w K) FIsRing)) (hl_IsRing : l_IsRing ≤ k) (h1k : 1 ≤ k) : FnOk P w K mg base (L2N.CX P w) (k + 1) f fd ["_law_rows_here"] (spFn (TTs P w K) (FDue)) := by
  refine F.ok (CX := L2N.CX P w) scDue spFn_len (fun cdv A outer st H vs Q E hr h => ⟨FS ⟨TTs P w K, none, fun cls d _ H => E cls d H⟩ (mDue), ?_, fn_enter (N := ["_law_rows_here", "_law_owned", "_law_keys", "_law_since", "_law_twice", "_law_key", "_law_later", "_law_many", "_law_row"]) h⟩)
  unfold mDue
  exact fss_cons (pss_cons (fs_set (ps_set (i := 1) scDue.nd rfl (Or.inr rfl) (fe_lst (pe_lst ((fa_nil pa_nil))))) rfl)
    (fss_cons (pss_cons (fs_for (ps_for (passes_of rfl) rfl (fi_lst (pi_list (fe_var (pv 0)))) (fg_tup (pg_tup rfl (fgs_cons (pgs_cons (fg_name (pg_name (i := 2) scDue.nd rfl (Or.inl rfl)) rfl) (fgs_cons (pgs_cons (fg_name (pg_name (i := 3) scDue.nd rfl (Or.inl rfl)) rfl) (fgs_nil pgs_nil)))))))
    (pss_one (fs_set (ps_set (i := 1) scDue.nd rfl (Or.inr rfl) (fe_op (pe_op NK.op_catL (fe_var (pv 1)) (fe_cl (pe_callTy NK.call_listOf (by rfl) W.b_list (by decide +kernel) (fa_cons (pa_cons (fe_var (pv 2)) ((fa_nil pa_nil))))) sim_list)) sim_catL)) rfl))))
    (fss_cons (pss_cons (fs_set (ps_set (i := 4) scDue.nd rfl (Or.inl rfl) (fe_cl (pe_callB cr_sortedS (by rfl) W.b_sorted (by decide +kernel) (fa_cons (pa_cons (fe_lc (pe_lc (own := [("_law_key", 5)]) rfl scDue.nd (fi_lst (pi_list (fe_var (pv 1)))) (blkOk_by (own := [("_law_key", 5)]) (N := ["_law_rows_here", "_law_owned", "_law_keys", "_law_since", "_law_twice", "_law_key", "_law_later", "_law_many", "_law_row"]) (sc := defScope sDue) (by decide +kernel)) (fun _ _ _ _ _ => pg_name (i := 5) scDue.nd rfl (Or.inl rfl)) (fun _ _ _ _ _ => (pts_one (ft_cmp (pt_cmpR op_gt (fe_lm (pe_bm PySem.F.plainAttrs_list PySem.F.slot_list_count PySem.F.type_list_count mt_cntF (fe_var (pv 1)) (pa_cons (fe_var (pv 5)) pa_nil)) lm_cnt) (fe_int pe_int) (nomark _)) sim_ib))) (fun _ _ _ _ _ => fe_var (pv 5))) (sg_name rfl) fills_name (by decide) rfl) ((fa_nil pa_nil))))) sim_sortS)) rfl)
    (fss_cons (pss_cons (fs_if (ps_if (ft_cmp (pt_cmpR (NK.op_nil (neg := true) (n := 0) (hr.mono h1k)) (fe_var (pv 4)) (fe_lst (pe_lst ((fa_nil pa_nil)))) (nomark _)) sim_nil)
    (pss_one (fs_ret (ps_ret (fe_tup (pe_tup (fa_cons (pa_cons (fe_str pe_str) (fa_cons (pa_cons (fe_op (pe_ix ix_list (fe_var (pv 4)) (fe_int pe_int) (fun _ _ => rfl)) sim_ixL) ((fa_nil pa_nil))))))))))) ((fss_nil pss_nil))))
    (fss_cons (pss_cons (fs_set (ps_set (i := 6) scDue.nd rfl (Or.inl rfl) (fe_dnew pe_dnewK)) rfl)
    (fss_cons (pss_cons (fs_for (ps_for (passes_of rfl) rfl (fi_lst (pi_list (fe_var (pv 0)))) (fg_tup (pg_tup rfl (fgs_cons (pgs_cons (fg_name (pg_name (i := 2) scDue.nd rfl (Or.inl rfl)) rfl) (fgs_cons (pgs_cons (fg_name (pg_name (i := 3) scDue.nd rfl (Or.inl rfl)) rfl) (fgs_nil pgs_nil)))))))
    (pss_one (fs_drop (ps_expr (fe_dupd (NK.pe_dupd (fe_var (pv 6)) (fe_dictZip (NK.pe_dictZip rfl (fa_cons (pa_cons (fe_var (pv 2)) (fa_cons (pa_cons (fe_var (pv 3)) ((fa_nil pa_nil)))))) (by rfl) W.b_dict (by rfl) W.b_zip)) ⟨rfl, rfl, rfl, rfl⟩)))))))
    (fss_cons (pss_cons (fs_for (ps_for (passes_of rfl) rfl (fi_rng2 (pi_range2 (by rfl) W.b_range (fa_cons (pa_cons (fe_int pe_int) (fa_cons (pa_cons (fe_op (pe_op op_add (fe_cb (pe_callB NK.call_lenSeq (by rfl) W.b_len (by decide +kernel) (fa_cons (pa_cons (fe_var (pv 1)) ((fa_nil pa_nil))))) sim_len) (fe_int pe_int)) sim_ii) ((fa_nil pa_nil)))))))) (fg_name (pg_name (i := 7) scDue.nd rfl (Or.inl rfl)) rfl)
    (pss_one (fs_for (ps_for (passes_of rfl) rfl (fi_lst (pi_list (fe_call (NK.pe_fnS h_Rows (hr.mono hl_Rows) (by rfl) (L2N.takes_of rfl rfl rfl rfl) (fa_cons (pa_cons (fe_cl (pe_callB cr_sortedS (by rfl) W.b_sorted (by decide +kernel) (fa_cons (pa_cons (fe_var (pv 1)) ((fa_nil pa_nil))))) sim_sortS) (fa_cons (pa_cons (fe_var (pv 7)) ((fa_nil pa_nil)))))))))) (fg_name (pg_name (i := 8) scDue.nd rfl (Or.inl rfl)) rfl)
    (pss_one (fs_if (ps_if (ft_B (pt_val (fe_call (NK.pe_fnS h_IsRing (hr.mono hl_IsRing) (by rfl) (L2N.takes_of rfl rfl rfl rfl) (fa_cons (pa_cons (fe_var (pv 6)) (fa_cons (pa_cons (fe_var (pv 8)) ((fa_nil pa_nil))))))))))
    (pss_one (fs_ret (ps_ret (fe_tup (pe_tup (fa_cons (pa_cons (fe_str pe_str) (fa_cons (pa_cons (fe_var (pv 8)) ((fa_nil pa_nil))))))))))) ((fss_nil pss_nil))))))))))
    (pss_one (fs_ret (ps_ret (fe_non pe_non)))))))))))))))))
/-! ### law -/
theorem scLaw : FnScope ["_law_script", "_law_cell", "_law_s", "_law_keys", "_law_rows_here", "_law_handed", "_law_due_here", "_law_at"] ["_law_script"] (defScope sLaw) := ⟨rfl, rfl, rfl, by decide +kernel, rfl, by decide +kernel, by decide +kernel⟩
def mLaw : MS :=
  mSeq (mIfS (mOr (mTest (mOp (oIsN true) (mCall FClash (mCons (mLst (mNil)) (mNil))) (mC .non))) (mTest (mOp (oIsN true) (mCall FClash (mCons (mLst (mCons (mTup (mCons (mTup (mNil)) (mCons (mTup (mNil)) (mNil)))) (mNil))) (mNil))) (mC .non))))
  (mRet (mC (.bl false))) (mNext))
  (mSeq (mFor (mIt (mSl oSlL (mOp oCatL (mVar 0) (mLst (mCons (mC (.int 0)) (mNil)))) mNoP (mPart (mC (.int 15)))) isLst) (gNm 1)
  (mSeq (mAsg (mCall FState (mCons (mVar 1) (mNil))) (gNm 2))
  (mSeq (mAsg (mCall FNames (mCons (mVar 2) (mCons (mOp oAdd (mC (.int 2)) (mCall FDigit (mCons (mVar 2) (mCons (mC (.int 4)) (mNil))))) (mNil)))) (gNm 3))
  (mSeq (mAsg (mCall FRecords (mCons (mVar 2) (mCons (mVar 3) (mCons (mOp oAdd (mC (.int 1)) (mCall FDigit (mCons (mVar 2) (mCons (mC (.int 5)) (mNil))))) (mNil))))) (gNm 4))
  (mSeq (mAsg (mCL lList (mCons (mVar 4) (mNil))) (gNm 5))
  (mSeq (mAsg (mCall FDue (mCons (mVar 4) (mNil))) (gNm 6))
  (mSeq (mIfS (mOr (mTest (mOp (oPl true) (mCall FClash (mCons (mVar 5) (mNil))) (mVar 6))) (mTest (mOp (oPl true) (mVar 5) (mVar 4))))
  (mRet (mC (.bl false))) (mNext))
  (mSeq (mAsg (mCall FDigit (mCons (mVar 2) (mCons (mCB nLen (mCons (mVar 4) (mNil))) (mNil)))) (gNm 7))
  (mIfS (mOr (mTest (mOp (oPl true) (mCall FClash (mCons (mOp oCatL (mSl oSlL (mVar 4) (mPart (mVar 7)) mNoP) (mSl oSlL (mVar 4) mNoP (mPart (mVar 7)))) (mNil))) (mVar 6))) (mTest (mOp (oPl true) (mCall FClash (mCons (mCB nTup (mCons (mUn oRev (mVar 4)) (mNil))) (mNil))) (mVar 6))))
  (mRet (mC (.bl false))) (mNext))))))))))
  (mRet (mC (.bl true))))
def FLaw : Fn := runFn 1 8 (mLaw)
set_option maxHeartbeats 4000000 in
theorem okLaw {P : Program} {w : World} {K : PySem.W.Frag} {mg : Str → Option Value} {base : Heap} {f : Addr} {fd : FuncData} {k : Nat} (W : Wd K mg) (F : FnP K "law" "law" sLaw f fd) {l_Clash : Nat} (h_Clash : NK.CalX P w K mg base l_Clash "clash" ["records"] (spFn (TTs P w K) FClash)) (hl_Clash : l_Clash ≤ k) {l_State : Nat} (h_State : NK.CalX P w K mg base l_State "_law_state" ["_law_cell"] (spFn (TTs P w K) FState)) (hl_State : l_State ≤ k) {l_Names : Nat} (h_Names : NK.CalX P w K mg base l_Names "_law_names" ["_law_s", "_law_many"] (spFn (TTs P w K) FNames)) (hl_Names : l_Names ≤ k) {l_Digit : Nat} (h_Digit : NK.CalX P w K mg base l_Digit "_law_digit" ["_law_state_here", "_law_base"] (spFn (TTs P w K) FDigit)) (hl_Digit : l_Digit ≤ k) {l_Records : Nat} (h_Records : NK.CalX P w K mg base l_Records "_law_records" ["_law_s", "_law_keys", "_law_many"] (spFn (TTs P w K) FRecords)) (hl_Records : l_Records ≤ k) {l_Due : Nat} (h_Due : NK.CalX P w K mg base l_Due "_law_due" ["_law_rows_here"] (spFn (TTs P w K) FDue)) (hl_Due : l_Due ≤ k) : FnOk P w K mg base (L2N.CX P w) (k + 1) f fd ["_law_script"] (spFn (TTs P w K) (FLaw)) := by
  refine F.ok (CX := L2N.CX P w) scLaw spFn_len (fun cdv A outer st H vs Q E hr h => ⟨FS ⟨TTs P w K, none, fun cls d _ H => E cls d H⟩ (mLaw), ?_, fn_enter (N := ["_law_script", "_law_cell", "_law_s", "_law_keys", "_law_rows_here", "_law_handed", "_law_due_here", "_law_at"]) h⟩)
  unfold mLaw
  exact fss_cons (pss_cons (fs_if (ps_if (PW.pt (fw_or (pw_or (ft_cmp (pt_cmpR op_notN1 (fe_call (NK.pe_fnS h_Clash (hr.mono hl_Clash) (by rfl) (L2N.takes_of rfl rfl rfl rfl) (fa_cons (pa_cons (fe_lst (pe_lst ((fa_nil pa_nil)))) ((fa_nil pa_nil)))))) (fe_non pe_non) (nomark _)) sim_notN) (pw_or1 (ft_cmp (pt_cmpR op_notN1 (fe_call (NK.pe_fnS h_Clash (hr.mono hl_Clash) (by rfl) (L2N.takes_of rfl rfl rfl rfl) (fa_cons (pa_cons (fe_lst (pe_lst (fa_cons (pa_cons (fe_tup (pe_tup (fa_cons (pa_cons (fe_tup (pe_tup ((fa_nil pa_nil)))) (fa_cons (pa_cons (fe_tup (pe_tup ((fa_nil pa_nil)))) ((fa_nil pa_nil)))))))) ((fa_nil pa_nil)))))) ((fa_nil pa_nil)))))) (fe_non pe_non) (nomark _)) sim_notN)))))
    (pss_one (fs_ret (ps_ret (fe_bl pe_bl)))) ((fss_nil pss_nil))))
    (fss_cons (pss_cons (fs_for (ps_for (passes_of rfl) rfl (fi_lst (pi_list (fe_sl (pe_slice sl_list (fe_op (pe_op NK.op_catL (fe_var (pv 0)) (fe_lst (pe_lst (fa_cons (pa_cons (fe_int pe_int) ((fa_nil pa_nil))))))) sim_catL) (fo_none po_none) (fo_some (po_some (fe_int pe_int)))) sim_slL))) (fg_name (pg_name (i := 1) scLaw.nd rfl (Or.inl rfl)) rfl)
    (fss_cons (pss_cons (fs_set (ps_set (i := 2) scLaw.nd rfl (Or.inl rfl) (fe_call (NK.pe_fnS h_State (hr.mono hl_State) (by rfl) (L2N.takes_of rfl rfl rfl rfl) (fa_cons (pa_cons (fe_var (pv 1)) ((fa_nil pa_nil))))))) rfl)
    (fss_cons (pss_cons (fs_set (ps_set (i := 3) scLaw.nd rfl (Or.inl rfl) (fe_call (NK.pe_fnS h_Names (hr.mono hl_Names) (by rfl) (L2N.takes_of rfl rfl rfl rfl) (fa_cons (pa_cons (fe_var (pv 2)) (fa_cons (pa_cons (fe_op (pe_op op_add (fe_int pe_int) (fe_call (NK.pe_fnS h_Digit (hr.mono hl_Digit) (by rfl) (L2N.takes_of rfl rfl rfl rfl) (fa_cons (pa_cons (fe_var (pv 2)) (fa_cons (pa_cons (fe_int pe_int) ((fa_nil pa_nil))))))))) sim_ii) ((fa_nil pa_nil))))))))) rfl)
    (fss_cons (pss_cons (fs_set (ps_set (i := 4) scLaw.nd rfl (Or.inl rfl) (fe_call (NK.pe_fnS h_Records (hr.mono hl_Records) (by rfl) (L2N.takes_of rfl rfl rfl rfl) (fa_cons (pa_cons (fe_var (pv 2)) (fa_cons (pa_cons (fe_var (pv 3)) (fa_cons (pa_cons (fe_op (pe_op op_add (fe_int pe_int) (fe_call (NK.pe_fnS h_Digit (hr.mono hl_Digit) (by rfl) (L2N.takes_of rfl rfl rfl rfl) (fa_cons (pa_cons (fe_var (pv 2)) (fa_cons (pa_cons (fe_int pe_int) ((fa_nil pa_nil))))))))) sim_ii) ((fa_nil pa_nil))))))))))) rfl)
    (fss_cons (pss_cons (fs_set (ps_set (i := 5) scLaw.nd rfl (Or.inl rfl) (fe_cl (pe_callTy NK.call_listOf (by rfl) W.b_list (by decide +kernel) (fa_cons (pa_cons (fe_var (pv 4)) ((fa_nil pa_nil))))) sim_list)) rfl)
    (fss_cons (pss_cons (fs_set (ps_set (i := 6) scLaw.nd rfl (Or.inl rfl) (fe_call (NK.pe_fnS h_Due (hr.mono hl_Due) (by rfl) (L2N.takes_of rfl rfl rfl rfl) (fa_cons (pa_cons (fe_var (pv 4)) ((fa_nil pa_nil))))))) rfl)
    (fss_cons (pss_cons (fs_if (ps_if (PW.pt (fw_or (pw_or (ft_cmp (pt_cmpR (op_Pl (neg := true) hr.units rfl) (fe_call (NK.pe_fnS h_Clash (hr.mono hl_Clash) (by rfl) (L2N.takes_of rfl rfl rfl rfl) (fa_cons (pa_cons (fe_var (pv 5)) ((fa_nil pa_nil)))))) (fe_var (pv 6)) (nomark _)) sim_Pl) (pw_or1 (ft_cmp (pt_cmpR (op_Pl (neg := true) hr.units rfl) (fe_var (pv 5)) (fe_var (pv 4)) (nomark _)) sim_Pl)))))
    (pss_one (fs_ret (ps_ret (fe_bl pe_bl)))) ((fss_nil pss_nil))))
    (fss_cons (pss_cons (fs_set (ps_set (i := 7) scLaw.nd rfl (Or.inl rfl) (fe_call (NK.pe_fnS h_Digit (hr.mono hl_Digit) (by rfl) (L2N.takes_of rfl rfl rfl rfl) (fa_cons (pa_cons (fe_var (pv 2)) (fa_cons (pa_cons (fe_cb (pe_callB NK.call_lenSeq (by rfl) W.b_len (by decide +kernel) (fa_cons (pa_cons (fe_var (pv 4)) ((fa_nil pa_nil))))) sim_len) ((fa_nil pa_nil))))))))) rfl)
    (pss_one (fs_if (ps_if (PW.pt (fw_or (pw_or (ft_cmp (pt_cmpR (op_Pl (neg := true) hr.units rfl) (fe_call (NK.pe_fnS h_Clash (hr.mono hl_Clash) (by rfl) (L2N.takes_of rfl rfl rfl rfl) (fa_cons (pa_cons (fe_op (pe_op NK.op_catL (fe_sl (pe_slice sl_list (fe_var (pv 4)) (fo_some (po_some (fe_var (pv 7)))) (fo_none po_none)) sim_slL) (fe_sl (pe_slice sl_list (fe_var (pv 4)) (fo_none po_none) (fo_some (po_some (fe_var (pv 7))))) sim_slL)) sim_catL) ((fa_nil pa_nil)))))) (fe_var (pv 6)) (nomark _)) sim_Pl) (pw_or1 (ft_cmp (pt_cmpR (op_Pl (neg := true) hr.units rfl) (fe_call (NK.pe_fnS h_Clash (hr.mono hl_Clash) (by rfl) (L2N.takes_of rfl rfl rfl rfl) (fa_cons (pa_cons (fe_cb (pe_callTy NK.call_tupOf (by rfl) W.b_tuple (by decide +kernel) (fa_cons (pa_cons (fe_rev (pe_revL (fe_var (pv 4)))) ((fa_nil pa_nil))))) sim_tup) ((fa_nil pa_nil)))))) (fe_var (pv 6)) (nomark _)) sim_Pl)))))
    (pss_one (fs_ret (ps_ret (fe_bl pe_bl)))) ((fss_nil pss_nil)))))))))))))))))))))
    (pss_one (fs_ret (ps_ret (fe_bl pe_bl)))))))
end
end K31
namespace K31
open PySem PySem.Spec PyProof.Rows L2 FM
theorem wd_of {K : PySem.W.Frag} {h : Heap} {mg : Str → Option Value} (X : K.In h) (G : h.Ns mainGlobals mg) (c : SaysF fbl fnl K) : Wd K mg where
  b_len := He.free_ok X G (c.fact 0)
  b_sorted := He.free_ok X G (c.fact 1)
  b_set := He.free_ok X G (c.fact 2)
  b_range := He.free_ok X G (c.fact 3)
  b_list := He.free_ok X G (c.fact 4)
  b_zip := He.free_ok X G (c.fact 5)
  b_abs := He.free_ok X G (c.fact 6)
  b_int := He.free_ok X G (c.fact 7)
  b_str := He.free_ok X G (c.fact 8)
  b_tuple := He.free_ok X G (c.fact 9)
  b_min := He.free_ok X G (c.fact 10)
  b_dict := He.free_ok X G (c.fact 11)
set_option maxHeartbeats 4000000 in
theorem facts {P : Program} {w : World} {K : PySem.W.Frag} {h : Heap} {mg : Str → Option Value} {f : Addr} (X : K.In h) (G : h.Ns mainGlobals mg) (hfa : mg ("law" : Str) = some (.ref f)) (c : SaysF fbl fnl K) :
    ∃ fd : FuncData, (∀ (s : Shared) (v : Value), BindsTo s fd ⟨[v], []⟩ [("_law_script", v)]) ∧ ∀ base : Heap, K.In base → base.Ns mainGlobals mg → FnOk P w K mg base (L2N.CX P w) 11 f fd ["_law_script"] (spFn (TTs P w K) FLaw) := by
  have W := wd_of X G c
  have e := hfa.symm.trans (He.glo_ok X G (c.fact 24 (f := fun K => (He.Fa.glo "law").ok K)))
  cases e
  obtain ⟨fd_Through, D_Through⟩ := c.def_ 0 (d := dThrough) rfl
  have B_Through := D_Through.bindsN (ps := ["arcs", "path", "length"]) fun _ _ _ _ _ _ us hl => match us, hl with | [_, _, _], _ => rfl
  obtain ⟨fd_RingOf, D_RingOf⟩ := c.def_ 1 (d := dRingOf) rfl
  have B_RingOf := D_RingOf.bindsN (ps := ["arcs"]) fun _ _ _ _ _ _ us hl => match us, hl with | [_], _ => rfl
  obtain ⟨fd_ArcsOf, D_ArcsOf⟩ := c.def_ 2 (d := dArcsOf) rfl
  have B_ArcsOf := D_ArcsOf.bindsN (ps := ["records"]) fun _ _ _ _ _ _ us hl => match us, hl with | [_], _ => rfl
  obtain ⟨fd_Clash, D_Clash⟩ := c.def_ 3 (d := dClash) rfl
  have B_Clash := D_Clash.bindsN (ps := ["records"]) fun _ _ _ _ _ _ us hl => match us, hl with | [_], _ => rfl
  obtain ⟨fd_State, D_State⟩ := c.def_ 4 (d := dState) rfl
  have B_State := D_State.bindsN (ps := ["_law_cell"]) fun _ _ _ _ _ _ us hl => match us, hl with | [_], _ => rfl
  obtain ⟨fd_Digit, D_Digit⟩ := c.def_ 5 (d := dDigit) rfl
  have B_Digit := D_Digit.bindsN (ps := ["_law_state_here", "_law_base"]) fun _ _ _ _ _ _ us hl => match us, hl with | [_, _], _ => rfl
  obtain ⟨fd_Name, D_Name⟩ := c.def_ 6 (d := dName) rfl
  have B_Name := D_Name.bindsN (ps := ["_law_s", "_law_taken"]) fun _ _ _ _ _ _ us hl => match us, hl with | [_, _], _ => rfl
  obtain ⟨fd_Names, D_Names⟩ := c.def_ 7 (d := dNames) rfl
  have B_Names := D_Names.bindsN (ps := ["_law_s", "_law_many"]) fun _ _ _ _ _ _ us hl => match us, hl with | [_, _], _ => rfl
  obtain ⟨fd_Records, D_Records⟩ := c.def_ 8 (d := dRecords) rfl
  have B_Records := D_Records.bindsN (ps := ["_law_s", "_law_keys", "_law_many"]) fun _ _ _ _ _ _ us hl => match us, hl with | [_, _, _], _ => rfl
  obtain ⟨fd_Rows, D_Rows⟩ := c.def_ 9 (d := dRows) rfl
  have B_Rows := D_Rows.bindsN (ps := ["_law_keys", "_law_many"]) fun _ _ _ _ _ _ us hl => match us, hl with | [_, _], _ => rfl
  obtain ⟨fd_IsRing, D_IsRing⟩ := c.def_ 10 (d := dIsRing) rfl
  have B_IsRing := D_IsRing.bindsN (ps := ["_law_later", "_law_row"]) fun _ _ _ _ _ _ us hl => match us, hl with | [_, _], _ => rfl
  obtain ⟨fd_Due, D_Due⟩ := c.def_ 11 (d := dDue) rfl
  have B_Due := D_Due.bindsN (ps := ["_law_rows_here"]) fun _ _ _ _ _ _ us hl => match us, hl with | [_], _ => rfl
  obtain ⟨fd_Law, D_Law⟩ := c.def_ 12 (d := dLaw) rfl
  have b := FunD.bindsA (ps := ["_law_script"]) D_Law fun _ _ _ _ _ _ us hl => match us, hl with | [_], _ => rfl
  refine ⟨fd_Law, fun s v => b s [v] rfl, fun base _ _ => ?_⟩
  have h_Through_0 : NK.CalX P w K mg base 1 "ring_through" ["arcs", "path", "length"] (spFn (TTs P w K) (thrN 0)) := ⟨⟨_, _, D_Through.ok (k := 0) (CX := L2N.CX P w) scThrough (fun vs H Q E h => (spNo h).elim) (fun cdv A outer st H vs Q E hr h => (spNo h).elim), He.glo_ok X G (c.fact 12), D_Through.kp, B_Through⟩⟩
  have h_Through_1 : NK.CalX P w K mg base 2 "ring_through" ["arcs", "path", "length"] (spFn (TTs P w K) (thrN 1)) := ⟨⟨_, _, okThrough (k := 1) (r_Through := (thrN 0)) W D_Through h_Through_0 (by decide), He.glo_ok X G (c.fact 12), D_Through.kp, B_Through⟩⟩
  have h_Through_2 : NK.CalX P w K mg base 3 "ring_through" ["arcs", "path", "length"] (spFn (TTs P w K) (thrN 2)) := ⟨⟨_, _, okThrough (k := 2) (r_Through := (thrN 1)) W D_Through h_Through_1 (by decide), He.glo_ok X G (c.fact 12), D_Through.kp, B_Through⟩⟩
  have h_Through_3 : NK.CalX P w K mg base 4 "ring_through" ["arcs", "path", "length"] (spFn (TTs P w K) (thrN 3)) := ⟨⟨_, _, okThrough (k := 3) (r_Through := (thrN 2)) W D_Through h_Through_2 (by decide), He.glo_ok X G (c.fact 12), D_Through.kp, B_Through⟩⟩
  have h_Through_4 : NK.CalX P w K mg base 5 "ring_through" ["arcs", "path", "length"] (spFn (TTs P w K) (thrN 4)) := ⟨⟨_, _, okThrough (k := 4) (r_Through := (thrN 3)) W D_Through h_Through_3 (by decide), He.glo_ok X G (c.fact 12), D_Through.kp, B_Through⟩⟩
  have h_Through_5 : NK.CalX P w K mg base 6 "ring_through" ["arcs", "path", "length"] (spFn (TTs P w K) (thrN 5)) := ⟨⟨_, _, okThrough (k := 5) (r_Through := (thrN 4)) W D_Through h_Through_4 (by decide), He.glo_ok X G (c.fact 12), D_Through.kp, B_Through⟩⟩
  have h_Through_6 : NK.CalX P w K mg base 7 "ring_through" ["arcs", "path", "length"] (spFn (TTs P w K) (thrN 6)) := ⟨⟨_, _, okThrough (k := 6) (r_Through := (thrN 5)) W D_Through h_Through_5 (by decide), He.glo_ok X G (c.fact 12), D_Through.kp, B_Through⟩⟩
  have h_Through_7 : NK.CalX P w K mg base 8 "ring_through" ["arcs", "path", "length"] (spFn (TTs P w K) (thrN 7)) := ⟨⟨_, _, okThrough (k := 7) (r_Through := (thrN 6)) W D_Through h_Through_6 (by decide), He.glo_ok X G (c.fact 12), D_Through.kp, B_Through⟩⟩
  have h_Through := h_Through_7
  have h_RingOf : NK.CalX P w K mg base 9 "ring_of" ["arcs"] (spFn (TTs P w K) FRingOf) := ⟨⟨_, _, okRingOf (k := 8)  W D_RingOf h_Through (by decide), He.glo_ok X G (c.fact 13), D_RingOf.kp, B_RingOf⟩⟩
  have h_ArcsOf : NK.CalX P w K mg base 1 "arcs_of" ["records"] (spFn (TTs P w K) FArcsOf) := ⟨⟨_, _, okArcsOf (k := 0)  W D_ArcsOf , He.glo_ok X G (c.fact 14), D_ArcsOf.kp, B_ArcsOf⟩⟩
  have h_Clash : NK.CalX P w K mg base 10 "clash" ["records"] (spFn (TTs P w K) FClash) := ⟨⟨_, _, okClash (k := 9)  W D_Clash h_RingOf (by decide) h_ArcsOf (by decide), He.glo_ok X G (c.fact 15), D_Clash.kp, B_Clash⟩⟩
  have h_State : NK.CalX P w K mg base 1 "_law_state" ["_law_cell"] (spFn (TTs P w K) FState) := ⟨⟨_, _, okState (k := 0)  W D_State , He.glo_ok X G (c.fact 16), D_State.kp, B_State⟩⟩
  have h_Digit : NK.CalX P w K mg base 1 "_law_digit" ["_law_state_here", "_law_base"] (spFn (TTs P w K) FDigit) := ⟨⟨_, _, okDigit (k := 0)  W D_Digit , He.glo_ok X G (c.fact 17), D_Digit.kp, B_Digit⟩⟩
  have h_Name : NK.CalX P w K mg base 2 "_law_name" ["_law_s", "_law_taken"] (spFn (TTs P w K) FName) := ⟨⟨_, _, okName (k := 1)  W D_Name h_Digit (by decide), He.glo_ok X G (c.fact 18), D_Name.kp, B_Name⟩⟩
  have h_Names : NK.CalX P w K mg base 3 "_law_names" ["_law_s", "_law_many"] (spFn (TTs P w K) FNames) := ⟨⟨_, _, okNames (k := 2)  W D_Names h_Name (by decide), He.glo_ok X G (c.fact 19), D_Names.kp, B_Names⟩⟩
  have h_Records : NK.CalX P w K mg base 2 "_law_records" ["_law_s", "_law_keys", "_law_many"] (spFn (TTs P w K) FRecords) := ⟨⟨_, _, okRecords (k := 1)  W D_Records h_Digit (by decide) (by decide), He.glo_ok X G (c.fact 20), D_Records.kp, B_Records⟩⟩
  have h_Rows : NK.CalX P w K mg base 1 "_law_rows" ["_law_keys", "_law_many"] (spFn (TTs P w K) FRows) := ⟨⟨_, _, okRows (k := 0)  W D_Rows , He.glo_ok X G (c.fact 21), D_Rows.kp, B_Rows⟩⟩
  have h_IsRing : NK.CalX P w K mg base 1 "_law_is_ring" ["_law_later", "_law_row"] (spFn (TTs P w K) FIsRing) := ⟨⟨_, _, okIsRing (k := 0)  W D_IsRing , He.glo_ok X G (c.fact 22), D_IsRing.kp, B_IsRing⟩⟩
  have h_Due : NK.CalX P w K mg base 2 "_law_due" ["_law_rows_here"] (spFn (TTs P w K) FDue) := ⟨⟨_, _, okDue (k := 1)  W D_Due h_Rows (by decide) h_IsRing (by decide) (by decide), He.glo_ok X G (c.fact 23), D_Due.kp, B_Due⟩⟩
  exact okLaw (k := 10)  W D_Law h_Clash (by decide) h_State (by decide) h_Names (by decide) h_Digit (by decide) h_Records (by decide) h_Due (by decide)
end K31
namespace K31
open PySem PySem.Spec PyProof.Rows L2 FM
/-! ### the draws -/
structure Ok3 (a b c : Int) : Prop where
  a0 : 0 ≤ a
  b0 : 0 ≤ b
  b1 : b < 4294967296
  c0 : 0 ≤ c
  c1 : c < 4294967296
abbrev stC (a b c : Int) : Option Cell := some (.lst [.int a, .int b, .int c])
theorem lt_of {α : Type} {l : List α} {k : Nat} {x : α} (h : l[k]? = some x) : k < l.length := (List.getElem?_eq_some_iff.mp h).1
theorem set_get {α : Type} {l : List α} {k : Nat} {x y : α} (h : l[k]? = some x) : (l.set k y)[k]? = some y := by
  rw [List.getElem?_set_self (lt_of h)]
theorem take_set {α : Type} {l : List α} {k : Nat} {y : α} : (l.set k y).take l.length = l.set k y := List.take_of_length_le (by simp)
theorem digit_ok {m : Cells} {k : Nat} {a b c n : Int} (h : m[k]? = some (stC a b c)) (o : Ok3 a b c) (hn : 0 < n) (hn2 : n < 1073741824) :
    ∃ r a' b', FDigit [.ref k, .d (.int n)] m = .ok (.d (.int r)) (m.set k (stC a' b' c)) ∧ 0 ≤ r ∧ r < n ∧ Ok3 a' b' c := by
  have cd : CDiv a n := ⟨hn, hn2⟩
  by_cases ha : 0 < a
  · refine ⟨a % n, a / n, b, ?_, Int.emod_nonneg a (by omega), Int.emod_lt_of_pos a hn, ⟨Int.ediv_nonneg o.a0 (by omega), o.b0, o.b1, o.c0, o.c1⟩⟩
    unfold FDigit runFn mDigit
    simp [mSeq, mIfS, mTest, mOp, mVar, mC, mAsg, mRet, gNm, thenG, Rs.bind, Rs.then, ofO, exitF, oIB, oIxL, lstOf, h, ha, hn, cd, oIc, mCB, mCons, mNil, nInt, mSetL, isL, ixN, atI, take_set, mNext]
  · have ha0 : a = 0 := by have := o.a0; omega
    have cd1 : CDiv b 1009 := ⟨by decide, by decide⟩
    have cm : CMul b (b / 1009 + 69621) := Or.inl ⟨by have := o.b0; omega, by have := o.b1; omega⟩
    refine ⟨((b * (b / 1009 + 69621) + c) % 2147483629 + 7) / 97 % n, a, (b * (b / 1009 + 69621) + c) % 2147483629 + 7, ?_, Int.emod_nonneg _ (by omega), Int.emod_lt_of_pos _ hn, ⟨o.a0, ?_, ?_, o.c0, o.c1⟩⟩
    · have cd2 : CDiv ((b * (b / 1009 + 69621) + c) % 2147483629 + 7) 97 := ⟨by decide, by decide⟩
      unfold FDigit runFn mDigit
      simp [mSeq, mIfS, mTest, mOp, mVar, mC, mAsg, mRet, gNm, thenG, Rs.bind, Rs.then, ofO, exitF, oIB, oIxL, lstOf, h, ha, hn, cd1, cd2, cm, oIc, mCB, mCons, mNil, nInt, oII, mSetL, isL, ixN, atI, take_set, mNext, set_get h, ha0]
    · have := Int.emod_nonneg (b * (b / 1009 + 69621) + c) (b := 2147483629) (by decide); omega
    · have := Int.emod_lt_of_pos (b * (b / 1009 + 69621) + c) (b := 2147483629) (by decide); omega
theorem state_ok {m : Cells} {c : Int} : ∃ a b d, FState [.d (.int c)] m = .ok (.ref m.length) (m ++ [stC a b d]) ∧ Ok3 a b d := by
  obtain ⟨e, he, he0⟩ : ∃ e : Int, (if c < 0 then -c else c) = e ∧ 0 ≤ e := ⟨_, rfl, by split <;> omega⟩
  obtain ⟨t, ht, ht1⟩ : ∃ t : Int, (if (1000000000000000000 : Int) ≤ e then (1 : Int) else 0) = t ∧ (0 ≤ t ∧ t ≤ 1) := ⟨_, rfl, by split <;> omega⟩
  refine ⟨e * t, e % 2147483629 + 7, e % 2147483587, ?_, ?_⟩
  · have cp : CPow 10 18 := ⟨by decide, by decide, by decide⟩
    have cm : CMul e t := Or.inr ⟨by omega, by omega⟩
    unfold FState runFn mState
    simp [mSeq, mTest, mOp, mVar, mC, mAsg, mRet, gNm, thenG, Rs.bind, Rs.then, ofO, exitF, oIB, mCB, mCons, mNil, nAbs, nInt, oIc, oII, mLstC, dats, szOk, he, cp, ht, cm, Cell.isOb]
  · refine ⟨Int.mul_nonneg he0 ht1.1, ?_, ?_, ?_, ?_⟩
    · have := Int.emod_nonneg e (b := 2147483629) (by decide); omega
    · have := Int.emod_lt_of_pos e (b := 2147483629) (by decide); omega
    · exact Int.emod_nonneg e (by decide)
    · have := Int.emod_lt_of_pos e (b := 2147483587) (by decide); omega
end K31
namespace K31
open PySem PySem.Spec PyProof.Rows L2 FM
theorem sz_lit {n : Nat} (h : n ≤ 16777216) : szOk n = true := decide_eq_true h
/-! ### names -/
theorem le_of_nodup_sub {α : Type} [DecidableEq α] : ∀ {l r : List α}, l.Nodup → (∀ x ∈ l, x ∈ r) → l.length ≤ r.length
  | [], r, _, _ => Nat.zero_le _
  | x :: l, r, hn, hs => by
    rw [List.nodup_cons] at hn
    have hx : x ∈ r := hs x List.mem_cons_self
    have ih := le_of_nodup_sub (l := l) (r := r.erase x) hn.2 fun y hy => (List.mem_erase_of_ne (fun e => hn.1 (by rw [← e]; exact hy))).mpr (hs y (List.mem_cons_of_mem _ hy))
    rw [List.length_erase_of_mem hx] at ih
    have := List.length_pos_of_mem hx
    rw [List.length_cons]
    omega
/-- the n-th try -/
def tryN (stem : Str) : Nat → Str
  | 0 => stem
  | n + 1 => stem ++ Str.ofString (toString (((n + 1 : Nat) : Nat) : Int))
theorem str_app_len (x y : Str) : (x ++ y).length = x.length + y.length := by
  show (x.cps ++ y.cps).size = _
  rw [Array.size_append]
  rfl
theorem num_str {n : Nat} (h : n ≤ 9) : 1 ≤ (Str.ofString (toString ((n : Nat) : Int))).length ∧ (Str.ofString (toString ((n : Nat) : Int))).length ≤ 1 ∧ ∀ c ∈ (Str.ofString (toString ((n : Nat) : Int))).cps.toList, 48 ≤ c ∧ c ≤ 57 := by
  have : n = 0 ∨ n = 1 ∨ n = 2 ∨ n = 3 ∨ n = 4 ∨ n = 5 ∨ n = 6 ∨ n = 7 ∨ n = 8 ∨ n = 9 := by omega
  rcases this with rfl | rfl | rfl | rfl | rfl | rfl | rfl | rfl | rfl | rfl <;> decide +kernel
theorem tryN_inj {stem : Str} : ∀ {i j : Nat}, i ≤ 9 → j ≤ 9 → tryN stem i = tryN stem j → i = j
  | 0, 0, _, _, _ => rfl
  | 0, j + 1, _, hj, e => by
    have h := congrArg Str.length e
    have k := num_str hj
    simp only [tryN, str_app_len] at h
    omega
  | i + 1, 0, hi, _, e => by
    have h := congrArg Str.length e
    have k := num_str hi
    simp only [tryN, str_app_len] at h
    omega
  | i + 1, j + 1, hi, hj, e => by
    have h : (stem ++ Str.ofString (toString (((i + 1 : Nat) : Nat) : Int))).cps = (stem ++ Str.ofString (toString (((j + 1 : Nat) : Nat) : Int))).cps := congrArg Str.cps e
    have h2 : stem.cps ++ (Str.ofString (toString (((i + 1 : Nat) : Nat) : Int))).cps = stem.cps ++ (Str.ofString (toString (((j + 1 : Nat) : Nat) : Int))).cps := h
    have h3 := (Array.append_right_inj _).mp h2
    have h4 : Str.ofString (toString (((i + 1 : Nat) : Nat) : Int)) = Str.ofString (toString (((j + 1 : Nat) : Nat) : Int)) := by
      generalize Str.ofString (toString (((i + 1 : Nat) : Nat) : Int)) = x at h3
      generalize Str.ofString (toString (((j + 1 : Nat) : Nat) : Int)) = y at h3
      cases x
      cases y
      exact congrArg Str.mk h3
    have r1 := PySem.W.KIN.num_reads (n := ((i + 1 : Nat) : Int)) (by omega) (by omega)
    have r2 := PySem.W.KIN.num_reads (n := ((j + 1 : Nat) : Int)) (by omega) (by omega)
    rw [h4, r2] at r1
    have := Option.some.inj r1
    omega
theorem tries_few {stem : Str} {ys : List Str} {k : Nat} (hy : ys.length ≤ 8) (hk : k ≤ 8) (h : ∀ j, j ≤ k → tryN stem j ∈ ys) : k + 1 ≤ ys.length := by
  have hn : ((List.range (k + 1)).map (tryN stem)).Nodup := by
    rw [List.Nodup, List.pairwise_map]
    refine List.Pairwise.imp_of_mem ?_ (List.nodup_range (n := k + 1))
    intro a b ha hb hab e
    rw [List.mem_range] at ha hb
    exact hab (tryN_inj (by omega) (by omega) e)
  have := le_of_nodup_sub hn (r := ys) fun x hx => by
    obtain ⟨j, hj, rfl⟩ := List.mem_map.mp hx
    rw [List.mem_range] at hj
    exact h j (by omega)
  rw [List.length_map, List.length_range] at this
  exact this
theorem app_tl (x y : Str) : (x ++ y).cps.toList = x.cps.toList ++ y.cps.toList := by
  have e : (x ++ y).cps = x.cps ++ y.cps := rfl
  rw [e, Array.toList_append]
def NameCp (c : Nat) : Prop := (97 ≤ c ∧ c ≤ 122) ∨ (48 ≤ c ∧ c ≤ 57)
/-- a name of at most n signs -/
structure GName (n : Nat) (z : Str) : Prop where
  hd : ∃ c cs, z.cps.toList = c :: cs ∧ 97 ≤ c ∧ c ≤ 122
  cp : ∀ c ∈ z.cps.toList, NameCp c
  ln : z.length ≤ n
theorem GName.app {n k : Nat} {z y : Str} (h : GName n z) (hy : ∀ c ∈ y.cps.toList, NameCp c) (hk : n + y.length ≤ k) : GName k (z ++ y) := by
  obtain ⟨c, cs, e, h1, h2⟩ := h.hd
  refine ⟨⟨c, cs ++ y.cps.toList, by rw [app_tl, e]; rfl, h1, h2⟩, fun x hx => ?_, by rw [str_app_len]; have := h.ln; omega⟩
  rw [app_tl] at hx
  rcases List.mem_append.mp hx with w | w
  · exact h.cp x w
  · exact hy x w
theorem GName.mono {n k : Nat} {z : Str} (h : GName n z) (hk : n ≤ k) : GName k z := ⟨h.hd, h.cp, Nat.le_trans h.ln hk⟩
theorem tryN_good {stem : Str} {n : Nat} (h : GName n stem) : ∀ {k : Nat}, k ≤ 9 → GName (n + 1) (tryN stem k)
  | 0, _ => h.mono (Nat.le_succ n)
  | k + 1, hk => by
    have q := num_str hk
    exact h.app (fun c hc => .inr (q.2.2 c hc)) (by omega)
theorem signs36 : ∀ c ∈ ("abcdefghijklmnopqrstuvwxyz0123456789" : Str).cps.toList, NameCp c := by
  unfold NameCp
  decide +kernel
theorem pick36 {i : Int} (h0 : 0 ≤ i) (h1 : i < 36) : ∃ c, atI ("abcdefghijklmnopqrstuvwxyz0123456789" : Str).cps.toList i = some c ∧ NameCp c := by
  have hl : ("abcdefghijklmnopqrstuvwxyz0123456789" : Str).cps.toList.length = 36 := by decide +kernel
  have hi : i.toNat < ("abcdefghijklmnopqrstuvwxyz0123456789" : Str).cps.toList.length := by rw [hl]; omega
  refine ⟨_, ?_, signs36 _ (List.getElem_mem hi)⟩
  unfold atI ixN
  rw [if_pos h0, if_pos (by rw [hl]; omega), Option.bind_some]
  exact List.getElem?_eq_getElem hi
theorem pick26 {i : Int} (h0 : 0 ≤ i) (h1 : i < 26) : ∃ c, atI ("abcdefghijklmnopqrstuvwxyz0123456789" : Str).cps.toList i = some c ∧ 97 ≤ c ∧ c ≤ 122 := by
  have : i = 0 ∨ i = 1 ∨ i = 2 ∨ i = 3 ∨ i = 4 ∨ i = 5 ∨ i = 6 ∨ i = 7 ∨ i = 8 ∨ i = 9 ∨ i = 10 ∨ i = 11 ∨ i = 12 ∨ i = 13 ∨ i = 14 ∨ i = 15 ∨ i = 16 ∨ i = 17 ∨ i = 18 ∨ i = 19 ∨ i = 20 ∨ i = 21 ∨ i = 22 ∨ i = 23 ∨ i = 24 ∨ i = 25 := by omega
  rcases this with rfl | rfl | rfl | rfl | rfl | rfl | rfl | rfl | rfl | rfl | rfl | rfl | rfl | rfl | rfl | rfl | rfl | rfl | rfl | rfl | rfl | rfl | rfl | rfl | rfl | rfl <;> exact ⟨_, rfl, by decide +kernel, by decide +kernel⟩
/-- the stem's signs -/
theorem stem_loop {m : Cells} {k : Nat} {c : Int} {x1 x3 x6 x7 : Option Vl} {s0 : Option Cell} (hm : m[k]? = some s0) : ∀ (xs : List Dt) {a b : Int} {stem : Str} {n : Nat} {x5 : Option Vl}, GName n stem → n + xs.length ≤ 6 → Ok3 a b c →
    ∃ a' b' stem' x5', mLoop (gNm 5) (mAsg (mOp oCatS (mVar 4) (mOp oIxS (mVar 2) (mCall FDigit (mCons (mVar 0) (mCons (mC (.int 36)) (mNil)))))) (gNm 4)) xs
      [some (.ref k), x1, some (.d (.str "abcdefghijklmnopqrstuvwxyz0123456789")), x3, some (.d (.str stem)), x5, x6, x7] (m.set k (stC a b c)) =
      .nx [some (.ref k), x1, some (.d (.str "abcdefghijklmnopqrstuvwxyz0123456789")), x3, some (.d (.str stem')), x5', x6, x7] (m.set k (stC a' b' c)) ∧ GName 6 stem' ∧ Ok3 a' b' c
  | [], a, b, stem, n, x5, h, hn, o => ⟨a, b, stem, x5, rfl, h.mono (by simpa using hn), o⟩
  | x :: xs, a, b, stem, n, x5, h, hn, o => by
    obtain ⟨r, a1, b1, e1, r0, r1, o1⟩ := digit_ok (m := m.set k (stC a b c)) (set_get hm) o (n := 36) (by decide) (by decide)
    obtain ⟨cp, hcp, gcp⟩ := pick36 r0 r1
    have g1 : GName (n + 1) (stem ++ (⟨#[cp]⟩ : Str)) := h.app (fun c hc => by simp at hc; subst hc; exact gcp) (Nat.le_refl _)
    rw [List.length_cons] at hn
    obtain ⟨a', b', stem', x5', e2, g2, o2⟩ := stem_loop hm xs (a := a1) (b := b1) (n := n + 1) (x5 := some (.d x)) g1 (by omega) o1
    refine ⟨a', b', stem', x5', ?_, g2, o2⟩
    have hz : szOk (stem.length + (⟨#[cp]⟩ : Str).length) = true := by
      have := h.ln
      have e : (⟨#[cp]⟩ : Str).length = 1 := rfl
      rw [e]
      unfold szOk
      exact decide_eq_true (by omega)
    rw [List.set_set] at e1
    have hz2 : szOk ("abcdefghijklmnopqrstuvwxyz0123456789" : Str).length = true := by decide +kernel
    simp only [mLoop]
    simp [mSeq, mIfS, mTest, mOp, mVar, mC, mAsg, mRet, gNm, thenG, Rs.bind, Rs.then, ofO, exitF, mCons, mNil, mCall, mNext, mCB, mDrop, turn, mItA, mIt, mFor, sz_lit, e1, oIxS, oCatS, hcp, hz, hz2]
    exact e2
/-- which texts are there -/
theorem inV_str {z : Str} : ∀ ys : List Str, inV (.str z) (ys.map V.str) = decide (z ∈ ys)
  | [] => by simp [inV]
  | y :: ys => by
    have ih := inV_str (z := z) ys
    unfold inV at ih ⊢
    rw [List.map_cons, List.any_cons, ih]
    simp only [eqV, List.mem_cons]
    by_cases e : y = z
    · subst e; simp
    · have e2 : ¬ z = y := fun h => e h.symm
      simp [e, e2]
theorem flats_str : ∀ ys : List Str, flatsD (ys.map .str) = some (ys.map V.str)
  | [] => rfl
  | y :: ys => by simp [flatsD, flatD, flats_str ys]
theorem in_cell {m : Cells} {j : Nat} {z : Str} {ys : List Str} (hj : m[j]? = some (some (.lst (ys.map .str)))) : oIn false m (.d (.str z)) (.ref j) = some (.d (.bl (decide (z ∈ ys)))) := by
  simp [oIn, lstOf, hj, flatD, flats_str, inV_str]
theorem try_loop {m : Cells} {j : Nat} {stem : Str} {ys : List Str} {x0 x2 x3 x5 : Option Vl} (hj : m[j]? = some (some (.lst (ys.map .str)))) (hy : ys.length ≤ 8) (hg : GName 6 stem) : ∀ (d i f : Nat), i + d = 9 → d < f → (∀ t, t < i → tryN stem t ∈ ys) →
    ∃ i' x8, (i' ≤ 9 ∧ tryN stem i' ∉ ys) ∧ mWhile f (mTest (mOp (oIn false) (mVar 6) (mVar 1))) (mSeq (mAsg (mOp oAdd (mVar 7) (mC (.int 1))) (gNm 7)) (mAsg (mOp oCatS (mVar 4) (mCB nStr (mCons (mVar 7) (mNil)))) (gNm 6)))
      [x0, some (.ref j), x2, x3, some (.d (.str stem)), x5, some (.d (.str (tryN stem i))), some (.d (.int (i : Nat)))] m = .nx [x0, some (.ref j), x2, x3, some (.d (.str stem)), x5, some (.d (.str (tryN stem i'))), x8] m
  | d, i, 0, _, h, _ => absurd h (Nat.not_lt_zero d)
  | d, i, f + 1, hi, hf, ht => by
    by_cases hin : tryN stem i ∈ ys
    · cases d with
      | zero =>
        have hi9 : i = 9 := by omega
        subst hi9
        exact absurd (tries_few (k := 8) hy (Nat.le_refl 8) (fun j hj => ht j (by omega))) (by omega)
      | succ d =>
        have ht' : ∀ t, t < i + 1 → tryN stem t ∈ ys := fun t h => by
          by_cases e : t = i
          · subst e; exact hin
          · exact ht t (by omega)
        obtain ⟨i', x8, h1, e⟩ := try_loop (x0 := x0) (x2 := x2) (x3 := x3) (x5 := x5) hj hy hg d (i + 1) f (by omega) (by omega) ht'
        refine ⟨i', x8, h1, ?_⟩
        rw [← e]
        have hn := num_str (n := i + 1) (by omega)
        have hl := hg.ln
        have hz : szOk (stem.length + (Str.ofString (toString ((i : Int) + 1))).length) = true := by
          have e1 : ((i : Int) + 1) = ((i + 1 : Nat) : Int) := by omega
          rw [e1]
          unfold szOk
          exact decide_eq_true (by omega)
        have hlog : ((i : Int) + 1).natAbs.log2 < 1920 := by
          have e1 : ((i : Int) + 1).natAbs = i + 1 := by omega
          rw [e1]
          exact Nat.lt_of_lt_of_le (Nat.log2_lt (by omega) |>.mpr (show i + 1 < 2 ^ 4 by omega)) (by decide)
        have e2 : tryN stem (i + 1) = stem ++ Str.ofString (toString ((i : Int) + 1)) := rfl
        have hz2 : szOk (stem.length + (Str.ofString ((i : Int) + 1).repr).length) = true := hz
        have e3 : tryN stem (i + 1) = stem ++ Str.ofString ((i : Int) + 1).repr := rfl
        simp only [mWhile]
        simp [mSeq, mIfS, mTest, mOp, mVar, mC, mAsg, mRet, gNm, thenG, Rs.bind, Rs.then, ofO, exitF, mCons, mNil, mCall, mNext, mCB, mDrop, turn, mItA, mIt, mFor, sz_lit, in_cell hj, hin, oII, nStr, oCatS, hlog, hz2, e3]
    · refine ⟨i, some (.d (.int (i : Nat))), ⟨by omega, hin⟩, ?_⟩
      simp only [mWhile]
      simp [mSeq, mIfS, mTest, mOp, mVar, mC, mAsg, mRet, gNm, thenG, Rs.bind, Rs.then, ofO, exitF, mCons, mNil, mCall, mNext, mCB, mDrop, turn, mItA, mIt, mFor, sz_lit, in_cell hj, hin]
theorem word11 {i : Int} (h0 : 0 ≤ i) (h1 : i < 10) : ∃ z, atI ([.str "put", .str "any", .str "or", .str "either", .str "rounds", .str "call", .str "mark", .str "names", .str "part", .str "none"] : List Dt) i = some (.str z) ∧ GName 6 z := by
  have : i = 0 ∨ i = 1 ∨ i = 2 ∨ i = 3 ∨ i = 4 ∨ i = 5 ∨ i = 6 ∨ i = 7 ∨ i = 8 ∨ i = 9 := by omega
  rcases this with rfl | rfl | rfl | rfl | rfl | rfl | rfl | rfl | rfl | rfl <;> exact ⟨_, rfl, ⟨⟨_, _, rfl, by decide +kernel, by decide +kernel⟩, by unfold NameCp; decide +kernel, by decide +kernel⟩⟩
theorem name_ok {m : Cells} {k j : Nat} {a b c : Int} {ys : List Str} (hk : m[k]? = some (stC a b c)) (hj : m[j]? = some (some (.lst (ys.map .str)))) (hjk : j ≠ k) (o : Ok3 a b c) (hy : ys.length ≤ 8) :
    ∃ z a' b', FName [.ref k, .ref j] m = .ok (.d (.str z)) (m.set k (stC a' b' c)) ∧ GName 7 z ∧ z ∉ ys ∧ Ok3 a' b' c := by
  obtain ⟨r1, a1, b1, e1, p1, q1, o1⟩ := digit_ok hk o (n := 7) (by decide) (by decide)
  obtain ⟨r2, a2, b2, e2, p2, q2, o2⟩ := digit_ok (set_get hk (y := stC a1 b1 c)) o1 (n := 26) (by decide) (by decide)
  obtain ⟨c0, hc0, g0, g0'⟩ := pick26 p2 q2
  obtain ⟨r3, a3, b3, e3, p3, q3, o3⟩ := digit_ok (set_get hk (y := stC a2 b2 c)) o2 (n := 4) (by decide) (by decide)
  rw [List.set_set] at e2 e3
  have gs : GName 1 (⟨#[c0]⟩ : Str) := ⟨⟨c0, [], rfl, g0, g0'⟩, fun x hx => by simp at hx; subst hx; exact .inl ⟨g0, g0'⟩, Nat.le_refl _⟩
  obtain ⟨a4, b4, stem, x5, e4, g4, o4⟩ := stem_loop (x1 := some (.ref j)) (x3 := some (.d (.int r1))) (x6 := none) (x7 := none) (x5 := none) hk (rangeD 0 r3.toNat) gs (by rw [rangeD_len]; omega) o3
  have hz2 : szOk ("abcdefghijklmnopqrstuvwxyz0123456789" : Str).length = true := by decide +kernel
  have hr : okR r3 = true := by unfold okR; exact decide_eq_true ⟨by omega, by omega⟩
  have fin : ∀ (stem : Str) (a' b' : Int), GName 6 stem → ∃ i' x8, (i' ≤ 9 ∧ tryN stem i' ∉ ys) ∧ mWhile fuel (mTest (mOp (oIn false) (mVar 6) (mVar 1))) (mSeq (mAsg (mOp oAdd (mVar 7) (mC (.int 1))) (gNm 7)) (mAsg (mOp oCatS (mVar 4) (mCB nStr (mCons (mVar 7) (mNil)))) (gNm 6)))
      [some (.ref k), some (.ref j), some (.d (.str "abcdefghijklmnopqrstuvwxyz0123456789")), some (.d (.int r1)), some (.d (.str stem)), x5, some (.d (.str stem)), some (.d (.int 0))] (m.set k (stC a' b' c)) =
      .nx [some (.ref k), some (.ref j), some (.d (.str "abcdefghijklmnopqrstuvwxyz0123456789")), some (.d (.int r1)), some (.d (.str stem)), x5, some (.d (.str (tryN stem i'))), x8] (m.set k (stC a' b' c)) :=
    fun stem a' b' hg => try_loop (by rw [List.getElem?_set_ne (fun h => hjk h.symm)]; exact hj) hy hg 9 0 fuel rfl (by decide) (fun t ht => absurd ht (Nat.not_lt_zero t))
  by_cases h6 : r1 = 6
  · subst h6
    obtain ⟨r5, a5, b5, e5, p5, q5, o5⟩ := digit_ok (set_get hk (y := stC a4 b4 c)) o4 (n := 10) (by decide) (by decide)
    rw [List.set_set] at e5
    obtain ⟨z, hz, gz⟩ := word11 p5 q5
    obtain ⟨i', x8, hi, e6⟩ := fin z a5 b5 gz
    refine ⟨tryN z i', a5, b5, ?_, tryN_good gz hi.1, hi.2, o5⟩
    unfold FName runFn mName
    simp [mSeq, mIfS, mTest, mOp, mVar, mC, mAsg, mRet, gNm, thenG, Rs.bind, Rs.then, ofO, exitF, mCons, mNil, mCall, mNext, mCB, mDrop, turn, mItA, mIt, mFor, sz_lit, e1, e2, e3, oIxS, hz2, hc0, isRng1, hr, e4, oEq, eqF, mLst, dats, oIxL, lstOf, e5, hz, e6, take_set]
  · obtain ⟨i', x8, hi, e6⟩ := fin stem a4 b4 g4
    refine ⟨tryN stem i', a4, b4, ?_, tryN_good g4 hi.1, hi.2, o4⟩
    unfold FName runFn mName
    simp [mSeq, mIfS, mTest, mOp, mVar, mC, mAsg, mRet, gNm, thenG, Rs.bind, Rs.then, ofO, exitF, mCons, mNil, mCall, mNext, mCB, mDrop, turn, mItA, mIt, mFor, sz_lit, e1, e2, e3, oIxS, hz2, hc0, isRng1, hr, e4, oEq, eqF, h6, e6, take_set]
end K31
namespace K31
open PySem PySem.Spec PyProof.Rows L2 FM
/-! ### draws -/
def stX (x : Cell) : Prop := ∃ a b c, x = .lst [.int a, .int b, .int c] ∧ Ok3 a b c
def stOk (m : Cells) (k : Nat) : Prop := ∃ x, m[k]? = some (some x) ∧ stX x
section
variable {m : Cells} {k j : Nat} {Q : Vl → Cells → Prop} {E : EX} {x : Cell} {y : Option Cell}
theorem stOk.lt (h : stOk m k) : k < m.length := by obtain ⟨x, h, _⟩ := h; exact lt_of h
theorem stOk.set (h : stOk m k) (hx : stX x) : stOk (m.set k (some x)) k := by
  obtain ⟨z, h, _⟩ := h; exact ⟨x, set_get h, hx⟩
theorem stOk.app (h : stOk m k) : stOk (m ++ [y]) k := by
  obtain ⟨z, h, hz⟩ := h; exact ⟨z, by rw [List.getElem?_append_left (lt_of h)]; exact h, hz⟩
theorem digit_w {n : Int} (h : stOk m k) (hn : 0 < n) (hn2 : n < 1073741824) (q : ∀ r x, 0 ≤ r → r < n → stX x → Q (.d (.int r)) (m.set k (some x))) : wR (FDigit [.ref k, .d (.int n)] m) Q E := by
  obtain ⟨x, hk, a, b, c, rfl, o⟩ := h
  obtain ⟨r, a', b', e, r0, r1, o'⟩ := digit_ok hk o hn hn2
  exact wR_eq e (q r _ r0 r1 ⟨a', b', c, rfl, o'⟩)
theorem state_w {c : Int} (q : ∀ x, stX x → Q (.ref m.length) (m ++ [some x])) : wR (FState [.d (.int c)] m) Q E := by
  obtain ⟨a, b, d, e, o⟩ := state_ok (m := m) (c := c)
  exact wR_eq e (q _ ⟨a, b, d, rfl, o⟩)
theorem name_w {ys : List Str} (h : stOk m k) (hj : m[j]? = some (some (.lst (ys.map .str)))) (hjk : j ≠ k) (hy : ys.length ≤ 8)
    (q : ∀ z x, GName 7 z → z ∉ ys → stX x → Q (.d (.str z)) (m.set k (some x))) : wR (FName [.ref k, .ref j] m) Q E := by
  obtain ⟨x, hk, a, b, c, rfl, o⟩ := h
  obtain ⟨z, a', b', e, g, ni, o'⟩ := name_ok hk hj hjk o hy
  exact wR_eq e (q z _ g ni ⟨a', b', c, rfl, o'⟩)
theorem set_last {x y : Option Cell} : (m ++ [y]).set m.length x = m ++ [x] := by rw [List.set_append_right _ _ (Nat.le_refl _)]; simp
theorem get_last {y : Option Cell} : (m ++ [y])[m.length]? = some y := by simp
theorem names_w {n : Nat} (hn : n ≤ 8) (h : stOk m k) (q : ∀ (ys : List Str) (x : Cell), ys.length = n → (∀ z ∈ ys, GName 7 z) → ys.Nodup → stX x → Q (.d (.lst (ys.map .str))) (m.set k (some x))) : wR (FNames [.ref k, .d (.int n)] m) Q E := by
  have hk := h.lt
  ((show wR (runFn 2 4 (mNames) _ _) _ _); (refine w_run (g := [_, _, none, none]) (by rfl) rfl ?_); (unfold mNames))
  (refine w_seq (w_asg (w_lstC (w_nil ?_))); ((with_reducible apply w_dats); (focus (first | ((simp only [dats, Option.map_some]); rfl) | rfl))); ((with_reducible refine w_sz ?_ ?_); (focus (first | (simp; done) | (simp; omega)))); ((with_reducible refine w_nm ?_); (try simp only [List.set_cons_succ, List.set_cons_zero])); refine w_seq (w_for (w_itA (w_cons (w_var rfl (w_nil ?_))))))
  refine wo_rng1 ⟨by omega, by omega⟩ ?_
  refine w_loop (fun r g m' => ∃ (ys : List Str) (x : Cell) (x3 : Option Vl), ys.length + r.length = n ∧ (∀ z ∈ ys, GName 7 z) ∧ ys.Nodup ∧ stX x ∧ g = [some (.ref k), some (.d (.int n)), some (.ref m.length), x3] ∧ m' = m.set k (some x) ++ [some (.lst (ys.map .str))]) ?_ ?_ _ _ _ ?_
  · rintro d r g m' ⟨ys, x, x3, h1, h2, h3, h4, rfl, rfl⟩
    rw [List.length_cons] at h1
    (((with_reducible refine w_nm ?_); (try simp only [List.set_cons_succ, List.set_cons_zero])); refine w_drop (w_app (w_var rfl ?_)); ((with_reducible apply w_rl); (focus (first | rfl | assumption | (simp only [lstOf, tupOf, dctOf, seqL, isL, Option.or_none, Option.some_or, Option.none_or, *]; done) | ((simp [lstOf, tupOf, dctOf, seqL, isL, *]); (first | done | rfl))))); refine w_cons (w_call (w_cons (w_var rfl (w_cons (w_var rfl (w_nil ?_)))))))
    refine name_w (ys := ys) (h.set h4).app (by simp) (by omega) (by omega) fun z x' g1 g2 g3 => ?_
    (refine w_nil ?_)
    refine w_ad (ds := ys.map .str) ?_ ?_ ?_
    · simp [hk]
    · simp; omega
    · refine ⟨ys ++ [z], x', some (.d d), by simp; omega, ?_, ?_, g3, rfl, ?_⟩
      · intro w hw
        rcases List.mem_append.mp hw with hw | hw
        · exact h2 w hw
        · rw [List.mem_singleton.mp hw]; exact g1
      · rw [List.nodup_append]
        exact ⟨h3, by simp, fun a ha b hb => by rw [List.mem_singleton.mp hb]; exact fun e => g2 (e ▸ ha)⟩
      · simp [hk]
  · rintro g m' ⟨ys, x, x3, h1, h2, h3, h4, rfl, rfl⟩
    (refine w_ret (w_frzL (w_var rfl ?_)); ((with_reducible apply w_rl); (focus (first | rfl | assumption | (simp only [lstOf, tupOf, dctOf, seqL, isL, Option.or_none, Option.some_or, Option.none_or, *]; done) | ((simp [lstOf, tupOf, dctOf, seqL, isL, *]); (first | done | rfl))))); refine w_Xd ?_)
    have e : ((m.set k (some x) ++ [some (Cell.lst (ys.map Dt.str))]).set m.length none).take m.length = m.set k (some x) := by simp
    rw [e]
    exact q ys x (by simpa using h1) h2 h3 h4
  · obtain ⟨x, e, hx⟩ := h
    refine ⟨[], x, none, by simp [rng_len], (fun z hz => by cases hz), List.nodup_nil, hx, rfl, ?_⟩
    obtain ⟨h1, h2⟩ := List.getElem?_eq_some_iff.mp e
    simp [← h2]
end
end K31
namespace K31
open PySem PySem.Spec PyProof.Rows L2 FM
/-! ### rows of keys, and rings among them -/
abbrev Lat := Str → List Str
def ext (S p : List Str) : List (List Str) := (S.filter fun k => decide (k ∉ p)).map fun k => p ++ [k]
def itr (S : List Str) : Nat → List (List Str) → List (List Str)
  | 0, L => L
  | n + 1, L => itr S n (L.flatMap (ext S))
def rowsFrom (S : List Str) : Nat → List Str → List (List Str)
  | 0, p => [p]
  | n + 1, p => (ext S p).flatMap (rowsFrom S n)
theorem itr_from {S : List Str} : ∀ (n : Nat) (L : List (List Str)), itr S n L = L.flatMap (rowsFrom S n)
  | 0, L => by
    show L = L.flatMap fun p => [p]
    induction L with
    | nil => rfl
    | cons a L ih => rw [List.flatMap_cons, ← ih]; rfl
  | n + 1, L => by
    unfold itr
    rw [itr_from n, List.flatMap_assoc]
    rfl
/-- each leads to the next -/
def chn (lat : Lat) : List Str → Bool
  | a :: b :: r => decide (b ∈ lat a) && chn lat (b :: r)
  | _ => true
def ringB (lat : Lat) : List Str → Bool
  | [] => false
  | h :: t => chn lat (h :: t ++ [h]) && t.all fun x => !ltS x h
theorem chn_pre {lat : Lat} : ∀ {a b : List Str}, chn lat (a ++ b) = true → chn lat a = true
  | [], _, _ => rfl
  | [x], _, _ => rfl
  | x :: y :: r, b, h => by
    rw [List.cons_append, List.cons_append] at h
    unfold chn at h ⊢
    rw [Bool.and_eq_true] at h ⊢
    exact ⟨h.1, chn_pre (a := y :: r) h.2⟩
theorem chn_one {lat : Lat} : ∀ {h : Str} {t : List Str} {x : Str}, chn lat (h :: t ++ [x]) = (chn lat (h :: t) && decide (x ∈ lat ((h :: t).getLastD "")))
  | h, [], x => by rw [show chn lat ([h] ++ [x]) = (decide (x ∈ lat h) && true) from rfl, Bool.and_true]; rfl
  | h, y :: r, x => by
    have ih := chn_one (lat := lat) (h := y) (t := r) (x := x)
    rw [List.cons_append, List.cons_append, show chn lat (h :: y :: (r ++ [x])) = (decide (y ∈ lat h) && chn lat (y :: r ++ [x])) from rfl, ih, show chn lat (h :: y :: r) = (decide (y ∈ lat h) && chn lat (y :: r)) from rfl, Bool.and_assoc]
    rfl
/-! ### the search -/
def cand (S : List Str) (lat : Lat) (p : List Str) : List Str := (sortU ((lat (p.getLastD "")).filter fun k => decide (k ∈ S))).filter fun k => ltS (p.headD "") k && decide (k ∉ p)
def thr (S : List Str) (lat : Lat) : Nat → List Str → Option (List Str)
  | 0, p => if p.headD "" ∈ (lat (p.getLastD "")).filter (fun k => decide (k ∈ S)) then some p else none
  | n + 1, p => (cand S lat p).findSome? fun k => thr S lat n (p ++ [k])
structure Good (S : List Str) (lat : Lat) (h : Str) (t : List Str) : Prop where
  c : chn lat (h :: t) = true
  lt : ∀ x ∈ t, ltS h x = true
  s : ∀ x ∈ h :: t, x ∈ S
theorem Good.one {S : List Str} {lat : Lat} {h : Str} (hs : h ∈ S) : Good S lat h [] := ⟨rfl, by simp, by simp [hs]⟩
theorem Good.app {S : List Str} {lat : Lat} {h k : Str} {t : List Str} (g : Good S lat h t) (hk : k ∈ S) (ha : k ∈ lat ((h :: t).getLastD "")) (hl : ltS h k = true) : Good S lat h (t ++ [k]) := by
  refine ⟨?_, ?_, ?_⟩
  · rw [← List.cons_append, chn_one, g.c, Bool.true_and]; exact decide_eq_true ha
  · intro x hx
    rcases List.mem_append.mp hx with hx | hx
    · exact g.lt x hx
    · rw [List.mem_singleton.mp hx]; exact hl
  · intro x hx
    rw [← List.cons_append] at hx
    rcases List.mem_append.mp hx with hx | hx
    · exact g.s x hx
    · rw [List.mem_singleton.mp hx]; exact hk
theorem rows_pre {S : List Str} : ∀ {n : Nat} {p row : List Str}, row ∈ rowsFrom S n p → ∃ s, row = p ++ s
  | 0, p, row, h => ⟨[], by rw [List.append_nil]; exact List.mem_singleton.mp h⟩
  | n + 1, p, row, h => by
    obtain ⟨q, hq, h⟩ := List.mem_flatMap.mp h
    obtain ⟨k, _, rfl⟩ := List.mem_map.mp hq
    obtain ⟨s, e⟩ := rows_pre h
    exact ⟨k :: s, by rw [e, List.append_assoc]; rfl⟩
theorem findSome_filter {α β : Type} {g : α → Option β} {c : α → Bool} : ∀ {l : List α}, (∀ x ∈ l, c x = false → g x = none) → l.findSome? g = (l.filter c).findSome? g
  | [], _ => rfl
  | x :: l, h => by
    have ih := findSome_filter (l := l) fun y hy => h y (List.mem_cons_of_mem _ hy)
    cases hc : c x with
    | false => rw [List.filter_cons_of_neg (by rw [hc]; decide), List.findSome?_cons, h x (by simp) hc]; exact ih
    | true => rw [List.filter_cons_of_pos hc, List.findSome?_cons, List.findSome?_cons, ih]
theorem findSome_congr {α β : Type} {f g : α → Option β} : ∀ {l : List α}, (∀ x ∈ l, f x = g x) → l.findSome? f = l.findSome? g
  | [], _ => rfl
  | x :: l, h => by
    rw [List.findSome?_cons, List.findSome?_cons, h x (by simp), findSome_congr fun y hy => h y (List.mem_cons_of_mem _ hy)]
theorem ring_bad {S : List Str} {lat : Lat} {n : Nat} {h k : Str} {t : List Str} (hk : ¬ (k ∈ lat ((h :: t).getLastD "") ∧ ltS h k = true)) (ne : k ≠ h) : (rowsFrom S n (h :: t ++ [k])).find? (ringB lat) = none := by
  refine List.find?_eq_none.mpr fun row hr hb => hk ?_
  obtain ⟨s, rfl⟩ := rows_pre hr
  rw [List.cons_append, List.cons_append] at hb
  unfold ringB at hb
  rw [Bool.and_eq_true] at hb
  refine ⟨?_, ?_⟩
  · have c1 : chn lat ((h :: t ++ [k]) ++ (s ++ [h])) = true := by simpa using hb.1
    have c2 := chn_pre c1
    rw [chn_one, Bool.and_eq_true] at c2
    exact of_decide_eq_true c2.2
  · have := List.all_eq_true.mp hb.2 k (by simp)
    exact ltS_tot ne (by simpa using this)
theorem rise_filter {S : List Str} {c : Str → Bool} (h : Rise S) : Rise (S.filter c) := List.Pairwise.filter _ h
theorem thr_eq {S : List Str} {lat : Lat} (hS : Rise S) : ∀ (n : Nat) {h : Str} {t : List Str}, Good S lat h t → (rowsFrom S n (h :: t)).find? (ringB lat) = thr S lat n (h :: t)
  | 0, h, t, g => by
    show [h :: t].find? (ringB lat) = _
    have e : ringB lat (h :: t) = decide (h ∈ (lat ((h :: t).getLastD "")).filter fun k => decide (k ∈ S)) := by
      rw [show ringB lat (h :: t) = (chn lat (h :: t ++ [h]) && t.all fun x => !ltS x h) from rfl, chn_one, g.c, Bool.true_and]
      have e1 : (t.all fun x => !ltS x h) = true := List.all_eq_true.mpr fun x hx => by
        cases hx2 : ltS x h with
        | false => rfl
        | true => have := ltS_tr (g.lt x hx) hx2; rw [ltS_irr] at this; cases this
      rw [e1, Bool.and_true]
      have hs := g.s h (by simp)
      simp [hs]
    unfold thr
    rw [List.find?_cons, e]
    by_cases hh : h ∈ (lat ((h :: t).getLastD "")).filter fun k => decide (k ∈ S)
    · have hh2 : (h :: t).headD "" ∈ (lat ((h :: t).getLastD "")).filter fun k => decide (k ∈ S) := hh
      rw [if_pos hh2, decide_eq_true hh]
    · have hh2 : ¬ (h :: t).headD "" ∈ (lat ((h :: t).getLastD "")).filter fun k => decide (k ∈ S) := hh
      rw [if_neg hh2, decide_eq_false hh]; rfl
  | n + 1, h, t, g => by
    unfold rowsFrom thr ext
    rw [List.find?_flatMap, List.findSome?_map]
    rw [findSome_filter (c := fun k => decide (k ∈ lat ((h :: t).getLastD "")) && ltS h k)]
    · have e : ((S.filter fun k => decide (k ∉ h :: t)).filter fun k => decide (k ∈ lat ((h :: t).getLastD "")) && ltS h k) = cand S lat (h :: t) := by
        refine rise_eq (rise_filter (rise_filter hS)) (rise_filter rise_sortU) fun k => ?_
        unfold cand
        simp only [List.mem_filter, mem_sortU, Bool.and_eq_true, decide_eq_true_eq, List.headD_cons]
        exact ⟨fun ⟨⟨a, b⟩, c, d⟩ => ⟨⟨c, a⟩, d, b⟩, fun ⟨⟨c, a⟩, d, b⟩ => ⟨⟨a, b⟩, c, d⟩⟩
      rw [e]
      refine findSome_congr fun k hk => ?_
      unfold cand at hk
      simp only [List.mem_filter, mem_sortU, Bool.and_eq_true, decide_eq_true_eq, List.headD_cons] at hk
      exact thr_eq hS n (h := h) (t := t ++ [k]) (g.app hk.1.2 hk.1.1 hk.2.1)
    · intro k hk hc
      obtain ⟨_, hk⟩ := List.mem_filter.mp hk
      have hk := of_decide_eq_true hk
      refine ring_bad (fun ⟨a, b⟩ => ?_) (fun e => hk (by simp [e]))
      rw [decide_eq_true a, b] at hc
      cases hc
/-- all rows of so many keys -/
theorem rows_find {S : List Str} {lat : Lat} (hS : Rise S) (n : Nat) : (itr S (n + 1) [[]]).find? (ringB lat) = S.findSome? fun k => thr S lat n [k] := by
  rw [itr_from, List.flatMap_cons, List.flatMap_nil, List.append_nil]
  unfold rowsFrom ext
  rw [List.find?_flatMap, List.findSome?_map]
  have e : (S.filter fun k => decide (k ∉ ([] : List Str))) = S := List.filter_eq_self.mpr fun k _ => decide_eq_true (by simp)
  rw [e]
  exact findSome_congr fun k hk => thr_eq hS n (Good.one hk)
def ringF (S : List Str) (lat : Lat) (n : Nat) : Option (List Str) := (List.range n).findSome? fun i => S.findSome? fun k => thr S lat i [k]
/-! ### what is found is of the keys, each once -/
theorem thr_mem {S : List Str} {lat : Lat} : ∀ {n : Nat} {p r : List Str}, (∀ x ∈ p, x ∈ S) → thr S lat n p = some r → ∀ x ∈ r, x ∈ S
  | 0, p, r, hp, h => by
    unfold thr at h
    split at h
    · cases h; exact hp
    · cases h
  | n + 1, p, r, hp, h => by
    unfold thr at h
    obtain ⟨k, hk, h⟩ := List.exists_of_findSome?_eq_some h
    refine thr_mem (n := n) (p := p ++ [k]) (fun x hx => ?_) h
    rcases List.mem_append.mp hx with hx | hx
    · exact hp x hx
    · rw [List.mem_singleton.mp hx]
      unfold cand at hk
      have := (List.mem_filter.mp hk).1
      exact of_decide_eq_true (List.mem_filter.mp (mem_sortU.mp this)).2
theorem ringF_mem {S : List Str} {lat : Lat} {n : Nat} {r : List Str} (h : ringF S lat n = some r) : ∀ x ∈ r, x ∈ S := by
  obtain ⟨i, _, h⟩ := List.exists_of_findSome?_eq_some h
  obtain ⟨k, hk, h⟩ := List.exists_of_findSome?_eq_some h
  exact thr_mem (by simp [hk]) h
end K31
namespace K31
open PySem PySem.Spec PyProof.Rows L2 FM
/-! ### records -/
abbrev Rec := List Str × List (List Str)
def own (rs : List Rec) : List Str := rs.flatMap (·.1)
def prs (rs : List Rec) : List (Str × List Str) := rs.flatMap fun r => r.1.zip r.2
def look (P : List (Str × List Str)) (k : Str) : Option (List Str) := (P.find? fun q => decide (q.1 = k)).map (·.2)
def latP (P : List (Str × List Str)) : Lat := fun k => (look P k).getD []
def cntS (k : Str) (xs : List Str) : Nat := xs.countP fun z => decide (z = k)
def dups (xs : List Str) : List Str := xs.filter fun k => decide (1 < cntS k xs)
def ringD : Option (List Str) → Dt
  | some r => .tup [.str "ring", .tup (r.map .str)]
  | none => .non
def twD : List Str → Option Dt
  | z :: _ => some (.tup [.str "twice", .str z])
  | [] => none
def dueD (rs : List Rec) : Dt := (twD (sortU (dups (own rs)))).getD (ringD (ringF (sortW (own rs)) (latP (prs rs)) (own rs).length))
theorem cntS_perm {k : Str} {xs ys : List Str} (h : xs.Perm ys) : cntS k xs = cntS k ys := h.countP_eq _
theorem cntS_pos {k : Str} {xs : List Str} (h : 0 < cntS k xs) : k ∈ xs := by
  obtain ⟨z, hz, e⟩ := List.countP_pos_iff.mp h
  rw [← of_decide_eq_true e]; exact hz
theorem mem_dups {k : Str} {xs : List Str} : k ∈ dups xs ↔ 1 < cntS k xs := by
  unfold dups
  rw [List.mem_filter]
  exact ⟨fun h => of_decide_eq_true h.2, fun h => ⟨cntS_pos (by omega), decide_eq_true h⟩⟩
theorem nodup_cnt : ∀ {xs : List Str}, (∀ k, cntS k xs ≤ 1) → xs.Nodup
  | [], _ => List.nodup_nil
  | x :: r, h => by
    refine List.nodup_cons.mpr ⟨fun hx => ?_, nodup_cnt fun k => ?_⟩
    · have h1 := h x
      unfold cntS at h1
      rw [List.countP_cons_of_pos (by simp)] at h1
      have : 0 < r.countP fun z => decide (z = x) := List.countP_pos_iff.mpr ⟨x, hx, by simp⟩
      omega
    · refine Nat.le_trans ?_ (h k)
      unfold cntS
      rw [List.countP_cons]
      omega
theorem nodup_of {xs : List Str} (h : sortU (dups xs) = []) : xs.Nodup := nodup_cnt fun k => by
  have : k ∉ dups xs := fun hk => by have := mem_sortU.mpr hk; rw [h] at this; cases this
  rw [mem_dups] at this
  omega
theorem look_mem : ∀ {P : List (Str × List Str)} {k : Str} {v : List Str}, (P.map (·.1)).Nodup → (k, v) ∈ P → look P k = some v
  | [], _, _, _, h => by cases h
  | q :: P, k, v, nd, h => by
    rw [List.map_cons] at nd
    have nd := List.nodup_cons.mp nd
    unfold look
    by_cases e : q.1 = k
    · rw [List.find?_cons, decide_eq_true e]
      rcases List.mem_cons.mp h with h | h
      · subst h; rfl
      · exact absurd (List.mem_map.mpr ⟨_, h, rfl⟩) (by rw [e] at nd; exact nd.1)
    · rw [List.find?_cons, decide_eq_false e]
      rcases List.mem_cons.mp h with h | h
      · subst h; exact absurd rfl e
      · exact look_mem nd.2 h
theorem look_some {P : List (Str × List Str)} {k : Str} {v : List Str} (h : look P k = some v) : (k, v) ∈ P := by
  unfold look at h
  obtain ⟨q, hq, rfl⟩ := Option.map_eq_some_iff.mp h
  have h1 := List.mem_of_find?_eq_some hq
  have h2 := List.find?_some hq
  rw [← of_decide_eq_true h2]; exact h1
theorem look_perm {P P' : List (Str × List Str)} {k : Str} (h : P.Perm P') (nd : (P.map (·.1)).Nodup) : look P k = look P' k := by
  have nd' : (P'.map (·.1)).Nodup := (h.map _).nodup_iff.mp nd
  cases e : look P k with
  | some v => exact (look_mem nd' (h.mem_iff.mp (look_some e))).symm
  | none =>
    cases e' : look P' k with
    | none => rfl
    | some v => have := look_mem nd (h.mem_iff.mpr (look_some e')); rw [e] at this; cases this
theorem zip_keys : ∀ {a : List Str} {b : List (List Str)}, a.length = b.length → (a.zip b).map (·.1) = a
  | [], _, _ => rfl
  | x :: a, [], h => by simp at h
  | x :: a, y :: b, h => by
    rw [List.zip_cons_cons, List.map_cons, zip_keys (by simpa using h)]
theorem prs_keys : ∀ {rs : List Rec}, (∀ r ∈ rs, r.1.length = r.2.length) → (prs rs).map (·.1) = own rs
  | [], _ => rfl
  | r :: rs, h => by
    have ih := prs_keys (rs := rs) fun x hx => h x (List.mem_cons_of_mem _ hx)
    unfold prs own at ih ⊢
    rw [List.flatMap_cons, List.flatMap_cons, List.map_append, ih, zip_keys (h r (by simp))]
theorem sortW_eq {xs ys : List Str} (h : xs.Perm ys) : sortW xs = sortW ys :=
  riseW_eq (sortW_rise _) (sortW_rise _) ((sortW_perm xs).trans (h.trans (sortW_perm ys).symm))
theorem dueD_perm {rs rs' : List Rec} (h : rs.Perm rs') (ok : ∀ r ∈ rs, r.1.length = r.2.length) : dueD rs = dueD rs' := by
  have ho : (own rs).Perm (own rs') := h.flatMap_right _
  have hp : (prs rs).Perm (prs rs') := h.flatMap_right _
  have hd : sortU (dups (own rs)) = sortU (dups (own rs')) := sortU_eq fun z => by rw [mem_dups, mem_dups, cntS_perm ho]
  unfold dueD
  cases e : sortU (dups (own rs)) with
  | cons z r => rw [← hd, e]; rfl
  | nil =>
    rw [← hd, e]
    have nd := nodup_of e
    have el : latP (prs rs) = latP (prs rs') := funext fun k => by
      unfold latP
      rw [look_perm hp (by rw [prs_keys ok]; exact nd)]
    rw [sortW_eq ho, el, ho.length_eq]
/-! ### the order of the keys -/
theorem mem_sortW {k : Str} {xs : List Str} : k ∈ sortW xs ↔ k ∈ xs := (sortW_perm xs).mem_iff
theorem rise_sortW {xs : List Str} (nd : xs.Nodup) : Rise (sortW xs) := by
  have h1 := sortW_rise xs
  have h2 : (sortW xs).Nodup := (sortW_perm xs).nodup_iff.mpr nd
  exact List.Pairwise.imp₂ (fun a b p q => ltS_tot (fun e => q e.symm) p) h1 h2
theorem head_sort {xs : List Str} : (sortW xs).head? = (sortU xs).head? := by
  cases e : sortW xs with
  | nil =>
    have : xs = [] := List.eq_nil_iff_forall_not_mem.mpr fun z hz => by have := mem_sortW.mpr hz; rw [e] at this; cases this
    subst this; rfl
  | cons a r =>
    cases e' : sortU xs with
    | nil =>
      have : a ∈ sortU xs := mem_sortU.mpr (mem_sortW.mp (by rw [e]; simp))
      rw [e'] at this; cases this
    | cons b r' =>
      have h1 := sortW_rise xs
      have h2 : Rise (sortU xs) := rise_sortU
      rw [e] at h1
      rw [e'] at h2
      have ha : a ∈ xs := mem_sortW.mp (by rw [e]; simp)
      have hb : b ∈ xs := mem_sortU.mp (by rw [e']; simp)
      rw [List.head?_cons, List.head?_cons]
      refine congrArg some (min_uniq ha hb (fun y hy => ?_) (fun y hy => ?_))
      · have hy := mem_sortW.mpr hy
        rw [e] at hy
        rcases List.mem_cons.mp hy with rfl | hy
        · exact ltS_irr
        · exact (List.pairwise_cons.mp h1).1 y hy
      · have hy := mem_sortU.mpr hy
        rw [e'] at hy
        rcases List.mem_cons.mp hy with rfl | hy
        · exact ltS_irr
        · cases h3 : ltS y b with
          | false => rfl
          | true => have := ltS_tr h3 ((List.pairwise_cons.mp h2).1 y hy); rw [ltS_irr] at this; cases this
end K31
namespace K31
open PySem PySem.Spec PyProof.Rows L2 FM
theorem wo_neg {m : Cells} {i : Int} {P : Vl → Prop} (q : P (.d (.int (-i)))) : wO (oNeg m (.d (.int i))) P := wO_eq rfl q
theorem in_list {m : Cells} {z : Str} {ys : List Str} {neg : Bool} {Q : Vl → Prop} (q : Q (.d (.bl (neg != decide (z ∈ ys))))) : wO (oIn neg m (.d (.str z)) (.d (.lst (ys.map .str)))) Q :=
  wO_eq (by cases neg <;> simp [oIn, lstOf, flatD, flats_str, inV_str]) q
theorem in_tup {m : Cells} {z : Str} {ys : List Str} {neg : Bool} {Q : Vl → Prop} (q : Q (.d (.bl (neg != decide (z ∈ ys))))) : wO (oIn neg m (.d (.str z)) (.d (.tup (ys.map .str)))) Q :=
  wO_eq (by cases neg <;> simp [oIn, lstOf, tupOf, flatD, flats_str, inV_str]) q
theorem atI_last {h : Str} {t : List Str} : atI ((h :: t).map Dt.str) (-1) = some (.str ((h :: t).getLastD "")) := by
  unfold atI ixN
  rw [List.length_map, List.length_cons]
  rw [if_neg (by omega), if_pos (by omega)]
  rw [Option.bind_some, List.getElem?_map]
  have e : (-1 + ((t.length + 1 : Nat) : Int)).toNat = t.length := by omega
  rw [e, List.getLastD_eq_getLast?, List.getLast?_eq_getElem?]
  simp
theorem atI_head {h : Str} {t : List Str} : atI ((h :: t).map Dt.str) 0 = some (.str h) := by
  unfold atI ixN
  rw [List.length_map, List.length_cons]
  rw [if_pos (by omega), if_pos (by omega)]
  rfl
theorem get_look {f : List Str → Dt} {k : Str} {v : List Str} : ∀ {P : List (Str × List Str)}, look P k = some v → dGet (P.map fun q => .inr q.1) (P.map fun q => f q.2) (.inr k) = some (f v)
  | [], h => by cases h
  | q :: P, h => by
    unfold look at h
    rw [List.map_cons, List.map_cons]
    unfold dGet
    by_cases e : q.1 = k
    · rw [List.find?_cons, decide_eq_true e] at h
      injection h with h
      subst h e
      simp
    · rw [List.find?_cons, decide_eq_false e] at h
      have : ¬ ((Sum.inr q.1 : L2.Key) = .inr k) := fun z => e (by injection z)
      rw [if_neg this]
      exact get_look h
def arD (xs : List Str) (P : List (Str × List Str)) : Dt := .dct (P.map fun q => .inr q.1) (P.map fun q => .lst ((q.2.filter fun k => decide (k ∈ xs)).map .str))
def optT : Option (List Str) → Dt
  | some r => .tup (r.map .str)
  | none => .non
theorem look_in {P : List (Str × List Str)} {k : Str} (h : k ∈ P.map (·.1)) (nd : (P.map (·.1)).Nodup) : ∃ v, look P k = some v ∧ (k, v) ∈ P := by
  obtain ⟨q, hq, rfl⟩ := List.mem_map.mp h
  exact ⟨q.2, look_mem nd hq, hq⟩
theorem gtS_lt {a b : Str} : gtS a b = ltS b a := by
  unfold gtS
  cases h : ltS b a with
  | true => exact decide_eq_true (ltS_iff.mp h)
  | false => exact decide_eq_false fun z => by rw [ltS_iff.mpr z] at h; cases h
theorem thr_goals {xs : List Str} {P : List (Str × List Str)} {k : Str} {v : List Str} (h : look P k = some v) : (latP P k).filter (fun z => decide (z ∈ sortW xs)) = v.filter fun z => decide (z ∈ xs) := by
  unfold latP
  rw [h, Option.getD_some]
  exact List.filter_congr fun z _ => by rw [decide_eq_decide]; exact mem_sortW
section
variable {m : Cells} {Q : Vl → Cells → Prop} {E : EX} {P : List (Str × List Str)} {xs : List Str}
theorem through_w (hP : P.map (·.1) = xs) (nd : xs.Nodup) (hv : ∀ q ∈ P, q.2.length ≤ 20) : ∀ (d n : Nat) (h : Str) (t : List Str) {m : Cells} {Q : Vl → Cells → Prop} {E : EX}, n < d → (∀ x ∈ h :: t, x ∈ xs) → t.length + n ≤ 40 → Q (.d (optT (thr (sortW xs) (latP P) n (h :: t)))) m →
    wR (thrN d [.d (arD xs P), .d (.tup ((h :: t).map .str)), .d (.int ((t.length + 1 + n : Nat) : Int))] m) Q E
  | 0, n, h, t, m, Q, E, hn, _, _, _ => absurd hn (Nat.not_lt_zero n)
  | d + 1, n, h, t, m, Q, E, hn, hx, hl, q => by
    have hlast : (h :: t).getLastD "" ∈ xs := hx _ (by rw [List.getLastD_cons]; exact List.getLastD_mem_cons)
    obtain ⟨v, hlk, hmem⟩ := look_in (P := P) (by rw [hP]; exact hlast) (by rw [hP]; exact nd)
    have hvl : v.length ≤ 20 := hv _ hmem
    have hg := thr_goals (xs := xs) hlk
    show wR (FThrough (thrN d) _ _) _ _
    ((show wR (runFn 3 6 (mThrough (thrN d)) _ _) _ _); (refine w_run (g := [_, _, _, none, none, none]) (by rfl) rfl ?_); (unfold mThrough))
    (refine w_seq (w_asg (w_op (w_var rfl (w_op (w_var rfl (w_un (w_c ?_))))))))
    refine wo_neg ?_
    refine wo_ixT atI_last ?_
    refine wo_dget (k := .inr ((h :: t).getLastD "")) rfl rfl (get_look (f := fun v => .lst ((v.filter fun k => decide (k ∈ xs)).map .str)) hlk) ?_
    (((with_reducible refine w_nm ?_); (try simp only [List.set_cons_succ, List.set_cons_zero])); refine w_seq (w_if (w_test (w_op (w_cb (w_cons (w_var rfl (w_nil ?_))))))); ((with_reducible apply wo_len); (focus (first | rfl | assumption | (simp only [lstOf, tupOf, dctOf, seqL, isL, Option.or_none, Option.some_or, Option.none_or, *]; done) | ((simp [lstOf, tupOf, dctOf, seqL, isL, *]); (first | done | rfl))))); refine w_var rfl (wo_eqI (w_B ?_)))
    cases n with
    | zero =>
      refine ⟨fun _ => ?_, fun hf => ?_⟩
      · (refine w_seq (w_if (w_test (w_op (w_op (w_var rfl (w_c ?_)))))))
        refine wo_ixT atI_head ?_
        (refine w_var rfl ?_)
        refine in_list ?_
        have e : thr (sortW xs) (latP P) 0 (h :: t) = if h ∈ v.filter (fun k => decide (k ∈ xs)) then some (h :: t) else none := by
          show (if h ∈ (latP P ((h :: t).getLastD "")).filter (fun z => decide (z ∈ sortW xs)) then some (h :: t) else none) = _
          rw [hg]
        rw [e] at q
        (refine w_B ?_)
        by_cases hh : h ∈ v.filter fun k => decide (k ∈ xs)
        · rw [if_pos hh] at q
          rw [decide_eq_true hh]
          refine ⟨fun _ => ?_, fun hf => (by cases hf)⟩
          (refine w_ret (w_var rfl (w_Xd ?_)))
          rw [List.take_length]
          exact q
        · rw [if_neg hh] at q
          rw [decide_eq_false hh]
          refine ⟨fun hf => (by cases hf), fun _ => ?_⟩
          (refine w_next (w_ret (w_c (w_Xd ?_))))
          rw [List.take_length]
          exact q
      · exfalso
        simp at hf
    | succ n =>
      refine ⟨fun hf => ?_, fun _ => ?_⟩
      · exfalso
        simp at hf
        omega
      (refine w_next (w_seq (w_for (w_it (w_sortL (w_var rfl ?_))))))
      refine ⟨_, rfl, Nat.lt_of_le_of_lt (List.length_filter_le _ _) (by omega), ?_⟩
      (refine wo_lst ?_)
      have e : thr (sortW xs) (latP P) (n + 1) (h :: t) = ((sortU (v.filter fun k => decide (k ∈ xs))).filter fun k => ltS h k && decide (k ∉ h :: t)).findSome? fun k => thr (sortW xs) (latP P) n (h :: t ++ [k]) := by
        show (cand (sortW xs) (latP P) (h :: t)).findSome? _ = _
        unfold cand
        rw [hg]
        rfl
      rw [e] at q
      have hmem2 : ∀ k ∈ sortU (v.filter fun k => decide (k ∈ xs)), k ∈ xs := fun k hk => of_decide_eq_true (List.mem_filter.mp (mem_sortU.mp hk)).2
      generalize sortU (v.filter fun k => decide (k ∈ xs)) = b0 at q hmem2 ⊢
      refine w_loop (fun r g m' => ∃ (b : List Str) (y4 y5 : Option Vl), r = b.map .str ∧ (∀ k ∈ b, k ∈ xs) ∧ Q (.d (optT ((b.filter fun k => ltS h k && decide (k ∉ h :: t)).findSome? fun k => thr (sortW xs) (latP P) n (h :: t ++ [k])))) m ∧ m' = m ∧ g = [some (.d (arD xs P)), some (.d (.tup ((h :: t).map .str))), some (.d (.int ((t.length + 1 + (n + 1) : Nat) : Int))), some (.d (.lst ((v.filter fun k => decide (k ∈ xs)).map .str))), y4, y5]) ?_ ?_ _ _ _ ⟨b0, none, none, rfl, hmem2, q, rfl, rfl⟩
      · rintro d' r g m' ⟨b, y4, y5, e1, hb, q, rfl, rfl⟩
        cases b with
        | nil => simp at e1
        | cons k b =>
        simp only [List.map_cons, List.cons.injEq] at e1
        obtain ⟨rfl, rfl⟩ := e1
        (((with_reducible refine w_nm ?_); (try simp only [List.set_cons_succ, List.set_cons_zero])); refine w_if (w_and (w_test (w_op (w_var rfl (w_op (w_var rfl (w_c ?_))))))))
        refine wo_ixT atI_head ?_
        refine wo_sb ?_
        rw [gtS_lt]
        (refine w_B ?_)
        have IH : ∀ {m : Cells} {Q : Vl → Cells → Prop} {E : EX}, Q (.d (optT (thr (sortW xs) (latP P) n (h :: t ++ [k])))) m → wR (thrN d [.d (arD xs P), .d (.tup ((h :: t).map Dt.str ++ [Dt.str k])), .d (.int ((t.length + 1 + (n + 1) : Nat) : Int))] m) Q E := fun {m Q E} q => by
          rw [show (h :: t).map Dt.str ++ [Dt.str k] = (h :: (t ++ [k])).map Dt.str by simp, show ((t.length + 1 + (n + 1) : Nat) : Int) = (((t ++ [k]).length + 1 + n : Nat) : Int) by simp; omega]
          exact through_w hP nd hv d n h (t ++ [k]) (by omega) (fun x hx' => by
            rw [← List.cons_append] at hx'
            rcases List.mem_append.mp hx' with hx' | hx'
            · exact hx x hx'
            · rw [List.mem_singleton.mp hx']; exact hb k (by simp)) (by simp; omega) q
        have step : ¬ (ltS h k = true ∧ k ∉ h :: t) → Q (.d (optT ((b.filter fun k => ltS h k && decide (k ∉ h :: t)).findSome? fun k => thr (sortW xs) (latP P) n (h :: t ++ [k])))) m' := fun hn => by
          have hc : ¬ ((ltS h k && decide (k ∉ h :: t)) = true) := fun hz => by
            rw [Bool.and_eq_true] at hz
            exact hn ⟨hz.1, of_decide_eq_true hz.2⟩
          rw [List.filter_cons_of_neg (p := fun k => ltS h k && decide (k ∉ h :: t)) hc] at q
          exact q
        have hb' : ∀ k ∈ b, k ∈ xs := fun z hz => hb z (List.mem_cons_of_mem _ hz)
        refine ⟨fun h1 => ?_, fun h1 => ?_⟩
        · (refine w_test (w_op (w_var rfl (w_var rfl ?_))))
          refine in_tup ?_
          (refine w_B ?_)
          refine ⟨fun h2 => ?_, fun h2 => ?_⟩
          · have h3 : k ∉ h :: t := fun hz => by rw [decide_eq_true hz] at h2; cases h2
            rw [List.filter_cons_of_pos (p := fun k => ltS h k && decide (k ∉ h :: t)) (by show (ltS h k && decide (k ∉ h :: t)) = true; rw [h1, decide_eq_true h3]; rfl), List.findSome?_cons] at q
            (refine w_seq (w_asg (w_call (w_cons (w_var rfl (w_cons (w_op (w_var rfl (w_tup (w_cons (w_var rfl (w_nil ?_))))))))))); ((with_reducible apply w_dats); (focus (first | ((simp only [dats, Option.map_some]); rfl) | rfl))); ((with_reducible refine w_sz ?_ ?_); (focus (first | (simp; done) | (simp; omega)))))
            refine wo_catT (by simp; omega) ?_
            (refine w_cons (w_var rfl (w_nil ?_)))
            refine IH ?_
            cases er : thr (sortW xs) (latP P) n (h :: t ++ [k]) with
            | some r =>
              rw [er] at q
              (((with_reducible refine w_nm ?_); (try simp only [List.set_cons_succ, List.set_cons_zero])); refine w_if (w_test (w_op (w_var rfl (w_c ?_)))); ((with_reducible apply wo_isNf); (focus (first | rfl | assumption | (simp only [lstOf, tupOf, dctOf, seqL, isL, Option.or_none, Option.some_or, Option.none_or, *]; done) | ((simp [lstOf, tupOf, dctOf, seqL, isL, *]); (first | done | rfl))))); refine w_B (w_tt (w_ret (w_var rfl (w_Xd ?_)))))
              rw [List.take_length]
              exact q
            | none =>
              rw [er] at q
              (((with_reducible refine w_nm ?_); (try simp only [List.set_cons_succ, List.set_cons_zero])); refine w_if (w_test (w_op (w_var rfl (w_c (wo_isN (w_B ?_)))))))
              refine ⟨fun hf => (by cases hf), fun _ => ?_⟩
              refine w_next ?_
              exact ⟨b, _, _, rfl, hb', q, rfl, rfl⟩
          · refine w_next ?_
            refine ⟨b, _, _, rfl, hb', step fun hz => ?_, rfl, rfl⟩
            rw [decide_eq_false hz.2] at h2
            cases h2
        · refine ⟨fun hf => (by cases hf), fun _ => ?_⟩
          refine w_next ?_
          refine ⟨b, _, _, rfl, hb', step fun hz => ?_, rfl, rfl⟩
          rw [hz.1] at h1
          cases h1
      · rintro g m' ⟨b, y4, y5, e1, hb, q, rfl, rfl⟩
        have hb0 : b = [] := by cases b with | nil => rfl | cons s b => simp at e1
        subst hb0
        (refine w_ret (w_c (w_Xd ?_)))
        rw [List.take_length]
        exact q
end
end K31
namespace K31
open PySem PySem.Spec PyProof.Rows L2 FM
theorem w_lcFilA {α : Type} {mg : MG} {mt : MT} {me : ME} {g0 : Gam} {Q : List Dt → Cells → Prop} {E : EX} (e : α → Dt) (p : α → Bool) (f : α → Dt) {xs : List α} {m : Cells}
    (hs : ∀ x ∈ xs, wO (mg (.d (e x)) g0 m) fun q => wR (mt q.1 q.2) (fun b m2 => (b = true → p x = true ∧ wR (me q.1 m2) (fun v m3 => v = .d (f x) ∧ m3 = m) eNo) ∧ (b = false → p x = false ∧ m2 = m)) eNo)
    (hz : xs.length ≤ 16777216) (he : Q ((xs.filter p).map f) m) : wR (lcLoop mg mt me g0 (xs.map e) [] m) Q E := by
  refine w_lcLoop (fun r acc m' => ∃ a b, xs = a ++ b ∧ r = b.map e ∧ acc = (a.filter p).map f ∧ m' = m) (fun x r acc m' ⟨a, b, e1, e2, e3, e4⟩ => ?_) (fun acc m' ⟨a, b, e1, e2, e3, e4⟩ => ?_) _ [] m ⟨[], xs, rfl, rfl, rfl, rfl⟩
  · subst e4
    cases b with
    | nil => simp at e2
    | cons y b =>
    simp only [List.map_cons, List.cons.injEq] at e2
    obtain ⟨rfl, rfl⟩ := e2
    obtain ⟨q, eq, h1⟩ := wO_ok (hs y (by rw [e1]; simp))
    refine wO_eq eq (wR_mono h1 fun b' m2 ⟨ht, hf⟩ => ⟨fun hb => ?_, fun hb => ?_⟩)
    · obtain ⟨hp, h2⟩ := ht hb
      refine wR_mono h2 fun v m3 h3 => ⟨f y, h3.1, ?_, a ++ [y], b, by rw [e1]; simp, rfl, by rw [e3]; simp [List.filter_append, List.filter_cons, hp], h3.2⟩
      have h4 : a.length + 1 ≤ xs.length := by rw [e1]; simp
      have h5 : (a.filter p).length ≤ a.length := List.length_filter_le _ _
      unfold szOk
      rw [e3, List.length_map]
      exact decide_eq_true (by omega)
    · obtain ⟨hp, rfl⟩ := hf hb
      exact ⟨a ++ [y], b, by rw [e1]; simp, rfl, by rw [e3]; simp [List.filter_append, List.filter_cons, hp], rfl⟩
  · have hb : b = [] := by cases b with | nil => rfl | cons s b => simp at e2
    subst hb
    rw [List.append_nil] at e1
    subst e1 e4
    rw [e3]; exact he
theorem wo_din {m : Cells} {Q : Vl → Prop} {x y : Vl} {ds : List Dt} {neg : Bool} {k : L2.Key} {ks : List L2.Key} (h : dctOf m x = some (ks, ds)) (hk : keyOf y = some k) (q : Q (.d (.bl (neg != (dGet ks ds k).isSome)))) : wO (oDIn neg m y x) Q := wO_eq (by simp only [oDIn, h, hk]) q
theorem fold_new {α : Type} {kf : α → L2.Key} {vf : α → Dt} : ∀ {b a : List α}, ((a ++ b).map kf).Nodup → b.foldl (fun (q : Kd2) c => (dPutK q.1 (kf c), dPutV q.1 q.2 (kf c) (vf c))) (a.map kf, a.map vf) = ((a ++ b).map kf, (a ++ b).map vf)
  | [], a, nd => by rw [List.append_nil]; rfl
  | p :: b, a, nd => by
    have e : hasK (a.map kf) (kf p) = false := by
      unfold hasK
      rw [List.any_eq_false]
      intro k hk
      rw [List.map_append, List.nodup_append] at nd
      have := nd.2.2 k hk (kf p) (by simp)
      simpa using this
    rw [List.foldl_cons]
    have e1 : dPutK (a.map kf) (kf p) = (a ++ [p]).map kf := by unfold dPutK; rw [e]; simp
    have e2 : dPutV (a.map kf) (a.map vf) (kf p) (vf p) = (a ++ [p]).map vf := by unfold dPutV; rw [e]; simp
    dsimp only
    rw [e1, e2, fold_new (by simpa using nd)]
    simp
theorem held_get {z : Str} : ∀ {xs : List Str}, (dGet (xs.map .inr) (xs.map fun _ => Dt.bl true) (.inr z)).isSome = decide (z ∈ xs)
  | [] => rfl
  | x :: xs => by
    rw [List.map_cons, List.map_cons]
    unfold dGet
    by_cases e : x = z
    · subst e; simp
    · have : ¬ ((Sum.inr x : L2.Key) = .inr z) := fun h => e (by injection h)
      rw [if_neg this, held_get]
      rw [decide_eq_decide]
      rw [List.mem_cons]
      exact ⟨.inr, fun h => h.elim (fun h => absurd h.symm e) id⟩
theorem inr_nodup {xs : List Str} (h : xs.Nodup) : (xs.map (Sum.inr : Str → L2.Key)).Nodup := List.Pairwise.map _ (fun a b h e => h (by injection e)) h
def rcD (r : Rec) : Dt := .tup [.tup (r.1.map .str), .tup (r.2.map fun s => .tup (s.map .str))]
structure OkRs (rs : List Rec) : Prop where
  l : ∀ r ∈ rs, r.1.length = r.2.length
  l2 : ∀ r ∈ rs, r.1.length ≤ 4
  s : ∀ r ∈ rs, ∀ s ∈ r.2, s.length ≤ 20
  n : rs.length ≤ 10
theorem own_len {rs : List Rec} (l2 : ∀ r ∈ rs, r.1.length ≤ 4) : (own rs).length ≤ 4 * rs.length := by
  induction rs with
  | nil => simp [own]
  | cons r rs ih =>
    have h1 := ih fun x hx => l2 x (List.mem_cons_of_mem _ hx)
    have h2 := l2 r (by simp)
    unfold own at h1 ⊢
    rw [List.flatMap_cons, List.length_append, List.length_cons]
    omega
section
variable {m : Cells} {Q : Vl → Cells → Prop} {E : EX} {P : List (Str × List Str)} {xs : List Str}
theorem ringof_w (hP : P.map (·.1) = xs) (nd : xs.Nodup) (hl : xs.length ≤ 7) (hv : ∀ q ∈ P, q.2.length ≤ 20) (q : Q (.d (optT (ringF (sortW xs) (latP P) xs.length))) m) : wR (FRingOf [.d (arD xs P)] m) Q E := by
  have hPl : P.length = xs.length := by rw [← hP]; simp
  ((show wR (runFn 1 4 (mRingOf) _ _) _ _); (refine w_run (g := [_, none, none, none]) (by rfl) rfl ?_); (unfold mRingOf))
  (refine w_seq (w_for (w_itA (w_cons (w_c (w_cons (w_op (w_cb (w_cons (w_var rfl (w_nil ?_)))))))))))
  refine wo_lenD (ks := P.map fun q => .inr q.1) rfl ?_
  (refine w_c (wo_II (w_nil ?_)))
  refine wo_rng2 (by decide) (by simp; omega) ?_
  rw [show (((P.map fun q => (Sum.inr q.1 : L2.Key)).length : Nat) : Int) + 1 - 1 = ((xs.length : Nat) : Int) by simp; omega, Int.toNat_natCast]
  unfold rangeD
  refine w_loop (fun r g m' => ∃ (b : List Nat) (y1 y2 y3 : Option Vl), r = b.map (fun i => Dt.int (1 + (i : Nat))) ∧ (∀ i ∈ b, i < xs.length) ∧ Q (.d (optT (b.findSome? fun i => (sortW xs).findSome? fun k => thr (sortW xs) (latP P) i [k]))) m ∧ m' = m ∧ g = [some (.d (arD xs P)), y1, y2, y3]) ?_ ?_ _ _ _ ⟨List.range xs.length, none, none, none, rfl, (fun i hi => List.mem_range.mp hi), q, rfl, rfl⟩
  · rintro d r g m' ⟨b, y1, y2, y3, e1, hb, q, rfl, rfl⟩
    cases b with
    | nil => simp at e1
    | cons i b =>
    simp only [List.map_cons, List.cons.injEq] at e1
    obtain ⟨rfl, rfl⟩ := e1
    have hi := hb i (by simp)
    (((with_reducible refine w_nm ?_); (try simp only [List.set_cons_succ, List.set_cons_zero])); refine w_for (w_it (w_cl (w_cons (w_cl (w_cons (w_var rfl (w_nil ?_))))))))
    refine wo_listD (ks := P.map fun q => .inr q.1) rfl ?_
    (refine w_nil ?_)
    refine wo_sortS (ns := xs) (by rw [← hP]; simp [lstOf, kDt]) (by omega) ?_
    (refine wo_lst ?_)
    have q' : Q (.d (optT (((sortW xs).findSome? fun k => thr (sortW xs) (latP P) i [k]).or (b.findSome? fun i => (sortW xs).findSome? fun k => thr (sortW xs) (latP P) i [k])))) m' := by
      rw [List.findSome?_cons] at q
      cases e : (sortW xs).findSome? fun k => thr (sortW xs) (latP P) i [k] with
      | none => rw [e] at q; exact q
      | some r => rw [e] at q; exact q
    refine w_loop (fun r g m2 => ∃ (c : List Str) (y2 y3 : Option Vl), r = c.map .str ∧ (∀ k ∈ c, k ∈ xs) ∧ Q (.d (optT ((c.findSome? fun k => thr (sortW xs) (latP P) i [k]).or (b.findSome? fun i => (sortW xs).findSome? fun k => thr (sortW xs) (latP P) i [k])))) m' ∧ m2 = m' ∧ g = [some (.d (arD xs P)), some (.d (.int (1 + (i : Nat)))), y2, y3]) ?_ ?_ _ _ _ ⟨sortW xs, y2, y3, rfl, (fun k hk => mem_sortW.mp hk), q', rfl, rfl⟩
    · rintro d r g m2 ⟨c, y2, y3, e1, hc, q, rfl, rfl⟩
      cases c with
      | nil => simp at e1
      | cons k c =>
      simp only [List.map_cons, List.cons.injEq] at e1
      obtain ⟨rfl, rfl⟩ := e1
      (((with_reducible refine w_nm ?_); (try simp only [List.set_cons_succ, List.set_cons_zero])); refine w_seq (w_asg (w_call (w_cons (w_var rfl (w_cons (w_tup (w_cons (w_var rfl (w_nil ?_))))))))); ((with_reducible apply w_dats); (focus (first | ((simp only [dats, Option.map_some]); rfl) | rfl))); ((with_reducible refine w_sz ?_ ?_); (focus (first | (simp; done) | (simp; omega)))); refine w_cons (w_var rfl (w_nil ?_)))
      rw [show (1 + ((i : Nat) : Int)) = ((([] : List Str).length + 1 + i : Nat) : Int) by simp]
      refine through_w hP nd hv 7 i k [] (by omega) (fun x hx => by rw [List.mem_singleton.mp hx]; exact hc k (by simp)) (by simp; omega) ?_
      rw [List.findSome?_cons] at q
      cases er : thr (sortW xs) (latP P) i [k] with
      | some r =>
        rw [er] at q
        (((with_reducible refine w_nm ?_); (try simp only [List.set_cons_succ, List.set_cons_zero])); refine w_if (w_test (w_op (w_var rfl (w_c ?_)))); ((with_reducible apply wo_isNf); (focus (first | rfl | assumption | (simp only [lstOf, tupOf, dctOf, seqL, isL, Option.or_none, Option.some_or, Option.none_or, *]; done) | ((simp [lstOf, tupOf, dctOf, seqL, isL, *]); (first | done | rfl))))); refine w_B (w_tt (w_ret (w_var rfl (w_Xd ?_)))))
        rw [List.take_length]
        exact q
      | none =>
        rw [er] at q
        (((with_reducible refine w_nm ?_); (try simp only [List.set_cons_succ, List.set_cons_zero])); refine w_if (w_test (w_op (w_var rfl (w_c (wo_isN (w_B ?_)))))))
        refine ⟨fun hf => (by cases hf), fun _ => ?_⟩
        refine w_next ?_
        exact ⟨c, _, _, rfl, (fun z hz => hc z (List.mem_cons_of_mem _ hz)), q, rfl, by simp; exact ⟨rfl, rfl⟩⟩
    · rintro g m2 ⟨c, y2, y3, e1, hc, q, rfl, rfl⟩
      have hb0 : c = [] := by cases c with | nil => rfl | cons s b => simp at e1
      subst hb0
      exact ⟨b, _, _, _, rfl, (fun z hz => hb z (List.mem_cons_of_mem _ hz)), q, rfl, rfl⟩
  · rintro g m' ⟨b, y1, y2, y3, e1, hb, q, rfl, rfl⟩
    have hb0 : b = [] := by cases b with | nil => rfl | cons s b => simp at e1
    subst hb0
    (refine w_ret (w_c (w_Xd ?_)))
    rw [List.take_length]
    exact q
def arC (xs : List Str) (P : List (Str × List Str)) : Cell := .dct (P.map fun q => .inr q.1) (P.map fun q => .lst ((q.2.filter fun k => decide (k ∈ xs)).map .str))
theorem put_new {P : List (Str × List Str)} {k : Str} {f : List Str → Dt} {v : List Str} (h : k ∉ P.map (·.1)) : dPutK (P.map fun q => (Sum.inr q.1 : L2.Key)) (.inr k) = (P ++ [(k, v)]).map (fun q => .inr q.1) ∧ dPutV (P.map fun q => (Sum.inr q.1 : L2.Key)) (P.map fun q => f q.2) (.inr k) (f v) = (P ++ [(k, v)]).map fun q => f q.2 := by
  have e : hasK (P.map fun q => (Sum.inr q.1 : L2.Key)) (.inr k) = false := by
    unfold hasK
    rw [List.any_eq_false]
    intro j hj
    obtain ⟨q, hq, rfl⟩ := List.mem_map.mp hj
    have : q.1 ≠ k := fun z => h (List.mem_map.mpr ⟨q, hq, z⟩)
    simpa using this
  unfold dPutK dPutV
  rw [e]
  simp
theorem zip_pD : ∀ {a : List Str} {b : List (List Str)}, zipD (a.map .str) (b.map fun s => .tup (s.map .str)) = (a.zip b).map fun q => Dt.tup [.str q.1, .tup (q.2.map .str)]
  | [], _ => rfl
  | x :: a, [] => rfl
  | x :: a, y :: b => by
    have ih := zip_pD (a := a) (b := b)
    unfold zipD at ih ⊢
    simp only [List.map_cons, List.zip_cons_cons]
    rw [ih]
theorem arcs_w {v : Vl} {rs : List Rec} (hv : isSeq v = some (rs.map rcD)) (ok : OkRs rs) (nd : (own rs).Nodup) (q : Q (.d (arD (own rs) (prs rs))) m) : wR (FArcsOf [v] m) Q E := by
  have hol := own_len ok.l2
  have hn := ok.n
  ((show wR (runFn 1 8 (mArcsOf) _ _) _ _); (refine w_run (g := [_, none, none, none, none, none, none, none]) (by rfl) rfl ?_); (unfold mArcsOf))
  (refine w_seq (w_asg ?_))
  refine w_dc2 ?_
  (refine w_it (w_var rfl ?_))
  refine wO_eq hv ?_
  refine w_dcFlat rcD (fun r => r.1) Dt.str (fun _ c => .inr c) (fun _ _ => .bl true) (fun r hr => ?_) ?_ ?_
  · rw [show rcD r = .tup [.tup (r.1.map .str), .tup (r.2.map fun s => .tup (s.map .str))] from rfl]
    (((with_reducible refine w_gtp ?_ ?_); (focus (first | rfl | (simp; done)))); refine w_gcons ?_; ((with_reducible refine w_nm ?_); (try simp only [List.set_cons_succ, List.set_cons_zero])); refine w_gcons ?_; ((with_reducible refine w_nm ?_); (try simp only [List.set_cons_succ, List.set_cons_zero])); refine w_gnil (w_yes (w_t1 (w_it (w_var rfl (wo_itup ?_))))))
    refine ⟨rfl, rfl, fun c hc => ?_⟩
    (((with_reducible refine w_nm ?_); (try simp only [List.set_cons_succ, List.set_cons_zero])); refine w_yes (w_t1 (w_var rfl ?_)))
    refine ⟨rfl, ?_⟩
    (refine w_c ?_)
    exact ⟨rfl, rfl⟩
  · have : (rs.map fun r => r.1.length).sum = (own rs).length := by
      unfold own
      rw [List.length_flatMap]
    simp only [List.length_nil, Nat.zero_add]
    omega
  rw [show (rs.foldl (fun (q : Kd2) a => a.1.foldl (fun q c => (dPutK q.1 (.inr c), dPutV q.1 q.2 (.inr c) (.bl true))) q) ([], [])) = ((own rs).map .inr, (own rs).map fun _ => Dt.bl true) from by
    have := fold_new (kf := fun c : Str => (Sum.inr c : L2.Key)) (vf := fun _ => Dt.bl true) (b := own rs) (a := []) (inr_nodup nd)
    rw [List.nil_append] at this
    rw [← this]
    unfold own
    rw [List.foldl_flatMap]
    rfl]
  (((with_reducible refine w_nm ?_); (try simp only [List.set_cons_succ, List.set_cons_zero])); refine w_seq (w_asg (w_dnew ?_)); ((with_reducible refine w_nm ?_); (try simp only [List.set_cons_succ, List.set_cons_zero])); refine w_seq (w_for (w_it (w_var rfl ?_))))
  refine wO_eq hv ?_
  refine w_loop (fun r g m' => ∃ (a b : List Rec) (y2 y3 y4 y6 y7 : Option Vl), rs = a ++ b ∧ r = b.map rcD ∧ m' = m ++ [some (arC (own rs) (prs a))] ∧ g = [some v, some (.d (.dct ((own rs).map .inr) ((own rs).map fun _ => Dt.bl true))), y2, y3, y4, some (.ref m.length), y6, y7]) ?_ ?_ _ _ _ ⟨[], rs, none, none, none, none, none, rfl, rfl, rfl, rfl⟩
  · rintro d r g m' ⟨a, b, y2, y3, y4, y6, y7, e1, e2, rfl, rfl⟩
    cases b with
    | nil => simp at e2
    | cons r1 b =>
    simp only [List.map_cons, List.cons.injEq] at e2
    obtain ⟨rfl, rfl⟩ := e2
    have hr1 : r1 ∈ rs := by rw [e1]; simp
    rw [show rcD r1 = .tup [.tup (r1.1.map .str), .tup (r1.2.map fun s => .tup (s.map .str))] from rfl]
    (((with_reducible refine w_gtp ?_ ?_); (focus (first | rfl | (simp; done)))); refine w_gcons ?_; ((with_reducible refine w_nm ?_); (try simp only [List.set_cons_succ, List.set_cons_zero])); refine w_gcons ?_; ((with_reducible refine w_nm ?_); (try simp only [List.set_cons_succ, List.set_cons_zero])); refine w_gnil (w_for (w_itA (w_cons (w_var rfl (w_cons (w_var rfl (w_nil ?_))))))))
    refine wO_eq rfl ?_
    rw [zip_pD]
    refine w_loop (fun r g m' => ∃ (c1 c2 : List (Str × List Str)) (y4 y6 y7 : Option Vl), r1.1.zip r1.2 = c1 ++ c2 ∧ r = c2.map (fun q => Dt.tup [.str q.1, .tup (q.2.map .str)]) ∧ m' = m ++ [some (arC (own rs) (prs a ++ c1))] ∧ g = [some v, some (.d (.dct ((own rs).map .inr) ((own rs).map fun _ => Dt.bl true))), some (.d (.tup (r1.1.map .str))), some (.d (.tup (r1.2.map fun s => .tup (s.map .str)))), y4, some (.ref m.length), y6, y7]) ?_ ?_ _ _ _ ⟨[], r1.1.zip r1.2, y4, y6, y7, rfl, rfl, by rw [List.append_nil], rfl⟩
    · rintro d r g m' ⟨c1, c2, y4, y6, y7, e3, e4, rfl, rfl⟩
      cases c2 with
      | nil => simp at e4
      | cons kv c2 =>
      simp only [List.map_cons, List.cons.injEq] at e4
      obtain ⟨rfl, rfl⟩ := e4
      obtain ⟨k, w⟩ := kv
      have hprs : prs rs = (prs a ++ c1) ++ (k, w) :: (c2 ++ prs b) := by
        rw [e1]
        unfold prs
        rw [List.flatMap_append, List.flatMap_cons, e3]
        simp
      have hnk : ((prs rs).map (·.1)).Nodup := by rw [prs_keys ok.l]; exact nd
      have hk : k ∉ (prs a ++ c1).map (·.1) := fun hz => by
        rw [hprs, List.map_append, List.nodup_append] at hnk
        exact hnk.2.2 k hz k (by simp) rfl
      have hwm : w ∈ r1.2 := by
        have : (k, w) ∈ r1.1.zip r1.2 := by rw [e3]; simp
        exact (List.of_mem_zip this).2
      have hwl := ok.s r1 hr1 w hwm
      have hpl : (prs a ++ c1).length < 16777216 := by
        have h1 := congrArg List.length hprs
        have h2 : (prs rs).length = (own rs).length := by rw [← prs_keys ok.l]; simp
        rw [List.length_append, List.length_cons] at h1
        omega
      (((with_reducible refine w_gtp ?_ ?_); (focus (first | rfl | (simp; done)))); refine w_gcons ?_; ((with_reducible refine w_nm ?_); (try simp only [List.set_cons_succ, List.set_cons_zero])); refine w_gcons ?_; ((with_reducible refine w_nm ?_); (try simp only [List.set_cons_succ, List.set_cons_zero])); refine w_gnil (w_putD (w_lc (w_it (w_var rfl (wo_itup ?_))))))
      dsimp only
      refine w_lcFilA Dt.str (fun z => decide (z ∈ own rs)) Dt.str (fun z hz => ?_) (by omega) ?_
      · (((with_reducible refine w_nm ?_); (try simp only [List.set_cons_succ, List.set_cons_zero])); refine w_test (w_op (w_var rfl (w_var rfl ?_))))
        refine wo_din (k := .inr z) rfl rfl ?_
        rw [held_get]
        (refine w_B ?_)
        refine ⟨fun h => ⟨by simpa using h, ?_⟩, fun h => ⟨by simpa using h, rfl⟩⟩
        (refine w_var rfl ?_)
        exact ⟨rfl, rfl⟩
      (refine w_var rfl (w_var rfl ?_))
      refine w_putDn (key := .inr k) get_last rfl (by simp only [List.length_map]; exact hpl) ?_
      rw [set_last]
      obtain ⟨p1, p2⟩ := put_new (f := fun v => .lst ((v.filter fun k => decide (k ∈ own rs)).map .str)) (v := w) hk
      rw [p1, p2]
      exact ⟨c1 ++ [(k, w)], c2, _, _, _, by rw [e3]; simp, rfl, by rw [← List.append_assoc]; rfl, rfl⟩
    · rintro g m' ⟨c1, c2, y4, y6, y7, e3, e4, rfl, rfl⟩
      have hb0 : c2 = [] := by cases c2 with | nil => rfl | cons s b => simp at e4
      subst hb0
      rw [List.append_nil] at e3
      refine ⟨a ++ [r1], b, _, _, _, _, _, by rw [e1]; simp, rfl, ?_, rfl⟩
      rw [show prs (a ++ [r1]) = prs a ++ c1 from by unfold prs; rw [List.flatMap_append, List.flatMap_cons, List.flatMap_nil, List.append_nil, e3]]
  · rintro g m' ⟨a, b, y2, y3, y4, y6, y7, e1, e2, rfl, rfl⟩
    have hb0 : b = [] := by cases b with | nil => rfl | cons s b => simp at e2
    subst hb0
    rw [List.append_nil] at e1
    subst e1
    (refine w_ret ?_)
    refine w_frzD ?_
    (refine w_var rfl ?_)
    refine ⟨_, _, _, rfl, get_last, ?_⟩
    (refine w_Xd ?_)
    rw [set_last, List.take_left]
    exact q
end
end K31
namespace K31
open PySem PySem.Spec PyProof.Rows L2 FM FS
theorem cntS_app {z k : Str} {xs : List Str} : cntS z (xs ++ [k]) = cntS z xs + if k = z then 1 else 0 := by
  unfold cntS
  rw [List.countP_append, List.countP_singleton]
  by_cases e : k = z <;> simp [e]
theorem cntS_mem {k : Str} {xs : List Str} : 0 < cntS k xs ↔ k ∈ xs := ⟨cntS_pos, fun h => List.countP_pos_iff.mpr ⟨k, h, by simp⟩⟩
/-- the sets behind so many keys -/
structure Sets (xs L1 L2 : List Str) : Prop where
  s : ∀ z, z ∈ L1 ↔ z ∈ xs
  t : ∀ z, z ∈ L2 ↔ 1 < cntS z xs
  l1 : L1.length ≤ xs.length
  l2 : L2.length ≤ xs.length
theorem Sets.nil : Sets [] [] [] := ⟨fun z => Iff.rfl, fun z => by simp [cntS], Nat.le_refl _, Nat.le_refl _⟩
theorem Sets.old {xs L1 L2 : List Str} {k : Str} (h : Sets xs L1 L2) (hk : k ∈ L1) : Sets (xs ++ [k]) (addL L1 k) (addL L2 k) := by
  have hx := (h.s k).mp hk
  refine ⟨fun z => ?_, fun z => ?_, ?_, ?_⟩
  · rw [addL_mem, h.s, List.mem_append, List.mem_singleton]
  · rw [addL_mem, h.t, cntS_app]
    by_cases e : k = z
    · subst e
      have := cntS_mem.mpr hx
      rw [if_pos rfl]
      exact ⟨fun _ => by omega, fun _ => .inr rfl⟩
    · rw [if_neg e]
      exact ⟨fun hh => hh.elim id fun hh => absurd hh.symm e, .inl⟩
  · have := addL_len (L := L1) (k := k); have := h.l1; rw [List.length_append]; simp; omega
  · have := addL_len (L := L2) (k := k); have := h.l2; rw [List.length_append]; simp; omega
theorem Sets.new {xs L1 L2 : List Str} {k : Str} (h : Sets xs L1 L2) (hk : k ∉ L1) : Sets (xs ++ [k]) (addL L1 k) L2 := by
  have hx : ¬ k ∈ xs := fun z => hk ((h.s k).mpr z)
  refine ⟨fun z => ?_, fun z => ?_, ?_, ?_⟩
  · rw [addL_mem, h.s, List.mem_append, List.mem_singleton]
  · rw [h.t, cntS_app]
    by_cases e : k = z
    · subst e
      have : ¬ 0 < cntS k xs := fun z => hx (cntS_mem.mp z)
      simp only [if_true]
      omega
    · rw [if_neg e]; exact Iff.rfl
  · have := addL_len (L := L1) (k := k); have := h.l1; rw [List.length_append]; simp; omega
  · have := h.l2; rw [List.length_append]; simp; omega
section
variable {m : Cells} {Q : Vl → Cells → Prop} {E : EX}
theorem st_g1 {A B : Option Cell} : (m ++ [A] ++ [B])[m.length]? = some A := by rw [List.getElem?_append_left (by simp), get_last]
theorem st_g2 {A B C : Option Cell} : (m ++ [A] ++ [B])[(m ++ [C]).length]? = some B := by rw [show (m ++ [C]).length = (m ++ [A]).length by simp]; exact get_last
theorem st_s1 {A B C : Option Cell} : (m ++ [A] ++ [B]).set m.length C = m ++ [C] ++ [B] := by rw [List.set_append_left _ _ (by simp), set_last]
theorem st_s2 {A B C D : Option Cell} : (m ++ [A] ++ [B]).set (m ++ [D]).length C = m ++ [A] ++ [C] := by rw [show (m ++ [D]).length = (m ++ [A]).length by simp]; exact set_last
theorem clash_w {v : Vl} {rs : List Rec} (hv : isSeq v = some (rs.map rcD)) (ok : OkRs rs) (h7 : (own rs).Nodup → (own rs).length ≤ 7) (q : Q (.d (dueD rs)) m) : wR (FClash [v] m) Q E := by
  have hol := own_len ok.l2
  have hn := ok.n
  ((show wR (runFn 1 7 (mClash) _ _) _ _); (refine w_run (g := [_, none, none, none, none, none, none]) (by rfl) rfl ?_); (unfold mClash))
  (refine w_seq (w_asg (w_set0 ?_)); ((with_reducible refine w_nm ?_); (try simp only [List.set_cons_succ, List.set_cons_zero])); refine w_seq (w_asg (w_set0 ?_)); ((with_reducible refine w_nm ?_); (try simp only [List.set_cons_succ, List.set_cons_zero])); refine w_seq (w_for (w_it (w_var rfl ?_))))
  refine wO_eq hv ?_
  refine w_loop (fun r g m' => ∃ (a b : List Rec) (L1 L2 : List Str) (y3 y4 y5 y6 : Option Vl), rs = a ++ b ∧ r = b.map rcD ∧ Sets (own a) L1 L2 ∧ m' = m ++ [some (.set L1)] ++ [some (.set L2)] ∧ g = [some v, some (.ref m.length), some (.ref (m ++ [some (Cell.set [])]).length), y3, y4, y5, y6]) ?_ ?_ _ _ _ ⟨[], rs, [], [], none, none, none, none, rfl, rfl, Sets.nil, rfl, rfl⟩
  · rintro d r g m' ⟨a, b, L1, L2, y3, y4, y5, y6, e1, e2, S, rfl, rfl⟩
    cases b with
    | nil => simp at e2
    | cons r1 b =>
    simp only [List.map_cons, List.cons.injEq] at e2
    obtain ⟨rfl, rfl⟩ := e2
    rw [show rcD r1 = .tup [.tup (r1.1.map .str), .tup (r1.2.map fun s => .tup (s.map .str))] from rfl]
    (((with_reducible refine w_gtp ?_ ?_); (focus (first | rfl | (simp; done)))); refine w_gcons ?_; ((with_reducible refine w_nm ?_); (try simp only [List.set_cons_succ, List.set_cons_zero])); refine w_gcons ?_; ((with_reducible refine w_nm ?_); (try simp only [List.set_cons_succ, List.set_cons_zero])); refine w_gnil (w_for (w_it (w_var rfl (wo_itup ?_)))))
    dsimp only
    refine w_loop (fun r g m' => ∃ (c1 c2 : List Str) (L1 L2 : List Str) (y5 : Option Vl), r1.1 = c1 ++ c2 ∧ r = c2.map .str ∧ Sets (own a ++ c1) L1 L2 ∧ m' = m ++ [some (.set L1)] ++ [some (.set L2)] ∧ g = [some v, some (.ref m.length), some (.ref (m ++ [some (Cell.set [])]).length), some (.d (.tup (r1.1.map .str))), some (.d (.tup (r1.2.map fun s => .tup (s.map .str)))), y5, y6]) ?_ ?_ _ _ _ ⟨[], r1.1, L1, L2, y5, rfl, rfl, by rw [List.append_nil]; exact S, rfl, rfl⟩
    · rintro d r g m' ⟨c1, c2, L1, L2, y5, e3, e4, S, rfl, rfl⟩
      cases c2 with
      | nil => simp at e4
      | cons k c2 =>
      simp only [List.map_cons, List.cons.injEq] at e4
      obtain ⟨rfl, rfl⟩ := e4
      have hlen : (own a ++ c1).length + 1 ≤ (own rs).length := by
        rw [e1]
        unfold own
        rw [List.flatMap_append, List.flatMap_cons, e3]
        simp
        omega
      have h1 := S.l1
      have h2 := S.l2
      (((with_reducible refine w_nm ?_); (try simp only [List.set_cons_succ, List.set_cons_zero])); refine w_seq (w_if (w_test (w_op (w_var rfl (w_var rfl ?_))))))
      refine wo_sin st_g1 (by omega) ?_
      (refine w_B ?_)
      refine ⟨fun h => ?_, fun h => ?_⟩
      · have hk : k ∈ L1 := by simpa using h
        (refine w_drop ?_)
        refine w_sadd ?_
        (refine w_var rfl ?_)
        refine ⟨_, L2, rfl, st_g2, by omega, ?_⟩
        (refine w_var rfl ?_)
        refine ⟨L2, k, rfl, st_g2, by omega, ?_⟩
        (refine w_drop ?_)
        rw [st_s2]
        refine w_sadd ?_
        (refine w_var rfl ?_)
        refine ⟨_, L1, rfl, st_g1, by omega, ?_⟩
        (refine w_var rfl ?_)
        refine ⟨L1, k, rfl, st_g1, by omega, ?_⟩
        rw [st_s1]
        exact ⟨c1 ++ [k], c2, _, _, _, by rw [e3]; simp, rfl, by rw [← List.append_assoc]; exact S.old hk, rfl, rfl⟩
      · have hk : k ∉ L1 := by simpa using h
        refine w_next ?_
        (refine w_drop ?_)
        refine w_sadd ?_
        (refine w_var rfl ?_)
        refine ⟨_, L1, rfl, st_g1, by omega, ?_⟩
        (refine w_var rfl ?_)
        refine ⟨L1, k, rfl, st_g1, by omega, ?_⟩
        rw [st_s1]
        exact ⟨c1 ++ [k], c2, _, _, _, by rw [e3]; simp, rfl, by rw [← List.append_assoc]; exact S.new hk, rfl, rfl⟩
    · rintro g m' ⟨c1, c2, L1, L2, y5, e3, e4, S, rfl, rfl⟩
      have hb0 : c2 = [] := by cases c2 with | nil => rfl | cons s b => simp at e4
      subst hb0
      rw [List.append_nil] at e3
      refine ⟨a ++ [r1], b, L1, L2, _, _, _, _, by rw [e1]; simp, rfl, ?_, rfl, rfl⟩
      rw [show own (a ++ [r1]) = own a ++ c1 from by unfold own; rw [List.flatMap_append, List.flatMap_cons, List.flatMap_nil, List.append_nil, e3]]
      exact S
  · rintro g m' ⟨a, b, L1, L2, y3, y4, y5, y6, e1, e2, S, rfl, rfl⟩
    have hb0 : b = [] := by cases b with | nil => rfl | cons s b => simp at e2
    subst hb0
    rw [List.append_nil] at e1
    subst e1
    have h2 := S.l2
    have hs : sortU L2 = sortU (dups (own rs)) := sortU_eq fun z => by rw [S.t, mem_dups]
    refine w_seq (w_if (w_truS ?_))
    (refine w_var rfl ?_)
    refine ⟨_, L2, rfl, st_g2, by omega, ?_⟩
    refine ⟨fun h => ?_, fun h => ?_⟩
    · have hd : dueD rs = ((twD (sortU L2)).getD (ringD (ringF (sortW (own rs)) (latP (prs rs)) (own rs).length))) := by unfold dueD; rw [hs]
      cases e : sortU L2 with
      | nil =>
        exfalso
        have : L2 = [] := List.eq_nil_iff_forall_not_mem.mpr fun z hz => by have := mem_sortU.mpr hz; rw [e] at this; cases this
        subst this
        cases h
      | cons z r =>
        rw [e] at hd
        (refine w_ret (w_tup (w_cons (w_c (w_cons (w_op ?_))))))
        refine w_sortS ?_
        (refine w_var rfl ?_)
        refine ⟨_, L2, rfl, st_g2, by omega, ?_⟩
        (refine w_c ?_)
        rw [e]
        refine wo_ixL (d := .str z) rfl atI_head ?_
        (refine w_nil ?_; ((with_reducible apply w_dats); (focus (first | ((simp only [dats, Option.map_some]); rfl) | rfl))); ((with_reducible refine w_sz ?_ ?_); (focus (first | (simp; done) | (simp; omega)))); refine w_Xd ?_)
        rw [List.append_assoc, List.take_left]
        rw [hd] at q
        exact q
    · have h0 : L2 = [] := by cases L2 with | nil => rfl | cons a b => cases h
      subst h0
      have nd := nodup_of hs.symm
      have hd : dueD rs = ringD (ringF (sortW (own rs)) (latP (prs rs)) (own rs).length) := by unfold dueD; rw [← hs]; rfl
      refine w_next ?_
      (refine w_seq (w_asg (w_call (w_cons (w_call (w_cons (w_var rfl (w_nil ?_))))))))
      refine arcs_w hv ok nd ?_
      (refine w_nil ?_)
      refine ringof_w (prs_keys ok.l) nd (h7 nd) (fun p hp => ?_) ?_
      · obtain ⟨r, hr, hp⟩ := List.mem_flatMap.mp hp
        exact ok.s r hr _ (List.of_mem_zip hp).2
      rw [hd] at q
      cases e : ringF (sortW (own rs)) (latP (prs rs)) (own rs).length with
      | some r =>
        rw [e] at q
        (((with_reducible refine w_nm ?_); (try simp only [List.set_cons_succ, List.set_cons_zero])); refine w_seq (w_if (w_test (w_op (w_var rfl (w_c ?_))))); ((with_reducible apply wo_isNf); (focus (first | rfl | assumption | (simp only [lstOf, tupOf, dctOf, seqL, isL, Option.or_none, Option.some_or, Option.none_or, *]; done) | ((simp [lstOf, tupOf, dctOf, seqL, isL, *]); (first | done | rfl))))); refine w_B (w_tt (w_ret (w_tup (w_cons (w_c (w_cons (w_var rfl (w_nil ?_)))))))); ((with_reducible apply w_dats); (focus (first | ((simp only [dats, Option.map_some]); rfl) | rfl))); ((with_reducible refine w_sz ?_ ?_); (focus (first | (simp; done) | (simp; omega)))); refine w_Xd ?_)
        rw [List.append_assoc, List.take_left]
        exact q
      | none =>
        rw [e] at q
        (((with_reducible refine w_nm ?_); (try simp only [List.set_cons_succ, List.set_cons_zero])); refine w_seq (w_if (w_test (w_op (w_var rfl (w_c (wo_isN (w_B ?_))))))))
        refine ⟨fun hf => (by cases hf), fun _ => ?_⟩
        (refine w_next (w_ret (w_c (w_Xd ?_))))
        rw [List.append_assoc, List.take_left]
        exact q
end
end K31
namespace K31
open PySem PySem.Spec PyProof.Rows L2 FM FS
def tS (p : List Str) : Dt := .tup (p.map .str)
theorem ext_len {S p : List Str} : (ext S p).length ≤ S.length := by
  unfold ext
  rw [List.length_map]
  exact List.length_filter_le _ _
theorem flat_ext {S : List Str} (hS : S.length ≤ 5) : ∀ {L : List (List Str)}, (L.flatMap (ext S)).length ≤ L.length * 5
  | [] => by simp
  | p :: L => by
    have h1 := flat_ext hS (L := L)
    have h2 := ext_len (S := S) (p := p)
    rw [List.flatMap_cons, List.length_append, List.length_cons]
    omega
theorem ext_mem {S p q : List Str} (h : q ∈ ext S p) : q.length = p.length + 1 := by
  obtain ⟨k, _, rfl⟩ := List.mem_map.mp h
  simp
section
variable {m : Cells} {Q : Vl → Cells → Prop} {E : EX}
theorem rows_w {S : List Str} {n : Nat} (hS : S.length ≤ 5) (hn : n ≤ 5) (q : Q (.d (.lst ((itr S n [[]]).map tS))) m) : wR (FRows [.d (.lst (S.map .str)), .d (.int n)] m) Q E := by
  ((show wR (runFn 2 7 (mRows) _ _) _ _); (refine w_run (g := [_, _, none, none, none, none, none]) (by rfl) rfl ?_); (unfold mRows))
  (refine w_seq (w_asg (w_lst (w_cons (w_tup (w_nil ?_))))); ((with_reducible apply w_dats); (focus (first | ((simp only [dats, Option.map_some]); rfl) | rfl))); ((with_reducible refine w_sz ?_ ?_); (focus (first | (simp; done) | (simp; omega)))); refine w_nil ?_; ((with_reducible apply w_dats); (focus (first | ((simp only [dats, Option.map_some]); rfl) | rfl))); ((with_reducible refine w_sz ?_ ?_); (focus (first | (simp; done) | (simp; omega)))); ((with_reducible refine w_nm ?_); (try simp only [List.set_cons_succ, List.set_cons_zero])); refine w_seq (w_for (w_itA (w_cons (w_var rfl (w_nil ?_))))))
  refine wo_rng1 (by omega) ?_
  rw [Int.toNat_natCast]
  have h0 : 5 ^ n ≤ 5 ^ 5 := Nat.pow_le_pow_right (by decide) hn
  refine w_loop (fun r g m' => ∃ (L : List (List Str)) (y3 y4 y5 y6 : Option Vl), itr S r.length L = itr S n [[]] ∧ L.length * 5 ^ r.length ≤ 5 ^ 5 ∧ (∀ p ∈ L, p.length + r.length ≤ 5) ∧ m' = m ∧ g = [some (.d (.lst (S.map .str))), some (.d (.int n)), some (.d (.lst (L.map tS))), y3, y4, y5, y6]) ?_ ?_ _ _ _ ⟨[[]], none, none, none, none, by rw [rangeD_len], by rw [rangeD_len]; simpa using h0, by rw [rangeD_len]; intro p hp; rw [List.mem_singleton.mp hp]; simpa using hn, rfl, rfl⟩
  · rintro d r g m' ⟨L, y3, y4, y5, y6, e1, e2, e3, rfl, rfl⟩
    rw [List.length_cons] at e1 e2 e3
    have hL : L.length * 5 ≤ 5 ^ 5 := by
      refine Nat.le_trans (Nat.mul_le_mul_left _ ?_) e2
      calc 5 = 5 ^ 1 := rfl
        _ ≤ 5 ^ (r.length + 1) := Nat.pow_le_pow_right (by decide) (by omega)
    have hF := flat_ext hS (L := L)
    (((with_reducible refine w_nm ?_); (try simp only [List.set_cons_succ, List.set_cons_zero])); refine w_seq (w_asg (w_lst (w_nil ?_))); ((with_reducible apply w_dats); (focus (first | ((simp only [dats, Option.map_some]); rfl) | rfl))); ((with_reducible refine w_sz ?_ ?_); (focus (first | (simp; done) | (simp; omega)))); ((with_reducible refine w_nm ?_); (try simp only [List.set_cons_succ, List.set_cons_zero])); refine w_seq (w_for (w_it (w_var rfl (wo_lst ?_)))))
    refine w_loop (fun r2 g m2 => ∃ (a b : List (List Str)) (y5 y6 : Option Vl), L = a ++ b ∧ r2 = b.map tS ∧ m2 = m' ∧ g = [some (.d (.lst (S.map .str))), some (.d (.int n)), some (.d (.lst (L.map tS))), some (.d d), some (.d (.lst ((a.flatMap (ext S)).map tS))), y5, y6]) ?_ ?_ _ _ _ ⟨[], L, y5, y6, rfl, rfl, rfl, rfl⟩
    · rintro d2 r2 g m2 ⟨a, b, y5, y6, e4, e5, rfl, rfl⟩
      cases b with
      | nil => simp at e5
      | cons p b =>
      simp only [List.map_cons, List.cons.injEq] at e5
      obtain ⟨rfl, rfl⟩ := e5
      have hp := e3 p (by rw [e4]; simp)
      have ha : (a.flatMap (ext S)).length + (ext S p).length ≤ L.length * 5 := by
        refine Nat.le_trans ?_ hF
        rw [e4, List.flatMap_append, List.flatMap_cons, List.length_append, List.length_append]
        omega
      (((with_reducible refine w_nm ?_); (try simp only [List.set_cons_succ, List.set_cons_zero])); refine w_asg (w_op (w_var rfl (w_lc (w_it (w_var rfl (wo_lst ?_)))))))
      refine w_lcFilA Dt.str (fun k => decide (k ∉ p)) (fun k => tS (p ++ [k])) (fun k hk => ?_) (by omega) ?_
      · (((with_reducible refine w_nm ?_); (try simp only [List.set_cons_succ, List.set_cons_zero])); refine w_test (w_op (w_var rfl (w_var rfl ?_))))
        refine in_tup ?_
        (refine w_B ?_)
        refine ⟨fun h => ⟨by simpa using h, ?_⟩, fun h => ⟨by simpa using h, rfl⟩⟩
        (refine w_op (w_var rfl (w_tup (w_cons (w_var rfl (w_nil ?_))))); ((with_reducible apply w_dats); (focus (first | ((simp only [dats, Option.map_some]); rfl) | rfl))); ((with_reducible refine w_sz ?_ ?_); (focus (first | (simp; done) | (simp; omega)))))
        refine wo_catT (by simp; omega) ?_
        exact ⟨by unfold tS; simp, rfl⟩
      skip
      rw [show ((S.filter fun k => decide (k ∉ p)).map fun k => tS (p ++ [k])) = (ext S p).map tS by unfold ext; rw [List.map_map]; rfl]
      refine wo_catL rfl rfl (by simp only [List.length_map]; omega) ?_
      (((with_reducible refine w_nm ?_); (try simp only [List.set_cons_succ, List.set_cons_zero])))
      exact ⟨a ++ [p], b, _, _, by rw [e4]; simp, rfl, trivial, by rw [List.flatMap_append, List.flatMap_cons, List.flatMap_nil, List.append_nil, List.map_append]⟩
    · rintro g m2 ⟨a, b, y5, y6, e4, e5, rfl, rfl⟩
      have hb0 : b = [] := by cases b with | nil => rfl | cons s b => simp at e5
      subst hb0
      rw [List.append_nil] at e4
      subst e4
      (refine w_asg (w_var rfl ?_); ((with_reducible refine w_nm ?_); (try simp only [List.set_cons_succ, List.set_cons_zero])))
      refine ⟨L.flatMap (ext S), _, _, _, _, e1, ?_, fun q hq => ?_, trivial, rfl⟩
      · refine Nat.le_trans (Nat.mul_le_mul_right _ hF) ?_
        rw [Nat.mul_assoc, show 5 * 5 ^ r.length = 5 ^ (r.length + 1) by rw [Nat.pow_succ, Nat.mul_comm]]
        exact e2
      · obtain ⟨p, hp, hq⟩ := List.mem_flatMap.mp hq
        have := e3 p hp
        rw [ext_mem hq]
        omega
  · rintro g m' ⟨L, y3, y4, y5, y6, e1, e2, e3, rfl, rfl⟩
    (refine w_ret (w_var rfl (w_Xd ?_)))
    rw [List.take_length]
    rw [show itr S ([] : List Dt).length L = L from rfl] at e1
    rw [e1]
    exact q
end
end K31
namespace K31
open PySem PySem.Spec PyProof.Rows L2 FM FS
theorem chn_range {lat : Lat} : ∀ {xs : List Str}, chn lat xs = (List.range (xs.length - 1)).all fun i => decide (xs.getD (i + 1) "" ∈ lat (xs.getD i ""))
  | [] => rfl
  | [x] => rfl
  | a :: b :: r => by
    have ih := chn_range (lat := lat) (xs := b :: r)
    rw [show chn lat (a :: b :: r) = (decide (b ∈ lat a) && chn lat (b :: r)) from rfl, ih]
    rw [show (a :: b :: r).length - 1 = (b :: r).length - 1 + 1 by simp, List.range_succ_eq_map, List.all_cons, List.all_map]
    rfl
def arcB (lat : Lat) (row : List Str) (i : Nat) : Bool := decide (row.getD ((i + 1) % row.length) "" ∈ lat (row.getD i ""))
theorem ring_range {lat : Lat} {h : Str} {t : List Str} : ringB lat (h :: t) = ((List.range (t.length + 1)).all (arcB lat (h :: t)) && t.all fun x => !ltS x h) := by
  rw [show ringB lat (h :: t) = (chn lat (h :: t ++ [h]) && t.all fun x => !ltS x h) from rfl, chn_range]
  congr 1
  rw [show (h :: t ++ [h]).length - 1 = t.length + 1 by simp]
  rw [Bool.eq_iff_iff, List.all_eq_true, List.all_eq_true]
  refine forall_congr' fun i => forall_congr' fun hi => ?_
  have hi := List.mem_range.mp hi
  have e1 : (h :: t ++ [h]).getD i "" = (h :: t).getD i "" := by
    rw [List.getD_eq_getElem?_getD, List.getD_eq_getElem?_getD, List.getElem?_append_left (by simpa using hi)]
  have e2 : (h :: t ++ [h]).getD (i + 1) "" = (h :: t).getD ((i + 1) % (h :: t).length) "" := by
    rw [List.getD_eq_getElem?_getD, List.getD_eq_getElem?_getD]
    by_cases e : i + 1 = t.length + 1
    · rw [e, show (h :: t).length = t.length + 1 from rfl, Nat.mod_self, show t.length + 1 = (h :: t).length from rfl, List.getElem?_append_right (Nat.le_refl _)]
      simp
    · rw [Nat.mod_eq_of_lt (by simp; omega), List.getElem?_append_left (by simp; omega)]
  unfold arcB
  rw [e1, e2]
theorem min_head {h : Str} {t : List Str} : decide (h = minS h t) = t.all fun x => !ltS x h := by
  have hm := minS_mem (r := t) (a := h)
  cases e : t.all fun x => !ltS x h with
  | true =>
    refine decide_eq_true (min_uniq (ns := h :: t) (by simp) hm (fun y hy => ?_) fun y hy => minS_le hy)
    rcases List.mem_cons.mp hy with rfl | hy
    · exact ltS_irr
    · have := List.all_eq_true.mp e y hy; simpa using this
  | false =>
    refine decide_eq_false fun z => ?_
    have : (t.all fun x => !ltS x h) = true := List.all_eq_true.mpr fun x hx => by
      have h1 := minS_le (r := t) (a := h) (x := x) (List.mem_cons_of_mem _ hx)
      rw [← z] at h1
      rw [h1]; rfl
    rw [this] at e; cases e
theorem atI_nat {xs : List Str} {j : Nat} (h : j < xs.length) : atI (xs.map Dt.str) ((j : Nat) : Int) = some (.str (xs.getD j "")) := by
  unfold atI ixN
  rw [List.length_map, if_pos (by omega), if_pos (by omega), Option.bind_some, List.getElem?_map, Int.toNat_natCast, List.getElem?_eq_getElem h, List.getD_eq_getElem?_getD, List.getElem?_eq_getElem h]
  rfl
def laC (P : List (Str × List Str)) : Cell := .dct (P.map fun q => .inr q.1) (P.map fun q => tS q.2)
section
variable {m : Cells} {Q : Vl → Cells → Prop} {E : EX} {P : List (Str × List Str)}
theorem isring_w {k : Nat} {h : Str} {t : List Str} (hk : m[k]? = some (some (laC P))) (nd : (P.map (·.1)).Nodup) (hx : ∀ x ∈ h :: t, x ∈ P.map (·.1)) (hl : t.length ≤ 20) (q : Q (.d (.bl (ringB (latP P) (h :: t)))) m) : wR (FIsRing [.ref k, .d (tS (h :: t))] m) Q E := by
  rw [ring_range] at q
  unfold tS
  ((show wR (runFn 2 3 (mIsRing) _ _) _ _); (refine w_run (g := [_, _, none]) (by rfl) rfl ?_); (unfold mIsRing))
  (refine w_seq (w_for (w_itA (w_cons (w_cb (w_cons (w_var rfl (w_nil ?_))))))); ((with_reducible apply wo_len); (focus (first | rfl | assumption | (simp only [lstOf, tupOf, dctOf, seqL, isL, Option.or_none, Option.some_or, Option.none_or, *]; done) | ((simp [lstOf, tupOf, dctOf, seqL, isL, *]); (first | done | rfl))))); refine w_nil ?_)
  refine wo_rng1 (by simp; omega) ?_
  rw [show (((h :: t).map Dt.str).length : Int).toNat = t.length + 1 by simp]
  unfold rangeD
  refine w_loop (fun r g m' => ∃ (b : List Nat) (y2 : Option Vl), r = b.map (fun i => Dt.int (0 + (i : Nat))) ∧ (∀ i ∈ b, i < t.length + 1) ∧ Q (.d (.bl (b.all (arcB (latP P) (h :: t)) && t.all fun x => !ltS x h))) m ∧ m' = m ∧ g = [some (.ref k), some (.d (.tup ((h :: t).map .str))), y2]) ?_ ?_ _ _ _ ⟨List.range (t.length + 1), none, rfl, (fun i hi => List.mem_range.mp hi), q, rfl, rfl⟩
  · rintro d r g m' ⟨b, y2, e1, hb, q, rfl, rfl⟩
    cases b with
    | nil => simp at e1
    | cons i b =>
    simp only [List.map_cons, List.cons.injEq] at e1
    obtain ⟨rfl, rfl⟩ := e1
    have hi := hb i (by simp)
    have hin : (h :: t).getD i "" ∈ h :: t := by rw [List.getD_eq_getElem?_getD, List.getElem?_eq_getElem (by simpa using hi)]; exact List.getElem_mem _
    have hmod : (i + 1) % (h :: t).length < (h :: t).length := Nat.mod_lt _ (by simp)
    obtain ⟨v, hlk, _⟩ := look_in (hx _ hin) nd
    have hlat : latP P ((h :: t).getD i "") = v := by unfold latP; rw [hlk]; rfl
    (((with_reducible refine w_nm ?_); (try simp only [List.set_cons_succ, List.set_cons_zero])); refine w_if (w_test (w_op (w_op (w_var rfl (w_op (w_op (w_var rfl (w_c (wo_II (w_cb (w_cons (w_var rfl (w_nil ?_))))))))))))); ((with_reducible apply wo_len); (focus (first | rfl | assumption | (simp only [lstOf, tupOf, dctOf, seqL, isL, Option.or_none, Option.some_or, Option.none_or, *]; done) | ((simp [lstOf, tupOf, dctOf, seqL, isL, *]); (first | done | rfl))))))
    refine wo_Ic (decide_eq_true (by simp)) ?_
    rw [show (0 + (i : Int) + 1) % (((h :: t).map Dt.str).length : Int) = (((i + 1) % (h :: t).length : Nat) : Int) by rw [List.length_map, Int.natCast_emod]; simp]
    refine wo_ixT (atI_nat hmod) ?_
    (refine w_op (w_var rfl (w_op (w_var rfl (w_var rfl ?_)))))
    refine wo_ixT (by rw [Int.zero_add]; exact atI_nat (by simpa using hi)) ?_
    refine wo_dget (k := .inr ((h :: t).getD i "")) (by simp only [dctOf, hk]; rfl) rfl (get_look (f := tS) hlk) ?_
    unfold tS
    refine in_tup ?_
    (refine w_B ?_)
    have ha : arcB (latP P) (h :: t) i = decide ((h :: t).getD ((i + 1) % (h :: t).length) "" ∈ v) := by unfold arcB; rw [hlat]
    rw [List.all_cons, ha] at q
    refine ⟨fun h1 => ?_, fun h1 => ?_⟩
    · have h2 : decide ((h :: t).getD ((i + 1) % (h :: t).length) "" ∈ v) = false := by simpa using h1
      rw [h2] at q
      (refine w_ret (w_c (w_Xd ?_)))
      rw [List.take_length]
      exact q
    · have h2 : decide ((h :: t).getD ((i + 1) % (h :: t).length) "" ∈ v) = true := by simpa using h1
      rw [h2, Bool.true_and] at q
      refine w_next ?_
      exact ⟨b, _, rfl, (fun j hj => hb j (List.mem_cons_of_mem _ hj)), q, rfl, rfl⟩
  · rintro g m' ⟨b, y2, e1, hb, q, rfl, rfl⟩
    have hb0 : b = [] := by cases b with | nil => rfl | cons s b => simp at e1
    subst hb0
    (refine w_ret (w_op (w_op (w_var rfl (w_c ?_)))))
    refine wo_ixT atI_head ?_
    (refine w_cb (w_cons (w_var rfl (w_nil ?_))))
    refine wo_minTS ?_
    (refine wo_eqS (w_Xd ?_))
    rw [List.take_length, min_head]
    exact q
/-! ### what the law says of them -/
theorem cnt_str {k : Str} : ∀ {xs : List Str}, (xs.map V.str).countP (fun z => eqV z (.str k)) = cntS k xs
  | [] => rfl
  | x :: xs => by
    unfold cntS
    rw [List.map_cons, List.countP_cons, List.countP_cons, cnt_str]
    rfl
theorem wo_cnt {k : Str} {xs : List Str} {Q : Vl → Prop} (q : Q (.d (.int ((cntS k xs : Nat) : Int)))) : wO (lmO fCnt m (.d (.lst (xs.map .str))) (.d (.str k))) Q := by
  refine wO_eq ?_ q
  simp only [lmO, lstOf, flats_str, flatD, fCnt, Option.map_some, cnt_str]
theorem zipKD_str {ks : List Str} : ∀ {ss : List (List Str)}, zipKD (ks.map .str) (ss.map tS) = some ((ks.zip ss).map fun q => ((Sum.inr q.1 : L2.Key), tS q.2)) := by
  induction ks with
  | nil => intro ss; cases ss <;> rfl
  | cons k ks ih =>
    intro ss
    cases ss with
    | nil => rfl
    | cons s ss =>
      show (keyOf (.d (.str k))).bind _ = _
      rw [List.zip_cons_cons, List.map_cons]
      show (some (Sum.inr k : L2.Key)).bind _ = _
      rw [Option.bind_some, ih]
      rfl
theorem merge_new {P : List (Str × List Str)} : ∀ {P2 : List (Str × List Str)}, ((P ++ P2).map (·.1)).Nodup → mergeD (P.map fun q => .inr q.1) (P.map fun q => tS q.2) (P2.map fun q => ((Sum.inr q.1 : L2.Key), tS q.2)) = ((P ++ P2).map (fun q => .inr q.1), (P ++ P2).map fun q => tS q.2)
  | [], nd => by rw [List.append_nil]; rfl
  | p :: P2, nd => by
    have hk : p.1 ∉ P.map (·.1) := fun z => by
      rw [List.map_append, List.nodup_append] at nd
      exact nd.2.2 _ z p.1 (by simp) rfl
    obtain ⟨p1, p2⟩ := put_new (f := tS) (v := p.2) hk
    rw [List.map_cons, mergeD, p1, p2, merge_new (by simpa using nd)]
    simp
termination_by P2 => P2.length
theorem w_dzip {g : Gam} {ma : MA} (h : wR (ma g m) (fun vs m1 => ∃ (ks : List Str) (ss : List (List Str)), vs = [.d (.tup (ks.map .str)), .d (.tup (ss.map tS))] ∧ ((ks.zip ss).map (·.1)).Nodup ∧ Q (.d (.dct ((ks.zip ss).map fun q => .inr q.1) ((ks.zip ss).map fun q => tS q.2))) m1) E) : wR (mDictZip ma g m) Q E :=
  w_bind (wR_mono h fun vs m1 ⟨ks, ss, e, nd, q⟩ => by
    subst e
    have e1 := merge_new (P := []) (P2 := ks.zip ss) nd
    simp only [List.map_nil, List.nil_append] at e1
    simp only [tupOf, zipKD_str, e1]
    exact wR_eq rfl q)
theorem w_dupd2 {g : Gam} {me mb : ME} {P P2 : List (Str × List Str)} (h : wR (me g m) (fun x m1 => ∃ k, x = .ref k ∧ m1[k]? = some (some (laC P)) ∧ wR (mb g m1) (fun y m2 => y = .d (.dct (P2.map fun q => .inr q.1) (P2.map fun q => tS q.2)) ∧ m2[k]? = some (some (laC P)) ∧ P.length + P2.length ≤ 10000 ∧ ((P ++ P2).map (·.1)).Nodup ∧ Q (.d .non) (m2.set k (some (laC (P ++ P2))))) E) E) : wR (mDUpd me mb g m) Q E :=
  w_bind (wR_mono h fun x m1 ⟨k, e, hk, h2⟩ => by
    subst e
    simp only [hk, laC]
    refine w_bind (wR_mono h2 fun y m2 ⟨e, hk2, hl, nd, q⟩ => ?_)
    subst e
    have e1 : ((P2.map fun q => (Sum.inr q.1 : L2.Key)).zip (P2.map fun q => tS q.2)) = P2.map fun q => ((Sum.inr q.1 : L2.Key), tS q.2) := by rw [List.zip_map]; simp [List.zip_eq_zipWith]
    unfold dUpd
    simp only [hk2, laC, List.length_map, hl, if_true, e1, merge_new nd]
    exact wR_eq rfl q)
end
end K31
namespace K31
open PySem PySem.Spec PyProof.Rows L2 FM FS
theorem rows_mem {S : List Str} : ∀ {n : Nat} {p row : List Str}, row ∈ rowsFrom S n p → (∀ x ∈ p, x ∈ S) → row.length = p.length + n ∧ ∀ x ∈ row, x ∈ S
  | 0, p, row, h, hp => by rw [List.mem_singleton.mp h]; exact ⟨rfl, hp⟩
  | n + 1, p, row, h, hp => by
    obtain ⟨q, hq, h⟩ := List.mem_flatMap.mp h
    obtain ⟨k, hk, rfl⟩ := List.mem_map.mp hq
    obtain ⟨h1, h2⟩ := rows_mem h fun x hx => by
      rcases List.mem_append.mp hx with hx | hx
      · exact hp x hx
      · rw [List.mem_singleton.mp hx]; exact (List.mem_filter.mp hk).1
    refine ⟨?_, h2⟩
    rw [h1]
    simp
    omega
theorem itr_mem {S row : List Str} {n : Nat} (h : row ∈ itr S n [[]]) : row.length = n ∧ ∀ x ∈ row, x ∈ S := by
  rw [itr_from, List.flatMap_cons, List.flatMap_nil, List.append_nil] at h
  obtain ⟨h1, h2⟩ := rows_mem h (by simp)
  exact ⟨by simpa using h1, h2⟩
section
variable {m : Cells} {Q : Vl → Cells → Prop} {E : EX}
theorem due_w {rs : List Rec} (ok : OkRs rs) (h5 : (own rs).Nodup → (own rs).length ≤ 5) (q : Q (.d (dueD rs)) m) : wR (FDue [.d (.lst (rs.map rcD))] m) Q E := by
  have hol := own_len ok.l2
  have hn := ok.n
  ((show wR (runFn 1 9 (mDue) _ _) _ _); (refine w_run (g := [_, none, none, none, none, none, none, none, none]) (by rfl) rfl ?_); (unfold mDue))
  (refine w_seq (w_asg (w_lst (w_nil ?_))); ((with_reducible apply w_dats); (focus (first | ((simp only [dats, Option.map_some]); rfl) | rfl))); ((with_reducible refine w_sz ?_ ?_); (focus (first | (simp; done) | (simp; omega)))); ((with_reducible refine w_nm ?_); (try simp only [List.set_cons_succ, List.set_cons_zero])); refine w_seq (w_for (w_it (w_var rfl (wo_lst ?_)))))
  refine w_loop (fun r g m' => ∃ (a b : List Rec) (y2 y3 : Option Vl), rs = a ++ b ∧ r = b.map rcD ∧ m' = m ∧ g = [some (.d (.lst (rs.map rcD))), some (.d (.lst ((own a).map .str))), y2, y3, none, none, none, none, none]) ?_ ?_ _ _ _ ⟨[], rs, none, none, rfl, rfl, rfl, rfl⟩
  · rintro d r g m' ⟨a, b, y2, y3, e1, e2, rfl, rfl⟩
    cases b with
    | nil => simp at e2
    | cons r1 b =>
    simp only [List.map_cons, List.cons.injEq] at e2
    obtain ⟨rfl, rfl⟩ := e2
    have hle : (own a).length + r1.1.length ≤ (own rs).length := by
      rw [e1]
      unfold own
      rw [List.flatMap_append, List.flatMap_cons]
      simp
    rw [show rcD r1 = .tup [.tup (r1.1.map .str), .tup (r1.2.map fun s => .tup (s.map .str))] from rfl]
    (((with_reducible refine w_gtp ?_ ?_); (focus (first | rfl | (simp; done)))); refine w_gcons ?_; ((with_reducible refine w_nm ?_); (try simp only [List.set_cons_succ, List.set_cons_zero])); refine w_gcons ?_; ((with_reducible refine w_nm ?_); (try simp only [List.set_cons_succ, List.set_cons_zero])); refine w_gnil (w_asg (w_op (w_var rfl (w_cl (w_cons (w_var rfl (w_nil ?_))))))); ((with_reducible apply wo_list); (focus (first | rfl | assumption | (simp only [lstOf, tupOf, dctOf, seqL, isL, Option.or_none, Option.some_or, Option.none_or, *]; done) | ((simp [lstOf, tupOf, dctOf, seqL, isL, *]); (first | done | rfl))))))
    refine wo_catL rfl rfl (by simp only [List.length_map]; omega) ?_
    (((with_reducible refine w_nm ?_); (try simp only [List.set_cons_succ, List.set_cons_zero])))
    exact ⟨a ++ [r1], b, _, _, by rw [e1]; simp, rfl, trivial, by rw [show own (a ++ [r1]) = own a ++ r1.1 by unfold own; simp, List.map_append]⟩
  · rintro g m' ⟨a, b, y2, y3, e1, e2, rfl, rfl⟩
    have hb0 : b = [] := by cases b with | nil => rfl | cons s b => simp at e2
    subst hb0
    rw [List.append_nil] at e1
    subst e1
    (refine w_seq (w_asg (w_cl (w_cons (w_lc (w_it (w_var rfl (wo_lst ?_))))))))
    refine w_lcFilA Dt.str (fun k => decide (1 < cntS k (own rs))) Dt.str (fun k hk => ?_) (by omega) ?_
    · (((with_reducible refine w_nm ?_); (try simp only [List.set_cons_succ, List.set_cons_zero])); refine w_test (w_op ?_))
      refine w_lm ?_
      (refine w_var rfl ?_)
      refine ⟨_, rfl, ?_⟩
      (refine w_var rfl ?_)
      refine wo_cnt ?_
      (refine w_c (wo_IB (w_B ?_)))
      refine ⟨fun h => ⟨?_, ?_⟩, fun h => ⟨?_, rfl⟩⟩
      · have := of_decide_eq_true h; exact decide_eq_true (by omega)
      · (refine w_var rfl ?_)
        exact ⟨rfl, rfl⟩
      · have := of_decide_eq_false h; exact decide_eq_false (by omega)
    rw [show ((own rs).filter fun k => decide (1 < cntS k (own rs))) = dups (own rs) from rfl]
    have hdl : (dups (own rs)).length ≤ (own rs).length := List.length_filter_le _ _
    (refine w_nil ?_)
    refine wo_sortS (ns := dups (own rs)) rfl (by omega) ?_
    (((with_reducible refine w_nm ?_); (try simp only [List.set_cons_succ, List.set_cons_zero])); refine w_seq (w_if (w_test (w_op (w_var rfl (w_lst (w_nil ?_)))))); ((with_reducible apply w_dats); (focus (first | ((simp only [dats, Option.map_some]); rfl) | rfl))); ((with_reducible refine w_sz ?_ ?_); (focus (first | (simp; done) | (simp; omega)))); ((with_reducible apply wo_nil); (focus (first | rfl | assumption | (simp only [lstOf, tupOf, dctOf, seqL, isL, Option.or_none, Option.some_or, Option.none_or, *]; done) | ((simp [lstOf, tupOf, dctOf, seqL, isL, *]); (first | done | rfl))))); refine w_B ?_)
    have hh := head_sort (xs := dups (own rs))
    have hd : dueD rs = (twD (sortU (dups (own rs)))).getD (ringD (ringF (sortW (own rs)) (latP (prs rs)) (own rs).length)) := rfl
    cases e : sortW (dups (own rs)) with
    | cons z r =>
      rw [e] at hh
      cases e' : sortU (dups (own rs)) with
      | nil => rw [e'] at hh; cases hh
      | cons z' r' =>
      rw [e'] at hh hd
      injection hh with hh
      subst hh
      refine ⟨fun _ => ?_, fun h => (by cases h)⟩
      (refine w_ret (w_tup (w_cons (w_c (w_cons (w_op (w_var rfl (w_c ?_))))))))
      refine wo_ixL (d := .str z) rfl atI_head ?_
      (refine w_nil ?_; ((with_reducible apply w_dats); (focus (first | ((simp only [dats, Option.map_some]); rfl) | rfl))); ((with_reducible refine w_sz ?_ ?_); (focus (first | (simp; done) | (simp; omega)))); refine w_Xd ?_)
      rw [List.take_length]
      rw [hd] at q
      exact q
    | nil =>
      rw [e] at hh
      cases e' : sortU (dups (own rs)) with
      | cons z' r' => rw [e'] at hh; cases hh
      | nil =>
      have nd := nodup_of e'
      have h5 := h5 nd
      rw [e'] at hd
      rw [hd] at q
      refine ⟨fun h => (by cases h), fun _ => ?_⟩
      refine w_next ?_
      (refine w_seq (w_asg (w_dnew ?_)); ((with_reducible refine w_nm ?_); (try simp only [List.set_cons_succ, List.set_cons_zero])); refine w_seq (w_for (w_it (w_var rfl (wo_lst ?_)))))
      have nk : ((prs rs).map (·.1)).Nodup := by rw [prs_keys ok.l]; exact nd
      have hpl : (prs rs).length = (own rs).length := by rw [← prs_keys ok.l]; simp
      refine w_loop (fun r g m2 => ∃ (a b : List Rec) (y2 y3 y4 y5 y7 y8 : Option Vl), rs = a ++ b ∧ r = b.map rcD ∧ m2 = m' ++ [some (laC (prs a))] ∧ g = [some (.d (.lst (rs.map rcD))), some (.d (.lst ((own rs).map .str))), y2, y3, y4, y5, some (.ref m'.length), y7, y8]) ?_ ?_ _ _ _ ⟨[], rs, _, _, _, _, _, _, rfl, rfl, rfl, rfl⟩
      · rintro d r g m2 ⟨a, b, y2, y3, y4, y5, y7, y8, e1, e2, rfl, rfl⟩
        cases b with
        | nil => simp at e2
        | cons r1 b =>
        simp only [List.map_cons, List.cons.injEq] at e2
        obtain ⟨rfl, rfl⟩ := e2
        have hap : prs (a ++ [r1]) = prs a ++ r1.1.zip r1.2 := by unfold prs; rw [List.flatMap_append, List.flatMap_cons, List.flatMap_nil, List.append_nil]
        have hnd : ((prs (a ++ [r1])).map (·.1)).Nodup := by
          have : prs rs = prs (a ++ [r1]) ++ prs b := by rw [e1]; unfold prs; simp
          rw [this, List.map_append, List.nodup_append] at nk
          exact nk.1
        have hnz : ((r1.1.zip r1.2).map (·.1)).Nodup := by
          rw [hap, List.map_append, List.nodup_append] at hnd
          exact hnd.2.1
        have hll : (prs a).length + (r1.1.zip r1.2).length ≤ (prs rs).length := by
          rw [e1]
          unfold prs
          rw [List.flatMap_append, List.flatMap_cons, List.length_append, List.length_append]
          omega
        rw [show rcD r1 = .tup [.tup (r1.1.map .str), .tup (r1.2.map tS)] from rfl]
        (((with_reducible refine w_gtp ?_ ?_); (focus (first | rfl | (simp; done)))); refine w_gcons ?_; ((with_reducible refine w_nm ?_); (try simp only [List.set_cons_succ, List.set_cons_zero])); refine w_gcons ?_; ((with_reducible refine w_nm ?_); (try simp only [List.set_cons_succ, List.set_cons_zero])); refine w_gnil (w_drop ?_))
        refine w_dupd2 (P := prs a) (P2 := r1.1.zip r1.2) ?_
        (refine w_var rfl ?_)
        refine ⟨_, rfl, get_last, ?_⟩
        (refine w_dzip (w_cons (w_var rfl (w_cons (w_var rfl (w_nil ?_))))))
        refine ⟨r1.1, r1.2, rfl, hnz, rfl, get_last, by omega, by rw [← hap]; exact hnd, ?_⟩
        rw [set_last]
        exact ⟨a ++ [r1], b, _, _, _, _, _, _, by rw [e1]; simp, rfl, by rw [hap], rfl⟩
      · rintro g m2 ⟨a, b, y2, y3, y4, y5, y7, y8, e1, e2, rfl, rfl⟩
        have hb0 : b = [] := by cases b with | nil => rfl | cons s b => simp at e2
        subst hb0
        rw [List.append_nil] at e1
        subst e1
        (refine w_seq (w_for (w_itA (w_cons (w_c (w_cons (w_op (w_cb (w_cons (w_var rfl (w_nil ?_)))))))))); ((with_reducible apply wo_len); (focus (first | rfl | assumption | (simp only [lstOf, tupOf, dctOf, seqL, isL, Option.or_none, Option.some_or, Option.none_or, *]; done) | ((simp [lstOf, tupOf, dctOf, seqL, isL, *]); (first | done | rfl))))); refine w_c (wo_II (w_nil ?_)))
        refine wo_rng2 (by decide) (by simp; omega) ?_
        rw [show (((own rs).map Dt.str).length : Int) + 1 - 1 = (((own rs).length : Nat) : Int) by simp, Int.toNat_natCast]
        unfold rangeD
        have q1 : Q (.d (ringD ((List.range (own rs).length).findSome? fun i => (itr (sortW (own rs)) (i + 1) [[]]).find? (ringB (latP (prs rs)))))) m' := by
          rw [findSome_congr (g := fun i => (sortW (own rs)).findSome? fun k => thr (sortW (own rs)) (latP (prs rs)) i [k]) (fun i _ => rows_find (rise_sortW nd) i)]
          exact q
        refine w_loop (fun r g m2 => ∃ (b : List Nat) (y2 y3 y4 y5 y7 y8 : Option Vl), r = b.map (fun i => Dt.int (1 + (i : Nat))) ∧ (∀ i ∈ b, i < (own rs).length) ∧ Q (.d (ringD (b.findSome? fun i => (itr (sortW (own rs)) (i + 1) [[]]).find? (ringB (latP (prs rs)))))) m' ∧ m2 = m' ++ [some (laC (prs rs))] ∧ g = [some (.d (.lst (rs.map rcD))), some (.d (.lst ((own rs).map .str))), y2, y3, y4, y5, some (.ref m'.length), y7, y8]) ?_ ?_ _ _ _ ⟨List.range (own rs).length, _, _, _, _, _, _, rfl, (fun i hi => List.mem_range.mp hi), q1, rfl, rfl⟩
        · rintro d r g m2 ⟨b, y2, y3, y4, y5, y7, y8, e1, hb, q, rfl, rfl⟩
          cases b with
          | nil => simp at e1
          | cons i b =>
          simp only [List.map_cons, List.cons.injEq] at e1
          obtain ⟨rfl, rfl⟩ := e1
          have hi := hb i (by simp)
          (((with_reducible refine w_nm ?_); (try simp only [List.set_cons_succ, List.set_cons_zero])); refine w_for (w_it (w_call (w_cons (w_cl (w_cons (w_var rfl (w_nil ?_))))))))
          refine wo_sortS (ns := own rs) rfl (by omega) ?_
          (refine w_cons (w_var rfl (w_nil ?_)))
          rw [show (1 + ((i : Nat) : Int)) = ((i + 1 : Nat) : Int) by omega]
          have hsl : (sortW (own rs)).length = (own rs).length := (sortW_perm _).length_eq
          refine rows_w (by omega) (by omega) ?_
          (refine wo_lst ?_)
          have q2 : Q (.d (ringD (((itr (sortW (own rs)) (i + 1) [[]]).find? (ringB (latP (prs rs)))).or (b.findSome? fun i => (itr (sortW (own rs)) (i + 1) [[]]).find? (ringB (latP (prs rs))))))) m' := by
            rw [List.findSome?_cons] at q
            cases e : (itr (sortW (own rs)) (i + 1) [[]]).find? (ringB (latP (prs rs))) with
            | none => rw [e] at q; exact q
            | some r => rw [e] at q; exact q
          refine w_loop (fun r g m2 => ∃ (c : List (List Str)) (y2 y3 y4 y5 y7 y8 : Option Vl), r = c.map tS ∧ (∀ p ∈ c, p.length = i + 1 ∧ ∀ x ∈ p, x ∈ sortW (own rs)) ∧ Q (.d (ringD ((c.find? (ringB (latP (prs rs)))).or (b.findSome? fun i => (itr (sortW (own rs)) (i + 1) [[]]).find? (ringB (latP (prs rs))))))) m' ∧ m2 = m' ++ [some (laC (prs rs))] ∧ g = [some (.d (.lst (rs.map rcD))), some (.d (.lst ((own rs).map .str))), y2, y3, y4, y5, some (.ref m'.length), y7, y8]) ?_ ?_ _ _ _ ⟨_, _, _, _, _, _, _, rfl, (fun p hp => itr_mem hp), q2, rfl, rfl⟩
          · rintro d r g m2 ⟨c, y2, y3, y4, y5, y7, y8, e1, hc, q, rfl, rfl⟩
            cases c with
            | nil => simp at e1
            | cons p c =>
            simp only [List.map_cons, List.cons.injEq] at e1
            obtain ⟨rfl, rfl⟩ := e1
            obtain ⟨hpl1, hpx⟩ := hc p (by simp)
            have hc' : ∀ p ∈ c, p.length = i + 1 ∧ ∀ x ∈ p, x ∈ sortW (own rs) := fun z hz => hc z (List.mem_cons_of_mem _ hz)
            cases p with
            | nil => simp at hpl1
            | cons h t =>
            (((with_reducible refine w_nm ?_); (try simp only [List.set_cons_succ, List.set_cons_zero])); refine w_if (w_test (w_call (w_cons (w_var rfl (w_cons (w_var rfl (w_nil ?_))))))))
            refine isring_w get_last nk (fun x hx => by rw [prs_keys ok.l]; exact mem_sortW.mp (hpx x hx)) (by simp at hpl1; omega) ?_
            rw [List.find?_cons] at q
            cases er : ringB (latP (prs rs)) (h :: t) with
            | true =>
              rw [er] at q
              (refine w_B (w_tt (w_ret (w_tup (w_cons (w_c (w_cons (w_var rfl (w_nil ?_)))))))); ((with_reducible apply w_dats); (focus (first | ((simp only [dats, Option.map_some]); rfl) | rfl))); ((with_reducible refine w_sz ?_ ?_); (focus (first | (simp; done) | (simp; omega)))); refine w_Xd ?_)
              rw [List.take_left]
              exact q
            | false =>
              rw [er] at q
              (refine w_B (w_ff (w_next ?_)))
              exact ⟨c, _, _, _, _, _, _, rfl, hc', q, rfl, rfl⟩
          · rintro g m2 ⟨c, y2, y3, y4, y5, y7, y8, e1, hc, q, rfl, rfl⟩
            have hb0 : c = [] := by cases c with | nil => rfl | cons s b => simp at e1
            subst hb0
            exact ⟨b, _, _, _, _, _, _, rfl, (fun z hz => hb z (List.mem_cons_of_mem _ hz)), q, rfl, rfl⟩
        · rintro g m2 ⟨b, y2, y3, y4, y5, y7, y8, e1, hb, q, rfl, rfl⟩
          have hb0 : b = [] := by cases b with | nil => rfl | cons s b => simp at e1
          subst hb0
          (refine w_ret (w_c (w_Xd ?_)))
          rw [List.take_left]
          exact q
end
end K31
namespace K31
open PySem PySem.Spec PyProof.Rows L2 FM FS
theorem erase_map {α β : Type} {f : α → β} {xs : List α} {i : Nat} : (xs.map f).eraseIdx i = (xs.eraseIdx i).map f := by
  rw [List.eraseIdx_eq_take_drop_succ, List.eraseIdx_eq_take_drop_succ, List.map_append, List.map_take, List.map_drop]
theorem w_lcVI {m0 : ME} {mg : MG} {mt : MT} {me : ME} {own : List Nat} {g : Gam} {m : Cells} {Q : Vl → Cells → Prop} {E : EX} {k : Nat} {ds : List Dt} (I : List Dt → List Dt → Cells → Prop)
    (h : wR (m0 g m) (fun x m1 => x = .ref k ∧ I ds [] m1) E) (hk : ∀ r acc m, I r acc m → isL m[k]? = some ds)
    (hs : ∀ x r acc m, I (x :: r) acc m → wO (mg (.d x) (wipeG g own) m) fun p => wR (mt p.1 p.2) (fun b m2 => (b = true → wR (me p.1 m2) (fun v m3 => ∃ d, v = .d d ∧ szOk (acc.length + 1) = true ∧ I r (acc ++ [d]) m3) eNo) ∧ (b = false → I r acc m2)) eNo)
    (he : ∀ acc m, I [] acc m → Q (.d (.lst acc)) m) : wR (mLcV m0 mg mt me own g m) Q E := by
  have go : ∀ (xs acc : List Dt) (m : Cells), I xs acc m → wR (lcLoopV k ds mg mt me (wipeG g own) xs acc m) (fun acc m2 => Q (.d (.lst acc)) m2) E := by
    intro xs
    induction xs with
    | nil =>
      intro acc m hi
      unfold lcLoopV
      rw [if_pos (hk _ _ _ hi)]
      exact wR_eq rfl (he acc m hi)
    | cons x r ih =>
      intro acc m hi
      unfold lcLoopV
      rw [if_pos (hk _ _ _ hi)]
      obtain ⟨p, e, h1⟩ := wO_ok (hs x r acc m hi)
      simp only [e]
      obtain ⟨b, m2, e2, h2⟩ := wR_ok h1
      simp only [e2]
      cases b with
      | false => exact ih acc m2 (h2.2 rfl)
      | true =>
        obtain ⟨v, m3, e3, d, rfl, h3, h4⟩ := wR_ok (h2.1 rfl)
        simp only [e3, h3, if_true]
        exact ih (acc ++ [d]) m3 h4
  refine w_bind (wR_mono h fun x m1 ⟨e, hi⟩ => ?_)
  subst e
  simp only [hk _ _ _ hi]
  exact w_bind (wR_mono (go _ _ _ hi) fun acc m2 h => wR_eq rfl h)
theorem w_popAt {k : Nat} {m : Cells} {ds : List Dt} {i : Int} {d : Dt} {Q : Vl → Cells → Prop} (h : m[k]? = some (some (.lst ds))) (h0 : 0 ≤ i) (h1 : i < ds.length) (h2 : ds.length < 1000000) (hd : ds[i.toNat]? = some d) (q : Q (.d d) (m.set k (some (.lst (ds.eraseIdx i.toNat))))) : wMl fPopAt k m [.d (.int i)] Q :=
  w_Ml (p := (.d d, ds.eraseIdx i.toNat)) (by rw [h]; rfl) (by unfold fPopAt; simp only [h0, h1, h2, and_self, if_true, hd, Option.map_some]) q
/-- where the records are made: what was there ahead, the list of records -/
structure RI (m : Cells) (k : Nat) (x : Cell) (acc : List Dt) (m' : Cells) : Prop where
  old : m'.take m.length = m.set k (some x)
  f : m'[m.length]? = some (some (.lst acc))
  x : stX x
section
variable {m m' : Cells} {k j : Nat} {x y : Cell} {acc acc' : List Dt} {c : Option Cell}
theorem RI.lt (h : RI m k x acc m') : m.length < m'.length := lt_of h.f
theorem RI.get (h : RI m k x acc m') (hk : k < m.length) : m'[k]? = some (some x) := by
  have : (m'.take m.length)[k]? = m'[k]? := by rw [List.getElem?_take]; simp [hk]
  rw [← this, h.old, List.getElem?_set_self hk]
theorem RI.st (h : RI m k x acc m') (hk : k < m.length) : stOk m' k := ⟨x, h.get hk, h.x⟩
theorem RI.setk (h : RI m k x acc m') (hk : k < m.length) (hy : stX y) : RI m k y acc (m'.set k (some y)) := by
  refine ⟨?_, ?_, hy⟩
  · rw [List.take_set, h.old, List.set_set]
  · rw [List.getElem?_set_ne (by omega)]; exact h.f
theorem RI.app (h : RI m k x acc m') : RI m k x acc (m' ++ [c]) := by
  have := h.lt
  refine ⟨?_, ?_, h.x⟩
  · rw [List.take_append_of_le_length (by omega)]; exact h.old
  · rw [List.getElem?_append_left this]; exact h.f
theorem RI.setj (h : RI m k x acc m') (hj : m.length < j) : RI m k x acc (m'.set j c) := by
  refine ⟨?_, ?_, h.x⟩
  · rw [List.take_set, List.set_eq_of_length_le (by rw [List.length_take]; omega)]; exact h.old
  · rw [List.getElem?_set_ne (by omega)]; exact h.f
theorem RI.setf (h : RI m k x acc m') : RI m k x acc' (m'.set m.length (some (.lst acc'))) := by
  refine ⟨?_, ?_, h.x⟩
  · rw [List.take_set, List.set_eq_of_length_le (by rw [List.length_take]; omega)]; exact h.old
  · rw [List.getElem?_set_self h.lt]
end
structure OkIn (ks : List Str) (r : Rec) : Prop where
  l : r.1.length = r.2.length
  l2 : r.1.length ≤ 2
  s : ∀ s ∈ r.2, s.length ≤ 5
  k : ∀ z ∈ r.1, z ∈ ks
  ks : ∀ s ∈ r.2, ∀ z ∈ s, z ∈ ks
section
variable {m : Cells} {Q : Vl → Cells → Prop} {E : EX}
theorem records_w {ks : List Str} {k n : Nat} (hks : ks.length ≤ 5) (hn : n ≤ 5) (hst : stOk m k) (q : ∀ (rs : List Rec) (x : Cell), rs.length = n → (∀ r ∈ rs, OkIn ks r) → stX x → Q (.d (.lst (rs.map rcD))) (m.set k (some x))) : wR (FRecords [.ref k, .d (.lst (ks.map .str)), .d (.int n)] m) Q E := by
  have hk := hst.lt
  obtain ⟨x0, hk0, hx0⟩ := hst
  have e0 : m.set k (some x0) = m := by
    obtain ⟨h1, e1⟩ := List.getElem?_eq_some_iff.mp hk0
    rw [← e1, List.set_getElem_self]
  ((show wR (runFn 3 11 (mRecords) _ _) _ _); (refine w_run (g := [_, _, _, none, none, none, none, none, none, none, none]) (by rfl) rfl ?_); (unfold mRecords))
  (refine w_seq (w_asg (w_lstC (w_nil ?_))); ((with_reducible apply w_dats); (focus (first | ((simp only [dats, Option.map_some]); rfl) | rfl))); ((with_reducible refine w_sz ?_ ?_); (focus (first | (simp; done) | (simp; omega)))); ((with_reducible refine w_nm ?_); (try simp only [List.set_cons_succ, List.set_cons_zero])); refine w_seq (w_for (w_itA (w_cons (w_var rfl (w_nil ?_))))))
  refine wo_rng1 (by omega) ?_
  rw [Int.toNat_natCast]
  refine w_loop (fun r g m' => ∃ (rs : List Rec) (x : Cell) (y4 y5 y6 y7 y8 y9 y10 : Option Vl), rs.length + r.length = n ∧ (∀ r ∈ rs, OkIn ks r) ∧ RI m k x (rs.map rcD) m' ∧ g = [some (.ref k), some (.d (.lst (ks.map .str))), some (.d (.int n)), some (.ref m.length), y4, y5, y6, y7, y8, y9, y10]) ?_ ?_ _ _ _ ⟨[], x0, none, none, none, none, none, none, none, by rw [rangeD_len]; simp, by simp, ⟨by rw [List.take_left, e0], get_last, hx0⟩, rfl⟩
  · rintro d r g m' ⟨rs, x, y4, y5, y6, y7, y8, y9, y10, hrl, hok, R, rfl⟩
    rw [List.length_cons] at hrl
    have hml := R.lt
    (((with_reducible refine w_nm ?_); (try simp only [List.set_cons_succ, List.set_cons_zero])); refine w_seq (w_asg (w_clC (w_cons (w_var rfl (w_nil ?_))))); ((with_reducible apply wo_list); (focus (first | rfl | assumption | (simp only [lstOf, tupOf, dctOf, seqL, isL, Option.or_none, Option.some_or, Option.none_or, *]; done) | ((simp [lstOf, tupOf, dctOf, seqL, isL, *]); (first | done | rfl))))); ((with_reducible refine w_nm ?_); (try simp only [List.set_cons_succ, List.set_cons_zero])); refine w_seq (w_asg (w_lstC (w_nil ?_))); ((with_reducible apply w_dats); (focus (first | ((simp only [dats, Option.map_some]); rfl) | rfl))); ((with_reducible refine w_sz ?_ ?_); (focus (first | (simp; done) | (simp; omega)))); ((with_reducible refine w_nm ?_); (try simp only [List.set_cons_succ, List.set_cons_zero])); refine w_seq (w_for (w_itA (w_cons (w_call (w_cons (w_var rfl (w_cons (w_c (w_nil ?_))))))))))
    have ga : (m' ++ [some (Cell.lst (ks.map Dt.str))] ++ [some (Cell.lst [])])[m'.length]? = some (some (Cell.lst (ks.map Dt.str))) := by rw [List.getElem?_append_left (by simp), get_last]
    have gb : (m' ++ [some (Cell.lst (ks.map Dt.str))] ++ [some (Cell.lst [])])[(m' ++ [some (Cell.lst (ks.map Dt.str))]).length]? = some (some (Cell.lst [])) := get_last
    have R2 : RI m k x (rs.map rcD) (m' ++ [some (Cell.lst (ks.map Dt.str))] ++ [some (Cell.lst [])]) := R.app.app
    have hB : (m' ++ [some (Cell.lst (ks.map Dt.str))]).length = m'.length + 1 := by simp
    have hL : (m' ++ [some (Cell.lst (ks.map Dt.str))] ++ [some (Cell.lst [])]).length = m'.length + 2 := by simp
    generalize (m' ++ [some (Cell.lst (ks.map Dt.str))] ++ [some (Cell.lst [])]) = m2 at ga gb R2 hL ⊢
    generalize (m' ++ [some (Cell.lst (ks.map Dt.str))]).length = B at gb hB ⊢
    generalize m'.length = A at ga hB hml hL ⊢
    refine digit_w (R2.st hk) (by decide) (by decide) fun r1 xa a0 a1 hxa => ?_
    have R3 := R2.setk hk hxa
    have ga3 : (m2.set k (some xa))[A]? = some (some (Cell.lst (ks.map Dt.str))) := by rw [List.getElem?_set_ne (by omega)]; exact ga
    have gb3 : (m2.set k (some xa))[B]? = some (some (Cell.lst [])) := by rw [List.getElem?_set_ne (by omega)]; exact gb
    (refine w_nil ?_)
    refine wo_rng1 (by omega) ?_
    refine w_loop (fun r g m'' => ∃ (x : Cell) (fr ow : List Str) (y7 : Option Vl), RI m k x (rs.map rcD) m'' ∧ m''.length = A + 2 ∧ m''[A]? = some (some (.lst (fr.map .str))) ∧ m''[B]? = some (some (.lst (ow.map .str))) ∧ (∀ z ∈ fr, z ∈ ks) ∧ (∀ z ∈ ow, z ∈ ks) ∧ fr.length + ow.length = ks.length ∧ ow.length + r.length ≤ 2 ∧ g = [some (.ref k), some (.d (.lst (ks.map .str))), some (.d (.int n)), some (.ref m.length), some (.d d), some (.ref A), some (.ref B), y7, y8, y9, y10]) ?_ ?_ _ _ _ ⟨xa, ks, [], _, R3, by rw [List.length_set]; exact hL, ga3, gb3, (fun z h => h), by simp, by simp, by rw [rangeD_len]; simp; omega, rfl⟩
    · rintro d2 r2 g2 m2 ⟨x, fr, ow, y7, R, hL, ga, gb, hf, ho, hl, hol, rfl⟩
      rw [List.length_cons] at hol
      (((with_reducible refine w_nm ?_); (try simp only [List.set_cons_succ, List.set_cons_zero])); refine w_if (w_test (w_op (w_var rfl (w_lst (w_nil ?_))))); ((with_reducible apply w_dats); (focus (first | ((simp only [dats, Option.map_some]); rfl) | rfl))); ((with_reducible refine w_sz ?_ ?_); (focus (first | (simp; done) | (simp; omega)))))
      refine wo_nil (by simp only [seqL, ga]; rfl) ?_
      (refine w_B ?_)
      refine ⟨fun h => ?_, fun h => ?_⟩
      · have hfl : 0 < fr.length := by cases fr with | nil => cases h | cons a b => simp
        refine w_drop (w_app ?_)
        (refine w_var rfl ?_; ((with_reducible apply w_rl); (focus (first | rfl | assumption | (simp only [lstOf, tupOf, dctOf, seqL, isL, Option.or_none, Option.some_or, Option.none_or, *]; done) | ((simp [lstOf, tupOf, dctOf, seqL, isL, *]); (first | done | rfl))))); refine w_cons ?_)
        refine w_m ?_
        (refine w_var rfl ?_)
        refine ⟨A, rfl, ⟨_, by rw [ga]; rfl⟩, ?_⟩
        (refine w_cons (w_call (w_cons (w_var rfl (w_cons (w_cb (w_cons (w_var rfl (w_nil ?_)))))))))
        refine wO_eq (a := .d (.int (fr.length : Nat))) (by simp [nLen, lstOf, ga]) ?_
        (refine w_nil ?_)
        refine digit_w (R.st hk) (by omega) (by omega) fun r3 xb b0 b1 hxb => ?_
        have R3 := R.setk hk hxb
        have ga3 : (m2.set k (some xb))[A]? = some (some (Cell.lst (fr.map Dt.str))) := by rw [List.getElem?_set_ne (by omega)]; exact ga
        have gb3 : (m2.set k (some xb))[B]? = some (some (Cell.lst (ow.map Dt.str))) := by rw [List.getElem?_set_ne (by omega)]; exact gb
        (refine w_nil ?_)
        have hr3 : r3.toNat < fr.length := by omega
        refine w_popAt (d := .str (fr[r3.toNat])) ga3 b0 (by simpa using b1) (by simp; omega) (by rw [List.getElem?_map, List.getElem?_eq_getElem hr3]; rfl) ?_
        (refine w_nil ?_)
        have hAl : A < (m2.set k (some xb)).length := lt_of ga3
        have hBl : B < (m2.set k (some xb)).length := lt_of gb3
        refine ⟨_, _, rfl, by rw [List.getElem?_set_ne (by omega)]; exact gb3, by simp; omega, ?_⟩
        refine ⟨xb, fr.eraseIdx r3.toNat, ow ++ [fr[r3.toNat]], _, (R3.setj (by omega)).setj (by omega), by simp; exact hL, ?_, ?_, fun z hz => hf z (List.mem_of_mem_eraseIdx hz), ?_, ?_, by simp; omega, rfl⟩
        · rw [List.getElem?_set_ne (by omega), List.getElem?_set_self hAl, erase_map]
        · rw [List.getElem?_set_self (by rw [List.length_set]; exact hBl)]; simp
        · intro z hz
          rcases List.mem_append.mp hz with hz | hz
          · exact ho z hz
          · rw [List.mem_singleton.mp hz]; exact hf _ (List.getElem_mem hr3)
        · rw [List.length_eraseIdx_of_lt hr3, List.length_append]; simp; omega
      · refine w_next ?_
        exact ⟨x, fr, ow, _, R, hL, ga, gb, hf, ho, hl, by omega, rfl⟩
    · rintro g2 m2 ⟨x, fr, ow, y7, R, hL, ga, gb, hf, ho, hl, hol, rfl⟩
      (refine w_seq (w_asg (w_lstC (w_nil ?_))); ((with_reducible apply w_dats); (focus (first | ((simp only [dats, Option.map_some]); rfl) | rfl))); ((with_reducible refine w_sz ?_ ?_); (focus (first | (simp; done) | (simp; omega)))); ((with_reducible refine w_nm ?_); (try simp only [List.set_cons_succ, List.set_cons_zero])); refine w_seq (w_for (w_itA (w_cons (w_cb (w_cons (w_var rfl (w_nil ?_))))))))
      have R2 : RI m k x (rs.map rcD) (m2 ++ [some (Cell.lst [])]) := R.app
      have ga2 : (m2 ++ [some (Cell.lst [])])[A]? = some (some (Cell.lst (fr.map .str))) := by rw [List.getElem?_append_left (lt_of ga)]; exact ga
      have gb2 : (m2 ++ [some (Cell.lst [])])[B]? = some (some (Cell.lst (ow.map .str))) := by rw [List.getElem?_append_left (lt_of gb)]; exact gb
      have gc2 : (m2 ++ [some (Cell.lst [])])[m2.length]? = some (some (Cell.lst [])) := get_last
      generalize m2 ++ [some (Cell.lst [])] = m3 at R2 ga2 gb2 gc2 ⊢
      have hC : m2.length = A + 2 := hL
      generalize m2.length = C at gc2 hC ⊢
      refine wO_eq (a := .d (.int (ow.length : Nat))) (by simp [nLen, lstOf, gb2]) ?_
      (refine w_nil ?_)
      refine wo_rng1 (by omega) ?_
      rw [Int.toNat_natCast]
      unfold rangeD
      refine w_loop (fun r g m'' => ∃ (b : List Nat) (x : Cell) (ss : List (List Str)) (y7 y9 y10 : Option Vl), r = b.map (fun i => Dt.int (0 + (i : Nat))) ∧ RI m k x (rs.map rcD) m'' ∧ m''[A]? = some (some (.lst (fr.map .str))) ∧ m''[B]? = some (some (.lst (ow.map .str))) ∧ m''[C]? = some (some (.lst (ss.map tS))) ∧ (∀ s ∈ ss, s.length ≤ 5 ∧ ∀ z ∈ s, z ∈ ks) ∧ ss.length + b.length = ow.length ∧ g = [some (.ref k), some (.d (.lst (ks.map .str))), some (.d (.int n)), some (.ref m.length), some (.d d), some (.ref A), some (.ref B), y7, some (.ref C), y9, y10]) ?_ ?_ _ _ _ ⟨List.range ow.length, x, [], _, _, _, rfl, R2, ga2, gb2, gc2, by simp, by simp, rfl⟩
      · rintro d3 r3 g3 m3 ⟨b, x, ss, y7, y9, y10, e1, R, ga, gb, gc, hss, hsl, rfl⟩
        cases b with
        | nil => simp at e1
        | cons j b =>
        simp only [List.map_cons, List.cons.injEq] at e1
        obtain ⟨rfl, rfl⟩ := e1
        rw [List.length_cons] at hsl
        (((with_reducible refine w_nm ?_); (try simp only [List.set_cons_succ, List.set_cons_zero])); refine w_seq (w_asg (w_op (w_sl (w_var rfl (w_part (w_op (w_var rfl (w_c (wo_II (w_i1 (w_noP ?_))))))))))))
        refine wo_slL (ds := ow.map .str) (by simp [lstOf, gb]) ?_
        rw [show (0 + (j : Int) + 1) = ((j + 1 : Nat) : Int) by omega, cut_from, ← List.map_drop]
        refine w_lcVI (k := A) (ds := fr.map .str) (fun r acc m'' => ∃ (x : Cell) (c1 c2 cs : List Str), fr = c1 ++ c2 ∧ r = c2.map .str ∧ acc = cs.map .str ∧ cs.length ≤ c1.length ∧ (∀ z ∈ cs, z ∈ ks) ∧ RI m k x (rs.map rcD) m'' ∧ m''[A]? = some (some (.lst (fr.map .str))) ∧ m''[B]? = some (some (.lst (ow.map .str))) ∧ m''[C]? = some (some (.lst (ss.map tS)))) ?_ ?_ ?_ ?_
        · (refine w_var rfl ?_)
          exact ⟨rfl, x, [], fr, [], rfl, rfl, rfl, Nat.le_refl _, by simp, R, ga, gb, gc⟩
        · rintro r acc m'' ⟨x, c1, c2, cs, e1, e2, e3, e4, e5, R, ga, gb, gc⟩
          rw [ga]; rfl
        · rintro dx r acc m'' ⟨x, c1, c2, cs, e1, e2, e3, e4, e5, R, ga, gb, gc⟩
          cases c2 with
          | nil => simp at e2
          | cons z c2 =>
          simp only [List.map_cons, List.cons.injEq] at e2
          obtain ⟨rfl, rfl⟩ := e2
          (((with_reducible refine w_nm ?_); (try simp only [List.set_cons_succ, List.set_cons_zero])); refine w_test (w_op (w_call (w_cons (w_var rfl (w_cons (w_c (w_nil ?_))))))))
          refine digit_w (R.st hk) (by decide) (by decide) fun r3 xb b0 b1 hxb => ?_
          have R3 := R.setk hk hxb
          have ga3 : (m''.set k (some xb))[A]? = some (some (Cell.lst (fr.map Dt.str))) := by rw [List.getElem?_set_ne (by omega)]; exact ga
          have gb3 : (m''.set k (some xb))[B]? = some (some (Cell.lst (ow.map Dt.str))) := by rw [List.getElem?_set_ne (by omega)]; exact gb
          have gc3 : (m''.set k (some xb))[C]? = some (some (Cell.lst (ss.map tS))) := by rw [List.getElem?_set_ne (by omega)]; exact gc
          have hfr : c1.length + 1 ≤ fr.length := by rw [e1]; simp
          (refine w_c (wo_eqI (w_B ?_)))
          refine ⟨fun h => ?_, fun h => ?_⟩
          · (refine w_var rfl ?_)
            refine ⟨_, rfl, by unfold szOk; rw [e3]; simp; omega, xb, c1 ++ [z], c2, cs ++ [z], by rw [e1]; simp, rfl, by rw [e3]; simp, by simp; omega, ?_, R3, ga3, gb3, gc3⟩
            intro w hw
            rcases List.mem_append.mp hw with hw | hw
            · exact e5 w hw
            · rw [List.mem_singleton.mp hw]; exact hf z (by rw [e1]; simp)
          · exact ⟨xb, c1 ++ [z], c2, cs, by rw [e1]; simp, rfl, e3, by simp; omega, e5, R3, ga3, gb3, gc3⟩
        · rintro acc m'' ⟨x, c1, c2, cs, e1, e2, e3, e4, e5, R, ga, gb, gc⟩
          have hb0 : c2 = [] := by cases c2 with | nil => rfl | cons s b => simp at e2
          subst hb0
          rw [List.append_nil] at e1
          subst e1 e3
          have hol' : (ow.drop (j + 1)).length ≤ ow.length := by rw [List.length_drop]; omega
          refine wo_catL rfl rfl (by simp only [List.length_map]; omega) ?_
          (((with_reducible refine w_nm ?_); (try simp only [List.set_cons_succ, List.set_cons_zero])); refine w_drop (w_app (w_var rfl ?_)); ((with_reducible apply w_rl); (focus (first | rfl | assumption | (simp only [lstOf, tupOf, dctOf, seqL, isL, Option.or_none, Option.some_or, Option.none_or, *]; done) | ((simp [lstOf, tupOf, dctOf, seqL, isL, *]); (first | done | rfl))))); refine w_cons (w_cb (w_cons (w_cl (w_cons (w_var rfl (w_nil ?_)))))))
          rw [← List.map_append]
          refine wo_sortS (ns := ow.drop (j + 1) ++ cs) rfl (by rw [List.length_append]; omega) ?_
          (refine w_nil ?_; ((with_reducible apply wo_tup); (focus (first | rfl | assumption | (simp only [lstOf, tupOf, dctOf, seqL, isL, Option.or_none, Option.some_or, Option.none_or, *]; done) | ((simp [lstOf, tupOf, dctOf, seqL, isL, *]); (first | done | rfl))))); refine w_nil ?_)
          refine w_ad gc (by simp; omega) ?_
          have hsl2 : (sortW (ow.drop (j + 1) ++ cs)).length = (ow.drop (j + 1) ++ cs).length := (sortW_perm _).length_eq
          refine ⟨b, x, ss ++ [sortW (ow.drop (j + 1) ++ cs)], _, _, _, rfl, R.setj (by omega), ?_, ?_, ?_, ?_, by simp; omega, rfl⟩
          · rw [List.getElem?_set_ne (by omega)]; exact ga
          · rw [List.getElem?_set_ne (by omega)]; exact gb
          · rw [List.getElem?_set_self (lt_of gc)]; simp [tS]
          · intro s hs
            rcases List.mem_append.mp hs with hs | hs
            · exact hss s hs
            · rw [List.mem_singleton.mp hs]
              refine ⟨by rw [hsl2, List.length_append]; omega, fun z hz => ?_⟩
              have hz := mem_sortW.mp hz
              rcases List.mem_append.mp hz with hz | hz
              · exact ho z (List.mem_of_mem_drop hz)
              · exact e5 z hz
      · rintro g3 m3 ⟨b, x, ss, y7, y9, y10, e1, R, ga, gb, gc, hss, hsl, rfl⟩
        have hb0 : b = [] := by cases b with | nil => rfl | cons s b => simp at e1
        subst hb0
        have hsl : ss.length = ow.length := by simpa using hsl
        (refine w_drop (w_app (w_var rfl ?_)))
        refine w_rl R.f ?_
        (refine w_cons (w_tup (w_cons (w_cb (w_cons (w_var rfl (w_nil ?_)))))))
        refine wo_tup (ds := ow.map .str) (by simp [lstOf, gb]) ?_
        (refine w_cons (w_cb (w_cons (w_var rfl (w_nil ?_)))))
        refine wo_tup (ds := ss.map tS) (by simp [lstOf, gc]) ?_
        (refine w_nil ?_; ((with_reducible apply w_dats); (focus (first | ((simp only [dats, Option.map_some]); rfl) | rfl))); ((with_reducible refine w_sz ?_ ?_); (focus (first | (simp; done) | (simp; omega)))); refine w_nil ?_)
        refine w_ad R.f (by simp; omega) ?_
        refine ⟨rs ++ [(ow, ss)], x, _, _, _, _, _, _, _, by simp; omega, ?_, ?_, rfl⟩
        · intro r hr
          rcases List.mem_append.mp hr with hr | hr
          · exact hok r hr
          · rw [List.mem_singleton.mp hr]
            exact ⟨hsl.symm, by simp at hol; omega, fun s hs => (hss s hs).1, ho, fun s hs => (hss s hs).2⟩
        · rw [List.map_append]; exact R.setf
  · rintro g m' ⟨rs, x, y4, y5, y6, y7, y8, y9, y10, hrl, hok, R, rfl⟩
    (refine w_ret (w_frzL (w_var rfl ?_)))
    refine w_rl R.f ?_
    (refine w_Xd ?_)
    rw [List.take_set, List.set_eq_of_length_le (by rw [List.length_take]; omega), R.old]
    exact q rs x (by simpa using hrl) hok R.x
end
end K31
namespace K31
open PySem PySem.Spec PyProof.Rows L2 FM FS
theorem strOk_good {n : Nat} {z : Str} (g : GName n z) : PyData.strOk z = true := by
  unfold PyData.strOk
  rw [← Array.all_toList]
  exact List.all_eq_true.mpr fun c hc => decide_eq_true (by have := g.cp c hc; unfold NameCp at this; omega)
theorem pl_str {n : Nat} {z : Str} (g : PyData.strOk z = true) : plZ n (.str z) = true := by unfold plZ; exact g
theorem pl_tup {n : Nat} {ds : List Dt} (h : ∀ d ∈ ds, plZ n d = true) : plZ (n + 1) (.tup ds) = true := by unfold plZ; exact List.all_eq_true.mpr h
theorem pl_lst {n : Nat} {ds : List Dt} (h : ∀ d ∈ ds, plZ n d = true) : plZ (n + 1) (.lst ds) = true := by unfold plZ; exact List.all_eq_true.mpr h
theorem pl_tS {n : Nat} {zs : List Str} (h : ∀ z ∈ zs, PyData.strOk z = true) : plZ (n + 1) (.tup (zs.map .str)) = true := pl_tup fun d hd => by
  obtain ⟨z, hz, rfl⟩ := List.mem_map.mp hd
  exact pl_str (h z hz)
open Classical in
theorem wo_same {m : Cells} {d : Dt} {Q : Vl → Prop} (h : plZ 64 d = true) (q : Q (.d (.bl false))) : wO (oPl true m (.d d) (.d d)) Q := by
  refine wo_pl (d := d) (e := d) h h ?_
  rw [show (true != decide (d = d)) = false by simp]; exact q
theorem ok_words : PyData.strOk "twice" = true ∧ PyData.strOk "ring" = true := by decide +kernel
theorem due_pl {rs : List Rec} (h : ∀ z ∈ own rs, PyData.strOk z = true) : plZ 64 (dueD rs) = true := by
  unfold dueD
  cases e : sortU (dups (own rs)) with
  | cons z r =>
    have hz : z ∈ own rs := (List.mem_filter.mp (mem_sortU.mp (show z ∈ sortU (dups (own rs)) by rw [e]; simp))).1
    refine pl_tup fun d hd => ?_
    simp only [List.mem_cons, List.not_mem_nil, or_false] at hd
    rcases hd with rfl | rfl
    · exact pl_str ok_words.1
    · exact pl_str (h z hz)
  | nil =>
    show plZ 64 (ringD (ringF (sortW (own rs)) (latP (prs rs)) (own rs).length)) = true
    cases e2 : ringF (sortW (own rs)) (latP (prs rs)) (own rs).length with
    | none => rfl
    | some r =>
      refine pl_tup fun d hd => ?_
      simp only [List.mem_cons, List.not_mem_nil, or_false] at hd
      rcases hd with rfl | rfl
      · exact pl_str ok_words.2
      · exact pl_tS fun z hz => h z (mem_sortW.mp (ringF_mem e2 z hz))
theorem rows_pl {ks : List Str} {rs : List Rec} (gk : ∀ z ∈ ks, PyData.strOk z = true) (ok : ∀ r ∈ rs, OkIn ks r) : plZ 64 (.lst (rs.map rcD)) = true := pl_lst fun d hd => by
  obtain ⟨r, hr, rfl⟩ := List.mem_map.mp hd
  have o := ok r hr
  refine pl_tup fun d hd => ?_
  simp only [List.mem_cons, List.not_mem_nil, or_false] at hd
  rcases hd with rfl | rfl
  · exact pl_tS fun z hz => gk z (o.k z hz)
  · refine pl_tup fun d hd => ?_
    obtain ⟨s, hs, rfl⟩ := List.mem_map.mp hd
    exact pl_tS fun z hz => gk z (o.ks s hs z hz)
theorem ok_of {ks : List Str} {rs : List Rec} (hn : rs.length ≤ 10) (ok : ∀ r ∈ rs, OkIn ks r) : OkRs rs := ⟨fun r hr => (ok r hr).l, fun r hr => by have := (ok r hr).l2; omega, fun r hr s hs => by have := (ok r hr).s s hs; omega, hn⟩
theorem own_sub {ks : List Str} {rs : List Rec} (ok : ∀ r ∈ rs, OkIn ks r) : ∀ z ∈ own rs, z ∈ ks := fun z hz => by
  obtain ⟨r, hr, hz⟩ := List.mem_flatMap.mp hz
  exact (ok r hr).k z hz
theorem due_nil : dueD [] = .non := rfl
theorem due_one : dueD [([], [])] = .non := rfl
theorem law_ok (ns : List Int) (hl : ns.length ≤ 63) : FLaw [.d (.scr (ns.map Dt.int))] [] = .ok (.d (.bl true)) [] := by
  suffices h : wR (FLaw [.d (.scr (ns.map Dt.int))] []) (fun v m => v = .d (.bl true) ∧ m = []) eNo by
    obtain ⟨v, m, e, rfl, rfl⟩ := wR_ok h
    exact e
  have hints : ∀ d ∈ ns.map Dt.int ++ [.int 0], ∃ c, d = Dt.int c := fun d hd => by
    rcases List.mem_append.mp hd with hd | hd
    · obtain ⟨c, _, rfl⟩ := List.mem_map.mp hd; exact ⟨c, rfl⟩
    · exact ⟨0, List.mem_singleton.mp hd⟩
  ((show wR (runFn 1 8 (mLaw) _ _) _ _); (refine w_run (g := [_, none, none, none, none, none, none, none]) (by rfl) rfl ?_); (unfold mLaw))
  (refine w_seq (w_if (w_or (w_test (w_op (w_call (w_cons (w_lst (w_nil ?_)))))))); ((with_reducible apply w_dats); (focus (first | ((simp only [dats, Option.map_some]); rfl) | rfl))); ((with_reducible refine w_sz ?_ ?_); (focus (first | (simp; done) | (simp; omega)))); refine w_nil ?_)
  refine clash_w (rs := []) rfl ⟨by simp, by simp, by simp, by simp⟩ (by simp [own]) ?_
  rw [due_nil]
  (refine w_c (wo_isN1 (w_B (w_ff (w_test (w_op (w_call (w_cons (w_lst (w_cons (w_tup (w_cons (w_tup (w_nil ?_))))))))))))); ((with_reducible apply w_dats); (focus (first | ((simp only [dats, Option.map_some]); rfl) | rfl))); ((with_reducible refine w_sz ?_ ?_); (focus (first | (simp; done) | (simp; omega)))); refine w_cons (w_tup (w_nil ?_)); ((with_reducible apply w_dats); (focus (first | ((simp only [dats, Option.map_some]); rfl) | rfl))); ((with_reducible refine w_sz ?_ ?_); (focus (first | (simp; done) | (simp; omega)))); refine w_nil ?_; ((with_reducible apply w_dats); (focus (first | ((simp only [dats, Option.map_some]); rfl) | rfl))); ((with_reducible refine w_sz ?_ ?_); (focus (first | (simp; done) | (simp; omega)))); refine w_nil ?_; ((with_reducible apply w_dats); (focus (first | ((simp only [dats, Option.map_some]); rfl) | rfl))); ((with_reducible refine w_sz ?_ ?_); (focus (first | (simp; done) | (simp; omega)))); refine w_nil ?_)
  refine clash_w (rs := [([], [])]) rfl ⟨by simp, by simp, by simp, by simp⟩ (by simp [own]) ?_
  rw [due_one]
  (refine w_c (wo_isN1 (w_B (w_ff (w_next (w_seq (w_for (w_it (w_sl (w_op (w_var rfl (w_lst (w_cons (w_c (w_nil ?_)))))))))))))); ((with_reducible apply w_dats); (focus (first | ((simp only [dats, Option.map_some]); rfl) | rfl))); ((with_reducible refine w_sz ?_ ?_); (focus (first | (simp; done) | (simp; omega)))))
  refine wo_catL (ds := ns.map Dt.int) (es := [.int 0]) rfl rfl (by simp; omega) ?_
  (refine w_noP (w_part (w_c (w_i1 ?_))); ((with_reducible apply wo_slL); (focus (first | rfl | assumption | (simp only [lstOf, tupOf, dctOf, seqL, isL, Option.or_none, Option.some_or, Option.none_or, *]; done) | ((simp [lstOf, tupOf, dctOf, seqL, isL, *]); (first | done | rfl))))); refine wo_lst ?_)
  rw [show (15 : Int) = ((15 : Nat) : Int) from rfl, cut_to]
  refine w_loop (fun r g m' => ∃ (x1 x2 x3 x4 x5 x6 x7 : Option Vl), (∀ d ∈ r, ∃ c, d = Dt.int c) ∧ g = [some (.d (.scr (ns.map Dt.int))), x1, x2, x3, x4, x5, x6, x7]) ?_ ?_ _ _ _ ⟨_, _, _, _, _, _, _, (fun d hd => hints d (List.mem_of_mem_take hd)), rfl⟩
  · rintro y r g M ⟨x1, x2, x3, x4, x5, x6, x7, hd, rfl⟩
    obtain ⟨c, rfl⟩ := hd y (by simp)
    have hd' : ∀ d ∈ r, ∃ c, d = Dt.int c := fun d h => hd d (by simp [h])
    (((with_reducible refine w_nm ?_); (try simp only [List.set_cons_succ, List.set_cons_zero])); refine w_seq (w_asg (w_call (w_cons (w_var rfl (w_nil ?_))))))
    refine state_w fun x hx => ?_
    (((with_reducible refine w_nm ?_); (try simp only [List.set_cons_succ, List.set_cons_zero])); refine w_seq (w_asg (w_call (w_cons (w_var rfl (w_cons (w_op (w_c (w_call (w_cons (w_var rfl (w_cons (w_c (w_nil ?_))))))))))))))
    refine digit_w ⟨x, get_last, hx⟩ (by decide) (by decide) fun r1 xb a0 a1 hxb => ?_
    rw [set_last]
    (refine wo_II (w_nil ?_))
    obtain ⟨np, hnp⟩ := Int.eq_ofNat_of_zero_le (show 0 ≤ 2 + r1 by omega)
    rw [hnp]
    refine names_w (n := np) (by omega) ⟨xb, get_last, hxb⟩ fun ks xk lk gk nk hxk => ?_
    rw [set_last]
    (((with_reducible refine w_nm ?_); (try simp only [List.set_cons_succ, List.set_cons_zero])); refine w_seq (w_asg (w_call (w_cons (w_var rfl (w_cons (w_var rfl (w_cons (w_op (w_c (w_call (w_cons (w_var rfl (w_cons (w_c (w_nil ?_))))))))))))))))
    refine digit_w ⟨xk, get_last, hxk⟩ (by decide) (by decide) fun r2 xc b0 b1 hxc => ?_
    rw [set_last]
    (refine wo_II (w_nil ?_))
    obtain ⟨nr, hnr⟩ := Int.eq_ofNat_of_zero_le (show 0 ≤ 1 + r2 by omega)
    rw [hnr]
    refine records_w (n := nr) (by omega) (by omega) ⟨xc, get_last, hxc⟩ fun rs xd lr okr hxd => ?_
    rw [set_last]
    have gk' : ∀ z ∈ ks, PyData.strOk z = true := fun z hz => strOk_good (gk z hz)
    have ok := ok_of (by omega) okr
    have h5 : (own rs).Nodup → (own rs).length ≤ 5 := fun nd => Nat.le_trans (le_of_nodup_sub nd (own_sub okr)) (by omega)
    have h7 : (own rs).Nodup → (own rs).length ≤ 7 := fun nd => by have := h5 nd; omega
    have dpl : plZ 64 (dueD rs) = true := due_pl fun z hz => gk' z (own_sub okr z hz)
    have rpl := rows_pl gk' okr
    (((with_reducible refine w_nm ?_); (try simp only [List.set_cons_succ, List.set_cons_zero])); refine w_seq (w_asg (w_cl (w_cons (w_var rfl (w_nil ?_))))); ((with_reducible apply wo_list); (focus (first | rfl | assumption | (simp only [lstOf, tupOf, dctOf, seqL, isL, Option.or_none, Option.some_or, Option.none_or, *]; done) | ((simp [lstOf, tupOf, dctOf, seqL, isL, *]); (first | done | rfl))))); ((with_reducible refine w_nm ?_); (try simp only [List.set_cons_succ, List.set_cons_zero])); refine w_seq (w_asg (w_call (w_cons (w_var rfl (w_nil ?_))))))
    refine due_w ok h5 ?_
    (((with_reducible refine w_nm ?_); (try simp only [List.set_cons_succ, List.set_cons_zero])); refine w_seq (w_if (w_or (w_test (w_op (w_call (w_cons (w_var rfl (w_nil ?_)))))))))
    refine clash_w (rs := rs) rfl ok h7 ?_
    (refine w_var rfl ?_)
    refine wo_same dpl ?_
    (refine w_B (w_ff (w_test (w_op (w_var rfl (w_var rfl ?_))))))
    refine wo_same rpl ?_
    (refine w_B (w_ff (w_next (w_seq (w_asg (w_call (w_cons (w_var rfl (w_cons (w_cb (w_cons (w_var rfl (w_nil ?_)))))))))))); ((with_reducible apply wo_len); (focus (first | rfl | assumption | (simp only [lstOf, tupOf, dctOf, seqL, isL, Option.or_none, Option.some_or, Option.none_or, *]; done) | ((simp [lstOf, tupOf, dctOf, seqL, isL, *]); (first | done | rfl))))); refine w_nil ?_)
    refine digit_w ⟨xd, get_last, hxd⟩ (by simp; omega) (by simp; omega) fun r3 xe c0 c1 hxe => ?_
    rw [set_last]
    (((with_reducible refine w_nm ?_); (try simp only [List.set_cons_succ, List.set_cons_zero])); refine w_if (w_or (w_test (w_op (w_call (w_cons (w_op (w_sl (w_var rfl (w_part (w_var rfl (w_i1 (w_noP ?_)))))))))))); ((with_reducible apply wo_slL); (focus (first | rfl | assumption | (simp only [lstOf, tupOf, dctOf, seqL, isL, Option.or_none, Option.some_or, Option.none_or, *]; done) | ((simp [lstOf, tupOf, dctOf, seqL, isL, *]); (first | done | rfl))))); refine w_sl (w_var rfl (w_noP (w_part (w_var rfl (w_i1 ?_))))); ((with_reducible apply wo_slL); (focus (first | rfl | assumption | (simp only [lstOf, tupOf, dctOf, seqL, isL, Option.or_none, Option.some_or, Option.none_or, *]; done) | ((simp [lstOf, tupOf, dctOf, seqL, isL, *]); (first | done | rfl))))))
    obtain ⟨a, ha⟩ := Int.eq_ofNat_of_zero_le c0
    subst ha
    have P1 : rs.Perm (rs.drop a ++ rs.take a) := (List.take_append_drop a rs ▸ List.perm_append_comm : (rs.take a ++ rs.drop a).Perm (rs.drop a ++ rs.take a)) |> fun h => by rwa [List.take_append_drop] at h
    have P2 : rs.Perm rs.reverse := (List.reverse_perm rs).symm
    have okr1 : ∀ r ∈ rs.drop a ++ rs.take a, OkIn ks r := fun r hr => okr r (P1.mem_iff.mpr hr)
    have okr2 : ∀ r ∈ rs.reverse, OkIn ks r := fun r hr => okr r (P2.mem_iff.mpr hr)
    have n1 : (own (rs.drop a ++ rs.take a)).Nodup → (own (rs.drop a ++ rs.take a)).length ≤ 7 := fun nd => Nat.le_trans (le_of_nodup_sub nd (own_sub okr1)) (by omega)
    have n2 : (own rs.reverse).Nodup → (own rs.reverse).length ≤ 7 := fun nd => Nat.le_trans (le_of_nodup_sub nd (own_sub okr2)) (by omega)
    have e1 : dueD (rs.drop a ++ rs.take a) = dueD rs := (dueD_perm P1 ok.l).symm
    have e2 : dueD rs.reverse = dueD rs := (dueD_perm P2 ok.l).symm
    rw [cut_from, cut_to]
    refine wo_catL rfl rfl (by rw [List.length_drop, List.length_take, List.length_map]; omega) ?_
    (refine w_nil ?_)
    rw [← List.map_drop, ← List.map_take, ← List.map_append]
    refine clash_w (rs := rs.drop a ++ rs.take a) rfl (ok_of (by rw [← P1.length_eq]; omega) okr1) n1 ?_
    rw [e1]
    (refine w_var rfl ?_)
    refine wo_same dpl ?_
    (refine w_B (w_ff (w_test (w_op (w_call (w_cons (w_cb (w_cons (w_un (w_var rfl ?_))))))))); ((with_reducible apply wo_rev); (focus (first | rfl | assumption | (simp only [lstOf, tupOf, dctOf, seqL, isL, Option.or_none, Option.some_or, Option.none_or, *]; done) | ((simp [lstOf, tupOf, dctOf, seqL, isL, *]); (first | done | rfl))))); refine w_nil ?_; ((with_reducible apply wo_tup); (focus (first | rfl | assumption | (simp only [lstOf, tupOf, dctOf, seqL, isL, Option.or_none, Option.some_or, Option.none_or, *]; done) | ((simp [lstOf, tupOf, dctOf, seqL, isL, *]); (first | done | rfl))))); refine w_nil ?_)
    refine clash_w (rs := rs.reverse) (by rw [← List.map_reverse]; rfl) (ok_of (by rw [← P2.length_eq]; omega) okr2) n2 ?_
    rw [e2]
    (refine w_var rfl ?_)
    refine wo_same dpl ?_
    (refine w_B (w_ff (w_next ?_)))
    exact ⟨_, _, _, _, _, _, _, hd', rfl⟩
  · rintro g M ⟨x1, x2, x3, x4, x5, x6, x7, hd, rfl⟩
    (refine w_ret (w_c (w_Xd ?_)))
    exact ⟨rfl, by simp⟩
end K31
open PySem PySem.W PySem.Calls PyProof.Rows
set_option maxHeartbeats 0 in
theorem PySem.Challenge.cw_nestkeys_k31_clashes_holds : PySem.Challenge.rw_nestkeys_k31_clashes.Holds := by
  w_on; o_law
  refine HandSHeadRun.head_any (r := OpenLaw.row PySem.Challenge.rw_nestkeys_k31_clashes) (q := view (OpenLaw.row PySem.Challenge.rw_nestkeys_k31_clashes).prog [15]) (H := K31.hk) (ob := K31.obz) (M := 9000) (loose := K31.loose) (d := HandSHeadRun.topDef (OpenLaw.row PySem.Challenge.rw_nestkeys_k31_clashes).prog 15) (kwd := []) K31.obz_eq
    (by kernel_rfl) (fun s => by kernel_rfl) K31.run (by kernel_rfl) (by kernel_rfl) (by kernel_rfl) (by rfl) (by first | assumption | decide +kernel) (by decide +kernel) ⟨rfl, rfl, rfl, rfl, rfl, by decide +kernel⟩ ?hw ?hc
  case hw => w_witness2
  case hc =>
    refine FM.walkW (l := PySem.Challenge.rw_nestkeys_k31_clashes) (n := 63) (k := 11) (x := "_law_script") (CX := fun w => L2N.CX (PySem.Challenge.rw_nestkeys_k31_clashes).prog w) rfl (by decide) (by kernel_rfl) ⟨rfl, by decide, by decide⟩ ?F (fun w => FM.cx_none)
    intro w mg fa h Y G hmg0
    obtain ⟨K, KX, c⟩ := Y
    have hmg : mg ("law" : PySem.Str) = some (.ref fa) := by
      have e : (HandSHeadRun.topDef (OpenLaw.row PySem.Challenge.rw_nestkeys_k31_clashes).prog 15).name = ("law" : PySem.Str) := by kernel_rfl
      rw [← e]
      exact hmg0
    obtain ⟨fd, hb, hF⟩ := K31.facts (P := (PySem.Challenge.rw_nestkeys_k31_clashes).prog) (w := w) KX G hmg c
    exact ⟨K, fd, FM.spFn (K31.TTs (PySem.Challenge.rw_nestkeys_k31_clashes).prog w K) K31.FLaw, KX, hb, fun H a ns hl hS => FM.law_start hS (K31.law_ok ns hl), hF⟩
