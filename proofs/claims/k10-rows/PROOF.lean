import PyProof.Rows.All
import Wide.All
import OpenK.AllK
import Wide.FinOn
import HandS.ForMost
import HandS.Flow
import HandS.FStr
import HandS.TupAny
import HandS.Steps
import HandS.ForExc
import HandS.ExcInit
import HandS.ExcField
import HandS.Zip
import PySem.Challenge.RW_nestkeys_k10_rows_of_moves_and_wishes
set_option Elab.async false
set_option linter.all false
set_option maxRecDepth 100000
set_option autoImplicit false
namespace NK
open PySem PySem.Spec PyProof.Rows L2

/-! ### data, and how they stand in a heap -/
inductive Dt where
  | non | bl (b : Bool) | int (i : Int) | str (x : Str) | lst (xs : List Dt) | tup (xs : List Dt) | ins (C : Addr) (fs : List (Str × Dt)) | exc (a d : Addr) (fs : List (Str × Dt)) | ref (a : Addr)

mutual
inductive DR (K : PySem.W.Frag) (I : Hp) : V → Dt → Prop
  | non : DR K I .non .non
  | bl (b : Bool) : DR K I (.bl b) (.bl b)
  | int (i : Int) : DR K I (.int i) (.int i)
  | str (x : Str) : DR K I (.str x) (.str x)
  | ref (a : Addr) : DR K I (.ref a) (.ref a)
  | lst {a : Addr} {xs : List V} {ds : List Dt} : SqL K I a xs → DRs K I xs ds → DR K I (.ref a) (.lst ds)
  | tup {a : Addr} {xs : List V} {ds : List Dt} : SqT K I a xs → DRs K I xs ds → DR K I (.ref a) (.tup ds)
  | ins {a C dx : Addr} {fs : List (Str × V)} {ds : List (Str × Dt)} : I a = some (.ins C dx fs) → DRf K I fs ds → DR K I (.ref a) (.ins C ds)
  | exc {a d : Addr} {fs : List (Str × V)} {ds : List (Str × Dt)} : I d = some (.xd fs) → DRf K I fs ds → DR K I (.ref a) (.exc a d ds)
inductive DRs (K : PySem.W.Frag) (I : Hp) : List V → List Dt → Prop
  | nil : DRs K I [] []
  | cons {v : V} {vs : List V} {d : Dt} {ds : List Dt} : DR K I v d → DRs K I vs ds → DRs K I (v :: vs) (d :: ds)
inductive DRf (K : PySem.W.Frag) (I : Hp) : List (Str × V) → List (Str × Dt) → Prop
  | nil : DRf K I [] []
  | cons {f : Str} {v : V} {vs : List (Str × V)} {d : Dt} {ds : List (Str × Dt)} : DR K I v d → DRf K I vs ds → DRf K I ((f, v) :: vs) ((f, d) :: ds)
end

theorem same_rd {H H' : Hp} {a : Addr} {u : HO} (e : Same H H') (h : Rd H a u) : Rd H' a u := by
  rcases h with h | ⟨o, h⟩
  · exact .inl (e _ _ h)
  · exact .inr ⟨o, e _ _ h⟩
theorem same_l {K : PySem.W.Frag} {H H' : Hp} {a : Addr} {xs : List V} (e : Same H H') (h : SqL K H a xs) : SqL K H' a xs := by
  rcases h with h | h
  · exact .inl (same_rd e h)
  · exact .inr h
theorem same_t {K : PySem.W.Frag} {H H' : Hp} {a : Addr} {xs : List V} (e : Same H H') (h : SqT K H a xs) : SqT K H' a xs := by
  rcases h with h | h
  · exact .inl (same_rd e h)
  · exact .inr h

mutual
theorem DR.mono {K : PySem.W.Frag} {I I' : Hp} (e : Same I I') : ∀ {v : V} {d : Dt}, DR K I v d → DR K I' v d
  | _, _, .non => .non
  | _, _, .bl b => .bl b
  | _, _, .int i => .int i
  | _, _, .str x => .str x
  | _, _, .ref a => .ref a
  | _, _, .lst h hs => .lst (same_l e h) (DRs.mono e hs)
  | _, _, .tup h hs => .tup (same_t e h) (DRs.mono e hs)
  | _, _, .ins h hs => .ins (e _ _ h) (DRf.mono e hs)
  | _, _, .exc h hs => .exc (e _ _ h) (DRf.mono e hs)
theorem DRs.mono {K : PySem.W.Frag} {I I' : Hp} (e : Same I I') : ∀ {vs : List V} {ds : List Dt}, DRs K I vs ds → DRs K I' vs ds
  | _, _, .nil => .nil
  | _, _, .cons h t => .cons (DR.mono e h) (DRs.mono e t)
theorem DRf.mono {K : PySem.W.Frag} {I I' : Hp} (e : Same I I') : ∀ {vs : List (Str × V)} {ds : List (Str × Dt)}, DRf K I vs ds → DRf K I' vs ds
  | _, _, .nil => .nil
  | _, _, .cons h t => .cons (DR.mono e h) (DRf.mono e t)
end
section
variable {K : PySem.W.Frag} {I : Hp}
theorem DRs.len {vs : List V} {ds : List Dt} (h : DRs K I vs ds) : vs.length = ds.length := by
  induction vs generalizing ds with
  | nil => cases h; rfl
  | cons v vs ih => cases h with | cons _ t => rw [List.length_cons, List.length_cons, ih t]
theorem DRs.app {vs ws : List V} {ds es : List Dt} (h : DRs K I vs ds) (h2 : DRs K I ws es) : DRs K I (vs ++ ws) (ds ++ es) := by
  induction vs generalizing ds with
  | nil => cases h; exact h2
  | cons v vs ih => cases h with | cons a t => exact .cons a (ih t)
theorem DRs.split {vs ws : List V} {ds es : List Dt} (hl : vs.length = ds.length) (h : DRs K I (vs ++ ws) (ds ++ es)) : DRs K I vs ds ∧ DRs K I ws es := by
  induction vs generalizing ds with
  | nil =>
    cases ds with
    | nil => exact ⟨.nil, h⟩
    | cons d ds => cases hl
  | cons v vs ih =>
    cases ds with
    | nil => cases hl
    | cons d ds =>
      cases h with
      | cons a t =>
        obtain ⟨p, q⟩ := ih (by simpa using hl) t
        exact ⟨.cons a p, q⟩
theorem DRs.get {vs : List V} {ds : List Dt} {i : Nat} {d : Dt} (h : DRs K I vs ds) (e : ds[i]? = some d) : ∃ v, vs[i]? = some v ∧ DR K I v d := by
  induction vs generalizing ds i with
  | nil => cases h; simp at e
  | cons v vs ih =>
    cases h with
    | cons a t =>
      cases i with
      | zero => simp at e; subst e; exact ⟨v, rfl, a⟩
      | succ i => obtain ⟨u, h1, h2⟩ := ih t (i := i) (by simpa using e); exact ⟨u, by simpa using h1, h2⟩
theorem DRs.getV {vs : List V} {ds : List Dt} {i : Nat} {v : V} (h : DRs K I vs ds) (e : vs[i]? = some v) : ∃ d, ds[i]? = some d ∧ DR K I v d := by
  induction vs generalizing ds i with
  | nil => simp at e
  | cons v vs ih =>
    cases h with
    | cons a t =>
      cases i with
      | zero => simp at e; subst e; exact ⟨_, rfl, a⟩
      | succ i => obtain ⟨u, h1, h2⟩ := ih t (i := i) (by simpa using e); exact ⟨u, by simpa using h1, h2⟩
theorem DRs.set {vs : List V} {ds : List Dt} {v : V} {d : Dt} (h : DRs K I vs ds) (hv : DR K I v d) (i : Nat) : DRs K I (vs.set i v) (ds.set i d) := by
  induction vs generalizing ds i with
  | nil => cases h; exact .nil
  | cons w vs ih =>
    cases h with
    | cons a t =>
      cases i with
      | zero => exact .cons hv t
      | succ i => exact .cons a (ih t i)
theorem DRs.one {v : V} {d : Dt} (h : DR K I v d) : DRs K I [v] [d] := .cons h .nil
end

/-! ### the heap grows: I what never changes any more, H all -/
structure Go (M : Addr → Prop) (I H I' H' : Hp) : Prop where
  up : Same I I'
  fr : ∀ a o, ¬ M a → H a = some o → H' a = some o
  kp : ∀ a, H a ≠ none → H' a ≠ none
  nw : ∀ a, H a ≠ none → I' a = I a
  sub : Same I' H'
theorem Go.refl {M : Addr → Prop} {I H : Hp} (h : Same I H) : Go M I H I H := ⟨fun _ _ e => e, fun _ _ _ e => e, fun _ e => e, fun _ _ => rfl, h⟩
theorem Go.trans {M N : Addr → Prop} {I H I1 H1 I2 H2 : Hp} (a : Go M I H I1 H1) (b : Go N I1 H1 I2 H2) (hN : ∀ x, N x → M x ∨ H x = none) : Go M I H I2 H2 where
  up := a.up.trans b.up
  fr := fun x o hx e => b.fr x o (fun n => by
    rcases hN x n with h | h
    · exact hx h
    · rw [e] at h; cases h) (a.fr x o hx e)
  kp := fun x e => b.kp x (a.kp x e)
  nw := fun x e => (b.nw x (a.kp x e)).trans (a.nw x e)
  sub := b.sub
theorem sub_new {I H : Hp} {p : Addr} {o : HO} (h : Same I H) (hp : H p = none) : Same (upd I p o) (upd H p o) := fun a u e => by
  by_cases ha : a = p
  · subst ha
    rw [upd_same] at e ⊢
    exact e
  · rw [upd_ne ha] at e ⊢
    exact h a u e
theorem none_of_sub {I H : Hp} {p : Addr} (h : Same I H) (hp : H p = none) : I p = none := by
  cases e : I p with
  | none => rfl
  | some o => rw [h p o e] at hp; cases hp
theorem same_upd {H : Hp} {p : Addr} {o : HO} (h : H p = none) : Same H (upd H p o) := fun b x e => by
  rw [upd_ne (ne_of_none e h)]
  exact e
theorem upd_some {H : Hp} {p a : Addr} {o : HO} (h : H a ≠ none) : upd H p o a ≠ none := by
  by_cases ha : a = p
  · subst ha; rw [upd_same]; exact fun z => nomatch z
  · rw [upd_ne ha]; exact h
/-- a new object that never changes -/
theorem Go.new {M : Addr → Prop} {I H : Hp} {p : Addr} {o : HO} (h : Same I H) (hp : H p = none) : Go M I H (upd I p o) (upd H p o) where
  up := same_upd (none_of_sub h hp)
  fr := fun a u _ e => by rw [upd_ne (ne_of_none e hp)]; exact e
  kp := fun a e => upd_some e
  nw := fun a e => upd_ne (fun z => e (by rw [z]; exact hp))
  sub := sub_new h hp
/-- a new object that may change -/
theorem Go.newM {M : Addr → Prop} {I H : Hp} {p : Addr} {o : HO} (h : Same I H) (hp : H p = none) : Go M I H I (upd H p o) where
  up := Same.refl I
  fr := fun a u _ e => by rw [upd_ne (ne_of_none e hp)]; exact e
  kp := fun a e => upd_some e
  nw := fun a e => rfl
  sub := h.trans (same_upd hp)
/-- an object that may change does -/
theorem Go.mut {M : Addr → Prop} {I H : Hp} {p : Addr} {o : HO} (h : Same I H) (hp : I p = none) (hm : M p) : Go M I H I (upd H p o) where
  up := Same.refl I
  fr := fun a u n e => by rw [upd_ne (fun z => n (by rw [z]; exact hm))]; exact e
  kp := fun a e => upd_some e
  nw := fun a e => rfl
  sub := fun a u e => by rw [upd_ne (ne_of_none e hp)]; exact h a u e

/-! ### objects that may change -/
inductive Cell where
  | lst (ds : List Dt)
  | ins (C : Addr) (fs : List (Str × Dt))
structure Ce where
  a : Addr
  loc : Bool
  c : Cell
abbrev Cells := List Ce
def CellOk (K : PySem.W.Frag) (I H : Hp) (a : Addr) : Cell → Prop
  | .lst ds => ∃ vs, H a = some (.lst vs) ∧ DRs K I vs ds
  | .ins C fs => ∃ dx ws, H a = some (.ins C dx ws) ∧ DRf K I ws fs
theorem CellOk.mono {K : PySem.W.Frag} {I H I' H' : Hp} {a : Addr} {c : Cell} (h : CellOk K I H a c) (e : Same I I') (k : ∀ o, H a = some o → H' a = some o) : CellOk K I' H' a c := by
  cases c with
  | lst ds => obtain ⟨vs, h1, h2⟩ := h; exact ⟨vs, k _ h1, h2.mono e⟩
  | ins C fs => obtain ⟨dx, vs, h1, h2⟩ := h; exact ⟨dx, vs, k _ h1, h2.mono e⟩
theorem CellOk.there {K : PySem.W.Frag} {I H : Hp} {a : Addr} {c : Cell} (h : CellOk K I H a c) : H a ≠ none := by
  cases c with
  | lst ds => obtain ⟨vs, h1, h2⟩ := h; rw [h1]; exact fun z => nomatch z
  | ins C fs => obtain ⟨dx, vs, h1, h2⟩ := h; rw [h1]; exact fun z => nomatch z
structure MuOk (K : PySem.W.Frag) (I H : Hp) (m : Cells) : Prop where
  nd : (m.map (·.a)).Nodup
  fr : ∀ e ∈ m, I e.a = none
  ok : ∀ e ∈ m, CellOk K I H e.a e.c

/-! ### slots -/
abbrev Gam := List (Option Dt)
structure Ctx (K : PySem.W.Frag) (I : Hp) (σ : L2.St) (g : Gam) : Prop where
  len : σ.length = g.length
  look : ∀ (i : Nat) (d : Dt), g[i]? = some (some d) → ∃ v, σ[i]? = some (some v) ∧ DR K I v d
theorem Ctx.mono {K : PySem.W.Frag} {I I' : Hp} {σ : L2.St} {g : Gam} (h : Ctx K I σ g) (e : Same I I') : Ctx K I' σ g := ⟨h.len, fun i d q => by
  obtain ⟨v, h1, h2⟩ := h.look i d q
  exact ⟨v, h1, h2.mono e⟩⟩
theorem Ctx.set {K : PySem.W.Frag} {I : Hp} {σ : L2.St} {g : Gam} {i : Nat} {v : V} {d : Dt} (h : Ctx K I σ g) (hv : DR K I v d) : Ctx K I (σ.set i (some v)) (g.set i (some d)) := ⟨by rw [List.length_set, List.length_set, h.len], fun j e q => by
  by_cases hj : i = j
  · subst hj
    have hl : i < g.length := by
      by_cases hl : i < g.length
      · exact hl
      · rw [List.getElem?_eq_none (by rw [List.length_set]; omega)] at q
        cases q
    rw [List.getElem?_set_self hl] at q
    rw [List.getElem?_set_self (by rw [h.len]; exact hl)]
    cases q
    exact ⟨v, rfl, hv⟩
  · rw [List.getElem?_set_ne hj] at q
    rw [List.getElem?_set_ne hj]
    exact h.look j e q⟩
/-- a name forgotten -/
theorem Ctx.drop {K : PySem.W.Frag} {I : Hp} {σ : L2.St} {g : Gam} {i : Nat} (h : Ctx K I σ g) {x : Option V} : Ctx K I (σ.set i x) (g.set i none) := ⟨by rw [List.length_set, List.length_set, h.len], fun j e q => by
  by_cases hj : i = j
  · subst hj
    by_cases hl : i < g.length
    · rw [List.getElem?_set_self hl] at q
      cases q
    · rw [List.getElem?_eq_none (by rw [List.length_set]; omega)] at q
      cases q
  · rw [List.getElem?_set_ne hj] at q
    rw [List.getElem?_set_ne hj]
    exact h.look j e q⟩

structure Fx where
  K : PySem.W.Frag
  M : Addr → Prop
  I0 : Hp
  H0 : Hp
/-- where one stands -/
structure RelI (C : Fx) (B : Hp) (g : Gam) (S : List Dt) (m : Cells) (σ : L2.St) (vs : List V) (H I : Hp) : Prop where
  bs : Same B I
  go : Go C.M C.I0 C.H0 I H
  ctx : Ctx C.K I σ g
  stk : DRs C.K I vs S
  mu : MuOk C.K I H m
  own : ∀ e ∈ m, if e.loc = true then C.H0 e.a = none else C.M e.a
def Rel (C : Fx) (B : Hp) (g : Gam) (S : List Dt) (m : Cells) (σ : L2.St) (vs : List V) (H : Hp) : Prop := ∃ I, RelI C B g S m σ vs H I
end NK

namespace NK
open PySem PySem.Spec PyProof.Rows L2
section
variable {C : Fx} {g g' : Gam} {S : List Dt} {m m' : Cells} {σ : L2.St} {vs : List V} {H H' I I' B : Hp}
/-- the state behind a step that changes nothing but makes new things and changes cells it may -/
theorem RelI.sub (r : RelI C B g S m σ vs H I) : Same I H := r.go.sub
theorem RelI.kept (r : RelI C B g S m σ vs H I) (b : Go (fun _ => False) I H I' H') : RelI C B g S m σ vs H' I' where
  bs := r.bs.trans b.up
  go := r.go.trans b fun x n => n.elim
  ctx := r.ctx.mono b.up
  stk := r.stk.mono b.up
  mu := ⟨r.mu.nd, fun e he => by rw [b.nw _ (r.mu.ok e he).there]; exact r.mu.fr e he, fun e he => (r.mu.ok e he).mono b.up fun o q => b.fr _ o (fun z => z) q⟩
  own := r.own
theorem RelI.push (r : RelI C B g S m σ vs H I) {v : V} {d : Dt} (h : DR C.K I v d) : RelI C B g (d :: S) m σ (v :: vs) H I := { r with stk := .cons h r.stk }
theorem RelI.pops {S1 : List Dt} {ws : List V} (r : RelI C B g (S1 ++ S) m σ (ws ++ vs) H I) (hl : ws.length = S1.length) : RelI C B g S m σ vs H I := { r with stk := (r.stk.split hl).2 }
theorem RelI.slot (r : RelI C B g S m σ vs H I) {i : Nat} {v : V} {d : Dt} (h : DR C.K I v d) : RelI C B (g.set i (some d)) S m (σ.set i (some v)) vs H I := { r with ctx := r.ctx.set h }
/-- a new object that never changes -/
theorem RelI.alloc (r : RelI C B g S m σ vs H I) {p : Addr} {o : HO} (hp : H p = none) : RelI C B g S m σ vs (upd H p o) (upd I p o) := r.kept (Go.new r.sub hp)
theorem nodup_set {α β : Type} {l : List α} {f : α → β} {j : Nat} {x y : α} (hx : l[j]? = some x) (e : f y = f x) : (l.set j y).map f = l.map f := by
  induction l generalizing j with
  | nil => simp at hx
  | cons z l ih =>
    cases j with
    | zero =>
      simp at hx
      subst hx
      simp [e]
    | succ j =>
      simp only [List.set_cons_succ, List.map_cons]
      rw [ih (by simpa using hx)]
theorem mem_set_cases {α : Type} {l : List α} {j : Nat} {y z : α} (h : z ∈ l.set j y) : z = y ∨ ∃ i, i ≠ j ∧ l[i]? = some z := by
  obtain ⟨i, hi⟩ := List.mem_iff_getElem?.mp h
  by_cases hj : j = i
  · subst hj
    by_cases hl : j < l.length
    · rw [List.getElem?_set_self hl] at hi
      exact .inl (Option.some.inj hi).symm
    · rw [List.getElem?_eq_none (by rw [List.length_set]; omega)] at hi
      cases hi
  · rw [List.getElem?_set_ne hj] at hi
    exact .inr ⟨i, fun z => hj z.symm, hi⟩
theorem nodup_ix {α β : Type} {l : List α} {f : α → β} (h : (l.map f).Nodup) {i j : Nat} {x y : α} (hx : l[i]? = some x) (hy : l[j]? = some y) (e : f x = f y) : i = j := by
  have hi : (l.map f)[i]? = some (f x) := by rw [List.getElem?_map, hx]; rfl
  have hj : (l.map f)[j]? = some (f y) := by rw [List.getElem?_map, hy]; rfl
  rw [e] at hi
  obtain ⟨li, ei⟩ := List.getElem?_eq_some_iff.mp hi
  obtain ⟨lj, ej⟩ := List.getElem?_eq_some_iff.mp hj
  have pw := List.pairwise_iff_getElem.mp h
  rcases Nat.lt_trichotomy i j with w | w | w
  · exact absurd (ei.trans ej.symm) (pw i j li lj w)
  · exact w
  · exact absurd (ej.trans ei.symm) (pw j i lj li w)
/-- the j-th cell changes: o is what stands there now -/
theorem RelI.cell (r : RelI C B g S m σ vs H I) {j : Nat} {e : Ce} {c : Cell} {o : HO} (he : m[j]? = some e) (hc : CellOk C.K I (upd H e.a o) e.a c) : RelI C B g S (m.set j { e with c := c }) σ vs (upd H e.a o) I := by
  have hm : e ∈ m := List.mem_iff_getElem?.mpr ⟨j, he⟩
  have hI := r.mu.fr e hm
  have ho := r.own e hm
  have ge : Go (fun x => x = e.a) I H I (upd H e.a o) := Go.mut r.sub hI rfl
  refine ⟨r.bs, r.go.trans ge fun x n => ?_, r.ctx, r.stk, ⟨?_, fun z hz => ?_, fun z hz => ?_⟩, fun z hz => ?_⟩
  · subst n
    cases q : e.loc with
    | true => rw [q] at ho; exact .inr ho
    | false => rw [q] at ho; exact .inl ho
  · rw [nodup_set (f := fun (x : Ce) => x.a) (y := { e with c := c }) he rfl]
    exact r.mu.nd
  · rcases mem_set_cases hz with rfl | ⟨i, hi, q⟩
    · exact hI
    · exact r.mu.fr z (List.mem_iff_getElem?.mpr ⟨i, q⟩)
  · rcases mem_set_cases hz with rfl | ⟨i, hi, q⟩
    · exact hc
    · have hn : z.a ≠ e.a := fun w => hi (nodup_ix r.mu.nd q he w)
      exact (r.mu.ok z (List.mem_iff_getElem?.mpr ⟨i, q⟩)).mono (Same.refl I) fun o' q' => by
        rw [upd_ne hn]
        exact q'
  · rcases mem_set_cases hz with rfl | ⟨i, hi, q⟩
    · exact ho
    · exact r.own z (List.mem_iff_getElem?.mpr ⟨i, q⟩)
/-- a new cell, at the end -/
theorem RelI.newCell (r : RelI C B g S m σ vs H I) {p : Addr} {o : HO} {c : Cell} (hp : H p = none) (hc : CellOk C.K I (upd H p o) p c) : RelI C B g S (m ++ [⟨p, true, c⟩]) σ vs (upd H p o) I := by
  have ge : Go (fun _ => False) I H I (upd H p o) := Go.newM r.sub hp
  have r' := r.kept ge
  refine ⟨r'.bs, r'.go, r'.ctx, r'.stk, ⟨?_, fun z hz => ?_, fun z hz => ?_⟩, fun z hz => ?_⟩
  · rw [List.map_append, List.map_singleton]
    refine List.nodup_append.mpr ⟨r.mu.nd, by simp, fun a ha b hb => ?_⟩
    obtain ⟨x, hx, rfl⟩ := List.mem_map.mp ha
    rw [List.mem_singleton] at hb
    subst hb
    intro w
    exact (r.mu.ok x hx).there (by rw [w]; exact hp)
  · rcases List.mem_append.mp hz with h | h
    · exact r'.mu.fr z h
    · rw [List.mem_singleton] at h
      subst h
      exact none_of_sub r.sub hp
  · rcases List.mem_append.mp hz with h | h
    · exact r'.mu.ok z h
    · rw [List.mem_singleton] at h
      subst h
      exact hc
  · rcases List.mem_append.mp hz with h | h
    · exact r.own z h
    · rw [List.mem_singleton] at h
      subst h
      show C.H0 p = none
      cases q : C.H0 p with
      | none => rfl
      | some u => exact absurd hp (r.go.kp p (by rw [q]; exact fun z => nomatch z))
/-- some cells are forgotten -/
theorem RelI.fewer (r : RelI C B g S m σ vs H I) (h : m'.Sublist m) : RelI C B g S m' σ vs H I where
  bs := r.bs
  go := r.go
  ctx := r.ctx
  stk := r.stk
  mu := ⟨(h.map _).nodup r.mu.nd, fun e he => r.mu.fr e (h.subset he), fun e he => r.mu.ok e (h.subset he)⟩
  own := fun e he => r.own e (h.subset he)
/-- a local list that is done changing -/
theorem RelI.freeze (r : RelI C B g S m σ vs H I) {j : Nat} {p : Addr} {ds : List Dt} (he : m[j]? = some ⟨p, true, .lst ds⟩) : ∃ I', Same I I' ∧ RelI C B g S (m.eraseIdx j) σ vs H I' ∧ DR C.K I' (.ref p) (.lst ds) := by
  have hm : (⟨p, true, .lst ds⟩ : Ce) ∈ m := List.mem_iff_getElem?.mpr ⟨j, he⟩
  have hI : I p = none := r.mu.fr _ hm
  have ho : C.H0 p = none := r.own _ hm
  obtain ⟨ws, hw, hd⟩ : ∃ ws, H p = some (.lst ws) ∧ DRs C.K I ws ds := r.mu.ok _ hm
  have up : Same I (upd I p (.lst ws)) := same_upd hI
  have hsub : Same (upd I p (.lst ws)) H := fun a o e => by
    by_cases ha : a = p
    · subst ha
      rw [upd_same] at e
      cases e
      exact hw
    · rw [upd_ne ha] at e
      exact r.sub a o e
  have hsl : (m.eraseIdx j).Sublist m := List.eraseIdx_sublist m j
  have hne : ∀ z ∈ m.eraseIdx j, z.a ≠ p := fun z hz w => by
    obtain ⟨i, hi, q⟩ := List.mem_eraseIdx_iff_getElem?.mp hz
    exact hi (nodup_ix r.mu.nd q he w)
  refine ⟨upd I p (.lst ws), up, ⟨r.bs.trans up, ⟨r.go.up.trans up, r.go.fr, r.go.kp, fun a ha => ?_, hsub⟩, r.ctx.mono up, r.stk.mono up, ⟨(hsl.map _).nodup r.mu.nd, fun e he => ?_, fun e he => ?_⟩, fun e he => r.own e (hsl.subset he)⟩, .lst (.inl (.inl upd_same)) (hd.mono up)⟩
  · rw [upd_ne (fun w => ha (by rw [w]; exact ho))]
    exact r.go.nw a ha
  · rw [upd_ne (hne e he)]
    exact r.mu.fr e (hsl.subset he)
  · exact (r.mu.ok e (hsl.subset he)).mono up fun o q => q
end
end NK

namespace NK
open PySem PySem.Spec PyProof.Rows L2
/-! ### readings over data -/
def Ev (C : Fx) (g : Gam) (m : Cells) (te : TE) (P : Dt → Cells → Prop) : Prop := ∀ B S σ vs H, Rel C B g S m σ vs H → ∀ Q : VK, (∀ v d m' H', Rel C B g (d :: S) m' σ (v :: vs) H' → P d m' → Q v H') → te σ H Q
def EvT (C : Fx) (g : Gam) (m : Cells) (tt : TT) (P : Bool → Cells → Prop) : Prop := ∀ B S σ vs H, Rel C B g S m σ vs H → ∀ Q : Bool → Hp → Prop, (∀ b m' H', Rel C B g S m' σ vs H' → P b m' → Q b H') → tt σ H Q
def EvA (C : Fx) (g : Gam) (m : Cells) (ta : TA) (P : List Dt → Cells → Prop) : Prop := ∀ B S σ vs H, Rel C B g S m σ vs H → ∀ Q : List V → Hp → Prop, (∀ ws ds m' H', Rel C B g (ds ++ S) m' σ (ws ++ vs) H' → ws.length = ds.length → P ds m' → Q ws H') → ta σ H Q
/-- an operation on two values -/
def Op (C : Fx) (m : Cells) (r : R2) (d1 d2 : Dt) (P : Dt → Cells → Prop) : Prop := ∀ B g S σ vs H x y, Rel C B g (d2 :: d1 :: S) m σ (y :: x :: vs) H → ∀ Q : VK, (∀ v d m' H', Rel C B g (d :: S) m' σ (v :: vs) H' → P d m' → Q v H') → r x y H Q
/-- a call on values -/
def Cl (C : Fx) (m : Cells) (r : List V → Hp → VK → Prop) (ds : List Dt) (P : Dt → Cells → Prop) : Prop := ∀ B g S σ vs H ws, ws.length = ds.length → Rel C B g (ds ++ S) m σ (ws ++ vs) H → ∀ Q : VK, (∀ v d m' H', Rel C B g (d :: S) m' σ (v :: vs) H' → P d m' → Q v H') → r ws H Q
/-- what is wanted behind a statement -/
structure Pst where
  nx : Gam → Cells → Prop
  rt : Dt → Cells → Prop
  bk : Gam → Cells → Prop := fun _ _ => False
  ct : Gam → Cells → Prop := fun _ _ => False
structure EndsOk (C : Fx) (B : Hp) (S : List Dt) (vs : List V) (P : Pst) (D : Ends) : Prop where
  nx : ∀ g m σ H, Rel C B g S m σ vs H → P.nx g m → D.nx σ H
  rt : ∀ g d m σ v H, Rel C B g (d :: S) m σ (v :: vs) H → P.rt d m → D.rt v H
  bk : ∀ g m σ H, Rel C B g S m σ vs H → P.bk g m → D.bk σ H
  ct : ∀ g m σ H, Rel C B g S m σ vs H → P.ct g m → D.ct σ H
def Sx (C : Fx) (g : Gam) (m : Cells) (t : TS) (P : Pst) : Prop := ∀ B S vs σ H D, Rel C B g S m σ vs H → EndsOk C B S vs P D → t D σ H

section
variable {C : Fx} {g : Gam} {m : Cells} {te ta tb tc : TE} {P P' : Dt → Cells → Prop} {r : R2}
theorem Ev.mono (h : Ev C g m te P) (k : ∀ d m', P d m' → P' d m') : Ev C g m te P' := fun B S σ vs H r Q q => h B S σ vs H r Q fun v d m' H' r' p => q v d m' H' r' (k d m' p)
theorem EvT.mono {tt : TT} {P P' : Bool → Cells → Prop} (h : EvT C g m tt P) (k : ∀ d m', P d m' → P' d m') : EvT C g m tt P' := fun B S σ vs H r Q q => h B S σ vs H r Q fun v m' H' r' p => q v m' H' r' (k v m' p)
theorem ev_var {i : Nat} {d : Dt} (h : g[i]? = some (some d)) (p : P d m) : Ev C g m (tVar i) P := fun B S σ vs H ⟨I, r⟩ Q q => by
  obtain ⟨v, h1, h2⟩ := r.ctx.look i d h
  exact ⟨v, h1, q v d m H ⟨I, r.push h2⟩ p⟩
theorem ev_int {i : Int} (p : P (.int i) m) : Ev C g m (tC (.int i)) P := fun B S σ vs H ⟨I, r⟩ Q q => q _ _ m H ⟨I, r.push (.int i)⟩ p
theorem ev_str {x : Str} (p : P (.str x) m) : Ev C g m (tC (.str x)) P := fun B S σ vs H ⟨I, r⟩ Q q => q _ _ m H ⟨I, r.push (.str x)⟩ p
theorem ev_bl {b : Bool} (p : P (.bl b) m) : Ev C g m (tC (.bl b)) P := fun B S σ vs H ⟨I, r⟩ Q q => q _ _ m H ⟨I, r.push (.bl b)⟩ p
theorem ev_non (p : P .non m) : Ev C g m (tC .non) P := fun B S σ vs H ⟨I, r⟩ Q q => q _ _ m H ⟨I, r.push .non⟩ p
theorem ev_ref {a : Addr} (p : P (.ref a) m) : Ev C g m (tC (.ref a)) P := fun B S σ vs H ⟨I, r⟩ Q q => q _ _ m H ⟨I, r.push (.ref a)⟩ p
theorem ev_op (h : Ev C g m ta fun d1 m1 => Ev C g m1 tb fun d2 m2 => Op C m2 r d1 d2 P) : Ev C g m (tOp r ta tb) P := fun B S σ vs H rl Q q =>
  h B S σ vs H rl _ fun x d1 m1 H1 r1 p1 => p1 B _ σ _ H1 r1 _ fun y d2 m2 H2 r2 p2 => p2 B g S σ vs H2 x y r2 Q q
/-- an operation that makes nothing -/
theorem op_pure {d1 d2 d : Dt} (h : ∀ (I H : Hp) (x y : V), Same I H → DR C.K I x d1 → DR C.K I y d2 → ∀ Q : VK, (∀ v, DR C.K I v d → Q v H) → r x y H Q) (p : P d m) : Op C m r d1 d2 P := fun B g S σ vs H x y ⟨I, rl⟩ Q q => by
  cases rl.stk with
  | cons hy t =>
    cases t with
    | cons hx t2 =>
      exact h I H x y rl.sub hx hy Q fun v hv => q v d m H ⟨I, ({ rl with stk := .cons hv t2 } : RelI C B g (d :: S) m σ (v :: vs) H I)⟩ p
/-- an operation that makes one new thing -/
theorem op_new {d1 d2 d : Dt} (h : ∀ (I H : Hp) (x y : V), Same I H → DR C.K I x d1 → DR C.K I y d2 → ∀ Q : VK, (∀ p o, H p = none → (Same I (upd I p o) → DR C.K (upd I p o) (.ref p) d) → Q (.ref p) (upd H p o)) → r x y H Q) (p : P d m) : Op C m r d1 d2 P := fun B g S σ vs H x y ⟨I, rl⟩ Q q => by
  cases rl.stk with
  | cons hy t =>
    cases t with
    | cons hx t2 =>
      refine h I H x y rl.sub hx hy Q fun a o ha hd => ?_
      have r0 : RelI C B g S m σ vs H I := { rl with stk := t2 }
      have r1 := r0.alloc (o := o) ha
      exact q _ _ m _ ⟨_, r1.push (hd (same_upd (none_of_sub rl.sub ha)))⟩ p
theorem op_ii {f : Int → Int → Int} {i j : Int} (p : P (.int (f i j)) m) : Op C m (rI0 fun i j => .int (f i j)) (.int i) (.int j) P :=
  op_pure (d := .int (f i j)) (fun I H x y _ hx hy Q q => by cases hx; cases hy; exact ⟨i, j, rfl, rfl, q _ (.int _)⟩) p
theorem op_iic {c : Int → Int → Prop} {f : Int → Int → Int} {i j : Int} (hc : c i j) (p : P (.int (f i j)) m) : Op C m (rI c fun i j => .int (f i j)) (.int i) (.int j) P :=
  op_pure (d := .int (f i j)) (fun I H x y _ hx hy Q q => by cases hx; cases hy; exact ⟨i, j, rfl, rfl, hc, q _ (.int _)⟩) p
theorem op_iib {f : Int → Int → Bool} {i j : Int} (p : P (.bl (f i j)) m) : Op C m (rI0 fun i j => .bl (f i j)) (.int i) (.int j) P :=
  op_pure (d := .bl (f i j)) (fun I H x y _ hx hy Q q => by cases hx; cases hy; exact ⟨i, j, rfl, rfl, q _ (.bl _)⟩) p
theorem dec_v_int {i j : Int} : decide (V.int i = V.int j) = decide (i = j) := by
  by_cases h : i = j
  · subst h; simp
  · rw [decide_eq_false h, decide_eq_false (fun e => h (V.int.inj e))]
theorem dec_v_str {i j : Str} : decide (V.str i = V.str j) = decide (i = j) := by
  by_cases h : i = j
  · subst h; simp
  · rw [decide_eq_false h, decide_eq_false (fun e => h (V.str.inj e))]
theorem dec_v_bl {i j : Bool} : decide (V.bl i = V.bl j) = decide (i = j) := by
  cases i <;> cases j <;> rfl
theorem op_eqI {i j : Int} (p : P (.bl (decide (i = j))) m) : Op C m rEq (.int i) (.int j) P :=
  op_pure (d := .bl (decide (i = j))) (fun I H x y _ hx hy Q q => by cases hx; cases hy; exact ⟨rfl, by rw [dec_v_int]; exact q _ (.bl _)⟩) p
theorem op_neI {i j : Int} (p : P (.bl (!decide (i = j))) m) : Op C m rNe (.int i) (.int j) P :=
  op_pure (d := .bl (!decide (i = j))) (fun I H x y _ hx hy Q q => by cases hx; cases hy; exact ⟨rfl, by rw [dec_v_int]; exact q _ (.bl _)⟩) p
theorem op_eqS {i j : Str} (p : P (.bl (decide (i = j))) m) : Op C m rEq (.str i) (.str j) P :=
  op_pure (d := .bl (decide (i = j))) (fun I H x y _ hx hy Q q => by cases hx; cases hy; exact ⟨rfl, by rw [dec_v_str]; exact q _ (.bl _)⟩) p
theorem op_neS {i j : Str} (p : P (.bl (!decide (i = j))) m) : Op C m rNe (.str i) (.str j) P :=
  op_pure (d := .bl (!decide (i = j))) (fun I H x y _ hx hy Q q => by cases hx; cases hy; exact ⟨rfl, by rw [dec_v_str]; exact q _ (.bl _)⟩) p
theorem op_eqB {i j : Bool} (p : P (.bl (decide (i = j))) m) : Op C m rEq (.bl i) (.bl j) P :=
  op_pure (d := .bl (decide (i = j))) (fun I H x y _ hx hy Q q => by cases hx; cases hy; exact ⟨rfl, by rw [dec_v_bl]; exact q _ (.bl _)⟩) p
theorem op_neB {i j : Bool} (p : P (.bl (!decide (i = j))) m) : Op C m rNe (.bl i) (.bl j) P :=
  op_pure (d := .bl (!decide (i = j))) (fun I H x y _ hx hy Q q => by cases hx; cases hy; exact ⟨rfl, by rw [dec_v_bl]; exact q _ (.bl _)⟩) p
/-- text + text -/
theorem op_catS {i j : Str} (hz : i.length + j.length ≤ sizeLine) (p : P (.str (i ++ j)) m) : Op C m (fun x y H Q => ∃ i j, x = V.str i ∧ y = V.str j ∧ i.length + j.length ≤ sizeLine ∧ Q (V.str (i ++ j)) H) (.str i) (.str j) P :=
  op_pure (d := .str (i ++ j)) (fun I H x y _ hx hy Q q => by cases hx; cases hy; exact ⟨i, j, rfl, rfl, hz, q _ (.str _)⟩) p
theorem atI_dr {K : PySem.W.Frag} {I : Hp} {vs : List V} {ds : List Dt} {i : Int} {d : Dt} (h : DRs K I vs ds) (e : atI ds i = some d) : ∃ v, atI vs i = some v ∧ DR K I v d := by
  unfold atI at e ⊢
  rw [h.len]
  cases q : ixN ds.length i with
  | none => rw [q] at e; cases e
  | some j =>
    rw [q, Option.bind_some] at e
    rw [Option.bind_some]
    exact h.get e
/-- xs[i] of a list that does not change -/
theorem op_ixL {ds : List Dt} {i : Int} {d : Dt} (e : atI ds i = some d) (p : P d m) : Op C m (rIxL C.K) (.lst ds) (.int i) P :=
  op_pure (d := d) (fun I H x y hs hx hy Q q => by
    cases hy
    cases hx with
    | lst h1 h2 =>
      obtain ⟨v, hv, hd⟩ := atI_dr h2 e
      exact ⟨_, _, i, v, rfl, rfl, same_l hs h1, hv, q _ hd⟩) p
theorem op_ixT {ds : List Dt} {i : Int} {d : Dt} (e : atI ds i = some d) (p : P d m) : Op C m (rIxT C.K) (.tup ds) (.int i) P :=
  op_pure (d := d) (fun I H x y hs hx hy Q q => by
    cases hy
    cases hx with
    | tup h1 h2 =>
      obtain ⟨v, hv, hd⟩ := atI_dr h2 e
      exact ⟨_, _, i, v, rfl, rfl, same_t hs h1, hv, q _ hd⟩) p
theorem op_ixS {z : Str} {i : Int} {c : Nat} (hz : z.length ≤ sizeLine) (e : atI z.cps.toList i = some c) (p : P (.str ⟨#[c]⟩) m) : Op C m rIxS (.str z) (.int i) P :=
  op_pure (d := .str ⟨#[c]⟩) (fun I H x y hs hx hy Q q => by cases hx; cases hy; exact ⟨z, i, c, rfl, rfl, hz, e, q _ (.str _)⟩) p
/-- xs[i] of a list that may change -/
theorem op_ixM {a : Addr} {b : Bool} (j : Nat) {ds : List Dt} {i : Int} {d : Dt} (hj : m[j]? = some ⟨a, b, .lst ds⟩) (e : atI ds i = some d) (p : P d m) : Op C m (rIxL C.K) (.ref a) (.int i) P := fun B g S σ vs H x y ⟨I, rl⟩ Q q => by
  cases rl.stk with
  | cons hy t =>
    cases t with
    | cons hx t2 =>
      cases hx
      cases hy
      obtain ⟨ws, h1, h2⟩ : ∃ ws, H a = some (.lst ws) ∧ DRs C.K I ws ds := rl.mu.ok _ (List.mem_iff_getElem?.mpr ⟨j, hj⟩)
      obtain ⟨v, hv, hd⟩ := atI_dr h2 e
      exact ⟨_, _, i, v, rfl, rfl, .inl (.inl h1), hv, q v d m H ⟨I, ({ rl with stk := .cons hd t2 } : RelI C B g (d :: S) m σ (v :: vs) H I)⟩ p⟩

/-! ### tests -/
theorem evt_test {PT : Bool → Cells → Prop} (h : Ev C g m te fun d m' => ∃ b, d = .bl b ∧ PT b m') : EvT C g m (tTest te) PT := fun B S σ vs H rl Q q => h B S σ vs H rl _ fun v d m' H' r' ⟨b, e, p⟩ => by
  subst e
  obtain ⟨I, r'⟩ := r'
  cases r'.stk with
  | cons hv t =>
    cases hv
    exact ⟨b, rfl, q b m' H' ⟨I, { r' with stk := t }⟩ p⟩
theorem evt_B {PT : Bool → Cells → Prop} (h : Ev C g m te fun d m' => ∃ b, d = .bl b ∧ PT b m') : EvT C g m (tB te) PT := evt_test h
theorem evt_and {t u : TT} {PT : Bool → Cells → Prop} (h : EvT C g m t fun b m' => (b = true → EvT C g m' u PT) ∧ (b = false → PT false m')) : EvT C g m (tAnd t u) PT := fun B S σ vs H rl Q q => h B S σ vs H rl _ fun b m' H' r' p => by
  cases b with
  | true => exact p.1 rfl B S σ vs H' r' Q q
  | false => exact q _ m' H' r' (p.2 rfl)
theorem evt_or {t u : TT} {PT : Bool → Cells → Prop} (h : EvT C g m t fun b m' => (b = true → PT true m') ∧ (b = false → EvT C g m' u PT)) : EvT C g m (tOr t u) PT := fun B S σ vs H rl Q q => h B S σ vs H rl _ fun b m' H' r' p => by
  cases b with
  | true => exact q _ m' H' r' (p.1 rfl)
  | false => exact p.2 rfl B S σ vs H' r' Q q
theorem evt_not {t : TT} {PT : Bool → Cells → Prop} (h : EvT C g m t fun b m' => PT (!b) m') : EvT C g m (tNot t) PT := fun B S σ vs H rl Q q => h B S σ vs H rl _ fun b m' H' r' p => q _ m' H' r' p
/-! ### arguments, displays -/
theorem eva_nil {PA : List Dt → Cells → Prop} (p : PA [] m) : EvA C g m tNil PA := fun B S σ vs H rl Q q => q [] [] m H rl rfl p
theorem eva_cons {tr : TA} {PA : List Dt → Cells → Prop} (h : Ev C g m te fun d m1 => EvA C g m1 tr fun ds m2 => PA (d :: ds) m2) : EvA C g m (tCons te tr) PA := fun B S σ vs H rl Q q =>
  h B S σ vs H rl _ fun v d m1 H1 r1 p1 => p1 B _ σ _ H1 r1 _ fun ws ds m2 H2 ⟨I, r2⟩ hl p2 => by
    obtain ⟨q1, q2⟩ := r2.stk.split hl
    cases q2 with
    | cons hd ht =>
      refine q (v :: ws) (d :: ds) m2 H2 ⟨I, ({ r2 with stk := .cons hd (q1.app ht) } : RelI C B g (d :: ds ++ S) m2 σ (v :: ws ++ vs) H2 I)⟩ ?_ p2
      rw [List.length_cons, List.length_cons, hl]
theorem ev_tup {ta : TA} (h : EvA C g m ta fun ds m' => ds.length ≤ sizeLine ∧ P (.tup ds) m') : Ev C g m (tTup ta) P := fun B S σ vs H rl Q q => h B S σ vs H rl _ fun ws ds m' H' ⟨I, r'⟩ hl ⟨hz, p⟩ => by
  obtain ⟨q1, q2⟩ := r'.stk.split hl
  refine ⟨by rw [hl]; exact hz, fun a ha => ?_⟩
  have r0 : RelI C B g S m' σ vs H' I := { r' with stk := q2 }
  have r1 := r0.alloc (o := .tup ws) ha
  exact q _ _ m' _ ⟨_, r1.push (.tup (.inl (.inl upd_same)) (q1.mono (same_upd (none_of_sub r0.sub ha))))⟩ p
/-- a list display that never changes -/
theorem ev_lst {ta : TA} (h : EvA C g m ta fun ds m' => ds.length ≤ sizeLine ∧ P (.lst ds) m') : Ev C g m (tLst ta) P := fun B S σ vs H rl Q q => h B S σ vs H rl _ fun ws ds m' H' ⟨I, r'⟩ hl ⟨hz, p⟩ => by
  obtain ⟨q1, q2⟩ := r'.stk.split hl
  refine ⟨by rw [hl]; exact hz, fun a ha => ?_⟩
  have r0 : RelI C B g S m' σ vs H' I := { r' with stk := q2 }
  have r1 := r0.alloc (o := .lst ws) ha
  exact q _ _ m' _ ⟨_, r1.push (.lst (.inl (.inl upd_same)) (q1.mono (same_upd (none_of_sub r0.sub ha))))⟩ p
/-- a list display that may change: a new cell -/
theorem ev_lstM {ta : TA} (h : EvA C g m ta fun ds m' => ds.length ≤ sizeLine ∧ ∀ a, P (.ref a) (m' ++ [⟨a, true, .lst ds⟩])) : Ev C g m (tLst ta) P := fun B S σ vs H rl Q q => h B S σ vs H rl _ fun ws ds m' H' ⟨I, r'⟩ hl ⟨hz, p⟩ => by
  obtain ⟨q1, q2⟩ := r'.stk.split hl
  refine ⟨by rw [hl]; exact hz, fun a ha => ?_⟩
  have r0 : RelI C B g S m' σ vs H' I := { r' with stk := q2 }
  have r1 := r0.newCell (o := .lst ws) (c := .lst ds) ha ⟨ws, upd_same, q1⟩
  exact q _ _ _ _ ⟨_, r1.push (.ref a)⟩ (p a)
/-! ### calls on values -/
theorem ev_cb {r : List V → Hp → VK → Prop} {ta : TA} (h : EvA C g m ta fun ds m' => Cl C m' r ds P) : Ev C g m (tCB r ta) P := fun B S σ vs H rl Q q => h B S σ vs H rl _ fun ws ds m' H' r' hl p => p B g S σ vs H' ws hl r' Q q
theorem cl_pure {r : List V → Hp → VK → Prop} {ds : List Dt} {d : Dt} (h : ∀ (I H : Hp) (ws : List V), Same I H → DRs C.K I ws ds → ∀ Q : VK, (∀ v, DR C.K I v d → Q v H) → r ws H Q) (p : P d m) : Cl C m r ds P := fun B g S σ vs H ws hl ⟨I, rl⟩ Q q => by
  obtain ⟨q1, q2⟩ := rl.stk.split hl
  exact h I H ws rl.sub q1 Q fun v hv => q v d m H ⟨I, ({ rl with stk := .cons hv q2 } : RelI C B g (d :: S) m σ (v :: vs) H I)⟩ p
theorem cl_new {r : List V → Hp → VK → Prop} {ds : List Dt} {d : Dt} (h : ∀ (I H : Hp) (ws : List V), Same I H → DRs C.K I ws ds → ∀ Q : VK, (∀ p o, H p = none → (Same I (upd I p o) → DR C.K (upd I p o) (.ref p) d) → Q (.ref p) (upd H p o)) → r ws H Q) (p : P d m) : Cl C m r ds P := fun B g S σ vs H ws hl ⟨I, rl⟩ Q q => by
  obtain ⟨q1, q2⟩ := rl.stk.split hl
  refine h I H ws rl.sub q1 Q fun a o ha hd => ?_
  have r0 : RelI C B g S m σ vs H I := { rl with stk := q2 }
  have r1 := r0.alloc (o := o) ha
  exact q _ _ m _ ⟨_, r1.push (hd (same_upd (none_of_sub rl.sub ha)))⟩ p
/-- a call that makes a new list, which may change -/
theorem cl_newM {r : List V → Hp → VK → Prop} {ds es : List Dt} (h : ∀ (I H : Hp) (ws : List V), Same I H → DRs C.K I ws ds → ∀ Q : VK, (∀ p us, H p = none → DRs C.K I us es → Q (.ref p) (upd H p (.lst us))) → r ws H Q) (p : ∀ a, P (.ref a) (m ++ [⟨a, true, .lst es⟩])) : Cl C m r ds P := fun B g S σ vs H ws hl ⟨I, rl⟩ Q q => by
  obtain ⟨q1, q2⟩ := rl.stk.split hl
  refine h I H ws rl.sub q1 Q fun a us ha hd => ?_
  have r0 : RelI C B g S m σ vs H I := { rl with stk := q2 }
  have r1 := r0.newCell (o := .lst us) (c := .lst es) ha ⟨us, upd_same, hd⟩
  exact q _ _ _ _ ⟨_, r1.push (.ref a)⟩ (p a)

/-! ### statements -/
variable {PS : Pst} {t u : TS}
theorem sx_seq (h : Sx C g m t { PS with nx := fun g' m' => Sx C g' m' u PS }) : Sx C g m (tSeq t u) PS := fun B S vs σ H D rl E => h B S vs σ H { D with nx := u D } rl ⟨fun g' m' σ' H' r' p => p B S vs σ' H' D r' E, E.rt, E.bk, E.ct⟩
theorem sx_next (p : PS.nx g m) : Sx C g m tNext PS := fun B S vs σ H D rl E => E.nx _ _ _ _ rl p
theorem sx_break (p : PS.bk g m) : Sx C g m tBreak PS := fun B S vs σ H D rl E => E.bk _ _ _ _ rl p
theorem sx_cont (p : PS.ct g m) : Sx C g m tCont PS := fun B S vs σ H D rl E => E.ct _ _ _ _ rl p
theorem sx_set {i : Nat} (h : Ev C g m te fun d m' => PS.nx (g.set i (some d)) m') : Sx C g m (tAsg te (gName i)) PS := fun B S vs σ H D rl E => h B S σ vs H rl _ fun v d m' H' ⟨I, r'⟩ p => by
  cases r'.stk with
  | cons hv t => exact E.nx _ _ _ _ ⟨I, ({ r' with stk := t } : RelI C B g S m' σ vs H' I).slot hv⟩ p
theorem sx_drop (h : Ev C g m te fun _ m' => PS.nx g m') : Sx C g m (tDrop te) PS := fun B S vs σ H D rl E => h B S σ vs H rl _ fun v d m' H' ⟨I, r'⟩ p => by
  cases r'.stk with
  | cons hv t => exact E.nx _ _ _ _ ⟨I, { r' with stk := t }⟩ p
theorem sx_ret (h : Ev C g m te PS.rt) : Sx C g m (tRet te) PS := fun B S vs σ H D rl E => h B S σ vs H rl _ fun v d m' H' r' p => E.rt _ _ _ _ _ _ r' p
theorem sx_if {c : TT} (h : EvT C g m c fun b m' => (b = true → Sx C g m' t PS) ∧ (b = false → Sx C g m' u PS)) : Sx C g m (tIfS c t u) PS := fun B S vs σ H D rl E => h B S σ vs H rl _ fun b m' H' r' p => by
  cases b with
  | true => exact p.1 rfl B S vs σ H' D r' E
  | false => exact p.2 rfl B S vs σ H' D r' E
/-- xs[i] = e, xs a cell -/
theorem sx_setItem {to ti : TE} (h : Ev C g m te fun d m1 => Ev C g m1 to fun o m2 => Ev C g m2 ti fun i m3 => ∃ (j : Nat) (a : Addr) (b : Bool) (ds : List Dt) (n : Int) (k : Nat), o = .ref a ∧ i = .int n ∧ m3[j]? = some ⟨a, b, .lst ds⟩ ∧ ixN ds.length n = some k ∧ PS.nx g (m3.set j ⟨a, b, .lst (ds.set k d)⟩)) :
    Sx C g m (tAsg te (gSub to ti rSetL)) PS := fun B S vs σ H D rl E => h B S σ vs H rl _ fun v d m1 H1 r1 p1 => p1 B _ σ _ H1 r1 _ fun o do' m2 H2 r2 p2 => p2 B _ σ _ H2 r2 _ fun i di m3 H3 ⟨I, r3⟩ ⟨j, a, b, ds, n, k, e1, e2, hj, hk, p⟩ => by
  subst e1 e2
  cases r3.stk with
  | cons h1 t1 =>
    cases h1
    cases t1 with
    | cons h2 t2 =>
      cases h2
      cases t2 with
      | cons h3 t3 =>
        obtain ⟨ws, hw, hd⟩ : ∃ ws, H3 a = some (.lst ws) ∧ DRs C.K I ws ds := r3.mu.ok _ (List.mem_iff_getElem?.mpr ⟨j, hj⟩)
        refine ⟨a, ws, n, k, rfl, rfl, hw, by rw [hd.len]; exact hk, ?_⟩
        have r4 : RelI C B g S m3 σ vs H3 I := { r3 with stk := t3 }
        exact E.nx _ _ _ _ ⟨I, r4.cell (o := .lst (ws.set k v)) (c := .lst (ds.set k d)) hj ⟨_, upd_same, hd.set h3 k⟩⟩ p
/-- xs.append(e), xs a cell -/
theorem ev_append {K : PySem.W.Frag} (h : Ev C g m ta fun o m1 => (∃ (j : Nat) (a : Addr) (b : Bool) (ds : List Dt), o = .ref a ∧ m1[j]? = some ⟨a, b, .lst ds⟩) ∧ Ev C g m1 te fun d m2 => ∃ (j : Nat) (a : Addr) (b : Bool) (ds : List Dt), o = .ref a ∧ m2[j]? = some ⟨a, b, .lst ds⟩ ∧ ds.length < sizeLine ∧ P .non (m2.set j ⟨a, b, .lst (ds ++ [d])⟩)) :
    Ev C g m (tBM K "list" rAppend ta (tCons te tNil)) P := fun B S σ vs H rl Q q => h B S σ vs H rl _ fun x o m1 H1 r1 ⟨⟨j0, a0, b0, ds0, e0, hj0⟩, p1⟩ => by
  subst e0
  obtain ⟨I1, r1'⟩ := r1
  have hx : x = .ref a0 := by cases r1'.stk with | cons hx t => cases hx; rfl
  subst hx
  obtain ⟨ws0, hw0, _⟩ : ∃ ws, H1 a0 = some (.lst ws) ∧ DRs C.K I1 ws ds0 := r1'.mu.ok _ (List.mem_iff_getElem?.mpr ⟨j0, hj0⟩)
  refine ⟨.inl ⟨rfl, ws0, .inl (.inl hw0)⟩, p1 B _ σ _ H1 ⟨I1, r1'⟩ _ fun y d m2 H2 ⟨I, r2⟩ ⟨j, a, b, ds, e, hj, hz, p⟩ => ?_⟩
  cases e
  cases r2.stk with
  | cons h1 t1 =>
    cases t1 with
    | cons h2 t2 =>
      obtain ⟨ws, hw, hd⟩ : ∃ ws, H2 a0 = some (.lst ws) ∧ DRs C.K I ws ds := r2.mu.ok _ (List.mem_iff_getElem?.mpr ⟨j, hj⟩)
      refine ⟨a0, ws, y, rfl, rfl, hw, by rw [hd.len]; exact hz, ?_⟩
      have r4 : RelI C B g S m2 σ vs H2 I := { r2 with stk := t2 }
      exact q _ _ _ _ ⟨I, (r4.cell (o := .lst (ws ++ [y])) (c := .lst (ds ++ [d])) hj ⟨_, upd_same, hd.app (.one h1)⟩).push .non⟩ p
end
end NK

namespace NK
open PySem PySem.Spec PyProof.Rows L2
section
variable {C : Fx} {g : Gam} {m : Cells} {te ta tb tc : TE} {P P' : Dt → Cells → Prop} {PS : Pst} {t u : TS}
theorem Sx.mono {PS' : Pst} (h : Sx C g m t PS) (n : ∀ g m, PS.nx g m → PS'.nx g m) (r : ∀ d m, PS.rt d m → PS'.rt d m) (b : ∀ g m, PS.bk g m → PS'.bk g m) (c : ∀ g m, PS.ct g m → PS'.ct g m) : Sx C g m t PS' := fun B S vs σ H D rl E =>
  h B S vs σ H D rl ⟨fun g m σ H r q => E.nx g m σ H r (n g m q), fun g d m σ v H rr q => E.rt g d m σ v H rr (r d m q), fun g m σ H r q => E.bk g m σ H r (b g m q), fun g m σ H r q => E.ct g m σ H r (c g m q)⟩
theorem RelI.pop1 {B : Hp} {S : List Dt} {σ : L2.St} {vs : List V} {H I : Hp} {d : Dt} {v : V} (r : RelI C B g (d :: S) m σ (v :: vs) H I) : RelI C B g S m σ vs H I := { r with stk := by cases r.stk with | cons _ t => exact t }
theorem RelI.top {B : Hp} {S : List Dt} {σ : L2.St} {vs : List V} {H I : Hp} {d : Dt} {v : V} (r : RelI C B g (d :: S) m σ (v :: vs) H I) : DR C.K I v d := by cases r.stk with | cons h _ => exact h
/-- some cells are forgotten -/
theorem sx_fewer (m' : Cells) (hs : m'.Sublist m) (h : Sx C g m' t PS) : Sx C g m t PS := fun B S vs σ H D ⟨I, r⟩ E => h B S vs σ H D ⟨I, r.fewer hs⟩ E
/-- a local list that is done changing; g' is g with it in the place of its address -/
structure Frz (p : Addr) (d : Dt) (g g' : Gam) : Prop where
  len : g.length = g'.length
  look : ∀ (i : Nat) (e : Dt), g'[i]? = some (some e) → g[i]? = some (some e) ∨ (g[i]? = some (some (.ref p)) ∧ e = d)
theorem Frz.nil {p : Addr} {d : Dt} : Frz p d [] [] := ⟨rfl, fun i e h => by simp at h⟩
theorem Frz.cons {p : Addr} {d : Dt} {x : Option Dt} {g g' : Gam} (h : Frz p d g g') : Frz p d (x :: g) (x :: g') := ⟨by rw [List.length_cons, List.length_cons, h.len], fun i e q => by
  cases i with
  | zero => exact .inl q
  | succ i => simpa using h.look i e (by simpa using q)⟩
theorem Frz.here {p : Addr} {d : Dt} {g g' : Gam} (h : Frz p d g g') : Frz p d (some (.ref p) :: g) (some d :: g') := ⟨by rw [List.length_cons, List.length_cons, h.len], fun i e q => by
  cases i with
  | zero => simp at q; subst q; exact .inr ⟨rfl, rfl⟩
  | succ i => simpa using h.look i e (by simpa using q)⟩
theorem sx_freeze (j : Nat) {p : Addr} {ds : List Dt} {g' : Gam} (hj : m[j]? = some ⟨p, true, .lst ds⟩) (hf : Frz p (.lst ds) g g') (h : Sx C g' (m.eraseIdx j) t PS) : Sx C g m t PS := fun B S vs σ H D ⟨I, r⟩ E => by
  obtain ⟨I', up, r', hd⟩ := r.freeze hj
  refine h B S vs σ H D ⟨I', { r' with ctx := ⟨r'.ctx.len.trans hf.len, fun i e q => ?_⟩ }⟩ E
  rcases hf.look i e q with w | ⟨w, rfl⟩
  · exact r'.ctx.look i e w
  · obtain ⟨v, hv, hr⟩ := r'.ctx.look i _ w
    cases hr
    exact ⟨_, hv, hd⟩
/-! ### loops -/
theorem sx_forR1 {ta : TA} {j : Nat} (h : EvA C g m ta fun ds m1 => ∃ n : Int, ds = [.int n] ∧ (-(2 ^ 62) ≤ n ∧ n < 2 ^ 62) ∧ ∃ W : Nat → Gam → Cells → Prop, W 0 g m1 ∧
      (∀ (i : Nat) g' m', (i : Int) < n → W i g' m' → Sx C (g'.set j (some (.int i))) m' t { PS with nx := W (i + 1), ct := W (i + 1), bk := PS.nx }) ∧ (∀ g' m', W n.toNat g' m' → PS.nx g' m')) : Sx C g m (tFor (iRng1 ta) (gName j) t) PS := fun B S vs σ H D rl E =>
  h B S σ vs H rl _ fun ws ds m1 H1 ⟨I1, r1⟩ hl ⟨n, e, hn, W, w0, ws', wd⟩ => by
    subst e
    obtain ⟨q1, q2⟩ := r1.stk.split hl
    cases q1 with
    | cons hv tn =>
      cases hv
      cases tn
      refine ⟨n, rfl, hn.1, hn.2, for_range (lo := 0) (n := n.toNat) (fun i σ' H' => ∃ g' m', Rel C B g' S m' σ' vs H' ∧ W i g' m') ⟨g, m1, ⟨I1, { r1 with stk := q2 }⟩, w0⟩ (fun i σ' H' hi ⟨g', m', ⟨I', r'⟩, w'⟩ => ?_) (fun σ' H' ⟨g', m', r', w'⟩ => E.nx _ _ _ _ r' (wd _ _ w'))⟩
      have e0 : (0 : Int) + (i : Int) = (i : Int) := Int.zero_add _
      show t _ (σ'.set j (some (.int ((0 : Int) + (i : Int))))) H'
      rw [e0]
      exact ws' i g' m' (by omega) w' B S vs _ H' _ ⟨I', r'.slot (.int _)⟩ ⟨fun g2 m2 σ2 H2 r2 w2 => ⟨g2, m2, r2, w2⟩, E.rt, E.nx, fun g2 m2 σ2 H2 r2 w2 => ⟨g2, m2, r2, w2⟩⟩
theorem sx_forR2 {ta : TA} {j : Nat} (h : EvA C g m ta fun ds m1 => ∃ lo n : Int, ds = [.int lo, .int n] ∧ (-(2 ^ 62) ≤ lo ∧ lo < 2 ^ 62 ∧ -(2 ^ 62) ≤ n ∧ n < 2 ^ 62) ∧ ∃ W : Nat → Gam → Cells → Prop, W 0 g m1 ∧
      (∀ (i : Nat) g' m', lo + (i : Int) < n → W i g' m' → Sx C (g'.set j (some (.int (lo + i)))) m' t { PS with nx := W (i + 1), ct := W (i + 1), bk := PS.nx }) ∧ (∀ g' m', W (n - lo).toNat g' m' → PS.nx g' m')) : Sx C g m (tFor (iRng2 ta) (gName j) t) PS := fun B S vs σ H D rl E =>
  h B S σ vs H rl _ fun ws ds m1 H1 ⟨I1, r1⟩ hl ⟨lo, n, e, hn, W, w0, ws', wd⟩ => by
    subst e
    obtain ⟨q1, q2⟩ := r1.stk.split hl
    cases q1 with
    | cons hv tn =>
      cases hv
      cases tn with
      | cons hv tn =>
        cases hv
        cases tn
        refine ⟨lo, n, rfl, hn, for_range (lo := lo) (n := (n - lo).toNat) (fun i σ' H' => ∃ g' m', Rel C B g' S m' σ' vs H' ∧ W i g' m') ⟨g, m1, ⟨I1, { r1 with stk := q2 }⟩, w0⟩ (fun i σ' H' hi ⟨g', m', ⟨I', r'⟩, w'⟩ => ?_) (fun σ' H' ⟨g', m', r', w'⟩ => E.nx _ _ _ _ r' (wd _ _ w'))⟩
        exact ws' i g' m' (by omega) w' B S vs _ H' _ ⟨I', r'.slot (.int _)⟩ ⟨fun g2 m2 σ2 H2 r2 w2 => ⟨g2, m2, r2, w2⟩, E.rt, E.nx, fun g2 m2 σ2 H2 r2 w2 => ⟨g2, m2, r2, w2⟩⟩
/-- a target by data: what it does to the slots -/
def Tg (C : Fx) (m : Cells) (tg : TG) (d : Dt) (g : Gam) (K : Gam → Prop) : Prop := ∀ B S σ vs v H, Rel C B g (d :: S) m σ (v :: vs) H → ∀ Q : L2.St → Hp → Prop, (∀ g' σ', Rel C B g' S m σ' vs H → K g' → Q σ' H) → tg v σ H Q
theorem tg_name {i : Nat} {d : Dt} {K : Gam → Prop} (k : K (g.set i (some d))) : Tg C m (gName i) d g K := fun B S σ vs v H ⟨I, r⟩ Q q => q _ _ ⟨I, r.pop1.slot r.top⟩ k
theorem tg_tup2 {i j : Nat} {d1 d2 : Dt} {K : Gam → Prop} (k : K ((g.set i (some d1)).set j (some d2))) : Tg C m (gTup C.K 2 (gCons (gName i) (gCons (gName j) gNil))) (.tup [d1, d2]) g K := fun B S σ vs v H ⟨I, r⟩ Q q => by
  have hd := r.top
  cases hd with
  | tup h1 h2 =>
    cases h2 with
    | cons a1 t1 =>
      cases t1 with
      | cons a2 t2 =>
        cases t2
        exact ⟨_, _, rfl, same_t r.sub h1, rfl, _, _, rfl, _, _, rfl, rfl, q _ _ ⟨I, (r.pop1.slot a1).slot a2⟩ k⟩
theorem tg_tup3 {i j l : Nat} {d1 d2 d3 : Dt} {K : Gam → Prop} (k : K (((g.set i (some d1)).set j (some d2)).set l (some d3))) : Tg C m (gTup C.K 3 (gCons (gName i) (gCons (gName j) (gCons (gName l) gNil)))) (.tup [d1, d2, d3]) g K := fun B S σ vs v H ⟨I, r⟩ Q q => by
  have hd := r.top
  cases hd with
  | tup h1 h2 =>
    cases h2 with
    | cons a1 t1 =>
      cases t1 with
      | cons a2 t2 =>
        cases t2 with
        | cons a3 t3 =>
          cases t3
          exact ⟨_, _, rfl, same_t r.sub h1, rfl, _, _, rfl, _, _, rfl, _, _, rfl, rfl, q _ _ ⟨I, ((r.pop1.slot a1).slot a2).slot a3⟩ k⟩
theorem RelI.base {B B1 : Hp} {S : List Dt} {σ : L2.St} {vs : List V} {H I : Hp} (e : Same B B1) (r : RelI C B1 g S m σ vs H I) : RelI C B g S m σ vs H I := { r with bs := e.trans r.bs }
theorem Rel.base {B B1 : Hp} {S : List Dt} {σ : L2.St} {vs : List V} {H : Hp} (e : Same B B1) : Rel C B1 g S m σ vs H → Rel C B g S m σ vs H := fun ⟨I, r⟩ => ⟨I, r.base e⟩
theorem RelI.grip {B : Hp} {S : List Dt} {σ : L2.St} {vs : List V} {H I : Hp} (r : RelI C B g S m σ vs H I) : RelI C I g S m σ vs H I := { r with bs := Same.refl I }
theorem EndsOk.at {B B1 : Hp} {S : List Dt} {vs : List V} {D : Ends} (e : Same B B1) (E : EndsOk C B S vs PS D) : EndsOk C B1 S vs PS D := ⟨fun g m σ H r p => E.nx g m σ H (r.base e) p, fun g d m σ v H r p => E.rt g d m σ v H (r.base e) p, fun g m σ H r p => E.bk g m σ H (r.base e) p, fun g m σ H r p => E.ct g m σ H (r.base e) p⟩
/-- for x in xs, xs data -/
theorem sx_forL {tg : TG} (h : Ev C g m ta fun d m1 => ∃ ds, d = .lst ds ∧ ∃ W : Nat → Gam → Cells → Prop, W 0 g m1 ∧
      (∀ (i : Nat) x g' m', ds[i]? = some x → W i g' m' → Tg C m' tg x g' fun g2 => Sx C g2 m' t { PS with nx := W (i + 1), ct := W (i + 1), bk := PS.nx }) ∧ (∀ g' m', W ds.length g' m' → PS.nx g' m')) : Sx C g m (tFor (iList C.K ta) tg t) PS := fun B S vs σ H D rl E =>
  h B S σ vs H rl _ fun v d m1 H1 ⟨I1, r1⟩ ⟨ds, e, W, w0, ws, wd⟩ => by
    subst e
    have hd := r1.top
    cases hd with
    | @lst a xs _ hl hs =>
      refine ⟨a, rfl, ⟨xs, same_l r1.sub hl⟩, for_list (xs := xs) (fun i σ' H' => ∃ g' m', Rel C I1 g' S m' σ' vs H' ∧ W i g' m') ⟨g, m1, ⟨I1, r1.pop1.grip⟩, w0⟩ (fun i σ' H' _ ⟨g', m', ⟨I', r'⟩, _⟩ => same_l (r'.bs.trans r'.sub) hl) (fun i x σ' H' hx ⟨g', m', ⟨I', r'⟩, w'⟩ => ?_) (fun σ' H' ⟨g', m', r', w'⟩ => E.nx _ _ _ _ (r'.base r1.bs) (wd _ _ (by rw [← hs.len]; exact w')))⟩
      obtain ⟨dx, hdx, hr⟩ := hs.getV hx
      refine ws i dx g' m' hdx w' I1 S σ' vs x H' ⟨I', r'.push (hr.mono r'.bs)⟩ _ fun g2 σ2 r2 k => ?_
      exact k I1 S vs σ2 H' _ r2 ⟨fun g2 m2 σ2 H2 r2 w2 => ⟨g2, m2, r2, w2⟩, fun g d m σ v H r p => E.rt g d m σ v H (r.base r1.bs) p, fun g m σ H r p => E.nx g m σ H (r.base r1.bs) p, fun g2 m2 σ2 H2 r2 w2 => ⟨g2, m2, r2, w2⟩⟩
theorem sx_forT {tg : TG} (h : Ev C g m ta fun d m1 => ∃ ds, d = .tup ds ∧ ∃ W : Nat → Gam → Cells → Prop, W 0 g m1 ∧
      (∀ (i : Nat) x g' m', ds[i]? = some x → W i g' m' → Tg C m' tg x g' fun g2 => Sx C g2 m' t { PS with nx := W (i + 1), ct := W (i + 1), bk := PS.nx }) ∧ (∀ g' m', W ds.length g' m' → PS.nx g' m')) : Sx C g m (tFor (iTup C.K ta) tg t) PS := fun B S vs σ H D rl E =>
  h B S σ vs H rl _ fun v d m1 H1 ⟨I1, r1⟩ ⟨ds, e, W, w0, ws, wd⟩ => by
    subst e
    have hd := r1.top
    cases hd with
    | @tup a xs _ hl hs =>
      refine ⟨a, rfl, ⟨xs, same_t r1.sub hl⟩, for_tup (xs := xs) (fun i σ' H' => ∃ g' m', Rel C I1 g' S m' σ' vs H' ∧ W i g' m') ⟨g, m1, ⟨I1, r1.pop1.grip⟩, w0⟩ (fun i σ' H' _ ⟨g', m', ⟨I', r'⟩, _⟩ => same_t (r'.bs.trans r'.sub) hl) (fun i x σ' H' hx ⟨g', m', ⟨I', r'⟩, w'⟩ => ?_) (fun σ' H' ⟨g', m', r', w'⟩ => E.nx _ _ _ _ (r'.base r1.bs) (wd _ _ (by rw [← hs.len]; exact w')))⟩
      obtain ⟨dx, hdx, hr⟩ := hs.getV hx
      refine ws i dx g' m' hdx w' I1 S σ' vs x H' ⟨I', r'.push (hr.mono r'.bs)⟩ _ fun g2 σ2 r2 k => ?_
      exact k I1 S vs σ2 H' _ r2 ⟨fun g2 m2 σ2 H2 r2 w2 => ⟨g2, m2, r2, w2⟩, fun g d m σ v H r p => E.rt g d m σ v H (r.base r1.bs) p, fun g m σ H r p => E.nx g m σ H (r.base r1.bs) p, fun g2 m2 σ2 H2 r2 w2 => ⟨g2, m2, r2, w2⟩⟩
/-- for i, x in enumerate(xs), xs data -/
theorem sx_forE {ta : TA} {i0 j0 : Nat} (h : EvA C g m ta fun dd m1 => ∃ ds, dd = [.lst ds] ∧ ∃ W : Nat → Gam → Cells → Prop, W 0 g m1 ∧
      (∀ (i : Nat) x g' m', ds[i]? = some x → W i g' m' → Sx C ((g'.set i0 (some (.int i))).set j0 (some x)) m' t { PS with nx := W (i + 1), ct := W (i + 1), bk := PS.nx }) ∧ (∀ g' m', W ds.length g' m' → PS.nx g' m')) : Sx C g m (tFor (iEnum C.K ta) (gTup C.K 2 (gCons (gName i0) (gCons (gName j0) gNil))) t) PS := fun B S vs σ H D rl E =>
  h B S σ vs H rl _ fun us dd m1 H1 ⟨I1, r1⟩ hlen ⟨ds, e, W, w0, ws, wd⟩ => by
    subst e
    obtain ⟨q1, q2⟩ := r1.stk.split hlen
    cases q1 with
    | cons hd tn =>
      cases tn
      cases hd with
      | @lst a xs _ hl hs =>
        refine ⟨a, xs, rfl, same_l r1.sub hl, fun i n σ' H' => i + n = ds.length ∧ ∃ g' m', Rel C I1 g' S m' σ' vs H' ∧ W i g' m', ⟨ds.length, by omega, g, m1, ⟨I1, ({ r1 with stk := q2 } : RelI C B g S m1 σ vs H1 I1).grip⟩, w0⟩, ?_⟩
        rintro i n σ' H' ⟨hn, g', m', ⟨I', r'⟩, w'⟩
        have hl' : SqL C.K H' a xs := same_l (r'.bs.trans r'.sub) hl
        by_cases hi : i < ds.length
        · have hi' : i < xs.length := by rw [hs.len]; exact hi
          have gx : xs[i]? = some xs[i] := List.getElem?_eq_getElem hi'
          obtain ⟨dx, hdx, hr⟩ := hs.getV gx
          refine .inr ⟨⟨_, _, hl', gx⟩, fun σ2 H2 => ∃ g2 m2, Rel C I1 g2 S m2 σ2 vs H2 ∧ W (i + 1) g2 m2, fun σ2 H2 ⟨g2, m2, r2, w2⟩ => ⟨n - 1, by omega, by omega, g2, m2, r2, w2⟩, fun x H2 hy => ?_⟩
          obtain ⟨T, y, rfl, nT, rfl, f1⟩ := hy
          have ey : y = xs[i] := Option.some.inj ((f1 _ hl').symm.trans gx)
          subst ey
          have r2 := r'.alloc (o := .tup [.int (i : Nat), xs[i]]) nT
          refine ⟨T, [.int (i : Nat), xs[i]], rfl, .inl (.inl upd_same), rfl, _, _, rfl, _, _, rfl, rfl, ?_⟩
          exact ws i dx g' m' hdx w' I1 S vs _ _ _ ⟨_, (r2.slot (.int _)).slot (hr.mono r2.bs)⟩ ⟨fun g2 m2 σ2 H2 r2 w2 => ⟨g2, m2, r2, w2⟩, fun g d m σ v H r p => E.rt g d m σ v H (r.base r1.bs) p, fun g m σ H r p => E.nx g m σ H (r.base r1.bs) p, fun g2 m2 σ2 H2 r2 w2 => ⟨g2, m2, r2, w2⟩⟩
        · refine .inl ⟨⟨_, hl', ?_⟩, E.nx _ _ _ _ (Rel.base r1.bs ⟨I', r'⟩) (wd _ _ ?_)⟩
          · rw [hs.len]; omega
          · have e : i = ds.length := by omega
            rw [← e]
            exact w'
/-- while, by a number that falls -/
theorem sx_while {c : TT} (W : Nat → Gam → Cells → Prop) (n0 : Nat) (w0 : W n0 g m) (hs : ∀ n g' m', W n g' m' → EvT C g' m' c fun b m2 => (b = true → Sx C g' m2 t { PS with nx := fun g3 m3 => ∃ k, k < n ∧ W k g3 m3, ct := fun g3 m3 => ∃ k, k < n ∧ W k g3 m3, bk := PS.nx }) ∧ (b = false → PS.nx g' m2)) : Sx C g m (tWhile c t) PS := fun B S vs σ H D rl E => by
  refine ⟨fun n σ' H' => ∃ g' m', Rel C B g' S m' σ' vs H' ∧ W n g' m', ⟨n0, g, m, rl, w0⟩, ?_⟩
  rintro n σ' H' ⟨g', m', r', w'⟩
  refine hs n g' m' w' B S σ' vs H' r' _ fun b m2 H2 r2 p => ?_
  cases b with
  | true =>
    refine ⟨fun σ3 H3 => ∃ g3 m3, Rel C B g3 S m3 σ3 vs H3 ∧ ∃ k, k < n ∧ W k g3 m3, fun σ3 H3 ⟨g3, m3, r3, k, hk, w3⟩ => ⟨k, hk, g3, m3, r3, w3⟩, ?_⟩
    exact p.1 rfl B S vs σ' H2 _ r2 ⟨fun g3 m3 σ3 H3 r3 w3 => ⟨g3, m3, r3, w3⟩, E.rt, E.nx, fun g3 m3 σ3 H3 r3 w3 => ⟨g3, m3, r3, w3⟩⟩
  | false => exact E.nx _ _ _ _ r2 (p.2 rfl)
end
end NK

namespace NK
open PySem PySem.Spec PyProof.Rows L2
/-! ### what is walked -/
structure ItD (C : Fx) (I1 : Hp) (J : It) (xs : List Dt) : Prop where
  go : ∀ i g S m σ vs H, i < xs.length → Rel C I1 g S m σ vs H → J.go i H
  yl : ∀ i g S m σ vs H x H' d, xs[i]? = some d → Rel C I1 g S m σ vs H → J.yld i H x H' → Rel C I1 g (d :: S) m σ (x :: vs) H'
  st : ∀ i g S m σ vs H, xs.length ≤ i → Rel C I1 g S m σ vs H → J.stop i H
def EvI (C : Fx) (g : Gam) (m : Cells) (wi : TI) (P : List Dt → Cells → Prop) : Prop := ∀ B S σ vs H, Rel C B g S m σ vs H → ∀ R : It → Hp → Prop, (∀ J xs m' H' I1, RelI C B g S m' σ vs H' I1 → ItD C I1 J xs → P xs m' → R J H') → wi σ H R
/-- the slots that a target fills -/
def Only (js : List Nat) (σ σ' : L2.St) : Prop := σ'.length = σ.length ∧ ∀ i, i ∉ js → σ'[i]? = σ[i]?
def Fills (tg : TG) (js : List Nat) : Prop := ∀ v σ H (Q Q' : L2.St → Hp → Prop), tg v σ H Q → (∀ σ' H', Only js σ σ' → Q σ' H' → Q' σ' H') → tg v σ H Q'
theorem fills_name {i : Nat} : Fills (gName i) [i] := fun v σ H Q Q' h k => k _ _ ⟨List.length_set, fun j hj => List.getElem?_set_ne (fun e => hj (by rw [e]; exact List.mem_singleton.mpr rfl))⟩ h
theorem fills_tup2 {K : PySem.W.Frag} {i j : Nat} : Fills (gTup K 2 (gCons (gName i) (gCons (gName j) gNil))) [i, j] := fun v σ H Q Q' h k' => by
  obtain ⟨a, xs, e1, e2, e3, v1, r1, e4, v2, r2, e5, e6, q⟩ := h
  refine ⟨a, xs, e1, e2, e3, v1, r1, e4, v2, r2, e5, e6, k' _ _ ⟨by rw [List.length_set, List.length_set], fun k hk => ?_⟩ q⟩
  rw [List.getElem?_set_ne (fun e => hk (by rw [e]; simp)), List.getElem?_set_ne (fun e => hk (by rw [e]; simp))]
def wipeG (g : Gam) : List Nat → Gam
  | [] => g
  | v :: vs => (wipeG g vs).set v none
theorem Ctx.wipe {K : PySem.W.Frag} {I : Hp} {σ : L2.St} {g : Gam} (h : Ctx K I σ g) : ∀ vs : List Nat, Ctx K I (L2.wipe σ vs) (wipeG g vs)
  | [] => h
  | v :: vs => (Ctx.wipe h vs).drop
theorem wipe_in {σ : L2.St} {i : Nat} : ∀ {vs : List Nat}, i ∈ vs → (L2.wipe σ vs)[i]? = σ[i]?.map fun _ => none
  | [], h => by cases h
  | v :: vs, h => by
    unfold L2.wipe
    by_cases e : v = i
    · subst e
      by_cases hl : v < σ.length
      · rw [List.getElem?_set_self (by rw [L2.wipe_length]; exact hl), List.getElem?_eq_getElem hl]
        rfl
      · rw [List.getElem?_eq_none (by rw [List.length_set, L2.wipe_length]; omega), List.getElem?_eq_none (by omega)]
        rfl
    · rw [List.getElem?_set_ne e]
      exact wipe_in (by
        rcases List.mem_cons.mp h with w | w
        · exact absurd w.symm e
        · exact w)
theorem wipe_only {σ σ2 : L2.St} {js vs : List Nat} (hj : ∀ j ∈ js, j ∈ vs) (h : Only js (L2.wipe σ vs) σ2) : L2.wipe σ2 vs = L2.wipe σ vs := by
  refine List.ext_getElem? fun i => ?_
  by_cases hi : i ∈ vs
  · rw [wipe_in hi, wipe_in hi]
    have hl : σ2.length = σ.length := by rw [h.1, L2.wipe_length]
    by_cases w : i < σ.length
    · rw [List.getElem?_eq_getElem w, List.getElem?_eq_getElem (by rw [hl]; exact w)]
      rfl
    · rw [List.getElem?_eq_none (by omega), List.getElem?_eq_none (by omega)]
  · rw [L2.wipe_out hi, h.2 i (fun w => hi (hj i w)), L2.wipe_out hi]
section
variable {C : Fx} {g : Gam} {m : Cells} {te ta tb tc : TE} {P P' : Dt → Cells → Prop} {PS : Pst} {t u : TS}
theorem evi_list {PI : List Dt → Cells → Prop} (h : Ev C g m ta fun d m1 => ∃ ds, d = .lst ds ∧ PI ds m1) : EvI C g m (iList C.K ta) PI := fun B S σ vs H rl R q => h B S σ vs H rl _ fun v d m1 H1 ⟨I1, r1⟩ ⟨ds, e, p⟩ => by
  subst e
  have hd := r1.top
  cases hd with
  | @lst a xs _ hl hs =>
    refine ⟨a, rfl, ⟨xs, same_l r1.sub hl⟩, q _ ds m1 H1 I1 r1.pop1 ⟨fun i g S m σ vs H hi ⟨I', r'⟩ => ?_, fun i g S m σ vs H x H' d hx ⟨I', r'⟩ hy => ?_, fun i g S m σ vs H hi ⟨I', r'⟩ => ⟨xs, same_l (r'.bs.trans r'.sub) hl, by rw [hs.len]; exact hi⟩⟩ p⟩
    · have hi' : i < xs.length := by rw [hs.len]; exact hi
      exact ⟨xs, _, same_l (r'.bs.trans r'.sub) hl, List.getElem?_eq_getElem hi'⟩
    · obtain ⟨e1, e2⟩ := hy
      subst e1
      obtain ⟨v, hv, hr⟩ := hs.get hx
      have e3 := e2 _ (same_l (r'.bs.trans r'.sub) hl)
      rw [hv] at e3
      cases e3
      exact ⟨I', r'.push (hr.mono r'.bs)⟩
theorem evi_tup {PI : List Dt → Cells → Prop} (h : Ev C g m ta fun d m1 => ∃ ds, d = .tup ds ∧ PI ds m1) : EvI C g m (iTup C.K ta) PI := fun B S σ vs H rl R q => h B S σ vs H rl _ fun v d m1 H1 ⟨I1, r1⟩ ⟨ds, e, p⟩ => by
  subst e
  have hd := r1.top
  cases hd with
  | @tup a xs _ hl hs =>
    refine ⟨a, rfl, ⟨xs, same_t r1.sub hl⟩, q _ ds m1 H1 I1 r1.pop1 ⟨fun i g S m σ vs H hi ⟨I', r'⟩ => ?_, fun i g S m σ vs H x H' d hx ⟨I', r'⟩ hy => ?_, fun i g S m σ vs H hi ⟨I', r'⟩ => ⟨xs, same_t (r'.bs.trans r'.sub) hl, by rw [hs.len]; exact hi⟩⟩ p⟩
    · have hi' : i < xs.length := by rw [hs.len]; exact hi
      exact ⟨xs, _, same_t (r'.bs.trans r'.sub) hl, List.getElem?_eq_getElem hi'⟩
    · obtain ⟨e1, e2⟩ := hy
      subst e1
      obtain ⟨v, hv, hr⟩ := hs.get hx
      have e3 := e2 _ (same_t (r'.bs.trans r'.sub) hl)
      rw [hv] at e3
      cases e3
      exact ⟨I', r'.push (hr.mono r'.bs)⟩
def rangeD (lo : Int) (n : Nat) : List Dt := (List.range n).map fun i => .int (lo + (i : Nat))
theorem rangeD_len (lo : Int) (n : Nat) : (rangeD lo n).length = n := by unfold rangeD; rw [List.length_map, List.length_range]
theorem rangeD_get {lo : Int} {n i : Nat} {d : Dt} (h : (rangeD lo n)[i]? = some d) : i < n ∧ d = .int (lo + (i : Nat)) := by
  unfold rangeD at h
  rw [List.getElem?_map] at h
  cases q : (List.range n)[i]? with
  | none => rw [q] at h; cases h
  | some k =>
    rw [q] at h
    obtain ⟨hl, e⟩ := List.getElem?_eq_some_iff.mp q
    rw [List.length_range] at hl
    rw [List.getElem_range] at e
    subst e
    exact ⟨hl, (Option.some.inj h).symm⟩
theorem itr_itd {I1 : Hp} {lo : Int} {n : Nat} : ItD C I1 (Itr lo n) (rangeD lo n) where
  go := fun i g S m σ vs H hi _ => by rw [rangeD_len] at hi; exact hi
  yl := fun i g S m σ vs H x H' d hx ⟨I', r'⟩ hy => by
    obtain ⟨e1, e2⟩ := hy
    subst e1 e2
    rw [(rangeD_get hx).2]
    exact ⟨I', r'.push (.int _)⟩
  st := fun i g S m σ vs H hi _ => by rw [rangeD_len] at hi; exact hi
theorem evi_range1 {ta : TA} {PI : List Dt → Cells → Prop} (h : EvA C g m ta fun ds m1 => ∃ n : Int, ds = [.int n] ∧ (-(2 ^ 62) ≤ n ∧ n < 2 ^ 62) ∧ PI (rangeD 0 n.toNat) m1) : EvI C g m (iRng1 ta) PI := fun B S σ vs H rl R q => h B S σ vs H rl _ fun ws ds m1 H1 ⟨I1, r1⟩ hlen ⟨n, e, hn, p⟩ => by
  subst e
  obtain ⟨q1, q2⟩ := r1.stk.split hlen
  cases q1 with
  | cons hv tn =>
    cases hv
    cases tn
    exact ⟨n, rfl, hn.1, hn.2, q _ _ m1 H1 I1 { r1 with stk := q2 } itr_itd p⟩
theorem evi_range2 {ta : TA} {PI : List Dt → Cells → Prop} (h : EvA C g m ta fun ds m1 => ∃ lo n : Int, ds = [.int lo, .int n] ∧ (-(2 ^ 62) ≤ lo ∧ lo < 2 ^ 62 ∧ -(2 ^ 62) ≤ n ∧ n < 2 ^ 62) ∧ PI (rangeD lo (n - lo).toNat) m1) : EvI C g m (iRng2 ta) PI := fun B S σ vs H rl R q => h B S σ vs H rl _ fun ws ds m1 H1 ⟨I1, r1⟩ hlen ⟨lo, n, e, hn, p⟩ => by
  subst e
  obtain ⟨q1, q2⟩ := r1.stk.split hlen
  cases q1 with
  | cons hv tn =>
    cases hv
    cases tn with
    | cons hv tn =>
      cases hv
      cases tn
      exact ⟨lo, n, rfl, hn, q _ _ m1 H1 I1 { r1 with stk := q2 } itr_itd p⟩
def enumD (ds : List Dt) : List Dt := (ds.zipIdx).map fun p => .tup [.int (p.2 : Nat), p.1]
theorem enumD_len (ds : List Dt) : (enumD ds).length = ds.length := by unfold enumD; rw [List.length_map, List.length_zipIdx]
theorem enumD_get {ds : List Dt} {i : Nat} {d : Dt} (h : (enumD ds)[i]? = some d) : ∃ x, ds[i]? = some x ∧ d = .tup [.int (i : Nat), x] := by
  unfold enumD at h
  rw [List.getElem?_map, List.getElem?_zipIdx] at h
  cases q : ds[i]? with
  | none => rw [q] at h; cases h
  | some k =>
    rw [q] at h
    refine ⟨k, rfl, ?_⟩
    have e := (Option.some.inj h).symm
    rw [Nat.zero_add] at e
    exact e
theorem evi_enum {ta : TA} {PI : List Dt → Cells → Prop} (h : EvA C g m ta fun dd m1 => ∃ ds, dd = [.lst ds] ∧ PI (enumD ds) m1) : EvI C g m (iEnum C.K ta) PI := fun B S σ vs H rl R q => h B S σ vs H rl _ fun ws dd m1 H1 ⟨I1, r1⟩ hlen ⟨ds, e, p⟩ => by
  subst e
  obtain ⟨q1, q2⟩ := r1.stk.split hlen
  cases q1 with
  | cons hd tn =>
    cases tn
    cases hd with
    | @lst a xs _ hl hs =>
      refine ⟨a, xs, rfl, same_l r1.sub hl, q _ _ m1 H1 I1 { r1 with stk := q2 } ⟨fun i g S m σ vs H hi ⟨I', r'⟩ => ?_, fun i g S m σ vs H x H' d hx ⟨I', r'⟩ hy => ?_, fun i g S m σ vs H hi ⟨I', r'⟩ => ⟨xs, same_l (r'.bs.trans r'.sub) hl, by rw [hs.len, ← enumD_len]; exact hi⟩⟩ p⟩
      · have hi' : i < xs.length := by rw [hs.len, ← enumD_len]; exact hi
        exact ⟨xs, _, same_l (r'.bs.trans r'.sub) hl, List.getElem?_eq_getElem hi'⟩
      · obtain ⟨T, y, rfl, nT, rfl, f1⟩ := hy
        obtain ⟨dx, hdx, rfl⟩ := enumD_get hx
        obtain ⟨v, hv, hr⟩ := hs.get hdx
        have e3 := f1 _ (same_l (r'.bs.trans r'.sub) hl)
        rw [hv] at e3
        have e4 := Option.some.inj e3
        subst e4
        have r2 := r'.alloc (o := .tup [.int (i : Nat), v]) nT
        exact ⟨_, r2.push (.tup (.inl (.inl upd_same)) (.cons (.int _) (.cons (hr.mono r2.bs) .nil)))⟩
/-- the signs of a text -/
def signsD (z : Str) : List Dt := z.cps.toList.map fun c => .str ⟨#[c]⟩
theorem evi_str {PI : List Dt → Cells → Prop} (h : Ev C g m te fun d m1 => ∃ z, d = .str z ∧ PI (signsD z) m1) : EvI C g m (iStr te) PI := fun B S σ vs H rl R q => h B S σ vs H rl _ fun v d m1 H1 ⟨I1, r1⟩ ⟨z, e, p⟩ => by
  subst e
  have hd := r1.top
  cases hd
  have hsz : (signsD z).length = z.cps.size := by unfold signsD; rw [List.length_map, Array.length_toList]
  refine ⟨z, rfl, q _ _ m1 H1 I1 r1.pop1 ⟨fun i g S m σ vs H hi _ => by rw [hsz] at hi; exact hi, fun i g S m σ vs H x H' d hx ⟨I', r'⟩ hy => ?_, fun i g S m σ vs H hi _ => by rw [hsz] at hi; exact hi⟩ p⟩
  obtain ⟨e1, c, hc, e2⟩ := hy
  subst e1 e2
  unfold signsD at hx
  rw [List.getElem?_map, Array.getElem?_toList, hc] at hx
  cases hx
  exact ⟨I', r'.push (.str _)⟩
/-- for over anything that is walked -/
theorem sx_for {wi : TI} {tg : TG} (h : EvI C g m wi fun xs m1 => ∃ W : Nat → Gam → Cells → Prop, W 0 g m1 ∧
      (∀ (i : Nat) x g' m', xs[i]? = some x → W i g' m' → Tg C m' tg x g' fun g2 => Sx C g2 m' t { PS with nx := W (i + 1), ct := W (i + 1), bk := PS.nx }) ∧ (∀ g' m', W xs.length g' m' → PS.nx g' m')) : Sx C g m (tFor wi tg t) PS := fun B S vs σ H D rl E =>
  h B S σ vs H rl _ fun J xs m1 H1 I1 r1 it ⟨W, w0, ws, wd⟩ => by
    refine ⟨fun i n σ' H' => i + n = xs.length ∧ ∃ g' m', Rel C I1 g' S m' σ' vs H' ∧ W i g' m', ⟨xs.length, by omega, g, m1, ⟨I1, r1.grip⟩, w0⟩, ?_⟩
    rintro i n σ' H' ⟨hn, g', m', r', w'⟩
    by_cases hi : i < xs.length
    · refine .inr ⟨it.go i g' S m' σ' vs H' hi r', fun σ2 H2 => ∃ g2 m2, Rel C I1 g2 S m2 σ2 vs H2 ∧ W (i + 1) g2 m2, fun σ2 H2 ⟨g2, m2, r2, w2⟩ => ⟨n - 1, by omega, by omega, g2, m2, r2, w2⟩, fun x H2 hy => ?_⟩
      have r2 := it.yl i g' S m' σ' vs H' x H2 xs[i] (List.getElem?_eq_getElem hi) r' hy
      refine ws i xs[i] g' m' (List.getElem?_eq_getElem hi) w' I1 S σ' vs x H2 r2 _ fun g2 σ2 r2 k => ?_
      exact k I1 S vs σ2 H2 _ r2 ⟨fun g2 m2 σ2 H2 r2 w2 => ⟨g2, m2, r2, w2⟩, fun g d m σ v H r p => E.rt g d m σ v H (r.base r1.bs) p, fun g m σ H r p => E.nx g m σ H (r.base r1.bs) p, fun g2 m2 σ2 H2 r2 w2 => ⟨g2, m2, r2, w2⟩⟩
    · refine .inl ⟨it.st i g' S m' σ' vs H' (by omega) r', E.nx _ _ _ _ (Rel.base r1.bs r') (wd _ _ ?_)⟩
      have e : i = xs.length := by omega
      rw [← e]
      exact w'
/-- a list comprehension: a new cell at the end -/
theorem ev_lc {wi : TI} {tg : TG} {tt : TT} {own js : List Nat} (hf : Fills tg js) (hj : ∀ j ∈ js, j ∈ own) (h : EvI C g m wi fun xs m1 => ∃ W : Nat → List Dt → Cells → Prop, W 0 [] m1 ∧
      (∀ (i : Nat) x acc m', xs[i]? = some x → W i acc m' → acc.length < sizeLine ∧ ∀ a, Tg C (m' ++ [⟨a, true, .lst acc⟩]) tg x (wipeG g own) fun g2 => EvT C g2 (m' ++ [⟨a, true, .lst acc⟩]) tt fun b m2 =>
        (b = true → Ev C g2 m2 te fun d m3 => ∃ m4, m3 = m4 ++ [⟨a, true, .lst acc⟩] ∧ W (i + 1) (acc ++ [d]) m4) ∧ (b = false → ∃ m4, m2 = m4 ++ [⟨a, true, .lst acc⟩] ∧ W (i + 1) acc m4)) ∧
      (∀ acc m', W xs.length acc m' → ∀ a, P (.ref a) (m' ++ [⟨a, true, .lst acc⟩]))) : Ev C g m (tLc wi tg tt te own) P := fun B S σ vs H rl Q q =>
  h B S σ vs H rl _ fun J xs m1 H1 I1 r1 it ⟨W, w0, ws, wd⟩ D hD => by
    have hgo : ∀ {g2 : Gam} {S2 : List Dt} {m2 : Cells} {σ2 : L2.St} {vs2 : List V} {H2 I2 : Hp}, RelI C I1 g2 S2 m2 σ2 vs2 H2 I2 → DRs C.K I2 vs S → RelI C I1 g S m2 σ vs H2 I2 := fun r hs => { r with ctx := r1.ctx.mono r.bs, stk := hs }
    refine ⟨fun i n H' => i + n = xs.length ∧ ∃ acc m', Rel C I1 g S (m' ++ [⟨D, true, .lst acc⟩]) σ vs H' ∧ W i acc m', ⟨xs.length, by omega, [], m1, ⟨I1, r1.grip.newCell (o := .lst []) (c := .lst []) hD ⟨[], upd_same, .nil⟩⟩, w0⟩, ?_⟩
    rintro i n H' ⟨hn, acc, m', r', w'⟩
    by_cases hi : i < xs.length
    · refine .inr ⟨it.go i _ _ _ _ _ H' hi r', fun H2 => ∃ acc m', Rel C I1 g S (m' ++ [⟨D, true, .lst acc⟩]) σ vs H2 ∧ W (i + 1) acc m', fun H2 ⟨acc2, m2, r2, w2⟩ => ⟨n - 1, by omega, by omega, acc2, m2, r2, w2⟩, fun x H2 hy => ?_⟩
      obtain ⟨I2, r2⟩ := it.yl i _ _ _ _ _ H' x H2 xs[i] (List.getElem?_eq_getElem hi) r' hy
      obtain ⟨hz, ht⟩ := ws i xs[i] acc m' (List.getElem?_eq_getElem hi) w'
      have r3 : RelI C I1 (wipeG g own) (xs[i] :: S) (m' ++ [⟨D, true, .lst acc⟩]) (L2.wipe σ own) (x :: vs) H2 I2 := { r2 with ctx := r2.ctx.wipe own }
      have hT := ht D I1 S (L2.wipe σ own) vs x H2 ⟨I2, r3⟩ (fun σ' Hq => Only js (L2.wipe σ own) σ' → L2.wipe σ' own = L2.wipe σ own ∧ tt σ' Hq fun b H3 => if b = true then te σ' H3 fun y H4 => ∃ acc, H4 D = some (.lst acc) ∧ acc.length < sizeLine ∧ ∃ acc' m', Rel C I1 g S (m' ++ [⟨D, true, .lst acc'⟩]) σ vs (upd H4 D (.lst (acc ++ [y]))) ∧ W (i + 1) acc' m' else ∃ acc' m', Rel C I1 g S (m' ++ [⟨D, true, .lst acc'⟩]) σ vs H3 ∧ W (i + 1) acc' m') ?_
      · exact hf _ _ _ _ _ hT fun σ' Hq ho hq => hq ho
      · intro g2 σ2 r4 k ho
        refine ⟨wipe_only hj ho, ?_⟩
        refine k I1 S σ2 vs H2 r4 _ fun b m2 H3 r5 p => ?_
        cases b with
        | true =>
          refine p.1 rfl I1 S σ2 vs H3 r5 _ fun v d m3 H4 ⟨I4, r6⟩ ⟨m4, e, w4⟩ => ?_
          subst e
          have hm : (⟨D, true, .lst acc⟩ : Ce) ∈ m4 ++ [⟨D, true, .lst acc⟩] := List.mem_append_right _ (List.mem_singleton.mpr rfl)
          obtain ⟨us, hu, hd⟩ : ∃ us, H4 D = some (.lst us) ∧ DRs C.K I4 us acc := r6.mu.ok _ hm
          have r7 := hgo r6.pop1 r6.pop1.stk
          have hj' : (m4 ++ [(⟨D, true, .lst acc⟩ : Ce)])[m4.length]? = some ⟨D, true, .lst acc⟩ := by rw [List.getElem?_append_right (Nat.le_refl _), Nat.sub_self] <;> rfl
          have r8 := r7.cell (o := .lst (us ++ [v])) (c := .lst (acc ++ [d])) hj' ⟨_, upd_same, hd.app (.one r6.top)⟩
          refine ⟨us, hu, by rw [hd.len]; exact hz, acc ++ [d], m4, ⟨I4, ?_⟩, w4⟩
          have e : (m4 ++ [(⟨D, true, .lst acc⟩ : Ce)]).set m4.length ⟨D, true, .lst (acc ++ [d])⟩ = m4 ++ [⟨D, true, .lst (acc ++ [d])⟩] := by
            rw [List.set_append_right _ _ (Nat.le_refl _), Nat.sub_self] <;> rfl
          rw [← e]
          exact r8
        | false =>
          obtain ⟨m4, e, w4⟩ := p.2 rfl
          subst e
          obtain ⟨I5, r5'⟩ := r5
          exact ⟨acc, m4, ⟨I5, hgo r5' r5'.stk⟩, w4⟩
    · refine .inl ⟨it.st i _ _ _ _ _ H' (by omega) r', ?_⟩
      obtain ⟨I', r''⟩ := r'
      have e : i = xs.length := by omega
      subst e
      exact q _ _ _ _ ⟨I', (r''.base r1.bs).push (.ref D)⟩ (wd _ _ w' D)
end
end NK

namespace NK
open PySem PySem.Spec PyProof.Rows L2
section
variable {C : Fx} {g : Gam} {m : Cells} {te ta tb tc : TE} {P P' : Dt → Cells → Prop} {PS : Pst} {t u : TS}
/-- a value that is a local list, done changing -/
theorem ev_frz (h : Ev C g m te fun d m' => ∃ (j : Nat) (a : Addr) (ds : List Dt), d = .ref a ∧ m'[j]? = some ⟨a, true, .lst ds⟩ ∧ P (.lst ds) (m'.eraseIdx j)) : Ev C g m te P := fun B S σ vs H rl Q q => h B S σ vs H rl _ fun v d m' H' ⟨I, r⟩ ⟨j, a, ds, e, hj, p⟩ => by
  subst e
  obtain ⟨I', up, r', hd⟩ := r.freeze hj
  have hv := r'.top
  cases hv
  exact q _ _ _ _ ⟨I', r'.pop1.push hd⟩ p
/-! ### defs -/
abbrev Spc := List Dt → Cells → (Dt → Cells → Prop) → Prop
def doms (m : Cells) (a : Addr) : Prop := a ∈ m.map (·.a)
def spOf (K : PySem.W.Frag) (F : Spc) : Sp := fun vs H Q _ => ∃ (I : Hp) (es : List Dt) (m : Cells) (P : Dt → Cells → Prop), Same I H ∧ DRs K I vs es ∧ MuOk K I H m ∧ (∀ e ∈ m, e.loc = false) ∧ F es m P ∧
  ∀ v d I' H' m', Go (doms m) I H I' H' → DR K I' v d → MuOk K I' H' m' → (∀ e ∈ m', if e.loc = true then H e.a = none else doms m e.a) → P d m' → Q v H'
theorem ctx_start {K : PySem.W.Frag} {I : Hp} {N : List Str} {vs : List V} {es : List Dt} (h : DRs K I vs es) : Ctx K I (L2.start N vs) (es.map some ++ List.replicate (N.length - es.length) none) := by
  unfold L2.start
  refine ⟨by simp [h.len], fun i d q => ?_⟩
  have hl : i < es.length := by
    by_cases w : i < es.length
    · exact w
    · rw [List.getElem?_append_right (by simpa using Nat.le_of_not_lt w), List.getElem?_replicate] at q
      split at q <;> cases q
  rw [List.getElem?_append_left (by simpa using hl), List.getElem?_map] at q
  rw [List.getElem?_append_left (by simpa [h.len] using hl), List.getElem?_map]
  cases w : es[i]? with
  | none => rw [w] at q; cases q
  | some e =>
    rw [w] at q
    cases q
    obtain ⟨v, hv, hr⟩ := h.get w
    exact ⟨v, by rw [hv]; rfl, hr⟩
/-- the body of a def, from its promise: rt may forget cells -/
theorem fn_enter {K : PySem.W.Frag} {F : Spc} {N : List Str} {vs : List V} {H : Hp} {Q : VK} {E : XK} {t : TS} (hsp : spOf K F vs H Q E)
    (hb : ∀ (C : Fx) es m P, C.K = K → F es m P → Sx C (es.map some ++ List.replicate (N.length - es.length) none) m t { nx := fun _ m' => ∃ m2, m2.Sublist m' ∧ P .non m2, rt := fun d m' => ∃ m2, m2.Sublist m' ∧ P d m2 }) : t { nx := fun _ H' => Q .non H', rt := Q } (L2.start N vs) H := by
  obtain ⟨I, es, m, P, hs, hd, hm, hf, hF, hq⟩ := hsp
  let C : Fx := ⟨K, doms m, I, H⟩
  have r0 : RelI C I (es.map some ++ List.replicate (N.length - es.length) none) [] m (L2.start N vs) [] H I := ⟨Same.refl I, Go.refl hs, ctx_start hd, .nil, hm, fun e he => by
    rw [hf e he]
    exact List.mem_map_of_mem he⟩
  refine hb C es m P rfl hF I [] [] _ H _ ⟨I, r0⟩ ⟨fun g' m' σ' H' ⟨I', r'⟩ ⟨m2, hsub, p⟩ => ?_, fun g' d m' σ' v H' ⟨I', r'⟩ ⟨m2, hsub, p⟩ => ?_, fun _ _ _ _ _ p => p.elim, fun _ _ _ _ _ p => p.elim⟩
  · have r2 := r'.fewer hsub
    exact hq .non .non I' H' m2 r2.go .non r2.mu r2.own p
  · have r2 := r'.fewer hsub
    exact hq v d I' H' m2 r2.go r2.top r2.mu r2.own p
theorem sp_len {K : PySem.W.Frag} {F : Spc} {n : Nat} (h : ∀ es m P, F es m P → es.length = n) : ∀ vs H Q E, spOf K F vs H Q E → vs.length = n := fun vs H Q E ⟨I, es, m, P, _, hd, _, _, hF, _⟩ => hd.len.trans (h es m P hF)
/-- the cells as a callee sees them -/
def lent (m : Cells) : Cells := m.map fun e => { e with loc := false }
/-- the callee's cells as the caller sees them again -/
def got : Cells → Cells → Cells
  | e :: m, e' :: m' => { e' with loc := e.loc } :: got m m'
  | _, _ => []
theorem got_mem : ∀ {m m' : Cells} {e : Ce}, e ∈ got m m' → ∃ e1 ∈ m, ∃ e2 ∈ m', e = { e2 with loc := e1.loc } ∧ ∃ i : Nat, m[i]? = some e1 ∧ m'[i]? = some e2
  | [], m', e, h => by cases m' <;> cases h
  | x :: m, [], e, h => by cases h
  | x :: m, y :: m', e, h => by
    rcases List.mem_cons.mp h with w | w
    · exact ⟨x, List.mem_cons_self, y, List.mem_cons_self, w, 0, rfl, rfl⟩
    · obtain ⟨e1, h1, e2, h2, h3, i, h4, h5⟩ := got_mem w
      exact ⟨e1, List.mem_cons_of_mem _ h1, e2, List.mem_cons_of_mem _ h2, h3, i + 1, h4, h5⟩
theorem got_addr : ∀ {m m' : Cells}, m.length = m'.length → (got m m').map (·.a) = m'.map (·.a)
  | [], [], _ => rfl
  | [], _ :: _, h => by cases h
  | _ :: _, [], h => by cases h
  | x :: m, y :: m', h => by
    show y.a :: (got m m').map (·.a) = y.a :: m'.map (·.a)
    rw [got_addr (by simpa using h)]
/-- a call: the first n cells are lent; new ones come behind -/
theorem ev_call {K : PySem.W.Frag} (hK : C.K = K) {F : Spc} {E : XK} {ta : TA} (n : Nat) (h : EvA C g m ta fun es m1 => n ≤ m1.length ∧ ∃ R, F es (lent (m1.take n)) R ∧ ∀ d m', R d m' → n ≤ m'.length ∧ (m'.take n).map (·.a) = (m1.take n).map (·.a) ∧ (∀ e ∈ m'.drop n, e.loc = true) ∧ P d (got (m1.take n) (m'.take n) ++ (m1.drop n ++ m'.drop n))) : Ev C g m (tCall (spOf K F) [] E ta) P := fun B S σ vs H rl Q q =>
  h B S σ vs H rl _ fun ws es m1 H1 ⟨I1, r1⟩ hlen ⟨hn, R, hF, hR⟩ => by
    subst hK
    obtain ⟨q1, q2⟩ := r1.stk.split hlen
    have r0 : RelI C B g S m1 σ vs H1 I1 := { r1 with stk := q2 }
    have hdom : ∀ a, doms (lent (m1.take n)) a ↔ a ∈ (m1.take n).map (·.a) := fun a => by
      unfold doms lent
      rw [List.map_map]
      exact Iff.rfl
    rw [List.append_nil]
    refine ⟨I1, es, lent (m1.take n), _, r1.sub, q1, ⟨?_, fun e he => ?_, fun e he => ?_⟩, fun e he => ?_, hF, fun v d I' H' m' hgo hd hmu hown hRR => ?_⟩
    · have e : (lent (m1.take n)).map (·.a) = (m1.take n).map (·.a) := by unfold lent; rw [List.map_map] <;> rfl
      rw [e]
      exact ((List.take_sublist n m1).map _).nodup r1.mu.nd
    · obtain ⟨e0, h0, rfl⟩ := List.mem_map.mp he
      exact r1.mu.fr e0 (List.mem_of_mem_take h0)
    · obtain ⟨e0, h0, rfl⟩ := List.mem_map.mp he
      exact r1.mu.ok e0 (List.mem_of_mem_take h0)
    · obtain ⟨e0, h0, rfl⟩ := List.mem_map.mp he
      rfl
    · obtain ⟨hl, ha, hnew, hp⟩ := hR d m' hRR
      have hsplit : m1.take n ++ m1.drop n = m1 := List.take_append_drop n m1
      have hsplit' : m'.take n ++ m'.drop n = m' := List.take_append_drop n m'
      have nd1 : ((m1.take n ++ m1.drop n).map (·.a)).Nodup := by rw [hsplit]; exact r1.mu.nd
      rw [List.map_append, List.nodup_append] at nd1
      obtain ⟨ndt, ndd, ndx⟩ := nd1
      have hlen2 : (m1.take n).length = (m'.take n).length := by rw [List.length_take, List.length_take]; omega
      -- cells that were not lent stay
      have hrest : ∀ e ∈ m1.drop n, I' e.a = none ∧ CellOk C.K I' H' e.a e.c := fun e he => by
        have hm : e ∈ m1 := List.mem_of_mem_drop he
        have nd : ¬ doms (lent (m1.take n)) e.a := fun w => ndx _ ((hdom _).mp w) _ (List.mem_map_of_mem he) rfl
        refine ⟨?_, (r1.mu.ok e hm).mono hgo.up fun o q => hgo.fr _ _ nd q⟩
        rw [hgo.nw _ (r1.mu.ok e hm).there]
        exact r1.mu.fr e hm
      have hnewH : ∀ e ∈ m'.drop n, H1 e.a = none := fun e he => by
        have w := hown e (List.mem_of_mem_drop he)
        rw [hnew e he] at w
        exact w
      have hgo2 : Go C.M C.I0 C.H0 I' H' := r1.go.trans hgo fun x w => by
        obtain ⟨e0, h0, rfl⟩ := List.mem_map.mp ((hdom x).mp w)
        have o := r1.own e0 (List.mem_of_mem_take h0)
        cases q : e0.loc with
        | true => rw [q] at o; exact .inr o
        | false => rw [q] at o; exact .inl o
      have hmem : ∀ e, e ∈ got (m1.take n) (m'.take n) ++ (m1.drop n ++ m'.drop n) → e ∈ got (m1.take n) (m'.take n) ∨ e ∈ m1.drop n ∨ e ∈ m'.drop n := fun e he => by
        rcases List.mem_append.mp he with w | w
        · exact .inl w
        · exact .inr (List.mem_append.mp w)
      have addr : ∀ {e1 e2 : Ce} {i : Nat}, (m1.take n)[i]? = some e1 → (m'.take n)[i]? = some e2 → e1.a = e2.a := fun {e1 e2 i} h1 h2 => by
        have a1 : ((m1.take n).map (·.a))[i]? = some e1.a := by rw [List.getElem?_map, h1]; rfl
        have a2 : ((m'.take n).map (·.a))[i]? = some e2.a := by rw [List.getElem?_map, h2]; rfl
        rw [ha, a1] at a2
        exact Option.some.inj a2
      refine q v d _ H' ⟨I', ⟨r1.bs.trans hgo.up, hgo2, r0.ctx.mono hgo.up, .cons hd (q2.mono hgo.up), ⟨?_, fun e he => ?_, fun e he => ?_⟩, fun e he => ?_⟩⟩ hp
      · rw [List.map_append, List.map_append, got_addr hlen2, ha, List.nodup_append, List.nodup_append]
        have ndm' : (m'.map (·.a)).Nodup := hmu.nd
        rw [← hsplit', List.map_append, List.nodup_append] at ndm'
        refine ⟨ndt, ⟨ndd, ndm'.2.1, fun a h1 b h2 w => ?_⟩, fun a h1 b h2 w => ?_⟩
        · obtain ⟨e1, k1, rfl⟩ := List.mem_map.mp h1
          obtain ⟨e2, k2, rfl⟩ := List.mem_map.mp h2
          exact (r1.mu.ok e1 (List.mem_of_mem_drop k1)).there (by rw [w]; exact hnewH e2 k2)
        · rcases List.mem_append.mp h2 with k | k
          · exact ndx a h1 b k w
          · obtain ⟨e1, k1, rfl⟩ := List.mem_map.mp h1
            obtain ⟨e2, k2, rfl⟩ := List.mem_map.mp k
            exact (r1.mu.ok e1 (List.mem_of_mem_take k1)).there (by rw [w]; exact hnewH e2 k2)
      · rcases hmem e he with w | w | w
        · obtain ⟨e1, h1, e2, h2, rfl, _⟩ := got_mem w
          exact hmu.fr e2 (List.mem_of_mem_take h2)
        · exact (hrest e w).1
        · exact hmu.fr e (List.mem_of_mem_drop w)
      · rcases hmem e he with w | w | w
        · obtain ⟨e1, h1, e2, h2, rfl, _⟩ := got_mem w
          exact hmu.ok e2 (List.mem_of_mem_take h2)
        · exact (hrest e w).2
        · exact hmu.ok e (List.mem_of_mem_drop w)
      · rcases hmem e he with w | w | w
        · obtain ⟨e1, h1, e2, h2, rfl, i, k1, k2⟩ := got_mem w
          have o := r1.own e1 (List.mem_of_mem_take h1)
          rw [addr k1 k2] at o
          exact o
        · exact r1.own e (List.mem_of_mem_drop w)
        · rw [hnew e w]
          show C.H0 e.a = none
          cases z : C.H0 e.a with
          | none => rfl
          | some x => exact absurd (hnewH e w) (r1.go.kp _ (by rw [z]; exact fun y => nomatch y))
/-- no cell is lent, none comes -/
theorem ev_call0 {F : Spc} {E : XK} {ta : TA} (h : EvA C g m ta fun es m1 => F es [] fun d m' => m' = [] ∧ P d m1) : Ev C g m (tCall (spOf C.K F) [] E ta) P :=
  ev_call rfl 0 (fun B S σ vs H rl Q q => h B S σ vs H rl Q fun ws es m1 H1 r1 hl p => q ws es m1 H1 r1 hl ⟨Nat.zero_le _, _, p, fun d m' ⟨e, k⟩ => by
    subst e
    refine ⟨Nat.le_refl _, rfl, fun e he => (by cases he), ?_⟩
    show P d ([] ++ (m1 ++ []))
    rw [List.append_nil]
    exact k⟩)
/-- no cell is lent, a new list comes -/
theorem ev_call0L {F : Spc} {E : XK} {ta : TA} (h : EvA C g m ta fun es m1 => F es [] fun d m' => ∃ a c, d = .ref a ∧ m' = [⟨a, true, c⟩] ∧ P (.ref a) (m1 ++ [⟨a, true, c⟩])) : Ev C g m (tCall (spOf C.K F) [] E ta) P :=
  ev_call rfl 0 (fun B S σ vs H rl Q q => h B S σ vs H rl Q fun ws es m1 H1 r1 hl p => q ws es m1 H1 r1 hl ⟨Nat.zero_le _, _, p, fun d m' ⟨a, c, e1, e, k⟩ => by
    subst e e1
    refine ⟨Nat.zero_le _, rfl, fun e he => ?_, k⟩
    rw [List.mem_singleton.mp he]⟩)
/-- the first cell is lent -/
theorem ev_call1 {F : Spc} {E : XK} {ta : TA} (h : EvA C g m ta fun es m1 => ∃ a b c mr, m1 = ⟨a, b, c⟩ :: mr ∧ F es [⟨a, false, c⟩] fun d m' => ∃ c', m' = [⟨a, false, c'⟩] ∧ P d (⟨a, b, c'⟩ :: mr)) : Ev C g m (tCall (spOf C.K F) [] E ta) P :=
  ev_call rfl 1 (fun B S σ vs H rl Q q => h B S σ vs H rl Q fun ws es m1 H1 r1 hl ⟨a, b, c, mr, e0, p⟩ => q ws es m1 H1 r1 hl (by
    subst e0
    refine ⟨Nat.succ_le_succ (Nat.zero_le _), _, p, fun d m' ⟨c', e, k⟩ => ?_⟩
    subst e
    refine ⟨Nat.le_refl _, rfl, fun e he => (by cases he), ?_⟩
    show P d (⟨a, b, c'⟩ :: ([] ++ (mr ++ [])))
    rw [List.append_nil]
    exact k))
/-- the first cell is lent, a new list comes -/
theorem ev_call1L {F : Spc} {E : XK} {ta : TA} (h : EvA C g m ta fun es m1 => ∃ a b c mr, m1 = ⟨a, b, c⟩ :: mr ∧ F es [⟨a, false, c⟩] fun d m' => ∃ c' x cx, d = .ref x ∧ m' = [⟨a, false, c'⟩, ⟨x, true, cx⟩] ∧ P (.ref x) (⟨a, b, c'⟩ :: (mr ++ [⟨x, true, cx⟩]))) : Ev C g m (tCall (spOf C.K F) [] E ta) P :=
  ev_call rfl 1 (fun B S σ vs H rl Q q => h B S σ vs H rl Q fun ws es m1 H1 r1 hl ⟨a, b, c, mr, e0, p⟩ => q ws es m1 H1 r1 hl (by
    subst e0
    refine ⟨Nat.succ_le_succ (Nat.zero_le _), _, p, fun d m' ⟨c', x, cx, e1, e, k⟩ => ?_⟩
    subst e e1
    refine ⟨Nat.succ_le_succ (Nat.zero_le _), rfl, fun e he => ?_, k⟩
    rw [List.mem_singleton.mp he]))
end
end NK

namespace NK
open PySem PySem.Spec PyProof.Rows L2
/-! ### rules of the machine by name -/
theorem list_addAt (l : Addr) (items : Array Value) (n : Nat) (b : Addr) (items2 : Array Value) (n2 : Nat) (dd dd2 : Option Addr) (sl sl2 : Array (Option Value)) (hc0 : items.size + items2.size ≤ sizeLine) :
    Meets (Builtin.«list.__add__» ⟨[.ref l, .ref b], []⟩) (fun _ R s => s.heap.get? l = some { cls := .type "list", dict := dd, data := .seq items n, slots := sl } ∧ s.heap.get? b = some { cls := .type "list", dict := dd2, data := .seq items2 n2, slots := sl2 } ∧ R (.ok (.ret (Value.ref s.heap.objs.size))) { s with heap := s.heap.push { cls := Value.type "list", data := Data.seq (items ++ items2) }, toks := s.toks }) :=
  .of_wp fun prog w A R s h => by obtain ⟨hp, g, d, tk, os⟩ := s; obtain ⟨hl, hb, h⟩ := h; have f1 := AutoSeq1.idx_int; have f2 := AutoSeq1.sub_tuple_tuple; have f3 := AutoSeq1.sub_list_list; have f4 := AutoSeq1.sub_tuple_list; have f5 := AutoSeq1.sub_list_tuple; wp_walk using wpAny_loadPart' hl, wpAny_loadPart' hb; exact ⟨_, rfl, h⟩
/-- list + list, whatever stands there -/
def rCatL (K : PySem.W.Frag) : R2 := fun x y H Q => ∃ l b xs zs, x = .ref l ∧ y = .ref b ∧ SqL K H l xs ∧ SqL K H b zs ∧ xs.length + zs.length ≤ sizeLine ∧ ∀ p, H p = none → Q (.ref p) (upd H p (.lst (xs ++ zs)))
theorem op_catL {X : Cx} : OpR X (binaryOp .Add) (rCatL X.K) := by
  intro pins s σ H x y v u Q I rx ry h
  obtain ⟨l, b, xs, zs, rfl, rfl, hH, hB, hz, q⟩ := h
  cases rx
  cases ry
  obtain ⟨its, r, ⟨⟨cls, dd, data, sl⟩, n, ho, hc, hdn, hd⟩, hlen⟩ := I.list hH
  obtain ⟨its2, r2, ⟨⟨cls2, dd2, data2, sl2⟩, n2, ho2, hc2, hdn2, hd2⟩, hlen2⟩ := I.list hB
  simp only at hc hd hc2 hd2
  subst hc hd hc2 hd2
  have e1 := r.length
  have e2 := r2.length
  refine concat_meets ⟨_, ho, rfl⟩ ⟨_, ho2, rfl⟩ PySem.noFill_list_add PySem.seq_list_add PySem.F.slot_list_add PySem.F.entry_list_add (PySem.F.args_list_add_2 _ _) (list_addAt l its.toArray n b its2.toArray n2 dd dd2 sl sl2 (by rw [List.size_toArray, List.size_toArray]; omega)) ⟨ho, ho2, ?_⟩
  have ea : its.toArray ++ its2.toArray = (its ++ its2).toArray := by simp
  rw [ea]
  exact ⟨.ref _, _, I.lnew (t' := s.toks) (r.append r2) (by rw [List.length_append]; omega), rfl, q _ I.fresh⟩
end NK

namespace NK
open PySem PySem.Spec PyProof.Rows L2
section
variable {X : Cx}
def rCatStr : R2 := fun x y H Q => ∃ i j, x = V.str i ∧ y = V.str j ∧ i.length + j.length ≤ sizeLine ∧ Q (V.str (i ++ j)) H
theorem op_catStr : OpR X (binaryOp .Add) rCatStr := op_add_str
theorem size_rep (xs : Array Nat) : ∀ (k : Nat) (acc : Array Nat), (List.foldl (fun x1 x2 => x1 ++ x2) acc (List.replicate k xs)).size = acc.size + k * xs.size
  | 0, acc => by simp
  | k + 1, acc => by rw [List.replicate_succ, List.foldl_cons, size_rep xs k, Array.size_append, Nat.succ_mul]; omega
def strRep (x : Str) (n : Nat) : Str := ⟨(List.replicate n x.cps).foldl (· ++ ·) #[]⟩
/-- text * n, n at least 2, the text not empty -/
def rMulStr : R2 := fun x y H Q => ∃ (z : Str) (n : Int), x = V.str z ∧ y = V.int n ∧ 2 ≤ n ∧ n ≤ 100000 ∧ 1 ≤ z.length ∧ z.length ≤ 100 ∧ Q (V.str (strRep z n.toNat)) H
theorem op_mulStr : OpR X (binaryOp .Mult) rMulStr := by
  intro pins s σ H x y v u Q I rx ry h
  obtain ⟨z, n, rfl, rfl, h1, h2, h3, h4, q⟩ := h
  obtain ⟨t, rfl⟩ := rx
  obtain ⟨t2, rfl⟩ := ry
  have hb1 : (decide (n < -(2 ^ 63 : Int)) || decide (n ≥ 2 ^ 63)) = false := by
    rw [decide_eq_false (by omega), decide_eq_false (by omega)]; rfl
  have hn1 : (n == 1 || z.length == 0) = false := by
    have e1 : (n == 1) = false := by simp; omega
    have e2 : (z.length == 0) = false := by simp; omega
    rw [e1, e2]; rfl
  have hmul : z.length * n.toNat ≤ 100 * 100000 := Nat.mul_le_mul h4 (by omega)
  refine PySem.P.mul_str hb1 (fun _ _ hc => ?_) (fun _ _ => ?_) ?_
  · have e : (2 ^ 63 - 1) / n ≥ 100 := by
      rw [ge_iff_le, Int.le_ediv_iff_mul_le (by omega)]
      omega
    omega
  · unfold PySem.Builtin.Str.tooLong
    simp
    have e : sizeLine = 16777216 := sizeLine_eq
    omega
  · rw [if_neg (by omega), if_neg (by rw [hn1]; decide)]
    refine ⟨?_, .str _, H, I.tok _, ⟨_, rfl⟩, q⟩
    show (List.foldl (fun x1 x2 => x1 ++ x2) #[] (List.replicate n.toNat z.cps)).size ≤ sizeLine
    rw [size_rep, sizeLine_eq]
    have e2 : z.cps.size = z.length := rfl
    rw [e2, Nat.mul_comm]
    show 0 + _ ≤ _
    omega
theorem strRep_len (x : Str) (n : Nat) : (strRep x n).length = n * x.length := by
  show (List.foldl (fun x1 x2 => x1 ++ x2) #[] (List.replicate n x.cps)).size = _
  rw [size_rep]
  show 0 + _ = _
  rw [Nat.zero_add]
  rfl
def rLenSeq (K : PySem.W.Frag) : List V → Hp → VK → Prop := fun xs H Q => ∃ p ys, xs = [.ref p] ∧ (SqL K H p ys ∨ SqT K H p ys) ∧ Q (.int ys.length) H
theorem call_lenSeq : CallR X (.builtin "len") (rLenSeq X.K) := call_len_seq
def rLenStr : List V → Hp → VK → Prop := fun xs H Q => ∃ z, xs = [.str z] ∧ z.length ≤ sizeLine ∧ Q (.int z.length) H
theorem call_lenStr : CallR X (.builtin "len") rLenStr := call_len_str
def rAbs : List V → Hp → VK → Prop := fun xs H Q => ∃ i, xs = [.int i] ∧ Q (.int (if i < 0 then -i else i)) H
theorem call_absI : CallR X (.builtin "abs") rAbs := call_abs
def rInt1 : List V → Hp → VK → Prop := fun xs H Q => (∃ i, xs = [.int i] ∧ Q (.int i) H) ∨ ∃ k, xs = [.bl k] ∧ Q (.int (if k then 1 else 0)) H
theorem call_intI : CallR X (.type "int") rInt1 := call_int1
def rIntStr : List V → Hp → VK → Prop := fun xs H Q => ∃ a n, xs = [.str a] ∧ PySem.intText? a = some n ∧ a.length ≤ 640 ∧ Q (.int n) H
theorem call_intS : CallR X (.type "int") rIntStr := call_int_str
def rStrInt : List V → Hp → VK → Prop := fun xs H Q => ∃ i, xs = [.int i] ∧ i.natAbs.log2 < 1920 ∧ Q (.str (toString i)) H
theorem call_strI : CallR X (.type "str") rStrInt := call_str_int
def rListOf (K : PySem.W.Frag) : List V → Hp → VK → Prop := fun xs H Q => ∃ p ys, xs = [.ref p] ∧ (SqL K H p ys ∨ SqT K H p ys) ∧ ∀ l, H l = none → Q (.ref l) (upd H l (.lst ys))
theorem call_listOf : CallR X (.type "list") (rListOf X.K) := call_list_of
def rTupOf (K : PySem.W.Frag) : List V → Hp → VK → Prop := fun xs H Q => ∃ p ys, xs = [.ref p] ∧ ((SqL K H p ys ∧ ∀ l, H l = none → Q (.ref l) (upd H l (.tup ys))) ∨ (SqT K H p ys ∧ Q (.ref p) H))
theorem call_tupOf : CallR X (.type "tuple") (rTupOf X.K) := call_tuple_of
def rSplit : V → List V → Hp → VK → Prop := fun x xs H Q => ∃ a b, x = .str a ∧ xs = [.str b] ∧ (b.length == 0) = false ∧ a.length + 2 ≤ sizeLine ∧ rNewStrs (Txt.split a b) H Q
theorem pe_splitS {o e : Expr} {to te : TE} {apos pos : Pos} (ho : PE X o to) (he : PE X e te) (hs : starEach [e] X.env = [(false, eval e X.env)] := by rfl) (hbase : attributeBase o "split" X.env (eval o X.env) = eval o X.env := by rfl) (hline : (apos.endLine == pos.line) = true := by rfl) :
    PE X (.Call (.Attribute o "split" apos) [e] [] pos) (tM1 rSplit to te) := pe_split ho he hs hbase hline
def rJoin (K : PySem.W.Frag) : V → List V → Hp → VK → Prop := fun x xs H Q => ∃ a p, ∃ ys : List Str, x = .str a ∧ xs = [.ref p] ∧ (SqL K H p (ys.map V.str) ∨ SqT K H p (ys.map V.str)) ∧ (ys.map (·.length)).sum + ys.length * a.length ≤ 16777216 ∧ Q (.str (Txt.join a ys)) H
theorem pe_joinS {o e : Expr} {to te : TE} {apos pos : Pos} (ho : PE X o to) (he : PE X e te) (hs : starEach [e] X.env = [(false, eval e X.env)] := by rfl) (hbase : attributeBase o "join" X.env (eval o X.env) = eval o X.env := by rfl) (hline : (apos.endLine == pos.line) = true := by rfl) :
    PE X (.Call (.Attribute o "join" apos) [e] [] pos) (tM1 (rJoin X.K) to te) := pe_join ho he hs hbase hline
def rInSign : R2 := fun x y H Q => ∃ (c : Nat) (z : Str), x = .str ⟨#[c]⟩ ∧ y = .str z ∧ Q (.bl (decide (c ∈ z.cps.toList))) H
theorem op_inSign : OpR X (compareOp .In) rInSign := op_in_sign
def rNotInSign : R2 := fun x y H Q => ∃ (c : Nat) (z : Str), x = .str ⟨#[c]⟩ ∧ y = .str z ∧ Q (.bl (!decide (c ∈ z.cps.toList))) H
theorem op_notInSign : OpR X (compareOp .NotIn) rNotInSign := op_notIn_sign
def tJoined (ts : List TE) : TE := fun σ H Q => tJs ts Str.empty σ H fun out H1 => Q (.str out) H1
theorem pe_fstr {v1 v2 : Expr} {rest : List Expr} {ts : List TE} {pos : Pos} (h : PJ X (v1 :: v2 :: rest) ts) : PE X (.JoinedStr (v1 :: v2 :: rest) pos) (tJoined ts) := pe_joined h
def tTruth (K : PySem.W.Frag) (ta : TE) : TT := fun σ H Q => ta σ H fun x H' => ∃ k, TruV K x H' k ∧ Q k H'
theorem pt_tru {a : Expr} {ta : TE} (ha : PE X a ta) (he : ∀ whole, isTrue a X.env whole = (do let v ← whole; standAt a.pos; holding [v] (truthy v))) : PT X a (tTruth X.K ta) := pt_truth ha he
/-- a module's name, by its value -/
theorem pe_gv {x : Str} {v : V} {pos : Pos} (hg : Gl X x) (h : ∃ u, X.mg x = some u ∧ RelV v u) (hd : (x == ("__debug__" : Str)) = false := by decide) : PE X (.Name x pos) (tC v) := by
  obtain ⟨u, hm, r⟩ := h
  exact pe_glob hg hm r hd
/-- a def of the program, as its callers see it -/
structure Cal (P : Program) (w : World) (K : PySem.W.Frag) (mg : Str → Option Value) (base : Heap) (k : Nat) (x : Str) (ps : List Str) (sp : Sp) : Prop where
  ex : ∃ (f : Addr) (fd : FuncData), FnOk P w K mg base CX0 k f fd ps sp ∧ mg x = some (.ref f) ∧ PySem.W.keepIn K (.ref f) = true ∧ Binds K fd ps []
theorem pe_fn {x : Str} {p pos : Pos} {e : Expr} {es : List Expr} {t : TA} {k : Nat} {ps : List Str} {sp : Sp} (c : Cal X.prog X.w X.K X.mg X.base k x ps sp) (hr : Room k X.A) (hg : Gl X x) (ha : PA X (e :: es) t) (hd : (x == ("__debug__" : Str)) = false := by decide)
    (he : starEach (e :: es) X.env = (false, eval e X.env) :: starEach es X.env := by rfl) (hpl : (backTo pos (starEach es X.env)).any (·.1) = false := by rfl) : PE X (.Call (.Name x p) (e :: es) [] pos) (tCall sp [] E0 t) := by
  obtain ⟨f, fd, F, hm, hk, hb⟩ := c.ex
  exact pe_call F hr hg hm hk hb .nil pass0 ha hd he hpl
end
end NK

namespace NK
open PySem PySem.Spec PyProof.Rows L2
mutual
def toPy : Dt → PyData
  | .non => .none
  | .bl b => .bool b
  | .int i => .int i
  | .str x => .str x
  | .lst xs => .list (toPys xs)
  | .tup xs => .tuple (toPys xs)
  | .ins _ _ => .none
  | .exc _ _ _ => .none
  | .ref _ => .none
def toPys : List Dt → List PyData
  | [] => []
  | d :: ds => toPy d :: toPys ds
end
mutual
/-- plain data, all its texts of signs, at most n deep -/
def plain : Nat → Dt → Bool
  | _, .non => true
  | _, .bl _ => true
  | _, .int _ => true
  | _, .str x => PyData.strOk x
  | 0, .lst _ => false
  | n + 1, .lst xs => plains n xs
  | 0, .tup _ => false
  | n + 1, .tup xs => plains n xs
  | _, .ins _ _ => false
  | _, .exc _ _ _ => false
  | _, .ref _ => false
def plains : Nat → List Dt → Bool
  | _, [] => true
  | n, d :: ds => plain n d && plains n ds
end
section
variable {K : PySem.W.Frag} {I : Hp}
mutual
theorem dp_of : ∀ (n : Nat) {v : V} {d : Dt}, DR K I v d → plain n d = true → Dp K I v (toPy d)
  | _, _, _, .non, _ => .non
  | _, _, _, .bl b, _ => .bl b
  | _, _, _, .int i, _ => .int i
  | _, _, _, .str x, _ => .str x
  | n, _, _, .ref a, h => by cases n <;> simp [plain] at h
  | 0, _, _, .lst _ _, h => by simp [plain] at h
  | n + 1, _, _, .lst h1 h2, h => .lst h1 (dps_of n h2 (by simpa [plain] using h))
  | 0, _, _, .tup _ _, h => by simp [plain] at h
  | n + 1, _, _, .tup h1 h2, h => .tup h1 (dps_of n h2 (by simpa [plain] using h))
  | n, _, _, .ins _ _, h => by cases n <;> simp [plain] at h
  | n, _, _, .exc _ _, h => by cases n <;> simp [plain] at h
theorem dps_of : ∀ (n : Nat) {vs : List V} {ds : List Dt}, DRs K I vs ds → plains n ds = true → DpAll K I vs (toPys ds)
  | _, _, _, .nil, _ => .nil
  | n, _, _, .cons h t, q => by
    simp only [plains, Bool.and_eq_true] at q
    exact .cons (dp_of n h q.1) (dps_of n t q.2)
end
mutual
theorem plain_lay : ∀ (n : Nat) (d : Dt), plain n d = true → (toPy d).canLay0 = true ∧ (toPy d).depth ≤ n
  | n, .non, _ => ⟨by simp [toPy, PyData.canLay0], by simp [toPy, PyData.depth]⟩
  | n, .bl b, _ => ⟨by simp [toPy, PyData.canLay0], by simp [toPy, PyData.depth]⟩
  | n, .int b, _ => ⟨by simp [toPy, PyData.canLay0], by simp [toPy, PyData.depth]⟩
  | n, .str b, h => ⟨by cases n <;> simpa [toPy, PyData.canLay0, plain] using h, by simp [toPy, PyData.depth]⟩
  | 0, .lst _, h => by simp [plain] at h
  | n + 1, .lst xs, h => by
    obtain ⟨h1, h2⟩ := plains_lay n xs (by simpa [plain] using h)
    exact ⟨by simpa [toPy, PyData.canLay0] using h1, by simp only [toPy, PyData.depth]; omega⟩
  | 0, .tup _, h => by simp [plain] at h
  | n + 1, .tup xs, h => by
    obtain ⟨h1, h2⟩ := plains_lay n xs (by simpa [plain] using h)
    exact ⟨by simpa [toPy, PyData.canLay0] using h1, by simp only [toPy, PyData.depth]; omega⟩
  | n, .ins _ _, h => by cases n <;> simp [plain] at h
  | n, .exc _ _ _, h => by cases n <;> simp [plain] at h
  | n, .ref _, h => by cases n <;> simp [plain] at h
theorem plains_lay : ∀ (n : Nat) (ds : List Dt), plains n ds = true → PyData.canLayAll0 (toPys ds) = true ∧ PyData.depthAll (toPys ds) ≤ n
  | n, [], _ => ⟨by simp [toPys, PyData.canLayAll0], by simp [toPys, PyData.depthAll]⟩
  | n, d :: ds, h => by
    simp only [plains, Bool.and_eq_true] at h
    obtain ⟨h1, h2⟩ := plain_lay n d h.1
    obtain ⟨h3, h4⟩ := plains_lay n ds h.2
    exact ⟨by simp [toPys, PyData.canLayAll0, h1, h3], by simp only [toPys, PyData.depthAll]; omega⟩
end
theorem plain_shaped {n : Nat} {d : Dt} (h : plain n d = true) (hn : n ≤ 64) : SeqAt.shaped (toPy d) = true := by
  obtain ⟨h1, h2⟩ := plain_lay n d h
  unfold SeqAt.shaped
  rw [h1, decide_eq_true (Nat.le_trans h2 hn)]
  rfl
theorem plain_refl {n : Nat} {d : Dt} (h : plain n d = true) : PyData.eqv (toPy d) (toPy d) = true := SeqAt.eqv_refl _ (plain_lay n d h).1
theorem plains_of {n : Nat} {ds : List Dt} (h : ∀ d ∈ ds, plain n d = true) : plains n ds = true := by
  induction ds with
  | nil => rw [plains]
  | cons d ds ih =>
    rw [plains, h d List.mem_cons_self, ih fun e he => h e (List.mem_cons_of_mem _ he)]
    rfl
mutual
theorem dp_up {I' : Hp} (e : Same I I') : ∀ {v : V} {d : PyData}, Dp K I v d → Dp K I' v d
  | _, _, .non => .non
  | _, _, .bl b => .bl b
  | _, _, .int i => .int i
  | _, _, .str x => .str x
  | _, _, .lst h hs => .lst (same_l e h) (dps_up e hs)
  | _, _, .tup h hs => .tup (same_t e h) (dps_up e hs)
theorem dps_up {I' : Hp} (e : Same I I') : ∀ {vs : List V} {ds : List PyData}, DpAll K I vs ds → DpAll K I' vs ds
  | _, _, .nil => .nil
  | _, _, .cons h t => .cons (dp_up e h) (dps_up e t)
end
theorem strs_of {ys : List Str} : ∀ {vs : List V}, DRs K I vs (ys.map .str) → vs = ys.map V.str := by
  induction ys with
  | nil => intro vs h; cases h; rfl
  | cons y ys ih =>
    intro vs h
    cases h with
    | cons a t =>
      cases a
      rw [ih t]
      rfl
theorem of_strs {ys : List Str} : DRs K I (ys.map V.str) (ys.map .str) := by
  induction ys with
  | nil => exact .nil
  | cons y ys ih => exact .cons (.str y) ih
theorem bls_of {ys : List Bool} : ∀ {vs : List V}, DRs K I vs (ys.map .bl) → vs = ys.map V.bl := by
  induction ys with
  | nil => intro vs h; cases h; rfl
  | cons y ys ih =>
    intro vs h
    cases h with
    | cons a t =>
      cases a
      rw [ih t]
      rfl
theorem of_ints {ys : List Int} : DRs K I (ys.map V.int) (ys.map .int) := by
  induction ys with
  | nil => exact .nil
  | cons y ys ih => exact .cons (.int y) ih
theorem DRs.take {vs : List V} {ds : List Dt} (h : DRs K I vs ds) (n : Nat) : DRs K I (vs.take n) (ds.take n) := by
  induction vs generalizing ds n with
  | nil => cases h; cases n <;> exact .nil
  | cons v vs ih =>
    cases h with
    | cons a t =>
      cases n with
      | zero => exact .nil
      | succ n => exact .cons a (ih t n)
theorem DRs.drop {vs : List V} {ds : List Dt} (h : DRs K I vs ds) (n : Nat) : DRs K I (vs.drop n) (ds.drop n) := by
  induction vs generalizing ds n with
  | nil => cases h; cases n <;> exact .nil
  | cons v vs ih =>
    cases h with
    | cons a t =>
      cases n with
      | zero => exact .cons a t
      | succ n => exact ih t n
end
def cutD (xs : List Dt) (lo hi : Option Int) : List Dt := (xs.drop (HT.sIx xs.length 0 lo)).take (HT.sIx xs.length xs.length hi - HT.sIx xs.length 0 lo)
section
variable {C : Fx} {g : Gam} {m : Cells} {te ta tb tc to : TE} {P P' : Dt → Cells → Prop} {PS : Pst} {t u : TS}
theorem op_eqd {d1 d2 : Dt} (n : Nat) (hn : n ≤ 64) (h1 : plain n d1 = true) (h2 : plain n d2 = true) (p : P (.bl (PyData.eqv (toPy d1) (toPy d2))) m) : Op C m (rEqD C.K) d1 d2 P :=
  op_pure (d := .bl (PyData.eqv (toPy d1) (toPy d2))) (fun I H x y hs hx hy Q q => ⟨toPy d1, toPy d2, dp_up hs (dp_of n hx h1), dp_up hs (dp_of n hy h2), plain_shaped h1 hn, plain_shaped h2 hn, q _ (.bl _)⟩) p
theorem op_ned {d1 d2 : Dt} (n : Nat) (hn : n ≤ 64) (h1 : plain n d1 = true) (h2 : plain n d2 = true) (p : P (.bl (!PyData.eqv (toPy d1) (toPy d2))) m) : Op C m (rNeD C.K) d1 d2 P :=
  op_pure (d := .bl (!PyData.eqv (toPy d1) (toPy d2))) (fun I H x y hs hx hy Q q => ⟨toPy d1, toPy d2, dp_up hs (dp_of n hx h1), dp_up hs (dp_of n hy h2), plain_shaped h1 hn, plain_shaped h2 hn, q _ (.bl _)⟩) p
/-- the same thing twice -/
theorem op_ned_same {d : Dt} (n : Nat) (hn : n ≤ 64) (h : plain n d = true) (p : P (.bl false) m) : Op C m (rNeD C.K) d d P := op_ned n hn h h (by rw [plain_refl h]; exact p)
theorem op_eqd_same {d : Dt} (n : Nat) (hn : n ≤ 64) (h : plain n d = true) (p : P (.bl true) m) : Op C m (rEqD C.K) d d P := op_eqd n hn h h (by rw [plain_refl h]; exact p)
theorem cl_lenL {ds : List Dt} (p : P (.int (ds.length : Nat)) m) : Cl C m (rLenSeq C.K) [.lst ds] P :=
  cl_pure (d := .int (ds.length : Nat)) (fun I H ws hs hd Q q => by
    cases hd with
    | cons a t =>
      cases t
      cases a with
      | lst h1 h2 => exact ⟨_, _, rfl, .inl (same_l hs h1), by rw [h2.len]; exact q _ (.int _)⟩) p
theorem cl_lenT {ds : List Dt} (p : P (.int (ds.length : Nat)) m) : Cl C m (rLenSeq C.K) [.tup ds] P :=
  cl_pure (d := .int (ds.length : Nat)) (fun I H ws hs hd Q q => by
    cases hd with
    | cons a t =>
      cases t
      cases a with
      | tup h1 h2 => exact ⟨_, _, rfl, .inr (same_t hs h1), by rw [h2.len]; exact q _ (.int _)⟩) p
theorem cl_lenM {a : Addr} {b : Bool} {ds : List Dt} (j : Nat) (hj : m[j]? = some ⟨a, b, .lst ds⟩) (p : P (.int (ds.length : Nat)) m) : Cl C m (rLenSeq C.K) [.ref a] P := fun B g S σ vs H ws hl ⟨I, rl⟩ Q q => by
  obtain ⟨q1, q2⟩ := rl.stk.split hl
  cases q1 with
  | cons h t =>
    cases t
    cases h
    obtain ⟨us, hu, hd⟩ : ∃ ws, H a = some (.lst ws) ∧ DRs C.K I ws ds := rl.mu.ok _ (List.mem_iff_getElem?.mpr ⟨j, hj⟩)
    exact ⟨_, _, rfl, .inl (.inl (.inl hu)), by rw [hd.len]; exact q _ _ m H ⟨I, ({ rl with stk := .cons (.int _) q2 } : RelI C B g (.int (ds.length : Nat) :: S) m σ (.int (ds.length : Nat) :: vs) H I)⟩ p⟩
theorem cl_lenS {z : Str} (hz : z.length ≤ sizeLine) (p : P (.int (z.length : Nat)) m) : Cl C m rLenStr [.str z] P :=
  cl_pure (d := .int (z.length : Nat)) (fun I H ws hs hd Q q => by
    cases hd with
    | cons a t => cases t; cases a; exact ⟨z, rfl, hz, q _ (.int _)⟩) p
theorem cl_abs {i : Int} (p : P (.int (if i < 0 then -i else i)) m) : Cl C m rAbs [.int i] P :=
  cl_pure (d := .int (if i < 0 then -i else i)) (fun I H ws hs hd Q q => by
    cases hd with
    | cons a t => cases t; cases a; exact ⟨i, rfl, q _ (.int _)⟩) p
theorem cl_intB {b : Bool} (p : P (.int (if b then 1 else 0)) m) : Cl C m rInt1 [.bl b] P :=
  cl_pure (d := .int (if b then 1 else 0)) (fun I H ws hs hd Q q => by
    cases hd with
    | cons a t => cases t; cases a; exact .inr ⟨b, rfl, q _ (.int _)⟩) p
theorem cl_intS {z : Str} {n : Int} (h : PySem.intText? z = some n) (hz : z.length ≤ 640) (p : P (.int n) m) : Cl C m rIntStr [.str z] P :=
  cl_pure (d := .int n) (fun I H ws hs hd Q q => by
    cases hd with
    | cons a t => cases t; cases a; exact ⟨z, n, rfl, h, hz, q _ (.int _)⟩) p
theorem cl_str {i : Int} (h : i.natAbs.log2 < 1920) (p : P (.str (toString i)) m) : Cl C m rStrInt [.int i] P :=
  cl_pure (d := .str (toString i)) (fun I H ws hs hd Q q => by
    cases hd with
    | cons a t => cases t; cases a; exact ⟨i, rfl, h, q _ (.str _)⟩) p
theorem cl_listL {ds : List Dt} (p : P (.lst ds) m) : Cl C m (rListOf C.K) [.lst ds] P :=
  cl_new (d := .lst ds) (fun I H ws hs hd Q q => by
    cases hd with
    | cons a t =>
      cases t
      cases a with
      | lst h1 h2 => exact ⟨_, _, rfl, .inl (same_l hs h1), fun l hl => q l _ hl fun up => .lst (.inl (.inl upd_same)) (h2.mono up)⟩) p
theorem cl_listM {ds : List Dt} (p : ∀ a, P (.ref a) (m ++ [⟨a, true, .lst ds⟩])) : Cl C m (rListOf C.K) [.lst ds] P :=
  cl_newM (es := ds) (fun I H ws hs hd Q q => by
    cases hd with
    | cons a t =>
      cases t
      cases a with
      | lst h1 h2 => exact ⟨_, _, rfl, .inl (same_l hs h1), fun l hl => q l _ hl h2⟩) p
theorem cl_tupL {ds : List Dt} (p : P (.tup ds) m) : Cl C m (rTupOf C.K) [.lst ds] P :=
  cl_new (d := .tup ds) (fun I H ws hs hd Q q => by
    cases hd with
    | cons a t =>
      cases t
      cases a with
      | lst h1 h2 => exact ⟨_, _, rfl, .inl ⟨same_l hs h1, fun l hl => q l _ hl fun up => .tup (.inl (.inl upd_same)) (h2.mono up)⟩⟩) p
theorem cl_tupT {ds : List Dt} (p : P (.tup ds) m) : Cl C m (rTupOf C.K) [.tup ds] P :=
  cl_pure (d := .tup ds) (fun I H ws hs hd Q q => by
    cases hd with
    | cons a t =>
      cases t
      cases a with
      | tup h1 h2 => exact ⟨_, _, rfl, .inr ⟨same_t hs h1, q _ (.tup h1 h2)⟩⟩) p
theorem cl_all {bs : List Bool} (p : P (.bl (bs.all id)) m) : Cl C m (rAll C.K) [.lst (bs.map .bl)] P :=
  cl_pure (d := .bl (bs.all id)) (fun I H ws hs hd Q q => by
    cases hd with
    | cons a t =>
      cases t
      cases a with
      | lst h1 h2 =>
        have e := bls_of h2
        subst e
        exact ⟨_, bs, rfl, same_l hs h1, q _ (.bl _)⟩) p

theorem ev_split (h : Ev C g m to fun dx m1 => ∃ a, dx = .str a ∧ Ev C g m1 te fun dy m2 => ∃ b, dy = .str b ∧ (b.length == 0) = false ∧ a.length + 2 ≤ sizeLine ∧ P (.lst ((Txt.split a b).map .str)) m2) : Ev C g m (tM1 rSplit to te) P := fun B S σ vs H rl Q q =>
  h B S σ vs H rl _ fun x dx m1 H1 ⟨I1, r1⟩ ⟨a, e, p1⟩ => by
    subst e
    have hx := r1.top
    cases hx
    refine ⟨⟨a, rfl⟩, p1 B _ σ _ H1 ⟨I1, r1⟩ _ fun y dy m2 H2 ⟨I2, r2⟩ ⟨b, e, hb, hz, p⟩ => ?_⟩
    subst e
    have hy := r2.top
    cases hy
    refine ⟨a, b, rfl, rfl, hb, hz, fun l hl => ?_⟩
    have r3 := (r2.pop1.pop1).alloc (o := .lst ((Txt.split a b).map V.str)) hl
    exact q _ _ _ _ ⟨_, r3.push (.lst (.inl (.inl upd_same)) of_strs)⟩ p
theorem ev_join (h : Ev C g m to fun dx m1 => ∃ a, dx = .str a ∧ Ev C g m1 te fun dy m2 => ∃ ys : List Str, dy = .lst (ys.map .str) ∧ (ys.map (·.length)).sum + ys.length * a.length ≤ 16777216 ∧ P (.str (Txt.join a ys)) m2) : Ev C g m (tM1 (rJoin C.K) to te) P := fun B S σ vs H rl Q q =>
  h B S σ vs H rl _ fun x dx m1 H1 ⟨I1, r1⟩ ⟨a, e, p1⟩ => by
    subst e
    have hx := r1.top
    cases hx
    refine ⟨⟨a, rfl⟩, p1 B _ σ _ H1 ⟨I1, r1⟩ _ fun y dy m2 H2 ⟨I2, r2⟩ ⟨ys, e, hz, p⟩ => ?_⟩
    subst e
    have hy := r2.top
    cases hy with
    | lst h1 h2 =>
      have e := strs_of h2
      subst e
      exact ⟨a, _, ys, rfl, rfl, .inl (same_l r2.sub h1), hz, q _ _ _ _ ⟨I2, (r2.pop1.pop1).push (.str _)⟩ p⟩
theorem op_inSg {c : Nat} {z : Str} (p : P (.bl (decide (c ∈ z.cps.toList))) m) : Op C m rInSign (.str ⟨#[c]⟩) (.str z) P :=
  op_pure (d := .bl (decide (c ∈ z.cps.toList))) (fun I H x y hs hx hy Q q => by cases hx; cases hy; exact ⟨c, z, rfl, rfl, q _ (.bl _)⟩) p
theorem op_notInSg {c : Nat} {z : Str} (p : P (.bl (!decide (c ∈ z.cps.toList))) m) : Op C m rNotInSign (.str ⟨#[c]⟩) (.str z) P :=
  op_pure (d := .bl (!decide (c ∈ z.cps.toList))) (fun I H x y hs hx hy Q q => by cases hx; cases hy; exact ⟨c, z, rfl, rfl, q _ (.bl _)⟩) p
theorem inV_strs (x : Str) (ys : List Str) : inV (.str x) (ys.map V.str) = decide (x ∈ ys) := by
  unfold inV
  induction ys with
  | nil => rfl
  | cons y ys ih =>
    rw [List.map_cons, List.any_cons, ih]
    have e : eqV (.str y) (.str x) = decide (y = x) := by
      show (y == x) = decide (y = x)
      by_cases w : y = x
      · subst w; simp
      · rw [decide_eq_false w]; simpa using w
    rw [e]
    by_cases w : y = x
    · subst w; simp
    · rw [decide_eq_false w, Bool.false_or]
      simp [show x ≠ y from fun z => w z.symm]
theorem flat_strs (ys : List Str) : (ys.map V.str).all flatV = true := by
  rw [List.all_eq_true]
  intro v hv
  obtain ⟨y, _, rfl⟩ := List.mem_map.mp hv
  rfl
theorem op_inL {x : Str} {ys : List Str} (p : P (.bl (decide (x ∈ ys))) m) : Op C m (rIn C.K false) (.str x) (.lst (ys.map .str)) P :=
  op_pure (d := .bl (decide (x ∈ ys))) (fun I H v w hs hx hy Q q => by
    cases hx
    cases hy with
    | lst h1 h2 =>
      have e := strs_of h2
      subst e
      refine ⟨_, _, rfl, .inl (same_l hs h1), rfl, flat_strs ys, ?_⟩
      show Q (.bl (inV (.str x) (ys.map V.str))) H
      rw [inV_strs]
      exact q _ (.bl _)) p
theorem op_inM {a : Addr} {b : Bool} {x : Str} {ys : List Str} (j : Nat) (hj : m[j]? = some ⟨a, b, .lst (ys.map .str)⟩) (p : P (.bl (decide (x ∈ ys))) m) : Op C m (rIn C.K false) (.str x) (.ref a) P := fun B g S σ vs H v w ⟨I, rl⟩ Q q => by
  have h1 := rl.top
  have h2 := rl.pop1.top
  cases h1
  cases h2
  obtain ⟨us, hu, hd⟩ : ∃ ws, H a = some (.lst ws) ∧ DRs C.K I ws (ys.map .str) := rl.mu.ok _ (List.mem_iff_getElem?.mpr ⟨j, hj⟩)
  have e := strs_of hd
  subst e
  refine ⟨_, _, rfl, .inl (.inl (.inl hu)), rfl, flat_strs ys, ?_⟩
  show Q (.bl (inV (.str x) (ys.map V.str))) H
  rw [inV_strs]
  exact q _ _ _ _ ⟨I, (rl.pop1.pop1).push (.bl _)⟩ p
/-- f'..' -/
def EvJ (C : Fx) (g : Gam) (m : Cells) (ts : List TE) (acc : Str) (P : Str → Cells → Prop) : Prop := ∀ B S σ vs H, Rel C B g S m σ vs H → ∀ Q : Str → Hp → Prop, (∀ out m' H', Rel C B g S m' σ vs H' → P out m' → Q out H') → tJs ts acc σ H Q
theorem evj_nil {acc : Str} {PJ : Str → Cells → Prop} (p : PJ acc m) : EvJ C g m [] acc PJ := fun B S σ vs H rl Q q => q _ _ _ rl p
theorem evj_cons {ts : List TE} {acc : Str} {PJ : Str → Cells → Prop} (h : Ev C g m te fun d m1 => ∃ y, d = .str y ∧ (acc ++ y).length ≤ sizeLine ∧ EvJ C g m1 ts (acc ++ y) PJ) : EvJ C g m (te :: ts) acc PJ := fun B S σ vs H rl Q q =>
  h B S σ vs H rl _ fun v d m1 H1 ⟨I1, r1⟩ ⟨y, e, hz, p⟩ => by
    subst e
    have hx := r1.top
    cases hx
    exact ⟨y, rfl, hz, p B S σ vs H1 ⟨I1, r1.pop1⟩ Q q⟩
theorem ev_fstr {ts : List TE} (h : EvJ C g m ts Str.empty fun out m' => P (.str out) m') : Ev C g m (tJoined ts) P := fun B S σ vs H rl Q q => h B S σ vs H rl _ fun out m' H' ⟨I, r'⟩ p => q _ _ _ _ ⟨I, r'.push (.str _)⟩ p
theorem ev_fmtS (h : Ev C g m te fun d m1 => ∃ y, d = .str y ∧ y.length ≤ sizeLine ∧ P (.str y) m1) : Ev C g m (tFmt te) P := fun B S σ vs H rl Q q => h B S σ vs H rl _ fun v d m1 H1 ⟨I1, r1⟩ ⟨y, e, hz, p⟩ => by
  subst e
  have hx := r1.top
  cases hx
  exact .inl ⟨y, rfl, hz, q _ _ _ _ ⟨I1, r1⟩ p⟩
theorem ev_fmtI (h : Ev C g m te fun d m1 => ∃ i, d = .int i ∧ i.natAbs.log2 < 1920 ∧ P (.str (toString i)) m1) : Ev C g m (tFmt te) P := fun B S σ vs H rl Q q => h B S σ vs H rl _ fun v d m1 H1 ⟨I1, r1⟩ ⟨y, e, hz, p⟩ => by
  subst e
  have hx := r1.top
  cases hx
  exact .inr ⟨y, rfl, hz, q _ _ _ _ ⟨I1, r1.pop1.push (.str _)⟩ p⟩
/-- [..] or [..] -/
theorem ev_orL (h : Ev C g m ta fun d m1 => ∃ ds, d = .lst ds ∧ (ds ≠ [] → P (.lst ds) m1) ∧ (ds = [] → Ev C g m1 tb P)) : Ev C g m (tOrT C.K ta tb) P := fun B S σ vs H rl Q q => h B S σ vs H rl _ fun v d m1 H1 ⟨I1, r1⟩ ⟨ds, e, p1, p2⟩ => by
  subst e
  have hx := r1.top
  cases hx with
  | @lst a xs _ h1 h2 =>
    refine ⟨!xs.isEmpty, .inl ⟨xs, same_l r1.sub h1, rfl⟩, ?_⟩
    have hl := h2.len
    cases xs with
    | nil =>
      cases h2
      exact p2 rfl B S σ vs H1 ⟨I1, r1.pop1⟩ Q q
    | cons x xs =>
      exact q _ _ _ _ ⟨I1, r1⟩ (p1 (fun z => by subst z; cases hl))
/-- a < b < c -/
theorem ev_chain {r r' : R2} (h : Ev C g m ta fun d1 m1 => Ev C g m1 tb fun d2 m2 => ∀ B S σ vs H x y, Rel C B g (d2 :: d1 :: S) m2 σ (y :: x :: vs) H → ∀ Q : VK, (∀ v d m' H', Rel C B g (d :: S) m' σ (v :: vs) H' → P d m' → Q v H') → r x y H fun z H3 => ∃ k, z = .bl k ∧ (if k = true then tc σ H3 fun w' H4 => r' y w' H4 Q else Q (.bl false) H3)) : Ev C g m (tChain r r' ta tb tc) P := fun B S σ vs H rl Q q =>
  h B S σ vs H rl _ fun x d1 m1 H1 r1 p1 => p1 B _ σ _ H1 r1 _ fun y d2 m2 H2 r2 p2 => p2 B S σ vs H2 x y r2 Q q
/-- i <= j <= k, whole numbers -/
theorem ev_chainI {f f' : Int → Int → Bool} {i j : Int} (h : Ev C g m ta fun d1 m1 => d1 = .int i ∧ Ev C g m1 tb fun d2 m2 => d2 = .int j ∧ (f i j = true → Ev C g m2 tc fun d3 m3 => ∃ k, d3 = .int k ∧ P (.bl (f' j k)) m3) ∧ (f i j = false → P (.bl false) m2)) : Ev C g m (tChain (rI0 fun i j => .bl (f i j)) (rI0 fun i j => .bl (f' i j)) ta tb tc) P :=
  ev_chain (h.mono fun d1 m1 ⟨e1, h1⟩ => h1.mono fun d2 m2 ⟨e2, h2, h3⟩ B S σ vs H x y ⟨I, rl⟩ Q q => by
    subst e1 e2
    have hy := rl.top
    have hx := rl.pop1.top
    cases hx
    cases hy
    refine ⟨i, j, rfl, rfl, f i j, rfl, ?_⟩
    cases w : f i j with
    | true =>
      refine h2 w B S σ vs H ⟨I, rl.pop1.pop1⟩ _ fun v3 d3 m3 H3 ⟨I3, r3⟩ ⟨k, e3, p⟩ => ?_
      subst e3
      have hz := r3.top
      cases hz
      exact ⟨j, k, rfl, rfl, q _ _ _ _ ⟨I3, r3.pop1.push (.bl _)⟩ p⟩
    | false => exact q _ _ _ _ ⟨I, (rl.pop1.pop1).push (.bl _)⟩ (h3 w))
/-- parts of a slice -/
def EvO (C : Fx) (g : Gam) (m : Cells) (tp : TO) (P : Option Int → Cells → Prop) : Prop := ∀ B S σ vs H, Rel C B g S m σ vs H → ∀ Q : Option Int → Hp → Prop, (∀ o m' H', Rel C B g S m' σ vs H' → P o m' → Q o H') → tp σ H Q
theorem evo_none {PO : Option Int → Cells → Prop} (p : PO none m) : EvO C g m tNoPart PO := fun B S σ vs H rl Q q => q _ _ _ rl p
theorem evo_some {PO : Option Int → Cells → Prop} (h : Ev C g m te fun d m1 => ∃ i, d = .int i ∧ PO (some i) m1) : EvO C g m (tPart te) PO := fun B S σ vs H rl Q q => h B S σ vs H rl _ fun v d m1 H1 ⟨I1, r1⟩ ⟨i, e, p⟩ => by
  subst e
  have hx := r1.top
  cases hx
  exact ⟨i, rfl, q _ _ _ ⟨I1, r1.pop1⟩ p⟩
theorem ev_slL {tl th : TO} (h : Ev C g m te fun d m1 => EvO C g m1 tl fun lo m2 => EvO C g m2 th fun hi m3 => ∃ ds, d = .lst ds ∧ P (.lst (cutD ds lo hi)) m3) : Ev C g m (tSl (rSlL C.K) te tl th) P := fun B S σ vs H rl Q q =>
  h B S σ vs H rl _ fun v d m1 H1 r1 p1 => p1 B _ σ _ H1 r1 _ fun lo m2 H2 r2 p2 => p2 B _ σ _ H2 r2 _ fun hi m3 H3 ⟨I3, r3⟩ ⟨ds, e, p⟩ => by
    subst e
    have hx := r3.top
    cases hx with
    | @lst a xs _ h1 h2 =>
      refine ⟨a, xs, rfl, same_l r3.sub h1, fun l hl => ?_⟩
      have r4 := r3.pop1.alloc (o := .lst (cutV xs lo hi)) hl
      refine q _ _ _ _ ⟨_, r4.push (.lst (.inl (.inl upd_same)) ?_)⟩ p
      have e : cutV xs lo hi = (xs.drop (HT.sIx ds.length 0 lo)).take (HT.sIx ds.length ds.length hi - HT.sIx ds.length 0 lo) := by unfold cutV; rw [h2.len]
      rw [e]
      exact ((h2.drop _).take _).mono (same_upd (none_of_sub r3.sub hl))
theorem ev_slS {tl th : TO} (h : Ev C g m te fun d m1 => EvO C g m1 tl fun lo m2 => EvO C g m2 th fun hi m3 => ∃ z, d = .str z ∧ z.length ≤ sizeLine ∧ P (.str (cutS z lo hi)) m3) : Ev C g m (tSl rSlS te tl th) P := fun B S σ vs H rl Q q =>
  h B S σ vs H rl _ fun v d m1 H1 r1 p1 => p1 B _ σ _ H1 r1 _ fun lo m2 H2 r2 p2 => p2 B _ σ _ H2 r2 _ fun hi m3 H3 ⟨I3, r3⟩ ⟨z, e, hz, p⟩ => by
    subst e
    have hx := r3.top
    cases hx
    exact ⟨z, rfl, hz, q _ _ _ _ ⟨I3, r3.pop1.push (.str _)⟩ p⟩
theorem op_catLL {xs ys : List Dt} (hz : xs.length + ys.length ≤ sizeLine) (p : P (.lst (xs ++ ys)) m) : Op C m (rCatL C.K) (.lst xs) (.lst ys) P :=
  op_new (d := .lst (xs ++ ys)) (fun I H x y hs hx hy Q q => by
    cases hx with
    | lst h1 h2 =>
      cases hy with
      | lst h3 h4 => exact ⟨_, _, _, _, rfl, rfl, same_l hs h1, same_l hs h3, by rw [h2.len, h4.len]; exact hz, fun l hl => q l _ hl fun up => .lst (.inl (.inl upd_same)) ((h2.app h4).mono up)⟩) p
theorem op_mulS {z : Str} {n : Int} (h1 : 2 ≤ n) (h2 : n ≤ 100000) (h3 : 1 ≤ z.length) (h4 : z.length ≤ 100) (p : P (.str (strRep z n.toNat)) m) : Op C m rMulStr (.str z) (.int n) P :=
  op_pure (d := .str (strRep z n.toNat)) (fun I H x y hs hx hy Q q => by cases hx; cases hy; exact ⟨z, n, rfl, rfl, h1, h2, h3, h4, q _ (.str _)⟩) p
theorem op_catSS {i j : Str} (hz : i.length + j.length ≤ sizeLine) (p : P (.str (i ++ j)) m) : Op C m rCatStr (.str i) (.str j) P := op_catS hz p
/-! ### statements joined with what follows -/
theorem q_set {i : Nat} (h : Ev C g m te fun d m' => Sx C (g.set i (some d)) m' u PS) : Sx C g m (tSeq (tAsg te (gName i)) u) PS := sx_seq (sx_set h)
theorem q_drop (h : Ev C g m te fun _ m' => Sx C g m' u PS) : Sx C g m (tSeq (tDrop te) u) PS := sx_seq (sx_drop h)
theorem q_if {c : TT} {tw : TS} (h : EvT C g m c fun b m' => (b = true → Sx C g m' t { PS with nx := fun g' m' => Sx C g' m' u PS }) ∧ (b = false → Sx C g m' tw { PS with nx := fun g' m' => Sx C g' m' u PS })) : Sx C g m (tSeq (tIfS c t tw) u) PS := sx_seq (sx_if h)
/-- an if without else -/
theorem q_when {c : TT} (h : EvT C g m c fun b m' => (b = true → Sx C g m' t { PS with nx := fun g' m' => Sx C g' m' u PS }) ∧ (b = false → Sx C g m' u PS)) : Sx C g m (tSeq (tIfS c t tNext) u) PS := sx_seq (sx_if (h.mono fun b m' ⟨h1, h2⟩ => ⟨h1, fun e => sx_next (h2 e)⟩))
end
end NK

namespace NK
open PySem PySem.Spec PyProof.Rows L2
/-! ### list or tuple, walked -/
def iSeq (K : PySem.W.Frag) (tl : TE) : TI := fun σ H R => tl σ H fun x H1 => ∃ a, x = .ref a ∧ (((∃ xs, SqL K H1 a xs) ∧ R (Itl K a) H1) ∨ ((∃ xs, SqT K H1 a xs) ∧ R (Itt K a) H1))
theorem pi_seq {X : Cx} {tg l : Expr} {tl : TE} (hl : PE X l tl) : PI X tg l (iSeq X.K tl) := by
  refine ⟨fun pins s σ H R I h => ?_⟩
  refine thn (hl.run pins s σ H _ I h) fun v s1 ⟨x, H1, I1, r1, q1⟩ => ?_
  obtain ⟨a, e, q⟩ := q1
  subst e
  cases r1
  rcases q with ⟨⟨xs, hq⟩, q⟩ | ⟨⟨xs, hq⟩, q⟩
  · obtain ⟨its, rv, p, hz⟩ := I1.list hq
    refine wpAny_pyIter_list p.isList ?_
    refine ⟨s1.heap.objs.size, [s1.heap.objs.size], _, _, H1, rfl, I1.kept (t' := s1.toks) fun b o e => Heap.get?_push_of_some _ e, turn_list a _, ⟨_, Heap.get?_push_size _ rfl, rfl, rfl⟩, fun b hb => ?_, q⟩
    have e : b = s1.heap.objs.size := by simpa using hb
    subst e
    exact I1.fpOk (Nat.le_refl _) (I1.hok.fresh (Nat.le_refl _))
  · obtain ⟨its, rv, p, hz⟩ := I1.tuple hq
    refine wpAny_pyIter_tuple (show s1.heap.IsTuple a its.toArray from p) ?_
    refine ⟨s1.heap.objs.size, [s1.heap.objs.size], _, _, H1, rfl, I1.kept (t' := s1.toks) fun b o e => Heap.get?_push_of_some _ e, turn_tuple a _, ⟨_, Heap.get?_push_size _ rfl, rfl, rfl⟩, fun b hb => ?_, q⟩
    have e : b = s1.heap.objs.size := by simpa using hb
    subst e
    exact I1.fpOk (Nat.le_refl _) (I1.hok.fresh (Nat.le_refl _))
section
variable {C : Fx} {g : Gam} {m : Cells} {te ta tb tc : TE} {P P' : Dt → Cells → Prop} {PS : Pst} {t u : TS}
theorem evi_seq {PI : List Dt → Cells → Prop} (h : Ev C g m ta fun d m1 => ∃ ds, (d = .lst ds ∨ d = .tup ds) ∧ PI ds m1) : EvI C g m (iSeq C.K ta) PI := fun B S σ vs H rl R q => h B S σ vs H rl _ fun v d m1 H1 ⟨I1, r1⟩ ⟨ds, e, p⟩ => by
  rcases e with e | e
  · subst e
    have hd := r1.top
    cases hd with
    | @lst a xs _ hl hs =>
      refine ⟨a, rfl, .inl ⟨⟨xs, same_l r1.sub hl⟩, q _ ds m1 H1 I1 r1.pop1 ⟨fun i g S m σ vs H hi ⟨I', r'⟩ => ?_, fun i g S m σ vs H x H' d hx ⟨I', r'⟩ hy => ?_, fun i g S m σ vs H hi ⟨I', r'⟩ => ⟨xs, same_l (r'.bs.trans r'.sub) hl, by rw [hs.len]; exact hi⟩⟩ p⟩⟩
      · have hi' : i < xs.length := by rw [hs.len]; exact hi
        exact ⟨xs, _, same_l (r'.bs.trans r'.sub) hl, List.getElem?_eq_getElem hi'⟩
      · obtain ⟨e1, e2⟩ := hy
        subst e1
        obtain ⟨v, hv, hr⟩ := hs.get hx
        have e3 := e2 _ (same_l (r'.bs.trans r'.sub) hl)
        rw [hv] at e3
        cases e3
        exact ⟨I', r'.push (hr.mono r'.bs)⟩
  · subst e
    have hd := r1.top
    cases hd with
    | @tup a xs _ hl hs =>
      refine ⟨a, rfl, .inr ⟨⟨xs, same_t r1.sub hl⟩, q _ ds m1 H1 I1 r1.pop1 ⟨fun i g S m σ vs H hi ⟨I', r'⟩ => ?_, fun i g S m σ vs H x H' d hx ⟨I', r'⟩ hy => ?_, fun i g S m σ vs H hi ⟨I', r'⟩ => ⟨xs, same_t (r'.bs.trans r'.sub) hl, by rw [hs.len]; exact hi⟩⟩ p⟩⟩
      · have hi' : i < xs.length := by rw [hs.len]; exact hi
        exact ⟨xs, _, same_t (r'.bs.trans r'.sub) hl, List.getElem?_eq_getElem hi'⟩
      · obtain ⟨e1, e2⟩ := hy
        subst e1
        obtain ⟨v, hv, hr⟩ := hs.get hx
        have e3 := e2 _ (same_t (r'.bs.trans r'.sub) hl)
        rw [hv] at e3
        cases e3
        exact ⟨I', r'.push (hr.mono r'.bs)⟩
/-! ### exceptions -/
theorem DRf.zip {K : PySem.W.Frag} {I : Hp} {vs : List V} {ds : List Dt} (h : DRs K I vs ds) : ∀ fs : List Str, DRf K I (fs.zip vs) (fs.zip ds) := by
  induction vs generalizing ds with
  | nil => intro fs; cases h; cases fs <;> exact .nil
  | cons v vs ih =>
    intro fs
    cases h with
    | cons a t =>
      cases fs with
      | nil => exact .nil
      | cons f fs => exact .cons a (ih t fs)
theorem DRf.app {K : PySem.W.Frag} {I : Hp} {vs ws : List (Str × V)} {ds es : List (Str × Dt)} (h : DRf K I vs ds) (h2 : DRf K I ws es) : DRf K I (vs ++ ws) (ds ++ es) := by
  induction vs generalizing ds with
  | nil => cases h; exact h2
  | cons v vs ih => cases h with | cons a t => exact .cons a (ih t)
theorem DRf.rev {K : PySem.W.Frag} {I : Hp} {vs : List (Str × V)} {ds : List (Str × Dt)} (h : DRf K I vs ds) : DRf K I vs.reverse ds.reverse := by
  induction vs generalizing ds with
  | nil => cases h; exact .nil
  | cons v vs ih =>
    cases h with
    | cons a t =>
      rw [List.reverse_cons, List.reverse_cons]
      exact (ih t).app (.cons a .nil)
theorem DRf.look {K : PySem.W.Frag} {I : Hp} {vs : List (Str × V)} {ds : List (Str × Dt)} {f : Str} {d : Dt} (h : DRf K I vs ds) (e : ds.lookup f = some d) : ∃ v, vs.lookup f = some v ∧ DR K I v d := by
  induction vs generalizing ds with
  | nil => cases h; cases e
  | cons x vs ih =>
    cases h with
    | @cons k v _ d' ds' a t =>
      unfold List.lookup at e ⊢
      cases q : (f == k) with
      | true => rw [q] at e; simp at e; subst e; exact ⟨v, rfl, a⟩
      | false => rw [q] at e; exact ih t e
/-- what __init__ does that stores its arguments as fields -/
def spInit (K : PySem.W.Frag) (fs : List Str) : Sp := fun vs H Q _ => ∃ (a C : Addr) (ws : List V), vs = .ref a :: ws ∧ ws.length = fs.length ∧ OexC K C ∧ (∀ f ∈ fs, PySem.W.findIn K (.ref C) f = some none) ∧ H a = some (exo a C none) ∧
  ∀ dx H', H dx = none → dx ≠ a → H' a = some (exo a C (some dx)) → H' dx = some (exd dx (fs.zip ws).reverse) → (∀ b, b ≠ a → b ≠ dx → H' b = H b) → Q .non H'
abbrev tRaiseO (K : PySem.W.Frag) (Cc : Addr) (fs : List Str) (E : XK) (ta : TA) : TS := fun _ σ H => tMkO Cc (spInit K fs) [] ta σ H fun cls d H' => E cls d H'
/-- what an exception leaves: E takes it -/
def XOkE (C : Fx) (E : XK) (Xp : Addr → List (Str × Dt) → Cells → Prop) : Prop := ∀ B g S m σ vs H I d fs ds Cc, RelI C B g S m σ vs H I → I d = some (.xd fs) → DRf C.K I fs ds → Xp Cc ds m → E (.ref Cc) (some d) H
theorem made_heap {H1 H2 : Hp} {a d : Addr} {C : Addr} {fs : List (Str × V)} (ha : H1 a = none) (hda : d ≠ a) (h : ∀ b, b ≠ a → b ≠ d → H2 b = upd H1 a (exo a C none) b) : upd (del H2 a) d (.xd fs) = upd H1 d (.xd fs) := by
  funext b
  by_cases e1 : b = d
  · subst e1; rw [upd_same, upd_same]
  · rw [upd_ne e1, upd_ne e1]
    by_cases e2 : b = a
    · subst e2; rw [del_same, ha]
    · rw [del_ne e2, h b e2 e1, upd_ne e2]
theorem sx_raise {E : XK} {Xp : Addr → List (Str × Dt) → Cells → Prop} {Cc : Addr} {fs : List Str} {ta : TA} (hE : XOkE C E Xp) (T : OexC C.K Cc) (hf : ∀ f ∈ fs, PySem.W.findIn C.K (.ref Cc) f = some none)
    (h : EvA C g m ta fun ds m1 => ds.length = fs.length ∧ ds.length ≤ 1000 ∧ Xp Cc (fs.zip ds).reverse m1) : Sx C g m (tRaiseO C.K Cc fs E ta) PS := fun B S vs σ H D rl EE =>
  h B S σ vs H rl _ fun ws ds m1 H1 ⟨I1, r1⟩ hl ⟨hn, hk, hx⟩ => by
    obtain ⟨q1, q2⟩ := r1.stk.split hl
    refine ⟨by rw [hl]; exact hk, fun a ha => ⟨a, Cc, ws, by rw [List.append_nil], by rw [hl]; exact hn, T, hf, upd_same, fun dx H' hdx hne h1 h2 h3 => ⟨rfl, dx, _, h1, h2, ?_, ?_⟩⟩⟩
    · rw [upd_ne hne] at hdx
      exact hdx
    · rw [upd_ne hne] at hdx
      rw [made_heap ha hne h3]
      have r0 : RelI C B g S m1 σ vs H1 I1 := { r1 with stk := q2 }
      have r2 := r0.alloc (o := .xd (fs.zip ws).reverse) hdx
      exact hE B g S m1 σ vs _ _ dx _ _ Cc r2 upd_same ((DRf.zip q1 fs).rev.mono (same_upd (none_of_sub r0.sub hdx))) hx
abbrev SpcX := List Dt → Cells → (Dt → Cells → Prop) → (Addr → List (Str × Dt) → Cells → Prop) → Prop
def spOfX (K : PySem.W.Frag) (F : SpcX) : Sp := fun vs H Q E => ∃ (I : Hp) (es : List Dt) (m : Cells) (P : Dt → Cells → Prop) (Xp : Addr → List (Str × Dt) → Cells → Prop), Same I H ∧ DRs K I vs es ∧ MuOk K I H m ∧ (∀ e ∈ m, e.loc = false) ∧ F es m P Xp ∧
  (∀ v d I' H' m', Go (doms m) I H I' H' → DR K I' v d → MuOk K I' H' m' → (∀ e ∈ m', if e.loc = true then H e.a = none else doms m e.a) → P d m' → Q v H') ∧
  (∀ Cc d fs ds I' H' m', Go (doms m) I H I' H' → I' d = some (.xd fs) → DRf K I' fs ds → MuOk K I' H' m' → (∀ e ∈ m', if e.loc = true then H e.a = none else doms m e.a) → Xp Cc ds m' → E (.ref Cc) (some d) H')
theorem fn_enterX {K : PySem.W.Frag} {F : SpcX} {N : List Str} {vs : List V} {H : Hp} {Q : VK} {E : XK} {t : TS} (hsp : spOfX K F vs H Q E)
    (hb : ∀ (C : Fx) es m P Xp, C.K = K → F es m P Xp → XOkE C E (fun Cc ds m' => ∃ m2, m2.Sublist m' ∧ Xp Cc ds m2) → Sx C (es.map some ++ List.replicate (N.length - es.length) none) m t { nx := fun _ m' => ∃ m2, m2.Sublist m' ∧ P .non m2, rt := fun d m' => ∃ m2, m2.Sublist m' ∧ P d m2 }) : t { nx := fun _ H' => Q .non H', rt := Q } (L2.start N vs) H := by
  obtain ⟨I, es, m, P, Xp, hs, hd, hm, hf, hF, hq, hx⟩ := hsp
  let C : Fx := ⟨K, doms m, I, H⟩
  have r0 : RelI C I (es.map some ++ List.replicate (N.length - es.length) none) [] m (L2.start N vs) [] H I := ⟨Same.refl I, Go.refl hs, ctx_start hd, .nil, hm, fun e he => by
    rw [hf e he]
    exact List.mem_map_of_mem he⟩
  refine hb C es m P Xp rfl hF (fun B g S m' σ vs H' I' d fs ds Cc r' hI hds ⟨m2, hsub, p⟩ => ?_) I [] [] _ H _ ⟨I, r0⟩ ⟨fun g' m' σ' H' ⟨I', r'⟩ ⟨m2, hsub, p⟩ => ?_, fun g' d m' σ' v H' ⟨I', r'⟩ ⟨m2, hsub, p⟩ => ?_, fun _ _ _ _ _ p => p.elim, fun _ _ _ _ _ p => p.elim⟩
  · have r2 := r'.fewer hsub
    exact hx Cc d fs ds I' H' m2 r2.go hI hds r2.mu r2.own p
  · have r2 := r'.fewer hsub
    exact hq .non .non I' H' m2 r2.go .non r2.mu r2.own p
  · have r2 := r'.fewer hsub
    exact hq v d I' H' m2 r2.go r2.top r2.mu r2.own p
theorem sp_lenX {K : PySem.W.Frag} {F : SpcX} {n : Nat} (h : ∀ es m P X, F es m P X → es.length = n) : ∀ vs H Q E, spOfX K F vs H Q E → vs.length = n := fun vs H Q E ⟨I, es, m, P, X, _, hd, _, _, hF, _⟩ => hd.len.trans (h es m P X hF)
/-- the state behind a call, m' the callee's cells -/
theorem call_back {B : Hp} {S : List Dt} {σ : L2.St} {vs : List V} {H1 I1 I' H' : Hp} {m1 m' : Cells} (n : Nat) (r1 : RelI C B g S m1 σ vs H1 I1) (hn : n ≤ m1.length) (hgo : Go (doms (lent (m1.take n))) I1 H1 I' H') (hmu : MuOk C.K I' H' m')
    (hown : ∀ e ∈ m', if e.loc = true then H1 e.a = none else doms (lent (m1.take n)) e.a) (hl : n ≤ m'.length) (ha : (m'.take n).map (·.a) = (m1.take n).map (·.a)) (hnew : ∀ e ∈ m'.drop n, e.loc = true) :
    RelI C B g S (got (m1.take n) (m'.take n) ++ (m1.drop n ++ m'.drop n)) σ vs H' I' := by
  have hdom : ∀ a, doms (lent (m1.take n)) a ↔ a ∈ (m1.take n).map (·.a) := fun a => by
    unfold doms lent
    rw [List.map_map]
    exact Iff.rfl
  have hsplit : m1.take n ++ m1.drop n = m1 := List.take_append_drop n m1
  have hsplit' : m'.take n ++ m'.drop n = m' := List.take_append_drop n m'
  have nd1 : ((m1.take n ++ m1.drop n).map (·.a)).Nodup := by rw [hsplit]; exact r1.mu.nd
  rw [List.map_append, List.nodup_append] at nd1
  obtain ⟨ndt, ndd, ndx⟩ := nd1
  have hlen2 : (m1.take n).length = (m'.take n).length := by rw [List.length_take, List.length_take]; omega
  have hrest : ∀ e ∈ m1.drop n, I' e.a = none ∧ CellOk C.K I' H' e.a e.c := fun e he => by
    have hm : e ∈ m1 := List.mem_of_mem_drop he
    have nd : ¬ doms (lent (m1.take n)) e.a := fun w => ndx _ ((hdom _).mp w) _ (List.mem_map_of_mem he) rfl
    refine ⟨?_, (r1.mu.ok e hm).mono hgo.up fun o q => hgo.fr _ _ nd q⟩
    rw [hgo.nw _ (r1.mu.ok e hm).there]
    exact r1.mu.fr e hm
  have hnewH : ∀ e ∈ m'.drop n, H1 e.a = none := fun e he => by
    have w := hown e (List.mem_of_mem_drop he)
    rw [hnew e he] at w
    exact w
  have hgo2 : Go C.M C.I0 C.H0 I' H' := r1.go.trans hgo fun x w => by
    obtain ⟨e0, h0, rfl⟩ := List.mem_map.mp ((hdom x).mp w)
    have o := r1.own e0 (List.mem_of_mem_take h0)
    cases q : e0.loc with
    | true => rw [q] at o; exact .inr o
    | false => rw [q] at o; exact .inl o
  have hmem : ∀ e, e ∈ got (m1.take n) (m'.take n) ++ (m1.drop n ++ m'.drop n) → e ∈ got (m1.take n) (m'.take n) ∨ e ∈ m1.drop n ∨ e ∈ m'.drop n := fun e he => by
    rcases List.mem_append.mp he with w | w
    · exact .inl w
    · exact .inr (List.mem_append.mp w)
  have addr : ∀ {e1 e2 : Ce} {i : Nat}, (m1.take n)[i]? = some e1 → (m'.take n)[i]? = some e2 → e1.a = e2.a := fun {e1 e2 i} h1 h2 => by
    have a1 : ((m1.take n).map (·.a))[i]? = some e1.a := by rw [List.getElem?_map, h1]; rfl
    have a2 : ((m'.take n).map (·.a))[i]? = some e2.a := by rw [List.getElem?_map, h2]; rfl
    rw [ha, a1] at a2
    exact Option.some.inj a2
  refine ⟨r1.bs.trans hgo.up, hgo2, r1.ctx.mono hgo.up, r1.stk.mono hgo.up, ⟨?_, fun e he => ?_, fun e he => ?_⟩, fun e he => ?_⟩
  · rw [List.map_append, List.map_append, got_addr hlen2, ha, List.nodup_append, List.nodup_append]
    have ndm' : (m'.map (·.a)).Nodup := hmu.nd
    rw [← hsplit', List.map_append, List.nodup_append] at ndm'
    refine ⟨ndt, ⟨ndd, ndm'.2.1, fun a h1 b h2 w => ?_⟩, fun a h1 b h2 w => ?_⟩
    · obtain ⟨e1, k1, rfl⟩ := List.mem_map.mp h1
      obtain ⟨e2, k2, rfl⟩ := List.mem_map.mp h2
      exact (r1.mu.ok e1 (List.mem_of_mem_drop k1)).there (by rw [w]; exact hnewH e2 k2)
    · rcases List.mem_append.mp h2 with k | k
      · exact ndx a h1 b k w
      · obtain ⟨e1, k1, rfl⟩ := List.mem_map.mp h1
        obtain ⟨e2, k2, rfl⟩ := List.mem_map.mp k
        exact (r1.mu.ok e1 (List.mem_of_mem_take k1)).there (by rw [w]; exact hnewH e2 k2)
  · rcases hmem e he with w | w | w
    · obtain ⟨e1, h1, e2, h2, rfl, _⟩ := got_mem w
      exact hmu.fr e2 (List.mem_of_mem_take h2)
    · exact (hrest e w).1
    · exact hmu.fr e (List.mem_of_mem_drop w)
  · rcases hmem e he with w | w | w
    · obtain ⟨e1, h1, e2, h2, rfl, _⟩ := got_mem w
      exact hmu.ok e2 (List.mem_of_mem_take h2)
    · exact (hrest e w).2
    · exact hmu.ok e (List.mem_of_mem_drop w)
  · rcases hmem e he with w | w | w
    · obtain ⟨e1, h1, e2, h2, rfl, i, k1, k2⟩ := got_mem w
      have o := r1.own e1 (List.mem_of_mem_take h1)
      rw [addr k1 k2] at o
      exact o
    · exact r1.own e (List.mem_of_mem_drop w)
    · rw [hnew e w]
      show C.H0 e.a = none
      cases z : C.H0 e.a with
      | none => rfl
      | some x => exact absurd (hnewH e w) (r1.go.kp _ (by rw [z]; exact fun y => nomatch y))
theorem lent_ok {B : Hp} {S : List Dt} {σ : L2.St} {vs : List V} {H1 I1 : Hp} {m1 : Cells} (n : Nat) (r1 : RelI C B g S m1 σ vs H1 I1) : MuOk C.K I1 H1 (lent (m1.take n)) ∧ ∀ e ∈ lent (m1.take n), e.loc = false := by
  refine ⟨⟨?_, fun e he => ?_, fun e he => ?_⟩, fun e he => ?_⟩
  · have e : (lent (m1.take n)).map (·.a) = (m1.take n).map (·.a) := by unfold lent; rw [List.map_map] <;> rfl
    rw [e]
    exact ((List.take_sublist n m1).map _).nodup r1.mu.nd
  · obtain ⟨e0, h0, rfl⟩ := List.mem_map.mp he
    exact r1.mu.fr e0 (List.mem_of_mem_take h0)
  · obtain ⟨e0, h0, rfl⟩ := List.mem_map.mp he
    exact r1.mu.ok e0 (List.mem_of_mem_take h0)
  · obtain ⟨e0, h0, rfl⟩ := List.mem_map.mp he
    rfl
/-! ### inside a try -/
def XOk (C : Fx) (B : Hp) (S : List Dt) (vs : List V) (W : WX) (Xp : Gam → Addr → List (Str × Dt) → Cells → Prop) : Prop := ∀ g m σ H I d fs ds Cc, RelI C B g S m σ vs H I → I d = some (.xd fs) → DRf C.K I fs ds → Xp g Cc ds m → W (.ref Cc) (some d) σ H
def EvX (C : Fx) (g : Gam) (m : Cells) (te : WX → TE) (P : Dt → Cells → Prop) (Xp : Gam → Addr → List (Str × Dt) → Cells → Prop) : Prop := ∀ B S σ vs H W, Rel C B g S m σ vs H → XOk C B S vs W Xp → ∀ Q : VK, (∀ v d m' H', Rel C B g (d :: S) m' σ (v :: vs) H' → P d m' → Q v H') → te W σ H Q
def SxX (C : Fx) (g : Gam) (m : Cells) (t : WX → TS) (PS : Pst) (Xp : Gam → Addr → List (Str × Dt) → Cells → Prop) : Prop := ∀ B S vs σ H D W, Rel C B g S m σ vs H → EndsOk C B S vs PS D → XOk C B S vs W Xp → t W D σ H
variable {Xp : Gam → Addr → List (Str × Dt) → Cells → Prop}
theorem sxx_of (h : Sx C g m t PS) : SxX C g m (fun _ => t) PS Xp := fun B S vs σ H D W rl E _ => h B S vs σ H D rl E
theorem sxx_ret {te : WX → TE} (h : EvX C g m te PS.rt Xp) : SxX C g m (fun W => tRet (te W)) PS Xp := fun B S vs σ H D W rl E x => h B S σ vs H W rl x _ fun v d m' H' r' p => E.rt _ _ _ _ _ _ r' p
theorem sxx_set {te : WX → TE} {i : Nat} (h : EvX C g m te (fun d m' => PS.nx (g.set i (some d)) m') Xp) : SxX C g m (fun W => tAsg (te W) (gName i)) PS Xp := fun B S vs σ H D W rl E x => h B S σ vs H W rl x _ fun v d m' H' ⟨I, r'⟩ p => E.nx _ _ _ _ ⟨I, r'.pop1.slot r'.top⟩ p
theorem sxx_drop {te : WX → TE} (h : EvX C g m te (fun d m' => PS.nx g m') Xp) : SxX C g m (fun W => tDrop (te W)) PS Xp := fun B S vs σ H D W rl E x => h B S σ vs H W rl x _ fun v d m' H' ⟨I, r'⟩ p => E.nx _ _ _ _ ⟨I, r'.pop1⟩ p
theorem sxx_seq {t u : WX → TS} (h : SxX C g m t { PS with nx := fun g' m' => SxX C g' m' u PS Xp } Xp) : SxX C g m (fun W => tSeq (t W) (u W)) PS Xp := fun B S vs σ H D W rl E x => h B S vs σ H { D with nx := u W D } W rl ⟨fun g' m' σ' H' r' p => p B S vs σ' H' D W r' E x, E.rt, E.bk, E.ct⟩ x
theorem sxx_if {c : TT} {t u : WX → TS} (h : EvT C g m c fun b m' => (b = true → SxX C g m' t PS Xp) ∧ (b = false → SxX C g m' u PS Xp)) : SxX C g m (fun W => tIfS c (t W) (u W)) PS Xp := fun B S vs σ H D W rl E x => h B S σ vs H rl _ fun b m' H' r' p => by
  cases b with
  | true => exact p.1 rfl B S vs σ H' D W r' E x
  | false => exact p.2 rfl B S vs σ H' D W r' E x
/-- a call that may raise -/
theorem evx_call {F : SpcX} {ta : TA} (n : Nat) (h : EvA C g m ta fun es m1 => n ≤ m1.length ∧ ∃ R RX, F es (lent (m1.take n)) R RX ∧
      (∀ d m', R d m' → n ≤ m'.length ∧ (m'.take n).map (·.a) = (m1.take n).map (·.a) ∧ (∀ e ∈ m'.drop n, e.loc = true) ∧ P d (got (m1.take n) (m'.take n) ++ (m1.drop n ++ m'.drop n))) ∧
      (∀ Cc ds m', RX Cc ds m' → n ≤ m'.length ∧ (m'.take n).map (·.a) = (m1.take n).map (·.a) ∧ (∀ e ∈ m'.drop n, e.loc = true) ∧ Xp g Cc ds (got (m1.take n) (m'.take n) ++ (m1.drop n ++ m'.drop n)))) : EvX C g m (fun W => tCallS (spOfX C.K F) (WE W) ta) P Xp := fun B S σ vs H W rl x Q q =>
  h B S σ vs H rl _ fun ws es m1 H1 ⟨I1, r1⟩ hlen ⟨hn, R, RX, hF, hR, hX⟩ => by
    obtain ⟨q1, q2⟩ := r1.stk.split hlen
    have r0 : RelI C B g S m1 σ vs H1 I1 := { r1 with stk := q2 }
    obtain ⟨hm, hf⟩ := lent_ok n r0
    refine ⟨I1, es, lent (m1.take n), R, RX, r1.sub, q1, hm, hf, hF, fun v d I' H' m' hgo hd hmu hown hRR => ?_, fun Cc d fs ds I' H' m' hgo hI hds hmu hown hRR => ?_⟩
    · obtain ⟨a1, a2, a3, a4⟩ := hR d m' hRR
      exact q v d _ H' ⟨I', (call_back n r0 hn hgo hmu hown a1 a2 a3).push hd⟩ a4
    · obtain ⟨a1, a2, a3, a4⟩ := hX Cc ds m' hRR
      exact x g _ σ H' I' d fs ds Cc (call_back n r0 hn hgo hmu hown a1 a2 a3) hI hds a4
/-- try: .. except X as n: .. -/
def tTry (K : PySem.W.Frag) (c : Value) (i : Nat) (tb : WX → TS) (ts : Addr → Value → Option Addr → TS) : TS := fun D σ H => tb (wAs K c i ts (fun _ _ _ _ => False) D) D σ H
theorem sx_tryAs {c : Value} {i : Nat} {tb : WX → TS} {ts : Addr → Value → Option Addr → TS} (hb : SxX C g m tb PS Xp) (hx : ∀ g' Cc ds m', Xp g' Cc ds m' → PySem.W.exmOne C.K (.ref Cc) c = some true ∧
      ∀ a d, Sx C (g'.set i (some (.exc a d ds))) m' (ts a (.ref Cc) (some d)) { nx := fun g2 m2 => PS.nx (g2.set i none) m2, rt := PS.rt, bk := fun g2 m2 => PS.bk (g2.set i none) m2, ct := fun g2 m2 => PS.ct (g2.set i none) m2 }) :
    Sx C g m (tTry C.K c i tb ts) PS := fun B S vs σ H D rl E => hb B S vs σ H D _ rl E fun g' m' σ' H' I d fs ds Cc r hI hds hp => by
  obtain ⟨h1, h2⟩ := hx g' Cc ds m' hp
  refine ⟨true, h1, fun _ a ha => ?_, fun z => by cases z⟩
  exact h2 a d B S vs _ H' _ ⟨I, r.slot (.exc hI hds)⟩ ⟨fun g2 m2 σ2 H2 ⟨I2, r2⟩ p => E.nx _ _ _ _ ⟨I2, { r2 with ctx := r2.ctx.drop }⟩ p, E.rt, fun g2 m2 σ2 H2 ⟨I2, r2⟩ p => E.bk _ _ _ _ ⟨I2, { r2 with ctx := r2.ctx.drop }⟩ p, fun g2 m2 σ2 H2 ⟨I2, r2⟩ p => E.ct _ _ _ _ ⟨I2, { r2 with ctx := r2.ctx.drop }⟩ p⟩
/-- e.f in the suite -/
theorem ev_xf {a d Cc : Addr} {f : Str} {ds : List (Str × Dt)} {x : Dt} (h : Ev C g m te fun dd m1 => dd = .exc a d ds ∧ ds.lookup f = some x ∧ P x m1) : Ev C g m (tXf a (.ref Cc) (some d) Cc f te) P := fun B S σ vs H rl Q q => h B S σ vs H rl _ fun v dd m1 H1 ⟨I1, r1⟩ ⟨e, hl, p⟩ => by
  subst e
  have hv := r1.top
  cases hv with
  | exc hI hds =>
    obtain ⟨v, h1, h2⟩ := hds.look hl
    exact ⟨rfl, rfl, d, _, v, rfl, r1.sub _ _ hI, h1, q _ _ _ _ ⟨I1, r1.pop1.push h2⟩ p⟩
end
/-! ### rules for raise and try -/
section
variable {X : Cx}
structure CalX (P : Program) (w : World) (K : PySem.W.Frag) (mg : Str → Option Value) (base : Heap) (k : Nat) (x : Str) (ps : List Str) (sp : Sp) : Prop where
  ex : ∃ (f : Addr) (fd : FuncData), FnOk P w K mg base (L2.CX P w) k f fd ps sp ∧ mg x = some (.ref f) ∧ PySem.W.keepIn K (.ref f) = true ∧ Binds K fd ps []
/-- a raising def called in a try -/
theorem pe_fnS {x : Str} {p pos : Pos} {e : Expr} {es : List Expr} {t : TA} {k : Nat} {ps : List Str} {sp : Sp} {W : WX} (c : CalX X.prog X.w X.K X.mg X.base k x ps sp) (hr : Room k X.A) (hg : Gl X x) (tk : Takes X W) (ha : PA X (e :: es) t) (hd : (x == ("__debug__" : Str)) = false := by decide)
    (he : starEach (e :: es) X.env = (false, eval e X.env) :: starEach es X.env := by rfl) (hpl : (backTo pos (starEach es X.env)).any (·.1) = false := by rfl) : PE X (.Call (.Name x p) (e :: es) [] pos) (tCallS sp (WE W) t) := by
  obtain ⟨f, fd, F, hm, hk, hb⟩ := c.ex
  exact pe_callS F hr hg hm hk hb (fun σ => passAt tk σ) ha hd he hpl
theorem ps_tryE {x n : Str} {c : Value} {i : Nat} {body suite : List Stmt} {b₀ : Stmt} {np pos pos' : Pos} {tb : WX → TS} {ts : Addr → Value → Option Addr → TS} (hs : X.stack = X.env :: X.outer) (hf : X.env.frame = some X.env.locals) (hN : X.N.Nodup) (hi : X.N[i]? = some n) (hln : X.env.kindOf n = some .local) (hc : Names X x c)
    (hb : ∀ (W : WX) (pn : List (Addr × Obj)) (xe : Value → Shared → Prop), Takes (X.tr pn xe) W → PassesOwn (model X.prog X.w) X.A X.env xe → PSs (X.tr pn xe) body (tb W))
    (hsu : ∀ (a : Addr) (oe : Obj) (cls : Value) (d : Option Addr) (pn : List (Addr × Obj)), Zc cls d oe → (∃ vs, oe.data = .fields vs) → PSs (X.suite a ((a, oe) :: pn)) (b₀ :: suite) (ts a cls d)) :
    PS X (.Try body [.ExceptHandler (some (.Name x np)) (some n) (b₀ :: suite) pos'] [] [] pos) (tTry X.K c i tb ts) := ps_try_as hs hf hN hi hln hc takes0 hb hsu
/-- an own exception class whose __init__ stores its arguments -/
structure ExC (P : Program) (w : World) (K : PySem.W.Frag) (mg : Str → Option Value) (base : Heap) (k : Nat) (x : Str) (Cc : Addr) (ps fs : List Str) : Prop where
  T : OexC K Cc
  g : mg x = some (.ref Cc)
  ini : ∃ (fI : Addr) (fd : FuncData), PySem.W.findIn K (.ref Cc) "__init__" = some (some (.ref fI)) ∧ PySem.W.typeIn K (.ref fI) = some (.type "function") ∧ FnOk P w K mg base CX0 k fI fd ps (spInit K fs) ∧ Binds K fd ps []
  no : ∀ f ∈ fs, PySem.W.findIn K (.ref Cc) f = some none
  xf : XfC K Cc
  te : PySem.W.exmOne K (.ref Cc) (.ref Cc) = some true
/-- what the data's side asks of the class -/
structure ExD (K : PySem.W.Frag) (Cc : Addr) (fs : List Str) : Prop where
  T : OexC K Cc
  no : ∀ f ∈ fs, PySem.W.findIn K (.ref Cc) f = some none
  te : PySem.W.exmOne K (.ref Cc) (.ref Cc) = some true
theorem ExC.d {P : Program} {w : World} {K : PySem.W.Frag} {mg : Str → Option Value} {base : Heap} {k : Nat} {x : Str} {Cc : Addr} {ps fs : List Str} (c : ExC P w K mg base k x Cc ps fs) : ExD K Cc fs := ⟨c.T, c.no, c.te⟩
theorem ps_raiseE {x : Str} {Cc : Addr} {k : Nat} {ps fs : List Str} {p p2 pos : Pos} {e : Expr} {es : List Expr} {ta : TA} {E : XK} (c : ExC X.prog X.w X.K X.mg X.base k x Cc ps fs) (hr : Room (k + 1) X.A) (hg : Gl X x) (hc : X.calm = true) (tk : Takes X (fun cls d _ H => E cls d H)) (ha : PA X (e :: es) ta)
    (hdb : (x == ("__debug__" : Str)) = false := by decide) (he : starEach (e :: es) X.env = (false, eval e X.env) :: starEach es X.env := by rfl) (hpl : (backTo p2 (starEach es X.env)).any (·.1) = false := by rfl) :
    PS X (.Raise (some (.Call (.Name x p) (e :: es) [] p2)) none pos) (tRaiseO X.K Cc fs E ta) := by
  obtain ⟨fI, fd, h1, h2, h3, h4⟩ := c.ini
  exact ps_raise hc tk (pmk_oex c.T h1 h2 h3 hr h4 .nil pass0 hg c.g ha hdb he hpl)
end
end NK

namespace NK
open PySem PySem.Spec PyProof.Rows L2
section
variable {C : Fx} {g : Gam} {m : Cells} {te ta tb tc : TE} {P P' : Dt → Cells → Prop} {PS : Pst} {t u : TS}
/-- isinstance(x, list), x a cell -/
theorem ev_isList (h : Ev C g m te fun d m1 => ∃ (j : Nat) (a : Addr) (b : Bool) (ds : List Dt), d = .ref a ∧ m1[j]? = some ⟨a, b, .lst ds⟩ ∧ P (.bl true) m1) : Ev C g m (tCB RZ.rIsTy (tCons te (tCons (tC (.ty "list")) tNil))) P := fun B S σ vs H rl Q q => h B S σ vs H rl _ fun v d m1 H1 ⟨I1, r1⟩ ⟨j, a, b, ds, e, hj, p⟩ => by
  subst e
  have hv := r1.top
  cases hv
  obtain ⟨us, hu, hd⟩ : ∃ ws, H1 a = some (.lst ws) ∧ DRs C.K I1 ws ds := r1.mu.ok _ (List.mem_iff_getElem?.mpr ⟨j, hj⟩)
  exact ⟨.ref a, "list", rfl, .lst hu, q _ _ _ _ ⟨I1, r1.pop1.push (.bl _)⟩ p⟩
end
/-! ### __init__ that stores its arguments -/
abbrev tInit1 (K : PySem.W.Frag) (f1 : Str) : TS := tOst K f1 (tVar 0) (tVar 1)
abbrev tInit2 (K : PySem.W.Frag) (f1 f2 : Str) : TS := tSeq (tOst K f1 (tVar 0) (tVar 1)) (tOst K f2 (tVar 0) (tVar 2))
abbrev tInit3 (K : PySem.W.Frag) (f1 f2 f3 : Str) : TS := tSeq (tOst K f1 (tVar 0) (tVar 1)) (tSeq (tOst K f2 (tVar 0) (tVar 2)) (tOst K f3 (tVar 0) (tVar 3)))
theorem init1_go {K : PySem.W.Frag} {f1 : Str} {vs : List V} {H : Hp} {Q : VK} {E : XK} {N : List Str} (hN : N.length = 2) (h : spInit K [f1] vs H Q E) : tInit1 K f1 { nx := fun _ H' => Q .non H', rt := Q } (L2.start N vs) H := by
  obtain ⟨a, C, ws, rfl, hl, T, hf, ha, q⟩ := h
  match ws, hl with
  | [x], _ =>
    refine ⟨x, rfl, .ref a, rfl, a, C, rfl, T, hf f1 (by simp), .inl ⟨ha, fun dx hdx hne => ?_⟩⟩
    exact q dx _ hdx hne upd_same (by rw [upd_ne hne, upd_same]; rfl) fun b h1 h2 => by rw [upd_ne h1, upd_ne h2]
theorem init2_go {K : PySem.W.Frag} {f1 f2 : Str} {vs : List V} {H : Hp} {Q : VK} {E : XK} {N : List Str} (hN : N.length = 3) (h : spInit K [f1, f2] vs H Q E) : tInit2 K f1 f2 { nx := fun _ H' => Q .non H', rt := Q } (L2.start N vs) H := by
  obtain ⟨a, C, ws, rfl, hl, T, hf, ha, q⟩ := h
  match ws, hl with
  | [x, y], _ =>
    refine ⟨x, rfl, .ref a, rfl, a, C, rfl, T, hf f1 (by simp), .inl ⟨ha, fun dx hdx hne => ?_⟩⟩
    refine ⟨y, rfl, .ref a, rfl, a, C, rfl, T, hf f2 (by simp), .inr ⟨dx, _, upd_same, by rw [upd_ne hne, upd_same], by simp, ?_⟩⟩
    exact q dx _ hdx hne (by rw [upd_ne hne.symm, upd_same]) upd_same fun b h1 h2 => by rw [upd_ne h2, upd_ne h1, upd_ne h2]
theorem init3_go {K : PySem.W.Frag} {f1 f2 f3 : Str} {vs : List V} {H : Hp} {Q : VK} {E : XK} {N : List Str} (hN : N.length = 4) (h : spInit K [f1, f2, f3] vs H Q E) : tInit3 K f1 f2 f3 { nx := fun _ H' => Q .non H', rt := Q } (L2.start N vs) H := by
  obtain ⟨a, C, ws, rfl, hl, T, hf, ha, q⟩ := h
  match ws, hl with
  | [x, y, z], _ =>
    refine ⟨x, rfl, .ref a, rfl, a, C, rfl, T, hf f1 (by simp), .inl ⟨ha, fun dx hdx hne => ?_⟩⟩
    refine ⟨y, rfl, .ref a, rfl, a, C, rfl, T, hf f2 (by simp), .inr ⟨dx, _, upd_same, by rw [upd_ne hne, upd_same], by simp, ?_⟩⟩
    refine ⟨z, rfl, .ref a, rfl, a, C, rfl, T, hf f3 (by simp), .inr ⟨dx, _, by rw [upd_ne hne.symm, upd_same], upd_same, by simp, ?_⟩⟩
    exact q dx _ hdx hne (by rw [upd_ne hne.symm, upd_ne hne.symm, upd_same]) upd_same fun b h1 h2 => by rw [upd_ne h2, upd_ne h2, upd_ne h1, upd_ne h2]
theorem init_len {K : PySem.W.Frag} {fs : List Str} : ∀ vs H Q E, spInit K fs vs H Q E → vs.length = fs.length + 1 := fun vs H Q E ⟨a, C, ws, e, hl, _⟩ => by rw [e, List.length_cons, hl]
end NK

namespace NK
open PySem PySem.Spec PyProof.Rows L2
section
variable {C : Fx} {g : Gam} {m : Cells} {te ta tb tc : TE} {P P' : Dt → Cells → Prop} {PS : Pst} {t u : TS}
theorem evt_yes {PT : Bool → Cells → Prop} (p : PT true m) : EvT C g m tYes PT := fun B S σ vs H rl Q q => q _ _ _ rl p
theorem ev_orV (h : Ev C g m ta fun d m1 => ∃ b, d = .bl b ∧ (b = true → P (.bl true) m1) ∧ (b = false → Ev C g m1 tb P)) : Ev C g m (tOrV ta tb) P := fun B S σ vs H rl Q q => h B S σ vs H rl _ fun v d m1 H1 ⟨I1, r1⟩ ⟨b, e, h1, h2⟩ => by
  subst e
  have hv := r1.top
  cases hv
  refine ⟨b, rfl, ?_⟩
  cases b with
  | true => exact q _ _ _ _ ⟨I1, r1⟩ (h1 rfl)
  | false => exact h2 rfl B S σ vs H1 ⟨I1, r1.pop1⟩ Q q
theorem ev_andV (h : Ev C g m ta fun d m1 => ∃ b, d = .bl b ∧ (b = true → Ev C g m1 tb P) ∧ (b = false → P (.bl false) m1)) : Ev C g m (tAndV ta tb) P := fun B S σ vs H rl Q q => h B S σ vs H rl _ fun v d m1 H1 ⟨I1, r1⟩ ⟨b, e, h1, h2⟩ => by
  subst e
  have hv := r1.top
  cases hv
  refine ⟨b, rfl, ?_⟩
  cases b with
  | true => exact h1 rfl B S σ vs H1 ⟨I1, r1.pop1⟩ Q q
  | false => exact q _ _ _ _ ⟨I1, r1⟩ (h2 rfl)
theorem ev_notV (h : Ev C g m ta fun d m1 => ∃ b, d = .bl b ∧ P (.bl (!b)) m1) : Ev C g m (tNotV ta) P := fun B S σ vs H rl Q q => h B S σ vs H rl _ fun v d m1 H1 ⟨I1, r1⟩ ⟨b, e, h1⟩ => by
  subst e
  have hv := r1.top
  cases hv
  exact ⟨b, rfl, q _ _ _ _ ⟨I1, r1.pop1.push (.bl _)⟩ h1⟩
theorem ev_ifE {t : TT} (h : EvT C g m t fun b m1 => (b = true → Ev C g m1 ta P) ∧ (b = false → Ev C g m1 tb P)) : Ev C g m (tIf t ta tb) P := fun B S σ vs H rl Q q => h B S σ vs H rl _ fun b m1 H1 r1 ⟨h1, h2⟩ => by
  cases b with
  | true => exact h1 rfl B S σ vs H1 r1 Q q
  | false => exact h2 rfl B S σ vs H1 r1 Q q
/-- a comprehension that draws nothing: what passes, each by f; the list never changes -/
theorem ev_lcP {wi : TI} {tg : TG} {tt : TT} {own js : List Nat} (hf : Fills tg js) (hj : ∀ j ∈ js, j ∈ own) (h : EvI C g m wi fun xs m1 => xs.length < sizeLine ∧ ∃ (p : Dt → Bool) (f : Dt → Dt),
      (∀ x ∈ xs, ∀ mm, Tg C mm tg x (wipeG g own) fun g2 => EvT C g2 mm tt fun b m2 => b = p x ∧ m2 = mm ∧ (b = true → Ev C g2 mm te fun d m3 => d = f x ∧ m3 = mm)) ∧ P (.lst ((xs.filter p).map f)) m1) : Ev C g m (tLc wi tg tt te own) P :=
  ev_frz (ev_lc hf hj fun B S σ vs H rl R q => h B S σ vs H rl R fun J xs m' H' I1 r it ⟨hz, p, f, hs, hp⟩ => q J xs m' H' I1 r it ⟨fun i acc mm => i ≤ xs.length ∧ acc = ((xs.take i).filter p).map f ∧ mm = m', ⟨Nat.zero_le _, rfl, rfl⟩, fun i x acc mm hx ⟨hi, ha, hm⟩ => by
    subst ha hm
    have hil : i < xs.length := (List.getElem?_eq_some_iff.mp hx).1
    have ht : xs.take (i + 1) = xs.take i ++ [x] := by rw [List.take_add_one, hx]; rfl
    have hmem : x ∈ xs := List.mem_of_getElem? hx
    refine ⟨?_, fun a => ?_⟩
    · rw [List.length_map]
      have h1 := List.length_filter_le p (xs.take i)
      rw [List.length_take] at h1
      omega
    · intro B S σ vs v H rl Q q
      refine hs x hmem _ B S σ vs v H rl Q fun g2 σ2 r2 k => q g2 σ2 r2 ?_
      refine k.mono fun b m2 ⟨eb, em, ke⟩ => ?_
      subst em
      refine ⟨fun hb => (ke hb).mono fun d m3 ⟨ed, em3⟩ => ?_, fun hb => ?_⟩
      · subst ed em3
        refine ⟨_, rfl, hil, ?_, rfl⟩
        rw [ht, List.filter_append, List.map_append, List.filter_cons, if_pos (by rw [← eb, hb])]
        rfl
      · refine ⟨_, rfl, hil, ?_, rfl⟩
        rw [ht, List.filter_append, List.map_append, List.filter_cons, if_neg (by rw [← eb, hb]; decide)]
        show _ = _ ++ []
        rw [List.append_nil], fun acc mm ⟨_, ha, hm⟩ a => by
    subst ha hm
    refine ⟨mm.length, a, ((xs.take xs.length).filter p).map f, rfl, ?_, ?_⟩
    · rw [List.getElem?_append_right (Nat.le_refl _), Nat.sub_self] <;> rfl
    · rw [List.eraseIdx_append_of_length_le (Nat.le_refl _), Nat.sub_self]
      show P _ (mm ++ [])
      rw [List.append_nil, List.take_length]
      exact hp⟩)
/-- the same without a test -/
theorem ev_lcM {wi : TI} {tg : TG} {own js : List Nat} (hf : Fills tg js) (hj : ∀ j ∈ js, j ∈ own) (h : EvI C g m wi fun xs m1 => xs.length < sizeLine ∧ ∃ (f : Dt → Dt),
      (∀ x ∈ xs, ∀ mm, Tg C mm tg x (wipeG g own) fun g2 => Ev C g2 mm te fun d m3 => d = f x ∧ m3 = mm) ∧ P (.lst (xs.map f)) m1) : Ev C g m (tLc wi tg tYes te own) P :=
  ev_lcP hf hj fun B S σ vs H rl R q => h B S σ vs H rl R fun J xs m' H' I1 r it ⟨hz, f, hs, hp⟩ => q J xs m' H' I1 r it ⟨hz, fun _ => true, f, fun x hx mm B S σ vs v H rl Q q => hs x hx mm B S σ vs v H rl Q fun g2 σ2 r2 k => q g2 σ2 r2 (evt_yes ⟨rfl, rfl, fun _ => k⟩), by
    have e : xs.filter (fun _ => true) = xs := List.filter_eq_self.mpr fun _ _ => rfl
    rw [e]
    exact hp⟩
end
end NK

namespace NK
open PySem PySem.Spec PyProof.Rows L2
section
variable {C : Fx} {g : Gam} {m : Cells} {te ta tb tc : TE} {P P' : Dt → Cells → Prop} {PS : Pst} {t u : TS}
/-- and, or of two tests whose answers are known: one way on -/
theorem evt_andP {t u : TT} {PT : Bool → Cells → Prop} (x y : Bool) (h1 : EvT C g m t fun b m' => b = x ∧ m' = m) (h2 : x = true → EvT C g m u fun b m' => b = y ∧ m' = m) (p : PT (x && y) m) : EvT C g m (tAnd t u) PT :=
  evt_and (h1.mono fun b m' ⟨e1, e2⟩ => by
    subst e1 e2
    refine ⟨fun hb => (h2 hb).mono fun b' m' ⟨e1, e2⟩ => ?_, fun hb => ?_⟩
    · subst e1 e2 hb
      exact p
    · rw [hb] at p
      exact p)
theorem evt_orP {t u : TT} {PT : Bool → Cells → Prop} (x y : Bool) (h1 : EvT C g m t fun b m' => b = x ∧ m' = m) (h2 : x = false → EvT C g m u fun b m' => b = y ∧ m' = m) (p : PT (x || y) m) : EvT C g m (tOr t u) PT :=
  evt_or (h1.mono fun b m' ⟨e1, e2⟩ => by
    subst e1 e2
    refine ⟨fun hb => ?_, fun hb => (h2 hb).mono fun b' m' ⟨e1, e2⟩ => ?_⟩
    · rw [hb] at p
      exact p
    · subst e1 e2
      rw [hb, Bool.false_or] at p
      exact p)
/-- a cell and data, compared -/
theorem op_nedM {a : Addr} {b : Bool} {ds : List Dt} {d2 : Dt} (j n : Nat) (hj : m[j]? = some ⟨a, b, .lst ds⟩) (hn : n + 1 ≤ 64) (h1 : plains n ds = true) (h2 : plain (n + 1) d2 = true) (p : P (.bl (!PyData.eqv (toPy (.lst ds)) (toPy d2))) m) : Op C m (rNeD C.K) (.ref a) d2 P := fun B g S σ vs H x y ⟨I, rl⟩ Q q => by
  have hy := rl.top
  have hx := rl.pop1.top
  cases hx
  obtain ⟨us, hu, hd⟩ : ∃ ws, H a = some (.lst ws) ∧ DRs C.K I ws ds := rl.mu.ok _ (List.mem_iff_getElem?.mpr ⟨j, hj⟩)
  refine ⟨toPy (.lst ds), toPy d2, ?_, dp_up rl.sub (dp_of _ hy h2), plain_shaped (n := n + 1) (by simpa [plain] using h1) hn, plain_shaped h2 hn, q _ _ m H ⟨I, (rl.pop1.pop1).push (.bl _)⟩ p⟩
  simp only [toPy]
  exact .lst (.inl (.inl hu)) (dps_up rl.sub (dps_of n hd h1))
end
end NK

set_option Elab.async false
set_option linter.all false
set_option maxRecDepth 100000
set_option autoImplicit false
namespace N10
open PySem PySem.Spec PyProof.Rows L2 NK
def topS (i : Nat) : Stmt := PySem.Challenge.pw_nestkeys_k10_rows_of_moves_and_wishes.main.body.getD i (.Pass ⟨0, 0, 0, 0⟩)
/-! ### what the defs promise -/
structure Ok3 (a b c : Int) : Prop where
  a0 : 0 ≤ a
  b0 : 0 ≤ b
  b1 : b < 4294967296
  c0 : 0 ≤ c
  c1 : c < 4294967296
abbrev st3 (a b c : Int) : Cell := .lst [.int a, .int b, .int c]
def fState : Spc := fun es m P => ∃ (c : Int), es = [.int c] ∧ m = [] ∧ ∀ (s : Addr) (x y z : Int), Ok3 x y z → P (.ref s) [⟨s, true, st3 x y z⟩]
def fDigit : Spc := fun es m P => ∃ (s : Addr) (a b c n : Int), es = [.ref s, .int n] ∧ m = [⟨s, false, st3 a b c⟩] ∧ Ok3 a b c ∧ 0 < n ∧ n < 1073741824 ∧
  ∀ (r a' b' c' : Int), 0 ≤ r → r < n → Ok3 a' b' c' → P (.int r) [⟨s, false, st3 a' b' c'⟩]
/-- a sign of a name -/
def NameCp (c : Nat) : Prop := (97 ≤ c ∧ c ≤ 122) ∨ (48 ≤ c ∧ c ≤ 57)
structure GoodName (z : Str) : Prop where
  l1 : 1 ≤ z.length
  l2 : z.length ≤ 20
  cp : ∀ c ∈ z.cps.toList, NameCp c
def fName : Spc := fun es m P => ∃ (s l : Addr) (a b c : Int) (ys : List Str), es = [.ref s, .ref l] ∧ m = [⟨s, false, st3 a b c⟩, ⟨l, false, .lst (ys.map .str)⟩] ∧ Ok3 a b c ∧ ys.length ≤ 8 ∧
  ∀ (z : Str) (a' b' c' : Int), GoodName z → Ok3 a' b' c' → P (.str z) [⟨s, false, st3 a' b' c'⟩, ⟨l, false, .lst (ys.map .str)⟩]
def fNames : Spc := fun es m P => ∃ (s : Addr) (a b c : Int) (n : Int), es = [.ref s, .int n] ∧ m = [⟨s, false, st3 a b c⟩] ∧ Ok3 a b c ∧ 0 ≤ n ∧ n ≤ 8 ∧
  ∀ (l : Addr) (ys : List Str) (a' b' c' : Int), (ys.length : Int) = n → (∀ y ∈ ys, GoodName y) → Ok3 a' b' c' → P (.ref l) [⟨s, false, st3 a' b' c'⟩, ⟨l, true, .lst (ys.map .str)⟩]
/-- a text that writes a number -/
def okNum (z : Str) : Bool := decide (1 ≤ z.length ∧ z.length ≤ 9) && (z.cps.toList.all fun c => decide (c ∈ ("0123456789" : Str).cps.toList)) && (decide (z = "0") || !decide ((⟨#[z.cps.toList.headD 0]⟩ : Str) = "0"))
/-- a text of plain signs -/
def Sg (z : Str) : Prop := PyData.strOk z = true
def fIsNumber : Spc := fun es m P => ∃ z : Str, es = [.str z] ∧ m = [] ∧ z.length ≤ 100000 ∧ Sg z ∧ P (.bl (okNum z)) []
def fIsFigures : Spc := fun es m P => ∃ z : Str, es = [.str z] ∧ m = [] ∧ z.length ≤ 100000 ∧ P (.bl (okNum z)) []
def fChanged : Spc := fun es m P => ∃ (s : Addr) (a b c : Int) (z : Str), es = [.ref s, .str z] ∧ m = [⟨s, false, st3 a b c⟩] ∧ Ok3 a b c ∧ z.length ≤ 30000 ∧ Sg z ∧
  ∀ (z' : Str) (a' b' c' : Int), z'.length ≤ 2 * z.length + 6000 → Sg z' → Ok3 a' b' c' → P (.str z') [⟨s, false, st3 a' b' c'⟩]
/-- the number that a text writes -/
def numOf (z : Str) : Int := (PySem.intText? z).getD 0
/-- whether a part of a text can stand -/
def goodP (b : Bool) (p : Str) : Bool := match Txt.split p "." with
  | [x, y] => !(decide (x = "") || decide (y = "")) && (!b || (okNum x && okNum y))
  | _ => false
def valP (b : Bool) (p : Str) : Dt := match Txt.split p "." with
  | [x, y] => if b = true then .tup [.int (numOf x), .int (numOf y)] else .tup [.str x, .str y]
  | _ => .non
def partsOf (z : Str) : List Str := Txt.split z " "
def firstBad (b : Bool) (z : Str) : Option Nat := (partsOf z).findIdx? fun p => !goodP b p
/-- what is read of a text -/
def resD (b : Bool) (z : Str) : Dt := if b = true ∧ z = "none" then .lst [] else match firstBad b z with
  | some k => .tup [.str "row", .int 0, .int (k : Nat)]
  | none => .lst ((partsOf z).map (valP b))
def fDue : Spc := fun es m P => ∃ (z : Str) (b : Bool), es = [.str z, .bl b] ∧ m = [] ∧ z.length ≤ 100000 ∧ Sg z ∧ P (resD b z) []
def fTold : Spc := fun es m P => ∃ (z : Str) (b : Bool), es = [.str z, .bl b] ∧ m = [] ∧ z.length ≤ 100000 ∧
  (∀ ds, resD b z = .lst ds → ∀ a, P (.ref a) [⟨a, true, .lst ds⟩]) ∧ (∀ ds, resD b z = .tup ds → P (.tup ds) [])
abbrev badFs (k : Int) : List (Str × Dt) := [(("place" : Str), .int k), (("row" : Str), .int 0)]
def fRead (b : Bool) (c_BadRow : Addr) : SpcX := fun es m P Xp => ∃ z : Str, es = [.str z] ∧ m = [] ∧ z.length ≤ 100000 ∧
  (∀ ds, resD b z = .lst ds → ∀ a, P (.ref a) [⟨a, true, .lst ds⟩]) ∧ (∀ k, resD b z = .tup [.str "row", .int 0, .int k] → Xp c_BadRow (badFs k) [])
def fReadMoves (c_BadRow : Addr) : SpcX := fRead true c_BadRow
def fReadWishes (c_BadRow : Addr) : SpcX := fRead false c_BadRow
def fPairsIn : Spc := fun es m P => ∃ z : Str, es = [.str z] ∧ m = [] ∧ z.length ≤ 100000 ∧ P (.lst (enumD ((partsOf z).map fun p => .lst ((Txt.split p ".").map .str)))) []
def mvD (p : Nat × Nat) : Dt := .tup [.int (p.1 : Nat), .int (p.2 : Nat)]
def wsD (p : Str × Str) : Dt := .tup [.str p.1, .str p.2]
def mvT (p : Nat × Nat) : Str := (Str.ofString (toString ((p.1 : Nat) : Int)) ++ "." : Str) ++ Str.ofString (toString ((p.2 : Nat) : Int))
def wsT (p : Str × Str) : Str := (p.1 ++ "." : Str) ++ p.2
def orNone : List Str → List Str
  | [] => ["none"]
  | x :: r => x :: r
def fMovesRow : Spc := fun es m P => ∃ (d : Dt) (ps : List (Nat × Nat)), es = [d] ∧ m = [] ∧ (d = .lst (ps.map mvD) ∨ d = .tup (ps.map mvD)) ∧ ps.length ≤ 100 ∧ (∀ p ∈ ps, p.1 < 10 ^ 9 ∧ p.2 < 10 ^ 9) ∧ P (.str (Txt.join " " (orNone (ps.map mvT)))) []
def fWishesRow : Spc := fun es m P => ∃ (d : Dt) (ps : List (Str × Str)), es = [d] ∧ m = [] ∧ (d = .lst (ps.map wsD) ∨ d = .tup (ps.map wsD)) ∧ ps.length ≤ 100 ∧ (∀ p ∈ ps, p.1.length ≤ 100 ∧ p.2.length ≤ 100) ∧ P (.str (Txt.join " " (ps.map wsT))) []
def fLaw : Spc := fun es m P => ∃ ns : List Int, es = [.lst (ns.map .int)] ∧ m = [] ∧ ns.length ≤ 63 ∧ P (.bl true) []
/-! ### BadRow.__init__ -/
abbrev sIBadRow : Stmt := inClass (topS 3) 0
theorem scIBadRow : FnScope ["self", "row", "place"] ["self", "row", "place"] (defScope sIBadRow) := ⟨rfl, rfl, rfl, by decide +kernel, rfl, by decide +kernel, by decide +kernel⟩
theorem okIBadRow {P : Program} {w : World} {K : PySem.W.Frag} {mg : Str → Option Value} {base : Heap} {f : Addr} {fd : FuncData} (F : Fun K "__init__" "BadRow.__init__" sIBadRow f fd) : FnOk P w K mg base CX0 1 f fd ["self", "row", "place"] (spInit K ["row", "place"]) :=
  F.ok (k := 0) scIBadRow init_len (fun cdv A outer st H vs Q E hr h => ⟨tInit2 K "row" "place", pss_cons (ps_ost (pv 0) (pv 1)) (pss_one (ps_ost (pv 0) (pv 2))), init2_go rfl h⟩)
/-! ### _law_state -/
abbrev sState : Stmt := topS 15
theorem scState : FnScope ["_law_cell"] ["_law_cell"] (defScope sState) := ⟨rfl, rfl, rfl, by decide +kernel, rfl, by decide +kernel, by decide +kernel⟩
def tState (K : PySem.W.Frag) : TS :=
  tSeq (tAsg (tCB (rAbs) (tCons (tVar 0) (tNil))) (gName 0))
  (tRet (tLst (tCons (tOp (rI CMul fun i j => .int (i * j)) (tVar 0) (tCB (rInt1) (tCons (tOp (rI0 fun i j => .bl (decide (j ≤ i))) (tVar 0) (tOp (rI CPow fun i j => .int (i ^ j.toNat)) (tC (.int 10)) (tC (.int 18)))) (tNil)))) (tCons (tOp (rI0 fun i j => .int (i + j)) (tOp (rI (fun _ j => 0 < j) fun i j => .int (i % j)) (tVar 0) (tC (.int 2147483629))) (tC (.int 7))) (tCons (tOp (rI (fun _ j => 0 < j) fun i j => .int (i % j)) (tVar 0) (tC (.int 2147483587))) (tNil))))))
set_option maxHeartbeats 1000000 in
theorem okState {P : Program} {w : World} {K : PySem.W.Frag} {mg : Str → Option Value} {base : Heap} {f : Addr} {fd : FuncData} (F : Fun K "_law_state" "_law_state" sState f fd) (b_abs : mg "abs" = none) (b_int : mg "int" = none) (hlen : ∀ es m Po, fState es m Po → es.length = 1) (hb : ∀ (C : Fx) es m Po, fState es m Po → Sx C (es.map some ++ List.replicate (1 - es.length) none) m (tState C.K) { nx := fun _ m' => ∃ m2, m2.Sublist m' ∧ Po .non m2, rt := fun d m' => ∃ m2, m2.Sublist m' ∧ Po d m2 }) : FnOk P w K mg base CX0 1 f fd ["_law_cell"] (spOf K fState) := by
  refine F.ok (k := 0) scState (sp_len hlen) (fun cdv A outer st H vs Q E hr h => ⟨tState K, ?_, fn_enter (N := ["_law_cell"]) h fun C es m Po hK hF => by subst hK; exact hb C es m Po hF⟩)
  unfold tState
  exact pss_cons (ps_set (i := 0) scState.nd rfl (Or.inl rfl) (pe_callB call_absI (by rfl) b_abs (by decide +kernel) (pa_cons (pv 0) (pa_nil))))
    (pss_one (ps_ret (pe_lst (pa_cons (pe_op op_mul (pv 0) (pe_callTy call_intI (by rfl) b_int (by decide +kernel) (pa_cons (pe_cmpR op_ge (pv 0) (pe_op op_pow (pe_int) (pe_int)) (nomark _)) (pa_nil)))) (pa_cons (pe_op op_add (pe_op op_mod (pv 0) (pe_int)) (pe_int)) (pa_cons (pe_op op_mod (pv 0) (pe_int)) (pa_nil)))))))
/-! ### _law_digit -/
abbrev sDigit : Stmt := topS 16
theorem scDigit : FnScope ["_law_state_here", "_law_base", "_law_found", "_law_more"] ["_law_state_here", "_law_base"] (defScope sDigit) := ⟨rfl, rfl, rfl, by decide +kernel, rfl, by decide +kernel, by decide +kernel⟩
def tDigit (K : PySem.W.Frag) : TS :=
  tSeq (tIfS (tTest (tOp (rI0 fun i j => .bl (decide (j < i))) (tOp (rIxL K) (tVar 0) (tC (.int 0))) (tC (.int 0))))
  (tSeq (tAsg (tOp (rI (fun _ j => 0 < j) fun i j => .int (i % j)) (tOp (rIxL K) (tVar 0) (tC (.int 0))) (tVar 1)) (gName 2))
  (tSeq (tAsg (tOp (rI CDiv fun i j => .int (i / j)) (tOp (rIxL K) (tVar 0) (tC (.int 0))) (tVar 1)) (gSub (tVar 0) (tC (.int 0)) rSetL))
  (tRet (tVar 2)))) (tNext))
  (tSeq (tAsg (tOp (rI CMul fun i j => .int (i * j)) (tOp (rIxL K) (tVar 0) (tC (.int 1))) (tOp (rI0 fun i j => .int (i + j)) (tOp (rI CDiv fun i j => .int (i / j)) (tOp (rIxL K) (tVar 0) (tC (.int 1))) (tC (.int 1009))) (tC (.int 69621)))) (gName 3))
  (tSeq (tAsg (tOp (rI0 fun i j => .int (i + j)) (tOp (rI (fun _ j => 0 < j) fun i j => .int (i % j)) (tOp (rI0 fun i j => .int (i + j)) (tVar 3) (tOp (rIxL K) (tVar 0) (tC (.int 2)))) (tC (.int 2147483629))) (tC (.int 7))) (gSub (tVar 0) (tC (.int 1)) rSetL))
  (tRet (tOp (rI (fun _ j => 0 < j) fun i j => .int (i % j)) (tOp (rI CDiv fun i j => .int (i / j)) (tOp (rIxL K) (tVar 0) (tC (.int 1))) (tC (.int 97))) (tVar 1)))))
set_option maxHeartbeats 1000000 in
theorem okDigit {P : Program} {w : World} {K : PySem.W.Frag} {mg : Str → Option Value} {base : Heap} {f : Addr} {fd : FuncData} (F : Fun K "_law_digit" "_law_digit" sDigit f fd) (hlen : ∀ es m Po, fDigit es m Po → es.length = 2) (hb : ∀ (C : Fx) es m Po, fDigit es m Po → Sx C (es.map some ++ List.replicate (4 - es.length) none) m (tDigit C.K) { nx := fun _ m' => ∃ m2, m2.Sublist m' ∧ Po .non m2, rt := fun d m' => ∃ m2, m2.Sublist m' ∧ Po d m2 }) : FnOk P w K mg base CX0 1 f fd ["_law_state_here", "_law_base"] (spOf K fDigit) := by
  refine F.ok (k := 0) scDigit (sp_len hlen) (fun cdv A outer st H vs Q E hr h => ⟨tDigit K, ?_, fn_enter (N := ["_law_state_here", "_law_base", "_law_found", "_law_more"]) h fun C es m Po hK hF => by subst hK; exact hb C es m Po hF⟩)
  unfold tDigit
  exact pss_cons (ps_if (pt_cmpR op_gt (pe_ix ix_list (pv 0) (pe_int) (fun _ _ => rfl)) (pe_int) (nomark _))
    (pss_cons (ps_set (i := 2) scDigit.nd rfl (Or.inl rfl) (pe_op op_mod (pe_ix ix_list (pv 0) (pe_int) (fun _ _ => rfl)) (pv 1)))
    (pss_cons (ps_asg (pe_op op_fdiv (pe_ix ix_list (pv 0) (pe_int) (fun _ _ => rfl)) (pv 1)) (pg_sub (pv 0) (pe_int) set_list))
    (pss_one (ps_ret (pv 2))))) (pss_nil))
    (pss_cons (ps_set (i := 3) scDigit.nd rfl (Or.inl rfl) (pe_op op_mul (pe_ix ix_list (pv 0) (pe_int) (fun _ _ => rfl)) (pe_op op_add (pe_op op_fdiv (pe_ix ix_list (pv 0) (pe_int) (fun _ _ => rfl)) (pe_int)) (pe_int))))
    (pss_cons (ps_asg (pe_op op_add (pe_op op_mod (pe_op op_add (pv 3) (pe_ix ix_list (pv 0) (pe_int) (fun _ _ => rfl))) (pe_int)) (pe_int)) (pg_sub (pv 0) (pe_int) set_list))
    (pss_one (ps_ret (pe_op op_mod (pe_op op_fdiv (pe_ix ix_list (pv 0) (pe_int) (fun _ _ => rfl)) (pe_int)) (pv 1))))))
/-! ### _law_name -/
abbrev sName : Stmt := topS 17
theorem scName : FnScope ["_law_s", "_law_taken", "_law_some", "_law_kind", "_law_stem", "_law_k", "_law_words", "_law_found", "_law_n"] ["_law_s", "_law_taken"] (defScope sName) := ⟨rfl, rfl, rfl, by decide +kernel, rfl, by decide +kernel, by decide +kernel⟩
def tName (K : PySem.W.Frag) : TS :=
  tSeq (tAsg (tC (.str "abcdefghijklmnopqrstuvwxyz0123456789")) (gName 2))
  (tSeq (tAsg (tCall (spOf K fDigit) [] E0 (tCons (tVar 0) (tCons (tC (.int 7)) (tNil)))) (gName 3))
  (tSeq (tAsg (tOp (rIxS) (tVar 2) (tCall (spOf K fDigit) [] E0 (tCons (tVar 0) (tCons (tC (.int 26)) (tNil))))) (gName 4))
  (tSeq (tFor (iRng1 (tCons (tCall (spOf K fDigit) [] E0 (tCons (tVar 0) (tCons (tC (.int 4)) (tNil)))) (tNil))) (gName 5)
  (tAsg (tOp (rCatStr) (tVar 4) (tOp (rIxS) (tVar 2) (tCall (spOf K fDigit) [] E0 (tCons (tVar 0) (tCons (tC (.int 36)) (tNil)))))) (gName 4)))
  (tSeq (tIfS (tTest (tOp (rEq) (tVar 3) (tC (.int 6))))
  (tSeq (tAsg (tLst (tCons (tC (.str "hold")) (tCons (tC (.str "either")) (tCons (tC (.str "or")) (tCons (tC (.str "rounds")) (tCons (tC (.str "call")) (tCons (tC (.str "mark")) (tCons (tC (.str "stop")) (tCons (tC (.str "sort")) (tCons (tC (.str "part")) (tCons (tC (.str "none")) (tCons (tC (.str "rings")) (tNil))))))))))))) (gName 6))
  (tAsg (tOp (rIxL K) (tVar 6) (tCall (spOf K fDigit) [] E0 (tCons (tVar 0) (tCons (tC (.int 11)) (tNil))))) (gName 4))) (tNext))
  (tSeq (tAsg (tVar 4) (gName 7))
  (tSeq (tAsg (tC (.int 0)) (gName 8))
  (tSeq (tWhile (tTest (tOp (rIn K false) (tVar 7) (tVar 1)))
  (tSeq (tAsg (tOp (rI0 fun i j => .int (i + j)) (tVar 8) (tC (.int 1))) (gName 8))
  (tAsg (tOp (rCatStr) (tVar 4) (tCB (rStrInt) (tCons (tVar 8) (tNil)))) (gName 7))))
  (tRet (tVar 7)))))))))
set_option maxHeartbeats 1000000 in
theorem okName {P : Program} {w : World} {K : PySem.W.Frag} {mg : Str → Option Value} {base : Heap} {f : Addr} {fd : FuncData} (F : Fun K "_law_name" "_law_name" sName f fd) (h_Digit : Cal P w K mg base 1 "_law_digit" ["_law_state_here", "_law_base"] (spOf K fDigit)) (b_range : mg "range" = none) (b_str : mg "str" = none) (hlen : ∀ es m Po, fName es m Po → es.length = 2) (hb : ∀ (C : Fx) es m Po, fName es m Po → Sx C (es.map some ++ List.replicate (9 - es.length) none) m (tName C.K) { nx := fun _ m' => ∃ m2, m2.Sublist m' ∧ Po .non m2, rt := fun d m' => ∃ m2, m2.Sublist m' ∧ Po d m2 }) : FnOk P w K mg base CX0 2 f fd ["_law_s", "_law_taken"] (spOf K fName) := by
  refine F.ok (k := 1) scName (sp_len hlen) (fun cdv A outer st H vs Q E hr h => ⟨tName K, ?_, fn_enter (N := ["_law_s", "_law_taken", "_law_some", "_law_kind", "_law_stem", "_law_k", "_law_words", "_law_found", "_law_n"]) h fun C es m Po hK hF => by subst hK; exact hb C es m Po hF⟩)
  unfold tName
  exact pss_cons (ps_set (i := 2) scName.nd rfl (Or.inl rfl) (pe_str))
    (pss_cons (ps_set (i := 3) scName.nd rfl (Or.inl rfl) (pe_fn h_Digit (hr) (by rfl) (pa_cons (pv 0) (pa_cons (pe_int) (pa_nil)))))
    (pss_cons (ps_set (i := 4) scName.nd rfl (Or.inl rfl) (pe_ix ix_str (pv 2) (pe_fn h_Digit (hr) (by rfl) (pa_cons (pv 0) (pa_cons (pe_int) (pa_nil)))) (fun _ _ => rfl)))
    (pss_cons (ps_for PassesOwn.never rfl (pi_range1 (by rfl) b_range (pa_cons (pe_fn h_Digit (hr) (by rfl) (pa_cons (pv 0) (pa_cons (pe_int) (pa_nil)))) (pa_nil))) (pg_name (i := 5) scName.nd rfl (Or.inl rfl))
    (pss_one (ps_set (i := 4) scName.nd rfl (Or.inl rfl) (pe_op op_catStr (pv 4) (pe_ix ix_str (pv 2) (pe_fn h_Digit (hr) (by rfl) (pa_cons (pv 0) (pa_cons (pe_int) (pa_nil)))) (fun _ _ => rfl))))))
    (pss_cons (ps_if (pt_cmpR op_eq (pv 3) (pe_int) (nomark _))
    (pss_cons (ps_set (i := 6) scName.nd rfl (Or.inl rfl) (pe_lst (pa_cons (pe_str) (pa_cons (pe_str) (pa_cons (pe_str) (pa_cons (pe_str) (pa_cons (pe_str) (pa_cons (pe_str) (pa_cons (pe_str) (pa_cons (pe_str) (pa_cons (pe_str) (pa_cons (pe_str) (pa_cons (pe_str) (pa_nil))))))))))))))
    (pss_one (ps_set (i := 4) scName.nd rfl (Or.inl rfl) (pe_ix ix_list (pv 6) (pe_fn h_Digit (hr) (by rfl) (pa_cons (pv 0) (pa_cons (pe_int) (pa_nil)))) (fun _ _ => rfl))))) (pss_nil))
    (pss_cons (ps_set (i := 7) scName.nd rfl (Or.inl rfl) (pv 4))
    (pss_cons (ps_set (i := 8) scName.nd rfl (Or.inl rfl) (pe_int))
    (pss_cons (ps_while PassesOwn.never (pt_cmpR op_in_seq (pv 7) (pv 1) rfl)
    (pss_cons (ps_set (i := 8) scName.nd rfl (Or.inl rfl) (pe_op op_add (pv 8) (pe_int)))
    (pss_one (ps_set (i := 7) scName.nd rfl (Or.inl rfl) (pe_op op_catStr (pv 4) (pe_callTy call_strI (by rfl) b_str (by decide +kernel) (pa_cons (pv 8) (pa_nil))))))))
    (pss_one (ps_ret (pv 7))))))))))
/-! ### _law_names -/
abbrev sNames : Stmt := topS 18
theorem scNames : FnScope ["_law_s", "_law_many", "_law_found", "_law_k"] ["_law_s", "_law_many"] (defScope sNames) := ⟨rfl, rfl, rfl, by decide +kernel, rfl, by decide +kernel, by decide +kernel⟩
def tNames (K : PySem.W.Frag) : TS :=
  tSeq (tAsg (tLst (tNil)) (gName 2))
  (tSeq (tFor (iRng1 (tCons (tVar 1) (tNil))) (gName 3)
  (tDrop (tBM K "list" rAppend (tVar 2) (tCons (tCall (spOf K fName) [] E0 (tCons (tVar 0) (tCons (tVar 2) (tNil)))) (tNil)))))
  (tRet (tVar 2)))
set_option maxHeartbeats 1000000 in
theorem okNames {P : Program} {w : World} {K : PySem.W.Frag} {mg : Str → Option Value} {base : Heap} {f : Addr} {fd : FuncData} (F : Fun K "_law_names" "_law_names" sNames f fd) (h_Name : Cal P w K mg base 2 "_law_name" ["_law_s", "_law_taken"] (spOf K fName)) (b_range : mg "range" = none) (hlen : ∀ es m Po, fNames es m Po → es.length = 2) (hb : ∀ (C : Fx) es m Po, fNames es m Po → Sx C (es.map some ++ List.replicate (4 - es.length) none) m (tNames C.K) { nx := fun _ m' => ∃ m2, m2.Sublist m' ∧ Po .non m2, rt := fun d m' => ∃ m2, m2.Sublist m' ∧ Po d m2 }) : FnOk P w K mg base CX0 3 f fd ["_law_s", "_law_many"] (spOf K fNames) := by
  refine F.ok (k := 2) scNames (sp_len hlen) (fun cdv A outer st H vs Q E hr h => ⟨tNames K, ?_, fn_enter (N := ["_law_s", "_law_many", "_law_found", "_law_k"]) h fun C es m Po hK hF => by subst hK; exact hb C es m Po hF⟩)
  unfold tNames
  exact pss_cons (ps_set (i := 2) scNames.nd rfl (Or.inl rfl) (pe_lst (pa_nil)))
    (pss_cons (ps_for PassesOwn.never rfl (pi_range1 (by rfl) b_range (pa_cons (pv 1) (pa_nil))) (pg_name (i := 3) scNames.nd rfl (Or.inl rfl))
    (pss_one (ps_expr (pe_bm PySem.F.plainAttrs_list PySem.F.slot_list_append PySem.F.type_list_append mt_append (pv 2) (pa_cons (pe_fn h_Name (hr) (by rfl) (pa_cons (pv 0) (pa_cons (pv 2) (pa_nil)))) (pa_nil))))))
    (pss_one (ps_ret (pv 2))))
/-! ### _law_is_number -/
abbrev sIsNumber : Stmt := topS 19
theorem scIsNumber : FnScope ["_law_text", "_law_sign"] ["_law_text"] (defScope sIsNumber) := ⟨rfl, rfl, rfl, by decide +kernel, rfl, by decide +kernel, by decide +kernel⟩
def tIsNumber (K : PySem.W.Frag) : TS :=
  tSeq (tIfS (tOr (tNot (tTest (tChain (rI0 fun i j => .bl (decide (i ≤ j))) (rI0 fun i j => .bl (decide (i ≤ j))) (tC (.int 1)) (tCB (rLenStr) (tCons (tVar 0) (tNil))) (tC (.int 9))))) (tTest (tOp (rNeD K) (tLc (iStr (tVar 0)) (gName 1) (tTest (tOp (rNotInSign) (tVar 1) (tC (.str "0123456789")))) (tVar 1) [1]) (tLst (tNil)))))
  (tRet (tC (.bl false))) (tNext))
  (tRet (tOrV (tOp (rEq) (tVar 0) (tC (.str "0"))) (tOp (rNe) (tOp (rIxS) (tVar 0) (tC (.int 0))) (tC (.str "0")))))
set_option maxHeartbeats 1000000 in
theorem okIsNumber {P : Program} {w : World} {K : PySem.W.Frag} {mg : Str → Option Value} {base : Heap} {f : Addr} {fd : FuncData} (F : Fun K "_law_is_number" "_law_is_number" sIsNumber f fd) (b_len : mg "len" = none) (hlen : ∀ es m Po, fIsNumber es m Po → es.length = 1) (hb : ∀ (C : Fx) es m Po, fIsNumber es m Po → Sx C (es.map some ++ List.replicate (2 - es.length) none) m (tIsNumber C.K) { nx := fun _ m' => ∃ m2, m2.Sublist m' ∧ Po .non m2, rt := fun d m' => ∃ m2, m2.Sublist m' ∧ Po d m2 }) : FnOk P w K mg base CX0 1 f fd ["_law_text"] (spOf K fIsNumber) := by
  refine F.ok (k := 0) scIsNumber (sp_len hlen) (fun cdv A outer st H vs Q E hr h => ⟨tIsNumber K, ?_, fn_enter (N := ["_law_text", "_law_sign"]) h fun C es m Po hK hF => by subst hK; exact hb C es m Po hF⟩)
  unfold tIsNumber
  exact pss_cons (ps_if (PW.pt (pw_or (pt_not (pt_chain op_le op_le (pe_int) (pe_callB call_lenStr (by rfl) b_len (by decide +kernel) (pa_cons (pv 0) (pa_nil))) (pe_int))) (pw_or1 (pt_cmpR (op_neD hr.units) (pe_lc (own := [("_law_sign", 1)]) rfl scIsNumber.nd (pi_str (pv 0)) (blkOk_by (own := [("_law_sign", 1)]) (N := ["_law_text", "_law_sign"]) (sc := defScope sIsNumber) (by decide +kernel)) (fun _ _ _ _ _ => pg_name (i := 1) scIsNumber.nd rfl (Or.inl rfl)) (fun _ _ _ _ _ => pts_one (pt_cmpR op_notInSign (pv 1) (pe_str) rfl)) (fun _ _ _ _ _ => pv 1)) (pe_lst (pa_nil)) (nomark _)))))
    (pss_one (ps_ret (pe_bl))) (pss_nil))
    (pss_one (ps_ret (pe_or (pe_cmpR op_eq (pv 0) (pe_str) (nomark _)) (pe_one (pe_cmpR op_ne (pe_ix ix_str (pv 0) (pe_int) (fun _ _ => rfl)) (pe_str) (nomark _))))))
/-! ### _law_changed -/
abbrev sChanged : Stmt := topS 22
theorem scChanged : FnScope ["_law_s", "_law_text", "_law_kind", "_law_parts", "_law_at", "_law_some", "_law_part", "_law_place", "_law_sign"] ["_law_s", "_law_text"] (defScope sChanged) := ⟨rfl, rfl, rfl, by decide +kernel, rfl, by decide +kernel, by decide +kernel⟩
def tChanged (K : PySem.W.Frag) : TS :=
  tSeq (tAsg (tCall (spOf K fDigit) [] E0 (tCons (tVar 0) (tCons (tC (.int 6)) (tNil)))) (gName 2))
  (tSeq (tAsg (tM1 rSplit (tVar 1) (tC (.str " "))) (gName 3))
  (tSeq (tAsg (tCall (spOf K fDigit) [] E0 (tCons (tVar 0) (tCons (tCB (rLenSeq K) (tCons (tVar 3) (tNil))) (tNil)))) (gName 4))
  (tSeq (tAsg (tLst (tCons (tC (.str "0.0")) (tCons (tC (.str "00.1")) (tCons (tC (.str "1.01")) (tCons (tC (.str "7")) (tCons (tC (.str "a.b")) (tCons (tC (.str "")) (tCons (tC (.str "none")) (tCons (tC (.str ".")) (tCons (tC (.str "a.")) (tCons (tC (.str ".1")) (tCons (tC (.str "1.2.3")) (tCons (tOp (rCatStr) (tOp (rMulStr) (tC (.str "9")) (tC (.int 9))) (tC (.str ".0"))) (tCons (tC (.str "-1.0")) (tNil))))))))))))))) (gName 5))
  (tSeq (tAsg (tOp (rCatL K) (tVar 5) (tLst (tCons (tOp (rCatStr) (tC (.str "0.")) (tOp (rMulStr) (tC (.str "9")) (tC (.int 10)))) (tCons (tOp (rCatStr) (tC (.str "1.")) (tOp (rMulStr) (tC (.str "7")) (tC (.int 5000)))) (tCons (tC (.str "0.1")) (tCons (tC (.str "A.b c")) (tCons (tC (.str "x..y")) (tNil)))))))) (gName 5))
  (tSeq (tAsg (tOp (rIxL K) (tVar 5) (tCall (spOf K fDigit) [] E0 (tCons (tVar 0) (tCons (tCB (rLenSeq K) (tCons (tVar 5) (tNil))) (tNil))))) (gName 6))
  (tSeq (tIfS (tTest (tOp (rEq) (tVar 2) (tC (.int 0))))
  (tRet (tM1 (rJoin K) (tC (.str " ")) (tOp (rCatL K) (tSl (rSlL K) (tVar 3) tNoPart (tPart (tVar 4))) (tSl (rSlL K) (tVar 3) (tPart (tOp (rI0 fun i j => .int (i + j)) (tVar 4) (tC (.int 1)))) tNoPart)))) (tNext))
  (tSeq (tIfS (tTest (tOp (rEq) (tVar 2) (tC (.int 1))))
  (tRet (tM1 (rJoin K) (tC (.str " ")) (tOp (rCatL K) (tSl (rSlL K) (tVar 3) tNoPart (tPart (tOp (rI0 fun i j => .int (i + j)) (tVar 4) (tC (.int 1))))) (tSl (rSlL K) (tVar 3) (tPart (tVar 4)) tNoPart)))) (tNext))
  (tSeq (tIfS (tTest (tOp (rEq) (tVar 2) (tC (.int 2))))
  (tSeq (tAsg (tCall (spOf K fDigit) [] E0 (tCons (tVar 0) (tCons (tOp (rI0 fun i j => .int (i + j)) (tCB (rLenStr) (tCons (tVar 1) (tNil))) (tC (.int 1))) (tNil)))) (gName 7))
  (tSeq (tAsg (tOp (rIxL K) (tLst (tCons (tC (.str "")) (tCons (tC (.str " ")) (tCons (tC (.str ".")) (tCons (tC (.str "0")) (tCons (tC (.str "a")) (tNil))))))) (tCall (spOf K fDigit) [] E0 (tCons (tVar 0) (tCons (tC (.int 5)) (tNil))))) (gName 8))
  (tRet (tOp (rCatStr) (tOp (rCatStr) (tSl (rSlS) (tVar 1) tNoPart (tPart (tVar 7))) (tVar 8)) (tSl (rSlS) (tVar 1) (tPart (tOp (rI0 fun i j => .int (i + j)) (tVar 7) (tCB (rInt1) (tCons (tOp (rEq) (tVar 8) (tC (.str ""))) (tNil))))) tNoPart))))) (tNext))
  (tRet (tM1 (rJoin K) (tC (.str " ")) (tOp (rCatL K) (tOp (rCatL K) (tSl (rSlL K) (tVar 3) tNoPart (tPart (tVar 4))) (tLst (tCons (tVar 6) (tNil)))) (tSl (rSlL K) (tVar 3) (tPart (tOp (rI0 fun i j => .int (i + j)) (tVar 4) (tOp (rI (fun _ j => 0 < j) fun i j => .int (i % j)) (tVar 2) (tC (.int 2))))) tNoPart))))))))))))
set_option maxHeartbeats 1000000 in
theorem okChanged {P : Program} {w : World} {K : PySem.W.Frag} {mg : Str → Option Value} {base : Heap} {f : Addr} {fd : FuncData} (F : Fun K "_law_changed" "_law_changed" sChanged f fd) (h_Digit : Cal P w K mg base 1 "_law_digit" ["_law_state_here", "_law_base"] (spOf K fDigit)) (b_len : mg "len" = none) (b_int : mg "int" = none) (hlen : ∀ es m Po, fChanged es m Po → es.length = 2) (hb : ∀ (C : Fx) es m Po, fChanged es m Po → Sx C (es.map some ++ List.replicate (9 - es.length) none) m (tChanged C.K) { nx := fun _ m' => ∃ m2, m2.Sublist m' ∧ Po .non m2, rt := fun d m' => ∃ m2, m2.Sublist m' ∧ Po d m2 }) : FnOk P w K mg base CX0 2 f fd ["_law_s", "_law_text"] (spOf K fChanged) := by
  refine F.ok (k := 1) scChanged (sp_len hlen) (fun cdv A outer st H vs Q E hr h => ⟨tChanged K, ?_, fn_enter (N := ["_law_s", "_law_text", "_law_kind", "_law_parts", "_law_at", "_law_some", "_law_part", "_law_place", "_law_sign"]) h fun C es m Po hK hF => by subst hK; exact hb C es m Po hF⟩)
  unfold tChanged
  exact pss_cons (ps_set (i := 2) scChanged.nd rfl (Or.inl rfl) (pe_fn h_Digit (hr) (by rfl) (pa_cons (pv 0) (pa_cons (pe_int) (pa_nil)))))
    (pss_cons (ps_set (i := 3) scChanged.nd rfl (Or.inl rfl) (pe_splitS (pv 1) (pe_str)))
    (pss_cons (ps_set (i := 4) scChanged.nd rfl (Or.inl rfl) (pe_fn h_Digit (hr) (by rfl) (pa_cons (pv 0) (pa_cons (pe_callB call_lenSeq (by rfl) b_len (by decide +kernel) (pa_cons (pv 3) (pa_nil))) (pa_nil)))))
    (pss_cons (ps_set (i := 5) scChanged.nd rfl (Or.inl rfl) (pe_lst (pa_cons (pe_str) (pa_cons (pe_str) (pa_cons (pe_str) (pa_cons (pe_str) (pa_cons (pe_str) (pa_cons (pe_str) (pa_cons (pe_str) (pa_cons (pe_str) (pa_cons (pe_str) (pa_cons (pe_str) (pa_cons (pe_str) (pa_cons (pe_op op_catStr (pe_op op_mulStr (pe_str) (pe_int)) (pe_str)) (pa_cons (pe_str) (pa_nil))))))))))))))))
    (pss_cons (ps_set (i := 5) scChanged.nd rfl (Or.inl rfl) (pe_op op_catL (pv 5) (pe_lst (pa_cons (pe_op op_catStr (pe_str) (pe_op op_mulStr (pe_str) (pe_int))) (pa_cons (pe_op op_catStr (pe_str) (pe_op op_mulStr (pe_str) (pe_int))) (pa_cons (pe_str) (pa_cons (pe_str) (pa_cons (pe_str) (pa_nil)))))))))
    (pss_cons (ps_set (i := 6) scChanged.nd rfl (Or.inl rfl) (pe_ix ix_list (pv 5) (pe_fn h_Digit (hr) (by rfl) (pa_cons (pv 0) (pa_cons (pe_callB call_lenSeq (by rfl) b_len (by decide +kernel) (pa_cons (pv 5) (pa_nil))) (pa_nil)))) (fun _ _ => rfl)))
    (pss_cons (ps_if (pt_cmpR op_eq (pv 2) (pe_int) (nomark _))
    (pss_one (ps_ret (pe_joinS (pe_str) (pe_op op_catL (pe_slice sl_list (pv 3) po_none (po_some (pv 4))) (pe_slice sl_list (pv 3) (po_some (pe_op op_add (pv 4) (pe_int))) po_none))))) (pss_nil))
    (pss_cons (ps_if (pt_cmpR op_eq (pv 2) (pe_int) (nomark _))
    (pss_one (ps_ret (pe_joinS (pe_str) (pe_op op_catL (pe_slice sl_list (pv 3) po_none (po_some (pe_op op_add (pv 4) (pe_int)))) (pe_slice sl_list (pv 3) (po_some (pv 4)) po_none))))) (pss_nil))
    (pss_cons (ps_if (pt_cmpR op_eq (pv 2) (pe_int) (nomark _))
    (pss_cons (ps_set (i := 7) scChanged.nd rfl (Or.inl rfl) (pe_fn h_Digit (hr) (by rfl) (pa_cons (pv 0) (pa_cons (pe_op op_add (pe_callB call_lenStr (by rfl) b_len (by decide +kernel) (pa_cons (pv 1) (pa_nil))) (pe_int)) (pa_nil)))))
    (pss_cons (ps_set (i := 8) scChanged.nd rfl (Or.inl rfl) (pe_ix ix_list (pe_lst (pa_cons (pe_str) (pa_cons (pe_str) (pa_cons (pe_str) (pa_cons (pe_str) (pa_cons (pe_str) (pa_nil))))))) (pe_fn h_Digit (hr) (by rfl) (pa_cons (pv 0) (pa_cons (pe_int) (pa_nil)))) (fun _ _ => rfl)))
    (pss_one (ps_ret (pe_op op_catStr (pe_op op_catStr (pe_slice sl_str (pv 1) po_none (po_some (pv 7))) (pv 8)) (pe_slice sl_str (pv 1) (po_some (pe_op op_add (pv 7) (pe_callTy call_intI (by rfl) b_int (by decide +kernel) (pa_cons (pe_cmpR op_eq (pv 8) (pe_str) (nomark _)) (pa_nil))))) po_none)))))) (pss_nil))
    (pss_one (ps_ret (pe_joinS (pe_str) (pe_op op_catL (pe_op op_catL (pe_slice sl_list (pv 3) po_none (po_some (pv 4))) (pe_lst (pa_cons (pv 6) (pa_nil)))) (pe_slice sl_list (pv 3) (po_some (pe_op op_add (pv 4) (pe_op op_mod (pv 2) (pe_int)))) po_none)))))))))))))
/-! ### _law_due -/
abbrev sDue : Stmt := topS 20
theorem scDue : FnScope ["_law_text", "_law_of_moves", "_law_found", "_law_place", "_law_part", "_law_pair", "_law_hand", "_law_step"] ["_law_text", "_law_of_moves"] (defScope sDue) := ⟨rfl, rfl, rfl, by decide +kernel, rfl, by decide +kernel, by decide +kernel⟩
def tDue (K : PySem.W.Frag) : TS :=
  tSeq (tIfS (tAnd (tB (tVar 1)) (tTest (tOp (rEq) (tVar 0) (tC (.str "none")))))
  (tRet (tLst (tNil))) (tNext))
  (tSeq (tAsg (tLst (tNil)) (gName 2))
  (tSeq (tFor (iEnum K (tCons (tM1 rSplit (tVar 0) (tC (.str " "))) (tNil))) (gTup K 2 (gCons (gName 3) (gCons (gName 4) (gNil))))
  (tSeq (tAsg (tM1 rSplit (tVar 4) (tC (.str "."))) (gName 5))
  (tSeq (tIfS (tOr (tTest (tOp (rNe) (tCB (rLenSeq K) (tCons (tVar 5) (tNil))) (tC (.int 2)))) (tTest (tOp (rIn K false) (tC (.str "")) (tVar 5))))
  (tRet (tTup (tCons (tC (.str "row")) (tCons (tC (.int 0)) (tCons (tVar 3) (tNil)))))) (tNext))
  (tSeq (tIfS (tAnd (tB (tVar 1)) (tNot (tAnd (tB (tCall (spOf K fIsNumber) [] E0 (tCons (tOp (rIxL K) (tVar 5) (tC (.int 0))) (tNil)))) (tB (tCall (spOf K fIsNumber) [] E0 (tCons (tOp (rIxL K) (tVar 5) (tC (.int 1))) (tNil)))))))
  (tRet (tTup (tCons (tC (.str "row")) (tCons (tC (.int 0)) (tCons (tVar 3) (tNil)))))) (tNext))
  (tDrop (tBM K "list" rAppend (tVar 2) (tCons (tTup (tCons (tOp (rIxL K) (tVar 5) (tC (.int 0))) (tCons (tOp (rIxL K) (tVar 5) (tC (.int 1))) (tNil)))) (tNil))))))))
  (tSeq (tIfS (tB (tVar 1))
  (tRet (tLc (iList K (tVar 2)) (gTup K 2 (gCons (gName 6) (gCons (gName 7) (gNil)))) (tYes) (tTup (tCons (tCB (rIntStr) (tCons (tVar 6) (tNil))) (tCons (tCB (rIntStr) (tCons (tVar 7) (tNil))) (tNil)))) [6, 7])) (tNext))
  (tRet (tVar 2)))))
set_option maxHeartbeats 1000000 in
theorem okDue {P : Program} {w : World} {K : PySem.W.Frag} {mg : Str → Option Value} {base : Heap} {f : Addr} {fd : FuncData} (F : Fun K "_law_due" "_law_due" sDue f fd) (h_IsNumber : Cal P w K mg base 1 "_law_is_number" ["_law_text"] (spOf K fIsNumber)) (b_enumerate : mg "enumerate" = none) (b_len : mg "len" = none) (b_int : mg "int" = none) (hlen : ∀ es m Po, fDue es m Po → es.length = 2) (hb : ∀ (C : Fx) es m Po, fDue es m Po → Sx C (es.map some ++ List.replicate (8 - es.length) none) m (tDue C.K) { nx := fun _ m' => ∃ m2, m2.Sublist m' ∧ Po .non m2, rt := fun d m' => ∃ m2, m2.Sublist m' ∧ Po d m2 }) : FnOk P w K mg base CX0 2 f fd ["_law_text", "_law_of_moves"] (spOf K fDue) := by
  refine F.ok (k := 1) scDue (sp_len hlen) (fun cdv A outer st H vs Q E hr h => ⟨tDue K, ?_, fn_enter (N := ["_law_text", "_law_of_moves", "_law_found", "_law_place", "_law_part", "_law_pair", "_law_hand", "_law_step"]) h fun C es m Po hK hF => by subst hK; exact hb C es m Po hF⟩)
  unfold tDue
  exact pss_cons (ps_if (PW.pt (pw_and (pt_val (pv 1)) (pw_and1 (pt_cmpR op_eq (pv 0) (pe_str) (nomark _)))))
    (pss_one (ps_ret (pe_lst (pa_nil)))) (pss_nil))
    (pss_cons (ps_set (i := 2) scDue.nd rfl (Or.inl rfl) (pe_lst (pa_nil)))
    (pss_cons (ps_for PassesOwn.never rfl (pi_enum (by rfl) b_enumerate (pa_cons (pe_splitS (pv 0) (pe_str)) (pa_nil))) (pg_tup rfl (pgs_cons (pg_name (i := 3) scDue.nd rfl (Or.inl rfl)) (pgs_cons (pg_name (i := 4) scDue.nd rfl (Or.inl rfl)) (pgs_nil))))
    (pss_cons (ps_set (i := 5) scDue.nd rfl (Or.inl rfl) (pe_splitS (pv 4) (pe_str)))
    (pss_cons (ps_if (PW.pt (pw_or (pt_cmpR op_ne (pe_callB call_lenSeq (by rfl) b_len (by decide +kernel) (pa_cons (pv 5) (pa_nil))) (pe_int) (nomark _)) (pw_or1 (pt_cmpR op_in_seq (pe_str) (pv 5) rfl))))
    (pss_one (ps_ret (pe_tup (pa_cons (pe_str) (pa_cons (pe_int) (pa_cons (pv 3) (pa_nil))))))) (pss_nil))
    (pss_cons (ps_if (PW.pt (pw_and (pt_val (pv 1)) (pw_and1 (pt_not (PW.pt (pw_and (pt_val (pe_fn h_IsNumber (hr) (by rfl) (pa_cons (pe_ix ix_list (pv 5) (pe_int) (fun _ _ => rfl)) (pa_nil)))) (pw_and1 (pt_val (pe_fn h_IsNumber (hr) (by rfl) (pa_cons (pe_ix ix_list (pv 5) (pe_int) (fun _ _ => rfl)) (pa_nil)))))))))))
    (pss_one (ps_ret (pe_tup (pa_cons (pe_str) (pa_cons (pe_int) (pa_cons (pv 3) (pa_nil))))))) (pss_nil))
    (pss_one (ps_expr (pe_bm PySem.F.plainAttrs_list PySem.F.slot_list_append PySem.F.type_list_append mt_append (pv 2) (pa_cons (pe_tup (pa_cons (pe_ix ix_list (pv 5) (pe_int) (fun _ _ => rfl)) (pa_cons (pe_ix ix_list (pv 5) (pe_int) (fun _ _ => rfl)) (pa_nil)))) (pa_nil)))))))))
    (pss_cons (ps_if (pt_val (pv 1))
    (pss_one (ps_ret (pe_lc (own := [("_law_hand", 6), ("_law_step", 7)]) rfl scDue.nd (pi_list (pv 2)) (blkOk_by (own := [("_law_hand", 6), ("_law_step", 7)]) (N := ["_law_text", "_law_of_moves", "_law_found", "_law_place", "_law_part", "_law_pair", "_law_hand", "_law_step"]) (sc := defScope sDue) (by decide +kernel)) (fun _ _ _ _ _ => pg_tup rfl (pgs_cons (pg_name (i := 6) scDue.nd rfl (Or.inl rfl)) (pgs_cons (pg_name (i := 7) scDue.nd rfl (Or.inl rfl)) (pgs_nil)))) (fun _ _ _ _ _ => pts_nil) (fun _ _ _ _ _ => pe_tup (pa_cons (pe_callTy call_intS (by rfl) b_int (by decide +kernel) (pa_cons (pv 6) (pa_nil))) (pa_cons (pe_callTy call_intS (by rfl) b_int (by decide +kernel) (pa_cons (pv 7) (pa_nil))) (pa_nil))))))) (pss_nil))
    (pss_one (ps_ret (pv 2))))))
/-! ### moves_row -/
abbrev sMovesRow : Stmt := topS 8
theorem scMovesRow : FnScope ["moves", "hand", "step"] ["moves"] (defScope sMovesRow) := ⟨rfl, rfl, rfl, by decide +kernel, rfl, by decide +kernel, by decide +kernel⟩
def tMovesRow (K : PySem.W.Frag) : TS :=
  tRet (tM1 (rJoin K) (tC (.str " ")) (tOrT K (tLc (iSeq K (tVar 0)) (gTup K 2 (gCons (gName 1) (gCons (gName 2) (gNil)))) (tYes) (tJoined [tFmt (tVar 1), tC (.str "."), tFmt (tVar 2)]) [1, 2]) (tLst (tCons (tC (.str "none")) (tNil)))))
set_option maxHeartbeats 1000000 in
theorem okMovesRow {P : Program} {w : World} {K : PySem.W.Frag} {mg : Str → Option Value} {base : Heap} {f : Addr} {fd : FuncData} (F : Fun K "moves_row" "moves_row" sMovesRow f fd) (g_NONE : ∃ u, mg "NONE" = some u ∧ RelV (.str "none") u) (hlen : ∀ es m Po, fMovesRow es m Po → es.length = 1) (hb : ∀ (C : Fx) es m Po, fMovesRow es m Po → Sx C (es.map some ++ List.replicate (3 - es.length) none) m (tMovesRow C.K) { nx := fun _ m' => ∃ m2, m2.Sublist m' ∧ Po .non m2, rt := fun d m' => ∃ m2, m2.Sublist m' ∧ Po d m2 }) : FnOk P w K mg base CX0 1 f fd ["moves"] (spOf K fMovesRow) := by
  refine F.ok (k := 0) scMovesRow (sp_len hlen) (fun cdv A outer st H vs Q E hr h => ⟨tMovesRow K, ?_, fn_enter (N := ["moves", "hand", "step"]) h fun C es m Po hK hF => by subst hK; exact hb C es m Po hF⟩)
  unfold tMovesRow
  exact pss_one (ps_ret (pe_joinS (pe_str) (pe_orT (pe_lc (own := [("hand", 1), ("step", 2)]) rfl scMovesRow.nd (pi_seq (pv 0)) (blkOk_by (own := [("hand", 1), ("step", 2)]) (N := ["moves", "hand", "step"]) (sc := defScope sMovesRow) (by decide +kernel)) (fun _ _ _ _ _ => pg_tup rfl (pgs_cons (pg_name (i := 1) scMovesRow.nd rfl (Or.inl rfl)) (pgs_cons (pg_name (i := 2) scMovesRow.nd rfl (Or.inl rfl)) (pgs_nil)))) (fun _ _ _ _ _ => pts_nil) (fun _ _ _ _ _ => pe_fstr (PJ.cons (pe_fmt (pv 1)) (PJ.cons (pe_str) (PJ.cons (pe_fmt (pv 2)) (PJ.nil)))))) (pe_one (pe_lst (pa_cons (pe_gv rfl g_NONE) (pa_nil)))))))
/-! ### is_figures -/
abbrev sIsFigures : Stmt := topS 9
theorem scIsFigures : FnScope ["text", "sign"] ["text"] (defScope sIsFigures) := ⟨rfl, rfl, rfl, by decide +kernel, rfl, by decide +kernel, by decide +kernel⟩
def tIsFigures (K : PySem.W.Frag) : TS :=
  tSeq (tIfS (tOr (tNot (tTest (tChain (rI0 fun i j => .bl (decide (i ≤ j))) (rI0 fun i j => .bl (decide (i ≤ j))) (tC (.int 1)) (tCB (rLenStr) (tCons (tVar 0) (tNil))) (tC (.int 9))))) (tNot (tB (tCB (rAll K) (tCons (tLc (iStr (tVar 0)) (gName 1) (tYes) (tOp (rInSign) (tVar 1) (tC (.str "0123456789"))) [1]) (tNil))))))
  (tRet (tC (.bl false))) (tNext))
  (tRet (tOrV (tOp (rEq) (tVar 0) (tC (.str "0"))) (tOp (rNe) (tOp (rIxS) (tVar 0) (tC (.int 0))) (tC (.str "0")))))
set_option maxHeartbeats 1000000 in
theorem okIsFigures {P : Program} {w : World} {K : PySem.W.Frag} {mg : Str → Option Value} {base : Heap} {f : Addr} {fd : FuncData} (F : Fun K "is_figures" "is_figures" sIsFigures f fd) (b_len : mg "len" = none) (b_all : mg "all" = none) (g_MOST_FIGURES : ∃ u, mg "MOST_FIGURES" = some u ∧ RelV (.int 9) u) (g_FIGURES : ∃ u, mg "FIGURES" = some u ∧ RelV (.str "0123456789") u) (hlen : ∀ es m Po, fIsFigures es m Po → es.length = 1) (hb : ∀ (C : Fx) es m Po, fIsFigures es m Po → Sx C (es.map some ++ List.replicate (2 - es.length) none) m (tIsFigures C.K) { nx := fun _ m' => ∃ m2, m2.Sublist m' ∧ Po .non m2, rt := fun d m' => ∃ m2, m2.Sublist m' ∧ Po d m2 }) : FnOk P w K mg base CX0 1 f fd ["text"] (spOf K fIsFigures) := by
  refine F.ok (k := 0) scIsFigures (sp_len hlen) (fun cdv A outer st H vs Q E hr h => ⟨tIsFigures K, ?_, fn_enter (N := ["text", "sign"]) h fun C es m Po hK hF => by subst hK; exact hb C es m Po hF⟩)
  unfold tIsFigures
  exact pss_cons (ps_if (PW.pt (pw_or (pt_not (pt_chain op_le op_le (pe_int) (pe_callB call_lenStr (by rfl) b_len (by decide +kernel) (pa_cons (pv 0) (pa_nil))) (pe_gv rfl g_MOST_FIGURES))) (pw_or1 (pt_not (pt_val (pe_callB (cr_all rfl) (by rfl) b_all (by decide +kernel) (pa_cons (pe_lc (own := [("sign", 1)]) rfl scIsFigures.nd (pi_str (pv 0)) (blkOk_by (own := [("sign", 1)]) (N := ["text", "sign"]) (sc := defScope sIsFigures) (by decide +kernel)) (fun _ _ _ _ _ => pg_name (i := 1) scIsFigures.nd rfl (Or.inl rfl)) (fun _ _ _ _ _ => pts_nil) (fun _ _ _ _ _ => pe_cmpR op_inSign (pv 1) (pe_gv rfl g_FIGURES) rfl)) (pa_nil))))))))
    (pss_one (ps_ret (pe_bl))) (pss_nil))
    (pss_one (ps_ret (pe_or (pe_cmpR op_eq (pv 0) (pe_str) (nomark _)) (pe_one (pe_cmpR op_ne (pe_ix ix_str (pv 0) (pe_int) (fun _ _ => rfl)) (pe_str) (nomark _))))))
/-! ### pairs_in -/
abbrev sPairsIn : Stmt := topS 10
theorem scPairsIn : FnScope ["text", "place", "part"] ["text"] (defScope sPairsIn) := ⟨rfl, rfl, rfl, by decide +kernel, rfl, by decide +kernel, by decide +kernel⟩
def tPairsIn (K : PySem.W.Frag) : TS :=
  tRet (tLc (iEnum K (tCons (tM1 rSplit (tVar 0) (tC (.str " "))) (tNil))) (gTup K 2 (gCons (gName 1) (gCons (gName 2) (gNil)))) (tYes) (tTup (tCons (tVar 1) (tCons (tM1 rSplit (tVar 2) (tC (.str "."))) (tNil)))) [1, 2])
set_option maxHeartbeats 1000000 in
theorem okPairsIn {P : Program} {w : World} {K : PySem.W.Frag} {mg : Str → Option Value} {base : Heap} {f : Addr} {fd : FuncData} (F : Fun K "pairs_in" "pairs_in" sPairsIn f fd) (b_enumerate : mg "enumerate" = none) (hlen : ∀ es m Po, fPairsIn es m Po → es.length = 1) (hb : ∀ (C : Fx) es m Po, fPairsIn es m Po → Sx C (es.map some ++ List.replicate (3 - es.length) none) m (tPairsIn C.K) { nx := fun _ m' => ∃ m2, m2.Sublist m' ∧ Po .non m2, rt := fun d m' => ∃ m2, m2.Sublist m' ∧ Po d m2 }) : FnOk P w K mg base CX0 1 f fd ["text"] (spOf K fPairsIn) := by
  refine F.ok (k := 0) scPairsIn (sp_len hlen) (fun cdv A outer st H vs Q E hr h => ⟨tPairsIn K, ?_, fn_enter (N := ["text", "place", "part"]) h fun C es m Po hK hF => by subst hK; exact hb C es m Po hF⟩)
  unfold tPairsIn
  exact pss_one (ps_ret (pe_lc (own := [("place", 1), ("part", 2)]) rfl scPairsIn.nd (pi_enum (by rfl) b_enumerate (pa_cons (pe_splitS (pv 0) (pe_str)) (pa_nil))) (blkOk_by (own := [("place", 1), ("part", 2)]) (N := ["text", "place", "part"]) (sc := defScope sPairsIn) (by decide +kernel)) (fun _ _ _ _ _ => pg_tup rfl (pgs_cons (pg_name (i := 1) scPairsIn.nd rfl (Or.inl rfl)) (pgs_cons (pg_name (i := 2) scPairsIn.nd rfl (Or.inl rfl)) (pgs_nil)))) (fun _ _ _ _ _ => pts_nil) (fun _ _ _ _ _ => pe_tup (pa_cons (pv 1) (pa_cons (pe_splitS (pv 2) (pe_str)) (pa_nil))))))
/-! ### wishes_row -/
abbrev sWishesRow : Stmt := topS 12
theorem scWishesRow : FnScope ["wishes", "sort", "mark"] ["wishes"] (defScope sWishesRow) := ⟨rfl, rfl, rfl, by decide +kernel, rfl, by decide +kernel, by decide +kernel⟩
def tWishesRow (K : PySem.W.Frag) : TS :=
  tRet (tM1 (rJoin K) (tC (.str " ")) (tLc (iSeq K (tVar 0)) (gTup K 2 (gCons (gName 1) (gCons (gName 2) (gNil)))) (tYes) (tJoined [tFmt (tVar 1), tC (.str "."), tFmt (tVar 2)]) [1, 2]))
set_option maxHeartbeats 1000000 in
theorem okWishesRow {P : Program} {w : World} {K : PySem.W.Frag} {mg : Str → Option Value} {base : Heap} {f : Addr} {fd : FuncData} (F : Fun K "wishes_row" "wishes_row" sWishesRow f fd) (hlen : ∀ es m Po, fWishesRow es m Po → es.length = 1) (hb : ∀ (C : Fx) es m Po, fWishesRow es m Po → Sx C (es.map some ++ List.replicate (3 - es.length) none) m (tWishesRow C.K) { nx := fun _ m' => ∃ m2, m2.Sublist m' ∧ Po .non m2, rt := fun d m' => ∃ m2, m2.Sublist m' ∧ Po d m2 }) : FnOk P w K mg base CX0 1 f fd ["wishes"] (spOf K fWishesRow) := by
  refine F.ok (k := 0) scWishesRow (sp_len hlen) (fun cdv A outer st H vs Q E hr h => ⟨tWishesRow K, ?_, fn_enter (N := ["wishes", "sort", "mark"]) h fun C es m Po hK hF => by subst hK; exact hb C es m Po hF⟩)
  unfold tWishesRow
  exact pss_one (ps_ret (pe_joinS (pe_str) (pe_lc (own := [("sort", 1), ("mark", 2)]) rfl scWishesRow.nd (pi_seq (pv 0)) (blkOk_by (own := [("sort", 1), ("mark", 2)]) (N := ["wishes", "sort", "mark"]) (sc := defScope sWishesRow) (by decide +kernel)) (fun _ _ _ _ _ => pg_tup rfl (pgs_cons (pg_name (i := 1) scWishesRow.nd rfl (Or.inl rfl)) (pgs_cons (pg_name (i := 2) scWishesRow.nd rfl (Or.inl rfl)) (pgs_nil)))) (fun _ _ _ _ _ => pts_nil) (fun _ _ _ _ _ => pe_fstr (PJ.cons (pe_fmt (pv 1)) (PJ.cons (pe_str) (PJ.cons (pe_fmt (pv 2)) (PJ.nil))))))))
/-! ### read_moves -/
abbrev sReadMoves : Stmt := topS 11
theorem scReadMoves : FnScope ["text", "found", "place", "pair"] ["text"] (defScope sReadMoves) := ⟨rfl, rfl, rfl, by decide +kernel, rfl, by decide +kernel, by decide +kernel⟩
def tReadMoves (K : PySem.W.Frag) (c_BadRow : Addr) (E : XK) : TS :=
  tSeq (tIfS (tTest (tOp (rEq) (tVar 0) (tC (.str "none"))))
  (tRet (tLst (tNil))) (tNext))
  (tSeq (tAsg (tLst (tNil)) (gName 1))
  (tSeq (tFor (iList K (tCall (spOf K fPairsIn) [] E0 (tCons (tVar 0) (tNil)))) (gTup K 2 (gCons (gName 2) (gCons (gName 3) (gNil))))
  (tSeq (tIfS (tOr (tTest (tOp (rNe) (tCB (rLenSeq K) (tCons (tVar 3) (tNil))) (tC (.int 2)))) (tOr (tNot (tB (tCall (spOf K fIsFigures) [] E0 (tCons (tOp (rIxL K) (tVar 3) (tC (.int 0))) (tNil))))) (tNot (tB (tCall (spOf K fIsFigures) [] E0 (tCons (tOp (rIxL K) (tVar 3) (tC (.int 1))) (tNil)))))))
  (tRaiseO K c_BadRow ["row", "place"] E (tCons (tC (.int 0)) (tCons (tVar 2) (tNil)))) (tNext))
  (tDrop (tBM K "list" rAppend (tVar 1) (tCons (tTup (tCons (tCB (rIntStr) (tCons (tOp (rIxL K) (tVar 3) (tC (.int 0))) (tNil))) (tCons (tCB (rIntStr) (tCons (tOp (rIxL K) (tVar 3) (tC (.int 1))) (tNil))) (tNil)))) (tNil))))))
  (tRet (tVar 1))))
set_option maxHeartbeats 1000000 in
theorem okReadMoves {P : Program} {w : World} {K : PySem.W.Frag} {mg : Str → Option Value} {base : Heap} {f : Addr} {fd : FuncData} (F : Fun K "read_moves" "read_moves" sReadMoves f fd) {c_BadRow : Addr} (h_PairsIn : Cal P w K mg base 1 "pairs_in" ["text"] (spOf K fPairsIn)) (h_IsFigures : Cal P w K mg base 1 "is_figures" ["text"] (spOf K fIsFigures)) (x_BadRow : ExC P w K mg base 1 "BadRow" c_BadRow ["self", "row", "place"] ["row", "place"]) (b_len : mg "len" = none) (b_int : mg "int" = none) (g_NONE : ∃ u, mg "NONE" = some u ∧ RelV (.str "none") u) (hlen : ∀ es m Po Xp, (fReadMoves c_BadRow) es m Po Xp → es.length = 1) (hb : ∀ (C : Fx) es m Po Xp E, ExD C.K c_BadRow ["row", "place"] → (fReadMoves c_BadRow) es m Po Xp → XOkE C E (fun Cc ds m' => ∃ m2, m2.Sublist m' ∧ Xp Cc ds m2) → Sx C (es.map some ++ List.replicate (4 - es.length) none) m (tReadMoves C.K c_BadRow E) { nx := fun _ m' => ∃ m2, m2.Sublist m' ∧ Po .non m2, rt := fun d m' => ∃ m2, m2.Sublist m' ∧ Po d m2 }) : FnOk P w K mg base (L2.CX P w) 3 f fd ["text"] (spOfX K (fReadMoves c_BadRow)) := by
  refine F.okX (k := 2) scReadMoves (sp_lenX hlen) (fun cdv A outer st H vs Q E hr h => ⟨tReadMoves K c_BadRow E, ?_, fn_enterX (N := ["text", "found", "place", "pair"]) h fun C es m Po Xp hK hF hE => by subst hK; exact hb C es m Po Xp E x_BadRow.d hF hE⟩)
  unfold tReadMoves
  exact pss_cons (ps_if (pt_cmpR op_eq (pv 0) (pe_gv rfl g_NONE) (nomark _))
    (pss_one (ps_ret (pe_lst (pa_nil)))) (pss_nil))
    (pss_cons (ps_set (i := 1) scReadMoves.nd rfl (Or.inl rfl) (pe_lst (pa_nil)))
    (pss_cons (ps_for (passes_of rfl) rfl (pi_list (pe_fn h_PairsIn (hr.mono (by decide)) (by rfl) (pa_cons (pv 0) (pa_nil)))) (pg_tup rfl (pgs_cons (pg_name (i := 2) scReadMoves.nd rfl (Or.inl rfl)) (pgs_cons (pg_name (i := 3) scReadMoves.nd rfl (Or.inl rfl)) (pgs_nil))))
    (pss_cons (ps_if (PW.pt (pw_or (pt_cmpR op_ne (pe_callB call_lenSeq (by rfl) b_len (by decide +kernel) (pa_cons (pv 3) (pa_nil))) (pe_int) (nomark _)) (pw_or (pt_not (pt_val (pe_fn h_IsFigures (hr.mono (by decide)) (by rfl) (pa_cons (pe_ix ix_list (pv 3) (pe_int) (fun _ _ => rfl)) (pa_nil))))) (pw_or1 (pt_not (pt_val (pe_fn h_IsFigures (hr.mono (by decide)) (by rfl) (pa_cons (pe_ix ix_list (pv 3) (pe_int) (fun _ _ => rfl)) (pa_nil)))))))))
    (pss_one (ps_raiseE x_BadRow hr (by rfl) rfl (takes_of rfl rfl rfl rfl) (pa_cons (pe_int) (pa_cons (pv 2) (pa_nil))))) (pss_nil))
    (pss_one (ps_expr (pe_bm PySem.F.plainAttrs_list PySem.F.slot_list_append PySem.F.type_list_append mt_append (pv 1) (pa_cons (pe_tup (pa_cons (pe_callTy call_intS (by rfl) b_int (by decide +kernel) (pa_cons (pe_ix ix_list (pv 3) (pe_int) (fun _ _ => rfl)) (pa_nil))) (pa_cons (pe_callTy call_intS (by rfl) b_int (by decide +kernel) (pa_cons (pe_ix ix_list (pv 3) (pe_int) (fun _ _ => rfl)) (pa_nil))) (pa_nil)))) (pa_nil)))))))
    (pss_one (ps_ret (pv 1)))))
/-! ### read_wishes -/
abbrev sReadWishes : Stmt := topS 13
theorem scReadWishes : FnScope ["text", "found", "place", "pair"] ["text"] (defScope sReadWishes) := ⟨rfl, rfl, rfl, by decide +kernel, rfl, by decide +kernel, by decide +kernel⟩
def tReadWishes (K : PySem.W.Frag) (c_BadRow : Addr) (E : XK) : TS :=
  tSeq (tAsg (tLst (tNil)) (gName 1))
  (tSeq (tFor (iList K (tCall (spOf K fPairsIn) [] E0 (tCons (tVar 0) (tNil)))) (gTup K 2 (gCons (gName 2) (gCons (gName 3) (gNil))))
  (tSeq (tIfS (tOr (tTest (tOp (rNe) (tCB (rLenSeq K) (tCons (tVar 3) (tNil))) (tC (.int 2)))) (tTest (tOp (rIn K false) (tC (.str "")) (tVar 3))))
  (tRaiseO K c_BadRow ["row", "place"] E (tCons (tC (.int 0)) (tCons (tVar 2) (tNil)))) (tNext))
  (tDrop (tBM K "list" rAppend (tVar 1) (tCons (tTup (tCons (tOp (rIxL K) (tVar 3) (tC (.int 0))) (tCons (tOp (rIxL K) (tVar 3) (tC (.int 1))) (tNil)))) (tNil))))))
  (tRet (tVar 1)))
set_option maxHeartbeats 1000000 in
theorem okReadWishes {P : Program} {w : World} {K : PySem.W.Frag} {mg : Str → Option Value} {base : Heap} {f : Addr} {fd : FuncData} (F : Fun K "read_wishes" "read_wishes" sReadWishes f fd) {c_BadRow : Addr} (h_PairsIn : Cal P w K mg base 1 "pairs_in" ["text"] (spOf K fPairsIn)) (x_BadRow : ExC P w K mg base 1 "BadRow" c_BadRow ["self", "row", "place"] ["row", "place"]) (b_len : mg "len" = none) (hlen : ∀ es m Po Xp, (fReadWishes c_BadRow) es m Po Xp → es.length = 1) (hb : ∀ (C : Fx) es m Po Xp E, ExD C.K c_BadRow ["row", "place"] → (fReadWishes c_BadRow) es m Po Xp → XOkE C E (fun Cc ds m' => ∃ m2, m2.Sublist m' ∧ Xp Cc ds m2) → Sx C (es.map some ++ List.replicate (4 - es.length) none) m (tReadWishes C.K c_BadRow E) { nx := fun _ m' => ∃ m2, m2.Sublist m' ∧ Po .non m2, rt := fun d m' => ∃ m2, m2.Sublist m' ∧ Po d m2 }) : FnOk P w K mg base (L2.CX P w) 3 f fd ["text"] (spOfX K (fReadWishes c_BadRow)) := by
  refine F.okX (k := 2) scReadWishes (sp_lenX hlen) (fun cdv A outer st H vs Q E hr h => ⟨tReadWishes K c_BadRow E, ?_, fn_enterX (N := ["text", "found", "place", "pair"]) h fun C es m Po Xp hK hF hE => by subst hK; exact hb C es m Po Xp E x_BadRow.d hF hE⟩)
  unfold tReadWishes
  exact pss_cons (ps_set (i := 1) scReadWishes.nd rfl (Or.inl rfl) (pe_lst (pa_nil)))
    (pss_cons (ps_for (passes_of rfl) rfl (pi_list (pe_fn h_PairsIn (hr.mono (by decide)) (by rfl) (pa_cons (pv 0) (pa_nil)))) (pg_tup rfl (pgs_cons (pg_name (i := 2) scReadWishes.nd rfl (Or.inl rfl)) (pgs_cons (pg_name (i := 3) scReadWishes.nd rfl (Or.inl rfl)) (pgs_nil))))
    (pss_cons (ps_if (PW.pt (pw_or (pt_cmpR op_ne (pe_callB call_lenSeq (by rfl) b_len (by decide +kernel) (pa_cons (pv 3) (pa_nil))) (pe_int) (nomark _)) (pw_or1 (pt_cmpR op_in_seq (pe_str) (pv 3) rfl))))
    (pss_one (ps_raiseE x_BadRow hr (by rfl) rfl (takes_of rfl rfl rfl rfl) (pa_cons (pe_int) (pa_cons (pv 2) (pa_nil))))) (pss_nil))
    (pss_one (ps_expr (pe_bm PySem.F.plainAttrs_list PySem.F.slot_list_append PySem.F.type_list_append mt_append (pv 1) (pa_cons (pe_tup (pa_cons (pe_ix ix_list (pv 3) (pe_int) (fun _ _ => rfl)) (pa_cons (pe_ix ix_list (pv 3) (pe_int) (fun _ _ => rfl)) (pa_nil)))) (pa_nil)))))))
    (pss_one (ps_ret (pv 1))))
/-! ### _law_told -/
abbrev sTold : Stmt := topS 21
theorem scTold : FnScope ["_law_text", "_law_of_moves", "e"] ["_law_text", "_law_of_moves"] (defScope sTold) := ⟨rfl, rfl, rfl, by decide +kernel, rfl, by decide +kernel, by decide +kernel⟩
def tTold (K : PySem.W.Frag) (c_BadRow : Addr) : TS :=
  tTry K (.ref c_BadRow) 2 (fun W => tSeq (tIfS (tB (tVar 1))
  (tRet (tCallS (spOfX K (fReadMoves c_BadRow)) (WE W) (tCons (tVar 0) (tNil)))) (tNext))
  (tRet (tCallS (spOfX K (fReadWishes c_BadRow)) (WE W) (tCons (tVar 0) (tNil))))) (fun a cls d => tRet (tTup (tCons (tC (.str "row")) (tCons (tXf a cls d c_BadRow "row" (tVar 2)) (tCons (tXf a cls d c_BadRow "place" (tVar 2)) (tNil))))))
set_option maxHeartbeats 1000000 in
theorem okTold {P : Program} {w : World} {K : PySem.W.Frag} {mg : Str → Option Value} {base : Heap} {f : Addr} {fd : FuncData} (F : Fun K "_law_told" "_law_told" sTold f fd) {c_BadRow : Addr} (h_ReadMoves : CalX P w K mg base 3 "read_moves" ["text"] (spOfX K (fReadMoves c_BadRow))) (h_ReadWishes : CalX P w K mg base 3 "read_wishes" ["text"] (spOfX K (fReadWishes c_BadRow))) (x_BadRow : ExC P w K mg base 1 "BadRow" c_BadRow ["self", "row", "place"] ["row", "place"]) (hlen : ∀ es m Po, fTold es m Po → es.length = 2) (hb : ∀ (C : Fx) es m Po, ExD C.K c_BadRow ["row", "place"] → fTold es m Po → Sx C (es.map some ++ List.replicate (3 - es.length) none) m (tTold C.K c_BadRow) { nx := fun _ m' => ∃ m2, m2.Sublist m' ∧ Po .non m2, rt := fun d m' => ∃ m2, m2.Sublist m' ∧ Po d m2 }) : FnOk P w K mg base CX0 4 f fd ["_law_text", "_law_of_moves"] (spOf K fTold) := by
  refine F.ok (k := 3) scTold (sp_len hlen) (fun cdv A outer st H vs Q E hr h => ⟨tTold K c_BadRow, ?_, fn_enter (N := ["_law_text", "_law_of_moves", "e"]) h fun C es m Po hK hF => by subst hK; exact hb C es m Po x_BadRow.d hF⟩)
  unfold tTold
  exact pss_one (ps_tryE (i := 2) (tb := fun W => tSeq (tIfS (tB (tVar 1))
  (tRet (tCallS (spOfX K (fReadMoves c_BadRow)) (WE W) (tCons (tVar 0) (tNil)))) (tNext))
  (tRet (tCallS (spOfX K (fReadWishes c_BadRow)) (WE W) (tCons (tVar 0) (tNil))))) (ts := fun a cls d => tRet (tTup (tCons (tC (.str "row")) (tCons (tXf a cls d c_BadRow "row" (tVar 2)) (tCons (tXf a cls d c_BadRow "place" (tVar 2)) (tNil)))))) rfl rfl scTold.nd rfl rfl ⟨rfl, by decide, Or.inl x_BadRow.g⟩
    (fun W pn xe tk _ => pss_cons (ps_if (pt_val (pv 1))
    (pss_one (ps_ret (pe_fnS h_ReadMoves (hr) (by rfl) tk (pa_cons (pv 0) (pa_nil))))) (pss_nil))
    (pss_one (ps_ret (pe_fnS h_ReadWishes (hr) (by rfl) tk (pa_cons (pv 0) (pa_nil))))))
    (fun a oe cls d pn hz hf => pss_one (ps_ret (pe_tup (pa_cons (pe_str) (pa_cons (pe_xf x_BadRow.xf (x_BadRow.no "row" (by decide +kernel)) hz hf (pv 2)) (pa_cons (pe_xf x_BadRow.xf (x_BadRow.no "place" (by decide +kernel)) hz hf (pv 2)) (pa_nil))))))))
/-! ### law -/
abbrev sLaw : Stmt := topS 23
theorem scLaw : FnScope ["_law_script", "_law_number", "_law_s", "_law_many", "_law_most", "_law_moves", "_law_k", "_law_names_here", "_law_wishes", "_law_handed", "_law_texts", "_law_hand", "_law_step", "_law_sort", "_law_mark", "_law_text", "_law_due_here", "_law_of_moves", "_law_found"] ["_law_script"] (defScope sLaw) := ⟨rfl, rfl, rfl, by decide +kernel, rfl, by decide +kernel, by decide +kernel⟩
def tLaw (K : PySem.W.Frag) (c_BadRow : Addr) : TS :=
  tSeq (tFor (iList K (tSl (rSlL K) (tOp (rCatL K) (tVar 0) (tLst (tCons (tC (.int 0)) (tNil)))) tNoPart (tPart (tC (.int 12))))) (gName 1)
  (tSeq (tAsg (tCall (spOf K fState) [] E0 (tCons (tVar 1) (tNil))) (gName 2))
  (tSeq (tAsg (tCall (spOf K fDigit) [] E0 (tCons (tVar 2) (tCons (tC (.int 4)) (tNil)))) (gName 3))
  (tSeq (tAsg (tOp (rIxL K) (tLst (tCons (tC (.int 3)) (tCons (tC (.int 60)) (tCons (tOp (rI CPow fun i j => .int (i ^ j.toNat)) (tC (.int 10)) (tC (.int 9))) (tNil))))) (tCall (spOf K fDigit) [] E0 (tCons (tVar 2) (tCons (tC (.int 3)) (tNil))))) (gName 4))
  (tSeq (tAsg (tLc (iRng1 (tCons (tCall (spOf K fDigit) [] E0 (tCons (tVar 2) (tCons (tC (.int 9)) (tNil)))) (tNil))) (gName 6) (tYes) (tTup (tCons (tCall (spOf K fDigit) [] E0 (tCons (tVar 2) (tCons (tVar 4) (tNil)))) (tCons (tCall (spOf K fDigit) [] E0 (tCons (tVar 2) (tCons (tC (.int 3)) (tNil)))) (tNil)))) [6]) (gName 5))
  (tSeq (tAsg (tCall (spOf K fNames) [] E0 (tCons (tVar 2) (tCons (tC (.int 3)) (tNil)))) (gName 7))
  (tSeq (tAsg (tLc (iRng1 (tCons (tOp (rI0 fun i j => .int (i + j)) (tC (.int 1)) (tCall (spOf K fDigit) [] E0 (tCons (tVar 2) (tCons (tC (.int 4)) (tNil))))) (tNil))) (gName 6) (tYes) (tTup (tCons (tOp (rIxL K) (tVar 7) (tCall (spOf K fDigit) [] E0 (tCons (tVar 2) (tCons (tC (.int 3)) (tNil))))) (tCons (tOp (rIxL K) (tVar 7) (tCall (spOf K fDigit) [] E0 (tCons (tVar 2) (tCons (tC (.int 3)) (tNil))))) (tNil)))) [6]) (gName 8))
  (tSeq (tAsg (tTup (tCons (tCB (rListOf K) (tCons (tVar 5) (tNil))) (tCons (tCB (rListOf K) (tCons (tVar 8) (tNil))) (tNil)))) (gName 9))
  (tSeq (tAsg (tLst (tCons (tM1 (rJoin K) (tC (.str " ")) (tOrT K (tLc (iList K (tVar 5)) (gTup K 2 (gCons (gName 11) (gCons (gName 12) (gNil)))) (tYes) (tOp (rCatStr) (tOp (rCatStr) (tCB (rStrInt) (tCons (tVar 11) (tNil))) (tC (.str "."))) (tCB (rStrInt) (tCons (tVar 12) (tNil)))) [11, 12]) (tLst (tCons (tC (.str "none")) (tNil))))) (tNil))) (gName 10))
  (tSeq (tDrop (tBM K "list" rAppend (tVar 10) (tCons (tM1 (rJoin K) (tC (.str " ")) (tLc (iList K (tVar 8)) (gTup K 2 (gCons (gName 13) (gCons (gName 14) (gNil)))) (tYes) (tOp (rCatStr) (tOp (rCatStr) (tVar 13) (tC (.str "."))) (tVar 14)) [13, 14])) (tNil))))
  (tSeq (tIfS (tOr (tTest (tOp (rNeD K) (tLst (tCons (tCall (spOf K fMovesRow) [] E0 (tCons (tOp (rIxT K) (tVar 9) (tC (.int 0))) (tNil))) (tCons (tCall (spOf K fWishesRow) [] E0 (tCons (tOp (rIxT K) (tVar 9) (tC (.int 1))) (tNil))) (tNil)))) (tVar 10))) (tTest (tOp (rNeD K) (tVar 9) (tTup (tCons (tVar 5) (tCons (tVar 8) (tNil)))))))
  (tRet (tC (.bl false))) (tNext))
  (tSeq (tIfS (tTest (tOp (rNeD K) (tLst (tCons (tCall (spOf K fMovesRow) [] E0 (tCons (tCB (rTupOf K) (tCons (tVar 5) (tNil))) (tNil))) (tCons (tCall (spOf K fWishesRow) [] E0 (tCons (tCB (rTupOf K) (tCons (tVar 8) (tNil))) (tNil))) (tNil)))) (tVar 10)))
  (tRet (tC (.bl false))) (tNext))
  (tFor (iList K (tLst (tCons (tTup (tCons (tOp (rIxL K) (tVar 10) (tC (.int 0))) (tCons (tVar 5) (tCons (tC (.bl true)) (tNil))))) (tCons (tTup (tCons (tOp (rIxL K) (tVar 10) (tC (.int 1))) (tCons (tVar 8) (tCons (tC (.bl false)) (tNil))))) (tNil))))) (gTup K 3 (gCons (gName 15) (gCons (gName 16) (gCons (gName 17) (gNil)))))
  (tSeq (tAsg (tCall (spOf K fTold) [] E0 (tCons (tVar 15) (tCons (tVar 17) (tNil)))) (gName 18))
  (tSeq (tIfS (tOr (tNot (tB (tCB RZ.rIsTy (tCons (tVar 18) (tCons (tC (.ty "list")) tNil))))) (tTest (tOp (rNeD K) (tVar 18) (tVar 16))))
  (tRet (tC (.bl false))) (tNext))
  (tSeq (tDrop (tBM K "list" rAppend (tVar 18) (tCons (tC (.int 1)) (tNil))))
  (tSeq (tIfS (tTest (tOp (rNeD K) (tCall (spOf K fTold) [] E0 (tCons (tVar 15) (tCons (tVar 17) (tNil)))) (tVar 16)))
  (tRet (tC (.bl false))) (tNext))
  (tSeq (tFor (iRng1 (tCons (tVar 3) (tNil))) (gName 6)
  (tAsg (tCall (spOf K fChanged) [] E0 (tCons (tVar 2) (tCons (tVar 15) (tNil)))) (gName 15)))
  (tIfS (tTest (tOp (rNeD K) (tCall (spOf K fTold) [] E0 (tCons (tVar 15) (tCons (tVar 17) (tNil)))) (tCall (spOf K fDue) [] E0 (tCons (tVar 15) (tCons (tVar 17) (tNil))))))
  (tRet (tC (.bl false))) (tNext))))))))))))))))))))
  (tRet (tAndV (tOp (rEqD K) (tCall (spOf K fTold) [] E0 (tCons (tC (.str "")) (tCons (tC (.bl false)) (tNil)))) (tTup (tCons (tC (.str "row")) (tCons (tC (.int 0)) (tCons (tC (.int 0)) (tNil)))))) (tOp (rEqD K) (tCall (spOf K fTold) [] E0 (tCons (tC (.str "none")) (tCons (tC (.bl false)) (tNil)))) (tTup (tCons (tC (.str "row")) (tCons (tC (.int 0)) (tCons (tC (.int 0)) (tNil))))))))
set_option maxHeartbeats 1000000 in
theorem okLaw {P : Program} {w : World} {K : PySem.W.Frag} {mg : Str → Option Value} {base : Heap} {f : Addr} {fd : FuncData} (F : Fun K "law" "law" sLaw f fd) {c_BadRow : Addr} (h_State : Cal P w K mg base 1 "_law_state" ["_law_cell"] (spOf K fState)) (h_Digit : Cal P w K mg base 1 "_law_digit" ["_law_state_here", "_law_base"] (spOf K fDigit)) (h_Names : Cal P w K mg base 3 "_law_names" ["_law_s", "_law_many"] (spOf K fNames)) (h_MovesRow : Cal P w K mg base 1 "moves_row" ["moves"] (spOf K fMovesRow)) (h_WishesRow : Cal P w K mg base 1 "wishes_row" ["wishes"] (spOf K fWishesRow)) (h_Told : Cal P w K mg base 4 "_law_told" ["_law_text", "_law_of_moves"] (spOf K fTold)) (h_Changed : Cal P w K mg base 2 "_law_changed" ["_law_s", "_law_text"] (spOf K fChanged)) (h_Due : Cal P w K mg base 2 "_law_due" ["_law_text", "_law_of_moves"] (spOf K fDue)) (b_range : mg "range" = none) (b_list : mg "list" = none) (b_str : mg "str" = none) (b_tuple : mg "tuple" = none) (b_isinstance : mg "isinstance" = none) (x_BadRow : ExC P w K mg base 1 "BadRow" c_BadRow ["self", "row", "place"] ["row", "place"]) (hlen : ∀ es m Po, fLaw es m Po → es.length = 1) (hb : ∀ (C : Fx) es m Po, ExD C.K c_BadRow ["row", "place"] → fLaw es m Po → Sx C (es.map some ++ List.replicate (19 - es.length) none) m (tLaw C.K c_BadRow) { nx := fun _ m' => ∃ m2, m2.Sublist m' ∧ Po .non m2, rt := fun d m' => ∃ m2, m2.Sublist m' ∧ Po d m2 }) : FnOk P w K mg base CX0 5 f fd ["_law_script"] (spOf K fLaw) := by
  refine F.ok (k := 4) scLaw (sp_len hlen) (fun cdv A outer st H vs Q E hr h => ⟨tLaw K c_BadRow, ?_, fn_enter (N := ["_law_script", "_law_number", "_law_s", "_law_many", "_law_most", "_law_moves", "_law_k", "_law_names_here", "_law_wishes", "_law_handed", "_law_texts", "_law_hand", "_law_step", "_law_sort", "_law_mark", "_law_text", "_law_due_here", "_law_of_moves", "_law_found"]) h fun C es m Po hK hF => by subst hK; exact hb C es m Po x_BadRow.d hF⟩)
  unfold tLaw
  exact pss_cons (ps_for PassesOwn.never rfl (pi_list (pe_slice sl_list (pe_op op_catL (pv 0) (pe_lst (pa_cons (pe_int) (pa_nil)))) po_none (po_some (pe_int)))) (pg_name (i := 1) scLaw.nd rfl (Or.inl rfl))
    (pss_cons (ps_set (i := 2) scLaw.nd rfl (Or.inr rfl) (pe_fn h_State (hr.mono (by decide)) (by rfl) (pa_cons (pv 1) (pa_nil))))
    (pss_cons (ps_set (i := 3) scLaw.nd rfl (Or.inl rfl) (pe_fn h_Digit (hr.mono (by decide)) (by rfl) (pa_cons (pv 2) (pa_cons (pe_int) (pa_nil)))))
    (pss_cons (ps_set (i := 4) scLaw.nd rfl (Or.inr rfl) (pe_ix ix_list (pe_lst (pa_cons (pe_int) (pa_cons (pe_int) (pa_cons (pe_op op_pow (pe_int) (pe_int)) (pa_nil))))) (pe_fn h_Digit (hr.mono (by decide)) (by rfl) (pa_cons (pv 2) (pa_cons (pe_int) (pa_nil)))) (fun _ _ => rfl)))
    (pss_cons (ps_setLc (i := 5) (own := [("_law_k", 6)]) rfl scLaw.nd rfl rfl (sw_true rfl rfl rfl (by decide +kernel)) (pi_range1 (by rfl) b_range (pa_cons (pe_fn h_Digit (hr.mono (by decide)) (by rfl) (pa_cons (pv 2) (pa_cons (pe_int) (pa_nil)))) (pa_nil))) (blkOk_by (own := [("_law_k", 6)]) (N := ["_law_script", "_law_number", "_law_s", "_law_many", "_law_most", "_law_moves", "_law_k", "_law_names_here", "_law_wishes", "_law_handed", "_law_texts", "_law_hand", "_law_step", "_law_sort", "_law_mark", "_law_text", "_law_due_here", "_law_of_moves", "_law_found"]) (sc := defScope sLaw) (by decide +kernel)) (fun _ _ _ _ _ => pg_name (i := 6) scLaw.nd rfl (Or.inl rfl)) (fun _ _ _ _ _ => pts_nil) (fun _ _ _ _ _ => pe_tup (pa_cons (pe_fn h_Digit (hr.mono (by decide)) (by rfl) (pa_cons (pv 2) (pa_cons (pv 4) (pa_nil)))) (pa_cons (pe_fn h_Digit (hr.mono (by decide)) (by rfl) (pa_cons (pv 2) (pa_cons (pe_int) (pa_nil)))) (pa_nil)))))
    (pss_cons (ps_set (i := 7) scLaw.nd rfl (Or.inr rfl) (pe_fn h_Names (hr.mono (by decide)) (by rfl) (pa_cons (pv 2) (pa_cons (pe_int) (pa_nil)))))
    (pss_cons (ps_setLc (i := 8) (own := [("_law_k", 6)]) rfl scLaw.nd rfl rfl (sw_true rfl rfl rfl (by decide +kernel)) (pi_range1 (by rfl) b_range (pa_cons (pe_op op_add (pe_int) (pe_fn h_Digit (hr.mono (by decide)) (by rfl) (pa_cons (pv 2) (pa_cons (pe_int) (pa_nil))))) (pa_nil))) (blkOk_by (own := [("_law_k", 6)]) (N := ["_law_script", "_law_number", "_law_s", "_law_many", "_law_most", "_law_moves", "_law_k", "_law_names_here", "_law_wishes", "_law_handed", "_law_texts", "_law_hand", "_law_step", "_law_sort", "_law_mark", "_law_text", "_law_due_here", "_law_of_moves", "_law_found"]) (sc := defScope sLaw) (by decide +kernel)) (fun _ _ _ _ _ => pg_name (i := 6) scLaw.nd rfl (Or.inl rfl)) (fun _ _ _ _ _ => pts_nil) (fun _ _ _ _ _ => pe_tup (pa_cons (pe_ix ix_list (pv 7) (pe_fn h_Digit (hr.mono (by decide)) (by rfl) (pa_cons (pv 2) (pa_cons (pe_int) (pa_nil)))) (fun _ _ => rfl)) (pa_cons (pe_ix ix_list (pv 7) (pe_fn h_Digit (hr.mono (by decide)) (by rfl) (pa_cons (pv 2) (pa_cons (pe_int) (pa_nil)))) (fun _ _ => rfl)) (pa_nil)))))
    (pss_cons (ps_set (i := 9) scLaw.nd rfl (Or.inl rfl) (pe_tup (pa_cons (pe_callTy call_listOf (by rfl) b_list (by decide +kernel) (pa_cons (pv 5) (pa_nil))) (pa_cons (pe_callTy call_listOf (by rfl) b_list (by decide +kernel) (pa_cons (pv 8) (pa_nil))) (pa_nil)))))
    (pss_cons (ps_set (i := 10) scLaw.nd rfl (Or.inl rfl) (pe_lst (pa_cons (pe_joinS (pe_str) (pe_orT (pe_lc (own := [("_law_hand", 11), ("_law_step", 12)]) rfl scLaw.nd (pi_list (pv 5)) (blkOk_by (own := [("_law_hand", 11), ("_law_step", 12)]) (N := ["_law_script", "_law_number", "_law_s", "_law_many", "_law_most", "_law_moves", "_law_k", "_law_names_here", "_law_wishes", "_law_handed", "_law_texts", "_law_hand", "_law_step", "_law_sort", "_law_mark", "_law_text", "_law_due_here", "_law_of_moves", "_law_found"]) (sc := defScope sLaw) (by decide +kernel)) (fun _ _ _ _ _ => pg_tup rfl (pgs_cons (pg_name (i := 11) scLaw.nd rfl (Or.inl rfl)) (pgs_cons (pg_name (i := 12) scLaw.nd rfl (Or.inl rfl)) (pgs_nil)))) (fun _ _ _ _ _ => pts_nil) (fun _ _ _ _ _ => pe_op op_catStr (pe_op op_catStr (pe_callTy call_strI (by rfl) b_str (by decide +kernel) (pa_cons (pv 11) (pa_nil))) (pe_str)) (pe_callTy call_strI (by rfl) b_str (by decide +kernel) (pa_cons (pv 12) (pa_nil))))) (pe_one (pe_lst (pa_cons (pe_str) (pa_nil)))))) (pa_nil))))
    (pss_cons (ps_expr (pe_bm PySem.F.plainAttrs_list PySem.F.slot_list_append PySem.F.type_list_append mt_append (pv 10) (pa_cons (pe_joinS (pe_str) (pe_lc (own := [("_law_sort", 13), ("_law_mark", 14)]) rfl scLaw.nd (pi_list (pv 8)) (blkOk_by (own := [("_law_sort", 13), ("_law_mark", 14)]) (N := ["_law_script", "_law_number", "_law_s", "_law_many", "_law_most", "_law_moves", "_law_k", "_law_names_here", "_law_wishes", "_law_handed", "_law_texts", "_law_hand", "_law_step", "_law_sort", "_law_mark", "_law_text", "_law_due_here", "_law_of_moves", "_law_found"]) (sc := defScope sLaw) (by decide +kernel)) (fun _ _ _ _ _ => pg_tup rfl (pgs_cons (pg_name (i := 13) scLaw.nd rfl (Or.inl rfl)) (pgs_cons (pg_name (i := 14) scLaw.nd rfl (Or.inl rfl)) (pgs_nil)))) (fun _ _ _ _ _ => pts_nil) (fun _ _ _ _ _ => pe_op op_catStr (pe_op op_catStr (pv 13) (pe_str)) (pv 14)))) (pa_nil))))
    (pss_cons (ps_if (PW.pt (pw_or (pt_cmpR (op_neD hr.units) (pe_lst (pa_cons (pe_fn h_MovesRow (hr.mono (by decide)) (by rfl) (pa_cons (pe_ix ix_tup (pv 9) (pe_int) (fun _ _ => rfl)) (pa_nil))) (pa_cons (pe_fn h_WishesRow (hr.mono (by decide)) (by rfl) (pa_cons (pe_ix ix_tup (pv 9) (pe_int) (fun _ _ => rfl)) (pa_nil))) (pa_nil)))) (pv 10) (nomark _)) (pw_or1 (pt_cmpR (op_neD hr.units) (pv 9) (pe_tup (pa_cons (pv 5) (pa_cons (pv 8) (pa_nil)))) (nomark _)))))
    (pss_one (ps_ret (pe_bl))) (pss_nil))
    (pss_cons (ps_if (pt_cmpR (op_neD hr.units) (pe_lst (pa_cons (pe_fn h_MovesRow (hr.mono (by decide)) (by rfl) (pa_cons (pe_callTy call_tupOf (by rfl) b_tuple (by decide +kernel) (pa_cons (pv 5) (pa_nil))) (pa_nil))) (pa_cons (pe_fn h_WishesRow (hr.mono (by decide)) (by rfl) (pa_cons (pe_callTy call_tupOf (by rfl) b_tuple (by decide +kernel) (pa_cons (pv 8) (pa_nil))) (pa_nil))) (pa_nil)))) (pv 10) (nomark _))
    (pss_one (ps_ret (pe_bl))) (pss_nil))
    (pss_one (ps_for PassesOwn.never rfl (pi_list (pe_lst (pa_cons (pe_tup (pa_cons (pe_ix ix_list (pv 10) (pe_int) (fun _ _ => rfl)) (pa_cons (pv 5) (pa_cons (pe_bl) (pa_nil))))) (pa_cons (pe_tup (pa_cons (pe_ix ix_list (pv 10) (pe_int) (fun _ _ => rfl)) (pa_cons (pv 8) (pa_cons (pe_bl) (pa_nil))))) (pa_nil))))) (pg_tup rfl (pgs_cons (pg_name (i := 15) scLaw.nd rfl (Or.inl rfl)) (pgs_cons (pg_name (i := 16) scLaw.nd rfl (Or.inl rfl)) (pgs_cons (pg_name (i := 17) scLaw.nd rfl (Or.inl rfl)) (pgs_nil)))))
    (pss_cons (ps_set (i := 18) scLaw.nd rfl (Or.inl rfl) (pe_fn h_Told (hr) (by rfl) (pa_cons (pv 15) (pa_cons (pv 17) (pa_nil)))))
    (pss_cons (ps_if (PW.pt (pw_or (pt_not (pt_val (pe_callB RZ.call_isTy (by rfl) b_isinstance (by decide +kernel) (pa_cons (pv 18) (pa_cons (pe_bltn (v := .ty "list") (by rfl) b_list (by decide +kernel) rfl) pa_nil))))) (pw_or1 (pt_cmpR (op_neD hr.units) (pv 18) (pv 16) (nomark _)))))
    (pss_one (ps_ret (pe_bl))) (pss_nil))
    (pss_cons (ps_expr (pe_bm PySem.F.plainAttrs_list PySem.F.slot_list_append PySem.F.type_list_append mt_append (pv 18) (pa_cons (pe_int) (pa_nil))))
    (pss_cons (ps_if (pt_cmpR (op_neD hr.units) (pe_fn h_Told (hr) (by rfl) (pa_cons (pv 15) (pa_cons (pv 17) (pa_nil)))) (pv 16) (nomark _))
    (pss_one (ps_ret (pe_bl))) (pss_nil))
    (pss_cons (ps_for PassesOwn.never rfl (pi_range1 (by rfl) b_range (pa_cons (pv 3) (pa_nil))) (pg_name (i := 6) scLaw.nd rfl (Or.inl rfl))
    (pss_one (ps_set (i := 15) scLaw.nd rfl (Or.inl rfl) (pe_fn h_Changed (hr.mono (by decide)) (by rfl) (pa_cons (pv 2) (pa_cons (pv 15) (pa_nil)))))))
    (pss_one (ps_if (pt_cmpR (op_neD hr.units) (pe_fn h_Told (hr) (by rfl) (pa_cons (pv 15) (pa_cons (pv 17) (pa_nil)))) (pe_fn h_Due (hr.mono (by decide)) (by rfl) (pa_cons (pv 15) (pa_cons (pv 17) (pa_nil)))) (nomark _))
    (pss_one (ps_ret (pe_bl))) (pss_nil))))))))))))))))))))))
    (pss_one (ps_ret (pe_and (pe_cmpR (op_eqD hr.units) (pe_fn h_Told (hr) (by rfl) (pa_cons (pe_str) (pa_cons (pe_bl) (pa_nil)))) (pe_tup (pa_cons (pe_str) (pa_cons (pe_int) (pa_cons (pe_int) (pa_nil))))) (nomark _)) (pe_one (pe_cmpR (op_eqD hr.units) (pe_fn h_Told (hr) (by rfl) (pa_cons (pe_str) (pa_cons (pe_bl) (pa_nil)))) (pe_tup (pa_cons (pe_str) (pa_cons (pe_int) (pa_cons (pe_int) (pa_nil))))) (nomark _))))))

local macro_rules | `(tactic| walk_at "e1") => `(tactic| first
  | ((with_reducible refine' ev_var ?h1 ?_); (case h1 => exact rfl))
  | with_reducible refine' ev_int ?_ | with_reducible refine' ev_str ?_ | with_reducible refine' ev_bl ?_ | with_reducible refine' ev_non ?_
  | with_reducible refine' ev_op ?_ | with_reducible refine' ev_cb ?_ | with_reducible refine' ev_tup ?_ | with_reducible refine' eva_cons ?_ | with_reducible refine' eva_nil ?_
  | with_reducible refine' evt_test ?_ | with_reducible refine' evt_B ?_ | with_reducible refine' evt_not ?_
  | with_reducible refine' op_ii ?_ | with_reducible refine' op_iib ?_ | with_reducible refine' op_eqI ?_ | with_reducible refine' op_neI ?_ | with_reducible refine' op_eqS ?_ | with_reducible refine' op_neS ?_ | with_reducible refine' op_eqB ?_
  | with_reducible refine' cl_abs ?_ | with_reducible refine' cl_intB ?_ | with_reducible refine' cl_lenL ?_
  | with_reducible refine' sx_ret ?_ | with_reducible refine' q_set ?_ | with_reducible refine' sx_set ?_ | with_reducible refine' q_drop ?_ | with_reducible refine' q_when ?_ | with_reducible refine' q_if ?_ | with_reducible refine' sx_if ?_ | with_reducible refine' sx_next ?_)
local macro_rules | `(tactic| walk_at "e") => `(tactic| repeat walk_at "e1")

theorem szl {n : Nat} (h : n ≤ 1000000) : n ≤ sizeLine := by rw [sizeLine_eq]; omega
abbrev fpost (Po : Dt → Cells → Prop) : Pst := { nx := fun _ m' => ∃ m2, m2.Sublist m' ∧ Po .non m2, rt := fun d m' => ∃ m2, m2.Sublist m' ∧ Po d m2 }
theorem bState (C : Fx) (es : List Dt) (m : Cells) (Po : Dt → Cells → Prop) (h : fState es m Po) : Sx C (es.map some ++ List.replicate (1 - es.length) none) m (tState C.K) (fpost Po) := by
  obtain ⟨c, rfl, rfl, q⟩ := h
  show Sx C [some (.int c)] _ _ _
  unfold tState
  walk_at "e"
  have hc : 0 ≤ (if c < 0 then -c else c) := by split <;> omega
  generalize (if c < 0 then -c else c) = x at hc
  refine ev_lstM ?_
  walk_at "e"
  refine op_iic ⟨by decide, by decide, by decide⟩ ?_
  walk_at "e"
  refine op_iic (.inr ?_) ?_
  · split <;> decide
  walk_at "e"
  refine op_iic (by decide) ?_
  walk_at "e"
  refine op_iic (by decide) ?_
  walk_at "e"
  refine ⟨szl (by simp), fun a => ⟨_, List.Sublist.refl _, q a _ _ _ ⟨?_, ?_, ?_, ?_, ?_⟩⟩⟩
  · split
    · omega
    · omega
  all_goals omega
theorem bDigit (C : Fx) (es : List Dt) (m : Cells) (Po : Dt → Cells → Prop) (h : fDigit es m Po) : Sx C (es.map some ++ List.replicate (4 - es.length) none) m (tDigit C.K) (fpost Po) := by
  obtain ⟨s, a, b, c, n, rfl, rfl, ok, n0, n1, q⟩ := h
  obtain ⟨a0, b0, b1, c0, c1⟩ := ok
  show Sx C [some (.ref s), some (.int n), none, none] _ _ _
  unfold tDigit
  walk_at "e"
  refine op_ixM 0 rfl rfl ?_
  walk_at "e"
  refine ⟨_, rfl, fun hb => ?_, fun hb => ?_⟩
  · walk_at "e"
    refine op_ixM 0 rfl rfl ?_
    walk_at "e"
    refine op_iic n0 ?_
    walk_at "e"
    refine sx_seq (sx_setItem ?_)
    walk_at "e"
    refine op_ixM 0 rfl rfl ?_
    walk_at "e"
    refine op_iic ⟨n0, n1⟩ ?_
    walk_at "e"
    refine ⟨0, s, false, _, 0, 0, rfl, rfl, rfl, rfl, ?_⟩
    walk_at "e"
    refine ⟨_, List.Sublist.refl _, q _ _ _ _ ?_ ?_ ⟨?_, b0, b1, c0, c1⟩⟩
    · exact Int.emod_nonneg _ (by omega)
    · exact Int.emod_lt_of_pos _ n0
    · exact Int.ediv_nonneg a0 (by omega)
  · walk_at "e"
    refine op_ixM 0 rfl rfl ?_
    walk_at "e"
    refine op_ixM 0 rfl rfl ?_
    walk_at "e"
    refine op_iic ⟨by decide, by decide⟩ ?_
    walk_at "e"
    refine op_iic (.inl ⟨by omega, by omega⟩) ?_
    walk_at "e"
    refine sx_seq (sx_setItem ?_)
    walk_at "e"
    refine op_ixM 0 rfl rfl ?_
    walk_at "e"
    refine op_iic (by decide) ?_
    walk_at "e"
    refine ⟨0, s, false, _, 1, 1, rfl, rfl, rfl, rfl, ?_⟩
    walk_at "e"
    refine op_ixM 0 rfl rfl ?_
    walk_at "e"
    refine op_iic ⟨by decide, by decide⟩ ?_
    walk_at "e"
    refine op_iic n0 ?_
    generalize hy : (b * (b / 1009 + 69621) + c) % 2147483629 = y
    have y0 : 0 ≤ y := by rw [← hy]; exact Int.emod_nonneg _ (by decide)
    have y1 : y < 2147483629 := by rw [← hy]; exact Int.emod_lt_of_pos _ (by decide)
    refine ⟨_, List.Sublist.refl _, q _ _ _ _ ?_ ?_ ⟨a0, ?_, ?_, c0, c1⟩⟩
    · exact Int.emod_nonneg _ (by omega)
    · exact Int.emod_lt_of_pos _ n0
    · omega
    · omega

/-! ### names -/
theorem le_of_nodup_sub {α : Type} [DecidableEq α] : ∀ {l r : List α}, l.Nodup → (∀ x ∈ l, x ∈ r) → l.length ≤ r.length
  | [], r, _, _ => Nat.zero_le _
  | x :: l, r, hn, hs => by
    rw [List.nodup_cons] at hn
    have hx : x ∈ r := hs x List.mem_cons_self
    have ih := le_of_nodup_sub (l := l) (r := r.erase x) hn.2 fun y hy => (List.mem_erase_of_ne (fun e => hn.1 (by rw [← e]; exact hy))).mpr (hs y (List.mem_cons_of_mem _ hy))
    rw [List.length_erase_of_mem hx] at ih
    have := List.length_pos_of_mem hx
    rw [List.length_cons]
    omega
/-- the n-th try -/
def tryN (stem : Str) : Nat → Str
  | 0 => stem
  | n + 1 => stem ++ Str.ofString (toString (((n + 1 : Nat) : Nat) : Int))
theorem str_app_len (x y : Str) : (x ++ y).length = x.length + y.length := by
  show (x.cps ++ y.cps).size = _
  rw [Array.size_append]
  rfl
theorem num_str {n : Nat} (h : n ≤ 9) : 1 ≤ (Str.ofString (toString ((n : Nat) : Int))).length ∧ (Str.ofString (toString ((n : Nat) : Int))).length ≤ 1 ∧ ∀ c ∈ (Str.ofString (toString ((n : Nat) : Int))).cps.toList, 48 ≤ c ∧ c ≤ 57 := by
  have : n = 0 ∨ n = 1 ∨ n = 2 ∨ n = 3 ∨ n = 4 ∨ n = 5 ∨ n = 6 ∨ n = 7 ∨ n = 8 ∨ n = 9 := by omega
  rcases this with rfl | rfl | rfl | rfl | rfl | rfl | rfl | rfl | rfl | rfl <;> decide +kernel
theorem tryN_inj {stem : Str} : ∀ {i j : Nat}, i ≤ 9 → j ≤ 9 → tryN stem i = tryN stem j → i = j
  | 0, 0, _, _, _ => rfl
  | 0, j + 1, _, hj, e => by
    have h := congrArg Str.length e
    have k := num_str hj
    simp only [tryN, str_app_len] at h
    omega
  | i + 1, 0, hi, _, e => by
    have h := congrArg Str.length e
    have k := num_str hi
    simp only [tryN, str_app_len] at h
    omega
  | i + 1, j + 1, hi, hj, e => by
    have h : (stem ++ Str.ofString (toString (((i + 1 : Nat) : Nat) : Int))).cps = (stem ++ Str.ofString (toString (((j + 1 : Nat) : Nat) : Int))).cps := congrArg Str.cps e
    have h2 : stem.cps ++ (Str.ofString (toString (((i + 1 : Nat) : Nat) : Int))).cps = stem.cps ++ (Str.ofString (toString (((j + 1 : Nat) : Nat) : Int))).cps := h
    have h3 := (Array.append_right_inj _).mp h2
    have h4 : Str.ofString (toString (((i + 1 : Nat) : Nat) : Int)) = Str.ofString (toString (((j + 1 : Nat) : Nat) : Int)) := by
      generalize Str.ofString (toString (((i + 1 : Nat) : Nat) : Int)) = x at h3
      generalize Str.ofString (toString (((j + 1 : Nat) : Nat) : Int)) = y at h3
      cases x
      cases y
      exact congrArg Str.mk h3
    have r1 := PySem.W.KIN.num_reads (n := ((i + 1 : Nat) : Int)) (by omega) (by omega)
    have r2 := PySem.W.KIN.num_reads (n := ((j + 1 : Nat) : Int)) (by omega) (by omega)
    rw [h4, r2] at r1
    have := Option.some.inj r1
    omega
theorem tries_few {stem : Str} {ys : List Str} {k : Nat} (hy : ys.length ≤ 8) (hk : k ≤ 8) (h : ∀ j, j ≤ k → tryN stem j ∈ ys) : k + 1 ≤ ys.length := by
  have hn : ((List.range (k + 1)).map (tryN stem)).Nodup := by
    rw [List.Nodup, List.pairwise_map]
    refine List.Pairwise.imp_of_mem ?_ (List.nodup_range (n := k + 1))
    intro a b ha hb hab e
    rw [List.mem_range] at ha hb
    exact hab (tryN_inj (by omega) (by omega) e)
  have := le_of_nodup_sub hn (r := ys) fun x hx => by
    obtain ⟨j, hj, rfl⟩ := List.mem_map.mp hx
    rw [List.mem_range] at hj
    exact h j (by omega)
  rw [List.length_map, List.length_range] at this
  exact this
theorem app_mem {x y : Str} {c : Nat} (h : c ∈ (x ++ y).cps.toList) : c ∈ x.cps.toList ∨ c ∈ y.cps.toList := by
  have e : (x ++ y).cps = x.cps ++ y.cps := rfl
  rw [e, Array.toList_append] at h
  exact List.mem_append.mp h
theorem tryN_good {stem : Str} (h1 : 1 ≤ stem.length) (h2 : stem.length ≤ 10) (hc : ∀ c ∈ stem.cps.toList, NameCp c) : ∀ {k : Nat}, k ≤ 9 → GoodName (tryN stem k)
  | 0, _ => ⟨h1, by show stem.length ≤ 20; omega, hc⟩
  | k + 1, hk => by
    have n := num_str hk
    refine ⟨?_, ?_, fun c hx => ?_⟩
    · show 1 ≤ (stem ++ _ : Str).length
      rw [str_app_len]; omega
    · show (stem ++ _ : Str).length ≤ 20
      rw [str_app_len]; omega
    · rcases app_mem hx with w | w
      · exact hc c w
      · exact .inr (n.2.2 c w)
theorem signs36 : ∀ c ∈ ("abcdefghijklmnopqrstuvwxyz0123456789" : Str).cps.toList, NameCp c := by
  unfold NameCp
  decide +kernel
theorem pick36 {i : Int} (h0 : 0 ≤ i) (h1 : i < 36) : ∃ c, atI ("abcdefghijklmnopqrstuvwxyz0123456789" : Str).cps.toList i = some c ∧ NameCp c := by
  have hl : ("abcdefghijklmnopqrstuvwxyz0123456789" : Str).cps.toList.length = 36 := by decide +kernel
  have hi : i.toNat < ("abcdefghijklmnopqrstuvwxyz0123456789" : Str).cps.toList.length := by rw [hl]; omega
  refine ⟨_, ?_, signs36 _ (List.getElem_mem hi)⟩
  unfold atI ixN
  rw [if_pos h0, if_pos (by rw [hl]; omega), Option.bind_some]
  exact List.getElem?_eq_getElem hi
/-- a draw -/
theorem ev_digit {C : Fx} {g : Gam} {m : Cells} {ta : TA} {P : Dt → Cells → Prop} {E : XK} (h : EvA C g m ta fun es m1 => ∃ (s : Addr) (l : Bool) (a b c n : Int) (mr : Cells), es = [.ref s, .int n] ∧ m1 = ⟨s, l, st3 a b c⟩ :: mr ∧ Ok3 a b c ∧ 0 < n ∧ n < 1073741824 ∧
    ∀ (r a' b' c' : Int), 0 ≤ r → r < n → Ok3 a' b' c' → P (.int r) (⟨s, l, st3 a' b' c'⟩ :: mr)) : Ev C g m (tCall (spOf C.K fDigit) [] E ta) P :=
  ev_call1 fun B S σ vs H rl Q q => h B S σ vs H rl Q fun ws es m1 H1 r1 hl ⟨s, l, a, b, c, n, mr, e1, e2, ok, n0, n1, k⟩ => q ws es m1 H1 r1 hl (by
    subst e1 e2
    exact ⟨s, l, st3 a b c, mr, rfl, s, a, b, c, n, rfl, rfl, ok, n0, n1, fun r a' b' c' h0 h1 hk => ⟨_, rfl, k r a' b' c' h0 h1 hk⟩⟩)
theorem bName (C : Fx) (es : List Dt) (m : Cells) (Po : Dt → Cells → Prop) (h : fName es m Po) : Sx C (es.map some ++ List.replicate (9 - es.length) none) m (tName C.K) (fpost Po) := by
  obtain ⟨s, l, a, b, c, ys, rfl, rfl, ok, hy, q⟩ := h
  show Sx C [some (.ref s), some (.ref l), none, none, none, none, none, none, none] _ _ _
  unfold tName
  walk_at "e"
  refine ev_digit ?_
  walk_at "e"
  refine ⟨_, _, _, _, _, _, _, rfl, rfl, ok, by decide, by decide, fun kind a1 b1 c1 hk0 hk1 ok1 => ?_⟩
  walk_at "e"
  refine ev_digit ?_
  walk_at "e"
  refine ⟨_, _, _, _, _, _, _, rfl, rfl, ok1, by decide, by decide, fun r a2 b2 c2 r0 r1 ok2 => ?_⟩
  obtain ⟨cp, hcp, gcp⟩ := pick36 r0 (by omega)
  refine op_ixS (by decide +kernel) hcp ?_
  refine sx_seq (sx_for (evi_range1 ?_))
  walk_at "e"
  refine ev_digit ?_
  walk_at "e"
  refine ⟨_, _, _, _, _, _, _, rfl, rfl, ok2, by decide, by decide, fun n a3 b3 c3 n0 n1 ok3 => ?_⟩
  walk_at "e"
  refine ⟨n, rfl, ⟨by omega, by omega⟩, fun i g m => ∃ (z : Str) (d5 : Option Dt) (a b c : Int), g = [some (.ref s), some (.ref l), some (.str "abcdefghijklmnopqrstuvwxyz0123456789"), some (.int kind), some (.str z), d5, none, none, none] ∧
    m = [⟨s, false, st3 a b c⟩, ⟨l, false, .lst (ys.map .str)⟩] ∧ Ok3 a b c ∧ 1 ≤ z.length ∧ z.length ≤ 1 + i ∧ ∀ c ∈ z.cps.toList, NameCp c,
    ⟨⟨#[cp]⟩, none, a3, b3, c3, rfl, rfl, ok3, Nat.le_refl 1, Nat.le_refl 1, fun c hc => ?_⟩, fun i x g m hx hW => ?_, fun g m hW => ?_⟩
  · have e : c = cp := by simpa using hc
    subst e
    exact gcp
  · obtain ⟨hi, rfl⟩ := rangeD_get hx
    obtain ⟨z, d5, a4, b4, c4, rfl, rfl, ok4, z1, z2, zc⟩ := hW
    refine tg_name ?_
    walk_at "e"
    refine ev_digit ?_
    walk_at "e"
    refine ⟨_, _, _, _, _, _, _, rfl, rfl, ok4, by decide, by decide, fun r a5 b5 c5 r0 r1 ok5 => ?_⟩
    obtain ⟨cp', hcp', gcp'⟩ := pick36 r0 r1
    refine op_ixS (by decide +kernel) hcp' ?_
    have hl1 : (⟨#[cp']⟩ : Str).length = 1 := rfl
    refine op_catSS (szl (by omega)) ?_
    refine ⟨_, _, a5, b5, c5, rfl, rfl, ok5, ?_, ?_, fun c hc => ?_⟩
    · rw [str_app_len]; omega
    · rw [str_app_len]; omega
    · rcases app_mem hc with w | w
      · exact zc c w
      · have e : c = cp' := by simpa using w
        subst e
        exact gcp'
  · obtain ⟨z, d5, a4, b4, c4, rfl, rfl, ok4, z1, z2, zc⟩ := hW
    rw [rangeD_len] at z2
    have rest : ∀ (z : Str) (d6 : Option Dt) (a b c : Int), 1 ≤ z.length → z.length ≤ 10 → (∀ c ∈ z.cps.toList, NameCp c) → Ok3 a b c → Sx C [some (.ref s), some (.ref l), some (.str "abcdefghijklmnopqrstuvwxyz0123456789"), some (.int kind), some (.str z), d5, d6, none, none] [⟨s, false, st3 a b c⟩, ⟨l, false, .lst (ys.map .str)⟩]
        (tSeq (tAsg (tVar 4) (gName 7)) (tSeq (tAsg (tC (.int 0)) (gName 8)) (tSeq (tWhile (tTest (tOp (rIn C.K false) (tVar 7) (tVar 1))) (tSeq (tAsg (tOp (rI0 fun i j => .int (i + j)) (tVar 8) (tC (.int 1))) (gName 8)) (tAsg (tOp rCatStr (tVar 4) (tCB rStrInt (tCons (tVar 8) tNil))) (gName 7)))) (tRet (tVar 7))))) (fpost Po) := by
      intro z d6 a b c z1 z2 zc ok
      walk_at "e"
      refine sx_seq (sx_while (fun n g m => ∃ k, k ≤ ys.length ∧ n = ys.length - k ∧ (∀ j, j < k → tryN z j ∈ ys) ∧ g = [some (.ref s), some (.ref l), some (.str "abcdefghijklmnopqrstuvwxyz0123456789"), some (.int kind), some (.str z), d5, d6, some (.str (tryN z k)), some (.int (k : Nat))] ∧ m = [⟨s, false, st3 a b c⟩, ⟨l, false, .lst (ys.map .str)⟩]) ys.length ⟨0, Nat.zero_le _, rfl, fun j hj => absurd hj (Nat.not_lt_zero j), rfl, rfl⟩ fun n g m hW => ?_)
      obtain ⟨k, hk, rfl, hall, rfl, rfl⟩ := hW
      walk_at "e"
      refine op_inM 1 rfl ?_
      refine ⟨_, rfl, fun hb => ?_, fun hb => ?_⟩
      · have hin : tryN z k ∈ ys := of_decide_eq_true hb
        have hk1 := tries_few (stem := z) (ys := ys) (k := k) hy (by omega) fun j hj => by
          rcases Nat.lt_or_ge j k with w | w
          · exact hall j w
          · have e : j = k := by omega
            subst e
            exact hin
        walk_at "e"
        refine cl_str ?_ ?_
        · have : ((k : Nat) : Int) + 1 = ((k + 1 : Nat) : Int) := by omega
          rw [this, Int.natAbs_natCast]
          exact Nat.lt_of_le_of_lt (Nat.log2_le_self _) (by omega)
        have n := num_str (n := k + 1) (by omega)
        have e : ((k : Nat) : Int) + 1 = ((k + 1 : Nat) : Int) := by omega
        rw [e]
        refine op_catSS (szl (by omega)) ?_
        refine ⟨_, by omega, k + 1, hk1, rfl, fun j hj => ?_, rfl, rfl⟩
        rcases Nat.lt_or_ge j k with w | w
        · exact hall j w
        · have e : j = k := by omega
          subst e
          exact hin
      · walk_at "e"
        exact ⟨_, List.Sublist.refl _, q _ _ _ _ (tryN_good z1 z2 zc (by omega)) ok⟩
    walk_at "e"
    refine ⟨_, rfl, fun hb => ?_, fun hb => ?_⟩
    · refine sx_seq (sx_set (ev_lst ?_))
      walk_at "e"
      refine ⟨szl (by simp), ?_⟩
      walk_at "e"
      refine ev_digit ?_
      walk_at "e"
      refine ⟨_, _, _, _, _, _, _, rfl, rfl, ok4, by decide, by decide, fun r a5 b5 c5 r0 r1 ok5 => ?_⟩
      obtain ⟨w, hw, w1, w2, wc⟩ : ∃ w : Str, atI [Dt.str "hold", .str "either", .str "or", .str "rounds", .str "call", .str "mark", .str "stop", .str "sort", .str "part", .str "none", .str "rings"] r = some (.str w) ∧ 1 ≤ w.length ∧ w.length ≤ 10 ∧ ∀ c ∈ w.cps.toList, NameCp c := by
        have : r = 0 ∨ r = 1 ∨ r = 2 ∨ r = 3 ∨ r = 4 ∨ r = 5 ∨ r = 6 ∨ r = 7 ∨ r = 8 ∨ r = 9 ∨ r = 10 := by omega
        unfold NameCp
        rcases this with rfl | rfl | rfl | rfl | rfl | rfl | rfl | rfl | rfl | rfl | rfl <;> exact ⟨_, rfl, by decide +kernel, by decide +kernel, by decide +kernel⟩
      refine op_ixL hw ?_
      exact rest _ _ _ _ _ w1 w2 wc ok5
    · exact rest _ _ _ _ _ z1 (by omega) zc ok4

/-! ### lists of names -/
theorem ev_name {C : Fx} {g : Gam} {m : Cells} {ta : TA} {P : Dt → Cells → Prop} {E : XK} (h : EvA C g m ta fun es m1 => ∃ (s l : Addr) (x y : Bool) (a b c : Int) (ys : List Str) (mr : Cells), es = [.ref s, .ref l] ∧ m1 = ⟨s, x, st3 a b c⟩ :: ⟨l, y, .lst (ys.map .str)⟩ :: mr ∧ Ok3 a b c ∧ ys.length ≤ 8 ∧
    ∀ (z : Str) (a' b' c' : Int), GoodName z → Ok3 a' b' c' → P (.str z) (⟨s, x, st3 a' b' c'⟩ :: ⟨l, y, .lst (ys.map .str)⟩ :: mr)) : Ev C g m (tCall (spOf C.K fName) [] E ta) P :=
  ev_call rfl 2 fun B S σ vs H rl Q q => h B S σ vs H rl Q fun ws es m1 H1 r1 hl ⟨s, l, x, y, a, b, c, ys, mr, e1, e2, ok, hy, k⟩ => q ws es m1 H1 r1 hl (by
    subst e1 e2
    refine ⟨by simp, fun d m' => ∃ (z : Str) (a' b' c' : Int), GoodName z ∧ Ok3 a' b' c' ∧ d = .str z ∧ m' = [⟨s, false, st3 a' b' c'⟩, ⟨l, false, .lst (ys.map .str)⟩], ⟨s, l, a, b, c, ys, rfl, rfl, ok, hy, fun z a' b' c' h1 h2 => ⟨z, a', b', c', h1, h2, rfl, rfl⟩⟩, fun d m' hR => ?_⟩
    obtain ⟨z, a', b', c', h1, h2, rfl, rfl⟩ := hR
    refine ⟨Nat.le_refl _, rfl, fun e he => (by cases he), ?_⟩
    show P (.str z) (⟨s, x, st3 a' b' c'⟩ :: ⟨l, y, .lst (ys.map .str)⟩ :: (mr ++ []))
    rw [List.append_nil]
    exact k z a' b' c' h1 h2)
theorem bNames (C : Fx) (es : List Dt) (m : Cells) (Po : Dt → Cells → Prop) (h : fNames es m Po) : Sx C (es.map some ++ List.replicate (4 - es.length) none) m (tNames C.K) (fpost Po) := by
  obtain ⟨s, a, b, c, n, rfl, rfl, ok, n0, n1, q⟩ := h
  show Sx C [some (.ref s), some (.int n), none, none] _ _ _
  unfold tNames
  refine q_set (ev_lstM ?_)
  walk_at "e"
  refine ⟨Nat.zero_le _, fun l => ?_⟩
  refine sx_seq (sx_for (evi_range1 ?_))
  walk_at "e"
  refine ⟨n, rfl, ⟨by omega, by omega⟩, fun i g m => ∃ (ys : List Str) (d3 : Option Dt) (a b c : Int), g = [some (.ref s), some (.int n), some (.ref l), d3] ∧ m = [⟨s, false, st3 a b c⟩, ⟨l, true, .lst (ys.map .str)⟩] ∧ Ok3 a b c ∧ ys.length = i ∧ ∀ y ∈ ys, GoodName y,
    ⟨[], none, a, b, c, rfl, rfl, ok, rfl, fun y hy => (by cases hy)⟩, fun i x g m hx hW => ?_, fun g m hW => ?_⟩
  · obtain ⟨hi, rfl⟩ := rangeD_get hx
    obtain ⟨ys, d3, a, b, c, rfl, rfl, ok, hl, hg⟩ := hW
    refine tg_name (sx_drop (ev_append ?_))
    walk_at "e"
    refine ⟨⟨1, _, _, _, rfl, rfl⟩, ev_name ?_⟩
    walk_at "e"
    refine ⟨_, _, _, _, _, _, _, ys, _, rfl, rfl, ok, by omega, fun z a' b' c' hz ok' => ?_⟩
    refine ⟨1, _, _, _, rfl, rfl, by rw [List.length_map]; exact Nat.lt_of_lt_of_le (by omega) (szl (n := 1000) (by omega)), ?_⟩
    refine ⟨ys ++ [z], _, a', b', c', rfl, by rw [List.map_append] <;> rfl, ok', by rw [List.length_append, hl] <;> rfl, fun y hy => ?_⟩
    rcases List.mem_append.mp hy with w | w
    · exact hg y w
    · rw [List.mem_singleton.mp w]; exact hz
  · obtain ⟨ys, d3, a, b, c, rfl, rfl, ok, hl, hg⟩ := hW
    rw [rangeD_len] at hl
    walk_at "e"
    exact ⟨_, List.Sublist.refl _, q l ys a b c (by omega) hg ok⟩
/-! ### numbers -/
abbrev digs : List Nat := ("0123456789" : Str).cps.toList
theorem eqv_nil (ds : List Dt) : PyData.eqv (toPy (.lst ds)) (toPy (.lst [])) = ds.isEmpty := by
  cases ds <;> simp [toPy, toPys, PyData.eqv, PyData.eqvAll]
theorem signsD_mem {z : Str} {x : Dt} (h : x ∈ signsD z) : ∃ c, c ∈ z.cps.toList ∧ x = .str ⟨#[c]⟩ := by
  unfold signsD at h
  obtain ⟨c, hc, rfl⟩ := List.mem_map.mp h
  exact ⟨c, hc, rfl⟩
theorem signsD_len (z : Str) : (signsD z).length = z.length := by
  unfold signsD
  rw [List.length_map, Array.length_toList]
  rfl
theorem head_at {z : Str} (h : 1 ≤ z.length) : atI z.cps.toList 0 = some (z.cps.toList.headD 0) := by
  have e : z.cps.toList.length = z.length := by rw [Array.length_toList]; rfl
  cases w : z.cps.toList with
  | nil => rw [w] at e; simp at e; omega
  | cons c r =>
    unfold atI ixN
    rw [if_pos (by decide), if_pos (by simp)]
    rfl
/-- the end of both readings of a number -/
theorem numEnd {C : Fx} {g : Gam} {Po : Dt → Cells → Prop} {z : Str} (h0 : g[0]? = some (some (.str z))) (hl : z.length ≤ 100000) (hA : 1 ≤ z.length ∧ z.length ≤ 9) (hB : (z.cps.toList.all fun c => decide (c ∈ digs)) = true) (q : Po (.bl (okNum z)) []) :
    Sx C g [] (tRet (tOrV (tOp rEq (tVar 0) (tC (.str "0"))) (tOp rNe (tOp rIxS (tVar 0) (tC (.int 0))) (tC (.str "0"))))) (fpost Po) := by
  have e : okNum z = (decide (z = "0") || !decide ((⟨#[z.cps.toList.headD 0]⟩ : Str) = "0")) := by
    unfold okNum
    rw [decide_eq_true hA, hB]
    rfl
  refine sx_ret (ev_orV ?_)
  refine ev_op (ev_var h0 ?_)
  walk_at "e"
  refine ⟨_, rfl, fun hb => ?_, fun hb => ?_⟩
  · refine ⟨[], List.Sublist.refl _, ?_⟩
    rw [e, hb] at q
    exact q
  · refine ev_op (ev_op (ev_var h0 ?_))
    walk_at "e"
    refine op_ixS (szl (by omega)) (head_at hA.1) ?_
    walk_at "e"
    refine ⟨[], List.Sublist.refl _, ?_⟩
    rw [e, hb, Bool.false_or] at q
    exact q
def signNot (d : Dt) : Bool := match d with
  | .str x => !decide (x.cps.toList.headD 0 ∈ digs)
  | _ => false
theorem not_all {z : Str} : ((signsD z).filter signNot).isEmpty = (z.cps.toList.all fun c => decide (c ∈ digs)) := by
  unfold signsD
  generalize z.cps.toList = l
  induction l with
  | nil => rfl
  | cons c r ih =>
    rw [List.map_cons, List.filter_cons, List.all_cons]
    cases w : decide (c ∈ digs) with
    | true =>
      rw [if_neg (by show ¬ (!decide (c ∈ digs)) = true; rw [w]; decide), ih]
      rfl
    | false =>
      rw [if_pos (by show (!decide (c ∈ digs)) = true; rw [w]; rfl)]
      rfl
theorem sg_sign {z : Str} (h : Sg z) {c : Nat} (hc : c ∈ z.cps.toList) : PyData.strOk ⟨#[c]⟩ = true := by
  unfold Sg PyData.strOk at h
  unfold PyData.strOk
  rw [Array.all_eq_true'] at h
  have := h c (by simpa using hc)
  simpa using this
theorem bIsNumber (C : Fx) (es : List Dt) (m : Cells) (Po : Dt → Cells → Prop) (h : fIsNumber es m Po) : Sx C (es.map some ++ List.replicate (2 - es.length) none) m (tIsNumber C.K) (fpost Po) := by
  obtain ⟨z, rfl, rfl, hl, hs, q⟩ := h
  show Sx C [some (.str z), none] _ _ _
  unfold tIsNumber
  have no : okNum z = false → Sx C [some (.str z), none] [] (tRet (tC (.bl false))) { fpost Po with nx := fun g' m' => Sx C g' m' (tRet (tOrV (tOp rEq (tVar 0) (tC (.str "0"))) (tOp rNe (tOp rIxS (tVar 0) (tC (.int 0))) (tC (.str "0"))))) (fpost Po) } := fun e => by
    walk_at "e"
    refine ⟨[], List.Sublist.refl _, ?_⟩
    rw [e] at q
    exact q
  refine q_when (evt_or (evt_not (evt_test (ev_chainI (i := 1) (j := (z.length : Nat)) ?_))))
  walk_at "e"
  refine ⟨rfl, ?_⟩
  walk_at "e"
  refine cl_lenS (szl (by omega)) ⟨rfl, fun h1 => ?_, fun h1 => ?_⟩
  · walk_at "e"
    refine ⟨9, rfl, _, rfl, fun hb => ?_, fun hb => ?_⟩
    · refine ⟨fun _ => no ?_, fun z => by cases z⟩
      have h9 : ¬ z.length ≤ 9 := fun w => by
        rw [decide_eq_true (show ((z.length : Nat) : Int) ≤ 9 by omega)] at hb
        cases hb
      unfold okNum
      rw [decide_eq_false (fun w => h9 w.2)]
      rfl
    · have h9 : z.length ≤ 9 := by
        have : decide (((z.length : Nat) : Int) ≤ 9) = true := by
          cases w : decide (((z.length : Nat) : Int) ≤ 9) with
          | true => rfl
          | false => rw [w] at hb; cases hb
        have := of_decide_eq_true this
        omega
      have hA : 1 ≤ z.length ∧ z.length ≤ 9 := ⟨by have := of_decide_eq_true h1; omega, h9⟩
      refine evt_test (ev_op (ev_lcP (js := [1]) fills_name (fun j hj => hj) (evi_str ?_)))
      walk_at "e"
      refine ⟨z, rfl, by rw [signsD_len]; exact Nat.lt_of_lt_of_le (by omega) (szl (n := 1000) (by omega)), signNot, id, fun x hx mm => ?_, ?_⟩
      · obtain ⟨c, hc, rfl⟩ := signsD_mem hx
        refine tg_name ?_
        walk_at "e"
        refine op_notInSg ⟨_, rfl, rfl, rfl, fun hb => ?_⟩
        walk_at "e"
        exact ⟨rfl, rfl⟩
      · refine ev_lst ?_
        walk_at "e"
        refine ⟨Nat.zero_le _, op_ned 3 (by decide) ?_ (by rfl) ?_⟩
        · show plains 2 _ = true
          refine plains_of fun d hd => ?_
          rw [List.map_id] at hd
          obtain ⟨c, hc, rfl⟩ := signsD_mem ((List.mem_filter.mp hd).1)
          show PyData.strOk _ = true
          exact sg_sign hs hc
        · rw [eqv_nil, List.map_id, not_all]
          refine ⟨_, rfl, fun hb => no ?_, fun hb => ?_⟩
          · have hB : (z.cps.toList.all fun c => decide (c ∈ digs)) = false := by simpa using hb
            unfold okNum
            rw [decide_eq_true hA, hB]
            rfl
          · have hB : (z.cps.toList.all fun c => decide (c ∈ digs)) = true := by
              cases w : (z.cps.toList.all fun c => decide (c ∈ digs)) with
              | true => rfl
              | false => rw [w] at hb; cases hb
            exact numEnd rfl hl hA hB q
  · refine ⟨_, rfl, fun hb => ?_, fun hb => by cases hb⟩
    refine ⟨fun _ => no ?_, fun z => by cases z⟩
    unfold okNum
    rw [decide_eq_false (fun w => by
      rw [decide_eq_true (show (1 : Int) ≤ ((z.length : Nat) : Int) by omega)] at h1
      cases h1)]
    rfl

theorem empty_app (x : Str) : Str.empty ++ x = x := by
  cases x with
  | mk c =>
    show (⟨#[] ++ c⟩ : Str) = ⟨c⟩
    rw [Array.empty_append]
theorem num_len {n : Nat} (h : n < 10 ^ 9) : (Str.ofString (toString ((n : Nat) : Int))).length ≤ 9 := by
  rw [TL.len_tl, TL.tl_num]
  exact TL.numL_len (by decide) h
theorem log_small {n : Nat} (h : n < 10 ^ 9) : (((n : Nat) : Int)).natAbs.log2 < 1920 := by
  rw [Int.natAbs_natCast]
  by_cases hz : n = 0
  · subst hz; decide
  · have := (Nat.log2_lt hz (k := 64)).mpr (by omega)
    omega
theorem bIsFigures (C : Fx) (es : List Dt) (m : Cells) (Po : Dt → Cells → Prop) (h : fIsFigures es m Po) : Sx C (es.map some ++ List.replicate (2 - es.length) none) m (tIsFigures C.K) (fpost Po) := by
  obtain ⟨z, rfl, rfl, hl, q⟩ := h
  show Sx C [some (.str z), none] _ _ _
  unfold tIsFigures
  have no : okNum z = false → Sx C [some (.str z), none] [] (tRet (tC (.bl false))) { fpost Po with nx := fun g' m' => Sx C g' m' (tRet (tOrV (tOp rEq (tVar 0) (tC (.str "0"))) (tOp rNe (tOp rIxS (tVar 0) (tC (.int 0))) (tC (.str "0"))))) (fpost Po) } := fun e => by
    walk_at "e"
    refine ⟨[], List.Sublist.refl _, ?_⟩
    rw [e] at q
    exact q
  refine q_when (evt_or (evt_not (evt_test (ev_chainI (i := 1) (j := (z.length : Nat)) ?_))))
  walk_at "e"
  refine ⟨rfl, ?_⟩
  walk_at "e"
  refine cl_lenS (szl (by omega)) ⟨rfl, fun h1 => ?_, fun h1 => ?_⟩
  · walk_at "e"
    refine ⟨9, rfl, _, rfl, fun hb => ?_, fun hb => ?_⟩
    · refine ⟨fun _ => no ?_, fun z => by cases z⟩
      have h9 : ¬ z.length ≤ 9 := fun w => by
        rw [decide_eq_true (show ((z.length : Nat) : Int) ≤ 9 by omega)] at hb
        cases hb
      unfold okNum
      rw [decide_eq_false (fun w => h9 w.2)]
      rfl
    · have h9 : z.length ≤ 9 := by
        have : decide (((z.length : Nat) : Int) ≤ 9) = true := by
          cases w : decide (((z.length : Nat) : Int) ≤ 9) with
          | true => rfl
          | false => rw [w] at hb; cases hb
        have := of_decide_eq_true this
        omega
      have hA : 1 ≤ z.length ∧ z.length ≤ 9 := ⟨by have := of_decide_eq_true h1; omega, h9⟩
      refine evt_not (evt_B (ev_cb (eva_cons (ev_lcM (js := [1]) fills_name (fun j hj => hj) (evi_str ?_)))))
      walk_at "e"
      refine ⟨z, rfl, by rw [signsD_len]; exact Nat.lt_of_lt_of_le (by omega) (szl (n := 1000) (by omega)), fun d => match d with | .str x => .bl (decide (x.cps.toList.headD 0 ∈ digs)) | _ => .non, fun x hx mm => ?_, ?_⟩
      · obtain ⟨c, hc, rfl⟩ := signsD_mem hx
        refine tg_name ?_
        walk_at "e"
        exact op_inSg ⟨rfl, rfl⟩
      · have e : ((signsD z).map fun d => match d with | .str x => Dt.bl (decide (x.cps.toList.headD 0 ∈ digs)) | _ => .non) = (z.cps.toList.map fun c => decide (c ∈ digs)).map .bl := by
          unfold signsD
          rw [List.map_map, List.map_map]
          rfl
        rw [e]
        walk_at "e"
        refine cl_all ⟨_, rfl, ?_⟩
        have e2 : (z.cps.toList.map fun c => decide (c ∈ digs)).all id = (z.cps.toList.all fun c => decide (c ∈ digs)) := by
          rw [List.all_map]
          rfl
        rw [e2]
        refine ⟨fun hb => no ?_, fun hb => ?_⟩
        · have hB : (z.cps.toList.all fun c => decide (c ∈ digs)) = false := by simpa using hb
          unfold okNum
          rw [decide_eq_true hA, hB]
          rfl
        · have hB : (z.cps.toList.all fun c => decide (c ∈ digs)) = true := by
            cases w : (z.cps.toList.all fun c => decide (c ∈ digs)) with
            | true => rfl
            | false => rw [w] at hb; cases hb
          exact numEnd rfl hl hA hB q
  · refine ⟨_, rfl, fun hb => ?_, fun hb => by cases hb⟩
    refine ⟨fun _ => no ?_, fun z => by cases z⟩
    unfold okNum
    rw [decide_eq_false (fun w => by
      rw [decide_eq_true (show (1 : Int) ≤ ((z.length : Nat) : Int) by omega)] at h1
      cases h1)]
    rfl
theorem split_cnt (z y : Str) : (Txt.split z y).length ≤ z.length + 2 := PyProof.Rows.split_le z y
theorem bPairsIn (C : Fx) (es : List Dt) (m : Cells) (Po : Dt → Cells → Prop) (h : fPairsIn es m Po) : Sx C (es.map some ++ List.replicate (3 - es.length) none) m (tPairsIn C.K) (fpost Po) := by
  obtain ⟨z, rfl, rfl, hl, q⟩ := h
  show Sx C [some (.str z), none, none] _ _ _
  unfold tPairsIn
  refine sx_ret (ev_lcM (js := [1, 2]) fills_tup2 (fun j hj => hj) (evi_enum (eva_cons (ev_split ?_))))
  walk_at "e"
  refine ⟨z, rfl, ?_⟩
  walk_at "e"
  refine ⟨_, rfl, by decide +kernel, szl (by omega), ?_⟩
  walk_at "e"
  refine ⟨_, rfl, ?_, fun d => match d with | .tup [a, .str p] => .tup [a, .lst ((Txt.split p ".").map .str)] | _ => .non, fun x hx mm => ?_, ?_⟩
  · rw [enumD_len, List.length_map]
    have := split_cnt z " "
    exact Nat.lt_of_lt_of_le (show _ < 200000 by omega) (szl (by omega))
  · obtain ⟨i, hi⟩ := List.mem_iff_getElem?.mp hx
    obtain ⟨y, hy, rfl⟩ := enumD_get hi
    rw [List.getElem?_map] at hy
    cases w : (Txt.split z " ")[i]? with
    | none => rw [w] at hy; cases hy
    | some p =>
      rw [w] at hy
      cases hy
      have hp : p.length ≤ z.length := PyProof.Rows.part_short (List.mem_of_getElem? w)
      refine tg_tup2 ?_
      walk_at "e"
      refine ev_split ?_
      walk_at "e"
      refine ⟨p, rfl, ?_⟩
      walk_at "e"
      refine ⟨_, rfl, by decide +kernel, szl (by omega), ?_⟩
      walk_at "e"
      exact ⟨szl (by simp), rfl, rfl⟩
  · refine ⟨[], List.Sublist.refl _, ?_⟩
    have e : ((enumD ((Txt.split z " ").map .str)).map fun d => match d with | .tup [a, .str p] => Dt.tup [a, .lst ((Txt.split p ".").map .str)] | _ => .non) = enumD ((partsOf z).map fun p => .lst ((Txt.split p ".").map .str)) := by
      unfold enumD partsOf
      rw [List.zipIdx_map, List.zipIdx_map, List.map_map, List.map_map, List.map_map]
      rfl
    rw [e]
    exact q
theorem sum_bound {l : List Nat} {k : Nat} (h : ∀ x ∈ l, x ≤ k) : l.sum ≤ l.length * k := by
  induction l with
  | nil => simp
  | cons x l ih =>
    have h1 := h x List.mem_cons_self
    have h2 := ih fun y hy => h y (List.mem_cons_of_mem _ hy)
    rw [List.sum_cons, List.length_cons, Nat.succ_mul]
    omega
theorem mvT_len {p : Nat × Nat} (h1 : p.1 < 10 ^ 9) (h2 : p.2 < 10 ^ 9) : (mvT p).length ≤ 19 := by
  have a := num_len h1
  have b := num_len h2
  unfold mvT
  rw [str_app_len, str_app_len]
  have : (("." : Str)).length = 1 := by decide +kernel
  omega
theorem wsT_len {p : Str × Str} {k : Nat} (h1 : p.1.length ≤ k) (h2 : p.2.length ≤ k) : (wsT p).length ≤ 2 * k + 1 := by
  unfold wsT
  rw [str_app_len, str_app_len]
  have : (("." : Str)).length = 1 := by decide +kernel
  omega
theorem dot_len : (("." : Str)).length = 1 := by decide +kernel
theorem blank_len : ((" " : Str)).length = 1 := by decide +kernel
theorem bMovesRow (C : Fx) (es : List Dt) (m : Cells) (Po : Dt → Cells → Prop) (h : fMovesRow es m Po) : Sx C (es.map some ++ List.replicate (3 - es.length) none) m (tMovesRow C.K) (fpost Po) := by
  obtain ⟨d, ps, rfl, rfl, hd, hl, hp, q⟩ := h
  show Sx C [some d, none, none] _ _ _
  unfold tMovesRow
  refine sx_ret (ev_join ?_)
  walk_at "e"
  refine ⟨_, rfl, ev_orL (ev_lcM (js := [1, 2]) fills_tup2 (fun j hj => hj) (evi_seq ?_))⟩
  walk_at "e"
  refine ⟨ps.map mvD, hd, ?_, fun d => match d with | .tup [.int a, .int b] => .str (mvT (a.toNat, b.toNat)) | _ => .non, fun x hx mm => ?_, ?_⟩
  · rw [List.length_map]
    exact Nat.lt_of_le_of_lt hl (Nat.lt_of_lt_of_le (show 100 < 1000 by decide) (szl (by omega)))
  · obtain ⟨p, hpm, rfl⟩ := List.mem_map.mp hx
    obtain ⟨h1, h2⟩ := hp p hpm
    have l1 := num_len h1
    have l2 := num_len h2
    refine tg_tup2 (ev_fstr (evj_cons (ev_fmtI ?_)))
    walk_at "e"
    refine ⟨_, rfl, log_small h1, _, rfl, ?_, ?_⟩
    · rw [empty_app]; exact szl (by omega)
    refine evj_cons ?_
    walk_at "e"
    refine ⟨_, rfl, ?_, ?_⟩
    · rw [empty_app, str_app_len, dot_len]; exact szl (by omega)
    refine evj_cons (ev_fmtI ?_)
    walk_at "e"
    refine ⟨_, rfl, log_small h2, _, rfl, ?_, ?_⟩
    · rw [empty_app, str_app_len, str_app_len, dot_len]; exact szl (by omega)
    refine evj_nil ⟨?_, rfl⟩
    show Dt.str (((Str.empty ++ Str.ofString (toString ((p.1 : Nat) : Int))) ++ "." : Str) ++ Str.ofString (toString ((p.2 : Nat) : Int))) = .str (mvT (((p.1 : Nat) : Int).toNat, ((p.2 : Nat) : Int).toNat))
    rw [empty_app, Int.toNat_natCast, Int.toNat_natCast]
    rfl
  · have e : ((ps.map mvD).map fun d => match d with | .tup [.int a, .int b] => Dt.str (mvT (a.toNat, b.toNat)) | _ => .non) = (ps.map mvT).map .str := by
      rw [List.map_map, List.map_map]
      refine List.map_congr_left fun p _ => ?_
      show Dt.str (mvT (((p.1 : Nat) : Int).toNat, ((p.2 : Nat) : Int).toNat)) = .str (mvT p)
      rw [Int.toNat_natCast, Int.toNat_natCast]
    rw [e]
    refine ⟨_, rfl, fun hne => ⟨ps.map mvT, rfl, ?_, [], List.Sublist.refl _, ?_⟩, fun hn => ev_lst ?_⟩
    · have hb : ((ps.map mvT).map (·.length)).sum ≤ ((ps.map mvT).map (·.length)).length * 19 := sum_bound fun x hx => by
        obtain ⟨y, hy, rfl⟩ := List.mem_map.mp hx
        obtain ⟨p, hpm, rfl⟩ := List.mem_map.mp hy
        exact mvT_len (hp p hpm).1 (hp p hpm).2
      rw [List.length_map, List.length_map] at hb
      rw [List.length_map, blank_len]
      omega
    · cases ps with
      | nil => exact absurd rfl hne
      | cons p r => exact q
    · walk_at "e"
      refine ⟨szl (by simp), ["none"], rfl, by decide +kernel, [], List.Sublist.refl _, ?_⟩
      cases ps with
      | nil => exact q
      | cons p r => cases hn
theorem bWishesRow (C : Fx) (es : List Dt) (m : Cells) (Po : Dt → Cells → Prop) (h : fWishesRow es m Po) : Sx C (es.map some ++ List.replicate (3 - es.length) none) m (tWishesRow C.K) (fpost Po) := by
  obtain ⟨d, ps, rfl, rfl, hd, hl, hp, q⟩ := h
  show Sx C [some d, none, none] _ _ _
  unfold tWishesRow
  refine sx_ret (ev_join ?_)
  walk_at "e"
  refine ⟨_, rfl, (ev_lcM (js := [1, 2]) fills_tup2 (fun j hj => hj) (evi_seq ?_))⟩
  walk_at "e"
  refine ⟨ps.map wsD, hd, ?_, fun d => match d with | .tup [.str a, .str b] => .str (wsT (a, b)) | _ => .non, fun x hx mm => ?_, ?_⟩
  · rw [List.length_map]
    exact Nat.lt_of_le_of_lt hl (Nat.lt_of_lt_of_le (show 100 < 1000 by decide) (szl (by omega)))
  · obtain ⟨p, hpm, rfl⟩ := List.mem_map.mp hx
    obtain ⟨l1, l2⟩ := hp p hpm
    refine tg_tup2 (ev_fstr (evj_cons (ev_fmtS ?_)))
    walk_at "e"
    refine ⟨_, rfl, szl (by omega), _, rfl, ?_, ?_⟩
    · rw [empty_app]; exact szl (by omega)
    refine evj_cons ?_
    walk_at "e"
    refine ⟨_, rfl, ?_, ?_⟩
    · rw [empty_app, str_app_len, dot_len]; exact szl (by omega)
    refine evj_cons (ev_fmtS ?_)
    walk_at "e"
    refine ⟨_, rfl, szl (by omega), _, rfl, ?_, ?_⟩
    · rw [empty_app, str_app_len, str_app_len, dot_len]; exact szl (by omega)
    refine evj_nil ⟨?_, rfl⟩
    show Dt.str (((Str.empty ++ p.1) ++ "." : Str) ++ p.2) = .str (wsT (p.1, p.2))
    rw [empty_app]
    rfl
  · have e : ((ps.map wsD).map fun d => match d with | .tup [.str a, .str b] => Dt.str (wsT (a, b)) | _ => .non) = (ps.map wsT).map .str := by
      rw [List.map_map, List.map_map]
      rfl
    rw [e]
    refine ⟨ps.map wsT, rfl, ?_, [], List.Sublist.refl _, q⟩
    have hb : ((ps.map wsT).map (·.length)).sum ≤ ((ps.map wsT).map (·.length)).length * 201 := sum_bound fun x hx => by
      obtain ⟨y, hy, rfl⟩ := List.mem_map.mp hx
      obtain ⟨p, hpm, rfl⟩ := List.mem_map.mp hy
      exact wsT_len (hp p hpm).1 (hp p hpm).2
    rw [List.length_map, List.length_map] at hb
    rw [List.length_map, blank_len]
    omega

/-! ### texts: pieces -/
theorem mem_join {S : List Nat} : ∀ {parts : List (List Nat)} {c : Nat}, c ∈ TL.joinL S parts → c ∈ S ∨ ∃ p ∈ parts, c ∈ p
  | [], c, h => by cases h
  | [p], c, h => .inr ⟨p, List.mem_singleton.mpr rfl, h⟩
  | p :: q :: r, c, h => by
    rcases List.mem_append.mp h with w | w
    · exact .inr ⟨p, List.mem_cons_self, w⟩
    · rcases List.mem_append.mp w with w | w
      · exact .inl w
      · rcases mem_join w with w | ⟨x, hx, hc⟩
        · exact .inl w
        · exact .inr ⟨x, List.mem_cons_of_mem _ hx, hc⟩
theorem join_mem {S : List Nat} : ∀ {parts : List (List Nat)} {p : List Nat} {c : Nat}, p ∈ parts → c ∈ p → c ∈ TL.joinL S parts
  | [], p, c, h, _ => by cases h
  | [x], p, c, h, hc => by rw [List.mem_singleton.mp h] at hc; exact hc
  | x :: y :: r, p, c, h, hc => by
    show c ∈ x ++ (S ++ TL.joinL S (y :: r))
    rcases List.mem_cons.mp h with w | w
    · rw [w] at hc
      exact List.mem_append_left _ hc
    · exact List.mem_append_right _ (List.mem_append_right _ (join_mem w hc))
theorem join_len {S : List Nat} : ∀ parts : List (List Nat), (TL.joinL S parts).length ≤ (parts.map List.length).sum + parts.length * S.length
  | [] => Nat.zero_le _
  | [p] => by
    show p.length ≤ _
    simp
  | p :: q :: r => by
    have ih := join_len (S := S) (q :: r)
    show (p ++ (S ++ TL.joinL S (q :: r))).length ≤ _
    rw [List.length_append, List.length_append, List.map_cons, List.sum_cons, List.length_cons, Nat.succ_mul]
    omega
def wt (l : List Str) : Nat := (l.map (·.length)).sum + l.length
theorem wt_app (a b : List Str) : wt (a ++ b) = wt a + wt b := by
  unfold wt
  rw [List.map_append, List.sum_append, List.length_append]
  omega
theorem wt_cons (x : Str) (l : List Str) : wt (x :: l) = x.length + 1 + wt l := by
  unfold wt
  rw [List.map_cons, List.sum_cons, List.length_cons]
  omega
theorem wt_sub {a b : List Str} (h : a.Sublist b) : wt a ≤ wt b := by
  induction h with
  | slnil => exact Nat.le_refl _
  | cons x _ ih =>
    rw [wt_cons]
    omega
  | cons_cons x _ ih =>
    rw [wt_cons, wt_cons]
    omega
theorem joinT_len (l : List Str) : (Txt.join " " l).length ≤ wt l := by
  rw [TL.len_tl, TL.join_eq, TL.tl_join]
  have h := join_len (S := TL.tl " ") (l.map TL.tl)
  have e1 : (TL.tl (" " : Str)).length = 1 := by decide +kernel
  have e2 : ((l.map TL.tl).map List.length) = l.map (·.length) := by
    rw [List.map_map]
    exact List.map_congr_left fun x _ => (TL.len_tl x).symm
  rw [e1, e2, List.length_map] at h
  unfold wt
  omega
theorem sg_iff {z : Str} : Sg z ↔ ∀ c ∈ z.cps.toList, c < 0x110000 := by
  unfold Sg PyData.strOk
  rw [Array.all_eq_true']
  constructor
  · intro h c hc
    have := h c (by simpa using hc)
    simpa using this
  · intro h c hc
    have := h c (by simpa using hc)
    simpa using this
theorem sg_join {l : List Str} (h : ∀ x ∈ l, Sg x) : Sg (Txt.join " " l) := by
  rw [sg_iff]
  intro c hc
  have hc' : c ∈ TL.tl (Txt.join " " l) := hc
  rw [TL.join_eq, TL.tl_join] at hc'
  rcases mem_join hc' with w | ⟨p, hp, hcp⟩
  · have : ∀ c ∈ TL.tl (" " : Str), c < 0x110000 := by decide +kernel
    exact this c w
  · obtain ⟨x, hx, rfl⟩ := List.mem_map.mp hp
    exact sg_iff.mp (h x hx) c hcp
theorem sg_part {z y p : Str} (h : Sg z) (hp : p ∈ Txt.split z y) : Sg p := by
  rw [sg_iff] at h ⊢
  intro c hc
  refine h c ?_
  have e : TL.tl (Str.join y (Txt.split z y)) = TL.tl z := by rw [StrLaws.join_split]
  rw [TL.tl_join] at e
  show c ∈ TL.tl z
  rw [← e]
  exact join_mem (List.mem_map_of_mem hp) hc
theorem sg_app {x y : Str} (hx : Sg x) (hy : Sg y) : Sg (x ++ y) := by
  rw [sg_iff] at *
  intro c hc
  rcases app_mem hc with w | w
  · exact hx c w
  · exact hy c w
theorem fold_mem {xs : Array Nat} {c : Nat} : ∀ {k : Nat} {acc : Array Nat}, c ∈ (List.foldl (fun x1 x2 => x1 ++ x2) acc (List.replicate k xs)) → c ∈ acc ∨ c ∈ xs
  | 0, acc, h => .inl h
  | k + 1, acc, h => by
    rw [List.replicate_succ, List.foldl_cons] at h
    rcases fold_mem h with w | w
    · rcases Array.mem_append.mp w with v | v
      · exact .inl v
      · exact .inr v
    · exact .inr w
theorem sg_rep {x : Str} (h : Sg x) (n : Nat) : Sg (strRep x n) := by
  rw [sg_iff] at *
  intro c hc
  have hc' : c ∈ (List.foldl (fun x1 x2 => x1 ++ x2) #[] (List.replicate n x.cps)) := by
    have h2 : c ∈ (strRep x n).cps := by simpa using hc
    exact h2
  rcases fold_mem hc' with w | w
  · simp at w
  · exact h c (by simpa using w)
theorem sg_cut {z : Str} (h : Sg z) (lo hi : Option Int) : Sg (cutS z lo hi) := by
  rw [sg_iff] at *
  intro c hc
  refine h c ?_
  unfold cutS at hc
  have := List.mem_of_mem_take (by simpa using hc)
  exact List.mem_of_mem_drop this
theorem split_wt (z : Str) : wt (Txt.split z " ") ≤ z.length + 1 := PyProof.Rows.split_weight z " " (by decide +kernel)
def cutG {α : Type} (xs : List α) (lo hi : Option Int) : List α := (xs.drop (HT.sIx xs.length 0 lo)).take (HT.sIx xs.length xs.length hi - HT.sIx xs.length 0 lo)
theorem cutD_map (xs : List Str) (lo hi : Option Int) : NK.cutD (xs.map .str) lo hi = (cutG xs lo hi).map .str := by
  unfold NK.cutD cutG
  rw [List.length_map, ← List.map_drop, ← List.map_take]
theorem cutG_sub {α : Type} (xs : List α) (lo hi : Option Int) : (cutG xs lo hi).Sublist xs := (List.take_sublist _ _).trans (List.drop_sublist _ _)
theorem atI_mem {α : Type} {l : List α} {i : Int} (h0 : 0 ≤ i) (h1 : i < l.length) : ∃ d, atI l i = some d ∧ d ∈ l := by
  have hi : i.toNat < l.length := by omega
  refine ⟨l[i.toNat], ?_, List.getElem_mem hi⟩
  unfold atI ixN
  rw [if_pos h0, if_pos h1, Option.bind_some]
  exact List.getElem?_eq_getElem hi
theorem sg_lit {z : Str} (h : PyData.strOk z = true) : Sg z := h
theorem bChanged (C : Fx) (es : List Dt) (m : Cells) (Po : Dt → Cells → Prop) (h : fChanged es m Po) : Sx C (es.map some ++ List.replicate (9 - es.length) none) m (tChanged C.K) (fpost Po) := by
  obtain ⟨s, a, b, c, z, rfl, rfl, ok, hl, hs, q⟩ := h
  show Sx C [some (.ref s), some (.str z), none, none, none, none, none, none, none] _ _ _
  have hw := split_wt z
  have hpos : 1 ≤ (Txt.split z " ").length := PyProof.Rows.split_pos z " "
  have hcnt := split_cnt z " "
  have hsg : ∀ x ∈ Txt.split z " ", Sg x := fun x hx => sg_part hs hx
  unfold tChanged
  refine q_set (ev_digit ?_)
  walk_at "e"
  refine ⟨_, _, _, _, _, _, _, rfl, rfl, ok, by decide, by decide, fun kind a1 b1 c1 k0 k1 ok1 => ?_⟩
  refine q_set (ev_split ?_)
  walk_at "e"
  refine ⟨z, rfl, ?_⟩
  walk_at "e"
  refine ⟨_, rfl, by decide +kernel, szl (by omega), ?_⟩
  refine q_set (ev_digit ?_)
  walk_at "e"
  refine ⟨_, _, _, _, _, _, _, rfl, rfl, ok1, by rw [List.length_map]; omega, by rw [List.length_map]; omega, fun at' a2 b2 c2 t0 t1 ok2 => ?_⟩
  rw [List.length_map] at t1
  refine q_set (ev_lst ?_)
  walk_at "e"
  refine op_mulS (by decide) (by decide) (by decide +kernel) (by decide +kernel) ?_
  walk_at "e"
  refine op_catSS (by rw [strRep_len]; exact szl (by decide +kernel)) ?_
  walk_at "e"
  refine ⟨szl (by simp), ?_⟩
  walk_at "e"
  refine ev_lst ?_
  walk_at "e"
  refine op_mulS (by decide) (by decide) (by decide +kernel) (by decide +kernel) ?_
  refine op_catSS (by rw [strRep_len]; exact szl (by decide +kernel)) ?_
  walk_at "e"
  refine op_mulS (by decide) (by decide) (by decide +kernel) (by decide +kernel) ?_
  refine op_catSS (by rw [strRep_len]; exact szl (by decide +kernel)) ?_
  walk_at "e"
  refine ⟨szl (by simp), op_catLL (szl (by simp)) ?_⟩
  generalize hL : ([Dt.str "0.0", .str "00.1", .str "1.01", .str "7", .str "a.b", .str "", .str "none", .str ".", .str "a.", .str ".1", .str "1.2.3", .str (strRep "9" (Int.toNat 9) ++ ".0"), .str "-1.0"] ++ [Dt.str ("0." ++ strRep "9" (Int.toNat 10)), .str ("1." ++ strRep "7" (Int.toNat 5000)), .str "0.1", .str "A.b c", .str "x..y"]) = L
  have hLl : L.length = 18 := by rw [← hL]; rfl
  have hLm : ∀ d ∈ L, ∃ w : Str, d = .str w ∧ w.length ≤ 5010 ∧ Sg w := by
    intro d hd
    rw [← hL] at hd
    simp only [List.cons_append, List.nil_append, List.mem_cons, List.not_mem_nil, or_false] at hd
    rcases hd with rfl | rfl | rfl | rfl | rfl | rfl | rfl | rfl | rfl | rfl | rfl | rfl | rfl | rfl | rfl | rfl | rfl | rfl
    case inr.inr.inr.inr.inr.inr.inr.inr.inr.inr.inr.inl => exact ⟨_, rfl, by rw [str_app_len, strRep_len]; decide +kernel, sg_app (sg_rep (sg_lit (by decide +kernel)) _) (sg_lit (by decide +kernel))⟩
    case inr.inr.inr.inr.inr.inr.inr.inr.inr.inr.inr.inr.inr.inl => exact ⟨_, rfl, by rw [str_app_len, strRep_len]; decide +kernel, sg_app (sg_lit (by decide +kernel)) (sg_rep (sg_lit (by decide +kernel)) _)⟩
    case inr.inr.inr.inr.inr.inr.inr.inr.inr.inr.inr.inr.inr.inr.inl => exact ⟨_, rfl, by rw [str_app_len, strRep_len]; decide +kernel, sg_app (sg_lit (by decide +kernel)) (sg_rep (sg_lit (by decide +kernel)) _)⟩
    all_goals exact ⟨_, rfl, by decide +kernel, sg_lit (by decide +kernel)⟩
  refine q_set (ev_op (ev_var rfl (ev_digit ?_)))
  walk_at "e"
  refine ⟨_, _, _, _, _, _, _, rfl, rfl, ok2, by rw [hLl]; decide, by rw [hLl]; decide, fun r a3 b3 c3 r0 r1 ok3 => ?_⟩
  obtain ⟨d, hd, hm⟩ := atI_mem (l := L) r0 r1
  obtain ⟨w, rfl, wl, ws⟩ := hLm d hm
  refine op_ixL hd ?_
  -- what is joined again
  have fin : ∀ (l : List Str) (a b c : Int), (∀ x ∈ l, Sg x) → wt l ≤ 2 * z.length + 6000 → Ok3 a b c → (∃ ys : List Str, Dt.lst (l.map .str) = .lst (ys.map .str) ∧ (ys.map (·.length)).sum + ys.length * (" " : Str).length ≤ 16777216 ∧ (fpost Po).rt (.str (Txt.join " " ys)) [⟨s, false, st3 a b c⟩]) := fun l a b c h1 h2 h3 => by
    refine ⟨l, rfl, ?_, _, List.Sublist.refl _, q _ _ _ _ ?_ (sg_join h1) h3⟩
    · rw [blank_len]
      unfold wt at h2
      omega
    · have := joinT_len l
      omega
  have cutOk : ∀ lo hi, (∀ x ∈ cutG (Txt.split z " ") lo hi, Sg x) ∧ wt (cutG (Txt.split z " ") lo hi) ≤ z.length + 1 ∧ (cutG (Txt.split z " ") lo hi).length ≤ z.length + 2 := fun lo hi => by
    have hsub := cutG_sub (Txt.split z " ") lo hi
    exact ⟨fun x hx => hsg x (hsub.subset hx), Nat.le_trans (wt_sub hsub) hw, Nat.le_trans hsub.length_le hcnt⟩
  walk_at "e"
  refine ⟨_, rfl, fun hb => ?_, fun hb => ?_⟩
  · refine sx_ret (ev_join ?_)
    walk_at "e"
    refine ⟨_, rfl, ev_op (ev_slL ?_)⟩
    walk_at "e"
    refine evo_none (evo_some ?_)
    walk_at "e"
    refine ⟨_, rfl, _, rfl, ?_⟩
    rw [cutD_map]
    refine ev_slL ?_
    walk_at "e"
    refine evo_some ?_
    walk_at "e"
    refine ⟨_, rfl, evo_none ⟨_, rfl, ?_⟩⟩
    rw [cutD_map]
    obtain ⟨g1, g2, g3⟩ := cutOk none (some at')
    obtain ⟨g4, g5, g6⟩ := cutOk (some (at' + 1)) none
    refine op_catLL (by rw [List.length_map, List.length_map]; exact szl (by omega)) ?_
    rw [← List.map_append]
    exact fin _ _ _ _ (fun x hx => (List.mem_append.mp hx).elim (g1 x) (g4 x)) (by rw [wt_app]; omega) ok3
  walk_at "e"
  refine ⟨_, rfl, fun hb => ?_, fun hb => ?_⟩
  · refine sx_ret (ev_join ?_)
    walk_at "e"
    refine ⟨_, rfl, ev_op (ev_slL ?_)⟩
    walk_at "e"
    refine evo_none (evo_some ?_)
    walk_at "e"
    refine ⟨_, rfl, _, rfl, ?_⟩
    rw [cutD_map]
    refine ev_slL ?_
    walk_at "e"
    refine evo_some ?_
    walk_at "e"
    refine ⟨_, rfl, evo_none ⟨_, rfl, ?_⟩⟩
    rw [cutD_map]
    obtain ⟨g1, g2, g3⟩ := cutOk none (some (at' + 1))
    obtain ⟨g4, g5, g6⟩ := cutOk (some at') none
    refine op_catLL (by rw [List.length_map, List.length_map]; exact szl (by omega)) ?_
    rw [← List.map_append]
    exact fin _ _ _ _ (fun x hx => (List.mem_append.mp hx).elim (g1 x) (g4 x)) (by rw [wt_app]; omega) ok3
  walk_at "e"
  refine ⟨_, rfl, fun hb => ?_, fun hb => ?_⟩
  · refine q_set (ev_digit ?_)
    walk_at "e"
    refine cl_lenS (szl (by omega)) ?_
    walk_at "e"
    refine ⟨_, _, _, _, _, _, _, rfl, rfl, ok3, by omega, by omega, fun pl a4 b4 c4 p0 p1 ok4 => ?_⟩
    refine q_set (ev_op (ev_lst ?_))
    walk_at "e"
    refine ⟨szl (by simp), ev_digit ?_⟩
    walk_at "e"
    refine ⟨_, _, _, _, _, _, _, rfl, rfl, ok4, by decide, by decide, fun r5 a5 b5 c5 p2 p3 ok5 => ?_⟩
    obtain ⟨d, hd, hm⟩ := atI_mem (l := [Dt.str "", .str " ", .str ".", .str "0", .str "a"]) p2 p3
    obtain ⟨sg, rfl, sl, ss⟩ : ∃ w : Str, d = .str w ∧ w.length ≤ 1 ∧ Sg w := by
      simp only [List.mem_cons, List.not_mem_nil, or_false] at hm
      rcases hm with rfl | rfl | rfl | rfl | rfl <;> exact ⟨_, rfl, by decide +kernel, sg_lit (by decide +kernel)⟩
    refine op_ixL hd ?_
    refine sx_ret (ev_op (ev_op (ev_slS ?_)))
    walk_at "e"
    refine evo_none (evo_some ?_)
    walk_at "e"
    refine ⟨_, rfl, z, rfl, szl (by omega), ?_⟩
    walk_at "e"
    have cl := fun lo hi => cutS_length z lo hi
    refine op_catSS (szl (by have := cl none (some pl); omega)) ?_
    refine ev_slS ?_
    walk_at "e"
    refine evo_some ?_
    walk_at "e"
    refine ⟨_, rfl, evo_none ⟨z, rfl, szl (by omega), ?_⟩⟩
    refine op_catSS (szl (by
      rw [str_app_len]
      have h1 := cl none (some pl)
      have h2 := cl (some (pl + if decide (sg = "") then 1 else 0)) none
      omega)) ?_
    refine ⟨_, List.Sublist.refl _, q _ _ _ _ ?_ ?_ ok5⟩
    · rw [str_app_len, str_app_len]
      have h1 := cl none (some pl)
      have h2 := cl (some (pl + if decide (sg = "") then 1 else 0)) none
      omega
    · exact sg_app (sg_app (sg_cut hs _ _) ss) (sg_cut hs _ _)
  · refine sx_ret (ev_join ?_)
    walk_at "e"
    refine ⟨_, rfl, ev_op (ev_op (ev_slL ?_))⟩
    walk_at "e"
    refine evo_none (evo_some ?_)
    walk_at "e"
    refine ⟨_, rfl, _, rfl, ?_⟩
    rw [cutD_map]
    refine ev_lst ?_
    walk_at "e"
    obtain ⟨g1, g2, g3⟩ := cutOk none (some at')
    refine ⟨szl (by simp), op_catLL (by rw [List.length_map]; exact szl (by simp; omega)) ?_⟩
    refine ev_slL ?_
    walk_at "e"
    refine evo_some ?_
    walk_at "e"
    refine op_iic (by decide) ?_
    walk_at "e"
    refine ⟨_, rfl, evo_none ⟨_, rfl, ?_⟩⟩
    rw [cutD_map]
    obtain ⟨g4, g5, g6⟩ := cutOk (some (at' + kind % 2)) none
    have e1 : (cutG (Txt.split z " ") none (some at')).map Dt.str ++ [Dt.str w] = (cutG (Txt.split z " ") none (some at') ++ [w]).map .str := by rw [List.map_append] <;> rfl
    rw [e1]
    refine op_catLL (by rw [List.length_map, List.length_map, List.length_append, List.length_singleton]; exact szl (by omega)) ?_
    rw [← List.map_append]
    refine fin _ _ _ _ (fun x hx => ?_) ?_ ok3
    · rcases List.mem_append.mp hx with v | v
      · rcases List.mem_append.mp v with v | v
        · exact g1 x v
        · rw [List.mem_singleton.mp v]; exact ws
      · exact g4 x v
    · rw [wt_app, wt_app]
      have : wt [w] = w.length + 1 := by unfold wt; simp
      omega

/-! ### what is read -/
theorem fb_some {α : Type} {p : α → Bool} : ∀ {l : List α} {i : Nat} {x : α}, l[i]? = some x → p x = true → (∀ j y, j < i → l[j]? = some y → p y = false) → l.findIdx? p = some i
  | [], i, x, h, _, _ => by simp at h
  | a :: l, 0, x, h, hp, _ => by
    simp at h
    subst h
    rw [List.findIdx?_cons, hp]
    rfl
  | a :: l, i + 1, x, h, hp, hq => by
    have h0 : p a = false := hq 0 a (Nat.succ_pos _) rfl
    rw [List.findIdx?_cons, h0, fb_some (l := l) (i := i) (x := x) (by simpa using h) hp fun j y hj hy => hq (j + 1) y (by omega) (by simpa using hy)]
    rfl
theorem fb_none {α : Type} {p : α → Bool} : ∀ {l : List α}, (∀ (j : Nat) y, l[j]? = some y → p y = false) → l.findIdx? p = none
  | [], _ => rfl
  | a :: l, h => by
    rw [List.findIdx?_cons, h 0 a rfl, fb_none (l := l) fun j y hy => h (j + 1) y (by simpa using hy)]
    rfl
theorem okNum_digits {x : Str} (h : okNum x = true) : 1 ≤ x.length ∧ x.length ≤ 9 ∧ NumText.AllDigits x.cps.toList := by
  unfold okNum at h
  simp only [Bool.and_eq_true] at h
  obtain ⟨⟨h1, h2⟩, h3⟩ := h
  have h1 := of_decide_eq_true h1
  refine ⟨h1.1, h1.2, fun c hc => ?_⟩
  rw [List.all_eq_true] at h2
  have hm : c ∈ digs := of_decide_eq_true (h2 c hc)
  have : ∀ c ∈ digs, 48 ≤ c ∧ c ≤ 57 := by decide +kernel
  exact this c hm
theorem okNum_int {x : Str} (h : okNum x = true) : PySem.intText? x = some (numOf x) := by
  obtain ⟨h1, h2, h3⟩ := okNum_digits h
  have hne : x.cps.toList ≠ [] := fun e => by
    have : x.length = x.cps.toList.length := TL.len_tl x
    rw [e] at this
    simp at this
    omega
  have e := intText_digits h3 hne (by omega)
  unfold numOf
  rw [e]
  rfl
theorem okNum_empty : okNum "" = false := by decide +kernel
theorem good_two {b : Bool} {p : Str} (h : (Txt.split p ".").length ≠ 2) : goodP b p = false := by
  unfold goodP
  split
  · rename_i x y e
    rw [e] at h
    exact absurd rfl h
  · rfl
theorem good_eq {b : Bool} {p x y : Str} (h : Txt.split p "." = [x, y]) : goodP b p = (!(decide (x = "") || decide (y = "")) && (!b || (okNum x && okNum y))) := by
  unfold goodP
  rw [h]
theorem val_eq {b : Bool} {p x y : Str} (h : Txt.split p "." = [x, y]) : valP b p = if b = true then .tup [.int (numOf x), .int (numOf y)] else .tup [.str x, .str y] := by
  unfold valP
  rw [h]
theorem two_of {l : List Str} (h : l.length = 2) : ∃ x y, l = [x, y] := match l, h with
  | [x, y], _ => ⟨x, y, rfl⟩
/-- the invariant of the readings -/
structure Reads1 (b : Bool) (z : Str) (i : Nat) : Prop where
  all : ∀ j p, j < i → (partsOf z)[j]? = some p → goodP b p = true
theorem reads_bad {b : Bool} {z : Str} {i : Nat} {p : Str} (h : Reads1 b z i) (hz : ¬ (b = true ∧ z = "none")) (hp : (partsOf z)[i]? = some p) (hb : goodP b p = false) : resD b z = .tup [.str "row", .int 0, .int (i : Nat)] := by
  have e : firstBad b z = some i := fb_some hp (by rw [hb]; rfl) fun j y hj hy => by rw [h.all j y hj hy]; rfl
  unfold resD
  rw [if_neg hz, e]
theorem reads_all {b : Bool} {z : Str} (h : Reads1 b z (partsOf z).length) (hz : ¬ (b = true ∧ z = "none")) : resD b z = .lst ((partsOf z).map (valP b)) := by
  have e : firstBad b z = none := fb_none fun j y hy => by
    rw [h.all j y (List.getElem?_eq_some_iff.mp hy).1 hy]
    rfl
  unfold resD
  rw [if_neg hz, e]
theorem reads_next {b : Bool} {z : Str} {i : Nat} {p : Str} (h : Reads1 b z i) (hp : (partsOf z)[i]? = some p) (hg : goodP b p = true) : Reads1 b z (i + 1) := ⟨fun j q hj hq => by
  rcases Nat.lt_or_ge j i with w | w
  · exact h.all j q w hq
  · have e : j = i := by omega
    subst e
    rw [hp] at hq
    cases hq
    exact hg⟩
theorem take_map_next {α β : Type} {l : List α} {f : α → β} {i : Nat} {x : α} (h : l[i]? = some x) : (l.take (i + 1)).map f = (l.take i).map f ++ [f x] := by
  rw [List.take_add_one, h, List.map_append]
  rfl
theorem parts_le (z : Str) : (partsOf z).length ≤ z.length + 2 := split_cnt z " "
theorem ev_figs {C : Fx} {g : Gam} {m : Cells} {ta : TA} {P : Dt → Cells → Prop} {E : XK} (h : EvA C g m ta fun es m1 => ∃ z : Str, es = [.str z] ∧ z.length ≤ 100000 ∧ P (.bl (okNum z)) m1) : Ev C g m (tCall (spOf C.K fIsFigures) [] E ta) P :=
  ev_call0 fun B S σ vs H rl Q q => h B S σ vs H rl Q fun ws es m1 H1 r1 hl ⟨z, e, hz, p⟩ => q ws es m1 H1 r1 hl ⟨z, e, rfl, hz, rfl, p⟩
theorem ev_numb {C : Fx} {g : Gam} {m : Cells} {ta : TA} {P : Dt → Cells → Prop} {E : XK} (h : EvA C g m ta fun es m1 => ∃ z : Str, es = [.str z] ∧ z.length ≤ 100000 ∧ Sg z ∧ P (.bl (okNum z)) m1) : Ev C g m (tCall (spOf C.K fIsNumber) [] E ta) P :=
  ev_call0 fun B S σ vs H rl Q q => h B S σ vs H rl Q fun ws es m1 H1 r1 hl ⟨z, e, hz, hs, p⟩ => q ws es m1 H1 r1 hl ⟨z, e, rfl, hz, hs, rfl, p⟩
theorem ev_pairs {C : Fx} {g : Gam} {m : Cells} {ta : TA} {P : Dt → Cells → Prop} {E : XK} (h : EvA C g m ta fun es m1 => ∃ z : Str, es = [.str z] ∧ z.length ≤ 100000 ∧ P (.lst (enumD ((partsOf z).map fun p => .lst ((Txt.split p ".").map .str)))) m1) : Ev C g m (tCall (spOf C.K fPairsIn) [] E ta) P :=
  ev_call0 fun B S σ vs H rl Q q => h B S σ vs H rl Q fun ws es m1 H1 r1 hl ⟨z, e, hz, p⟩ => q ws es m1 H1 r1 hl ⟨z, e, rfl, hz, rfl, p⟩
theorem pair_get {z : Str} {i : Nat} {x : Dt} (h : (enumD ((partsOf z).map fun p => .lst ((Txt.split p ".").map .str)))[i]? = some x) : ∃ p, (partsOf z)[i]? = some p ∧ x = .tup [.int (i : Nat), .lst ((Txt.split p ".").map .str)] ∧ p.length ≤ z.length := by
  obtain ⟨y, hy, rfl⟩ := enumD_get h
  rw [List.getElem?_map] at hy
  cases w : (partsOf z)[i]? with
  | none => rw [w] at hy; cases hy
  | some p =>
    rw [w] at hy
    cases hy
    exact ⟨p, rfl, rfl, PyProof.Rows.part_short (List.mem_of_getElem? w)⟩
theorem bReadMoves (C : Fx) (c : Addr) (es : List Dt) (m : Cells) (Po : Dt → Cells → Prop) (Xp : Addr → List (Str × Dt) → Cells → Prop) (E : XK) (hd : ExD C.K c ["row", "place"]) (h : fReadMoves c es m Po Xp) (hE : XOkE C E (fun Cc ds m' => ∃ m2, m2.Sublist m' ∧ Xp Cc ds m2)) :
    Sx C (es.map some ++ List.replicate (4 - es.length) none) m (tReadMoves C.K c E) (fpost Po) := by
  obtain ⟨z, rfl, rfl, hl, q, qx⟩ := h
  show Sx C [some (.str z), none, none, none] _ _ _
  unfold tReadMoves
  walk_at "e"
  refine ⟨_, rfl, fun hb => ?_, fun hb => ?_⟩
  · have e : z = "none" := of_decide_eq_true hb
    refine sx_ret (ev_lstM ?_)
    walk_at "e"
    refine ⟨Nat.zero_le _, fun a => ⟨_, List.Sublist.refl _, q [] ?_ a⟩⟩
    unfold resD
    rw [if_pos ⟨rfl, e⟩]
  have hz : ¬ (true = true ∧ z = "none") := fun w => by
    rw [decide_eq_true w.2] at hb
    cases hb
  refine q_set (ev_lstM ?_)
  walk_at "e"
  refine ⟨Nat.zero_le _, fun a => ?_⟩
  refine sx_seq (sx_for (evi_list (ev_pairs ?_)))
  walk_at "e"
  refine ⟨z, rfl, hl, _, rfl, fun i g m => ∃ d2 d3, g = [some (.str z), some (.ref a), d2, d3] ∧ m = [⟨a, true, .lst (((partsOf z).take i).map (valP true))⟩] ∧ Reads1 true z i, ⟨none, none, rfl, rfl, ⟨fun j p hj _ => absurd hj (Nat.not_lt_zero _)⟩⟩, fun i x g m hx hW => ?_, fun g m hW => ?_⟩
  · obtain ⟨d2, d3, rfl, rfl, hr⟩ := hW
    obtain ⟨p, hp, rfl, hpl⟩ := pair_get hx
    refine tg_tup2 ?_
    have bad : goodP true p = false → ∀ m', m' = ([⟨a, true, .lst (((partsOf z).take i).map (valP true))⟩] : Cells) → Sx C [some (.str z), some (.ref a), some (.int (i : Nat)), some (.lst ((Txt.split p ".").map .str))] m' (tRaiseO C.K c ["row", "place"] E (tCons (tC (.int 0)) (tCons (tVar 2) tNil))) { nx := fun g' m' => Sx C g' m' (tDrop (tBM C.K "list" rAppend (tVar 1) (tCons (tTup (tCons (tCB rIntStr (tCons (tOp (rIxL C.K) (tVar 3) (tC (.int 0))) tNil)) (tCons (tCB rIntStr (tCons (tOp (rIxL C.K) (tVar 3) (tC (.int 1))) tNil)) tNil))) tNil))) { nx := fun g m => ∃ d2 d3, g = [some (.str z), some (.ref a), d2, d3] ∧ m = [⟨a, true, .lst (((partsOf z).take (i + 1)).map (valP true))⟩] ∧ Reads1 true z (i + 1), rt := (fpost Po).rt, bk := fun g' m' => Sx C g' m' (tRet (tVar 1)) (fpost Po), ct := fun g m => ∃ d2 d3, g = [some (.str z), some (.ref a), d2, d3] ∧ m = [⟨a, true, .lst (((partsOf z).take (i + 1)).map (valP true))⟩] ∧ Reads1 true z (i + 1) }, rt := (fpost Po).rt, bk := fun g' m' => Sx C g' m' (tRet (tVar 1)) (fpost Po), ct := fun g m => ∃ d2 d3, g = [some (.str z), some (.ref a), d2, d3] ∧ m = [⟨a, true, .lst (((partsOf z).take (i + 1)).map (valP true))⟩] ∧ Reads1 true z (i + 1) } := fun hbad m' em => by
      subst em
      refine sx_raise hE hd.T hd.no ?_
      walk_at "e"
      exact ⟨rfl, by simp, [], List.nil_sublist _, qx _ (reads_bad hr hz hp hbad)⟩
    refine q_when (evt_or ?_)
    walk_at "e"
    refine ⟨_, rfl, ?_⟩
    rw [List.length_map]
    refine ⟨fun h2 => ⟨fun _ => bad (good_two fun e => ?_) _ rfl, fun w => by cases w⟩, fun h2 => ?_⟩
    · rw [e] at h2
      cases h2
    have hlen : (Txt.split p ".").length = 2 := by
      have : decide (((Txt.split p ".").length : Int) = 2) = true := by
        cases w : decide (((Txt.split p ".").length : Int) = 2) with
        | true => rfl
        | false => rw [w] at h2; cases h2
      have := of_decide_eq_true this
      omega
    obtain ⟨x, y, exy⟩ := two_of hlen
    have hxl : x.length ≤ p.length := PyProof.Rows.part_short (y := ".") (by rw [exy]; simp)
    have hyl : y.length ≤ p.length := PyProof.Rows.part_short (y := ".") (by rw [exy]; simp)
    rw [exy] at bad ⊢
    refine evt_or (evt_not (evt_B (ev_figs ?_)))
    walk_at "e"
    refine op_ixL (d := .str x) rfl ?_
    walk_at "e"
    refine ⟨x, rfl, by omega, _, rfl, fun h3 => ⟨fun _ => bad ?_ _ rfl, fun w => by cases w⟩, fun h3 => ?_⟩
    · rw [good_eq exy]
      have : okNum x = false := by simpa using h3
      rw [this]
      simp
    have ox : okNum x = true := by simpa using h3
    refine evt_not (evt_B (ev_figs ?_))
    walk_at "e"
    refine op_ixL (d := .str y) rfl ?_
    walk_at "e"
    refine ⟨y, rfl, by omega, _, rfl, fun h4 => bad ?_ _ rfl, fun h4 => ?_⟩
    · rw [good_eq exy]
      have : okNum y = false := by simpa using h4
      rw [this]
      simp
    have oy : okNum y = true := by simpa using h4
    obtain ⟨x1, x2, _⟩ := okNum_digits ox
    obtain ⟨y1, y2, _⟩ := okNum_digits oy
    have hg : goodP true p = true := by
      rw [good_eq exy, ox, oy]
      have nx : x ≠ "" := fun w => by rw [w, okNum_empty] at ox; cases ox
      have ny : y ≠ "" := fun w => by rw [w, okNum_empty] at oy; cases oy
      rw [decide_eq_false nx, decide_eq_false ny]
      rfl
    refine sx_drop (ev_append ?_)
    walk_at "e"
    refine ⟨⟨0, _, _, _, rfl, rfl⟩, ?_⟩
    walk_at "e"
    refine op_ixL (d := .str x) rfl ?_
    walk_at "e"
    refine cl_intS (okNum_int ox) (by omega) ?_
    walk_at "e"
    refine op_ixL (d := .str y) rfl ?_
    walk_at "e"
    refine cl_intS (okNum_int oy) (by omega) ?_
    walk_at "e"
    refine ⟨szl (by simp), 0, _, _, _, rfl, rfl, ?_, ?_⟩
    · rw [List.length_map, List.length_take]
      have := parts_le z
      exact Nat.lt_of_lt_of_le (show _ < 200000 by omega) (szl (by omega))
    · refine ⟨_, _, rfl, ?_, reads_next hr hp hg⟩
      rw [take_map_next hp, val_eq exy, if_pos rfl]
      rfl
  · obtain ⟨d2, d3, rfl, rfl, hr⟩ := hW
    rw [enumD_len, List.length_map] at hr
    rw [enumD_len, List.length_map, List.take_length]
    walk_at "e"
    exact ⟨_, List.Sublist.refl _, q _ (reads_all hr hz) a⟩

theorem in_pair {x y : Str} : decide (("" : Str) ∈ [x, y]) = (decide (x = "") || decide (y = "")) := by
  by_cases h1 : x = ""
  · subst h1; simp
  · by_cases h2 : y = ""
    · subst h2; simp
    · rw [decide_eq_false h1, decide_eq_false h2, decide_eq_false]
      · rfl
      · intro h
        simp only [List.mem_cons, List.not_mem_nil, or_false] at h
        rcases h with h | h
        · exact h1 h.symm
        · exact h2 h.symm
theorem bReadWishes (C : Fx) (c : Addr) (es : List Dt) (m : Cells) (Po : Dt → Cells → Prop) (Xp : Addr → List (Str × Dt) → Cells → Prop) (E : XK) (hd : ExD C.K c ["row", "place"]) (h : fReadWishes c es m Po Xp) (hE : XOkE C E (fun Cc ds m' => ∃ m2, m2.Sublist m' ∧ Xp Cc ds m2)) :
    Sx C (es.map some ++ List.replicate (4 - es.length) none) m (tReadWishes C.K c E) (fpost Po) := by
  obtain ⟨z, rfl, rfl, hl, q, qx⟩ := h
  show Sx C [some (.str z), none, none, none] _ _ _
  unfold tReadWishes
  have hz : ¬ (false = true ∧ z = "none") := fun w => by cases w.1
  refine q_set (ev_lstM ?_)
  walk_at "e"
  refine ⟨Nat.zero_le _, fun a => ?_⟩
  refine sx_seq (sx_for (evi_list (ev_pairs ?_)))
  walk_at "e"
  refine ⟨z, rfl, hl, _, rfl, fun i g m => ∃ d2 d3, g = [some (.str z), some (.ref a), d2, d3] ∧ m = [⟨a, true, .lst (((partsOf z).take i).map (valP false))⟩] ∧ Reads1 false z i, ⟨none, none, rfl, rfl, ⟨fun j p hj _ => absurd hj (Nat.not_lt_zero _)⟩⟩, fun i x g m hx hW => ?_, fun g m hW => ?_⟩
  · obtain ⟨d2, d3, rfl, rfl, hr⟩ := hW
    obtain ⟨p, hp, rfl, hpl⟩ := pair_get hx
    refine tg_tup2 ?_
    refine q_when (evt_or ?_)
    walk_at "e"
    refine ⟨_, rfl, ?_⟩
    rw [List.length_map]
    refine ⟨fun h2 => ⟨fun _ => ?_, fun w => by cases w⟩, fun h2 => ?_⟩
    · refine sx_raise hE hd.T hd.no ?_
      walk_at "e"
      refine ⟨rfl, by simp, [], List.nil_sublist _, qx _ (reads_bad hr hz hp (good_two fun e => ?_))⟩
      rw [e] at h2
      cases h2
    have hlen : (Txt.split p ".").length = 2 := by
      have : decide (((Txt.split p ".").length : Int) = 2) = true := by
        cases w : decide (((Txt.split p ".").length : Int) = 2) with
        | true => rfl
        | false => rw [w] at h2; cases h2
      have := of_decide_eq_true this
      omega
    obtain ⟨x, y, exy⟩ := two_of hlen
    rw [exy]
    walk_at "e"
    refine op_inL (ys := [x, y]) ?_
    rw [in_pair]
    have ge : goodP false p = !(decide (x = "") || decide (y = "")) := by
      rw [good_eq exy]
      simp
    refine ⟨_, rfl, fun h3 => ?_, fun h3 => ?_⟩
    · refine sx_raise hE hd.T hd.no ?_
      walk_at "e"
      refine ⟨rfl, by simp, [], List.nil_sublist _, qx _ (reads_bad hr hz hp ?_)⟩
      rw [ge, h3]
      rfl
    have hg : goodP false p = true := by rw [ge, h3]; rfl
    refine sx_drop (ev_append ?_)
    walk_at "e"
    refine ⟨⟨0, _, _, _, rfl, rfl⟩, ?_⟩
    walk_at "e"
    refine op_ixL (d := .str x) rfl ?_
    walk_at "e"
    refine op_ixL (d := .str y) rfl ?_
    walk_at "e"
    refine ⟨szl (by simp), 0, _, _, _, rfl, rfl, ?_, ?_⟩
    · rw [List.length_map, List.length_take]
      have := parts_le z
      exact Nat.lt_of_lt_of_le (show _ < 200000 by omega) (szl (by omega))
    · refine ⟨_, _, rfl, ?_, reads_next hr hp hg⟩
      rw [take_map_next hp, val_eq exy, if_neg (by decide)]
      rfl
  · obtain ⟨d2, d3, rfl, rfl, hr⟩ := hW
    rw [enumD_len, List.length_map] at hr
    rw [enumD_len, List.length_map, List.take_length]
    walk_at "e"
    exact ⟨_, List.Sublist.refl _, q _ (reads_all hr hz) a⟩
theorem res_cases (b : Bool) (z : Str) : (∃ ds, resD b z = .lst ds) ∨ ∃ k : Nat, resD b z = .tup [.str "row", .int 0, .int (k : Nat)] := by
  unfold resD
  split
  · exact .inl ⟨_, rfl⟩
  · cases firstBad b z with
    | some k => exact .inr ⟨k, rfl⟩
    | none => exact .inl ⟨_, rfl⟩
theorem bTold (C : Fx) (c : Addr) (es : List Dt) (m : Cells) (Po : Dt → Cells → Prop) (hd : ExD C.K c ["row", "place"]) (h : fTold es m Po) :
    Sx C (es.map some ++ List.replicate (3 - es.length) none) m (tTold C.K c) (fpost Po) := by
  obtain ⟨z, b, rfl, rfl, hl, q1, q2⟩ := h
  show Sx C [some (.str z), some (.bl b), none] _ _ _
  unfold tTold
  refine sx_tryAs (Xp := fun g Cc ds m => Cc = c ∧ g = [some (.str z), some (.bl b), none] ∧ m = [] ∧ ∃ k, ds = badFs k ∧ resD b z = .tup [.str "row", .int 0, .int k]) (sxx_seq (t := fun W => tIfS (tB (tVar 1)) (tRet (tCallS (spOfX C.K (fReadMoves c)) (WE W) (tCons (tVar 0) tNil))) tNext) (sxx_if (t := fun W => tRet (tCallS (spOfX C.K (fReadMoves c)) (WE W) (tCons (tVar 0) tNil))) (u := fun _ => tNext) ?_)) ?_
  · walk_at "e"
    refine ⟨b, rfl, fun hb => ?_, fun hb => ?_⟩
    · subst hb
      refine sxx_ret (evx_call 0 ?_)
      walk_at "e"
      refine ⟨Nat.zero_le _, fun d m' => ∃ a ds, d = .ref a ∧ m' = [⟨a, true, .lst ds⟩] ∧ resD true z = .lst ds, fun Cc ds m' => Cc = c ∧ m' = [] ∧ ∃ k, ds = badFs k ∧ resD true z = .tup [.str "row", .int 0, .int k],
        ⟨z, rfl, rfl, hl, fun ds e a => ⟨a, ds, rfl, rfl, e⟩, fun k e => ⟨rfl, rfl, k, rfl, e⟩⟩, fun d m' hR => ?_, fun Cc ds m' hR => ?_⟩
      · obtain ⟨a, ds, rfl, rfl, e⟩ := hR
        refine ⟨Nat.zero_le _, rfl, fun e he => (by rw [List.mem_singleton.mp he]), _, List.Sublist.refl _, q1 ds e a⟩
      · obtain ⟨rfl, rfl, k, rfl, e⟩ := hR
        exact ⟨Nat.zero_le _, rfl, fun e he => (by cases he), rfl, rfl, rfl, k, rfl, e⟩
    · subst hb
      refine sxx_of (sx_next ?_)
      refine sxx_ret (evx_call 0 ?_)
      walk_at "e"
      refine ⟨Nat.zero_le _, fun d m' => ∃ a ds, d = .ref a ∧ m' = [⟨a, true, .lst ds⟩] ∧ resD false z = .lst ds, fun Cc ds m' => Cc = c ∧ m' = [] ∧ ∃ k, ds = badFs k ∧ resD false z = .tup [.str "row", .int 0, .int k],
        ⟨z, rfl, rfl, hl, fun ds e a => ⟨a, ds, rfl, rfl, e⟩, fun k e => ⟨rfl, rfl, k, rfl, e⟩⟩, fun d m' hR => ?_, fun Cc ds m' hR => ?_⟩
      · obtain ⟨a, ds, rfl, rfl, e⟩ := hR
        refine ⟨Nat.zero_le _, rfl, fun e he => (by rw [List.mem_singleton.mp he]), _, List.Sublist.refl _, q1 ds e a⟩
      · obtain ⟨rfl, rfl, k, rfl, e⟩ := hR
        exact ⟨Nat.zero_le _, rfl, fun e he => (by cases he), rfl, rfl, rfl, k, rfl, e⟩
  · intro g' Cc ds m' ⟨e1, e2, e3, k, e4, e5⟩
    subst e1 e2 e3 e4
    refine ⟨hd.te, fun a d => ?_⟩
    refine sx_ret ?_
    walk_at "e"
    refine ev_xf (ds := badFs k) (x := .int 0) ?_
    walk_at "e"
    refine ⟨rfl, rfl, ?_⟩
    walk_at "e"
    refine ev_xf (ds := badFs k) (x := .int k) ?_
    walk_at "e"
    refine ⟨rfl, rfl, ?_⟩
    walk_at "e"
    exact ⟨szl (by simp), _, List.Sublist.refl _, q2 _ e5⟩
theorem bDue (C : Fx) (es : List Dt) (m : Cells) (Po : Dt → Cells → Prop) (h : fDue es m Po) : Sx C (es.map some ++ List.replicate (8 - es.length) none) m (tDue C.K) (fpost Po) := by
  obtain ⟨z, b, rfl, rfl, hl, hs, q⟩ := h
  show Sx C [some (.str z), some (.bl b), none, none, none, none, none, none] _ _ _
  unfold tDue
  refine q_when (evt_andP b (decide (z = "none")) ?_ (fun hb => ?_) ⟨fun hb => ?_, fun hb => ?_⟩)
  · walk_at "e"
    exact ⟨b, rfl, rfl, rfl⟩
  · walk_at "e"
    exact ⟨_, rfl, rfl, rfl⟩
  · refine sx_ret (ev_lst ?_)
    walk_at "e"
    refine ⟨Nat.zero_le _, [], List.Sublist.refl _, ?_⟩
    have e : resD b z = .lst [] := by
      simp only [Bool.and_eq_true, decide_eq_true_eq] at hb
      unfold resD
      rw [if_pos hb]
    rw [← e]
    exact q
  have hz : ¬ (b = true ∧ z = "none") := fun w => by
    rw [w.1, decide_eq_true w.2] at hb
    cases hb
  refine q_set (ev_lstM ?_)
  walk_at "e"
  refine ⟨Nat.zero_le _, fun a => ?_⟩
  refine sx_seq (sx_for (evi_enum (eva_cons (ev_split ?_))))
  walk_at "e"
  refine ⟨z, rfl, ?_⟩
  walk_at "e"
  refine ⟨_, rfl, by decide +kernel, szl (by omega), ?_⟩
  walk_at "e"
  refine ⟨_, rfl, fun i g m => ∃ d3 d4 d5, g = [some (.str z), some (.bl b), some (.ref a), d3, d4, d5, none, none] ∧ m = [⟨a, true, .lst (((partsOf z).take i).map (valP false))⟩] ∧ Reads1 b z i, ⟨none, none, none, rfl, rfl, ⟨fun j p hj _ => absurd hj (Nat.not_lt_zero _)⟩⟩, fun i x g m hx hW => ?_, fun g m hW => ?_⟩
  · obtain ⟨d3, d4, d5, rfl, rfl, hr⟩ := hW
    obtain ⟨y, hy, rfl⟩ := enumD_get hx
    rw [List.getElem?_map] at hy
    obtain ⟨p, hp, rfl⟩ : ∃ p, (partsOf z)[i]? = some p ∧ Dt.str p = y := by
      cases w : (Txt.split z " ")[i]? with
      | none => rw [w] at hy; cases hy
      | some p =>
        rw [w] at hy
        exact ⟨p, w, Option.some.inj hy⟩
    have hpl : p.length ≤ z.length := PyProof.Rows.part_short (List.mem_of_getElem? hp)
    have hps : Sg p := sg_part hs (List.mem_of_getElem? hp)
    refine tg_tup2 (q_set (ev_split ?_))
    walk_at "e"
    refine ⟨p, rfl, ?_⟩
    walk_at "e"
    refine ⟨_, rfl, by decide +kernel, szl (by omega), ?_⟩
    have bad : goodP b p = false → (fpost Po).rt (.tup [.str "row", .int 0, .int (i : Nat)]) [⟨a, true, .lst (((partsOf z).take i).map (valP false))⟩] := fun hbad => by
      refine ⟨[], List.nil_sublist _, ?_⟩
      rw [← reads_bad hr hz hp hbad]
      exact q
    refine q_when (evt_or ?_)
    walk_at "e"
    refine ⟨_, rfl, ?_⟩
    rw [List.length_map]
    refine ⟨fun h2 => ⟨fun _ => ?_, fun w => by cases w⟩, fun h2 => ?_⟩
    · walk_at "e"
      refine ⟨szl (by simp), bad (good_two fun e => ?_)⟩
      rw [e] at h2
      cases h2
    have hlen : (Txt.split p ".").length = 2 := by
      have : decide (((Txt.split p ".").length : Int) = 2) = true := by
        cases w : decide (((Txt.split p ".").length : Int) = 2) with
        | true => rfl
        | false => rw [w] at h2; cases h2
      have := of_decide_eq_true this
      omega
    obtain ⟨x, y, exy⟩ := two_of hlen
    have hxl : x.length ≤ p.length := PyProof.Rows.part_short (y := ".") (by rw [exy]; simp)
    have hyl : y.length ≤ p.length := PyProof.Rows.part_short (y := ".") (by rw [exy]; simp)
    have hxs : Sg x := sg_part (y := ".") hps (by rw [exy]; simp)
    have hys : Sg y := sg_part (y := ".") hps (by rw [exy]; simp)
    rw [exy]
    walk_at "e"
    refine op_inL (ys := [x, y]) ?_
    rw [in_pair]
    refine ⟨_, rfl, fun h3 => ?_, fun h3 => ?_⟩
    · walk_at "e"
      refine ⟨szl (by simp), bad ?_⟩
      rw [good_eq exy, h3]
      rfl
    refine q_when (evt_andP b (!(okNum x && okNum y)) ?_ (fun hb => evt_not (evt_andP (okNum x) (okNum y) ?_ (fun hx => ?_) ⟨rfl, rfl⟩)) ⟨fun h4 => ?_, fun h4 => ?_⟩)
    · walk_at "e"
      exact ⟨b, rfl, rfl, rfl⟩
    · refine evt_B (ev_numb ?_)
      walk_at "e"
      refine op_ixL (d := .str x) rfl ?_
      walk_at "e"
      exact ⟨x, rfl, by omega, hxs, _, rfl, rfl, rfl⟩
    · refine evt_B (ev_numb ?_)
      walk_at "e"
      refine op_ixL (d := .str y) rfl ?_
      walk_at "e"
      exact ⟨y, rfl, by omega, hys, _, rfl, rfl, rfl⟩
    · walk_at "e"
      refine ⟨szl (by simp), bad ?_⟩
      simp only [Bool.and_eq_true] at h4
      rw [good_eq exy, h3, h4.1]
      have h5 : (okNum x && okNum y) = false := by
        cases w : (okNum x && okNum y) with
        | false => rfl
        | true => rw [w] at h4; cases h4.2
      rw [h5]
      rfl
    have hg : goodP b p = true := by
      rw [good_eq exy, h3]
      cases b with
      | false => rfl
      | true =>
        have h5 : (okNum x && okNum y) = true := by
          cases w : (okNum x && okNum y) with
          | true => rfl
          | false => rw [w] at h4; cases h4
        rw [h5]
        rfl
    refine sx_drop (ev_append ?_)
    walk_at "e"
    refine ⟨⟨0, _, _, _, rfl, rfl⟩, ?_⟩
    walk_at "e"
    refine op_ixL (d := .str x) rfl ?_
    walk_at "e"
    refine op_ixL (d := .str y) rfl ?_
    walk_at "e"
    refine ⟨szl (by simp), 0, _, _, _, rfl, rfl, ?_, ?_⟩
    · rw [List.length_map, List.length_take]
      have := parts_le z
      exact Nat.lt_of_lt_of_le (show _ < 200000 by omega) (szl (by omega))
    · refine ⟨_, _, _, rfl, ?_, reads_next hr hp hg⟩
      rw [take_map_next hp, val_eq exy, if_neg (by decide)]
      rfl
  · obtain ⟨d3, d4, d5, rfl, rfl, hr⟩ := hW
    rw [enumD_len, List.length_map] at hr ⊢
    have hr : Reads1 b z (partsOf z).length := hr
    rw [show (partsOf z).take (Txt.split z " ").length = partsOf z from List.take_length]
    refine sx_freeze 0 rfl (.cons (.cons (.here (.cons (.cons (.cons (.cons (.cons .nil)))))))) ?_
    show Sx C [some (.str z), some (.bl b), some (.lst ((partsOf z).map (valP false))), d3, d4, d5, none, none] [] _ _
    refine q_when ?_
    walk_at "e"
    refine ⟨b, rfl, fun hb => ?_, fun hb => ?_⟩
    · subst hb
      refine sx_ret (ev_lcM (js := [6, 7]) fills_tup2 (fun j hj => hj) (evi_list ?_))
      walk_at "e"
      refine ⟨_, rfl, ?_, fun d => match d with | .tup [.str x, .str y] => .tup [.int (numOf x), .int (numOf y)] | _ => .non, fun d hd mm => ?_, [], List.Sublist.refl _, ?_⟩
      · rw [List.length_map]
        have := parts_le z
        exact Nat.lt_of_lt_of_le (show _ < 200000 by omega) (szl (by omega))
      · obtain ⟨p, hpm, rfl⟩ := List.mem_map.mp hd
        obtain ⟨j, hj⟩ := List.mem_iff_getElem?.mp hpm
        have hg := hr.all j p (List.getElem?_eq_some_iff.mp hj).1 hj
        have hlen : (Txt.split p ".").length = 2 := by
          by_cases w : (Txt.split p ".").length = 2
          · exact w
          · rw [good_two w] at hg; cases hg
        obtain ⟨x, y, exy⟩ := two_of hlen
        rw [good_eq exy] at hg
        simp only [Bool.not_true, Bool.false_or, Bool.and_eq_true] at hg
        obtain ⟨x1, x2, _⟩ := okNum_digits hg.2.1
        obtain ⟨y1, y2, _⟩ := okNum_digits hg.2.2
        rw [val_eq exy, if_neg (by decide)]
        refine tg_tup2 ?_
        walk_at "e"
        refine cl_intS (okNum_int hg.2.1) (by omega) ?_
        walk_at "e"
        refine cl_intS (okNum_int hg.2.2) (by omega) ?_
        walk_at "e"
        exact ⟨szl (by simp), rfl, rfl⟩
      · have e : (((partsOf z).map (valP false)).map fun d => match d with | .tup [.str x, .str y] => Dt.tup [.int (numOf x), .int (numOf y)] | _ => .non) = (partsOf z).map (valP true) := by
          rw [List.map_map]
          refine List.map_congr_left fun p hpm => ?_
          obtain ⟨j, hj⟩ := List.mem_iff_getElem?.mp hpm
          have hg := hr.all j p (List.getElem?_eq_some_iff.mp hj).1 hj
          have hlen : (Txt.split p ".").length = 2 := by
            by_cases w : (Txt.split p ".").length = 2
            · exact w
            · rw [good_two w] at hg; cases hg
          obtain ⟨x, y, exy⟩ := two_of hlen
          show (match valP false p with | .tup [.str x, .str y] => Dt.tup [.int (numOf x), .int (numOf y)] | _ => .non) = valP true p
          rw [val_eq exy, val_eq exy, if_neg (by decide), if_pos rfl]
        rw [e, ← reads_all hr hz]
        exact q
    · subst hb
      walk_at "e"
      refine ⟨[], List.Sublist.refl _, ?_⟩
      rw [← reads_all hr hz]
      exact q

/-! ### what is written is read back -/
theorem numL_head : ∀ n : Nat, 0 < n → (TL.numL n).headD 0 ≠ 48 := by
  intro n
  induction n using Nat.strongRecOn with
  | ind n ih =>
    intro h
    by_cases h10 : n < 10
    · rw [TL.numL_lt h10]
      show 48 + n ≠ 48
      omega
    · rw [TL.numL_step (by omega)]
      have := ih (n / 10) (by omega) (by omega)
      cases w : TL.numL (n / 10) with
      | nil => exact absurd w (TL.numL_ne _)
      | cons c r =>
        rw [w] at this
        exact this
theorem num_tl (n : Nat) : (Str.ofString (toString ((n : Nat) : Int))).cps.toList = TL.numL n := TL.tl_num n
theorem okNum_num {n : Nat} (h : n < 10 ^ 9) : okNum (Str.ofString (toString ((n : Nat) : Int))) = true := by
  have hl := num_len h
  have h1 : 1 ≤ (Str.ofString (toString ((n : Nat) : Int))).length := by
    rw [TL.len_tl, TL.tl_num]
    exact List.length_pos_iff.mpr (TL.numL_ne n)
  unfold okNum
  rw [decide_eq_true ⟨h1, hl⟩, num_tl]
  have hall : ((TL.numL n).all fun c => decide (c ∈ digs)) = true := by
    rw [List.all_eq_true]
    intro c hc
    have := TL.numL_digits n c hc
    have hd : ∀ k, k < 10 → 48 + k ∈ digs := by decide +kernel
    have h2 := hd (c - 48) (by omega)
    rw [show 48 + (c - 48) = c by omega] at h2
    exact decide_eq_true h2
  rw [hall, Bool.true_and, Bool.true_and]
  by_cases hz : n = 0
  · subst hz
    decide +kernel
  · rw [decide_eq_false (p := (⟨#[(TL.numL n).headD 0]⟩ : Str) = "0"), Bool.not_false, Bool.or_true]
    intro e
    have e2 : (#[(TL.numL n).headD 0] : Array Nat) = #[48] := congrArg Str.cps e
    have e3 : (TL.numL n).headD 0 = 48 := by simpa using e2
    exact numL_head n (by omega) e3
theorem numOf_num {n : Nat} (h : n < 10 ^ 9) : numOf (Str.ofString (toString ((n : Nat) : Int))) = (n : Nat) := by
  unfold numOf
  rw [TL.int_num (by
    have := TL.numL_len (n := n) (k := 9) (by decide) h
    omega)]
  rfl
theorem dot_tl : TL.tl ("." : Str) = 46 :: [] := by decide +kernel
theorem blank_tl : TL.tl (" " : Str) = 32 :: [] := by decide +kernel
theorem split_dot {x y : Str} (hx : 46 ∉ TL.tl x) (hy : 46 ∉ TL.tl y) : Txt.split ((x ++ "." : Str) ++ y) "." = [x, y] := by
  have e : (x ++ "." : Str) ++ y = Txt.join "." [x, y] := by
    rw [TL.join_eq]
    rfl
  rw [e]
  refine TL.split_join dot_tl (by decide +kernel) (by simp) fun p hp => ?_
  simp only [List.mem_cons, List.not_mem_nil, or_false] at hp
  rcases hp with rfl | rfl
  · exact hx
  · exact hy
theorem split_mv (p : Nat × Nat) : Txt.split (mvT p) "." = [Str.ofString (toString ((p.1 : Nat) : Int)), Str.ofString (toString ((p.2 : Nat) : Int))] := by
  unfold mvT
  refine split_dot ?_ ?_
  · rw [TL.tl_num]; exact TL.numL_free (.inl (by decide))
  · rw [TL.tl_num]; exact TL.numL_free (.inl (by decide))
theorem mv_good {p : Nat × Nat} (h1 : p.1 < 10 ^ 9) (h2 : p.2 < 10 ^ 9) : goodP true (mvT p) = true ∧ valP true (mvT p) = mvD p := by
  have o1 := okNum_num h1
  have o2 := okNum_num h2
  constructor
  · rw [good_eq (split_mv p), o1, o2]
    have n1 : Str.ofString (toString ((p.1 : Nat) : Int)) ≠ "" := fun w => by rw [w, okNum_empty] at o1; cases o1
    have n2 : Str.ofString (toString ((p.2 : Nat) : Int)) ≠ "" := fun w => by rw [w, okNum_empty] at o2; cases o2
    rw [decide_eq_false n1, decide_eq_false n2]
    rfl
  · rw [val_eq (split_mv p), if_pos rfl, numOf_num h1, numOf_num h2]
    rfl
theorem mv_noblank (p : Nat × Nat) : 32 ∉ TL.tl (mvT p) := by
  unfold mvT
  intro h
  rcases app_mem h with w | w
  · rcases app_mem w with v | v
    · have : 32 ∈ TL.tl (Str.ofString (toString ((p.1 : Nat) : Int))) := v
      rw [TL.tl_num] at this
      exact TL.numL_free (.inl (by decide)) this
    · have : 32 ∈ TL.tl ("." : Str) := v
      rw [dot_tl] at this
      simp at this
  · have : 32 ∈ TL.tl (Str.ofString (toString ((p.2 : Nat) : Int))) := w
    rw [TL.tl_num] at this
    exact TL.numL_free (.inl (by decide)) this
theorem mv_dot (p : Nat × Nat) : 46 ∈ TL.tl (mvT p) := by
  unfold mvT
  rw [TL.tl_append, TL.tl_append, dot_tl]
  simp
theorem res_moves {ps : List (Nat × Nat)} (h : ∀ p ∈ ps, p.1 < 10 ^ 9 ∧ p.2 < 10 ^ 9) : resD true (Txt.join " " (orNone (ps.map mvT))) = .lst (ps.map mvD) := by
  cases ps with
  | nil =>
    have e : Txt.join " " (orNone ([].map mvT)) = "none" := by decide +kernel
    unfold resD
    rw [if_pos ⟨rfl, e⟩]
    rfl
  | cons p r =>
    have eo : orNone ((p :: r).map mvT) = (p :: r).map mvT := rfl
    rw [eo]
    have hsp : partsOf (Txt.join " " ((p :: r).map mvT)) = (p :: r).map mvT := TL.split_join blank_tl (by decide +kernel) (by simp) fun q hq => by
      obtain ⟨x, _, rfl⟩ := List.mem_map.mp hq
      exact mv_noblank x
    have hne : ¬ (true = true ∧ Txt.join " " ((p :: r).map mvT) = "none") := fun w => by
      rw [w.2] at hsp
      have e1 : partsOf "none" = [("none" : Str)] := by decide +kernel
      rw [e1] at hsp
      have e2 : ("none" : Str) = mvT p := (List.cons.inj hsp).1
      have hd := mv_dot p
      rw [← e2] at hd
      exact absurd hd (by decide +kernel)
    have hr : Reads1 true (Txt.join " " ((p :: r).map mvT)) (partsOf (Txt.join " " ((p :: r).map mvT))).length := ⟨fun j q _ hq => by
      rw [hsp] at hq
      obtain ⟨x, hx, rfl⟩ := List.mem_map.mp (List.mem_of_getElem? hq)
      exact (mv_good (h x hx).1 (h x hx).2).1⟩
    rw [reads_all hr hne, hsp, List.map_map]
    congr 1
    exact List.map_congr_left fun x hx => (mv_good (h x hx).1 (h x hx).2).2
theorem name_free {x : Str} (h : GoodName x) {c : Nat} (hc : c < 48) : c ∉ TL.tl x := fun hm => by
  have := h.cp c hm
  unfold NameCp at this
  omega
theorem split_ws {p : Str × Str} (h1 : GoodName p.1) (h2 : GoodName p.2) : Txt.split (wsT p) "." = [p.1, p.2] := split_dot (name_free h1 (by decide)) (name_free h2 (by decide))
theorem name_ne {x : Str} (h : GoodName x) : x ≠ "" := fun e => by
  have := h.l1
  rw [e] at this
  exact absurd this (by decide +kernel)
theorem ws_good {p : Str × Str} (h1 : GoodName p.1) (h2 : GoodName p.2) : goodP false (wsT p) = true ∧ valP false (wsT p) = wsD p := by
  constructor
  · rw [good_eq (split_ws h1 h2), decide_eq_false (name_ne h1), decide_eq_false (name_ne h2)]
    rfl
  · rw [val_eq (split_ws h1 h2), if_neg (by decide)]
    rfl
theorem ws_noblank {p : Str × Str} (h1 : GoodName p.1) (h2 : GoodName p.2) : 32 ∉ TL.tl (wsT p) := by
  unfold wsT
  intro h
  rcases app_mem h with w | w
  · rcases app_mem w with v | v
    · exact name_free h1 (by decide) v
    · have : 32 ∈ TL.tl ("." : Str) := v
      rw [dot_tl] at this
      simp at this
  · exact name_free h2 (by decide) w
theorem res_wishes {ws : List (Str × Str)} (hne : ws ≠ []) (h : ∀ p ∈ ws, GoodName p.1 ∧ GoodName p.2) : resD false (Txt.join " " (ws.map wsT)) = .lst (ws.map wsD) := by
  have hsp : partsOf (Txt.join " " (ws.map wsT)) = ws.map wsT := TL.split_join blank_tl (by decide +kernel) (by simpa using hne) fun q hq => by
    obtain ⟨x, hx, rfl⟩ := List.mem_map.mp hq
    exact ws_noblank (h x hx).1 (h x hx).2
  have hz : ¬ (false = true ∧ Txt.join " " (ws.map wsT) = "none") := fun w => by cases w.1
  have hr : Reads1 false (Txt.join " " (ws.map wsT)) (partsOf (Txt.join " " (ws.map wsT))).length := ⟨fun j q _ hq => by
    rw [hsp] at hq
    obtain ⟨x, hx, rfl⟩ := List.mem_map.mp (List.mem_of_getElem? hq)
    exact (ws_good (h x hx).1 (h x hx).2).1⟩
  rw [reads_all hr hz, hsp, List.map_map]
  congr 1
  exact List.map_congr_left fun x hx => (ws_good (h x hx).1 (h x hx).2).2
theorem sg_name {x : Str} (h : GoodName x) : Sg x := sg_iff.mpr fun c hc => by
  have := h.cp c hc
  unfold NameCp at this
  omega
theorem sg_num (n : Nat) : Sg (Str.ofString (toString ((n : Nat) : Int))) := sg_iff.mpr fun c hc => by
  rw [num_tl] at hc
  have := TL.numL_digits n c hc
  omega
theorem sg_mv (p : Nat × Nat) : Sg (mvT p) := sg_app (sg_app (sg_num _) (sg_lit (by decide +kernel))) (sg_num _)
theorem sg_ws {p : Str × Str} (h1 : GoodName p.1) (h2 : GoodName p.2) : Sg (wsT p) := sg_app (sg_app (sg_name h1) (sg_lit (by decide +kernel))) (sg_name h2)
theorem sg_T1 (ps : List (Nat × Nat)) : Sg (Txt.join " " (orNone (ps.map mvT))) := sg_join fun x hx => by
  cases ps with
  | nil =>
    have : x = "none" := List.mem_singleton.mp hx
    rw [this]
    exact sg_lit (by decide +kernel)
  | cons p r =>
    obtain ⟨q, _, rfl⟩ := List.mem_map.mp (show x ∈ (p :: r).map mvT from hx)
    exact sg_mv q
theorem sg_T2 {ws : List (Str × Str)} (h : ∀ p ∈ ws, GoodName p.1 ∧ GoodName p.2) : Sg (Txt.join " " (ws.map wsT)) := sg_join fun x hx => by
  obtain ⟨q, hq, rfl⟩ := List.mem_map.mp hx
  exact sg_ws (h q hq).1 (h q hq).2
theorem wt_bound {l : List Str} {k : Nat} (h : ∀ x ∈ l, x.length ≤ k) : wt l ≤ l.length * (k + 1) := by
  have := sum_bound (l := l.map (·.length)) (k := k) fun x hx => by
    obtain ⟨y, hy, rfl⟩ := List.mem_map.mp hx
    exact h y hy
  rw [List.length_map] at this
  unfold wt
  rw [Nat.mul_succ]
  omega
theorem len_T1 {ps : List (Nat × Nat)} (hl : ps.length ≤ 10) (h : ∀ p ∈ ps, p.1 < 10 ^ 9 ∧ p.2 < 10 ^ 9) : (Txt.join " " (orNone (ps.map mvT))).length ≤ 500 := by
  refine Nat.le_trans (joinT_len _) ?_
  cases ps with
  | nil => decide +kernel
  | cons p r =>
    refine Nat.le_trans (wt_bound (l := (p :: r).map mvT) (k := 19) fun x hx => ?_) ?_
    · obtain ⟨q, hq, rfl⟩ := List.mem_map.mp hx
      exact mvT_len (h q hq).1 (h q hq).2
    · rw [List.length_map]
      omega
theorem len_T2 {ws : List (Str × Str)} (hl : ws.length ≤ 10) (h : ∀ p ∈ ws, GoodName p.1 ∧ GoodName p.2) : (Txt.join " " (ws.map wsT)).length ≤ 500 := by
  refine Nat.le_trans (joinT_len _) (Nat.le_trans (wt_bound (l := ws.map wsT) (k := 41) fun x hx => ?_) ?_)
  · obtain ⟨q, hq, rfl⟩ := List.mem_map.mp hx
    exact wsT_len (k := 20) (h q hq).1.l2 (h q hq).2.l2
  · rw [List.length_map]
    omega
theorem plain_mv (p : Nat × Nat) (n : Nat) : plain (n + 1) (mvD p) = true := by
  unfold mvD
  simp [NK.plain, plains]
theorem plain_ws {p : Str × Str} (h1 : Sg p.1) (h2 : Sg p.2) (n : Nat) : plain (n + 1) (wsD p) = true := by
  have h1 : PyData.strOk p.1 = true := h1
  have h2 : PyData.strOk p.2 = true := h2
  unfold wsD
  simp [NK.plain, plains, h1, h2]
theorem plain_res {b : Bool} {z : Str} (hs : Sg z) : plain 3 (resD b z) = true := by
  unfold resD
  split
  · simp [NK.plain, plains]
  · cases firstBad b z with
    | some k =>
      have h : PyData.strOk "row" = true := by decide +kernel
      show plain 3 (.tup [.str "row", .int 0, .int (k : Nat)]) = true
      simp [NK.plain, plains, h]
    | none =>
      show plain 3 (.lst ((partsOf z).map (valP b))) = true
      simp only [NK.plain]
      refine plains_of fun d hd => ?_
      obtain ⟨p, hp, rfl⟩ := List.mem_map.mp hd
      have hps : Sg p := sg_part hs hp
      unfold valP
      split
      · rename_i x y e
        have hx : PyData.strOk x = true := sg_part (y := ".") hps (by rw [e]; simp)
        have hy : PyData.strOk y = true := sg_part (y := ".") hps (by rw [e]; simp)
        split
        · simp [NK.plain, plains]
        · simp [NK.plain, plains, hx, hy]
      · simp [NK.plain]

abbrev tLaw1 (K : PySem.W.Frag) : TS := (tSeq (tDrop (tBM K "list" rAppend (tVar 10) (tCons (tM1 (rJoin K) (tC (.str " ")) (tLc (iList K (tVar 8)) (gTup K 2 (gCons (gName 13) (gCons (gName 14) (gNil)))) (tYes) (tOp (rCatStr) (tOp (rCatStr) (tVar 13) (tC (.str "."))) (tVar 14)) [13, 14])) (tNil))))
  (tSeq (tIfS (tOr (tTest (tOp (rNeD K) (tLst (tCons (tCall (spOf K fMovesRow) [] E0 (tCons (tOp (rIxT K) (tVar 9) (tC (.int 0))) (tNil))) (tCons (tCall (spOf K fWishesRow) [] E0 (tCons (tOp (rIxT K) (tVar 9) (tC (.int 1))) (tNil))) (tNil)))) (tVar 10))) (tTest (tOp (rNeD K) (tVar 9) (tTup (tCons (tVar 5) (tCons (tVar 8) (tNil)))))))
  (tRet (tC (.bl false))) (tNext))
  (tSeq (tIfS (tTest (tOp (rNeD K) (tLst (tCons (tCall (spOf K fMovesRow) [] E0 (tCons (tCB (rTupOf K) (tCons (tVar 5) (tNil))) (tNil))) (tCons (tCall (spOf K fWishesRow) [] E0 (tCons (tCB (rTupOf K) (tCons (tVar 8) (tNil))) (tNil))) (tNil)))) (tVar 10)))
  (tRet (tC (.bl false))) (tNext))
  (tFor (iList K (tLst (tCons (tTup (tCons (tOp (rIxL K) (tVar 10) (tC (.int 0))) (tCons (tVar 5) (tCons (tC (.bl true)) (tNil))))) (tCons (tTup (tCons (tOp (rIxL K) (tVar 10) (tC (.int 1))) (tCons (tVar 8) (tCons (tC (.bl false)) (tNil))))) (tNil))))) (gTup K 3 (gCons (gName 15) (gCons (gName 16) (gCons (gName 17) (gNil)))))
  (tSeq (tAsg (tCall (spOf K fTold) [] E0 (tCons (tVar 15) (tCons (tVar 17) (tNil)))) (gName 18))
  (tSeq (tIfS (tOr (tNot (tB (tCB RZ.rIsTy (tCons (tVar 18) (tCons (tC (.ty "list")) tNil))))) (tTest (tOp (rNeD K) (tVar 18) (tVar 16))))
  (tRet (tC (.bl false))) (tNext))
  (tSeq (tDrop (tBM K "list" rAppend (tVar 18) (tCons (tC (.int 1)) (tNil))))
  (tSeq (tIfS (tTest (tOp (rNeD K) (tCall (spOf K fTold) [] E0 (tCons (tVar 15) (tCons (tVar 17) (tNil)))) (tVar 16)))
  (tRet (tC (.bl false))) (tNext))
  (tSeq (tFor (iRng1 (tCons (tVar 3) (tNil))) (gName 6)
  (tAsg (tCall (spOf K fChanged) [] E0 (tCons (tVar 2) (tCons (tVar 15) (tNil)))) (gName 15)))
  (tIfS (tTest (tOp (rNeD K) (tCall (spOf K fTold) [] E0 (tCons (tVar 15) (tCons (tVar 17) (tNil)))) (tCall (spOf K fDue) [] E0 (tCons (tVar 15) (tCons (tVar 17) (tNil))))))
  (tRet (tC (.bl false))) (tNext)))))))))))
abbrev tLaw2 (K : PySem.W.Frag) : TS := (tSeq (tIfS (tOr (tTest (tOp (rNeD K) (tLst (tCons (tCall (spOf K fMovesRow) [] E0 (tCons (tOp (rIxT K) (tVar 9) (tC (.int 0))) (tNil))) (tCons (tCall (spOf K fWishesRow) [] E0 (tCons (tOp (rIxT K) (tVar 9) (tC (.int 1))) (tNil))) (tNil)))) (tVar 10))) (tTest (tOp (rNeD K) (tVar 9) (tTup (tCons (tVar 5) (tCons (tVar 8) (tNil)))))))
  (tRet (tC (.bl false))) (tNext))
  (tSeq (tIfS (tTest (tOp (rNeD K) (tLst (tCons (tCall (spOf K fMovesRow) [] E0 (tCons (tCB (rTupOf K) (tCons (tVar 5) (tNil))) (tNil))) (tCons (tCall (spOf K fWishesRow) [] E0 (tCons (tCB (rTupOf K) (tCons (tVar 8) (tNil))) (tNil))) (tNil)))) (tVar 10)))
  (tRet (tC (.bl false))) (tNext))
  (tFor (iList K (tLst (tCons (tTup (tCons (tOp (rIxL K) (tVar 10) (tC (.int 0))) (tCons (tVar 5) (tCons (tC (.bl true)) (tNil))))) (tCons (tTup (tCons (tOp (rIxL K) (tVar 10) (tC (.int 1))) (tCons (tVar 8) (tCons (tC (.bl false)) (tNil))))) (tNil))))) (gTup K 3 (gCons (gName 15) (gCons (gName 16) (gCons (gName 17) (gNil)))))
  (tSeq (tAsg (tCall (spOf K fTold) [] E0 (tCons (tVar 15) (tCons (tVar 17) (tNil)))) (gName 18))
  (tSeq (tIfS (tOr (tNot (tB (tCB RZ.rIsTy (tCons (tVar 18) (tCons (tC (.ty "list")) tNil))))) (tTest (tOp (rNeD K) (tVar 18) (tVar 16))))
  (tRet (tC (.bl false))) (tNext))
  (tSeq (tDrop (tBM K "list" rAppend (tVar 18) (tCons (tC (.int 1)) (tNil))))
  (tSeq (tIfS (tTest (tOp (rNeD K) (tCall (spOf K fTold) [] E0 (tCons (tVar 15) (tCons (tVar 17) (tNil)))) (tVar 16)))
  (tRet (tC (.bl false))) (tNext))
  (tSeq (tFor (iRng1 (tCons (tVar 3) (tNil))) (gName 6)
  (tAsg (tCall (spOf K fChanged) [] E0 (tCons (tVar 2) (tCons (tVar 15) (tNil)))) (gName 15)))
  (tIfS (tTest (tOp (rNeD K) (tCall (spOf K fTold) [] E0 (tCons (tVar 15) (tCons (tVar 17) (tNil)))) (tCall (spOf K fDue) [] E0 (tCons (tVar 15) (tCons (tVar 17) (tNil))))))
  (tRet (tC (.bl false))) (tNext))))))))))
abbrev tLaw3 (K : PySem.W.Frag) : TS := (tRet (tAndV (tOp (rEqD K) (tCall (spOf K fTold) [] E0 (tCons (tC (.str "")) (tCons (tC (.bl false)) (tNil)))) (tTup (tCons (tC (.str "row")) (tCons (tC (.int 0)) (tCons (tC (.int 0)) (tNil)))))) (tOp (rEqD K) (tCall (spOf K fTold) [] E0 (tCons (tC (.str "none")) (tCons (tC (.bl false)) (tNil)))) (tTup (tCons (tC (.str "row")) (tCons (tC (.int 0)) (tCons (tC (.int 0)) (tNil))))))))

/-! ### the law -/
theorem ev_state {C : Fx} {g : Gam} {m : Cells} {ta : TA} {P : Dt → Cells → Prop} {E : XK} (h : EvA C g m ta fun es m1 => ∃ c : Int, es = [.int c] ∧ ∀ (s : Addr) (x y z : Int), Ok3 x y z → P (.ref s) (m1 ++ [⟨s, true, st3 x y z⟩])) : Ev C g m (tCall (spOf C.K fState) [] E ta) P :=
  ev_call0L fun B S σ vs H rl Q q => h B S σ vs H rl Q fun ws es m1 H1 r1 hl ⟨c, e, k⟩ => q ws es m1 H1 r1 hl ⟨c, e, rfl, fun s x y z hk => ⟨s, _, rfl, rfl, k s x y z hk⟩⟩
theorem ev_names {C : Fx} {g : Gam} {m : Cells} {ta : TA} {P : Dt → Cells → Prop} {E : XK} (h : EvA C g m ta fun es m1 => ∃ (s : Addr) (l : Bool) (a b c n : Int) (mr : Cells), es = [.ref s, .int n] ∧ m1 = ⟨s, l, st3 a b c⟩ :: mr ∧ Ok3 a b c ∧ 0 ≤ n ∧ n ≤ 8 ∧
    ∀ (x : Addr) (ys : List Str) (a' b' c' : Int), (ys.length : Int) = n → (∀ y ∈ ys, GoodName y) → Ok3 a' b' c' → P (.ref x) (⟨s, l, st3 a' b' c'⟩ :: (mr ++ [⟨x, true, .lst (ys.map .str)⟩]))) : Ev C g m (tCall (spOf C.K fNames) [] E ta) P :=
  ev_call1L fun B S σ vs H rl Q q => h B S σ vs H rl Q fun ws es m1 H1 r1 hl ⟨s, l, a, b, c, n, mr, e1, e2, ok, n0, n1, k⟩ => q ws es m1 H1 r1 hl (by
    subst e1 e2
    exact ⟨s, l, st3 a b c, mr, rfl, s, a, b, c, n, rfl, rfl, ok, n0, n1, fun x ys a' b' c' h1 h2 h3 => ⟨_, x, _, rfl, rfl, k x ys a' b' c' h1 h2 h3⟩⟩)
theorem ev_changed {C : Fx} {g : Gam} {m : Cells} {ta : TA} {P : Dt → Cells → Prop} {E : XK} (h : EvA C g m ta fun es m1 => ∃ (s : Addr) (l : Bool) (a b c : Int) (z : Str) (mr : Cells), es = [.ref s, .str z] ∧ m1 = ⟨s, l, st3 a b c⟩ :: mr ∧ Ok3 a b c ∧ z.length ≤ 30000 ∧ Sg z ∧
    ∀ (z' : Str) (a' b' c' : Int), z'.length ≤ 2 * z.length + 6000 → Sg z' → Ok3 a' b' c' → P (.str z') (⟨s, l, st3 a' b' c'⟩ :: mr)) : Ev C g m (tCall (spOf C.K fChanged) [] E ta) P :=
  ev_call1 fun B S σ vs H rl Q q => h B S σ vs H rl Q fun ws es m1 H1 r1 hl ⟨s, l, a, b, c, z, mr, e1, e2, ok, n0, n1, k⟩ => q ws es m1 H1 r1 hl (by
    subst e1 e2
    exact ⟨s, l, st3 a b c, mr, rfl, s, a, b, c, z, rfl, rfl, ok, n0, n1, fun z' a' b' c' h0 h1 hk => ⟨_, rfl, k z' a' b' c' h0 h1 hk⟩⟩)
theorem ev_movesRow {C : Fx} {g : Gam} {m : Cells} {ta : TA} {P : Dt → Cells → Prop} {E : XK} (h : EvA C g m ta fun es m1 => ∃ (d : Dt) (ps : List (Nat × Nat)), es = [d] ∧ (d = .lst (ps.map mvD) ∨ d = .tup (ps.map mvD)) ∧ ps.length ≤ 100 ∧ (∀ p ∈ ps, p.1 < 10 ^ 9 ∧ p.2 < 10 ^ 9) ∧ P (.str (Txt.join " " (orNone (ps.map mvT)))) m1) : Ev C g m (tCall (spOf C.K fMovesRow) [] E ta) P :=
  ev_call0 fun B S σ vs H rl Q q => h B S σ vs H rl Q fun ws es m1 H1 r1 hl ⟨d, ps, e, h1, h2, h3, p⟩ => q ws es m1 H1 r1 hl ⟨d, ps, e, rfl, h1, h2, h3, rfl, p⟩
theorem ev_wishesRow {C : Fx} {g : Gam} {m : Cells} {ta : TA} {P : Dt → Cells → Prop} {E : XK} (h : EvA C g m ta fun es m1 => ∃ (d : Dt) (ps : List (Str × Str)), es = [d] ∧ (d = .lst (ps.map wsD) ∨ d = .tup (ps.map wsD)) ∧ ps.length ≤ 100 ∧ (∀ p ∈ ps, p.1.length ≤ 100 ∧ p.2.length ≤ 100) ∧ P (.str (Txt.join " " (ps.map wsT))) m1) : Ev C g m (tCall (spOf C.K fWishesRow) [] E ta) P :=
  ev_call0 fun B S σ vs H rl Q q => h B S σ vs H rl Q fun ws es m1 H1 r1 hl ⟨d, ps, e, h1, h2, h3, p⟩ => q ws es m1 H1 r1 hl ⟨d, ps, e, rfl, h1, h2, h3, rfl, p⟩
theorem ev_due {C : Fx} {g : Gam} {m : Cells} {ta : TA} {P : Dt → Cells → Prop} {E : XK} (h : EvA C g m ta fun es m1 => ∃ (z : Str) (b : Bool), es = [.str z, .bl b] ∧ z.length ≤ 100000 ∧ Sg z ∧ P (resD b z) m1) : Ev C g m (tCall (spOf C.K fDue) [] E ta) P :=
  ev_call0 fun B S σ vs H rl Q q => h B S σ vs H rl Q fun ws es m1 H1 r1 hl ⟨z, b, e, h1, h2, p⟩ => q ws es m1 H1 r1 hl ⟨z, b, e, rfl, h1, h2, rfl, p⟩
/-- told, a list that may change -/
theorem ev_toldL {C : Fx} {g : Gam} {m : Cells} {ta : TA} {P : Dt → Cells → Prop} {E : XK} (h : EvA C g m ta fun es m1 => ∃ (z : Str) (b : Bool) (ds : List Dt), es = [.str z, .bl b] ∧ z.length ≤ 100000 ∧ resD b z = .lst ds ∧ ∀ a, P (.ref a) (m1 ++ [⟨a, true, .lst ds⟩])) : Ev C g m (tCall (spOf C.K fTold) [] E ta) P :=
  ev_call0L fun B S σ vs H rl Q q => h B S σ vs H rl Q fun ws es m1 H1 r1 hl ⟨z, b, ds, e, hz, er, k⟩ => q ws es m1 H1 r1 hl ⟨z, b, e, rfl, hz, fun ds' e' a => by
    rw [er] at e'
    cases e'
    exact ⟨a, _, rfl, rfl, k a⟩, fun ds' e' => by rw [er] at e'; cases e'⟩
theorem ev_frzOr {C : Fx} {g : Gam} {m : Cells} {te : TE} {P : Dt → Cells → Prop} (h : Ev C g m te fun d m' => P d m' ∨ ∃ (j : Nat) (a : Addr) (ds : List Dt), d = .ref a ∧ m'[j]? = some ⟨a, true, .lst ds⟩ ∧ P (.lst ds) (m'.eraseIdx j)) : Ev C g m te P := fun B S σ vs H rl Q q => h B S σ vs H rl _ fun v d m' H' ⟨I, r⟩ hp => by
  rcases hp with p | ⟨j, a, ds, e, hj, p⟩
  · exact q _ _ _ _ ⟨I, r⟩ p
  · subst e
    obtain ⟨I', up, r', hd⟩ := r.freeze hj
    have hv := r'.top
    cases hv
    exact q _ _ _ _ ⟨I', r'.pop1.push hd⟩ p
/-- told, whatever it is -/
theorem ev_toldD {C : Fx} {g : Gam} {m : Cells} {ta : TA} {P : Dt → Cells → Prop} {E : XK} (h : EvA C g m ta fun es m1 => ∃ (z : Str) (b : Bool), es = [.str z, .bl b] ∧ z.length ≤ 100000 ∧ P (resD b z) m1) : Ev C g m (tCall (spOf C.K fTold) [] E ta) P :=
  ev_frzOr (ev_call rfl 0 fun B S σ vs H rl Q q => h B S σ vs H rl Q fun ws es m1 H1 r1 hl ⟨z, b, e, hz, p⟩ => q ws es m1 H1 r1 hl ⟨Nat.zero_le _, fun d m' => (∃ a ds, d = .ref a ∧ m' = [⟨a, true, .lst ds⟩] ∧ resD b z = .lst ds) ∨ ∃ ds, d = .tup ds ∧ m' = [] ∧ resD b z = .tup ds,
    ⟨z, b, e, rfl, hz, fun ds e' a => .inl ⟨a, ds, rfl, rfl, e'⟩, fun ds e' => .inr ⟨ds, rfl, rfl, e'⟩⟩, fun d m' hR => by
    rcases hR with ⟨a, ds, rfl, rfl, e'⟩ | ⟨ds, rfl, rfl, e'⟩
    · refine ⟨Nat.zero_le _, rfl, fun e he => (by rw [List.mem_singleton.mp he]), .inr ⟨m1.length, a, ds, rfl, ?_, ?_⟩⟩
      · show (m1 ++ [(⟨a, true, .lst ds⟩ : Ce)])[m1.length]? = _
        rw [List.getElem?_append_right (Nat.le_refl _), Nat.sub_self] <;> rfl
      · show P (.lst ds) ((m1 ++ [(⟨a, true, .lst ds⟩ : Ce)]).eraseIdx m1.length)
        rw [List.eraseIdx_append_of_length_le (Nat.le_refl _), Nat.sub_self]
        show P _ (m1 ++ [])
        rw [List.append_nil, ← e']
        exact p
    · refine ⟨Nat.zero_le _, rfl, fun e he => (by cases he), .inl ?_⟩
      show P (.tup ds) (m1 ++ [])
      rw [List.append_nil, ← e']
      exact p⟩)
def bd : Nat → Nat
  | 0 => 500
  | 1 => 7000
  | 2 => 20000
  | _ => 46000
theorem bd_step {i n : Nat} (hi : i < 3) (h : n ≤ bd i) : n ≤ 30000 ∧ 2 * n + 6000 ≤ bd (i + 1) := by
  have : i = 0 ∨ i = 1 ∨ i = 2 := by omega
  rcases this with rfl | rfl | rfl <;> simp only [bd] at h ⊢ <;> omega
theorem bd_max (i : Nat) : bd i ≤ 46000 := by
  unfold bd
  split <;> decide
theorem most_ok {r : Int} (h0 : 0 ≤ r) (h1 : r < 3) : ∃ n : Int, atI [Dt.int 3, .int 60, .int (10 ^ Int.toNat 9)] r = some (.int n) ∧ 0 < n ∧ n ≤ 1000000000 := by
  have : r = 0 ∨ r = 1 ∨ r = 2 := by omega
  rcases this with rfl | rfl | rfl
  · exact ⟨3, rfl, by decide, by decide⟩
  · exact ⟨60, rfl, by decide, by decide⟩
  · exact ⟨_, rfl, by decide, by decide⟩
theorem mv_snoc {ps : List (Nat × Nat)} {r r2 : Int} (h0 : 0 ≤ r) (h2 : 0 ≤ r2) : ps.map mvD ++ [.tup [.int r, .int r2]] = (ps ++ [(r.toNat, r2.toNat)]).map mvD := by
  rw [List.map_append]
  unfold mvD
  simp only [List.map_cons, List.map_nil, Int.toNat_of_nonneg h0, Int.toNat_of_nonneg h2]
set_option maxHeartbeats 1000000 in
theorem bLaw (C : Fx) (c : Addr) (es : List Dt) (m : Cells) (Po : Dt → Cells → Prop) (hd : ExD C.K c ["row", "place"]) (h : fLaw es m Po) :
    Sx C (es.map some ++ List.replicate (19 - es.length) none) m (tLaw C.K c) (fpost Po) := by
  obtain ⟨ns, rfl, rfl, hl, q⟩ := h
  show Sx C [some (.lst (ns.map .int)), none, none, none, none, none, none, none, none, none, none, none, none, none, none, none, none, none, none] _ _ _
  unfold tLaw
  refine sx_seq (sx_for (evi_list (ev_slL (ev_op ?_))))
  walk_at "e"
  refine ev_lst ?_
  walk_at "e"
  refine ⟨szl (by simp), op_catLL (by rw [List.length_map]; exact szl (by simp; omega)) (evo_none (evo_some ?_))⟩
  walk_at "e"
  refine ⟨12, rfl, _, rfl, _, rfl, fun i g m => ∃ r, g = some (.lst (ns.map .int)) :: r ∧ r.length = 18, ⟨_, rfl, rfl⟩, fun i x g m hx hW => ?_, fun g m hW => ?_⟩
  · obtain ⟨k, rfl⟩ : ∃ k : Int, x = .int k := by
      have hm := List.mem_of_getElem? hx
      unfold NK.cutD at hm
      have hm2 := List.mem_of_mem_drop (List.mem_of_mem_take hm)
      rcases List.mem_append.mp hm2 with w | w
      · obtain ⟨k, _, rfl⟩ := List.mem_map.mp w
        exact ⟨k, rfl⟩
      · exact ⟨0, List.mem_singleton.mp w⟩
    obtain ⟨r, rfl, hr⟩ := hW
    match r, hr with
    | [x1, x2, x3, x4, x5, x6, x7, x8, x9, x10, x11, x12, x13, x14, x15, x16, x17, x18], _ =>
    refine tg_name ?_
    refine sx_fewer [] (List.nil_sublist _) ?_
    refine q_set (ev_state ?_)
    walk_at "e"
    refine ⟨k, rfl, fun s a b c ok => ?_⟩
    refine q_set (ev_digit ?_)
    walk_at "e"
    refine ⟨_, _, _, _, _, _, _, rfl, rfl, ok, by decide, by decide, fun many a b c many0 many1 ok => ?_⟩
    refine q_set (ev_op (ev_lst ?_))
    walk_at "e"
    refine op_iic ⟨by decide, by decide, by decide⟩ ?_
    walk_at "e"
    refine ⟨szl (by simp), ev_digit ?_⟩
    walk_at "e"
    refine ⟨_, _, _, _, _, _, _, rfl, rfl, ok, by decide, by decide, fun mo a b c mo0 mo1 ok => ?_⟩
    obtain ⟨most, hmost, most0, most1⟩ := most_ok mo0 mo1
    refine op_ixL hmost ?_
    -- the moves
    refine q_set (ev_frz (ev_lc (js := [6]) fills_name (fun j hj => hj) (evi_range1 (eva_cons (ev_digit ?_)))))
    walk_at "e"
    refine ⟨_, _, _, _, _, _, _, rfl, rfl, ok, by decide, by decide, fun n a b c n0 n1 ok => ?_⟩
    walk_at "e"
    refine ⟨n, rfl, ⟨by omega, by omega⟩, fun i acc m => ∃ (a b c : Int) (ps : List (Nat × Nat)), m = [⟨s, true, st3 a b c⟩] ∧ Ok3 a b c ∧ acc = ps.map mvD ∧ ps.length = i ∧ ∀ p ∈ ps, p.1 < 10 ^ 9 ∧ p.2 < 10 ^ 9,
      ⟨a, b, c, [], rfl, ok, rfl, rfl, fun p hp => (by cases hp)⟩, fun i x acc m hx hW => ?_, fun acc m hW D => ?_⟩
    · obtain ⟨hi, rfl⟩ := rangeD_get hx
      obtain ⟨a, b, c, ps, rfl, ok, rfl, hpl, hpa⟩ := hW
      refine ⟨by rw [List.length_map]; exact Nat.lt_of_lt_of_le (show _ < 1000 by omega) (szl (by omega)), fun D => tg_name (evt_yes ⟨fun _ => ?_, fun w => by cases w⟩)⟩
      refine ev_tup (eva_cons (ev_digit ?_))
      walk_at "e"
      refine ⟨_, _, _, _, _, _, _, rfl, rfl, ok, most0, by omega, fun r a b c r0 r1 ok => ?_⟩
      refine eva_cons (ev_digit ?_)
      walk_at "e"
      refine ⟨_, _, _, _, _, _, _, rfl, rfl, ok, by decide, by decide, fun r2 a b c r20 r21 ok => ?_⟩
      walk_at "e"
      refine ⟨szl (by simp), [⟨s, true, st3 a b c⟩], rfl, a, b, c, ps ++ [(r.toNat, r2.toNat)], rfl, ok, mv_snoc r0 r20, by rw [List.length_append, hpl] <;> rfl, fun p hp => ?_⟩
      rcases List.mem_append.mp hp with w | w
      · exact hpa p w
      · rw [List.mem_singleton.mp w]
        exact ⟨by show r.toNat < 10 ^ 9; omega, by show r2.toNat < 10 ^ 9; omega⟩
    obtain ⟨a, b, c, ps, rfl, ok, rfl, hpl, hpa⟩ := hW
    rw [rangeD_len] at hpl
    refine ⟨1, D, _, rfl, rfl, ?_⟩
    show Sx C _ [⟨s, true, st3 a b c⟩] _ _
    -- the names
    refine q_set (ev_names ?_)
    walk_at "e"
    refine ⟨_, _, _, _, _, _, _, rfl, rfl, ok, by decide, by decide, fun nl ys a b c hyl hyg ok => ?_⟩
    have hy3 : ys.length = 3 := by omega
    refine sx_freeze 1 rfl (.cons (.cons (.cons (.cons (.cons (.cons (.cons (.here (.cons (.cons (.cons (.cons (.cons (.cons (.cons (.cons (.cons (.cons (.cons .nil))))))))))))))))))) ?_
    show Sx C _ [⟨s, true, st3 a b c⟩] _ _
    -- the wishes
    refine q_set (ev_frz (ev_lc (js := [6]) fills_name (fun j hj => hj) (evi_range1 (eva_cons (ev_op (ev_int (ev_digit ?_)))))))
    walk_at "e"
    refine ⟨_, _, _, _, _, _, _, rfl, rfl, ok, by decide, by decide, fun wn a b c wn0 wn1 ok => ?_⟩
    walk_at "e"
    refine ⟨1 + wn, rfl, ⟨by omega, by omega⟩, fun i acc m => ∃ (a b c : Int) (ws : List (Str × Str)), m = [⟨s, true, st3 a b c⟩] ∧ Ok3 a b c ∧ acc = ws.map wsD ∧ ws.length = i ∧ ∀ p ∈ ws, GoodName p.1 ∧ GoodName p.2,
      ⟨a, b, c, [], rfl, ok, rfl, rfl, fun p hp => (by cases hp)⟩, fun i x acc m hx hW => ?_, fun acc m hW D => ?_⟩
    · obtain ⟨hi, rfl⟩ := rangeD_get hx
      obtain ⟨a, b, c, ws, rfl, ok, rfl, hwl, hwa⟩ := hW
      refine ⟨by rw [List.length_map]; exact Nat.lt_of_lt_of_le (show _ < 1000 by omega) (szl (by omega)), fun D => tg_name (evt_yes ⟨fun _ => ?_, fun w => by cases w⟩)⟩
      refine ev_tup (eva_cons (ev_op (ev_var rfl (ev_digit ?_))))
      walk_at "e"
      refine ⟨_, _, _, _, _, _, _, rfl, rfl, ok, by decide, by decide, fun r a b c r0 r1 ok => ?_⟩
      obtain ⟨x, hx, hxm⟩ := atI_mem (l := ys.map Dt.str) r0 (by rw [List.length_map, hy3]; exact r1)
      obtain ⟨y1, hy1, rfl⟩ := List.mem_map.mp hxm
      refine op_ixL hx ?_
      refine eva_cons (ev_op (ev_var rfl (ev_digit ?_)))
      walk_at "e"
      refine ⟨_, _, _, _, _, _, _, rfl, rfl, ok, by decide, by decide, fun r2 a b c r20 r21 ok => ?_⟩
      obtain ⟨x, hx, hxm⟩ := atI_mem (l := ys.map Dt.str) r20 (by rw [List.length_map, hy3]; exact r21)
      obtain ⟨y2, hy2, rfl⟩ := List.mem_map.mp hxm
      refine op_ixL hx ?_
      walk_at "e"
      refine ⟨szl (by simp), [⟨s, true, st3 a b c⟩], rfl, a, b, c, ws ++ [(y1, y2)], rfl, ok, by rw [List.map_append] <;> rfl, by rw [List.length_append, hwl] <;> rfl, fun p hp => ?_⟩
      rcases List.mem_append.mp hp with w | w
      · exact hwa p w
      · rw [List.mem_singleton.mp w]
        exact ⟨hyg y1 hy1, hyg y2 hy2⟩
    obtain ⟨a, b, c, ws, rfl, ok, rfl, hwl, hwa⟩ := hW
    rw [rangeD_len] at hwl
    refine ⟨1, D, _, rfl, rfl, ?_⟩
    show Sx C _ [⟨s, true, st3 a b c⟩] _ _
    have hps10 : ps.length ≤ 10 := by omega
    have hws10 : ws.length ≤ 10 := by omega
    have hwne : ws ≠ [] := fun e => by rw [e] at hwl; simp at hwl; omega
    have hw100 : ∀ p ∈ ws, p.1.length ≤ 100 ∧ p.2.length ≤ 100 := fun p hp => ⟨Nat.le_trans (hwa p hp).1.l2 (by decide), Nat.le_trans (hwa p hp).2.l2 (by decide)⟩
    have pl5 : NK.plain 2 (.lst (ps.map mvD)) = true := by
      simp only [NK.plain]
      exact plains_of fun d hd => by
        obtain ⟨p, _, rfl⟩ := List.mem_map.mp hd
        exact plain_mv p 0
    have pl8 : NK.plain 2 (.lst (ws.map wsD)) = true := by
      simp only [NK.plain]
      exact plains_of fun d hd => by
        obtain ⟨p, hp, rfl⟩ := List.mem_map.mp hd
        exact plain_ws (sg_name (hwa p hp).1) (sg_name (hwa p hp).2) 0
    have hT1s := sg_T1 ps
    have hT2s := sg_T2 hwa
    have hT1l := len_T1 hps10 hpa
    have hT2l := len_T2 hws10 hwa
    have hT1r := res_moves hpa
    have hT2r := res_wishes hwne hwa
    -- handed
    walk_at "e"
    refine cl_listL ?_
    walk_at "e"
    refine cl_listL ?_
    walk_at "e"
    refine ⟨szl (by simp), ?_⟩
    -- the texts
    refine q_set (ev_lstM (eva_cons (ev_join ?_)))
    walk_at "e"
    refine ⟨_, rfl, ev_orL (ev_lcM (js := [11, 12]) fills_tup2 (fun j hj => hj) (evi_list ?_))⟩
    walk_at "e"
    refine ⟨_, rfl, by rw [List.length_map]; exact Nat.lt_of_lt_of_le (show _ < 1000 by omega) (szl (by omega)), fun d => match d with | .tup [.int a, .int b] => .str (mvT (a.toNat, b.toNat)) | _ => .non, fun x hx mm => ?_, ?_⟩
    · obtain ⟨p, hpm, rfl⟩ := List.mem_map.mp hx
      obtain ⟨h1, h2⟩ := hpa p hpm
      have l1 := num_len h1
      have l2 := num_len h2
      refine tg_tup2 ?_
      walk_at "e"
      refine cl_str (log_small h1) ?_
      walk_at "e"
      refine op_catSS (szl (by rw [dot_len]; omega)) ?_
      walk_at "e"
      refine cl_str (log_small h2) ?_
      refine op_catSS (szl (by rw [str_app_len, dot_len]; omega)) ⟨?_, rfl⟩
      show _ = Dt.str (mvT (((p.1 : Nat) : Int).toNat, ((p.2 : Nat) : Int).toNat))
      rw [Int.toNat_natCast, Int.toNat_natCast]
      rfl
    have e1 : ((ps.map mvD).map fun d => match d with | .tup [.int a, .int b] => Dt.str (mvT (a.toNat, b.toNat)) | _ => .non) = (ps.map mvT).map .str := by
      rw [List.map_map, List.map_map]
      refine List.map_congr_left fun p _ => ?_
      show Dt.str (mvT (((p.1 : Nat) : Int).toNat, ((p.2 : Nat) : Int).toNat)) = .str (mvT p)
      rw [Int.toNat_natCast, Int.toNat_natCast]
    rw [e1]
    generalize hT1 : Txt.join " " (orNone (ps.map mvT)) = T1 at hT1s hT1l hT1r
    generalize hT2 : Txt.join " " (ws.map wsT) = T2 at hT2s hT2l hT2r
    have both : ∀ (l : List Str), l = orNone (ps.map mvT) → (l.map (·.length)).sum + l.length * (" " : Str).length ≤ 16777216 := fun l e => by
      subst e
      have hb : wt (orNone (ps.map mvT)) ≤ (orNone (ps.map mvT)).length * 20 := wt_bound (k := 19) fun x hx => by
        cases ps with
        | nil =>
          rw [List.mem_singleton.mp (show x ∈ [("none" : Str)] from hx)]
          decide +kernel
        | cons p r =>
          obtain ⟨q, hq, rfl⟩ := List.mem_map.mp (show x ∈ (p :: r).map mvT from hx)
          exact mvT_len (hpa q hq).1 (hpa q hq).2
      have hlen : (orNone (ps.map mvT)).length ≤ 11 := by
        cases ps with
        | nil => decide
        | cons p r =>
          show ((p :: r).map mvT).length ≤ 11
          rw [List.length_map]
          omega
      rw [blank_len]
      unfold wt at hb
      omega
    suffices key : Sx C [some (.lst (ns.map .int)), some (.int k), some (.ref s), some (.int many), some (.int most), some (.lst (ps.map mvD)), x6, some (.lst (ys.map .str)), some (.lst (ws.map wsD)), some (.tup [.lst (ps.map mvD), .lst (ws.map wsD)]), some (.lst [.str T1, .str T2]), x11, x12, x13, x14, x15, x16, x17, x18] [⟨s, true, st3 a b c⟩] (tLaw2 C.K) { nx := fun g m => ∃ r, g = some (.lst (ns.map .int)) :: r ∧ r.length = 18, rt := (fpost Po).rt, bk := fun g' m' => Sx C g' m' (tLaw3 C.K) (fpost Po), ct := fun g m => ∃ r, g = some (.lst (ns.map .int)) :: r ∧ r.length = 18 } by
      have go : ∀ t1, t1 = T1 → EvA C [some (.lst (ns.map .int)), some (.int k), some (.ref s), some (.int many), some (.int most), some (.lst (ps.map mvD)), x6, some (.lst (ys.map .str)), some (.lst (ws.map wsD)), some (.tup [.lst (ps.map mvD), .lst (ws.map wsD)]), x10, x11, x12, x13, x14, x15, x16, x17, x18] [⟨s, true, st3 a b c⟩] tNil fun ds m' => (Dt.str t1 :: ds).length ≤ sizeLine ∧ ∀ a', Sx C [some (.lst (ns.map .int)), some (.int k), some (.ref s), some (.int many), some (.int most), some (.lst (ps.map mvD)), x6, some (.lst (ys.map .str)), some (.lst (ws.map wsD)), some (.tup [.lst (ps.map mvD), .lst (ws.map wsD)]), some (.ref a'), x11, x12, x13, x14, x15, x16, x17, x18] (m' ++ [⟨a', true, .lst (Dt.str t1 :: ds)⟩]) (tLaw1 C.K) { nx := fun g m => ∃ r, g = some (.lst (ns.map .int)) :: r ∧ r.length = 18, rt := (fpost Po).rt, bk := fun g' m' => Sx C g' m' (tLaw3 C.K) (fpost Po), ct := fun g m => ∃ r, g = some (.lst (ns.map .int)) :: r ∧ r.length = 18 } := by
        intro t1 et
        subst et
        walk_at "e"
        refine ⟨szl (by simp), fun a' => ?_⟩
        unfold tLaw1
        refine q_drop (ev_append ?_)
        walk_at "e"
        refine ⟨⟨1, _, _, _, rfl, rfl⟩, ev_join ?_⟩
        walk_at "e"
        refine ⟨_, rfl, ev_lcM (js := [13, 14]) fills_tup2 (fun j hj => hj) (evi_list ?_)⟩
        walk_at "e"
        refine ⟨_, rfl, by rw [List.length_map]; exact Nat.lt_of_lt_of_le (show _ < 1000 by omega) (szl (by omega)), fun d => match d with | .tup [.str a, .str b] => .str (wsT (a, b)) | _ => .non, fun x hx mm => ?_, ?_⟩
        · obtain ⟨p, hpm, rfl⟩ := List.mem_map.mp hx
          obtain ⟨l1, l2⟩ := hw100 p hpm
          refine tg_tup2 ?_
          walk_at "e"
          refine op_catSS (szl (by rw [dot_len]; omega)) ?_
          walk_at "e"
          exact op_catSS (szl (by rw [str_app_len, dot_len]; omega)) ⟨rfl, rfl⟩
        have e2 : ((ws.map wsD).map fun d => match d with | .tup [.str a, .str b] => Dt.str (wsT (a, b)) | _ => .non) = (ws.map wsT).map .str := by
          rw [List.map_map, List.map_map]
          rfl
        rw [e2]
        refine ⟨ws.map wsT, rfl, ?_, 1, _, _, _, rfl, rfl, (by show 1 < sizeLine; rw [sizeLine_eq]; decide), ?_⟩
        · have hb : wt (ws.map wsT) ≤ (ws.map wsT).length * 42 := wt_bound (k := 41) fun x hx => by
            obtain ⟨q, hq, rfl⟩ := List.mem_map.mp hx
            exact wsT_len (k := 20) (hwa q hq).1.l2 (hwa q hq).2.l2
          rw [List.length_map] at hb ⊢
          rw [blank_len]
          unfold wt at hb
          rw [List.length_map] at hb
          omega
        rw [hT2]
        refine sx_freeze 1 rfl (.cons (.cons (.cons (.cons (.cons (.cons (.cons (.cons (.cons (.cons (.here (.cons (.cons (.cons (.cons (.cons (.cons (.cons (.cons .nil))))))))))))))))))) ?_
        exact key
      refine ⟨_, rfl, fun hne => ⟨ps.map mvT, rfl, ?_, ?_⟩, fun hn => ev_lst ?_⟩
      · cases ps with
        | nil => exact absurd rfl hne
        | cons p r => exact both _ rfl
      · refine go _ ?_
        cases ps with
        | nil => exact absurd rfl hne
        | cons p r => exact hT1
      · walk_at "e"
        refine ⟨szl (by simp), [("none" : Str)], rfl, by decide +kernel, ?_⟩
        refine go _ ?_
        cases ps with
        | nil => exact hT1
        | cons p r => cases hn
    unfold tLaw2
    have plT : NK.plain 2 (.lst [.str T1, .str T2]) = true := by
      have h1 : PyData.strOk T1 = true := hT1s
      have h2 : PyData.strOk T2 = true := hT2s
      simp [NK.plain, plains, h1, h2]
    refine q_when (evt_orP false false ?_ (fun _ => ?_) ⟨fun w => (by cases w), fun _ => ?_⟩)
    · refine evt_test (ev_op (ev_lst (eva_cons (ev_movesRow ?_))))
      walk_at "e"
      refine op_ixT (d := .lst (ps.map mvD)) rfl ?_
      walk_at "e"
      refine ⟨_, ps, rfl, .inl rfl, by omega, hpa, ?_⟩
      refine eva_cons (ev_wishesRow ?_)
      walk_at "e"
      refine op_ixT (d := .lst (ws.map wsD)) rfl ?_
      walk_at "e"
      refine ⟨_, ws, rfl, .inl rfl, by omega, hw100, ?_⟩
      rw [hT1, hT2]
      walk_at "e"
      refine ⟨szl (by simp), ?_⟩
      walk_at "e"
      exact op_ned_same 2 (by decide) plT ⟨_, rfl, rfl, rfl⟩
    · walk_at "e"
      refine ⟨szl (by simp), op_ned_same 3 (by decide) ?_ ⟨_, rfl, rfl, rfl⟩⟩
      simp only [NK.plain, plains, Bool.and_true, Bool.and_eq_true] at pl5 pl8 ⊢
      exact ⟨pl5, pl8⟩
    refine q_when (evt_test (ev_op (ev_lst (eva_cons (ev_movesRow ?_)))))
    walk_at "e"
    refine cl_tupL ?_
    walk_at "e"
    refine ⟨_, ps, rfl, .inr rfl, by omega, hpa, ?_⟩
    refine eva_cons (ev_wishesRow ?_)
    walk_at "e"
    refine cl_tupL ?_
    walk_at "e"
    refine ⟨_, ws, rfl, .inr rfl, by omega, hw100, ?_⟩
    rw [hT1, hT2]
    walk_at "e"
    refine ⟨szl (by simp), ?_⟩
    walk_at "e"
    refine op_ned_same 2 (by decide) plT ⟨_, rfl, fun w => (by cases w), fun _ => ?_⟩
    -- both texts in turn
    refine sx_for (evi_list (ev_lst ?_))
    walk_at "e"
    refine op_ixL (d := .str T1) rfl ?_
    walk_at "e"
    refine ⟨szl (by simp), ?_⟩
    walk_at "e"
    refine op_ixL (d := .str T2) rfl ?_
    walk_at "e"
    refine ⟨szl (by simp), ?_⟩
    walk_at "e"
    refine ⟨szl (by simp), _, rfl, fun i g m => ∃ (y6 y15 y16 y17 y18 : Option Dt) (a b c : Int) (mr : Cells), g = [some (.lst (ns.map .int)), some (.int k), some (.ref s), some (.int many), some (.int most), some (.lst (ps.map mvD)), y6, some (.lst (ys.map .str)), some (.lst (ws.map wsD)), some (.tup [.lst (ps.map mvD), .lst (ws.map wsD)]), some (.lst [.str T1, .str T2]), x11, x12, x13, x14, y15, y16, y17, y18] ∧ m = ⟨s, true, st3 a b c⟩ :: mr ∧ Ok3 a b c,
      ⟨x6, x15, x16, x17, x18, a, b, c, [], rfl, rfl, ok⟩, fun i x g m hx hW => ?_, fun g m hW => ?_⟩
    · obtain ⟨y6, y15, y16, y17, y18, a, b, c, mr, rfl, rfl, ok⟩ := hW
      obtain ⟨T, due, bb, rfl, hTl, hTs, hTr, hpd⟩ : ∃ (T : Str) (due : List Dt) (bb : Bool), x = .tup [.str T, .lst due, .bl bb] ∧ T.length ≤ 500 ∧ Sg T ∧ resD bb T = .lst due ∧ NK.plain 2 (.lst due) = true := by
        have hm := List.mem_of_getElem? hx
        simp only [List.mem_cons, List.not_mem_nil, or_false] at hm
        rcases hm with rfl | rfl
        · exact ⟨T1, _, true, rfl, hT1l, hT1s, hT1r, pl5⟩
        · exact ⟨T2, _, false, rfl, hT2l, hT2s, hT2r, pl8⟩
      refine tg_tup3 (sx_fewer [⟨s, true, st3 a b c⟩] (List.Sublist.cons_cons _ (List.nil_sublist _)) ?_)
      refine q_set (ev_toldL ?_)
      walk_at "e"
      refine ⟨T, bb, due, rfl, by omega, hTr, fun fa => ?_⟩
      have hpd1 : plains 1 due = true := by simpa [NK.plain] using hpd
      refine q_when (evt_orP false false ?_ (fun _ => ?_) ⟨fun w => (by cases w), fun _ => ?_⟩)
      · refine evt_not (evt_B (ev_isList ?_))
        walk_at "e"
        exact ⟨1, fa, true, due, rfl, rfl, _, rfl, rfl, rfl⟩
      · walk_at "e"
        refine op_nedM 1 1 rfl (by decide) hpd1 hpd ?_
        rw [plain_refl hpd]
        exact ⟨_, rfl, rfl, rfl⟩
      have hdl : due.length < sizeLine := by
        have h1 := hTr
        rcases res_cases bb T with ⟨ds, e⟩ | ⟨n, e⟩
        · have : due.length ≤ T.length + 2 := by
            unfold resD at h1
            split at h1
            · cases h1; simp
            · cases w : firstBad bb T with
              | some n => rw [w] at h1; cases h1
              | none =>
                rw [w] at h1
                cases h1
                rw [List.length_map]
                exact parts_le T
          exact Nat.lt_of_lt_of_le (show _ < 1000 by omega) (szl (by omega))
        · rw [e] at h1; cases h1
      refine q_drop (ev_append ?_)
      walk_at "e"
      refine ⟨⟨1, _, _, _, rfl, rfl⟩, ?_⟩
      walk_at "e"
      refine ⟨1, fa, true, due, rfl, rfl, hdl, ?_⟩
      refine q_when (evt_test (ev_op (ev_toldD ?_)))
      walk_at "e"
      refine ⟨T, bb, rfl, by omega, ?_⟩
      rw [hTr]
      walk_at "e"
      refine op_ned_same 2 (by decide) hpd ⟨_, rfl, fun w => (by cases w), fun _ => ?_⟩
      -- the text changed
      refine sx_seq (sx_for (evi_range1 ?_))
      walk_at "e"
      refine ⟨many, rfl, ⟨by omega, by omega⟩, fun i g m => ∃ (y6 : Option Dt) (z : Str) (a b c : Int) (mr : Cells), g = [some (.lst (ns.map .int)), some (.int k), some (.ref s), some (.int many), some (.int most), some (.lst (ps.map mvD)), y6, some (.lst (ys.map .str)), some (.lst (ws.map wsD)), some (.tup [.lst (ps.map mvD), .lst (ws.map wsD)]), some (.lst [.str T1, .str T2]), x11, x12, x13, x14, some (.str z), some (.lst due), some (.bl bb), some (.ref fa)] ∧ m = ⟨s, true, st3 a b c⟩ :: mr ∧ Ok3 a b c ∧ z.length ≤ bd i ∧ Sg z,
        ⟨y6, T, a, b, c, _, rfl, rfl, ok, hTl, hTs⟩, fun i x g m hx hW => ?_, fun g m hW => ?_⟩
      · obtain ⟨hi, rfl⟩ := rangeD_get hx
        obtain ⟨y6, z, a, b, c, mr, rfl, rfl, ok, hzl, hzs⟩ := hW
        obtain ⟨b1, b2⟩ := bd_step (i := i) (by omega) hzl
        refine tg_name (sx_set (ev_changed ?_))
        walk_at "e"
        refine ⟨_, _, _, _, _, z, _, rfl, rfl, ok, b1, hzs, fun z' a b c hz' hs' ok => ?_⟩
        exact ⟨_, z', a, b, c, mr, rfl, rfl, ok, Nat.le_trans hz' b2, hs'⟩
      · obtain ⟨y6, z, a, b, c, mr, rfl, rfl, ok, hzl, hzs⟩ := hW
        have hz := Nat.le_trans hzl (bd_max _)
        refine sx_if (evt_test (ev_op (ev_toldD ?_)))
        walk_at "e"
        refine ⟨z, bb, rfl, by omega, ev_due ?_⟩
        walk_at "e"
        refine ⟨z, bb, rfl, by omega, hzs, ?_⟩
        refine op_ned_same 3 (by decide) (plain_res hzs) ⟨_, rfl, fun w => (by cases w), fun _ => ?_⟩
        exact sx_next ⟨_, _, _, _, _, a, b, c, mr, rfl, rfl, ok⟩
    · obtain ⟨y6, y15, y16, y17, y18, a, b, c, mr, rfl, rfl, ok⟩ := hW
      exact ⟨_, rfl, rfl⟩
  · obtain ⟨r, rfl, hr⟩ := hW
    have r1 : resD false "" = .tup [.str "row", .int 0, .int 0] := by
      have e : firstBad false "" = some 0 := by decide +kernel
      unfold resD
      rw [if_neg (by simp), e]
      rfl
    have r2 : resD false "none" = .tup [.str "row", .int 0, .int 0] := by
      have e : firstBad false "none" = some 0 := by decide +kernel
      unfold resD
      rw [if_neg (by simp), e]
      rfl
    have pr : NK.plain 2 (.tup [.str "row", .int 0, .int 0]) = true := by decide +kernel
    refine sx_ret (ev_andV (ev_op (ev_toldD ?_)))
    walk_at "e"
    refine ⟨_, _, rfl, by decide +kernel, ?_⟩
    rw [r1]
    walk_at "e"
    refine ⟨szl (by simp), op_eqd_same 2 (by decide) pr ⟨_, rfl, fun _ => ?_, fun w => (by cases w)⟩⟩
    refine ev_op (ev_toldD ?_)
    walk_at "e"
    refine ⟨_, _, rfl, by decide +kernel, ?_⟩
    rw [r2]
    walk_at "e"
    exact ⟨szl (by simp), op_eqd_same 2 (by decide) pr ⟨[], List.nil_sublist _, q⟩⟩

theorem hlenState : ∀ es m Po, fState es m Po → es.length = 1 := fun es m Po ⟨_, e, _⟩ => by rw [e]; rfl
theorem hlenDigit : ∀ es m Po, fDigit es m Po → es.length = 2 := fun es m Po ⟨_, _, _, _, _, e, _⟩ => by rw [e]; rfl
theorem hlenName : ∀ es m Po, fName es m Po → es.length = 2 := fun es m Po ⟨_, _, _, _, _, _, e, _⟩ => by rw [e]; rfl
theorem hlenNames : ∀ es m Po, fNames es m Po → es.length = 2 := fun es m Po ⟨_, _, _, _, _, e, _⟩ => by rw [e]; rfl
theorem hlenIsNumber : ∀ es m Po, fIsNumber es m Po → es.length = 1 := fun es m Po ⟨_, e, _⟩ => by rw [e]; rfl
theorem hlenIsFigures : ∀ es m Po, fIsFigures es m Po → es.length = 1 := fun es m Po ⟨_, e, _⟩ => by rw [e]; rfl
theorem hlenChanged : ∀ es m Po, fChanged es m Po → es.length = 2 := fun es m Po ⟨_, _, _, _, _, e, _⟩ => by rw [e]; rfl
theorem hlenDue : ∀ es m Po, fDue es m Po → es.length = 2 := fun es m Po ⟨_, _, e, _⟩ => by rw [e]; rfl
theorem hlenTold : ∀ es m Po, fTold es m Po → es.length = 2 := fun es m Po ⟨_, _, e, _⟩ => by rw [e]; rfl
theorem hlenMovesRow : ∀ es m Po, fMovesRow es m Po → es.length = 1 := fun es m Po ⟨_, _, e, _⟩ => by rw [e]; rfl
theorem hlenWishesRow : ∀ es m Po, fWishesRow es m Po → es.length = 1 := fun es m Po ⟨_, _, e, _⟩ => by rw [e]; rfl
theorem hlenPairsIn : ∀ es m Po, fPairsIn es m Po → es.length = 1 := fun es m Po ⟨_, e, _⟩ => by rw [e]; rfl
theorem hlenReadMoves {c : Addr} : ∀ es m Po Xp, fReadMoves c es m Po Xp → es.length = 1 := fun es m Po Xp ⟨_, e, _⟩ => by rw [e]; rfl
theorem hlenReadWishes {c : Addr} : ∀ es m Po Xp, fReadWishes c es m Po Xp → es.length = 1 := fun es m Po Xp ⟨_, e, _⟩ => by rw [e]; rfl
theorem hlenLaw : ∀ es m Po, fLaw es m Po → es.length = 1 := fun es m Po ⟨_, e, _⟩ => by rw [e]; rfl
theorem start_ok {K : PySem.W.Frag} {H : Hp} {a : Addr} {ns : List Int} (hl : ns.length ≤ 63) (hS : SqL K H a (ns.map V.int)) : spOf K fLaw [.ref a] H (fun v _ => v = .bl true) (fun _ _ _ => False) :=
  ⟨H, [.lst (ns.map .int)], [], fun d _ => d = .bl true, Same.refl H, .one (.lst hS of_ints), ⟨List.Pairwise.nil, fun e he => (by cases he), fun e he => (by cases he)⟩, fun e he => (by cases he), ⟨ns, rfl, rfl, hl, rfl⟩, fun v d I' H' m' _ hd _ _ e => by
    subst e
    cases hd
    rfl⟩

/-! ### the end -/
theorem exm_one {K : PySem.W.Frag} {S : Addr} (h1 : PySem.W.subIn K (.ref S) (.type "BaseException") = some true) (h2 : PySem.W.isClsIn K S = true) (h3 : PySem.W.typeIn K (.ref S) = some (.type "type")) (h4 : PySem.W.subIn K (.ref S) (.ref S) = some true) : PySem.W.exmOne K (.ref S) (.ref S) = some true := by
  unfold PySem.W.isClsIn at h2
  unfold PySem.W.exmOne PySem.W.kitCls
  simp [h1, h2, h3, h4]
theorem put_together {l : PySem.W.OpenLaw} {w : World} {K : PySem.W.Frag} {h : Heap} {mg : Str → Option Value} {fa : Addr} (X : K.In h) (G : h.Ns mainGlobals mg) (hfa : mg "law" = some (.ref fa))
    {f_State : Addr} {od_State an_State : Option Addr} {sl_State : Array (Option Value)} {oc_State kV_State dc_State pm_State cd_State ct_State : Value} {f_Digit : Addr} {od_Digit an_Digit : Option Addr} {sl_Digit : Array (Option Value)} {oc_Digit kV_Digit dc_Digit pm_Digit cd_Digit ct_Digit : Value} {f_Name : Addr} {od_Name an_Name : Option Addr} {sl_Name : Array (Option Value)} {oc_Name kV_Name dc_Name pm_Name cd_Name ct_Name : Value} {f_Names : Addr} {od_Names an_Names : Option Addr} {sl_Names : Array (Option Value)} {oc_Names kV_Names dc_Names pm_Names cd_Names ct_Names : Value} {f_IsNumber : Addr} {od_IsNumber an_IsNumber : Option Addr} {sl_IsNumber : Array (Option Value)} {oc_IsNumber kV_IsNumber dc_IsNumber pm_IsNumber cd_IsNumber ct_IsNumber : Value} {f_Changed : Addr} {od_Changed an_Changed : Option Addr} {sl_Changed : Array (Option Value)} {oc_Changed kV_Changed dc_Changed pm_Changed cd_Changed ct_Changed : Value} {f_Due : Addr} {od_Due an_Due : Option Addr} {sl_Due : Array (Option Value)} {oc_Due kV_Due dc_Due pm_Due cd_Due ct_Due : Value} {f_MovesRow : Addr} {od_MovesRow an_MovesRow : Option Addr} {sl_MovesRow : Array (Option Value)} {oc_MovesRow kV_MovesRow dc_MovesRow pm_MovesRow cd_MovesRow ct_MovesRow : Value} {f_IsFigures : Addr} {od_IsFigures an_IsFigures : Option Addr} {sl_IsFigures : Array (Option Value)} {oc_IsFigures kV_IsFigures dc_IsFigures pm_IsFigures cd_IsFigures ct_IsFigures : Value} {f_PairsIn : Addr} {od_PairsIn an_PairsIn : Option Addr} {sl_PairsIn : Array (Option Value)} {oc_PairsIn kV_PairsIn dc_PairsIn pm_PairsIn cd_PairsIn ct_PairsIn : Value} {f_WishesRow : Addr} {od_WishesRow an_WishesRow : Option Addr} {sl_WishesRow : Array (Option Value)} {oc_WishesRow kV_WishesRow dc_WishesRow pm_WishesRow cd_WishesRow ct_WishesRow : Value} {f_ReadMoves : Addr} {od_ReadMoves an_ReadMoves : Option Addr} {sl_ReadMoves : Array (Option Value)} {oc_ReadMoves kV_ReadMoves dc_ReadMoves pm_ReadMoves cd_ReadMoves ct_ReadMoves : Value} {f_ReadWishes : Addr} {od_ReadWishes an_ReadWishes : Option Addr} {sl_ReadWishes : Array (Option Value)} {oc_ReadWishes kV_ReadWishes dc_ReadWishes pm_ReadWishes cd_ReadWishes ct_ReadWishes : Value} {f_Told : Addr} {od_Told an_Told : Option Addr} {sl_Told : Array (Option Value)} {oc_Told kV_Told dc_Told pm_Told cd_Told ct_Told : Value} {f_Law : Addr} {od_Law an_Law : Option Addr} {sl_Law : Array (Option Value)} {oc_Law kV_Law dc_Law pm_Law cd_Law ct_Law : Value} {C_BadRow fI_BadRow : Addr} {nm_BadRow q_BadRow : Str} {N_BadRow : Addr} {bs_BadRow bm_BadRow sub_BadRow : List Value} {sn_BadRow : List Str} {ab_BadRow : Bool} {col_BadRow : Option Bool} {dd_BadRow : Option Addr} {m0_BadRow m1_BadRow m2_BadRow m3_BadRow m5_BadRow : Option Value} {od_BadRow an_BadRow : Option Addr} {sl_BadRow : Array (Option Value)} {oc_BadRow kV_BadRow dc_BadRow pm_BadRow cd_BadRow ct_BadRow : Value} {tk_NONE : Tok} {tk_MOST_FIGURES : Tok} {tk_FIGURES : Tok}
    (a_State : PySem.W.nsIn K mainGlobals "_law_state" = some (some (.ref f_State)))
    (l_State : K.lookup f_State = some ⟨oc_State, od_State, .func (PySem.W.fnOf "_law_state" "_law_state" (defArgs sState) (defBody sState) (defScope sState) .none kV_State dc_State pm_State an_State cd_State ct_State), sl_State⟩)
    (c_State : PySem.W.codeIn K cd_State "_law_state" = true)
    (k_State : PySem.W.keepIn K (.ref f_State) = true)
    (a_Digit : PySem.W.nsIn K mainGlobals "_law_digit" = some (some (.ref f_Digit)))
    (l_Digit : K.lookup f_Digit = some ⟨oc_Digit, od_Digit, .func (PySem.W.fnOf "_law_digit" "_law_digit" (defArgs sDigit) (defBody sDigit) (defScope sDigit) .none kV_Digit dc_Digit pm_Digit an_Digit cd_Digit ct_Digit), sl_Digit⟩)
    (c_Digit : PySem.W.codeIn K cd_Digit "_law_digit" = true)
    (k_Digit : PySem.W.keepIn K (.ref f_Digit) = true)
    (a_Name : PySem.W.nsIn K mainGlobals "_law_name" = some (some (.ref f_Name)))
    (l_Name : K.lookup f_Name = some ⟨oc_Name, od_Name, .func (PySem.W.fnOf "_law_name" "_law_name" (defArgs sName) (defBody sName) (defScope sName) .none kV_Name dc_Name pm_Name an_Name cd_Name ct_Name), sl_Name⟩)
    (c_Name : PySem.W.codeIn K cd_Name "_law_name" = true)
    (k_Name : PySem.W.keepIn K (.ref f_Name) = true)
    (a_Names : PySem.W.nsIn K mainGlobals "_law_names" = some (some (.ref f_Names)))
    (l_Names : K.lookup f_Names = some ⟨oc_Names, od_Names, .func (PySem.W.fnOf "_law_names" "_law_names" (defArgs sNames) (defBody sNames) (defScope sNames) .none kV_Names dc_Names pm_Names an_Names cd_Names ct_Names), sl_Names⟩)
    (c_Names : PySem.W.codeIn K cd_Names "_law_names" = true)
    (k_Names : PySem.W.keepIn K (.ref f_Names) = true)
    (a_IsNumber : PySem.W.nsIn K mainGlobals "_law_is_number" = some (some (.ref f_IsNumber)))
    (l_IsNumber : K.lookup f_IsNumber = some ⟨oc_IsNumber, od_IsNumber, .func (PySem.W.fnOf "_law_is_number" "_law_is_number" (defArgs sIsNumber) (defBody sIsNumber) (defScope sIsNumber) .none kV_IsNumber dc_IsNumber pm_IsNumber an_IsNumber cd_IsNumber ct_IsNumber), sl_IsNumber⟩)
    (c_IsNumber : PySem.W.codeIn K cd_IsNumber "_law_is_number" = true)
    (k_IsNumber : PySem.W.keepIn K (.ref f_IsNumber) = true)
    (a_Changed : PySem.W.nsIn K mainGlobals "_law_changed" = some (some (.ref f_Changed)))
    (l_Changed : K.lookup f_Changed = some ⟨oc_Changed, od_Changed, .func (PySem.W.fnOf "_law_changed" "_law_changed" (defArgs sChanged) (defBody sChanged) (defScope sChanged) .none kV_Changed dc_Changed pm_Changed an_Changed cd_Changed ct_Changed), sl_Changed⟩)
    (c_Changed : PySem.W.codeIn K cd_Changed "_law_changed" = true)
    (k_Changed : PySem.W.keepIn K (.ref f_Changed) = true)
    (a_Due : PySem.W.nsIn K mainGlobals "_law_due" = some (some (.ref f_Due)))
    (l_Due : K.lookup f_Due = some ⟨oc_Due, od_Due, .func (PySem.W.fnOf "_law_due" "_law_due" (defArgs sDue) (defBody sDue) (defScope sDue) .none kV_Due dc_Due pm_Due an_Due cd_Due ct_Due), sl_Due⟩)
    (c_Due : PySem.W.codeIn K cd_Due "_law_due" = true)
    (k_Due : PySem.W.keepIn K (.ref f_Due) = true)
    (a_MovesRow : PySem.W.nsIn K mainGlobals "moves_row" = some (some (.ref f_MovesRow)))
    (l_MovesRow : K.lookup f_MovesRow = some ⟨oc_MovesRow, od_MovesRow, .func (PySem.W.fnOf "moves_row" "moves_row" (defArgs sMovesRow) (defBody sMovesRow) (defScope sMovesRow) .none kV_MovesRow dc_MovesRow pm_MovesRow an_MovesRow cd_MovesRow ct_MovesRow), sl_MovesRow⟩)
    (c_MovesRow : PySem.W.codeIn K cd_MovesRow "moves_row" = true)
    (k_MovesRow : PySem.W.keepIn K (.ref f_MovesRow) = true)
    (a_IsFigures : PySem.W.nsIn K mainGlobals "is_figures" = some (some (.ref f_IsFigures)))
    (l_IsFigures : K.lookup f_IsFigures = some ⟨oc_IsFigures, od_IsFigures, .func (PySem.W.fnOf "is_figures" "is_figures" (defArgs sIsFigures) (defBody sIsFigures) (defScope sIsFigures) .none kV_IsFigures dc_IsFigures pm_IsFigures an_IsFigures cd_IsFigures ct_IsFigures), sl_IsFigures⟩)
    (c_IsFigures : PySem.W.codeIn K cd_IsFigures "is_figures" = true)
    (k_IsFigures : PySem.W.keepIn K (.ref f_IsFigures) = true)
    (a_PairsIn : PySem.W.nsIn K mainGlobals "pairs_in" = some (some (.ref f_PairsIn)))
    (l_PairsIn : K.lookup f_PairsIn = some ⟨oc_PairsIn, od_PairsIn, .func (PySem.W.fnOf "pairs_in" "pairs_in" (defArgs sPairsIn) (defBody sPairsIn) (defScope sPairsIn) .none kV_PairsIn dc_PairsIn pm_PairsIn an_PairsIn cd_PairsIn ct_PairsIn), sl_PairsIn⟩)
    (c_PairsIn : PySem.W.codeIn K cd_PairsIn "pairs_in" = true)
    (k_PairsIn : PySem.W.keepIn K (.ref f_PairsIn) = true)
    (a_WishesRow : PySem.W.nsIn K mainGlobals "wishes_row" = some (some (.ref f_WishesRow)))
    (l_WishesRow : K.lookup f_WishesRow = some ⟨oc_WishesRow, od_WishesRow, .func (PySem.W.fnOf "wishes_row" "wishes_row" (defArgs sWishesRow) (defBody sWishesRow) (defScope sWishesRow) .none kV_WishesRow dc_WishesRow pm_WishesRow an_WishesRow cd_WishesRow ct_WishesRow), sl_WishesRow⟩)
    (c_WishesRow : PySem.W.codeIn K cd_WishesRow "wishes_row" = true)
    (k_WishesRow : PySem.W.keepIn K (.ref f_WishesRow) = true)
    (a_ReadMoves : PySem.W.nsIn K mainGlobals "read_moves" = some (some (.ref f_ReadMoves)))
    (l_ReadMoves : K.lookup f_ReadMoves = some ⟨oc_ReadMoves, od_ReadMoves, .func (PySem.W.fnOf "read_moves" "read_moves" (defArgs sReadMoves) (defBody sReadMoves) (defScope sReadMoves) .none kV_ReadMoves dc_ReadMoves pm_ReadMoves an_ReadMoves cd_ReadMoves ct_ReadMoves), sl_ReadMoves⟩)
    (c_ReadMoves : PySem.W.codeIn K cd_ReadMoves "read_moves" = true)
    (k_ReadMoves : PySem.W.keepIn K (.ref f_ReadMoves) = true)
    (a_ReadWishes : PySem.W.nsIn K mainGlobals "read_wishes" = some (some (.ref f_ReadWishes)))
    (l_ReadWishes : K.lookup f_ReadWishes = some ⟨oc_ReadWishes, od_ReadWishes, .func (PySem.W.fnOf "read_wishes" "read_wishes" (defArgs sReadWishes) (defBody sReadWishes) (defScope sReadWishes) .none kV_ReadWishes dc_ReadWishes pm_ReadWishes an_ReadWishes cd_ReadWishes ct_ReadWishes), sl_ReadWishes⟩)
    (c_ReadWishes : PySem.W.codeIn K cd_ReadWishes "read_wishes" = true)
    (k_ReadWishes : PySem.W.keepIn K (.ref f_ReadWishes) = true)
    (a_Told : PySem.W.nsIn K mainGlobals "_law_told" = some (some (.ref f_Told)))
    (l_Told : K.lookup f_Told = some ⟨oc_Told, od_Told, .func (PySem.W.fnOf "_law_told" "_law_told" (defArgs sTold) (defBody sTold) (defScope sTold) .none kV_Told dc_Told pm_Told an_Told cd_Told ct_Told), sl_Told⟩)
    (c_Told : PySem.W.codeIn K cd_Told "_law_told" = true)
    (k_Told : PySem.W.keepIn K (.ref f_Told) = true)
    (a_Law : PySem.W.nsIn K mainGlobals "law" = some (some (.ref f_Law)))
    (l_Law : K.lookup f_Law = some ⟨oc_Law, od_Law, .func (PySem.W.fnOf "law" "law" (defArgs sLaw) (defBody sLaw) (defScope sLaw) .none kV_Law dc_Law pm_Law an_Law cd_Law ct_Law), sl_Law⟩)
    (c_Law : PySem.W.codeIn K cd_Law "law" = true)
    (k_Law : PySem.W.keepIn K (.ref f_Law) = true)
    (xa_BadRow : PySem.W.nsIn K mainGlobals "BadRow" = some (some (.ref C_BadRow)))
    (xl_BadRow : K.lookup C_BadRow = some (excClassObj nm_BadRow q_BadRow C_BadRow N_BadRow bs_BadRow bm_BadRow true sn_BadRow sub_BadRow ab_BadRow col_BadRow dd_BadRow m0_BadRow m1_BadRow m2_BadRow m3_BadRow m5_BadRow "ValueError.__new__"))
    (xv_BadRow : PySem.HandSPX.refsVE bm_BadRow = true)
    (xs_BadRow : PySem.W.findIn K (.ref C_BadRow) "__setattr__" = some (some (.builtin "object.__setattr__")))
    (xg_BadRow : PySem.W.findIn K (.ref C_BadRow) "__getattribute__" = some (some (.builtin "BaseException.__getattribute__")))
    (xh_BadRow : PySem.W.findIn K (.ref C_BadRow) "__getattr__" = some none)
    (xf_BadRow_row : PySem.W.findIn K (.ref C_BadRow) "row" = some none)
    (xf_BadRow_place : PySem.W.findIn K (.ref C_BadRow) "place" = some none)
    (xi_BadRow : PySem.W.findIn K (.ref C_BadRow) "__init__" = some (some (.ref fI_BadRow)))
    (xt_BadRow : PySem.W.typeIn K (.ref fI_BadRow) = some (.type "function"))
    (xm_BadRow : K.lookup fI_BadRow = some ⟨oc_BadRow, od_BadRow, .func (PySem.W.fnOf "__init__" "BadRow.__init__" (defArgs sIBadRow) (defBody sIBadRow) (defScope sIBadRow) .none kV_BadRow dc_BadRow pm_BadRow an_BadRow cd_BadRow ct_BadRow), sl_BadRow⟩)
    (xc_BadRow : PySem.W.codeIn K cd_BadRow "BadRow.__init__" = true)
    (xj_BadRow : PySem.W.keepIn K (.ref fI_BadRow) = true)
    (xk_BadRow : PySem.W.keepIn K (.ref C_BadRow) = true)
    (xb_BadRow : PySem.W.subIn K (.ref C_BadRow) (.type "BaseException") = some true)
    (xy_BadRow : PySem.W.typeIn K (.ref C_BadRow) = some (.type "type"))
    (xd_BadRow : PySem.W.hasDictIn K C_BadRow = true)
    (xn_BadRow : PySem.W.isClsIn K C_BadRow = true)
    (xz_BadRow : PySem.W.subIn K (.ref C_BadRow) (.ref C_BadRow) = some true)
    (z_abs : PySem.W.nsIn K mainGlobals "abs" = some none)
    (z_int : PySem.W.nsIn K mainGlobals "int" = some none)
    (z_range : PySem.W.nsIn K mainGlobals "range" = some none)
    (z_str : PySem.W.nsIn K mainGlobals "str" = some none)
    (z_len : PySem.W.nsIn K mainGlobals "len" = some none)
    (z_enumerate : PySem.W.nsIn K mainGlobals "enumerate" = some none)
    (z_all : PySem.W.nsIn K mainGlobals "all" = some none)
    (z_list : PySem.W.nsIn K mainGlobals "list" = some none)
    (z_tuple : PySem.W.nsIn K mainGlobals "tuple" = some none)
    (z_isinstance : PySem.W.nsIn K mainGlobals "isinstance" = some none)
    (w_NONE : PySem.W.nsIn K mainGlobals "NONE" = some (some (.str "none" tk_NONE)))
    (w_MOST_FIGURES : PySem.W.nsIn K mainGlobals "MOST_FIGURES" = some (some (.int 9 tk_MOST_FIGURES)))
    (w_FIGURES : PySem.W.nsIn K mainGlobals "FIGURES" = some (some (.str "0123456789" tk_FIGURES))) :
    ∃ fd : FuncData, (∀ (s : Shared) (v : Value), BindsTo s fd ⟨[v], []⟩ [("_law_script", v)]) ∧ ∀ base : Heap, K.In base → base.Ns mainGlobals mg → FnOk l.prog w K mg base CX0 5 fa fd ["_law_script"] (spOf K fLaw) := by
  have e := hfa.symm.trans (PySem.W.mg_of X G a_Law)
  cases e
  have F_State := fun_mk (st := sState) l_State c_State k_State
  have B_State := F_State.binds (ps := ["_law_cell"]) fun _ _ _ _ _ _ us hl => match us, hl with | [_], _ => rfl
  have F_Digit := fun_mk (st := sDigit) l_Digit c_Digit k_Digit
  have B_Digit := F_Digit.binds (ps := ["_law_state_here", "_law_base"]) fun _ _ _ _ _ _ us hl => match us, hl with | [_, _], _ => rfl
  have F_Name := fun_mk (st := sName) l_Name c_Name k_Name
  have B_Name := F_Name.binds (ps := ["_law_s", "_law_taken"]) fun _ _ _ _ _ _ us hl => match us, hl with | [_, _], _ => rfl
  have F_Names := fun_mk (st := sNames) l_Names c_Names k_Names
  have B_Names := F_Names.binds (ps := ["_law_s", "_law_many"]) fun _ _ _ _ _ _ us hl => match us, hl with | [_, _], _ => rfl
  have F_IsNumber := fun_mk (st := sIsNumber) l_IsNumber c_IsNumber k_IsNumber
  have B_IsNumber := F_IsNumber.binds (ps := ["_law_text"]) fun _ _ _ _ _ _ us hl => match us, hl with | [_], _ => rfl
  have F_Changed := fun_mk (st := sChanged) l_Changed c_Changed k_Changed
  have B_Changed := F_Changed.binds (ps := ["_law_s", "_law_text"]) fun _ _ _ _ _ _ us hl => match us, hl with | [_, _], _ => rfl
  have F_Due := fun_mk (st := sDue) l_Due c_Due k_Due
  have B_Due := F_Due.binds (ps := ["_law_text", "_law_of_moves"]) fun _ _ _ _ _ _ us hl => match us, hl with | [_, _], _ => rfl
  have F_MovesRow := fun_mk (st := sMovesRow) l_MovesRow c_MovesRow k_MovesRow
  have B_MovesRow := F_MovesRow.binds (ps := ["moves"]) fun _ _ _ _ _ _ us hl => match us, hl with | [_], _ => rfl
  have F_IsFigures := fun_mk (st := sIsFigures) l_IsFigures c_IsFigures k_IsFigures
  have B_IsFigures := F_IsFigures.binds (ps := ["text"]) fun _ _ _ _ _ _ us hl => match us, hl with | [_], _ => rfl
  have F_PairsIn := fun_mk (st := sPairsIn) l_PairsIn c_PairsIn k_PairsIn
  have B_PairsIn := F_PairsIn.binds (ps := ["text"]) fun _ _ _ _ _ _ us hl => match us, hl with | [_], _ => rfl
  have F_WishesRow := fun_mk (st := sWishesRow) l_WishesRow c_WishesRow k_WishesRow
  have B_WishesRow := F_WishesRow.binds (ps := ["wishes"]) fun _ _ _ _ _ _ us hl => match us, hl with | [_], _ => rfl
  have F_ReadMoves := fun_mk (st := sReadMoves) l_ReadMoves c_ReadMoves k_ReadMoves
  have B_ReadMoves := F_ReadMoves.binds (ps := ["text"]) fun _ _ _ _ _ _ us hl => match us, hl with | [_], _ => rfl
  have F_ReadWishes := fun_mk (st := sReadWishes) l_ReadWishes c_ReadWishes k_ReadWishes
  have B_ReadWishes := F_ReadWishes.binds (ps := ["text"]) fun _ _ _ _ _ _ us hl => match us, hl with | [_], _ => rfl
  have F_Told := fun_mk (st := sTold) l_Told c_Told k_Told
  have B_Told := F_Told.binds (ps := ["_law_text", "_law_of_moves"]) fun _ _ _ _ _ _ us hl => match us, hl with | [_, _], _ => rfl
  have F_Law := fun_mk (st := sLaw) l_Law c_Law k_Law
  have FI_BadRow := fun_mk (st := sIBadRow) xm_BadRow xc_BadRow xj_BadRow
  have BI_BadRow := FI_BadRow.binds (ps := ["self", "row", "place"]) fun _ _ _ _ _ _ us hl => match us, hl with | [_, _, _], _ => rfl
  refine ⟨PySem.W.fnOf "law" "law" (defArgs sLaw) (defBody sLaw) (defScope sLaw) .none kV_Law dc_Law pm_Law an_Law cd_Law ct_Law, fun s v => .of_eq rfl, fun base _ _ => ?_⟩
  have b_abs := PySem.W.mg_none_of X G z_abs
  have b_int := PySem.W.mg_none_of X G z_int
  have b_range := PySem.W.mg_none_of X G z_range
  have b_str := PySem.W.mg_none_of X G z_str
  have b_len := PySem.W.mg_none_of X G z_len
  have b_enumerate := PySem.W.mg_none_of X G z_enumerate
  have b_all := PySem.W.mg_none_of X G z_all
  have b_list := PySem.W.mg_none_of X G z_list
  have b_tuple := PySem.W.mg_none_of X G z_tuple
  have b_isinstance := PySem.W.mg_none_of X G z_isinstance
  have g_NONE : ∃ u, mg "NONE" = some u ∧ RelV (.str "none") u := ⟨_, PySem.W.mg_of X G w_NONE, _, rfl⟩
  have g_MOST_FIGURES : ∃ u, mg "MOST_FIGURES" = some u ∧ RelV (.int 9) u := ⟨_, PySem.W.mg_of X G w_MOST_FIGURES, _, rfl⟩
  have g_FIGURES : ∃ u, mg "FIGURES" = some u ∧ RelV (.str "0123456789") u := ⟨_, PySem.W.mg_of X G w_FIGURES, _, rfl⟩
  have no_BadRow : ∀ f ∈ (["row", "place"] : List Str), PySem.W.findIn K (.ref C_BadRow) f = some none := by
    intro f hf
    simp only [List.mem_cons, List.not_mem_nil, or_false] at hf
    rcases hf with rfl | rfl
    · exact xf_BadRow_row
    · exact xf_BadRow_place
  have x_BadRow : ExC l.prog w K mg base 1 "BadRow" C_BadRow ["self", "row", "place"] ["row", "place"] := { T := ⟨⟨_, _, _, _, _, _, _, _, _, _, _, _, _, _, _, xl_BadRow, xv_BadRow⟩, xs_BadRow, xb_BadRow, xy_BadRow, xk_BadRow⟩, g := PySem.W.mg_of X G xa_BadRow, ini := ⟨fI_BadRow, _, xi_BadRow, xt_BadRow, okIBadRow FI_BadRow, BI_BadRow⟩, no := no_BadRow, xf := ⟨xg_BadRow, xh_BadRow, xb_BadRow, xd_BadRow⟩, te := exm_one xb_BadRow xn_BadRow xy_BadRow xz_BadRow }
  have h_State : Cal l.prog w K mg base 1 "_law_state" ["_law_cell"] (spOf K fState) := ⟨f_State, _, okState F_State b_abs b_int (hlenState) (fun C es m Po hF => bState C es m Po hF), PySem.W.mg_of X G a_State, k_State, B_State⟩
  have h_Digit : Cal l.prog w K mg base 1 "_law_digit" ["_law_state_here", "_law_base"] (spOf K fDigit) := ⟨f_Digit, _, okDigit F_Digit  (hlenDigit) (fun C es m Po hF => bDigit C es m Po hF), PySem.W.mg_of X G a_Digit, k_Digit, B_Digit⟩
  have h_Name : Cal l.prog w K mg base 2 "_law_name" ["_law_s", "_law_taken"] (spOf K fName) := ⟨f_Name, _, okName F_Name h_Digit b_range b_str (hlenName) (fun C es m Po hF => bName C es m Po hF), PySem.W.mg_of X G a_Name, k_Name, B_Name⟩
  have h_Names : Cal l.prog w K mg base 3 "_law_names" ["_law_s", "_law_many"] (spOf K fNames) := ⟨f_Names, _, okNames F_Names h_Name b_range (hlenNames) (fun C es m Po hF => bNames C es m Po hF), PySem.W.mg_of X G a_Names, k_Names, B_Names⟩
  have h_IsNumber : Cal l.prog w K mg base 1 "_law_is_number" ["_law_text"] (spOf K fIsNumber) := ⟨f_IsNumber, _, okIsNumber F_IsNumber b_len (hlenIsNumber) (fun C es m Po hF => bIsNumber C es m Po hF), PySem.W.mg_of X G a_IsNumber, k_IsNumber, B_IsNumber⟩
  have h_Changed : Cal l.prog w K mg base 2 "_law_changed" ["_law_s", "_law_text"] (spOf K fChanged) := ⟨f_Changed, _, okChanged F_Changed h_Digit b_len b_int (hlenChanged) (fun C es m Po hF => bChanged C es m Po hF), PySem.W.mg_of X G a_Changed, k_Changed, B_Changed⟩
  have h_Due : Cal l.prog w K mg base 2 "_law_due" ["_law_text", "_law_of_moves"] (spOf K fDue) := ⟨f_Due, _, okDue F_Due h_IsNumber b_enumerate b_len b_int (hlenDue) (fun C es m Po hF => bDue C es m Po hF), PySem.W.mg_of X G a_Due, k_Due, B_Due⟩
  have h_MovesRow : Cal l.prog w K mg base 1 "moves_row" ["moves"] (spOf K fMovesRow) := ⟨f_MovesRow, _, okMovesRow F_MovesRow g_NONE (hlenMovesRow) (fun C es m Po hF => bMovesRow C es m Po hF), PySem.W.mg_of X G a_MovesRow, k_MovesRow, B_MovesRow⟩
  have h_IsFigures : Cal l.prog w K mg base 1 "is_figures" ["text"] (spOf K fIsFigures) := ⟨f_IsFigures, _, okIsFigures F_IsFigures b_len b_all g_MOST_FIGURES g_FIGURES (hlenIsFigures) (fun C es m Po hF => bIsFigures C es m Po hF), PySem.W.mg_of X G a_IsFigures, k_IsFigures, B_IsFigures⟩
  have h_PairsIn : Cal l.prog w K mg base 1 "pairs_in" ["text"] (spOf K fPairsIn) := ⟨f_PairsIn, _, okPairsIn F_PairsIn b_enumerate (hlenPairsIn) (fun C es m Po hF => bPairsIn C es m Po hF), PySem.W.mg_of X G a_PairsIn, k_PairsIn, B_PairsIn⟩
  have h_WishesRow : Cal l.prog w K mg base 1 "wishes_row" ["wishes"] (spOf K fWishesRow) := ⟨f_WishesRow, _, okWishesRow F_WishesRow  (hlenWishesRow) (fun C es m Po hF => bWishesRow C es m Po hF), PySem.W.mg_of X G a_WishesRow, k_WishesRow, B_WishesRow⟩
  have h_ReadMoves : CalX l.prog w K mg base 3 "read_moves" ["text"] (spOfX K (fReadMoves C_BadRow)) := ⟨f_ReadMoves, _, okReadMoves (c_BadRow := C_BadRow) F_ReadMoves h_PairsIn h_IsFigures x_BadRow b_len b_int g_NONE (hlenReadMoves) (fun C es m Po Xp E d_BadRow hF hE => bReadMoves C C_BadRow es m Po Xp E d_BadRow hF hE), PySem.W.mg_of X G a_ReadMoves, k_ReadMoves, B_ReadMoves⟩
  have h_ReadWishes : CalX l.prog w K mg base 3 "read_wishes" ["text"] (spOfX K (fReadWishes C_BadRow)) := ⟨f_ReadWishes, _, okReadWishes (c_BadRow := C_BadRow) F_ReadWishes h_PairsIn x_BadRow b_len (hlenReadWishes) (fun C es m Po Xp E d_BadRow hF hE => bReadWishes C C_BadRow es m Po Xp E d_BadRow hF hE), PySem.W.mg_of X G a_ReadWishes, k_ReadWishes, B_ReadWishes⟩
  have h_Told : Cal l.prog w K mg base 4 "_law_told" ["_law_text", "_law_of_moves"] (spOf K fTold) := ⟨f_Told, _, okTold (c_BadRow := C_BadRow) F_Told h_ReadMoves h_ReadWishes x_BadRow (hlenTold) (fun C es m Po d_BadRow hF => bTold C C_BadRow es m Po d_BadRow hF), PySem.W.mg_of X G a_Told, k_Told, B_Told⟩
  exact okLaw (c_BadRow := C_BadRow) F_Law h_State h_Digit h_Names h_MovesRow h_WishesRow h_Told h_Changed h_Due b_range b_list b_str b_tuple b_isinstance x_BadRow (hlenLaw) (fun C es m Po d_BadRow hF => bLaw C C_BadRow es m Po d_BadRow hF)
end N10
open PySem PySem.W PyProof.Rows
set_option maxHeartbeats 0 in
theorem PySem.Challenge.cw_nestkeys_k10_rows_of_moves_and_wishes_holds : PySem.Challenge.rw_nestkeys_k10_rows_of_moves_and_wishes.Holds := by
  w_on; o_law; k_head; (case hw => w_witness2)
  k_fill
  refine L2.walk_of (l := PySem.Challenge.rw_nestkeys_k10_rows_of_moves_and_wishes) (n := 63) (k := 5) (x := "_law_script") (CX := fun _ => L2.CX0) (sp := fun w => NK.spOf _ N10.fLaw) rfl (by decide) rfl ⟨rfl, by decide, by decide⟩ (fun w h Y => PySem.W.kIn_of Y) ?F (fun _ _ a ns hl _ hS => N10.start_ok hl hS) (fun _ _ _ _ _ h => h)
  case F =>
    intro w mg fa h KX G hmg
    refine' N10.put_together KX G hmg ?a_State ?l_State ?c_State ?k_State ?a_Digit ?l_Digit ?c_Digit ?k_Digit ?a_Name ?l_Name ?c_Name ?k_Name ?a_Names ?l_Names ?c_Names ?k_Names ?a_IsNumber ?l_IsNumber ?c_IsNumber ?k_IsNumber ?a_Changed ?l_Changed ?c_Changed ?k_Changed ?a_Due ?l_Due ?c_Due ?k_Due ?a_MovesRow ?l_MovesRow ?c_MovesRow ?k_MovesRow ?a_IsFigures ?l_IsFigures ?c_IsFigures ?k_IsFigures ?a_PairsIn ?l_PairsIn ?c_PairsIn ?k_PairsIn ?a_WishesRow ?l_WishesRow ?c_WishesRow ?k_WishesRow ?a_ReadMoves ?l_ReadMoves ?c_ReadMoves ?k_ReadMoves ?a_ReadWishes ?l_ReadWishes ?c_ReadWishes ?k_ReadWishes ?a_Told ?l_Told ?c_Told ?k_Told ?a_Law ?l_Law ?c_Law ?k_Law ?xa_BadRow ?xl_BadRow ?xv_BadRow ?xs_BadRow ?xg_BadRow ?xh_BadRow ?xf_BadRow_row ?xf_BadRow_place ?xi_BadRow ?xt_BadRow ?xm_BadRow ?xc_BadRow ?xj_BadRow ?xk_BadRow ?xb_BadRow ?xy_BadRow ?xd_BadRow ?xn_BadRow ?xz_BadRow ?z_abs ?z_int ?z_range ?z_str ?z_len ?z_enumerate ?z_all ?z_list ?z_tuple ?z_isinstance ?w_NONE ?w_MOST_FIGURES ?w_FIGURES
    (case a_State => k_is)
    (case l_State => k_is)
    (case c_State => k_is)
    (case k_State => k_is)
    (case a_Digit => k_is)
    (case l_Digit => k_is)
    (case c_Digit => k_is)
    (case k_Digit => k_is)
    (case a_Name => k_is)
    (case l_Name => k_is)
    (case c_Name => k_is)
    (case k_Name => k_is)
    (case a_Names => k_is)
    (case l_Names => k_is)
    (case c_Names => k_is)
    (case k_Names => k_is)
    (case a_IsNumber => k_is)
    (case l_IsNumber => k_is)
    (case c_IsNumber => k_is)
    (case k_IsNumber => k_is)
    (case a_Changed => k_is)
    (case l_Changed => k_is)
    (case c_Changed => k_is)
    (case k_Changed => k_is)
    (case a_Due => k_is)
    (case l_Due => k_is)
    (case c_Due => k_is)
    (case k_Due => k_is)
    (case a_MovesRow => k_is)
    (case l_MovesRow => k_is)
    (case c_MovesRow => k_is)
    (case k_MovesRow => k_is)
    (case a_IsFigures => k_is)
    (case l_IsFigures => k_is)
    (case c_IsFigures => k_is)
    (case k_IsFigures => k_is)
    (case a_PairsIn => k_is)
    (case l_PairsIn => k_is)
    (case c_PairsIn => k_is)
    (case k_PairsIn => k_is)
    (case a_WishesRow => k_is)
    (case l_WishesRow => k_is)
    (case c_WishesRow => k_is)
    (case k_WishesRow => k_is)
    (case a_ReadMoves => k_is)
    (case l_ReadMoves => k_is)
    (case c_ReadMoves => k_is)
    (case k_ReadMoves => k_is)
    (case a_ReadWishes => k_is)
    (case l_ReadWishes => k_is)
    (case c_ReadWishes => k_is)
    (case k_ReadWishes => k_is)
    (case a_Told => k_is)
    (case l_Told => k_is)
    (case c_Told => k_is)
    (case k_Told => k_is)
    (case a_Law => k_is)
    (case l_Law => k_is)
    (case c_Law => k_is)
    (case k_Law => k_is)
    (case xa_BadRow => k_is)
    (case xl_BadRow => k_is)
    (case xv_BadRow => first | rfl | decide +kernel)
    (case xs_BadRow => k_is)
    (case xg_BadRow => k_is)
    (case xh_BadRow => k_is)
    (case xf_BadRow_row => k_is)
    (case xf_BadRow_place => k_is)
    (case xi_BadRow => k_is)
    (case xt_BadRow => k_is)
    (case xm_BadRow => k_is)
    (case xc_BadRow => k_is)
    (case xj_BadRow => k_is)
    (case xk_BadRow => k_is)
    (case xb_BadRow => k_is)
    (case xy_BadRow => k_is)
    (case xd_BadRow => k_is)
    (case xn_BadRow => k_is)
    (case xz_BadRow => first | rfl | k_is)
    (case z_abs => k_is)
    (case z_int => k_is)
    (case z_range => k_is)
    (case z_str => k_is)
    (case z_len => k_is)
    (case z_enumerate => k_is)
    (case z_all => k_is)
    (case z_list => k_is)
    (case z_tuple => k_is)
    (case z_isinstance => k_is)
    (case w_NONE => k_is)
    (case w_MOST_FIGURES => k_is)
    (case w_FIGURES => k_is)
