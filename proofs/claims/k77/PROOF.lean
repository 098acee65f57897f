import PyProof.Rows.All
import Wide.All
import OpenK.AllK
import Wide.FinOn
import HandS.ForMost
import HandS.Evl
import HandS.Conv
import HandS.Defaults
import HandS.TupAny
import HandS.TupMul
import HandS.TupSets
import HandS.DictComp
import HandS.Zip
import HandS.Rev
import HandS.Walk
import HandS.IsInst
import HandS.Deep
import HandS.TryOnly
import HandS.Head0
import HandS.Head1
import HandS.Head2
import HandS.HeadEnd
import HandS.HeadHook1
import HandS.HeadHook2
import HandS.Iter
import KE.GoesMore
import HandS.DictTup
import HandS.SetFor
import KE.KDictDisplayH
import PyProof.DictMoreH
import PySem.Challenge.RW_loopwright_k77_whole_side_by_side
set_option Elab.async false
set_option linter.all false
set_option maxRecDepth 100000
set_option maxHeartbeats 4000000
namespace Lp
open PySem PySem.Spec PyProof.Rows L2 Evl
/-! ### what a run keeps: M may change, B is what stands for good, H the heap -/
structure Ext (M : Addr → Prop) (B H B1 H1 : Hp) : Prop where
  hh : ∀ a o, ¬ M a → H a = some o → H1 a = some o
  bb : Ex B B1
  bh : Ex B1 H1
  fr : ∀ a, B a = none → H a ≠ none → B1 a = none
  ke : ∀ a, H a ≠ none → H1 a ≠ none
abbrev M0 : Addr → Prop := fun _ => False

theorem Ext.refl {M : Addr → Prop} {B H : Hp} (h : Ex B H) : Ext M B H B H := ⟨fun _ _ _ e => e, Ex.refl _, h, fun _ e _ => e, fun _ e => e⟩
theorem Ext.trans {M : Addr → Prop} {B H B1 H1 B2 H2 : Hp} (x : Ext M B H B1 H1) (y : Ext M B1 H1 B2 H2) : Ext M B H B2 H2 where
  hh := fun a o m e => y.hh a o m (x.hh a o m e)
  bb := x.bb.trans y.bb
  bh := y.bh
  fr := fun a e n => y.fr a (x.fr a e n) (x.ke a n)
  ke := fun a n => y.ke a (x.ke a n)
theorem Ext.mono {M M' : Addr → Prop} {B H B1 H1 : Hp} (x : Ext M B H B1 H1) (h : ∀ a, M a → M' a) : Ext M' B H B1 H1 :=
  ⟨fun a o m e => x.hh a o (fun z => m (h a z)) e, x.bb, x.bh, x.fr, x.ke⟩
/-- a callee that changes nothing -/
theorem Ext.then0 {M : Addr → Prop} {B H B1 H1 B2 H2 : Hp} (x : Ext M B H B1 H1) (y : Ext M0 B1 H1 B2 H2) : Ext M B H B2 H2 := x.trans (y.mono fun _ z => z.elim)
/-- a callee that changes what was new here (or what may change) -/
theorem Ext.thenM {M N : Addr → Prop} {B H B1 H1 B2 H2 : Hp} (x : Ext M B H B1 H1) (y : Ext N B1 H1 B2 H2) (h : ∀ a, N a → M a ∨ H a = none) : Ext M B H B2 H2 where
  hh := fun a o m e => y.hh a o (fun z => (h a z).elim m (fun q => by rw [q] at e; cases e)) (x.hh a o m e)
  bb := x.bb.trans y.bb
  bh := y.bh
  fr := fun a e n => y.fr a (x.fr a e n) (x.ke a n)
  ke := fun a n => y.ke a (x.ke a n)
theorem upd_some {H : Hp} {p : Addr} {o : HO} {a : Addr} (h : H a ≠ none) : upd H p o a ≠ none := by
  unfold upd
  split
  · intro z; cases z
  · exact h
/-- a new object, changing yet -/
theorem Ext.own {M : Addr → Prop} {B0 H0 B H : Hp} {p : Addr} {o : HO} (x : Ext M B0 H0 B H) (n0 : M p ∨ H0 p = none) (nB : B p = none) : Ext M B0 H0 B (upd H p o) where
  hh := fun a u m e => by
    have ne : a ≠ p := fun q => by
      subst q
      rcases n0 with z | z
      · exact m z
      · rw [z] at e; cases e
    rw [upd_ne ne]
    exact x.hh a u m e
  bb := x.bb
  bh := fun a u e => by
    have ne : a ≠ p := fun q => by rw [q, nB] at e; cases e
    rw [upd_ne ne]
    exact x.bh a u e
  fr := x.fr
  ke := fun a n => upd_some (x.ke a n)
/-- what was new stands for good -/
theorem Ext.fix {M : Addr → Prop} {B0 H0 B H : Hp} {p : Addr} {o : HO} (x : Ext M B0 H0 B H) (n0 : H0 p = none) (nB : B p = none) (h : H p = some o) : Ext M B0 H0 (upd B p o) H where
  hh := x.hh
  bb := x.bb.trans (Ex.new nB)
  bh := fun a u e => by
    by_cases q : a = p
    · subst q
      rw [upd_same] at e
      cases e
      exact h
    · rw [upd_ne q] at e
      exact x.bh a u e
  fr := fun a e n => by
    have ne : a ≠ p := fun q => by rw [q] at n; exact n n0
    rw [upd_ne ne]
    exact x.fr a e n
  ke := x.ke
/-- a new object that stands for good at once -/
theorem Ext.put {M : Addr → Prop} {B0 H0 B H : Hp} {p : Addr} {o : HO} (x : Ext M B0 H0 B H) (n : H p = none) : Ext M B0 H0 (upd B p o) (upd H p o) := by
  have nB : B p = none := fresh_back x.bh n
  have n0 : H0 p = none := by
    cases q : H0 p with
    | none => rfl
    | some u => exact absurd n (x.ke p (by rw [q]; intro z; cases z))
  exact (x.own (.inr n0) nB).fix n0 nB upd_same
theorem Ext.back {M : Addr → Prop} {B0 H0 B H : Hp} {p : Addr} (x : Ext M B0 H0 B H) (n : H p = none) : H0 p = none := by
  cases q : H0 p with
  | none => rfl
  | some u => exact absurd n (x.ke p (by rw [q]; intro z; cases z))
theorem Ext.backB {M : Addr → Prop} {B0 H0 B H : Hp} {p : Addr} (x : Ext M B0 H0 B H) (n : H p = none) : B p = none := fresh_back x.bh n

/-! ### what is reckoned and leaves the heap as it is -/
def Pu (te : TE) (σ : L2.St) (H : Hp) (v : V) : Prop := ∀ Q : VK, Q v H → te σ H Q
def PuT (tt : TT) (σ : L2.St) (H : Hp) (b : Bool) : Prop := ∀ Q : Bool → Hp → Prop, Q b H → tt σ H Q
def PuA (ta : TA) (σ : L2.St) (H : Hp) (vs : List V) : Prop := ∀ Q : List V → Hp → Prop, Q vs H → ta σ H Q
def PuO (to : TO) (σ : L2.St) (H : Hp) (o : Option Int) : Prop := ∀ Q : Option Int → Hp → Prop, Q o H → to σ H Q
section
variable {K : PySem.W.Frag} {σ : L2.St} {H : Hp} {ta tb tc te : TE} {t u : TT} {x y z v : V} {r : R2} {i j k : Int} {a b c : Bool}
theorem pu_var {n : Nat} (h : σ[n]? = some (some v) := by rfl) : Pu (tVar n) σ H v := fun _ q => ⟨v, h, q⟩
theorem pu_c : Pu (tC v) σ H v := fun _ q => q
theorem pu_op (ha : Pu ta σ H x) (hb : Pu tb σ H y) (hr : ∀ Q : VK, Q z H → r x y H Q) : Pu (tOp r ta tb) σ H z := fun Q q => ha _ (hb _ (hr Q q))
theorem pu_I0 {g : Int → Int → V} (ha : Pu ta σ H (.int i)) (hb : Pu tb σ H (.int j)) : Pu (tOp (rI0 g) ta tb) σ H (g i j) := pu_op ha hb fun _ q => ⟨i, j, rfl, rfl, q⟩
theorem pu_I {C : Int → Int → Prop} {g : Int → Int → V} (ha : Pu ta σ H (.int i)) (hb : Pu tb σ H (.int j)) (hc : C i j) : Pu (tOp (rI C g) ta tb) σ H (g i j) := pu_op ha hb fun _ q => ⟨i, j, rfl, rfl, hc, q⟩
theorem pu_neg (ha : Pu ta σ H (.int i)) : Pu (tUn (rU fun i => .int (-i)) ta) σ H (.int (-i)) := fun _ q => ha _ ⟨i, rfl, q⟩
theorem pu_eqI (ha : Pu ta σ H (.int i)) (hb : Pu tb σ H (.int j)) : Pu (tOp rEq ta tb) σ H (.bl (decide (i = j))) := pu_op ha hb fun Q q => ⟨rfl, by
  have e : decide (V.int i = V.int j) = decide (i = j) := by simp
  rw [e]; exact q⟩
theorem pu_neI (ha : Pu ta σ H (.int i)) (hb : Pu tb σ H (.int j)) : Pu (tOp rNe ta tb) σ H (.bl (!decide (i = j))) := pu_op ha hb fun Q q => ⟨rfl, by
  have e : decide (V.int i = V.int j) = decide (i = j) := by simp
  rw [e]; exact q⟩
theorem pu_eqB (ha : Pu ta σ H (.bl a)) (hb : Pu tb σ H (.bl b)) : Pu (tOp rEq ta tb) σ H (.bl (a == b)) := pu_op ha hb fun Q q => ⟨rfl, by
  have e : decide (V.bl a = V.bl b) = (a == b) := by cases a <;> cases b <;> rfl
  rw [e]; exact q⟩
theorem pu_ixT {p : Addr} {xs : List V} (ha : Pu ta σ H (.ref p)) (hb : Pu tb σ H (.int i)) (h : SqT K H p xs) (hv : atI xs i = some v) : Pu (tOp (rIxT K) ta tb) σ H v := pu_op ha hb fun _ q => ⟨p, xs, i, v, rfl, rfl, h, hv, q⟩
theorem pu_ixL {p : Addr} {xs : List V} (ha : Pu ta σ H (.ref p)) (hb : Pu tb σ H (.int i)) (h : SqL K H p xs) (hv : atI xs i = some v) : Pu (tOp (rIxL K) ta tb) σ H v := pu_op ha hb fun _ q => ⟨p, xs, i, v, rfl, rfl, h, hv, q⟩
theorem pu_chain {r r' : R2} (ha : Pu ta σ H x) (hb : Pu tb σ H y) (hc : Pu tc σ H z) (h1 : ∀ Q : VK, Q (.bl a) H → r x y H Q) (h2 : ∀ Q : VK, Q (.bl b) H → r' y z H Q) : Pu (tChain r r' ta tb tc) σ H (.bl (a && b)) := fun Q q =>
  ha _ (hb _ (h1 _ ⟨a, rfl, by
    cases a with
    | true => exact iteT (hc _ (h2 _ q))
    | false => exact iteF q⟩))
theorem pu_chII {g g' : Int → Int → Bool} (ha : Pu ta σ H (.int i)) (hb : Pu tb σ H (.int j)) (hc : Pu tc σ H (.int k)) : Pu (tChain (rI0 fun i j => .bl (g i j)) (rI0 fun i j => .bl (g' i j)) ta tb tc) σ H (.bl (g i j && g' j k)) :=
  pu_chain ha hb hc (fun _ q => ⟨i, j, rfl, rfl, q⟩) (fun _ q => ⟨j, k, rfl, rfl, q⟩)
theorem pu_and (ha : Pu ta σ H (.bl a)) (hb : a = true → Pu tb σ H (.bl b)) : Pu (tAndV ta tb) σ H (.bl (a && b)) := fun Q q => ha _ ⟨a, rfl, by
  cases a with
  | true => exact iteT (hb rfl _ q)
  | false => exact iteF q⟩
theorem pu_or (ha : Pu ta σ H (.bl a)) (hb : a = false → Pu tb σ H (.bl b)) : Pu (tOrV ta tb) σ H (.bl (a || b)) := fun Q q => ha _ ⟨a, rfl, by
  cases a with
  | true => exact iteT q
  | false => exact iteF (hb rfl _ q)⟩
theorem pu_not (ha : Pu ta σ H (.bl a)) : Pu (tNotV ta) σ H (.bl (!a)) := fun Q q => ha _ ⟨a, rfl, q⟩
theorem pu_if (hc : PuT t σ H a) (h1 : a = true → Pu ta σ H x) (h2 : a = false → Pu tb σ H y) : Pu (tIf t ta tb) σ H (bif a then x else y) := fun Q q => hc _ (by
  cases a with
  | true => exact iteT (h1 rfl _ q)
  | false => exact iteF (h2 rfl _ q))
theorem pt_B (h : Pu te σ H (.bl a)) : PuT (tB te) σ H a := fun _ q => h _ ⟨a, rfl, q⟩
theorem pa_n : PuA tNil σ H [] := fun _ q => q
theorem pa_c {tr : TA} {vs : List V} (h : Pu ta σ H x) (hr : PuA tr σ H vs) : PuA (tCons ta tr) σ H (x :: vs) := fun _ q => h _ (hr _ q)
theorem po_n : PuO tNoPart σ H none := fun _ q => q
theorem po_s (h : Pu te σ H (.int i)) : PuO (tPart te) σ H (some i) := fun _ q => h _ ⟨i, rfl, q⟩
theorem pu_cb {rr : List V → Hp → VK → Prop} {tA : TA} {vs : List V} (h : PuA tA σ H vs) (hr : ∀ Q : VK, Q v H → rr vs H Q) : Pu (tCB rr tA) σ H v := fun Q q => h _ (hr Q q)
abbrev rAbs : List V → Hp → VK → Prop := fun xs H Q => ∃ i, xs = [.int i] ∧ Q (.int (if i < 0 then -i else i)) H
theorem pu_abs (h : Pu ta σ H (.int i)) : Pu (tCB (fun xs H Q => ∃ i, xs = [.int i] ∧ Q (.int (if i < 0 then -i else i)) H) (tCons ta tNil)) σ H (.int (if i < 0 then -i else i)) := fun Q q => h _ ⟨i, rfl, q⟩
theorem pu_int1 (h : Pu ta σ H (.bl a)) : Pu (tCB (fun xs H Q => (∃ i, xs = [.int i] ∧ Q (.int i) H) ∨ ∃ k, xs = [.bl k] ∧ Q (.int (if k then 1 else 0)) H) (tCons ta tNil)) σ H (.int (if a then 1 else 0)) := fun Q q => h _ (.inr ⟨a, rfl, q⟩)
theorem pu_lenT {p : Addr} {xs : List V} (h : Pu ta σ H (.ref p)) (hs : SqT K H p xs) : Pu (tCB (fun xs H Q => ∃ p ys, xs = [.ref p] ∧ (SqL K H p ys ∨ SqT K H p ys) ∧ Q (.int ys.length) H) (tCons ta tNil)) σ H (.int xs.length) := fun Q q => h _ ⟨p, xs, rfl, .inr hs, q⟩
theorem pu_lenL {p : Addr} {xs : List V} (h : Pu ta σ H (.ref p)) (hs : SqL K H p xs) : Pu (tCB (fun xs H Q => ∃ p ys, xs = [.ref p] ∧ (SqL K H p ys ∨ SqT K H p ys) ∧ Q (.int ys.length) H) (tCons ta tNil)) σ H (.int xs.length) := fun Q q => h _ ⟨p, xs, rfl, .inl hs, q⟩
end
/-! ### indices -/
/-- an item of a list of ints by a whole number -/
def gi (xs : List Int) (i : Int) : Int := (atI xs i).getD 0
theorem atI_map {α β : Type} (f : α → β) (xs : List α) (i : Int) : atI (xs.map f) i = (atI xs i).map f := by
  unfold atI
  rw [List.length_map]
  cases ixN xs.length i with
  | none => rfl
  | some j => simp
theorem atI_gi {xs : List Int} {i : Int} (h : (atI xs i).isSome = true) : atI (xs.map V.int) i = some (.int (gi xs i)) := by
  rw [atI_map]
  unfold gi
  cases e : atI xs i with
  | none => rw [e] at h; cases h
  | some y => rfl

/-! ### statements -/
section
variable {K : PySem.W.Frag} {σ σ' : L2.St} {H : Hp} {ta tb te : TE} {t u : TT} {x y z v : V} {D : Ends} {tu tw tz : TS} {a b : Bool}
theorem s_asgP {i : Nat} (h : Pu te σ H v) (e : σ.set i (some v) = σ') (k : D.nx σ' H) : tAsg te (gName i) D σ H := h _ (show D.nx (σ.set i (some v)) H by rw [e]; exact k)
theorem q_asgP {i : Nat} (h : Pu te σ H v) (e : σ.set i (some v) = σ') (k : tz D σ' H) : tSeq (tAsg te (gName i)) tz D σ H := h _ (show tz D (σ.set i (some v)) H by rw [e]; exact k)
theorem s_asgC {i : Nat} (k : te σ H fun v H1 => D.nx (σ.set i (some v)) H1) : tAsg te (gName i) D σ H := k
theorem q_asgC {i : Nat} (k : te σ H fun v H1 => tz D (σ.set i (some v)) H1) : tSeq (tAsg te (gName i)) tz D σ H := k
theorem s_retP (h : Pu te σ H v) (k : D.rt v H) : tRet te D σ H := h _ k
theorem s_ifP (h : PuT t σ H a) (h1 : a = true → tu D σ H) (h2 : a = false → tw D σ H) : tIfS t tu tw D σ H := h _ (by
  cases a with
  | true => exact iteT (h1 rfl)
  | false => exact iteF (h2 rfl))
theorem q_ifP (h : PuT t σ H a) (h1 : a = true → tu { D with nx := tz D } σ H) (h2 : a = false → tw { D with nx := tz D } σ H) : tSeq (tIfS t tu tw) tz D σ H := s_ifP (D := { D with nx := tz D }) h h1 h2
theorem q_dropC (k : te σ H fun _ H1 => tz D σ H1) : tSeq (tDrop te) tz D σ H := k
theorem s_dropC (k : te σ H fun _ H1 => D.nx σ H1) : tDrop te D σ H := k
theorem k_call {sp : Sp} {E : XK} {tA : TA} {vs : List V} {Q : VK} (h : PuA tA σ H vs) (k : sp vs H Q E) : tCall sp [] E tA σ H Q := h _ (by rw [List.append_nil]; exact k)
end
/-! ### folds -/
theorem fold_turn {τ S : Type} {st : S → τ → S} {L : List τ} {i : Nat} {x : τ} {s R : S} (hx : L[i]? = some x) (h : (L.drop i).foldl st s = R) : (L.drop (i + 1)).foldl st (st s x) = R := by
  obtain ⟨hi, e⟩ := List.getElem?_eq_some_iff.mp hx
  rw [List.drop_eq_getElem_cons hi, List.foldl_cons, e] at h
  exact h
theorem fold_end {τ S : Type} {st : S → τ → S} {L : List τ} {s R : S} (h : (L.drop L.length).foldl st s = R) : s = R := by
  rw [List.drop_length] at h
  exact h
def foldE {τ S R : Type} (st : S → τ → Except R S) : S → List τ → Except R S
  | s, [] => .ok s
  | s, x :: r => match st s x with
    | .ok s' => foldE st s' r
    | .error e => .error e
theorem foldE_ok {τ S R : Type} {st : S → τ → Except R S} {L : List τ} {i : Nat} {x : τ} {s s' : S} {T : Except R S} (hx : L[i]? = some x) (h : foldE st s (L.drop i) = T) (hs : st s x = .ok s') : foldE st s' (L.drop (i + 1)) = T := by
  obtain ⟨hi, e⟩ := List.getElem?_eq_some_iff.mp hx
  rw [List.drop_eq_getElem_cons hi, e] at h
  unfold foldE at h
  rw [hs] at h
  exact h
theorem foldE_err {τ S R : Type} {st : S → τ → Except R S} {L : List τ} {i : Nat} {x : τ} {s : S} {q : R} {T : Except R S} (hx : L[i]? = some x) (h : foldE st s (L.drop i) = T) (hs : st s x = .error q) : T = .error q := by
  obtain ⟨hi, e⟩ := List.getElem?_eq_some_iff.mp hx
  rw [List.drop_eq_getElem_cons hi, e] at h
  unfold foldE at h
  rw [hs] at h
  exact h.symm
theorem foldE_end {τ S R : Type} {st : S → τ → Except R S} {L : List τ} {s : S} {T : Except R S} (h : foldE st s (L.drop L.length) = T) : T = .ok s := by
  rw [List.drop_length] at h
  exact h.symm

/-! ### defs and their calls -/
abbrev FnP (K : PySem.W.Frag) (x : Str) (st : Stmt) (f : Addr) (fd : FuncData) : Prop := FunD K x x (defArgs st) (defBody st) (defScope st) [] [] f fd
structure Cal (P : Program) (w : World) (K : PySem.W.Frag) (mg : Str → Option Value) (base : Heap) (x : Str) (ps : List Str) (k : Nat) (sp : Sp) : Prop where
  ex : ∃ f fd, FnOk P w K mg base CX0 k f fd ps sp ∧ mg x = some (.ref f) ∧ PySem.W.keepIn K (.ref f) = true ∧ Binds K fd ps []
section
variable {X : Cx} {x : Str} {ps : List Str} {k : Nat} {sp : Sp} {p pos : Pos} {e : Expr} {es : List Expr} {t : TA}
theorem pe_cal (C : Cal X.prog X.w X.K X.mg X.base x ps k sp) (hr : Room k X.A) (hg : Gl X x) (ha : PA X (e :: es) t) (hdb : (x == ("__debug__" : Str)) = false := by decide)
    (he : starEach (e :: es) X.env = (false, eval e X.env) :: starEach es X.env := by rfl) (hpl : (backTo pos (starEach es X.env)).any (·.1) = false := by rfl) : PE X (.Call (.Name x p) (e :: es) [] pos) (tCall sp [] E0 t) := by
  obtain ⟨f, fd, F, hm, hk, hb⟩ := C.ex
  exact pe_call F hr hg hm hk hb .nil pass0 ha hdb he hpl
theorem pe_cal0 (C : Cal X.prog X.w X.K X.mg X.base x ps k sp) (hr : Room k X.A) (hg : Gl X x) (hdb : (x == ("__debug__" : Str)) = false := by decide) : PE X (.Call (.Name x p) [] [] pos) (tCall sp [] E0 tNil) := by
  obtain ⟨f, fd, F, hm, hk, hb⟩ := C.ex
  exact pe_call0 F hr hg hm hk hb .nil pass0 hdb
theorem pe_kI {i : Int} (h : ∃ t, X.mg x = some (.int i t)) (hg : Gl X x) (hd : (x == ("__debug__" : Str)) = false := by decide) : PE X (.Name x pos) (tC (.int i)) := by
  obtain ⟨t, h⟩ := h
  exact pe_glob hg h ⟨t, rfl⟩ hd
theorem pe_kS {z : Str} (h : ∃ t, X.mg x = some (.str z t)) (hg : Gl X x) (hd : (x == ("__debug__" : Str)) = false := by decide) : PE X (.Name x pos) (tC (.str z)) := by
  obtain ⟨t, h⟩ := h
  exact pe_glob hg h ⟨t, rfl⟩ hd
end
theorem hu_of65 {A : Around} {k : Nat} (hr : Room (k + 1) A) : A.units + 65 < cLine := by have := hr.un; omega

/-! ### tests -/
section
variable {K : PySem.W.Frag} {σ : L2.St} {H : Hp} {te : TE} {t u : TT} {a b : Bool}
theorem pt_test (h : Pu te σ H (.bl a)) : PuT (tTest te) σ H a := fun _ q => h _ ⟨a, rfl, q⟩
theorem pt_and (ha : PuT t σ H a) (hb : a = true → PuT u σ H b) : PuT (tAnd t u) σ H (a && b) := fun Q q => ha _ (by
  cases a with
  | true => exact iteT (hb rfl _ q)
  | false => exact iteF q)
theorem pt_or (ha : PuT t σ H a) (hb : a = false → PuT u σ H b) : PuT (tOr t u) σ H (a || b) := fun Q q => ha _ (by
  cases a with
  | true => exact iteT q
  | false => exact iteF (hb rfl _ q))
theorem pt_no (ha : PuT t σ H a) : PuT (tNot t) σ H (!a) := fun _ q => ha _ q
end
/-! ### loops -/
section
variable {K : PySem.W.Frag} {σ σ' : L2.St} {H : Hp} {ta tb te tl : TE} {tA : TA} {g : TG} {D : Ends} {tu tz : TS} {a : Addr} {xs : List V}
theorem s_forTP (h : Pu tl σ H (.ref a)) (hx : SqT K H a xs) (Pv : Nat → L2.St → Hp → Prop) (h0 : Pv 0 σ H) (hl : ∀ i σ' H', i ≤ xs.length → Pv i σ' H' → SqT K H' a xs)
    (hs : ∀ i x σ' H', xs[i]? = some x → Pv i σ' H' → g x σ' H' fun σ2 H2 => tu { D with nx := Pv (i + 1), ct := Pv (i + 1), bk := D.nx } σ2 H2) (hd : ∀ σ' H', Pv xs.length σ' H' → D.nx σ' H') : tFor (iTup K tl) g tu D σ H :=
  h _ ⟨a, rfl, ⟨xs, hx⟩, for_tup Pv h0 hl hs hd⟩
theorem q_forTP (h : Pu tl σ H (.ref a)) (hx : SqT K H a xs) (Pv : Nat → L2.St → Hp → Prop) (h0 : Pv 0 σ H) (hl : ∀ i σ' H', i ≤ xs.length → Pv i σ' H' → SqT K H' a xs)
    (hs : ∀ i x σ' H', xs[i]? = some x → Pv i σ' H' → g x σ' H' fun σ2 H2 => tu { D with nx := Pv (i + 1), ct := Pv (i + 1), bk := tz D } σ2 H2) (hd : ∀ σ' H', Pv xs.length σ' H' → tz D σ' H') : tSeq (tFor (iTup K tl) g tu) tz D σ H :=
  s_forTP (D := { D with nx := tz D }) h hx Pv h0 hl hs hd
theorem s_forLP (h : Pu tl σ H (.ref a)) (hx : SqL K H a xs) (Pv : Nat → L2.St → Hp → Prop) (h0 : Pv 0 σ H) (hl : ∀ i σ' H', i ≤ xs.length → Pv i σ' H' → SqL K H' a xs)
    (hs : ∀ i x σ' H', xs[i]? = some x → Pv i σ' H' → g x σ' H' fun σ2 H2 => tu { D with nx := Pv (i + 1), ct := Pv (i + 1), bk := D.nx } σ2 H2) (hd : ∀ σ' H', Pv xs.length σ' H' → D.nx σ' H') : tFor (iList K tl) g tu D σ H :=
  h _ ⟨a, rfl, ⟨xs, hx⟩, for_list Pv h0 hl hs hd⟩
theorem q_forLP (h : Pu tl σ H (.ref a)) (hx : SqL K H a xs) (Pv : Nat → L2.St → Hp → Prop) (h0 : Pv 0 σ H) (hl : ∀ i σ' H', i ≤ xs.length → Pv i σ' H' → SqL K H' a xs)
    (hs : ∀ i x σ' H', xs[i]? = some x → Pv i σ' H' → g x σ' H' fun σ2 H2 => tu { D with nx := Pv (i + 1), ct := Pv (i + 1), bk := tz D } σ2 H2) (hd : ∀ σ' H', Pv xs.length σ' H' → tz D σ' H') : tSeq (tFor (iList K tl) g tu) tz D σ H :=
  s_forLP (D := { D with nx := tz D }) h hx Pv h0 hl hs hd
theorem s_forRP {j : Nat} {n : Int} (h : PuA tA σ H [.int n]) (hn : n < 2 ^ 62) (hn' : -(2 ^ 62) ≤ n) (Pv : Nat → L2.St → Hp → Prop) (h0 : Pv 0 σ H)
    (hs : ∀ (i : Nat) σ' H', (i : Int) < n → Pv i σ' H' → tu { D with nx := Pv (i + 1), ct := Pv (i + 1), bk := D.nx } (σ'.set j (some (.int (i : Int)))) H') (hd : ∀ σ' H', Pv n.toNat σ' H' → D.nx σ' H') : tFor (iRng1 tA) (gName j) tu D σ H :=
  h _ ⟨n, rfl, hn', hn, for_range (lo := 0) (n := n.toNat) Pv h0 (fun i σ' H' hi p => by
    have e0 : (0 : Int) + (i : Int) = (i : Int) := Int.zero_add _
    show tu { D with nx := Pv (i + 1), ct := Pv (i + 1), bk := D.nx } (σ'.set j (some (.int ((0 : Int) + (i : Int))))) H'
    rw [e0]
    exact hs i σ' H' (by omega) p) hd⟩
theorem q_forRP {j : Nat} {n : Int} (h : PuA tA σ H [.int n]) (hn : n < 2 ^ 62) (hn' : -(2 ^ 62) ≤ n) (Pv : Nat → L2.St → Hp → Prop) (h0 : Pv 0 σ H)
    (hs : ∀ (i : Nat) σ' H', (i : Int) < n → Pv i σ' H' → tu { D with nx := Pv (i + 1), ct := Pv (i + 1), bk := tz D } (σ'.set j (some (.int (i : Int)))) H') (hd : ∀ σ' H', Pv n.toNat σ' H' → tz D σ' H') : tSeq (tFor (iRng1 tA) (gName j) tu) tz D σ H :=
  s_forRP (D := { D with nx := tz D }) h hn hn' Pv h0 hs hd
end

theorem pu_call {σ : L2.St} {H : Hp} {sp : Sp} {E : XK} {tA : TA} {vs : List V} {v : V} (h : PuA tA σ H vs) (hs : ∀ Q : VK, Q v H → sp vs H Q E) : Pu (tCall sp [] E tA) σ H v := fun Q q => k_call h (hs Q q)
theorem get_int {xs : List Int} {i : Nat} {x : V} (h : (xs.map V.int)[i]? = some x) : ∃ l, xs[i]? = some l ∧ x = .int l := by
  rw [List.getElem?_map] at h
  cases e : xs[i]? with
  | none => rw [e] at h; cases h
  | some l => rw [e] at h; exact ⟨l, rfl, (Option.some.inj h).symm⟩

theorem k_callC {σ : L2.St} {H : Hp} {sp : Sp} {E : XK} {tA : TA} {Q : VK} (k : tA σ H fun vs H1 => sp (vs ++ []) H1 Q E) : tCall sp [] E tA σ H Q := k
theorem k_cons {σ : L2.St} {H : Hp} {ta : TE} {tr : TA} {Q : List V → Hp → Prop} (k : ta σ H fun x H1 => tr σ H1 fun xs H2 => Q (x :: xs) H2) : tCons ta tr σ H Q := k
theorem Ext.new1 {B H H1 : Hp} {p : Addr} {o : HO} (bh : Ex B H) (e : Ex H H1) (n : H p = none) (h : H1 p = some o) : Ext M0 B H (upd B p o) H1 := by
  have x : Ext M0 B H B H1 := ⟨fun a o _ q => e a o q, Ex.refl _, bh.trans e, fun _ q _ => q, fun a q z => by
    cases r : H a with
    | none => exact q r
    | some u => rw [e a u r] at z; cases z⟩
  exact x.fix n (fresh_back bh n) h
theorem Ext.of {B H H1 : Hp} (bh : Ex B H) (e : Ex H H1) : Ext M0 B H B H1 := ⟨fun a o _ q => e a o q, Ex.refl _, bh.trans e, fun _ q _ => q, fun a q z => by
    cases r : H a with
    | none => exact q r
    | some u => rw [e a u r] at z; cases z⟩
theorem Ext.ex {B H B1 H1 : Hp} (x : Ext M0 B H B1 H1) : Ex H H1 := fun a o e => x.hh a o (fun z => z) e

theorem k_var {σ : L2.St} {H : Hp} {n : Nat} {v : V} {Q : VK} (h : σ[n]? = some (some v)) (k : Q v H) : tVar n σ H Q := ⟨v, h, k⟩
theorem k_pu {σ : L2.St} {H : Hp} {te : TE} {v : V} {Q : VK} (h : Pu te σ H v) (k : Q v H) : te σ H Q := h Q k

/-! ### comprehensions: each item's value stands in B -/
theorem ext_lst {B H B1 H1 : Hp} {Dl : Addr} {o : HO} (x : Ext M0 B H B1 H1) (n : H Dl = none) (nB : B1 Dl = none) : Ext M0 B H B1 (upd H1 Dl o) := x.own (.inr n) nB
section
variable {K : PySem.W.Frag} {σ : L2.St} {B H : Hp} {te tl : TE} {tt : TT} {vs : List Nat} {j n : Nat} {Q : VK} {J : It} {X : Nat → V → Prop} {G : Hp → Prop}
/-- the whole of a comprehension's list: no test -/
theorem lc_all (w : Walk J n G (fun i Ha x Hb => Hb = Ha ∧ X i x)) (bh : Ex B H) (hG : ∀ H', Ex H H' → G H') (Rel : Nat → V → Hp → Prop) (mo : ∀ i y Ba Bb, Ex Ba Bb → Rel i y Ba → Rel i y Bb) (hn : n < 10000000)
    (hw : ∀ x, wipe ((wipe σ vs).set j (some x)) vs = wipe σ vs)
    (hs : ∀ i x B' H' (Q' : VK), i < n → X i x → Ext M0 B H B' H' → (∀ y B2 H2, Ext M0 B' H' B2 H2 → Rel i y B2 → Q' y H2) → te ((wipe σ vs).set j (some x)) H' Q')
    (hd : ∀ (Dl : Addr) (ys : List V) B' H', Ext M0 B H B' H' → H Dl = none → B' Dl = none → H' Dl = some (.lst ys) → ys.length = n → (∀ (i : Nat) y, ys[i]? = some y → Rel i y B') → Q (.ref Dl) H') :
    ∀ Dl, H Dl = none → ∃ W : Nat → Nat → Hp → Prop, (∃ m, W 0 m (upd H Dl (.lst []))) ∧ ∀ i m H, W i m H → (J.stop i H ∧ Q (.ref Dl) H) ∨ (J.go i H ∧ ∃ Nx : Hp → Prop, (∀ H', Nx H' → ∃ m', m' < m ∧ W (i + 1) m' H') ∧ ∀ x H', J.yld i H x H' → gName j x (wipe σ vs) H' fun σ2 H2 => wipe σ2 vs = wipe σ vs ∧ tYes σ2 H2 fun b H3 =>
      if b = true then te σ2 H3 fun y H4 => ∃ acc, H4 Dl = some (.lst acc) ∧ acc.length < sizeLine ∧ Nx (upd H4 Dl (.lst (acc ++ [y]))) else Nx H3) := by
  intro Dl hD
  refine lc_it w (Qd := fun H' => Q (.ref Dl) H') (fun i H' => ∃ ys B', Ext M0 B H B' H' ∧ B' Dl = none ∧ H' Dl = some (.lst ys) ∧ ys.length = i ∧ ∀ (k : Nat) y, ys[k]? = some y → Rel k y B')
    ⟨[], B, (Ext.refl bh).own (.inr hD) (fresh_back bh hD), fresh_back bh hD, upd_same, rfl, fun k y h => by simp at h⟩ (fun i H' _ ⟨_, _, x, _⟩ => hG _ x.ex) (fun i x H' H'' hi p y => ?_) (fun H' p => ?_)
  · obtain ⟨ys, B', e1, nB, hl, hlen, hr⟩ := p
    obtain ⟨rfl, hx⟩ := y
    refine ⟨hw x, ?_⟩
    refine hs i x B' _ _ hi hx e1 fun y B2 H2 e2 r => ?_
    have hl2 := e2.hh Dl _ (fun z => z) hl
    have nB2 : B2 Dl = none := e2.fr Dl nB (by rw [hl]; intro z; cases z)
    refine ⟨ys, hl2, Nat.lt_of_le_of_lt (by rw [hlen]; omega) (show 10000000 < sizeLine by decide), ys ++ [y], B2, (e1.trans e2).own (.inr hD) nB2, nB2, upd_same, by rw [List.length_append, hlen]; rfl, fun k z hk => ?_⟩
    by_cases hk2 : k < ys.length
    · rw [List.getElem?_append_left hk2] at hk
      exact mo k z _ _ e2.bb (hr k z hk)
    · rw [List.getElem?_append_right (by omega)] at hk
      have : k - ys.length = 0 := by
        cases q : k - ys.length with
        | zero => rfl
        | succ m => rw [q] at hk; simp at hk
      rw [this] at hk
      have hz : y = z := by simpa using hk
      have hk3 : k = i := by omega
      rw [hk3, ← hz]
      exact r
  · obtain ⟨ys, B', e1, nB, hl, hlen, hr⟩ := p
    exact hd Dl ys B' H' e1 hD nB hl hlen hr
theorem k_lcL {a : Addr} {xs : List V} (h : Pu tl σ H (.ref a)) (hx : SqL K H a xs) (bh : Ex B H) (Rel : Nat → V → Hp → Prop) (mo : ∀ i y Ba Bb, Ex Ba Bb → Rel i y Ba → Rel i y Bb) (hn : xs.length < 10000000)
    (hw : ∀ x, wipe ((wipe σ vs).set j (some x)) vs = wipe σ vs)
    (hs : ∀ (i : Nat) x B' H' (Q' : VK), xs[i]? = some x → Ext M0 B H B' H' → (∀ y B2 H2, Ext M0 B' H' B2 H2 → Rel i y B2 → Q' y H2) → te ((wipe σ vs).set j (some x)) H' Q')
    (hd : ∀ (Dl : Addr) (ys : List V) B' H', Ext M0 B H B' H' → H Dl = none → B' Dl = none → H' Dl = some (.lst ys) → ys.length = xs.length → (∀ (i : Nat) y, ys[i]? = some y → Rel i y B') → Q (.ref Dl) H') : tLc (iList K tl) (gName j) tYes te vs σ H Q :=
  h _ ⟨a, rfl, ⟨xs, hx⟩, lc_all (X := fun i x => xs[i]? = some x) walk_list bh (fun H' e => ex_l e hx) Rel mo hn hw (fun i x B' H' Q' _ hx => hs i x B' H' Q' hx) hd⟩
theorem k_lcT {a : Addr} {xs : List V} (h : Pu tl σ H (.ref a)) (hx : SqT K H a xs) (bh : Ex B H) (Rel : Nat → V → Hp → Prop) (mo : ∀ i y Ba Bb, Ex Ba Bb → Rel i y Ba → Rel i y Bb) (hn : xs.length < 10000000)
    (hw : ∀ x, wipe ((wipe σ vs).set j (some x)) vs = wipe σ vs)
    (hs : ∀ (i : Nat) x B' H' (Q' : VK), xs[i]? = some x → Ext M0 B H B' H' → (∀ y B2 H2, Ext M0 B' H' B2 H2 → Rel i y B2 → Q' y H2) → te ((wipe σ vs).set j (some x)) H' Q')
    (hd : ∀ (Dl : Addr) (ys : List V) B' H', Ext M0 B H B' H' → H Dl = none → B' Dl = none → H' Dl = some (.lst ys) → ys.length = xs.length → (∀ (i : Nat) y, ys[i]? = some y → Rel i y B') → Q (.ref Dl) H') : tLc (iTup K tl) (gName j) tYes te vs σ H Q :=
  h _ ⟨a, rfl, ⟨xs, hx⟩, lc_all (X := fun i x => xs[i]? = some x) walk_tup bh (fun H' e => ex_t e hx) Rel mo hn hw (fun i x B' H' Q' _ hx => hs i x B' H' Q' hx) hd⟩
theorem k_lcR {tA : TA} {m : Nat} {mi : Int} (h : PuA tA σ H [.int mi]) (em : mi = (m : Int)) (bh : Ex B H) (Rel : Nat → V → Hp → Prop) (mo : ∀ i y Ba Bb, Ex Ba Bb → Rel i y Ba → Rel i y Bb) (hn : m < 10000000)
    (hw : ∀ x, wipe ((wipe σ vs).set j (some x)) vs = wipe σ vs)
    (hs : ∀ (i : Nat) B' H' (Q' : VK), i < m → Ext M0 B H B' H' → (∀ y B2 H2, Ext M0 B' H' B2 H2 → Rel i y B2 → Q' y H2) → te ((wipe σ vs).set j (some (.int (i : Int)))) H' Q')
    (hd : ∀ (Dl : Addr) (ys : List V) B' H', Ext M0 B H B' H' → H Dl = none → B' Dl = none → H' Dl = some (.lst ys) → ys.length = m → (∀ (i : Nat) y, ys[i]? = some y → Rel i y B') → Q (.ref Dl) H') : tLc (iRng1 tA) (gName j) tYes te vs σ H Q := by
  subst em
  exact h _ ⟨_, rfl, by omega, by omega, lc_all (X := fun i x => x = V.int (0 + (i : Int))) walk_range bh (fun H' e => trivial) Rel mo hn hw (fun i x B' H' Q' hi hx => by
    rw [hx, Int.zero_add]
    exact hs i B' H' Q' hi) hd⟩
/-- the values are told: f i -/
theorem list_of {ys : List V} {n : Nat} {f : Nat → V} (hl : ys.length = n) (h : ∀ (i : Nat) y, ys[i]? = some y → y = f i) : ys = (List.range n).map f := by
  apply List.ext_getElem?
  intro i
  by_cases hi : i < n
  · have e : ys[i]? = some ys[i] := List.getElem?_eq_getElem (by omega)
    rw [e, h i _ e, List.getElem?_map, List.getElem?_range hi]
    rfl
  · rw [List.getElem?_eq_none (by omega), List.getElem?_eq_none (by simp; omega)]
theorem list_ofM {τ : Type} {ys : List V} {xs : List τ} {f : τ → V} (hl : ys.length = xs.length) (h : ∀ (i : Nat) y, ys[i]? = some y → ∃ x, xs[i]? = some x ∧ y = f x) : ys = xs.map f := by
  apply List.ext_getElem?
  intro i
  rw [List.getElem?_map]
  cases e : ys[i]? with
  | none =>
    have : ys.length ≤ i := List.getElem?_eq_none_iff.mp e
    rw [List.getElem?_eq_none (by omega)]
    rfl
  | some y =>
    obtain ⟨x, hx, rfl⟩ := h i y e
    rw [hx]
    rfl
end
theorem k_tup {σ : L2.St} {B H : Hp} {tA : TA} {vs : List V} {Q : VK} (h : PuA tA σ H vs) (bh : Ex B H) (hl : vs.length ≤ 100000) (k : ∀ p B1 H1, Ext M0 B H B1 H1 → H p = none → B1 p = some (.tup vs) → Q (.ref p) H1) : tTup tA σ H Q :=
  h _ ⟨sz_of hl, fun p np => k p _ _ ((Ext.refl bh).put np) np upd_same⟩
theorem k_lst {σ : L2.St} {B H : Hp} {tA : TA} {vs : List V} {Q : VK} (h : PuA tA σ H vs) (bh : Ex B H) (hl : vs.length ≤ 100000) (k : ∀ p H1, Ext M0 B H B H1 → H p = none → B p = none → H1 p = some (.lst vs) → Q (.ref p) H1) : tLst tA σ H Q :=
  h _ ⟨sz_of hl, fun p np => k p _ ((Ext.refl bh).own (.inr np) (fresh_back bh np)) np (fresh_back bh np) upd_same⟩

theorem k_cb {σ : L2.St} {H : Hp} {r : List V → Hp → VK → Prop} {tA : TA} {Q : VK} (k : tA σ H fun vs H1 => r vs H1 Q) : tCB r tA σ H Q := k
theorem k_op {σ : L2.St} {H : Hp} {r : R2} {ta tb : TE} {Q : VK} (k : ta σ H fun x H1 => tb σ H1 fun y H2 => r x y H2 Q) : tOp r ta tb σ H Q := k
theorem s_retC {σ : L2.St} {H : Hp} {te : TE} {D : Ends} (k : te σ H D.rt) : tRet te D σ H := k
theorem k_nil {σ : L2.St} {H : Hp} {Q : List V → Hp → Prop} (k : Q [] H) : tNil σ H Q := k

/-- a part that makes a new list and changes nothing -/
def NewL (te : TE) (σ : L2.St) (B H : Hp) (xs : List V) : Prop := ∀ R : VK, (∀ p B1 H1, Ext M0 B H B1 H1 → H p = none → B1 p = some (.lst xs) → R (.ref p) H1) → te σ H R
theorem k_lcNL {K : PySem.W.Frag} {σ : L2.St} {B H : Hp} {te tl : TE} {vs : List Nat} {j : Nat} {Q : VK} {xs : List V} (h : NewL tl σ B H xs) (Rel : Nat → V → Hp → Prop) (mo : ∀ i y Ba Bb, Ex Ba Bb → Rel i y Ba → Rel i y Bb) (hn : xs.length < 10000000)
    (hw : ∀ x, wipe ((wipe σ vs).set j (some x)) vs = wipe σ vs)
    (hs : ∀ (i : Nat) x B' H' (Q' : VK), xs[i]? = some x → Ext M0 B H B' H' → (∀ y B2 H2, Ext M0 B' H' B2 H2 → Rel i y B2 → Q' y H2) → te ((wipe σ vs).set j (some x)) H' Q')
    (hd : ∀ (Dl : Addr) (ys : List V) B' H', Ext M0 B H B' H' → H Dl = none → B' Dl = none → H' Dl = some (.lst ys) → ys.length = xs.length → (∀ (i : Nat) y, ys[i]? = some y → Rel i y B') → Q (.ref Dl) H') : tLc (iList K tl) (gName j) tYes te vs σ H Q :=
  h _ fun p B1 H1 e1 _ h1 => ⟨p, rfl, ⟨xs, .inl (.inl (e1.bh _ _ h1))⟩, lc_all (X := fun i x => xs[i]? = some x) walk_list e1.bh (fun H' e => ex_l e (.inl (.inl (e1.bh _ _ h1)))) Rel mo hn hw (fun i x B' H' Q' _ hx e2 => hs i x B' H' Q' hx (e1.trans e2))
    fun Dl ys B' H' e2 nD => hd Dl ys B' H' (e1.trans e2) (e1.back nD)⟩

theorem atN {xs : List Int} {i : Int} {m : Nat} (e : i = m) (h : m < xs.length) : atI (xs.map V.int) i = some (.int (xs.getD m 0)) := by
  rw [e]
  refine atI_nat ?_
  rw [List.getElem?_map, List.getElem?_eq_getElem h, List.getD_eq_getElem?_getD, List.getElem?_eq_getElem h]
  rfl
theorem ixN_of {n m : Nat} {i : Int} (e : i = m) (h : m < n) : ixN n i = some m := by
  rw [e]
  exact ixN_nat h
theorem set_int (xs : List Int) (m : Nat) (x : Int) : (xs.map V.int).set m (.int x) = (xs.set m x).map V.int := by rw [List.map_set]
/-- xs[i] = e, all without a change of the heap but the list's own -/
theorem q_setP {σ : L2.St} {H : Hp} {ta tb te : TE} {D : Ends} {tz : TS} {l : Addr} {xs : List V} {v : V} {i : Int} {m : Nat} (hv : Pu te σ H v) (ho : Pu ta σ H (.ref l)) (hi : Pu tb σ H (.int i)) (hl : H l = some (.lst xs)) (e : i = m) (hm : m < xs.length)
    (k : tz D σ (upd H l (.lst (xs.set m v)))) : tSeq (tAsg te (gSub ta tb rSetL)) tz D σ H := hv _ (ho _ (hi _ ⟨l, xs, i, m, rfl, rfl, hl, ixN_of e hm, k⟩))
theorem k_list {σ : L2.St} {K : PySem.W.Frag} {H : Hp} {ta : TE} {a : Addr} {xs : List V} {Q : VK} (h : Pu ta σ H (.ref a)) (hx : SqL K H a xs ∨ SqT K H a xs) (k : ∀ l, H l = none → Q (.ref l) (upd H l (.lst xs))) :
    tCB (fun xs H Q => ∃ p ys, xs = [.ref p] ∧ (SqL K H p ys ∨ SqT K H p ys) ∧ ∀ l, H l = none → Q (.ref l) (upd H l (.lst ys))) (tCons ta tNil) σ H Q := h _ ⟨a, xs, rfl, hx, k⟩
theorem k_tupL {σ : L2.St} {K : PySem.W.Frag} {H : Hp} {ta : TE} {a : Addr} {xs : List V} {Q : VK} (h : Pu ta σ H (.ref a)) (hx : SqL K H a xs) (k : ∀ l, H l = none → Q (.ref l) (upd H l (.tup xs))) :
    tCB (fun xs H Q => ∃ p ys, xs = [.ref p] ∧ ((SqL K H p ys ∧ ∀ l, H l = none → Q (.ref l) (upd H l (.tup ys))) ∨ (SqT K H p ys ∧ Q (.ref p) H))) (tCons ta tNil) σ H Q := h _ ⟨a, xs, rfl, .inl ⟨hx, k⟩⟩

theorem k_tupC {σ : L2.St} {H : Hp} {tA : TA} {Q : VK} (k : tA σ H fun xs H1 => xs.length ≤ sizeLine ∧ ∀ p, H1 p = none → Q (.ref p) (upd H1 p (.tup xs))) : tTup tA σ H Q := k
theorem k_lstC {σ : L2.St} {H : Hp} {tA : TA} {Q : VK} (k : tA σ H fun xs H1 => xs.length ≤ sizeLine ∧ ∀ p, H1 p = none → Q (.ref p) (upd H1 p (.lst xs))) : tLst tA σ H Q := k

theorem paired_of {α β : Type} {R : α → β → Prop} : ∀ {xs : List α} {ys : List β}, xs.length = ys.length → (∀ (i : Nat) x y, xs[i]? = some x → ys[i]? = some y → R x y) → Paired R xs ys
  | [], [], _, _ => .nil
  | [], _ :: _, h, _ => by simp at h
  | _ :: _, [], h, _ => by simp at h
  | x :: xs, y :: ys, h, f => .cons (f 0 x y rfl rfl) (paired_of (by simpa using h) fun i a b ha hb => f (i + 1) a b (by simpa using ha) (by simpa using hb))
def refA : V → Addr
  | .ref a => a
  | _ => 0
theorem refs_of {ys : List V} (h : ∀ y ∈ ys, ∃ a, y = .ref a) : ys = (ys.map refA).map V.ref := by
  rw [List.map_map]
  have : ∀ y ∈ ys, (V.ref ∘ refA) y = y := fun y hy => by obtain ⟨a, rfl⟩ := h y hy; rfl
  rw [List.map_congr_left this, List.map_id']

theorem q_asgT {σ : L2.St} {H : Hp} {te : TE} {g : TG} {D : Ends} {tz : TS} (k : te σ H fun v H1 => g v σ H1 (tz D)) : tSeq (tAsg te g) tz D σ H := k
theorem s_asgT {σ : L2.St} {H : Hp} {te : TE} {g : TG} {D : Ends} (k : te σ H fun v H1 => g v σ H1 D.nx) : tAsg te g D σ H := k

/-- [..][i] -/
theorem k_pick {K : PySem.W.Frag} {σ : L2.St} {H : Hp} {tA : TA} {tb : TE} {Q : VK} {vs : List V} {i : Int} {v : V} (h : PuA tA σ H vs) (hl : vs.length ≤ 100000) (hb : ∀ H1, Ex H H1 → Pu tb σ H1 (.int i)) (hv : atI vs i = some v) (k : ∀ H1, Ex H H1 → Q v H1) :
    tOp (rIxL K) (tLst tA) tb σ H Q := h _ ⟨sz_of hl, fun p np => hb _ (Ex.new np) _ ⟨p, vs, i, v, rfl, rfl, .inl (.inl upd_same), hv, k _ (Ex.new np)⟩⟩
theorem at_bool (x y : V) (b : Bool) : atI [x, y] (if b then 1 else 0) = some (if b then y else x) := by cases b <;> rfl

theorem q_whenP {σ : L2.St} {H : Hp} {t : TT} {tu tz : TS} {D : Ends} {a : Bool} (h : PuT t σ H a) (h1 : a = true → tu { D with nx := tz D } σ H) (h2 : a = false → tz D σ H) : tSeq (tIfS t tu tNext) tz D σ H := q_ifP h h1 h2
theorem s_whenP {σ : L2.St} {H : Hp} {t : TT} {tu : TS} {D : Ends} {a : Bool} (h : PuT t σ H a) (h1 : a = true → tu D σ H) (h2 : a = false → D.nx σ H) : tIfS t tu tNext D σ H := s_ifP h h1 h2
/-! ### enumerate of a tuple -/
def ItEt (K : PySem.W.Frag) (a : Addr) : It where
  go := fun i H => ∃ ys : List V, SqT K H a ys ∧ i < ys.length
  yld := fun i H v H' => ∃ T x, v = .ref T ∧ H T = none ∧ H' = upd H T (.tup [.int ((i : Nat) : Int), x]) ∧ ∀ ys, SqT K H a ys → ys[i]? = some x
  stop := fun i H => ∃ ys : List V, SqT K H a ys ∧ ys.length = i
abbrev enumCell (it : Addr) : Obj := { cls := .type "enumerate", data := .fields #[.none, .bool false, .ref it, rawInt 0, .none, .none] }
abbrev tupIt (t : Addr) : Obj := { cls := .type "tuple_iterator", data := .fields #[.ref t, .int 0 0] }
theorem enum_new_tup (t : Addr) (items : Array Value) :
    Meets (Builtin.«enumerate.__new__» ⟨[.type "enumerate", .ref t], []⟩) (fun _ R s => s.heap.IsTuple t items ∧ R (.ok (.ret (.ref (s.heap.push (tupIt t)).objs.size))) { s with heap := (s.heap.push (tupIt t)).push (enumCell s.heap.objs.size) }) :=
  .of_wp fun prog w A R s h => by
    obtain ⟨hp, gg, dd, kk, oo⟩ := s
    obtain ⟨h1, h⟩ := h
    have hsu := sub_enumerate
    have beg : ∀ {B : Around} {E : Value → Shared → Prop} {Q : Value → Shared → Prop}, Q (.ref hp.objs.size) ⟨hp.push (tupIt t), gg, dd, kk, oo⟩ → wpAny (model prog w) B (pyIter (.ref t)) Q E ⟨hp, gg, dd, kk, oo⟩ :=
      fun q => wpAny_pyIter_tuple (s := ⟨hp, gg, dd, kk, oo⟩) h1 q
    wp_walk using beg
    refine wpAny_stack_any fun st => wpAny_pure ?_
    split
    · rename_i c _ _ _ _ _
      cases (c == Value.type "enumerate") <;> (wp_walk using beg; exact ⟨_, rfl, h⟩)
    · wp_walk using beg
      exact ⟨_, rfl, h⟩
section
variable {prog : Program} {w : World} {A : Around} {E : Value → Shared → Prop} {s : Shared}
theorem enum_call_tup {t : Addr} {items : Array Value} {Q : Value → Shared → Prop} (ht : s.heap.IsTuple t items)
    (h : ∀ h', IsEnum h' (s.heap.objs.size + 1) s.heap.objs.size 0 .none → h'.IsTupleIter s.heap.objs.size t 0 → (∀ b o, s.heap.get? b = some o → h'.get? b = some o) → Q (.ref (s.heap.objs.size + 1)) { s with heap := h' }) :
    wpAny (model prog w) A (call (.type "enumerate") [.ref t]) Q E s := by
  refine callType_new F.called_enumerate (by decide) (F.typeCall_enumerate_1 _) (F.newCall_enumerate_1 _) (fun obj => F.args_object_init_2 obj _) F.entry_enumerate_new (enum_new_tup t items) ⟨ht, ?_⟩
  have hz : (s.heap.push (tupIt t)).objs.size = s.heap.objs.size + 1 := Heap.size_push ..
  show _ ∧ _
  rw [hz]
  have he : IsEnum ((s.heap.push (tupIt t)).push (enumCell s.heap.objs.size)) (s.heap.objs.size + 1) s.heap.objs.size 0 .none := by
    have q := Heap.get?_push_size (s.heap.push (tupIt t)) (o := enumCell s.heap.objs.size) rfl
    rw [hz] at q
    exact q
  exact ⟨⟨_, he, rfl⟩, h _ he ⟨_, Heap.get?_push_of_some _ (Heap.get?_push_size _ rfl), rfl, rfl⟩ fun b o x => Heap.get?_push_of_some _ (Heap.get?_push_of_some _ x)⟩
end
theorem turn_enumT {P : Program} {w : World} {K : PySem.W.Frag} {elts : List Expr} {kk : Nat} {tpos : Pos} (a e it : Addr) :
    Turn P w K (.Tuple elts kk tpos) (ItEt K a) [e, it] e (fun i h => (∃ old, IsEnum h e it ((i : Nat) : Int) old) ∧ h.IsTupleIter it a i ∧ e ≠ it) where
  mem := List.mem_cons_self
  obj := fun i h st b hb => by
    obtain ⟨⟨old, he⟩, ⟨o, ho, hc, hd⟩, _⟩ := st
    rcases List.mem_cons.mp hb with z | z
    · rw [z]; exact ⟨_, he, fun v q => by cases q⟩
    · rw [List.mem_singleton.mp z]; exact ⟨o, ho, fun v q => by rw [hd] at q; cases q⟩
  keep := fun i h h' st k => ⟨⟨st.1.choose, k e List.mem_cons_self _ st.1.choose_spec⟩, st.2.1.at fun o q => k it (List.mem_cons_of_mem _ List.mem_cons_self) o q, st.2.2⟩
  item := by
    intro X hP hw hK hc i pins s σ H E I hf st hg
    subst hP; subst hw; subst hK
    obtain ⟨⟨old, he⟩, hit, hne⟩ := st
    obtain ⟨ys, hq, hi⟩ := hg
    obtain ⟨its, rv, tp, hz⟩ := I.tuple hq
    have lens : its.length = ys.length := rv.length.symm
    obtain ⟨u, hu, ru⟩ := rv.get (List.getElem?_eq_getElem hi)
    have hel : e < s.heap.objs.size := Heap.lt_size he
    have hil : it < s.heap.objs.size := by obtain ⟨_, q, _⟩ := hit; exact Heap.lt_size q
    have ait : a ≠ it := fun z => by
      obtain ⟨o1, g1, c1, _⟩ := tp
      obtain ⟨o2, g2, c2, _⟩ := hit
      rw [z, g2] at g1
      cases g1
      rw [c2] at c1
      exact absurd c1 (by decide)
    have ae : e ≠ a := fun z => by
      obtain ⟨o1, g1, c1, _⟩ := tp
      rw [← z] at g1
      have g2 := he.symm.trans g1
      cases g2
      exact absurd (Value.type.inj c1) (by decide)
    have hh : X.A.in1.handled = none := I.ok.hd hc
    refine wpAny_pyNext_enum_itemD (Draws.tuple hh it a ait its.toArray) he ⟨hit, tp⟩ (by simp [lens]; omega) hne (by simp [hne, ae]) fun x h' tk hx ho hst' hT hsz hk => ?_
    have hx' : x = u := by
      have q : its[i]? = some x := by simpa using hx
      rw [hu] at q
      exact (Option.some.inj q).symm
    subst hx'
    refine ⟨_, rfl, wpAny_letOwnedTupleGo_enum (s := { s with heap := h', toks := tk + 1 }) ho fun h2 he2 sb => ?_⟩
    have hT2 : h2.get? s.heap.objs.size = some { cls := .type "tuple", data := .seq #[.int i tk, x] } := (sb.2 _ (Nat.ne_of_gt hel)).trans hT
    have new : ObjOk X.prog X.w (upd H s.heap.objs.size (.tup [.int ((i : Nat) : Int), ys[i]])) h2 s.heap.objs.size (.tup [.int ((i : Nat) : Int), ys[i]]) :=
      ⟨(by decide : 2 ≤ sizeLine), [.int i tk, x], .cons ⟨_, rfl⟩ (.cons ru .nil), ⟨_, hT2, rfl, _, rfl⟩⟩
    have I1 : Inv X pins σ (upd H s.heap.objs.size (.tup [.int ((i : Nat) : Int), ys[i]])) { s with heap := h2, toks := tk + 1 } :=
      I.turnedNew (ch := [e, it]) (fun b ob hb q => (sb.2 b (fun z => hb (by rw [z]; exact List.mem_cons_self))).trans (hk b ob (fun z => hb (by rw [z]; exact List.mem_cons_self)) (fun z => hb (by rw [z]; exact List.mem_cons_of_mem _ List.mem_cons_self)) q)) hf (Nat.le_refl _) new
    refine ⟨.ref s.heap.objs.size, _, I1, rfl, ⟨_, ys[i], rfl, I.hok.fresh (Nat.le_refl _), rfl, fun zs hy => ?_⟩, ⟨⟨x, ?_⟩, hst'.1.at fun o q => (sb.2 it (Ne.symm hne)).trans q, hne⟩, fun b hb => ?_⟩
    · rw [I.tuple_inj hy hq]; exact List.getElem?_eq_getElem hi
    · rw [show ((i + 1 : Nat) : Int) = (i : Int) + 1 from by omega]
      exact he2
    · have hb2 : b < s.heap.objs.size := by
        rcases List.mem_cons.mp hb with z | z
        · rw [z]; exact hel
        · rw [List.mem_singleton.mp z]; exact hil
      rw [upd_ne (Nat.ne_of_lt hb2)]
      exact (hf b hb).1
  done := by
    intro X hP hw hK hc i pins s σ H E I hf st hg
    subst hP; subst hw; subst hK
    obtain ⟨⟨old, he⟩, hit, hne⟩ := st
    obtain ⟨ys, hq, hi⟩ := hg
    obtain ⟨its, rv, tp, hz⟩ := I.tuple hq
    have lens : its.length = ys.length := rv.length.symm
    obtain ⟨f0, f1, f2, f3, f4, f5⟩ := hf it (List.mem_cons_of_mem _ List.mem_cons_self)
    have hh : X.A.in1.handled = none := I.ok.hd hc
    have ait : a ≠ it := fun z => by
      obtain ⟨o1, g1, c1, _⟩ := tp
      obtain ⟨o2, g2, c2, _⟩ := hit
      rw [z, g2] at g1
      cases g1
      rw [c2] at c1
      exact absurd c1 (by decide)
    have st2 : (fun i h => Heap.IsTupleIter h it a i ∧ Heap.IsTuple h a its.toArray) its.toArray.size s.heap := ⟨by simpa [lens, hi] using hit, tp⟩
    exact wpAny_pyNext_enum_endD (Draws.tuple hh it a ait its.toArray) he st2 fun h' eb => ⟨rfl, I.turned (t' := s.toks) (fun b o hb q => eb b o hb q) f0 f1 f3 f4 f5⟩
  self := fun A i s Q E st h => wpAny_pyIter_enum st.1.choose_spec h
def iEnumT (K : PySem.W.Frag) (ta : TA) : TI := fun σ H R => ta σ H fun vs H1 => ∃ a ys, vs = [.ref a] ∧ SqT K H1 a ys ∧ R (ItEt K a) H1
theorem pi_enumT {X : Cx} {e : Expr} {ta : TA} {p pos tpos : Pos} {elts : List Expr} {kk : Nat} (hg : Gl X "enumerate") (hm : X.mg "enumerate" = none) (ha : PA X [e] ta) (hs : starEach [e] X.env = [(false, eval e X.env)] := by rfl) :
    PI X (.Tuple elts kk tpos) (.Call (.Name "enumerate" p) [e] [] pos) (iEnumT X.K ta) := by
  refine ⟨fun pins s σ H R I h => Call_ (ld_blt I hg hm boot_enumerate (PyProof.Rows.callWith_type1 (thn (ha.run pos pins s σ H _ I h) fun us s1 hh => ?_) hs rfl))⟩
  obtain ⟨vs, H1, I1, r1, a, ys, ex, hq, q⟩ := hh
  subst ex
  cases r1 with
  | cons r rr =>
    cases rr
    cases r
    obtain ⟨its, rv, tp, hz⟩ := I1.tuple hq
    refine enum_call_tup (show s1.heap.IsTuple a its.toArray from tp) fun h' he hit hk => wpAny_pyIter_enum he ?_
    have I2 : Inv X pins σ H1 { s1 with heap := h' } := I1.kept (t' := s1.toks) hk
    refine ⟨s1.heap.objs.size + 1, [s1.heap.objs.size + 1, s1.heap.objs.size], _, _, H1, rfl, I2, turn_enumT a (s1.heap.objs.size + 1) s1.heap.objs.size, ⟨⟨.none, he⟩, hit, Nat.succ_ne_self _⟩, fun b hb => ?_, q⟩
    have hle : s1.heap.objs.size ≤ b := by
      rcases List.mem_cons.mp hb with z | z
      · rw [z]; exact Nat.le_add_right _ _
      · rw [List.mem_singleton.mp z]; exact Nat.le_refl _
    exact I1.fpOk hle (I1.hok.fresh hle)
theorem walk_enumT {K : PySem.W.Frag} {a : Addr} {xs : List V} : Walk (ItEt K a) xs.length (fun H => SqT K H a xs) (YPair (fun i => some (.int (i : Nat))) (fun i => xs[i]?)) :=
  ⟨fun i _ hi q => ⟨xs, q, hi⟩, fun _ q => ⟨xs, q, rfl⟩, fun i H v H' _ q y => by
    obtain ⟨T, x, h1, h2, h3, h4⟩ := y
    exact ⟨T, .int (i : Nat), x, h1, h2, h3, rfl, h4 xs q⟩⟩
/-- for i, x in enumerate(t), both names -/
theorem q_forET {K : PySem.W.Frag} {σ : L2.St} {H : Hp} {tA : TA} {D : Ends} {tu tz : TS} {a : Addr} {xs : List V} {j1 j2 : Nat} (h : PuA tA σ H [.ref a]) (hx : SqT K H a xs) (Pv : Nat → L2.St → Hp → Prop) (h0 : Pv 0 σ H)
    (hl : ∀ i σ' H', i ≤ xs.length → Pv i σ' H' → SqT K H' a xs)
    (hs : ∀ (i : Nat) x T σ' H', xs[i]? = some x → Pv i σ' H' → H' T = none → tu { D with nx := Pv (i + 1), ct := Pv (i + 1), bk := tz D } ((σ'.set j1 (some (.int (i : Int)))).set j2 (some x)) (upd H' T (.tup [.int (i : Int), x])))
    (hd : ∀ σ' H', Pv xs.length σ' H' → tz D σ' H') : tSeq (tFor (iEnumT K tA) (gTup K 2 (gCons (gName j1) (gCons (gName j2) gNil))) tu) tz D σ H := by
  refine h _ ⟨a, xs, rfl, hx, ?_⟩
  refine for_it walk_enumT Pv h0 hl (fun i v σ' H' H2 hi p y => ?_) hd
  obtain ⟨T, k, x, rfl, nT, rfl, hk, hxi⟩ := y
  cases hk
  exact ⟨T, _, rfl, .inl (.inl upd_same), rfl, _, _, rfl, _, _, rfl, rfl, hs i x T σ' H' hxi p nT⟩
/-! ### dicts with tuples as keys: setdefault, a display of one pair -/
def rSetdefT : V → List V → Hp → VK → Prop := fun x xs H Q => ∃ (a : Addr) (kvs : List (List Key × V)) (k : List Key) (b : Addr) (d : V), x = .ref a ∧ xs = [.ref b, d] ∧ H a = some (.dT kvs) ∧ H b = some (.tup (k.map kV)) ∧ kvs.length < sizeLine ∧
  (∀ v, valV kvs k = some v → Q v H) ∧ (valV kvs k = none → Q d (upd H a (.dT (kvs ++ [(k, d)]))))
theorem mt_setdefT {X : Cx} (hu : X.A.units + 1 < cLine) : MtR X "dict.setdefault" rSetdefT := by
  intro pins s σ H x xs v us Q I rx rxs h
  obtain ⟨a, kvs, k, b, d, rfl, rfl, ha, hb, hz, q1, q2⟩ := h
  cases rx
  obtain ⟨u1, u2, rfl, r1, r2⟩ := vals2 rxs
  cases r1
  obtain ⟨z, hd, ws, rel, dd⟩ := dt_of I.hok ha
  have lw : ws.length = kvs.length := (Paired.length rel).symm
  refine call_setdefault_heap (hsz := by rw [lw]; exact z) (tupleKind_room_in1 hu) (key_of I.hok hb) hd dd (fun p hp => ?_) fun hn h' dd' hs => ?_
  · have r := rel.val k
    rw [hp] at r
    cases ev : valV kvs k with
    | none => rw [ev] at r; exact r.elim
    | some v0 =>
      rw [ev] at r
      exact ⟨v0, H, I.tok _, r, q1 v0 ev⟩
  · have r := rel.val k
    rw [hn] at r
    cases ev : valV kvs k with
    | some v0 => rw [ev] at r; exact r.elim
    | none =>
      have rp := rel.put k hb r2
      rw [putK_new d ev] at rp
      obtain ⟨q, es, ep, hq, h2, h3, h4, _, h5⟩ := dd'
      refine ⟨d, upd H a (.dT (kvs ++ [(k, d)])), ?_, r2, q2 ev⟩
      refine d_write I (by rw [ha]; exact True.intro) hs ⟨q, hq⟩ ⟨by rw [List.length_append]; exact hz, hd, _, rp.keeps fun c ys ec => ?_, q, es, ep, hq, h2, h3, h4, h5⟩
      rw [upd_ne (ne_of ec ha (by intro z; cases z))]
      exact ec
def tDisp1T (tk tv : TE) : TE := fun σ H Q => ∀ p, H p = none → tk σ (upd H p (.dT [])) fun x H1 => tv σ H1 fun y H2 => H2 p = some (.dT []) ∧ ∃ (k : List Key) (b : Addr) (z : V), [(x, y)] = [(V.ref b, z)] ∧ H2 b = some (.tup (k.map kV)) ∧ Q (.ref p) (upd H2 p (.dT [(k, z)]))
theorem pe_disp1T {X : Cx} {pos : Pos} {k v : Expr} {tk tv : TE} (hu : X.A.units + 1 < cLine) (hk : PE X k tk) (hv : PE X v tv) : PE X (.Dict [some k] [v] pos) (tDisp1T tk tv) := by
  have hP : PPs X pos [some k] [v] [(tk, tv)] := pps_cons hk hv pps_nil
  refine ⟨fun pins s σ H Q I q => ?_⟩
  have hn := I.hok.fresh (Nat.le_refl s.heap.objs.size)
  have I1 := I.laid (a := s.heap.objs.size) (o := .dT []) (h' := s.heap.push { cls := .type "dict", data := .dict #[] }) (t' := s.toks) (fun _ _ q => Heap.get?_push_of_some _ q) (Nat.le_refl _) (dt_empty s.heap I.big)
  rw [arm_eval_Dict, zip_pairTrees [some k] [v] X.env pos rfl rfl, dictDisplay_pairs (pairTrees [some k] [v] X.env pos) (by intro z; cases z) (show 1 < 17 by decide)]
  refine wpAny_bind (wpAny_standAt (wpAny_bind (wpAny_subDictH (knd := tupleKind (mixKind X.prog X.w)) (Q := fun d s' => wpAny (model X.prog X.w) X.A (pure (Value.ref d)) (EP X pins σ Q) X.xe s') (show X.A.units < cLine by omega) (show 1 ≤ 15 by decide)
    (thn (hP.run pins _ σ _ (fun ps H2 => H2 s.heap.objs.size = some (.dT []) ∧ ∃ (kk : List Key) (b : Addr) (y : V), ps = [(.ref b, y)] ∧ H2 b = some (.tup (kk.map kV)) ∧ Q (.ref s.heap.objs.size) (upd H2 s.heap.objs.size (.dT [(kk, y)]))) I1 ?_) fun ws s2 ⟨ps, H2, I2, rel, e, kk, b, y, ep, hb, q2⟩ => ?_))))
  · exact q _ hn
  · subst ep
    cases rel with
    | @cons _ c _ _ hr t =>
      cases t
      obtain ⟨c1, c2⟩ := c
      obtain ⟨hr1, hr2⟩ := hr
      have hr3 : c1 = Value.ref b := hr1
      subst hr3
      obtain ⟨z, hd, xs0, r0, dd⟩ := dt_of I2.hok e
      cases r0
      refine ⟨[(kk, b, c2)], ⟨rfl, rfl, key_of I2.hok hb, trivial⟩, dd, fun h' tk' dd' hs => wpAny_pure ?_⟩
      have rp := KT.put (H := H2) (kvs := []) (xs := []) Paired.nil kk hb hr2
      obtain ⟨qq, es, ep, hq, h2, h3, h4, _, h5⟩ := dd'
      have new : ObjOk X.prog X.w (upd H2 s.heap.objs.size (.dT [(kk, y)])) h' s.heap.objs.size (.dT [(kk, y)]) :=
        ⟨show 1 ≤ sizeLine by decide, hd, _, rp.keeps fun c ys ec => (upd_ne (ne_of ec e (by intro z; cases z))).trans ec, qq, es, ep, hq, h2, h3, h4, h5⟩
      exact ⟨.ref s.heap.objs.size, _, d_write I2 (by rw [e]; exact True.intro) hs ⟨qq, hq⟩ new, rfl, q2⟩
/-! ### set of a list of ints, with what is met twice -/
def SetL (P : Program) (w : World) (a : Addr) (S : Int → Bool) (n : Nat) : HO := .ext fun h => Heap.SetOf (intKind P w) h a S n
theorem setL_new {w : World} {P : Program} {H : Hp} {h : Heap} {a : Addr} {S : Int → Bool} {n : Nat} (R : Heap.SetOf (intKind P w) h a S n) : ObjOk P w H h a (SetL P w a S n) := by
  refine ⟨R, ?_, fun h1 h2 p k => ?_⟩
  · obtain ⟨o, _, _, _, ho, _⟩ := R
    exact ⟨o, ho⟩
  · obtain ⟨o, es, ep, t, ho, r⟩ := p
    exact ⟨o, es, ep, t, k _ ho, r⟩
def firstL (ns : List Int) : List Int := firstMet (fun i => ns.getD i 0) ns.length
def rSetL1 (P : Program) (w : World) (K : PySem.W.Frag) : List V → Hp → VK → Prop := fun xs H Q => ∃ (l : Addr) (ns : List Int), xs = [.ref l] ∧ SqL K H l (ns.map V.int) ∧ ns.length < 1000 ∧ ∀ p, H p = none → Q (.ref p) (upd H p (SetL P w p (fun k => (firstL ns).any fun x => x == k) (firstL ns).length))
theorem cr_setL {X : Cx} (hc : X.calm = true) : CallR X (.type "set") (rSetL1 X.prog X.w X.K) := by
  intro pins s σ H xs us Q I r h
  obtain ⟨l, ns, rfl, hq, hl, q⟩ := h
  obtain ⟨u, rfl, r1⟩ := vals1 r
  cases r1
  obtain ⟨its, rv, pl, hz⟩ := I.list hq
  have hi := ints_of_vals rv
  have hs : its.toArray.size = ns.length := by
    have := Paired.length rv
    rw [List.length_map] at this
    simp [this]
  obtain ⟨o, n, ho, hc2, _, hd⟩ := pl
  refine PySem.call_set_list (I.ok.hd hc) ⟨o, ho, hc2, n, hd⟩ hi (by rw [hs]; exact Nat.lt_trans (Nat.succ_lt_succ hl) (by decide)) fun h' tk R k => ?_
  rw [hs] at R
  exact ⟨.ref _, _, I.laid (fun b u e => k b u (Heap.lt_size e) e) (Nat.le_refl _) (setL_new R), rfl, q _ (I.hok.fresh (Nat.le_refl _))⟩
theorem call_lenSL {X : Cx} : CallR X (.builtin "len") (fun xs H Q => ∃ (a : Addr) (S : Int → Bool) (n : Nat), xs = [.ref a] ∧ H a = some (SetL X.prog X.w a S n) ∧ Q (.int n) H) := by
  intro pins s σ H xs us Q I r h
  obtain ⟨a, S, n, rfl, ha, q⟩ := h
  obtain ⟨u, rfl, r1⟩ := vals1 r
  cases r1
  obtain ⟨R, _⟩ : ObjOk X.prog X.w H s.heap a (SetL X.prog X.w a S n) := I.hok a _ ha
  obtain ⟨o, es, ep, t, ho, hx, hd, _, _, hb, hf, rfl⟩ := R
  have h2 : (es.size : Int) < (scanBound : Nat) := Int.ofNat_lt.mpr hb
  refine PySem.call_len_set ho hx hd hf (Int.lt_trans h2 (by decide)) ?_
  exact ⟨.int _, H, I.tok _, ⟨_, rfl⟩, q⟩
/-! ### dict of a tuple of pairs -/
theorem upd_loopT {prog : Program} {w : World} {A : Around} {R : Result → Shared → Prop} {S I l : Addr} {items : Array Value} {res : Value} (hh : A.handled = none) (hlI : l ≠ I) (hSI : S ≠ I) (hSl : S ≠ l) :
    ∀ (rest : List (Key × Value)) (i : Nat) (acc : List (Key × Value)) (ix : Int) (t : Tok) (s : Shared), items.size = i + rest.length → acc.length + rest.length ≤ sizeLine →
      (∀ (j : Nat) (q : Key × Value), rest[j]? = some q → ∃ b u, items[i + j]? = some (Value.ref b) ∧ b ≠ S ∧ b ≠ I ∧ IsTup s.heap b #[u, q.snd] ∧ keyIs q.fst u = true) →
      s.heap.IsTupleIter I l i → s.heap.IsTuple l items → Heap.DictOf (mixKind prog w) s.heap S acc →
      (∀ (h' : Heap) (tk : Nat), Heap.DictOf (mixKind prog w) h' S (merged acc rest) → (∀ (b : Addr) (o : Obj), b ≠ S → b ≠ I → s.heap.get? b = some o → h'.get? b = some o) →
        R (Except.ok (Flow.ret res)) { heap := h', gens := s.gens, drawn := s.drawn, toks := tk, os := s.os }) →
      codeAny (model prog w) A (Code.builtin "dict.update.loop" { pos := [Value.ref S, Value.ref I, Value.int ix t, res] }) R s
  | [], i, acc, ix, t, s, hsz, hln, ht, hit, hl, hm, hR => by
    refine codeAny_builtin ud_entry ?_
    rw [Around.under_plainId ud_plain]
    refine wpAny_bind (wpAny_pyNext_tuple_end hh hit hl (Array.getElem?_eq_none (Nat.le_of_eq hsz)) fun h' he => ?_)
    refine wpAny_bind (wpAny_pure (wpAny_pure (hR h' s.toks (Heap.DictOf.extBut hm he hSI) fun b o _ hb e => he b o hb e)))
  | q :: rest, i, acc, ix, t, s, hsz, hln, ht, hit, hl, hm, hR => by
    obtain ⟨b, u, hb, hbS, hbI, htup, hk⟩ := ht 0 q rfl
    refine codeAny_builtin ud_entry ?_
    rw [Around.under_plainId ud_plain]
    refine wpAny_bind (wpAny_pyNext_tuple_item hit hl hb fun h1 hit1 hs1 => ?_)
    have ht1 := IsTup.extBut htup (Heap.SameBut.extBut hs1) hbI
    have hl1 := Heap.IsTuple.extBut hl (Heap.SameBut.extBut hs1) hlI
    have hm1 := Heap.DictOf.extBut hm (Heap.SameBut.extBut hs1) hSI
    obtain ⟨o, ho, hc, n, hd⟩ := id ht1
    refine wpAny_bind (wpAny_holding (wpAny_bind (wpAny_tryCatch (wpAny_bind (wpAny_typeOf ⟨o, ho, hc⟩ ?_)))))
    rw [if_pos (by rfl)]
    refine wpAny_bind (wpAny_seqItems ho hd (wpAny_pure ?_))
    refine wpAny_holding (wpAny_dictSet_pairs hk hm1 (fun h2 hm2 hs2 => wpAny_pure ⟨plainId_quiet ud_plain _, ?_⟩) (by rw [List.length_cons] at hln; omega))
    refine upd_loopT hh hlI hSI hSl rest (i + 1) _ (ix + 1) 0 _ (by rw [hsz, List.length_cons]; omega) ?_ (fun j p hp => ?_) ?_ (Heap.IsTuple.extBut hl1 (Heap.SameBut.extBut hs2) hSl.symm) hm2 fun h' tk hd' k => ?_
    · have h := stored_length_le acc q.1 q.2
      rw [List.length_cons] at hln
      omega
    · obtain ⟨b2, u2, e1, e2, e3, e4, e5⟩ := ht (j + 1) p (by simpa using hp)
      exact ⟨b2, u2, by rw [show i + 1 + j = i + (j + 1) by omega]; exact e1, e2, e3, IsTup.extBut (IsTup.extBut e4 (Heap.SameBut.extBut hs1) e3) (Heap.SameBut.extBut hs2) e2, e5⟩
    · obtain ⟨oi, g1, g2⟩ := hit1
      exact ⟨oi, Heap.SameBut.extBut hs2 _ _ hSI.symm g1, g2⟩
    · exact hR h' tk hd' fun b o e1 e2 e => k b o e1 e2 (Heap.SameBut.extBut hs2 _ _ e1 (Heap.SameBut.extBut hs1 _ _ e2 e))
theorem call_dict_pairsT {prog : Program} {w : World} {A : Around} {E : Value → Shared → Prop} {s : Shared} {l : Addr} {ol : Obj} {items : Array Value} {n : Nat} {prs : List (Key × Value)} {Q : Value → Shared → Prop}
    (hh : A.handled = none) (hl : s.heap.get? l = some ol) (hc : ol.cls = Value.type "tuple") (hd : ol.dict = none) (hdat : ol.data = Data.seq items n) (hsz : items.size = prs.length) (hln : prs.length ≤ sizeLine)
    (ht : ∀ (j : Nat) (q : Key × Value), prs[j]? = some q → ∃ b u, items[j]? = some (Value.ref b) ∧ IsTup s.heap b #[u, q.snd] ∧ keyIs q.fst u = true)
    (h : ∀ (h' : Heap) (tk : Nat), Heap.DictOf (mixKind prog w) h' s.heap.objs.size (merged [] prs) → (∀ (b : Addr) (o : Obj), s.heap.get? b = some o → h'.get? b = some o) → Q (Value.ref s.heap.objs.size) { heap := h', gens := s.gens, drawn := s.drawn, toks := tk, os := s.os }) :
    wpAny (model prog w) A (call (Value.type "dict") [Value.ref l]) Q E s := by
  refine callType_codes F.kt_called_dict (F.kt_typeCall_dict_1 (Value.ref l)) F.entry_dict_init (kt_code_dict_new (Q₁ := fun obj s₁ => obj = Value.ref s.heap.objs.size ∧ s₁ = { heap := s.heap.push { cls := Value.type "dict", data := Data.dict #[] }, gens := s.gens, drawn := s.drawn, toks := s.toks, os := s.os }) (Value.ref l) ⟨rfl, rfl⟩) fun obj s₁ a => ?_
  obtain ⟨rfl, rfl⟩ := a
  have hnew := Heap.DictOf.new (knd := mixKind prog w) s.heap
  have k0 : ∀ b o, s.heap.get? b = some o → (s.heap.push { cls := Value.type "dict", data := Data.dict #[] }).get? b = some o := fun b o e => Heap.get?_push_of_some _ e
  refine ⟨Heap.DictOf.typeIs hnew, F.args_dict_init_2 (Value.ref s.heap.objs.size) (Value.ref l), ?_⟩
  refine wpAny_bind (wpAny_bind (wpAny_notOrdered_dict (Heap.DictOf.typeIs hnew) (wpAny_pure (wpAny_bind (wpAny_typeOf ⟨ol, k0 l ol hl, hc⟩ ?_)))))
  rw [if_pos (by rfl)]
  refine wpAny_bind (getAttrOr_miss_tuple (k0 l ol hl) hc hdat hd (by rfl) (by decide +kernel) hh fun h1 tk1 hk1 => ?_)
  rw [if_pos (by rfl)]
  have hl1 : h1.IsTuple l items := ⟨ol, hk1 l ol (k0 l ol hl), hc, n, hdat⟩
  have hS1 : s.heap.objs.size < h1.objs.size := Heap.lt_size (hk1 _ _ (Heap.get?_push_size s.heap rfl))
  refine wpAny_bind (wpAny_rule (wpAny_bind (wpAny_pyIter_tuple hl1 ?_)))
  have k2 : ∀ b o, h1.get? b = some o → (h1.push { cls := Value.type "tuple_iterator", data := Data.fields #[Value.ref l, Value.int 0 0] }).get? b = some o := fun b o e => Heap.get?_push_of_some _ e
  have hlt := Heap.lt_size hl
  refine wpAny_pure ⟨plainId_quiet ud_plain _, ?_⟩
  refine upd_loopT (show A.in1.handled = none from hh) (Nat.ne_of_lt (Nat.lt_trans hlt hS1)) (Nat.ne_of_lt hS1) (Nat.ne_of_gt hlt) prs 0 [] 0 0 _ (by rw [hsz, Nat.zero_add]) (by rw [List.length_nil, Nat.zero_add]; exact hln) (fun j q e => ?_) ?_ ?_ ?_ (fun h' tk hd' k => ?_)
  · obtain ⟨b, u, e1, e2, e3⟩ := ht j q e
    have hb := IsTup.lt e2
    refine ⟨b, u, by rw [Nat.zero_add]; exact e1, Nat.ne_of_lt hb, Nat.ne_of_lt (Nat.lt_trans hb hS1), ?_, e3⟩
    obtain ⟨o, g1, g2⟩ := e2
    exact ⟨o, k2 _ _ (hk1 _ _ (k0 _ _ g1)), g2⟩
  · exact ⟨_, Heap.get?_push_size h1 rfl, rfl, rfl⟩
  · obtain ⟨o, g1, g2⟩ := hl1
    exact ⟨o, k2 _ _ g1, g2⟩
  · exact Heap.DictOf.at (Heap.DictOf.at hnew fun o e => hk1 s.heap.objs.size o e) fun o e => k2 s.heap.objs.size o e
  · refine ⟨rfl, h h' tk hd' fun b o e => ?_⟩
    exact k b o (Nat.ne_of_lt (Heap.lt_size e)) (Nat.ne_of_lt (Nat.lt_trans (Heap.lt_size e) hS1)) (k2 b o (hk1 b o (k0 b o e)))
theorem call_dictPT {X : Cx} (hcalm : X.calm = true) : CallR X (Value.type "dict") fun xs H Q => ∃ (a : Addr) (o : Obj) (ps : List Addr) (kvs : List (Key × V)), xs = [V.ref a] ∧ H a = some (.frz o (.tup (ps.map V.ref))) ∧ o.dict = none ∧ Paired (fun p kv => SqT X.K H p [kV kv.fst, kv.snd]) ps kvs ∧ ∀ (p : Addr), H p = none → Q (V.ref p) (upd H p (HO.dK (mergeK [] kvs))) := by
  intro pins s σ H xs us Q I r q
  obtain ⟨a, o, ps, kvs, rfl, hq, hd, hp, q⟩ := q
  obtain ⟨u, rfl, rx⟩ := vals1 r
  cases rx
  obtain ⟨its, rv, pl, hz⟩ := I.tuple (show SqT X.K H a (ps.map V.ref) from .inl (.inr ⟨o, hq⟩))
  obtain rfl := refs_at rv
  obtain ⟨prs, rel, hl, hpr⟩ := pairs_of I hp
  obtain ⟨ho, _⟩ : ObjOk X.prog X.w H s.heap a (.frz o (.tup (ps.map V.ref))) := I.hok a _ hq
  obtain ⟨o2, ho2, hc, n, hdat⟩ := pl
  rw [ho] at ho2
  cases ho2
  rw [List.length_map] at hz
  have hpl : prs.length = kvs.length := by rw [hl]; exact Paired.length hp
  refine call_dict_pairsT (prs := prs) (I.ok.hd hcalm) ho hc hd hdat (by simp [hl]) (by rw [hl]; exact hz) (fun j p hj => ?_) fun h' tk hd' k => ?_
  · obtain ⟨b, u, e1, e2, e3⟩ := hpr j p hj
    exact ⟨b, u, by simp [e1], e2, e3⟩
  · have lm := length_mergeK kvs []
    rw [List.length_nil, Nat.zero_add] at lm
    have hsm : (s.heap.objs.size == sysModules) = false := by
      have := I.big
      exact beq_false_of_ne (Nat.ne_of_gt this)
    refine ⟨.ref s.heap.objs.size, upd H s.heap.objs.size (.dK (mergeK [] kvs)), I.laid (fun b u e => k b u e) (Nat.le_refl _) ⟨by omega, hsm, _, KV.merge rel Paired.nil, hd'⟩, rfl, q _ (I.hok.fresh (Nat.le_refl _))⟩
theorem call_tuple_F {X : Cx} : CallR X (Value.type "tuple") fun xs H Q => ∃ p ys, xs = [V.ref p] ∧ SqL X.K H p ys ∧ ∀ (l : Addr) (o : Obj), H l = none → o.dict = none → Q (V.ref l) (upd H l (.frz o (HO.tup ys))) := by
  intro pins s σ H xs us Q I r q
  obtain ⟨p, ys, rfl, hq, q⟩ := q
  obtain ⟨u, rfl, rx⟩ := vals1 r
  cases rx
  obtain ⟨its, r', pl, hz⟩ := I.list hq
  have hlen := Vals.length r'
  refine call_tuple_list (PlainL.isList pl) (fun h' kp => ?_) (by simp; omega)
  have I1 := Inv.kept (t' := s.toks) I kp
  have I2 := Inv.laid (a := h'.objs.size) (o := .frz { cls := Value.type "tuple", data := Data.seq its.toArray } (.tup ys)) (t' := s.toks) I1 (fun b o e => Heap.get?_push_of_some { cls := Value.type "tuple", data := Data.seq its.toArray } e) (Nat.le_refl _) ⟨Heap.get?_push_size h' rfl, hz, its, r', IsTup.new h' its.toArray⟩
  exact ⟨V.ref h'.objs.size, upd H h'.objs.size (.frz { cls := Value.type "tuple", data := Data.seq its.toArray } (HO.tup ys)), I2, rfl, q _ _ (HOk.fresh I1.hok (Nat.le_refl _)) rfl⟩
def top (i : Nat) : Stmt := PySem.Challenge.pw_loopwright_k77_whole_side_by_side.main.body.getD i (.Pass ⟨0, 0, 0, 0⟩)
abbrev s_is_letter : Stmt := top 6
abbrev s_looked : Stmt := top 7
abbrev s_loop_worth : Stmt := top 9
abbrev s_put_to : Stmt := top 10
abbrev s_multiplied : Stmt := top 11
abbrev s_loop_power : Stmt := top 12
abbrev s_as_powers : Stmt := top 13
abbrev s_plain_nest : Stmt := top 14
abbrev s_hooked : Stmt := top 15
abbrev s_loops_in : Stmt := top 16
abbrev s_with_letter : Stmt := top 17
abbrev s_by_nests : Stmt := top 18
abbrev s__law_state : Stmt := top 20
abbrev s__law_take : Stmt := top 21
abbrev s__law_letter : Stmt := top 22
abbrev s__law_plait : Stmt := top 23
abbrev s__law_whole : Stmt := top 24
abbrev s__law_put : Stmt := top 25
abbrev s__law_times : Stmt := top 26
abbrev s__law_told : Stmt := top 27
abbrev s__law_is_sum : Stmt := top 28
abbrev s_law : Stmt := top 29
structure Bl (mg : Str → Option Value) : Prop where
  f_abs : mg "abs" = none
  f_bool : mg "bool" = none
  f_dict : mg "dict" = none
  f_int : mg "int" = none
  f_isinstance : mg "isinstance" = none
  f_len : mg "len" = none
  f_list : mg "list" = none
  f_min : mg "min" = none
  f_range : mg "range" = none
  f_sorted : mg "sorted" = none
  f_tuple : mg "tuple" = none
  k_MOST_STRANDS : ∃ t, mg "MOST_STRANDS" = some (.int 6 t)
  k_MOST_LETTERS : ∃ t, mg "MOST_LETTERS" = some (.int 16 t)
/-! ### dicts from ints to ints -/
def kI (kvs : List (Int × Int)) : List (Key × V) := kvs.map fun p => (Sum.inl p.1, V.int p.2)
/-- the count at a power, nought where there is none -/
def co : List (Int × Int) → Int → Int
  | [], _ => 0
  | (a, c) :: r, p => if a = p then c else co r p
def hasI (kvs : List (Int × Int)) (p : Int) : Bool := kvs.any fun q => decide (q.1 = p)
def setI (kvs : List (Int × Int)) (p c : Int) : List (Int × Int) := if hasI kvs p = true then kvs.map fun q => if q.1 = p then (q.1, c) else q else kvs ++ [(p, c)]
def delI (kvs : List (Int × Int)) (p : Int) : List (Int × Int) := kvs.filter fun q => decide (q.1 ≠ p)
def putI (kvs : List (Int × Int)) (p c : Int) : List (Int × Int) := if co kvs p + c = 0 then delI (setI kvs p (co kvs p + c)) p else setI kvs p (co kvs p + c)
theorem kI_nil : kI [] = [] := rfl
theorem kI_len (kvs : List (Int × Int)) : (kI kvs).length = kvs.length := List.length_map _
theorem keyE (a b : Int) : ((Sum.inl a : Key) = Sum.inl b) = (a = b) := by simp
theorem val_kI : ∀ (kvs : List (Int × Int)) (p : Int), (valV (kI kvs) (Sum.inl p)).getD (.int 0) = .int (co kvs p)
  | [], _ => rfl
  | (a, c) :: r, p => by
    show (valV (((Sum.inl a : Key), V.int c) :: kI r) (Sum.inl p)).getD (.int 0) = .int (if a = p then c else co r p)
    by_cases h : a = p
    · rw [valV_pos (p := ((Sum.inl a : Key), V.int c)) (by rw [h]), if_pos h]
      rfl
    · rw [valV_neg (p := ((Sum.inl a : Key), V.int c)) (fun q => h (Sum.inl.inj q)), if_neg h]
      exact val_kI r p
theorem has_kI (kvs : List (Int × Int)) (p : Int) : ((kI kvs).any fun kv => decide (kv.1 = Sum.inl p)) = hasI kvs p := by
  unfold kI hasI
  rw [List.any_map]
  congr 1
  funext q
  simp
theorem val_some {kvs : List (Int × Int)} {p : Int} (h : hasI kvs p = true) : valV (kI kvs) (Sum.inl p) = some (.int (co kvs p)) := by
  have e := valV_any (Sum.inl p) (kI kvs)
  rw [has_kI, h] at e
  have v := val_kI kvs p
  cases q : valV (kI kvs) (Sum.inl p) with
  | none => rw [q] at e; cases e
  | some y => rw [q] at v; exact congrArg some v
theorem val_isSome (kvs : List (Int × Int)) (p : Int) : (valV (kI kvs) (Sum.inl p)).isSome = hasI kvs p := by rw [← valV_any, has_kI]
theorem put_kI (kvs : List (Int × Int)) (p c : Int) : putK (kI kvs) (Sum.inl p) (.int c) = kI (setI kvs p c) := by
  unfold putK setI
  rw [has_kI]
  split
  · unfold kI
    rw [List.map_map, List.map_map]
    congr 1
    funext q
    simp only [Function.comp]
    by_cases h : q.1 = p
    · simp [h]
    · simp [h]
  · unfold kI
    rw [List.map_append]
    rfl
theorem del_kI (kvs : List (Int × Int)) (p : Int) : dropK (kI kvs) (Sum.inl p) = kI (delI kvs p) := by
  unfold dropK delI kI
  rw [List.filter_map]
  congr 1
  congr 1
  funext q
  simp
theorem has_set (kvs : List (Int × Int)) (p c : Int) : hasI (setI kvs p c) p = true := by
  unfold setI
  split
  · rename_i h
    unfold hasI at h ⊢
    rw [List.any_eq_true] at h ⊢
    obtain ⟨q, hq, e⟩ := h
    refine ⟨(q.1, c), List.mem_map.mpr ⟨q, hq, ?_⟩, e⟩
    rw [if_pos (of_decide_eq_true e)]
  · unfold hasI
    rw [List.any_append]
    simp
theorem setI_len (kvs : List (Int × Int)) (p c : Int) : (setI kvs p c).length ≤ kvs.length + 1 := by
  unfold setI
  split
  · rw [List.length_map]; omega
  · rw [List.length_append]; simp
theorem delI_len (kvs : List (Int × Int)) (p : Int) : (delI kvs p).length ≤ kvs.length := List.length_filter_le _ _
theorem putI_len (kvs : List (Int × Int)) (p c : Int) : (putI kvs p c).length ≤ kvs.length + 1 := by
  unfold putI
  split
  · exact Nat.le_trans (delI_len _ _) (setI_len _ _ _)
  · exact setI_len _ _ _
theorem co_set : ∀ (kvs : List (Int × Int)) (p c j : Int), co (setI kvs p c) j = if j = p then c else co kvs j := by
  intro kvs p c j
  unfold setI
  split
  · rename_i h
    induction kvs with
    | nil => cases h
    | cons q r ih =>
      obtain ⟨a, d⟩ := q
      rw [List.map_cons]
      by_cases hr : hasI r p = true
      · have ih' := ih hr
        by_cases ha : a = p
        · subst ha
          simp only [if_true]
          by_cases hj : a = j
          · subst hj; simp [co]
          · rw [show co ((a, c) :: _) j = co (r.map _) j from by simp only [co, if_neg hj]; rfl, ih']
            rw [show co ((a, d) :: r) j = co r j from by simp [co, hj]]
        · rw [if_neg ha]
          by_cases hj : a = j
          · subst hj; simp [co, ha]
          · rw [show co ((a, d) :: List.map _ r) j = co (r.map _) j from by simp only [co, if_neg hj]; rfl, ih']
            rw [show co ((a, d) :: r) j = co r j from by simp [co, hj]]
      · have ha : a = p := by
          unfold hasI at h hr
          rw [List.any_cons, Bool.or_eq_true] at h
          rcases h with h | h
          · exact of_decide_eq_true h
          · exact absurd h hr
        have hm : r.map (fun q => if q.1 = p then (q.1, c) else q) = r := by
          have : ∀ q ∈ r, (if q.1 = p then (q.1, c) else q) = q := fun q hq => by
            rw [if_neg]
            intro e
            apply hr
            unfold hasI
            exact List.any_eq_true.mpr ⟨q, hq, decide_eq_true e⟩
          rw [List.map_congr_left this, List.map_id']
        subst ha
        rw [if_pos rfl, hm]
        by_cases hj : a = j
        · subst hj; simp [co]
        · simp [co, hj, Ne.symm hj]
  · rename_i h
    induction kvs with
    | nil =>
      show (if p = j then c else 0) = if j = p then c else 0
      by_cases e : p = j
      · rw [if_pos e, if_pos e.symm]
      · rw [if_neg e, if_neg (fun z => e z.symm)]
    | cons q r ih =>
      obtain ⟨a, d⟩ := q
      have h1 : ¬ a = p := fun e => h (by unfold hasI; rw [List.any_cons, decide_eq_true e, Bool.true_or])
      have h2 : ¬ hasI r p = true := fun e => h (by unfold hasI at e ⊢; rw [List.any_cons, e, Bool.or_true])
      have ih' := ih h2
      rw [List.cons_append]
      by_cases hj : a = j
      · subst hj; simp [co, h1]
      · simp only [co, if_neg hj]
        exact ih'
theorem co_del : ∀ (kvs : List (Int × Int)) (p j : Int), co (delI kvs p) j = if j = p then 0 else co kvs j
  | [], p, j => by simp [delI, co]
  | (a, d) :: r, p, j => by
    have ih := co_del r p j
    unfold delI at ih ⊢
    rw [List.filter_cons]
    by_cases h : a = p
    · subst h
      rw [if_neg (by simp), ih]
      by_cases hj : j = a
      · rw [if_pos hj, if_pos hj]
      · rw [if_neg hj, if_neg hj]
        simp [co, Ne.symm hj]
    · rw [if_pos (by simp [h])]
      by_cases hj : a = j
      · subst hj; simp [co, h]
      · simp only [co, if_neg hj]
        exact ih
theorem co_put (kvs : List (Int × Int)) (p c j : Int) : co (putI kvs p c) j = co kvs j + if j = p then c else 0 := by
  unfold putI
  split
  · rename_i h
    rw [co_del, co_set]
    by_cases e : j = p
    · subst e; simp; omega
    · simp [e]
  · rw [co_set]
    by_cases e : j = p
    · subst e; simp
    · simp [e]
def keysI (kvs : List (Int × Int)) : List Int := kvs.map (·.1)
/-- each power once, no count nought -/
def Tidy (kvs : List (Int × Int)) : Prop := (keysI kvs).Nodup ∧ ∀ q ∈ kvs, q.2 ≠ 0
theorem hasI_iff (kvs : List (Int × Int)) (p : Int) : hasI kvs p = true ↔ p ∈ keysI kvs := by
  unfold hasI keysI
  rw [List.any_eq_true, List.mem_map]
  constructor
  · rintro ⟨q, h1, h2⟩; exact ⟨q, h1, of_decide_eq_true h2⟩
  · rintro ⟨q, h1, h2⟩; exact ⟨q, h1, decide_eq_true h2⟩
theorem co_not : ∀ {kvs : List (Int × Int)} {p : Int}, p ∉ keysI kvs → co kvs p = 0
  | [], _, _ => rfl
  | (a, c) :: r, p, h => by
    have h1 : ¬ a = p := fun e => h (by unfold keysI; simp [e])
    have h2 : p ∉ keysI r := fun e => h (by unfold keysI at e ⊢; rw [List.map_cons]; exact List.mem_cons_of_mem _ e)
    simp only [co, if_neg h1]
    exact co_not h2
theorem co_mem : ∀ {kvs : List (Int × Int)} {q : Int × Int}, (keysI kvs).Nodup → q ∈ kvs → co kvs q.1 = q.2
  | (a, c) :: r, q, nd, h => by
    unfold keysI at nd
    rw [List.map_cons, List.nodup_cons] at nd
    rcases List.mem_cons.mp h with e | h
    · subst e; simp [co]
    · have ne : ¬ a = q.1 := fun e => nd.1 (by rw [e]; exact List.mem_map.mpr ⟨q, h, rfl⟩)
      simp only [co, if_neg ne]
      exact co_mem nd.2 h
theorem keys_set (kvs : List (Int × Int)) (p c : Int) : keysI (setI kvs p c) = if hasI kvs p = true then keysI kvs else keysI kvs ++ [p] := by
  unfold setI
  split
  · unfold keysI
    rw [List.map_map]
    congr 1
    funext q
    simp only [Function.comp]
    split <;> rfl
  · unfold keysI
    rw [List.map_append]
    rfl
theorem nd_set {kvs : List (Int × Int)} (h : (keysI kvs).Nodup) (p c : Int) : (keysI (setI kvs p c)).Nodup := by
  rw [keys_set]
  split
  · exact h
  · rename_i hn
    rw [List.nodup_append]
    refine ⟨h, by simp, ?_⟩
    intro a ha b hb e
    simp at hb
    subst hb
    exact hn ((hasI_iff _ _).mpr (e ▸ ha))
theorem mem_keys_set {kvs : List (Int × Int)} {p c j : Int} (h : j ∈ keysI (setI kvs p c)) : j ∈ keysI kvs ∨ j = p := by
  rw [keys_set] at h
  split at h
  · exact .inl h
  · simp at h; exact h
theorem keys_del (kvs : List (Int × Int)) (p : Int) : keysI (delI kvs p) = (keysI kvs).filter fun j => decide (j ≠ p) := by
  unfold keysI delI
  rw [List.filter_map]
  rfl
theorem mem_set_val {kvs : List (Int × Int)} {p c : Int} {q : Int × Int} (h : q ∈ setI kvs p c) : q ∈ kvs ∨ q = (p, c) := by
  unfold setI at h
  split at h
  · obtain ⟨r, hr, e⟩ := List.mem_map.mp h
    by_cases z : r.1 = p
    · rw [if_pos z] at e; subst e; exact .inr (by rw [z])
    · rw [if_neg z] at e; subst e; exact .inl hr
  · rcases List.mem_append.mp h with h | h
    · exact .inl h
    · simp at h; exact .inr h
theorem tidy_nil : Tidy [] := ⟨List.nodup_nil, fun _ h => by cases h⟩
theorem tidy_put {kvs : List (Int × Int)} (h : Tidy kvs) (p c : Int) : Tidy (putI kvs p c) := by
  unfold putI
  split
  · refine ⟨?_, fun q hq => ?_⟩
    · rw [keys_del]
      exact (nd_set h.1 p _).filter _
    · have h1 := List.mem_filter.mp hq
      rcases mem_set_val h1.1 with z | z
      · exact h.2 q z
      · subst z; simp at h1
  · rename_i hn
    refine ⟨nd_set h.1 p _, fun q hq => ?_⟩
    rcases mem_set_val hq with z | z
    · exact h.2 q z
    · subst z; exact hn
theorem mem_keys_put {kvs : List (Int × Int)} {p c j : Int} (h : j ∈ keysI (putI kvs p c)) : j ∈ keysI kvs ∨ j = p := by
  unfold putI at h
  split at h
  · rw [keys_del] at h
    exact mem_keys_set (List.mem_filter.mp h).1
  · exact mem_keys_set h
theorem tidy_mem {kvs : List (Int × Int)} (h : Tidy kvs) (p : Int) : p ∈ keysI kvs ↔ co kvs p ≠ 0 := by
  constructor
  · intro hp
    obtain ⟨q, hq, e⟩ := List.mem_map.mp hp
    have := co_mem h.1 hq
    rw [← e, this]
    exact h.2 q hq
  · intro hp
    cases Classical.em (p ∈ keysI kvs) with
    | inl h => exact h
    | inr h => exact absurd (co_not h) hp
/-! heaps -/
theorem upd_comm {H : Hp} {a b : Addr} {o u : HO} (h : a ≠ b) : upd (upd H a o) b u = upd (upd H b u) a o := by
  funext c
  unfold upd
  by_cases h1 : c = b
  · rw [if_pos h1]
    by_cases h2 : c = a
    · exact absurd (h2.symm.trans h1) h
    · rw [if_neg h2, if_pos h1]
  · rw [if_neg h1]
    by_cases h2 : c = a
    · rw [if_pos h2, if_pos h2]
    · rw [if_neg h2, if_neg h2, if_neg h1]
theorem upd_self {H : Hp} {a : Addr} {o : HO} (h : H a = some o) : upd H a o = H := by
  funext c
  unfold upd
  split
  · rename_i e; rw [e, h]
  · rfl
/-- a for over a dict's powers: Pv speaks of the heap as if the dict weren't locked -/
theorem q_forD {σ : L2.St} {H : Hp} {td : TE} {D : Ends} {tu tz : TS} {j : Nat} {d : Addr} {kvs : List (Int × Int)} (h : ∀ od, Pu td σ (upd H d (.frz od (.dK (kI kvs)))) (.ref d)) (hd : H d = some (.dK (kI kvs))) (Pv : Nat → L2.St → Hp → Prop) (h0 : Pv 0 σ H)
    (hP : ∀ i σ' H', Pv i σ' H' → H' d = some (.dK (kI kvs)))
    (hs : ∀ (i : Nat) (q : Int × Int) σ' H' od D', kvs[i]? = some q → Pv i σ' H' → (∀ σ2 H2, Pv (i + 1) σ2 H2 → D'.nx σ2 (upd H2 d (.frz od (.dK (kI kvs))))) → tu D' (σ'.set j (some (.int q.1))) (upd H' d (.frz od (.dK (kI kvs)))))
    (hz : ∀ σ' H', Pv kvs.length σ' H' → tz D σ' H') : tSeq (tLock (tFor (iKeys td) (gName j) tu)) tz D σ H := by
  refine ⟨d, _, hd, trivial, fun od => ?_⟩
  refine h od _ ⟨d, od, rfl, .inl ⟨kI kvs, upd_same, ?_⟩⟩
  refine for_it walk_keys (fun i σ' H' => ∃ H2, H' = upd H2 d (.frz od (.dK (kI kvs))) ∧ Pv i σ' H2) ⟨H, rfl, h0⟩ (fun i σ' H' _ p => ?_) (fun i x σ' H' H'' hi p y => ?_) (fun σ' H' p => ?_)
  · obtain ⟨H2, rfl, _⟩ := p
    exact upd_same
  · obtain ⟨H2, rfl, p⟩ := p
    obtain ⟨rfl, k, v, hk, rfl⟩ := y
    have hq : ∃ q : Int × Int, kvs[i]? = some q ∧ k = Sum.inl q.1 := by
      unfold kI at hk
      rw [List.getElem?_map] at hk
      cases e : kvs[i]? with
      | none => rw [e] at hk; cases hk
      | some q =>
        rw [e] at hk
        exact ⟨q, rfl, (congrArg Prod.fst (Option.some.inj hk)).symm⟩
    obtain ⟨q, hq, rfl⟩ := hq
    exact hs i q σ' H2 od _ hq p fun σ2 H3 p3 => ⟨H3, rfl, p3⟩
  · obtain ⟨H2, rfl, p⟩ := p
    rw [kI_len] at p
    refine ⟨upd_same, ?_⟩
    show tz D σ' (upd (upd H2 d _) d (.dK (kI kvs)))
    rw [upd_upd, upd_self (hP _ _ _ p)]
    exact hz σ' H2 p
theorem s_forD {σ : L2.St} {H : Hp} {td : TE} {D : Ends} {tu : TS} {j : Nat} {d : Addr} {kvs : List (Int × Int)} (h : ∀ od, Pu td σ (upd H d (.frz od (.dK (kI kvs)))) (.ref d)) (hd : H d = some (.dK (kI kvs))) (Pv : Nat → L2.St → Hp → Prop) (h0 : Pv 0 σ H)
    (hP : ∀ i σ' H', Pv i σ' H' → H' d = some (.dK (kI kvs)))
    (hs : ∀ (i : Nat) (q : Int × Int) σ' H' od D', kvs[i]? = some q → Pv i σ' H' → (∀ σ2 H2, Pv (i + 1) σ2 H2 → D'.nx σ2 (upd H2 d (.frz od (.dK (kI kvs))))) → tu D' (σ'.set j (some (.int q.1))) (upd H' d (.frz od (.dK (kI kvs)))))
    (hz : ∀ σ' H', Pv kvs.length σ' H' → D.nx σ' H') : tLock (tFor (iKeys td) (gName j) tu) D σ H :=
  q_forD (tz := fun D σ H => D.nx σ H) h hd Pv h0 hP hs hz
theorem kI_get {kvs : List (Int × Int)} {i : Nat} {q : Int × Int} (h : kvs[i]? = some q) : hasI kvs q.1 = true := (hasI_iff _ _).mpr (List.mem_map.mpr ⟨q, List.mem_of_getElem? h, rfl⟩)
section
variable {σ : L2.St} {H : Hp} {td ty tx tv : TE} {d : Addr} {kvs : List (Int × Int)} {p c : Int} {D : Ends} {tz : TS}
theorem pu_dget (h : Pu td σ H (.ref d)) (hk : Pu ty σ H (.int p)) (hd : Rd H d (.dK (kI kvs))) (hh : hasI kvs p = true) : Pu (tDGet td ty) σ H (.int (co kvs p)) := fun Q q => h _ (hk _ ⟨d, _, rfl, .inl ⟨kI kvs, Sum.inl p, hd, rfl, (val_some hh).symm⟩, q⟩)
theorem pu_dget0 (h : Pu td σ H (.ref d)) (hk : Pu ty σ H (.int p)) (hx : Pu tx σ H (.int 0)) (hd : Rd H d (.dK (kI kvs))) : Pu (tDGet2 td ty tx) σ H (.int (co kvs p)) := fun Q q =>
  h _ ⟨d, rfl, .inl ⟨_, hd⟩, hk _ (hx _ ⟨_, .inl ⟨kI kvs, Sum.inl p, hd, rfl, rfl⟩, by rw [val_kI]; exact q⟩)⟩
theorem q_dput (hv : Pu tv σ H (.int c)) (h : Pu td σ H (.ref d)) (hk : Pu ty σ H (.int p)) (hd : H d = some (.dK (kI kvs))) (hl : kvs.length < 1000000) (k : tz D σ (upd H d (.dK (kI (setI kvs p c))))) : tSeq (sDPut td ty tv) tz D σ H :=
  hv _ (h _ (hk _ ⟨d, _, rfl, DPut.k (k := Sum.inl p) hd (by rw [kI_len]; exact Nat.lt_trans hl (by decide)), by rw [put_kI]; exact k⟩))
theorem s_dpop (h : Pu td σ H (.ref d)) (hk : Pu ty σ H (.int p)) (hd : H d = some (.dK (kI kvs))) (hh : hasI kvs p = true) (k : D.nx σ (upd H d (.dK (kI (delI kvs p))))) : tDrop (tDPop1 td ty) D σ H :=
  h _ ⟨d, rfl, .inl ⟨_, .inl hd⟩, hk _ ⟨_, Sum.inl p, _, hd, rfl, val_some hh, by rw [del_kI]; exact k⟩⟩
end
/-! ### d != {} -/
def rNeD0 : R2 := fun x y H Q => ∃ a b ks, x = .ref a ∧ y = .ref b ∧ H a = some (.dK ks) ∧ H b = some (.dK []) ∧ Q (.bl (!ks.isEmpty)) H
theorem op_ne_dK {X : Cx} (hu : X.A.units + 1 < cLine) : OpR X (compareOp .NotEq) rNeD0 := by
  intro pins s σ H x y v u Q I rx ry h
  obtain ⟨a, b, ks, rfl, rfl, ea, eb, q⟩ := h
  cases rx
  cases ry
  obtain ⟨_, ya, va, ra, da⟩ : ObjOk X.prog X.w H s.heap a (.dK ks) := I.hok a _ ea
  obtain ⟨_, yb, vb, rb, db⟩ : ObjOk X.prog X.w H s.heap b (.dK []) := I.hok b _ eb
  have hb0 : vb = [] := by cases rb; rfl
  subst hb0
  have hz : va.length = 0 ↔ ks.isEmpty = true := by rw [← ra.length, List.isEmpty_iff_length_eq_zero]
  refine PySem.W.keq_ne (knd := mixKind X.prog X.w) (r := true) ya yb da db (by omega) (fun hl => ?_) (fin_bl I q ?_)
  · have hk : ks = [] := by
      cases ks with
      | nil => rfl
      | cons p r => have := ra.length; rw [hl] at this; simp at this
    subst hk
    exact hits_all rb ra (fun p hp => by cases hp)
  · cases e : ks.isEmpty with
    | true => have := hz.mpr e; simp [this]
    | false =>
      have : va.length ≠ 0 := fun z => by rw [hz.mp z] at e; cases e
      simp [this]
/-! ### sets of ints, as dicts to True -/
def kB (ks : List Int) : List (Key × V) := ks.map fun k => (Sum.inl k, V.bl true)
theorem val_kB : ∀ (ks : List Int) (p : Int), valV (kB ks) (Sum.inl p) = if p ∈ ks then some (.bl true) else none
  | [], p => rfl
  | a :: r, p => by
    show valV (((Sum.inl a : Key), V.bl true) :: kB r) (Sum.inl p) = _
    by_cases h : a = p
    · rw [valV_pos (p := ((Sum.inl a : Key), V.bl true)) (by rw [h])]
      simp [h]
    · rw [valV_neg (p := ((Sum.inl a : Key), V.bl true)) (fun q => h (Sum.inl.inj q)), val_kB r p]
      simp [Ne.symm h]
theorem drop_kB (ks : List Int) (p : Int) : dropK (kB ks) (Sum.inl p) = kB (ks.filter fun j => decide (j ≠ p)) := by
  unfold dropK kB
  rw [List.filter_map]
  congr 1
  congr 1
  funext j
  simp
theorem merge_kB : ∀ (l ks : List Int), (ks ++ l).Nodup → mergeK (kB ks) (kB l) = kB (ks ++ l)
  | [], ks, _ => by rw [List.append_nil]; rfl
  | a :: l, ks, h => by
    have ha : a ∉ ks := fun z => by
      rw [List.nodup_append] at h
      exact h.2.2 a z a List.mem_cons_self rfl
    have hn : valV (kB ks) (Sum.inl a) = none := by rw [val_kB, if_neg ha]
    show mergeK (putK (kB ks) (Sum.inl a) (.bl true)) (kB l) = _
    rw [putK_new _ hn]
    have e : kB ks ++ [((Sum.inl a : Key), V.bl true)] = kB (ks ++ [a]) := by unfold kB; rw [List.map_append]; rfl
    rw [e, merge_kB l (ks ++ [a]) (by rw [List.append_assoc]; exact h), List.append_assoc]
    rfl
section
variable {σ : L2.St} {H : Hp} {td ty : TE} {d : Addr} {ks : List Int} {p : Int} {D : Ends} {tz : TS}
theorem pt_inB (h : Pu td σ H (.ref d)) (hk : Pu ty σ H (.int p)) (hd : H d = some (.dK (kB ks))) : PuT (tB (tDIn ty td)) σ H (decide (p ∈ ks)) := fun Q q =>
  hk _ (h _ ⟨d, _, rfl, DGet.k (k := Sum.inl p) hd, _, rfl, by
    have e : (valV (kB ks) (Sum.inl p)).isSome = decide (p ∈ ks) := by
      rw [val_kB]
      by_cases z : p ∈ ks <;> simp [z]
    rw [e]
    exact q⟩)
theorem q_dropB (h : Pu td σ H (.ref d)) (hk : Pu ty σ H (.int p)) (hd : H d = some (.dK (kB ks))) (hp : p ∈ ks) (k : tz D σ (upd H d (.dK (kB (ks.filter fun j => decide (j ≠ p)))))) : tSeq (tDrop (tDPop1 td ty)) tz D σ H :=
  h _ ⟨d, rfl, .inl ⟨_, .inl hd⟩, hk _ ⟨_, Sum.inl p, .bl true, hd, rfl, by rw [val_kB, if_pos hp], by rw [drop_kB]; exact k⟩⟩
end
def Good (strands : Int) (word : List Int) : Prop := 1 ≤ strands ∧ strands ≤ 6 ∧ word.length ≤ 16 ∧ ∀ l ∈ word, l ≠ 0 ∧ -strands < l ∧ l < strands
def sp_is_letter (K : PySem.W.Frag) : Sp := fun vs H Q E =>
  ∃ l s : Int, vs = [.int l, .int s] ∧ Q (.bl (!decide (l = 0) && decide ((if l < 0 then -l else l) < s))) H
abbrev N_is_letter : List Str := ["letter", "strands"]
theorem sc_is_letter : FnScope N_is_letter ["letter", "strands"] (defScope s_is_letter) := ⟨rfl, rfl, rfl, by decide +kernel, rfl, by decide +kernel, by decide +kernel⟩
theorem ok_is_letter {P : Program} {w : World} {K : PySem.W.Frag} {mg : Str → Option Value} {base : Heap} {f : Addr} {fd : FuncData} (F : FnP K "is_letter" s_is_letter f fd) (Z : Bl mg)  : FnOk P w K mg base CX0 1 f fd ["letter", "strands"] (sp_is_letter K) := by
  refine F.ok sc_is_letter (fun vs H Q E h => ?_) (fun cdv A outer s H vs Q E hr h => ?_)
  · obtain ⟨_, _, rfl, _⟩ := h
    rfl
  · refine ⟨_, PSs.nox (pss_one (ps_ret (pe_and (pe_cmpR op_ne (pv 0) pe_int (nomark _)) (pe_one (pe_cmpR op_lt (pe_callB call_abs (by rfl) Z.f_abs (by decide +kernel) (pa_cons (pv 0) pa_nil)) (pv 1) (nomark _)))))), ?_⟩
    obtain ⟨l, s, rfl, k⟩ := h
    exact s_retP (pu_and (pu_neI (pu_var) pu_c) fun _ => pu_I0 (pu_abs pu_var) pu_var) k
def sp_looked (K : PySem.W.Frag) : Sp := fun vs H Q E =>
  ∃ (pl wd : Addr) (strands : Int) (word : List Int), vs = [.ref pl] ∧ SqT K H pl [.int strands, .ref wd] ∧ SqT K H wd (word.map V.int) ∧ Good strands word ∧ Q (.int word.length) H
abbrev N_looked : List Str := ["plait", "strands", "word", "letter"]
theorem sc_looked : FnScope N_looked ["plait"] (defScope s_looked) := ⟨rfl, rfl, rfl, by decide +kernel, rfl, by decide +kernel, by decide +kernel⟩
theorem ok_looked {P : Program} {w : World} {K : PySem.W.Frag} {mg : Str → Option Value} {base : Heap} {f : Addr} {fd : FuncData} (F : FnP K "looked" s_looked f fd) (Z : Bl mg) (c_is_letter : Cal P w K mg base "is_letter" ["letter", "strands"] 1 (sp_is_letter K)) : FnOk P w K mg base CX0 2 f fd ["plait"] (sp_looked K) := by
  refine F.ok sc_looked (fun vs H Q E h => ?_) (fun cdv A outer s H vs Q E hr h => ?_)
  · obtain ⟨_, _, _, _, rfl, _⟩ := h
    rfl
  · refine ⟨_, PSs.nox (pss_cons (ps_asg (pv 0) (pg_tup (by rfl) (pgs_cons (pg_name (i := 1) sc_looked.nd rfl (Or.inl rfl)) (pgs_cons (pg_name (i := 2) sc_looked.nd rfl (Or.inl rfl)) pgs_nil))))
      (pss_cons (ps_if (PW.pt (pw_or (pt_not (pt_chain op_le op_le pe_int (pv 1) (pe_kI Z.k_MOST_STRANDS rfl))) (pw_or1 (pt_cmpR op_gt (pe_callB call_len_seq (by rfl) Z.f_len (by decide +kernel) (pa_cons (pv 2) pa_nil)) (pe_kI Z.k_MOST_LETTERS rfl) (nomark _))))) (pss_one ps_never) pss_nil)
      (pss_cons (ps_for PassesOwn.never rfl (pi_tup (pv 2)) (pg_name (i := 3) sc_looked.nd rfl (Or.inl rfl))
      (pss_one (ps_if (pt_not (pt_val (pe_cal c_is_letter (hr.mono (by decide)) rfl (pa_cons (pv 3) (pa_cons (pv 1) pa_nil))))) (pss_one ps_never) pss_nil)))
      (pss_one (ps_ret (pe_callB call_len_seq (by rfl) Z.f_len (by decide +kernel) (pa_cons (pv 2) pa_nil))))))), ?_⟩
    obtain ⟨pl, wd, strands, word, rfl, h1, h2, ⟨g1, g2, g3, g4⟩, k⟩ := h
    refine ⟨_, rfl, pl, _, rfl, h1, rfl, _, _, rfl, _, _, rfl, rfl, ?_⟩
    refine q_ifP (pt_or (pt_no (pt_test (pu_chII pu_c pu_var pu_c))) fun _ => pt_test (pu_I0 (pu_lenT pu_var h2) pu_c)) (fun hc => ?_) (fun _ => ?_)
    · exfalso
      simp at hc
      omega
    · refine q_forTP pu_var h2 (fun i σ' H' => H' = H ∧ ∃ x, σ' = [some (.ref pl), some (.int strands), some (.ref wd), x]) ⟨rfl, _, rfl⟩ (fun i σ' H' _ p => p.1 ▸ h2) (fun i x σ' H' hi p => ?_) (fun σ' H' p => ?_)
      · obtain ⟨rfl, y, rfl⟩ := p
        obtain ⟨l, hl, rfl⟩ := get_int hi
        have gl := g4 l (List.mem_of_getElem? hl)
        refine s_ifP (pt_no (pt_B (pu_call (pa_c pu_var (pa_c pu_var pa_n)) fun Q q => ⟨l, strands, rfl, q⟩))) (fun hc => ?_) (fun _ => ⟨rfl, _, rfl⟩)
        exfalso
        simp at hc
        omega
      · obtain ⟨rfl, y, rfl⟩ := p
        refine s_retP (pu_lenT pu_var h2) ?_
        rw [List.length_map]
        exact k
def sp_put_to (K : PySem.W.Frag) : Sp := fun vs H Q E =>
  ∃ (d : Addr) (kvs : List (Int × Int)) (p c : Int), vs = [.ref d, .int p, .int c] ∧ H d = some (.dK (kI kvs)) ∧ kvs.length < 1000000 ∧ Q .non (upd H d (.dK (kI (putI kvs p c))))
abbrev N_put_to : List Str := ["found", "power", "count"]
theorem sc_put_to : FnScope N_put_to ["found", "power", "count"] (defScope s_put_to) := ⟨rfl, rfl, rfl, by decide +kernel, rfl, by decide +kernel, by decide +kernel⟩
theorem ok_put_to {P : Program} {w : World} {K : PySem.W.Frag} {mg : Str → Option Value} {base : Heap} {f : Addr} {fd : FuncData} (F : FnP K "put_to" s_put_to f fd) (Z : Bl mg)  : FnOk P w K mg base CX0 1 f fd ["found", "power", "count"] (sp_put_to K) := by
  refine F.ok sc_put_to (fun vs H Q E h => ?_) (fun cdv A outer s H vs Q E hr h => ?_)
  · obtain ⟨_, _, _, _, rfl, _⟩ := h
    rfl
  · refine ⟨_, PSs.nox (pss_cons (ps_dput (hu_of hr) (pv 0) (pv 1) (pe_op op_add (pe_dget2 (hu_of hr) (pv 0) (pv 1) pe_int ⟨by rfl, by rfl, by rfl, by rfl⟩) (pv 2)) rfl)
      (pss_one (ps_if (pt_cmpR op_eq (pe_dget (hu_of hr) (pv 0) (pv 1) (fun _ _ => rfl)) pe_int (nomark _)) (pss_one (ps_expr (pe_dpop1 (pv 0) (pv 1) ⟨by rfl, by rfl, by rfl, by rfl⟩))) pss_nil))), ?_⟩
    obtain ⟨d, kvs, p, c, rfl, hd, hl, k⟩ := h
    refine q_dput (pu_I0 (pu_dget0 pu_var pu_var pu_c (.inl hd)) pu_var) pu_var pu_var hd hl ?_
    refine s_ifP (pt_test (pu_eqI (pu_dget pu_var pu_var (.inl upd_same) (has_set _ _ _)) pu_c)) (fun hc => ?_) (fun hc => ?_)
    · refine s_dpop pu_var pu_var upd_same (has_set _ _ _) ?_
      rw [upd_upd]
      rw [co_set, if_pos rfl] at hc
      unfold putI at k
      rw [if_pos (of_decide_eq_true hc)] at k
      exact k
    · rw [co_set, if_pos rfl] at hc
      unfold putI at k
      rw [if_neg (of_decide_eq_false hc)] at k
      exact k
def sp_loop_worth (K : PySem.W.Frag) : Sp := fun vs H Q E =>
  vs = [] ∧ ∀ p, H p = none → Q (.ref p) (upd H p (.dK (kI [(2, -1), (-2, -1)])))
abbrev N_loop_worth : List Str := []
theorem sc_loop_worth : FnScope N_loop_worth [] (defScope s_loop_worth) := ⟨rfl, rfl, rfl, by decide +kernel, rfl, by decide +kernel, by decide +kernel⟩
theorem ok_loop_worth {P : Program} {w : World} {K : PySem.W.Frag} {mg : Str → Option Value} {base : Heap} {f : Addr} {fd : FuncData} (F : FnP K "loop_worth" s_loop_worth f fd) (Z : Bl mg)  : FnOk P w K mg base CX0 1 f fd [] (sp_loop_worth K) := by
  refine F.ok sc_loop_worth (fun vs H Q E h => ?_) (fun cdv A outer s H vs Q E hr h => ?_)
  · obtain ⟨rfl, _⟩ := h
    rfl
  · refine ⟨_, PSs.nox (pss_one (ps_ret (pe_disp (pps_cons pe_int (pe_un un_neg pe_int) (pps_cons (pe_un un_neg pe_int) (pe_un un_neg pe_int) pps_nil)) (by rfl) (by rfl) (fun z => by cases z) (by decide)))), ?_⟩
    obtain ⟨rfl, k⟩ := h
    intro p np
    refine ⟨_, rfl, _, rfl, _, rfl, upd_same, kI [(2, -1), (-2, -1)], rfl, by decide, ?_⟩
    have e : mergeK [] (kI [(2, -1), (-2, -1)]) = kI [(2, -1), (-2, -1)] := by decide
    rw [e, upd_upd]
    exact k p np
/-- the product of two sums of powers, as the loops make it -/
def mulI (x y : List (Int × Int)) : List (Int × Int) := x.foldl (fun acc q => y.foldl (fun acc r => putI acc (q.1 + r.1) (co x q.1 * co y r.1)) acc) []
theorem mul1_len (x y : List (Int × Int)) (q : Int × Int) : ∀ (l : List (Int × Int)) (acc : List (Int × Int)), (l.foldl (fun acc r => putI acc (q.1 + r.1) (co x q.1 * co y r.1)) acc).length ≤ acc.length + l.length
  | [], acc => Nat.le_refl _
  | r :: l, acc => by
    rw [List.foldl_cons, List.length_cons]
    have h1 := mul1_len x y q l (putI acc (q.1 + r.1) (co x q.1 * co y r.1))
    have h2 := putI_len acc (q.1 + r.1) (co x q.1 * co y r.1)
    omega
def sp_multiplied (K : PySem.W.Frag) : Sp := fun vs H Q E =>
  ∃ (a b : Addr) (x y : List (Int × Int)), vs = [.ref a, .ref b] ∧ H a = some (.dK (kI x)) ∧ H b = some (.dK (kI y)) ∧ a ≠ b ∧ x.length ≤ 900 ∧ y.length ≤ 900 ∧ (∀ q ∈ y, -(2 ^ 64) < co y q.1 ∧ co y q.1 < 2 ^ 64) ∧ ∀ p, H p = none → Q (.ref p) (upd H p (.dK (kI (mulI x y))))
abbrev N_multiplied : List Str := ["one", "other", "found", "power", "more"]
theorem sc_multiplied : FnScope N_multiplied ["one", "other"] (defScope s_multiplied) := ⟨rfl, rfl, rfl, by decide +kernel, rfl, by decide +kernel, by decide +kernel⟩
theorem ok_multiplied {P : Program} {w : World} {K : PySem.W.Frag} {mg : Str → Option Value} {base : Heap} {f : Addr} {fd : FuncData} (F : FnP K "multiplied" s_multiplied f fd) (Z : Bl mg) (c_put_to : Cal P w K mg base "put_to" ["found", "power", "count"] 1 (sp_put_to K)) : FnOk P w K mg base CX0 2 f fd ["one", "other"] (sp_multiplied K) := by
  refine F.ok sc_multiplied (fun vs H Q E h => ?_) (fun cdv A outer s H vs Q E hr h => ?_)
  · obtain ⟨_, _, _, _, rfl, _⟩ := h
    rfl
  · refine ⟨_, PSs.nox (pss_cons (ps_set (i := 2) sc_multiplied.nd rfl (Or.inl rfl) pe_dnewK)
      (pss_cons (ps_lock (ps_for PassesOwn.never rfl (pi_keys (pv 0)) (pg_name (i := 3) sc_multiplied.nd rfl (Or.inl rfl))
      (pss_one (ps_lock (ps_for PassesOwn.never rfl (pi_keys (pv 1)) (pg_name (i := 4) sc_multiplied.nd rfl (Or.inl rfl))
      (pss_one (ps_expr (pe_cal c_put_to (hr.mono (by decide)) rfl (pa_cons (pv 2) (pa_cons (pe_op op_add (pv 3) (pv 4)) (pa_cons (pe_op op_mul (pe_dget (hu_of hr) (pv 0) (pv 3) (fun _ _ => rfl)) (pe_dget (hu_of hr) (pv 1) (pv 4) (fun _ _ => rfl))) pa_nil)))))))))))
      (pss_one (ps_ret (pv 2))))), ?_⟩
    obtain ⟨a, b, x, y, rfl, ha, hb, ab, lx, ly, hy, k⟩ := h
    intro p np
    have pa : a ≠ p := ne_of_none ha np
    have pb : b ≠ p := ne_of_none hb np
    refine q_forD (kvs := x) (fun od => pu_var) (by rw [upd_ne pa]; exact ha) (fun i σ' H' => ∃ acc z1 z2, σ' = [some (.ref a), some (.ref b), some (.ref p), z1, z2] ∧ H' = upd H p (.dK (kI acc)) ∧ acc.length ≤ i * 900 ∧
      (x.drop i).foldl (fun acc q => y.foldl (fun acc r => putI acc (q.1 + r.1) (co x q.1 * co y r.1)) acc) acc = mulI x y)
      ⟨[], none, none, rfl, rfl, Nat.zero_le _, rfl⟩ (fun i σ' H' ⟨_, _, _, _, e, _⟩ => by rw [e, upd_ne pa]; exact ha) (fun i q σ' H' od D' hq p1 kn => ?_) (fun σ' H' p1 => ?_)
    · obtain ⟨acc, z1, z2, rfl, rfl, hl, hm⟩ := p1
      have hi := (List.getElem?_eq_some_iff.mp hq).1
      have hx : hasI x q.1 = true := kI_get hq
      have hb' : ∀ o, upd (upd H p o) a (.frz od (.dK (kI x))) b = some (.dK (kI y)) := fun o => by rw [upd_ne ab.symm, upd_ne pb]; exact hb
      refine s_forD (kvs := y) (fun od => pu_var) (hb' _) (fun j σ' H' => ∃ acc' z2, σ' = [some (.ref a), some (.ref b), some (.ref p), some (.int q.1), z2] ∧ H' = upd (upd H p (.dK (kI acc'))) a (.frz od (.dK (kI x))) ∧ acc'.length ≤ acc.length + j ∧
        (y.drop j).foldl (fun acc r => putI acc (q.1 + r.1) (co x q.1 * co y r.1)) acc' = y.foldl (fun acc r => putI acc (q.1 + r.1) (co x q.1 * co y r.1)) acc)
        ⟨acc, z2, rfl, rfl, Nat.le_refl _, rfl⟩ (fun j σ' H' ⟨_, _, _, e, _⟩ => by rw [e]; exact hb' _) (fun j r σ' H' od2 D2 hr2 p2 kn2 => ?_) (fun σ' H' p2 => ?_)
      · obtain ⟨acc', z2, rfl, rfl, hl2, hm2⟩ := p2
        have hj := (List.getElem?_eq_some_iff.mp hr2).1
        have hyr : hasI y r.1 = true := kI_get hr2
        have hp : ∀ o, upd (upd (upd H p o) a (.frz od (.dK (kI x)))) b (.frz od2 (.dK (kI y))) p = some o := fun o => by rw [upd_ne pb.symm, upd_ne pa.symm, upd_same]
        have hA : ∀ o, upd (upd (upd H p o) a (.frz od (.dK (kI x)))) b (.frz od2 (.dK (kI y))) a = some (.frz od (.dK (kI x))) := fun o => by rw [upd_ne ab, upd_same]
        refine s_dropC (k_call (pa_c pu_var (pa_c (pu_I0 pu_var pu_var) (pa_c (pu_I (pu_dget pu_var pu_var (.inr ⟨_, hA _⟩) hx) (pu_dget pu_var pu_var (.inr ⟨_, upd_same⟩) hyr) (.inr (hy r (List.mem_of_getElem? hr2)))) pa_n))) ⟨p, acc', _, _, rfl, hp _, by omega, ?_⟩)
        have e := kn2 [some (.ref a), some (.ref b), some (.ref p), some (.int q.1), some (.int r.1)] (upd (upd H p (.dK (kI (putI acc' (q.1 + r.1) (co x q.1 * co y r.1))))) a (.frz od (.dK (kI x)))) ⟨_, _, rfl, rfl, ?_, fold_turn hr2 hm2⟩
        · rw [upd_comm pb, upd_comm pa, upd_upd]
          exact e
        · have := putI_len acc' (q.1 + r.1) (co x q.1 * co y r.1)
          omega
      · obtain ⟨acc', z2, rfl, rfl, hl2, hm2⟩ := p2
        have e2 := fold_end hm2
        refine kn _ _ ⟨acc', some (.int q.1), z2, rfl, rfl, ?_, ?_⟩
        · have : (i + 1) * 900 = i * 900 + 900 := by omega
          omega
        · have h3 := fold_turn hq hm
          rw [← e2] at h3
          exact h3
    · obtain ⟨acc, z1, z2, rfl, rfl, hl, hm⟩ := p1
      have e := fold_end hm
      subst e
      exact s_retP pu_var (k p np)
abbrev dlt : List (Int × Int) := [(2, -1), (-2, -1)]
def powI : Nat → List (Int × Int)
  | 0 => [(0, 1)]
  | n + 1 => mulI (powI n) dlt
/-- all powers between -N and N -/
def Bd (kvs : List (Int × Int)) (N : Int) : Prop := ∀ j ∈ keysI kvs, -N ≤ j ∧ j ≤ N
theorem tidy_mul1 (x y : List (Int × Int)) (q : Int × Int) : ∀ (l acc : List (Int × Int)), Tidy acc → Tidy (l.foldl (fun acc r => putI acc (q.1 + r.1) (co x q.1 * co y r.1)) acc)
  | [], acc, h => h
  | r :: l, acc, h => by
    rw [List.foldl_cons]
    exact tidy_mul1 x y q l _ (tidy_put h _ _)
theorem tidy_mul (x y : List (Int × Int)) : Tidy (mulI x y) := by
  have : ∀ (l acc : List (Int × Int)), Tidy acc → Tidy (l.foldl (fun acc q => y.foldl (fun acc r => putI acc (q.1 + r.1) (co x q.1 * co y r.1)) acc) acc) := by
    intro l
    induction l with
    | nil => intro acc h; exact h
    | cons q l ih => intro acc h; rw [List.foldl_cons]; exact ih _ (tidy_mul1 x y q y acc h)
  exact this x [] tidy_nil
theorem bd_put {kvs : List (Int × Int)} {N p c : Int} (h : Bd kvs N) (hp : -N ≤ p ∧ p ≤ N) : Bd (putI kvs p c) N := fun j hj => by
  rcases mem_keys_put hj with z | z
  · exact h j z
  · rw [z]; exact hp
theorem bd_mul {x y : List (Int × Int)} {N M : Int} (hx : Bd x N) (hy : Bd y M) : Bd (mulI x y) (N + M) := by
  have one : ∀ (q : Int × Int), (-N ≤ q.1 ∧ q.1 ≤ N) → ∀ (l acc : List (Int × Int)), (∀ r ∈ l, -M ≤ r.1 ∧ r.1 ≤ M) → Bd acc (N + M) → Bd (l.foldl (fun acc r => putI acc (q.1 + r.1) (co x q.1 * co y r.1)) acc) (N + M) := by
    intro q hq l
    induction l with
    | nil => intro acc _ h; exact h
    | cons r l ih =>
      intro acc hl h
      rw [List.foldl_cons]
      have hr := hl r List.mem_cons_self
      exact ih _ (fun s hs => hl s (List.mem_cons_of_mem _ hs)) (bd_put h (by omega))
  have all : ∀ (l acc : List (Int × Int)), (∀ q ∈ l, -N ≤ q.1 ∧ q.1 ≤ N) → Bd acc (N + M) → Bd (l.foldl (fun acc q => y.foldl (fun acc r => putI acc (q.1 + r.1) (co x q.1 * co y r.1)) acc) acc) (N + M) := by
    intro l
    induction l with
    | nil => intro acc _ h; exact h
    | cons q l ih =>
      intro acc hl h
      rw [List.foldl_cons]
      exact ih _ (fun s hs => hl s (List.mem_cons_of_mem _ hs)) (one q (hl q List.mem_cons_self) y acc (fun r hr => hy r.1 (List.mem_map.mpr ⟨r, hr, rfl⟩)) h)
  exact all x [] (fun q hq => hx q.1 (List.mem_map.mpr ⟨q, hq, rfl⟩)) (fun j hj => by cases hj)
theorem filter_ne_len {l : List Int} (h : l.Nodup) (x : Int) : l.length ≤ (l.filter fun y => decide (y ≠ x)).length + 1 := by
  induction l with
  | nil => simp
  | cons a l ih =>
    rw [List.nodup_cons] at h
    have ih' := ih h.2
    rw [List.filter_cons]
    by_cases e : a = x
    · subst e
      have : l.filter (fun y => decide (y ≠ a)) = l := List.filter_eq_self.mpr fun y hy => by simp; intro z; exact h.1 (z ▸ hy)
      rw [if_neg (by simp), this]
      simp
    · rw [if_pos (by simp [e])]
      simp only [List.length_cons]
      omega
theorem nodup_len : ∀ (n : Nat) (a : Int) (l : List Int), l.Nodup → (∀ x ∈ l, a ≤ x ∧ x < a + n) → l.length ≤ n
  | 0, a, l, _, h => by
    cases l with
    | nil => exact Nat.le_refl _
    | cons x r => have := h x List.mem_cons_self; omega
  | n + 1, a, l, nd, h => by
    have h1 := filter_ne_len nd (a + n)
    have h2 := nodup_len n a (l.filter fun y => decide (y ≠ a + n)) (nd.filter _) (fun x hx => by
      have q := List.mem_filter.mp hx
      have := h x q.1
      have ne : x ≠ a + n := by simpa using q.2
      omega)
    omega
theorem tidy_len {kvs : List (Int × Int)} {N : Nat} (h : Tidy kvs) (b : Bd kvs N) : kvs.length ≤ 2 * N + 1 := by
  have := nodup_len (2 * N + 1) (-(N : Int)) (keysI kvs) h.1 (fun x hx => by have := b x hx; omega)
  unfold keysI at this
  rw [List.length_map] at this
  exact this
theorem tidy_pow : ∀ n, Tidy (powI n)
  | 0 => by unfold Tidy; decide
  | n + 1 => tidy_mul _ _
theorem bd_pow : ∀ n : Nat, Bd (powI n) (2 * n : Nat)
  | 0 => by unfold Bd; decide
  | n + 1 => by
    have h : Bd dlt 2 := by unfold Bd; decide
    have := bd_mul (bd_pow n) h
    have e : ((2 * n : Nat) : Int) + 2 = ((2 * (n + 1) : Nat) : Int) := by omega
    rw [e] at this
    exact this
theorem pow_len (n : Nat) : (powI n).length ≤ 4 * n + 1 := by
  have := tidy_len (tidy_pow n) (bd_pow n)
  omega
def sp_loop_power (K : PySem.W.Frag) : Sp := fun vs H Q E =>
  ∃ n : Nat, vs = [.int (n : Int)] ∧ n ≤ 200 ∧ ∀ p H1, Ex H H1 → H p = none → H1 p = some (.dK (kI (powI n))) → Q (.ref p) H1
abbrev N_loop_power : List Str := ["times", "found", "turn"]
theorem sc_loop_power : FnScope N_loop_power ["times"] (defScope s_loop_power) := ⟨rfl, rfl, rfl, by decide +kernel, rfl, by decide +kernel, by decide +kernel⟩
theorem ok_loop_power {P : Program} {w : World} {K : PySem.W.Frag} {mg : Str → Option Value} {base : Heap} {f : Addr} {fd : FuncData} (F : FnP K "loop_power" s_loop_power f fd) (Z : Bl mg) (c_multiplied : Cal P w K mg base "multiplied" ["one", "other"] 2 (sp_multiplied K)) (c_loop_worth : Cal P w K mg base "loop_worth" [] 1 (sp_loop_worth K)) : FnOk P w K mg base CX0 3 f fd ["times"] (sp_loop_power K) := by
  refine F.ok sc_loop_power (fun vs H Q E h => ?_) (fun cdv A outer s H vs Q E hr h => ?_)
  · obtain ⟨_, rfl, _⟩ := h
    rfl
  · refine ⟨_, PSs.nox (pss_cons (ps_set (i := 1) sc_loop_power.nd rfl (Or.inl rfl) (pe_disp (pps_cons pe_int pe_int pps_nil) (by rfl) (by rfl) (fun z => by cases z) (by decide)))
      (pss_cons (ps_for PassesOwn.never rfl (pi_range1 rfl Z.f_range (pa_cons (pv 0) pa_nil)) (pg_name (i := 2) sc_loop_power.nd rfl (Or.inl rfl))
      (pss_one (ps_set (i := 1) sc_loop_power.nd rfl (Or.inl rfl) (pe_cal c_multiplied (hr.mono (by decide)) rfl (pa_cons (pv 1) (pa_cons (pe_cal0 c_loop_worth (hr.mono (by decide)) rfl) pa_nil))))))
      (pss_one (ps_ret (pv 1))))), ?_⟩
    obtain ⟨n, rfl, hn, k⟩ := h
    intro p np
    refine ⟨upd_same, kI [(0, 1)], rfl, by decide, ?_⟩
    rw [show mergeK [] (kI [(0, 1)]) = kI (powI 0) from by decide, upd_upd]
    refine q_forRP (pa_c pu_var pa_n) (by omega) (by omega) (fun i σ' H' => ∃ q z, σ' = [some (.int (n : Int)), some (.ref q), z] ∧ Ex H H' ∧ H q = none ∧ H' q = some (.dK (kI (powI i)))) ⟨p, none, rfl, Ex.new np, np, upd_same⟩ (fun i σ' H' hi p1 => ?_) (fun σ' H' p1 => ?_)
    · obtain ⟨q, z, rfl, ex, nq, hq⟩ := p1
      refine s_asgC (k_callC (k_cons (k_var rfl (k_cons (k_call pa_n ⟨rfl, fun b nb => ?_⟩)))))
      have l := pow_len i
      refine ⟨q, b, powI i, dlt, rfl, by rw [upd_ne (ne_of_none hq nb)]; exact hq, upd_same, ne_of_none hq nb, by omega, by decide, by decide, fun c nc => ?_⟩
      have nc' : H' c = none := by
        have ne : c ≠ b := fun e => by rw [e, upd_same] at nc; cases nc
        rw [upd_ne ne] at nc
        exact nc
      refine ⟨c, _, rfl, ex.trans ((Ex.new nb).trans (Ex.new nc)), fresh_back ex nc', upd_same⟩
    · obtain ⟨q, z, rfl, ex, nq, hq⟩ := p1
      exact s_retP pu_var (k q H' ex nq (by simpa using hq))
def srt (l : List Int) : List Int := l.mergeSort fun a b => decide (a ≤ b)
theorem srt_perm (l : List Int) : (srt l).Perm l := List.mergeSort_perm _ _
theorem srt_up (l : List Int) : (srt l).Pairwise (· ≤ ·) := by
  have h := List.pairwise_mergeSort (le := fun a b : Int => decide (a ≤ b)) (fun a b c h1 h2 => by simp at *; omega) (fun a b => by simp; omega) l
  exact h.imp fun h => of_decide_eq_true h
theorem srt_is {l ys : List Int} (p : ys.Perm l) (h : ys.Pairwise (· ≤ ·)) : ys = srt l :=
  List.Perm.eq_of_pairwise (fun a b _ _ h1 h2 => Int.le_antisymm h1 h2) h (srt_up l) (p.trans (srt_perm l).symm)
/-- a sum of powers as it is told -/
def told (kvs : List (Int × Int)) : List (Int × Int) := (srt (keysI kvs)).map fun p => (p, co kvs p)
theorem kI_keys (kvs : List (Int × Int)) : (kI kvs).map (·.1) = (keysI kvs).map Sum.inl := by
  unfold kI keysI
  rw [List.map_map, List.map_map]
  rfl
/-- a tuple of pairs of ints -/
def PairT (B : Hp) (v : V) (q : Int × Int) : Prop := ∃ t, v = .ref t ∧ B t = some (.tup [.int q.1, .int q.2])
def SumT (B : Hp) (v : V) (l : List (Int × Int)) : Prop := ∃ a ys o, v = .ref a ∧ B a = some (.frz o (.tup ys)) ∧ o.dict = none ∧ ys.length = l.length ∧ ∀ (i : Nat) y, ys[i]? = some y → ∃ q, l[i]? = some q ∧ PairT B y q
theorem PairT.mo {B B' : Hp} {v : V} {q : Int × Int} (e : Ex B B') (h : PairT B v q) : PairT B' v q := let ⟨t, a, b⟩ := h; ⟨t, a, e _ _ b⟩
theorem SumT.mo {B B' : Hp} {v : V} {l : List (Int × Int)} (e : Ex B B') (h : SumT B v l) : SumT B' v l := let ⟨a, ys, o, h1, h2, h0, h3, h4⟩ := h; ⟨a, ys, o, h1, e _ _ h2, h0, h3, fun i y hy => let ⟨q, q1, q2⟩ := h4 i y hy; ⟨q, q1, q2.mo e⟩⟩
def sp_as_powers (K : PySem.W.Frag) : Sp := fun vs H Q E =>
  ∃ (B : Hp) (d : Addr) (kvs : List (Int × Int)), vs = [.ref d] ∧ Ex B H ∧ H d = some (.dK (kI kvs)) ∧ kvs.length < 64 ∧ ∀ v B1 H1, Ext M0 B H B1 H1 → SumT B1 v (told kvs) → Q v H1
abbrev N_as_powers : List Str := ["powers", "power"]
theorem sc_as_powers : FnScope N_as_powers ["powers"] (defScope s_as_powers) := ⟨rfl, rfl, rfl, by decide +kernel, rfl, by decide +kernel, by decide +kernel⟩
theorem ok_as_powers {P : Program} {w : World} {K : PySem.W.Frag} {mg : Str → Option Value} {base : Heap} {f : Addr} {fd : FuncData} (F : FnP K "as_powers" s_as_powers f fd) (Z : Bl mg)  : FnOk P w K mg base CX0 1 f fd ["powers"] (sp_as_powers K) := by
  refine F.ok sc_as_powers (fun vs H Q E h => ?_) (fun cdv A outer s H vs Q E hr h => ?_)
  · obtain ⟨_, _, _, rfl, _⟩ := h
    rfl
  · refine ⟨_, PSs.nox (pss_one (ps_ret (pe_callTy call_tuple_F (by rfl) Z.f_tuple (by decide +kernel) (pa_cons (pe_lc (own := [("power", 1)]) rfl sc_as_powers.nd (pi_list (pe_callB (call_sortedDI rfl) (by rfl) Z.f_sorted (by decide +kernel) (pa_cons (pv 0) pa_nil))) (blkOk_by (own := [("power", 1)]) (N := N_as_powers) (sc := defScope s_as_powers) (by decide +kernel)) (fun _ _ _ _ _ => (pg_name (i := 1) sc_as_powers.nd rfl (Or.inl rfl))) (fun _ _ _ _ _ => pts_nil) (fun _ _ _ _ _ => (pe_tup (pa_cons (pv 1) (pa_cons (pe_dget (hu_of hr) (pv 0) (pv 1) (fun _ _ => rfl)) pa_nil))))) pa_nil)))), ?_⟩
    obtain ⟨B, d, kvs, rfl, bh, hd, hl, k⟩ := h
    have len : (srt (keysI kvs)).length = kvs.length := by rw [(srt_perm _).length_eq]; unfold keysI; rw [List.length_map]
    refine s_retC (k_cb (k_cons (k_lcNL (B := B) (xs := (srt (keysI kvs)).map V.int) (fun R kr => ?_) (fun i y B' => ∃ q, (told kvs)[i]? = some q ∧ PairT B' y q) (fun i y _ _ e ⟨q, h1, h2⟩ => ⟨q, h1, h2.mo e⟩) (by rw [List.length_map, len]; omega) (fun x => rfl) (fun i x B' H' Q' hx e1 kq => ?_) fun Dl ys B' H' e1 nD nB hD hl2 hr => ?_)))
    · refine ⟨_, rfl, d, kI kvs, keysI kvs, rfl, .inl hd, kI_keys kvs, by unfold keysI; rw [List.length_map]; exact hl, fun ys p hp hu np => ?_⟩
      obtain rfl := srt_is hp hu
      exact kr p _ _ ((Ext.refl bh).put np) np upd_same
    · obtain ⟨q, hq, rfl⟩ := get_int hx
      have hm : q ∈ keysI kvs := (srt_perm _).subset (List.mem_of_getElem? hq)
      refine k_tup (pa_c pu_var (pa_c (pu_dget pu_var pu_var (.inl (e1.ex _ _ hd)) ((hasI_iff _ _).mpr hm)) pa_n)) e1.bh (by simp) fun t B2 H2 e2 nt ht => ?_
      refine kq _ _ _ e2 ⟨(q, co kvs q), ?_, t, rfl, ht⟩
      unfold told
      rw [List.getElem?_map, hq]
      rfl
    · refine ⟨Dl, ys, rfl, .inl (.inl hD), fun l o nl od => ?_⟩
      have E2 : Ext M0 B H (upd B' l (.frz o (.tup ys))) (upd H' l (.frz o (.tup ys))) := e1.put nl
      refine k _ _ _ E2 ⟨l, ys, o, rfl, upd_same, od, ?_, fun i y hy => ?_⟩
      · rw [hl2, List.length_map]
        unfold told
        rw [List.length_map]
      · obtain ⟨q, h1, h2⟩ := hr i y hy
        exact ⟨q, h1, h2.mo (Ex.new (fresh_back e1.bh nl))⟩
/-- each place straight down -/
def plainN (n : Nat) : List Int := ((List.range n).map fun i : Nat => (n : Int) + (i : Int)) ++ (List.range n).map fun i : Nat => (i : Int)
def sp_plain_nest (K : PySem.W.Frag) : Sp := fun vs H Q E =>
  ∃ (B : Hp) (n : Nat), vs = [.int (n : Int)] ∧ Ex B H ∧ n ≤ 6 ∧ ∀ p B1 H1, Ext M0 B H B1 H1 → B1 p = some (.tup ((plainN n).map V.int)) → Q (.ref p) H1
abbrev N_plain_nest : List Str := ["strands", "place"]
theorem sc_plain_nest : FnScope N_plain_nest ["strands"] (defScope s_plain_nest) := ⟨rfl, rfl, rfl, by decide +kernel, rfl, by decide +kernel, by decide +kernel⟩
theorem ok_plain_nest {P : Program} {w : World} {K : PySem.W.Frag} {mg : Str → Option Value} {base : Heap} {f : Addr} {fd : FuncData} (F : FnP K "plain_nest" s_plain_nest f fd) (Z : Bl mg)  : FnOk P w K mg base CX0 1 f fd ["strands"] (sp_plain_nest K) := by
  refine F.ok sc_plain_nest (fun vs H Q E h => ?_) (fun cdv A outer s H vs Q E hr h => ?_)
  · obtain ⟨_, _, rfl, _⟩ := h
    rfl
  · refine ⟨_, PSs.nox (pss_one (ps_ret (pe_callTy call_tuple_of (by rfl) Z.f_tuple (by decide +kernel) (pa_cons (pe_op op_cat (pe_lc (own := [("place", 1)]) rfl sc_plain_nest.nd (pi_range1 rfl Z.f_range (pa_cons (pv 0) pa_nil)) (blkOk_by (own := [("place", 1)]) (N := N_plain_nest) (sc := defScope s_plain_nest) (by decide +kernel)) (fun _ _ _ _ _ => (pg_name (i := 1) sc_plain_nest.nd rfl (Or.inl rfl))) (fun _ _ _ _ _ => pts_nil) (fun _ _ _ _ _ => (pe_op op_add (pv 0) (pv 1)))) (pe_listRg rfl (by rfl) Z.f_list (prg_1 (by rfl) Z.f_range (pv 0)))) pa_nil)))), ?_⟩
    obtain ⟨B, n, rfl, bh, hn, k⟩ := h
    refine s_retC (k_cb (k_cons (k_op (k_lcR (pa_c pu_var pa_n) rfl bh (fun i y _ => y = .int ((n : Int) + (i : Int))) (fun _ _ _ _ _ h => h) (by omega) (fun x => rfl) (fun i B' H' Q' hi e1 kq => ?_) fun Dl ys B' H' e1 nD nB hD hl hr => ?_))))
    · exact pu_I0 pu_var pu_var _ (kq _ _ _ (Ext.refl e1.bh) rfl)
    · have hy := list_of hl hr
      subst hy
      refine ⟨_, rfl, _, rfl, ⟨by decide, by decide, by omega, by omega⟩, fun q nq => ?_⟩
      refine ⟨Dl, q, _, _, rfl, rfl, by rw [upd_ne (ne_of_none hD nq)]; exact hD, upd_same, ?_, fun r nr => ?_⟩
      · rw [List.length_map, List.length_range, rgV_length]
        exact sz_of (by omega)
      · refine ⟨r, _, rfl, .inl ⟨.inl (.inl upd_same), fun l nl => ?_⟩⟩
        have e : (List.range n).map (fun i : Nat => V.int ((n : Int) + (i : Int))) ++ rgV 0 (n : Int) = (plainN n).map V.int := by
          unfold plainN rgV
          rw [List.map_append, List.map_map, List.map_map]
          simp
          rfl
        rw [e] at nl ⊢
        have E1 : Ext M0 B H B' (upd H' q (.lst (rgV 0 (n : Int)))) := e1.own (.inr (e1.back nq)) (e1.backB nq)
        have E2 := E1.own (o := .lst ((List.range n).map (fun i : Nat => V.int ((n : Int) + (i : Int))) ++ rgV 0 (n : Int))) (.inr (E1.back nr)) (E1.backB nr)
        rw [e] at E2
        exact k l _ _ (E2.put nl) upd_same
def NestR (n : Nat) (nest : List Int) : Prop := nest.length = 2 * n ∧ ∀ x ∈ nest, 0 ≤ x ∧ x < 2 * (n : Int)
/-- a hook beneath at the places k and k + 1 -/
def hookN (n k : Nat) (nest : List Int) : List Int × Bool :=
  if nest.getD (n + k) 0 = ((n + k + 1 : Nat) : Int) then (nest, true)
  else ((((nest.set (nest.getD (n + k) 0).toNat (nest.getD (n + k + 1) 0)).set (nest.getD (n + k + 1) 0).toNat (nest.getD (n + k) 0)).set (n + k) ((n + k + 1 : Nat) : Int)).set (n + k + 1) ((n + k : Nat) : Int), false)
theorem NestR.at {n m : Nat} {nest : List Int} (h : NestR n nest) (hm : m < 2 * n) : 0 ≤ nest.getD m 0 ∧ nest.getD m 0 < 2 * (n : Int) := by
  have hl : m < nest.length := by rw [h.1]; exact hm
  rw [List.getD_eq_getElem?_getD, List.getElem?_eq_getElem hl]
  exact h.2 _ (List.getElem_mem hl)
def sp_hooked (K : PySem.W.Frag) : Sp := fun vs H Q E =>
  ∃ (B : Hp) (a : Addr) (nest : List Int) (n k : Nat) (st at_ : Int), vs = [.ref a, .int st, .int at_] ∧ st = n ∧ at_ = k ∧ Ex B H ∧ B a = some (.tup (nest.map V.int)) ∧ NestR n nest ∧ k + 1 < n ∧ n ≤ 6 ∧
    ∀ p q B1 H1, Ext M0 B H B1 H1 → B1 p = some (.tup [.ref q, .bl (hookN n k nest).2]) → B1 q = some (.tup ((hookN n k nest).1.map V.int)) → Q (.ref p) H1
abbrev N_hooked : List Str := ["nest", "strands", "at", "one", "other", "found"]
theorem sc_hooked : FnScope N_hooked ["nest", "strands", "at"] (defScope s_hooked) := ⟨rfl, rfl, rfl, by decide +kernel, rfl, by decide +kernel, by decide +kernel⟩
theorem ok_hooked {P : Program} {w : World} {K : PySem.W.Frag} {mg : Str → Option Value} {base : Heap} {f : Addr} {fd : FuncData} (F : FnP K "hooked" s_hooked f fd) (Z : Bl mg)  : FnOk P w K mg base CX0 1 f fd ["nest", "strands", "at"] (sp_hooked K) := by
  refine F.ok sc_hooked (fun vs H Q E h => ?_) (fun cdv A outer s H vs Q E hr h => ?_)
  · obtain ⟨_, _, _, _, _, _, _, rfl, _⟩ := h
    rfl
  · refine ⟨_, PSs.nox (pss_cons (ps_set (i := 3) sc_hooked.nd rfl (Or.inl rfl) (pe_op op_add (pv 1) (pv 2)))
      (pss_cons (ps_set (i := 4) sc_hooked.nd rfl (Or.inl rfl) (pe_op op_add (pv 3) pe_int))
      (pss_cons (ps_if (pt_cmpR op_eq (pe_ix ix_tup (pv 0) (pv 3) (fun _ _ => rfl)) (pv 4) (nomark _)) (pss_one (ps_ret (pe_tup (pa_cons (pv 0) (pa_cons pe_bl pa_nil))))) pss_nil)
      (pss_cons (ps_set (i := 5) sc_hooked.nd rfl (Or.inl rfl) (pe_callTy call_list_of (by rfl) Z.f_list (by decide +kernel) (pa_cons (pv 0) pa_nil)))
      (pss_cons (ps_asg (pe_ix ix_tup (pv 0) (pv 4) (fun _ _ => rfl)) (pg_sub (pv 5) (pe_ix ix_tup (pv 0) (pv 3) (fun _ _ => rfl)) set_list))
      (pss_cons (ps_asg (pe_ix ix_tup (pv 0) (pv 3) (fun _ _ => rfl)) (pg_sub (pv 5) (pe_ix ix_tup (pv 0) (pv 4) (fun _ _ => rfl)) set_list))
      (pss_cons (ps_asg (pv 4) (pg_sub (pv 5) (pv 3) set_list))
      (pss_cons (ps_asg (pv 3) (pg_sub (pv 5) (pv 4) set_list))
      (pss_one (ps_ret (pe_tup (pa_cons (pe_callTy call_tuple_of (by rfl) Z.f_tuple (by decide +kernel) (pa_cons (pv 5) pa_nil)) (pa_cons pe_bl pa_nil))))))))))))), ?_⟩
    obtain ⟨B, a, nest, n, k, st, at_, rfl, rfl, rfl, bh, ha, hN, hk, hn, kk⟩ := h
    have hl : nest.length = 2 * n := hN.1
    obtain ⟨x0, x1⟩ := hN.at (m := n + k) (by omega)
    obtain ⟨y0, y1⟩ := hN.at (m := n + k + 1) (by omega)
    have hA : H a = some (.tup (nest.map V.int)) := bh _ _ ha
    have atx : atI (nest.map V.int) ((n : Int) + (k : Int)) = some (.int (nest.getD (n + k) 0)) := atN (by omega) (by omega)
    have aty : atI (nest.map V.int) ((n : Int) + (k : Int) + 1) = some (.int (nest.getD (n + k + 1) 0)) := atN (by omega) (by omega)
    refine q_asgP (pu_I0 pu_var pu_var) rfl (q_asgP (pu_I0 pu_var pu_c) rfl ?_)
    refine q_ifP (pt_test (pu_eqI (pu_ixT pu_var pu_var (.inl (.inl hA)) atx) pu_var)) (fun hc => ?_) (fun hc => ?_)
    · have hc' : nest.getD (n + k) 0 = ((n + k + 1 : Nat) : Int) := by have := of_decide_eq_true hc; omega
      have e : hookN n k nest = (nest, true) := by unfold hookN; rw [if_pos hc']
      refine s_retC (k_tup (pa_c pu_var (pa_c pu_c pa_n)) bh (by simp) fun p B1 H1 e1 np hp => ?_)
      exact kk p a B1 H1 e1 (by rw [e]; exact hp) (by rw [e]; exact e1.bb _ _ ha)
    · have hc' : ¬ nest.getD (n + k) 0 = ((n + k + 1 : Nat) : Int) := by have := of_decide_eq_false hc; omega
      refine q_asgC (k_list pu_var (.inr (.inl (.inl hA))) fun l nl => ?_)
      have al : a ≠ l := ne_of_none hA nl
      have hA' : ∀ o, upd H l o a = some (.tup (nest.map V.int)) := fun o => by rw [upd_ne al]; exact hA
      show tSeq _ _ _ [some (.ref a), some (.int n), some (.int k), some (.int ((n : Int) + k)), some (.int ((n : Int) + k + 1)), some (.ref l)] _
      refine q_setP (pu_ixT pu_var pu_var (.inl (.inl (hA' _))) aty) pu_var (pu_ixT pu_var pu_var (.inl (.inl (hA' _))) atx) upd_same (m := (nest.getD (n + k) 0).toNat) (by omega) (by rw [List.length_map]; omega) ?_
      rw [upd_upd, set_int]
      refine q_setP (pu_ixT pu_var pu_var (.inl (.inl (hA' _))) atx) pu_var (pu_ixT pu_var pu_var (.inl (.inl (hA' _))) aty) upd_same (m := (nest.getD (n + k + 1) 0).toNat) (by omega) (by rw [List.length_map, List.length_set]; omega) ?_
      rw [upd_upd, set_int]
      refine q_setP pu_var pu_var pu_var upd_same (m := n + k) (by omega) (by simp only [List.length_map, List.length_set]; omega) ?_
      rw [upd_upd, set_int]
      refine q_setP pu_var pu_var pu_var upd_same (m := n + k + 1) (by omega) (by simp only [List.length_map, List.length_set]; omega) ?_
      rw [upd_upd, set_int]
      have e : hookN n k nest = ((((nest.set (nest.getD (n + k) 0).toNat (nest.getD (n + k + 1) 0)).set (nest.getD (n + k + 1) 0).toNat (nest.getD (n + k) 0)).set (n + k) ((n : Int) + k + 1)).set (n + k + 1) ((n : Int) + k), false) := by
        unfold hookN
        rw [if_neg hc', show ((n + k + 1 : Nat) : Int) = (n : Int) + k + 1 from by omega, show ((n + k : Nat) : Int) = (n : Int) + k from by omega]
      have E1 : ∀ o, Ext M0 B H B (upd H l o) := fun o => (Ext.refl bh).own (.inr nl) (fresh_back bh nl)
      refine s_retC (k_tupC (k_cons (k_tupL pu_var (.inl (.inl upd_same)) fun t nt => ⟨by simp; decide, fun p np => ?_⟩)))
      refine kk p t _ _ ((((E1 _).put nt).put np)) (by rw [e]; exact upd_same) ?_
      rw [e, upd_ne (show t ≠ p from fun q => by rw [q, upd_same] at np; cases np), upd_same]
def innO (n : Nat) (nest : List Int) : Nat → List Int → Int → Option (List Int)
  | 0, _, _ => none
  | f + 1, left, here =>
    if here ∈ left then
      if nest.getD here.toNat 0 ∈ left.filter (fun j => decide (j ≠ here)) ∧ 0 ≤ here ∧ here < 2 * (n : Int) then
        innO n nest f ((left.filter (fun j => decide (j ≠ here))).filter fun j => decide (j ≠ nest.getD here.toNat 0)) ((nest.getD here.toNat 0 + n) % (2 * n))
      else none
    else some left
def minI : List Int → Int
  | [] => 0
  | a :: r => r.foldl (fun m x => if x < m then x else m) a
def outO (n : Nat) (nest : List Int) : Nat → List Int → Int → Option Int
  | 0, _, _ => none
  | f + 1, left, cnt =>
    if left = [] then some cnt
    else match innO n nest (2 * n + 1) left (minI left) with
      | none => none
      | some l => outO n nest f l (cnt + 1)
def allPts (n : Nat) : List Int := (List.range (2 * n)).map fun i : Nat => (i : Int)
def loopsO (n : Nat) (nest : List Int) : Option Int := outO n nest (2 * n + 1) (allPts n) 0
theorem foldl_min : ∀ (r : List Int) (a : Int), (r.foldl (fun m x => if x < m then x else m) a = a ∨ r.foldl (fun m x => if x < m then x else m) a ∈ r) ∧ (r.foldl (fun m x => if x < m then x else m) a ≤ a) ∧ ∀ x ∈ r, r.foldl (fun m x => if x < m then x else m) a ≤ x
  | [], a => ⟨.inl rfl, Int.le_refl _, fun x h => by cases h⟩
  | b :: r, a => by
    rw [List.foldl_cons]
    obtain ⟨h1, h2, h3⟩ := foldl_min r (if b < a then b else a)
    refine ⟨?_, ?_, fun x hx => ?_⟩
    · rcases h1 with h | h
      · rw [h]
        split
        · exact .inr List.mem_cons_self
        · exact .inl rfl
      · exact .inr (List.mem_cons_of_mem _ h)
    · have : (if b < a then b else a) ≤ a := by split <;> omega
      omega
    · rcases List.mem_cons.mp hx with e | hx
      · subst e
        have : (if x < a then x else a) ≤ x := by split <;> omega
        omega
      · exact h3 x hx
theorem minI_is {l : List Int} {m : Int} (hm : m ∈ l) (h : ∀ j ∈ l, m ≤ j) : m = minI l := by
  cases l with
  | nil => cases hm
  | cons a r =>
    obtain ⟨h1, h2, h3⟩ := foldl_min r a
    show m = r.foldl (fun m x => if x < m then x else m) a
    have l1 : m ≤ r.foldl (fun m x => if x < m then x else m) a := by
      rcases h1 with e | e
      · rw [e]; exact h a List.mem_cons_self
      · exact h _ (List.mem_cons_of_mem _ e)
    rcases List.mem_cons.mp hm with e | e
    · rw [e] at l1 ⊢; omega
    · have := h3 m e; omega
def sp_loops_in (K : PySem.W.Frag) : Sp := fun vs H Q E =>
  ∃ (a : Addr) (nest : List Int) (n : Nat) (c st : Int), vs = [.ref a, .int st] ∧ st = n ∧ H a = some (.tup (nest.map V.int)) ∧ NestR n nest ∧ 1 ≤ n ∧ n ≤ 6 ∧ loopsO n nest = some c ∧ ∀ H1, Ex H H1 → Q (.int c) H1
abbrev N_loops_in : List Str := ["nest", "strands", "left", "point", "found", "here", "there"]
theorem sc_loops_in : FnScope N_loops_in ["nest", "strands"] (defScope s_loops_in) := ⟨rfl, rfl, rfl, by decide +kernel, rfl, by decide +kernel, by decide +kernel⟩
theorem ok_loops_in {P : Program} {w : World} {K : PySem.W.Frag} {mg : Str → Option Value} {base : Heap} {f : Addr} {fd : FuncData} (F : FnP K "loops_in" s_loops_in f fd) (Z : Bl mg)  : FnOk P w K mg base CX0 1 f fd ["nest", "strands"] (sp_loops_in K) := by
  refine F.ok sc_loops_in (fun vs H Q E h => ?_) (fun cdv A outer s H vs Q E hr h => ?_)
  · obtain ⟨_, _, _, _, _, rfl, _⟩ := h
    rfl
  · refine ⟨_, PSs.nox (pss_cons (ps_set (i := 2) sc_loops_in.nd rfl (Or.inl rfl) (pe_callTy (call_dictP rfl) (by rfl) Z.f_dict (by decide +kernel) (pa_cons (pe_lc (own := [("point", 3)]) rfl sc_loops_in.nd (pi_range1 rfl Z.f_range (pa_cons (pe_op op_mul pe_int (pv 1)) pa_nil)) (blkOk_by (own := [("point", 3)]) (N := N_loops_in) (sc := defScope s_loops_in) (by decide +kernel)) (fun _ _ _ _ _ => (pg_name (i := 3) sc_loops_in.nd rfl (Or.inl rfl))) (fun _ _ _ _ _ => pts_nil) (fun _ _ _ _ _ => (pe_tup (pa_cons (pv 3) (pa_cons pe_bl pa_nil))))) pa_nil)))
      (pss_cons (ps_set (i := 4) sc_loops_in.nd rfl (Or.inl rfl) pe_int)
      (pss_cons (ps_while PassesOwn.never (pt_cmpR (op_ne_dK (hu_of hr)) (pv 2) pe_dnewK (nomark _))
      (pss_cons (ps_set (i := 5) sc_loops_in.nd rfl (Or.inl rfl) (pe_callB (cr_minK rfl) (by rfl) Z.f_min (by decide +kernel) (pa_cons (pv 2) pa_nil)))
      (pss_cons (ps_set (i := 4) sc_loops_in.nd rfl (Or.inl rfl) (pe_op op_add (pv 4) pe_int))
      (pss_one (ps_while PassesOwn.never (pt_cmp (pc_din (hu_of hr) (pv 5) (pv 2)) (by rfl))
      (pss_cons (ps_expr (pe_dpop1 (pv 2) (pv 5) ⟨by rfl, by rfl, by rfl, by rfl⟩))
      (pss_cons (ps_set (i := 6) sc_loops_in.nd rfl (Or.inl rfl) (pe_ix ix_tup (pv 0) (pv 5) (fun _ _ => rfl)))
      (pss_cons (ps_expr (pe_dpop1 (pv 2) (pv 6) ⟨by rfl, by rfl, by rfl, by rfl⟩))
      (pss_one (ps_set (i := 5) sc_loops_in.nd rfl (Or.inl rfl) (pe_op op_mod (pe_op op_add (pv 6) (pv 1)) (pe_op op_mul pe_int (pv 1)))))))))))))
      (pss_one (ps_ret (pv 4)))))), ?_⟩
    obtain ⟨a, nest, n, c, st, rfl, rfl, ha, hN, hn1, hn, hc, kk⟩ := h
    refine q_asgC (k_cb (k_cons (k_lcR (B := H) (m := 2 * n) (pa_c (pu_I pu_c pu_var (.inr (by omega))) pa_n) (by omega) (Ex.refl H) (fun i y B' => ∃ t, y = .ref t ∧ B' t = some (.tup [.int (i : Int), .bl true])) (fun i y _ _ e ⟨t, h1, h2⟩ => ⟨t, h1, e _ _ h2⟩) (by omega) (fun x => rfl) (fun i B' H' Q' hi e1 kq => ?_) fun Dl ys B' H' e1 nD nB hD hl hr => ?_)))
    · refine k_tup (pa_c pu_var (pa_c pu_c pa_n)) e1.bh (by simp) fun t B2 H2 e2 nt ht => ?_
      exact kq _ _ _ e2 ⟨t, rfl, ht⟩
    have hys : ys = (ys.map refA).map V.ref := refs_of fun y hy => by
      obtain ⟨i, hi, e⟩ := List.mem_iff_getElem.mp hy
      obtain ⟨t, h1, _⟩ := hr i y (by rw [← e]; exact List.getElem?_eq_getElem hi)
      exact ⟨t, h1⟩
    refine ⟨Dl, ys.map refA, kB (allPts n), rfl, .inl (.inl (by rw [← hys]; exact hD)), paired_of ?_ ?_, fun d nd => ?_⟩
    · rw [List.length_map, hl]; unfold kB allPts; rw [List.length_map, List.length_map, List.length_range]
    · intro i p kv hp hkv
      rw [List.getElem?_map] at hp
      cases e : ys[i]? with
      | none => rw [e] at hp; cases hp
      | some y =>
        obtain ⟨t, rfl, ht⟩ := hr i y e
        rw [e] at hp
        have hp' : t = p := Option.some.inj hp
        subst hp'
        unfold kB allPts at hkv
        rw [List.getElem?_map, List.getElem?_map] at hkv
        have hi : i < 2 * n := by rw [← hl]; exact (List.getElem?_eq_some_iff.mp e).1
        rw [List.getElem?_range hi] at hkv
        have hkv' := Option.some.inj hkv
        subst hkv'
        exact .inl (.inl (e1.bh _ _ ht))
    have em : mergeK [] (kB (allPts n)) = kB (allPts n) := merge_kB (allPts n) [] (by
      unfold allPts
      rw [List.nil_append]
      exact (List.pairwise_map.mpr (List.nodup_range.imp fun h e => h (by omega))))
    rw [em]
    refine q_asgP pu_c rfl ?_
    refine ⟨fun m σ' H' => ∃ d left cnt z5 z6, σ' = [some (.ref a), some (.int n), some (.ref d), none, some (.int cnt), z5, z6] ∧ Ex H H' ∧ H d = none ∧ H' d = some (.dK (kB left)) ∧ outO n nest m left cnt = some c,
      ⟨2 * n + 1, d, allPts n, 0, none, none, rfl, e1.ex.trans (Ex.new nd), e1.back nd, upd_same, hc⟩, ?_⟩
    rintro m σ' H' ⟨d, left, cnt, z5, z6, rfl, ex, nd, hd, ho⟩
    refine ⟨_, rfl, fun p np => ?_⟩
    have dp : d ≠ p := ne_of_none hd np
    refine ⟨d, p, _, rfl, rfl, by rw [upd_ne dp]; exact hd, upd_same, _, rfl, ?_⟩
    cases m with
    | zero => cases ho
    | succ m =>
      unfold outO at ho
      by_cases hl0 : left = []
      · rw [if_pos hl0] at ho
        subst hl0
        have hcc : cnt = c := Option.some.inj ho
        subst hcc
        exact iteF (s_retP pu_var (kk _ (ex.trans (Ex.new np))))
      · rw [if_neg hl0] at ho
        have hne : (kB left).isEmpty = false := by
          cases left with
          | nil => exact absurd rfl hl0
          | cons x r => rfl
        rw [hne]
        refine iteT ⟨_, fun σ2 H2 (h : ∃ m', m' < m + 1 ∧ ∃ d left cnt z5 z6, σ2 = [some (.ref a), some (.int n), some (.ref d), none, some (.int cnt), z5, z6] ∧ Ex H H2 ∧ H d = none ∧ H2 d = some (.dK (kB left)) ∧ outO n nest m' left cnt = some c) => h, ?_⟩
        have hd' : upd H' p (.dK []) d = some (.dK (kB left)) := by rw [upd_ne dp]; exact hd
        refine q_asgC ⟨_, rfl, d, kB left, left, rfl, hd', by unfold kB; rw [List.map_map, ← List.map_map]; simp, hl0, fun mm hmm hmin => ?_⟩
        obtain rfl := minI_is hmm hmin
        refine q_asgP (pu_I0 pu_var pu_c) rfl ?_
        cases ei : innO n nest (2 * n + 1) left (minI left) with
        | none => rw [ei] at ho; cases ho
        | some l =>
          rw [ei] at ho
          refine ⟨fun m2 σ2 H2 => ∃ left' here z6, σ2 = [some (.ref a), some (.int n), some (.ref d), none, some (.int (cnt + 1)), some (.int here), z6] ∧ Ex H H2 ∧ H2 d = some (.dK (kB left')) ∧ innO n nest m2 left' here = some l,
            ⟨2 * n + 1, left, minI left, z6, rfl, ex.trans (Ex.new np), hd', ei⟩, ?_⟩
          rintro m2 σ2 H2 ⟨left', here, z6, rfl, ex2, hd2, hi⟩
          refine pt_inB pu_var pu_var hd2 _ ?_
          cases m2 with
          | zero => cases hi
          | succ m2 =>
            unfold innO at hi
            by_cases hm : here ∈ left'
            · rw [if_pos hm] at hi
              rw [decide_eq_true hm]
              by_cases ht : nest.getD here.toNat 0 ∈ left'.filter (fun j => decide (j ≠ here)) ∧ 0 ≤ here ∧ here < 2 * (n : Int)
              · rw [if_pos ht] at hi
                obtain ⟨ht, h0, h1⟩ := ht
                have hA : H2 a = some (.tup (nest.map V.int)) := ex2 _ _ ha
                have da : a ≠ d := ne_of_none ha nd
                refine iteT ⟨_, fun σ2 H2 (h : ∃ m', m' < m2 + 1 ∧ ∃ left' here z6, σ2 = [some (.ref a), some (.int n), some (.ref d), none, some (.int (cnt + 1)), some (.int here), z6] ∧ Ex H H2 ∧ H2 d = some (.dK (kB left')) ∧ innO n nest m' left' here = some l) => h, ?_⟩
                refine q_dropB pu_var pu_var hd2 hm ?_
                refine q_asgP (pu_ixT pu_var pu_var (.inl (.inl (by rw [upd_ne da]; exact hA))) (atN (m := here.toNat) (by omega) (by rw [hN.1]; omega))) rfl ?_
                refine q_dropB pu_var pu_var upd_same ht ?_
                rw [upd_upd]
                refine s_asgP (pu_I (pu_I0 pu_var pu_var) (pu_I pu_c pu_var (.inr (by omega))) (by omega)) rfl ?_
                exact ⟨m2, by omega, _, _, _, rfl, Ex.mut ex2 nd, upd_same, hi⟩
              · rw [if_neg ht] at hi; cases hi
            · rw [if_neg hm] at hi
              rw [decide_eq_false hm]
              have hl' : left' = l := Option.some.inj hi
              subst hl'
              exact iteF ⟨m, by omega, d, left', cnt + 1, _, _, rfl, ex2, nd, hd2, ho⟩
/-- the place of a letter, counted from 0 -/
def ix (l : Int) : Nat := ((if l < 0 then -l else l) - 1).toNat
def Letters (n : Nat) (word : List Int) : Prop := ∀ l ∈ word, l ≠ 0 ∧ -(n : Int) < l ∧ l < n
theorem ix_eq {n : Nat} {l : Int} (h : l ≠ 0 ∧ -(n : Int) < l ∧ l < n) : (if l < 0 then -l else l) - 1 = (ix l : Int) ∧ ix l + 1 < n := by
  unfold ix
  obtain ⟨h1, h2, h3⟩ := h
  split <;> omega
theorem hook_R {n k : Nat} {nest : List Int} (h : NestR n nest) (hk : k + 1 < n) : NestR n (hookN n k nest).1 := by
  unfold hookN
  split
  · exact h
  · obtain ⟨x0, x1⟩ := h.at (m := n + k) (by omega)
    obtain ⟨y0, y1⟩ := h.at (m := n + k + 1) (by omega)
    refine ⟨?_, fun x hx => ?_⟩
    · simp only [List.length_set]
      exact h.1
    · rcases List.mem_or_eq_of_mem_set hx with hx | e
      · rcases List.mem_or_eq_of_mem_set hx with hx | e
        · rcases List.mem_or_eq_of_mem_set hx with hx | e
          · rcases List.mem_or_eq_of_mem_set hx with hx | e
            · exact h.2 x hx
            · rw [e]; exact ⟨y0, y1⟩
          · rw [e]; exact ⟨x0, x1⟩
        · rw [e]; omega
      · rw [e]; omega
theorem plain_R (n : Nat) : NestR n (plainN n) := by
  unfold plainN
  refine ⟨by simp; omega, fun x hx => ?_⟩
  simp at hx
  rcases hx with ⟨i, h1, h2⟩ | ⟨i, h1, h2⟩ <;> omega
/-- a state's nest and the loops shut on the way -/
def stN (n num : Nat) : Nat → List Int → List Int × Int → List Int × Int
  | _, [], acc => acc
  | i, l :: r, acc => stN n num (i + 1) r (if num / 2 ^ i % 2 = 1 then ((hookN n (ix l) acc.1).1, acc.2 + (if (hookN n (ix l) acc.1).2 then 1 else 0)) else acc)
theorem stN_cons (n num i : Nat) (l : Int) (r : List Int) (acc : List Int × Int) : stN n num i (l :: r) acc = stN n num (i + 1) r (if num / 2 ^ i % 2 = 1 then ((hookN n (ix l) acc.1).1, acc.2 + (if (hookN n (ix l) acc.1).2 then 1 else 0)) else acc) := rfl
theorem stN_nil (n num i : Nat) (acc : List Int × Int) : stN n num i [] acc = acc := rfl
theorem bit_eq (num i : Nat) : ((num : Int) / 2 ^ ((i : Int)).toNat) % 2 = ((num / 2 ^ i % 2 : Nat) : Int) := by
  rw [Int.toNat_natCast, Int.natCast_emod, Int.natCast_ediv, Int.natCast_pow]
  rfl
/-- a state's power -/
def powN (num : Nat) : Nat → List Int → Int → Int
  | _, [], acc => acc
  | i, l :: r, acc => powN num (i + 1) r (acc + (if decide (num / 2 ^ i % 2 = 0) == decide (0 < l) then 1 else -1))
theorem powN_cons (num i : Nat) (l acc : Int) (r : List Int) : powN num i (l :: r) acc = powN num (i + 1) r (acc + (if decide (num / 2 ^ i % 2 = 0) == decide (0 < l) then 1 else -1)) := rfl
theorem powN_nil (num i : Nat) (acc : Int) : powN num i [] acc = acc := rfl
def Nst : Nat → List (List Int)
  | 1 => [[1, 0]]
  | 2 => [[2, 3, 0, 1], [1, 0, 3, 2]]
  | 3 => [[3, 4, 5, 0, 1, 2], [1, 0, 5, 4, 3, 2], [3, 2, 1, 0, 5, 4], [1, 0, 3, 2, 5, 4], [5, 2, 1, 4, 3, 0]]
  | 4 => [[4, 5, 6, 7, 0, 1, 2, 3], [1, 0, 6, 7, 5, 4, 2, 3], [4, 2, 1, 7, 0, 6, 5, 3], [4, 5, 3, 2, 0, 1, 7, 6], [1, 0, 4, 7, 2, 6, 5, 3], [1, 0, 3, 2, 5, 4, 7, 6], [6, 2, 1, 7, 5, 4, 0, 3], [4, 2, 1, 5, 0, 3, 7, 6], [4, 7, 3, 2, 0, 6, 5, 1], [1, 0, 4, 5, 2, 3, 7, 6], [1, 0, 3, 2, 7, 6, 5, 4], [3, 2, 1, 0, 5, 4, 7, 6], [6, 7, 3, 2, 5, 4, 0, 1], [3, 2, 1, 0, 7, 6, 5, 4]]
  | 5 => [[5, 6, 7, 8, 9, 0, 1, 2, 3, 4], [1, 0, 7, 8, 9, 6, 5, 2, 3, 4], [5, 2, 1, 8, 9, 0, 7, 6, 3, 4], [5, 6, 3, 2, 9, 0, 1, 8, 7, 4], [5, 6, 7, 4, 3, 0, 1, 2, 9, 8], [1, 0, 5, 8, 9, 2, 7, 6, 3, 4], [1, 0, 3, 2, 9, 6, 5, 8, 7, 4], [1, 0, 7, 4, 3, 6, 5, 2, 9, 8], [7, 2, 1, 8, 9, 6, 5, 0, 3, 4], [5, 2, 1, 6, 9, 0, 3, 8, 7, 4], [5, 2, 1, 4, 3, 0, 7, 6, 9, 8], [5, 8, 3, 2, 9, 0, 7, 6, 1, 4], [5, 6, 3, 2, 7, 0, 1, 4, 9, 8], [5, 6, 9, 4, 3, 0, 1, 8, 7, 2], [1, 0, 5, 6, 9, 2, 3, 8, 7, 4], [1, 0, 5, 4, 3, 2, 7, 6, 9, 8], [1, 0, 3, 2, 9, 8, 7, 6, 5, 4], [1, 0, 3, 2, 7, 6, 5, 4, 9, 8], [1, 0, 9, 4, 3, 6, 5, 8, 7, 2], [3, 2, 1, 0, 9, 6, 5, 8, 7, 4], [7, 2, 1, 4, 3, 6, 5, 0, 9, 8], [5, 2, 1, 6, 7, 0, 3, 4, 9, 8], [5, 2, 1, 4, 3, 0, 9, 8, 7, 6], [7, 8, 3, 2, 9, 6, 5, 0, 1, 4], [5, 4, 3, 2, 1, 0, 7, 6, 9, 8], [5, 8, 9, 4, 3, 0, 7, 6, 1, 2], [1, 0, 5, 6, 7, 2, 3, 4, 9, 8], [1, 0, 5, 4, 3, 2, 9, 8, 7, 6], [1, 0, 3, 2, 5, 4, 7, 6, 9, 8], [1, 0, 9, 4, 3, 8, 7, 6, 5, 2], [3, 2, 1, 0, 9, 8, 7, 6, 5, 4], [3, 2, 1, 0, 7, 6, 5, 4, 9, 8], [9, 2, 1, 4, 3, 6, 5, 8, 7, 0], [7, 4, 3, 2, 1, 6, 5, 0, 9, 8], [5, 4, 3, 2, 1, 0, 9, 8, 7, 6], [7, 8, 9, 4, 3, 6, 5, 0, 1, 2], [1, 0, 3, 2, 5, 4, 9, 8, 7, 6], [3, 2, 1, 0, 5, 4, 7, 6, 9, 8], [9, 2, 1, 4, 3, 8, 7, 6, 5, 0], [9, 4, 3, 2, 1, 6, 5, 8, 7, 0], [3, 2, 1, 0, 5, 4, 9, 8, 7, 6], [9, 4, 3, 2, 1, 8, 7, 6, 5, 0]]
  | 6 => [[6, 7, 8, 9, 10, 11, 0, 1, 2, 3, 4, 5], [1, 0, 8, 9, 10, 11, 7, 6, 2, 3, 4, 5], [6, 2, 1, 9, 10, 11, 0, 8, 7, 3, 4, 5], [6, 7, 3, 2, 10, 11, 0, 1, 9, 8, 4, 5], [6, 7, 8, 4, 3, 11, 0, 1, 2, 10, 9, 5], [6, 7, 8, 9, 5, 4, 0, 1, 2, 3, 11, 10], [1, 0, 6, 9, 10, 11, 2, 8, 7, 3, 4, 5], [1, 0, 3, 2, 10, 11, 7, 6, 9, 8, 4, 5], [1, 0, 8, 4, 3, 11, 7, 6, 2, 10, 9, 5], [1, 0, 8, 9, 5, 4, 7, 6, 2, 3, 11, 10], [8, 2, 1, 9, 10, 11, 7, 6, 0, 3, 4, 5], [6, 2, 1, 7, 10, 11, 0, 3, 9, 8, 4, 5], [6, 2, 1, 4, 3, 11, 0, 8, 7, 10, 9, 5], [6, 2, 1, 9, 5, 4, 0, 8, 7, 3, 11, 10], [6, 9, 3, 2, 10, 11, 0, 8, 7, 1, 4, 5], [6, 7, 3, 2, 8, 11, 0, 1, 4, 10, 9, 5], [6, 7, 3, 2, 5, 4, 0, 1, 9, 8, 11, 10], [6, 7, 10, 4, 3, 11, 0, 1, 9, 8, 2, 5], [6, 7, 8, 4, 3, 9, 0, 1, 2, 5, 11, 10], [6, 7, 8, 11, 5, 4, 0, 1, 2, 10, 9, 3], [1, 0, 6, 7, 10, 11, 2, 3, 9, 8, 4, 5], [1, 0, 6, 4, 3, 11, 2, 8, 7, 10, 9, 5], [1, 0, 6, 9, 5, 4, 2, 8, 7, 3, 11, 10], [1, 0, 3, 2, 10, 11, 9, 8, 7, 6, 4, 5], [1, 0, 3, 2, 8, 11, 7, 6, 4, 10, 9, 5], [1, 0, 3, 2, 5, 4, 7, 6, 9, 8, 11, 10], [1, 0, 10, 4, 3, 11, 7, 6, 9, 8, 2, 5], [1, 0, 8, 4, 3, 9, 7, 6, 2, 5, 11, 10], [1, 0, 8, 11, 5, 4, 7, 6, 2, 10, 9, 3], [3, 2, 1, 0, 10, 11, 7, 6, 9, 8, 4, 5], [8, 2, 1, 4, 3, 11, 7, 6, 0, 10, 9, 5], [8, 2, 1, 9, 5, 4, 7, 6, 0, 3, 11, 10], [6, 2, 1, 7, 8, 11, 0, 3, 4, 10, 9, 5], [6, 2, 1, 7, 5, 4, 0, 3, 9, 8, 11, 10], [6, 2, 1, 4, 3, 11, 0, 10, 9, 8, 7, 5], [6, 2, 1, 4, 3, 9, 0, 8, 7, 5, 11, 10], [6, 2, 1, 11, 5, 4, 0, 8, 7, 10, 9, 3], [8, 9, 3, 2, 10, 11, 7, 6, 0, 1, 4, 5], [6, 4, 3, 2, 1, 11, 0, 8, 7, 10, 9, 5], [6, 9, 3, 2, 5, 4, 0, 8, 7, 1, 11, 10], [6, 7, 3, 2, 8, 9, 0, 1, 4, 5, 11, 10], [6, 7, 3, 2, 5, 4, 0, 1, 11, 10, 9, 8], [6, 9, 10, 4, 3, 11, 0, 8, 7, 1, 2, 5], [6, 7, 5, 4, 3, 2, 0, 1, 9, 8, 11, 10], [6, 7, 10, 11, 5, 4, 0, 1, 9, 8, 2, 3], [1, 0, 6, 7, 8, 11, 2, 3, 4, 10, 9, 5], [1, 0, 6, 7, 5, 4, 2, 3, 9, 8, 11, 10], [1, 0, 6, 4, 3, 11, 2, 10, 9, 8, 7, 5], [1, 0, 6, 4, 3, 9, 2, 8, 7, 5, 11, 10], [1, 0, 6, 11, 5, 4, 2, 8, 7, 10, 9, 3], [1, 0, 3, 2, 6, 11, 4, 8, 7, 10, 9, 5], [1, 0, 3, 2, 5, 4, 9, 8, 7, 6, 11, 10], [1, 0, 3, 2, 8, 9, 7, 6, 4, 5, 11, 10], [1, 0, 3, 2, 5, 4, 7, 6, 11, 10, 9, 8], [1, 0, 10, 4, 3, 11, 9, 8, 7, 6, 2, 5], [1, 0, 5, 4, 3, 2, 7, 6, 9, 8, 11, 10], [1, 0, 10, 11, 5, 4, 7, 6, 9, 8, 2, 3], [3, 2, 1, 0, 10, 11, 9, 8, 7, 6, 4, 5], [3, 2, 1, 0, 8, 11, 7, 6, 4, 10, 9, 5], [3, 2, 1, 0, 5, 4, 7, 6, 9, 8, 11, 10], [10, 2, 1, 4, 3, 11, 7, 6, 9, 8, 0, 5], [8, 2, 1, 4, 3, 9, 7, 6, 0, 5, 11, 10], [8, 2, 1, 11, 5, 4, 7, 6, 0, 10, 9, 3], [6, 2, 1, 7, 8, 9, 0, 3, 4, 5, 11, 10], [6, 2, 1, 7, 5, 4, 0, 3, 11, 10, 9, 8], [6, 2, 1, 4, 3, 7, 0, 5, 9, 8, 11, 10], [6, 2, 1, 11, 5, 4, 0, 10, 9, 8, 7, 3], [8, 4, 3, 2, 1, 11, 7, 6, 0, 10, 9, 5], [8, 9, 3, 2, 5, 4, 7, 6, 0, 1, 11, 10], [6, 4, 3, 2, 1, 11, 0, 10, 9, 8, 7, 5], [6, 4, 3, 2, 1, 9, 0, 8, 7, 5, 11, 10], [6, 11, 3, 2, 5, 4, 0, 8, 7, 10, 9, 1], [8, 9, 10, 4, 3, 11, 7, 6, 0, 1, 2, 5], [6, 9, 5, 4, 3, 2, 0, 8, 7, 1, 11, 10], [6, 7, 5, 4, 3, 2, 0, 1, 11, 10, 9, 8], [6, 9, 10, 11, 5, 4, 0, 8, 7, 1, 2, 3], [1, 0, 6, 7, 8, 9, 2, 3, 4, 5, 11, 10], [1, 0, 6, 7, 5, 4, 2, 3, 11, 10, 9, 8], [1, 0, 6, 4, 3, 7, 2, 5, 9, 8, 11, 10], [1, 0, 6, 11, 5, 4, 2, 10, 9, 8, 7, 3], [1, 0, 3, 2, 6, 11, 4, 10, 9, 8, 7, 5], [1, 0, 3, 2, 6, 9, 4, 8, 7, 5, 11, 10], [1, 0, 3, 2, 5, 4, 11, 8, 7, 10, 9, 6], [1, 0, 5, 4, 3, 2, 9, 8, 7, 6, 11, 10], [1, 0, 5, 4, 3, 2, 7, 6, 11, 10, 9, 8], [1, 0, 10, 11, 5, 4, 9, 8, 7, 6, 2, 3], [3, 2, 1, 0, 6, 11, 4, 8, 7, 10, 9, 5], [3, 2, 1, 0, 5, 4, 9, 8, 7, 6, 11, 10], [3, 2, 1, 0, 8, 9, 7, 6, 4, 5, 11, 10], [3, 2, 1, 0, 5, 4, 7, 6, 11, 10, 9, 8], [10, 2, 1, 4, 3, 11, 9, 8, 7, 6, 0, 5], [5, 2, 1, 4, 3, 0, 7, 6, 9, 8, 11, 10], [10, 2, 1, 11, 5, 4, 7, 6, 9, 8, 0, 3], [6, 2, 1, 4, 3, 7, 0, 5, 11, 10, 9, 8], [10, 4, 3, 2, 1, 11, 7, 6, 9, 8, 0, 5], [8, 4, 3, 2, 1, 9, 7, 6, 0, 5, 11, 10], [8, 11, 3, 2, 5, 4, 7, 6, 0, 10, 9, 1], [6, 4, 3, 2, 1, 7, 0, 5, 9, 8, 11, 10], [6, 11, 3, 2, 5, 4, 0, 10, 9, 8, 7, 1], [8, 9, 5, 4, 3, 2, 7, 6, 0, 1, 11, 10], [6, 11, 5, 4, 3, 2, 0, 8, 7, 10, 9, 1], [8, 9, 10, 11, 5, 4, 7, 6, 0, 1, 2, 3], [1, 0, 6, 4, 3, 7, 2, 5, 11, 10, 9, 8], [1, 0, 3, 2, 6, 7, 4, 5, 9, 8, 11, 10], [1, 0, 3, 2, 5, 4, 11, 10, 9, 8, 7, 6], [1, 0, 5, 4, 3, 2, 11, 8, 7, 10, 9, 6], [3, 2, 1, 0, 6, 11, 4, 10, 9, 8, 7, 5], [3, 2, 1, 0, 6, 9, 4, 8, 7, 5, 11, 10], [3, 2, 1, 0, 5, 4, 11, 8, 7, 10, 9, 6], [5, 2, 1, 4, 3, 0, 9, 8, 7, 6, 11, 10], [5, 2, 1, 4, 3, 0, 7, 6, 11, 10, 9, 8], [10, 2, 1, 11, 5, 4, 9, 8, 7, 6, 0, 3], [10, 4, 3, 2, 1, 11, 9, 8, 7, 6, 0, 5], [5, 4, 3, 2, 1, 0, 7, 6, 9, 8, 11, 10], [10, 11, 3, 2, 5, 4, 7, 6, 9, 8, 0, 1], [6, 4, 3, 2, 1, 7, 0, 5, 11, 10, 9, 8], [8, 11, 5, 4, 3, 2, 7, 6, 0, 10, 9, 1], [6, 11, 5, 4, 3, 2, 0, 10, 9, 8, 7, 1], [1, 0, 3, 2, 6, 7, 4, 5, 11, 10, 9, 8], [1, 0, 5, 4, 3, 2, 11, 10, 9, 8, 7, 6], [3, 2, 1, 0, 6, 7, 4, 5, 9, 8, 11, 10], [3, 2, 1, 0, 5, 4, 11, 10, 9, 8, 7, 6], [5, 2, 1, 4, 3, 0, 11, 8, 7, 10, 9, 6], [5, 4, 3, 2, 1, 0, 9, 8, 7, 6, 11, 10], [5, 4, 3, 2, 1, 0, 7, 6, 11, 10, 9, 8], [10, 11, 3, 2, 5, 4, 9, 8, 7, 6, 0, 1], [10, 11, 5, 4, 3, 2, 7, 6, 9, 8, 0, 1], [3, 2, 1, 0, 6, 7, 4, 5, 11, 10, 9, 8], [5, 2, 1, 4, 3, 0, 11, 10, 9, 8, 7, 6], [5, 4, 3, 2, 1, 0, 11, 8, 7, 10, 9, 6], [10, 11, 5, 4, 3, 2, 9, 8, 7, 6, 0, 1], [5, 4, 3, 2, 1, 0, 11, 10, 9, 8, 7, 6]]
  | _ => []
/-- a nest: of 2 n points, its loops are counted, a hook leads to a nest -/
def nstChk (n : Nat) : Bool := decide (plainN n ∈ Nst n) && (Nst n).all fun nest => decide (nest.length = 2 * n) && (nest.all fun x => decide (0 ≤ x ∧ x < 2 * (n : Int))) &&
  (match loopsO n nest with
    | some c => decide (1 ≤ c ∧ c ≤ n)
    | none => false) && (List.range (n - 1)).all fun k => decide ((hookN n k nest).1 ∈ Nst n)
theorem nst1 : nstChk 1 = true := by decide +kernel
theorem nst2 : nstChk 2 = true := by decide +kernel
theorem nst3 : nstChk 3 = true := by decide +kernel
theorem nst4 : nstChk 4 = true := by decide +kernel
theorem nst5 : nstChk 5 = true := by decide +kernel
theorem nst6 : nstChk 6 = true := by decide +kernel
theorem nst_all {n : Nat} (h1 : 1 ≤ n) (h6 : n ≤ 6) : nstChk n = true := by
  have : n = 1 ∨ n = 2 ∨ n = 3 ∨ n = 4 ∨ n = 5 ∨ n = 6 := by omega
  rcases this with e | e | e | e | e | e <;> subst e
  · exact nst1
  · exact nst2
  · exact nst3
  · exact nst4
  · exact nst5
  · exact nst6
def loopsN (n : Nat) (nest : List Int) : Nat := ((loopsO n nest).getD 0).toNat
theorem nst_plain {n : Nat} (h1 : 1 ≤ n) (h6 : n ≤ 6) : plainN n ∈ Nst n := by
  have h := nst_all h1 h6
  unfold nstChk at h
  rw [Bool.and_eq_true] at h
  exact of_decide_eq_true h.1
theorem nst_at {n : Nat} (h1 : 1 ≤ n) (h6 : n ≤ 6) {nest : List Int} (hm : nest ∈ Nst n) : NestR n nest ∧ (loopsO n nest = some ((loopsN n nest : Nat) : Int) ∧ 1 ≤ loopsN n nest ∧ loopsN n nest ≤ n) ∧ ∀ k, k + 1 < n → (hookN n k nest).1 ∈ Nst n := by
  have h := nst_all h1 h6
  unfold nstChk at h
  rw [Bool.and_eq_true, List.all_eq_true] at h
  have h2 := h.2 nest hm
  rw [Bool.and_eq_true, Bool.and_eq_true, Bool.and_eq_true] at h2
  obtain ⟨⟨⟨a, b⟩, c⟩, d⟩ := h2
  rw [List.all_eq_true] at b d
  refine ⟨⟨of_decide_eq_true a, fun x hx => of_decide_eq_true (b x hx)⟩, ?_, fun k hk => of_decide_eq_true (d k (List.mem_range.mpr (by omega)))⟩
  unfold loopsN
  cases e : loopsO n nest with
  | none => rw [e] at c; cases c
  | some y =>
    rw [e] at c
    have c' : 1 ≤ y ∧ y ≤ n := of_decide_eq_true c
    refine ⟨?_, ?_, ?_⟩
    · show some y = some ((y.toNat : Nat) : Int)
      rw [Int.toNat_of_nonneg (by omega)]
    · show 1 ≤ y.toNat
      omega
    · show y.toNat ≤ n
      omega
theorem stN_ok {n num : Nat} (h1 : 1 ≤ n) (h6 : n ≤ 6) : ∀ (word : List Int) (i : Nat) (acc : List Int × Int), Letters n word → acc.1 ∈ Nst n → 0 ≤ acc.2 →
    (stN n num i word acc).1 ∈ Nst n ∧ 0 ≤ (stN n num i word acc).2 ∧ (stN n num i word acc).2 ≤ acc.2 + word.length
  | [], i, acc, _, hm, h0 => ⟨hm, h0, by rw [stN_nil]; simp⟩
  | l :: r, i, acc, hL, hm, h0 => by
    rw [stN_cons]
    have hk := (ix_eq (hL l List.mem_cons_self)).2
    have hL' : Letters n r := fun x hx => hL x (List.mem_cons_of_mem _ hx)
    split
    · have ih := stN_ok (num := num) h1 h6 r (i + 1) ((hookN n (ix l) acc.1).1, acc.2 + (if (hookN n (ix l) acc.1).2 then 1 else 0)) hL' ((nst_at h1 h6 hm).2.2 _ hk) (by split <;> simp <;> omega)
      refine ⟨ih.1, ih.2.1, Int.le_trans ih.2.2 ?_⟩
      rw [List.length_cons]
      have : (if (hookN n (ix l) acc.1).2 = true then (1 : Int) else 0) ≤ 1 := by split <;> omega
      simp only
      omega
    · have ih := stN_ok (num := num) h1 h6 r (i + 1) acc hL' hm h0
      refine ⟨ih.1, ih.2.1, Int.le_trans ih.2.2 ?_⟩
      rw [List.length_cons]
      omega
/-- all powers within N, of one kind by 2 -/
def Bp (kvs : List (Int × Int)) (N r : Int) : Prop := ∀ j ∈ keysI kvs, -N ≤ j ∧ j ≤ N ∧ (j - r) % 2 = 0
theorem bp_put {kvs : List (Int × Int)} {N r p c : Int} (h : Bp kvs N r) (hp : -N ≤ p ∧ p ≤ N ∧ (p - r) % 2 = 0) : Bp (putI kvs p c) N r := fun j hj => by
  rcases mem_keys_put hj with z | z
  · exact h j z
  · rw [z]; exact hp
theorem bp_nil (N r : Int) : Bp [] N r := fun j hj => by cases hj
theorem bp_mono {kvs : List (Int × Int)} {N M r s : Int} (h : Bp kvs N r) (hNM : N ≤ M) (hr : (r - s) % 2 = 0) : Bp kvs M s := fun j hj => by
  obtain ⟨a, b, c⟩ := h j hj
  exact ⟨by omega, by omega, by omega⟩
theorem bp_mul {x y : List (Int × Int)} {N M r s : Int} (hx : Bp x N r) (hy : Bp y M s) : Bp (mulI x y) (N + M) (r + s) := by
  have one : ∀ (q : Int × Int), (-N ≤ q.1 ∧ q.1 ≤ N ∧ (q.1 - r) % 2 = 0) → ∀ (l acc : List (Int × Int)), (∀ t ∈ l, -M ≤ t.1 ∧ t.1 ≤ M ∧ (t.1 - s) % 2 = 0) → Bp acc (N + M) (r + s) → Bp (l.foldl (fun acc t => putI acc (q.1 + t.1) (co x q.1 * co y t.1)) acc) (N + M) (r + s) := by
    intro q hq l
    induction l with
    | nil => intro acc _ h; exact h
    | cons t l ih =>
      intro acc hl h
      rw [List.foldl_cons]
      have ht := hl t List.mem_cons_self
      exact ih _ (fun s hs => hl s (List.mem_cons_of_mem _ hs)) (bp_put h (by omega))
  have all : ∀ (l acc : List (Int × Int)), (∀ q ∈ l, -N ≤ q.1 ∧ q.1 ≤ N ∧ (q.1 - r) % 2 = 0) → Bp acc (N + M) (r + s) → Bp (l.foldl (fun acc q => y.foldl (fun acc t => putI acc (q.1 + t.1) (co x q.1 * co y t.1)) acc) acc) (N + M) (r + s) := by
    intro l
    induction l with
    | nil => intro acc _ h; exact h
    | cons q l ih =>
      intro acc hl h
      rw [List.foldl_cons]
      exact ih _ (fun s hs => hl s (List.mem_cons_of_mem _ hs)) (one q (hl q List.mem_cons_self) y acc (fun t ht => hy t.1 (List.mem_map.mpr ⟨t, ht, rfl⟩)) h)
  exact all x [] (fun q hq => hx q.1 (List.mem_map.mpr ⟨q, hq, rfl⟩)) (bp_nil _ _)
theorem bp_pow : ∀ n : Nat, Bp (powI n) (2 * n : Nat) 0
  | 0 => by unfold Bp; decide
  | n + 1 => by
    have h : Bp dlt 2 0 := by unfold Bp; decide
    have h2 := bp_mul (bp_pow n) h
    have e : ((2 * n : Nat) : Int) + 2 = ((2 * (n + 1) : Nat) : Int) := by omega
    rw [e] at h2
    exact h2
theorem bp_len {kvs : List (Int × Int)} {N : Nat} {r : Int} (h : Tidy kvs) (b : Bp kvs N r) : kvs.length ≤ N + 1 := by
  have nd : ((keysI kvs).map fun j => (j - r) / 2).Nodup := by
    refine List.pairwise_map.mpr ((List.Pairwise.and_mem.mp h.1).imp ?_)
    intro a c ⟨ha, hc, ne⟩ e
    have := b a ha
    have := b c hc
    omega
  have := nodup_len (N + 1) ((-(N : Int) - r) / 2) _ nd (fun x hx => by
    obtain ⟨j, hj, rfl⟩ := List.mem_map.mp hx
    have := b j hj
    omega)
  unfold keysI at this
  rw [List.length_map, List.length_map] at this
  omega
theorem powN_bd {num : Nat} : ∀ (word : List Int) (i : Nat) (acc : Int), -(word.length : Int) + acc ≤ powN num i word acc ∧ powN num i word acc ≤ word.length + acc ∧ (powN num i word acc - (acc + word.length)) % 2 = 0
  | [], i, acc => by rw [powN_nil]; simp
  | l :: r, i, acc => by
    rw [powN_cons]
    have ih := powN_bd (num := num) r (i + 1) (acc + (if decide (num / 2 ^ i % 2 = 0) == decide (0 < l) then 1 else -1))
    rw [List.length_cons]
    split at ih <;> simp_all <;> omega
/-- one state's worth put to a sum -/
def putSt (n : Nat) (word : List Int) (acc : List (Int × Int)) (num : Nat) : List (Int × Int) :=
  (powI ((stN n num 0 word (plainN n, 0)).2.toNat + loopsN n (stN n num 0 word (plainN n, 0)).1 - 1)).foldl (fun acc q => putI acc (q.1 + powN num 0 word 0) (co (powI ((stN n num 0 word (plainN n, 0)).2.toNat + loopsN n (stN n num 0 word (plainN n, 0)).1 - 1)) q.1)) acc
def stateSum (n : Nat) (word : List Int) : List (Int × Int) := (List.range (2 ^ word.length)).foldl (putSt n word) []
theorem tidy_foldput {τ : Type} (f g : τ → Int) : ∀ (l : List τ) (acc : List (Int × Int)), Tidy acc → Tidy (l.foldl (fun acc q => putI acc (f q) (g q)) acc)
  | [], _, h => h
  | q :: l, acc, h => by rw [List.foldl_cons]; exact tidy_foldput f g l _ (tidy_put h _ _)
theorem bp_foldput {τ : Type} (f g : τ → Int) {N r : Int} : ∀ (l : List τ) (acc : List (Int × Int)), (∀ q ∈ l, -N ≤ f q ∧ f q ≤ N ∧ (f q - r) % 2 = 0) → Bp acc N r → Bp (l.foldl (fun acc q => putI acc (f q) (g q)) acc) N r
  | [], _, _, h => h
  | q :: l, acc, hl, h => by rw [List.foldl_cons]; exact bp_foldput f g l _ (fun s hs => hl s (List.mem_cons_of_mem _ hs)) (bp_put h (hl q List.mem_cons_self))
theorem putSt_ok {n : Nat} {word : List Int} (h1 : 1 ≤ n) (h6 : n ≤ 6) (hL : Letters n word) {acc : List (Int × Int)} (num : Nat) (ht : Tidy acc) (hb : Bp acc (3 * word.length + 10 : Nat) word.length) : Tidy (putSt n word acc num) ∧ Bp (putSt n word acc num) (3 * word.length + 10 : Nat) word.length := by
  refine ⟨tidy_foldput _ _ _ _ ht, bp_foldput _ _ _ _ (fun q hq => ?_) hb⟩
  obtain ⟨a, b, c⟩ := stN_ok (num := num) h1 h6 word 0 (plainN n, 0) hL (nst_plain h1 h6) (Int.le_refl _)
  have lp := (nst_at h1 h6 a).2.1
  obtain ⟨d, e, f⟩ := bp_pow _ q.1 (List.mem_map.mpr ⟨q, hq, rfl⟩)
  obtain ⟨g1, g2, g3⟩ := powN_bd (num := num) word 0 0
  simp only at c
  refine ⟨?_, ?_, ?_⟩ <;> omega
theorem stateSum_pre {n : Nat} {word : List Int} (h1 : 1 ≤ n) (h6 : n ≤ 6) (hL : Letters n word) : ∀ (l : List Nat) (acc : List (Int × Int)), Tidy acc → Bp acc (3 * word.length + 10 : Nat) word.length →
    Tidy (l.foldl (putSt n word) acc) ∧ Bp (l.foldl (putSt n word) acc) (3 * word.length + 10 : Nat) word.length
  | [], acc, ht, hb => ⟨ht, hb⟩
  | x :: l, acc, ht, hb => by
    rw [List.foldl_cons]
    obtain ⟨a, b⟩ := putSt_ok h1 h6 hL x ht hb
    exact stateSum_pre h1 h6 hL l _ a b
abbrev NS := List (List Int × List (Int × Int))
def stepSum (x : List (Int × Int)) (more : Int) (acc : List (Int × Int)) : List (Int × Int) := x.foldl (fun acc q => putI acc (q.1 + more) (co x q.1)) acc
def addN (f : NS) (k : List Int) (x : List (Int × Int)) (more : Int) : NS :=
  if (f.any fun e => decide (e.1 = k)) = true then f.map fun e => if e.1 = k then (e.1, stepSum x more e.2) else e else f ++ [(k, stepSum x more [])]
def wayOf (l : Int) : Int := if 0 < l then 1 else -1
def withE (n : Nat) (l : Int) (f : NS) (e : List Int × List (Int × Int)) : NS :=
  addN (addN f e.1 e.2 (wayOf l)) (hookN n (ix l) e.1).1 (if (hookN n (ix l) e.1).2 = true then mulI e.2 dlt else e.2) (0 - wayOf l)
def withL (n : Nat) (l : Int) (ns : NS) : NS := ns.foldl (withE n l) []
/-- a dict from nests to sums, as it stands in a heap -/
abbrev Ent := List Int × Addr × List (Int × Int)
def topT (es : List Ent) : List (List Key × V) := es.map fun e => (e.1.map Sum.inl, V.ref e.2.1)
def dat (es : List Ent) : NS := es.map fun e => (e.1, e.2.2)
structure FD (H0 H : Hp) (f : Addr) (es : List Ent) : Prop where
  top : H f = some (.dT (topT es))
  ent : ∀ e ∈ es, H e.2.1 = some (.dK (kI e.2.2)) ∧ H0 e.2.1 = none
  nd : (es.map (·.2.1)).Nodup
  kd : (es.map (·.1)).Nodup
theorem inj_of_nodup {α β : Type} {f : α → β} : ∀ {l : List α}, (l.map f).Nodup → ∀ {x y : α}, x ∈ l → y ∈ l → f x = f y → x = y
  | a :: l, h, x, y, hx, hy, e => by
    rw [List.map_cons, List.nodup_cons] at h
    rcases List.mem_cons.mp hx with ex | hx2
    · rcases List.mem_cons.mp hy with ey | hy2
      · rw [ex, ey]
      · exact absurd (List.mem_map.mpr ⟨y, hy2, by rw [← e, ex]⟩) h.1
    · rcases List.mem_cons.mp hy with ey | hy2
      · exact absurd (List.mem_map.mpr ⟨x, hx2, by rw [e, ey]⟩) h.1
      · exact inj_of_nodup h.2 hx2 hy2 e
theorem inl_inj : ∀ {a b : List Int}, a.map (Sum.inl : Int → Key) = b.map Sum.inl → a = b
  | [], [], _ => rfl
  | [], _ :: _, h => by simp at h
  | _ :: _, [], h => by simp at h
  | x :: a, y :: b, h => by
    rw [List.map_cons, List.map_cons] at h
    injection h with h1 h2
    rw [Sum.inl.inj h1, inl_inj h2]
theorem kV_map (k : List Int) : (k.map (Sum.inl : Int → Key)).map kV = k.map V.int := by
  rw [List.map_map]
  rfl
theorem val_top (k : List Int) : ∀ es : List Ent, valV (topT es) (k.map Sum.inl) = (es.find? fun e => decide (e.1 = k)).map fun e => V.ref e.2.1
  | [] => rfl
  | e :: es => by
    show valV ((e.1.map (Sum.inl : Int → Key), V.ref e.2.1) :: topT es) (k.map Sum.inl) = _
    by_cases h : e.1 = k
    · rw [valV_pos (p := (e.1.map (Sum.inl : Int → Key), V.ref e.2.1)) (by rw [h]), List.find?_cons, decide_eq_true h]
      rfl
    · rw [valV_neg (p := (e.1.map (Sum.inl : Int → Key), V.ref e.2.1)) (fun q => h (inl_inj q)), List.find?_cons, decide_eq_false h]
      exact val_top k es
theorem any_dat (k : List Int) (es : List Ent) : ((dat es).any fun e => decide (e.1 = k)) = (es.find? fun e => decide (e.1 = k)).isSome := by
  unfold dat
  rw [List.any_map]
  induction es with
  | nil => rfl
  | cons e es ih =>
    rw [List.any_cons, List.find?_cons]
    by_cases h : e.1 = k
    · simp [h]
    · simp [h]
      simpa using ih
theorem stepSum_len (x : List (Int × Int)) (more : Int) (acc : List (Int × Int)) : (stepSum x more acc).length ≤ acc.length + x.length := by
  unfold stepSum
  have : ∀ (l acc : List (Int × Int)), (l.foldl (fun acc q => putI acc (q.1 + more) (co x q.1)) acc).length ≤ acc.length + l.length := by
    intro l
    induction l with
    | nil => intro acc; exact Nat.le_refl _
    | cons q l ih =>
      intro acc
      rw [List.foldl_cons, List.length_cons]
      have h1 := ih (putI acc (q.1 + more) (co x q.1))
      have h2 := putI_len acc (q.1 + more) (co x q.1)
      omega
  exact this x acc
def tSums (K : PySem.W.Frag) : TS := tSeq (tAsg (tBM K "dict" rSetdefT (tVar 3) (tCons (tVar 9) (tCons tDNewK tNil))) (gName 12))
  (tLock (tFor (iKeys (tVar 10)) (gName 13) (tDrop (tCall (sp_put_to K) [] E0 (tCons (tVar 12) (tCons (tOp (rI0 fun i j => V.int (i + j)) (tVar 13) (tVar 11)) (tCons (tDGet (tVar 10) (tVar 13)) tNil)))))))
/-- the sums of one dict put to another one -/
theorem sum_loop {K : PySem.W.Frag} {D : Ends} {H1 : Hp} {s pa : Addr} {x acc : List (Int × Int)} {more : Int} {a0 a1 a2 a3 a4 a5 a6 a7 a8 a9 a13 : Option V} (hp : H1 pa = some (.dK (kI x))) (hs : H1 s = some (.dK (kI acc))) (ne : pa ≠ s)
    (hl : acc.length + x.length < 1000000) (k : ∀ a13, D.nx [a0, a1, a2, a3, a4, a5, a6, a7, a8, a9, some (.ref pa), some (.int more), some (.ref s), a13] (upd H1 s (.dK (kI (stepSum x more acc))))) :
    tLock (tFor (iKeys (tVar 10)) (gName 13) (tDrop (tCall (sp_put_to K) [] E0 (tCons (tVar 12) (tCons (tOp (rI0 fun i j => V.int (i + j)) (tVar 13) (tVar 11)) (tCons (tDGet (tVar 10) (tVar 13)) tNil)))))) D
      [a0, a1, a2, a3, a4, a5, a6, a7, a8, a9, some (.ref pa), some (.int more), some (.ref s), a13] H1 := by
  refine s_forD (d := pa) (kvs := x) (fun od => pu_var) hp (fun j σ' H' => ∃ acc' z, σ' = [a0, a1, a2, a3, a4, a5, a6, a7, a8, a9, some (.ref pa), some (.int more), some (.ref s), z] ∧ H' = upd H1 s (.dK (kI acc')) ∧ acc'.length ≤ acc.length + j ∧
    (x.drop j).foldl (fun acc q => putI acc (q.1 + more) (co x q.1)) acc' = stepSum x more acc) ⟨acc, a13, rfl, (upd_self hs).symm, Nat.le_refl _, rfl⟩ (fun j σ' H' ⟨_, _, _, e, _⟩ => by rw [e, upd_ne ne]; exact hp) (fun j r σ' H' od D2 hr p kn => ?_) (fun σ' H' p => ?_)
  · obtain ⟨acc', z, rfl, rfl, hl2, hm⟩ := p
    have hj := (List.getElem?_eq_some_iff.mp hr).1
    have hS : ∀ o, upd (upd H1 s o) pa (.frz od (.dK (kI x))) s = some o := fun o => by rw [upd_ne ne.symm, upd_same]
    refine s_dropC (k_call (pa_c pu_var (pa_c (pu_I0 pu_var pu_var) (pa_c (pu_dget pu_var pu_var (.inr ⟨_, upd_same⟩) (kI_get hr)) pa_n))) ⟨s, acc', _, _, rfl, hS _, by omega, ?_⟩)
    have e := kn [a0, a1, a2, a3, a4, a5, a6, a7, a8, a9, some (.ref pa), some (.int more), some (.ref s), some (.int r.1)] (upd H1 s (.dK (kI (putI acc' (r.1 + more) (co x r.1))))) ⟨_, _, rfl, rfl, ?_, fold_turn hr hm⟩
    · rw [upd_comm ne, upd_upd]
      exact e
    · have := putI_len acc' (r.1 + more) (co x r.1)
      omega
  · obtain ⟨acc', z, rfl, rfl, hl2, hm⟩ := p
    rw [fold_end hm]
    exact k z
theorem sums_ok {K : PySem.W.Frag} {D : Ends} {H0 H1 : Hp} {f q pa : Addr} {es : List Ent} {k : List Int} {x : List (Int × Int)} {more : Int} {N : Nat} {a0 a1 a2 a4 a5 a6 a7 a8 a12 a13 : Option V} (fd : FD H0 H1 f es) (n0 : ∀ a, H1 a = none → H0 a = none)
    (hN : ∀ e ∈ es, e.2.2.length ≤ N) (hN2 : N + x.length < 1000000) (hes : es.length < 1000000) (hq : H1 q = some (.tup (k.map V.int))) (hp : H1 pa = some (.dK (kI x))) (np : ∀ e ∈ es, e.2.1 ≠ pa)
    (kk : ∀ es' H2 a12 a13, FD H0 H2 f es' → dat es' = addN (dat es) k x more → (∀ e ∈ es', e.2.2.length ≤ N + x.length) → es'.length ≤ es.length + 1 → (∀ a o, H1 a = some o → a ≠ f → (∀ e ∈ es, e.2.1 ≠ a) → H2 a = some o) →
      (∀ e ∈ es', e.2.1 ∈ es.map (·.2.1) ∨ H1 e.2.1 = none) → D.nx [a0, a1, a2, some (.ref f), a4, a5, a6, a7, a8, some (.ref q), some (.ref pa), some (.int more), a12, a13] H2) :
    tSums K D [a0, a1, a2, some (.ref f), a4, a5, a6, a7, a8, some (.ref q), some (.ref pa), some (.int more), a12, a13] H1 := by
  have fpa : pa ≠ f := fun e => by
    have h := hp
    rw [e, fd.top] at h
    cases h
  have fE : ∀ e ∈ es, e.2.1 ≠ f := fun e he z => by
    have h := (fd.ent e he).1
    rw [z, fd.top] at h
    cases h
  refine ⟨_, rfl, ?_, _, rfl, fun p npn => ?_⟩
  · exact Or.inr (Or.inr (Or.inl ⟨rfl, .inr ⟨_, fd.top⟩⟩))
  have pf : f ≠ p := ne_of_none fd.top npn
  have ppa : pa ≠ p := ne_of_none hp npn
  have pq : q ≠ p := ne_of_none hq npn
  refine ⟨f, topT es, k.map Sum.inl, q, .ref p, rfl, rfl, by rw [upd_ne pf]; exact fd.top, by rw [upd_ne pq, kV_map]; exact hq, by unfold topT; rw [List.length_map]; exact Nat.lt_trans hes (by decide), fun v hv => ?_, fun hn => ?_⟩
  · rw [val_top] at hv
    cases hf : es.find? (fun e => decide (e.1 = k)) with
    | none => rw [hf] at hv; cases hv
    | some e =>
      rw [hf] at hv
      have hv' : V.ref e.2.1 = v := Option.some.inj hv
      subst hv'
      have he : e ∈ es := List.mem_of_find?_eq_some hf
      have ek : e.1 = k := by have := List.find?_some hf; exact of_decide_eq_true this
      have ep : e.2.1 ≠ p := ne_of_none (fd.ent e he).1 npn
      refine sum_loop (s := e.2.1) (acc := e.2.2) (by rw [upd_ne ppa]; exact hp) (by rw [upd_ne ep]; exact (fd.ent e he).1) (np e he).symm (by have := hN e he; omega) fun a13 => ?_
      refine kk (es.map fun e' => if e'.1 = k then (e'.1, e'.2.1, stepSum x more e'.2.2) else e') _ _ _ ⟨?_, fun e' he' => ?_, ?_, ?_⟩ ?_ (fun e' he' => ?_) (by rw [List.length_map]; exact Nat.le_succ _) (fun a o ha hf' hne => ?_) (fun e' he' => ?_)
      · rw [upd_ne (fE e he).symm, upd_ne pf, fd.top]
        unfold topT
        rw [List.map_map]
        congr 2
        apply List.map_congr_left
        intro e' _
        simp only [Function.comp]
        split <;> rfl
      · obtain ⟨e1, h1, rfl⟩ := List.mem_map.mp he'
        by_cases z : e1.1 = k
        · rw [if_pos z]
          have ee : e1 = e := by
            have n1 := fd.kd
            exact inj_of_nodup n1 h1 he (z.trans ek.symm)
          subst ee
          exact ⟨upd_same, (fd.ent e1 h1).2⟩
        · rw [if_neg z]
          have ne : e1.2.1 ≠ e.2.1 := fun w => by
            have := inj_of_nodup (f := fun e : Ent => e.2.1) fd.nd h1 he w
            rw [this] at z
            exact z ek
          rw [upd_ne ne, upd_ne (ne_of_none (fd.ent e1 h1).1 npn)]
          exact fd.ent e1 h1
      · rw [List.map_map]
        have : (fun e : Ent => e.2.1) ∘ (fun e' : Ent => if e'.1 = k then (e'.1, e'.2.1, stepSum x more e'.2.2) else e') = fun e : Ent => e.2.1 := by
          funext e'
          simp only [Function.comp]
          split <;> rfl
        rw [this]
        exact fd.nd
      · rw [List.map_map]
        have : (fun e : Ent => e.1) ∘ (fun e' : Ent => if e'.1 = k then (e'.1, e'.2.1, stepSum x more e'.2.2) else e') = fun e : Ent => e.1 := by
          funext e'
          simp only [Function.comp]
          split <;> rfl
        rw [this]
        exact fd.kd
      · unfold addN
        rw [any_dat, hf, if_pos (show (some e).isSome = true from rfl)]
        unfold dat
        rw [List.map_map, List.map_map]
        apply List.map_congr_left
        intro e' _
        simp only [Function.comp]
        split <;> rfl
      · obtain ⟨e1, h1, rfl⟩ := List.mem_map.mp he'
        by_cases z : e1.1 = k
        · rw [if_pos z]
          have := stepSum_len x more e1.2.2
          have := hN e1 h1
          simp only
          omega
        · rw [if_neg z]
          have := hN e1 h1
          omega
      · rw [upd_ne (fun z => hne e he z.symm), upd_ne (ne_of_none ha npn)]
        exact ha
      · obtain ⟨e1, h1, rfl⟩ := List.mem_map.mp he'
        refine .inl (List.mem_map.mpr ⟨e1, h1, ?_⟩)
        split <;> rfl
  · have hf : es.find? (fun e => decide (e.1 = k)) = none := by
      rw [val_top] at hn
      cases h : es.find? (fun e => decide (e.1 = k)) with
      | none => rfl
      | some e => rw [h] at hn; cases hn
    have nk : ∀ e ∈ es, e.1 ≠ k := fun e he z => by
      have := List.find?_eq_none.mp hf e he
      simp [z] at this
    have p0 : H0 p = none := n0 p npn
    refine sum_loop (s := p) (acc := []) (by rw [upd_ne fpa, upd_ne ppa]; exact hp) (by rw [upd_ne pf.symm, upd_same]; rfl) ppa (by simp; omega) fun a13 => ?_
    refine kk (es ++ [(k, p, stepSum x more [])]) _ _ _ ⟨?_, fun e' he' => ?_, ?_, ?_⟩ ?_ (fun e' he' => ?_) (by rw [List.length_append]; simp) (fun a o ha hf' hne => ?_) (fun e' he' => ?_)
    · rw [upd_ne pf, upd_same]
      unfold topT
      rw [List.map_append]
      rfl
    · rcases List.mem_append.mp he' with h1 | h1
      · have ep : e'.2.1 ≠ p := ne_of_none (fd.ent e' h1).1 npn
        rw [upd_ne ep, upd_ne (fE e' h1), upd_ne ep]
        exact fd.ent e' h1
      · have e2 := List.mem_singleton.mp h1
        subst e2
        exact ⟨upd_same, p0⟩
    · rw [List.map_append, List.nodup_append]
      refine ⟨fd.nd, by simp, fun a ha b hb z => ?_⟩
      obtain ⟨e1, h1, rfl⟩ := List.mem_map.mp ha
      have hb2 : b = p := by simpa using hb
      exact ne_of_none (fd.ent e1 h1).1 npn (z.trans hb2)
    · rw [List.map_append, List.nodup_append]
      refine ⟨fd.kd, by simp, fun a ha b hb z => ?_⟩
      obtain ⟨e1, h1, rfl⟩ := List.mem_map.mp ha
      have hb2 : b = k := by simpa using hb
      exact nk e1 h1 (z.trans hb2)
    · unfold addN
      rw [any_dat, hf, if_neg (show ¬ (none : Option Ent).isSome = true by simp)]
      unfold dat
      rw [List.map_append]
      rfl
    · rcases List.mem_append.mp he' with h1 | h1
      · have := hN e' h1
        omega
      · have e2 := List.mem_singleton.mp h1
        subst e2
        have := stepSum_len x more []
        simp only [List.length_nil] at this
        simp only
        omega
    · have ap : a ≠ p := ne_of_none ha npn
      rw [upd_ne ap, upd_ne hf', upd_ne ap]
      exact ha
    · rcases List.mem_append.mp he' with h1 | h1
      · exact .inl (List.mem_map.mpr ⟨e', h1, rfl⟩)
      · have e2 := List.mem_singleton.mp h1
        subst e2
        exact .inr npn
theorem find_nd {es : List Ent} (nd : (es.map (·.1)).Nodup) {e : Ent} (he : e ∈ es) : (es.find? fun x => decide (x.1 = e.1)) = some e := by
  cases hf : es.find? (fun x => decide (x.1 = e.1)) with
  | none => have := List.find?_eq_none.mp hf e he; simp at this
  | some y =>
    have h1 : y ∈ es := List.mem_of_find?_eq_some hf
    have h2 : y.1 = e.1 := by have h := List.find?_some hf; exact of_decide_eq_true h
    rw [inj_of_nodup nd h1 he h2]
theorem mul_len (x y : List (Int × Int)) : (mulI x y).length ≤ x.length * y.length := by
  have : ∀ (l acc : List (Int × Int)), (l.foldl (fun acc q => y.foldl (fun acc r => putI acc (q.1 + r.1) (co x q.1 * co y r.1)) acc) acc).length ≤ acc.length + l.length * y.length := by
    intro l
    induction l with
    | nil => intro acc; simp
    | cons q l ih =>
      intro acc
      rw [List.foldl_cons, List.length_cons, Nat.add_mul]
      have h1 := ih (y.foldl (fun acc r => putI acc (q.1 + r.1) (co x q.1 * co y r.1)) acc)
      have h2 := mul1_len x y q y acc
      omega
  have h := this x []
  simpa [mulI] using h
theorem q_forN {σ : L2.St} {H : Hp} {td : TE} {D : Ends} {tu tz : TS} {j : Nat} {d : Addr} {es0 : List Ent} (h : ∀ od, Pu td σ (upd H d (.frz od (.dT (topT es0)))) (.ref d)) (hd : H d = some (.dT (topT es0))) (Pv : Nat → L2.St → Hp → Prop) (h0 : Pv 0 σ H)
    (hP : ∀ i σ' H', Pv i σ' H' → H' d = some (.dT (topT es0)))
    (hs : ∀ (i : Nat) (e : Ent) q σ' H' od D', es0[i]? = some e → Pv i σ' H' → H' q = some (.tup (e.1.map V.int)) → (∀ σ2 H2, Pv (i + 1) σ2 H2 → D'.nx σ2 (upd H2 d (.frz od (.dT (topT es0))))) → tu D' (σ'.set j (some (.ref q))) (upd H' d (.frz od (.dT (topT es0)))))
    (hz : ∀ σ' H', Pv es0.length σ' H' → tz D σ' H') : tSeq (tLock (tFor (iKeys td) (gName j) tu)) tz D σ H := by
  refine ⟨d, _, hd, trivial, fun od => ?_⟩
  refine h od _ ⟨d, od, rfl, .inr ⟨topT es0, upd_same, ?_⟩⟩
  refine for_it walk_keysT (fun i σ' H' => ∃ H2, H' = upd H2 d (.frz od (.dT (topT es0))) ∧ Pv i σ' H2) ⟨H, rfl, h0⟩ (fun i σ' H' _ p => ?_) (fun i x σ' H' H'' hi p y => ?_) (fun σ' H' p => ?_)
  · obtain ⟨H2, rfl, _⟩ := p
    exact upd_same
  · obtain ⟨H2, rfl, p⟩ := p
    obtain ⟨rfl, k, v, q, hk, rfl, hq⟩ := y
    have he : ∃ e : Ent, es0[i]? = some e ∧ k = e.1.map Sum.inl := by
      unfold topT at hk
      rw [List.getElem?_map] at hk
      cases e : es0[i]? with
      | none => rw [e] at hk; cases hk
      | some y =>
        rw [e] at hk
        exact ⟨y, rfl, (congrArg Prod.fst (Option.some.inj hk)).symm⟩
    obtain ⟨e, he, rfl⟩ := he
    rw [kV_map] at hq
    have qd : q ≠ d := fun z => by rw [z, upd_same] at hq; cases hq
    rw [upd_ne qd] at hq
    exact hs i e q σ' H2 od _ he p hq fun σ2 H3 p3 => ⟨H3, rfl, p3⟩
  · obtain ⟨H2, rfl, p⟩ := p
    rw [show (topT es0).length = es0.length from List.length_map _] at p
    refine ⟨upd_same, ?_⟩
    show tz D σ' (upd (upd H2 d _) d (.dT (topT es0)))
    rw [upd_upd, upd_self (hP _ _ _ p)]
    exact hz σ' H2 p
theorem FD.off {H0 H : Hp} {f d : Addr} {es : List Ent} {o u : HO} (h : FD H0 H f es) (fd : f ≠ d) (hd : H0 d = some u) : FD H0 (upd H d o) f es :=
  ⟨by rw [upd_ne fd]; exact h.top, fun e he => ⟨by rw [upd_ne (fun z => by have := (h.ent e he).2; rw [z, hd] at this; cases this)]; exact (h.ent e he).1, (h.ent e he).2⟩, h.nd, h.kd⟩
theorem FD.ex {H0 H H' : Hp} {f : Addr} {es : List Ent} (h : FD H0 H f es) (e : Ex H H') : FD H0 H' f es := ⟨e _ _ h.top, fun x hx => ⟨e _ _ (h.ent x hx).1, (h.ent x hx).2⟩, h.nd, h.kd⟩
theorem dat_drop {es0 : List Ent} {i : Nat} {e : Ent} (h : es0[i]? = some e) : (dat es0)[i]? = some (e.1, e.2.2) := by
  unfold dat
  rw [List.getElem?_map, h]
  rfl
def sp_with_letter (K : PySem.W.Frag) : Sp := fun vs H Q E =>
  ∃ (d : Addr) (es0 : List Ent) (n : Nat) (st l : Int), vs = [.ref d, .int st, .int l] ∧ st = n ∧ (l ≠ 0 ∧ -(n : Int) < l ∧ l < n) ∧ n ≤ 6 ∧ H d = some (.dT (topT es0)) ∧ (∀ e ∈ es0, H e.2.1 = some (.dK (kI e.2.2)) ∧ NestR n e.1 ∧ e.2.2.length ≤ 300) ∧
    (es0.map (·.1)).Nodup ∧ es0.length ≤ 200 ∧ ∀ f H1 es1, Ex H H1 → FD H H1 f es1 → H f = none → dat es1 = withL n l (dat es0) → Q (.ref f) H1
abbrev N_with_letter : List Str := ["nests", "strands", "letter", "found", "way", "nest", "hook", "closed", "worth", "one", "powers", "more", "sums", "power"]
theorem sc_with_letter : FnScope N_with_letter ["nests", "strands", "letter"] (defScope s_with_letter) := ⟨rfl, rfl, rfl, by decide +kernel, rfl, by decide +kernel, by decide +kernel⟩
theorem ok_with_letter {P : Program} {w : World} {K : PySem.W.Frag} {mg : Str → Option Value} {base : Heap} {f : Addr} {fd : FuncData} (F : FnP K "with_letter" s_with_letter f fd) (Z : Bl mg) (c_hooked : Cal P w K mg base "hooked" ["nest", "strands", "at"] 1 (sp_hooked K)) (c_multiplied : Cal P w K mg base "multiplied" ["one", "other"] 2 (sp_multiplied K)) (c_loop_worth : Cal P w K mg base "loop_worth" [] 1 (sp_loop_worth K)) (c_put_to : Cal P w K mg base "put_to" ["found", "power", "count"] 1 (sp_put_to K)) : FnOk P w K mg base CX0 3 f fd ["nests", "strands", "letter"] (sp_with_letter K) := by
  refine F.ok sc_with_letter (fun vs H Q E h => ?_) (fun cdv A outer s H vs Q E hr h => ?_)
  · obtain ⟨_, _, _, _, _, rfl, _⟩ := h
    rfl
  · refine ⟨_, PSs.nox (pss_cons (ps_set (i := 3) sc_with_letter.nd rfl (Or.inl rfl) pe_dnewT)
      (pss_cons (ps_set (i := 4) sc_with_letter.nd rfl (Or.inl rfl) (pe_ix ix_list (pe_lst (pa_cons (pe_un un_neg pe_int) (pa_cons pe_int pa_nil))) (pe_callTy call_int1 (by rfl) Z.f_int (by decide +kernel) (pa_cons (pe_cmpR op_gt (pv 2) pe_int (nomark _)) pa_nil)) (fun _ _ => rfl)))
      (pss_cons (ps_lock (ps_for PassesOwn.never rfl (pi_keys (pv 0)) (pg_name (i := 5) sc_with_letter.nd rfl (Or.inl rfl))
      (pss_cons (ps_asg (pe_cal c_hooked (hr.mono (by decide)) rfl (pa_cons (pv 5) (pa_cons (pv 1) (pa_cons (pe_op op_sub (pe_callB call_abs (by rfl) Z.f_abs (by decide +kernel) (pa_cons (pv 2) pa_nil)) pe_int) pa_nil)))) (pg_tup (by rfl) (pgs_cons (pg_name (i := 6) sc_with_letter.nd rfl (Or.inl rfl)) (pgs_cons (pg_name (i := 7) sc_with_letter.nd rfl (Or.inl rfl)) pgs_nil))))
      (pss_cons (ps_set (i := 8) sc_with_letter.nd rfl (Or.inl rfl) (pe_dget (hu_of hr) (pv 0) (pv 5) (fun _ _ => rfl)))
      (pss_cons (ps_if (pt_val (pv 7)) (pss_one (ps_set (i := 8) sc_with_letter.nd rfl (Or.inl rfl) (pe_cal c_multiplied (hr.mono (by decide)) rfl (pa_cons (pv 8) (pa_cons (pe_cal0 c_loop_worth (hr.mono (by decide)) rfl) pa_nil))))) pss_nil)
      (pss_one (ps_for PassesOwn.never rfl (pi_list (pe_lst (pa_cons (pe_tup (pa_cons (pv 5) (pa_cons (pe_dget (hu_of hr) (pv 0) (pv 5) (fun _ _ => rfl)) (pa_cons (pv 4) pa_nil)))) (pa_cons (pe_tup (pa_cons (pv 6) (pa_cons (pv 8) (pa_cons (pe_op op_sub pe_int (pv 4)) pa_nil)))) pa_nil)))) (pg_tup (by rfl) (pgs_cons (pg_name (i := 9) sc_with_letter.nd rfl (Or.inl rfl)) (pgs_cons (pg_name (i := 10) sc_with_letter.nd rfl (Or.inl rfl)) (pgs_cons (pg_name (i := 11) sc_with_letter.nd rfl (Or.inl rfl)) pgs_nil))))
      (pss_cons (ps_set (i := 12) sc_with_letter.nd rfl (Or.inl rfl) (pe_bm PySem.F.plainAttrs_dict PySem.F.slot_dict_setdefault PySem.F.type_dict_setdefault (mt_setdefT (hu_of hr)) (pv 3) (pa_cons (pv 9) (pa_cons pe_dnewK pa_nil))))
      (pss_one (ps_lock (ps_for PassesOwn.never rfl (pi_keys (pv 10)) (pg_name (i := 13) sc_with_letter.nd rfl (Or.inl rfl))
      (pss_one (ps_expr (pe_cal c_put_to (hr.mono (by decide)) rfl (pa_cons (pv 12) (pa_cons (pe_op op_add (pv 13) (pv 11)) (pa_cons (pe_dget (hu_of hr) (pv 10) (pv 13) (fun _ _ => rfl)) pa_nil)))))))))))))))))
      (pss_one (ps_ret (pv 3)))))), ?_⟩
    obtain ⟨d, es0, n, st, l, rfl, rfl, hl, hn, hd, he0, nd0, len0, kk⟩ := h
    obtain ⟨ex1, ex2⟩ := ix_eq hl
    refine q_asgC ?_
    intro f nf
    have df : d ≠ f := ne_of_none hd nf
    refine q_asgC (k_pick (pa_c (pu_neg pu_c) (pa_c pu_c pa_n)) (by simp) (fun H1 e => pu_int1 (pu_I0 pu_var pu_c)) (at_bool _ _ _) fun Hw ew => ?_)
    have ew2 : (if decide (0 < l) = true then V.int 1 else V.int (-1)) = V.int (wayOf l) := by
      unfold wayOf
      by_cases z : 0 < l
      · rw [if_pos (decide_eq_true z), if_pos z]
      · rw [if_neg (by simp [z]), if_neg z]
    rw [ew2]
    have exw : Ex H Hw := (Ex.new nf).trans ew
    refine q_forN (d := d) (es0 := es0) (fun od => pu_var) (exw _ _ hd) (fun i σ' H' => ∃ es z5 z6 z7 z8 z9 z10 z11 z12 z13, σ' = [some (.ref d), some (.int n), some (.int l), some (.ref f), some (.int (wayOf l)), z5, z6, z7, z8, z9, z10, z11, z12, z13] ∧ Ex H H' ∧ FD H H' f es ∧
      ((dat es0).drop i).foldl (withE n l) (dat es) = withL n l (dat es0) ∧ (∀ e ∈ es, e.2.2.length ≤ i * 1000) ∧ es.length ≤ 2 * i)
      ⟨[], none, none, none, none, none, none, none, none, none, rfl, exw, ⟨ew _ _ upd_same, fun _ h => (List.not_mem_nil h).elim, List.nodup_nil, List.nodup_nil⟩, rfl, fun _ h => (List.not_mem_nil h).elim, Nat.le_refl _⟩
      (fun i σ' H' ⟨_, _, _, _, _, _, _, _, _, _, _, ex, _⟩ => ex _ _ hd) (fun i e q σ' H' od D' hi p1 hq kn => ?_) (fun σ' H' p1 => ?_)
    · obtain ⟨es, z5, z6, z7, z8, z9, z10, z11, z12, z13, rfl, exH, fdE, hm, hN, hes⟩ := p1
      have hmem := List.mem_of_getElem? hi
      have hilt := (List.getElem?_eq_some_iff.mp hi).1
      obtain ⟨hea, her, hel⟩ := he0 e hmem
      have qd : q ≠ d := fun z => by rw [z, exH _ _ hd] at hq; cases hq
      have ed : e.2.1 ≠ d := fun z => by rw [z, hd] at hea; cases hea
      refine q_asgT (k_call (pa_c pu_var (pa_c pu_var (pa_c (pu_I0 (pu_abs pu_var) pu_c) pa_n))) ⟨_, q, e.1, n, ix l, _, _, rfl, rfl, ex1, Ex.refl _, by rw [upd_ne qd]; exact hq, her, ex2, hn, fun p q2 B2 H2 e2 hp2 hq2 => ⟨p, _, rfl, .inl (.inl (e2.bh _ _ hp2)), rfl, _, _, rfl, _, _, rfl, rfl, ?_⟩⟩)
      have hd2 : H2 d = some (.frz od (.dT (topT es0))) := e2.ex _ _ upd_same
      have hq0 : H2 q = some (.tup (e.1.map V.int)) := e2.ex _ _ (by rw [upd_ne qd]; exact hq)
      have hqh : H2 q2 = some (.tup ((hookN n (ix l) e.1).1.map V.int)) := e2.bh _ _ hq2
      have he2 : H2 e.2.1 = some (.dK (kI e.2.2)) := e2.ex _ _ (by rw [upd_ne ed]; exact exH _ _ hea)
      have get : ∀ Hx, Ex H2 Hx → DGet Hx d (.ref q) (some (.ref e.2.1)) := fun Hx ex => .inr ⟨topT es0, e.1.map Sum.inl, q, .inr ⟨od, ex _ _ hd2⟩, rfl, by rw [kV_map]; exact ex _ _ hq0, by rw [val_top, find_nd nd0 hmem]; rfl⟩
      refine q_asgC ⟨_, rfl, _, rfl, d, _, rfl, get _ (Ex.refl _), ?_⟩
      have fd2 : FD H H2 f es := (fdE.off df.symm hd).ex e2.ex
      have rest : ∀ pw H3 (w : List (Int × Int)), Ex H2 H3 → H3 pw = some (.dK (kI w)) → (∀ e' ∈ es, e'.2.1 ≠ pw) → w = (if (hookN n (ix l) e.1).2 = true then mulI e.2.2 dlt else e.2.2) →
          tFor (iList K (tLst (tCons (tTup (tCons (tVar 5) (tCons (tDGet (tVar 0) (tVar 5)) (tCons (tVar 4) tNil)))) (tCons (tTup (tCons (tVar 6) (tCons (tVar 8) (tCons (tOp (rI0 fun i j => V.int (i - j)) (tC (V.int 0)) (tVar 4)) tNil)))) tNil)))) (gTup K 3 (gCons (gName 9) (gCons (gName 10) (gCons (gName 11) gNil)))) (tSums K) D'
            [some (.ref d), some (.int n), some (.int l), some (.ref f), some (.int (wayOf l)), some (.ref q), some (.ref q2), some (.bl (hookN n (ix l) e.1).2), some (.ref pw), z9, z10, z11, z12, z13] H3 := by
        intro pw H3 w ex3 hpw npw hw
        have wl : w.length ≤ 600 := by
          rw [hw]
          split
          · have := mul_len e.2.2 dlt
            rw [show dlt.length = 2 from rfl] at this
            omega
          · omega
        refine ⟨_, rfl, _, rfl, _, rfl, d, _, rfl, get _ ex3, _, rfl, by show 3 ≤ sizeLine; decide, fun t1 nt1 => ?_⟩
        refine ⟨_, rfl, _, rfl, _, rfl, _, _, rfl, rfl, by show 3 ≤ sizeLine; decide, fun t2 nt2 => ⟨by show 2 ≤ sizeLine; decide, fun ls nls => ?_⟩⟩
        have x1 := Ex.new (o := .tup [.ref q, .ref e.2.1, .int (wayOf l)]) nt1
        have x2 := Ex.new (o := .tup [.ref q2, .ref pw, .int (0 - wayOf l)]) nt2
        have x3 := Ex.new (o := .lst [.ref t1, .ref t2]) nls
        generalize hH4 : upd (upd (upd H3 t1 (.tup [.ref q, .ref e.2.1, .int (wayOf l)])) t2 (.tup [.ref q2, .ref pw, .int (0 - wayOf l)])) ls (.lst [.ref t1, .ref t2]) = H4 at x3
        have ht1 : H4 t1 = some (.tup [.ref q, .ref e.2.1, .int (wayOf l)]) := x3 _ _ (x2 _ _ upd_same)
        have ht2 : H4 t2 = some (.tup [.ref q2, .ref pw, .int (0 - wayOf l)]) := x3 _ _ upd_same
        have hls : H4 ls = some (.lst [.ref t1, .ref t2]) := by rw [← hH4]; exact upd_same
        have x34 : Ex H3 H4 := (x1.trans x2).trans x3
        have x24 : Ex H2 H4 := ex3.trans x34
        have fd4 : FD H H4 f es := fd2.ex x24
        have n0 : ∀ a, H4 a = none → H a = none := fun a z => by
          have z2 := fresh_back (e2.ex.trans x24) z
          have ad : a ≠ d := fun w => by rw [w, upd_same] at z2; cases z2
          rw [upd_ne ad] at z2
          exact fresh_back exH z2
        have fE : ∀ a o, H4 a = some o → (∀ es' : List Ent, o ≠ .dT (topT es')) → a ≠ f := fun a o ha ho z => by
          rw [z, fd4.top] at ha
          cases ha
          exact ho es rfl
        have eE : ∀ a o, H4 a = some o → (∀ x, o ≠ .dK (kI x)) → ∀ e' ∈ es, e'.2.1 ≠ a := fun a o ha ho e' he' z => by
          have h := (fd4.ent e' he').1
          rw [z, ha] at h
          cases h
          exact ho _ rfl
        have keE : ∀ e' ∈ es, e'.2.1 ≠ e.2.1 := fun e' he' z => by
          have h := (fdE.ent e' he').2
          rw [z, hea] at h
          cases h
        refine ⟨ls, rfl, ⟨_, .inl (.inl hls)⟩, ?_⟩
        refine for_list (K := K) (a := ls) (xs := [.ref t1, .ref t2]) (fun i5 σ5 H5 => ∃ es5 y9 y10 y11 y12 y13, σ5 = [some (.ref d), some (.int n), some (.int l), some (.ref f), some (.int (wayOf l)), some (.ref q), some (.ref q2), some (.bl (hookN n (ix l) e.1).2), some (.ref pw), y9, y10, y11, y12, y13] ∧ FD H H5 f es5 ∧
          dat es5 = (if i5 = 0 then dat es else if i5 = 1 then addN (dat es) e.1 e.2.2 (wayOf l) else withE n l (dat es) (e.1, e.2.2)) ∧ (∀ e' ∈ es5, e'.2.2.length ≤ i * 1000 + (if i5 = 0 then 0 else if i5 = 1 then 300 else 900)) ∧ es5.length ≤ es.length + i5 ∧
          (∀ a o, H4 a = some o → a ≠ f → (∀ e' ∈ es, e'.2.1 ≠ a) → H5 a = some o) ∧ (∀ e' ∈ es5, e'.2.1 ∈ es.map (·.2.1) ∨ H4 e'.2.1 = none) ∧ (∀ a, H5 a = none → H a = none))
          ⟨es, z9, z10, z11, z12, z13, rfl, fd4, rfl, fun e' he' => by have := hN e' he'; simpa using this, Nat.le_refl _, fun a o ha _ _ => ha, fun e' he' => .inl (List.mem_map.mpr ⟨e', he', rfl⟩), n0⟩
          (fun i5 σ5 H5 _ ⟨_, _, _, _, _, _, _, _, _, _, _, fr, _⟩ => .inl (.inl (fr _ _ hls (fE _ _ hls (by intro _ z; cases z)) (eE _ _ hls (by intro _ z; cases z))))) (fun i5 x σ5 H5 hx p5 => ?_) (fun σ5 H5 p5 => ?_)
        · obtain ⟨es5, y9, y10, y11, y12, y13, rfl, fd5, hd5, hN5, hl5, fr5, ad5, n5⟩ := p5
          have i5lt := (List.getElem?_eq_some_iff.mp hx).1
          simp only [List.length_cons, List.length_nil] at i5lt
          have cases5 : i5 = 0 ∨ i5 = 1 := by omega
          rcases cases5 with rfl | rfl
          · have hx1 : V.ref t1 = x := by simpa using hx
            subst hx1
            refine ⟨t1, _, rfl, .inl (.inl (fr5 _ _ ht1 (fE _ _ ht1 (by intro _ z; cases z)) (eE _ _ ht1 (by intro _ z; cases z)))), rfl, _, _, rfl, _, _, rfl, _, _, rfl, rfl, ?_⟩
            have hq5 : H5 q = some (.tup (e.1.map V.int)) := fr5 _ _ (x24 _ _ hq0) (fE _ _ (x24 _ _ hq0) (by intro _ z; cases z)) (eE _ _ (x24 _ _ hq0) (by intro _ z; cases z))
            have he5 : H5 e.2.1 = some (.dK (kI e.2.2)) := fr5 _ _ (x24 _ _ he2) (fE _ _ (x24 _ _ he2) (by intro _ z; cases z)) keE
            simp only [if_true] at hd5 hN5
            refine sums_ok (N := i * 1000 + 0) fd5 n5 hN5 (by omega) (by omega) hq5 he5 (fun e' he' z => ?_) fun es6 H6 y12 y13 fd6 hd6 hN6 hl6 fr6 ad6 => ?_
            · rcases ad5 e' he' with m | m
              · obtain ⟨e3, h3, h4⟩ := List.mem_map.mp m
                exact keE e3 h3 (h4.trans z)
              · rw [z, x24 _ _ he2] at m; cases m
            · refine ⟨es6, _, _, _, _, _, rfl, fd6, by rw [hd6, hd5]; rfl, fun e' he' => by have := hN6 e' he'; simp; omega, by omega, fun a o ha h1 h2 => ?_, fun e' he' => ?_, fun a z => ?_⟩
              · refine fr6 a o (fr5 a o ha h1 h2) h1 fun e' he' z => ?_
                rcases ad5 e' he' with m | m
                · obtain ⟨e3, h3, h4⟩ := List.mem_map.mp m
                  exact h2 e3 h3 (h4.trans z)
                · rw [z, ha] at m; cases m
              · rcases ad6 e' he' with m | m
                · obtain ⟨e3, h3, h4⟩ := List.mem_map.mp m
                  rw [← h4]
                  exact ad5 e3 h3
                · cases q4 : H4 e'.2.1 with
                  | none => exact .inr rfl
                  | some o =>
                    left
                    apply Classical.byContradiction
                    intro nm
                    have h7 := fr5 _ _ q4 (fun z => by rw [z, fd5.top] at m; cases m) (fun e3 h3 z => nm (List.mem_map.mpr ⟨e3, h3, z⟩))
                    rw [m] at h7; cases h7
              · cases q5 : H5 a with
                | none => exact n5 a q5
                | some o =>
                  by_cases af : a = f
                  · rw [af, fd6.top] at z; cases z
                  · by_cases ae : ∃ e' ∈ es5, e'.2.1 = a
                    · obtain ⟨e3, h3, h4⟩ := ae
                      rw [← h4]; exact (fd5.ent e3 h3).2
                    · have := fr6 a o q5 af fun e' he' z => ae ⟨e', he', z⟩
                      rw [z] at this; cases this
          · have hx1 : V.ref t2 = x := by simpa using hx
            subst hx1
            refine ⟨t2, _, rfl, .inl (.inl (fr5 _ _ ht2 (fE _ _ ht2 (by intro _ z; cases z)) (eE _ _ ht2 (by intro _ z; cases z)))), rfl, _, _, rfl, _, _, rfl, _, _, rfl, rfl, ?_⟩
            have hq5 : H5 q2 = some (.tup ((hookN n (ix l) e.1).1.map V.int)) := fr5 _ _ (x24 _ _ hqh) (fE _ _ (x24 _ _ hqh) (by intro _ z; cases z)) (eE _ _ (x24 _ _ hqh) (by intro _ z; cases z))
            have hpw4 := x34 _ _ hpw
            have he5 : H5 pw = some (.dK (kI w)) := fr5 _ _ hpw4 (fE _ _ hpw4 (by intro _ z; cases z)) npw
            simp only [if_true, Nat.one_ne_zero, if_false] at hd5 hN5
            refine sums_ok (N := i * 1000 + 300) fd5 n5 hN5 (by omega) (by omega) hq5 he5 (fun e' he' z => ?_) fun es6 H6 y12 y13 fd6 hd6 hN6 hl6 fr6 ad6 => ?_
            · rcases ad5 e' he' with m | m
              · obtain ⟨e3, h3, h4⟩ := List.mem_map.mp m
                exact npw e3 h3 (h4.trans z)
              · rw [z, hpw4] at m; cases m
            · refine ⟨es6, _, _, _, _, _, rfl, fd6, by rw [hd6, hd5, hw]; rfl, fun e' he' => by have := hN6 e' he'; simp; omega, by omega, fun a o ha h1 h2 => ?_, fun e' he' => ?_, fun a z => ?_⟩
              · refine fr6 a o (fr5 a o ha h1 h2) h1 fun e' he' z => ?_
                rcases ad5 e' he' with m | m
                · obtain ⟨e3, h3, h4⟩ := List.mem_map.mp m
                  exact h2 e3 h3 (h4.trans z)
                · rw [z, ha] at m; cases m
              · rcases ad6 e' he' with m | m
                · obtain ⟨e3, h3, h4⟩ := List.mem_map.mp m
                  rw [← h4]
                  exact ad5 e3 h3
                · cases q4 : H4 e'.2.1 with
                  | none => exact .inr rfl
                  | some o =>
                    left
                    apply Classical.byContradiction
                    intro nm
                    have h7 := fr5 _ _ q4 (fun z => by rw [z, fd5.top] at m; cases m) (fun e3 h3 z => nm (List.mem_map.mpr ⟨e3, h3, z⟩))
                    rw [m] at h7; cases h7
              · cases q5 : H5 a with
                | none => exact n5 a q5
                | some o =>
                  by_cases af : a = f
                  · rw [af, fd6.top] at z; cases z
                  · by_cases ae : ∃ e' ∈ es5, e'.2.1 = a
                    · obtain ⟨e3, h3, h4⟩ := ae
                      rw [← h4]; exact (fd5.ent e3 h3).2
                    · have := fr6 a o q5 af fun e' he' z => ae ⟨e', he', z⟩
                      rw [z] at this; cases this
        · obtain ⟨es5, y9, y10, y11, y12, y13, rfl, fd5, hd5, hN5, hl5, fr5, ad5, n5⟩ := p5
          have hd4 : H4 d = some (.frz od (.dT (topT es0))) := x24 _ _ hd2
          have h5d : H5 d = some (.frz od (.dT (topT es0))) := fr5 _ _ hd4 df (eE _ _ hd4 (by intro _ z; cases z))
          have e7 := kn [some (.ref d), some (.int n), some (.int l), some (.ref f), some (.int (wayOf l)), some (.ref q), some (.ref q2), some (.bl (hookN n (ix l) e.1).2), some (.ref pw), y9, y10, y11, y12, y13] (upd H5 d (.dT (topT es0)))
            ⟨es5, _, _, _, _, _, _, _, _, _, rfl, fun a o ha => ?_, fd5.off df.symm hd, by
              have h := fold_turn (dat_drop hi) hm
              rw [hd5]
              exact h, fun e' he' => by have : e'.2.2.length ≤ i * 1000 + 900 := hN5 e' he'; omega, by have : es5.length ≤ es.length + 2 := hl5; omega⟩
          · rw [upd_upd, upd_self h5d] at e7
            exact e7
          · by_cases ad : a = d
            · rw [ad, upd_same, ← hd, ← ad]; exact ha.symm ▸ rfl
            · rw [upd_ne ad]
              have h4 : H4 a = some o := x24 _ _ (e2.ex _ _ (by rw [upd_ne ad]; exact exH _ _ ha))
              refine fr5 _ _ h4 (fun z => by rw [z, nf] at ha; cases ha) fun e' he' z => ?_
              have := (fdE.ent e' he').2
              rw [z, ha] at this; cases this
      show tSeq (tIfS (tB (tVar 7)) _ tNext) _ _ _ _
      refine q_whenP (pt_B pu_var) (fun c7 => ?_) (fun c7 => ?_)
      · refine s_asgC (k_callC (k_var rfl (k_callC ⟨rfl, fun p3 np3 => ?_⟩)))
        have hE : H2 e.2.1 = some (.dK (kI e.2.2)) := he2
        have ne3 : e.2.1 ≠ p3 := ne_of_none hE np3
        refine ⟨_, _, e.2.2, [(2, -1), (-2, -1)], rfl, by rw [upd_ne ne3]; exact hE, upd_same, ne3, by omega, by simp, by decide, fun p4 np4 => ?_⟩
        have x3 := Ex.new (o := .dK (kI [(2, -1), (-2, -1)])) np3
        have x4 := Ex.new (o := .dK (kI (mulI e.2.2 [(2, -1), (-2, -1)]))) np4
        refine rest p4 _ _ (x3.trans x4) upd_same (fun e' he' z => ?_) (by rw [c7]; rfl)
        have h7 := x3 _ _ (fd2.ent e' he').1
        rw [z, np4] at h7; cases h7
      · refine rest e.2.1 _ _ (Ex.refl _) he2 (fun e' he' z => ?_) (by rw [c7]; rfl)
        have h7 := (fdE.ent e' he').2
        rw [z, hea] at h7; cases h7
    · obtain ⟨es, z5, z6, z7, z8, z9, z10, z11, z12, z13, rfl, exH, fdE, hm, hN, hes⟩ := p1
      rw [List.drop_eq_nil_of_le (by unfold dat; rw [List.length_map]; exact Nat.le_refl _)] at hm
      exact s_retP pu_var (kk f H' es exH fdE nf hm)
theorem nodup_sub {α : Type} [DecidableEq α] : ∀ (l m : List α), l.Nodup → (∀ x ∈ l, x ∈ m) → l.length ≤ m.length
  | [], m, _, _ => Nat.zero_le _
  | a :: l, m, nd, h => by
    rw [List.nodup_cons] at nd
    have ha := h a List.mem_cons_self
    have h2 := nodup_sub l (m.erase a) nd.2 (fun x hx => (List.mem_erase_of_ne (fun e => by subst e; exact nd.1 hx)).mpr (h x (List.mem_cons_of_mem _ hx)))
    rw [List.length_erase_of_mem ha] at h2
    have : 0 < m.length := List.length_pos_of_mem ha
    rw [List.length_cons]
    omega
theorem nst_len {n : Nat} (h1 : 1 ≤ n) (h6 : n ≤ 6) : (Nst n).length ≤ 132 := by
  have : n = 1 ∨ n = 2 ∨ n = 3 ∨ n = 4 ∨ n = 5 ∨ n = 6 := by omega
  rcases this with e | e | e | e | e | e <;> subst e <;> decide
/-- what stands with the nests behind i letters -/
structure GoodNS (n i : Nat) (ns : NS) : Prop where
  kd : (ns.map (·.1)).Nodup
  ent : ∀ e ∈ ns, e.1 ∈ Nst n ∧ Tidy e.2 ∧ Bp e.2 (3 * i : Nat) i
theorem addN_keys (f : NS) (k : List Int) (x : List (Int × Int)) (more : Int) (h : (f.map (·.1)).Nodup) : ((addN f k x more).map (·.1)).Nodup := by
  unfold addN
  split
  · rw [List.map_map]
    have : (fun e : List Int × List (Int × Int) => e.1) ∘ (fun e => if e.1 = k then (e.1, stepSum x more e.2) else e) = fun e => e.1 := by
      funext e
      simp only [Function.comp]
      split <;> rfl
    rw [this]
    exact h
  · rename_i z
    rw [List.map_append, List.nodup_append]
    refine ⟨h, by simp, fun a ha b hb e => ?_⟩
    obtain ⟨y, hy, rfl⟩ := List.mem_map.mp ha
    have hb2 : b = k := by simpa using hb
    exact z (List.any_eq_true.mpr ⟨y, hy, decide_eq_true (e.trans hb2)⟩)
theorem addN_ent {f : NS} {k : List Int} {x : List (Int × Int)} {more : Int} {P : List Int × List (Int × Int) → Prop} (h : ∀ e ∈ f, P e) (h1 : ∀ e ∈ f, e.1 = k → P (e.1, stepSum x more e.2)) (h2 : P (k, stepSum x more [])) : ∀ e ∈ addN f k x more, P e := by
  intro e he
  unfold addN at he
  split at he
  · obtain ⟨y, hy, rfl⟩ := List.mem_map.mp he
    by_cases z : y.1 = k
    · rw [if_pos z]; exact h1 y hy z
    · rw [if_neg z]; exact h y hy
  · rcases List.mem_append.mp he with z | z
    · exact h e z
    · rw [List.mem_singleton.mp z]; exact h2
theorem good_add {n i : Nat} {f : NS} {k : List Int} {x : List (Int × Int)} {more : Int} (g : GoodNS n i f) (hk : k ∈ Nst n) (hx : ∀ q ∈ x, -((3 * i : Nat) : Int) ≤ q.1 + more ∧ q.1 + more ≤ (3 * i : Nat) ∧ (q.1 + more - i) % 2 = 0) : GoodNS n i (addN f k x more) :=
  ⟨addN_keys f k x more g.kd, addN_ent g.ent (fun e he _ => ⟨(g.ent e he).1, tidy_foldput _ _ _ _ (g.ent e he).2.1, bp_foldput _ _ _ _ hx (g.ent e he).2.2⟩) ⟨hk, tidy_foldput _ _ _ _ tidy_nil, bp_foldput _ _ _ _ hx (bp_nil _ _)⟩⟩
theorem good_withE {n i : Nat} (h1 : 1 ≤ n) (h6 : n ≤ 6) {l : Int} (hl : ix l + 1 < n) {f : NS} {e : List Int × List (Int × Int)} (g : GoodNS n (i + 1) f) (he : e.1 ∈ Nst n ∧ Tidy e.2 ∧ Bp e.2 (3 * i : Nat) i) : GoodNS n (i + 1) (withE n l f e) := by
  obtain ⟨ha, ht, hb⟩ := he
  have w : wayOf l = 1 ∨ wayOf l = -1 := by unfold wayOf; split <;> simp
  unfold withE
  refine good_add (good_add g ha fun q hq => ?_) ((nst_at h1 h6 ha).2.2 _ hl) fun q hq => ?_
  · have := hb q.1 (List.mem_map.mpr ⟨q, hq, rfl⟩)
    rcases w with w | w <;> rw [w] <;> omega
  · have hb2 : Bp (if (hookN n (ix l) e.1).2 = true then mulI e.2 dlt else e.2) (3 * i + 2 : Nat) i := by
      split
      · have hd : Bp dlt 2 0 := by unfold Bp; decide
        exact bp_mono (bp_mul hb hd) (by omega) (by omega)
      · exact bp_mono hb (by omega) (by omega)
    have := hb2 q.1 (List.mem_map.mpr ⟨q, hq, rfl⟩)
    rcases w with w | w <;> rw [w] <;> omega
theorem good_withL {n i : Nat} (h1 : 1 ≤ n) (h6 : n ≤ 6) {l : Int} (hl : ix l + 1 < n) {ns : NS} (g : GoodNS n i ns) : GoodNS n (i + 1) (withL n l ns) := by
  have : ∀ (es f : NS), (∀ e ∈ es, e.1 ∈ Nst n ∧ Tidy e.2 ∧ Bp e.2 (3 * i : Nat) i) → GoodNS n (i + 1) f → GoodNS n (i + 1) (es.foldl (withE n l) f) := by
    intro es
    induction es with
    | nil => intro f _ g; exact g
    | cons e es ih =>
      intro f he g
      rw [List.foldl_cons]
      exact ih _ (fun x hx => he x (List.mem_cons_of_mem _ hx)) (good_withE h1 h6 hl g (he e List.mem_cons_self))
  exact this ns [] g.ent ⟨List.nodup_nil, fun e he => by cases he⟩
theorem good_len {n i : Nat} (h1 : 1 ≤ n) (h6 : n ≤ 6) {ns : NS} (g : GoodNS n i ns) : ns.length ≤ 132 := by
  have := nodup_sub (ns.map (·.1)) (Nst n) g.kd (fun x hx => by obtain ⟨e, he, rfl⟩ := List.mem_map.mp hx; exact (g.ent e he).1)
  rw [List.length_map] at this
  exact Nat.le_trans this (nst_len h1 h6)
def nestsFrom (n : Nat) (word : List Int) (ns : NS) : NS := word.foldl (fun ns l => withL n l ns) ns
def start0 (n : Nat) : NS := [(plainN n, [(0, 1)])]
def collN (n : Nat) (acc : List (Int × Int)) (e : List Int × List (Int × Int)) : List (Int × Int) :=
  (mulI e.2 (powI (loopsN n e.1 - 1))).foldl (fun acc q => putI acc q.1 (co (mulI e.2 (powI (loopsN n e.1 - 1))) q.1)) acc
def nestSum (n : Nat) (word : List Int) : List (Int × Int) := (nestsFrom n word (start0 n)).foldl (collN n) []
theorem good_start {n : Nat} (h1 : 1 ≤ n) (h6 : n ≤ 6) : GoodNS n 0 (start0 n) := by
  refine ⟨by unfold start0; simp, fun e he => ?_⟩
  have := List.mem_singleton.mp he
  subst this
  exact ⟨nst_plain h1 h6, show Tidy [(0, 1)] by unfold Tidy; decide, show Bp [(0, 1)] ((3 * 0 : Nat) : Int) ((0 : Nat) : Int) by unfold Bp; decide⟩
theorem good_coll {n i : Nat} (h1 : 1 ≤ n) (h6 : n ≤ 6) {ns : NS} (g : ∀ e ∈ ns, e.1 ∈ Nst n ∧ Tidy e.2 ∧ Bp e.2 (3 * i : Nat) i) : ∀ acc, Tidy acc → Bp acc (3 * i + 10 : Nat) i → Tidy (ns.foldl (collN n) acc) ∧ Bp (ns.foldl (collN n) acc) (3 * i + 10 : Nat) i := by
  induction ns with
  | nil => intro acc a b; exact ⟨a, b⟩
  | cons e ns ih =>
    intro acc a b
    rw [List.foldl_cons]
    obtain ⟨e1, e2, e3⟩ := g e List.mem_cons_self
    have hl := (nst_at h1 h6 e1).2.1.2
    have hb : Bp (mulI e.2 (powI (loopsN n e.1 - 1))) (3 * i + 10 : Nat) i := bp_mono (bp_mul e3 (bp_pow _)) (by omega) (by omega)
    refine ih (fun x hx => g x (List.mem_cons_of_mem _ hx)) _ (tidy_foldput _ _ _ _ a) (bp_foldput _ _ _ _ (fun q hq => ?_) b)
    exact hb q.1 (List.mem_map.mpr ⟨q, hq, rfl⟩)
theorem pow_small {k : Nat} (h : k ≤ 5) : ∀ q ∈ powI k, -(2 ^ 64) < co (powI k) q.1 ∧ co (powI k) q.1 < 2 ^ 64 := by
  have : k = 0 ∨ k = 1 ∨ k = 2 ∨ k = 3 ∨ k = 4 ∨ k = 5 := by omega
  rcases this with e | e | e | e | e | e <;> subst e <;> decide +kernel
theorem ex_frz {H2 H' : Hp} {d : Addr} {o : HO} (e : Ex H2 H') : Ex (upd H2 d o) (upd H' d o) := fun a u h => by
  by_cases z : a = d
  · rw [z, upd_same] at h ⊢; exact h
  · rw [upd_ne z] at h ⊢; exact e _ _ h
theorem ex_thaw {H2 H5 : Hp} {d : Addr} {o u : HO} (e : Ex (upd H2 d o) H5) (h : H2 d = some u) : Ex H2 (upd H5 d u) := fun a w ha => by
  by_cases z : a = d
  · rw [z, h] at ha; rw [z, upd_same]; exact ha
  · rw [upd_ne z]; exact e _ _ (by rw [upd_ne z]; exact ha)
def sp_by_nests (K : PySem.W.Frag) : Sp := fun vs H Q E =>
  ∃ (B : Hp) (pl wd : Addr) (n : Nat) (word : List Int), vs = [.ref pl] ∧ Ex B H ∧ SqT K B pl [.int (n : Int), .ref wd] ∧ SqT K B wd (word.map V.int) ∧ Good n word ∧ ∀ v B1 H1, Ext M0 B H B1 H1 → SumT B1 v (told (nestSum n word)) → Q v H1
abbrev N_by_nests : List Str := ["plait", "strands", "word", "nests", "letter", "found", "nest", "worth", "power"]
theorem sc_by_nests : FnScope N_by_nests ["plait"] (defScope s_by_nests) := ⟨rfl, rfl, rfl, by decide +kernel, rfl, by decide +kernel, by decide +kernel⟩
theorem ok_by_nests {P : Program} {w : World} {K : PySem.W.Frag} {mg : Str → Option Value} {base : Heap} {f : Addr} {fd : FuncData} (F : FnP K "by_nests" s_by_nests f fd) (Z : Bl mg) (c_looked : Cal P w K mg base "looked" ["plait"] 2 (sp_looked K)) (c_as_powers : Cal P w K mg base "as_powers" ["powers"] 1 (sp_as_powers K)) (c_plain_nest : Cal P w K mg base "plain_nest" ["strands"] 1 (sp_plain_nest K)) (c_with_letter : Cal P w K mg base "with_letter" ["nests", "strands", "letter"] 3 (sp_with_letter K)) (c_multiplied : Cal P w K mg base "multiplied" ["one", "other"] 2 (sp_multiplied K)) (c_loop_power : Cal P w K mg base "loop_power" ["times"] 3 (sp_loop_power K)) (c_put_to : Cal P w K mg base "put_to" ["found", "power", "count"] 1 (sp_put_to K)) (c_loops_in : Cal P w K mg base "loops_in" ["nest", "strands"] 1 (sp_loops_in K)) : FnOk P w K mg base CX0 4 f fd ["plait"] (sp_by_nests K) := by
  refine F.ok sc_by_nests (fun vs H Q E h => ?_) (fun cdv A outer s H vs Q E hr h => ?_)
  · obtain ⟨_, _, _, _, _, rfl, _⟩ := h
    rfl
  · refine ⟨_, PSs.nox (pss_cons (ps_expr (pe_cal c_looked (hr.mono (by decide)) rfl (pa_cons (pv 0) pa_nil)))
      (pss_cons (ps_asg (pv 0) (pg_tup (by rfl) (pgs_cons (pg_name (i := 1) sc_by_nests.nd rfl (Or.inl rfl)) (pgs_cons (pg_name (i := 2) sc_by_nests.nd rfl (Or.inl rfl)) pgs_nil))))
      (pss_cons (ps_set (i := 3) sc_by_nests.nd rfl (Or.inl rfl) (pe_disp1T (hu_of hr) (pe_cal c_plain_nest (hr.mono (by decide)) rfl (pa_cons (pv 1) pa_nil)) (pe_disp (pps_cons pe_int pe_int pps_nil) (by rfl) (by rfl) (fun z => by cases z) (by decide))))
      (pss_cons (ps_for PassesOwn.never rfl (pi_tup (pv 2)) (pg_name (i := 4) sc_by_nests.nd rfl (Or.inl rfl))
      (pss_one (ps_set (i := 3) sc_by_nests.nd rfl (Or.inl rfl) (pe_cal c_with_letter (hr.mono (by decide)) rfl (pa_cons (pv 3) (pa_cons (pv 1) (pa_cons (pv 4) pa_nil)))))))
      (pss_cons (ps_set (i := 5) sc_by_nests.nd rfl (Or.inl rfl) pe_dnewK)
      (pss_cons (ps_lock (ps_for PassesOwn.never rfl (pi_keys (pv 3)) (pg_name (i := 6) sc_by_nests.nd rfl (Or.inl rfl))
      (pss_cons (ps_set (i := 7) sc_by_nests.nd rfl (Or.inl rfl) (pe_cal c_multiplied (hr.mono (by decide)) rfl (pa_cons (pe_dget (hu_of hr) (pv 3) (pv 6) (fun _ _ => rfl)) (pa_cons (pe_cal c_loop_power (hr.mono (by decide)) rfl (pa_cons (pe_op op_sub (pe_cal c_loops_in (hr.mono (by decide)) rfl (pa_cons (pv 6) (pa_cons (pv 1) pa_nil))) pe_int) pa_nil)) pa_nil))))
      (pss_one (ps_lock (ps_for PassesOwn.never rfl (pi_keys (pv 7)) (pg_name (i := 8) sc_by_nests.nd rfl (Or.inl rfl))
      (pss_one (ps_expr (pe_cal c_put_to (hr.mono (by decide)) rfl (pa_cons (pv 5) (pa_cons (pv 8) (pa_cons (pe_dget (hu_of hr) (pv 7) (pv 8) (fun _ _ => rfl)) pa_nil))))))))))))
      (pss_one (ps_ret (pe_cal c_as_powers (hr.mono (by decide)) rfl (pa_cons (pv 5) pa_nil)))))))))), ?_⟩
    obtain ⟨B, pl, wd, n, word, rfl, bh, hp, hw, g, kk⟩ := h
    obtain ⟨g1, g2, g3, g4⟩ := id g
    have h1 : 1 ≤ n := by omega
    have h6 : n ≤ 6 := by omega
    have hL : Letters n word := g4
    refine q_dropC (k_call (pa_c pu_var pa_n) ⟨pl, wd, n, word, rfl, ex_t bh hp, ex_t bh hw, g, ?_⟩)
    refine q_asgT (k_var rfl ⟨pl, _, rfl, ex_t bh hp, rfl, _, _, rfl, _, _, rfl, rfl, ?_⟩)
    refine q_asgC ?_
    intro d0 nd0
    refine k_call (pa_c pu_var pa_n) ⟨_, n, rfl, Ex.refl _, h6, fun q0 B1 H1 e1 hq0 => ?_⟩
    intro p0 np0
    refine ⟨upd_same, kI [(0, 1)], rfl, by decide, ?_⟩
    rw [show mergeK [] (kI [(0, 1)]) = kI [(0, 1)] from by decide, upd_upd]
    have hd0 : H1 d0 = some (.dT []) := e1.ex _ _ upd_same
    have dp0 : d0 ≠ p0 := ne_of_none hd0 np0
    have qp0 : q0 ≠ p0 := ne_of_none (e1.bh _ _ hq0) np0
    refine ⟨by rw [upd_ne dp0]; exact hd0, (plainN n).map Sum.inl, q0, .ref p0, rfl, by rw [upd_ne qp0, kV_map]; exact e1.bh _ _ hq0, ?_⟩
    have ex1 : Ex H (upd (upd H1 p0 (.dK (kI [(0, 1)]))) d0 (.dT [((plainN n).map Sum.inl, .ref p0)])) := Ex.mut (((Ex.new (o := .dT []) nd0).trans e1.ex).trans (Ex.new np0)) nd0
    generalize hHa : upd (upd H1 p0 (.dK (kI [(0, 1)]))) d0 (.dT [((plainN n).map Sum.inl, .ref p0)]) = Ha at ex1
    have hda : Ha d0 = some (.dT (topT [(plainN n, p0, [(0, 1)])])) := by rw [← hHa]; exact upd_same
    have hpa : Ha p0 = some (.dK (kI [(0, 1)])) := by rw [← hHa, upd_ne dp0.symm]; exact upd_same
    refine q_forTP (xs := word.map V.int) pu_var (ex_t (bh.trans ex1) hw) (fun i σ' H' => ∃ d es z4 z5 z6 z7 z8, σ' = [some (.ref pl), some (.int n), some (.ref wd), some (.ref d), z4, z5, z6, z7, z8] ∧ Ex H H' ∧ H' d = some (.dT (topT es)) ∧ (∀ e ∈ es, H' e.2.1 = some (.dK (kI e.2.2))) ∧ GoodNS n i (dat es) ∧ nestsFrom n (word.drop i) (dat es) = nestsFrom n word (start0 n))
      ⟨d0, [(plainN n, p0, [(0, 1)])], none, none, none, none, none, rfl, ex1, hda, fun e he => by rw [List.mem_singleton.mp he]; exact hpa, good_start h1 h6, rfl⟩ (fun i σ' H' _ ⟨_, _, _, _, _, _, _, _, e, _⟩ => ex_t (bh.trans e) hw) (fun i x σ' H' hx p1 => ?_) (fun σ' H' p1 => ?_)
    · obtain ⟨d, es, z4, z5, z6, z7, z8, rfl, exH, hd, hes, gN, hm⟩ := p1
      obtain ⟨l, hl, rfl⟩ := get_int hx
      have hi := (List.getElem?_eq_some_iff.mp hl).1
      have gl := hL l (List.mem_of_getElem? hl)
      obtain ⟨x1, x2⟩ := ix_eq gl
      have memd : ∀ e ∈ es, (e.1, e.2.2) ∈ dat es := fun e he => List.mem_map.mpr ⟨e, he, rfl⟩
      have ln := good_len h1 h6 gN
      refine s_asgC (k_call (pa_c pu_var (pa_c pu_var (pa_c pu_var pa_n))) ⟨d, es, n, _, l, rfl, rfl, gl, h6, hd, fun e he => ⟨hes e he, (nst_at h1 h6 (gN.ent _ (memd e he)).1).1, ?_⟩, ?_, ?_, fun f H2 es2 ex2 fd2 nf2 hdat => ?_⟩)
      · have := bp_len (gN.ent _ (memd e he)).2.1 (gN.ent _ (memd e he)).2.2
        simp only at this
        omega
      · have := gN.kd
        unfold dat at this
        rw [List.map_map] at this
        exact this
      · unfold dat at ln
        rw [List.length_map] at ln
        omega
      · refine ⟨f, es2, _, _, _, _, _, rfl, exH.trans ex2, fd2.top, fun e he => (fd2.ent e he).1, by rw [hdat]; exact good_withL h1 h6 x2 gN, ?_⟩
        obtain ⟨hi2, el⟩ := List.getElem?_eq_some_iff.mp hl
        rw [List.drop_eq_getElem_cons hi2, el] at hm
        rw [hdat]
        exact hm
    · obtain ⟨d, es, z4, z5, z6, z7, z8, rfl, exH, hd, hes, gN, hm⟩ := p1
      rw [List.length_map] at gN
      rw [show (word.map V.int).length = word.length from List.length_map _, List.drop_length] at hm
      have hm2 : dat es = nestsFrom n word (start0 n) := hm
      have memd : ∀ e ∈ es, (e.1, e.2.2) ∈ dat es := fun e he => List.mem_map.mpr ⟨e, he, rfl⟩
      have kd0 : (es.map (·.1)).Nodup := by
        have := gN.kd
        unfold dat at this
        rw [List.map_map] at this
        exact this
      refine q_asgC ?_
      intro fd nf
      have df : d ≠ fd := ne_of_none hd nf
      refine q_forN (d := d) (es0 := es) (fun od => pu_var) (by rw [upd_ne df]; exact hd) (fun i σ2 H2 => ∃ acc z6 z7 z8, σ2 = [some (.ref pl), some (.int n), some (.ref wd), some (.ref d), z4, some (.ref fd), z6, z7, z8] ∧ Ex H' H2 ∧ H2 fd = some (.dK (kI acc)) ∧ Tidy acc ∧ Bp acc (3 * word.length + 10 : Nat) word.length ∧
        ((dat es).drop i).foldl (collN n) acc = nestSum n word) ⟨[], z6, z7, z8, rfl, Ex.new nf, upd_same, tidy_nil, bp_nil _ _, by rw [List.drop_zero, hm2]; rfl⟩
        (fun i σ2 H2 ⟨_, _, _, _, _, e, _⟩ => e _ _ hd) (fun i e q σ2 H2 od D' hi p2 hq kn => ?_) (fun σ2 H2 p2 => ?_)
      · obtain ⟨acc, z6, z7, z8, rfl, ex2, hf2, ht, hb, hm3⟩ := p2
        have hmem := List.mem_of_getElem? hi
        obtain ⟨ge1, ge2, ge3⟩ := gN.ent _ (memd e hmem)
        obtain ⟨na, nb, _⟩ := nst_at h1 h6 ge1
        simp only at na nb ge2 ge3
        have qd : q ≠ d := fun z => by rw [z, ex2 _ _ hd] at hq; cases hq
        have ed : e.2.1 ≠ d := fun z => by have h := hes e hmem; rw [z, hd] at h; cases h
        have hea : upd H2 d (.frz od (.dT (topT es))) e.2.1 = some (.dK (kI e.2.2)) := by rw [upd_ne ed]; exact ex2 _ _ (hes e hmem)
        have hqb : upd H2 d (.frz od (.dT (topT es))) q = some (.tup (e.1.map V.int)) := by rw [upd_ne qd]; exact hq
        refine q_asgC (k_callC (k_cons ⟨_, rfl, _, rfl, d, _, rfl, .inr ⟨topT es, e.1.map Sum.inl, q, .inr ⟨od, upd_same⟩, rfl, by rw [kV_map]; exact hqb, by rw [val_top, find_nd kd0 hmem]; rfl⟩, ?_⟩))
        refine k_cons (k_callC (k_cons (k_op (k_call (pa_c pu_var (pa_c pu_var pa_n)) ⟨q, _, n, _, _, rfl, rfl, hqb, na, h1, h6, nb.1, fun H3 e3 => ?_⟩))))
        refine ⟨_, _, rfl, rfl, loopsN n e.1 - 1, ?_, by omega, fun W H4 e4 nW hW => ?_⟩
        · show [V.int (((loopsN n e.1 : Nat) : Int) - 1)] ++ [] = _
          rw [List.append_nil]
          congr 2
          omega
        have exW : Ex (upd H2 d (.frz od (.dT (topT es)))) H4 := e3.trans e4
        have eW : e.2.1 ≠ W := ne_of_none (e3 _ _ hea) nW
        have hpl := pow_len (loopsN n e.1 - 1)
        have he9 := bp_len ge2 ge3
        refine ⟨_, _, e.2.2, powI (loopsN n e.1 - 1), rfl, exW _ _ hea, hW, eW, by omega, by omega, pow_small (by omega), fun M nM => ?_⟩
        have exM : Ex (upd H2 d (.frz od (.dT (topT es)))) (upd H4 M (.dK (kI (mulI e.2.2 (powI (loopsN n e.1 - 1)))))) := exW.trans (Ex.new nM)
        have hfb : upd H2 d (.frz od (.dT (topT es))) fd = some (.dK (kI acc)) := by rw [upd_ne df.symm]; exact hf2
        have fM : fd ≠ M := ne_of_none (exW _ _ hfb) nM
        have exF : Ex (upd H' d (.frz od (.dT (topT es)))) (upd H4 M (.dK (kI (mulI e.2.2 (powI (loopsN n e.1 - 1)))))) := (ex_frz ex2).trans exM
        have nf2 : upd H' d (.frz od (.dT (topT es))) fd = none := by rw [upd_ne df.symm]; exact nf
        have nM2 : upd H' d (.frz od (.dT (topT es))) M = none := fresh_back ((ex_frz ex2).trans exW) nM
        have lacc := bp_len ht hb
        have lmu : (mulI e.2.2 (powI (loopsN n e.1 - 1))).length ≤ 300 * 900 := by
          have a := mul_len e.2.2 (powI (loopsN n e.1 - 1))
          have b : e.2.2.length * (powI (loopsN n e.1 - 1)).length ≤ 300 * 900 := Nat.mul_le_mul (by omega) (by omega)
          omega
        refine s_forD (d := M) (kvs := mulI e.2.2 (powI (loopsN n e.1 - 1))) (fun od => pu_var) upd_same (fun j σ3 H5 => ∃ acc' z8, σ3 = [some (.ref pl), some (.int n), some (.ref wd), some (.ref d), z4, some (.ref fd), some (.ref q), some (.ref M), z8] ∧ Ex (upd H' d (.frz od (.dT (topT es)))) H5 ∧
          H5 M = some (.dK (kI (mulI e.2.2 (powI (loopsN n e.1 - 1))))) ∧ H5 fd = some (.dK (kI acc')) ∧ acc'.length ≤ acc.length + j ∧
          ((mulI e.2.2 (powI (loopsN n e.1 - 1))).drop j).foldl (fun acc q => putI acc q.1 (co (mulI e.2.2 (powI (loopsN n e.1 - 1))) q.1)) acc' = collN n acc (e.1, e.2.2))
          ⟨acc, z8, rfl, exF, upd_same, by rw [upd_ne fM]; exact exW _ _ hfb, Nat.le_refl _, rfl⟩ (fun j σ3 H5 ⟨_, _, _, _, e, _⟩ => e) (fun j r σ3 H5 od2 D2 hr2 p3 kn2 => ?_) (fun σ3 H5 p3 => ?_)
        · obtain ⟨acc', z8, rfl, ex5, hM5, hf5, hl5, hm5⟩ := p3
          have hj := (List.getElem?_eq_some_iff.mp hr2).1
          have hf6 : upd H5 M (.frz od2 (.dK (kI (mulI e.2.2 (powI (loopsN n e.1 - 1)))))) fd = some (.dK (kI acc')) := by rw [upd_ne fM]; exact hf5
          refine s_dropC (k_call (pa_c pu_var (pa_c pu_var (pa_c (pu_dget pu_var pu_var (.inr ⟨_, upd_same⟩) (kI_get hr2)) pa_n))) ⟨fd, acc', _, _, rfl, hf6, by omega, ?_⟩)
          have e9 := kn2 [some (.ref pl), some (.int n), some (.ref wd), some (.ref d), z4, some (.ref fd), some (.ref q), some (.ref M), some (.int r.1)]
            (upd H5 fd (.dK (kI (putI acc' r.1 (co (mulI e.2.2 (powI (loopsN n e.1 - 1))) r.1)))))
            ⟨_, _, rfl, Ex.mut ex5 nf2, by rw [upd_ne fM.symm]; exact hM5, upd_same, ?_, fold_turn hr2 hm5⟩
          · rw [upd_comm fM.symm]
            exact e9
          · have := putI_len acc' r.1 (co (mulI e.2.2 (powI (loopsN n e.1 - 1))) r.1)
            omega
        · obtain ⟨acc', z8, rfl, ex5, hM5, hf5, hl5, hm5⟩ := p3
          have hm6 := fold_end hm5
          subst hm6
          have hd5 : H5 d = some (.frz od (.dT (topT es))) := ex5 _ _ upd_same
          obtain ⟨t2, b2⟩ := good_coll h1 h6 (ns := [(e.1, e.2.2)]) (i := word.length) (fun x hx => by rw [List.mem_singleton.mp hx]; exact gN.ent _ (memd e hmem)) acc ht hb
          have e7 := kn [some (.ref pl), some (.int n), some (.ref wd), some (.ref d), z4, some (.ref fd), some (.ref q), some (.ref M), z8] (upd H5 d (.dT (topT es))) ⟨collN n acc (e.1, e.2.2), _, _, _, rfl, ex_thaw ex5 hd, by rw [upd_ne df.symm]; exact hf5, t2, b2, fold_turn (dat_drop hi) hm3⟩
          rw [upd_upd, upd_self hd5] at e7
          exact e7
      · obtain ⟨acc, z6, z7, z8, rfl, ex2, hf2, ht, hb, hm3⟩ := p2
        have hm4 : acc = nestSum n word := by
          rw [List.drop_eq_nil_of_le (by unfold dat; rw [List.length_map]; exact Nat.le_refl _)] at hm3
          exact hm3
        have lb := bp_len ht hb
        rw [← hm4] at kk
        refine s_retC (k_call (pa_c pu_var pa_n) ⟨B, fd, acc, rfl, bh.trans (exH.trans ex2), hf2, by omega, fun v B1 H1 e1 hv => ?_⟩)
        exact kk v B1 H1 ((Ext.of bh (exH.trans ex2)).trans e1) hv
/-! ### what the sums mean -/
theorem told_ext {x y : List (Int × Int)} (hx : Tidy x) (hy : Tidy y) (h : ∀ j, co x j = co y j) : told x = told y := by
  have p : (keysI x).Perm (keysI y) := (List.perm_ext_iff_of_nodup hx.1 hy.1).mpr fun j => by rw [tidy_mem hx, tidy_mem hy, h j]
  have e : srt (keysI x) = srt (keysI y) := srt_is ((srt_perm _).trans p) (srt_up _)
  unfold told
  rw [e]
  exact List.map_congr_left fun j _ => by rw [h j]
def sumL {α : Type} (l : List α) (f : α → Int) : Int := l.foldr (fun a s => f a + s) 0
theorem sumL_nil {α : Type} (f : α → Int) : sumL [] f = 0 := rfl
theorem sumL_cons {α : Type} (a : α) (l : List α) (f : α → Int) : sumL (a :: l) f = f a + sumL l f := rfl
theorem sumL_app {α : Type} (l m : List α) (f : α → Int) : sumL (l ++ m) f = sumL l f + sumL m f := by
  induction l with
  | nil => rw [List.nil_append, sumL_nil, Int.zero_add]
  | cons a l ih => rw [List.cons_append, sumL_cons, sumL_cons, ih, Int.add_assoc]
theorem sumL_congr {α : Type} {l : List α} {f g : α → Int} (h : ∀ a ∈ l, f a = g a) : sumL l f = sumL l g := by
  induction l with
  | nil => rfl
  | cons a l ih => rw [sumL_cons, sumL_cons, h a List.mem_cons_self, ih fun b hb => h b (List.mem_cons_of_mem _ hb)]
theorem sumL_add {α : Type} (l : List α) (f g : α → Int) : sumL l (fun a => f a + g a) = sumL l f + sumL l g := by
  induction l with
  | nil => rfl
  | cons a l ih => rw [sumL_cons, sumL_cons, sumL_cons, ih]; omega
theorem sumL_neg {α : Type} (l : List α) (f : α → Int) : sumL l (fun a => - f a) = - sumL l f := by
  induction l with
  | nil => rfl
  | cons a l ih => rw [sumL_cons, sumL_cons, ih]; omega
theorem sumL_mul {α : Type} (l : List α) (c : Int) (f : α → Int) : sumL l (fun a => c * f a) = c * sumL l f := by
  induction l with
  | nil => rw [sumL_nil, sumL_nil, Int.mul_zero]
  | cons a l ih => rw [sumL_cons, sumL_cons, ih, Int.mul_add]
theorem sumL_map {α β : Type} (l : List α) (h : α → β) (f : β → Int) : sumL (l.map h) f = sumL l fun a => f (h a) := by
  induction l with
  | nil => rfl
  | cons a l ih => rw [List.map_cons, sumL_cons, sumL_cons, ih]
theorem sumL_zero {α : Type} {l : List α} {f : α → Int} (h : ∀ a ∈ l, f a = 0) : sumL l f = 0 := by
  rw [sumL_congr h]
  induction l with
  | nil => rfl
  | cons a l ih => rw [sumL_cons, ih fun b hb => h b (List.mem_cons_of_mem _ hb)]; rfl
/-- a sum's counts, each times what g tells of its power -/
def lin (x : List (Int × Int)) (g : Int → Int) : Int := sumL x fun q => q.2 * g q.1
theorem lin_del (x : List (Int × Int)) (p : Int) (g : Int → Int) (h : (keysI x).Nodup) : lin (delI x p) g = lin x g - co x p * g p := by
  induction x with
  | nil => simp [lin, delI, sumL, co]
  | cons q x ih =>
    obtain ⟨a, c⟩ := q
    have h2 : a ∉ keysI x ∧ (keysI x).Nodup := by
      unfold keysI at h ⊢
      rw [List.map_cons, List.nodup_cons] at h
      exact h
    have ih' := ih h2.2
    unfold lin delI at ih' ⊢
    rw [List.filter_cons]
    by_cases e : a = p
    · subst e
      rw [if_neg (by simp), ih', sumL_cons, co_not h2.1]
      show _ = c * g a + _ - (if a = a then c else co x a) * g a
      rw [if_pos rfl]
      omega
    · rw [if_pos (by simp [e]), sumL_cons, sumL_cons, ih']
      show _ = _ - (if a = p then c else co x p) * g p
      rw [if_neg e]
      omega
theorem lin_set0 (x : List (Int × Int)) (p c : Int) (g : Int → Int) (h : (keysI x).Nodup) (hh : hasI x p = true) : lin (x.map fun q => if q.1 = p then (q.1, c) else q) g = lin x g + (c - co x p) * g p := by
  induction x with
  | nil => cases hh
  | cons q x ih =>
    obtain ⟨a, d⟩ := q
    have h2 : a ∉ keysI x ∧ (keysI x).Nodup := by
      unfold keysI at h ⊢
      rw [List.map_cons, List.nodup_cons] at h
      exact h
    rw [List.map_cons]
    by_cases e : a = p
    · subst e
      have hm : x.map (fun q => if q.1 = a then (q.1, c) else q) = x := by
        have : ∀ q ∈ x, (if q.1 = a then (q.1, c) else q) = q := fun q hq => by
          rw [if_neg]
          intro z
          exact h2.1 (List.mem_map.mpr ⟨q, hq, z⟩)
        rw [List.map_congr_left this, List.map_id']
      rw [if_pos rfl, hm]
      unfold lin
      rw [sumL_cons, sumL_cons]
      show c * g a + _ = d * g a + _ + (c - (if a = a then d else co x a)) * g a
      rw [if_pos rfl, Int.sub_mul]
      omega
    · rw [if_neg e]
      have hh2 : hasI x p = true := by
        unfold hasI at hh ⊢
        rw [List.any_cons, Bool.or_eq_true] at hh
        rcases hh with z | z
        · exact absurd (of_decide_eq_true z) e
        · exact z
      have ih' := ih h2.2 hh2
      unfold lin at ih' ⊢
      rw [sumL_cons, sumL_cons, ih']
      show _ = _ + (c - (if a = p then d else co x p)) * g p
      rw [if_neg e]
      omega
theorem lin_set (x : List (Int × Int)) (p c : Int) (g : Int → Int) (h : (keysI x).Nodup) : lin (setI x p c) g = lin x g + (c - co x p) * g p := by
  by_cases hh : hasI x p = true
  · unfold setI
    rw [if_pos hh]
    exact lin_set0 x p c g h hh
  · unfold setI
    rw [if_neg hh]
    have hp : co x p = 0 := co_not fun z => hh ((hasI_iff _ _).mpr z)
    unfold lin
    rw [sumL_app, sumL_cons, sumL_nil, hp]
    simp
theorem lin_put (x : List (Int × Int)) (p c : Int) (g : Int → Int) (h : (keysI x).Nodup) : lin (putI x p c) g = lin x g + c * g p := by
  unfold putI
  split
  · rename_i z
    rw [lin_del _ _ _ (nd_set h _ _), lin_set _ _ _ _ h, co_set, if_pos rfl, z]
    have : c = - co x p := by omega
    subst this
    rw [Int.zero_sub, Int.zero_mul]
    omega
  · rw [lin_set _ _ _ _ h]
    congr 1
    congr 1
    omega
theorem lin_foldput {τ : Type} (a c : τ → Int) (g : Int → Int) : ∀ (l : List τ) (x : List (Int × Int)), Tidy x → lin (l.foldl (fun acc q => putI acc (a q) (c q)) x) g = lin x g + sumL l fun q => c q * g (a q)
  | [], x, _ => by rw [List.foldl_nil, sumL_nil, Int.add_zero]
  | q :: l, x, h => by
    rw [List.foldl_cons, lin_foldput a c g l _ (tidy_put h _ _), lin_put _ _ _ _ h.1, sumL_cons]
    omega
theorem lin_co {x : List (Int × Int)} (h : Tidy x) (g : Int → Int) : (sumL x fun q => co x q.1 * g q.1) = lin x g := sumL_congr fun q hq => by rw [co_mem h.1 hq]
theorem co_lin {x : List (Int × Int)} (h : Tidy x) (j : Int) : co x j = lin x fun p => if j = p then 1 else 0 := by
  replace h := h.1
  induction x with
  | nil => rfl
  | cons q x ih =>
    obtain ⟨a, c⟩ := q
    have h2 : a ∉ keysI x ∧ (keysI x).Nodup := by
      unfold keysI at h ⊢
      rw [List.map_cons, List.nodup_cons] at h
      exact h
    have ih' := ih h2.2
    unfold lin at ih' ⊢
    rw [sumL_cons]
    show (if a = j then c else co x j) = c * (if j = a then 1 else 0) + _
    by_cases e : a = j
    · subst e
      rw [if_pos rfl, if_pos rfl, ← ih', co_not h2.1]
      omega
    · rw [if_neg e, if_neg (Ne.symm e), ih']
      omega
theorem lin_congr {x : List (Int × Int)} {f g : Int → Int} (h : ∀ p, f p = g p) : lin x f = lin x g := by rw [show f = g from funext h]
theorem lin_add (x : List (Int × Int)) (f g : Int → Int) : lin x (fun p => f p + g p) = lin x f + lin x g := by
  unfold lin
  rw [← sumL_add]
  exact sumL_congr fun q _ => Int.mul_add _ _ _
theorem lin_neg (x : List (Int × Int)) (f : Int → Int) : lin x (fun p => - f p) = - lin x f := by
  unfold lin
  rw [← sumL_neg]
  exact sumL_congr fun q _ => Int.mul_neg _ _
/-- the sum of a product -/
theorem lin_mul {x y : List (Int × Int)} (hx : Tidy x) (hy : Tidy y) (g : Int → Int) : lin (mulI x y) g = lin x fun p => lin y fun r => g (p + r) := by
  have key : ∀ (l acc : List (Int × Int)), Tidy acc → lin (l.foldl (fun acc q => y.foldl (fun acc r => putI acc (q.1 + r.1) (co x q.1 * co y r.1)) acc) acc) g = lin acc g + sumL l fun q => co x q.1 * lin y fun r => g (q.1 + r) := by
    intro l
    induction l with
    | nil => intro acc _; rw [List.foldl_nil, sumL_nil, Int.add_zero]
    | cons q l ih =>
      intro acc ha
      rw [List.foldl_cons, ih _ (tidy_mul1 x y q y acc ha), lin_foldput _ _ _ _ _ ha, sumL_cons]
      have : (sumL y fun r => co x q.1 * co y r.1 * g (q.1 + r.1)) = co x q.1 * lin y fun r => g (q.1 + r) := by
        rw [← lin_co hy]
        generalize co x q.1 = c
        generalize hz : (fun r : Int × Int => co y r.1 * g (q.1 + r.1)) = z
        have : (fun r : Int × Int => c * co y r.1 * g (q.1 + r.1)) = fun r => c * z r := by rw [← hz]; funext r; rw [Int.mul_assoc]
        rw [this]
        exact sumL_mul _ _ _
      rw [this]
      omega
  have h := key x [] tidy_nil
  rw [lin_co hx (fun p => lin y fun r => g (p + r))] at h
  rw [show lin [] g = 0 from rfl, Int.zero_add] at h
  exact h

abbrev Pw := Int → Int
def d0 : Pw := fun j => if j = 0 then 1 else 0
/-- a loop more -/
def dl (f : Pw) : Pw := fun j => - f (j - 2) - f (j + 2)
def dlN : Nat → Pw → Pw
  | 0, f => f
  | n + 1, f => dl (dlN n f)
theorem dlN_zero (f : Pw) : dlN 0 f = f := rfl
theorem dlN_succ (n : Nat) (f : Pw) : dlN (n + 1) f = dl (dlN n f) := rfl
theorem dlN_comm (n : Nat) (f : Pw) : dlN n (dl f) = dl (dlN n f) := by
  induction n with
  | zero => rfl
  | succ n ih => rw [dlN_succ, dlN_succ, ih]
theorem lin_dlt (g : Int → Int) (p : Int) : (lin dlt fun r => g (p + r)) = - g (p + 2) - g (p - 2) := by
  show (-1) * g (p + 2) + ((-1) * g (p + -2) + 0) = _
  rw [show p + -2 = p - 2 by omega]
  omega
theorem tidy_dlt : Tidy dlt := by unfold Tidy; decide
theorem lin_mul_dlt {x : List (Int × Int)} (hx : Tidy x) (g : Int → Int) : lin (mulI x dlt) g = lin x fun p => - g (p + 2) - g (p - 2) := by
  rw [lin_mul hx tidy_dlt]
  exact lin_congr fun p => lin_dlt g p
theorem dl_ev (f : Pw) (h : ∀ j, f (-j) = f j) (j : Int) : dl f (-j) = dl f j := by
  unfold dl
  have h1 := h (j + 2)
  have h2 := h (j - 2)
  rw [show -j - 2 = -(j + 2) by omega, show -j + 2 = -(j - 2) by omega, h1, h2]
  omega
theorem dlN_ev (n : Nat) (j : Int) : dlN n d0 (-j) = dlN n d0 j := by
  induction n generalizing j with
  | zero => unfold dlN d0; by_cases h : j = 0 <;> simp [h]
  | succ n ih => exact dl_ev _ ih j
theorem lin_pow (n : Nat) (g : Int → Int) : lin (powI (n + 1)) g = lin (powI n) fun p => - g (p + 2) - g (p - 2) := lin_mul_dlt (tidy_pow n) g
theorem lin_pow_at (n : Nat) (j : Int) : (lin (powI n) fun p => d0 (j - p)) = dlN n d0 j := by
  induction n generalizing j with
  | zero => show 1 * d0 (j - 0) + 0 = d0 j; rw [Int.sub_zero]; omega
  | succ n ih =>
    rw [lin_pow, show (fun p => - d0 (j - (p + 2)) - d0 (j - (p - 2))) = fun p => - d0 (j - 2 - p) + - d0 (j + 2 - p) from funext fun p => by rw [show j - (p + 2) = j - 2 - p by omega, show j - (p - 2) = j + 2 - p by omega]; omega]
    rw [lin_add, lin_neg, lin_neg, ih, ih]
    show _ = - dlN n d0 (j - 2) - dlN n d0 (j + 2)
    omega
theorem co_pow (n : Nat) (j : Int) : co (powI n) j = dlN n d0 j := by
  rw [co_lin (tidy_pow n), ← lin_pow_at]
  exact lin_congr fun p => by unfold d0; by_cases h : j = p <;> simp [h] <;> omega
/-- the sum over states from a nest on -/
def G (n : Nat) : List Int → List Int → Pw
  | [], nest => dlN (loopsN n nest - 1) d0
  | l :: r, nest => fun j => G n r nest (j - wayOf l) + (if (hookN n (ix l) nest).2 = true then dl (G n r (hookN n (ix l) nest).1) else G n r (hookN n (ix l) nest).1) (j + wayOf l)
def Wn (n : Nat) (word : List Int) (ns : NS) (j : Int) : Int := sumL ns fun e => lin e.2 fun p => G n word e.1 (j - p)
theorem lin_step {x acc : List (Int × Int)} (hx : Tidy x) (ha : Tidy acc) (more : Int) (g : Int → Int) : lin (stepSum x more acc) g = lin acc g + lin x fun p => g (p + more) := by
  unfold stepSum
  rw [lin_foldput (fun q => q.1 + more) (fun q => co x q.1) g x acc ha, ← lin_co hx (fun p => g (p + more))]
theorem sum_addN {f : NS} {k : List Int} {x : List (Int × Int)} {more : Int} (h : List Int → Int → Int) (kd : (f.map (·.1)).Nodup) (ht : ∀ e ∈ f, Tidy e.2) (hx : Tidy x) :
    (sumL (addN f k x more) fun e => lin e.2 (h e.1)) = (sumL f fun e => lin e.2 (h e.1)) + lin x fun p => h k (p + more) := by
  unfold addN
  by_cases hk : (f.any fun e => decide (e.1 = k)) = true
  · rw [if_pos hk, sumL_map]
    induction f with
    | nil => cases hk
    | cons e f ih =>
      rw [List.map_cons, List.nodup_cons] at kd
      rw [sumL_cons, sumL_cons]
      by_cases z : e.1 = k
      · rw [if_pos z]
        have rest : (sumL f fun e => lin (if e.1 = k then (e.1, stepSum x more e.2) else e).2 (h (if e.1 = k then (e.1, stepSum x more e.2) else e).1)) = sumL f fun e => lin e.2 (h e.1) := sumL_congr fun y hy => by
          rw [if_neg]
          intro w
          exact kd.1 (List.mem_map.mpr ⟨y, hy, w.trans z.symm⟩)
        rw [rest]
        show lin (stepSum x more e.2) (h e.1) + _ = _
        rw [lin_step hx (ht e List.mem_cons_self), z]
        omega
      · rw [if_neg z]
        have hk2 : (f.any fun e => decide (e.1 = k)) = true := by
          rw [List.any_cons, Bool.or_eq_true] at hk
          rcases hk with w | w
          · exact absurd (of_decide_eq_true w) z
          · exact w
        rw [ih kd.2 (fun y hy => ht y (List.mem_cons_of_mem _ hy)) hk2]
        omega
  · rw [if_neg hk, sumL_app, sumL_cons, sumL_nil]
    show _ + (lin (stepSum x more []) (h k) + 0) = _
    rw [lin_step hx tidy_nil]
    show _ + (0 + _ + 0) = _
    omega
theorem Wn_withE {n i : Nat} (h1 : 1 ≤ n) (h6 : n ≤ 6) {l : Int} (hl : ix l + 1 < n) {f : NS} {e : List Int × List (Int × Int)} (g : GoodNS n (i + 1) f) (he : e.1 ∈ Nst n ∧ Tidy e.2 ∧ Bp e.2 (3 * i : Nat) i) (r : List Int) (j : Int) :
    Wn n r (withE n l f e) j = Wn n r f j + lin e.2 fun p => G n (l :: r) e.1 (j - p) := by
  obtain ⟨ha, ht, hb⟩ := he
  have w : wayOf l = 1 ∨ wayOf l = -1 := by unfold wayOf; split <;> simp
  have g2 : GoodNS n (i + 1) (addN f e.1 e.2 (wayOf l)) := good_add g ha fun q hq => by
    have := hb q.1 (List.mem_map.mpr ⟨q, hq, rfl⟩)
    rcases w with w | w <;> rw [w] <;> omega
  have tx : Tidy (if (hookN n (ix l) e.1).2 = true then mulI e.2 dlt else e.2) := by
    split
    · exact tidy_mul _ _
    · exact ht
  unfold Wn withE
  rw [sum_addN (fun nest p => G n r nest (j - p)) g2.kd (fun e he => (g2.ent e he).2.1) tx, sum_addN (fun nest p => G n r nest (j - p)) g.kd (fun e he => (g.ent e he).2.1) ht, Int.add_assoc]
  congr 1
  show _ = lin e.2 fun p => G n r e.1 (j - p - wayOf l) + (if (hookN n (ix l) e.1).2 = true then dl (G n r (hookN n (ix l) e.1).1) else G n r (hookN n (ix l) e.1).1) (j - p + wayOf l)
  rw [lin_add]
  congr 1
  · exact lin_congr fun p => by rw [show j - (p + wayOf l) = j - p - wayOf l by omega]
  · split
    · rw [lin_mul_dlt ht]
      refine lin_congr fun p => ?_
      show _ = - G n r _ (j - p + wayOf l - 2) - G n r _ (j - p + wayOf l + 2)
      rw [show j - (p + 2 + (0 - wayOf l)) = j - p + wayOf l - 2 by omega, show j - (p - 2 + (0 - wayOf l)) = j - p + wayOf l + 2 by omega]
    · exact lin_congr fun p => by rw [show j - (p + (0 - wayOf l)) = j - p + wayOf l by omega]
theorem Wn_withL {n i : Nat} (h1 : 1 ≤ n) (h6 : n ≤ 6) {l : Int} (hl : ix l + 1 < n) {ns : NS} (g : GoodNS n i ns) (r : List Int) (j : Int) : Wn n r (withL n l ns) j = Wn n (l :: r) ns j := by
  have : ∀ (es f : NS), (∀ e ∈ es, e.1 ∈ Nst n ∧ Tidy e.2 ∧ Bp e.2 (3 * i : Nat) i) → GoodNS n (i + 1) f → Wn n r (es.foldl (withE n l) f) j = Wn n r f j + Wn n (l :: r) es j := by
    intro es
    induction es with
    | nil => intro f _ g; rw [List.foldl_nil]; show _ = _ + 0; omega
    | cons e es ih =>
      intro f he g
      rw [List.foldl_cons, ih _ (fun x hx => he x (List.mem_cons_of_mem _ hx)) (good_withE h1 h6 hl g (he e List.mem_cons_self)), Wn_withE h1 h6 hl g (he e List.mem_cons_self), Int.add_assoc]
      rfl
  rw [withL, this ns [] g.ent ⟨List.nodup_nil, fun e he => by cases he⟩]
  show 0 + _ = _
  omega
theorem good_from {n : Nat} (h1 : 1 ≤ n) (h6 : n ≤ 6) : ∀ (word : List Int) (i : Nat) (ns : NS), Letters n word → GoodNS n i ns → GoodNS n (i + word.length) (nestsFrom n word ns)
  | [], i, ns, _, g => g
  | l :: r, i, ns, hL, g => by
    have h := good_from h1 h6 r (i + 1) (withL n l ns) (fun x hx => hL x (List.mem_cons_of_mem _ hx)) (good_withL h1 h6 (ix_eq (hL l List.mem_cons_self)).2 g)
    rw [List.length_cons, show i + (r.length + 1) = i + 1 + r.length by omega]
    exact h
theorem Wn_from {n : Nat} (h1 : 1 ≤ n) (h6 : n ≤ 6) : ∀ (word : List Int) (i : Nat) (ns : NS) (r : List Int) (j : Int), Letters n word → GoodNS n i ns → Wn n r (nestsFrom n word ns) j = Wn n (word ++ r) ns j
  | [], i, ns, r, j, _, g => rfl
  | l :: w, i, ns, r, j, hL, g => by
    have hl := (ix_eq (hL l List.mem_cons_self)).2
    show Wn n r (nestsFrom n w (withL n l ns)) j = Wn n (l :: (w ++ r)) ns j
    rw [Wn_from h1 h6 w (i + 1) _ r j (fun x hx => hL x (List.mem_cons_of_mem _ hx)) (good_withL h1 h6 hl g), Wn_withL h1 h6 hl g]
theorem co_coll {n i : Nat} (h1 : 1 ≤ n) (h6 : n ≤ 6) (j : Int) : ∀ (ns : NS) (acc : List (Int × Int)), (∀ e ∈ ns, e.1 ∈ Nst n ∧ Tidy e.2 ∧ Bp e.2 (3 * i : Nat) i) → Tidy acc → co (ns.foldl (collN n) acc) j = co acc j + Wn n [] ns j
  | [], acc, _, _ => by show _ = _ + 0; rw [List.foldl_nil]; omega
  | e :: ns, acc, g, h => by
    have he := (g e List.mem_cons_self).2.1
    have tc : Tidy (collN n acc e) := tidy_foldput _ _ _ _ h
    rw [List.foldl_cons, co_coll h1 h6 j ns _ (fun x hx => g x (List.mem_cons_of_mem _ hx)) tc]
    show _ = co acc j + (lin e.2 (fun p => dlN (loopsN n e.1 - 1) d0 (j - p)) + Wn n [] ns j)
    have e1 : co (collN n acc e) j = co acc j + lin e.2 (fun p => dlN (loopsN n e.1 - 1) d0 (j - p)) := by
      rw [co_lin tc, co_lin h]
      unfold collN
      rw [lin_foldput (fun q : Int × Int => q.1) (fun q => co (mulI e.2 (powI (loopsN n e.1 - 1))) q.1) _ _ _ h]
      congr 1
      rw [lin_co (tidy_mul _ _) (fun p => if j = p then 1 else 0), lin_mul he (tidy_pow _)]
      refine lin_congr fun p => ?_
      rw [← lin_pow_at]
      exact lin_congr fun r => by unfold d0; by_cases z : j = p + r <;> simp [z] <;> omega
    rw [e1]
    omega
/-- the sum told letter by letter -/
theorem co_nest {n : Nat} (h1 : 1 ≤ n) (h6 : n ≤ 6) {word : List Int} (hL : Letters n word) (j : Int) : co (nestSum n word) j = G n word (plainN n) j := by
  have g := good_from h1 h6 word 0 (start0 n) hL (good_start h1 h6)
  unfold nestSum
  rw [co_coll h1 h6 j _ [] g.ent tidy_nil, Wn_from h1 h6 word 0 _ [] j hL (good_start h1 h6), List.append_nil]
  show 0 + (1 * G n word (plainN n) (j - 0) + 0 + 0) = _
  rw [Int.sub_zero]
  omega
theorem tidy_nest {n : Nat} (h1 : 1 ≤ n) (h6 : n ≤ 6) {word : List Int} (hL : Letters n word) : Tidy (nestSum n word) :=
  (good_coll h1 h6 (good_from h1 h6 word 0 (start0 n) hL (good_start h1 h6)).ent [] tidy_nil (bp_nil _ _)).1
theorem stN_half (n num : Nat) : ∀ (word : List Int) (i : Nat) (acc : List Int × Int), stN n num (i + 1) word acc = stN n (num / 2) i word acc
  | [], i, acc => rfl
  | l :: r, i, acc => by
    rw [stN_cons, stN_cons, stN_half n num r (i + 1)]
    have : num / 2 ^ (i + 1) = num / 2 / 2 ^ i := by rw [Nat.div_div_eq_div_mul, Nat.pow_succ, Nat.mul_comm]
    rw [this]
theorem powN_half (num : Nat) : ∀ (word : List Int) (i : Nat) (acc : Int), powN num (i + 1) word acc = powN (num / 2) i word acc
  | [], i, acc => rfl
  | l :: r, i, acc => by
    rw [powN_cons, powN_cons, powN_half num r (i + 1)]
    have : num / 2 ^ (i + 1) = num / 2 / 2 ^ i := by rw [Nat.div_div_eq_div_mul, Nat.pow_succ, Nat.mul_comm]
    rw [this]
theorem sumL_range2 (f : Nat → Int) : ∀ k, sumL (List.range (2 * k)) f = sumL (List.range k) fun m => f (2 * m) + f (2 * m + 1)
  | 0 => rfl
  | k + 1 => by
    rw [show 2 * (k + 1) = 2 * k + 1 + 1 by omega, List.range_succ, List.range_succ, List.range_succ, sumL_app, sumL_app, sumL_app, sumL_range2 f k, sumL_cons, sumL_cons, sumL_cons, sumL_nil, sumL_nil]
    omega
def term (n num : Nat) (word : List Int) (acc : List Int × Int) (pa : Int) (j : Int) : Int := dlN ((stN n num 0 word acc).2.toNat + loopsN n (stN n num 0 word acc).1 - 1) d0 (j - powN num 0 word pa)
theorem term_cons (n num : Nat) (l : Int) (r : List Int) (acc : List Int × Int) (pa j : Int) : term n num (l :: r) acc pa j =
    term n (num / 2) r (if num % 2 = 1 then ((hookN n (ix l) acc.1).1, acc.2 + (if (hookN n (ix l) acc.1).2 then 1 else 0)) else acc) (pa + (if num % 2 = 1 then - wayOf l else wayOf l)) j := by
  unfold term
  rw [stN_cons, powN_cons, stN_half, powN_half]
  have e0 : num / 2 ^ 0 = num := by rw [Nat.pow_zero, Nat.div_one]
  rw [e0]
  have e : (if (decide (num % 2 = 0) == decide (0 < l)) = true then (1 : Int) else -1) = if num % 2 = 1 then - wayOf l else wayOf l := by
    unfold wayOf
    by_cases a : 0 < l
    · by_cases b : num % 2 = 0
      · rw [if_neg (by omega : ¬ num % 2 = 1), if_pos a]; simp [a, b]
      · rw [if_pos (by omega : num % 2 = 1), if_pos a]; simp [a, b]
    · by_cases b : num % 2 = 0
      · rw [if_neg (by omega : ¬ num % 2 = 1), if_neg a]; simp [a, b]
      · rw [if_pos (by omega : num % 2 = 1), if_neg a]; simp [a, b]
  rw [e]
theorem dlN_add (k : Nat) (f g : Pw) (j : Int) : dlN k (fun j => f j + g j) j = dlN k f j + dlN k g j := by
  induction k generalizing j with
  | zero => rfl
  | succ k ih =>
    show - dlN k _ (j - 2) - dlN k _ (j + 2) = (- dlN k f (j - 2) - dlN k f (j + 2)) + (- dlN k g (j - 2) - dlN k g (j + 2))
    rw [ih, ih]
    omega
theorem dlN_sh (k : Nat) (f : Pw) (c j : Int) : dlN k (fun j => f (j + c)) j = dlN k f (j + c) := by
  induction k generalizing j with
  | zero => rfl
  | succ k ih =>
    show - dlN k _ (j - 2) - dlN k _ (j + 2) = - dlN k f (j + c - 2) - dlN k f (j + c + 2)
    rw [ih, ih, show j - 2 + c = j + c - 2 by omega, show j + 2 + c = j + c + 2 by omega]
theorem dlN_plus (a b : Nat) (f : Pw) : dlN (a + b) f = dlN a (dlN b f) := by
  induction a with
  | zero => rw [Nat.zero_add]; rfl
  | succ a ih => rw [show a + 1 + b = (a + b) + 1 by omega, dlN_succ, dlN_succ, ih]
theorem sum_states {n : Nat} (h1 : 1 ≤ n) (h6 : n ≤ 6) : ∀ (word : List Int) (acc : List Int × Int) (pa j : Int), Letters n word → acc.1 ∈ Nst n → 0 ≤ acc.2 →
    (sumL (List.range (2 ^ word.length)) fun num => term n num word acc pa j) = dlN acc.2.toNat (G n word acc.1) (j - pa)
  | [], acc, pa, j, _, hm, h0 => by
    show dlN (acc.2.toNat + loopsN n acc.1 - 1) d0 (j - pa) + 0 = dlN acc.2.toNat (dlN (loopsN n acc.1 - 1) d0) (j - pa)
    have := (nst_at h1 h6 hm).2.1.2.1
    rw [← dlN_plus, show acc.2.toNat + loopsN n acc.1 - 1 = acc.2.toNat + (loopsN n acc.1 - 1) by omega]
    omega
  | l :: r, acc, pa, j, hL, hm, h0 => by
    have hk := (ix_eq (hL l List.mem_cons_self)).2
    have hL' : Letters n r := fun x hx => hL x (List.mem_cons_of_mem _ hx)
    rw [List.length_cons, Nat.pow_succ, Nat.mul_comm, sumL_range2]
    have a0 : ∀ m, term n (2 * m) (l :: r) acc pa j = term n m r acc (pa + wayOf l) j := fun m => by
      rw [term_cons, if_neg (by omega : ¬ 2 * m % 2 = 1), if_neg (by omega : ¬ 2 * m % 2 = 1), show 2 * m / 2 = m by omega]
    have a1 : ∀ m, term n (2 * m + 1) (l :: r) acc pa j = term n m r ((hookN n (ix l) acc.1).1, acc.2 + (if (hookN n (ix l) acc.1).2 then 1 else 0)) (pa + - wayOf l) j := fun m => by
      rw [term_cons, if_pos (by omega : (2 * m + 1) % 2 = 1), if_pos (by omega : (2 * m + 1) % 2 = 1), show (2 * m + 1) / 2 = m by omega]
    rw [sumL_congr (g := fun m => term n m r acc (pa + wayOf l) j + term n m r ((hookN n (ix l) acc.1).1, acc.2 + (if (hookN n (ix l) acc.1).2 then 1 else 0)) (pa + - wayOf l) j) (fun m _ => by rw [a0, a1]), sumL_add]
    rw [sum_states h1 h6 r acc _ j hL' hm h0, sum_states h1 h6 r ((hookN n (ix l) acc.1).1, acc.2 + (if (hookN n (ix l) acc.1).2 then 1 else 0)) _ j hL' ((nst_at h1 h6 hm).2.2 _ hk) (by split <;> simp <;> omega)]
    show _ = dlN acc.2.toNat (fun j => G n r acc.1 (j - wayOf l) + (if (hookN n (ix l) acc.1).2 = true then dl (G n r (hookN n (ix l) acc.1).1) else G n r (hookN n (ix l) acc.1).1) (j + wayOf l)) (j - pa)
    rw [dlN_add, show (fun j => G n r acc.1 (j - wayOf l)) = fun j => G n r acc.1 (j + - wayOf l) from funext fun j => by rw [Int.sub_eq_add_neg], dlN_sh, dlN_sh]
    congr 1
    · rw [show j - (pa + wayOf l) = j - pa + - wayOf l by omega]
    · rw [show j - (pa + - wayOf l) = j - pa + wayOf l by omega]
      split
      · rw [dlN_comm]
        show dlN (acc.2 + 1).toNat _ _ = _
        rw [show (acc.2 + 1).toNat = acc.2.toNat + 1 by omega]
        rfl
      · show dlN (acc.2 + 0).toNat _ _ = _
        rw [Int.add_zero]
theorem co_putSt (n : Nat) (word : List Int) (num : Nat) {acc : List (Int × Int)} (h : Tidy acc) (j : Int) : co (putSt n word acc num) j = co acc j + term n num word (plainN n, 0) 0 j := by
  have tc : Tidy (putSt n word acc num) := tidy_foldput _ _ _ _ h
  rw [co_lin tc, co_lin h]
  unfold putSt term
  rw [lin_foldput (fun q : Int × Int => q.1 + powN num 0 word 0) (fun q => co (powI ((stN n num 0 word (plainN n, 0)).2.toNat + loopsN n (stN n num 0 word (plainN n, 0)).1 - 1)) q.1) _ _ _ h]
  congr 1
  rw [lin_co (tidy_pow _) (fun p => if j = p + powN num 0 word 0 then 1 else 0), ← lin_pow_at]
  exact lin_congr fun r => by unfold d0; by_cases z : j = r + powN num 0 word 0 <;> simp [z] <;> omega
theorem co_stateL (n : Nat) (word : List Int) (j : Int) : ∀ (l : List Nat) (acc : List (Int × Int)), Tidy acc → co (l.foldl (putSt n word) acc) j = co acc j + sumL l fun num => term n num word (plainN n, 0) 0 j
  | [], acc, _ => by rw [List.foldl_nil, sumL_nil, Int.add_zero]
  | x :: l, acc, h => by
    have tc : Tidy (putSt n word acc x) := tidy_foldput _ _ _ _ h
    rw [List.foldl_cons, co_stateL n word j l _ tc, co_putSt n word x h, sumL_cons]
    omega
/-- the sum told state by state -/
theorem co_state {n : Nat} (h1 : 1 ≤ n) (h6 : n ≤ 6) {word : List Int} (hL : Letters n word) (j : Int) : co (stateSum n word) j = G n word (plainN n) j := by
  unfold stateSum
  rw [co_stateL n word j _ [] tidy_nil, sum_states h1 h6 word (plainN n, 0) 0 j hL (nst_plain h1 h6) (Int.le_refl _), Int.sub_zero]
  show 0 + G n word (plainN n) j = _
  omega
theorem tidy_state {n : Nat} (h1 : 1 ≤ n) (h6 : n ≤ 6) {word : List Int} (hL : Letters n word) : Tidy (stateSum n word) :=
  (stateSum_pre h1 h6 hL _ [] tidy_nil (bp_nil _ _)).1
theorem states_nests {n : Nat} (h1 : 1 ≤ n) (h6 : n ≤ 6) {word : List Int} (hL : Letters n word) : told (stateSum n word) = told (nestSum n word) :=
  told_ext (tidy_state h1 h6 hL) (tidy_nest h1 h6 hL) fun j => by rw [co_state h1 h6 hL, co_nest h1 h6 hL]
theorem loops_plain {n : Nat} (h1 : 1 ≤ n) (h6 : n ≤ 6) : loopsN n (plainN n) = n := by
  have : n = 1 ∨ n = 2 ∨ n = 3 ∨ n = 4 ∨ n = 5 ∨ n = 6 := by omega
  rcases this with e | e | e | e | e | e <;> subst e <;> decide +kernel
theorem no_letters {n : Nat} (h1 : 1 ≤ n) (h6 : n ≤ 6) : told (nestSum n []) = told (powI (n - 1)) :=
  told_ext (tidy_nest h1 h6 (fun _ h => by cases h)) (tidy_pow _) fun j => by
    rw [co_nest h1 h6 (fun _ h => by cases h), co_pow]
    show dlN (loopsN n (plainN n) - 1) d0 j = _
    rw [loops_plain h1 h6]
theorem atI_nat0 {α : Type} {xs : List α} {i : Int} {m : Nat} (e : i = m) (h : m < xs.length) : atI xs i = some xs[m] := by
  rw [e]
  exact atI_nat (List.getElem?_eq_getElem h)
theorem s_setP {σ : L2.St} {H : Hp} {ta tb te : TE} {D : Ends} {l : Addr} {xs : List V} {v : V} {i : Int} {m : Nat} (hv : Pu te σ H v) (ho : Pu ta σ H (.ref l)) (hi : Pu tb σ H (.int i)) (hl : H l = some (.lst xs)) (e : i = m) (hm : m < xs.length)
    (k : D.nx σ (upd H l (.lst (xs.set m v)))) : tAsg te (gSub ta tb rSetL) D σ H := hv _ (ho _ (hi _ ⟨l, xs, i, m, rfl, rfl, hl, ixN_of e hm, k⟩))
def FLoop (J : It) (g : TG) (tb : TS) (D : Ends) (σ : L2.St) (H1 : Hp) : Prop := ∃ W : Nat → Nat → L2.St → Hp → Prop, (∃ m, W 0 m σ H1) ∧ ∀ (i m : Nat) (σ : L2.St) (H : Hp), W i m σ H → J.stop i H ∧ D.nx σ H ∨ J.go i H ∧ ∃ N : L2.St → Hp → Prop, (∀ σ' H', N σ' H' → ∃ m', m' < m ∧ W (i + 1) m' σ' H') ∧
  ∀ (x : V) (H' : Hp), J.yld i H x H' → g x σ H' fun σ2 H2 => tb { nx := N, rt := D.rt, bk := D.nx, ct := N } σ2 H2
theorem q_forRC {σ : L2.St} {H : Hp} {tA : TA} {g : TG} {tu tz : TS} {D : Ends} (k : tA σ H fun vs H1 => ∃ j : Int, vs = [.int j] ∧ -2 ^ 62 ≤ j ∧ j < 2 ^ 62 ∧ FLoop (Itr 0 j.toNat) g tu { D with nx := tz D } σ H1) : tSeq (tFor (iRng1 tA) g tu) tz D σ H := k
theorem rloop {σ : L2.St} {H : Hp} {j n : Nat} {tu : TS} {D : Ends} (Pv : Nat → L2.St → Hp → Prop) (h0 : Pv 0 σ H)
    (hs : ∀ (i : Nat) σ' H', i < n → Pv i σ' H' → tu { D with nx := Pv (i + 1), ct := Pv (i + 1), bk := D.nx } (σ'.set j (some (.int (i : Int)))) H') (hd : ∀ σ' H', Pv n σ' H' → D.nx σ' H') : FLoop (Itr 0 n) (gName j) tu D σ H :=
  for_range (lo := 0) (n := n) Pv h0 (fun i σ' H' hi p => by
    have e0 : (0 : Int) + (i : Int) = (i : Int) := Int.zero_add _
    show tu { D with nx := Pv (i + 1), ct := Pv (i + 1), bk := D.nx } (σ'.set j (some (.int ((0 : Int) + (i : Int))))) H'
    rw [e0]
    exact hs i σ' H' hi p) hd
theorem q_append {K : PySem.W.Frag} {σ : L2.St} {H : Hp} {ta te : TE} {tz : TS} {D : Ends} {l : Addr} {xs : List V} (ho : Pu ta σ H (.ref l)) (hl : H l = some (.lst xs)) (k : te σ H fun v H1 => rAppend (.ref l) [v] H1 fun _ H2 => tz D σ H2) :
    tSeq (tDrop (tBM K "list" rAppend ta (tCons te tNil))) tz D σ H := ho _ ⟨.inl ⟨rfl, xs, .inl (.inl hl)⟩, k⟩
theorem k_ifS {σ : L2.St} {H : Hp} {t : TT} {tu tw : TS} {D : Ends} (k : t σ H fun b H1 => if b = true then tu D σ H1 else tw D σ H1) : tIfS t tu tw D σ H := k
theorem q_ifS {σ : L2.St} {H : Hp} {t : TT} {tu tw tz : TS} {D : Ends} (k : t σ H fun b H1 => if b = true then tu { D with nx := tz D } σ H1 else tw { D with nx := tz D } σ H1) : tSeq (tIfS t tu tw) tz D σ H := k
theorem k_no {σ : L2.St} {H : Hp} {t : TT} {Q : Bool → Hp → Prop} (k : t σ H fun b H1 => Q (!b) H1) : tNot t σ H Q := k
theorem k_B {σ : L2.St} {H : Hp} {te : TE} {Q : Bool → Hp → Prop} (k : te σ H fun v H1 => ∃ b, v = .bl b ∧ Q b H1) : tB te σ H Q := k
theorem k_next {σ : L2.St} {H : Hp} {D : Ends} (k : D.nx σ H) : tNext D σ H := k
theorem k_and {σ : L2.St} {H : Hp} {t u : TT} {Q : Bool → Hp → Prop} (k : t σ H fun b H1 => if b = true then u σ H1 Q else Q false H1) : tAnd t u σ H Q := k
theorem k_test {σ : L2.St} {H : Hp} {te : TE} {Q : Bool → Hp → Prop} (k : te σ H fun v H1 => ∃ b, v = .bl b ∧ Q b H1) : tTest te σ H Q := k
theorem r_eqI {i j : Int} {H : Hp} {Q : VK} (k : Q (.bl (decide (i = j))) H) : rEq (.int i) (.int j) H Q := ⟨rfl, by
  have e : decide (V.int i = V.int j) = decide (i = j) := by simp
  rw [e]; exact k⟩
theorem ixN_m1 {n : Nat} (h : 1 ≤ n) : ixN n (-1) = some (n - 1) := by
  unfold ixN
  rw [if_neg (by decide), if_pos (by omega)]
  exact congrArg some (by omega)
theorem ixN_m2 {n : Nat} (h : 2 ≤ n) : ixN n (-2) = some (n - 2) := by
  unfold ixN
  rw [if_neg (by decide), if_pos (by omega)]
  exact congrArg some (by omega)
def sp__law_state (K : PySem.W.Frag) : Sp := fun vs H Q E =>
  ∃ (a : Addr) (ns : List Int) (k : Int), vs = [.ref a, .int k] ∧ SqL K H a (ns.map V.int) ∧ 0 ≤ k ∧ k < 1000 ∧ ∀ p x y, H p = none → Q (.ref p) (upd H p (.lst [.int x, .int y]))
abbrev N__law_state : List Str := ["script", "k", "cell"]
theorem sc__law_state : FnScope N__law_state ["script", "k"] (defScope s__law_state) := ⟨rfl, rfl, rfl, by decide +kernel, rfl, by decide +kernel, by decide +kernel⟩
theorem ok__law_state {P : Program} {w : World} {K : PySem.W.Frag} {mg : Str → Option Value} {base : Heap} {f : Addr} {fd : FuncData} (F : FnP K "_law_state" s__law_state f fd) (Z : Bl mg)  : FnOk P w K mg base CX0 1 f fd ["script", "k"] (sp__law_state K) := by
  refine F.ok sc__law_state (fun vs H Q E h => ?_) (fun cdv A outer s H vs Q E hr h => ?_)
  · obtain ⟨_, _, _, rfl, _⟩ := h
    rfl
  · refine ⟨_, PSs.nox (pss_cons (ps_set (i := 2) sc__law_state.nd rfl (Or.inl rfl) pe_int)
      (pss_cons (ps_if (pt_cmpR op_lt (pv 1) (pe_callB call_len_seq (by rfl) Z.f_len (by decide +kernel) (pa_cons (pv 0) pa_nil)) (nomark _)) (pss_one (ps_set (i := 2) sc__law_state.nd rfl (Or.inl rfl) (pe_ix ix_list (pv 0) (pv 1) (fun _ _ => rfl)))) pss_nil)
      (pss_cons (ps_if (pt_cmpR op_ge (pv 2) (pe_op op_pow pe_int pe_int) (nomark _)) (pss_one (ps_ret (pe_lst (pa_cons (pe_op op_sub (pv 2) (pe_op op_pow pe_int pe_int)) (pa_cons pe_int pa_nil))))) pss_nil)
      (pss_one (ps_ret (pe_lst (pa_cons (pe_op op_mod (pe_op op_add (pv 2) (pe_op op_mul pe_int (pv 1))) pe_int) (pa_cons pe_int pa_nil)))))))), ?_⟩
    obtain ⟨a, ns, k, rfl, ha, h0, h1, kk⟩ := h
    refine q_asgP pu_c rfl ?_
    have rest : ∀ c : Int, tSeq (tIfS (tTest (tOp (rI0 fun i j => V.bl (decide (j ≤ i))) (tVar 2) (tOp (rI CPow fun i j => V.int (i ^ j.toNat)) (tC (V.int 10)) (tC (V.int 18)))))
        (tRet (tLst (tCons (tOp (rI0 fun i j => V.int (i - j)) (tVar 2) (tOp (rI CPow fun i j => V.int (i ^ j.toNat)) (tC (V.int 10)) (tC (V.int 18)))) (tCons (tC (V.int 1)) tNil)))) tNext)
        (tRet (tLst (tCons (tOp (rI (fun x j => 0 < j) fun i j => V.int (i % j)) (tOp (rI0 fun i j => V.int (i + j)) (tVar 2) (tOp (rI CMul fun i j => V.int (i * j)) (tC (V.int 7919)) (tVar 1))) (tC (V.int 2147483647))) (tCons (tC (V.int 0)) tNil))))
        { nx := fun x H' => Q V.non H', rt := Q } [some (.ref a), some (.int k), some (.int c)] H := by
      intro c
      refine q_whenP (pt_test (pu_I0 pu_var (pu_I pu_c pu_c ⟨by decide, by decide, by decide⟩))) (fun _ => ?_) (fun _ => ?_)
      · refine s_retC ?_
        exact pa_c (pu_I0 pu_var (pu_I pu_c pu_c ⟨by decide, by decide, by decide⟩)) (pa_c pu_c pa_n) _ ⟨sz_of (by simp), fun p np => kk p _ _ np⟩
      · refine s_retC ?_
        exact pa_c (pu_I (pu_I0 pu_var (pu_I pu_c pu_var (.inl (by decide)))) pu_c (by decide)) (pa_c pu_c pa_n) _ ⟨sz_of (by simp), fun p np => kk p _ _ np⟩
    refine q_whenP (pt_test (pu_I0 pu_var (pu_lenL pu_var ha))) (fun hc => ?_) (fun _ => rest 0)
    have hk := of_decide_eq_true hc
    rw [List.length_map] at hk
    refine s_asgP (pu_ixL pu_var pu_var ha (atN (m := k.toNat) (by omega) (by omega))) rfl ?_
    exact rest _
def sp__law_take (K : PySem.W.Frag) : Sp := fun vs H Q E =>
  ∃ (st : Addr) (x y many : Int), vs = [.ref st, .int many] ∧ H st = some (.lst [.int x, .int y]) ∧ 0 < many ∧ many < 1000000 ∧ ∀ r x' y', 0 ≤ r → r < many → Q (.int r) (upd H st (.lst [.int x', .int y']))
abbrev N__law_take : List Str := ["state", "many", "found", "mixed"]
theorem sc__law_take : FnScope N__law_take ["state", "many"] (defScope s__law_take) := ⟨rfl, rfl, rfl, by decide +kernel, rfl, by decide +kernel, by decide +kernel⟩
theorem ok__law_take {P : Program} {w : World} {K : PySem.W.Frag} {mg : Str → Option Value} {base : Heap} {f : Addr} {fd : FuncData} (F : FnP K "_law_take" s__law_take f fd) (Z : Bl mg)  : FnOk P w K mg base CX0 1 f fd ["state", "many"] (sp__law_take K) := by
  refine F.ok sc__law_take (fun vs H Q E h => ?_) (fun cdv A outer s H vs Q E hr h => ?_)
  · obtain ⟨_, _, _, _, rfl, _⟩ := h
    rfl
  · refine ⟨_, PSs.nox (pss_cons (ps_if (PW.pt (pw_and (pt_cmpR op_eq (pe_ix ix_list (pv 0) pe_int (fun _ _ => rfl)) pe_int (nomark _)) (pw_and1 (pt_cmpR op_gt (pe_ix ix_list (pv 0) pe_int (fun _ _ => rfl)) pe_int (nomark _))))) (pss_cons (ps_set (i := 2) sc__law_take.nd rfl (Or.inl rfl) (pe_op op_mod (pe_ix ix_list (pv 0) pe_int (fun _ _ => rfl)) (pv 1)))
      (pss_cons (ps_asg (pe_op op_fdiv (pe_ix ix_list (pv 0) pe_int (fun _ _ => rfl)) (pv 1)) (pg_sub (pv 0) pe_int set_list))
      (pss_one (ps_ret (pv 2))))) pss_nil)
      (pss_cons (ps_asg pe_int (pg_sub (pv 0) pe_int set_list))
      (pss_cons (ps_asg (pe_op op_mod (pe_op op_add (pe_op op_mul (pe_ix ix_list (pv 0) pe_int (fun _ _ => rfl)) pe_int) pe_int) pe_int) (pg_sub (pv 0) pe_int set_list))
      (pss_cons (ps_set (i := 3) sc__law_take.nd rfl (Or.inl rfl) (pe_op op_mod (pe_op op_add (pe_op op_mul (pe_ix ix_list (pv 0) pe_int (fun _ _ => rfl)) (pe_ix ix_list (pv 0) pe_int (fun _ _ => rfl))) (pe_op op_mul pe_int (pe_ix ix_list (pv 0) pe_int (fun _ _ => rfl)))) pe_int))
      (pss_cons (ps_set (i := 3) sc__law_take.nd rfl (Or.inl rfl) (pe_op op_mod (pe_op op_add (pe_op op_mul (pv 3) (pv 3)) (pe_op op_mul pe_int (pv 3))) pe_int))
      (pss_one (ps_ret (pe_op op_mod (pe_op op_fdiv (pv 3) pe_int) (pv 1))))))))), ?_⟩
    obtain ⟨st, x, y, many, rfl, hs, hm, hm2, kk⟩ := h
    have at0 : ∀ a b : Int, atI [V.int a, V.int b] 0 = some (.int a) := fun a b => rfl
    have at1 : ∀ a b : Int, atI [V.int a, V.int b] 1 = some (.int b) := fun a b => rfl
    have L : ∀ (H : Hp) o, H st = some (.lst o) → SqL K H st o := fun H o h => .inl (.inl h)
    refine q_whenP (pt_and (pt_test (pu_eqI (pu_ixL pu_var pu_c (L _ _ hs) (at1 _ _)) pu_c)) fun _ => pt_test (pu_I0 (pu_ixL pu_var pu_c (L _ _ hs) (at0 _ _)) pu_c)) (fun hc => ?_) (fun _ => ?_)
    · refine q_asgP (pu_I (pu_ixL pu_var pu_c (L _ _ hs) (at0 _ _)) pu_var hm) rfl ?_
      refine q_setP (m := 0) (pu_I (pu_ixL pu_var pu_c (L _ _ hs) (at0 _ _)) pu_var (by first | exact hm | exact ⟨hm, by omega⟩ | (refine ⟨?_, ?_⟩ <;> omega))) pu_var pu_c hs rfl (by simp) ?_
      refine s_retP pu_var (kk _ _ _ (Int.emod_nonneg _ (by omega)) (Int.emod_lt_of_pos _ hm))
    · refine q_setP (m := 1) pu_c pu_var pu_c hs rfl (by simp) ?_
      have h1 : upd H st (.lst ([V.int x, V.int y].set 1 (.int 0))) st = some (.lst [.int x, .int 0]) := upd_same
      refine q_setP (m := 0) (pu_I (pu_I0 (pu_I (pu_ixL pu_var pu_c (L _ _ h1) (at0 _ _)) pu_c (.inr (by decide))) pu_c) pu_c (by decide)) pu_var pu_c h1 rfl (by simp) ?_
      rw [upd_upd]
      generalize hz : (x * 48271 + 69621) % 2147483647 = z
      have z0 : 0 ≤ z := by rw [← hz]; exact Int.emod_nonneg _ (by decide)
      have z1 : z < 2147483647 := by rw [← hz]; exact Int.emod_lt_of_pos _ (by decide)
      have h2 : upd H st (.lst ([V.int x, V.int 0].set 0 (.int z))) st = some (.lst [.int z, .int 0]) := upd_same
      have hzz : -(2 ^ 64) < z ∧ z < 2 ^ 64 := by constructor <;> omega
      refine q_asgP (pu_I (pu_I0 (pu_I (pu_ixL pu_var pu_c (L _ _ h2) (at0 _ _)) (pu_ixL pu_var pu_c (L _ _ h2) (at0 _ _)) (.inr hzz)) (pu_I pu_c (pu_ixL pu_var pu_c (L _ _ h2) (at0 _ _)) (.inr hzz))) pu_c (by decide)) rfl ?_
      generalize hw : (z * z + 16807 * z) % 2147483629 = w
      have w0 : 0 ≤ w := by rw [← hw]; exact Int.emod_nonneg _ (by decide)
      have w1 : w < 2147483629 := by rw [← hw]; exact Int.emod_lt_of_pos _ (by decide)
      have hww : -(2 ^ 64) < w ∧ w < 2 ^ 64 := by constructor <;> omega
      refine q_asgP (pu_I (pu_I0 (pu_I pu_var pu_var (.inr hww)) (pu_I pu_c pu_var (.inr hww))) pu_c (by decide)) rfl ?_
      refine s_retP (pu_I (pu_I pu_var pu_c ⟨by decide, by decide⟩) pu_var hm) ?_
      exact kk _ _ _ (Int.emod_nonneg _ (by omega)) (Int.emod_lt_of_pos _ hm)
def sp__law_letter (K : PySem.W.Frag) : Sp := fun vs H Q E =>
  ∃ (B : Hp) (st : Addr) (x y : Int) (strands : Int), vs = [.ref st, .int strands] ∧ Ex B H ∧ B st = none ∧ H st = some (.lst [.int x, .int y]) ∧ 1 < strands ∧ strands < 1000 ∧ ∀ l x' y' H1, (l ≠ 0 ∧ -strands < l ∧ l < strands) → Ext (fun a => a = st) B H B H1 → H1 st = some (.lst [.int x', .int y']) → Q (.int l) H1
abbrev N__law_letter : List Str := ["state", "strands", "number"]
theorem sc__law_letter : FnScope N__law_letter ["state", "strands"] (defScope s__law_letter) := ⟨rfl, rfl, rfl, by decide +kernel, rfl, by decide +kernel, by decide +kernel⟩
theorem ok__law_letter {P : Program} {w : World} {K : PySem.W.Frag} {mg : Str → Option Value} {base : Heap} {f : Addr} {fd : FuncData} (F : FnP K "_law_letter" s__law_letter f fd) (Z : Bl mg) (c__law_take : Cal P w K mg base "_law_take" ["state", "many"] 1 (sp__law_take K)) : FnOk P w K mg base CX0 2 f fd ["state", "strands"] (sp__law_letter K) := by
  refine F.ok sc__law_letter (fun vs H Q E h => ?_) (fun cdv A outer s H vs Q E hr h => ?_)
  · obtain ⟨_, _, _, _, _, rfl, _⟩ := h
    rfl
  · refine ⟨_, PSs.nox (pss_cons (ps_set (i := 2) sc__law_letter.nd rfl (Or.inl rfl) (pe_cal c__law_take (hr.mono (by decide)) rfl (pa_cons (pv 0) (pa_cons (pe_op op_mul pe_int (pe_op op_sub (pv 1) pe_int)) pa_nil))))
      (pss_one (ps_ret (pe_op op_mul (pe_ix ix_list (pe_lst (pa_cons pe_int (pa_cons (pe_un un_neg pe_int) pa_nil))) (pe_op op_mod (pv 2) pe_int) (fun _ _ => rfl)) (pe_op op_add pe_int (pe_op op_fdiv (pv 2) pe_int)))))), ?_⟩
    obtain ⟨B, st, x, y, strands, rfl, bh, nb, hs, hm, hm2, kk⟩ := h
    refine q_asgC (k_call (pa_c pu_var (pa_c (pu_I pu_c (pu_I0 pu_var pu_c) (.inl (by decide))) pa_n)) ⟨st, x, y, _, rfl, hs, by omega, by omega, fun r x' y' r0 r1 => ?_⟩)
    refine s_retC (k_op (k_pick (pa_c pu_c (pa_c (pu_neg pu_c) pa_n)) (by simp) (fun H1 e => pu_I pu_var pu_c (by decide)) (v := .int (if r % 2 = 0 then 1 else -1)) ?_ fun H1 e => ?_))
    · have : r % 2 = 0 ∨ r % 2 = 1 := by omega
      rcases this with z | z <;> rw [z] <;> rfl
    have hs1 : H1 st = some (.lst [.int x', .int y']) := e _ _ upd_same
    refine pu_I0 pu_c (pu_I pu_var pu_c ⟨by decide, by decide⟩) _ ⟨_, _, rfl, rfl, .inl ?_, ?_⟩
    · split <;> decide
    · have x1 : Ext (fun a => a = st) B H B (upd H st (.lst [.int x', .int y'])) := (Ext.refl bh).own (.inl rfl) nb
      refine kk _ x' y' _ ?_ (x1.then0 (Ext.of x1.bh e)) hs1
      split <;> omega
def sp__law_plait (K : PySem.W.Frag) : Sp := fun vs H Q E =>
  ∃ (B : Hp) (st : Addr) (x y most longest : Int), vs = [.ref st, .int most, .int longest] ∧ Ex B H ∧ B st = none ∧ H st = some (.lst [.int x, .int y]) ∧ 1 ≤ most ∧ most < 1000 ∧ 0 ≤ longest ∧ longest < 1000 ∧
    ∀ p w n (word : List Int) x' y' B1 H1, Ext (fun a => a = st) B H B1 H1 → B1 st = none → H1 st = some (.lst [.int x', .int y']) → 1 ≤ n → n ≤ most → (∀ l ∈ word, l ≠ 0 ∧ -n < l ∧ l < n) → (word.length : Int) ≤ longest → B1 p = some (.tup [.int n, .ref w]) → B1 w = some (.tup (word.map V.int)) → Q (.ref p) H1
abbrev N__law_plait : List Str := ["state", "most", "longest", "strands", "word", "k"]
theorem sc__law_plait : FnScope N__law_plait ["state", "most", "longest"] (defScope s__law_plait) := ⟨rfl, rfl, rfl, by decide +kernel, rfl, by decide +kernel, by decide +kernel⟩
theorem ok__law_plait {P : Program} {w : World} {K : PySem.W.Frag} {mg : Str → Option Value} {base : Heap} {f : Addr} {fd : FuncData} (F : FnP K "_law_plait" s__law_plait f fd) (Z : Bl mg) (c__law_take : Cal P w K mg base "_law_take" ["state", "many"] 1 (sp__law_take K)) (c__law_letter : Cal P w K mg base "_law_letter" ["state", "strands"] 2 (sp__law_letter K)) : FnOk P w K mg base CX0 3 f fd ["state", "most", "longest"] (sp__law_plait K) := by
  refine F.ok sc__law_plait (fun vs H Q E h => ?_) (fun cdv A outer s H vs Q E hr h => ?_)
  · obtain ⟨_, _, _, _, _, _, rfl, _⟩ := h
    rfl
  · refine ⟨_, PSs.nox (pss_cons (ps_set (i := 3) sc__law_plait.nd rfl (Or.inl rfl) (pe_op op_add pe_int (pe_op op_fdiv (pe_op op_mod (pe_op op_add (pe_cal c__law_take (hr.mono (by decide)) rfl (pa_cons (pv 0) (pa_cons (pe_op op_mul pe_int (pv 1)) pa_nil))) pe_int) (pe_op op_mul pe_int (pv 1))) pe_int)))
      (pss_cons (ps_set (i := 4) sc__law_plait.nd rfl (Or.inl rfl) (pe_lst pa_nil))
      (pss_cons (ps_for PassesOwn.never rfl (pi_range1 rfl Z.f_range (pa_cons (pe_op op_mul (pe_cal c__law_take (hr.mono (by decide)) rfl (pa_cons (pv 0) (pa_cons (pe_op op_add (pv 2) pe_int) pa_nil))) (pe_callTy call_int1 (by rfl) Z.f_int (by decide +kernel) (pa_cons (pe_cmpR op_gt (pv 3) pe_int (nomark _)) pa_nil))) pa_nil)) (pg_name (i := 5) sc__law_plait.nd rfl (Or.inl rfl))
      (pss_cons (ps_expr (pe_bm PySem.F.plainAttrs_list PySem.F.slot_list_append PySem.F.type_list_append mt_append (pv 4) (pa_cons (pe_cal c__law_letter (hr.mono (by decide)) rfl (pa_cons (pv 0) (pa_cons (pv 3) pa_nil))) pa_nil)))
      (pss_one (ps_if (PW.pt (pw_and (pt_cmpR op_eq (pe_cal c__law_take (hr.mono (by decide)) rfl (pa_cons (pv 0) (pa_cons pe_int pa_nil))) pe_int (nomark _)) (pw_and1 (pt_cmpR op_gt (pe_callB call_len_seq (by rfl) Z.f_len (by decide +kernel) (pa_cons (pv 4) pa_nil)) pe_int (nomark _))))) (pss_one (ps_asg (pe_ix ix_list (pe_lst (pa_cons (pe_ix ix_list (pv 4) (pe_un un_neg pe_int) (fun _ _ => rfl)) (pa_cons (pe_op op_sub pe_int (pe_ix ix_list (pv 4) (pe_un un_neg pe_int) (fun _ _ => rfl))) pa_nil))) (pe_cal c__law_take (hr.mono (by decide)) rfl (pa_cons (pv 0) (pa_cons pe_int pa_nil))) (fun _ _ => rfl)) (pg_sub (pv 4) (pe_un un_neg pe_int) set_list))) pss_nil))))
      (pss_one (ps_ret (pe_tup (pa_cons (pv 3) (pa_cons (pe_callTy call_tuple_of (by rfl) Z.f_tuple (by decide +kernel) (pa_cons (pv 4) pa_nil)) pa_nil)))))))), ?_⟩
    obtain ⟨B, st, x, y, most, longest, rfl, bh, nb, hs, m1, m2, l1, l2, kk⟩ := h
    refine q_asgC (k_op (k_pu pu_c (k_op (k_op (k_op (k_call (pa_c pu_var (pa_c (pu_I pu_c pu_var (.inl (by decide))) pa_n)) ⟨st, x, y, _, rfl, hs, by omega, by omega, fun r x' y' r0 r1 => ?_⟩))))))
    refine k_pu pu_c ⟨_, _, rfl, rfl, k_pu (pu_I pu_c pu_var (.inl (by decide))) ⟨_, _, rfl, rfl, by omega, k_pu pu_c ⟨_, _, rfl, rfl, ⟨by decide, by decide⟩, _, _, rfl, rfl, ?_⟩⟩⟩
    have x1 : Ext (fun a => a = st) B H B (upd H st (.lst [.int x', .int y'])) := (Ext.refl bh).own (.inl rfl) nb
    obtain ⟨n, hn⟩ : ∃ n, 1 + (r + 1) % (12 * most) / 12 = n := ⟨_, rfl⟩
    show tSeq _ _ _ [some (.ref st), some (.int most), some (.int longest), some (.int (1 + (r + 1) % (12 * most) / 12)), none, none] _
    rw [hn]
    have hn1 : 1 ≤ n ∧ n ≤ most := by
      have a0 := Int.emod_nonneg (r + 1) (show 12 * most ≠ 0 by omega)
      have a1 := Int.emod_lt_of_pos (r + 1) (show 0 < 12 * most by omega)
      omega
    refine q_asgC (k_lst pa_n x1.bh (by simp) fun W H1 e1 nW nBW hW => ?_)
    have hs1 : H1 st = some (.lst [.int x', .int y']) := e1.ex _ _ upd_same
    have x2 : Ext (fun a => a = st) B H B H1 := x1.then0 e1
    have nWH : H W = none := x1.back nW
    have sW : st ≠ W := fun z => by rw [z] at hs; rw [hs] at nWH; cases nWH
    refine q_forRC (k_cons (k_op (k_call (pa_c pu_var (pa_c (pu_I0 pu_var pu_c) pa_n)) ⟨st, x', y', _, rfl, hs1, by omega, by omega, fun r2 x2' y2' r20 r21 => ?_⟩)))
    refine pu_int1 (pu_I0 pu_var pu_c) _ ⟨_, _, rfl, rfl, .inr (by constructor <;> split <;> omega), k_nil ⟨_, rfl, ?_, ?_, ?_⟩⟩
    · split <;> omega
    · split <;> omega
    have em : (r2 * (if decide (1 < n) = true then (1 : Int) else 0)).toNat = (if 1 < n then r2.toNat else 0) := by
      by_cases z : 1 < n
      · rw [if_pos (decide_eq_true z), if_pos z, Int.mul_one]
      · rw [if_neg (by simp [z]), if_neg z, Int.mul_zero]
        rfl
    rw [em]
    have x3 : Ext (fun a => a = st) B H B (upd H1 st (.lst [.int x2', .int y2'])) := x2.own (.inl rfl) nb
    refine rloop (fun i σ' H' => ∃ (word : List Int) (x5 y5 : Int) (z : Option V), σ' = [some (.ref st), some (.int most), some (.int longest), some (.int n), some (.ref W), z] ∧ Ext (fun a => a = st) B H B H' ∧ H' st = some (.lst [.int x5, .int y5]) ∧ H' W = some (.lst (word.map V.int)) ∧ word.length = i ∧ ∀ l ∈ word, l ≠ 0 ∧ -n < l ∧ l < n)
      ⟨[], x2', y2', none, rfl, x3, upd_same, by rw [upd_ne sW.symm]; exact hW, rfl, fun l h => by cases h⟩ (fun i σ' H' hi p1 => ?_) (fun σ' H' p1 => ?_)
    · obtain ⟨word, x5, y5, z, rfl, x6, hs6, hW6, hl6, hw6⟩ := p1
      have hn2 : 1 < n ∧ (i : Int) < longest := by
        by_cases z : 1 < n
        · rw [if_pos z] at hi; omega
        · rw [if_neg z] at hi; omega
      refine q_append (xs := word.map V.int) pu_var hW6 (k_call (pa_c pu_var (pa_c pu_var pa_n)) ⟨B, st, x5, y5, n, rfl, x6.bh, nb, hs6, hn2.1, by omega, fun l x7 y7 H7 hl7 e7 hs7 => ?_⟩)
      have hW7 : H7 W = some (.lst (word.map V.int)) := e7.hh W _ (fun z => sW z.symm) hW6
      refine ⟨W, _, _, rfl, rfl, hW7, (Nat.lt_of_lt_of_le (by rw [List.length_map]; omega) (show 2000 ≤ sizeLine by decide)), ?_⟩
      have e8 : word.map V.int ++ [V.int l] = (word ++ [l]).map V.int := by rw [List.map_append]; rfl
      rw [e8]
      have x8 : Ext (fun a => a = st) B H B (upd H7 W (.lst ((word ++ [l]).map V.int))) := (x6.trans e7).own (.inr nWH) (fresh_back bh nWH)
      have hs8 : upd H7 W (.lst ((word ++ [l]).map V.int)) st = some (.lst [.int x7, .int y7]) := by rw [upd_ne sW]; exact hs7
      have hw8 : ∀ a ∈ word ++ [l], a ≠ 0 ∧ -n < a ∧ a < n := fun a ha => by
        rcases List.mem_append.mp ha with z | z
        · exact hw6 a z
        · rw [List.mem_singleton.mp z]; exact hl7
      have l8 : (word ++ [l]).length = i + 1 := by rw [List.length_append, hl6]; rfl
      generalize hHa : upd H7 W (.lst ((word ++ [l]).map V.int)) = Ha at x8 hs8
      have hWa : Ha W = some (.lst ((word ++ [l]).map V.int)) := by rw [← hHa]; exact upd_same
      generalize word ++ [l] = wo at *
      refine k_ifS (k_and (k_test (k_op (k_call (pa_c pu_var (pa_c pu_c pa_n)) ⟨st, x7, y7, 4, rfl, hs8, by decide, by decide, fun r9 x9 y9 r90 r91 => k_pu pu_c (r_eqI ⟨_, rfl, ?_⟩)⟩))))
      have x10 : Ext (fun a => a = st) B H B (upd Ha st (.lst [.int x9, .int y9])) := x8.own (.inl rfl) nb
      have hWb : upd Ha st (.lst [.int x9, .int y9]) W = some (.lst (wo.map V.int)) := by rw [upd_ne sW.symm]; exact hWa
      by_cases z9 : r9 = 0
      · rw [if_pos (decide_eq_true z9)]
        refine pt_test (pu_I0 (pu_lenL pu_var (.inl (.inl hWb))) pu_c) _ ?_
        rw [List.length_map]
        by_cases z10 : 1 < (wo.length : Int)
        · rw [if_pos (decide_eq_true z10)]
          have a2 : atI (wo.map V.int) (-2) = some (.int (wo.getD (wo.length - 2) 0)) := by
            have e : atI (wo.map V.int) (-2) = (wo.map V.int)[wo.length - 2]? := by
              unfold atI
              rw [List.length_map, ixN_m2 (by omega)]
              rfl
            rw [e, List.getElem?_map, List.getElem?_eq_getElem (by omega), List.getD_eq_getElem?_getD, List.getElem?_eq_getElem (by omega)]
            rfl
          have h2 := hw8 (wo.getD (wo.length - 2) 0) (by
            rw [List.getD_eq_getElem?_getD, List.getElem?_eq_getElem (by omega)]
            exact List.getElem_mem _)
          refine k_op (k_lstC (pa_c (pu_ixL pu_var (pu_neg pu_c) (.inl (.inl hWb)) a2) (pa_c (pu_I0 pu_c (pu_ixL pu_var (pu_neg pu_c) (.inl (.inl hWb)) a2)) pa_n) _ ⟨sz_of (by simp), fun p np => ?_⟩))
          have sp : st ≠ p := ne_of_none upd_same np
          refine k_call (pa_c pu_var (pa_c pu_c pa_n)) ⟨st, x9, y9, 2, rfl, by rw [upd_ne sp]; exact upd_same, by decide, by decide, fun r3 x3 y3 r30 r31 => ?_⟩
          have x11 : Ext (fun a => a = st) B H B (upd (upd (upd Ha st (.lst [.int x9, .int y9])) p (.lst [.int (wo.getD (wo.length - 2) 0), .int (0 - wo.getD (wo.length - 2) 0)])) st (.lst [.int x3, .int y3])) := (x10.own (.inr (x10.back np)) (x10.backB np)).own (.inl rfl) nb
          have Wp : W ≠ p := ne_of_none hWb np
          refine ⟨p, [.int (wo.getD (wo.length - 2) 0), .int (0 - wo.getD (wo.length - 2) 0)], r3, .int (if r3 = 0 then wo.getD (wo.length - 2) 0 else 0 - wo.getD (wo.length - 2) 0), rfl, rfl, .inl (.inl (by rw [upd_ne sp.symm]; exact upd_same)), ?_, ?_⟩
          · have : r3 = 0 ∨ r3 = 1 := by omega
            rcases this with z | z <;> rw [z] <;> rfl
          · refine k_pu pu_var (k_pu (pu_neg pu_c) ⟨W, wo.map V.int, -1, wo.length - 1, rfl, rfl, by rw [upd_ne sW.symm, upd_ne Wp]; exact hWb, by rw [List.length_map]; exact ixN_m1 (by omega), ?_⟩)
            · refine ⟨wo.set (wo.length - 1) (if r3 = 0 then wo.getD (wo.length - 2) 0 else 0 - wo.getD (wo.length - 2) 0), x3, y3, _, rfl, x11.own (.inr nWH) (fresh_back bh nWH), by rw [upd_ne sW]; exact upd_same, by rw [set_int]; exact upd_same, by rw [List.length_set]; exact l8, fun a ha => ?_⟩
              rcases List.mem_or_eq_of_mem_set ha with q | q
              · exact hw8 a q
              · rw [q]
                split <;> omega
        · rw [if_neg (by simpa using z10)]
          exact ⟨wo, x9, y9, _, rfl, x10, upd_same, hWb, l8, hw8⟩
      · rw [if_neg (by simp [z9]), if_neg (by simp)]
        exact ⟨wo, x9, y9, _, rfl, x10, upd_same, hWb, l8, hw8⟩
    · obtain ⟨word, x5, y5, z, rfl, x6, hs6, hW6, hl6, hw6⟩ := p1
      refine s_retC (k_tupC (k_cons (k_var rfl (k_cons (k_tupL pu_var (.inl (.inl hW6)) fun w nw => k_nil ⟨sz_of (by simp), fun p np => ?_⟩)))))
      have e1 := x6.put (o := .tup (word.map V.int)) nw
      have e2 := e1.put (o := .tup [.int n, .ref w]) np
      have sw : st ≠ w := ne_of_none hs6 nw
      have wp : w ≠ p := ne_of_none upd_same np
      have sp : st ≠ p := ne_of_none (show upd H' w (.tup (word.map V.int)) st = _ by rw [upd_ne sw]; exact hs6) np
      refine kk p w n word x5 y5 _ _ e2 (by rw [upd_ne sp, upd_ne sw]; exact nb) (by rw [upd_ne sp, upd_ne sw]; exact hs6) hn1.1 hn1.2 hw6 ?_ upd_same (by rw [upd_ne wp]; exact upd_same)
      rw [hl6]
      split <;> omega
theorem pu_isi {K : PySem.W.Frag} {σ : L2.St} {H : Hp} {te tc : TE} {x c : V} {t u : Value} {b : Bool} (h : Pu te σ H x) (hc : Pu tc σ H c) (h1 : ClsV c u) (h2 : TyX K H x t) (h3 : PySem.W.kitOne K t u = some b) : Pu (tCB (rIsi K) (tCons te (tCons tc tNil))) σ H (.bl b) := pu_cb (pa_c h (pa_c hc pa_n)) fun Q q => ⟨x, c, t, u, b, rfl, h1, h2, h3, q⟩
def sumD (l : List (Int × Int)) : PyData := .tuple (l.map fun q => .tuple [.int q.1, .int q.2])
theorem dpAll_of {K : PySem.W.Frag} {H : Hp} : ∀ {ys : List V} {l : List (Int × Int)}, ys.length = l.length → (∀ (i : Nat) y, ys[i]? = some y → ∃ q, l[i]? = some q ∧ PairT H y q) → DpAll K H ys (l.map fun q => .tuple [.int q.1, .int q.2])
  | [], [], _, _ => .nil
  | [], _ :: _, h, _ => by simp at h
  | _ :: _, [], h, _ => by simp at h
  | y :: ys, p :: l, h, f => by
    refine .cons ?_ (dpAll_of (by simpa using h) fun i y hy => f (i + 1) y (by simpa using hy))
    obtain ⟨q, hq, t, rfl, ht⟩ := f 0 y rfl
    have e : p = q := Option.some.inj hq
    subst e
    exact .tup (.inl (.inl ht)) (.cons (.int _) (.cons (.int _) .nil))
theorem sum_dp {K : PySem.W.Frag} {H : Hp} {v : V} {l : List (Int × Int)} (h : SumT H v l) : Dp K H v (sumD l) := by
  obtain ⟨a, ys, o, rfl, ha, _, hl, hr⟩ := h
  exact .tup (.inl (.inr ⟨o, ha⟩)) (dpAll_of hl hr)
theorem eqvP : ∀ (l m : List (Int × Int)), PyData.eqvAll (l.map fun q => .tuple [.int q.1, .int q.2]) (m.map fun q => .tuple [.int q.1, .int q.2]) = decide (l = m)
  | [], [] => rfl
  | [], _ :: _ => rfl
  | _ :: _, [] => rfl
  | (a, b) :: l, (c, d) :: m => by
    rw [List.map_cons, List.map_cons]
    show (((a == c) && ((b == d) && true)) && PyData.eqvAll (l.map _) (m.map _)) = _
    rw [eqvP l m]
    by_cases h1 : a = c
    · by_cases h2 : b = d
      · simp [h1, h2]
      · simp [h2]
    · simp [h1]
theorem eqv_sum (l m : List (Int × Int)) : (sumD l).eqv (sumD m) = decide (l = m) := eqvP l m
theorem shape_sum (l : List (Int × Int)) : SeqAt.shaped (sumD l) = true := by
  have h1 : ∀ l : List (Int × Int), PyData.canLayAll0 (l.map fun q => .tuple [.int q.1, .int q.2]) = true := by
    intro l
    induction l with
    | nil => rfl
    | cons q l ih => rw [List.map_cons]; show (true && _) = true; rw [ih]; rfl
  have h2 : ∀ l : List (Int × Int), PyData.depthAll (l.map fun q => .tuple [.int q.1, .int q.2]) ≤ 1 := by
    intro l
    induction l with
    | nil => exact Nat.zero_le _
    | cons q l ih => rw [List.map_cons]; show max 1 _ ≤ 1; omega
  unfold SeqAt.shaped
  rw [Bool.and_eq_true]
  refine ⟨h1 l, decide_eq_true ?_⟩
  have := h2 l
  show PyData.depthAll _ + 1 ≤ 64
  omega
theorem pu_eqS {K : PySem.W.Frag} {σ : L2.St} {H : Hp} {ta tb : TE} {x y : V} {l m : List (Int × Int)} (ha : Pu ta σ H x) (hb : Pu tb σ H y) (hx : SumT H x l) (hy : SumT H y m) : Pu (tOp (rEqD K) ta tb) σ H (.bl (decide (l = m))) := pu_op ha hb fun Q q => ⟨sumD l, sumD m, sum_dp hx, sum_dp hy, shape_sum l, shape_sum m, by rw [eqv_sum]; exact q⟩
theorem pu_neS {K : PySem.W.Frag} {σ : L2.St} {H : Hp} {ta tb : TE} {x y : V} {l m : List (Int × Int)} (ha : Pu ta σ H x) (hb : Pu tb σ H y) (hx : SumT H x l) (hy : SumT H y m) : Pu (tOp (rNeD K) ta tb) σ H (.bl (!decide (l = m))) := pu_op ha hb fun Q q => ⟨sumD l, sumD m, sum_dp hx, sum_dp hy, shape_sum l, shape_sum m, by rw [eqv_sum]; exact q⟩
def sp__law_whole (K : PySem.W.Frag) : Sp := fun vs H Q E =>
  ∃ i : Int, vs = [.int i] ∧ Q (.bl true) H
abbrev N__law_whole : List Str := ["found"]
theorem sc__law_whole : FnScope N__law_whole ["found"] (defScope s__law_whole) := ⟨rfl, rfl, rfl, by decide +kernel, rfl, by decide +kernel, by decide +kernel⟩
theorem ok__law_whole {P : Program} {w : World} {K : PySem.W.Frag} {mg : Str → Option Value} {base : Heap} {f : Addr} {fd : FuncData} (F : FnP K "_law_whole" s__law_whole f fd) (Z : Bl mg)  : FnOk P w K mg base CX0 1 f fd ["found"] (sp__law_whole K) := by
  refine F.ok sc__law_whole (fun vs H Q E h => ?_) (fun cdv A outer s H vs Q E hr h => ?_)
  · obtain ⟨_, rfl, _⟩ := h
    rfl
  · refine ⟨_, PSs.nox (pss_one (ps_ret (pe_and (pe_callB call_isi (by rfl) Z.f_isinstance (by decide +kernel) (pa_cons (pv 0) (pa_cons (pe_bltn (v := .ty "int") rfl Z.f_int (by decide +kernel) rfl) pa_nil))) (pe_one (pe_not (pe_callB call_isi (by rfl) Z.f_isinstance (by decide +kernel) (pa_cons (pv 0) (pa_cons (pe_bltn (v := .ty "bool") rfl Z.f_bool (by decide +kernel) rfl) pa_nil)))))))), ?_⟩
    obtain ⟨i, rfl, k⟩ := h
    exact s_retP (pu_and (pu_isi (b := true) pu_var pu_c (.ty _) (.base (.int i)) (kit_ty (by decide +kernel))) fun _ => pu_not (pu_isi (b := false) pu_var pu_c (.ty _) (.base (.int i)) (kit_ty (by decide +kernel)))) k
def sp__law_put (K : PySem.W.Frag) : Sp := fun vs H Q E =>
  ∃ (d : Addr) (kvs : List (Int × Int)) (p c : Int), vs = [.ref d, .int p, .int c] ∧ H d = some (.dK (kI kvs)) ∧ kvs.length < 1000000 ∧ Q .non (upd H d (.dK (kI (putI kvs p c))))
abbrev N__law_put : List Str := ["found", "power", "count"]
theorem sc__law_put : FnScope N__law_put ["found", "power", "count"] (defScope s__law_put) := ⟨rfl, rfl, rfl, by decide +kernel, rfl, by decide +kernel, by decide +kernel⟩
theorem ok__law_put {P : Program} {w : World} {K : PySem.W.Frag} {mg : Str → Option Value} {base : Heap} {f : Addr} {fd : FuncData} (F : FnP K "_law_put" s__law_put f fd) (Z : Bl mg)  : FnOk P w K mg base CX0 1 f fd ["found", "power", "count"] (sp__law_put K) := by
  refine F.ok sc__law_put (fun vs H Q E h => ?_) (fun cdv A outer s H vs Q E hr h => ?_)
  · obtain ⟨_, _, _, _, rfl, _⟩ := h
    rfl
  · refine ⟨_, PSs.nox (pss_cons (ps_dput (hu_of hr) (pv 0) (pv 1) (pe_op op_add (pe_dget2 (hu_of hr) (pv 0) (pv 1) pe_int ⟨by rfl, by rfl, by rfl, by rfl⟩) (pv 2)) rfl)
      (pss_one (ps_if (pt_cmpR op_eq (pe_dget (hu_of hr) (pv 0) (pv 1) (fun _ _ => rfl)) pe_int (nomark _)) (pss_one (ps_expr (pe_dpop1 (pv 0) (pv 1) ⟨by rfl, by rfl, by rfl, by rfl⟩))) pss_nil))), ?_⟩
    obtain ⟨d, kvs, p, c, rfl, hd, hl, k⟩ := h
    refine q_dput (pu_I0 (pu_dget0 pu_var pu_var pu_c (.inl hd)) pu_var) pu_var pu_var hd hl ?_
    refine s_ifP (pt_test (pu_eqI (pu_dget pu_var pu_var (.inl upd_same) (has_set _ _ _)) pu_c)) (fun hc => ?_) (fun hc => ?_)
    · refine s_dpop pu_var pu_var upd_same (has_set _ _ _) ?_
      rw [upd_upd]
      rw [co_set, if_pos rfl] at hc
      unfold putI at k
      rw [if_pos (of_decide_eq_true hc)] at k
      exact k
    · rw [co_set, if_pos rfl] at hc
      unfold putI at k
      rw [if_neg (of_decide_eq_false hc)] at k
      exact k
def sp__law_times (K : PySem.W.Frag) : Sp := fun vs H Q E =>
  ∃ (a b : Addr) (x y : List (Int × Int)), vs = [.ref a, .ref b] ∧ H a = some (.dK (kI x)) ∧ H b = some (.dK (kI y)) ∧ a ≠ b ∧ x.length ≤ 900 ∧ y.length ≤ 900 ∧ (∀ q ∈ y, -(2 ^ 64) < co y q.1 ∧ co y q.1 < 2 ^ 64) ∧ ∀ p, H p = none → Q (.ref p) (upd H p (.dK (kI (mulI x y))))
abbrev N__law_times : List Str := ["one", "other", "found", "power", "more"]
theorem sc__law_times : FnScope N__law_times ["one", "other"] (defScope s__law_times) := ⟨rfl, rfl, rfl, by decide +kernel, rfl, by decide +kernel, by decide +kernel⟩
theorem ok__law_times {P : Program} {w : World} {K : PySem.W.Frag} {mg : Str → Option Value} {base : Heap} {f : Addr} {fd : FuncData} (F : FnP K "_law_times" s__law_times f fd) (Z : Bl mg) (c__law_put : Cal P w K mg base "_law_put" ["found", "power", "count"] 1 (sp__law_put K)) : FnOk P w K mg base CX0 2 f fd ["one", "other"] (sp__law_times K) := by
  refine F.ok sc__law_times (fun vs H Q E h => ?_) (fun cdv A outer s H vs Q E hr h => ?_)
  · obtain ⟨_, _, _, _, rfl, _⟩ := h
    rfl
  · refine ⟨_, PSs.nox (pss_cons (ps_set (i := 2) sc__law_times.nd rfl (Or.inl rfl) pe_dnewK)
      (pss_cons (ps_lock (ps_for PassesOwn.never rfl (pi_keys (pv 0)) (pg_name (i := 3) sc__law_times.nd rfl (Or.inl rfl))
      (pss_one (ps_lock (ps_for PassesOwn.never rfl (pi_keys (pv 1)) (pg_name (i := 4) sc__law_times.nd rfl (Or.inl rfl))
      (pss_one (ps_expr (pe_cal c__law_put (hr.mono (by decide)) rfl (pa_cons (pv 2) (pa_cons (pe_op op_add (pv 3) (pv 4)) (pa_cons (pe_op op_mul (pe_dget (hu_of hr) (pv 0) (pv 3) (fun _ _ => rfl)) (pe_dget (hu_of hr) (pv 1) (pv 4) (fun _ _ => rfl))) pa_nil)))))))))))
      (pss_one (ps_ret (pv 2))))), ?_⟩
    obtain ⟨a, b, x, y, rfl, ha, hb, ab, lx, ly, hy, k⟩ := h
    intro p np
    have pa : a ≠ p := ne_of_none ha np
    have pb : b ≠ p := ne_of_none hb np
    refine q_forD (kvs := x) (fun od => pu_var) (by rw [upd_ne pa]; exact ha) (fun i σ' H' => ∃ acc z1 z2, σ' = [some (.ref a), some (.ref b), some (.ref p), z1, z2] ∧ H' = upd H p (.dK (kI acc)) ∧ acc.length ≤ i * 900 ∧
      (x.drop i).foldl (fun acc q => y.foldl (fun acc r => putI acc (q.1 + r.1) (co x q.1 * co y r.1)) acc) acc = mulI x y)
      ⟨[], none, none, rfl, rfl, Nat.zero_le _, rfl⟩ (fun i σ' H' ⟨_, _, _, _, e, _⟩ => by rw [e, upd_ne pa]; exact ha) (fun i q σ' H' od D' hq p1 kn => ?_) (fun σ' H' p1 => ?_)
    · obtain ⟨acc, z1, z2, rfl, rfl, hl, hm⟩ := p1
      have hi := (List.getElem?_eq_some_iff.mp hq).1
      have hx : hasI x q.1 = true := kI_get hq
      have hb' : ∀ o, upd (upd H p o) a (.frz od (.dK (kI x))) b = some (.dK (kI y)) := fun o => by rw [upd_ne ab.symm, upd_ne pb]; exact hb
      refine s_forD (kvs := y) (fun od => pu_var) (hb' _) (fun j σ' H' => ∃ acc' z2, σ' = [some (.ref a), some (.ref b), some (.ref p), some (.int q.1), z2] ∧ H' = upd (upd H p (.dK (kI acc'))) a (.frz od (.dK (kI x))) ∧ acc'.length ≤ acc.length + j ∧
        (y.drop j).foldl (fun acc r => putI acc (q.1 + r.1) (co x q.1 * co y r.1)) acc' = y.foldl (fun acc r => putI acc (q.1 + r.1) (co x q.1 * co y r.1)) acc)
        ⟨acc, z2, rfl, rfl, Nat.le_refl _, rfl⟩ (fun j σ' H' ⟨_, _, _, e, _⟩ => by rw [e]; exact hb' _) (fun j r σ' H' od2 D2 hr2 p2 kn2 => ?_) (fun σ' H' p2 => ?_)
      · obtain ⟨acc', z2, rfl, rfl, hl2, hm2⟩ := p2
        have hj := (List.getElem?_eq_some_iff.mp hr2).1
        have hyr : hasI y r.1 = true := kI_get hr2
        have hp : ∀ o, upd (upd (upd H p o) a (.frz od (.dK (kI x)))) b (.frz od2 (.dK (kI y))) p = some o := fun o => by rw [upd_ne pb.symm, upd_ne pa.symm, upd_same]
        have hA : ∀ o, upd (upd (upd H p o) a (.frz od (.dK (kI x)))) b (.frz od2 (.dK (kI y))) a = some (.frz od (.dK (kI x))) := fun o => by rw [upd_ne ab, upd_same]
        refine s_dropC (k_call (pa_c pu_var (pa_c (pu_I0 pu_var pu_var) (pa_c (pu_I (pu_dget pu_var pu_var (.inr ⟨_, hA _⟩) hx) (pu_dget pu_var pu_var (.inr ⟨_, upd_same⟩) hyr) (.inr (hy r (List.mem_of_getElem? hr2)))) pa_n))) ⟨p, acc', _, _, rfl, hp _, by omega, ?_⟩)
        have e := kn2 [some (.ref a), some (.ref b), some (.ref p), some (.int q.1), some (.int r.1)] (upd (upd H p (.dK (kI (putI acc' (q.1 + r.1) (co x q.1 * co y r.1))))) a (.frz od (.dK (kI x)))) ⟨_, _, rfl, rfl, ?_, fold_turn hr2 hm2⟩
        · rw [upd_comm pb, upd_comm pa, upd_upd]
          exact e
        · have := putI_len acc' (q.1 + r.1) (co x q.1 * co y r.1)
          omega
      · obtain ⟨acc', z2, rfl, rfl, hl2, hm2⟩ := p2
        have e2 := fold_end hm2
        refine kn _ _ ⟨acc', some (.int q.1), z2, rfl, rfl, ?_, ?_⟩
        · have : (i + 1) * 900 = i * 900 + 900 := by omega
          omega
        · have h3 := fold_turn hq hm
          rw [← e2] at h3
          exact h3
    · obtain ⟨acc, z1, z2, rfl, rfl, hl, hm⟩ := p1
      have e := fold_end hm
      subst e
      exact s_retP pu_var (k p np)
def sp__law_told (K : PySem.W.Frag) : Sp := fun vs H Q E =>
  ∃ (B : Hp) (d : Addr) (kvs : List (Int × Int)), vs = [.ref d] ∧ Ex B H ∧ H d = some (.dK (kI kvs)) ∧ kvs.length < 64 ∧ ∀ v B1 H1, Ext M0 B H B1 H1 → SumT B1 v (told kvs) → Q v H1
abbrev N__law_told : List Str := ["found", "power"]
theorem sc__law_told : FnScope N__law_told ["found"] (defScope s__law_told) := ⟨rfl, rfl, rfl, by decide +kernel, rfl, by decide +kernel, by decide +kernel⟩
theorem ok__law_told {P : Program} {w : World} {K : PySem.W.Frag} {mg : Str → Option Value} {base : Heap} {f : Addr} {fd : FuncData} (F : FnP K "_law_told" s__law_told f fd) (Z : Bl mg)  : FnOk P w K mg base CX0 1 f fd ["found"] (sp__law_told K) := by
  refine F.ok sc__law_told (fun vs H Q E h => ?_) (fun cdv A outer s H vs Q E hr h => ?_)
  · obtain ⟨_, _, _, rfl, _⟩ := h
    rfl
  · refine ⟨_, PSs.nox (pss_one (ps_ret (pe_callTy call_tuple_F (by rfl) Z.f_tuple (by decide +kernel) (pa_cons (pe_lc (own := [("power", 1)]) rfl sc__law_told.nd (pi_list (pe_callB (call_sortedDI rfl) (by rfl) Z.f_sorted (by decide +kernel) (pa_cons (pv 0) pa_nil))) (blkOk_by (own := [("power", 1)]) (N := N__law_told) (sc := defScope s__law_told) (by decide +kernel)) (fun _ _ _ _ _ => (pg_name (i := 1) sc__law_told.nd rfl (Or.inl rfl))) (fun _ _ _ _ _ => pts_nil) (fun _ _ _ _ _ => (pe_tup (pa_cons (pv 1) (pa_cons (pe_dget (hu_of hr) (pv 0) (pv 1) (fun _ _ => rfl)) pa_nil))))) pa_nil)))), ?_⟩
    obtain ⟨B, d, kvs, rfl, bh, hd, hl, k⟩ := h
    have len : (srt (keysI kvs)).length = kvs.length := by rw [(srt_perm _).length_eq]; unfold keysI; rw [List.length_map]
    refine s_retC (k_cb (k_cons (k_lcNL (B := B) (xs := (srt (keysI kvs)).map V.int) (fun R kr => ?_) (fun i y B' => ∃ q, (told kvs)[i]? = some q ∧ PairT B' y q) (fun i y _ _ e ⟨q, h1, h2⟩ => ⟨q, h1, h2.mo e⟩) (by rw [List.length_map, len]; omega) (fun x => rfl) (fun i x B' H' Q' hx e1 kq => ?_) fun Dl ys B' H' e1 nD nB hD hl2 hr => ?_)))
    · refine ⟨_, rfl, d, kI kvs, keysI kvs, rfl, .inl hd, kI_keys kvs, by unfold keysI; rw [List.length_map]; exact hl, fun ys p hp hu np => ?_⟩
      obtain rfl := srt_is hp hu
      exact kr p _ _ ((Ext.refl bh).put np) np upd_same
    · obtain ⟨q, hq, rfl⟩ := get_int hx
      have hm : q ∈ keysI kvs := (srt_perm _).subset (List.mem_of_getElem? hq)
      refine k_tup (pa_c pu_var (pa_c (pu_dget pu_var pu_var (.inl (e1.ex _ _ hd)) ((hasI_iff _ _).mpr hm)) pa_n)) e1.bh (by simp) fun t B2 H2 e2 nt ht => ?_
      refine kq _ _ _ e2 ⟨(q, co kvs q), ?_, t, rfl, ht⟩
      unfold told
      rw [List.getElem?_map, hq]
      rfl
    · refine ⟨Dl, ys, rfl, .inl (.inl hD), fun l o nl od => ?_⟩
      have E2 : Ext M0 B H (upd B' l (.frz o (.tup ys))) (upd H' l (.frz o (.tup ys))) := e1.put nl
      refine k _ _ _ E2 ⟨l, ys, o, rfl, upd_same, od, ?_, fun i y hy => ?_⟩
      · rw [hl2, List.length_map]
        unfold told
        rw [List.length_map]
      · obtain ⟨q, h1, h2⟩ := hr i y hy
        exact ⟨q, h1, h2.mo (Ex.new (fresh_back e1.bh nl))⟩
def sp__law_is_sum (K : PySem.W.Frag) : Sp := fun vs H Q E =>
  ∃ (l m : List (Int × Int)) (v w : V), vs = [v, w] ∧ SumT H v l ∧ SumT H w m ∧ Q (.bl (decide (l = m))) H
abbrev N__law_is_sum : List Str := ["found", "due", "one"]
theorem sc__law_is_sum : FnScope N__law_is_sum ["found", "due"] (defScope s__law_is_sum) := ⟨rfl, rfl, rfl, by decide +kernel, rfl, by decide +kernel, by decide +kernel⟩
theorem ok__law_is_sum {P : Program} {w : World} {K : PySem.W.Frag} {mg : Str → Option Value} {base : Heap} {f : Addr} {fd : FuncData} (F : FnP K "_law_is_sum" s__law_is_sum f fd) (Z : Bl mg) (c__law_whole : Cal P w K mg base "_law_whole" ["found"] 1 (sp__law_whole K)) : FnOk P w K mg base CX0 2 f fd ["found", "due"] (sp__law_is_sum K) := by
  refine F.ok sc__law_is_sum (fun vs H Q E h => ?_) (fun cdv A outer s H vs Q E hr h => ?_)
  · obtain ⟨_, _, _, _, rfl, _⟩ := h
    rfl
  · refine ⟨_, PSs.nox (pss_cons (ps_if (PW.pt (pw_or (pt_not (pt_val (pe_callB call_isi (by rfl) Z.f_isinstance (by decide +kernel) (pa_cons (pv 0) (pa_cons (pe_bltn (v := .ty "tuple") rfl Z.f_tuple (by decide +kernel) rfl) pa_nil))))) (pw_or1 (pt_cmpR (op_neD hr.units) (pv 0) (pv 1) (nomark _))))) (pss_one (ps_ret pe_bl)) pss_nil)
      (pss_cons (ps_for PassesOwn.never rfl (pi_tup (pv 0)) (pg_name (i := 2) sc__law_is_sum.nd rfl (Or.inl rfl))
      (pss_one (ps_if (PW.pt (pw_or (pt_not (pt_val (pe_callB call_isi (by rfl) Z.f_isinstance (by decide +kernel) (pa_cons (pv 2) (pa_cons (pe_bltn (v := .ty "tuple") rfl Z.f_tuple (by decide +kernel) rfl) pa_nil))))) (pw_or (pt_not (pt_val (pe_cal c__law_whole (hr.mono (by decide)) rfl (pa_cons (pe_ix ix_tup (pv 2) pe_int (fun _ _ => rfl)) pa_nil)))) (pw_or1 (pt_not (pt_val (pe_cal c__law_whole (hr.mono (by decide)) rfl (pa_cons (pe_ix ix_tup (pv 2) pe_int (fun _ _ => rfl)) pa_nil)))))))) (pss_one (ps_ret pe_bl)) pss_nil)))
      (pss_one (ps_ret pe_bl)))), ?_⟩
    obtain ⟨l, m, v, w, rfl, hv, hw, k⟩ := h
    have hv0 := hv
    obtain ⟨a, ys, o, rfl, ha, _, hl, hr⟩ := hv
    refine q_whenP (pt_or (pt_no (pt_B (pu_isi (b := true) pu_var pu_c (.ty _) (.fTuple ha) (kit_ty (by decide +kernel))))) fun _ => pt_test (pu_neS pu_var pu_var hv0 hw)) (fun hc => ?_) (fun hc => ?_)
    · have e : decide (l = m) = false := by simpa using hc
      rw [e] at k
      exact s_retP pu_c k
    · have e : decide (l = m) = true := by simpa using hc
      rw [e] at k
      refine q_forTP pu_var (.inl (.inr ⟨o, ha⟩)) (fun i σ' H' => H' = H ∧ ∃ x, σ' = [some (.ref a), some w, x]) ⟨rfl, _, rfl⟩ (fun i σ' H' _ p => by rw [p.1]; exact .inl (.inr ⟨o, ha⟩)) (fun i x σ' H' hi p => ?_) (fun σ' H' p => ?_)
      · obtain ⟨rfl, y, rfl⟩ := p
        obtain ⟨q, hq, t, rfl, ht⟩ := hr i x hi
        refine s_whenP (pt_or (pt_no (pt_B (pu_isi (b := true) pu_var pu_c (.ty _) (.base (.tup ht)) (kit_ty (by decide +kernel))))) fun _ => pt_or (pt_no (pt_B (a := true) (pu_call (pa_c (pu_ixT pu_var pu_c (.inl (.inl ht)) (by rfl)) pa_n) fun Q q2 => ⟨q.1, rfl, q2⟩)))
          fun _ => pt_no (pt_B (a := true) (pu_call (pa_c (pu_ixT pu_var pu_c (.inl (.inl ht)) (by rfl)) pa_n) fun Q q2 => ⟨q.2, rfl, q2⟩))) (fun hc => ?_) (fun _ => ⟨rfl, _, rfl⟩)
        simp at hc
      · obtain ⟨rfl, y, rfl⟩ := p
        exact s_retP pu_c k
/-! ### functionals: what a sum from a nest on gives for g -/
abbrev Fn := Int → Int
def GE (n : Nat) (c : List Int → Fn → Int) : List Int → List Int → Fn → Int
  | [], nest, g => c nest g
  | l :: r, nest, g => GE n c r nest (fun p => g (p + wayOf l)) + (if (hookN n (ix l) nest).2 = true then GE n c r (hookN n (ix l) nest).1 (fun p => - g (p - wayOf l + 2) - g (p - wayOf l - 2)) else GE n c r (hookN n (ix l) nest).1 fun p => g (p - wayOf l))
theorem GE_nil (n : Nat) (c : List Int → Fn → Int) (nest : List Int) (g : Fn) : GE n c [] nest g = c nest g := rfl
theorem GE_cons (n : Nat) (c : List Int → Fn → Int) (l : Int) (r nest : List Int) (g : Fn) : GE n c (l :: r) nest g = GE n c r nest (fun p => g (p + wayOf l)) + (if (hookN n (ix l) nest).2 = true then GE n c r (hookN n (ix l) nest).1 (fun p => - g (p - wayOf l + 2) - g (p - wayOf l - 2)) else GE n c r (hookN n (ix l) nest).1 fun p => g (p - wayOf l)) := rfl
def cl (n : Nat) (nest : List Int) (g : Fn) : Int := lin (powI (loopsN n nest - 1)) g
/-- given by a sum -/
def IsLin (Z : Fn → Int) : Prop := ∃ y : List (Int × Int), Tidy y ∧ ∀ g, Z g = lin y g
theorem IsLin.add {Z : Fn → Int} (h : IsLin Z) (f g : Fn) : Z (fun p => f p + g p) = Z f + Z g := by
  obtain ⟨y, _, e⟩ := h
  rw [e, e, e, lin_add]
theorem IsLin.neg {Z : Fn → Int} (h : IsLin Z) (f : Fn) : Z (fun p => - f p) = - Z f := by
  obtain ⟨y, _, e⟩ := h
  rw [e, e, lin_neg]
theorem IsLin.dl {Z : Fn → Int} (h : IsLin Z) (f g : Fn) : Z (fun p => - f p - g p) = - Z f - Z g := by
  have e : (fun p => - f p - g p) = fun p => - f p + - g p := funext fun p => by omega
  rw [e, h.add, h.neg, h.neg]
  omega
theorem isLin_lin {y : List (Int × Int)} (h : Tidy y) : IsLin (lin y) := ⟨y, h, fun _ => rfl⟩
theorem isLin_sh {Z : Fn → Int} (h : IsLin Z) (m : Int) : IsLin fun g => Z fun p => g (p + m) := by
  obtain ⟨y, ty, e⟩ := h
  refine ⟨stepSum y m [], tidy_foldput _ _ _ _ tidy_nil, fun g => ?_⟩
  show Z (fun p => g (p + m)) = _
  rw [e, lin_step ty tidy_nil]
  show _ = 0 + _
  omega
theorem isLin_add {Z Y : Fn → Int} (h : IsLin Z) (k : IsLin Y) : IsLin fun g => Z g + Y g := by
  obtain ⟨z, tz, e⟩ := h
  obtain ⟨y, ty, f⟩ := k
  refine ⟨stepSum y 0 z, tidy_foldput _ _ _ _ tz, fun g => ?_⟩
  show Z g + Y g = _
  rw [e, f, lin_step ty tz]
  congr 1
  exact lin_congr fun p => by rw [Int.add_zero]
theorem isLin_neg {Z : Fn → Int} (h : IsLin Z) : IsLin fun g => - Z g := by
  obtain ⟨z, tz, e⟩ := h
  refine ⟨mulI z [(0, -1)], tidy_mul _ _, fun g => ?_⟩
  have tm : Tidy [(0, -1)] := by unfold Tidy; decide
  show - Z g = _
  rw [e, lin_mul tz tm, ← lin_neg]
  refine lin_congr fun p => ?_
  show _ = (-1) * g (p + 0) + 0
  simp only [Int.add_zero]
  omega
theorem isLin_dl {Z : Fn → Int} (h : IsLin Z) (a b : Int) : IsLin fun g => Z fun p => - g (p + a) - g (p + b) := by
  have e : (fun g : Fn => Z fun p => - g (p + a) - g (p + b)) = fun g => (- Z fun p => g (p + a)) + (- Z fun p => g (p + b)) := funext fun g => by rw [h.dl]; omega
  rw [e]
  exact isLin_add (isLin_neg (isLin_sh h a)) (isLin_neg (isLin_sh h b))
theorem isLin_GE {n : Nat} {c : List Int → Fn → Int} (hc : ∀ nest, IsLin (c nest)) : ∀ (word nest : List Int), IsLin (GE n c word nest)
  | [], nest => hc nest
  | l :: r, nest => by
    have h1 := isLin_sh (isLin_GE (n := n) hc r nest) (wayOf l)
    have e : GE n c (l :: r) nest = fun g => GE n c r nest (fun p => g (p + wayOf l)) + (if (hookN n (ix l) nest).2 = true then GE n c r (hookN n (ix l) nest).1 (fun p => - g (p - wayOf l + 2) - g (p - wayOf l - 2)) else GE n c r (hookN n (ix l) nest).1 fun p => g (p - wayOf l)) := rfl
    rw [e]
    refine isLin_add h1 ?_
    by_cases b : (hookN n (ix l) nest).2 = true
    · simp only [if_pos b]
      have h2 := isLin_dl (isLin_GE (n := n) hc r (hookN n (ix l) nest).1) (- wayOf l + 2) (- wayOf l - 2)
      have e2 : (fun g : Fn => GE n c r (hookN n (ix l) nest).1 fun p => - g (p - wayOf l + 2) - g (p - wayOf l - 2)) = fun g => GE n c r (hookN n (ix l) nest).1 fun p => - g (p + (- wayOf l + 2)) - g (p + (- wayOf l - 2)) := by
        funext g
        congr 1
        funext p
        rw [show p + (- wayOf l + 2) = p - wayOf l + 2 by omega, show p + (- wayOf l - 2) = p - wayOf l - 2 by omega]
      rw [e2]
      exact h2
    · simp only [if_neg b]
      have h2 := isLin_sh (isLin_GE (n := n) hc r (hookN n (ix l) nest).1) (- wayOf l)
      have e2 : (fun g : Fn => GE n c r (hookN n (ix l) nest).1 fun p => g (p - wayOf l)) = fun g => GE n c r (hookN n (ix l) nest).1 fun p => g (p + - wayOf l) := by
        funext g
        congr 1
      rw [e2]
      exact h2
theorem isLin_cl (n : Nat) (nest : List Int) : IsLin (cl n nest) := isLin_lin (tidy_pow _)
abbrev GG (n : Nat) (word nest : List Int) (g : Fn) : Int := GE n (cl n) word nest g
theorem isLin_GG (n : Nat) (word nest : List Int) : IsLin (GG n word nest) := isLin_GE (isLin_cl n) word nest
theorem G_GG (n : Nat) : ∀ (word nest : List Int) (j : Int), G n word nest j = GG n word nest fun p => d0 (j - p)
  | [], nest, j => (lin_pow_at _ _).symm
  | l :: r, nest, j => by
    show G n r nest (j - wayOf l) + (if (hookN n (ix l) nest).2 = true then dl (G n r (hookN n (ix l) nest).1) else G n r (hookN n (ix l) nest).1) (j + wayOf l) = GE n (cl n) (l :: r) nest _
    rw [GE_cons, G_GG n r nest]
    congr 1
    · congr 1
      funext p
      rw [show j - wayOf l - p = j - (p + wayOf l) by omega]
    · split
      · show - G n r _ (j + wayOf l - 2) - G n r _ (j + wayOf l + 2) = _
        rw [G_GG n r, G_GG n r, ← (isLin_GG n r _).dl]
        congr 1
        funext p
        rw [show j + wayOf l - 2 - p = j - (p - wayOf l + 2) by omega, show j + wayOf l + 2 - p = j - (p - wayOf l - 2) by omega]
      · rw [G_GG n r]
        congr 1
        funext p
        rw [show j + wayOf l - p = j - (p - wayOf l) by omega]
theorem sumL_perm {α : Type} {l m : List α} (h : l.Perm m) (f : α → Int) : sumL l f = sumL m f := by
  induction h with
  | nil => rfl
  | cons a _ ih => rw [sumL_cons, sumL_cons, ih]
  | swap a b l => rw [sumL_cons, sumL_cons, sumL_cons, sumL_cons]; omega
  | trans _ _ h1 h2 => exact h1.trans h2
theorem tidy_perm {x y : List (Int × Int)} (hx : Tidy x) (hy : Tidy y) (h : ∀ j, co x j = co y j) : x.Perm y := by
  have nd : ∀ {z : List (Int × Int)}, Tidy z → z.Nodup := fun {z} h => by
    have := h.1
    unfold keysI at this
    exact List.Pairwise.of_map _ (fun a b e z => e (by rw [z])) this
  refine (List.perm_ext_iff_of_nodup (nd hx) (nd hy)).mpr fun q => ?_
  have one : ∀ {x y : List (Int × Int)}, Tidy x → Tidy y → (∀ j, co x j = co y j) → q ∈ x → q ∈ y := fun {x y} hx hy h hq => by
    have c := co_mem hx.1 hq
    have hne := hx.2 q hq
    rw [h] at c
    have hk : q.1 ∈ keysI y := (tidy_mem hy _).mpr (by rw [c]; exact hne)
    obtain ⟨r, hr, e⟩ := List.mem_map.mp hk
    have c2 := co_mem hy.1 hr
    rw [e, c] at c2
    have : r = q := Prod.ext e c2.symm
    rw [← this]
    exact hr
  exact ⟨one hx hy h, one hy hx fun j => (h j).symm⟩
theorem lin_ext {x y : List (Int × Int)} (hx : Tidy x) (hy : Tidy y) (h : ∀ j, co x j = co y j) (g : Fn) : lin x g = lin y g := sumL_perm (tidy_perm hx hy h) _
theorem co_d0 {x : List (Int × Int)} (h : Tidy x) (j : Int) : co x j = lin x fun p => d0 (j - p) := by
  rw [co_lin h]
  exact lin_congr fun p => by unfold d0; by_cases z : j = p <;> simp [z] <;> omega
theorem isLin_ext {x : List (Int × Int)} (hx : Tidy x) {Z : Fn → Int} (hZ : IsLin Z) (h : ∀ j, co x j = Z fun p => d0 (j - p)) (g : Fn) : lin x g = Z g := by
  obtain ⟨y, ty, e⟩ := hZ
  rw [e]
  exact lin_ext hx ty (fun j => by rw [h, e, co_d0 ty]) g
/-- the told sum as a functional -/
theorem lin_nest {n : Nat} (h1 : 1 ≤ n) (h6 : n ≤ 6) {word : List Int} (hL : Letters n word) (g : Fn) : lin (nestSum n word) g = GG n word (plainN n) g :=
  isLin_ext (tidy_nest h1 h6 hL) (isLin_GG n word _) (fun j => by rw [co_nest h1 h6 hL, G_GG]) g
/-! ### the word turned -/
/-- hooks above and beneath go past each other -/
def cycChk (n : Nat) : Bool := (Nst n).all fun nest => (List.range (n - 1)).all fun m =>
  decide (1 ≤ loopsN n (hookN 0 m nest).1) && decide (loopsN n (hookN n m nest).1 + (hookN n m nest).2.toNat = loopsN n (hookN 0 m nest).1 + (hookN 0 m nest).2.toNat) &&
  (List.range (n - 1)).all fun k => decide ((hookN 0 m (hookN n k nest).1).1 = (hookN n k (hookN 0 m nest).1).1) && decide ((hookN n k nest).2.toNat + (hookN 0 m (hookN n k nest).1).2.toNat = (hookN 0 m nest).2.toNat + (hookN n k (hookN 0 m nest).1).2.toNat)
def cycPl (n : Nat) : Bool := (List.range (n - 1)).all fun m => decide (hookN 0 m (plainN n) = hookN n m (plainN n))
theorem cyc1 : cycChk 1 = true := by decide +kernel
theorem cyc2 : cycChk 2 = true := by decide +kernel
theorem cyc3 : cycChk 3 = true := by decide +kernel
theorem cyc4 : cycChk 4 = true := by decide +kernel
theorem cyc5 : cycChk 5 = true := by decide +kernel
theorem cyc6 : cycChk 6 = true := by decide +kernel
theorem cycP : ((List.range 7).all cycPl) = true := by decide +kernel
theorem cyc_all {n : Nat} (h1 : 1 ≤ n) (h6 : n ≤ 6) : cycChk n = true := by
  have : n = 1 ∨ n = 2 ∨ n = 3 ∨ n = 4 ∨ n = 5 ∨ n = 6 := by omega
  rcases this with e | e | e | e | e | e <;> subst e
  · exact cyc1
  · exact cyc2
  · exact cyc3
  · exact cyc4
  · exact cyc5
  · exact cyc6
theorem cyc_at {n : Nat} (h1 : 1 ≤ n) (h6 : n ≤ 6) {nest : List Int} (hm : nest ∈ Nst n) {m : Nat} (hmn : m + 1 < n) : 1 ≤ loopsN n (hookN 0 m nest).1 ∧ loopsN n (hookN n m nest).1 + (hookN n m nest).2.toNat = loopsN n (hookN 0 m nest).1 + (hookN 0 m nest).2.toNat ∧
    ∀ k, k + 1 < n → (hookN 0 m (hookN n k nest).1).1 = (hookN n k (hookN 0 m nest).1).1 ∧ (hookN n k nest).2.toNat + (hookN 0 m (hookN n k nest).1).2.toNat = (hookN 0 m nest).2.toNat + (hookN n k (hookN 0 m nest).1).2.toNat := by
  have h := cyc_all h1 h6
  unfold cycChk at h
  have h2 := List.all_eq_true.mp (List.all_eq_true.mp h nest hm) m (List.mem_range.mpr (by omega))
  rw [Bool.and_eq_true, Bool.and_eq_true] at h2
  obtain ⟨⟨a, b⟩, c⟩ := h2
  refine ⟨of_decide_eq_true a, of_decide_eq_true b, fun k hk => ?_⟩
  have c2 := List.all_eq_true.mp c k (List.mem_range.mpr (by omega))
  rw [Bool.and_eq_true] at c2
  exact ⟨of_decide_eq_true c2.1, of_decide_eq_true c2.2⟩
/-- a hook's loop, as it stands at f -/
def dlb (b : Bool) (f : Pw) : Pw := if b = true then dl f else f
theorem dlb_n (b : Bool) (f : Pw) : dlb b f = dlN b.toNat f := by cases b <;> rfl
theorem G_cons (n : Nat) (l : Int) (r nest : List Int) (j : Int) : G n (l :: r) nest j = G n r nest (j - wayOf l) + dlN (hookN n (ix l) nest).2.toNat (G n r (hookN n (ix l) nest).1) (j + wayOf l) := by
  rw [← dlb_n]
  rfl
/-- a letter above -/
def GT (n : Nat) (l : Int) (w nest : List Int) : Pw := fun j => G n w nest (j - wayOf l) + dlN (hookN 0 (ix l) nest).2.toNat (G n w (hookN 0 (ix l) nest).1) (j + wayOf l)
theorem dlN_two (a b : Nat) (f : Pw) : dlN a (dlN b f) = dlN (a + b) f := (dlN_plus a b f).symm
theorem G_top {n : Nat} (h1 : 1 ≤ n) (h6 : n ≤ 6) {l : Int} (hl : ix l + 1 < n) : ∀ (w nest : List Int), Letters n w → nest ∈ Nst n → G n (w ++ [l]) nest = GT n l w nest
  | [], nest, _, hm => by
    funext j
    obtain ⟨a, b, _⟩ := cyc_at h1 h6 hm hl
    have hb := (nst_at h1 h6 ((nst_at h1 h6 hm).2.2 _ hl)).2.1.2.1
    show G n (l :: []) nest j = _
    rw [G_cons]
    unfold GT
    congr 1
    show dlN _ (dlN (loopsN n (hookN n (ix l) nest).1 - 1) d0) _ = dlN _ (dlN (loopsN n (hookN 0 (ix l) nest).1 - 1) d0) _
    rw [dlN_two, dlN_two]
    congr 1
    omega
  | m :: w, nest, hL, hm => by
    funext j
    have hk := (ix_eq (hL m List.mem_cons_self)).2
    have hL' : Letters n w := fun x hx => hL x (List.mem_cons_of_mem _ hx)
    obtain ⟨_, _, c⟩ := cyc_at h1 h6 hm hl
    obtain ⟨c1, c2⟩ := c _ hk
    show G n (m :: (w ++ [l])) nest j = GT n l (m :: w) nest j
    rw [G_cons, G_top h1 h6 hl w nest hL' hm, G_top h1 h6 hl w _ hL' ((nst_at h1 h6 hm).2.2 _ hk)]
    unfold GT
    rw [G_cons, show (G n (m :: w) (hookN 0 (ix l) nest).1) = fun j => G n w (hookN 0 (ix l) nest).1 (j - wayOf m) + dlN (hookN n (ix m) (hookN 0 (ix l) nest).1).2.toNat (G n w (hookN n (ix m) (hookN 0 (ix l) nest).1).1) (j + wayOf m) from funext fun j => G_cons _ _ _ _ _]
    rw [dlN_add, dlN_add]
    have s1 : ∀ (k : Nat) (f : Pw) (c j : Int), dlN k (fun j => f (j - c)) j = dlN k f (j - c) := fun k f c j => by
      have := dlN_sh k f (-c) j
      rw [← Int.sub_eq_add_neg] at this
      exact this
    rw [s1, s1, dlN_sh, dlN_sh, dlN_two, dlN_two, c1]
    rw [show j - wayOf m - wayOf l = j - wayOf l - wayOf m by omega, show j - wayOf m + wayOf l = j + wayOf l - wayOf m by omega, show j + wayOf m - wayOf l = j - wayOf l + wayOf m by omega, show j + wayOf m + wayOf l = j + wayOf l + wayOf m by omega, c2]
    omega
/-- one letter from the end to the beginning -/
theorem G_turn1 {n : Nat} (h1 : 1 ≤ n) (h6 : n ≤ 6) {l : Int} {w : List Int} (hL : Letters n (l :: w)) : G n (w ++ [l]) (plainN n) = G n (l :: w) (plainN n) := by
  have hl := (ix_eq (hL l List.mem_cons_self)).2
  rw [G_top h1 h6 hl w _ (fun x hx => hL x (List.mem_cons_of_mem _ hx)) (nst_plain h1 h6)]
  have e := List.all_eq_true.mp (List.all_eq_true.mp cycP n (List.mem_range.mpr (by omega))) (ix l) (List.mem_range.mpr (by omega))
  have e2 := of_decide_eq_true e
  funext j
  rw [G_cons]
  unfold GT
  rw [e2]
theorem G_turn {n : Nat} (h1 : 1 ≤ n) (h6 : n ≤ 6) : ∀ (a b : List Int), Letters n (a ++ b) → G n (b ++ a) (plainN n) = G n (a ++ b) (plainN n)
  | [], b, _ => by rw [List.append_nil, List.nil_append]
  | l :: a, b, hL => by
    have hL2 : Letters n (l :: (a ++ b)) := hL
    have h := G_turn h1 h6 a (b ++ [l]) (fun x hx => by
      rcases List.mem_append.mp hx with z | z
      · exact hL2 x (List.mem_cons_of_mem _ (List.mem_append.mpr (.inl z)))
      · rcases List.mem_append.mp z with z | z
        · exact hL2 x (List.mem_cons_of_mem _ (List.mem_append.mpr (.inr z)))
        · rw [List.mem_singleton.mp z]; exact hL2 l List.mem_cons_self)
    rw [show b ++ l :: a = b ++ [l] ++ a by simp, h, show a ++ (b ++ [l]) = (a ++ b) ++ [l] by simp]
    exact G_turn1 h1 h6 hL2
theorem told_turn {n : Nat} (h1 : 1 ≤ n) (h6 : n ≤ 6) {a b : List Int} (hL : Letters n (a ++ b)) : told (nestSum n (b ++ a)) = told (nestSum n (a ++ b)) := by
  have hL2 : Letters n (b ++ a) := fun x hx => hL x (by rcases List.mem_append.mp hx with z | z; exact List.mem_append.mpr (.inr z); exact List.mem_append.mpr (.inl z))
  exact told_ext (tidy_nest h1 h6 hL2) (tidy_nest h1 h6 hL) fun j => by rw [co_nest h1 h6 hL2, co_nest h1 h6 hL, G_turn h1 h6 a b hL]
/-! ### two nests side by side -/
def mapA (n1 n2 : Nat) (p : Int) : Int := if p < n1 then p else p + n2
def mapB (n1 n2 : Nat) (p : Int) : Int := if p < n2 then p + n1 else p + n1 + n1
def tens (n1 n2 : Nat) (a b : List Int) : List Int := (a.take n1).map (mapA n1 n2) ++ (b.take n2).map (mapB n1 n2) ++ (a.drop n1).map (mapA n1 n2) ++ (b.drop n2).map (mapB n1 n2)
/-- .. with a hook between them -/
def mapA' (n1 n2 : Nat) (p : Int) : Int := if p < n1 then p else if p = 2 * n1 - 1 then n1 else p + n2
def mapB' (n1 n2 : Nat) (p : Int) : Int := if p = 0 then n1 + n2 + n1 - 1 else if p < n2 then p + n1 else p + n1 + n1
def tensJ (n1 n2 : Nat) (a b : List Int) : List Int := (a.take n1).map (mapA' n1 n2) ++ [mapA' n1 n2 (a.getD (2 * n1 - 1) 0)] ++ ((b.take n2).drop 1).map (mapB' n1 n2) ++ ((a.drop n1).take (n1 - 1)).map (mapA' n1 n2) ++ [mapB' n1 n2 (b.getD 0 0)] ++ (b.drop n2).map (mapB' n1 n2)
def sideChk (n1 n2 : Nat) : Bool := decide (tens n1 n2 (plainN n1) (plainN n2) = plainN (n1 + n2)) && (Nst n1).all fun a =>
  decide (hookN (n1 + n2) (n1 - 1) (tens n1 n2 a (plainN n2)) = (tensJ n1 n2 a (plainN n2), false)) &&
  (Nst n2).all fun b => decide (loopsN (n1 + n2) (tens n1 n2 a b) = loopsN n1 a + loopsN n2 b) && decide (loopsN (n1 + n2) (tensJ n1 n2 a b) + 1 = loopsN n1 a + loopsN n2 b) &&
  ((List.range (n1 - 1)).all fun k => decide (hookN (n1 + n2) k (tens n1 n2 a b) = (tens n1 n2 (hookN n1 k a).1 b, (hookN n1 k a).2))) &&
  ((List.range (n2 - 1)).all fun k => decide (hookN (n1 + n2) (n1 + k) (tens n1 n2 a b) = (tens n1 n2 a (hookN n2 k b).1, (hookN n2 k b).2)) && decide (hookN (n1 + n2) (n1 + k) (tensJ n1 n2 a b) = (tensJ n1 n2 a (hookN n2 k b).1, (hookN n2 k b).2)))
theorem side_chk : ((List.range 3).all fun a => (List.range 3).all fun b => sideChk (a + 1) (b + 1)) = true := by decide +kernel
theorem side_41 : sideChk 4 1 = true := by decide +kernel
theorem side_51 : sideChk 5 1 = true := by decide +kernel
structure Side (n1 n2 : Nat) : Prop where
  a1 : 1 ≤ n1
  b1 : 1 ≤ n2
  s6 : n1 + n2 ≤ 6
  chk : sideChk n1 n2 = true
theorem side_of {n1 n2 : Nat} (a1 : 1 ≤ n1) (a3 : n1 ≤ 3) (b1 : 1 ≤ n2) (b3 : n2 ≤ 3) : Side n1 n2 := by
  refine ⟨a1, b1, by omega, ?_⟩
  have h := List.all_eq_true.mp (List.all_eq_true.mp side_chk (n1 - 1) (List.mem_range.mpr (by omega))) (n2 - 1) (List.mem_range.mpr (by omega))
  rw [show n1 - 1 + 1 = n1 by omega, show n2 - 1 + 1 = n2 by omega] at h
  exact h
section
variable {n1 n2 : Nat} (S : Side n1 n2)
include S
theorem Side.plain : tens n1 n2 (plainN n1) (plainN n2) = plainN (n1 + n2) := by
  have h := S.chk
  unfold sideChk at h
  rw [Bool.and_eq_true] at h
  exact of_decide_eq_true h.1
theorem Side.row {a : List Int} (ha : a ∈ Nst n1) : hookN (n1 + n2) (n1 - 1) (tens n1 n2 a (plainN n2)) = (tensJ n1 n2 a (plainN n2), false) ∧ ∀ b ∈ Nst n2, loopsN (n1 + n2) (tens n1 n2 a b) = loopsN n1 a + loopsN n2 b ∧ loopsN (n1 + n2) (tensJ n1 n2 a b) + 1 = loopsN n1 a + loopsN n2 b ∧
    (∀ k, k + 1 < n1 → hookN (n1 + n2) k (tens n1 n2 a b) = (tens n1 n2 (hookN n1 k a).1 b, (hookN n1 k a).2)) ∧
    ∀ k, k + 1 < n2 → hookN (n1 + n2) (n1 + k) (tens n1 n2 a b) = (tens n1 n2 a (hookN n2 k b).1, (hookN n2 k b).2) ∧ hookN (n1 + n2) (n1 + k) (tensJ n1 n2 a b) = (tensJ n1 n2 a (hookN n2 k b).1, (hookN n2 k b).2) := by
  have h := S.chk
  unfold sideChk at h
  rw [Bool.and_eq_true] at h
  have h2 := List.all_eq_true.mp h.2 a ha
  rw [Bool.and_eq_true] at h2
  refine ⟨of_decide_eq_true h2.1, fun b hb => ?_⟩
  have h3 := List.all_eq_true.mp h2.2 b hb
  rw [Bool.and_eq_true, Bool.and_eq_true, Bool.and_eq_true] at h3
  obtain ⟨⟨⟨q1, q2⟩, q3⟩, q4⟩ := h3
  refine ⟨of_decide_eq_true q1, of_decide_eq_true q2, fun k hk => of_decide_eq_true (List.all_eq_true.mp q3 k (List.mem_range.mpr (by omega))), fun k hk => ?_⟩
  have q5 := List.all_eq_true.mp q4 k (List.mem_range.mpr (by omega))
  rw [Bool.and_eq_true] at q5
  exact ⟨of_decide_eq_true q5.1, of_decide_eq_true q5.2⟩
end
/-- a letter of the second word, numbered on behind the first one's strands -/
def onL (n1 : Nat) (l : Int) : Int := l + wayOf l * n1
theorem onL_way {n1 : Nat} {l : Int} (h : l ≠ 0) : wayOf (onL n1 l) = wayOf l ∧ ix (onL n1 l) = n1 + ix l := by
  unfold onL wayOf ix
  by_cases z : 0 < l
  · rw [if_pos z, if_pos (show 0 < l + 1 * n1 by omega), if_neg (show ¬ l + 1 * (n1 : Int) < 0 by omega), if_neg (show ¬ l < 0 by omega)]
    exact ⟨rfl, by omega⟩
  · rw [if_neg z, if_neg (show ¬ 0 < l + -1 * n1 by omega), if_pos (show l + -1 * (n1 : Int) < 0 by omega), if_pos (show l < 0 by omega)]
    exact ⟨rfl, by omega⟩
theorem on_letters {n1 n2 : Nat} {w : List Int} (h : Letters n2 w) : Letters (n1 + n2) (w.map (onL n1)) := fun x hx => by
  obtain ⟨l, hl, rfl⟩ := List.mem_map.mp hx
  obtain ⟨a, b, c⟩ := h l hl
  unfold onL wayOf
  split <;> omega
theorem up_letters {n1 n2 : Nat} {w : List Int} (h : Letters n1 w) : Letters (n1 + n2) w := fun x hx => by
  obtain ⟨a, b, c⟩ := h x hx
  omega
section
variable {n1 n2 : Nat} (S : Side n1 n2)
include S
theorem GE_left {c : List Int → Fn → Int} (R : List Int) {b : List Int} (hb : b ∈ Nst n2) : ∀ (w a : List Int) (g : Fn), Letters n1 w → a ∈ Nst n1 → GE (n1 + n2) c (w ++ R) (tens n1 n2 a b) g = GE n1 (fun a' g => GE (n1 + n2) c R (tens n1 n2 a' b) g) w a g
  | [], a, g, _, _ => rfl
  | l :: w, a, g, hL, ha => by
    have hk := (ix_eq (hL l List.mem_cons_self)).2
    have hL' : Letters n1 w := fun x hx => hL x (List.mem_cons_of_mem _ hx)
    have ha' := (nst_at S.a1 (by have := S.s6; omega) ha).2.2 _ hk
    show GE (n1 + n2) c (l :: (w ++ R)) _ g = _
    rw [GE_cons, GE_cons, ((S.row ha).2 b hb).2.2.1 _ hk, GE_left R hb w a _ hL' ha]
    congr 1
    split
    · rw [GE_left R hb w _ _ hL' ha']
    · rw [GE_left R hb w _ _ hL' ha']
theorem GE_right {c : List Int → Fn → Int} {a : List Int} (ha : a ∈ Nst n1) : ∀ (w b : List Int) (g : Fn), Letters n2 w → b ∈ Nst n2 → GE (n1 + n2) c (w.map (onL n1)) (tens n1 n2 a b) g = GE n2 (fun b' g => c (tens n1 n2 a b') g) w b g
  | [], b, g, _, _ => rfl
  | l :: w, b, g, hL, hb => by
    obtain ⟨o1, o2⟩ := onL_way (n1 := n1) (hL l List.mem_cons_self).1
    have hk := (ix_eq (hL l List.mem_cons_self)).2
    have hL' : Letters n2 w := fun x hx => hL x (List.mem_cons_of_mem _ hx)
    have hb' := (nst_at S.b1 (by have := S.s6; omega) hb).2.2 _ hk
    rw [List.map_cons, GE_cons, GE_cons, o1, o2, (((S.row ha).2 b hb).2.2.2 _ hk).1, GE_right ha w b _ hL' hb]
    congr 1
    split
    · rw [GE_right ha w _ _ hL' hb']
    · rw [GE_right ha w _ _ hL' hb']
theorem GE_rightJ {c : List Int → Fn → Int} {a : List Int} (ha : a ∈ Nst n1) : ∀ (w b : List Int) (g : Fn), Letters n2 w → b ∈ Nst n2 → GE (n1 + n2) c (w.map (onL n1)) (tensJ n1 n2 a b) g = GE n2 (fun b' g => c (tensJ n1 n2 a b') g) w b g
  | [], b, g, _, _ => rfl
  | l :: w, b, g, hL, hb => by
    obtain ⟨o1, o2⟩ := onL_way (n1 := n1) (hL l List.mem_cons_self).1
    have hk := (ix_eq (hL l List.mem_cons_self)).2
    have hL' : Letters n2 w := fun x hx => hL x (List.mem_cons_of_mem _ hx)
    have hb' := (nst_at S.b1 (by have := S.s6; omega) hb).2.2 _ hk
    rw [List.map_cons, GE_cons, GE_cons, o1, o2, (((S.row ha).2 b hb).2.2.2 _ hk).2, GE_rightJ ha w b _ hL' hb]
    congr 1
    split
    · rw [GE_rightJ ha w _ _ hL' hb']
    · rw [GE_rightJ ha w _ _ hL' hb']
end
theorem GE_congr {n : Nat} (h1 : 1 ≤ n) (h6 : n ≤ 6) {c c' : List Int → Fn → Int} (h : ∀ nest ∈ Nst n, ∀ g, c nest g = c' nest g) : ∀ (w nest : List Int) (g : Fn), Letters n w → nest ∈ Nst n → GE n c w nest g = GE n c' w nest g
  | [], nest, g, _, hm => h nest hm g
  | l :: w, nest, g, hL, hm => by
    have hk := (ix_eq (hL l List.mem_cons_self)).2
    have hL' : Letters n w := fun x hx => hL x (List.mem_cons_of_mem _ hx)
    have hm' := (nst_at h1 h6 hm).2.2 _ hk
    rw [GE_cons, GE_cons, GE_congr h1 h6 h w nest _ hL' hm]
    congr 1
    split
    · rw [GE_congr h1 h6 h w _ _ hL' hm']
    · rw [GE_congr h1 h6 h w _ _ hL' hm']
theorem GE_plus {n : Nat} {c c' : List Int → Fn → Int} : ∀ (w nest : List Int) (g : Fn), GE n (fun a g => c a g + c' a g) w nest g = GE n c w nest g + GE n c' w nest g
  | [], nest, g => rfl
  | l :: w, nest, g => by
    rw [GE_cons, GE_cons, GE_cons, GE_plus w nest]
    split
    · rw [GE_plus w]; omega
    · rw [GE_plus w]; omega
/-- the end's functional goes on with a linear one -/
theorem GE_pull {n : Nat} {c : List Int → Fn → Int} {Z : Fn → Int} (hZ : IsLin Z) : ∀ (w nest : List Int) (g : Fn), GE n (fun a g => c a fun p => Z fun q => g (p + q)) w nest g = GE n c w nest fun p => Z fun q => g (p + q)
  | [], nest, g => rfl
  | l :: w, nest, g => by
    rw [GE_cons, GE_cons, GE_pull hZ w nest]
    congr 1
    · congr 1
      funext p
      congr 1
      funext q
      rw [show p + q + wayOf l = p + wayOf l + q by omega]
    · split
      · rw [GE_pull hZ w]
        congr 1
        funext p
        rw [← hZ.dl]
        congr 1
        funext q
        rw [show p + q - wayOf l + 2 = p - wayOf l + 2 + q by omega, show p + q - wayOf l - 2 = p - wayOf l - 2 + q by omega]
      · rw [GE_pull hZ w]
        congr 1
        funext p
        congr 1
        funext q
        rw [show p + q - wayOf l = p - wayOf l + q by omega]
theorem sumL_swap {α β : Type} (l : List α) (m : List β) (f : α → β → Int) : (sumL l fun a => sumL m fun b => f a b) = sumL m fun b => sumL l fun a => f a b := by
  induction l with
  | nil => rw [sumL_nil]; exact (sumL_zero fun b _ => rfl).symm
  | cons a l ih => rw [sumL_cons, ih, ← sumL_add]; rfl
theorem lin_swap (x y : List (Int × Int)) (f : Int → Int → Int) : (lin x fun p => lin y fun q => f p q) = lin y fun q => lin x fun p => f p q := by
  unfold lin
  have e1 : (sumL x fun a => a.2 * sumL y fun b => b.2 * f a.1 b.1) = sumL x fun a => sumL y fun b => a.2 * (b.2 * f a.1 b.1) := sumL_congr fun a _ => (sumL_mul _ _ _).symm
  have e2 : (sumL y fun b => b.2 * sumL x fun a => a.2 * f a.1 b.1) = sumL y fun b => sumL x fun a => b.2 * (a.2 * f a.1 b.1) := sumL_congr fun a _ => (sumL_mul _ _ _).symm
  rw [e1, e2, sumL_swap]
  exact sumL_congr fun b _ => sumL_congr fun a _ => by rw [← Int.mul_assoc, ← Int.mul_assoc, Int.mul_comm a.2 b.2]
theorem isLin_swap {Z Y : Fn → Int} (hZ : IsLin Z) (hY : IsLin Y) (f : Int → Int → Int) : (Z fun p => Y fun q => f p q) = Y fun q => Z fun p => f p q := by
  obtain ⟨z, _, e⟩ := hZ
  obtain ⟨y, _, e'⟩ := hY
  rw [e, e', show (fun p => Y fun q => f p q) = fun p => lin y fun q => f p q from funext fun p => e' _, show (fun q => Z fun p => f p q) = fun q => lin z fun p => f p q from funext fun q => e _, lin_swap]
theorem lin_pow_add (a b : Nat) (g : Fn) : lin (powI (a + b)) g = lin (powI a) fun p => lin (powI b) fun q => g (p + q) := by
  induction b generalizing g with
  | zero =>
    refine (lin_congr fun p => ?_)
    show _ = 1 * g (p + 0) + 0
    simp only [Int.add_zero]
    omega
  | succ b ih =>
    rw [show a + (b + 1) = (a + b) + 1 by omega, lin_pow, ih]
    refine lin_congr fun p => ?_
    rw [lin_pow]
    refine lin_congr fun q => ?_
    rw [show p + q + 2 = p + (q + 2) by omega, show p + q - 2 = p + (q - 2) by omega]
def dl2 (g : Fn) : Fn := fun p => - g (p + 2) - g (p - 2)
theorem lin_pow1 (n : Nat) (g : Fn) : lin (powI (n + 1)) g = lin (powI n) (dl2 g) := lin_pow n g
theorem isLin_dl2 {Z : Fn → Int} (h : IsLin Z) : IsLin fun g => Z (dl2 g) := isLin_dl h 2 (-2)
/-- both words with what stands at the end -/
theorem two_words {n1 n2 : Nat} (S : Side n1 n2) {w1 w2 : List Int} (h1 : Letters n1 w1) (h2 : Letters n2 w2) {E : List Int → List Int → Fn → Int} {D : Fn → Fn} (hD : IsLin fun g => D g 0) (sh : ∀ g p, D g p = D (fun r => g (p + r)) 0)
    (hE : ∀ a ∈ Nst n1, ∀ b ∈ Nst n2, ∀ g, E a b g = lin (powI (loopsN n1 a - 1 + (loopsN n2 b - 1))) (D g)) (g : Fn) :
    GE n1 (fun a g => GE n2 (fun b g => E a b g) w2 (plainN n2) g) w1 (plainN n1) g = lin (nestSum n1 w1) fun p => lin (nestSum n2 w2) fun q => D g (p + q) := by
  have a6 : n1 ≤ 6 := by have := S.s6; omega
  have b6 : n2 ≤ 6 := by have := S.s6; omega
  have pa := nst_plain S.a1 a6
  have pb := nst_plain S.b1 b6
  have hG : IsLin (GG n2 w2 (plainN n2)) := isLin_GG _ _ _
  -- the second word, the first one's nest held
  have inner : ∀ a ∈ Nst n1, ∀ g, GE n2 (fun b g => E a b g) w2 (plainN n2) g = cl n1 a fun p => GG n2 w2 (plainN n2) fun q => D g (p + q) := by
    intro a ha g
    have hZ : IsLin fun f : Fn => lin (powI (loopsN n1 a - 1)) fun p => D (fun r => f (p + r)) 0 := by
      obtain ⟨y, ty, ey⟩ := hD
      refine ⟨mulI (powI (loopsN n1 a - 1)) y, tidy_mul _ _, fun f => ?_⟩
      rw [lin_mul (tidy_pow _) ty]
      exact lin_congr fun p => ey _
    rw [GE_congr S.b1 b6 (c' := fun b g => cl n2 b fun q => (fun f : Fn => lin (powI (loopsN n1 a - 1)) fun p => D (fun r => f (p + r)) 0) fun r => g (q + r)) (fun b hb g => by
      rw [hE a ha b hb, Nat.add_comm, lin_pow_add]
      refine lin_congr fun q => lin_congr fun p => ?_
      rw [sh]
      congr 1
      funext r
      rw [show q + p + r = q + (p + r) by omega]) w2 _ g h2 pb, GE_pull hZ]
    show GG n2 w2 (plainN n2) (fun q => lin (powI (loopsN n1 a - 1)) fun p => D (fun r => (fun s => g (q + s)) (p + r)) 0) = lin (powI (loopsN n1 a - 1)) fun p => GG n2 w2 (plainN n2) fun q => D g (p + q)
    rw [isLin_swap hG (isLin_lin (tidy_pow _)) fun q p => D (fun r => (fun s => g (q + s)) (p + r)) 0]
    refine lin_congr fun p => ?_
    congr 1
    funext q
    rw [sh g (p + q)]
    congr 1
    funext r
    show g (q + (p + r)) = g (p + q + r)
    rw [show q + (p + r) = p + q + r by omega]
  have hZ2 : IsLin fun f : Fn => GG n2 w2 (plainN n2) fun q => D (fun r => f (q + r)) 0 := by
    obtain ⟨y, ty, ey⟩ := hD
    obtain ⟨z, tz, ez⟩ := hG
    refine ⟨mulI z y, tidy_mul _ _, fun f => ?_⟩
    show GG n2 w2 (plainN n2) (fun q => D (fun r => f (q + r)) 0) = _
    rw [ez, lin_mul tz ty]
    exact lin_congr fun p => ey _
  rw [GE_congr S.a1 a6 (c' := fun a g => cl n1 a fun p => (fun f : Fn => GG n2 w2 (plainN n2) fun q => D (fun r => f (q + r)) 0) fun q => g (p + q)) (fun a ha g => by
    rw [inner a ha g]
    refine lin_congr fun p => ?_
    show GG n2 w2 (plainN n2) (fun q => D g (p + q)) = GG n2 w2 (plainN n2) fun q => D (fun r => (fun q => g (p + q)) (q + r)) 0
    congr 1
    funext q
    rw [sh g (p + q)]
    congr 1
    funext r
    show g (p + q + r) = g (p + (q + r))
    rw [Int.add_assoc]) w1 _ g h1 pa, GE_pull hZ2]
  rw [lin_nest S.a1 a6 h1]
  show GG n1 w1 (plainN n1) _ = GG n1 w1 (plainN n1) _
  congr 1
  funext p
  rw [lin_nest S.b1 b6 h2]
  show GG n2 w2 (plainN n2) _ = GG n2 w2 (plainN n2) _
  congr 1
  funext q
  rw [sh g (p + q)]
  congr 1
  funext r
  show g (p + (q + r)) = g (p + q + r)
  rw [Int.add_assoc]
/-- side by side -/
theorem side_sum {n1 n2 : Nat} (S : Side n1 n2) {w1 w2 : List Int} (h1 : Letters n1 w1) (h2 : Letters n2 w2) (g : Fn) : lin (nestSum (n1 + n2) (w1 ++ w2.map (onL n1))) g = lin (nestSum n1 w1) fun p => lin (nestSum n2 w2) fun q => dl2 g (p + q) := by
  have a6 : n1 ≤ 6 := by have := S.s6; omega
  have b6 : n2 ≤ 6 := by have := S.s6; omega
  have hL : Letters (n1 + n2) (w1 ++ w2.map (onL n1)) := fun x hx => by
    rcases List.mem_append.mp hx with z | z
    · exact up_letters h1 x z
    · exact on_letters h2 x z
  rw [lin_nest (by have := S.a1; omega) S.s6 hL, ← S.plain]
  show GE (n1 + n2) (cl (n1 + n2)) _ _ g = _
  rw [GE_left S _ (nst_plain S.b1 b6) w1 _ g h1 (nst_plain S.a1 a6)]
  rw [GE_congr S.a1 a6 (c' := fun a g => GE n2 (fun b g => cl (n1 + n2) (tens n1 n2 a b) g) w2 (plainN n2) g) (fun a ha g => GE_right S ha w2 _ g h2 (nst_plain S.b1 b6)) w1 _ g h1 (nst_plain S.a1 a6)]
  refine two_words S h1 h2 (D := dl2) ⟨dlt, tidy_dlt, fun g => ?_⟩ (fun g p => ?_) (fun a ha b hb g => ?_) g
  · show - g (0 + 2) - g (0 - 2) = (-1) * g 2 + ((-1) * g (-2) + 0)
    simp only [Int.zero_add, Int.zero_sub]
    omega
  · show - g (p + 2) - g (p - 2) = - g (p + (0 + 2)) - g (p + (0 - 2))
    rw [show p + (0 + 2) = p + 2 by omega, show p + (0 - 2) = p - 2 by omega]
  · have l := ((S.row ha).2 b hb).1
    have la := (nst_at S.a1 a6 ha).2.1.2.1
    have lb := (nst_at S.b1 b6 hb).2.1.2.1
    show lin (powI (loopsN (n1 + n2) (tens n1 n2 a b) - 1)) g = _
    rw [l, show loopsN n1 a + loopsN n2 b - 1 = (loopsN n1 a - 1 + (loopsN n2 b - 1)) + 1 by omega, lin_pow1]
/-- .. with one letter between them, w its sign -/
theorem mid_sum {n1 n2 : Nat} (S : Side n1 n2) {w1 w2 : List Int} (h1 : Letters n1 w1) (h2 : Letters n2 w2) {m : Int} (hm : m = n1 ∨ m = - n1) (g : Fn) : lin (nestSum (n1 + n2) (w1 ++ m :: w2.map (onL n1))) g = lin (nestSum n1 w1) fun p => lin (nestSum n2 w2) fun q => - g (p + q + 3 * wayOf m) := by
  have a6 : n1 ≤ 6 := by have := S.s6; omega
  have b6 : n2 ≤ 6 := by have := S.s6; omega
  have a1 := S.a1
  have b1 := S.b1
  have hmL : m ≠ 0 ∧ -((n1 + n2 : Nat) : Int) < m ∧ m < ((n1 + n2 : Nat) : Int) := by omega
  have hix : ix m = n1 - 1 := by unfold ix; split <;> omega
  have hL : Letters (n1 + n2) (w1 ++ m :: w2.map (onL n1)) := fun x hx => by
    rcases List.mem_append.mp hx with z | z
    · exact up_letters h1 x z
    · rcases List.mem_cons.mp z with z | z
      · rw [z]; exact hmL
      · exact on_letters h2 x z
  rw [lin_nest (by omega) S.s6 hL, ← S.plain]
  show GE (n1 + n2) (cl (n1 + n2)) _ _ g = _
  rw [GE_left S _ (nst_plain S.b1 b6) w1 _ g h1 (nst_plain S.a1 a6)]
  rw [GE_congr S.a1 a6 (c' := fun a g => GE n2 (fun b g => cl (n1 + n2) (tens n1 n2 a b) (fun p => g (p + wayOf m)) + cl (n1 + n2) (tensJ n1 n2 a b) fun p => g (p - wayOf m)) w2 (plainN n2) g) (fun a ha g => by
    rw [GE_cons, hix, (S.row ha).1, if_neg (by simp), GE_right S ha w2 _ _ h2 (nst_plain S.b1 b6), GE_rightJ S ha w2 _ _ h2 (nst_plain S.b1 b6), GE_plus]
    have shf : ∀ (c : List Int → Fn → Int) (k : Int) (w nest : List Int) (g : Fn), GE n2 c w nest (fun p => g (p + k)) = GE n2 (fun b g => c b fun p => g (p + k)) w nest g := by
      intro c k w
      induction w with
      | nil => intro nest g; rfl
      | cons l w ih =>
        intro nest g
        rw [GE_cons, GE_cons, ← ih]
        congr 1
        · congr 1; funext p; rw [show p + wayOf l + k = p + k + wayOf l by omega]
        · split
          · rw [← ih]; congr 1; funext p
            rw [show p - wayOf l + 2 + k = p + k - wayOf l + 2 by omega, show p - wayOf l - 2 + k = p + k - wayOf l - 2 by omega]
          · rw [← ih]; congr 1; funext p; rw [show p - wayOf l + k = p + k - wayOf l by omega]
    rw [shf]
    congr 1
    rw [show (fun p => g (p - wayOf m)) = fun p => g (p + - wayOf m) from rfl, shf]
    rfl) w1 _ g h1 (nst_plain S.a1 a6)]
  refine two_words S h1 h2 (D := fun g p => - g (p + 3 * wayOf m)) ⟨[(3 * wayOf m, -1)], ?_, fun g => ?_⟩ (fun g p => ?_) (fun a ha b hb g => ?_) g
  · exact ⟨by unfold keysI; simp, fun q hq => by rw [List.mem_singleton.mp hq]; show (-1 : Int) ≠ 0; decide⟩
  · show - g (0 + 3 * wayOf m) = (-1) * g (3 * wayOf m) + 0
    rw [Int.zero_add]
    omega
  · show - g (p + 3 * wayOf m) = - g (p + (0 + 3 * wayOf m))
    rw [Int.zero_add]
  · have l := ((S.row ha).2 b hb).1
    have lj := ((S.row ha).2 b hb).2.1
    have la := (nst_at S.a1 a6 ha).2.1.2.1
    have lb := (nst_at S.b1 b6 hb).2.1.2.1
    show lin (powI (loopsN (n1 + n2) (tens n1 n2 a b) - 1)) _ + lin (powI (loopsN (n1 + n2) (tensJ n1 n2 a b) - 1)) _ = _
    rw [l, show loopsN n1 a + loopsN n2 b - 1 = (loopsN n1 a - 1 + (loopsN n2 b - 1)) + 1 by omega, show loopsN (n1 + n2) (tensJ n1 n2 a b) - 1 = loopsN n1 a - 1 + (loopsN n2 b - 1) by omega, lin_pow1, ← lin_add]
    refine lin_congr fun p => ?_
    show - g (p + 2 + wayOf m) - g (p - 2 + wayOf m) + g (p - wayOf m) = - g (p + 3 * wayOf m)
    have w : wayOf m = 1 ∨ wayOf m = -1 := by unfold wayOf; split <;> simp
    rcases w with w | w <;> rw [w]
    · rw [show p - 2 + 1 = p - 1 by omega, show p + 2 + 1 = p + 3 * 1 by omega]; omega
    · rw [show p + 2 + -1 = p - -1 by omega, show p - 2 + -1 = p + 3 * -1 by omega]; omega
theorem r_catA {K : PySem.W.Frag} {B H : Hp} {a b : Addr} {xs ys : List V} {Q : VK} (bh : Ex B H) (ha : SqT K B a xs) (hb : SqT K B b ys) (hl : xs.length + ys.length < 1000000) (k : ∀ c B1 H1, Ext M0 B H B1 H1 → SqT K B1 c (xs ++ ys) → Q (.ref c) H1) : rCatA K (.ref a) (.ref b) H Q := by
  refine ⟨a, b, xs, ys, rfl, rfl, ex_t bh ha, ex_t bh hb, Nat.le_of_lt (Nat.lt_of_lt_of_le hl (show 1000000 ≤ sizeLine by decide)), fun e => ?_, fun _ e => ?_, fun _ _ p np => ?_⟩
  · subst e; exact k b B H (Ext.refl bh) hb
  · subst e; exact k a B H (Ext.refl bh) (by rw [List.append_nil]; exact ha)
  · exact k p _ _ ((Ext.refl bh).put np) (.inl (.inl upd_same))
theorem cutV_full (xs : List V) (lo hi : Option Int) (h : HT.sIx xs.length 0 lo = 0 ∧ HT.sIx xs.length xs.length hi = xs.length) : cutV xs lo hi = xs := by
  unfold cutV
  rw [h.1, h.2, List.drop_zero, Nat.sub_zero, List.take_length]
theorem r_slA {K : PySem.W.Frag} {B H : Hp} {a : Addr} {xs : List V} {lo hi : Option Int} {Q : VK} (bh : Ex B H) (ha : SqT K B a xs) (k : ∀ c B1 H1, Ext M0 B H B1 H1 → SqT K B1 c (cutV xs lo hi) → Q (.ref c) H1) : rSlA K (.ref a) lo hi H Q := by
  refine ⟨a, xs, rfl, ex_t bh ha, fun h => k a B H (Ext.refl bh) (by rw [cutV_full _ _ _ h]; exact ha), fun _ p np => k p _ _ ((Ext.refl bh).put np) (.inl (.inl upd_same))⟩
theorem cut_from {xs : List V} {i : Int} {t : Nat} (e : i = t) (h : t ≤ xs.length) : cutV xs (some i) none = xs.drop t := by
  subst e
  unfold cutV HT.sIx
  show List.take (xs.length - (if (t : Int) < 0 then _ else min (t : Int).toNat xs.length)) (List.drop (if (t : Int) < 0 then _ else min (t : Int).toNat xs.length) xs) = _
  rw [if_neg (by omega), Int.toNat_natCast, Nat.min_eq_left h, List.take_of_length_le (by rw [List.length_drop]; exact Nat.le_refl _)]
theorem cut_to {xs : List V} {i : Int} {t : Nat} (e : i = t) (h : t ≤ xs.length) : cutV xs none (some i) = xs.take t := by
  subst e
  unfold cutV HT.sIx
  show List.take ((if (t : Int) < 0 then _ else min (t : Int).toNat xs.length) - 0) (List.drop 0 xs) = _
  rw [if_neg (by omega), Int.toNat_natCast, Nat.min_eq_left h, Nat.sub_zero, List.drop_zero]
theorem k_sl {σ : L2.St} {H : Hp} {r : V → Option Int → Option Int → Hp → VK → Prop} {te : TE} {tl th : TO} {Q : VK} (k : te σ H fun x H1 => tl σ H1 fun l H2 => th σ H2 fun u H3 => r x l u H3 Q) : tSl r te tl th σ H Q := k
theorem k_part {σ : L2.St} {H : Hp} {te : TE} {Q : Option Int → Hp → Prop} (k : te σ H fun x H1 => ∃ i, x = .int i ∧ Q (some i) H1) : tPart te σ H Q := k
theorem k_noPart {σ : L2.St} {H : Hp} {Q : Option Int → Hp → Prop} (k : Q none H) : tNoPart σ H Q := k
theorem merge_kI : ∀ (l ks : List (Int × Int)), (keysI (ks ++ l)).Nodup → mergeK (kI ks) (kI l) = kI (ks ++ l)
  | [], ks, _ => by rw [List.append_nil]; rfl
  | (a, c) :: l, ks, h => by
    have ha : hasI ks a = false := by
      cases z : hasI ks a with
      | false => rfl
      | true =>
        exfalso
        have hm := (hasI_iff _ _).mp z
        unfold keysI at h hm
        rw [List.map_append, List.nodup_append] at h
        exact h.2.2 a hm a (List.mem_map.mpr ⟨(a, c), List.mem_cons_self, rfl⟩) rfl
    show mergeK (putK (kI ks) (Sum.inl a) (.int c)) (kI l) = _
    rw [put_kI]
    have e : setI ks a c = ks ++ [(a, c)] := by
      unfold setI
      rw [if_neg (by rw [ha]; decide)]
    rw [e, merge_kI l (ks ++ [(a, c)]) (by rw [List.append_assoc]; exact h), List.append_assoc]
    rfl
theorem keys_told (x : List (Int × Int)) : keysI (told x) = srt (keysI x) := by
  unfold told
  rw [keysI, List.map_map]
  exact List.map_id _
theorem co_told {x : List (Int × Int)} (h : Tidy x) (j : Int) : co (told x) j = co x j := by
  by_cases hj : j ∈ keysI x
  · have hm : (j, co x j) ∈ told x := List.mem_map.mpr ⟨j, (srt_perm _).symm.subset hj, rfl⟩
    exact co_mem (by rw [keys_told]; exact (srt_perm _).symm.nodup h.1) hm
  · rw [co_not hj, co_not (by rw [keys_told]; exact fun z => hj ((srt_perm _).subset z))]
theorem tidy_told {x : List (Int × Int)} (h : Tidy x) : Tidy (told x) := by
  refine ⟨by rw [keys_told]; exact (srt_perm _).symm.nodup h.1, fun q hq => ?_⟩
  obtain ⟨j, hj, rfl⟩ := List.mem_map.mp hq
  exact (tidy_mem h j).mp ((srt_perm _).subset hj)
theorem bp_told {x : List (Int × Int)} {N r : Int} (h : Bp x N r) : Bp (told x) N r := fun j hj => h j ((srt_perm _).subset (by rw [keys_told] at hj; exact hj))
theorem lin_told {x : List (Int × Int)} (h : Tidy x) (g : Fn) : lin (told x) g = lin x g := lin_ext (tidy_told h) h (co_told h) g
theorem nest_bp {n : Nat} (h1 : 1 ≤ n) (h6 : n ≤ 6) {word : List Int} (hL : Letters n word) : Bp (nestSum n word) (3 * word.length + 10 : Nat) word.length := by
  have g := good_from h1 h6 word 0 (start0 n) hL (good_start h1 h6)
  rw [Nat.zero_add] at g
  exact (good_coll h1 h6 g.ent [] tidy_nil (bp_nil _ _)).2
/-- the counts are not large -/
theorem pow_up {b m n : Nat} (hb : 1 ≤ b) (h : m ≤ n) : (b : Int) ^ m ≤ (b : Int) ^ n := by
  rw [← Int.natCast_pow, ← Int.natCast_pow]
  exact Int.ofNat_le.mpr (Nat.pow_le_pow_right hb h)
theorem dlN_small (k : Nat) (f : Pw) (M : Int) (h : ∀ j, -M ≤ f j ∧ f j ≤ M) : ∀ j, -(2 ^ k * M) ≤ dlN k f j ∧ dlN k f j ≤ 2 ^ k * M := by
  induction k with
  | zero => intro j; simpa [dlN] using h j
  | succ k ih =>
    intro j
    have a := ih (j - 2)
    have b := ih (j + 2)
    show -(2 ^ (k + 1) * M) ≤ - dlN k f (j - 2) - dlN k f (j + 2) ∧ - dlN k f (j - 2) - dlN k f (j + 2) ≤ 2 ^ (k + 1) * M
    rw [show (2 : Int) ^ (k + 1) * M = 2 ^ k * M + 2 ^ k * M by rw [Int.pow_succ, Int.mul_right_comm]; omega]
    omega
theorem G_small {n : Nat} (h1 : 1 ≤ n) (h6 : n ≤ 6) : ∀ (w nest : List Int), Letters n w → nest ∈ Nst n → ∀ j, -(3 ^ w.length * 32) ≤ G n w nest j ∧ G n w nest j ≤ 3 ^ w.length * 32
  | [], nest, _, hm, j => by
    have hl := (nst_at h1 h6 hm).2.1.2
    have h := dlN_small (loopsN n nest - 1) d0 1 (fun j => by unfold d0; split <;> omega) j
    have p : (2 : Int) ^ (loopsN n nest - 1) ≤ 2 ^ 5 := pow_up (b := 2) (by decide) (by omega)
    show -(3 ^ 0 * 32) ≤ dlN _ d0 j ∧ dlN _ d0 j ≤ 3 ^ 0 * 32
    omega
  | l :: r, nest, hL, hm, j => by
    have hk := (ix_eq (hL l List.mem_cons_self)).2
    have hL' : Letters n r := fun x hx => hL x (List.mem_cons_of_mem _ hx)
    have a := G_small h1 h6 r nest hL' hm (j - wayOf l)
    have b := dlN_small (hookN n (ix l) nest).2.toNat (G n r (hookN n (ix l) nest).1) _ (G_small h1 h6 r _ hL' ((nst_at h1 h6 hm).2.2 _ hk)) (j + wayOf l)
    rw [G_cons, List.length_cons, show (3 : Int) ^ (r.length + 1) * 32 = 3 ^ r.length * 32 + 2 * (3 ^ r.length * 32) by rw [Int.pow_succ]; omega]
    have pos : (0 : Int) ≤ 3 ^ r.length * 32 := by have : (0 : Int) ≤ 3 ^ r.length := Int.pow_nonneg (by decide); omega
    have c : (2 : Int) ^ (hookN n (ix l) nest).2.toNat * (3 ^ r.length * 32) ≤ 2 * (3 ^ r.length * 32) := by
      cases (hookN n (ix l) nest).2 with
      | false => show 2 ^ 0 * _ ≤ _; omega
      | true => show 2 ^ 1 * _ ≤ _; omega
    omega
theorem co_small {n : Nat} (h1 : 1 ≤ n) (h6 : n ≤ 6) {word : List Int} (hL : Letters n word) (hl : word.length ≤ 16) (j : Int) : -(2 ^ 64) < co (told (nestSum n word)) j ∧ co (told (nestSum n word)) j < 2 ^ 64 := by
  rw [co_told (tidy_nest h1 h6 hL), co_nest h1 h6 hL]
  have h := G_small h1 h6 word _ hL (nst_plain h1 h6) j
  have p : (3 : Int) ^ word.length ≤ 3 ^ 16 := pow_up (b := 3) (by decide) hl
  have : (3 : Int) ^ 16 * 32 < 2 ^ 64 := by decide
  omega
/-- a sum and the dict made of it -/
theorem paired_sum {K : PySem.W.Frag} {H : Hp} : ∀ {ys : List V} {l : List (Int × Int)}, ys.length = l.length → (∀ (i : Nat) y, ys[i]? = some y → ∃ q, l[i]? = some q ∧ PairT H y q) → ys = (ys.map refA).map V.ref ∧ Paired (fun p kv => SqT K H p [kV kv.fst, kv.snd]) (ys.map refA) (kI l)
  | [], [], _, _ => ⟨rfl, .nil⟩
  | [], _ :: _, h, _ => by simp at h
  | _ :: _, [], h, _ => by simp at h
  | y :: ys, p :: l, h, f => by
    obtain ⟨e, ih⟩ := paired_sum (K := K) (H := H) (ys := ys) (l := l) (by simpa using h) fun i y hy => f (i + 1) y (by simpa using hy)
    obtain ⟨q, hq, t, rfl, ht⟩ := f 0 y rfl
    have e2 : p = q := Option.some.inj hq
    subst e2
    refine ⟨by rw [List.map_cons, List.map_cons, ← e]; rfl, .cons (.inl (.inl ht)) ih⟩
def sp_law (K : PySem.W.Frag) : Sp := fun vs H Q E =>
  ∃ (a : Addr) (ns : List Int), vs = [.ref a] ∧ SqL K H a (ns.map V.int) ∧ ∀ H1, Q (.bl true) H1
abbrev N_law : List Str := ["script", "state", "one", "other", "word", "letter", "due", "sign", "at", "turn"]
theorem sc_law : FnScope N_law ["script"] (defScope s_law) := ⟨rfl, rfl, rfl, by decide +kernel, rfl, by decide +kernel, by decide +kernel⟩
theorem ok_law {P : Program} {w : World} {K : PySem.W.Frag} {mg : Str → Option Value} {base : Heap} {f : Addr} {fd : FuncData} (F : FnP K "law" s_law f fd) (Z : Bl mg) (c__law_state : Cal P w K mg base "_law_state" ["script", "k"] 1 (sp__law_state K)) (c__law_plait : Cal P w K mg base "_law_plait" ["state", "most", "longest"] 3 (sp__law_plait K)) (c__law_times : Cal P w K mg base "_law_times" ["one", "other"] 2 (sp__law_times K)) (c__law_is_sum : Cal P w K mg base "_law_is_sum" ["found", "due"] 2 (sp__law_is_sum K)) (c__law_take : Cal P w K mg base "_law_take" ["state", "many"] 1 (sp__law_take K)) (c_by_nests : Cal P w K mg base "by_nests" ["plait"] 4 (sp_by_nests K)) (c__law_told : Cal P w K mg base "_law_told" ["found"] 1 (sp__law_told K)) : FnOk P w K mg base CX0 5 f fd ["script"] (sp_law K) := by
  refine F.ok sc_law (fun vs H Q E h => ?_) (fun cdv A outer s H vs Q E hr h => ?_)
  · obtain ⟨_, _, rfl, _⟩ := h
    rfl
  · refine ⟨_, PSs.nox (pss_cons (ps_set (i := 1) sc_law.nd rfl (Or.inl rfl) (pe_cal c__law_state (hr.mono (by decide)) rfl (pa_cons (pv 0) (pa_cons pe_int pa_nil))))
      (pss_cons (ps_set (i := 2) sc_law.nd rfl (Or.inr rfl) (pe_cal c__law_plait (hr.mono (by decide)) rfl (pa_cons (pv 1) (pa_cons pe_int (pa_cons pe_int pa_nil)))))
      (pss_cons (ps_set (i := 3) sc_law.nd rfl (Or.inl rfl) (pe_cal c__law_plait (hr.mono (by decide)) rfl (pa_cons (pv 1) (pa_cons pe_int (pa_cons pe_int pa_nil)))))
      (pss_cons (ps_set (i := 4) sc_law.nd rfl (Or.inl rfl) (pe_op op_catA (pe_ix ix_tup (pv 2) pe_int (fun _ _ => rfl)) (pe_callTy call_tuple_of (by rfl) Z.f_tuple (by decide +kernel) (pa_cons (pe_lc (own := [("letter", 5)]) rfl sc_law.nd (pi_tup (pe_ix ix_tup (pv 3) pe_int (fun _ _ => rfl))) (blkOk_by (own := [("letter", 5)]) (N := N_law) (sc := defScope s_law) (by decide +kernel)) (fun _ _ _ _ _ => (pg_name (i := 5) sc_law.nd rfl (Or.inl rfl))) (fun _ _ _ _ _ => pts_nil) (fun _ _ _ _ _ => (pe_op op_add (pv 5) (pe_op op_mul (pe_ix (show IxR _ (rIxL K) from ix_list) (pe_lst (pa_cons (pe_un un_neg pe_int) (pa_cons pe_int pa_nil))) (pe_callTy call_int1 (by rfl) Z.f_int (by decide +kernel) (pa_cons (pe_cmpR op_gt (pv 5) pe_int (nomark _)) pa_nil)) (fun _ _ => rfl)) (pe_ix (show IxR _ (rIxT K) from ix_tup) (pv 2) pe_int (fun _ _ => rfl)))))) pa_nil))))
      (pss_cons (ps_set (i := 6) sc_law.nd rfl (Or.inl rfl) (pe_cal c__law_times (hr.mono (by decide)) rfl (pa_cons (pe_callTy (call_dictPT rfl) (by rfl) Z.f_dict (by decide +kernel) (pa_cons (pe_cal c_by_nests (hr.mono (by decide)) rfl (pa_cons (pv 2) pa_nil)) pa_nil)) (pa_cons (pe_callTy (call_dictPT rfl) (by rfl) Z.f_dict (by decide +kernel) (pa_cons (pe_cal c_by_nests (hr.mono (by decide)) rfl (pa_cons (pv 3) pa_nil)) pa_nil)) pa_nil))))
      (pss_cons (ps_if (pt_cmpR op_eq (pe_cal c__law_take (hr.mono (by decide)) rfl (pa_cons (pv 1) (pa_cons pe_int pa_nil))) pe_int (nomark _)) (pss_cons (ps_set (i := 7) sc_law.nd rfl (Or.inl rfl) (pe_ix ix_list (pe_lst (pa_cons pe_int (pa_cons (pe_un un_neg pe_int) pa_nil))) (pe_cal c__law_take (hr.mono (by decide)) rfl (pa_cons (pv 1) (pa_cons pe_int pa_nil))) (fun _ _ => rfl)))
      (pss_cons (ps_set (i := 8) sc_law.nd rfl (Or.inl rfl) (pe_cal c__law_take (hr.mono (by decide)) rfl (pa_cons (pv 1) (pa_cons (pe_op op_add (pe_callB call_len_seq (by rfl) Z.f_len (by decide +kernel) (pa_cons (pv 4) pa_nil)) pe_int) pa_nil))))
      (pss_cons (ps_set (i := 4) sc_law.nd rfl (Or.inl rfl) (pe_op op_catA (pe_op op_catA (pe_ix ix_tup (pv 2) pe_int (fun _ _ => rfl)) (pe_tup (pa_cons (pe_op op_mul (pv 7) (pe_ix ix_tup (pv 2) pe_int (fun _ _ => rfl))) pa_nil))) (pe_slice sl_tupA (pv 4) (po_some (pe_callB call_len_seq (by rfl) Z.f_len (by decide +kernel) (pa_cons (pe_ix ix_tup (pv 2) pe_int (fun _ _ => rfl)) pa_nil))) po_none)))
      (pss_cons (ps_set (i := 6) sc_law.nd rfl (Or.inl rfl) (pe_cal c__law_times (hr.mono (by decide)) rfl (pa_cons (pv 6) (pa_cons (pe_disp (pps_cons (pe_op op_mul pe_int (pv 7)) (pe_un un_neg pe_int) pps_nil) (by rfl) (by rfl) (fun z => by cases z) (by decide)) pa_nil))))
      (pss_cons (ps_set (i := 9) sc_law.nd rfl (Or.inl rfl) (pe_op op_mod (pv 8) (pe_callB call_len_seq (by rfl) Z.f_len (by decide +kernel) (pa_cons (pv 4) pa_nil))))
      (pss_one (ps_set (i := 4) sc_law.nd rfl (Or.inl rfl) (pe_op op_catA (pe_slice sl_tupA (pv 4) (po_some (pv 9)) po_none) (pe_slice sl_tupA (pv 4) po_none (po_some (pv 9))))))))))) (pss_one (ps_set (i := 6) sc_law.nd rfl (Or.inl rfl) (pe_cal c__law_times (hr.mono (by decide)) rfl (pa_cons (pv 6) (pa_cons (pe_disp (pps_cons pe_int (pe_un un_neg pe_int) (pps_cons (pe_un un_neg pe_int) (pe_un un_neg pe_int) pps_nil)) (by rfl) (by rfl) (fun z => by cases z) (by decide)) pa_nil))))))
      (pss_one (ps_ret (pe_cal c__law_is_sum (hr.mono (by decide)) rfl (pa_cons (pe_cal c_by_nests (hr.mono (by decide)) rfl (pa_cons (pe_tup (pa_cons (pe_op op_add (pe_ix ix_tup (pv 2) pe_int (fun _ _ => rfl)) (pe_ix ix_tup (pv 3) pe_int (fun _ _ => rfl))) (pa_cons (pv 4) pa_nil))) pa_nil)) (pa_cons (pe_cal c__law_told (hr.mono (by decide)) rfl (pa_cons (pv 6) pa_nil)) pa_nil))))))))))), ?_⟩
    obtain ⟨a, ns, rfl, ha, kk⟩ := h
    refine q_asgC (k_call (pa_c pu_var (pa_c pu_c pa_n)) ⟨a, ns, 0, rfl, ha, by decide, by decide, fun st x y nst => ?_⟩)
    refine q_asgC (k_call (pa_c pu_var (pa_c pu_c (pa_c pu_c pa_n))) ⟨H, st, x, y, 3, 5, rfl, Ex.new nst, nst, upd_same, by decide, by decide, by decide, by decide, fun p1 wa1 nI1 w1 x1 y1 B1 H1 e1 nb1 hs1 a1 a2 hw1 hl1 hp1 hwa1 => ?_⟩)
    refine q_asgC (k_call (pa_c pu_var (pa_c pu_c (pa_c pu_c pa_n))) ⟨B1, st, x1, y1, 3, 5, rfl, e1.bh, nb1, hs1, by decide, by decide, by decide, by decide, fun p2 wa2 nI2 w2 x2 y2 B2 H2 e2 nb2 hs2 b1 b2 hw2 hl2 hp2 hwa2 => ?_⟩)
    obtain ⟨n1, rfl⟩ := Int.eq_ofNat_of_zero_le (show 0 ≤ nI1 by omega)
    obtain ⟨n2, rfl⟩ := Int.eq_ofNat_of_zero_le (show 0 ≤ nI2 by omega)
    have hp1' := e2.bb _ _ hp1
    have hwa1' := e2.bb _ _ hwa1
    have S : Side n1 n2 := side_of (by omega) (by omega) (by omega) (by omega)
    have s6 := S.s6
    have h16 : n1 ≤ 6 := by omega
    have h26 : n2 ≤ 6 := by omega
    have hN1 : 1 ≤ n1 + n2 := by omega
    have hLw1 : Letters n1 w1 := hw1
    have hLw2 : Letters n2 w2 := hw2
    -- the end
    have fin : ∀ (Bx Hx : Hp) (wd du : Addr) (word : List Int) (D' : List (Int × Int)) (z5 z7 z8 z9 : Option V), Ex Bx Hx → SqT K Bx wd (word.map V.int) → Hx du = some (.dK (kI D')) → Bx p1 = some (.tup [.int (n1 : Int), .ref wa1]) → Bx p2 = some (.tup [.int (n2 : Int), .ref wa2]) →
        Letters (n1 + n2) word → word.length ≤ 16 → told (nestSum (n1 + n2) word) = told D' → D'.length < 64 →
        tRet (tCall (sp__law_is_sum K) [] E0 (tCons (tCall (sp_by_nests K) [] E0 (tCons (tTup (tCons (tOp (rI0 fun i j => V.int (i + j)) (tOp (rIxT K) (tVar 2) (tC (V.int 0))) (tOp (rIxT K) (tVar 3) (tC (V.int 0)))) (tCons (tVar 4) tNil))) tNil)) (tCons (tCall (sp__law_told K) [] E0 (tCons (tVar 6) tNil)) tNil)))
          { nx := fun x H' => Q V.non H', rt := Q } [some (.ref a), some (.ref st), some (.ref p1), some (.ref p2), some (.ref wd), z5, some (.ref du), z7, z8, z9] Hx := by
      intro Bx Hx wd du word D' z5 z7 z8 z9 bx hwd hdu h1 h2 hL hl ht hD
      have hq1 : SqT K Hx p1 [.int (n1 : Int), .ref wa1] := .inl (.inl (bx _ _ h1))
      have hq2 : SqT K Hx p2 [.int (n2 : Int), .ref wa2] := .inl (.inl (bx _ _ h2))
      refine s_retC (k_callC (k_cons (k_callC (k_cons (k_tup (pa_c (pu_I0 (pu_ixT pu_var pu_c hq1 (by rfl)) (pu_ixT pu_var pu_c hq2 (by rfl))) (pa_c pu_var pa_n)) bx (by simp) fun t B3 H3 e3 nt ht3 => k_nil ⟨B3, t, wd, n1 + n2, word, rfl, e3.bh, .inl (.inl (by rw [ht3, Int.natCast_add])), ex_t e3.bb hwd, ⟨by omega, by omega, by omega, hL⟩, fun v4 B4 H4 e4 hv4 => ?_⟩)))))
      refine k_cons (k_call (pa_c pu_var pa_n) ⟨B4, du, D', rfl, e4.bh, e4.ex _ _ (e3.ex _ _ hdu), hD, fun v5 B5 H5 e5 hv5 => ?_⟩)
      refine k_nil ⟨_, _, v4, v5, rfl, (hv4.mo e5.bb).mo e5.bh, hv5.mo e5.bh, ?_⟩
      rw [ht, decide_eq_true rfl]
      exact kk _
    -- the word
    have sq1 : ∀ Hx, Ex B2 Hx → SqT K Hx p1 [.int (n1 : Int), .ref wa1] := fun Hx e => .inl (.inl (e _ _ hp1'))
    have sq2 : ∀ Hx, Ex B2 Hx → SqT K Hx p2 [.int (n2 : Int), .ref wa2] := fun Hx e => .inl (.inl (e _ _ hp2))
    refine q_asgC (k_op (k_pu (pu_ixT pu_var pu_c (sq1 _ e2.bh) (by rfl)) (k_cb (k_cons (k_lcT (B := B2) (xs := w2.map V.int) (pu_ixT pu_var pu_c (sq2 _ e2.bh) (by rfl)) (.inl (.inl (e2.bh _ _ hwa2))) e2.bh (fun i y _ => ∃ l, w2[i]? = some l ∧ y = .int (onL n1 l)) (fun _ _ _ _ _ h => h) (by rw [List.length_map]; omega) (fun x => rfl) (fun i x B' H' Q' hx e' kq => ?_) fun Dl ys B3 H3 e3 nD3 nB3 hD3 hl3 hr3 => ?_)))))
    · obtain ⟨l, hl, rfl⟩ := get_int hx
      refine k_op (k_var rfl (k_op (k_pick (pa_c (pu_neg pu_c) (pa_c pu_c pa_n)) (by simp) (fun H1 e => pu_int1 (pu_I0 pu_var pu_c)) (at_bool _ _ _) fun H5 e5 => k_pu (pu_ixT pu_var pu_c (sq1 _ (e2.bh.trans (e'.ex.trans e5))) (by rfl)) ⟨wayOf l, (n1 : Int), ?_, rfl, .inl ?_, l, _, rfl, rfl, ?_⟩)))
      · unfold wayOf
        by_cases z : 0 < l
        · rw [if_pos (decide_eq_true z), if_pos z]
        · rw [if_neg (by simp [z]), if_neg z]
      · unfold wayOf; split <;> decide
      · exact kq _ _ _ (Ext.of e'.bh e5) ⟨l, hl, rfl⟩
    have ey : ys = (w2.map (onL n1)).map V.int := by
      rw [List.map_map]
      refine list_ofM (by rw [hl3, List.length_map]) fun j y hy => ?_
      obtain ⟨l, h1, h2⟩ := hr3 j y hy
      exact ⟨l, h1, h2⟩
    refine k_nil ⟨Dl, ys, rfl, .inl ⟨.inl (.inl hD3), fun c nc => ?_⟩⟩
    have e4 := e3.put (o := .tup ys) nc
    refine r_catA e4.bh (.inl (.inl (e4.bb _ _ hwa1'))) (.inl (.inl upd_same)) (by rw [ey, List.length_map, List.length_map, List.length_map]; omega) fun wd B4 H4 e5 hwd => ?_
    rw [ey, ← List.map_append] at hwd
    have x5 := e4.trans e5
    have hLw : Letters (n1 + n2) (w1 ++ w2.map (onL n1)) := fun z hz => by
      rcases List.mem_append.mp hz with q | q
      · exact up_letters hLw1 z q
      · exact on_letters hLw2 z q
    -- the two sums as dicts
    have td1 := tidy_told (tidy_nest S.a1 h16 hLw1)
    have td2 := tidy_told (tidy_nest S.b1 h26 hLw2)
    have bp1 := bp_told (nest_bp S.a1 h16 hLw1)
    have bp2 := bp_told (nest_bp S.b1 h26 hLw2)
    have ln1 := bp_len td1 bp1
    have ln2 := bp_len td2 bp2
    refine q_asgC (k_callC (k_cons (k_cb (k_cons (k_call (pa_c pu_var pa_n) ⟨B4, p1, wa1, n1, w1, rfl, x5.bh, .inl (.inl (x5.bb _ _ hp1')), .inl (.inl (x5.bb _ _ hwa1')), ⟨by omega, by omega, by omega, hw1⟩, fun v1 B5 H5 e6 hv1 => ?_⟩)))))
    obtain ⟨A1, ys1, o1, rfl, hA1, od1, l1, r1⟩ := hv1
    obtain ⟨ye1, pr1⟩ := paired_sum (K := K) (H := H5) l1 fun i y hy => by obtain ⟨q, g1, g2⟩ := r1 i y hy; exact ⟨q, g1, g2.mo e6.bh⟩
    refine k_nil ⟨A1, o1, ys1.map refA, kI (told (nestSum n1 w1)), rfl, by rw [← ye1]; exact e6.bh _ _ hA1, od1, pr1, fun d1 nd1 => ?_⟩
    rw [show mergeK [] (kI (told (nestSum n1 w1))) = kI (told (nestSum n1 w1)) from merge_kI _ [] td1.1]
    have x7 := (x5.trans e6).put (o := .dK (kI (told (nestSum n1 w1)))) nd1
    refine k_cons (k_cb (k_cons (k_call (pa_c pu_var pa_n) ⟨_, p2, wa2, n2, w2, rfl, x7.bh, .inl (.inl (x7.bb _ _ hp2)), .inl (.inl (x7.bb _ _ hwa2)), ⟨by omega, by omega, by omega, hw2⟩, fun v2 B8 H8 e8 hv2 => ?_⟩)))
    obtain ⟨A2, ys2, o2, rfl, hA2, od2, l2, r2⟩ := hv2
    obtain ⟨ye2, pr2⟩ := paired_sum (K := K) (H := H8) l2 fun i y hy => by obtain ⟨q, g1, g2⟩ := r2 i y hy; exact ⟨q, g1, g2.mo e8.bh⟩
    refine k_nil ⟨A2, o2, ys2.map refA, kI (told (nestSum n2 w2)), rfl, by rw [← ye2]; exact e8.bh _ _ hA2, od2, pr2, fun d2 nd2 => ?_⟩
    rw [show mergeK [] (kI (told (nestSum n2 w2))) = kI (told (nestSum n2 w2)) from merge_kI _ [] td2.1]
    have hd1 : H8 d1 = some (.dK (kI (told (nestSum n1 w1)))) := e8.ex _ _ upd_same
    have x9 := (x7.trans e8).put (o := .dK (kI (told (nestSum n2 w2)))) nd2
    have d12 : d1 ≠ d2 := ne_of_none hd1 nd2
    refine k_nil ⟨d1, d2, told (nestSum n1 w1), told (nestSum n2 w2), rfl, by rw [upd_ne d12]; exact hd1, upd_same, d12, by omega, by omega, fun q _ => co_small S.b1 h26 hLw2 (by omega) q.1, fun du ndu => ?_⟩
    have x10 := x9.put (o := .dK (kI (mulI (told (nestSum n1 w1)) (told (nestSum n2 w2))))) ndu
    generalize hHa : upd (upd H8 d2 (.dK (kI (told (nestSum n2 w2))))) du (.dK (kI (mulI (told (nestSum n1 w1)) (told (nestSum n2 w2))))) = Ha at x10
    generalize hBa : upd (upd B8 d2 (.dK (kI (told (nestSum n2 w2))))) du (.dK (kI (mulI (told (nestSum n1 w1)) (told (nestSum n2 w2))))) = Ba at x10
    have hdu : Ha du = some (.dK (kI (mulI (told (nestSum n1 w1)) (told (nestSum n2 w2))))) := by rw [← hHa]; exact upd_same
    have hst : Ha st = some (.lst [.int x2, .int y2]) := x10.ex _ _ hs2
    have nst2 : Ba st = none := x10.fr st nb2 (by rw [hs2]; intro z; cases z)
    have hwd2 : SqT K Ba wd ((w1 ++ w2.map (onL n1)).map V.int) := by
      refine ex_t ?_ hwd
      rw [← hBa]
      have g1 : Ex B4 (upd B5 d1 (.dK (kI (told (nestSum n1 w1))))) := e6.bb.trans (Ex.new (fresh_back e6.bh nd1))
      have g2 : Ex (upd B5 d1 (.dK (kI (told (nestSum n1 w1))))) (upd B8 d2 (.dK (kI (told (nestSum n2 w2))))) := e8.bb.trans (Ex.new (fresh_back e8.bh nd2))
      exact g1.trans (g2.trans (Ex.new (fresh_back x9.bh ndu)))
    have hp1a := x10.bb _ _ hp1'
    have hp2a := x10.bb _ _ hp2
    have hwa1a := x10.bb _ _ hwa1'
    have tdm := tidy_mul (told (nestSum n1 w1)) (told (nestSum n2 w2))
    have bpm := bp_mul bp1 bp2
    have lnm : (mulI (told (nestSum n1 w1)) (told (nestSum n2 w2))).length ≤ (3 * w1.length + 10 + (3 * w2.length + 10)) + 1 := bp_len (N := 3 * w1.length + 10 + (3 * w2.length + 10)) tdm (by rw [Int.natCast_add]; exact bpm)
    have lw : (w1 ++ w2.map (onL n1)).length = w1.length + w2.length := by rw [List.length_append, List.length_map]
    refine q_ifS (k_test (k_op (k_call (pa_c pu_var (pa_c pu_c pa_n)) ⟨st, x2, y2, 2, rfl, hst, by decide, by decide, fun r x3 y3 r0 r1' => k_pu pu_c (r_eqI ⟨_, rfl, ?_⟩)⟩)))
    have y1 : Ext (fun a => a = st) Ba Ha Ba (upd Ha st (.lst [.int x3, .int y3])) := (Ext.refl x10.bh).own (.inl rfl) nst2
    have dst : du ≠ st := fun z => by rw [z, hst] at hdu; cases hdu
    by_cases hr : r = 0
    · rw [if_pos (decide_eq_true hr)]
      have hsa : upd Ha st (.lst [.int x3, .int y3]) st = some (.lst [.int x3, .int y3]) := upd_same
      refine q_asgC (k_op (k_lstC (pa_c pu_c (pa_c (pu_neg pu_c) pa_n) _ ⟨sz_of (by simp), fun lp nlp => ?_⟩)))
      have slp : st ≠ lp := ne_of_none hsa nlp
      refine k_call (pa_c pu_var (pa_c pu_c pa_n)) ⟨st, x3, y3, 2, rfl, by rw [upd_ne slp]; exact hsa, by decide, by decide, fun r2 x4 y4 r20 r21 => ?_⟩
      obtain ⟨sg, hsg⟩ : ∃ sg : Int, sg = if r2 = 0 then 1 else -1 := ⟨_, rfl⟩
      have sg2 : sg = 1 ∨ sg = -1 := by rw [hsg]; split <;> simp
      have y2' : Ext (fun a => a = st) Ba Ha Ba (upd (upd (upd Ha st (.lst [.int x3, .int y3])) lp (.lst [.int 1, .int (-1)])) st (.lst [.int x4, .int y4])) := (y1.own (.inr (y1.back nlp)) (y1.backB nlp)).own (.inl rfl) nst2
      refine ⟨lp, [.int 1, .int (-1)], r2, .int sg, rfl, rfl, .inl (.inl (by rw [upd_ne slp.symm]; exact upd_same)), ?_, ?_⟩
      · have : r2 = 0 ∨ r2 = 1 := by omega
        rcases this with z | z <;> rw [hsg, z] <;> rfl
      generalize hHb : upd (upd (upd Ha st (.lst [.int x3, .int y3])) lp (.lst [.int 1, .int (-1)])) st (.lst [.int x4, .int y4]) = Hb at y2'
      have hsb : Hb st = some (.lst [.int x4, .int y4]) := by rw [← hHb]; exact upd_same
      have lwV : ((w1 ++ w2.map (onL n1)).map V.int).length = w1.length + w2.length := by rw [List.length_map, lw]
      refine q_asgC (k_call (pa_c pu_var (pa_c (pu_I0 (pu_lenT pu_var (ex_t y2'.bh hwd2)) pu_c) pa_n)) ⟨st, x4, y4, _, rfl, hsb, by omega, by rw [lwV]; omega, fun r3 x5' y5' r30 r31 => ?_⟩)
      have y3' : Ext (fun a => a = st) Ba Ha Ba (upd Hb st (.lst [.int x5', .int y5'])) := y2'.own (.inl rfl) nst2
      have hduc : upd Hb st (.lst [.int x5', .int y5']) du = some (.dK (kI (mulI (told (nestSum n1 w1)) (told (nestSum n2 w2))))) := y3'.hh du _ dst hdu
      generalize hHc : upd Hb st (.lst [.int x5', .int y5']) = Hc at y3' hduc
      have qp1 : ∀ Hx, Ex Ba Hx → SqT K Hx p1 [.int (n1 : Int), .ref wa1] := fun Hx e => .inl (.inl (e _ _ hp1a))
      have qw1 : ∀ Hx, Ex Ba Hx → SqT K Hx wa1 (w1.map V.int) := fun Hx e => .inl (.inl (e _ _ hwa1a))
      -- the word with the letter between
      refine q_asgC (k_op (k_op (k_pu (pu_ixT pu_var pu_c (qp1 _ y3'.bh) (by rfl)) (k_tup (pa_c (pu_I pu_var (pu_ixT pu_var pu_c (qp1 _ y3'.bh) (by rfl)) (.inl (by constructor <;> omega))) pa_n) y3'.bh (by simp) fun tt B8' H8' e8' nt ht => ?_))))
      refine r_catA e8'.bh (ex_t e8'.bb (qw1 _ (Ex.refl _))) (.inl (.inl ht)) (by simp; omega) fun c1 B9 H9 e9 hc1 => ?_
      have z9 := e8'.trans e9
      refine k_sl (k_var rfl (k_part (k_pu (pu_lenT (pu_ixT pu_var pu_c (qp1 _ (z9.bb.trans z9.bh)) (by rfl)) (qw1 _ (z9.bb.trans z9.bh))) ⟨_, rfl, k_noPart ?_⟩)))
      refine r_slA z9.bh (ex_t z9.bb hwd2) fun c2 B10 H10 e10 hc2 => ?_
      rw [cut_from (t := w1.length) (by rw [List.length_map]) (by rw [lwV]; omega)] at hc2
      have hdrop : ((w1 ++ w2.map (onL n1)).map V.int).drop w1.length = (w2.map (onL n1)).map V.int := by rw [← List.map_drop, List.drop_left' rfl]
      rw [hdrop] at hc2
      have z10 := z9.trans e10
      refine r_catA z10.bh (ex_t e10.bb hc1) hc2 (by simp; omega) fun c3 B11 H11 e11 hc3 => ?_
      have z11 := z10.trans e11
      have em : sg * (n1 : Int) = n1 ∨ sg * (n1 : Int) = - n1 := by rcases sg2 with z | z <;> rw [z] <;> omega
      have hc4 : SqT K B11 c3 ((w1 ++ (sg * n1) :: w2.map (onL n1)).map V.int) := by
        have e : (w1 ++ (sg * n1) :: w2.map (onL n1)).map V.int = w1.map V.int ++ [V.int (sg * n1)] ++ (w2.map (onL n1)).map V.int := by rw [List.map_append, List.map_cons, List.append_assoc]; rfl
        rw [e]
        exact hc3
      have lM : (w1 ++ (sg * (n1 : Int)) :: w2.map (onL n1)).length = w1.length + w2.length + 1 := by rw [List.length_append, List.length_cons, List.length_map]; omega
      have hLm : Letters (n1 + n2) (w1 ++ (sg * (n1 : Int)) :: w2.map (onL n1)) := fun z hz => by
        rcases List.mem_append.mp hz with q | q
        · exact up_letters hLw1 z q
        · rcases List.mem_cons.mp q with q | q
          · rw [q]; omega
          · exact on_letters hLw2 z q
      -- the due
      refine q_asgC (k_callC (k_cons (k_var rfl (k_cons ?_))))
      intro b nb
      refine k_pu (pu_I pu_c pu_var (.inl (by decide))) ⟨_, rfl, upd_same, kI [(3 * sg, -1)], rfl, by simp [kI], ?_⟩
      rw [show mergeK [] (kI [(3 * sg, -1)]) = kI [(3 * sg, -1)] from rfl, upd_upd]
      have hdud : H11 du = some (.dK (kI (mulI (told (nestSum n1 w1)) (told (nestSum n2 w2))))) := z11.ex _ _ hduc
      have db := ne_of_none hdud nb
      refine k_nil ⟨du, b, _, [(3 * sg, -1)], rfl, by rw [upd_ne db]; exact hdud, upd_same, db, by omega, by simp, fun q hq => ?_, fun dv ndv => ?_⟩
      · rw [List.mem_singleton.mp hq]
        show -(2 ^ 64) < (if 3 * sg = 3 * sg then (-1 : Int) else 0) ∧ (if 3 * sg = 3 * sg then (-1 : Int) else 0) < 2 ^ 64
        rw [if_pos rfl]
        decide
      have z12 := (Ext.of z11.bh (Ex.new nb)).trans (Ext.of (z11.bh.trans (Ex.new nb)) (Ex.new (o := .dK (kI (mulI (mulI (told (nestSum n1 w1)) (told (nestSum n2 w2))) [(3 * sg, -1)]))) ndv))
      generalize hHd : upd (upd H11 b (.dK (kI [(3 * sg, -1)]))) dv (.dK (kI (mulI (mulI (told (nestSum n1 w1)) (told (nestSum n2 w2))) [(3 * sg, -1)]))) = Hd at z12
      have hdv : Hd dv = some (.dK (kI (mulI (mulI (told (nestSum n1 w1)) (told (nestSum n2 w2))) [(3 * sg, -1)]))) := by rw [← hHd]; exact upd_same
      have lMV : ((w1 ++ (sg * (n1 : Int)) :: w2.map (onL n1)).map V.int).length = w1.length + w2.length + 1 := by rw [List.length_map, lM]
      refine q_asgP (pu_I pu_var (pu_lenT pu_var (ex_t z12.bh hc4)) (by rw [lMV]; omega)) rfl ?_
      rw [lMV]
      generalize hw1w : w1 ++ (sg * (n1 : Int)) :: w2.map (onL n1) = W at *
      obtain ⟨t, ht'⟩ := Int.eq_ofNat_of_zero_le (Int.emod_nonneg r3 (show ((w1.length + w2.length + 1 : Nat) : Int) ≠ 0 by omega))
      have htl : t < w1.length + w2.length + 1 := by have := Int.emod_lt_of_pos r3 (show (0 : Int) < ((w1.length + w2.length + 1 : Nat) : Int) by omega); omega
      refine s_asgC (k_op (k_sl (k_var rfl (k_part (k_var rfl ⟨_, rfl, k_noPart ?_⟩)))))
      refine r_slA z12.bh hc4 fun c5 B13 H13 e13 hc5 => ?_
      rw [cut_from (t := t) ht' (by rw [lMV]; omega)] at hc5
      refine k_sl (k_var rfl (k_noPart (k_part (k_var rfl ⟨_, rfl, ?_⟩))))
      refine r_slA e13.bh (ex_t e13.bb hc4) fun c6 B14 H14 e14 hc6 => ?_
      rw [cut_to (t := t) ht' (by rw [lMV]; omega)] at hc6
      refine r_catA e14.bh (ex_t e14.bb hc5) hc6 (by rw [List.length_drop, List.length_take, lMV]; omega) fun c7 B15 H15 e15 hc7 => ?_
      dsimp only
      rw [← List.map_drop, ← List.map_take, ← List.map_append] at hc7
      have z15 := (e13.trans e14).trans e15
      have ex15 : Ex Ba B15 := (z11.bb.trans z12.bb).trans z15.bb
      have hLt : Letters (n1 + n2) (W.take t ++ W.drop t) := by rw [List.take_append_drop]; exact hLm
      have hLt2 : Letters (n1 + n2) (W.drop t ++ W.take t) := fun z hz => hLt z (by rcases List.mem_append.mp hz with q | q; exact List.mem_append.mpr (.inr q); exact List.mem_append.mpr (.inl q))
      have t1 : Tidy [(3 * sg, (-1 : Int))] := ⟨by unfold keysI; simp, fun q hq => by rw [List.mem_singleton.mp hq]; show (-1 : Int) ≠ 0; decide⟩
      have hd2 : Bp [(3 * sg, (-1 : Int))] 3 (3 * sg) := fun j hj => by
        have : j = 3 * sg := by unfold keysI at hj; simpa using hj
        omega
      have bpz := bp_mul bpm hd2
      have tz := tidy_mul (mulI (told (nestSum n1 w1)) (told (nestSum n2 w2))) [(3 * sg, -1)]
      have lz : (mulI (mulI (told (nestSum n1 w1)) (told (nestSum n2 w2))) [(3 * sg, -1)]).length ≤ (3 * w1.length + 10 + (3 * w2.length + 10) + 3) + 1 := bp_len (N := 3 * w1.length + 10 + (3 * w2.length + 10) + 3) tz (by rw [Int.natCast_add, Int.natCast_add]; exact bpz)
      refine fin B15 H15 c7 dv _ _ _ _ _ _ z15.bh hc7 (z15.ex _ _ hdv) (ex15 _ _ hp1a) (ex15 _ _ hp2a) hLt2 (by rw [List.length_append, List.length_drop, List.length_take, lM]; omega) ?_ (by omega)
      rw [told_turn hN1 s6 hLt, List.take_append_drop, ← hw1w]
      rw [← hw1w] at hLm
      refine told_ext (tidy_nest hN1 s6 hLm) tz fun j => ?_
      have wy : wayOf (sg * (n1 : Int)) = sg := by unfold wayOf; rcases sg2 with z | z <;> rw [z] <;> split <;> omega
      rw [co_d0 (tidy_nest hN1 s6 hLm), co_d0 tz, mid_sum S hLw1 hLw2 em, lin_mul tdm t1, lin_mul td1 td2, lin_told (tidy_nest S.a1 h16 hLw1), wy]
      refine lin_congr fun p => ?_
      rw [lin_told (tidy_nest S.b1 h26 hLw2)]
      refine lin_congr fun q => ?_
      show - d0 (j - (p + q + 3 * sg)) = (-1) * d0 (j - (p + q + 3 * sg)) + 0
      omega
    · rw [if_neg (by simp [hr])]
      refine s_asgC (k_callC (k_cons (k_var rfl (k_cons ?_))))
      intro b nb
      refine ⟨_, rfl, _, rfl, _, rfl, upd_same, kI [(2, -1), (-2, -1)], rfl, by decide, ?_⟩
      rw [show mergeK [] (kI [(2, -1), (-2, -1)]) = kI dlt from by decide, upd_upd]
      have hdu2 : upd Ha st (.lst [.int x3, .int y3]) du = some (.dK (kI (mulI (told (nestSum n1 w1)) (told (nestSum n2 w2))))) := by rw [upd_ne dst]; exact hdu
      have db := ne_of_none hdu2 nb
      refine k_nil ⟨du, b, _, dlt, rfl, by rw [upd_ne db]; exact hdu2, upd_same, db, by omega, by decide, by decide, fun dv ndv => ?_⟩
      dsimp only
      have hd2 : Bp dlt 2 0 := by unfold Bp; decide
      have bpz := bp_mul bpm hd2
      have tz := tidy_mul (mulI (told (nestSum n1 w1)) (told (nestSum n2 w2))) dlt
      have lz : (mulI (mulI (told (nestSum n1 w1)) (told (nestSum n2 w2))) dlt).length ≤ (3 * w1.length + 10 + (3 * w2.length + 10) + 2) + 1 := bp_len (N := 3 * w1.length + 10 + (3 * w2.length + 10) + 2) tz (by rw [Int.natCast_add, Int.natCast_add]; exact bpz)
      refine fin Ba _ wd dv _ _ _ _ _ _ (y1.bh.trans ((Ex.new nb).trans (Ex.new ndv))) hwd2 upd_same hp1a hp2a hLw (by omega) ?_ (by omega)
      refine told_ext (tidy_nest hN1 s6 hLw) tz fun j => ?_
      rw [co_d0 (tidy_nest hN1 s6 hLw), co_d0 tz, side_sum S hLw1 hLw2, lin_mul_dlt tdm, lin_mul td1 td2, lin_told (tidy_nest S.a1 h16 hLw1)]
      refine lin_congr fun p => ?_
      rw [lin_told (tidy_nest S.b1 h26 hLw2)]
      rfl
def d_is_letter : He.DefD := ⟨("is_letter", none), "is_letter", "is_letter", defArgs s_is_letter, defBody s_is_letter, defScope s_is_letter, [], []⟩
def d_looked : He.DefD := ⟨("looked", none), "looked", "looked", defArgs s_looked, defBody s_looked, defScope s_looked, [], []⟩
def d_loop_worth : He.DefD := ⟨("loop_worth", none), "loop_worth", "loop_worth", defArgs s_loop_worth, defBody s_loop_worth, defScope s_loop_worth, [], []⟩
def d_put_to : He.DefD := ⟨("put_to", none), "put_to", "put_to", defArgs s_put_to, defBody s_put_to, defScope s_put_to, [], []⟩
def d_multiplied : He.DefD := ⟨("multiplied", none), "multiplied", "multiplied", defArgs s_multiplied, defBody s_multiplied, defScope s_multiplied, [], []⟩
def d_loop_power : He.DefD := ⟨("loop_power", none), "loop_power", "loop_power", defArgs s_loop_power, defBody s_loop_power, defScope s_loop_power, [], []⟩
def d_as_powers : He.DefD := ⟨("as_powers", none), "as_powers", "as_powers", defArgs s_as_powers, defBody s_as_powers, defScope s_as_powers, [], []⟩
def d_plain_nest : He.DefD := ⟨("plain_nest", none), "plain_nest", "plain_nest", defArgs s_plain_nest, defBody s_plain_nest, defScope s_plain_nest, [], []⟩
def d_hooked : He.DefD := ⟨("hooked", none), "hooked", "hooked", defArgs s_hooked, defBody s_hooked, defScope s_hooked, [], []⟩
def d_loops_in : He.DefD := ⟨("loops_in", none), "loops_in", "loops_in", defArgs s_loops_in, defBody s_loops_in, defScope s_loops_in, [], []⟩
def d_with_letter : He.DefD := ⟨("with_letter", none), "with_letter", "with_letter", defArgs s_with_letter, defBody s_with_letter, defScope s_with_letter, [], []⟩
def d_by_nests : He.DefD := ⟨("by_nests", none), "by_nests", "by_nests", defArgs s_by_nests, defBody s_by_nests, defScope s_by_nests, [], []⟩
def d__law_state : He.DefD := ⟨("_law_state", none), "_law_state", "_law_state", defArgs s__law_state, defBody s__law_state, defScope s__law_state, [], []⟩
def d__law_take : He.DefD := ⟨("_law_take", none), "_law_take", "_law_take", defArgs s__law_take, defBody s__law_take, defScope s__law_take, [], []⟩
def d__law_letter : He.DefD := ⟨("_law_letter", none), "_law_letter", "_law_letter", defArgs s__law_letter, defBody s__law_letter, defScope s__law_letter, [], []⟩
def d__law_plait : He.DefD := ⟨("_law_plait", none), "_law_plait", "_law_plait", defArgs s__law_plait, defBody s__law_plait, defScope s__law_plait, [], []⟩
def d__law_whole : He.DefD := ⟨("_law_whole", none), "_law_whole", "_law_whole", defArgs s__law_whole, defBody s__law_whole, defScope s__law_whole, [], []⟩
def d__law_put : He.DefD := ⟨("_law_put", none), "_law_put", "_law_put", defArgs s__law_put, defBody s__law_put, defScope s__law_put, [], []⟩
def d__law_times : He.DefD := ⟨("_law_times", none), "_law_times", "_law_times", defArgs s__law_times, defBody s__law_times, defScope s__law_times, [], []⟩
def d__law_told : He.DefD := ⟨("_law_told", none), "_law_told", "_law_told", defArgs s__law_told, defBody s__law_told, defScope s__law_told, [], []⟩
def d__law_is_sum : He.DefD := ⟨("_law_is_sum", none), "_law_is_sum", "_law_is_sum", defArgs s__law_is_sum, defBody s__law_is_sum, defScope s__law_is_sum, [], []⟩
def d_law : He.DefD := ⟨("law", none), "law", "law", defArgs s_law, defBody s_law, defScope s_law, [], []⟩
def fnH : List He.DefD := [d_is_letter, d_looked, d_loop_worth, d_put_to, d_multiplied, d_loop_power, d_as_powers, d_plain_nest, d_hooked, d_loops_in, d_with_letter, d_by_nests, d__law_state, d__law_take, d__law_letter, d__law_plait, d__law_whole, d__law_put, d__law_times, d__law_told, d__law_is_sum, d_law]
def faH : List He.Fa := [.glo "is_letter", .glo "looked", .glo "loop_worth", .glo "put_to", .glo "multiplied", .glo "loop_power", .glo "as_powers", .glo "plain_nest", .glo "hooked", .glo "loops_in", .glo "with_letter", .glo "by_nests", .glo "_law_state", .glo "_law_take", .glo "_law_letter", .glo "_law_plait", .glo "_law_whole", .glo "_law_put", .glo "_law_times", .glo "_law_told", .glo "_law_is_sum", .glo "law", .free "abs", .free "bool", .free "dict", .free "int", .free "isinstance", .free "len", .free "list", .free "min", .free "range", .free "sorted", .free "tuple", .int "MOST_STRANDS" 6, .int "MOST_LETTERS" 16]
def looseH : List Str := (["is_letter", "looked", "loop_worth", "put_to", "multiplied", "loop_power", "as_powers", "plain_nest", "hooked", "loops_in", "with_letter", "by_nests", "_law_state", "_law_take", "_law_letter", "_law_plait", "_law_whole", "_law_put", "_law_times", "_law_told", "_law_is_sum", "PlaitError", "NoPlait", "MOST_STRANDS", "MOST_LETTERS"] : List Str)
abbrev RH : PySem.W.OpenRow := PySem.W.OpenLaw.row PySem.Challenge.rw_loopwright_k77_whole_side_by_side
abbrev hkH : PySem.W.Hook := He.hookD 4 faH fnH
def obH (s : PySem.W.SharedT) : He.AlD := He.obsDG 4 faH fnH (HandSHeadRun.getT s)
theorem obH_eq (s : PySem.W.SharedT) : obH s = hkH.obs s.abs := He.obsDG_eq (HandSHeadRun.getT_eq s)
theorem runH (w : World) : HandSHeadRun.RunEq RH (PySem.W.view RH.prog [29]) hkH obH 4000 looseH w := by
  intro os
  kernel_rfl
theorem factsH {P : Program} {w : World} {K : PySem.W.Frag} {h : Heap} {mg : Str → Option Value} {f : Addr} (X : K.In h) (G : h.Ns mainGlobals mg) (hfa : mg ("law" : Str) = some (.ref f)) (c : He.SaysD faH fnH K) : ∃ fd : FuncData, (∀ (s : Shared) (v : Value), BindsTo s fd ⟨[v], []⟩ [("script", v)]) ∧ ∀ base : Heap, K.In base → base.Ns mainGlobals mg → FnOk P w K mg base CX0 5 f fd ["script"] (sp_law K) := by
  obtain ⟨fd_is_letter, F_is_letter⟩ := c.def_ 0 (d := d_is_letter) rfl
  obtain ⟨fd_looked, F_looked⟩ := c.def_ 1 (d := d_looked) rfl
  obtain ⟨fd_loop_worth, F_loop_worth⟩ := c.def_ 2 (d := d_loop_worth) rfl
  obtain ⟨fd_put_to, F_put_to⟩ := c.def_ 3 (d := d_put_to) rfl
  obtain ⟨fd_multiplied, F_multiplied⟩ := c.def_ 4 (d := d_multiplied) rfl
  obtain ⟨fd_loop_power, F_loop_power⟩ := c.def_ 5 (d := d_loop_power) rfl
  obtain ⟨fd_as_powers, F_as_powers⟩ := c.def_ 6 (d := d_as_powers) rfl
  obtain ⟨fd_plain_nest, F_plain_nest⟩ := c.def_ 7 (d := d_plain_nest) rfl
  obtain ⟨fd_hooked, F_hooked⟩ := c.def_ 8 (d := d_hooked) rfl
  obtain ⟨fd_loops_in, F_loops_in⟩ := c.def_ 9 (d := d_loops_in) rfl
  obtain ⟨fd_with_letter, F_with_letter⟩ := c.def_ 10 (d := d_with_letter) rfl
  obtain ⟨fd_by_nests, F_by_nests⟩ := c.def_ 11 (d := d_by_nests) rfl
  obtain ⟨fd__law_state, F__law_state⟩ := c.def_ 12 (d := d__law_state) rfl
  obtain ⟨fd__law_take, F__law_take⟩ := c.def_ 13 (d := d__law_take) rfl
  obtain ⟨fd__law_letter, F__law_letter⟩ := c.def_ 14 (d := d__law_letter) rfl
  obtain ⟨fd__law_plait, F__law_plait⟩ := c.def_ 15 (d := d__law_plait) rfl
  obtain ⟨fd__law_whole, F__law_whole⟩ := c.def_ 16 (d := d__law_whole) rfl
  obtain ⟨fd__law_put, F__law_put⟩ := c.def_ 17 (d := d__law_put) rfl
  obtain ⟨fd__law_times, F__law_times⟩ := c.def_ 18 (d := d__law_times) rfl
  obtain ⟨fd__law_told, F__law_told⟩ := c.def_ 19 (d := d__law_told) rfl
  obtain ⟨fd__law_is_sum, F__law_is_sum⟩ := c.def_ 20 (d := d__law_is_sum) rfl
  obtain ⟨fd_law, F_law⟩ := c.def_ 21 (d := d_law) rfl
  have Z : Bl mg := {
    f_abs := He.free_ok X G (c.fact 22 (f := .free "abs") rfl),
    f_bool := He.free_ok X G (c.fact 23 (f := .free "bool") rfl),
    f_dict := He.free_ok X G (c.fact 24 (f := .free "dict") rfl),
    f_int := He.free_ok X G (c.fact 25 (f := .free "int") rfl),
    f_isinstance := He.free_ok X G (c.fact 26 (f := .free "isinstance") rfl),
    f_len := He.free_ok X G (c.fact 27 (f := .free "len") rfl),
    f_list := He.free_ok X G (c.fact 28 (f := .free "list") rfl),
    f_min := He.free_ok X G (c.fact 29 (f := .free "min") rfl),
    f_range := He.free_ok X G (c.fact 30 (f := .free "range") rfl),
    f_sorted := He.free_ok X G (c.fact 31 (f := .free "sorted") rfl),
    f_tuple := He.free_ok X G (c.fact 32 (f := .free "tuple") rfl),
    k_MOST_STRANDS := He.int_ok X G (c.fact 33 (f := .int "MOST_STRANDS" 6) rfl),
    k_MOST_LETTERS := He.int_ok X G (c.fact 34 (f := .int "MOST_LETTERS" 16) rfl) }
  have e := hfa.symm.trans (He.glo_ok X G (c.fact 21 (f := .glo "law") rfl))
  cases e
  have b := FunD.bindsA (ps := ["script"]) F_law fun _ _ _ _ _ _ us hl => match us, hl with | [_], _ => rfl
  refine ⟨fd_law, fun s v => b s [v] rfl, fun base _ _ => ?_⟩
  have C_is_letter : Cal P w K mg base "is_letter" ["letter", "strands"] 1 (sp_is_letter K) := ⟨_, _, ok_is_letter F_is_letter Z , He.glo_ok X G (c.fact 0 (f := .glo "is_letter") rfl), F_is_letter.kp, F_is_letter.bindsN fun _ _ _ _ _ _ us hl => match us, hl with | [_, _], _ => rfl⟩
  have C_looked : Cal P w K mg base "looked" ["plait"] 2 (sp_looked K) := ⟨_, _, ok_looked F_looked Z C_is_letter, He.glo_ok X G (c.fact 1 (f := .glo "looked") rfl), F_looked.kp, F_looked.bindsN fun _ _ _ _ _ _ us hl => match us, hl with | [_], _ => rfl⟩
  have C_put_to : Cal P w K mg base "put_to" ["found", "power", "count"] 1 (sp_put_to K) := ⟨_, _, ok_put_to F_put_to Z , He.glo_ok X G (c.fact 3 (f := .glo "put_to") rfl), F_put_to.kp, F_put_to.bindsN fun _ _ _ _ _ _ us hl => match us, hl with | [_, _, _], _ => rfl⟩
  have C_loop_worth : Cal P w K mg base "loop_worth" [] 1 (sp_loop_worth K) := ⟨_, _, ok_loop_worth F_loop_worth Z , He.glo_ok X G (c.fact 2 (f := .glo "loop_worth") rfl), F_loop_worth.kp, F_loop_worth.bindsN fun _ _ _ _ _ _ us hl => match us, hl with | [], _ => rfl⟩
  have C_multiplied : Cal P w K mg base "multiplied" ["one", "other"] 2 (sp_multiplied K) := ⟨_, _, ok_multiplied F_multiplied Z C_put_to, He.glo_ok X G (c.fact 4 (f := .glo "multiplied") rfl), F_multiplied.kp, F_multiplied.bindsN fun _ _ _ _ _ _ us hl => match us, hl with | [_, _], _ => rfl⟩
  have C_loop_power : Cal P w K mg base "loop_power" ["times"] 3 (sp_loop_power K) := ⟨_, _, ok_loop_power F_loop_power Z C_multiplied C_loop_worth, He.glo_ok X G (c.fact 5 (f := .glo "loop_power") rfl), F_loop_power.kp, F_loop_power.bindsN fun _ _ _ _ _ _ us hl => match us, hl with | [_], _ => rfl⟩
  have C_as_powers : Cal P w K mg base "as_powers" ["powers"] 1 (sp_as_powers K) := ⟨_, _, ok_as_powers F_as_powers Z , He.glo_ok X G (c.fact 6 (f := .glo "as_powers") rfl), F_as_powers.kp, F_as_powers.bindsN fun _ _ _ _ _ _ us hl => match us, hl with | [_], _ => rfl⟩
  have C_plain_nest : Cal P w K mg base "plain_nest" ["strands"] 1 (sp_plain_nest K) := ⟨_, _, ok_plain_nest F_plain_nest Z , He.glo_ok X G (c.fact 7 (f := .glo "plain_nest") rfl), F_plain_nest.kp, F_plain_nest.bindsN fun _ _ _ _ _ _ us hl => match us, hl with | [_], _ => rfl⟩
  have C_hooked : Cal P w K mg base "hooked" ["nest", "strands", "at"] 1 (sp_hooked K) := ⟨_, _, ok_hooked F_hooked Z , He.glo_ok X G (c.fact 8 (f := .glo "hooked") rfl), F_hooked.kp, F_hooked.bindsN fun _ _ _ _ _ _ us hl => match us, hl with | [_, _, _], _ => rfl⟩
  have C_loops_in : Cal P w K mg base "loops_in" ["nest", "strands"] 1 (sp_loops_in K) := ⟨_, _, ok_loops_in F_loops_in Z , He.glo_ok X G (c.fact 9 (f := .glo "loops_in") rfl), F_loops_in.kp, F_loops_in.bindsN fun _ _ _ _ _ _ us hl => match us, hl with | [_, _], _ => rfl⟩
  have C_with_letter : Cal P w K mg base "with_letter" ["nests", "strands", "letter"] 3 (sp_with_letter K) := ⟨_, _, ok_with_letter F_with_letter Z C_hooked C_multiplied C_loop_worth C_put_to, He.glo_ok X G (c.fact 10 (f := .glo "with_letter") rfl), F_with_letter.kp, F_with_letter.bindsN fun _ _ _ _ _ _ us hl => match us, hl with | [_, _, _], _ => rfl⟩
  have C_by_nests : Cal P w K mg base "by_nests" ["plait"] 4 (sp_by_nests K) := ⟨_, _, ok_by_nests F_by_nests Z C_looked C_as_powers C_plain_nest C_with_letter C_multiplied C_loop_power C_put_to C_loops_in, He.glo_ok X G (c.fact 11 (f := .glo "by_nests") rfl), F_by_nests.kp, F_by_nests.bindsN fun _ _ _ _ _ _ us hl => match us, hl with | [_], _ => rfl⟩
  have C__law_state : Cal P w K mg base "_law_state" ["script", "k"] 1 (sp__law_state K) := ⟨_, _, ok__law_state F__law_state Z , He.glo_ok X G (c.fact 12 (f := .glo "_law_state") rfl), F__law_state.kp, F__law_state.bindsN fun _ _ _ _ _ _ us hl => match us, hl with | [_, _], _ => rfl⟩
  have C__law_take : Cal P w K mg base "_law_take" ["state", "many"] 1 (sp__law_take K) := ⟨_, _, ok__law_take F__law_take Z , He.glo_ok X G (c.fact 13 (f := .glo "_law_take") rfl), F__law_take.kp, F__law_take.bindsN fun _ _ _ _ _ _ us hl => match us, hl with | [_, _], _ => rfl⟩
  have C__law_letter : Cal P w K mg base "_law_letter" ["state", "strands"] 2 (sp__law_letter K) := ⟨_, _, ok__law_letter F__law_letter Z C__law_take, He.glo_ok X G (c.fact 14 (f := .glo "_law_letter") rfl), F__law_letter.kp, F__law_letter.bindsN fun _ _ _ _ _ _ us hl => match us, hl with | [_, _], _ => rfl⟩
  have C__law_plait : Cal P w K mg base "_law_plait" ["state", "most", "longest"] 3 (sp__law_plait K) := ⟨_, _, ok__law_plait F__law_plait Z C__law_take C__law_letter, He.glo_ok X G (c.fact 15 (f := .glo "_law_plait") rfl), F__law_plait.kp, F__law_plait.bindsN fun _ _ _ _ _ _ us hl => match us, hl with | [_, _, _], _ => rfl⟩
  have C__law_whole : Cal P w K mg base "_law_whole" ["found"] 1 (sp__law_whole K) := ⟨_, _, ok__law_whole F__law_whole Z , He.glo_ok X G (c.fact 16 (f := .glo "_law_whole") rfl), F__law_whole.kp, F__law_whole.bindsN fun _ _ _ _ _ _ us hl => match us, hl with | [_], _ => rfl⟩
  have C__law_put : Cal P w K mg base "_law_put" ["found", "power", "count"] 1 (sp__law_put K) := ⟨_, _, ok__law_put F__law_put Z , He.glo_ok X G (c.fact 17 (f := .glo "_law_put") rfl), F__law_put.kp, F__law_put.bindsN fun _ _ _ _ _ _ us hl => match us, hl with | [_, _, _], _ => rfl⟩
  have C__law_times : Cal P w K mg base "_law_times" ["one", "other"] 2 (sp__law_times K) := ⟨_, _, ok__law_times F__law_times Z C__law_put, He.glo_ok X G (c.fact 18 (f := .glo "_law_times") rfl), F__law_times.kp, F__law_times.bindsN fun _ _ _ _ _ _ us hl => match us, hl with | [_, _], _ => rfl⟩
  have C__law_told : Cal P w K mg base "_law_told" ["found"] 1 (sp__law_told K) := ⟨_, _, ok__law_told F__law_told Z , He.glo_ok X G (c.fact 19 (f := .glo "_law_told") rfl), F__law_told.kp, F__law_told.bindsN fun _ _ _ _ _ _ us hl => match us, hl with | [_], _ => rfl⟩
  have C__law_is_sum : Cal P w K mg base "_law_is_sum" ["found", "due"] 2 (sp__law_is_sum K) := ⟨_, _, ok__law_is_sum F__law_is_sum Z C__law_whole, He.glo_ok X G (c.fact 20 (f := .glo "_law_is_sum") rfl), F__law_is_sum.kp, F__law_is_sum.bindsN fun _ _ _ _ _ _ us hl => match us, hl with | [_, _], _ => rfl⟩
  exact ok_law F_law Z C__law_state C__law_plait C__law_times C__law_is_sum C__law_take C_by_nests C__law_told
end Lp
open PySem PySem.W PySem.Calls PyProof.Rows
theorem PySem.Challenge.cw_loopwright_k77_whole_side_by_side_holds : PySem.Challenge.rw_loopwright_k77_whole_side_by_side.Holds := by
  w_on; o_law
  refine HandSHeadRun.head_any (r := OpenLaw.row PySem.Challenge.rw_loopwright_k77_whole_side_by_side) (q := view (OpenLaw.row PySem.Challenge.rw_loopwright_k77_whole_side_by_side).prog [29]) (H := Lp.hkH) (ob := Lp.obH) (M := 4000) (loose := Lp.looseH) (d := HandSHeadRun.topDef (OpenLaw.row PySem.Challenge.rw_loopwright_k77_whole_side_by_side).prog 29) (kwd := []) Lp.obH_eq
    (by kernel_rfl) (fun s => by kernel_rfl) Lp.runH (by kernel_rfl) (by kernel_rfl) (by kernel_rfl) (by rfl) (by first | assumption | decide +kernel) (by decide +kernel) ⟨rfl, rfl, rfl, rfl, rfl, by decide +kernel⟩ ?hw ?hc
  case hw => w_witness2
  case hc =>
    refine L2.walk_ofE (l := PySem.Challenge.rw_loopwright_k77_whole_side_by_side) (n := 63) (k := 5) (x := "script") (CX := L2.CX0) rfl (by decide) (by kernel_rfl) ⟨rfl, by decide, by decide⟩ ?F (fun _ _ _ _ z => z)
    intro w mg fa h Y G hmg0
    obtain ⟨K, KX, c⟩ := Y
    have hmg : mg ("law" : PySem.Str) = some (.ref fa) := by
      have e : (HandSHeadRun.topDef (OpenLaw.row PySem.Challenge.rw_loopwright_k77_whole_side_by_side).prog 29).name = ("law" : PySem.Str) := by kernel_rfl
      rw [← e]
      exact hmg0
    obtain ⟨fd, hb, hF⟩ := Lp.factsH (P := (PySem.Challenge.rw_loopwright_k77_whole_side_by_side).prog) (w := w) KX G hmg c
    exact ⟨K, fd, Lp.sp_law K, KX, hb, fun H a ns hl _ hS => ⟨a, ns, rfl, hS, fun _ => rfl⟩, hF⟩
