import PyProof.Rows.All
import Wide.All
import OpenK.AllK
import Wide.FinOn
import HandS.ForMost
import HandS.ForExc
import HandS.IsInst
import HandS.Conv
import HandS.Defaults
import HandS.Wide
import HandS.TupLe
import HandS.TupAny
import HandS.Flow
import HandS.Zip
import HandS.ExcInit
import HandS.ExcField
import HandS.Style
import HandS.Walk
import HandS.HeadHook4
import KE.GoesEnum
import PySem.Challenge.RW_evenifstopped_k74_whole_small_parts
import HandS.TryMany
import HandS.Lambda
import HandS.Codes
import HandS.TupMul
import KE.KStateDown
import HandS.Head0
import HandS.Head1
import HandS.Head2
import HandS.HeadEnd
import HandS.HeadHook1
import HandS.HeadHook2
import HandS.HeadHook3
import HandS.EndTab
import HandS.HeadWalk
set_option Elab.async false
set_option linter.all false
set_option maxRecDepth 100000
set_option maxHeartbeats 4000000
/-! PD: what stands for plain data, and how readings give it. -/
namespace PD
open PySem PySem.Spec PyProof.Rows L2

/-! ### heaps that grow -/
theorem st_same {K : PySem.W.Frag} {H H' : Hp} {a : Addr} {xs : List V} (e : Same H H') (h : SqT K H a xs) : SqT K H' a xs := by
  rcases h with (h | ⟨o, h⟩) | h
  · exact .inl (.inl (e _ _ h))
  · exact .inl (.inr ⟨o, e _ _ h⟩)
  · exact .inr h
mutual
theorem dp_same {K : PySem.W.Frag} {H H' : Hp} (e : Same H H') : ∀ {d : PyData} {v : V}, Dp K H v d → Dp K H' v d
  | .none, _, h => by cases h; exact .non
  | .bool b, _, h => by cases h; exact .bl b
  | .int i, _, h => by cases h; exact .int i
  | .str x, _, h => by cases h; exact .str x
  | .list ds, _, h => by
    cases h with
    | lst hs ha => exact .lst (e.seq hs) (dpAll_same e ha)
  | .tuple ds, _, h => by
    cases h with
    | tup hs ha => exact .tup (st_same e hs) (dpAll_same e ha)
  | .dict _, _, h => by cases h
theorem dpAll_same {K : PySem.W.Frag} {H H' : Hp} (e : Same H H') : ∀ {ds : List PyData} {vs : List V}, DpAll K H vs ds → DpAll K H' vs ds
  | [], _, h => by cases h; exact .nil
  | d :: ds, _, h => by
    cases h with
    | cons h1 h2 => exact .cons (dp_same e h1) (dpAll_same e h2)
end
/-- F, the part that is told for ever, grows to F2 while all that is tracked grows from H to H2; what is tracked but not in F stays out -/
structure Grow (F H F2 H2 : Hp) : Prop where
  fs : Same F F2
  fh : Same F2 H2
  hs : Same H H2
  out : ∀ a, F a = none → H a ≠ none → F2 a = none
theorem Grow.refl {F H : Hp} (s : Same F H) : Grow F H F H := ⟨Same.refl F, s, Same.refl H, fun _ n _ => n⟩
theorem Grow.trans {F H F1 H1 F2 H2 : Hp} (a : Grow F H F1 H1) (b : Grow F1 H1 F2 H2) : Grow F H F2 H2 :=
  ⟨a.fs.trans b.fs, b.fh, a.hs.trans b.hs, fun x n m => b.out x (a.out x n m) fun z => m (by
    cases q : H x with
    | none => rfl
    | some o =>
      rw [a.hs x o q] at z
      cases z)⟩
/-- a new thing, told for ever -/
theorem Grow.new {F H : Hp} {p : Addr} {o : HO} (s : Same F H) (h : H p = none) : Grow F H (upd F p o) (upd H p o) := by
  have fp : F p = none := s.free h
  refine ⟨fun a u e => ?_, fun a u e => ?_, fun a u e => ?_, fun a n m => ?_⟩
  · rw [upd_ne (ne_of_none e fp)]
    exact e
  · by_cases q : a = p
    · rw [q] at e ⊢
      rw [upd_same] at e ⊢
      exact e
    · rw [upd_ne q] at e ⊢
      exact s a u e
  · rw [upd_ne (ne_of_none e h)]
    exact e
  · rw [upd_ne (fun z => m (by rw [z]; exact h))]
    exact n
/-- F1 more than F is known ahead -/
def join (F G : Hp) : Hp := fun a => match F a with
  | some o => some o
  | none => G a
theorem Grow.more {F F1 H F2 H2 : Hp} (s : Same F F1) (s1 : Same F1 H) (g : Grow F H F2 H2) : Grow F1 H (join F1 F2) H2 ∧ Same F2 (join F1 F2) := by
  refine ⟨⟨fun a o e => ?_, fun a o e => ?_, g.hs, fun a n m => ?_⟩, fun a o e => ?_⟩
  · unfold join
    rw [e]
  · unfold join at e
    cases q : F1 a with
    | some u =>
      rw [q] at e
      have e2 : u = o := Option.some.inj e
      rw [← e2]
      exact g.hs a u (s1 a u q)
    | none =>
      rw [q] at e
      exact g.fh a o e
  · unfold join
    rw [n]
    exact g.out a (s.free n) m
  · unfold join
    cases q : F1 a with
    | some u =>
      have h1 := g.fh a o e
      have h2 := g.hs a u (s1 a u q)
      rw [h1] at h2
      exact h2.symm
    | none => exact e

/-! ### readings that give plain data -/
section
variable (K : PySem.W.Frag)
def EvD (te : TE) (σ : L2.St) (F : Hp) (d : PyData) : Prop := ∀ H, Same F H → ∀ Q : VK, (∀ v F2 H2, Grow F H F2 H2 → Dp K F2 v d → Q v H2) → te σ H Q
def EvDs (ta : TA) (σ : L2.St) (F : Hp) (ds : List PyData) : Prop := ∀ H, Same F H → ∀ Q : List V → Hp → Prop, (∀ vs F2 H2, Grow F H F2 H2 → DpAll K F2 vs ds → Q vs H2) → ta σ H Q
def EvT (tt : TT) (σ : L2.St) (F : Hp) (b : Bool) : Prop := ∀ H, Same F H → ∀ Q : Bool → Hp → Prop, (∀ F2 H2, Grow F H F2 H2 → Q b H2) → tt σ H Q
/-- a two-place operation, a call of a builtin, upon data -/
def RvD (r : R2) (x y z : PyData) : Prop := ∀ F H v u, Same F H → Dp K F v x → Dp K F u y → ∀ Q : VK, (∀ w F2 H2, Grow F H F2 H2 → Dp K F2 w z → Q w H2) → r v u H Q
def RcD (r : List V → Hp → VK → Prop) (xs : List PyData) (z : PyData) : Prop := ∀ F H vs, Same F H → DpAll K F vs xs → ∀ Q : VK, (∀ w F2 H2, Grow F H F2 H2 → Dp K F2 w z → Q w H2) → r vs H Q
/-- what slots hold -/
def Sl (σ : L2.St) (F : Hp) (i : Nat) (d : PyData) : Prop := ∃ v, σ[i]? = some (some v) ∧ Dp K F v d
end
section
variable {K : PySem.W.Frag} {σ : L2.St} {F F1 H : Hp} {te ta tb : TE} {t u : TT} {x y z d : PyData} {r : R2}
theorem EvD.mono (s : Same F F1) (h : EvD K te σ F d) : EvD K te σ F1 d := fun H s1 Q q =>
  h H (s.trans s1) Q fun v F2 H2 g hv => let ⟨g2, s2⟩ := g.more s s1; q v _ H2 g2 (dp_same s2 hv)
theorem EvT.mono {b : Bool} (s : Same F F1) (h : EvT t σ F b) : EvT t σ F1 b := fun H s1 Q q =>
  h H (s.trans s1) Q fun F2 H2 g => q _ H2 (g.more s s1).1
theorem EvDs.mono {ta : TA} {ds : List PyData} (s : Same F F1) (h : EvDs K ta σ F ds) : EvDs K ta σ F1 ds := fun H s1 Q q =>
  h H (s.trans s1) Q fun v F2 H2 g hv => let ⟨g2, s2⟩ := g.more s s1; q v _ H2 g2 (dpAll_same s2 hv)
theorem Sl.mono {i : Nat} (s : Same F F1) (h : Sl K σ F i d) : Sl K σ F1 i d := let ⟨v, e, p⟩ := h; ⟨v, e, dp_same s p⟩
theorem ed_var {i : Nat} (h : Sl K σ F i d) : EvD K (tVar i) σ F d := fun H s Q q => let ⟨v, e, p⟩ := h; ⟨v, e, q v F H (.refl s) p⟩
theorem ed_c {v : V} (h : Dp K F v d) : EvD K (tC v) σ F d := fun H s Q q => q v F H (.refl s) h
theorem ed_op (ha : EvD K ta σ F x) (hb : EvD K tb σ F y) (hr : RvD K r x y z) : EvD K (tOp r ta tb) σ F z := fun H s Q q =>
  ha H s _ fun v F1 H1 g1 p1 => hb.mono g1.fs H1 g1.fh _ fun u F2 H2 g2 p2 => hr F2 H2 v u g2.fh (dp_same g2.fs p1) p2 Q fun w F3 H3 g3 p3 => q w F3 H3 ((g1.trans g2).trans g3) p3
theorem eds_nil : EvDs K tNil σ F [] := fun H s Q q => q [] F H (.refl s) .nil
theorem eds_cons {ds : List PyData} {tr : TA} (ha : EvD K ta σ F x) (hr : EvDs K tr σ F ds) : EvDs K (tCons ta tr) σ F (x :: ds) := fun H s Q q =>
  ha H s _ fun v F1 H1 g1 p1 => hr.mono g1.fs H1 g1.fh _ fun vs F2 H2 g2 p2 => q _ F2 H2 (g1.trans g2) (.cons (dp_same g2.fs p1) p2)
theorem dpAll_len {vs : List V} {ds : List PyData} : DpAll K F vs ds → vs.length = ds.length := by
  intro h
  induction ds generalizing vs with
  | nil => cases h; rfl
  | cons d ds ih =>
    cases h with
    | cons h1 h2 => rw [List.length_cons, List.length_cons, ih h2]
theorem ed_tup {tr : TA} {ds : List PyData} (h : EvDs K tr σ F ds) (hl : ds.length ≤ sizeLine) : EvD K (tTup tr) σ F (.tuple ds) := fun H s Q q =>
  h H s _ fun vs F1 H1 g1 p1 => ⟨by rw [dpAll_len p1]; exact hl, fun p hp => q _ _ _ (g1.trans (.new g1.fh hp)) (.tup (SqT.of upd_same) (dpAll_same (Grow.new (o := .tup vs) g1.fh hp).fs p1))⟩
theorem ed_lst {tr : TA} {ds : List PyData} (h : EvDs K tr σ F ds) (hl : ds.length ≤ sizeLine) : EvD K (tLst tr) σ F (.list ds) := fun H s Q q =>
  h H s _ fun vs F1 H1 g1 p1 => ⟨by rw [dpAll_len p1]; exact hl, fun p hp => q _ _ _ (g1.trans (.new g1.fh hp)) (.lst (SqL.of upd_same) (dpAll_same (Grow.new (o := .lst vs) g1.fh hp).fs p1))⟩
theorem ed_cb {r : List V → Hp → VK → Prop} {tr : TA} {ds : List PyData} (h : EvDs K tr σ F ds) (hr : RcD K r ds z) : EvD K (tCB r tr) σ F z := fun H s Q q =>
  h H s _ fun vs F1 H1 g1 p1 => hr F1 H1 vs g1.fh p1 Q fun w F2 H2 g2 p2 => q w F2 H2 (g1.trans g2) p2
theorem ed_is (h : EvD K te σ F x) (e : x = y) : EvD K te σ F y := e ▸ h
/-! tests -/
theorem dp_bl {v : V} {b : Bool} : Dp K F v (.bool b) → v = .bl b := by intro h; cases h; rfl
theorem dp_int {v : V} {i : Int} : Dp K F v (.int i) → v = .int i := by intro h; cases h; rfl
theorem dp_str {v : V} {i : Str} : Dp K F v (.str i) → v = .str i := by intro h; cases h; rfl
theorem dp_non {v : V} : Dp K F v .none → v = .non := by intro h; cases h; rfl
theorem et_test {b : Bool} (h : EvD K te σ F (.bool b)) : EvT (tTest te) σ F b := fun H s Q q => h H s _ fun v F2 H2 g p => ⟨b, dp_bl p, q F2 H2 g⟩
theorem et_B {b : Bool} (h : EvD K te σ F (.bool b)) : EvT (tB te) σ F b := fun H s Q q => h H s _ fun v F2 H2 g p => ⟨b, dp_bl p, q F2 H2 g⟩
theorem et_and {a b : Bool} (h1 : EvT t σ F a) (h2 : a = true → EvT u σ F b) : EvT (tAnd t u) σ F (a && b) := fun H s Q q => h1 H s _ fun F1 H1 g1 => by
  cases a with
  | true => exact iteT ((h2 rfl).mono g1.fs H1 g1.fh Q fun F2 H2 g2 => q F2 H2 (g1.trans g2))
  | false => exact iteF (q F1 H1 g1)
theorem et_or {a b : Bool} (h1 : EvT t σ F a) (h2 : a = false → EvT u σ F b) : EvT (tOr t u) σ F (a || b) := fun H s Q q => h1 H s _ fun F1 H1 g1 => by
  cases a with
  | false => exact iteF ((h2 rfl).mono g1.fs H1 g1.fh Q fun F2 H2 g2 => q F2 H2 (g1.trans g2))
  | true => exact iteT (q F1 H1 g1)
theorem et_not {a : Bool} (h1 : EvT t σ F a) : EvT (tNot t) σ F (!a) := fun H s Q q => h1 H s _ fun F1 H1 g1 => q F1 H1 g1
theorem et_is {a b : Bool} (h : EvT t σ F a) (e : a = b) : EvT t σ F b := e ▸ h
theorem ed_andV {a b : Bool} (h1 : EvD K ta σ F (.bool a)) (h2 : a = true → EvD K tb σ F (.bool b)) : EvD K (tAndV ta tb) σ F (.bool (a && b)) := fun H s Q q => h1 H s _ fun v F1 H1 g1 p1 => ⟨a, dp_bl p1, by
  cases a with
  | true => exact iteT ((h2 rfl).mono g1.fs H1 g1.fh Q fun w F2 H2 g2 p2 => q w F2 H2 (g1.trans g2) p2)
  | false => exact iteF (q _ F1 H1 g1 (.bl false))⟩
theorem ed_orV {a b : Bool} (h1 : EvD K ta σ F (.bool a)) (h2 : a = false → EvD K tb σ F (.bool b)) : EvD K (tOrV ta tb) σ F (.bool (a || b)) := fun H s Q q => h1 H s _ fun v F1 H1 g1 p1 => ⟨a, dp_bl p1, by
  cases a with
  | false => exact iteF ((h2 rfl).mono g1.fs H1 g1.fh Q fun w F2 H2 g2 p2 => q w F2 H2 (g1.trans g2) p2)
  | true => exact iteT (q _ F1 H1 g1 (.bl true))⟩
theorem ed_notV {a : Bool} (h1 : EvD K ta σ F (.bool a)) : EvD K (tNotV ta) σ F (.bool (!a)) := fun H s Q q => h1 H s _ fun v F1 H1 g1 p1 => ⟨a, dp_bl p1, q _ F1 H1 g1 (.bl (!a))⟩
theorem ed_if {b : Bool} (h : EvT t σ F b) (h1 : b = true → EvD K ta σ F d) (h2 : b = false → EvD K tb σ F d) : EvD K (tIf t ta tb) σ F d := fun H s Q q => h H s _ fun F1 H1 g1 => by
  cases b with
  | true => exact iteT ((h1 rfl).mono g1.fs H1 g1.fh Q fun w F2 H2 g2 p2 => q w F2 H2 (g1.trans g2) p2)
  | false => exact iteF ((h2 rfl).mono g1.fs H1 g1.fh Q fun w F2 H2 g2 p2 => q w F2 H2 (g1.trans g2) p2)
end
end PD
set_option Elab.async false
set_option linter.all false
set_option maxRecDepth 100000
set_option maxHeartbeats 4000000
/-! PD: types, operators, built-ins upon plain data. -/
namespace PD
open PySem PySem.Spec PyProof.Rows L2
/-! ### types -/
def tyN : PyData → String
  | .none => "NoneType"
  | .bool _ => "bool"
  | .int _ => "int"
  | .str _ => "str"
  | .list _ => "list"
  | .tuple _ => "tuple"
  | .dict _ => "dict"
theorem ty_dp {K : PySem.W.Frag} {H : Hp} {d : PyData} {v : V} (h : Dp K H v d) : TyX K H v (.type (tyN d)) := by
  cases h with
  | non => exact .base .non
  | bl b => exact .base (.bl b)
  | int i => exact .base (.int i)
  | str x => exact .base (.str x)
  | lst hs ha =>
    rcases hs with (h | ⟨o, h⟩) | ⟨o, its, n, h, c, _⟩
    · exact .base (.lst h)
    · exact .base (.frz h)
    · exact .kList h c
  | tup hs ha =>
    rcases hs with (h | ⟨o, h⟩) | ⟨o, its, n, h, c, _⟩
    · exact .base (.tup h)
    · exact .fTuple h
    · exact .kTuple h c
theorem ty_same {K : PySem.W.Frag} {H H' : Hp} {v : V} {t : Value} (e : Same H H') (h : TyX K H v t) : TyX K H' v t := by
  cases h with
  | base b =>
    cases b with
    | non => exact .base .non
    | bl x => exact .base (.bl x)
    | int x => exact .base (.int x)
    | str x => exact .base (.str x)
    | flt x => exact .base (.flt x)
    | lst h => exact .base (.lst (e _ _ h))
    | frz h => exact .base (.frz (e _ _ h))
    | tup h => exact .base (.tup (e _ _ h))
    | dK h => exact .base (.dK (e _ _ h))
    | dT h => exact .base (.dT (e _ _ h))
    | ins h c a b c2 d => exact .base (.ins (e _ _ h) c a b c2 d)
  | byt b => exact .byt b
  | set h => exact .set (e _ _ h)
  | kList h c => exact .kList h c
  | kTuple h c => exact .kTuple h c
  | kDict h c => exact .kDict h c
  | fTuple h => exact .fTuple (e _ _ h)
  | fDict h => exact .fDict (e _ _ h)
/-- isinstance with a built-in class -/
def tyIs (n T : String) : Bool := decide (n = T) || (decide (n = "bool") && decide (T = "int"))
def isTy (T : String) (d : PyData) : Bool := tyIs (tyN d) T
def okTy (T : String) : Bool := decide (T = "int") || decide (T = "bool") || decide (T = "str") || decide (T = "list") || decide (T = "tuple")
theorem kit_n {n T : String} (hn : n ∈ ["NoneType", "bool", "int", "str", "list", "tuple", "dict"]) (hT : okTy T = true) : kitB n T = some (tyIs n T) := by
  unfold okTy at hT
  simp only [Bool.or_eq_true, decide_eq_true_eq] at hT
  simp only [List.mem_cons, List.not_mem_nil, or_false] at hn
  rcases hT with ((((h | h) | h) | h) | h) <;> subst h <;> rcases hn with h | h | h | h | h | h | h <;> subst h <;> decide +kernel
theorem kit_dp {K : PySem.W.Frag} {T : String} (d : PyData) (hT : okTy T = true) : PySem.W.kitOne K (.type (tyN d)) (.type T) = some (isTy T d) := by
  apply kit_ty
  apply kit_n _ hT
  cases d <;> simp [tyN]
section
variable {K : PySem.W.Frag} {σ : L2.St} {F F1 H : Hp} {te ta tb : TE} {t u : TT} {x y z d : PyData} {r : R2}
theorem ed_isi {T : String} (h : EvD K te σ F d) (hT : okTy T = true := by decide) : EvD K (tCB (rIsi K) (tCons te (tCons (tC (.ty T)) tNil))) σ F (.bool (isTy T d)) := fun H s Q q =>
  h H s _ fun v F2 H2 g p => ⟨v, .ty T, _, _, _, rfl, .ty T, ty_dp (dp_same g.fh p), kit_dp d hT, q _ F2 H2 g (.bl _)⟩
/-- isinstance(x, (S, T)) -/
theorem kit_two {S T : String} (d : PyData) (hS : okTy S = true) (hT : okTy T = true) : PySem.W.kitAny K (.type (tyN d)) [.type S, .type T] = some (isTy S d || isTy T d) := by
  refine kitAny_cons (kit_dp d hS) (fun e => ?_) (fun e => by rw [e] <;> rfl)
  rw [e]
  refine kitAny_cons (kit_dp d hT) (fun e => ?_) (fun e => by rw [e] <;> rfl)
  rw [e]
  exact kitAny_nil
theorem ed_isi2 {S T : String} (h : EvD K te σ F d) (hS : okTy S = true := by decide) (hT : okTy T = true := by decide) :
    EvD K (tCB (rIsiT K) (tCons te (tCons (tTup (tCons (tC (.ty S)) (tCons (tC (.ty T)) tNil))) tNil))) σ F (.bool (isTy S d || isTy T d)) := fun H s Q q =>
  h H s _ fun v F2 H2 g p => ⟨by show 2 ≤ sizeLine; decide, fun tp hp => ⟨v, tp, _, _, _, _, rfl, upd_same, .cons (.ty S) (.cons (.ty T) .nil), ty_same (Grow.new (o := .tup [.ty S, .ty T]) g.fh hp).hs (ty_dp (dp_same g.fh p)), kit_two d hS hT, q _ _ _ (g.trans (.new g.fh hp)) (.bl _)⟩⟩
/-! ### operators -/
theorem rd_I0 {f : Int → Int → Int} {i j : Int} : RvD K (rI0 fun i j => .int (f i j)) (.int i) (.int j) (.int (f i j)) := fun F H v u s p1 p2 Q q => ⟨i, j, dp_int p1, dp_int p2, q _ F H (.refl s) (.int _)⟩
theorem rd_B0 {f : Int → Int → Bool} {i j : Int} : RvD K (rI0 fun i j => .bl (f i j)) (.int i) (.int j) (.bool (f i j)) := fun F H v u s p1 p2 Q q => ⟨i, j, dp_int p1, dp_int p2, q _ F H (.refl s) (.bl _)⟩
theorem rd_I {C : Int → Int → Prop} {f : Int → Int → Int} {i j : Int} (hc : C i j) : RvD K (rI C fun i j => .int (f i j)) (.int i) (.int j) (.int (f i j)) := fun F H v u s p1 p2 Q q => ⟨i, j, dp_int p1, dp_int p2, hc, q _ F H (.refl s) (.int _)⟩
theorem rd_eq (hx : SeqAt.shaped x = true) (hy : SeqAt.shaped y = true) : RvD K (rEqD K) x y (.bool (PyData.eqv x y)) := fun F H v u s p1 p2 Q q => ⟨x, y, dp_same s p1, dp_same s p2, hx, hy, q _ F H (.refl s) (.bl _)⟩
theorem rd_ne (hx : SeqAt.shaped x = true) (hy : SeqAt.shaped y = true) : RvD K (rNeD K) x y (.bool (!PyData.eqv x y)) := fun F H v u s p1 p2 Q q => ⟨x, y, dp_same s p1, dp_same s p2, hx, hy, q _ F H (.refl s) (.bl _)⟩
/-- is None -/
def isNo : PyData → Bool
  | .none => true
  | _ => false
theorem dp_isNo {v : V} (h : Dp K F v d) : decide (v = .non) = isNo d := by
  cases h <;> first | rfl | (simp [isNo])
theorem rd_isN : RvD K (fun x y H Q => y = .non ∧ Q (.bl (decide (x = .non))) H) x .none (.bool (isNo x)) := fun F H v u s p1 p2 Q q => ⟨dp_non p2, by rw [dp_isNo p1]; exact q _ F H (.refl s) (.bl _)⟩
theorem rd_notN : RvD K (fun x y H Q => y = .non ∧ Q (.bl (!decide (x = .non))) H) x .none (.bool (!isNo x)) := fun F H v u s p1 p2 Q q => ⟨dp_non p2, by rw [dp_isNo p1]; exact q _ F H (.refl s) (.bl _)⟩
/-! ### items -/
theorem dpAll_get {vs : List V} {ds : List PyData} {j : Nat} {e : PyData} (h : DpAll K F vs ds) (hj : ds[j]? = some e) : ∃ v, vs[j]? = some v ∧ Dp K F v e := by
  induction ds generalizing vs j with
  | nil => simp at hj
  | cons d ds ih =>
    cases h with
    | cons h1 h2 =>
      cases j with
      | zero => simp at hj; subst hj; exact ⟨_, rfl, h1⟩
      | succ j => obtain ⟨v, e1, e2⟩ := ih h2 (by simpa using hj); exact ⟨v, by simpa using e1, e2⟩
theorem dpAll_get' {vs : List V} {ds : List PyData} {j : Nat} {v : V} (h : DpAll K F vs ds) (hj : vs[j]? = some v) : ∃ e, ds[j]? = some e ∧ Dp K F v e := by
  induction ds generalizing vs j with
  | nil => cases h; simp at hj
  | cons d ds ih =>
    cases h with
    | cons h1 h2 =>
      cases j with
      | zero => simp at hj; subst hj; exact ⟨_, rfl, h1⟩
      | succ j => obtain ⟨e, e1, e2⟩ := ih h2 (by simpa using hj); exact ⟨e, by simpa using e1, e2⟩
theorem dpAll_atI {vs : List V} {ds : List PyData} {i : Int} {e : PyData} (h : DpAll K F vs ds) (hj : atI ds i = some e) : ∃ v, atI vs i = some v ∧ Dp K F v e := by
  unfold atI at hj ⊢
  rw [dpAll_len h]
  cases q : ixN ds.length i with
  | none => rw [q] at hj; cases hj
  | some j => rw [q] at hj; exact dpAll_get h hj
theorem rd_ixT {ds : List PyData} {i : Int} {e : PyData} (h : atI ds i = some e) : RvD K (rIxT K) (.tuple ds) (.int i) e := fun F H v u s p1 p2 Q q => by
  cases p1 with
  | tup hs ha =>
    obtain ⟨w, hw, hp⟩ := dpAll_atI ha h
    exact ⟨_, _, i, w, rfl, dp_int p2, st_same s hs, hw, q _ F H (.refl s) hp⟩
theorem rd_ixL {ds : List PyData} {i : Int} {e : PyData} (h : atI ds i = some e) : RvD K (rIxL K) (.list ds) (.int i) e := fun F H v u s p1 p2 Q q => by
  cases p1 with
  | lst hs ha =>
    obtain ⟨w, hw, hp⟩ := dpAll_atI ha h
    exact ⟨_, _, i, w, rfl, dp_int p2, s.seq hs, hw, q _ F H (.refl s) hp⟩
/-! ### len -/
def lenD : PyData → Nat
  | .list ds => ds.length
  | .tuple ds => ds.length
  | .str x => x.length
  | _ => 0
def hasLen : PyData → Bool
  | .list _ => true
  | .tuple _ => true
  | .str x => decide (x.length ≤ sizeLine)
  | _ => false
theorem len_dp {v : V} (h : Dp K F v d) (hd : hasLen d = true) : LenV K v F (lenD d) := by
  cases h with
  | lst hs ha => exact Or.inl ⟨_, hs, (dpAll_len ha).symm⟩
  | tup hs ha => exact Or.inr ⟨_, hs, (dpAll_len ha).symm⟩
  | str x => exact ⟨of_decide_eq_true hd, rfl⟩
  | non => cases hd
  | bl b => cases hd
  | int i => cases hd
theorem dpAll_one {vs : List V} (h : DpAll K F vs [d]) : ∃ v, vs = [v] ∧ Dp K F v d := by
  cases h with
  | cons h1 h2 => cases h2; exact ⟨_, rfl, h1⟩
theorem dpAll_two {vs : List V} (h : DpAll K F vs [x, y]) : ∃ v u, vs = [v, u] ∧ Dp K F v x ∧ Dp K F u y := by
  cases h with
  | cons h1 h2 => obtain ⟨u, e, p⟩ := dpAll_one h2; exact ⟨_, u, by rw [e], h1, p⟩
theorem dpAll_three {vs : List V} (h : DpAll K F vs [x, y, z]) : ∃ v u w, vs = [v, u, w] ∧ Dp K F v x ∧ Dp K F u y ∧ Dp K F w z := by
  cases h with
  | cons h1 h2 => obtain ⟨u, w, e, p, q⟩ := dpAll_two h2; exact ⟨_, u, w, by rw [e], h1, p, q⟩
theorem rc_len (hd : hasLen d = true) : RcD K (fun xs H Q => ∃ x n, xs = [x] ∧ LenV K x H n ∧ Q (.int n) H) [d] (.int (lenD d)) := fun F H vs s p Q q => by
  obtain ⟨v, e, p⟩ := dpAll_one p
  exact ⟨v, _, e, len_dp (dp_same s p) hd, q _ F H (.refl s) (.int _)⟩
/-! ### int -/
theorem rc_int {i : Int} : RcD K (fun xs H Q => (∃ i, xs = [V.int i] ∧ Q (.int i) H) ∨ ∃ k, xs = [V.bl k] ∧ Q (.int (if k then 1 else 0)) H) [.int i] (.int i) := fun F H vs s p Q q => by
  obtain ⟨v, e, p⟩ := dpAll_one p
  exact Or.inl ⟨i, by rw [e, dp_int p], q _ F H (.refl s) (.int _)⟩
/-! ### all -/
theorem dpAll_bools {bs : List Bool} {vs : List V} (h : DpAll K F vs (bs.map PyData.bool)) : vs = bs.map V.bl := by
  induction bs generalizing vs with
  | nil => cases h; rfl
  | cons b bs ih =>
    cases h with
    | cons h1 h2 => rw [ih h2, dp_bl h1] <;> rfl
theorem rc_all {bs : List Bool} : RcD K (rAll K) [.list (bs.map .bool)] (.bool (bs.all id)) := fun F H vs s p Q q => by
  obtain ⟨v, e, p⟩ := dpAll_one p
  cases p with
  | lst hs ha => exact ⟨_, bs, e, by rw [dpAll_bools ha] at hs; exact s.seq hs, q _ F H (.refl s) (.bl _)⟩
end
end PD
set_option Elab.async false
set_option linter.all false
set_option maxRecDepth 100000
set_option maxHeartbeats 4000000
/-! PD: walks over plain data, comprehensions, new lists, loops. -/
namespace PD
open PySem PySem.Spec PyProof.Rows L2
section
variable (K : PySem.W.Frag)
/-- a new list, not told for ever as yet -/
def EvL (te : TE) (σ : L2.St) (F : Hp) (ds : List PyData) : Prop := ∀ H, Same F H → ∀ Q : VK, (∀ p vs F2 H2, Grow F H F2 H2 → H p = none → F2 p = none → H2 p = some (.lst vs) → DpAll K F2 vs ds → Q (.ref p) H2) → te σ H Q
/-- what a walk yields -/
structure WalkD (F : Hp) (J : It) (ds : List PyData) : Prop where
  goes : ∀ i H, i < ds.length → Same F H → J.go i H
  stops : ∀ H, Same F H → J.stop ds.length H
  yields : ∀ i H x H' e, ds[i]? = some e → Same F H → J.yld i H x H' → ∃ F2, Grow F H F2 H' ∧ Dp K F2 x e
def IterD (wi : TI) (σ : L2.St) (F : Hp) (ds : List PyData) : Prop := ∀ H, Same F H → ∀ R : It → Hp → Prop, (∀ J F2 H2, Grow F H F2 H2 → WalkD K F2 J ds → R J H2) → wi σ H R
/-- a target takes a value -/
def Bd (F : Hp) (g : TG) (σ : L2.St) (e : PyData) (R : L2.St → Prop) : Prop := ∀ H v, Same F H → Dp K F v e → ∀ Q : L2.St → Hp → Prop, (∀ σ', R σ' → Q σ' H) → g v σ H Q
end
section
variable {K : PySem.W.Frag} {σ : L2.St} {F F1 H : Hp} {te ta tb tl : TE} {t u : TT} {x y z d : PyData} {r : R2} {wi : TI} {g : TG} {ds es : List PyData}
theorem Grow.out1 {F H F2 H2 : Hp} {p : Addr} (g : Grow F H F2 H2) (h : F p = none) (n : H p ≠ none) : F2 p = none := g.out p h n
/-- the new list is told for ever from now on -/
theorem Grow.freeze {F H F2 H2 : Hp} {p : Addr} {o : HO} (g : Grow F H F2 H2) (hp : H p = none) (fp : F2 p = none) (h2 : H2 p = some o) : Grow F H (upd F2 p o) H2 := by
  refine ⟨fun a u e => ?_, fun a u e => ?_, g.hs, fun a n m => ?_⟩
  · have h1 := g.fs a u e
    rw [upd_ne (ne_of_none h1 fp)]
    exact h1
  · by_cases q : a = p
    · rw [q] at e ⊢
      rw [upd_same] at e
      rw [h2]
      exact e
    · rw [upd_ne q] at e
      exact g.fh a u e
  · rw [upd_ne (fun z => m (by rw [z]; exact hp))]
    exact g.out a n m
theorem same_upd {F2 : Hp} {p : Addr} {o : HO} (fp : F2 p = none) : Same F2 (upd F2 p o) := fun a u e => by
  rw [upd_ne (ne_of_none e fp)]
  exact e
theorem ed_of_el (h : EvL K te σ F ds) : EvD K te σ F (.list ds) := fun H s Q q =>
  h H s _ fun p vs F2 H2 g hp fp h2 pa => q _ _ H2 (g.freeze hp fp h2) (.lst (SqL.of upd_same) (dpAll_same (same_upd fp) pa))
theorem EvL.mono (s : Same F F1) (h : EvL K te σ F ds) : EvL K te σ F1 ds := fun H s1 Q q =>
  h H (s.trans s1) Q fun p vs F2 H2 g hp fp h2 pa => by
    obtain ⟨g2, s2⟩ := g.more s s1
    refine q p vs _ H2 g2 hp ?_ h2 (dpAll_same s2 pa)
    unfold join
    rw [s1.free hp]
    exact fp
theorem el_is (h : EvL K te σ F ds) (e : ds = es) : EvL K te σ F es := e ▸ h
theorem el_lst {tr : TA} (h : EvDs K tr σ F ds) (hl : ds.length ≤ sizeLine) : EvL K (tLst tr) σ F ds := fun H s Q q =>
  h H s _ fun vs F1 H1 g1 p1 => ⟨by rw [dpAll_len p1]; exact hl, fun p hp => by
    have np : H p = none := g1.hs.free hp
    have fp : F1 p = none := g1.fh.free hp
    refine q p vs F1 _ ⟨g1.fs, fun a u e => ?_, fun a u e => ?_, g1.out⟩ np fp upd_same p1
    · rw [upd_ne (ne_of_none e fp)]
      exact g1.fh a u e
    · rw [upd_ne (ne_of_none e np)]
      exact g1.hs a u e⟩
theorem Grow.lay {F H F1 H1 : Hp} {p : Addr} {o : HO} (g1 : Grow F H F1 H1) (hp : H1 p = none) : Grow F H F1 (upd H1 p o) ∧ H p = none ∧ F1 p = none := by
  have np : H p = none := g1.hs.free hp
  have fp : F1 p = none := g1.fh.free hp
  refine ⟨⟨g1.fs, fun a u e => ?_, fun a u e => ?_, g1.out⟩, np, fp⟩
  · rw [upd_ne (ne_of_none e fp)]
    exact g1.fh a u e
  · rw [upd_ne (ne_of_none e np)]
    exact g1.hs a u e
theorem dpAll_app {vs us : List V} (h : DpAll K F vs ds) (h2 : DpAll K F us es) : DpAll K F (vs ++ us) (ds ++ es) := by
  induction ds generalizing vs with
  | nil => cases h; exact h2
  | cons d ds ih =>
    cases h with
    | cons a b => exact .cons a (ih b)
theorem dpAll_rev {vs : List V} (h : DpAll K F vs ds) : DpAll K F vs.reverse ds.reverse := by
  induction ds generalizing vs with
  | nil => cases h; exact .nil
  | cons d ds ih =>
    cases h with
    | cons a b =>
      rw [List.reverse_cons, List.reverse_cons]
      exact dpAll_app (ih b) (.cons a .nil)
theorem dpAll_flat {vs : List V} (h : DpAll K F vs ds) (n : Nat) : DpAll K F (List.replicate n vs).flatten (List.replicate n ds).flatten := by
  induction n with
  | zero => exact .nil
  | succ n ih =>
    rw [List.replicate_succ, List.replicate_succ, List.flatten_cons, List.flatten_cons]
    exact dpAll_app h ih
/-- xs + ys of two new lists -/
theorem el_cat (ha : EvL K ta σ F ds) (hb : EvL K tb σ F es) (hl : ds.length + es.length ≤ sizeLine) : EvL K (tOp rCat ta tb) σ F (ds ++ es) := fun H s Q q =>
  ha H s _ fun p vs F1 H1 g1 np fp h1 p1 => hb.mono g1.fs H1 g1.fh _ fun p2 us F2 H2 g2 np2 fp2 h2 pa2 => by
    refine ⟨p, p2, vs, us, rfl, rfl, g2.hs _ _ h1, h2, by rw [dpAll_len p1, dpAll_len pa2]; exact hl, fun l hl => ?_⟩
    obtain ⟨g3, n3, f3⟩ := (g1.trans g2).lay (o := .lst (vs ++ us)) hl
    exact q l _ F2 _ g3 n3 f3 upd_same (dpAll_app (dpAll_same g2.fs p1) pa2)
/-- xs * k of a new list -/
theorem el_rep {k : Int} (ha : EvL K ta σ F ds) (hk : 0 ≤ k ∧ k ≤ 1000) (hl : ds.length ≤ 1000) : EvL K (tOp rRep ta (tC (.int k))) σ F (List.replicate k.toNat ds).flatten := fun H s Q q =>
  ha H s _ fun p vs F1 H1 g1 np fp h1 p1 => by
    have e := dpAll_len p1
    refine ⟨p, k, vs, rfl, rfl, h1, by omega, by omega, ?_, fun l hl => ?_⟩
    · rw [e, sizeLine_eq]
      have h1 : ds.length * k.toNat ≤ 1000 * 1000 := Nat.mul_le_mul hl (by omega)
      omega
    · obtain ⟨g3, n3, f3⟩ := g1.lay (o := .lst (List.replicate k.toNat vs).flatten) hl
      exact q l _ F1 _ g3 n3 f3 upd_same (dpAll_flat p1 _)
/-- list(x) -/
theorem el_listOf (ha : EvD K ta σ F d) (h : d = .list ds ∨ d = .tuple ds) : EvL K (tCB (fun xs H Q => ∃ p ys, xs = [.ref p] ∧ (SqL K H p ys ∨ SqT K H p ys) ∧ ∀ l, H l = none → Q (.ref l) (upd H l (.lst ys))) (tCons ta tNil)) σ F ds := fun H s Q q =>
  ha H s _ fun v F1 H1 g1 p1 => by
    rcases h with rfl | rfl
    · cases p1 with
      | lst hs pa =>
        refine ⟨_, _, rfl, Or.inl (g1.fh.seq hs), fun l hl => ?_⟩
        obtain ⟨g3, n3, f3⟩ := g1.lay (o := .lst _) hl
        exact q l _ F1 _ g3 n3 f3 upd_same pa
    · cases p1 with
      | tup hs pa =>
        refine ⟨_, _, rfl, Or.inr (st_same g1.fh hs), fun l hl => ?_⟩
        obtain ⟨g3, n3, f3⟩ := g1.lay (o := .lst _) hl
        exact q l _ F1 _ g3 n3 f3 upd_same pa
/-- tuple(x) -/
theorem rc_tupleOf (h : d = .list ds ∨ d = .tuple ds) : RcD K (fun xs H Q => ∃ p ys, xs = [.ref p] ∧ ((SqL K H p ys ∧ ∀ l, H l = none → Q (.ref l) (upd H l (.tup ys))) ∨ (SqT K H p ys ∧ Q (.ref p) H))) [d] (.tuple ds) := fun F H vs s p Q q => by
  obtain ⟨v, e, p⟩ := dpAll_one p
  rcases h with rfl | rfl
  · cases p with
    | lst hs pa => exact ⟨_, _, e, Or.inl ⟨s.seq hs, fun l hl => q _ _ _ (Grow.new s hl) (.tup (SqT.of upd_same) (dpAll_same (Grow.new (o := .tup _) s hl).fs pa))⟩⟩
  · cases p with
    | tup hs pa => exact ⟨_, _, e, Or.inr ⟨st_same s hs, q _ F H (.refl s) (.tup hs pa)⟩⟩
/-- xs[::-1] -/
theorem el_rev (ha : EvD K ta σ F (.list ds)) : EvL K (tRevL K ta) σ F ds.reverse := fun H s Q q =>
  ha H s _ fun v F1 H1 g1 p1 => by
    cases p1 with
    | lst hs pa =>
      refine ⟨_, _, rfl, g1.fh.seq hs, fun l hl => ?_⟩
      obtain ⟨g3, n3, f3⟩ := g1.lay (o := .lst _) hl
      exact q l _ F1 _ g3 n3 f3 upd_same (dpAll_rev pa)
/-- t + u, tuples -/
theorem rd_catA (hl : ds.length + es.length ≤ sizeLine) : RvD K (rCatA K) (.tuple ds) (.tuple es) (.tuple (ds ++ es)) := fun F H v u s p1 p2 Q q => by
  cases p1 with
  | tup h1 a1 =>
    cases p2 with
    | tup h2 a2 =>
      have e1 := dpAll_len a1
      have e2 := dpAll_len a2
      refine ⟨_, _, _, _, rfl, rfl, st_same s h1, st_same s h2, by omega, fun e => ?_, fun _ e => ?_, fun _ _ p hp => ?_⟩
      · subst e
        cases a1
        exact q _ F H (.refl s) (.tup h2 a2)
      · subst e
        cases a2
        rw [List.append_nil] at q
        exact q _ F H (.refl s) (.tup h1 a1)
      · exact q _ _ _ (Grow.new s hp) (.tup (SqT.of upd_same) (dpAll_same (Grow.new (o := .tup _) s hp).fs (dpAll_app a1 a2)))
/-! ### walks -/
theorem wd_list {a : Addr} {xs : List V} (h : SqL K F a xs) (pa : DpAll K F xs ds) : WalkD K F (Itl K a) ds := by
  have e := dpAll_len pa
  refine ⟨fun i H hi s => ⟨xs, xs[i]'(by omega), s.seq h, by simp [show i < xs.length by omega]⟩, fun H s => ⟨xs, s.seq h, by omega⟩, fun i H x H' e he s y => ?_⟩
  obtain ⟨rfl, hx⟩ := y
  obtain ⟨v, hv, pv⟩ := dpAll_get pa he
  rw [hx xs (s.seq h)] at hv
  cases hv
  exact ⟨F, .refl s, pv⟩
theorem wd_tup {a : Addr} {xs : List V} (h : SqT K F a xs) (pa : DpAll K F xs ds) : WalkD K F (Itt K a) ds := by
  have e := dpAll_len pa
  refine ⟨fun i H hi s => ⟨xs, xs[i]'(by omega), st_same s h, by simp [show i < xs.length by omega]⟩, fun H s => ⟨xs, st_same s h, by omega⟩, fun i H x H' e he s y => ?_⟩
  obtain ⟨rfl, hx⟩ := y
  obtain ⟨v, hv, pv⟩ := dpAll_get pa he
  rw [hx xs (st_same s h)] at hv
  cases hv
  exact ⟨F, .refl s, pv⟩
def upTo (lo : Int) (n : Nat) : List PyData := (List.range n).map fun i => .int (lo + (i : Nat))
theorem wd_range {lo : Int} {n : Nat} : WalkD K F (Itr lo n) (upTo lo n) := by
  refine ⟨fun i H hi s => ?_, fun H s => ?_, fun i H x H' e he s y => ?_⟩
  · unfold upTo at hi
    rw [List.length_map, List.length_range] at hi
    exact hi
  · show n ≤ _
    unfold upTo
    rw [List.length_map, List.length_range]
    exact Nat.le_refl _
  · obtain ⟨rfl, rfl⟩ := y
    unfold upTo at he
    rw [List.getElem?_map] at he
    obtain ⟨j, hj, rfl⟩ := Option.map_eq_some_iff.mp he
    obtain ⟨h1, h2⟩ := List.getElem?_eq_some_iff.mp hj
    rw [List.getElem_range] at h2
    subst h2
    exact ⟨F, .refl s, .int _⟩
def pairs : List PyData → List PyData → List PyData
  | a :: as, b :: bs => .tuple [a, b] :: pairs as bs
  | _, _ => []
theorem pairs_len : ∀ (as bs : List PyData), (pairs as bs).length = min as.length bs.length
  | [], _ => by simp [pairs]
  | _ :: _, [] => by simp [pairs]
  | a :: as, b :: bs => by simp [pairs, pairs_len as bs]
theorem pairs_get : ∀ {as bs : List PyData} {i : Nat} {e : PyData}, (pairs as bs)[i]? = some e → ∃ a b, as[i]? = some a ∧ bs[i]? = some b ∧ e = .tuple [a, b]
  | [], _, i, e, h => by simp [pairs] at h
  | _ :: _, [], i, e, h => by simp [pairs] at h
  | a :: as, b :: bs, 0, e, h => by simp [pairs] at h; exact ⟨a, b, rfl, rfl, h.symm⟩
  | a :: as, b :: bs, i + 1, e, h => by
    obtain ⟨x, y, h1, h2, h3⟩ := pairs_get (as := as) (bs := bs) (i := i) (e := e) (by simpa [pairs] using h)
    exact ⟨x, y, by simpa using h1, by simpa using h2, h3⟩
theorem wd_zipL {a b : Addr} {xs ys : List V} (h : SqL K F a xs) (h' : SqL K F b ys) (pa : DpAll K F xs ds) (pb : DpAll K F ys es) : WalkD K F (Itz K a b) (pairs ds es) := by
  have e1 := dpAll_len pa
  have e2 := dpAll_len pb
  refine ⟨fun i H hi s => ?_, fun H s => ⟨xs, ys, s.seq h, s.seq h', by rw [pairs_len]; omega⟩, fun i H x H' e he s y => ?_⟩
  · rw [pairs_len] at hi
    exact ⟨xs, ys, xs[i]'(by omega), ys[i]'(by omega), s.seq h, s.seq h', by simp [show i < xs.length by omega], by simp [show i < ys.length by omega]⟩
  · obtain ⟨T, v, u, rfl, hT, rfl, h1, h2⟩ := y
    obtain ⟨p, q, g1, g2, rfl⟩ := pairs_get he
    obtain ⟨v', hv, pv⟩ := dpAll_get pa g1
    obtain ⟨u', hu, pu⟩ := dpAll_get pb g2
    rw [h1 xs (s.seq h)] at hv
    rw [h2 ys (s.seq h')] at hu
    cases hv
    cases hu
    have g := Grow.new (o := .tup [v, u]) s hT
    exact ⟨_, g, .tup (SqT.of upd_same) (.cons (dp_same g.fs pv) (.cons (dp_same g.fs pu) .nil))⟩
theorem wd_zipT {a b : Addr} {xs ys : List V} (h : SqT K F a xs) (h' : SqT K F b ys) (pa : DpAll K F xs ds) (pb : DpAll K F ys es) : WalkD K F (RZ.ItzT K a b) (pairs ds es) := by
  have e1 := dpAll_len pa
  have e2 := dpAll_len pb
  refine ⟨fun i H hi s => ?_, fun H s => ⟨xs, ys, st_same s h, st_same s h', by rw [pairs_len]; omega⟩, fun i H x H' e he s y => ?_⟩
  · rw [pairs_len] at hi
    exact ⟨xs, ys, xs[i]'(by omega), ys[i]'(by omega), st_same s h, st_same s h', by simp [show i < xs.length by omega], by simp [show i < ys.length by omega]⟩
  · obtain ⟨T, v, u, rfl, hT, rfl, h1, h2⟩ := y
    obtain ⟨p, q, g1, g2, rfl⟩ := pairs_get he
    obtain ⟨v', hv, pv⟩ := dpAll_get pa g1
    obtain ⟨u', hu, pu⟩ := dpAll_get pb g2
    rw [h1 xs (st_same s h)] at hv
    rw [h2 ys (st_same s h')] at hu
    cases hv
    cases hu
    have g := Grow.new (o := .tup [v, u]) s hT
    exact ⟨_, g, .tup (SqT.of upd_same) (.cons (dp_same g.fs pv) (.cons (dp_same g.fs pu) .nil))⟩
theorem WalkD.mono {J : It} (s : Same F F1) (w : WalkD K F J ds) : WalkD K F1 J ds :=
  ⟨fun i H hi s1 => w.goes i H hi (s.trans s1), fun H s1 => w.stops H (s.trans s1), fun i H x H' e he s1 y => by
    obtain ⟨F2, g, p⟩ := w.yields i H x H' e he (s.trans s1) y
    obtain ⟨g2, s2⟩ := g.more s s1
    exact ⟨_, g2, dp_same s2 p⟩⟩
theorem it_list (h : EvD K tl σ F (.list ds)) : IterD K (iList K tl) σ F ds := fun H s R q => h H s _ fun v F1 H1 g p => by
  cases p with
  | lst hs pa => exact ⟨_, rfl, ⟨_, g.fh.seq hs⟩, q _ F1 H1 g (wd_list hs pa)⟩
theorem it_tup (h : EvD K tl σ F (.tuple ds)) : IterD K (iTup K tl) σ F ds := fun H s R q => h H s _ fun v F1 H1 g p => by
  cases p with
  | tup hs pa => exact ⟨_, rfl, ⟨_, st_same g.fh hs⟩, q _ F1 H1 g (wd_tup hs pa)⟩
/-- over a list or a tuple -/
def iSq (K : PySem.W.Frag) (tl : TE) : TI := fun σ H R => iList K tl σ H R ∨ iTup K tl σ H R
theorem pi_sq {X : Cx} {tg l : Expr} (h : PE X l tl) : PI X tg l (iSq X.K tl) := ⟨fun pins s σ H R I w => w.elim ((pi_list h).run pins s σ H R I) ((pi_tup h).run pins s σ H R I)⟩
theorem it_sq (h : EvD K tl σ F d) (e : d = .list ds ∨ d = .tuple ds) : IterD K (iSq K tl) σ F ds := fun H s R q => by
  rcases e with rfl | rfl
  · exact Or.inl (it_list h H s R q)
  · exact Or.inr (it_tup h H s R q)
theorem it_range1 {n : Int} (h : EvD K ta σ F (.int n)) (h0 : 0 ≤ n) (h1 : n ≤ 1000000) : IterD K (iRng1 (tCons ta tNil)) σ F (upTo 0 n.toNat) := fun H s R q => h H s _ fun v F1 H1 g p =>
  ⟨n, by rw [dp_int p], by omega, by omega, q _ F1 H1 g wd_range⟩
theorem it_zipA (h1 : EvD K ta σ F x) (h2 : EvD K tb σ F y) (e : (x = .list ds ∧ y = .list es) ∨ (x = .tuple ds ∧ y = .tuple es)) : IterD K (RZ.iZipA K (tCons ta (tCons tb tNil))) σ F (pairs ds es) := fun H s R q =>
  h1 H s _ fun v F1 H1 g1 p1 => h2.mono g1.fs H1 g1.fh _ fun u F2 H2 g2 p2 => by
    have p1 := dp_same g2.fs p1
    rcases e with ⟨rfl, rfl⟩ | ⟨rfl, rfl⟩
    · cases p1 with
      | lst a1 b1 =>
        cases p2 with
        | lst a2 b2 => exact ⟨_, _, _, _, rfl, Or.inl ⟨g2.fh.seq a1, g2.fh.seq a2, q _ F2 H2 (g1.trans g2) (wd_zipL a1 a2 b1 b2)⟩⟩
    · cases p1 with
      | tup a1 b1 =>
        cases p2 with
        | tup a2 b2 => exact ⟨_, _, _, _, rfl, Or.inr ⟨st_same g2.fh a1, st_same g2.fh a2, q _ F2 H2 (g1.trans g2) (wd_zipT a1 a2 b1 b2)⟩⟩
/-! ### targets -/
theorem bd_name {i : Nat} {e : PyData} : Bd K F (gName i) σ e (fun σ' => ∃ v, σ' = σ.set i (some v) ∧ Dp K F v e) := fun H v s p Q q => q _ ⟨v, rfl, p⟩
theorem bd_two {i j : Nat} {a b : PyData} : Bd K F (gTup K 2 (gCons (gName i) (gCons (gName j) gNil))) σ (.tuple [a, b]) (fun σ' => ∃ v u, σ' = (σ.set i (some v)).set j (some u) ∧ Dp K F v a ∧ Dp K F u b) := fun H v s p Q q => by
  cases p with
  | tup hs pa =>
    obtain ⟨v, u, rfl, p1, p2⟩ := dpAll_two pa
    exact ⟨_, _, rfl, st_same s hs, rfl, _, _, rfl, _, _, rfl, rfl, q _ ⟨v, u, rfl, p1, p2⟩⟩
theorem bd_three {i j k : Nat} {a b c : PyData} : Bd K F (gTup K 3 (gCons (gName i) (gCons (gName j) (gCons (gName k) gNil)))) σ (.tuple [a, b, c]) (fun σ' => ∃ v u w, σ' = ((σ.set i (some v)).set j (some u)).set k (some w) ∧ Dp K F v a ∧ Dp K F u b ∧ Dp K F w c) := fun H v s p Q q => by
  cases p with
  | tup hs pa =>
    obtain ⟨v, u, w, rfl, p1, p2, p3⟩ := dpAll_three pa
    exact ⟨_, _, rfl, st_same s hs, rfl, _, _, rfl, _, _, rfl, _, _, rfl, rfl, q _ ⟨v, u, w, rfl, p1, p2, p3⟩⟩
/-! ### comprehensions -/
theorem filter_snoc {α : Type} (p : α → Bool) (xs : List α) (i : Nat) (e : α) (h : xs[i]? = some e) : (xs.take (i + 1)).filter p = (xs.take i).filter p ++ (if p e = true then [e] else []) := by
  rw [List.take_add_one, h, List.filter_append]
  show _ ++ List.filter p [e] = _
  rw [List.filter_cons, List.filter_nil]
theorem el_lc {vs : List Nat} (p : PyData → Bool) (f : PyData → PyData) (it : IterD K wi σ F ds) (hl : ds.length ≤ sizeLine)
    (hs : ∀ e F', e ∈ ds → Same F F' → ∃ R, Bd K F' g (wipe σ vs) e R ∧ ∀ σ', R σ' → wipe σ' vs = wipe σ vs ∧ EvT t σ' F' (p e) ∧ (p e = true → EvD K te σ' F' (f e))) :
    EvL K (tLc wi g t te vs) σ F ((ds.filter p).map f) := fun H s Q q => it H s _ fun J F1 H1 g1 w D hD => by
  have nD : H D = none := g1.hs.free hD
  have fD : F1 D = none := g1.fh.free hD
  have key : ∀ (W : Hp → Prop) i H', (∃ F' acc, Grow F1 H1 F' H' ∧ F' D = none ∧ H' D = some (.lst acc) ∧ DpAll K F' acc (((ds.take i).filter p).map f)) → Same F1 H' := fun _ i H' ⟨F', acc, gg, _⟩ => gg.fs.trans gg.fh
  refine ⟨fun i m H' => m = ds.length - i ∧ i ≤ ds.length ∧ ∃ F' acc, Grow F1 H1 F' H' ∧ F' D = none ∧ H' D = some (.lst acc) ∧ DpAll K F' acc (((ds.take i).filter p).map f), ⟨ds.length, by simp, Nat.zero_le _, F1, [], ?_, fD, upd_same, .nil⟩, ?_⟩
  · exact ((Grow.refl g1.fh).lay (o := .lst []) hD).1
  · rintro i m H' ⟨rfl, hi, F', acc, gg, f', h', pa⟩
    have sF : Same F1 H' := gg.fs.trans gg.fh
    by_cases hlt : i < ds.length
    · refine Or.inr ⟨w.goes i H' hlt sF, fun H2 => ∃ F' acc, Grow F1 H1 F' H2 ∧ F' D = none ∧ H2 D = some (.lst acc) ∧ DpAll K F' acc (((ds.take (i + 1)).filter p).map f), fun H2 z => ⟨ds.length - (i + 1), by omega, rfl, hlt, z⟩, fun x H2 y => ?_⟩
      have he : ds[i]? = some ds[i] := by simp [hlt]
      obtain ⟨F2, g2, pv⟩ := (w.mono gg.fs).yields i H' x H2 _ he gg.fh y
      have f2 : F2 D = none := g2.out D f' (by rw [h']; simp)
      have h2 : H2 D = some (.lst acc) := g2.hs _ _ h'
      obtain ⟨R, hb, hr⟩ := hs ds[i] F2 (List.getElem_mem hlt) ((g1.fs.trans gg.fs).trans g2.fs)
      refine hb H2 x g2.fh pv _ fun σ' r' => ?_
      obtain ⟨hw, ht, hf⟩ := hr σ' r'
      refine ⟨hw, ht H2 g2.fh _ fun F3 H3 g3 => ?_⟩
      have f3 : F3 D = none := g3.out D f2 (by rw [h2]; simp)
      have h3 : H3 D = some (.lst acc) := g3.hs _ _ h2
      have pa3 : DpAll K F3 acc (((ds.take i).filter p).map f) := dpAll_same (g2.fs.trans g3.fs) pa
      have eq : (ds.take (i + 1)).filter p = (ds.take i).filter p ++ (if p ds[i] = true then [ds[i]] else []) := filter_snoc p ds i _ he
      cases hp : p ds[i] with
      | false =>
        rw [if_neg (by decide)]
        rw [hp, if_neg (by decide), List.append_nil] at eq
        exact ⟨F3, acc, (gg.trans g2).trans g3, f3, h3, by rw [eq]; exact pa3⟩
      | true =>
        rw [if_pos rfl]
        rw [hp, if_pos rfl] at eq
        refine (hf hp).mono g3.fs H3 g3.fh _ fun y F4 H4 g4 p4 => ?_
        have f4 : F4 D = none := g4.out D f3 (by rw [h3]; simp)
        have h4 : H4 D = some (.lst acc) := g4.hs _ _ h3
        have ln : acc.length ≤ i := by
          rw [dpAll_len pa, List.length_map]
          have h1 := List.length_filter_le p (ds.take i)
          rw [List.length_take] at h1
          omega
        refine ⟨acc, h4, by omega, F4, acc ++ [y], ?_, f4, upd_same, ?_⟩
        · have G := ((gg.trans g2).trans g3).trans g4
          refine ⟨G.fs, fun a u e => ?_, fun a u e => ?_, G.out⟩
          · rw [upd_ne (ne_of_none e f4)]
            exact G.fh a u e
          · rw [upd_ne (ne_of_none e hD)]
            exact G.hs a u e
        · rw [eq, List.map_append]
          exact dpAll_app (dpAll_same g4.fs pa3) (.cons p4 .nil)
    · have e : i = ds.length := by omega
      subst e
      rw [List.take_length] at pa
      exact Or.inl ⟨w.stops H' sF, q D acc F' H' (g1.trans gg) nD f' h' pa⟩
theorem el_map {vs : List Nat} (f : PyData → PyData) (it : IterD K wi σ F ds) (hl : ds.length ≤ sizeLine)
    (hs : ∀ e F', e ∈ ds → Same F F' → ∃ R, Bd K F' g (wipe σ vs) e R ∧ ∀ σ', R σ' → wipe σ' vs = wipe σ vs ∧ EvD K te σ' F' (f e)) :
    EvL K (tLc wi g tYes te vs) σ F (ds.map f) := by
  have h := el_lc (t := tYes) (te := te) (g := g) (vs := vs) (fun _ => true) f it hl fun e F' he s => by
    obtain ⟨R, hb, hr⟩ := hs e F' he s
    exact ⟨R, hb, fun σ' r => ⟨(hr σ' r).1, fun H s1 Q q => q F' H (.refl s1), fun _ => (hr σ' r).2⟩⟩
  rw [List.filter_eq_self.mpr (fun _ _ => rfl)] at h
  exact h
/-! ### for -/
theorem w_for {tb : TS} {D : Ends} {F0 H0 : Hp} (g0 : Grow F0 H0 F H) (it : IterD K wi σ F ds) (Pv : Nat → L2.St → Hp → Hp → Prop) (h0 : ∀ F1 H1, Grow F H F1 H1 → Pv 0 σ F1 H1)
    (hs : ∀ i σ' F' H' e x F2 H2, ds[i]? = some e → Same F F' → Grow F0 H0 F' H' → Pv i σ' F' H' → Grow F' H' F2 H2 → Dp K F2 x e →
      g x σ' H2 fun σ2 H3 => tb { D with nx := fun σ3 H3 => ∃ F3, Same F' F3 ∧ Grow F0 H0 F3 H3 ∧ Pv (i + 1) σ3 F3 H3, ct := fun σ3 H3 => ∃ F3, Same F' F3 ∧ Grow F0 H0 F3 H3 ∧ Pv (i + 1) σ3 F3 H3, bk := D.nx } σ2 H3)
    (hd : ∀ σ' F' H', Same F F' → Grow F0 H0 F' H' → Pv ds.length σ' F' H' → D.nx σ' H') : tFor wi g tb D σ H := it H g0.fh _ fun J F1 H1 g1 w => by
  refine ⟨fun i m σ' H' => m = ds.length - i ∧ i ≤ ds.length ∧ ∃ F', Same F1 F' ∧ Grow F0 H0 F' H' ∧ Pv i σ' F' H', ⟨ds.length, by simp, Nat.zero_le _, F1, Same.refl F1, g0.trans g1, h0 F1 H1 g1⟩, ?_⟩
  rintro i m σ' H' ⟨rfl, hi, F', s1, gg, p⟩
  have sF : Same F1 H' := s1.trans gg.fh
  by_cases hlt : i < ds.length
  · refine Or.inr ⟨w.goes i H' hlt sF, fun σ3 H3 => ∃ F3, Same F' F3 ∧ Grow F0 H0 F3 H3 ∧ Pv (i + 1) σ3 F3 H3, fun σ2 H2 ⟨F3, z1, z2, z3⟩ => ⟨ds.length - (i + 1), by omega, rfl, hlt, F3, s1.trans z1, z2, z3⟩, fun x H2 y => ?_⟩
    have he : ds[i]? = some ds[i] := by simp [hlt]
    obtain ⟨F2, g2, pv⟩ := (w.mono s1).yields i H' x H2 _ he gg.fh y
    exact hs i σ' F' H' _ x F2 H2 he (g1.fs.trans s1) gg p g2 pv
  · have e : i = ds.length := by omega
    subst e
    exact Or.inl ⟨w.stops H' sF, hd σ' F' H' (g1.fs.trans s1) gg p⟩
/-- a list of the def's own is changed -/
theorem Grow.own {F0 H0 F1 H1 : Hp} {l : Addr} {o : HO} (g : Grow F0 H0 F1 H1) (hl : H0 l = none) (fl : F1 l = none) : Grow F0 H0 F1 (upd H1 l o) := ⟨g.fs, fun a u e => by
  rw [upd_ne (ne_of_none e fl)]
  exact g.fh a u e, fun a u e => by
  rw [upd_ne (ne_of_none e hl)]
  exact g.hs a u e, g.out⟩
end
end PD
set_option Elab.async false
set_option linter.all false
set_option maxRecDepth 100000
set_option maxHeartbeats 4000000
/-! PD: promises over plain data. -/
namespace PD
open PySem PySem.Spec PyProof.Rows L2
/-- a def without side effects: from args a it hands back res a -/
def PSp (K : PySem.W.Frag) {α : Type} (args : α → List PyData) (dom : α → Prop) (res : α → PyData) : Sp := fun vs H Q _ =>
  ∃ (a : α) (F : Hp), Same F H ∧ DpAll K F vs (args a) ∧ dom a ∧ ∀ v F2 H2, Grow F H F2 H2 → Dp K F2 v (res a) → Q v H2
/-- .. a new list -/
def LSp (K : PySem.W.Frag) {α : Type} (args : α → List PyData) (dom : α → Prop) (res : α → List PyData) : Sp := fun vs H Q _ =>
  ∃ (a : α) (F : Hp), Same F H ∧ DpAll K F vs (args a) ∧ dom a ∧ ∀ p us F2 H2, Grow F H F2 H2 → H p = none → F2 p = none → H2 p = some (.lst us) → DpAll K F2 us (res a) → Q (.ref p) H2
/-- how a call ends -/
inductive Out where
  | ok (d : PyData)
  | ex (C : Str) (ns : List Str) (ds : List PyData)
/-- an exception of the text's class C, with these fields -/
def XOut (K : PySem.W.Frag) (F H : Hp) (E : XK) (C : Str) (ns : List Str) (ds : List PyData) : Prop := ∀ d vs F2 H2, Grow F H F2 H2 → H2 d = some (.xd (ns.zip vs).reverse) → DpAll K F2 vs ds → E (.ref (He.ga K C)) (some d) H2
def WOut (K : PySem.W.Frag) (F H : Hp) (Q : VK) (E : XK) : Out → Prop
  | .ok d => ∀ v F2 H2, Grow F H F2 H2 → Dp K F2 v d → Q v H2
  | .ex C ns ds => XOut K F H E C ns ds
/-- .. that may raise -/
def OSp (K : PySem.W.Frag) {α : Type} (args : α → List PyData) (dom : α → Prop) (res : α → Out) : Sp := fun vs H Q E =>
  ∃ (a : α) (F : Hp), Same F H ∧ DpAll K F vs (args a) ∧ dom a ∧ WOut K F H Q E (res a)
/-- an expression ends by an exception -/
def EvX (K : PySem.W.Frag) (E : XK) (te : TE) (σ : L2.St) (F : Hp) (C : Str) (ns : List Str) (ds : List PyData) : Prop := ∀ H, Same F H → ∀ Q : VK, XOut K F H E C ns ds → te σ H Q
section
variable {K : PySem.W.Frag} {σ : L2.St} {F F1 H : Hp} {te ta tb tl : TE} {tr : TA} {t u : TT} {x y z d : PyData} {r : R2} {E : XK} {α : Type} {args : α → List PyData} {dom : α → Prop}
theorem ed_call {res : α → PyData} (a : α) (h : EvDs K tr σ F (args a)) (hd : dom a) : EvD K (tCall (PSp K args dom res) [] E tr) σ F (res a) := fun H s Q q =>
  h H s _ fun vs F1 H1 g1 p1 => ⟨a, F1, g1.fh, by rw [List.append_nil]; exact p1, hd, fun v F2 H2 g2 p2 => q v F2 H2 (g1.trans g2) p2⟩
theorem Grow.new_free {F H F1 H1 F2 H2 : Hp} {p : Addr} (g1 : Grow F H F1 H1) (np : H1 p = none) : H p = none := g1.hs.free np
theorem el_call {res : α → List PyData} (a : α) (h : EvDs K tr σ F (args a)) (hd : dom a) : EvL K (tCall (LSp K args dom res) [] E tr) σ F (res a) := fun H s Q q =>
  h H s _ fun vs F1 H1 g1 p1 => ⟨a, F1, g1.fh, by rw [List.append_nil]; exact p1, hd, fun p us F2 H2 g2 np fp h2 p2 => q p us F2 H2 (g1.trans g2) (g1.hs.free np) fp h2 p2⟩
theorem ed_callO {res : α → Out} (a : α) (h : EvDs K tr σ F (args a)) (hd : dom a) (e : res a = .ok d) : EvD K (tCall (OSp K args dom res) [] E tr) σ F d := fun H s Q q =>
  h H s _ fun vs F1 H1 g1 p1 => ⟨a, F1, g1.fh, by rw [List.append_nil]; exact p1, hd, by rw [e]; exact fun v F2 H2 g2 p2 => q v F2 H2 (g1.trans g2) p2⟩
theorem XOut.after {C : Str} {ns : List Str} {ds : List PyData} {F1 H1 : Hp} (g : Grow F H F1 H1) (x : XOut K F H E C ns ds) : XOut K F1 H1 E C ns ds := fun d vs F2 H2 g2 h p => x d vs F2 H2 (g.trans g2) h p
theorem ex_callO {res : α → Out} {C : Str} {ns : List Str} {ds : List PyData} (a : α) (h : EvDs K tr σ F (args a)) (hd : dom a) (e : res a = .ex C ns ds) : EvX K E (tCall (OSp K args dom res) [] E tr) σ F C ns ds := fun H s Q q =>
  h H s _ fun vs F1 H1 g1 p1 => ⟨a, F1, g1.fh, by rw [List.append_nil]; exact p1, hd, by rw [e]; exact q.after g1⟩
theorem EvX.mono {C : Str} {ns : List Str} {ds : List PyData} (s : Same F F1) (h : EvX K E te σ F C ns ds) : EvX K E te σ F1 C ns ds := fun H s1 Q q =>
  h H (s.trans s1) Q fun d vs F2 H2 g e p => let ⟨g2, s2⟩ := g.more s s1; q d vs _ H2 g2 e (dpAll_same s2 p)
/-- an operand raises -/
theorem ex_op1 {C : Str} {ns : List Str} {ds : List PyData} (h : EvX K E ta σ F C ns ds) : EvX K E (tOp r ta tb) σ F C ns ds := fun H s Q q => h H s _ q
theorem ex_op2 {C : Str} {ns : List Str} {ds : List PyData} (ha : EvD K ta σ F x) (h : EvX K E tb σ F C ns ds) : EvX K E (tOp r ta tb) σ F C ns ds := fun H s Q q => ha H s _ fun v F1 H1 g1 p1 => h.mono g1.fs H1 g1.fh _ (q.after g1)
/-- an argument raises -/
def EvXs (K : PySem.W.Frag) (E : XK) (tr : TA) (σ : L2.St) (F : Hp) (C : Str) (ns : List Str) (ds : List PyData) : Prop := ∀ H, Same F H → ∀ Q : List V → Hp → Prop, XOut K F H E C ns ds → tr σ H Q
theorem exs_here {C : Str} {ns : List Str} {ds : List PyData} (h : EvX K E ta σ F C ns ds) : EvXs K E (tCons ta tr) σ F C ns ds := fun H s Q q => h H s _ q
theorem exs_cons {C : Str} {ns : List Str} {ds : List PyData} (ha : EvD K ta σ F x) (h : EvXs K E tr σ F C ns ds) : EvXs K E (tCons ta tr) σ F C ns ds := fun H s Q q => ha H s _ fun v F1 H1 g1 p1 =>
  h H1 (s.trans g1.hs) _ (fun d vs F2 H2 g e p => q d vs F2 H2 ⟨g.fs, g.fh, g1.hs.trans g.hs, fun a n m => g.out a n (fun z => m (g1.hs.free z))⟩ e p)
end
/-! the kinds -/
def isI : PyData → Bool
  | .int _ => true
  | .bool _ => true
  | _ => false
def isB : PyData → Bool
  | .bool _ => true
  | _ => false
def isS : PyData → Bool
  | .str _ => true
  | _ => false
def isL : PyData → Bool
  | .list _ => true
  | _ => false
def isT : PyData → Bool
  | .tuple _ => true
  | _ => false
theorem isTy_I (d : PyData) : isTy "int" d = isI d := by cases d <;> simp [isTy, tyN, tyIs, isI]
theorem isTy_B (d : PyData) : isTy "bool" d = isB d := by cases d <;> simp [isTy, tyN, tyIs, isB]
theorem isTy_S (d : PyData) : isTy "str" d = isS d := by cases d <;> simp [isTy, tyN, tyIs, isS]
theorem isTy_L (d : PyData) : isTy "list" d = isL d := by cases d <;> simp [isTy, tyN, tyIs, isL]
theorem isTy_T (d : PyData) : isTy "tuple" d = isT d := by cases d <;> simp [isTy, tyN, tyIs, isT]
section
variable {K : PySem.W.Frag} {σ : L2.St} {F : Hp} {te : TE} {d : PyData}
theorem ed_isI (h : EvD K te σ F d) : EvD K (tCB (rIsi K) (tCons te (tCons (tC (.ty "int")) tNil))) σ F (.bool (isI d)) := by rw [← isTy_I]; exact ed_isi h
theorem ed_isB (h : EvD K te σ F d) : EvD K (tCB (rIsi K) (tCons te (tCons (tC (.ty "bool")) tNil))) σ F (.bool (isB d)) := by rw [← isTy_B]; exact ed_isi h
theorem ed_isS (h : EvD K te σ F d) : EvD K (tCB (rIsi K) (tCons te (tCons (tC (.ty "str")) tNil))) σ F (.bool (isS d)) := by rw [← isTy_S]; exact ed_isi h
theorem ed_isL (h : EvD K te σ F d) : EvD K (tCB (rIsi K) (tCons te (tCons (tC (.ty "list")) tNil))) σ F (.bool (isL d)) := by rw [← isTy_L]; exact ed_isi h
theorem ed_isT (h : EvD K te σ F d) : EvD K (tCB (rIsi K) (tCons te (tCons (tC (.ty "tuple")) tNil))) σ F (.bool (isT d)) := by rw [← isTy_T]; exact ed_isi h
theorem ed_isTL (h : EvD K te σ F d) : EvD K (tCB (rIsiT K) (tCons te (tCons (tTup (tCons (tC (.ty "tuple")) (tCons (tC (.ty "list")) tNil))) tNil))) σ F (.bool (isT d || isL d)) := by rw [← isTy_T, ← isTy_L]; exact ed_isi2 h
/-! statements -/
variable {H : Hp} {D : Ends} {tu tw : TS} {t : TT} {b : Bool} {g : TG}
theorem w_if (h : EvT t σ F b) (s : Same F H) (h1 : b = true → ∀ F1 H1, Grow F H F1 H1 → tu D σ H1) (h2 : b = false → ∀ F1 H1, Grow F H F1 H1 → tw D σ H1) : tIfS t tu tw D σ H := h H s _ fun F1 H1 g => by
  cases b with
  | true => exact iteT (h1 rfl F1 H1 g)
  | false => exact iteF (h2 rfl F1 H1 g)
theorem w_ret (h : EvD K te σ F d) (s : Same F H) (k : ∀ v F1 H1, Grow F H F1 H1 → Dp K F1 v d → D.rt v H1) : tRet te D σ H := h H s _ k
theorem w_asg {i : Nat} (h : EvD K te σ F d) (s : Same F H) (k : ∀ v F1 H1, Grow F H F1 H1 → Dp K F1 v d → D.nx (σ.set i (some v)) H1) : tAsg te (gName i) D σ H := h H s _ k
theorem w_drop (h : EvD K te σ F d) (s : Same F H) (k : ∀ F1 H1, Grow F H F1 H1 → D.nx σ H1) : tDrop te D σ H := h H s _ fun v F1 H1 g p => k F1 H1 g
end
end PD
set_option Elab.async false
set_option linter.all false
set_option maxRecDepth 100000
set_option maxHeartbeats 4000000
/-! PD: is True, enumerate of a tuple. -/
namespace PySem
open Sem (wp)
set_option maxHeartbeats 1000000 in
theorem pd_meets_enumerate_newB {v : Value} {o : Obj} {H : Heap → Prop} (B : Begins v o H) :
    Meets (Builtin.«enumerate.__new__» ⟨[.type "enumerate", v], []⟩) (fun _ R s => H s.heap ∧
      R (.ok (.ret (.ref (s.heap.push o).objs.size))) { s with heap := (s.heap.push o).push { cls := .type "enumerate", data := .fields #[.none, .bool false, .ref s.heap.objs.size, rawInt 0, .none, .none] } }) :=
  .of_wp fun prog w A R s h => by
    obtain ⟨hp, g, d, tk, os⟩ := s; obtain ⟨h1, h⟩ := h
    have hsub := sub_enumerate
    have q1 : ∀ {A' : Around} {E : Value → Shared → Prop} {Q : Value → Shared → Prop}, Q (.ref hp.objs.size) ⟨hp.push o, g, d, tk, os⟩ → wpAny (model prog w) A' (pyIter v) Q E ⟨hp, g, d, tk, os⟩ :=
      fun q => B.iter prog w _ _ ⟨hp, g, d, tk, os⟩ _ h1 q
    wp_walk using q1
    refine wpAny_stack_any fun st => wpAny_pure ?_
    split
    · rename_i c _ _ _ _ _
      cases (c == Value.type "enumerate")
      · wp_walk using q1
        exact ⟨_, rfl, h⟩
      · wp_walk using q1
        exact ⟨_, rfl, h⟩
    · wp_walk using q1
      exact ⟨_, rfl, h⟩
theorem pd_enum_begins {prog : Program} {w : World} {A : Around} {E : Value → Shared → Prop} {s : Shared} {v : Value} {o : Obj} {H : Heap → Prop} {Q : Value → Shared → Prop} (B : Begins v o H) (h1 : H s.heap)
    (h : ∀ h', IsEnum h' (s.heap.objs.size + 1) s.heap.objs.size 0 .none → h'.get? s.heap.objs.size = some o → h'.objs.size = s.heap.objs.size + 2 →
      (∀ b o, s.heap.get? b = some o → h'.get? b = some o) → Q (.ref (s.heap.objs.size + 1)) { s with heap := h' }) :
    wpAny (model prog w) A (call (.type "enumerate") [v]) Q E s := by
  refine callType_new F.called_enumerate (by decide) (F.typeCall_enumerate_1 _) (F.newCall_enumerate_1 _) (fun obj => F.args_object_init_2 obj _) F.entry_enumerate_new
    (pd_meets_enumerate_newB B) ⟨h1, ?_⟩
  have hz : (s.heap.push o).objs.size = s.heap.objs.size + 1 := Heap.size_push ..
  show _ ∧ _
  rw [hz]
  have he : IsEnum ((s.heap.push o).push { cls := .type "enumerate", data := .fields #[.none, .bool false, .ref s.heap.objs.size, rawInt 0, .none, .none] }) (s.heap.objs.size + 1) s.heap.objs.size 0 .none := by
    have := Heap.get?_push_size (s.heap.push o) (o := { cls := .type "enumerate", data := .fields #[.none, .bool false, .ref s.heap.objs.size, rawInt 0, .none, .none] }) rfl
    rw [hz] at this; exact this
  refine ⟨⟨_, he, rfl⟩, h _ he (Heap.get?_push_of_some _ (Heap.get?_push_size _ B.free)) (by rw [Heap.size_push, hz]) fun b o x => Heap.get?_push_of_some _ (Heap.get?_push_of_some _ x)⟩
end PySem
namespace PD
open PySem PySem.Spec PyProof.Rows L2
/-! ### x is True, x is False -/
def rIsBc : R2 := fun x y H Q => ∃ b, y = .bl b ∧ Q (.bl (decide (x = .bl b))) H
theorem relV_bl {x : V} {u : Value} {b : Bool} (r : RelV x u) : (u == Value.bool b) = decide (x = .bl b) := by
  cases x with
  | bl c => cases r; by_cases e : c = b <;> simp [e]
  | non => cases r; rfl
  | int _ => obtain ⟨t, rfl⟩ := r; rfl
  | str _ => obtain ⟨t, rfl⟩ := r; rfl
  | byt _ => obtain ⟨t, rfl⟩ := r; rfl
  | flt _ => obtain ⟨t, rfl⟩ := r; rfl
  | ref _ => cases r; rfl
  | ty _ => cases r; rfl
theorem plain_bl {x : V} {u : Value} {b : Bool} (r : RelV x u) : plainIs u (.bool b) = true := by
  cases x with
  | bl c => cases r; rfl
  | non => cases r; rfl
  | int _ => obtain ⟨t, rfl⟩ := r; rfl
  | str _ => obtain ⟨t, rfl⟩ := r; rfl
  | byt _ => obtain ⟨t, rfl⟩ := r; rfl
  | flt _ => obtain ⟨t, rfl⟩ := r; rfl
  | ref _ => cases r; rfl
  | ty _ => cases r; rfl
theorem op_isBc {X : Cx} : OpR X (compareOp .Is) rIsBc := by
  intro pins s σ H x y v u Q I rx ry h
  obtain ⟨b, rfl, q⟩ := h
  obtain rfl : u = Value.bool b := ry
  exact wpAny_is_plain (plain_bl rx) ⟨.bl _, H, I, by rw [relV_bl rx]; rfl, q⟩
def rNotBc : R2 := fun x y H Q => ∃ b, y = .bl b ∧ Q (.bl (!decide (x = .bl b))) H
theorem op_notBc {X : Cx} : OpR X (compareOp .IsNot) rNotBc := by
  intro pins s σ H x y v u Q I rx ry h
  obtain ⟨b, rfl, q⟩ := h
  obtain rfl : u = Value.bool b := ry
  exact wpAny_isNot_plain (plain_bl rx) ⟨.bl _, H, I, by rw [relV_bl rx]; rfl, q⟩
def isBo (b : Bool) : PyData → Bool
  | .bool c => c == b
  | _ => false
section
variable {K : PySem.W.Frag} {σ : L2.St} {F H : Hp} {ta : TA} {x d : PyData} {b : Bool} {ds : List PyData}
theorem dp_isBo {v : V} (h : Dp K F v d) : decide (v = .bl b) = isBo b d := by
  cases h with
  | bl c => by_cases e : c = b <;> simp [isBo, e]
  | _ => simp [isBo]
theorem rd_isBc : RvD K rIsBc x (.bool b) (.bool (isBo b x)) := fun F H v u s p1 p2 Q q => ⟨b, dp_bl p2, by rw [dp_isBo p1]; exact q _ F H (.refl s) (.bl _)⟩
theorem rd_notBc : RvD K rNotBc x (.bool b) (.bool (!isBo b x)) := fun F H v u s p1 p2 Q q => ⟨b, dp_bl p2, by rw [dp_isBo p1]; exact q _ F H (.refl s) (.bl _)⟩
end
/-! ### enumerate of a tuple -/
def IteT (K : PySem.W.Frag) (a : Addr) : It :=
  ⟨fun i H => ∃ (xs : List V) (x : V), SqT K H a xs ∧ xs[i]? = some x, fun i H v H' => ∃ T x, v = .ref T ∧ H T = none ∧ H' = upd H T (.tup [.int (i : Nat), x]) ∧ ∀ xs, SqT K H a xs → xs[i]? = some x, fun i H => ∃ xs : List V, SqT K H a xs ∧ xs.length = i⟩
theorem turn_enumT {P : Program} {w : World} {K : PySem.W.Frag} {elts : List Expr} {kk : Nat} {tpos : Pos} (a e it : Addr) :
    Turn P w K (.Tuple elts kk tpos) (IteT K a) [e, it] e (fun i h => (∃ old, IsEnum h e it ((i : Nat) : Int) old) ∧ h.IsTupleIter it a i ∧ e ≠ it ∧ a ≠ it ∧ a ≠ e) where
  mem := by simp
  obj := fun i h st b hb => by
    obtain ⟨⟨old, he⟩, ⟨o, ho, hc, hd⟩, hne, _⟩ := st
    have e' : b = e ∨ b = it := by simpa using hb
    rcases e' with z | z
    · rw [z]; exact ⟨_, he, fun v q => nomatch q⟩
    · rw [z]; exact ⟨o, ho, fun v q => by rw [hd] at q; cases q⟩
  keep := fun i h h' st k => let ⟨⟨old, he⟩, hi, hne, n2, n3⟩ := st; ⟨⟨old, k e (by simp) _ he⟩, hi.at fun o q => k it (by simp) o q, hne, n2, n3⟩
  item := by
    intro X hP hw hK hc i pins s σ H E I hf st hg
    subst hP hw hK
    obtain ⟨⟨old, he⟩, hit, hne, n2, n3⟩ := st
    obtain ⟨xs, x, hq, hx⟩ := hg
    obtain ⟨its, rv, p, hz⟩ := I.tuple hq
    obtain ⟨u, hu, ru⟩ := rv.get hx
    have hel : e < s.heap.objs.size := Heap.lt_size he
    have hil : it < s.heap.objs.size := by obtain ⟨_, q, _⟩ := hit; exact Heap.lt_size q
    have pt : s.heap.IsTuple a its.toArray := p
    have hlt : i < its.toArray.size := by
      have h1 := (List.getElem?_eq_some_iff.mp hu).1
      simpa using h1
    refine wpAny_pyNext_enum_itemC (Draws.tuple (show X.A.in1.handled = none from I.ok.hd hc) it a n2 its.toArray) he ⟨hit, pt⟩ hlt hne (by simp [hne, Ne.symm n3]) fun x2 h' tk hP ho hst hT hsz hk => ?_
    have ex : x2 = u := by
      have h1 : its.toArray[i]? = some x2 := hP
      have h2 : its.toArray[i]? = some u := by simpa using hu
      rw [h1] at h2
      exact Option.some.inj h2
    subst ex
    refine ⟨_, rfl, wpAny_letOwnedTupleGo_enum (s := { s with heap := h', toks := tk + 1 }) ho fun h'' he' sb => ?_⟩
    have hT2 : h''.get? s.heap.objs.size = some { cls := .type "tuple", data := .seq #[.int i tk, x2] } := (sb.2 _ (Nat.ne_of_gt hel)).trans hT
    have new : ObjOk X.prog X.w (upd H s.heap.objs.size (.tup [.int (i : Nat), x])) h'' s.heap.objs.size (.tup [.int (i : Nat), x]) :=
      ⟨by show 2 ≤ sizeLine; decide, [.int i tk, x2], .cons ⟨_, rfl⟩ (.cons ru .nil), ⟨_, hT2, rfl, _, rfl⟩⟩
    have I1 : Inv X pins σ (upd H s.heap.objs.size (.tup [.int (i : Nat), x])) { s with heap := h'', toks := tk + 1 } :=
      I.turnedNew (ch := [e, it]) (fun b ob hb q => (sb.2 b (fun z => hb (by simp [z]))).trans (hk b ob (fun z => hb (by simp [z])) (fun z => hb (by simp [z])) q)) hf (Nat.le_refl _) new
    refine ⟨.ref s.heap.objs.size, _, I1, rfl, ⟨_, x, rfl, I.hok.fresh (Nat.le_refl _), rfl, fun ys hy => by rw [I.tuple_inj hy hq]; exact hx⟩, ⟨⟨x2, ?_⟩, hst.1.at fun o q => (sb.2 it (Ne.symm hne)).trans q, hne, n2, n3⟩, fun b hb => ?_⟩
    · have e1 : ((i + 1 : Nat) : Int) = (i : Int) + 1 := by omega
      rw [e1]; exact he'
    · have hb' : b < s.heap.objs.size := by
        have e' : b = e ∨ b = it := by simpa using hb
        rcases e' with z | z
        · rw [z]; exact hel
        · rw [z]; exact hil
      rw [upd_ne (Nat.ne_of_lt hb')]
      exact (hf b hb).1
  done := by
    intro X hP hw hK hc i pins s σ H E I hf st hg
    subst hP hw hK
    obtain ⟨⟨old, he⟩, hit, hne, n2, n3⟩ := st
    obtain ⟨xs, hq, hx⟩ := hg
    obtain ⟨its, rv, p, hz⟩ := I.tuple hq
    obtain ⟨f0, f1, f2, f3, f4, f5⟩ := hf it (by simp)
    have hl := rv.length
    have pt : s.heap.IsTuple a its.toArray := p
    have ei : its.toArray.size = i := by rw [List.size_toArray, ← hl]; exact hx
    exact wpAny_pyNext_enum_endD (Draws.tuple (show X.A.in1.handled = none from I.ok.hd hc) it a n2 its.toArray) he (by rw [ei]; exact ⟨hit, pt⟩) fun h' eb => ⟨rfl, I.turned (t' := s.toks) (fun b o hb q => eb b o hb q) f0 f1 f3 f4 f5⟩
  self := fun A i s Q E st h => let ⟨⟨_, he⟩, _⟩ := st; wpAny_pyIter_enum he h
def iEnumT (K : PySem.W.Frag) (ta : TA) : TI := fun σ H R => ta σ H fun vs H1 => ∃ a xs, vs = [.ref a] ∧ SqT K H1 a xs ∧ R (IteT K a) H1
theorem pi_enumT {X : Cx} {e : Expr} {ta : TA} {p pos tpos : Pos} {elts : List Expr} {kk : Nat} (hg : Gl X "enumerate") (hm : X.mg "enumerate" = none) (ha : PA X [e] ta) (hs : starEach [e] X.env = [(false, eval e X.env)] := by rfl) :
    PI X (.Tuple elts kk tpos) (.Call (.Name "enumerate" p) [e] [] pos) (iEnumT X.K ta) := by
  refine ⟨fun pins s σ H R I h => ?_⟩
  refine Call_ (ld_blt I hg hm boot_enumerate (PyProof.Rows.callWith_type1 (thn (ha.run pos pins s σ H _ I h) fun us s1 ⟨vs, H1, I1, r1, q1⟩ => ?_) hs rfl))
  obtain ⟨a, xs, ex, hq, q⟩ := q1
  subst ex
  cases r1 with
  | cons r rr =>
    cases rr
    cases r
    obtain ⟨its, rv, p', hz⟩ := I1.tuple hq
    have pt : s1.heap.IsTuple a its.toArray := p'
    have hlt : a < s1.heap.objs.size := by obtain ⟨o, ho, _⟩ := pt; exact Heap.lt_size ho
    refine pd_enum_begins (begins_tuple a its.toArray) pt fun h' he hit hsz hk => wpAny_pyIter_enum he ?_
    have I2 : Inv X pins σ H1 { s1 with heap := h' } := I1.kept (t' := s1.toks) hk
    refine ⟨s1.heap.objs.size + 1, [s1.heap.objs.size + 1, s1.heap.objs.size], _, _, H1, rfl, I2, turn_enumT a (s1.heap.objs.size + 1) s1.heap.objs.size, ⟨⟨.none, he⟩, ⟨_, hit, rfl, rfl⟩, Nat.succ_ne_self _, Nat.ne_of_lt hlt, Nat.ne_of_lt (Nat.lt_succ_of_lt hlt)⟩, fun b hb => ?_, q⟩
    have e' : b = s1.heap.objs.size + 1 ∨ b = s1.heap.objs.size := by simpa using hb
    have hle : s1.heap.objs.size ≤ b := by
      rcases e' with z | z
      · rw [z]; exact Nat.le_add_right _ _
      · rw [z]; exact Nat.le_refl _
    exact I1.fpOk hle (I1.hok.fresh hle)
def numberedD (ds : List PyData) : List PyData := pairs (upTo 0 ds.length) ds
theorem upTo_len (lo : Int) (n : Nat) : (upTo lo n).length = n := by unfold upTo; rw [List.length_map, List.length_range]
theorem upTo_get {lo : Int} {n i : Nat} {e : PyData} (h : (upTo lo n)[i]? = some e) : e = .int (lo + (i : Nat)) := by
  unfold upTo at h
  rw [List.getElem?_map] at h
  obtain ⟨j, hj, rfl⟩ := Option.map_eq_some_iff.mp h
  obtain ⟨h1, h2⟩ := List.getElem?_eq_some_iff.mp hj
  rw [List.getElem_range] at h2
  rw [h2]
section
variable {K : PySem.W.Frag} {σ : L2.St} {F H : Hp} {tl : TE} {ds : List PyData}
theorem wd_enumT {a : Addr} {xs : List V} (h : SqT K F a xs) (pa : DpAll K F xs ds) : WalkD K F (IteT K a) (numberedD ds) := by
  have e := dpAll_len pa
  have el : (numberedD ds).length = ds.length := by unfold numberedD; rw [pairs_len, upTo_len]; omega
  refine ⟨fun i H hi s => ⟨xs, xs[i]'(by omega), st_same s h, by simp [show i < xs.length by omega]⟩, fun H s => ⟨xs, st_same s h, by omega⟩, fun i H x H' e he s y => ?_⟩
  obtain ⟨T, v, rfl, hT, rfl, hx⟩ := y
  obtain ⟨p, q, g1, g2, rfl⟩ := pairs_get he
  have ep := upTo_get g1
  obtain ⟨v', hv, pv⟩ := dpAll_get pa g2
  rw [hx xs (st_same s h)] at hv
  cases hv
  have g := Grow.new (o := .tup [.int (i : Nat), v]) s hT
  refine ⟨_, g, .tup (SqT.of upd_same) (.cons ?_ (.cons (dp_same g.fs pv) .nil))⟩
  rw [ep, show (0 : Int) + (i : Nat) = (i : Nat) from Int.zero_add _]
  exact .int _
theorem it_enumT (h : EvD K tl σ F (.tuple ds)) : IterD K (iEnumT K (tCons tl tNil)) σ F (numberedD ds) := fun H s R q => h H s _ fun v F1 H1 g p => by
  cases p with
  | tup hs pa => exact ⟨_, _, rfl, st_same g.fh hs, q _ F1 H1 g (wd_enumT hs pa)⟩
end
end PD
set_option Elab.async false
set_option linter.all false
set_option maxRecDepth 100000
set_option maxHeartbeats 4000000
/-! PD: a def as callers see it. -/
namespace PD
open PySem PySem.Spec PyProof.Rows L2
/-- the def of the module's name x keeps sp, at most k calls deep -/
structure Fnk (P : Program) (w : World) (K : PySem.W.Frag) (mg : Str → Option Value) (base : Heap) (k : Nat) (x : Str) (ps : List Str) (sp : Sp) : Prop where
  ex : ∃ fd, FnOk P w K mg base (L2.CX P w) k (He.ga K x) fd ps sp ∧ Binds K fd ps []
  gl : mg x = some (.ref (He.ga K x))
  kp : PySem.W.keepIn K (.ref (He.ga K x)) = true
section
variable {X : Cx} {k : Nat} {ps : List Str} {sp : Sp} {E : XK} {x : Str} {p pos : Pos} {e : Expr} {es : List Expr} {t : TA}
theorem pe_fn (G : Fnk X.prog X.w X.K X.mg X.base k x ps sp) (hr : Room k X.A) (hg : Gl X x) (hx : Passes (L2.CX X.prog X.w) X E) (ha : PA X (e :: es) t)
    (hdb : (x == ("__debug__" : Str)) = false := by decide) (he : starEach (e :: es) X.env = (false, eval e X.env) :: starEach es X.env := by rfl) (hpl : (backTo pos (starEach es X.env)).any (·.1) = false := by rfl) :
    PE X (.Call (.Name x p) (e :: es) [] pos) (tCall sp [] E t) := by
  obtain ⟨fd, F, b⟩ := G.ex
  exact pe_call F hr hg G.gl G.kp b .nil hx ha hdb he hpl
theorem pe_fn0 (G : Fnk X.prog X.w X.K X.mg X.base k x ps sp) (hr : Room k X.A) (hg : Gl X x) (hx : Passes (L2.CX X.prog X.w) X E)
    (hdb : (x == ("__debug__" : Str)) = false := by decide) : PE X (.Call (.Name x p) [] [] pos) (tCall sp [] E tNil) := by
  obtain ⟨fd, F, b⟩ := G.ex
  exact pe_call0 F hr hg G.gl G.kp b .nil hx hdb
end
/-- in a def's body: what a callee raises leaves the def -/
theorem passD {P : Program} {w : World} {K : PySem.W.Frag} {mg : Str → Option Value} {base : Heap} {N : List Str} {q : Str} {sc : Scope} {f : Addr} {cd : Value} {A : Around} {outer : List Env} {s : Shared} {H : Hp} {E : XK} :
    Passes (L2.CX P w) (cxOf (L2.CX P w) P w K mg base N q sc f cd A outer s H E) E := passes_call (X := cxOf (L2.CX P w) P w K mg base N q sc f cd A outer s H E) (takes_of rfl rfl rfl rfl) (fun _ _ _ _ h => h)
theorem takeD {P : Program} {w : World} {K : PySem.W.Frag} {mg : Str → Option Value} {base : Heap} {N : List Str} {q : Str} {sc : Scope} {f : Addr} {cd : Value} {A : Around} {outer : List Env} {s : Shared} {H : Hp} {E : XK} :
    Takes (cxOf (L2.CX P w) P w K mg base N q sc f cd A outer s H E) (fun cls d _ H => E cls d H) := takes_of rfl rfl rfl rfl
theorem ownD {P : Program} {w : World} {K : PySem.W.Frag} {mg : Str → Option Value} {base : Heap} {N : List Str} {q : Str} {sc : Scope} {f : Addr} {cd : Value} {A : Around} {outer : List Env} {s : Shared} {H : Hp} {E : XK} :
    PassesOwn (model P w) (cxOf (L2.CX P w) P w K mg base N q sc f cd A outer s H E).A (cxOf (L2.CX P w) P w K mg base N q sc f cd A outer s H E).env (cxOf (L2.CX P w) P w K mg base N q sc f cd A outer s H E).xe := passes_of rfl
end PD
set_option Elab.async false
set_option linter.all false
set_option maxRecDepth 100000
set_option maxHeartbeats 4000000
/-! PD: exceptions of the text's own classes, raised. -/
namespace PD
open PySem PySem.Spec PyProof.Rows L2
/-- what __init__ of an exception class with such parameters does: each is kept as it is -/
def spXInit (C : Addr) (ns : List Str) : Sp := fun vs H Q _ => ∃ (a : Addr) (ws : List V), vs = .ref a :: ws ∧ ws.length = ns.length ∧ H a = some (exo a C none) ∧
  ∀ (dx : Addr) (H' : Hp), H dx = none → dx ≠ a → H' a = some (exo a C (some dx)) → H' dx = some (exd dx (ns.zip ws).reverse) → (∀ b, b ≠ a → b ≠ dx → H' b = H b) → Q .non H'
structure XC (P : Program) (w : World) (K : PySem.W.Frag) (mg : Str → Option Value) (base : Heap) (x : Str) (ns : List Str) : Prop where
  T : OexC K (He.ga K x)
  iC : PySem.W.findIn K (.ref (He.ga K x)) "__init__" = some (some (.ref (He.ma K (He.ga K x) "__init__")))
  tI : PySem.W.typeIn K (.ref (He.ma K (He.ga K x) "__init__")) = some (.type "function")
  gC : mg x = some (.ref (He.ga K x))
  ex : ∃ fd, FnOk P w K mg base (L2.CX P w) 1 (He.ma K (He.ga K x) "__init__") fd ("self" :: ns) (spXInit (He.ga K x) ns) ∧ Binds K fd ("self" :: ns) []
section
variable {X : Cx} {x : Str} {ns : List Str} {p pos : Pos} {e : Expr} {es : List Expr} {ta : TA}
/-- raise C(e, ..) -/
theorem ps_rs {W : WX} {rpos : Pos} (hc : X.calm = true) (tk : Takes X W) (G : XC X.prog X.w X.K X.mg X.base x ns) (hr : Room 2 X.A) (hg : Gl X x) (ha : PA X (e :: es) ta)
    (hdb : (x == ("__debug__" : Str)) = false := by decide) (he : starEach (e :: es) X.env = (false, eval e X.env) :: starEach es X.env := by rfl) (hpl : (backTo pos (starEach es X.env)).any (·.1) = false := by rfl) :
    PS X (.Raise (some (.Call (.Name x p) (e :: es) [] pos)) none rpos) (fun _ σ H => tMkO (He.ga X.K x) (spXInit (He.ga X.K x) ns) [] ta σ H fun cls d H' => W cls d σ H') := by
  obtain ⟨fd, F, b⟩ := G.ex
  exact ps_raise hc tk (pmk_oex G.T G.iC G.tI F hr b .nil passL hg G.gC ha hdb he hpl)
end
section
variable {K : PySem.W.Frag} {σ : L2.St} {F H : Hp} {ta : TA} {E : XK} {x : Str} {ns : List Str} {ds : List PyData}
theorem w_raise (h : EvDs K ta σ F ds) (s : Same F H) (hl : ds.length = ns.length) (hz : ns.length ≤ 1000) (k : XOut K F H E x ns ds) :
    tMkO (He.ga K x) (spXInit (He.ga K x) ns) [] ta σ H fun cls d H' => (fun cls d (_ : L2.St) H => E cls d H) cls d σ H' := h H s _ fun vs F1 H1 g1 p1 => by
  have ev : vs.length = ns.length := (dpAll_len p1).trans hl
  refine ⟨by omega, fun a na => ⟨a, vs, by rw [List.append_nil], ev, upd_same, fun dx H' n1 n2 h1 h2 h3 => ⟨rfl, dx, _, h1, h2, ?_, ?_⟩⟩⟩
  · rw [upd_ne n2] at n1
    exact n1
  · have nd : H1 dx = none := by
      rw [upd_ne n2] at n1
      exact n1
    have keep : ∀ b o, H1 b = some o → upd (del H' a) dx (.xd (ns.zip vs).reverse) b = some o := fun b o e => by
      have b1 : b ≠ a := ne_of_none e na
      have b2 : b ≠ dx := ne_of_none e nd
      rw [upd_ne b2, del_ne b1, h3 b b1 b2, upd_ne b1]
      exact e
    exact k dx vs F1 _ ⟨g1.fs, fun b o e => keep b o (g1.fh b o e), fun b o e => keep b o (g1.hs b o e), g1.out⟩ upd_same p1
end
section
variable {K : PySem.W.Frag} {σ : L2.St} {F H : Hp} {te : TE} {d : PyData} {D : Ends}
theorem w_seq {t u : TS} (h : t { D with nx := u D } σ H) : tSeq t u D σ H := h
theorem w_next (h : D.nx σ H) : tNext D σ H := h
theorem w_asgC {v : V} {i : Nat} (h : D.nx (σ.set i (some v)) H) : tAsg (tC v) (gName i) D σ H := h
theorem w_asgB {g : TG} {R : Hp → L2.St → Prop} (h : EvD K te σ F d) (s : Same F H) (hb : ∀ F1, Bd K F1 g σ d (R F1)) (k : ∀ σ' F1 H1, Grow F H F1 H1 → R F1 σ' → D.nx σ' H1) : tAsg te g D σ H :=
  h H s _ fun v F1 H1 g1 p => hb F1 H1 v g1.fh p _ fun σ' r => k σ' F1 H1 g1 r
theorem same_lay {F1 H1 : Hp} {l : Addr} {o : HO} (s : Same F1 H1) (fl : F1 l = none) : Same F1 (upd H1 l o) := fun a u e => by
  rw [upd_ne (ne_of_none e fl)]
  exact s a u e
/-- xs.append(e), xs a list of the def's own -/
theorem w_app {l : Addr} {vs : List V} {i : Nat} (hσ : σ[i]? = some (some (.ref l))) (s : Same F H) (fl : F l = none) (hl : H l = some (.lst vs)) (hz : vs.length < 100000) (h : EvD K te σ F d)
    (k : ∀ v F1 H1, Grow F H F1 H1 → F1 l = none → H1 l = some (.lst vs) → Dp K F1 v d → D.nx σ (upd H1 l (.lst (vs ++ [v])))) : tDrop (tBM K "list" rAppend (tVar i) (tCons te tNil)) D σ H :=
  ⟨.ref l, hσ, Or.inl ⟨rfl, vs, SqL.of hl⟩, h H s _ fun v F1 H1 g p => ⟨l, vs, v, rfl, rfl, g.hs _ _ hl, Nat.lt_of_lt_of_le hz (by decide), k v F1 H1 g (g.out l fl (by rw [hl]; simp)) (g.hs _ _ hl) p⟩⟩
end
end PD
set_option Elab.async false
set_option linter.all false
set_option maxRecDepth 100000
set_option maxHeartbeats 4000000
/-! the text by places: printed by gentxt.py -/
namespace K74
open PySem PySem.Spec PyProof.Rows L2
def top (i : Nat) : Stmt := PySem.Challenge.pw_evenifstopped_k74_whole_small_parts.main.body.getD i (.Pass ⟨0, 0, 0, 0⟩)
abbrev FnP (K : PySem.W.Frag) (x q : Str) (st : Stmt) (dv : List V) (f : Addr) (fd : FuncData) : Prop := FunD K x q (defArgs st) (defBody st) (defScope st) dv [] f fd
abbrev s_BadName_init : Stmt := inClass (top 2) 0
def s_BadName_init_N : List Str := ["self", "name"]
theorem s_BadName_init_S : FnScope s_BadName_init_N ["self", "name"] (defScope s_BadName_init) := ⟨rfl, rfl, rfl, by decide +kernel, rfl, by decide +kernel, by decide +kernel⟩
def s_BadName_init_D : He.DefD := ⟨("BadName", some "__init__"), "__init__", "BadName.__init__", defArgs s_BadName_init, defBody s_BadName_init, defScope s_BadName_init, [], []⟩
abbrev s_BadNumber_init : Stmt := inClass (top 3) 0
def s_BadNumber_init_N : List Str := ["self", "what", "number"]
theorem s_BadNumber_init_S : FnScope s_BadNumber_init_N ["self", "what", "number"] (defScope s_BadNumber_init) := ⟨rfl, rfl, rfl, by decide +kernel, rfl, by decide +kernel, by decide +kernel⟩
def s_BadNumber_init_D : He.DefD := ⟨("BadNumber", some "__init__"), "__init__", "BadNumber.__init__", defArgs s_BadNumber_init, defBody s_BadNumber_init, defScope s_BadNumber_init, [], []⟩
abbrev s_BadRow_init : Stmt := inClass (top 4) 0
def s_BadRow_init_N : List Str := ["self", "what", "row"]
theorem s_BadRow_init_S : FnScope s_BadRow_init_N ["self", "what", "row"] (defScope s_BadRow_init) := ⟨rfl, rfl, rfl, by decide +kernel, rfl, by decide +kernel, by decide +kernel⟩
def s_BadRow_init_D : He.DefD := ⟨("BadRow", some "__init__"), "__init__", "BadRow.__init__", defArgs s_BadRow_init, defBody s_BadRow_init, defScope s_BadRow_init, [], []⟩
abbrev s_NoName_init : Stmt := inClass (top 5) 0
def s_NoName_init_N : List Str := ["self", "name"]
theorem s_NoName_init_S : FnScope s_NoName_init_N ["self", "name"] (defScope s_NoName_init) := ⟨rfl, rfl, rfl, by decide +kernel, rfl, by decide +kernel, by decide +kernel⟩
def s_NoName_init_D : He.DefD := ⟨("NoName", some "__init__"), "__init__", "NoName.__init__", defArgs s_NoName_init, defBody s_NoName_init, defScope s_NoName_init, [], []⟩
abbrev s_TakenName_init : Stmt := inClass (top 6) 0
def s_TakenName_init_N : List Str := ["self", "name"]
theorem s_TakenName_init_S : FnScope s_TakenName_init_N ["self", "name"] (defScope s_TakenName_init) := ⟨rfl, rfl, rfl, by decide +kernel, rfl, by decide +kernel, by decide +kernel⟩
def s_TakenName_init_D : He.DefD := ⟨("TakenName", some "__init__"), "__init__", "TakenName.__init__", defArgs s_TakenName_init, defBody s_TakenName_init, defScope s_TakenName_init, [], []⟩
abbrev s_Unlike_init : Stmt := inClass (top 7) 0
def s_Unlike_init_N : List Str := ["self", "what"]
theorem s_Unlike_init_S : FnScope s_Unlike_init_N ["self", "what"] (defScope s_Unlike_init) := ⟨rfl, rfl, rfl, by decide +kernel, rfl, by decide +kernel, by decide +kernel⟩
def s_Unlike_init_D : He.DefD := ⟨("Unlike", some "__init__"), "__init__", "Unlike.__init__", defArgs s_Unlike_init, defBody s_Unlike_init, defScope s_Unlike_init, [], []⟩
abbrev s_NotThere_init : Stmt := inClass (top 8) 0
def s_NotThere_init_N : List Str := ["self", "what"]
theorem s_NotThere_init_S : FnScope s_NotThere_init_N ["self", "what"] (defScope s_NotThere_init) := ⟨rfl, rfl, rfl, by decide +kernel, rfl, by decide +kernel, by decide +kernel⟩
def s_NotThere_init_D : He.DefD := ⟨("NotThere", some "__init__"), "__init__", "NotThere.__init__", defArgs s_NotThere_init, defBody s_NotThere_init, defScope s_NotThere_init, [], []⟩
abbrev s_TooMany_init : Stmt := inClass (top 9) 0
def s_TooMany_init_N : List Str := ["self", "what", "many", "limit"]
theorem s_TooMany_init_S : FnScope s_TooMany_init_N ["self", "what", "many", "limit"] (defScope s_TooMany_init) := ⟨rfl, rfl, rfl, by decide +kernel, rfl, by decide +kernel, by decide +kernel⟩
def s_TooMany_init_D : He.DefD := ⟨("TooMany", some "__init__"), "__init__", "TooMany.__init__", defArgs s_TooMany_init, defBody s_TooMany_init, defScope s_TooMany_init, [], []⟩
abbrev s_is_whole : Stmt := top 11
def s_is_whole_N : List Str := ["value", "least", "most"]
theorem s_is_whole_S : FnScope s_is_whole_N ["value", "least", "most"] (defScope s_is_whole) := ⟨rfl, rfl, rfl, by decide +kernel, rfl, by decide +kernel, by decide +kernel⟩
def s_is_whole_D : He.DefD := ⟨("is_whole", none), "is_whole", "is_whole", defArgs s_is_whole, defBody s_is_whole, defScope s_is_whole, [.non], []⟩
abbrev s_is_listed : Stmt := top 12
def s_is_listed_N : List Str := ["value"]
theorem s_is_listed_S : FnScope s_is_listed_N ["value"] (defScope s_is_listed) := ⟨rfl, rfl, rfl, by decide +kernel, rfl, by decide +kernel, by decide +kernel⟩
def s_is_listed_D : He.DefD := ⟨("is_listed", none), "is_listed", "is_listed", defArgs s_is_listed, defBody s_is_listed, defScope s_is_listed, [], []⟩
abbrev s_as_tuples : Stmt := top 13
def s_as_tuples_N : List Str := ["value", "part"]
theorem s_as_tuples_S : FnScope s_as_tuples_N ["value"] (defScope s_as_tuples) := ⟨rfl, rfl, rfl, by decide +kernel, rfl, by decide +kernel, by decide +kernel⟩
def s_as_tuples_D : He.DefD := ⟨("as_tuples", none), "as_tuples", "as_tuples", defArgs s_as_tuples, defBody s_as_tuples, defScope s_as_tuples, [], []⟩
abbrev s_same : Stmt := top 14
def s_same_N : List Str := ["one", "other", "part", "mate"]
theorem s_same_S : FnScope s_same_N ["one", "other"] (defScope s_same) := ⟨rfl, rfl, rfl, by decide +kernel, rfl, by decide +kernel, by decide +kernel⟩
def s_same_D : He.DefD := ⟨("same", none), "same", "same", defArgs s_same, defBody s_same, defScope s_same, [], []⟩
abbrev s_Deed_init : Stmt := inClass (top 16) 0
def s_Deed_init_N : List Str := ["self", "kept", "passing", "boxes", "parts"]
theorem s_Deed_init_S : FnScope s_Deed_init_N ["self", "kept", "passing", "boxes", "parts"] (defScope s_Deed_init) := ⟨rfl, rfl, rfl, by decide +kernel, rfl, by decide +kernel, by decide +kernel⟩
def s_Deed_init_D : He.DefD := ⟨("Deed", some "__init__"), "__init__", "Deed.__init__", defArgs s_Deed_init, defBody s_Deed_init, defScope s_Deed_init, [], []⟩
abbrev s_Deed_attributes : Stmt := inClass (top 16) 1
def s_Deed_attributes_N : List Str := ["self"]
theorem s_Deed_attributes_S : FnScope s_Deed_attributes_N ["self"] (defScope s_Deed_attributes) := ⟨rfl, rfl, rfl, by decide +kernel, rfl, by decide +kernel, by decide +kernel⟩
def s_Deed_attributes_D : He.DefD := ⟨("Deed", some "attributes"), "attributes", "Deed.attributes", defArgs s_Deed_attributes, defBody s_Deed_attributes, defScope s_Deed_attributes, [], []⟩
abbrev s_Deed_eq : Stmt := inClass (top 16) 2
def s_Deed_eq_N : List Str := ["self", "other"]
theorem s_Deed_eq_S : FnScope s_Deed_eq_N ["self", "other"] (defScope s_Deed_eq) := ⟨rfl, rfl, rfl, by decide +kernel, rfl, by decide +kernel, by decide +kernel⟩
def s_Deed_eq_D : He.DefD := ⟨("Deed", some "__eq__"), "__eq__", "Deed.__eq__", defArgs s_Deed_eq, defBody s_Deed_eq, defScope s_Deed_eq, [], []⟩
abbrev s_need_many : Stmt := top 21
def s_need_many_N : List Str := ["many"]
theorem s_need_many_S : FnScope s_need_many_N ["many"] (defScope s_need_many) := ⟨rfl, rfl, rfl, by decide +kernel, rfl, by decide +kernel, by decide +kernel⟩
def s_need_many_D : He.DefD := ⟨("need_many", none), "need_many", "need_many", defArgs s_need_many, defBody s_need_many, defScope s_need_many, [], []⟩
abbrev s_count_rows : Stmt := top 22
def s_count_rows_N : List Str := ["many", "found", "turn"]
theorem s_count_rows_S : FnScope s_count_rows_N ["many"] (defScope s_count_rows) := ⟨rfl, rfl, rfl, by decide +kernel, rfl, by decide +kernel, by decide +kernel⟩
def s_count_rows_D : He.DefD := ⟨("count_rows", none), "count_rows", "count_rows", defArgs s_count_rows, defBody s_count_rows, defScope s_count_rows, [], []⟩
abbrev s_count_parts : Stmt := top 23
def s_count_parts_N : List Str := ["many"]
theorem s_count_parts_S : FnScope s_count_parts_N ["many"] (defScope s_count_parts) := ⟨rfl, rfl, rfl, by decide +kernel, rfl, by decide +kernel, by decide +kernel⟩
def s_count_parts_D : He.DefD := ⟨("count_parts", none), "count_parts", "count_parts", defArgs s_count_parts, defBody s_count_parts, defScope s_count_parts, [], []⟩
abbrev s_rows_at : Stmt := top 24
def s_rows_at_N : List Str := ["many", "place", "rows", "left", "turn"]
theorem s_rows_at_S : FnScope s_rows_at_N ["many", "place"] (defScope s_rows_at) := ⟨rfl, rfl, rfl, by decide +kernel, rfl, by decide +kernel, by decide +kernel⟩
def s_rows_at_D : He.DefD := ⟨("rows_at", none), "rows_at", "rows_at", defArgs s_rows_at, defBody s_rows_at, defScope s_rows_at, [], []⟩
abbrev s_small_at : Stmt := top 25
def s_small_at_N : List Str := ["many", "place", "test", "rows", "body", "one", "sign", "other"]
theorem s_small_at_S : FnScope s_small_at_N ["many", "place"] (defScope s_small_at) := ⟨rfl, rfl, rfl, by decide +kernel, rfl, by decide +kernel, by decide +kernel⟩
def s_small_at_D : He.DefD := ⟨("small_at", none), "small_at", "small_at", defArgs s_small_at, defBody s_small_at, defScope s_small_at, [], []⟩
abbrev s_place_of : Stmt := top 26
def s_place_of_N : List Str := ["test", "rows", "found", "row", "numbers", "number", "one"]
theorem s_place_of_S : FnScope s_place_of_N ["test", "rows"] (defScope s_place_of) := ⟨rfl, rfl, rfl, by decide +kernel, rfl, by decide +kernel, by decide +kernel⟩
def s_place_of_D : He.DefD := ⟨("place_of", none), "place_of", "place_of", defArgs s_place_of, defBody s_place_of, defScope s_place_of, [], []⟩
abbrev s_law_pen : Stmt := top 28
def s_law_pen_N : List Str := ["script", "fold", "cell"]
theorem s_law_pen_S : FnScope s_law_pen_N ["script"] (defScope s_law_pen) := ⟨rfl, rfl, rfl, by decide +kernel, rfl, by decide +kernel, by decide +kernel⟩
def s_law_pen_D : He.DefD := ⟨("_law_pen", none), "_law_pen", "_law_pen", defArgs s_law_pen, defBody s_law_pen, defScope s_law_pen, [], []⟩
abbrev s_law_draw : Stmt := top 29
def s_law_draw_N : List Str := ["pen", "many", "cell", "digit", "blend"]
theorem s_law_draw_S : FnScope s_law_draw_N ["pen", "many"] (defScope s_law_draw) := ⟨rfl, rfl, rfl, by decide +kernel, rfl, by decide +kernel, by decide +kernel⟩
def s_law_draw_D : He.DefD := ⟨("_law_draw", none), "_law_draw", "_law_draw", defArgs s_law_draw, defBody s_law_draw, defScope s_law_draw, [], []⟩
abbrev s_law_pick : Stmt := top 30
def s_law_pick_N : List Str := ["pen", "some"]
theorem s_law_pick_S : FnScope s_law_pick_N ["pen", "some"] (defScope s_law_pick) := ⟨rfl, rfl, rfl, by decide +kernel, rfl, by decide +kernel, by decide +kernel⟩
def s_law_pick_D : He.DefD := ⟨("_law_pick", none), "_law_pick", "_law_pick", defArgs s_law_pick, defBody s_law_pick, defScope s_law_pick, [], []⟩
abbrev s_law_same : Stmt := top 31
def s_law_same_N : List Str := ["told", "due", "one", "two"]
theorem s_law_same_S : FnScope s_law_same_N ["told", "due"] (defScope s_law_same) := ⟨rfl, rfl, rfl, by decide +kernel, rfl, by decide +kernel, by decide +kernel⟩
def s_law_same_D : He.DefD := ⟨("_law_same", none), "_law_same", "_law_same", defArgs s_law_same, defBody s_law_same, defScope s_law_same, [], []⟩
abbrev s_law_fault : Stmt := top 32
def s_law_fault_N : List Str := ["call", "e"]
theorem s_law_fault_S : FnScope s_law_fault_N ["call"] (defScope s_law_fault) := ⟨rfl, rfl, rfl, by decide +kernel, rfl, by decide +kernel, by decide +kernel⟩
def s_law_fault_D : He.DefD := ⟨("_law_fault", none), "_law_fault", "_law_fault", defArgs s_law_fault, defBody s_law_fault, defScope s_law_fault, [], []⟩
abbrev s_law_equal : Stmt := top 33
def s_law_equal_N : List Str := ["one", "other", "a", "b"]
theorem s_law_equal_S : FnScope s_law_equal_N ["one", "other"] (defScope s_law_equal) := ⟨rfl, rfl, rfl, by decide +kernel, rfl, by decide +kernel, by decide +kernel⟩
def s_law_equal_D : He.DefD := ⟨("_law_equal", none), "_law_equal", "_law_equal", defArgs s_law_equal, defBody s_law_equal, defScope s_law_equal, [], []⟩
abbrev s_law_statements : Stmt := top 34
def s_law_statements_N : List Str := []
theorem s_law_statements_S : FnScope s_law_statements_N [] (defScope s_law_statements) := ⟨rfl, rfl, rfl, by decide +kernel, rfl, by decide +kernel, by decide +kernel⟩
def s_law_statements_D : He.DefD := ⟨("_law_statements", none), "_law_statements", "_law_statements", defArgs s_law_statements, defBody s_law_statements, defScope s_law_statements, [], []⟩
abbrev s_law_all_rows : Stmt := top 35
def s_law_all_rows_N : List Str := ["many", "found", "test", "turn", "longer", "rows", "one"]
theorem s_law_all_rows_S : FnScope s_law_all_rows_N ["many"] (defScope s_law_all_rows) := ⟨rfl, rfl, rfl, by decide +kernel, rfl, by decide +kernel, by decide +kernel⟩
def s_law_all_rows_D : He.DefD := ⟨("_law_all_rows", none), "_law_all_rows", "_law_all_rows", defArgs s_law_all_rows, defBody s_law_all_rows, defScope s_law_all_rows, [], []⟩
abbrev s_law : Stmt := top 36
def s_law_N : List Str := ["script", "pen", "many", "some", "place", "turn", "test", "rows", "one", "other", "body", "made", "odd", "wrong", "bad", "faults", "strange"]
theorem s_law_S : FnScope s_law_N ["script"] (defScope s_law) := ⟨rfl, rfl, rfl, by decide +kernel, rfl, by decide +kernel, by decide +kernel⟩
def s_law_D : He.DefD := ⟨("law", none), "law", "law", defArgs s_law, defBody s_law, defScope s_law, [], []⟩
def fn : List He.DefD := [s_BadName_init_D, s_BadNumber_init_D, s_BadRow_init_D, s_NoName_init_D, s_TakenName_init_D, s_Unlike_init_D, s_NotThere_init_D, s_TooMany_init_D, s_is_whole_D, s_is_listed_D, s_as_tuples_D, s_same_D, s_Deed_init_D, s_Deed_attributes_D, s_Deed_eq_D, s_need_many_D, s_count_rows_D, s_count_parts_D, s_rows_at_D, s_small_at_D, s_place_of_D, s_law_pen_D, s_law_draw_D, s_law_pick_D, s_law_same_D, s_law_fault_D, s_law_equal_D, s_law_statements_D, s_law_all_rows_D, s_law_D]
end K74
set_option Elab.async false
set_option linter.all false
set_option maxRecDepth 100000
set_option maxHeartbeats 4000000
namespace K74
open PySem PySem.Spec PyProof.Rows L2 PD
/-! ### mathematics -/
def isWhole (d : PyData) (lo hi : Int) : Bool := match d with
  | .int i => decide (lo ≤ i) && decide (i ≤ hi)
  | _ => false
abbrev spIsWhole (K : PySem.W.Frag) : Sp := PSp K (fun a : PyData × Int × Int => [a.1, .int a.2.1, .int a.2.2]) (fun _ => True) (fun a => .bool (isWhole a.1 a.2.1 a.2.2))
def ltD (d : PyData) (lo : Int) : Bool := match d with
  | .int i => decide (i < lo)
  | _ => false
structure Bl (mg : Str → Option Value) : Prop where
  isinstance : mg "isinstance" = none
  int : mg "int" = none
  bool : mg "bool" = none
  str : mg "str" = none
  tuple : mg "tuple" = none
  list : mg "list" = none
  len : mg "len" = none
  all : mg "all" = none
  zip : mg "zip" = none
  range : mg "range" = none
  enumerate : mg "enumerate" = none
section
variable {P : Program} {w : World} {K : PySem.W.Frag} {mg : Str → Option Value} {base : Heap} {f : Addr} {fd : FuncData} {CX : CXT}
theorem ok_is_whole (F : FnP K "is_whole" "is_whole" s_is_whole [.non] f fd) (B : Bl mg) : FnOk P w K mg base CX 1 f fd ["value", "least", "most"] (spIsWhole K) := by
  refine F.ok s_is_whole_S (fun vs H Q E h => ?_) (fun cdv A outer s H vs Q E hr h => ?_)
  · obtain ⟨a, F, s, p, _⟩ := h
    exact dpAll_len p
  · obtain ⟨⟨d, lo, hi⟩, F, sF, p, -, k⟩ := h
    obtain ⟨v0, v1, v2, rfl, p0, p1, p2⟩ := dpAll_three p
    refine ⟨_, pss_cons (ps_if (PW.pt (pw_or (pt_not (pt_val (pe_callB call_isi (by rfl) B.isinstance boot_isinstance (pa_cons (pv 0) (pa_cons (pe_bltn (v := .ty "int") (by rfl) B.int boot_int rfl) pa_nil)))))
        (pw_or (pt_val (pe_callB call_isi (by rfl) B.isinstance boot_isinstance (pa_cons (pv 0) (pa_cons (pe_bltn (v := .ty "bool") (by rfl) B.bool boot_bool rfl) pa_nil))))
        (pw_or1 (pt_cmpR op_lt (pv 0) (pv 1) (nomark _)))))) (pss_one (ps_ret pe_bl)) pss_nil)
      (pss_one (ps_ret (pe_or (pe_cmpR op_isN (pv 2) pe_non (nomark _)) (pe_one (pe_cmpR op_le (pv 0) (pv 2) (nomark _)))))), ?_⟩
    have i0 : Sl K (start s_is_whole_N [v0, v1, v2]) F 0 d := ⟨v0, rfl, p0⟩
    have i1 : Sl K (start s_is_whole_N [v0, v1, v2]) F 1 (.int lo) := ⟨v1, rfl, p1⟩
    have i2 : Sl K (start s_is_whole_N [v0, v1, v2]) F 2 (.int hi) := ⟨v2, rfl, p2⟩
    have key : (!isI d) = false → isB d = false → ∃ i, d = .int i := by cases d <;> simp [isI, isB]
    refine w_if (et_or (et_not (et_B (ed_isI (ed_var i0)))) (fun e1 => et_or (b := ltD d lo) (et_B (ed_isB (ed_var i0))) (fun e2 => ?_))) sF (fun e F1 H1 g1 => ?_) (fun e F1 H1 g1 => ?_)
    · obtain ⟨i, rfl⟩ := key e1 e2
      exact et_test (ed_op (ed_var i0) (ed_var i1) rd_B0)
    · have e3 : isWhole d lo hi = false := by
        unfold isWhole
        cases d with
        | int i =>
          have e : i < lo := by simpa [isI, isB, ltD] using e
          simp [show ¬ lo ≤ i by omega]
        | _ => rfl
      exact k _ F1 H1 g1 (by show Dp K F1 (.bl false) (.bool (isWhole d lo hi)); rw [e3]; exact .bl false)
    · simp only [Bool.or_eq_false_iff] at e
      obtain ⟨i, rfl⟩ := key e.1 e.2.1
      have e3 : lo ≤ i := by simpa [ltD] using e.2.2
      refine w_ret (d := .bool (isNo (.int hi) || decide (i ≤ hi))) (ed_orV (ed_op (ed_var (i2.mono g1.fs)) (ed_c .non) rd_isN) (fun _ => ed_op (ed_var (i0.mono g1.fs)) (ed_var (i2.mono g1.fs)) rd_B0)) g1.fh fun v F2 H2 g2 p2 => k v F2 H2 (g1.trans g2) ?_
      simpa [isWhole, isNo, e3] using p2
end
end K74
set_option Elab.async false
set_option linter.all false
set_option maxRecDepth 100000
set_option maxHeartbeats 4000000
namespace K74
open PySem PySem.Spec PyProof.Rows L2 PD
/-! ### mathematics -/
mutual
/-- not deeper than n, no row longer than 1000 -/
def fit : Nat → PyData → Bool
  | n, .tuple ds => match n with
    | 0 => false
    | m + 1 => decide (ds.length ≤ 1000) && fitAll m ds
  | n, .list ds => match n with
    | 0 => false
    | m + 1 => decide (ds.length ≤ 1000) && fitAll m ds
  | _, .dict _ => false
  | n, .none => decide (n ≠ 0)
  | n, .bool _ => decide (n ≠ 0)
  | n, .int _ => decide (n ≠ 0)
  | n, .str _ => decide (n ≠ 0)
def fitAll : Nat → List PyData → Bool
  | _, [] => true
  | n, d :: ds => fit n d && fitAll n ds
end
mutual
def asT : PyData → PyData
  | .tuple ds => .tuple (asTs ds)
  | .list ds => .tuple (asTs ds)
  | d => d
def asTs : List PyData → List PyData
  | [] => []
  | d :: ds => asT d :: asTs ds
end
theorem asTs_map : ∀ ds : List PyData, asTs ds = ds.map asT
  | [] => rfl
  | d :: ds => by rw [asTs, asTs_map ds] <;> rfl
mutual
def sameD : PyData → PyData → Bool
  | .tuple a, .tuple b => sameAll a b
  | .bool a, .bool b => a == b
  | .int a, .int b => a == b
  | .none, .none => true
  | .str a, .str b => a == b
  | _, _ => false
def sameAll : List PyData → List PyData → Bool
  | [], [] => true
  | a :: as, b :: bs => sameD a b && sameAll as bs
  | _, _ => false
end
theorem fitAll_mem {n : Nat} : ∀ {ds : List PyData}, fitAll n ds = true → ∀ d ∈ ds, fit n d = true
  | [], _, _, h => by cases h
  | e :: ds, h, d, hd => by
    rw [fitAll, Bool.and_eq_true] at h
    rcases List.mem_cons.mp hd with rfl | hd
    · exact h.1
    · exact fitAll_mem h.2 d hd
def samePair : PyData → PyData
  | .tuple [a, b] => .bool (sameD a b)
  | _ => .none
theorem samePairs : ∀ (as bs : List PyData), as.length = bs.length → ∃ cs : List Bool, (pairs as bs).map samePair = cs.map .bool ∧ cs.all id = sameAll as bs
  | [], [], _ => ⟨[], rfl, by rw [sameAll] <;> rfl⟩
  | [], _ :: _, h => by simp at h
  | _ :: _, [], h => by simp at h
  | a :: as, b :: bs, h => by
    obtain ⟨cs, h1, h2⟩ := samePairs as bs (by simpa using h)
    refine ⟨sameD a b :: cs, ?_, ?_⟩
    · rw [pairs, List.map_cons, h1, List.map_cons] <;> rfl
    · rw [sameAll, List.all_cons, h2] <;> rfl
theorem sameAll_len : ∀ {as bs : List PyData}, as.length ≠ bs.length → sameAll as bs = false
  | [], [], h => by simp at h
  | [], _ :: _, h => by rw [sameAll] <;> simp
  | _ :: _, [], h => by rw [sameAll] <;> simp
  | a :: as, b :: bs, h => by
    rw [sameAll, sameAll_len (as := as) (bs := bs) (by simpa using h), Bool.and_false]
theorem fit_tup {n : Nat} {ds : List PyData} (h : fit (n + 1) (.tuple ds) = true) : ds.length ≤ 1000 ∧ fitAll n ds = true := by
  rw [fit, Bool.and_eq_true, decide_eq_true_eq] at h
  exact h
theorem fit_lst {n : Nat} {ds : List PyData} (h : fit (n + 1) (.list ds) = true) : ds.length ≤ 1000 ∧ fitAll n ds = true := by
  rw [fit, Bool.and_eq_true, decide_eq_true_eq] at h
  exact h
theorem fit0 {d : PyData} : fit 0 d = false := by cases d <;> simp [fit]
theorem asT_flat {d : PyData} (h : (isT d || isL d) = false) : asT d = d := by
  cases d with
  | tuple ds => cases h
  | list ds => cases h
  | _ => simp [asT]
theorem le1000 {n : Nat} (h : n ≤ 1000) : n ≤ sizeLine := Nat.le_of_lt (small1000 h)
abbrev spIsListed (K : PySem.W.Frag) : Sp := PSp K (fun a : PyData => [a]) (fun _ => True) (fun a => .bool (isT a || isL a))
abbrev spAsT (K : PySem.W.Frag) (n : Nat) : Sp := PSp K (fun a : PyData => [a]) (fun a => fit n a = true) asT
abbrev spSame (K : PySem.W.Frag) (n : Nat) : Sp := PSp K (fun a : PyData × PyData => [a.1, a.2]) (fun a => fit n a.1 = true) (fun a => .bool (sameD a.1 a.2))
section
variable {P : Program} {w : World} {K : PySem.W.Frag} {mg : Str → Option Value} {base : Heap} {f : Addr} {fd : FuncData}
theorem psp_len {α : Type} {args : α → List PyData} {dom : α → Prop} {res : α → PyData} {n : Nat} (h : ∀ a, (args a).length = n) : ∀ vs H Q E, PSp K args dom res vs H Q E → vs.length = n := fun vs H Q E ⟨a, F, s, p, _⟩ => by rw [dpAll_len p, h]
theorem ok_is_listed (F : FnP K "is_listed" "is_listed" s_is_listed [] f fd) (B : Bl mg) : FnOk P w K mg base (L2.CX P w) 1 f fd ["value"] (spIsListed K) := by
  refine F.ok s_is_listed_S (psp_len fun _ => rfl) (fun cdv A outer s H vs Q E hr h => ?_)
  obtain ⟨d, F, sF, p, -, k⟩ := h
  obtain ⟨v0, rfl, p0⟩ := dpAll_one p
  refine ⟨_, (pss_one (ps_ret (pe_callB call_isiT (by rfl) B.isinstance boot_isinstance (pa_cons (pv 0) (pa_cons (pe_tup (pa_cons (pe_bltn (v := .ty "tuple") (by rfl) B.tuple boot_tuple rfl) (pa_cons (pe_bltn (v := .ty "list") (by rfl) B.list boot_list rfl) pa_nil))) pa_nil))))), ?_⟩
  exact w_ret (ed_isTL (ed_var ⟨v0, rfl, p0⟩)) sF fun v F1 H1 g p => k v F1 H1 g p
theorem ok_as_tuples (F : FnP K "as_tuples" "as_tuples" s_as_tuples [] f fd) (B : Bl mg) (hf : f = He.ga K "as_tuples") (gl : mg "as_tuples" = some (.ref (He.ga K "as_tuples"))) (b : Binds K fd ["value"] []) :
    ∀ n, FnOk P w K mg base (L2.CX P w) (n + 1) f fd ["value"] (spAsT K n) := fun n => by
  induction n with
  | zero =>
    refine F.ok s_as_tuples_S (psp_len fun _ => rfl) (fun cdv A outer s H vs Q E hr h => ?_)
    obtain ⟨d, F, sF, p, dom, k⟩ := h
    rw [fit0] at dom
    cases dom
  | succ m ih =>
    have G_as_tuples : Fnk P w K mg base (m + 1) "as_tuples" ["value"] (spAsT K m) := ⟨⟨fd, hf ▸ ih, b⟩, gl, hf ▸ F.kp⟩
    refine F.ok s_as_tuples_S (psp_len fun _ => rfl) (fun cdv A outer s H vs Q E hr h => ?_)
    obtain ⟨d, F, sF, p, dom, k⟩ := h
    obtain ⟨v0, rfl, p0⟩ := dpAll_one p
    refine ⟨_, (pss_cons (ps_if (pt_val (pe_callB call_isiT (by rfl) B.isinstance boot_isinstance (pa_cons (pv 0) (pa_cons (pe_tup (pa_cons (pe_bltn (v := .ty "tuple") (by rfl) B.tuple boot_tuple rfl) (pa_cons (pe_bltn (v := .ty "list") (by rfl) B.list boot_list rfl) pa_nil))) pa_nil)))) (pss_one (ps_ret (pe_callTy call_tuple_of (by rfl) B.tuple boot_tuple (pa_cons (pe_lc (own := [("part", 1)]) rfl s_as_tuples_S.nd (pi_sq (pv 0)) (blkOk_by (own := [("part", 1)]) (N := s_as_tuples_N) (sc := defScope s_as_tuples) (by decide +kernel)) (fun _ _ _ _ _ => (pg_name (i := 1) s_as_tuples_S.nd rfl (Or.inl rfl))) (fun _ _ _ _ _ => pts_nil) (fun _ _ _ _ _ => (pe_fn G_as_tuples hr (by rfl) passL (pa_cons (pv 1) pa_nil)))) pa_nil)))) pss_nil)
      (pss_one (ps_ret (pv 0)))), ?_⟩
    have i0 : ∀ F', Same F F' → Sl K (start s_as_tuples_N [v0]) F' 0 d := fun F' e => ⟨v0, rfl, dp_same e p0⟩
    refine w_if (et_B (ed_isTL (ed_var (i0 F (Same.refl F))))) sF (fun z F1 H1 g1 => ?_) fun z F1 H1 g1 => ?_
    · have e : ∃ ds, (d = .list ds ∨ d = .tuple ds) ∧ ds.length ≤ 1000 ∧ fitAll m ds = true ∧ asT d = .tuple (ds.map asT) := by
        cases d with
        | tuple ds => obtain ⟨h1, h2⟩ := fit_tup dom; exact ⟨ds, .inr rfl, h1, h2, by rw [asT, asTs_map]⟩
        | list ds => obtain ⟨h1, h2⟩ := fit_lst dom; exact ⟨ds, .inl rfl, h1, h2, by rw [asT, asTs_map]⟩
        | _ => cases z
      obtain ⟨ds, ed, h1, h2, e⟩ := e
      refine w_ret (d := .tuple (ds.map asT)) (ed_cb (eds_cons (ed_of_el (el_map asT (it_sq (ed_var (i0 F1 g1.fs)) ed) (le1000 h1) fun e F' he s' => ⟨_, bd_name, fun σ' ⟨v, hs, hv⟩ => ?_⟩)) eds_nil) (rc_tupleOf (.inl rfl))) g1.fh fun v F2 H2 g2 p2 => k v F2 H2 (g1.trans g2) (by rw [e]; exact p2)
      subst hs
      exact ⟨rfl, ed_call e (eds_cons (ed_var ⟨v, rfl, hv⟩) eds_nil) (fitAll_mem h2 e he)⟩
    · have e := asT_flat z
      exact w_ret (ed_var (i0 F1 g1.fs)) g1.fh fun v F2 H2 g2 p2 => k v F2 H2 (g1.trans g2) (by rw [e]; exact p2)
end
end K74
set_option Elab.async false
set_option linter.all false
set_option maxRecDepth 100000
set_option maxHeartbeats 4000000
namespace K74
open PySem PySem.Spec PyProof.Rows L2 PD
/-- a def of the module where it stands -/
structure At (K : PySem.W.Frag) (mg : Str → Option Value) (x : Str) (st : Stmt) (dv : List V) (ps : List Str) (fd : FuncData) : Prop where
  F : FnP K x x st dv (He.ga K x) fd
  gl : mg x = some (.ref (He.ga K x))
  b : Binds K fd ps []
theorem At.fn {P : Program} {w : World} {K : PySem.W.Frag} {mg : Str → Option Value} {base : Heap} {k : Nat} {x : Str} {st : Stmt} {dv : List V} {ps : List Str} {fd : FuncData} {sp : Sp} (a : At K mg x st dv ps fd) (h : FnOk P w K mg base (L2.CX P w) k (He.ga K x) fd ps sp) : Fnk P w K mg base k x ps sp :=
  ⟨⟨fd, h, a.b⟩, a.gl, a.F.kp⟩
theorem eqv_bool (a b : Bool) : PyData.eqv (.bool a) (.bool b) = (a == b) := by simp [PyData.eqv]
theorem eqv_int (a b : Int) : PyData.eqv (.int a) (.int b) = (a == b) := by simp [PyData.eqv]
theorem eqv_str (a b : Str) : PyData.eqv (.str a) (.str b) = (a == b) := by simp [PyData.eqv]
section
variable {K : PySem.W.Frag} {σ : L2.St} {F : Hp} {ta tb : TE} {a b : PyData}
theorem rd_eqStr {x y : Str} : RvD K rEq (.str x) (.str y) (.bool (x == y)) := fun F H v u s p1 p2 Q q => by
  rw [dp_str p1, dp_str p2]
  exact ⟨rfl, q _ F H (.refl s) (by rw [dec_str]; exact .bl _)⟩
theorem ed_eqB (ha : EvD K ta σ F a) (hb : EvD K tb σ F b) (h1 : isB a = true) (h2 : isB b = true) : EvD K (tOp (rEqD K) ta tb) σ F (.bool (sameD a b)) := by
  cases a <;> first | (cases h1; done) | skip
  cases b <;> first | (cases h2; done) | skip
  exact ed_is (ed_op ha hb (rd_eq rfl rfl)) (by rw [eqv_bool, sameD])
theorem ed_eqI (ha : EvD K ta σ F a) (hb : EvD K tb σ F b) (h1 : isI a = true) (h2 : isI b = true) (n1 : isB a = false) (n2 : isB b = false) : EvD K (tOp (rEqD K) ta tb) σ F (.bool (sameD a b)) := by
  cases a <;> first | (cases h1; done) | (cases n1; done) | skip
  cases b <;> first | (cases h2; done) | (cases n2; done) | skip
  exact ed_is (ed_op ha hb (rd_eq rfl rfl)) (by rw [eqv_int, sameD])
theorem ed_eqS (ha : EvD K ta σ F a) (hb : EvD K tb σ F b) (h1 : isS a = true) (h2 : isS b = true) : EvD K (tOp rEq ta tb) σ F (.bool (sameD a b)) := by
  cases a <;> first | (cases h1; done) | skip
  cases b <;> first | (cases h2; done) | skip
  exact ed_is (ed_op ha hb rd_eqStr) (by rw [sameD])
theorem ed_lenT {n : Nat} {ds : List PyData} {te : TE} (h : EvD K te σ F (.tuple ds)) : EvD K (tCB (fun xs H Q => ∃ x n, xs = [x] ∧ LenV K x H n ∧ Q (.int n) H) (tCons te tNil)) σ F (.int (ds.length : Nat)) := ed_cb (eds_cons h eds_nil) (rc_len rfl)
theorem ed_neI {i j : Int} (ha : EvD K ta σ F (.int i)) (hb : EvD K tb σ F (.int j)) : EvD K (tOp (rNeD K) ta tb) σ F (.bool (!(i == j))) := ed_is (ed_op ha hb (rd_ne rfl rfl)) (by rw [eqv_int])
end
theorem natBeq (a b : Nat) : ((a : Int) == (b : Int)) = (a == b) := by
  by_cases e : a = b
  · subst e; simp
  · have h : ¬ (a : Int) = (b : Int) := by omega
    rw [beq_eq_false_iff_ne.mpr h, beq_eq_false_iff_ne.mpr e]
section
variable {P : Program} {w : World} {K : PySem.W.Frag} {mg : Str → Option Value} {base : Heap} {fd : FuncData}
theorem ok_same (a : At K mg "same" s_same [] ["one", "other"] fd) (B : Bl mg) : ∀ n, FnOk P w K mg base (L2.CX P w) (n + 1) (He.ga K "same") fd ["one", "other"] (spSame K n) := fun n => by
  induction n with
  | zero =>
    refine a.F.ok s_same_S (psp_len fun _ => rfl) (fun cdv A outer s H vs Q E hr h => ?_)
    obtain ⟨d, F, sF, p, dom, k⟩ := h
    rw [fit0] at dom
    cases dom
  | succ m ih =>
    have G_same := a.fn ih
    refine a.F.ok s_same_S (psp_len fun _ => rfl) (fun cdv A outer s H vs Q E hr h => ?_)
    obtain ⟨⟨x, y⟩, F, sF, p, dom, k⟩ := h
    obtain ⟨v0, v1, rfl, p0, p1⟩ := dpAll_two p
    refine ⟨_, (pss_cons (ps_if (PW.pt (pw_or (pt_val (pe_callB call_isi (by rfl) B.isinstance boot_isinstance (pa_cons (pv 0) (pa_cons (pe_bltn (v := .ty "tuple") (by rfl) B.tuple boot_tuple rfl) pa_nil)))) (pw_or1 (pt_val (pe_callB call_isi (by rfl) B.isinstance boot_isinstance (pa_cons (pv 1) (pa_cons (pe_bltn (v := .ty "tuple") (by rfl) B.tuple boot_tuple rfl) pa_nil))))))) (pss_cons (ps_if (PW.pt (pw_or (pt_not (pt_val (pe_callB call_isi (by rfl) B.isinstance boot_isinstance (pa_cons (pv 0) (pa_cons (pe_bltn (v := .ty "tuple") (by rfl) B.tuple boot_tuple rfl) pa_nil))))) (pw_or (pt_not (pt_val (pe_callB call_isi (by rfl) B.isinstance boot_isinstance (pa_cons (pv 1) (pa_cons (pe_bltn (v := .ty "tuple") (by rfl) B.tuple boot_tuple rfl) pa_nil))))) (pw_or1 (pt_cmpR (op_neD hr.units) (pe_callB call_len (by rfl) B.len PySem.boot_len (pa_cons (pv 0) pa_nil)) (pe_callB call_len (by rfl) B.len PySem.boot_len (pa_cons (pv 1) pa_nil)) (nomark _)))))) (pss_one (ps_ret pe_bl)) pss_nil)
      (pss_one (ps_ret (pe_callB (cr_all rfl) (by rfl) B.all boot_all (pa_cons (pe_lc (own := [("part", 2), ("mate", 3)]) (g := gTup K 2 (gCons (gName 2) (gCons (gName 3) gNil))) rfl s_same_S.nd (RZ.pi_zipA (by rfl) B.zip (pa_cons (pv 0) (pa_cons (pv 1) pa_nil))) (blkOk_by (own := [("part", 2), ("mate", 3)]) (N := s_same_N) (sc := defScope s_same) (by decide +kernel)) (fun _ _ _ _ _ => (pg_tup (n := 2) rfl (pgs_cons (pg_name (i := 2) s_same_S.nd rfl (Or.inl rfl) (Or.inr rfl)) (pgs_cons (pg_name (i := 3) s_same_S.nd rfl (Or.inl rfl) (Or.inr rfl)) pgs_nil)))) (fun _ _ _ _ _ => pts_nil) (fun _ _ _ _ _ => (pe_fn G_same hr (by rfl) passL (pa_cons (pv 2) (pa_cons (pv 3) pa_nil))))) pa_nil))))) pss_nil)
      (pss_cons (ps_if (PW.pt (pw_or (pt_val (pe_callB call_isi (by rfl) B.isinstance boot_isinstance (pa_cons (pv 0) (pa_cons (pe_bltn (v := .ty "bool") (by rfl) B.bool boot_bool rfl) pa_nil)))) (pw_or1 (pt_val (pe_callB call_isi (by rfl) B.isinstance boot_isinstance (pa_cons (pv 1) (pa_cons (pe_bltn (v := .ty "bool") (by rfl) B.bool boot_bool rfl) pa_nil))))))) (pss_one (ps_ret (pe_and (pe_callB call_isi (by rfl) B.isinstance boot_isinstance (pa_cons (pv 0) (pa_cons (pe_bltn (v := .ty "bool") (by rfl) B.bool boot_bool rfl) pa_nil))) (pe_and (pe_callB call_isi (by rfl) B.isinstance boot_isinstance (pa_cons (pv 1) (pa_cons (pe_bltn (v := .ty "bool") (by rfl) B.bool boot_bool rfl) pa_nil))) (pe_one (pe_cmpR (op_eqD hr.units) (pv 0) (pv 1) (nomark _))))))) pss_nil)
      (pss_cons (ps_if (PW.pt (pw_or (pt_val (pe_callB call_isi (by rfl) B.isinstance boot_isinstance (pa_cons (pv 0) (pa_cons (pe_bltn (v := .ty "int") (by rfl) B.int boot_int rfl) pa_nil)))) (pw_or1 (pt_val (pe_callB call_isi (by rfl) B.isinstance boot_isinstance (pa_cons (pv 1) (pa_cons (pe_bltn (v := .ty "int") (by rfl) B.int boot_int rfl) pa_nil))))))) (pss_one (ps_ret (pe_and (pe_callB call_isi (by rfl) B.isinstance boot_isinstance (pa_cons (pv 0) (pa_cons (pe_bltn (v := .ty "int") (by rfl) B.int boot_int rfl) pa_nil))) (pe_and (pe_callB call_isi (by rfl) B.isinstance boot_isinstance (pa_cons (pv 1) (pa_cons (pe_bltn (v := .ty "int") (by rfl) B.int boot_int rfl) pa_nil))) (pe_one (pe_cmpR (op_eqD hr.units) (pv 0) (pv 1) (nomark _))))))) pss_nil)
      (pss_cons (ps_if (PW.pt (pw_or (pt_cmpR op_isN (pv 0) pe_non (nomark _)) (pw_or1 (pt_cmpR op_isN (pv 1) pe_non (nomark _))))) (pss_one (ps_ret (pe_and (pe_cmpR op_isN (pv 0) pe_non (nomark _)) (pe_one (pe_cmpR op_isN (pv 1) pe_non (nomark _)))))) pss_nil)
      (pss_one (ps_ret (pe_and (pe_callB call_isi (by rfl) B.isinstance boot_isinstance (pa_cons (pv 0) (pa_cons (pe_bltn (v := .ty "str") (by rfl) B.str boot_str rfl) pa_nil))) (pe_and (pe_callB call_isi (by rfl) B.isinstance boot_isinstance (pa_cons (pv 1) (pa_cons (pe_bltn (v := .ty "str") (by rfl) B.str boot_str rfl) pa_nil))) (pe_one (pe_cmpR op_eq (pv 0) (pv 1) (nomark _))))))))))), ?_⟩
    have I0 : ∀ F', Same F F' → Sl K (start s_same_N [v0, v1]) F' 0 x := fun F' e => ⟨v0, rfl, dp_same e p0⟩
    have I1 : ∀ F', Same F F' → Sl K (start s_same_N [v0, v1]) F' 1 y := fun F' e => ⟨v1, rfl, dp_same e p1⟩
    refine w_if (et_or (et_B (ed_isT (ed_var (I0 F (Same.refl F))))) (fun _ => et_B (ed_isT (ed_var (I1 F (Same.refl F)))))) sF (fun z F1 H1 g1 => ?_) fun z F1 H1 g1 => ?_
    · -- a tuple at least
      have i0 := I0 F1 g1.fs
      have i1 := I1 F1 g1.fs
      have lens : (!isT x) = false → (!isT y) = false → ∃ as bs, x = .tuple as ∧ y = .tuple bs := by cases x <;> cases y <;> simp [isT]
      refine w_if (b := !isT x || (!isT y || !(lenD x == lenD y))) (et_or (et_not (et_B (ed_isT (ed_var i0)))) (fun e1 => et_or (et_not (et_B (ed_isT (ed_var i1)))) (fun e2 => ?_))) g1.fh (fun z2 F2 H2 g2 => ?_) fun z2 F2 H2 g2 => ?_
      · obtain ⟨as, bs, rfl, rfl⟩ := lens e1 e2
        exact et_is (et_test (ed_neI (ed_lenT (n := 0) (ed_var i0)) (ed_lenT (n := 0) (ed_var i1)))) (by rw [natBeq] <;> rfl)
      · have e : sameD x y = false := by
          cases x <;> cases y <;> simp_all [isT, sameD, lenD]
          exact sameAll_len z2
        exact k _ F2 H2 (g1.trans g2) (by show Dp K F2 (.bl false) (.bool (sameD x y)); rw [e]; exact .bl false)
      · simp only [Bool.or_eq_false_iff] at z2
        obtain ⟨as, bs, rfl, rfl⟩ := lens z2.1 z2.2.1
        have el : as.length = bs.length := by simpa [lenD] using z2.2.2
        obtain ⟨cs, h1, h2⟩ := samePairs as bs el
        obtain ⟨f1, f2⟩ := fit_tup dom
        refine w_ret (ed_cb (eds_cons (ed_of_el (el_is (el_map samePair (it_zipA (ed_var (i0.mono g2.fs)) (ed_var (i1.mono g2.fs)) (.inr ⟨rfl, rfl⟩)) (by rw [PD.pairs_len]; exact le1000 (by omega)) (fun e F' he s' => ?_)) h1)) eds_nil) rc_all) g2.fh fun v F3 H3 g3 p3 => k v F3 H3 ((g1.trans g2).trans g3) (by
          show Dp K F3 v (.bool (sameD _ _))
          rw [sameD, ← h2]
          exact p3)
        obtain ⟨i, hi, q⟩ := List.mem_iff_getElem.mp he
        obtain ⟨c, d, hc, hd, rfl⟩ := pairs_get (i := i) (e := e) (by rw [← q]; exact List.getElem?_eq_getElem hi)
        refine ⟨_, bd_two, fun σ' hσ => ?_⟩
        obtain ⟨v, u, rfl, pv, pu⟩ := hσ
        exact ⟨rfl, ed_call (c, d) (eds_cons (ed_var ⟨v, rfl, pv⟩) (eds_cons (ed_var ⟨u, rfl, pu⟩) eds_nil)) (fitAll_mem f2 c (List.mem_of_getElem? hc))⟩
    · -- no tuple
      simp only [Bool.or_eq_false_iff] at z
      have i0 := I0 F1 g1.fs
      have i1 := I1 F1 g1.fs
      refine w_if (et_or (et_B (ed_isB (ed_var i0))) (fun _ => et_B (ed_isB (ed_var i1)))) g1.fh (fun z2 F2 H2 g2 => ?_) fun z2 F2 H2 g2 => ?_
      · have j0 := i0.mono g2.fs
        have j1 := i1.mono g2.fs
        refine w_ret (ed_andV (ed_isB (ed_var j0)) (fun e1 => ed_andV (ed_isB (ed_var j1)) (fun e2 => ed_eqB (ed_var j0) (ed_var j1) e1 e2))) g2.fh fun v F3 H3 g3 p3 => k v F3 H3 ((g1.trans g2).trans g3) ?_
        have e : (isB x && (isB y && sameD x y)) = sameD x y := by cases x <;> cases y <;> simp_all [isB, isT, sameD]
        rw [e] at p3
        exact p3
      · have G := g1.trans g2
        simp only [Bool.or_eq_false_iff] at z2
        have j0 := i0.mono g2.fs
        have j1 := i1.mono g2.fs
        refine w_if (et_or (et_B (ed_isI (ed_var j0))) (fun _ => et_B (ed_isI (ed_var j1)))) g2.fh (fun z3 F3 H3 g3 => ?_) fun z3 F3 H3 g3 => ?_
        · have l0 := j0.mono g3.fs
          have l1 := j1.mono g3.fs
          refine w_ret (ed_andV (ed_isI (ed_var l0)) (fun e1 => ed_andV (ed_isI (ed_var l1)) (fun e2 => ed_eqI (ed_var l0) (ed_var l1) e1 e2 z2.1 z2.2))) g3.fh fun v F4 H4 g4 p4 => k v F4 H4 ((G.trans g3).trans g4) ?_
          have e : (isI x && (isI y && sameD x y)) = sameD x y := by cases x <;> cases y <;> simp_all [isB, isI, isT, sameD]
          rw [e] at p4
          exact p4
        · simp only [Bool.or_eq_false_iff] at z3
          have l0 := j0.mono g3.fs
          have l1 := j1.mono g3.fs
          refine w_if (et_or (et_test (ed_op (ed_var l0) (ed_c .non) rd_isN)) (fun _ => et_test (ed_op (ed_var l1) (ed_c .non) rd_isN))) g3.fh (fun z4 F4 H4 g4 => ?_) fun z4 F4 H4 g4 => ?_
          · have m0 := l0.mono g4.fs
            have m1 := l1.mono g4.fs
            refine w_ret (ed_andV (ed_op (ed_var m0) (ed_c .non) rd_isN) (fun _ => ed_op (ed_var m1) (ed_c .non) rd_isN)) g4.fh fun v F5 H5 g5 p5 => k v F5 H5 (((G.trans g3).trans g4).trans g5) ?_
            have e : (isNo x && isNo y) = sameD x y := by cases x <;> cases y <;> simp_all [isB, isI, isT, isNo, sameD]
            rw [e] at p5
            exact p5
          · simp only [Bool.or_eq_false_iff] at z4
            have m0 := l0.mono g4.fs
            have m1 := l1.mono g4.fs
            refine w_ret (ed_andV (ed_isS (ed_var m0)) (fun e1 => ed_andV (ed_isS (ed_var m1)) (fun e2 => ed_eqS (ed_var m0) (ed_var m1) e1 e2))) g4.fh fun v F5 H5 g5 p5 => k v F5 H5 (((G.trans g3).trans g4).trans g5) ?_
            have e : (isS x && (isS y && sameD x y)) = sameD x y := by cases x <;> cases y <;> simp_all [isB, isI, isT, isNo, isS, sameD]
            rw [e] at p5
            exact p5
end
end K74
set_option Elab.async false
set_option linter.all false
set_option maxRecDepth 100000
set_option maxHeartbeats 4000000
namespace K74
open PySem PySem.Spec PyProof.Rows L2 PD
/-! ### the module's constants -/
def ST0 : PyData := .tuple [.str "post", .str "x", .tuple [.str "", .int 0]]
def ST1 : PyData := .tuple [.str "post", .str "x", .tuple [.str "a", .int 0]]
def ST2 : PyData := .tuple [.str "set", .str "a", .tuple [.str "", .int 0]]
def ST3 : PyData := .tuple [.str "set", .str "a", .tuple [.str "", .int 1]]
def ST4 : PyData := .tuple [.str "set", .str "a", .tuple [.str "a", .int 1]]
def STM : List PyData := [ST0, ST1, ST2, ST3, ST4]
def TST : List PyData := [.none, .tuple [.tuple [.str "a", .int 0], .str "<", .tuple [.str "", .int 1]], .tuple [.tuple [.str "a", .int 0], .str "=", .tuple [.str "", .int 0]]]
structure Cn (K : PySem.W.Frag) (mg : Str → Option Value) : Prop where
  g_MOST : ∃ t, mg "MOST" = some (.int 3 t)
  g_STATEMENTS : mg "STATEMENTS" = some (.ref (He.ga K "STATEMENTS"))
  g_TESTS : mg "TESTS" = some (.ref (He.ga K "TESTS"))
  st : ∀ H, Dp K H (.ref (He.ga K "STATEMENTS")) (.tuple STM)
  te : ∀ H, Dp K H (.ref (He.ga K "TESTS")) (.tuple TST)
/-! ### mathematics -/
def toN : PyData → Nat
  | .int i => i.toNat
  | _ => 0
theorem whole_int {d : PyData} {lo hi : Int} (h : isWhole d lo hi = true) (h0 : 0 ≤ lo) : d = .int (toN d : Nat) ∧ lo ≤ (toN d : Nat) ∧ (toN d : Nat) ≤ hi := by
  cases d with
  | int i =>
    simp only [isWhole, Bool.and_eq_true, decide_eq_true_eq] at h
    have e : ((i.toNat : Nat) : Int) = i := Int.toNat_of_nonneg (by omega)
    exact ⟨by rw [toN, e], by rw [toN, e]; exact h.1, by rw [toN, e]; exact h.2⟩
  | _ => cases h
def badMany (d : PyData) : Out := .ex "BadNumber" ["what", "number"] [.str "many", d]
def needMany (d : PyData) : Out := if isWhole d 0 3 = true then .ok .none else badMany d
def countParts (d : PyData) : Out := if isWhole d 0 3 = true then .ok (.int ((3 * 5 ^ toN d : Nat) : Int)) else badMany d
abbrev spNeed (K : PySem.W.Frag) : Sp := OSp K (fun a : PyData => [a]) (fun _ => True) needMany
abbrev spCountRows (K : PySem.W.Frag) : Sp := PSp K (fun n : Nat => [.int (n : Nat)]) (fun n => n ≤ 3) (fun n => .int ((5 ^ n : Nat) : Int))
abbrev spCountParts (K : PySem.W.Frag) : Sp := OSp K (fun a : PyData => [a]) (fun _ => True) countParts
theorem osp_len {K : PySem.W.Frag} {α : Type} {args : α → List PyData} {dom : α → Prop} {res : α → Out} {n : Nat} (h : ∀ a, (args a).length = n) : ∀ vs H Q E, OSp K args dom res vs H Q E → vs.length = n := fun vs H Q E ⟨a, F, s, p, _⟩ => by rw [dpAll_len p, h]
section
variable {P : Program} {w : World} {K : PySem.W.Frag} {mg : Str → Option Value} {base : Heap} {fd : FuncData}
theorem ok_BadNumber_init (F : FnP K "__init__" "BadNumber.__init__" s_BadNumber_init [] (He.ma K (He.ga K "BadNumber") "__init__") fd) (T : OexC K (He.ga K "BadNumber")) (n1 : PySem.W.findIn K (.ref (He.ga K "BadNumber")) "what" = some none)
    (n2 : PySem.W.findIn K (.ref (He.ga K "BadNumber")) "number" = some none) : FnOk P w K mg base (L2.CX P w) 1 (He.ma K (He.ga K "BadNumber") "__init__") fd ["self", "what", "number"] (spXInit (He.ga K "BadNumber") ["what", "number"]) := by
  refine F.ok s_BadNumber_init_S (fun vs H Q E h => ?_) (fun cdv A outer s H vs Q E hr h => ?_)
  · obtain ⟨a, ws, rfl, e, _⟩ := h
    rw [List.length_cons, e] <;> rfl
  · obtain ⟨a, ws, rfl, e, ha, k⟩ := h
    obtain ⟨v1, v2, rfl⟩ : ∃ v1 v2, ws = [v1, v2] := by
      match ws, e with
      | [v1, v2], _ => exact ⟨v1, v2, rfl⟩
    refine ⟨_, pss_cons (ps_ost (pv 0) (pv 1)) (pss_one (ps_ost (pv 0) (pv 2))), ?_⟩
    refine ⟨v1, rfl, .ref a, rfl, a, _, rfl, T, n1, Or.inl ⟨ha, fun dx nd ne => ?_⟩⟩
    refine ⟨v2, rfl, .ref a, rfl, a, _, rfl, T, n2, Or.inr ⟨dx, _, upd_same, by rw [upd_ne ne, upd_same], by show 1 ≤ 900; decide, ?_⟩⟩
    refine k dx _ nd ne ?_ ?_ fun b b1 b2 => ?_
    · rw [upd_ne (Ne.symm ne), upd_same]
    · rw [upd_same]
      rfl
    · rw [upd_ne b2, upd_ne b1, upd_ne b2]
theorem ok_BadRow_init (F : FnP K "__init__" "BadRow.__init__" s_BadRow_init [] (He.ma K (He.ga K "BadRow") "__init__") fd) (T : OexC K (He.ga K "BadRow")) (n1 : PySem.W.findIn K (.ref (He.ga K "BadRow")) "what" = some none)
    (n2 : PySem.W.findIn K (.ref (He.ga K "BadRow")) "row" = some none) : FnOk P w K mg base (L2.CX P w) 1 (He.ma K (He.ga K "BadRow") "__init__") fd ["self", "what", "row"] (spXInit (He.ga K "BadRow") ["what", "row"]) := by
  refine F.ok s_BadRow_init_S (fun vs H Q E h => ?_) (fun cdv A outer s H vs Q E hr h => ?_)
  · obtain ⟨a, ws, rfl, e, _⟩ := h
    rw [List.length_cons, e] <;> rfl
  · obtain ⟨a, ws, rfl, e, ha, k⟩ := h
    obtain ⟨v1, v2, rfl⟩ : ∃ v1 v2, ws = [v1, v2] := by
      match ws, e with
      | [v1, v2], _ => exact ⟨v1, v2, rfl⟩
    refine ⟨_, pss_cons (ps_ost (pv 0) (pv 1)) (pss_one (ps_ost (pv 0) (pv 2))), ?_⟩
    refine ⟨v1, rfl, .ref a, rfl, a, _, rfl, T, n1, Or.inl ⟨ha, fun dx nd ne => ?_⟩⟩
    refine ⟨v2, rfl, .ref a, rfl, a, _, rfl, T, n2, Or.inr ⟨dx, _, upd_same, by rw [upd_ne ne, upd_same], by show 1 ≤ 900; decide, ?_⟩⟩
    refine k dx _ nd ne ?_ ?_ fun b b1 b2 => ?_
    · rw [upd_ne (Ne.symm ne), upd_same]
    · rw [upd_same]
      rfl
    · rw [upd_ne b2, upd_ne b1, upd_ne b2]
theorem ok_need_many (a : At K mg "need_many" s_need_many [] ["many"] fd) (B : Bl mg) (M : Cn K mg) (G_is_whole : Fnk P w K mg base 1 "is_whole" ["value", "least", "most"] (spIsWhole K)) (X_BadNumber : XC P w K mg base "BadNumber" ["what", "number"]) :
    FnOk P w K mg base (L2.CX P w) 3 (He.ga K "need_many") fd ["many"] (spNeed K) := by
  refine a.F.ok s_need_many_S (osp_len fun _ => rfl) (fun cdv A outer s H vs Q E hr h => ?_)
  obtain ⟨d, F, sF, p, -, k⟩ := h
  obtain ⟨v0, rfl, p0⟩ := dpAll_one p
  obtain ⟨t3, g3⟩ := M.g_MOST
  refine ⟨_, (pss_one (ps_if (pt_not (pt_val (pe_fn G_is_whole (hr.mono (by decide)) (by rfl) passL (pa_cons (pv 0) (pa_cons pe_int (pa_cons (pe_glob (v := .int 3) (by rfl) g3 ⟨_, rfl⟩) pa_nil))))))
    (pss_one (ps_rs rfl takeD X_BadNumber hr (by rfl) (pa_cons pe_str (pa_cons (pv 0) pa_nil)))) pss_nil)), ?_⟩
  refine w_if (et_not (et_B (ed_call (d, 0, 3) (eds_cons (ed_var ⟨v0, rfl, p0⟩) (eds_cons (ed_c (.int 0)) (eds_cons (ed_c (.int 3)) eds_nil))) trivial))) sF (fun z F1 H1 g1 => ?_) fun z F1 H1 g1 => ?_
  · have e : isWhole d 0 3 = false := by simpa using z
    refine w_raise (eds_cons (ed_c (.str _)) (eds_cons (ed_var ⟨v0, rfl, dp_same g1.fs p0⟩) eds_nil)) g1.fh rfl (by decide) ?_
    unfold needMany badMany at k
    rw [e] at k
    exact XOut.after g1 k
  · have e : isWhole d 0 3 = true := by simpa using z
    unfold needMany at k
    rw [e] at k
    exact k .non F1 H1 g1 .non
end
end K74
set_option Elab.async false
set_option linter.all false
set_option maxRecDepth 100000
set_option maxHeartbeats 4000000
namespace K74
open PySem PySem.Spec PyProof.Rows L2 PD
theorem ex_args {K : PySem.W.Frag} {E E' : XK} {sp : Sp} {ta : TA} {σ : L2.St} {F : Hp} {C : Str} {ns : List Str} {ds : List PyData} (h : EvXs K E ta σ F C ns ds) : EvX K E (tCall sp [] E' ta) σ F C ns ds := fun H s Q q => h H s _ q
/-! ### mathematics -/
def stm (j : Nat) : PyData := STM.getD j .none
/-- the digits by five, the last one first -/
def digits (n p : Nat) : List PyData := (List.range n).map fun i => stm (p / 5 ^ i % 5)
def rowsAt (a : PyData × PyData) : Out :=
  if isWhole a.1 0 3 = true then
    (if isWhole a.2 0 ((3 * 5 ^ toN a.1 : Nat) - 1 : Int) = true then .ok (.tuple [.int ((toN a.2 / 5 ^ toN a.1 : Nat) : Int), .tuple (digits (toN a.1) (toN a.2)).reverse])
     else .ex "BadNumber" ["what", "number"] [.str "place", a.2])
  else badMany a.1
abbrev spRowsAt (K : PySem.W.Frag) : Sp := OSp K (fun a : PyData × PyData => [a.1, a.2]) (fun _ => True) rowsAt
theorem digits_succ (n p : Nat) : digits (n + 1) p = digits n p ++ [stm (p / 5 ^ n % 5)] := by
  unfold digits
  rw [List.range_succ, List.map_append] <;> rfl
theorem digits_len (n p : Nat) : (digits n p).length = n := by
  unfold digits
  rw [List.length_map, List.length_range]
theorem stm_at {j : Nat} (h : j < 5) : atI STM (j : Int) = some (stm j) := by
  apply atI_nat
  unfold stm
  rw [List.getD_eq_getElem?_getD]
  have h2 : j < STM.length := h
  simp [h2]
theorem div_pow (p i : Nat) : p / 5 ^ i / 5 = p / 5 ^ (i + 1) := by rw [Nat.div_div_eq_div_mul, Nat.pow_succ]
section
variable {P : Program} {w : World} {K : PySem.W.Frag} {mg : Str → Option Value} {base : Heap} {fd : FuncData}
theorem ok_count_rows (a : At K mg "count_rows" s_count_rows [] ["many"] fd) (B : Bl mg) (M : Cn K mg) : FnOk P w K mg base (L2.CX P w) 1 (He.ga K "count_rows") fd ["many"] (spCountRows K) := by
  refine a.F.ok s_count_rows_S (psp_len fun _ => rfl) (fun cdv A outer s H vs Q E hr h => ?_)
  obtain ⟨n, F, sF, p, dom, k⟩ := h
  obtain ⟨v0, rfl, p0⟩ := dpAll_one p
  refine ⟨_, (pss_cons (ps_set (i := 1) s_count_rows_S.nd rfl (Or.inl rfl) pe_int)
      (pss_cons (ps_for ownD rfl (pi_range1 (by rfl) B.range (pa_cons (pv 0) pa_nil)) (pg_name (i := 2) s_count_rows_S.nd rfl (Or.inl rfl)) (pss_one (ps_set (i := 1) s_count_rows_S.nd rfl (Or.inl rfl) (pe_op op_mul (pv 1) (pe_callB call_len (by rfl) B.len PySem.boot_len (pa_cons (pe_glob (v := .ref (He.ga K "STATEMENTS")) (by rfl) M.g_STATEMENTS rfl) pa_nil))))))
      (pss_one (ps_ret (pv 1))))), ?_⟩
  refine w_seq (w_asgC ?_)
  refine w_seq (w_for (Grow.refl sF) (it_range1 (ed_var ⟨v0, rfl, p0⟩) (by omega) (by omega)) (fun i σ' F' H' => ∃ t, σ' = [some v0, some (.int ((5 ^ i : Nat) : Int)), t]) (fun F1 H1 g => ⟨none, rfl⟩) (fun i σ' F' H' e x F2 H2 he s1 gg h g px => ?_) (fun σ' F' H' s1 gg h => ?_))
  · obtain ⟨t, rfl⟩ := h
    have hi : i < 3 := by
      have h1 := (List.getElem?_eq_some_iff.mp he).1
      rw [upTo_len] at h1
      omega
    refine w_asg (F := F2) (d := .int ((5 ^ (i + 1) : Nat) : Int)) (ed_is (ed_op (ed_var ⟨_, rfl, .int _⟩) (ed_lenT (n := 0) (ed_c (M.st _))) (rd_I (C := CMul) (f := fun i j => i * j) (.inl ?_))) ?_) g.fh fun v F3 H3 g3 p3 => ?_
    · have e : ((5 ^ i : Nat) : Int) ≤ ((125 : Nat) : Int) := Int.ofNat_le.mpr (Nat.le_trans (Nat.pow_le_pow_right (by decide) (show i ≤ 3 by omega)) (by decide))
      have h0 : (0 : Int) ≤ ((5 ^ i : Nat) : Int) := Int.natCast_nonneg _
      exact ⟨Int.lt_of_lt_of_le (by decide) h0, Int.lt_of_le_of_lt e (by decide)⟩
    · show PyData.int ((5 ^ i : Nat) * ((5 : Nat) : Int)) = _
      rw [Nat.pow_succ, Int.natCast_mul]
    · refine ⟨F3, (g.trans g3).fs, gg.trans (g.trans g3), some x, ?_⟩
      rw [dp_int p3]
      rfl
  · obtain ⟨t, rfl⟩ := h
    rw [upTo_len]
    exact ⟨_, rfl, k _ F' H' gg (.int _)⟩
theorem ok_count_parts (a : At K mg "count_parts" s_count_parts [] ["many"] fd) (B : Bl mg) (M : Cn K mg) (G_need_many : Fnk P w K mg base 3 "need_many" ["many"] (spNeed K)) (G_count_rows : Fnk P w K mg base 1 "count_rows" ["many"] (spCountRows K)) :
    FnOk P w K mg base (L2.CX P w) 4 (He.ga K "count_parts") fd ["many"] (spCountParts K) := by
  refine a.F.ok s_count_parts_S (osp_len fun _ => rfl) (fun cdv A outer s H vs Q E hr h => ?_)
  obtain ⟨d, F, sF, p, -, k⟩ := h
  obtain ⟨v0, rfl, p0⟩ := dpAll_one p
  refine ⟨_, (pss_cons (ps_expr (pe_fn G_need_many (hr.mono (by decide)) (by rfl) passD (pa_cons (pv 0) pa_nil)))
      (pss_one (ps_ret (pe_op op_mul (pe_callB call_len (by rfl) B.len PySem.boot_len (pa_cons (pe_glob (v := .ref (He.ga K "TESTS")) (by rfl) M.g_TESTS rfl) pa_nil)) (pe_fn G_count_rows (hr.mono (by decide)) (by rfl) passL (pa_cons (pv 0) pa_nil)))))), ?_⟩
  unfold countParts at k
  cases e : isWhole d 0 3 with
  | false =>
    rw [e] at k
    exact ex_callO (res := needMany) d (eds_cons (ed_var ⟨v0, rfl, p0⟩) eds_nil) trivial (by unfold needMany; rw [e]; rfl) H sF _ k
  | true =>
    rw [e] at k
    obtain ⟨ed, e1, e2⟩ := whole_int e (by decide)
    refine w_drop (ed_callO (d := .none) (res := needMany) d (eds_cons (ed_var ⟨v0, rfl, p0⟩) eds_nil) trivial (by unfold needMany; rw [e]; rfl)) sF fun F1 H1 g1 => ?_
    have i0 : Sl K (start s_count_parts_N [v0]) F1 0 (.int (toN d : Nat)) := ⟨v0, rfl, by rw [← ed]; exact dp_same g1.fs p0⟩
    refine w_ret (ed_is (ed_op (ed_lenT (n := 0) (ed_c (M.te _))) (ed_call (res := fun n => .int ((5 ^ n : Nat) : Int)) (toN d) (eds_cons (ed_var i0) eds_nil) (by omega)) (rd_I (C := CMul) (f := fun i j => i * j) (.inl (by decide)))) ?_) g1.fh fun v F2 H2 g2 p2 => k v F2 H2 (g1.trans g2) p2
    show PyData.int ((3 : Int) * (5 ^ toN d : Nat)) = _
    rw [Int.natCast_mul]
    rfl
theorem ok_rows_at (a : At K mg "rows_at" s_rows_at [] ["many", "place"] fd) (B : Bl mg) (M : Cn K mg) (G_is_whole : Fnk P w K mg base 1 "is_whole" ["value", "least", "most"] (spIsWhole K)) (G_count_parts : Fnk P w K mg base 4 "count_parts" ["many"] (spCountParts K)) (X_BadNumber : XC P w K mg base "BadNumber" ["what", "number"]) :
    FnOk P w K mg base (L2.CX P w) 5 (He.ga K "rows_at") fd ["many", "place"] (spRowsAt K) := by
  refine a.F.ok s_rows_at_S (osp_len fun _ => rfl) (fun cdv A outer s H vs Q E hr h => ?_)
  obtain ⟨⟨d, e⟩, F, sF, p, -, k⟩ := h
  obtain ⟨v0, v1, rfl, p0, p1⟩ := dpAll_two p
  refine ⟨_, (pss_cons (ps_if (pt_not (pt_val (pe_fn G_is_whole (hr.mono (by decide)) (by rfl) passL (pa_cons (pv 1) (pa_cons pe_int (pa_cons (pe_op op_sub (pe_fn G_count_parts (hr.mono (by decide)) (by rfl) passD (pa_cons (pv 0) pa_nil)) pe_int) pa_nil)))))) (pss_one (ps_rs rfl takeD X_BadNumber (hr.mono (by decide)) (by rfl) (pa_cons pe_str (pa_cons (pv 1) pa_nil)))) pss_nil)
      (pss_cons (ps_par (i := 2) (j := 3) (by rfl) s_rows_at_S.nd rfl rfl (by decide) rfl rfl (pa_cons (pe_lst pa_nil) (pa_cons (pv 1) pa_nil)) (by rfl))
      (pss_cons (ps_for ownD rfl (pi_range1 (by rfl) B.range (pa_cons (pv 0) pa_nil)) (pg_name (i := 4) s_rows_at_S.nd rfl (Or.inl rfl)) (pss_cons (ps_expr (pe_bm PySem.F.plainAttrs_list PySem.F.slot_list_append PySem.F.type_list_append mt_append (pv 2) (pa_cons (pe_ix ix_tup (pe_glob (v := .ref (He.ga K "STATEMENTS")) (by rfl) M.g_STATEMENTS rfl) (pe_op op_mod (pv 3) (pe_callB call_len (by rfl) B.len PySem.boot_len (pa_cons (pe_glob (v := .ref (He.ga K "STATEMENTS")) (by rfl) M.g_STATEMENTS rfl) pa_nil))) (fun _ _ => rfl)) pa_nil)))
      (pss_one (ps_set (i := 3) s_rows_at_S.nd rfl (Or.inl rfl) (pe_op op_fdiv (pv 3) (pe_callB call_len (by rfl) B.len PySem.boot_len (pa_cons (pe_glob (v := .ref (He.ga K "STATEMENTS")) (by rfl) M.g_STATEMENTS rfl) pa_nil)))))))
      (pss_one (ps_ret (pe_tup (pa_cons (pv 3) (pa_cons (pe_callTy call_tuple_of (by rfl) B.tuple boot_tuple (pa_cons (pe_revL (pv 2)) pa_nil)) pa_nil)))))))), ?_⟩
  have i0 : Sl K (start s_rows_at_N [v0, v1]) F 0 d := ⟨v0, rfl, p0⟩
  have i1 : Sl K (start s_rows_at_N [v0, v1]) F 1 e := ⟨v1, rfl, p1⟩
  unfold rowsAt at k
  cases q : isWhole d 0 3 with
  | false =>
    rw [q] at k
    exact ex_args (exs_cons (ed_var i1) (exs_cons (ed_c (.int 0)) (exs_here (ex_op1 (ex_callO (res := countParts) d (eds_cons (ed_var i0) eds_nil) trivial (by unfold countParts; rw [q]; rfl)))))) H sF _ k
  | true =>
    obtain ⟨ed, e1, e2⟩ := whole_int q (by decide)
    simp only [q, if_true] at k
    refine w_seq (w_if (et_not (et_B (ed_call (res := fun a : PyData × Int × Int => .bool (isWhole a.1 a.2.1 a.2.2)) (e, 0, ((3 * 5 ^ toN d : Nat) - 1 : Int)) (eds_cons (ed_var i1) (eds_cons (ed_c (.int 0)) (eds_cons (ed_op (ed_callO (d := .int ((3 * 5 ^ toN d : Nat) : Int)) (res := countParts) d (eds_cons (ed_var i0) eds_nil) trivial (by unfold countParts; rw [q]; rfl)) (ed_c (.int 1)) rd_I0) eds_nil))) trivial))) sF (fun z F1 H1 g1 => ?_) fun z F1 H1 g1 => ?_)
    · have z2 : isWhole e 0 ((3 * 5 ^ toN d : Nat) - 1 : Int) = false := by simpa using z
      rw [z2] at k
      exact w_raise (eds_cons (ed_c (.str _)) (eds_cons (ed_var (i1.mono g1.fs)) eds_nil)) g1.fh rfl (by decide) (XOut.after g1 k)
    · have z2 : isWhole e 0 ((3 * 5 ^ toN d : Nat) - 1 : Int) = true := by simpa using z
      rw [z2] at k
      obtain ⟨ee, e3, e4⟩ := whole_int z2 (by decide)
      -- rows, left = ([], place)
      have ev : v1 = .int (toN e : Nat) := dp_int (K := K) (F := F) (by rw [← ee]; exact p1)
      refine w_next (w_seq ⟨by show 0 ≤ sizeLine; decide, fun l hl => ⟨v1, rfl, _, _, rfl, ?_⟩⟩)
      obtain ⟨g2, nl, fl⟩ := g1.lay (o := .lst []) hl
      refine w_seq (w_for (F := F1) (σ := [some v0, some v1, some (.ref l), some v1, none]) g2 (it_range1 (n := (toN d : Nat)) (ed_var ⟨v0, rfl, by rw [← ed]; exact dp_same g1.fs p0⟩) (by omega) (by omega))
        (fun i σ' F' H' => F' l = none ∧ ∃ vs t, H' l = some (.lst vs) ∧ DpAll K F' vs (digits i (toN e)) ∧ σ' = [some v0, some v1, some (.ref l), some (.int ((toN e / 5 ^ i : Nat) : Int)), t])
        (fun F2 H2 g => ⟨g.out l fl (by rw [upd_same]; simp), [], none, g.hs _ _ upd_same, .nil, by rw [ev, Nat.pow_zero, Nat.div_one]⟩) (fun i σ' F' H' e' x F2 H2 he s1 gg h g px => ?_) (fun σ' F' H' s1 gg h => ?_))
      · obtain ⟨f', vs, t, h', pa, rfl⟩ := h
        have f2 : F2 l = none := g.out l f' (by rw [h']; simp)
        have hi : i < toN d := by
          have h1 := (List.getElem?_eq_some_iff.mp he).1
          rw [upTo_len] at h1
          omega
        refine w_seq (w_app (l := l) (vs := vs) (d := stm (toN e / 5 ^ i % 5)) rfl g.fh f2 (g.hs _ _ h') (by rw [dpAll_len pa, digits_len]; omega)
          (ed_op (ed_c (M.st _)) (ed_is (ed_op (x := .int ((toN e / 5 ^ i : Nat) : Int)) (ed_var ⟨_, rfl, .int _⟩) (ed_lenT (n := 0) (ed_c (M.st _))) (rd_I (C := fun _ j => 0 < j) (f := fun i j => i % j) (by decide))) (show PyData.int (((toN e / 5 ^ i : Nat) : Int) % ((5 : Nat) : Int)) = .int ((toN e / 5 ^ i % 5 : Nat) : Int) from by rw [Int.natCast_emod])) (rd_ixT (stm_at (Nat.mod_lt _ (by decide))))) fun v F3 H3 g3 f3 h3 p3 => ?_)
        have fin : Same F3 (upd H3 l (.lst (vs ++ [v]))) := same_lay g3.fh f3
        refine w_asg (F := F3) (d := .int ((toN e / 5 ^ (i + 1) : Nat) : Int)) (ed_is (ed_op (x := .int ((toN e / 5 ^ i : Nat) : Int)) (ed_var ⟨_, rfl, .int _⟩) (ed_lenT (n := 0) (ed_c (M.st _))) (rd_I (C := CDiv) (f := fun i j => i / j) ⟨by decide, by decide⟩)) ?_) fin fun v2 F4 H4 g4 p4 => ?_
        · show PyData.int (((toN e / 5 ^ i : Nat) : Int) / ((5 : Nat) : Int)) = _
          rw [← Int.natCast_ediv, div_pow]
        · refine ⟨F4, (g.trans g3).fs.trans g4.fs, (Grow.own (gg.trans (g.trans g3)) nl f3).trans g4, g4.out l f3 (by rw [upd_same]; simp), vs ++ [v], some x, g4.hs _ _ upd_same, ?_, ?_⟩
          · rw [digits_succ]
            exact dpAll_app (dpAll_same ((g.trans g3).fs.trans g4.fs) pa) (.cons (dp_same g4.fs p3) .nil)
          · rw [dp_int p4]
            rfl
      · obtain ⟨f', vs, t, h', pa, rfl⟩ := h
        rw [upTo_len, Int.toNat_natCast] at pa
        rw [upTo_len, Int.toNat_natCast]
        have g9 := gg.freeze nl f' h'
        have sl : Sl K [some v0, some v1, some (.ref l), some (.int ((toN e / 5 ^ toN d : Nat) : Int)), t] (upd F' l (.lst vs)) 2 (.list (digits (toN d) (toN e))) := ⟨.ref l, rfl, .lst (SqL.of upd_same) (dpAll_same (same_upd f') pa)⟩
        exact w_ret (ed_tup (eds_cons (x := .int ((toN e / 5 ^ toN d : Nat) : Int)) (ed_var ⟨_, rfl, .int _⟩) (eds_cons (ed_cb (eds_cons (ed_of_el (el_rev (ed_var sl))) eds_nil) (rc_tupleOf (.inl rfl))) eds_nil)) (by show 2 ≤ sizeLine; decide)) g9.fh fun v F2 H2 g p => k v F2 H2 (g9.trans g) p
end
end K74
set_option Elab.async false
set_option linter.all false
set_option maxRecDepth 100000
set_option maxHeartbeats 4000000
namespace K74
open PySem PySem.Spec PyProof.Rows L2 PD
/-! ### a Deed -/
def deedFs (a b c d : V) : List (Str × V) := putF "parts" d (putF "boxes" c (putF "passing" b (putF "kept" a [])))
theorem deedFs_get (a b c d : V) : (deedFs a b c d).lookup ("kept" : Str) = some a ∧ (deedFs a b c d).lookup ("passing" : Str) = some b ∧ (deedFs a b c d).lookup ("boxes" : Str) = some c ∧ (deedFs a b c d).lookup ("parts" : Str) = some d := by
  unfold deedFs
  refine ⟨?_, ?_, ?_, ?_⟩
  · rw [lookup_putF, if_neg (by decide +kernel), lookup_putF, if_neg (by decide +kernel), lookup_putF, if_neg (by decide +kernel), lookup_putF, if_pos rfl]
  · rw [lookup_putF, if_neg (by decide +kernel), lookup_putF, if_neg (by decide +kernel), lookup_putF, if_pos rfl]
  · rw [lookup_putF, if_neg (by decide +kernel), lookup_putF, if_pos rfl]
  · rw [lookup_putF, if_pos rfl]
structure DeedC (K : PySem.W.Frag) (C : Addr) : Prop where
  cl : Cls K C
  n1 : NoAttr K C "kept"
  n2 : NoAttr K C "passing"
  n3 : NoAttr K C "boxes"
  n4 : NoAttr K C "parts"
abbrev depth : Nat := 8
def spDeedInit (K : PySem.W.Frag) (C : Addr) : Sp := fun vs H Q _ => ∃ (a dx : Addr) (us : List V) (ds : List PyData) (F : Hp), vs = .ref a :: us ∧ H a = some (.ins C dx []) ∧ F a = none ∧ Same F H ∧ DpAll K F us ds ∧ ds.length = 4 ∧ fitAll depth ds = true ∧
  ∀ v1 v2 v3 v4 F2 H2, Same F F2 → Same F2 H2 → (∀ b o, b ≠ a → H b = some o → H2 b = some o) → (∀ b, F b = none → H b ≠ none → F2 b = none) → H2 a = some (.ins C dx (deedFs v1 v2 v3 v4)) → DpAll K F2 [v1, v2, v3, v4] (ds.map asT) → Q .non H2
/-- one field more -/
theorem w_fld {K : PySem.W.Frag} {σ : L2.St} {F H : Hp} {tv : TE} {D : Ends} {a C dx : Addr} {fs : List (Str × V)} {d : PyData} {f : Str} {i : Nat} (h : EvD K tv σ F d) (s : Same F H) (hσ : σ[i]? = some (some (.ref a))) (ha : H a = some (.ins C dx fs)) (fa : F a = none) (c : Cls K C) (n : NoAttr K C f) (hl : fs.length < 1000)
    (k : ∀ v F1 H1, Grow F H F1 H1 → F1 a = none → Same F1 (upd H1 a (.ins C dx (putF f v fs))) → Dp K F1 v d → D.nx σ (upd H1 a (.ins C dx (putF f v fs)))) : sFld K (tVar i) tv f D σ H := h H s _ fun v F1 H1 g p => by
  have f1 : F1 a = none := g.out a fa (by rw [ha]; simp)
  exact ⟨.ref a, hσ, a, C, dx, fs, rfl, g.hs _ _ ha, c, n, hl, k v F1 H1 g f1 (same_lay g.fh f1) p⟩
theorem putF_len (f : Str) (v : V) (fs : List (Str × V)) (n : Nat) (h : fs.length ≤ n) : (putF f v fs).length ≤ n + 1 := Nat.le_trans (length_putF f v fs) (by omega)
section
variable {P : Program} {w : World} {K : PySem.W.Frag} {mg : Str → Option Value} {base : Heap} {fd : FuncData}
theorem ok_Deed_init (F : FnP K "__init__" "Deed.__init__" s_Deed_init [] (He.ma K (He.ga K "Deed") "__init__") fd) (T : DeedC K (He.ga K "Deed")) (G_as_tuples : Fnk P w K mg base (depth + 1) "as_tuples" ["value"] (spAsT K depth)) :
    FnOk P w K mg base (L2.CX P w) (depth + 2) (He.ma K (He.ga K "Deed") "__init__") fd ["self", "kept", "passing", "boxes", "parts"] (spDeedInit K (He.ga K "Deed")) := by
  refine F.ok s_Deed_init_S (fun vs H Q E h => ?_) (fun cdv A outer s H vs Q E hr h => ?_)
  · obtain ⟨a, dx, us, ds, F, rfl, _, _, _, pa, hl, _⟩ := h
    rw [List.length_cons, dpAll_len pa, hl] <;> rfl
  · obtain ⟨a, dx, us, ds, F, rfl, ha, fa, sF, pa, hl, hf, k⟩ := h
    match ds, hl with
    | [d1, d2, d3, d4], _ =>
      cases pa with
      | @cons u1 _ _ _ p1 pa =>
        obtain ⟨u2, u3, u4, rfl, p2, p3, p4⟩ := dpAll_three pa
        refine ⟨_, (pss_cons (ps_fld (pv 0) (pe_fn G_as_tuples (hr.mono (by decide)) (by rfl) passL (pa_cons (pv 1) pa_nil)) rfl)
      (pss_cons (ps_fld (pv 0) (pe_fn G_as_tuples (hr.mono (by decide)) (by rfl) passL (pa_cons (pv 2) pa_nil)) rfl)
      (pss_cons (ps_fld (pv 0) (pe_fn G_as_tuples (hr.mono (by decide)) (by rfl) passL (pa_cons (pv 3) pa_nil)) rfl)
      (pss_one (ps_fld (pv 0) (pe_fn G_as_tuples (hr.mono (by decide)) (by rfl) passL (pa_cons (pv 4) pa_nil)) rfl))))), ?_⟩
        refine w_seq ?_
        refine w_fld (σ := start s_Deed_init_N [.ref a, u1, u2, u3, u4]) (i := 0) (ed_call (res := asT) d1 (eds_cons (ed_var (i := 1) ⟨u1, rfl, p1⟩) eds_nil) (fitAll_mem hf d1 (by simp))) sF (by rfl) ha fa T.cl T.n1 (by show 0 < 1000; decide) fun v1 F1 H1 g1 f1 s1 q1 => ?_
        dsimp only
        refine w_seq ?_
        refine w_fld (σ := start s_Deed_init_N [.ref a, u1, u2, u3, u4]) (i := 0) (ed_call (res := asT) d2 (eds_cons (ed_var (i := 2) ⟨u2, rfl, dp_same g1.fs p2⟩) eds_nil) (fitAll_mem hf d2 (by simp))) s1 (by rfl) upd_same f1 T.cl T.n2 (Nat.lt_of_le_of_lt (putF_len _ _ _ 0 (Nat.le_refl _)) (by decide)) fun v2 F2 H2 g2 f2 s2 q2 => ?_
        dsimp only
        refine w_seq ?_
        refine w_fld (σ := start s_Deed_init_N [.ref a, u1, u2, u3, u4]) (i := 0) (ed_call (res := asT) d3 (eds_cons (ed_var (i := 3) ⟨u3, rfl, dp_same (g1.fs.trans g2.fs) p3⟩) eds_nil) (fitAll_mem hf d3 (by simp))) s2 (by rfl) upd_same f2 T.cl T.n3 (Nat.lt_of_le_of_lt (putF_len _ _ _ 1 (putF_len _ _ _ 0 (Nat.le_refl _))) (by decide)) fun v3 F3 H3 g3 f3 s3 q3 => ?_
        dsimp only
        refine w_fld (σ := start s_Deed_init_N [.ref a, u1, u2, u3, u4]) (i := 0) (ed_call (res := asT) d4 (eds_cons (ed_var (i := 4) ⟨u4, rfl, dp_same ((g1.fs.trans g2.fs).trans g3.fs) p4⟩) eds_nil) (fitAll_mem hf d4 (by simp))) s3 (by rfl) upd_same f3 T.cl T.n4 (Nat.lt_of_le_of_lt (putF_len _ _ _ 2 (putF_len _ _ _ 1 (putF_len _ _ _ 0 (Nat.le_refl _)))) (by decide)) fun v4 F4 H4 g4 f4 s4 q4 => ?_
        refine k v1 v2 v3 v4 F4 _ (((g1.fs.trans g2.fs).trans g3.fs).trans g4.fs) s4 (fun b o hb e => ?_) (fun b n e => ?_) upd_same (.cons (dp_same ((g2.fs.trans g3.fs).trans g4.fs) q1) (.cons (dp_same (g3.fs.trans g4.fs) q2) (.cons (dp_same g4.fs q3) (.cons q4 .nil))))
        · rw [upd_ne hb]
          have e1 := g1.hs b o e
          have e2 := g2.hs b o (by rw [upd_ne hb]; exact e1)
          have e3 := g3.hs b o (by rw [upd_ne hb]; exact e2)
          exact g4.hs b o (by rw [upd_ne hb]; exact e3)
        · by_cases hb : b = a
          · rw [hb]
            exact f4
          · cases q : H b with
            | none => exact absurd q e
            | some o =>
              have e1 := g1.hs b o q
              have e2 := g2.hs b o (by rw [upd_ne hb]; exact e1)
              have e3 := g3.hs b o (by rw [upd_ne hb]; exact e2)
              have n1 := g1.out b n e
              have n2 := g2.out b n1 (by rw [upd_ne hb, e1]; simp)
              have n3 := g3.out b n2 (by rw [upd_ne hb, e2]; simp)
              exact g4.out b n3 (by rw [upd_ne hb, e3]; simp)
end
end K74
set_option Elab.async false
set_option linter.all false
set_option maxRecDepth 100000
set_option maxHeartbeats 4000000
namespace K74
open PySem PySem.Spec PyProof.Rows L2 PD
/-! ### mathematics -/
def AN : PyData := .tuple [.str "a", .int 0]
def smallBody (t : Nat) (R : PyData) : PyData := match t with
  | 0 => R
  | 1 => .tuple [.tuple [.str "if", AN, .str "<", .tuple [.str "", .int 1], R, .none]]
  | _ => .tuple [.tuple [.str "if", AN, .str "=", .tuple [.str "", .int 0], R, .none]]
def deedD (body : PyData) : List PyData := [.tuple [.str "a"], .tuple [], .tuple [.str "x"], .tuple [body]]
theorem stm_cases (j : Nat) : stm j ∈ [ST0, ST1, ST2, ST3, ST4, .none] := by
  unfold stm
  match j with
  | 0 => simp [STM]
  | 1 => simp [STM]
  | 2 => simp [STM]
  | 3 => simp [STM]
  | 4 => simp [STM]
  | j + 5 => simp [STM]
theorem asT_stm (j : Nat) : asT (stm j) = stm j := by
  have h := stm_cases j
  simp only [List.mem_cons, List.not_mem_nil, or_false] at h
  rcases h with h | h | h | h | h | h <;> rw [h] <;> simp [ST0, ST1, ST2, ST3, ST4, asT, asTs]
theorem fit_stm (n j : Nat) : fit (n + 3) (stm j) = true := by
  have h := stm_cases j
  simp only [List.mem_cons, List.not_mem_nil, or_false] at h
  rcases h with h | h | h | h | h | h <;> rw [h] <;> simp [ST0, ST1, ST2, ST3, ST4, fit, fitAll]
theorem asTs_digits (n p : Nat) : asTs (digits n p).reverse = (digits n p).reverse := by
  rw [asTs_map]
  have h : ∀ d ∈ (digits n p).reverse, asT d = d := fun d hd => by
    rw [List.mem_reverse] at hd
    unfold digits at hd
    obtain ⟨i, _, rfl⟩ := List.mem_map.mp hd
    exact asT_stm _
  exact (List.map_congr_left h).trans (List.map_id _)
theorem fitAll_of {n : Nat} : ∀ {ds : List PyData}, (∀ d ∈ ds, fit n d = true) → fitAll n ds = true
  | [], _ => by rw [fitAll]
  | d :: ds, h => by rw [fitAll, h d (List.mem_cons_self ..), fitAll_of fun e he => h e (List.mem_cons_of_mem _ he)] <;> rfl
theorem fit_digits (m n p : Nat) (h : n ≤ 1000) : fit (m + 4) (.tuple (digits n p).reverse) = true := by
  have h1 : fitAll (m + 3) (digits n p).reverse = true := fitAll_of fun d hd => by
    rw [List.mem_reverse] at hd
    unfold digits at hd
    obtain ⟨i, _, rfl⟩ := List.mem_map.mp hd
    exact fit_stm m _
  have h2 : (digits n p).reverse.length ≤ 1000 := by rw [List.length_reverse, digits_len]; exact h
  rw [show m + 4 = (m + 3) + 1 from rfl, fit, h1, decide_eq_true h2]
  rfl
theorem asT_deed (t n p : Nat) : (deedD (smallBody t (.tuple (digits n p).reverse))).map asT = deedD (smallBody t (.tuple (digits n p).reverse)) := by
  unfold deedD smallBody AN
  split <;> simp [asT, asTs, asTs_digits]
theorem fit_deed (t n p : Nat) (h : n ≤ 3) : fitAll depth (deedD (smallBody t (.tuple (digits n p).reverse))) = true := by
  have h3 : fit 5 (.tuple (digits n p).reverse) = true := fit_digits 1 n p (by omega)
  have h4 : fit 7 (.tuple (digits n p).reverse) = true := fit_digits 3 n p (by omega)
  revert h3 h4
  generalize PyData.tuple (digits n p).reverse = R
  intro h3 h4
  unfold deedD smallBody AN depth
  split <;> simp [fitAll, fit, h3, h4]
def XOr (K : PySem.W.Frag) (F H : Hp) (E : XK) (o : Out) (W : Prop) : Prop := match o with
  | .ex C ns ds => XOut K F H E C ns ds
  | .ok _ => W
def spSmallAt (K : PySem.W.Frag) (C : Addr) : Sp := fun vs H Q E => ∃ (a : PyData × PyData) (F : Hp), Same F H ∧ DpAll K F vs [a.1, a.2] ∧ XOr K F H E (rowsAt a)
  (∀ p dx v1 v2 v3 v4 F2 H2, Grow F H F2 H2 → H p = none → F2 p = none → H2 p = some (.ins C dx (deedFs v1 v2 v3 v4)) → DpAll K F2 [v1, v2, v3, v4] (deedD (smallBody (toN a.2 / 5 ^ toN a.1) (.tuple (digits (toN a.1) (toN a.2)).reverse))) → Q (.ref p) H2)
section
variable {P : Program} {w : World} {K : PySem.W.Frag} {mg : Str → Option Value} {base : Heap} {fd : FuncData}
/-- a class that is made by a call -/
structure MkC (P : Program) (w : World) (K : PySem.W.Frag) (mg : Str → Option Value) (base : Heap) (k : Nat) (x : Str) (ps : List Str) (sp : Sp) : Prop where
  M : Mk K (He.ga K x) (He.ma K (He.ga K x) "__init__")
  gC : mg x = some (.ref (He.ga K x))
  ex : ∃ fd, FnOk P w K mg base (L2.CX P w) k (He.ma K (He.ga K x) "__init__") fd ps sp ∧ Binds K fd ps []
theorem pe_mkC {X : Cx} {k : Nat} {ps : List Str} {sp : Sp} {E : XK} {x : Str} {p pos : Pos} {e : Expr} {es : List Expr} {t : TA} (G : MkC X.prog X.w X.K X.mg X.base k x ps sp) (hr : Room (k + 1) X.A) (hg : Gl X x) (hx : Passes (L2.CX X.prog X.w) X E) (ha : PA X (e :: es) t)
    (hdb : (x == ("__debug__" : Str)) = false := by decide) (he : starEach (e :: es) X.env = (false, eval e X.env) :: starEach es X.env := by rfl) (hpl : (backTo pos (starEach es X.env)).any (·.1) = false := by rfl) :
    PE X (.Call (.Name x p) (e :: es) [] pos) (tMake (He.ga X.K x) sp [] E t) := by
  obtain ⟨fd, F, b⟩ := G.ex
  exact pe_make G.M F hr hg G.gC b .nil hx ha hdb he hpl
theorem w_retMk {ta : TA} {σ : L2.St} {F H : Hp} {ds : List PyData} {C : Addr} {sp : Sp} {E : XK} {D : Ends} (h : EvDs K ta σ F ds) (s : Same F H)
    (k : ∀ us F4 H4, Grow F H F4 H4 → DpAll K F4 us ds → ∀ x dx, H4 x = none → H4 dx = none → dx ≠ x → sp (.ref x :: (us ++ [])) (upd (upd H4 dx (.own x)) x (.ins C dx [])) (fun v H2 => v = .non ∧ D.rt (.ref x) H2) E) : tRet (tMake C sp [] E ta) D σ H := h H s _ k
theorem tst_at {t : Nat} (h : t < 3) : atI TST (t : Int) = some (TST.getD t .none) := by
  apply atI_nat
  rw [List.getD_eq_getElem?_getD]
  have h2 : t < TST.length := h
  simp [h2]
theorem ok_small_at (a : At K mg "small_at" s_small_at [] ["many", "place"] fd) (B : Bl mg) (M : Cn K mg) (G_rows_at : Fnk P w K mg base 5 "rows_at" ["many", "place"] (spRowsAt K)) (G_Deed : MkC P w K mg base (depth + 2) "Deed" ["self", "kept", "passing", "boxes", "parts"] (spDeedInit K (He.ga K "Deed"))) :
    FnOk P w K mg base (L2.CX P w) (depth + 5) (He.ga K "small_at") fd ["many", "place"] (spSmallAt K (He.ga K "Deed")) := by
  refine a.F.ok s_small_at_S (fun vs H Q E h => ?_) (fun cdv A outer s H vs Q E hr h => ?_)
  · obtain ⟨a, F, s, p, _⟩ := h
    exact dpAll_len p
  obtain ⟨⟨d, e⟩, F, sF, p, k⟩ := h
  obtain ⟨v0, v1, rfl, p0, p1⟩ := dpAll_two p
  refine ⟨_, (pss_cons (ps_asg (pe_fn G_rows_at (hr.mono (by decide)) (by rfl) passD (pa_cons (pv 0) (pa_cons (pv 1) pa_nil))) (pg_tup (n := 2) rfl (pgs_cons (pg_name (i := 2) s_small_at_S.nd rfl (Or.inl rfl)) (pgs_cons (pg_name (i := 3) s_small_at_S.nd rfl (Or.inl rfl)) pgs_nil))))
      (pss_cons (ps_set (i := 4) s_small_at_S.nd rfl (Or.inl rfl) (pv 3))
      (pss_cons (ps_if (pt_cmpR op_notN (pe_ix ix_tup (pe_glob (v := .ref (He.ga K "TESTS")) (by rfl) M.g_TESTS rfl) (pv 2) (fun _ _ => rfl)) pe_non (nomark _)) (pss_cons (ps_asg (pe_ix ix_tup (pe_glob (v := .ref (He.ga K "TESTS")) (by rfl) M.g_TESTS rfl) (pv 2) (fun _ _ => rfl)) (pg_tup (n := 3) rfl (pgs_cons (pg_name (i := 5) s_small_at_S.nd rfl (Or.inl rfl)) (pgs_cons (pg_name (i := 6) s_small_at_S.nd rfl (Or.inl rfl)) (pgs_cons (pg_name (i := 7) s_small_at_S.nd rfl (Or.inl rfl)) pgs_nil)))))
      (pss_one (ps_set (i := 4) s_small_at_S.nd rfl (Or.inl rfl) (pe_tup (pa_cons (pe_tup (pa_cons pe_str (pa_cons (pv 5) (pa_cons (pv 6) (pa_cons (pv 7) (pa_cons (pv 3) (pa_cons pe_non pa_nil))))))) pa_nil))))) pss_nil)
      (pss_one (ps_ret (pe_mkC G_Deed (hr.mono (by decide)) (by rfl) passL (pa_cons (pe_tup (pa_cons pe_str pa_nil)) (pa_cons (pe_tup pa_nil) (pa_cons (pe_tup (pa_cons pe_str pa_nil)) (pa_cons (pe_tup (pa_cons (pv 4) pa_nil)) pa_nil)))))))))), ?_⟩
  have args : EvDs K (tCons (tVar 0) (tCons (tVar 1) tNil)) (start s_small_at_N [v0, v1]) F [d, e] := eds_cons (ed_var ⟨v0, rfl, p0⟩) (eds_cons (ed_var ⟨v1, rfl, p1⟩) eds_nil)
  cases q : rowsAt (d, e) with
  | ex C ns ds =>
    unfold XOr at k
    rw [q] at k
    exact ex_callO (res := rowsAt) (d, e) args trivial q H sF _ k
  | ok r =>
    unfold XOr at k
    rw [q] at k
    have hq : isWhole d 0 3 = true ∧ isWhole e 0 ((3 * 5 ^ toN d : Nat) - 1 : Int) = true ∧ r = .tuple [.int ((toN e / 5 ^ toN d : Nat) : Int), .tuple (digits (toN d) (toN e)).reverse] := by
      unfold rowsAt at q
      simp only at q
      split at q
      · rename_i h1
        split at q
        · rename_i h2
          injection q with q
          exact ⟨h1, h2, q.symm⟩
        · cases q
      · cases q
    obtain ⟨h1, h2, rfl⟩ := hq
    obtain ⟨_, e1, e2⟩ := whole_int h1 (by decide)
    obtain ⟨_, e3, e4⟩ := whole_int h2 (by decide)
    have ht : toN e / 5 ^ toN d < 3 := by
      rw [Nat.div_lt_iff_lt_mul (Nat.pow_pos (by decide))]
      omega
    generalize hT : toN e / 5 ^ toN d = t at k ht q
    generalize hR : PyData.tuple (digits (toN d) (toN e)).reverse = R at k q
    have fitR := fit_deed t (toN d) (toN e) (by omega)
    have asR := asT_deed t (toN d) (toN e)
    rw [hR] at fitR asR
    refine w_seq (w_asgB (R := fun F1 σ' => ∃ v u, σ' = ((start s_small_at_N [v0, v1]).set 2 (some v)).set 3 (some u) ∧ Dp K F1 v (.int (t : Nat)) ∧ Dp K F1 u R) (ed_callO (res := rowsAt) (d := .tuple [.int (t : Nat), R]) (d, e) args trivial q) sF (fun F1 => bd_two) fun σ' F1 H1 g1 hσ => ?_)
    obtain ⟨vt, vr, rfl, pt, pr⟩ := hσ
    have evt : vt = .int (t : Nat) := dp_int pt
    subst evt
    dsimp only
    refine w_seq (w_asg (σ := [some v0, some v1, some (.int (t : Nat)), some vr, none, none, none, none]) (d := R) (ed_var (i := 3) ⟨vr, rfl, pr⟩) g1.fh fun v4 F2 H2 g2 p4 => ?_)
    -- the body
    have body : ∀ (D : Ends) (tu : TS), (∀ vb z1 z2 z3 F3 H3, Grow F H F3 H3 → Dp K F3 vb (smallBody t R) → tu D [some v0, some v1, some (.int (t : Nat)), some vr, some vb, z1, z2, z3] H3) →
        tSeq (tIfS (tTest (tOp (fun x y H Q => y = .non ∧ Q (.bl (!decide (x = .non))) H) (tOp (rIxT K) (tC (.ref (He.ga K "TESTS"))) (tVar 2)) (tC .non)))
          (tSeq (tAsg (tOp (rIxT K) (tC (.ref (He.ga K "TESTS"))) (tVar 2)) (gTup K 3 (gCons (gName 5) (gCons (gName 6) (gCons (gName 7) gNil)))))
            (tAsg (tTup (tCons (tTup (tCons (tC (.str "if")) (tCons (tVar 5) (tCons (tVar 6) (tCons (tVar 7) (tCons (tVar 3) (tCons (tC .non) tNil))))))) tNil)) (gName 4))) tNext) tu D [some v0, some v1, some (.int (t : Nat)), some vr, some v4, none, none, none] H2 := fun D tu kk => by
      have ix : ∀ F', EvD K (tOp (rIxT K) (tC (.ref (He.ga K "TESTS"))) (tVar 2)) [some v0, some v1, some (.int (t : Nat)), some vr, some v4, none, none, none] F' (TST.getD t .none) := fun F' => ed_op (ed_c (M.te _)) (ed_var (i := 2) ⟨_, rfl, .int _⟩) (rd_ixT (tst_at ht))
      have G2 := g1.trans g2
      refine w_seq (w_if (et_test (ed_op (ix F2) (ed_c .non) rd_notN)) g2.fh (fun z F3 H3 g3 => ?_) fun z F3 H3 g3 => ?_)
      · have hc : ∃ sg ot, TST.getD t .none = .tuple [AN, .str sg, ot] ∧ smallBody t R = .tuple [.tuple [.str "if", AN, .str sg, ot, R, .none]] := by
          match t, ht, z with
          | 0, _, z => cases z
          | 1, _, _ => exact ⟨"<", _, rfl, rfl⟩
          | 2, _, _ => exact ⟨"=", _, rfl, rfl⟩
        obtain ⟨sg, ot, h5, h6⟩ := hc
        refine w_seq (w_asgB (R := fun F1 σ' => ∃ v u y, σ' = ((([some v0, some v1, some (.int (t : Nat)), some vr, some v4, none, none, none] : L2.St).set 5 (some v)).set 6 (some u)).set 7 (some y) ∧ Dp K F1 v AN ∧ Dp K F1 u (.str sg) ∧ Dp K F1 y ot) (h5 ▸ ix F3) g3.fh (fun F1 => bd_three) fun σ' F4 H4 g4 hσ => ?_)
        obtain ⟨w5, w6, w7, rfl, p5, p6, p7⟩ := hσ
        have pr4 := dp_same (g2.fs.trans (g3.fs.trans g4.fs)) pr
        refine w_asg (σ := [some v0, some v1, some (.int (t : Nat)), some vr, some v4, some w5, some w6, some w7]) (d := smallBody t R) (h6 ▸ ed_tup (eds_cons (ed_tup (eds_cons (ed_c (.str _)) (eds_cons (ed_var (i := 5) ⟨w5, rfl, p5⟩) (eds_cons (ed_var (i := 6) ⟨w6, rfl, p6⟩) (eds_cons (ed_var (i := 7) ⟨w7, rfl, p7⟩) (eds_cons (ed_var (i := 3) ⟨vr, rfl, pr4⟩) (eds_cons (ed_c .non) eds_nil)))))) (by show 6 ≤ sizeLine; decide)) eds_nil) (by show 1 ≤ sizeLine; decide)) g4.fh fun vb F5 H5 g5 pb => ?_
        exact kk vb _ _ _ F5 H5 ((G2.trans g3).trans (g4.trans g5)) pb
      · have t0 : t = 0 := by
          match t, ht, z with
          | 0, _, _ => rfl
          | 1, _, z => cases z
          | 2, _, z => cases z
        subst t0
        refine kk v4 none none none F3 H3 (G2.trans g3) ?_
        exact dp_same g3.fs p4
    refine body _ _ fun vb z1 z2 z3 F3 H3 G3 pb => ?_
    have ar : EvDs K (tCons (tTup (tCons (tC (.str "a")) tNil)) (tCons (tTup tNil) (tCons (tTup (tCons (tC (.str "x")) tNil)) (tCons (tTup (tCons (tVar 4) tNil)) tNil)))) [some v0, some v1, some (.int (t : Nat)), some vr, some vb, z1, z2, z3] F3 (deedD (smallBody t R)) :=
      eds_cons (ed_tup (eds_cons (ed_c (.str _)) eds_nil) (by show 1 ≤ sizeLine; decide)) (eds_cons (ed_tup eds_nil (by show 0 ≤ sizeLine; decide)) (eds_cons (ed_tup (eds_cons (ed_c (.str _)) eds_nil) (by show 1 ≤ sizeLine; decide)) (eds_cons (ed_tup (eds_cons (ed_var (i := 4) ⟨vb, rfl, pb⟩) eds_nil) (by show 1 ≤ sizeLine; decide)) eds_nil)))
    refine w_retMk ar G3.fh fun us F4 H4 g4 pa x dx nx ndx nex => ?_
    have sx : Same F4 (upd (upd H4 dx (.own x)) x (.ins (He.ga K "Deed") dx [])) := same_lay (same_lay g4.fh (g4.fh.free ndx)) (g4.fh.free nx)
    refine ⟨x, dx, us ++ [], deedD (smallBody t R), F4, rfl, upd_same, g4.fh.free nx, sx, by rw [List.append_nil]; exact pa, rfl, fitR, fun w1 w2 w3 w4 F5 H5 s5 sh5 ho hn h5 p5 => ⟨rfl, ?_⟩⟩
    have G4 := G3.trans g4
    rw [asR] at p5
    refine k x dx w1 w2 w3 w4 F5 H5 ⟨G4.fs.trans s5, sh5, fun b o e => ?_, fun b n e => ?_⟩ (G4.hs.free nx) (hn x (g4.fh.free nx) (by rw [upd_same]; simp)) h5 p5
    · have e4 := G4.hs b o e
      exact ho b o (ne_of_none e4 nx) (by rw [upd_ne (ne_of_none e4 nx), upd_ne (ne_of_none e4 ndx)]; exact e4)
    · cases q2 : H b with
      | none => exact absurd q2 e
      | some o =>
        have e4 := G4.hs b o q2
        exact hn b (G4.out b n e) (by rw [upd_ne (ne_of_none e4 nx), upd_ne (ne_of_none e4 ndx), e4]; simp)
end
end K74
set_option Elab.async false
set_option linter.all false
set_option maxRecDepth 100000
set_option maxHeartbeats 4000000
namespace K74
open PySem PySem.Spec PyProof.Rows L2 PD
/-! ### mathematics -/
mutual
theorem sameD_eq : ∀ {a b : PyData}, sameD a b = true → a = b
  | .tuple as, b, h => by
    cases b with
    | tuple bs => rw [sameD] at h; rw [sameAll_eq h]
    | _ => simp [sameD] at h
  | .bool a, b, h => by
    cases b with
    | bool c => simp [sameD] at h; rw [h]
    | _ => simp [sameD] at h
  | .int a, b, h => by
    cases b with
    | int c => simp [sameD] at h; rw [h]
    | _ => simp [sameD] at h
  | .str a, b, h => by
    cases b with
    | str c => simp [sameD] at h; rw [h]
    | _ => simp [sameD] at h
  | .none, b, h => by
    cases b with
    | none => rfl
    | _ => simp [sameD] at h
  | .list as, b, h => by simp [sameD] at h
  | .dict as, b, h => by simp [sameD] at h
theorem sameAll_eq : ∀ {as bs : List PyData}, sameAll as bs = true → as = bs
  | [], [], _ => rfl
  | [], _ :: _, h => by simp [sameAll] at h
  | _ :: _, [], h => by simp [sameAll] at h
  | a :: as, b :: bs, h => by
    rw [sameAll, Bool.and_eq_true] at h
    rw [sameD_eq h.1, sameAll_eq h.2]
end
def first (r : PyData) : Option Nat :=
  if sameD ST0 r = true then some 0 else if sameD ST1 r = true then some 1 else if sameD ST2 r = true then some 2 else if sameD ST3 r = true then some 3 else if sameD ST4 r = true then some 4 else none
def isMate (r : PyData) : PyData → Bool
  | .tuple [_, one] => sameD one r
  | _ => false
def fstD : PyData → PyData
  | .tuple [n, _] => n
  | _ => .none
theorem numbered_STM : numberedD STM = [.tuple [.int 0, ST0], .tuple [.int 1, ST1], .tuple [.int 2, ST2], .tuple [.int 3, ST3], .tuple [.int 4, ST4]] := by
  unfold numberedD STM
  simp [pairs, PD.upTo, List.range, List.range.loop]
theorem s00 : sameD ST0 ST0 = true := by decide +kernel
theorem s01 : sameD ST0 ST1 = false := by decide +kernel
theorem s02 : sameD ST0 ST2 = false := by decide +kernel
theorem s03 : sameD ST0 ST3 = false := by decide +kernel
theorem s04 : sameD ST0 ST4 = false := by decide +kernel
theorem s10 : sameD ST1 ST0 = false := by decide +kernel
theorem s11 : sameD ST1 ST1 = true := by decide +kernel
theorem s12 : sameD ST1 ST2 = false := by decide +kernel
theorem s13 : sameD ST1 ST3 = false := by decide +kernel
theorem s14 : sameD ST1 ST4 = false := by decide +kernel
theorem s20 : sameD ST2 ST0 = false := by decide +kernel
theorem s21 : sameD ST2 ST1 = false := by decide +kernel
theorem s22 : sameD ST2 ST2 = true := by decide +kernel
theorem s23 : sameD ST2 ST3 = false := by decide +kernel
theorem s24 : sameD ST2 ST4 = false := by decide +kernel
theorem s30 : sameD ST3 ST0 = false := by decide +kernel
theorem s31 : sameD ST3 ST1 = false := by decide +kernel
theorem s32 : sameD ST3 ST2 = false := by decide +kernel
theorem s33 : sameD ST3 ST3 = true := by decide +kernel
theorem s34 : sameD ST3 ST4 = false := by decide +kernel
theorem s40 : sameD ST4 ST0 = false := by decide +kernel
theorem s41 : sameD ST4 ST1 = false := by decide +kernel
theorem s42 : sameD ST4 ST2 = false := by decide +kernel
theorem s43 : sameD ST4 ST3 = false := by decide +kernel
theorem s44 : sameD ST4 ST4 = true := by decide +kernel
theorem nums_first (r : PyData) : ((numberedD STM).filter (isMate r)).map fstD = (match first r with | none => [] | some j => [.int (j : Nat)]) := by
  rw [numbered_STM]
  by_cases h0 : sameD ST0 r = true
  · have := sameD_eq h0; subst this; simp [first, isMate, fstD, s00, s01, s02, s03, s04, s10, s11, s12, s13, s14, s20, s21, s22, s23, s24, s30, s31, s32, s33, s34, s40, s41, s42, s43, s44]
  · by_cases h1 : sameD ST1 r = true
    · have := sameD_eq h1; subst this; simp [first, isMate, fstD, s00, s01, s02, s03, s04, s10, s11, s12, s13, s14, s20, s21, s22, s23, s24, s30, s31, s32, s33, s34, s40, s41, s42, s43, s44]
    · by_cases h2 : sameD ST2 r = true
      · have := sameD_eq h2; subst this; simp [first, isMate, fstD, s00, s01, s02, s03, s04, s10, s11, s12, s13, s14, s20, s21, s22, s23, s24, s30, s31, s32, s33, s34, s40, s41, s42, s43, s44]
      · by_cases h3 : sameD ST3 r = true
        · have := sameD_eq h3; subst this; simp [first, isMate, fstD, s00, s01, s02, s03, s04, s10, s11, s12, s13, s14, s20, s21, s22, s23, s24, s30, s31, s32, s33, s34, s40, s41, s42, s43, s44]
        · by_cases h4 : sameD ST4 r = true
          · have := sameD_eq h4; subst this; simp [first, isMate, fstD, s00, s01, s02, s03, s04, s10, s11, s12, s13, s14, s20, s21, s22, s23, s24, s30, s31, s32, s33, s34, s40, s41, s42, s43, s44]
          · simp [first, isMate, h0, h1, h2, h3, h4]
theorem first_lt {r : PyData} {j : Nat} (h : first r = some j) : j < 5 := by
  unfold first at h
  repeat' split at h
  all_goals first | (injection h with h; omega) | cases h
def items : PyData → List PyData
  | .tuple ds => ds
  | .list ds => ds
  | _ => []
def badRows (d : PyData) : Out := .ex "BadRow" ["what", "row"] [.str "rows", d]
theorem listed_len {e : PyData} (h : (isT e || isL e) = true) : hasLen e = true ∧ lenD e = (items e).length ∧ (e = .list (items e) ∨ e = .tuple (items e)) := by
  cases e with
  | list ds => exact ⟨rfl, rfl, .inl rfl⟩
  | tuple ds => exact ⟨rfl, rfl, .inr rfl⟩
  | _ => cases h
def goPlace (d : PyData) : Nat → List PyData → Out
  | found, [] => .ok (.int (found : Nat))
  | found, r :: rs => match first r with
    | none => badRows d
    | some j => goPlace d (found * 5 + j) rs
def placeOf (a : PyData × PyData) : Out :=
  if isWhole a.1 0 2 = true then
    (if (isT a.2 || isL a.2) = true ∧ (items a.2).length ≤ 3 then goPlace a.2 (toN a.1) (items a.2) else badRows a.2)
  else .ex "BadNumber" ["what", "number"] [.str "test", a.1]
abbrev spPlaceOf (K : PySem.W.Frag) : Sp := OSp K (fun a : PyData × PyData => [a.1, a.2]) (fun a => (items a.2).length ≤ 1000) placeOf
section
variable {P : Program} {w : World} {K : PySem.W.Frag} {mg : Str → Option Value} {base : Heap} {fd : FuncData}
theorem ok_place_of (a : At K mg "place_of" s_place_of [] ["test", "rows"] fd) (B : Bl mg) (M : Cn K mg) (G_is_whole : Fnk P w K mg base 1 "is_whole" ["value", "least", "most"] (spIsWhole K)) (G_is_listed : Fnk P w K mg base 1 "is_listed" ["value"] (spIsListed K)) (G_same : Fnk P w K mg base 4 "same" ["one", "other"] (spSame K 3))
    (X_BadNumber : XC P w K mg base "BadNumber" ["what", "number"]) (X_BadRow : XC P w K mg base "BadRow" ["what", "row"]) :
    FnOk P w K mg base (L2.CX P w) 5 (He.ga K "place_of") fd ["test", "rows"] (spPlaceOf K) := by
  refine a.F.ok s_place_of_S (osp_len fun _ => rfl) (fun cdv A outer s H vs Q E hr h => ?_)
  obtain ⟨⟨d, e⟩, F, sF, p, dom, k⟩ := h
  obtain ⟨v0, v1, rfl, p0, p1⟩ := dpAll_two p
  obtain ⟨t3, g3⟩ := M.g_MOST
  refine ⟨_, (pss_cons (ps_if (pt_not (pt_val (pe_fn G_is_whole (hr.mono (by decide)) (by rfl) passL (pa_cons (pv 0) (pa_cons pe_int (pa_cons (pe_op op_sub (pe_callB call_len (by rfl) B.len PySem.boot_len (pa_cons (pe_glob (v := .ref (He.ga K "TESTS")) (by rfl) M.g_TESTS rfl) pa_nil)) pe_int) pa_nil)))))) (pss_one (ps_rs rfl takeD X_BadNumber (hr.mono (by decide)) (by rfl) (pa_cons pe_str (pa_cons (pv 0) pa_nil)))) pss_nil)
      (pss_cons (ps_if (PW.pt (pw_or (pt_not (pt_val (pe_fn G_is_listed (hr.mono (by decide)) (by rfl) passL (pa_cons (pv 1) pa_nil)))) (pw_or1 (pt_cmpR op_gt (pe_callB call_len (by rfl) B.len PySem.boot_len (pa_cons (pv 1) pa_nil)) (pe_glob (v := .int 3) (by rfl) g3 ⟨_, rfl⟩) (nomark _))))) (pss_one (ps_rs rfl takeD X_BadRow (hr.mono (by decide)) (by rfl) (pa_cons pe_str (pa_cons (pv 1) pa_nil)))) pss_nil)
      (pss_cons (ps_set (i := 2) s_place_of_S.nd rfl (Or.inl rfl) (pv 0))
      (pss_cons (ps_for ownD rfl (pi_sq (pv 1)) (pg_name (i := 3) s_place_of_S.nd rfl (Or.inr rfl)) (pss_cons (ps_setLc (i := 4) (own := [("number", 5), ("one", 6)]) (g := gTup K 2 (gCons (gName 5) (gCons (gName 6) gNil))) rfl s_place_of_S.nd rfl rfl (sw_true rfl rfl rfl (by decide +kernel)) (pi_enumT (by rfl) B.enumerate (pa_cons (pe_glob (v := .ref (He.ga K "STATEMENTS")) (by rfl) M.g_STATEMENTS rfl) pa_nil)) (blkOk_by (own := [("number", 5), ("one", 6)]) (N := s_place_of_N) (sc := defScope s_place_of) (by decide +kernel)) (fun _ _ _ _ _ => (pg_tup (n := 2) rfl (pgs_cons (pg_name (i := 5) s_place_of_S.nd rfl (Or.inl rfl) (Or.inr rfl)) (pgs_cons (pg_name (i := 6) s_place_of_S.nd rfl (Or.inl rfl) (Or.inr rfl)) pgs_nil)))) (fun _ _ _ _ _ => (pts_one (pt_val (pe_fn G_same (hr.mono (by decide)) (by rfl) passL (pa_cons (pv 6) (pa_cons (pv 3) pa_nil)))))) (fun _ _ _ _ _ => (pv 5)))
      (pss_cons (ps_if (pt_cmpR (op_eqD hr.units) (pv 4) (pe_lst pa_nil) (nomark _)) (pss_one (ps_rs rfl takeD X_BadRow (hr.mono (by decide)) (by rfl) (pa_cons pe_str (pa_cons (pv 1) pa_nil)))) pss_nil)
      (pss_one (ps_set (i := 2) s_place_of_S.nd rfl (Or.inl rfl) (pe_op op_add (pe_op op_mul (pv 2) (pe_callB call_len (by rfl) B.len PySem.boot_len (pa_cons (pe_glob (v := .ref (He.ga K "STATEMENTS")) (by rfl) M.g_STATEMENTS rfl) pa_nil))) (pe_ix ix_list (pv 4) pe_int (fun _ _ => rfl))))))))
      (pss_one (ps_ret (pv 2))))))), ?_⟩
  have i0 : Sl K (start s_place_of_N [v0, v1]) F 0 d := ⟨v0, rfl, p0⟩
  unfold placeOf at k
  refine w_seq (w_if (et_not (et_B (ed_call (res := fun a : PyData × Int × Int => .bool (isWhole a.1 a.2.1 a.2.2)) (d, 0, 2) (eds_cons (ed_var i0) (eds_cons (ed_c (.int 0)) (eds_cons (ed_is (ed_op (ed_lenT (n := 0) (ed_c (M.te _))) (ed_c (.int 1)) rd_I0) rfl) eds_nil))) trivial))) sF (fun z F1 H1 g1 => ?_) fun z F1 H1 g1 => ?_)
  · have z2 : isWhole d 0 2 = false := by simpa using z
    simp only [z2] at k
    exact w_raise (eds_cons (ed_c (.str _)) (eds_cons (ed_var (i0.mono g1.fs)) eds_nil)) g1.fh rfl (by decide) (XOut.after g1 k)
  · have z2 : isWhole d 0 2 = true := by simpa using z
    obtain ⟨ed, e1, e2⟩ := whole_int z2 (by decide)
    simp only [z2, if_true] at k
    refine PD.w_next ?_
    dsimp only
    refine PD.w_seq (w_if (b := !(isT e || isL e) || decide (3 < (items e).length)) (et_or (et_not (et_B (ed_call (res := fun a => .bool (isT a || isL a)) e (eds_cons (ed_var (i := 1) ⟨v1, rfl, dp_same g1.fs p1⟩) eds_nil) trivial))) (fun z3 => ?_)) g1.fh (fun z3 F2 H2 g2 => ?_) fun z3 F2 H2 g2 => ?_)
    · have hl := listed_len (e := e) (by rwa [Bool.not_eq_false'] at z3)
      exact et_is (et_test (ed_op (ed_cb (eds_cons (ed_var (i := 1) ⟨v1, rfl, dp_same g1.fs p1⟩) eds_nil) (rc_len hl.1)) (ed_c (.int 3)) rd_B0)) (by rw [hl.2.1, decide_eq_decide]; omega)
    · have z4 : ¬ ((isT e || isL e) = true ∧ (items e).length ≤ 3) := by
        intro ⟨h1, h2⟩
        rw [h1] at z3
        simp at z3
        omega
      simp only [z4, if_false] at k
      exact w_raise (eds_cons (ed_c (.str _)) (eds_cons (ed_var (i := 1) ⟨v1, rfl, dp_same (g1.fs.trans g2.fs) p1⟩) eds_nil)) g2.fh rfl (by decide) (XOut.after (g1.trans g2) k)
    · have z4 : (isT e || isL e) = true ∧ (items e).length ≤ 3 := by
        simp only [Bool.or_eq_false_iff, Bool.not_eq_false', decide_eq_false_iff_not] at z3
        exact ⟨by simpa using z3.1, by omega⟩
      have kind := (listed_len z4.1).2.2
      simp only [if_pos z4] at k
      have G2 := g1.trans g2
      have ev : v0 = .int (toN d : Nat) := dp_int (K := K) (F := F) (by rw [← ed]; exact p0)
      refine PD.w_next ?_
      dsimp only
      refine PD.w_seq (w_asg (K := K) (i := 2) (d := .int (toN d : Nat)) (ed_var (i := 0) ⟨v0, rfl, by rw [ev]; exact .int _⟩) g2.fh fun v2 F3 H3 g3 p3 => ?_)
      dsimp only
      refine PD.w_seq (w_for (F := F3) (σ := [some v0, some v1, some v2, none, none, none, none]) (G2.trans g3) (it_sq (ed_var (i := 1) ⟨v1, rfl, dp_same (G2.trans g3).fs p1⟩) kind)
        (fun i σ' F' H' => ∃ (found : Nat) (t3 t4 t5 t6 : Option V), found ≤ 1000 ^ (i + 1) ∧ goPlace e (toN d) (items e) = goPlace e found ((items e).drop i) ∧ σ' = [some v0, some v1, some (.int (found : Nat)), t3, t4, t5, t6])
        (fun F4 H4 g => ⟨toN d, none, none, none, none, by omega, rfl, by rw [dp_int p3] <;> rfl⟩) (fun i σ' F' H' r x F4 H4 he s1 gg h g px => ?_) (fun σ' F' H' s1 gg h => ?_))
      · obtain ⟨found, t3, t4, t5, t6, hfo, hgo, rfl⟩ := h
        have hi := (List.getElem?_eq_some_iff.mp he).1
        have hd : (items e).drop i = r :: (items e).drop (i + 1) := by
          rw [List.drop_eq_getElem_cons hi, (List.getElem?_eq_some_iff.mp he).2]
        rw [hd] at hgo
        rw [hgo] at k
        have i3 : i < 3 := by omega
        dsimp only
        refine PD.w_seq ?_
        have lc : ∀ nums, ((numberedD STM).filter (isMate r)).map fstD = nums → EvD K (tLc (iEnumT K (tCons (tC (.ref (He.ga K "STATEMENTS"))) tNil)) (gTup K 2 (gCons (gName 5) (gCons (gName 6) gNil))) (tB (tCall (spSame K 3) [] E0 (tCons (tVar 6) (tCons (tVar 3) tNil)))) (tVar 5) [5, 6])
            [some v0, some v1, some (.int (found : Nat)), some x, t4, t5, t6] F4 (.list nums) := fun nums en => ed_of_el (el_is (el_lc (isMate r) fstD (it_enumT (ed_c (M.st _))) (by rw [numbered_STM]; show 5 ≤ sizeLine; decide) (fun c F' hc s' => by
          have hcc : ∃ n one, c = .tuple [n, one] ∧ fit 3 one = true := by
            rw [numbered_STM] at hc
            simp only [List.mem_cons, List.not_mem_nil, or_false] at hc
            rcases hc with h | h | h | h | h <;> exact ⟨_, _, h, by decide +kernel⟩
          obtain ⟨n, one, rfl, hf⟩ := hcc
          refine ⟨_, bd_two, fun σ' hσ => ?_⟩
          obtain ⟨vn, vo, rfl, pn, po⟩ := hσ
          exact ⟨rfl, et_B (ed_call (res := fun a : PyData × PyData => .bool (sameD a.1 a.2)) (one, r) (eds_cons (ed_var (i := 6) ⟨vo, rfl, po⟩) (eds_cons (ed_var (i := 3) ⟨x, rfl, dp_same s' px⟩) eds_nil)) hf), fun _ => ed_var (i := 5) ⟨vn, rfl, pn⟩⟩)) en)
        cases hf : first r with
        | none =>
          have en := nums_first r
          rw [hf] at en
          refine w_asg (i := 4) (σ := [some v0, some v1, some (.int (found : Nat)), some x, t4, t5, t6]) (lc _ en) g.fh fun v4 F5 H5 g5 p5 => ?_
          dsimp only
          refine PD.w_seq (w_if (et_test (ed_op (ed_var (i := 4) ⟨v4, rfl, p5⟩) (ed_lst eds_nil (by show 0 ≤ sizeLine; decide)) (rd_eq rfl rfl))) g5.fh (fun z F6 H6 g6 => ?_) fun z F6 H6 g6 => ?_)
          · have k2 : XOut K F H E "BadRow" ["what", "row"] [.str "rows", e] := by
              unfold goPlace at k
              rw [hf] at k
              exact k
            exact w_raise (eds_cons (ed_c (.str _)) (eds_cons (ed_var (i := 1) ⟨v1, rfl, dp_same (gg.fs.trans (g.fs.trans (g5.fs.trans g6.fs))) p1⟩) eds_nil)) g6.fh rfl (by decide) (XOut.after (gg.trans (g.trans (g5.trans g6))) k2)
          · exact absurd z (by decide +kernel)
        | some j =>
          have en := nums_first r
          rw [hf] at en
          have hj := first_lt hf
          refine w_asg (i := 4) (σ := [some v0, some v1, some (.int (found : Nat)), some x, t4, t5, t6]) (lc _ en) g.fh fun v4 F5 H5 g5 p5 => ?_
          dsimp only
          refine PD.w_seq (w_if (et_test (ed_op (ed_var (i := 4) ⟨v4, rfl, p5⟩) (ed_lst eds_nil (by show 0 ≤ sizeLine; decide)) (rd_eq rfl rfl))) g5.fh (fun z F6 H6 g6 => ?_) fun z F6 H6 g6 => ?_)
          · exact absurd z (by simp [PyData.eqv, PyData.eqvAll])
          · refine PD.w_next ?_
            dsimp only
            refine w_asg (i := 2) (σ := [some v0, some v1, some (.int (found : Nat)), some x, some v4, t5, t6]) (d := .int ((found * 5 + j : Nat) : Int)) (ed_is (ed_op (x := .int ((found : Int) * ((5 : Nat) : Int))) (ed_op (x := .int (found : Nat)) (ed_var (i := 2) ⟨_, rfl, .int _⟩) (ed_lenT (n := 0) (ed_c (M.st _))) (rd_I (C := CMul) (f := fun i j => i * j) ?_)) (ed_op (y := .int 0) (ed_var (i := 4) ⟨v4, rfl, dp_same g6.fs p5⟩) (ed_c (.int 0)) (rd_ixL (e := .int (j : Nat)) (atI_nat (j := 0) rfl))) rd_I0) ?_) g6.fh fun v2' F7 H7 g7 p7 => ?_
            · have h1 : found ≤ 1000 ^ 3 := Nat.le_trans hfo (Nat.pow_le_pow_right (by decide) (by omega))
              have h2 : (1000 : Nat) ^ 3 = 1000000000 := by decide
              exact .inl ⟨by omega, by omega⟩
            · rw [Int.natCast_add, Int.natCast_mul]
            · have G7 := g.trans (g5.trans (g6.trans g7))
              refine ⟨F7, G7.fs, gg.trans G7, found * 5 + j, some x, some v4, t5, t6, ?_, ?_, ?_⟩
              · rw [Nat.pow_succ]
                have h0 : 1 ≤ 1000 ^ (i + 1) := Nat.pow_pos (by decide)
                omega
              · rw [hgo, goPlace, hf]
              · rw [dp_int p7] <;> rfl
      · obtain ⟨found, t3, t4, t5, t6, hfo, hgo, rfl⟩ := h
        rw [List.drop_length] at hgo
        rw [hgo] at k
        exact ⟨_, rfl, k _ F' H' gg (.int _)⟩
end
end K74
set_option Elab.async false
set_option linter.all false
set_option maxRecDepth 100000
set_option maxHeartbeats 4000000
namespace K74
open PySem PySem.Spec PyProof.Rows L2 PD
/-! ### the pen -/
def penK (c : V) (at_ dg n fold : Int) : List (Key × V) := [(.inr "cells", c), (.inr "at", .int at_), (.inr "digits", .int dg), (.inr "count", .int n), (.inr "fold", .int fold)]
section
variable {c : V} {a d n f : Int} {i : Int}
theorem pk_cells : valV (penK c a d n f) (.inr "cells") = some c := by rfl
theorem pk_at : valV (penK c a d n f) (.inr "at") = some (.int a) := by rfl
theorem pk_digits : valV (penK c a d n f) (.inr "digits") = some (.int d) := by rfl
theorem pk_count : valV (penK c a d n f) (.inr "count") = some (.int n) := by rfl
theorem pk_fold : valV (penK c a d n f) (.inr "fold") = some (.int f) := by rfl
theorem pp_at : putK (penK c a d n f) (.inr "at") (.int i) = penK c i d n f := by rfl
theorem pp_digits : putK (penK c a d n f) (.inr "digits") (.int i) = penK c a i n f := by rfl
theorem pp_count : putK (penK c a d n f) (.inr "count") (.int i) = penK c a d i f := by rfl
theorem pp_fold : putK (penK c a d n f) (.inr "fold") (.int i) = penK c a d n i := by rfl
end
structure PenAt (K : PySem.W.Frag) (F H : Hp) (p : Addr) (n : Nat) : Prop where
  fp : F p = none
  ex : ∃ (c : Addr) (xs : List V) (ns : List Int) (at_ dg fold : Int), SqL K F c xs ∧ xs = ns.map .int ∧ H p = some (.dK (penK (.ref c) at_ dg (n : Nat) fold)) ∧ 0 ≤ at_ ∧ 0 ≤ dg ∧ 0 ≤ fold ∧ fold < 2147482817
theorem PenAt.grow {K : PySem.W.Frag} {F H F2 H2 : Hp} {p : Addr} {n : Nat} (h : PenAt K F H p n) (g : Grow F H F2 H2) : PenAt K F2 H2 p n := by
  obtain ⟨c, xs, ns, a, d, f, h1, h2, h3, h4⟩ := h.ex
  exact ⟨g.out p h.fp (by rw [h3]; simp), c, xs, ns, a, d, f, g.fs.seq h1, h2, g.hs _ _ h3, h4⟩
abbrev spPen (K : PySem.W.Frag) : Sp := fun vs H Q _ => ∃ (ns : List Int) (F : Hp), Same F H ∧ DpAll K F vs [.list (ns.map .int)] ∧ ns.length ≤ sizeLine ∧
  ∀ p F2 H2, Grow F H F2 H2 → H p = none → PenAt K F2 H2 p 0 → Q (.ref p) H2
abbrev spDraw (K : PySem.W.Frag) : Sp := fun vs H Q _ => ∃ (p : Addr) (F : Hp) (n m : Nat), vs = [.ref p, .int (m : Nat)] ∧ Same F H ∧ PenAt K F H p n ∧ n < 1000000000 ∧ 0 < m ∧ m ≤ 1000000 ∧
  ∀ (r : Nat) H2, r < m → Same F H2 → (∀ a, a ≠ p → H2 a = H a) → PenAt K F H2 p (n + 1) → Q (.int (r : Nat)) H2
theorem dp_ints {K : PySem.W.Frag} {F : Hp} : ∀ {ns : List Int} {vs : List V}, DpAll K F vs (ns.map .int) → vs = ns.map .int
  | [], _, h => by cases h; rfl
  | n :: ns, _, h => by
    cases h with
    | cons h1 h2 => rw [List.map_cons, dp_int h1, dp_ints h2]
section
variable {P : Program} {w : World} {K : PySem.W.Frag} {mg : Str → Option Value} {base : Heap} {fd : FuncData}
theorem ok_law_pen (a : At K mg "_law_pen" s_law_pen [] ["script"] fd) (B : Bl mg) : FnOk P w K mg base (L2.CX P w) 1 (He.ga K "_law_pen") fd ["script"] (spPen K) := by
  refine a.F.ok s_law_pen_S (fun vs H Q E h => by obtain ⟨ns, F, _, p, _⟩ := h; exact dpAll_len p) (fun cdv A outer s H vs Q E hr h => ?_)
  obtain ⟨ns, F, sF, p, dom, k⟩ := h
  obtain ⟨v0, rfl, p0⟩ := dpAll_one p
  refine ⟨_, (pss_cons (ps_set (i := 1) s_law_pen_S.nd rfl (Or.inl rfl) pe_int)
      (pss_cons (ps_for ownD rfl (pi_sq (pv 0)) (pg_name (i := 2) s_law_pen_S.nd rfl (Or.inl rfl)) (pss_one (ps_set (i := 1) s_law_pen_S.nd rfl (Or.inl rfl) (pe_op op_mod (pe_callTy call_int1 (by rfl) B.int boot_int (pa_cons (pe_op op_add (pe_op op_mul (pv 1) pe_int) (pv 2)) pa_nil)) pe_int))))
      (pss_one (ps_ret (pe_disp (pps_cons pe_str (pe_callTy call_list_of (by rfl) B.list boot_list (pa_cons (pv 0) pa_nil)) (pps_cons pe_str pe_int (pps_cons pe_str pe_int (pps_cons pe_str pe_int (pps_cons pe_str (pv 1) pps_nil))))) rfl rfl (by decide) (by decide)))))), ?_⟩
  refine w_seq (w_asgC ?_)
  refine w_seq (w_for (Grow.refl sF) (it_sq (ds := ns.map .int) (ed_var ⟨v0, rfl, p0⟩) (.inl rfl)) (fun i σ' F' H' => ∃ (f : Int) (t : Option V), 0 ≤ f ∧ f < 2147482817 ∧ σ' = [some v0, some (.int f), t]) (fun F1 H1 g => ⟨59, none, by decide, by decide, rfl⟩) (fun i σ' F' H' e x F2 H2 he s1 gg h g px => ?_) (fun σ' F' H' s1 gg h => ?_))
  · obtain ⟨f, t, h1, h2, rfl⟩ := h
    obtain ⟨z, -, rfl⟩ := List.mem_map.mp (List.mem_of_getElem? he)
    refine w_asg (i := 1) (σ := [some v0, some (.int f), some x]) (F := F2) (d := .int ((f * 199 + z) % 1000000663)) (ed_op (x := .int (f * 199 + z)) (ed_cb (eds_cons (ed_op (x := .int (f * 199)) (ed_op (ed_var (i := 1) ⟨_, rfl, .int f⟩) (ed_c (.int 199)) (rd_I (C := CMul) (f := fun i j => i * j) (.inr (by decide)))) (ed_var (i := 2) ⟨x, rfl, px⟩) (rd_I0 (f := fun i j => i + j))) eds_nil) rc_int) (ed_c (.int 1000000663)) (rd_I (C := fun _ j => 0 < j) (f := fun i j => i % j) (by decide))) g.fh fun v F3 H3 g3 p3 => ?_
    refine ⟨F3, (g.trans g3).fs, gg.trans (g.trans g3), (f * 199 + z) % 1000000663, some x, ?_, ?_, ?_⟩
    · omega
    · omega
    · rw [dp_int p3] <;> rfl
  · obtain ⟨f, t, h1, h2, rfl⟩ := h
    refine fun q hq => ?_
    dsimp only [tPairs, tC]
    have n0 : H q = none := gg.hs.free hq
    obtain ⟨g1, nq, fq⟩ := gg.lay (o := .dK []) hq
    refine el_listOf (K := K) (F := F') (d := .list (ns.map .int)) (ds := ns.map .int) (ed_var ⟨v0, rfl, dp_same s1 p0⟩) (.inl rfl) _ g1.fh _ fun l us F2 H2 g2 nl fl h2' pa => ?_
    have hq2 : H2 q = some (.dK []) := g2.hs _ _ upd_same
    have fq2 : F2 q = none := g2.out q fq (by rw [upd_same]; simp)
    refine ⟨_, rfl, hq2, [(.inr "cells", .ref l), (.inr "at", .int 0), (.inr "digits", .int 0), (.inr "count", .int 0), (.inr "fold", .int f)], rfl, (by show 5 ≤ 15; decide), ?_⟩
    have G := (g1.trans g2).freeze (o := .lst us) (g1.hs.free nl) fl h2'
    have lq : q ≠ l := fun z => by rw [z, h2'] at hq2; cases hq2
    have fq3 : upd F2 l (.lst us) q = none := by rw [upd_ne lq]; exact fq2
    have em : mergeK [] [(.inr "cells", .ref l), (.inr "at", .int 0), (.inr "digits", .int 0), (.inr "count", .int 0), (.inr "fold", .int f)] = penK (.ref l) 0 0 (0 : Nat) f := by rfl
    rw [em]
    exact k q _ _ (Grow.own G nq fq3) nq ⟨fq3, l, us, ns, 0, 0, f, SqL.of upd_same, dp_ints pa, upd_same, by decide, by decide, h1, h2⟩
end
end K74
set_option Elab.async false
set_option linter.all false
set_option maxRecDepth 100000
set_option maxHeartbeats 4000000
namespace K74
open PySem PySem.Spec PyProof.Rows L2 PD
theorem x_get {σ : L2.St} {H : Hp} {Q : VK} {p : Addr} {kvs : List (Key × V)} {k : Key} {v : V} (hσ : σ[0]? = some (some (.ref p))) (h : H p = some (.dK kvs)) (e : valV kvs k = some v) (q : Q v H) : tDGet (tVar 0) (tC (kV k)) σ H Q :=
  ⟨.ref p, hσ, p, v, rfl, e ▸ DGet.k h, q⟩
theorem emod_bounds {i m : Int} (h : 0 < m) : 0 ≤ i % m ∧ i % m < m := ⟨Int.emod_nonneg _ (by omega), Int.emod_lt_of_pos _ h⟩
section
variable {P : Program} {w : World} {K : PySem.W.Frag} {mg : Str → Option Value} {base : Heap} {fd : FuncData}
theorem ok_law_draw (a : At K mg "_law_draw" s_law_draw [] ["pen", "many"] fd) (B : Bl mg) : FnOk P w K mg base (L2.CX P w) 1 (He.ga K "_law_draw") fd ["pen", "many"] (spDraw K) := by
  refine a.F.ok s_law_draw_S (fun vs H Q E h => by obtain ⟨p, F, n, m, e, _⟩ := h; rw [e] <;> rfl) (fun cdv A outer s H vs Q E hr h => ?_)
  obtain ⟨p, F, n, m, rfl, sF, pen, hn, hm, hm2, k⟩ := h
  refine ⟨_, (pss_cons (ps_dput (hu_of hr) (pv 0) pe_str (pe_op op_add (pe_dget (hu_of hr) (pv 0) pe_str (fun _ _ => rfl)) pe_int) rfl)
      (pss_cons (ps_if (PW.pt (pw_and (pt_cmpR (op_eqD hr.units) (pe_dget (hu_of hr) (pv 0) pe_str (fun _ _ => rfl)) pe_int (nomark _)) (pw_and1 (pt_cmpR op_lt (pe_dget (hu_of hr) (pv 0) pe_str (fun _ _ => rfl)) (pe_callB call_len (by rfl) B.len PySem.boot_len (pa_cons (pe_dget (hu_of hr) (pv 0) pe_str (fun _ _ => rfl)) pa_nil)) (nomark _))))) (pss_cons (ps_set (i := 2) s_law_draw_S.nd rfl (Or.inl rfl) (pe_ix ix_list (pe_dget (hu_of hr) (pv 0) pe_str (fun _ _ => rfl)) (pe_dget (hu_of hr) (pv 0) pe_str (fun _ _ => rfl)) (fun _ _ => rfl)))
      (pss_cons (ps_dput (hu_of hr) (pv 0) pe_str (pe_op op_add (pe_dget (hu_of hr) (pv 0) pe_str (fun _ _ => rfl)) pe_int) rfl)
      (pss_one (ps_if (pt_cmpR op_ge (pv 2) (pe_op op_pow pe_int pe_int) (nomark _)) (pss_one (ps_dput (hu_of hr) (pv 0) pe_str (pe_op op_sub (pv 2) (pe_op op_pow pe_int pe_int)) rfl)) (pss_one (ps_dput (hu_of hr) (pv 0) pe_str (pe_op op_mod (pe_callTy call_int1 (by rfl) B.int boot_int (pa_cons (pe_op op_add (pe_op op_mul (pe_dget (hu_of hr) (pv 0) pe_str (fun _ _ => rfl)) pe_int) (pv 2)) pa_nil)) pe_int) rfl)))))) pss_nil)
      (pss_cons (ps_if (pt_cmpR op_gt (pe_dget (hu_of hr) (pv 0) pe_str (fun _ _ => rfl)) pe_int (nomark _)) (pss_cons (ps_set (i := 3) s_law_draw_S.nd rfl (Or.inl rfl) (pe_op op_mod (pe_callTy call_int1 (by rfl) B.int boot_int (pa_cons (pe_dget (hu_of hr) (pv 0) pe_str (fun _ _ => rfl)) pa_nil)) (pv 1)))
      (pss_cons (ps_dput (hu_of hr) (pv 0) pe_str (pe_op op_fdivW (pe_dget (hu_of hr) (pv 0) pe_str (fun _ _ => rfl)) (pv 1)) rfl)
      (pss_one (ps_ret (pv 3))))) pss_nil)
      (pss_cons (ps_set (i := 4) s_law_draw_S.nd rfl (Or.inl rfl) (pe_op op_add (pe_op op_add (pe_dget (hu_of hr) (pv 0) pe_str (fun _ _ => rfl)) (pe_op op_mul (pe_dget (hu_of hr) (pv 0) pe_str (fun _ _ => rfl)) pe_int)) pe_int))
      (pss_one (ps_ret (pe_op op_mod (pe_op op_fdiv (pe_callTy call_int1 (by rfl) B.int boot_int (pa_cons (pe_op op_mod (pe_op op_pow (pv 4) pe_int) pe_int) pa_nil)) pe_int) (pv 1)))))))), ?_⟩
  obtain ⟨c, xs, ns, at_, dg, fold, hc, hx, hp, h1, h2, h3, h4⟩ := pen.ex
  have cp : c ≠ p ∨ True := .inr trivial
  have len5 : ∀ (c : V) (a d n f : Int), (penK c a d n f).length < sizeLine := fun c a d n f => by show 5 < sizeLine; decide
  -- the list in every heap that is H but at p
  have inl : ∀ H', (∀ a, a ≠ p → H' a = H a) → SqL K H' c xs := fun H' e => by
    have s1 : Same F H' := fun b o q => by
      rw [e b (ne_of_none q pen.fp)]
      exact sF b o q
    exact s1.seq hc
  have samep : ∀ H', (∀ a, a ≠ p → H' a = H a) → Same F H' := fun H' e b o q => by
      rw [e b (ne_of_none q pen.fp)]
      exact sF b o q
  have σ0 : ∀ (t2 t3 t4 : Option V), ([some (V.ref p), some (V.int m), t2, t3, t4] : L2.St)[0]? = some (some (.ref p)) := fun _ _ _ => rfl
  -- the rest, once digits and fold are set
  have rest : ∀ (dg fold at_ : Int) (t2 t3 t4 : Option V) (H' : Hp), 0 ≤ at_ → 0 ≤ dg → 0 ≤ fold → fold < 2147482817 → (∀ a, a ≠ p → H' a = H a) → H' p = some (.dK (penK (.ref c) at_ dg (n + 1 : Nat) fold)) →
      tSeq (tIfS (tTest (tOp (rI0 fun i j => .bl (decide (j < i))) (tDGet (tVar 0) (tC (.str "digits"))) (tC (.int 0)))) (tSeq (tAsg (tOp (rI (fun _ j => 0 < j) fun i j => .int (i % j)) (tCB (fun xs H Q => (∃ i, xs = [V.int i] ∧ Q (.int i) H) ∨ ∃ k, xs = [V.bl k] ∧ Q (.int (if k then 1 else 0)) H) (tCons (tDGet (tVar 0) (tC (.str "digits"))) tNil)) (tVar 1)) (gName 3))
        (tSeq (sDPut (tVar 0) (tC (.str "digits")) (tOp (rI CDivW fun i j => .int (i / j)) (tDGet (tVar 0) (tC (.str "digits"))) (tVar 1))) (tRet (tVar 3)))) tNext)
      (tSeq (tAsg (tOp (rI0 fun i j => .int (i + j)) (tOp (rI0 fun i j => .int (i + j)) (tDGet (tVar 0) (tC (.str "fold"))) (tOp (rI CMul fun i j => .int (i * j)) (tDGet (tVar 0) (tC (.str "count"))) (tC (.int 7963)))) (tC (.int 127))) (gName 4))
        (tRet (tOp (rI (fun _ j => 0 < j) fun i j => .int (i % j)) (tOp (rI CDiv fun i j => .int (i / j)) (tCB (fun xs H Q => (∃ i, xs = [V.int i] ∧ Q (.int i) H) ∨ ∃ k, xs = [V.bl k] ∧ Q (.int (if k then 1 else 0)) H) (tCons (tOp (rI (fun _ j => 0 < j) fun i j => .int (i % j)) (tOp (rI CPow fun i j => .int (i ^ j.toNat)) (tVar 4) (tC (.int 17))) (tC (.int 2305843009213693951))) tNil)) (tC (.int 128))) (tVar 1))))
      { nx := fun _ H' => Q .non H', rt := Q } [some (V.ref p), some (V.int m), t2, t3, t4] H' := fun dg fold at_ t2 t3 t4 H' b0 b1 b2 b3 hs hp' => by
    refine w_seq (x_get (k := .inr "digits") (σ0 _ _ _) hp' pk_digits ⟨dg, 0, rfl, rfl, decide (0 < dg), rfl, ?_⟩)
    by_cases z : 0 < dg
    · rw [decide_eq_true z]
      refine iteT (w_seq (x_get (k := .inr "digits") (σ0 _ _ _) hp' pk_digits (Or.inl ⟨dg, rfl, _, rfl, dg, m, rfl, rfl, by omega, ?_⟩)))
      obtain ⟨r1, r2⟩ := emod_bounds (i := dg) (m := (m : Int)) (by omega)
      refine w_seq (x_get (k := .inr "digits") (σ0 _ _ _) hp' pk_digits ⟨_, rfl, dg, m, rfl, rfl, wide_div (b := 64) (by omega) (by omega) (by decide) (by decide), ?_⟩)
      refine ⟨_, rfl, p, _, rfl, DPut.k (k := .inr "digits") hp' (len5 _ _ _ _ _), ?_⟩
      refine ⟨_, rfl, ?_⟩
      rw [pp_digits]
      have er : dg % (m : Int) = ((dg % (m : Int)).toNat : Nat) := (Int.toNat_of_nonneg r1).symm
      have hs2 : ∀ a, a ≠ p → upd H' p (.dK (penK (.ref c) at_ (dg / (m : Int)) (n + 1 : Nat) fold)) a = H a := fun a ne => by rw [upd_ne ne]; exact hs a ne
      show Q (.int (dg % (m : Int))) _
      rw [er]
      exact k _ _ (by omega) (samep _ hs2) hs2 ⟨pen.fp, c, xs, ns, at_, dg / (m : Int), fold, hc, hx, upd_same, b0, Int.ediv_nonneg b1 (by omega), b2, b3⟩
    · rw [decide_eq_false z]
      refine iteF (w_next ?_)
      refine w_seq (x_get (k := .inr "fold") (σ0 _ _ _) hp' pk_fold (x_get (k := .inr "count") (σ0 _ _ _) hp' pk_count ⟨_, _, rfl, rfl, .inr (by decide), fold, _, rfl, rfl, _, 127, rfl, rfl, ?_⟩))
      refine ⟨_, rfl, _, 17, rfl, rfl, ⟨by decide, by decide, by omega⟩, _, 2305843009213693951, rfl, rfl, (by show (0 : Int) < 2305843009213693951; decide), Or.inl ⟨_, rfl, _, 128, rfl, rfl, ⟨by decide, by decide⟩, _, rfl, _, _, rfl, rfl, by omega, ?_⟩⟩
      generalize (fold + ((n + 1 : Nat) : Int) * 7963 + 127) ^ Int.toNat 17 % 2305843009213693951 / 128 = y
      obtain ⟨r1, r2⟩ := emod_bounds (i := y) (m := (m : Int)) (by omega)
      have er : y % (m : Int) = ((y % (m : Int)).toNat : Nat) := (Int.toNat_of_nonneg r1).symm
      show Q (.int (y % (m : Int))) _
      rw [er]
      exact k _ H' (by omega) (samep _ hs) hs ⟨pen.fp, c, xs, ns, at_, dg, fold, hc, hx, hp', b0, b1, b2, b3⟩
  refine w_seq (x_get (k := .inr "count") (σ0 _ _ _) hp pk_count ⟨_, 1, rfl, rfl, _, rfl, p, _, rfl, DPut.k (k := .inr "count") hp (len5 _ _ _ _ _), ?_⟩)
  rw [pp_count]
  have en : ((n : Nat) : Int) + 1 = ((n + 1 : Nat) : Int) := by omega
  rw [en]
  have hp1 : upd H p (.dK (penK (.ref c) at_ dg (n + 1 : Nat) fold)) p = some (.dK (penK (.ref c) at_ dg (n + 1 : Nat) fold)) := upd_same
  have hs1 : ∀ a, a ≠ p → upd H p (.dK (penK (.ref c) at_ dg (n + 1 : Nat) fold)) a = H a := fun a ne => upd_ne ne
  generalize upd H p (.dK (penK (.ref c) at_ dg (n + 1 : Nat) fold)) = H1 at hp1 hs1
  refine w_seq (x_get (k := .inr "digits") (σ0 _ _ _) hp1 pk_digits ⟨.int dg, .int 0, .int dg, .int 0, rfl, rfl, _, rfl, ?_⟩)
  cases q : PyData.eqv (.int dg) (.int 0) with
  | false => exact iteF (iteF (PD.w_next (rest dg fold at_ none none none H1 h1 h2 h3 h4 hs1 hp1)))
  | true =>
    refine iteT (x_get (k := .inr "at") (σ0 _ _ _) hp1 pk_at (x_get (k := .inr "cells") (σ0 _ _ _) hp1 pk_cells ⟨.ref c, _, rfl, .inl ⟨xs, inl H1 hs1, rfl⟩, at_, _, rfl, rfl, decide (at_ < (xs.length : Nat)), rfl, ?_⟩))
    by_cases z : at_ < (xs.length : Nat)
    · rw [decide_eq_true z]
      have hn2 : at_.toNat < ns.length := by
        rw [hx, List.length_map] at z
        omega
      obtain ⟨cell, hw⟩ : ∃ cell, atI xs at_ = some (V.int cell) := by
        have h9 : atI xs ((at_.toNat : Nat) : Int) = some (V.int ns[at_.toNat]) := by
          apply atI_nat
          rw [hx, List.getElem?_map]
          simp [hn2]
        rw [Int.toNat_of_nonneg h1] at h9
        exact ⟨_, h9⟩
      refine iteT (w_seq (x_get (k := .inr "cells") (σ0 _ _ _) hp1 pk_cells (x_get (k := .inr "at") (σ0 _ _ _) hp1 pk_at ⟨c, xs, at_, .int cell, rfl, rfl, inl H1 hs1, hw, ?_⟩)))
      refine w_seq (x_get (k := .inr "at") (σ0 _ _ _) hp1 pk_at ⟨_, 1, rfl, rfl, _, rfl, p, _, rfl, DPut.k (k := .inr "at") hp1 (len5 _ _ _ _ _), ?_⟩)
      rw [pp_at]
      have hp2 : upd H1 p (.dK (penK (.ref c) (at_ + 1) dg (n + 1 : Nat) fold)) p = some (.dK (penK (.ref c) (at_ + 1) dg (n + 1 : Nat) fold)) := upd_same
      have hs2 : ∀ a, a ≠ p → upd H1 p (.dK (penK (.ref c) (at_ + 1) dg (n + 1 : Nat) fold)) a = H a := fun a ne => by rw [upd_ne ne]; exact hs1 a ne
      generalize upd H1 p (.dK (penK (.ref c) (at_ + 1) dg (n + 1 : Nat) fold)) = H2 at hp2 hs2
      refine ⟨.int cell, rfl, 10, 18, rfl, rfl, ⟨by decide, by decide, by decide⟩, cell, _, rfl, rfl, decide ((10 : Int) ^ Int.toNat 18 ≤ cell), rfl, ?_⟩
      by_cases z2 : (10 : Int) ^ Int.toNat 18 ≤ cell
      · rw [decide_eq_true z2]
        refine iteT ⟨.int cell, rfl, 10, 18, rfl, rfl, ⟨by decide, by decide, by decide⟩, cell, _, rfl, rfl, _, rfl, p, _, rfl, DPut.k (k := .inr "digits") hp2 (len5 _ _ _ _ _), ?_⟩
        rw [pp_digits]
        exact rest _ fold (at_ + 1) _ none none _ (by omega) (by omega) h3 h4 (fun a ne => by rw [upd_ne ne]; exact hs2 a ne) upd_same
      · rw [decide_eq_false z2]
        refine iteF (x_get (k := .inr "fold") (σ0 _ _ _) hp2 pk_fold ⟨_, 70229, rfl, rfl, .inr (by decide), .int cell, rfl, _, cell, rfl, rfl, Or.inl ⟨_, rfl, _, 2147482817, rfl, rfl, (by show (0 : Int) < 2147482817; decide), _, rfl, p, _, rfl, DPut.k (k := .inr "fold") hp2 (len5 _ _ _ _ _), ?_⟩⟩)
        rw [pp_fold]
        obtain ⟨r1, r2⟩ := emod_bounds (i := fold * 70229 + cell) (m := 2147482817) (by decide)
        exact rest dg _ (at_ + 1) _ none none _ (by omega) h2 r1 r2 (fun a ne => by rw [upd_ne ne]; exact hs2 a ne) upd_same
    · rw [decide_eq_false z]
      exact iteF (PD.w_next (rest dg fold at_ none none none H1 h1 h2 h3 h4 hs1 hp1))
end
end K74
set_option Elab.async false
set_option linter.all false
set_option maxRecDepth 100000
set_option maxHeartbeats 4000000
namespace K74
open PySem PySem.Spec PyProof.Rows L2 PD
/-! ### the law's helpers -/
abbrev spPick (K : PySem.W.Frag) : Sp := fun vs H Q _ => ∃ (p : Addr) (F : Hp) (n : Nat) (u : V) (ds : List PyData), vs = [.ref p, u] ∧ Same F H ∧ PenAt K F H p n ∧ n < 1000000000 ∧ Dp K F u (.list ds) ∧ 0 < ds.length ∧ ds.length ≤ 1000000 ∧
  ∀ d v H2, d ∈ ds → Same F H2 → (∀ a, a ≠ p → H2 a = H a) → PenAt K F H2 p (n + 1) → Dp K F v d → Q v H2
abbrev spLawSame (K : PySem.W.Frag) : Sp := PSp K (fun a : Int × Int => [.int a.1, .int a.2]) (fun _ => True) (fun a => .bool (a.1 == a.2))
abbrev spLawEq (K : PySem.W.Frag) (n : Nat) : Sp := PSp K (fun d : PyData => [d, d]) (fun d => fit n d = true ∧ d.canLay0 = true) (fun _ => .bool true)
abbrev spStms (K : PySem.W.Frag) : Sp := LSp K (fun _ : Unit => []) (fun _ => True) (fun _ => STM)
theorem eqv_self : ∀ {d : PyData}, (isT d || isL d) = false → (∀ a, d ≠ .dict a) → PyData.eqv d d = true := fun {d} h hd => by
  cases d with
  | tuple _ => cases h
  | list _ => cases h
  | dict a => exact absurd rfl (hd a)
  | _ => simp [PyData.eqv]
theorem pairs_self : ∀ {ds : List PyData} {e : PyData}, e ∈ pairs ds ds → ∃ a, a ∈ ds ∧ e = .tuple [a, a]
  | [], e, h => by simp [pairs] at h
  | a :: as, e, h => by
    rw [pairs] at h
    rcases List.mem_cons.mp h with rfl | h
    · exact ⟨a, List.mem_cons_self .., rfl⟩
    · obtain ⟨b, hb, e2⟩ := pairs_self h
      exact ⟨b, List.mem_cons_of_mem _ hb, e2⟩
theorem trues_all : ∀ {n : Nat} (ps : List PyData), ps.length = n → ps.map (fun _ => PyData.bool true) = (List.replicate n true).map .bool
  | _, [], h => by subst h; rfl
  | _, p :: ps, h => by
    subst h
    rw [List.map_cons, List.length_cons, List.replicate_succ, List.map_cons, ← trues_all ps rfl]
theorem all_trues (n : Nat) : (List.replicate n true).all id = true := by
  induction n with
  | zero => rfl
  | succ n ih => rw [List.replicate_succ, List.all_cons, ih] <;> rfl
section
variable {P : Program} {w : World} {K : PySem.W.Frag} {mg : Str → Option Value} {base : Heap} {fd : FuncData}
theorem ok_law_pick (a : At K mg "_law_pick" s_law_pick [] ["pen", "some"] fd) (B : Bl mg) (G_law_draw : Fnk P w K mg base 1 "_law_draw" ["pen", "many"] (spDraw K)) : FnOk P w K mg base (L2.CX P w) 2 (He.ga K "_law_pick") fd ["pen", "some"] (spPick K) := by
  refine a.F.ok s_law_pick_S (fun vs H Q E h => by obtain ⟨p, F, n, m, ds, e, _⟩ := h; rw [e] <;> rfl) (fun cdv A outer s H vs Q E hr h => ?_)
  obtain ⟨p, F, n, u, ds, rfl, sF, pen, hn, pu, h0, h1, k⟩ := h
  refine ⟨_, (pss_one (ps_ret (pe_ix ix_list (pv 1) (pe_fn G_law_draw hr (by rfl) passL (pa_cons (pv 0) (pa_cons (pe_callB call_len (by rfl) B.len PySem.boot_len (pa_cons (pv 1) pa_nil)) pa_nil))) (fun _ _ => rfl)))), ?_⟩
  cases pu with
  | @lst l vs _ hs pa =>
    refine ⟨_, rfl, _, rfl, _, rfl, _, _, rfl, .inl ⟨vs, sF.seq hs, rfl⟩, p, F, n, vs.length, rfl, sF, pen, hn, by rw [dpAll_len pa]; exact h0, by rw [dpAll_len pa]; exact h1, fun r H2 hr2 s2 e2 p2 => ?_⟩
    rw [dpAll_len pa] at hr2
    obtain ⟨v, hv, pv⟩ := dpAll_atI pa (e := ds[r]) (i := (r : Nat)) (atI_nat (by simp [hr2]))
    exact ⟨_, _, (r : Nat), v, rfl, rfl, s2.seq hs, hv, k ds[r] v H2 (List.getElem_mem hr2) s2 e2 p2 pv⟩
theorem ok_law_statements (a : At K mg "_law_statements" s_law_statements [] [] fd) : FnOk P w K mg base (L2.CX P w) 1 (He.ga K "_law_statements") fd [] (spStms K) := by
  refine a.F.ok s_law_statements_S (fun vs H Q E h => by obtain ⟨_, F, _, p, _⟩ := h; exact dpAll_len p) (fun cdv A outer s H vs Q E hr h => ?_)
  obtain ⟨u0, F, sF, p, -, k⟩ := h
  refine ⟨_, (pss_one (ps_ret (pe_lst (pa_cons (pe_tup (pa_cons pe_str (pa_cons pe_str (pa_cons (pe_tup (pa_cons pe_str (pa_cons pe_int pa_nil))) pa_nil)))) (pa_cons (pe_tup (pa_cons pe_str (pa_cons pe_str (pa_cons (pe_tup (pa_cons pe_str (pa_cons pe_int pa_nil))) pa_nil)))) (pa_cons (pe_tup (pa_cons pe_str (pa_cons pe_str (pa_cons (pe_tup (pa_cons pe_str (pa_cons pe_int pa_nil))) pa_nil)))) (pa_cons (pe_tup (pa_cons pe_str (pa_cons pe_str (pa_cons (pe_tup (pa_cons pe_str (pa_cons pe_int pa_nil))) pa_nil)))) (pa_cons (pe_tup (pa_cons pe_str (pa_cons pe_str (pa_cons (pe_tup (pa_cons pe_str (pa_cons pe_int pa_nil))) pa_nil)))) pa_nil)))))))), ?_⟩
  have z2 : 2 ≤ sizeLine := by decide
  have z3 : 3 ≤ sizeLine := by decide
  have z5 : 5 ≤ sizeLine := by decide
  have st : ∀ (a b c : Str) (i : Int), EvD K (tTup (tCons (tC (.str a)) (tCons (tC (.str b)) (tCons (tTup (tCons (tC (.str c)) (tCons (tC (.int i)) tNil))) tNil)))) (start s_law_statements_N vs) F (.tuple [.str a, .str b, .tuple [.str c, .int i]]) := fun a b c i =>
    ed_tup (eds_cons (ed_c (.str _)) (eds_cons (ed_c (.str _)) (eds_cons (ed_tup (eds_cons (ed_c (.str _)) (eds_cons (ed_c (.int _)) eds_nil)) z2) eds_nil))) z3
  exact el_lst (eds_cons (st _ _ _ _) (eds_cons (st _ _ _ _) (eds_cons (st _ _ _ _) (eds_cons (st _ _ _ _) (eds_cons (st _ _ _ _) eds_nil))))) z5 H sF _ fun p us F2 H2 g np fp h2 pa => k p us F2 H2 g np fp h2 pa
theorem ok_law_same0 (a : At K mg "_law_same" s_law_same [] ["told", "due"] fd) : FnOk P w K mg base (L2.CX P w) 1 (He.ga K "_law_same") fd ["told", "due"] (fun vs _ _ _ => vs.length = 2 ∧ False) := by
  refine a.F.ok s_law_same_S (fun vs H Q E h => h.1) (fun cdv A outer s H vs Q E hr h => h.2.elim)
theorem ok_law_same (a : At K mg "_law_same" s_law_same [] ["told", "due"] fd) (B : Bl mg) : FnOk P w K mg base (L2.CX P w) 2 (He.ga K "_law_same") fd ["told", "due"] (spLawSame K) := by
  have G_law_same := a.fn (ok_law_same0 (P := P) (w := w) (base := base) a)
  refine a.F.ok s_law_same_S (psp_len fun _ => rfl) (fun cdv A outer s H vs Q E hr h => ?_)
  obtain ⟨⟨x, y⟩, F, sF, p, -, k⟩ := h
  obtain ⟨v0, v1, rfl, p0, p1⟩ := dpAll_two p
  refine ⟨_, (pss_cons (ps_if (pt_val (pe_callB call_isi (by rfl) B.isinstance boot_isinstance (pa_cons (pv 1) (pa_cons (pe_bltn (v := .ty "tuple") (by rfl) B.tuple boot_tuple rfl) pa_nil)))) (pss_one (ps_ret (pe_and (pe_callB call_isi (by rfl) B.isinstance boot_isinstance (pa_cons (pv 0) (pa_cons (pe_bltn (v := .ty "tuple") (by rfl) B.tuple boot_tuple rfl) pa_nil))) (pe_and (pe_cmpR (op_eqD hr.units) (pe_callB call_len (by rfl) B.len PySem.boot_len (pa_cons (pv 0) pa_nil)) (pe_callB call_len (by rfl) B.len PySem.boot_len (pa_cons (pv 1) pa_nil)) (nomark _)) (pe_one (pe_callB (cr_all rfl) (by rfl) B.all boot_all (pa_cons (pe_lc (own := [("one", 2), ("two", 3)]) (g := gTup K 2 (gCons (gName 2) (gCons (gName 3) gNil))) rfl s_law_same_S.nd (RZ.pi_zipA (by rfl) B.zip (pa_cons (pv 0) (pa_cons (pv 1) pa_nil))) (blkOk_by (own := [("one", 2), ("two", 3)]) (N := s_law_same_N) (sc := defScope s_law_same) (by decide +kernel)) (fun _ _ _ _ _ => (pg_tup (n := 2) rfl (pgs_cons (pg_name (i := 2) s_law_same_S.nd rfl (Or.inl rfl) (Or.inr rfl)) (pgs_cons (pg_name (i := 3) s_law_same_S.nd rfl (Or.inl rfl) (Or.inr rfl)) pgs_nil)))) (fun _ _ _ _ _ => pts_nil) (fun _ _ _ _ _ => (pe_fn G_law_same (hr.mono (by decide)) (by rfl) passL (pa_cons (pv 2) (pa_cons (pv 3) pa_nil))))) pa_nil))))))) pss_nil)
      (pss_cons (ps_if (pt_cmpR op_isN (pv 1) pe_non (nomark _)) (pss_one (ps_ret (pe_cmpR op_isN (pv 0) pe_non (nomark _)))) pss_nil)
      (pss_cons (ps_if (pt_cmpR op_isBc (pv 1) pe_bl (nomark _)) (pss_one (ps_ret (pe_cmpR op_isBc (pv 0) pe_bl (nomark _)))) pss_nil)
      (pss_cons (ps_if (pt_cmpR op_isBc (pv 1) pe_bl (nomark _)) (pss_one (ps_ret (pe_cmpR op_isBc (pv 0) pe_bl (nomark _)))) pss_nil)
      (pss_cons (ps_if (pt_val (pe_callB call_isi (by rfl) B.isinstance boot_isinstance (pa_cons (pv 1) (pa_cons (pe_bltn (v := .ty "int") (by rfl) B.int boot_int rfl) pa_nil)))) (pss_one (ps_ret (pe_and (pe_callB call_isi (by rfl) B.isinstance boot_isinstance (pa_cons (pv 0) (pa_cons (pe_bltn (v := .ty "int") (by rfl) B.int boot_int rfl) pa_nil))) (pe_and (pe_not (pe_callB call_isi (by rfl) B.isinstance boot_isinstance (pa_cons (pv 0) (pa_cons (pe_bltn (v := .ty "bool") (by rfl) B.bool boot_bool rfl) pa_nil)))) (pe_one (pe_cmpR (op_eqD hr.units) (pv 0) (pv 1) (nomark _))))))) pss_nil)
      (pss_one (ps_ret (pe_and (pe_callB call_isi (by rfl) B.isinstance boot_isinstance (pa_cons (pv 0) (pa_cons (pe_bltn (v := .ty "str") (by rfl) B.str boot_str rfl) pa_nil))) (pe_one (pe_cmpR (op_eqD hr.units) (pv 0) (pv 1) (nomark _))))))))))), ?_⟩
  have i0 : ∀ F', Same F F' → Sl K (start s_law_same_N [v0, v1]) F' 0 (.int x) := fun F' e => ⟨v0, rfl, dp_same e p0⟩
  have i1 : ∀ F', Same F F' → Sl K (start s_law_same_N [v0, v1]) F' 1 (.int y) := fun F' e => ⟨v1, rfl, dp_same e p1⟩
  refine w_seq (w_if (b := false) (et_B (ed_isT (ed_var (i1 F (Same.refl F))))) sF (fun z F1 H1 g1 => by cases z) fun z F1 H1 g1 => PD.w_next ?_)
  dsimp only
  refine PD.w_seq (w_if (b := false) (et_test (ed_op (ed_var (i1 F1 g1.fs)) (ed_c .non) rd_isN)) g1.fh (fun z F2 H2 g2 => by cases z) fun z F2 H2 g2 => PD.w_next ?_)
  dsimp only
  have G2 := g1.trans g2
  refine PD.w_seq (w_if (b := false) (et_test (ed_op (ed_var (i1 F2 G2.fs)) (ed_c (.bl true)) rd_isBc)) g2.fh (fun z F3 H3 g3 => by cases z) fun z F3 H3 g3 => PD.w_next ?_)
  dsimp only
  have G3 := G2.trans g3
  refine PD.w_seq (w_if (b := false) (et_test (ed_op (ed_var (i1 F3 G3.fs)) (ed_c (.bl false)) rd_isBc)) g3.fh (fun z F4 H4 g4 => by cases z) fun z F4 H4 g4 => PD.w_next ?_)
  dsimp only
  have G4 := G3.trans g4
  refine PD.w_seq (w_if (b := true) (et_B (ed_isI (ed_var (i1 F4 G4.fs)))) g4.fh (fun z F5 H5 g5 => ?_) fun z F5 H5 g5 => by cases z)
  have G5 := G4.trans g5
  refine w_ret (ed_andV (a := true) (b := true && (x == y)) (ed_isI (ed_var (i0 F5 G5.fs))) (fun _ => ed_andV (a := true) (b := x == y) (ed_notV (a := false) (ed_isB (ed_var (i0 F5 G5.fs)))) (fun _ => ed_is (ed_op (ed_var (i0 F5 G5.fs)) (ed_var (i1 F5 G5.fs)) (rd_eq rfl rfl)) (by rw [eqv_int])))) g5.fh fun v F6 H6 g6 p6 => k v F6 H6 (G5.trans g6) ?_
  simpa using p6
end
end K74
set_option Elab.async false
set_option linter.all false
set_option maxRecDepth 100000
set_option maxHeartbeats 4000000
namespace K74
open PySem PySem.Spec PyProof.Rows L2 PD
theorem shaped_leaf {d : PyData} (h : (isT d || isL d) = false) (hc : d.canLay0 = true) : SeqAt.shaped d = true := by
  have h2 : d.depth ≤ 64 := by
    cases d with
    | tuple _ => cases h
    | list _ => cases h
    | dict a => simp [PyData.canLay0] at hc
    | _ => simp [PyData.depth]
  unfold SeqAt.shaped
  rw [hc, decide_eq_true h2] <;> rfl
theorem can_mem : ∀ {ds : List PyData}, PyData.canLayAll0 ds = true → ∀ d ∈ ds, d.canLay0 = true
  | [], _, _, h => by cases h
  | e :: ds, h, d, hd => by
    rw [PyData.canLayAll0, Bool.and_eq_true] at h
    rcases List.mem_cons.mp hd with rfl | hd
    · exact h.1
    · exact can_mem h.2 d hd
theorem fit_nd {n : Nat} {d : PyData} (h : fit n d = true) : ∀ a, d ≠ .dict a := fun a e => by
  subst e
  cases n <;> simp [fit] at h
section
variable {P : Program} {w : World} {K : PySem.W.Frag} {mg : Str → Option Value} {base : Heap} {fd : FuncData}
theorem ok_law_equal (a : At K mg "_law_equal" s_law_equal [] ["one", "other"] fd) (B : Bl mg) : ∀ n, FnOk P w K mg base (L2.CX P w) (n + 1) (He.ga K "_law_equal") fd ["one", "other"] (spLawEq K n) := fun n => by
  induction n with
  | zero =>
    refine a.F.ok s_law_equal_S (psp_len fun _ => rfl) (fun cdv A outer s H vs Q E hr h => ?_)
    obtain ⟨d, F, sF, p, dom, k⟩ := h
    have d1 := dom.1
    rw [fit0] at d1
    cases d1
  | succ m ih =>
    have G_law_equal := a.fn ih
    refine a.F.ok s_law_equal_S (psp_len fun _ => rfl) (fun cdv A outer s H vs Q E hr h => ?_)
    obtain ⟨d, F, sF, p, dom, k⟩ := h
    obtain ⟨v0, v1, rfl, p0, p1⟩ := dpAll_two p
    refine ⟨_, (pss_cons (ps_if (PW.pt (pw_and (pt_val (pe_callB call_isiT (by rfl) B.isinstance boot_isinstance (pa_cons (pv 0) (pa_cons (pe_tup (pa_cons (pe_bltn (v := .ty "tuple") (by rfl) B.tuple boot_tuple rfl) (pa_cons (pe_bltn (v := .ty "list") (by rfl) B.list boot_list rfl) pa_nil))) pa_nil)))) (pw_and1 (pt_val (pe_callB call_isiT (by rfl) B.isinstance boot_isinstance (pa_cons (pv 1) (pa_cons (pe_tup (pa_cons (pe_bltn (v := .ty "tuple") (by rfl) B.tuple boot_tuple rfl) (pa_cons (pe_bltn (v := .ty "list") (by rfl) B.list boot_list rfl) pa_nil))) pa_nil))))))) (pss_cons (ps_if (PW.pt (pw_or (pt_cmpR (op_neD hr.units) (pe_callB call_isi (by rfl) B.isinstance boot_isinstance (pa_cons (pv 0) (pa_cons (pe_bltn (v := .ty "tuple") (by rfl) B.tuple boot_tuple rfl) pa_nil))) (pe_callB call_isi (by rfl) B.isinstance boot_isinstance (pa_cons (pv 1) (pa_cons (pe_bltn (v := .ty "tuple") (by rfl) B.tuple boot_tuple rfl) pa_nil))) (nomark _)) (pw_or1 (pt_cmpR (op_neD hr.units) (pe_callB call_len (by rfl) B.len PySem.boot_len (pa_cons (pv 0) pa_nil)) (pe_callB call_len (by rfl) B.len PySem.boot_len (pa_cons (pv 1) pa_nil)) (nomark _))))) (pss_one (ps_ret pe_bl)) pss_nil)
      (pss_one (ps_ret (pe_callB (cr_all rfl) (by rfl) B.all boot_all (pa_cons (pe_lc (own := [("a", 2), ("b", 3)]) (g := gTup K 2 (gCons (gName 2) (gCons (gName 3) gNil))) rfl s_law_equal_S.nd (RZ.pi_zipA (by rfl) B.zip (pa_cons (pv 0) (pa_cons (pv 1) pa_nil))) (blkOk_by (own := [("a", 2), ("b", 3)]) (N := s_law_equal_N) (sc := defScope s_law_equal) (by decide +kernel)) (fun _ _ _ _ _ => (pg_tup (n := 2) rfl (pgs_cons (pg_name (i := 2) s_law_equal_S.nd rfl (Or.inl rfl) (Or.inr rfl)) (pgs_cons (pg_name (i := 3) s_law_equal_S.nd rfl (Or.inl rfl) (Or.inr rfl)) pgs_nil)))) (fun _ _ _ _ _ => pts_nil) (fun _ _ _ _ _ => (pe_fn G_law_equal hr (by rfl) passL (pa_cons (pv 2) (pa_cons (pv 3) pa_nil))))) pa_nil))))) pss_nil)
      (pss_cons (ps_if (pt_cmpR (op_neD hr.units) (pe_callB call_isi (by rfl) B.isinstance boot_isinstance (pa_cons (pv 0) (pa_cons (pe_bltn (v := .ty "bool") (by rfl) B.bool boot_bool rfl) pa_nil))) (pe_callB call_isi (by rfl) B.isinstance boot_isinstance (pa_cons (pv 1) (pa_cons (pe_bltn (v := .ty "bool") (by rfl) B.bool boot_bool rfl) pa_nil))) (nomark _)) (pss_one (ps_ret pe_bl)) pss_nil)
      (pss_one (ps_ret (pe_cmpR (op_eqD hr.units) (pv 0) (pv 1) (nomark _)))))), ?_⟩
    have i0 : ∀ F', Same F F' → Sl K (start s_law_equal_N [v0, v1]) F' 0 d := fun F' e => ⟨v0, rfl, dp_same e p0⟩
    have i1 : ∀ F', Same F F' → Sl K (start s_law_equal_N [v0, v1]) F' 1 d := fun F' e => ⟨v1, rfl, dp_same e p1⟩
    refine w_seq (w_if (et_and (et_B (ed_isTL (ed_var (i0 F (Same.refl F))))) (fun _ => et_B (ed_isTL (ed_var (i1 F (Same.refl F)))))) sF (fun z F1 H1 g1 => ?_) fun z F1 H1 g1 => ?_)
    · rw [Bool.and_self] at z
      obtain ⟨ds, ed, h1, h2, h3⟩ : ∃ ds, (d = .list ds ∨ d = .tuple ds) ∧ ds.length ≤ 1000 ∧ fitAll m ds = true ∧ PyData.canLayAll0 ds = true := by
        cases d with
        | tuple ds => obtain ⟨h1, h2⟩ := fit_tup dom.1; exact ⟨ds, .inr rfl, h1, h2, dom.2⟩
        | list ds => obtain ⟨h1, h2⟩ := fit_lst dom.1; exact ⟨ds, .inl rfl, h1, h2, dom.2⟩
        | _ => cases z
      have hl := listed_len z
      refine w_seq (w_if (b := false) (et_is (et_or (et_test (ed_op (ed_isT (ed_var (i0 F1 g1.fs))) (ed_isT (ed_var (i1 F1 g1.fs))) (rd_ne rfl rfl))) (fun _ => et_test (ed_neI (ed_cb (eds_cons (ed_var (i0 F1 g1.fs)) eds_nil) (rc_len hl.1)) (ed_cb (eds_cons (ed_var (i1 F1 g1.fs)) eds_nil) (rc_len hl.1))))) (by rw [eqv_bool]; simp)) g1.fh (fun z2 F2 H2 g2 => by cases z2) fun z2 F2 H2 g2 => PD.w_next ?_)
      dsimp only
      have G2 := g1.trans g2
      refine w_ret (d := .bool true) (ed_is (ed_cb (eds_cons (ed_of_el (el_is (el_map (fun _ => .bool true) (it_zipA (ds := ds) (es := ds) (ed_var (i0 F2 G2.fs)) (ed_var (i1 F2 G2.fs)) (by rcases ed with e | e <;> simp [e])) (by rw [PD.pairs_len]; exact le1000 (by omega)) fun e F' he s' => ?_) (trues_all _ rfl))) eds_nil) rc_all) (by rw [all_trues])) g2.fh fun v F3 H3 g3 p3 => k v F3 H3 (G2.trans g3) p3
      obtain ⟨x, hx, rfl⟩ := pairs_self he
      refine ⟨_, bd_two, fun σ' hσ => ?_⟩
      obtain ⟨va, vb, rfl, pa, pb⟩ := hσ
      exact ⟨rfl, ed_call (res := fun _ => .bool true) x (eds_cons (ed_var (i := 2) ⟨va, rfl, pa⟩) (eds_cons (ed_var (i := 3) ⟨vb, rfl, pb⟩) eds_nil)) ⟨fitAll_mem h2 x hx, can_mem h3 x hx⟩⟩
    · rw [Bool.and_self] at z
      refine PD.w_next ?_
      dsimp only
      refine PD.w_seq (w_if (b := false) (et_is (et_test (ed_op (ed_isB (ed_var (i0 F1 g1.fs))) (ed_isB (ed_var (i1 F1 g1.fs))) (rd_ne rfl rfl))) (by rw [eqv_bool]; simp)) g1.fh (fun z2 F2 H2 g2 => by cases z2) fun z2 F2 H2 g2 => PD.w_next ?_)
      dsimp only
      have G2 := g1.trans g2
      exact w_ret (d := .bool true) (ed_is (ed_op (ed_var (i0 F2 G2.fs)) (ed_var (i1 F2 G2.fs)) (rd_eq (shaped_leaf z dom.2) (shaped_leaf z dom.2))) (by rw [eqv_self z (fit_nd dom.1)])) g2.fh fun v F3 H3 g3 p3 => k v F3 H3 (G2.trans g3) p3
end
end K74
set_option Elab.async false
set_option linter.all false
set_option maxRecDepth 100000
set_option maxHeartbeats 4000000
namespace PD
open PySem PySem.Spec PyProof.Rows L2
section
variable {K : PySem.W.Frag} {σ : L2.St} {F H : Hp} {te tb : TE} {D : Ends} {ds es : List PyData}
/-- a new list into a name, told for ever at once -/
theorem w_asgL {i : Nat} (h : EvL K te σ F ds) (s : Same F H) (k : ∀ l vs F1 H1, Grow F H F1 H1 → F1 l = some (.lst vs) → DpAll K F1 vs ds → D.nx (σ.set i (some (.ref l))) H1) : tAsg te (gName i) D σ H :=
  h H s _ fun l vs F1 H1 g nl fl hl pa => k l vs _ H1 (g.freeze nl fl hl) upd_same (dpAll_same (same_upd fl) pa)
theorem el_catF {i : Nat} {l : Addr} {vs : List V} (hσ : σ[i]? = some (some (.ref l))) (fl : F l = some (.lst vs)) (pa : DpAll K F vs ds) (hb : EvL K tb σ F es) (hl : ds.length + es.length ≤ sizeLine) : EvL K (tOp rCat (tVar i) tb) σ F (ds ++ es) := fun H s Q q =>
  ⟨.ref l, hσ, hb H s _ fun p2 us F2 H2 g2 np2 fp2 h2 pa2 => by
    refine ⟨l, p2, vs, us, rfl, rfl, g2.hs _ _ (s _ _ fl), h2, by rw [dpAll_len pa, dpAll_len pa2]; exact hl, fun x hx => ?_⟩
    obtain ⟨g3, n3, f3⟩ := g2.lay (o := .lst (vs ++ us)) hx
    exact q x _ F2 _ g3 n3 f3 upd_same (dpAll_app (dpAll_same g2.fs pa) pa2)⟩
end
end PD
namespace K74
open PySem PySem.Spec PyProof.Rows L2 PD
def stepRow : PyData → List PyData
  | .tuple [t, .tuple rows] => STM.map fun one => .tuple [t, .tuple (rows ++ [one])]
  | _ => []
def allRows : Nat → List PyData
  | 0 => (PD.upTo 0 3).map fun t => .tuple [t, .tuple []]
  | n + 1 => (allRows n).flatMap stepRow
theorem rows_shape : ∀ (n : Nat), ∀ e ∈ allRows n, ∃ (t : Int) (rows : List PyData), e = .tuple [.int t, .tuple rows] ∧ rows.length = n
  | 0, e, h => by
    unfold allRows PD.upTo at h
    simp only [List.mem_map] at h
    obtain ⟨x, ⟨j, _, rfl⟩, rfl⟩ := h
    exact ⟨_, [], rfl, rfl⟩
  | n + 1, e, h => by
    unfold allRows at h
    obtain ⟨x, hx, he⟩ := List.mem_flatMap.mp h
    obtain ⟨t, rows, rfl, hl⟩ := rows_shape n x hx
    unfold stepRow at he
    obtain ⟨one, _, rfl⟩ := List.mem_map.mp he
    exact ⟨t, rows ++ [one], rfl, by rw [List.length_append, hl] <;> rfl⟩
theorem step_len (e : PyData) : (stepRow e).length ≤ 5 := by
  unfold stepRow
  split
  · rw [List.length_map]; exact Nat.le_refl 5
  · exact Nat.zero_le _
theorem flat_len : ∀ (es : List PyData), (es.flatMap stepRow).length ≤ es.length * 5
  | [] => by simp
  | e :: es => by
    rw [List.flatMap_cons, List.length_append, List.length_cons]
    have h1 := step_len e
    have h2 := flat_len es
    omega
theorem rows_len : ∀ n, (allRows n).length ≤ 3 * 5 ^ n
  | 0 => by unfold allRows; rw [List.length_map, PD.upTo_len] <;> decide
  | n + 1 => by
    unfold allRows
    have h1 := flat_len (allRows n)
    have h2 := rows_len n
    rw [Nat.pow_succ]
    omega
theorem rows_few {n : Nat} (h : n ≤ 3) : (allRows n).length ≤ 375 := by
  have h1 := rows_len n
  have h2 : 5 ^ n ≤ 5 ^ 3 := Nat.pow_le_pow_right (by decide) h
  have h3 : (5 : Nat) ^ 3 = 125 := by decide
  omega
abbrev spAllRows (K : PySem.W.Frag) : Sp := PSp K (fun n : Nat => [.int (n : Nat)]) (fun n => n ≤ 3) (fun n => .list (allRows n))
section
variable {P : Program} {w : World} {K : PySem.W.Frag} {mg : Str → Option Value} {base : Heap} {fd : FuncData}
theorem ok_law_all_rows (a : At K mg "_law_all_rows" s_law_all_rows [] ["many"] fd) (B : Bl mg) (G_law_statements : Fnk P w K mg base 1 "_law_statements" [] (spStms K)) : FnOk P w K mg base (L2.CX P w) 2 (He.ga K "_law_all_rows") fd ["many"] (spAllRows K) := by
  refine a.F.ok s_law_all_rows_S (psp_len fun _ => rfl) (fun cdv A outer s H vs Q E hr h => ?_)
  obtain ⟨n, F, sF, p, dom, k⟩ := h
  obtain ⟨v0, rfl, p0⟩ := dpAll_one p
  refine ⟨_, (pss_cons (ps_setLc (i := 1) (own := [("test", 2)]) (g := gName 2) rfl s_law_all_rows_S.nd rfl rfl (sw_true rfl rfl rfl (by decide +kernel)) (pi_range1 (by rfl) B.range (pa_cons pe_int pa_nil)) (blkOk_by (own := [("test", 2)]) (N := s_law_all_rows_N) (sc := defScope s_law_all_rows) (by decide +kernel)) (fun _ _ _ _ _ => (pg_name (i := 2) s_law_all_rows_S.nd rfl (Or.inl rfl) (Or.inr rfl))) (fun _ _ _ _ _ => pts_nil) (fun _ _ _ _ _ => (pe_tup (pa_cons (pv 2) (pa_cons (pe_tup pa_nil) pa_nil)))))
      (pss_cons (ps_for ownD rfl (pi_range1 (by rfl) B.range (pa_cons (pv 0) pa_nil)) (pg_name (i := 3) s_law_all_rows_S.nd rfl (Or.inl rfl)) (pss_cons (ps_set (i := 4) s_law_all_rows_S.nd rfl (Or.inl rfl) (pe_lst pa_nil))
      (pss_cons (ps_for ownD rfl (pi_sq (pv 1)) (pg_tup (n := 2) rfl (pgs_cons (pg_name (i := 2) s_law_all_rows_S.nd rfl (Or.inr rfl)) (pgs_cons (pg_name (i := 5) s_law_all_rows_S.nd rfl (Or.inr rfl)) pgs_nil))) (pss_one (ps_set (i := 4) s_law_all_rows_S.nd rfl (Or.inl rfl) (pe_op op_cat (pv 4) (pe_lc (own := [("one", 6)]) (g := gName 6) rfl s_law_all_rows_S.nd (pi_sq (pe_fn0 G_law_statements (hr.mono (by decide)) (by rfl) passL)) (blkOk_by (own := [("one", 6)]) (N := s_law_all_rows_N) (sc := defScope s_law_all_rows) (by decide +kernel)) (fun _ _ _ _ _ => (pg_name (i := 6) s_law_all_rows_S.nd rfl (Or.inl rfl) (Or.inr rfl))) (fun _ _ _ _ _ => pts_nil) (fun _ _ _ _ _ => (pe_tup (pa_cons (pv 2) (pa_cons (pe_op (r := rCatA K) op_catA (pv 5) (pe_tup (pa_cons (pv 6) pa_nil))) pa_nil)))))))))
      (pss_one (ps_set (i := 1) s_law_all_rows_S.nd rfl (Or.inl rfl) (pv 4))))))
      (pss_one (ps_ret (pv 1))))), ?_⟩
  refine w_seq (PD.w_asgL (K := K) (i := 1) (ds := allRows 0) (el_map (fun t => .tuple [t, .tuple []]) (it_range1 (n := 3) (ed_c (.int 3)) (by decide) (by decide)) (by rw [PD.upTo_len]; decide) fun e F' he s' => ⟨_, bd_name, fun σ' hσ => ?_⟩) sF fun l vs F1 H1 g1 fl pa => ?_)
  · obtain ⟨v, rfl, pv⟩ := hσ
    exact ⟨rfl, ed_tup (eds_cons (ed_var (i := 2) ⟨v, rfl, pv⟩) (eds_cons (ed_tup eds_nil (by show 0 ≤ sizeLine; decide)) eds_nil)) (by show 2 ≤ sizeLine; decide)⟩
  dsimp only
  refine PD.w_seq (w_for (σ := [some v0, some (.ref l), none, none, none, none, none]) (F := F1) g1 (it_range1 (n := (n : Nat)) (ed_var (i := 0) ⟨v0, rfl, dp_same g1.fs p0⟩) (by omega) (by omega))
    (fun i σ' F' H' => ∃ l vs t2 t3 t4 t5 t6, σ' = [some v0, some (.ref l), t2, t3, t4, t5, t6] ∧ F' l = some (.lst vs) ∧ DpAll K F' vs (allRows i))
    (fun F2 H2 g => ⟨l, vs, none, none, none, none, none, rfl, g.fs _ _ fl, dpAll_same g.fs pa⟩) (fun i σ' F' H' e x F2 H2 he s1 gg h g px => ?_) (fun σ' F' H' s1 gg h => ?_))
  · obtain ⟨l, vs, t2, t3, t4, t5, t6, rfl, fl, pa⟩ := h
    have hi : i < n := by
      have h1 := (List.getElem?_eq_some_iff.mp he).1
      rw [PD.upTo_len] at h1
      omega
    dsimp only
    refine PD.w_seq (PD.w_asgL (K := K) (i := 4) (ds := []) (σ := [some v0, some (.ref l), t2, some x, t4, t5, t6]) (el_lst eds_nil (by show 0 ≤ sizeLine; decide)) g.fh fun l4 vs4 F3 H3 g3 fl4 pa4 => ?_)
    dsimp only
    have G3 := g.trans g3
    refine PD.w_seq (w_for (σ := [some v0, some (.ref l), t2, some x, some (.ref l4), t5, t6]) (F := F3) (gg.trans G3) (it_sq (ds := allRows i) (ed_var (i := 1) ⟨.ref l, rfl, .lst (SqL.of (G3.fs _ _ fl)) (dpAll_same G3.fs pa)⟩) (.inl rfl))
      (fun j σ' F' H' => ∃ l4 vs4 t2 t5 t6, σ' = [some v0, some (.ref l), t2, some x, some (.ref l4), t5, t6] ∧ F' l4 = some (.lst vs4) ∧ DpAll K F' vs4 (((allRows i).take j).flatMap stepRow))
      (fun F4 H4 g => ⟨l4, vs4, t2, t5, t6, rfl, g.fs _ _ fl4, dpAll_same g.fs pa4⟩) (fun j σ' F5 H5 e2 y F6 H6 he2 s5 gg5 h5 g6 py => ?_) (fun σ' F5 H5 s5 gg5 h5 => ?_))
    · obtain ⟨l5, vs5, u2, u5, u6, rfl, fl5, pa5⟩ := h5
      obtain ⟨t, rows, rfl, hl⟩ := rows_shape i e2 (List.mem_of_getElem? he2)
      refine bd_two H6 y g6.fh py _ fun σ2 hσ => ?_
      obtain ⟨vt, vr, rfl, pt, pr⟩ := hσ
      dsimp only
      have hj : j < (allRows i).length := (List.getElem?_eq_some_iff.mp he2).1
      have hf := rows_len i
      have hf2 : 5 ^ i ≤ 5 ^ 2 := Nat.pow_le_pow_right (by decide) (by omega)
      have tk : ((allRows i).take (j + 1)).flatMap stepRow = ((allRows i).take j).flatMap stepRow ++ STM.map (fun one => .tuple [.int t, .tuple (rows ++ [one])]) := by
        rw [List.take_add_one, he2, List.flatMap_append]
        rw [show Option.toList (some (PyData.tuple [.int t, .tuple rows])) = [.tuple [.int t, .tuple rows]] from rfl, List.flatMap_cons, List.flatMap_nil, List.append_nil]
        rfl
      have fewT : (((allRows i).take j).flatMap stepRow).length ≤ 5 * 75 := by
        have h1 := flat_len ((allRows i).take j)
        rw [List.length_take] at h1
        omega
      refine PD.w_asgL (K := K) (i := 4) (σ := [some v0, some (.ref l), some vt, some x, some (.ref l5), some vr, u6]) (PD.el_catF (i := 4) (l := l5) rfl (g6.fs _ _ fl5) (dpAll_same g6.fs pa5) (el_map (fun one => .tuple [.int t, .tuple (rows ++ [one])]) (it_sq (ds := STM) (ed_of_el (el_call (res := fun _ => STM) () eds_nil trivial)) (.inl rfl)) (by show 5 ≤ sizeLine; decide) fun e F' he s' => ⟨_, bd_name, fun σ' hσ => ?_⟩) (by rw [List.length_map]; show _ + 5 ≤ sizeLine; exact le1000 (by omega))) g6.fh fun l7 vs7 F7 H7 g7 fl7 pa7 => ?_
      · obtain ⟨v, rfl, pv⟩ := hσ
        exact ⟨rfl, ed_tup (eds_cons (ed_var (i := 2) ⟨vt, rfl, dp_same s' pt⟩) (eds_cons (ed_op (ed_var (i := 5) ⟨vr, rfl, dp_same s' pr⟩) (ed_tup (eds_cons (ed_var (i := 6) ⟨v, rfl, pv⟩) eds_nil) (by show 1 ≤ sizeLine; decide)) (rd_catA (by rw [hl]; exact le1000 (by show i + 1 ≤ 1000; omega)))) eds_nil)) (by show 2 ≤ sizeLine; decide)⟩
      · exact ⟨F7, g6.fs.trans g7.fs, gg5.trans (g6.trans g7), l7, vs7, _, _, _, rfl, fl7, by rw [tk]; exact pa7⟩
    · obtain ⟨l5, vs5, u2, u5, u6, rfl, fl5, pa5⟩ := h5
      rw [List.take_length] at pa5
      dsimp only
      exact ⟨.ref l5, rfl, F5, G3.fs.trans s5, gg5, l5, vs5, _, _, _, _, _, rfl, fl5, pa5⟩
  · obtain ⟨l, vs, t2, t3, t4, t5, t6, rfl, fl, pa⟩ := h
    rw [PD.upTo_len, Int.toNat_natCast] at pa
    exact w_ret (ed_var (i := 1) ⟨.ref l, rfl, .lst (SqL.of fl) pa⟩) gg.fh fun v F2 H2 g2 p2 => k v F2 H2 (gg.trans g2) p2
end
end K74
set_option Elab.async false
set_option linter.all false
set_option maxRecDepth 100000
set_option maxHeartbeats 4000000
/-! PD: a try whose clauses are all 'except C as n', one of which fits whatever the body raises. -/
namespace PD
open PySem PySem.Spec PyProof.Rows L2
/-- the ends behind a clause's suite: the name n, slot i, is gone -/
def offE (i : Nat) (D : Ends) : Ends := { nx := fun τ G => D.nx (τ.set i none) G, rt := D.rt, bk := fun τ G => D.bk (τ.set i none) G, ct := fun τ G => D.ct (τ.set i none) G }
abbrev Suites : Type := List (Value × (Addr → Value → Option Addr → TS))
/-- what is asked of an exception of the body: the first clause that fits goes on -/
def wMas (K : PySem.W.Frag) (i : Nat) (D : Ends) : Suites → WX
  | [] => fun _ _ _ _ => False
  | (k, f) :: more => fun ck dk τ G => ∃ b, PySem.W.exmOne K ck k = some b ∧ (b = true → ∀ ea, G ea = none → f ea ck dk (offE i D) (τ.set i (some (.ref ea))) G) ∧ (b = false → wMas K i D more ck dk τ G)
def SuiteOk (X : Cx) (b : List Stmt) (f : Addr → Value → Option Addr → TS) : Prop := ∀ (ea : Addr) (ob : Obj) (ck : Value) (dk : Option Addr) (pl : List (Addr × Obj)), Zc ck dk ob → (∃ ws, ob.data = .fields ws) → PSs (X.suite ea ((ea, ob) :: pl)) b (f ea ck dk)
inductive HdsAs (X : Cx) (n : Str) : List ExceptHandler → Suites → Prop
  | nil : HdsAs X n [] []
  | cons {y : Str} {k : Value} {f : Addr → Value → Option Addr → TS} {t0 : Stmt} {ts : List Stmt} {q1 q2 : Pos} {hs : List ExceptHandler} {fs : Suites} (nm : Names X y k) (ok : SuiteOk X (t0 :: ts) f) (more : HdsAs X n hs fs) :
      HdsAs X n (.ExceptHandler (some (.Name y q1)) (some n) (t0 :: ts) q2 :: hs) ((k, f) :: fs)
theorem no_frame {B h : Heap} {l : List Env} {ea : Addr} {Z : Obj → Prop} (x : HandSPX.FlyingZ B l ea Z h) : ea ∉ frs l := fun m => by
  obtain ⟨ob, ws, e1, _, e2⟩ := x.there
  obtain ⟨_, ob2, e3, e4⟩ := x.2.2.1.mem m
  rw [e1] at e3
  cases e3
  exact e4 ws e2
/-- an exception that X's def has caught; whatever of its record is set meanwhile, the state is X's -/
structure Ground (X : Cx) (pz : List (Addr × Obj)) (B : Heap) (ea : Addr) (ck : Value) (dk : Option Addr) (τ : L2.St) (G : Hp) (t : Shared) : Prop where
  fl : HandSPX.FlyingZ B (X.env :: X.outer) ea (Zc ck dk) t.heap
  any : ∀ h, HandSPX.FlyingZ B (X.env :: X.outer) ea (Zc ck dk) h → t.heap.UpToSlots h → Inv X pz τ G { t with heap := h }
  new : G ea = none
section
variable {X : Cx} {pz : List (Addr × Obj)} {B : Heap} {ea : Addr} {ck : Value} {dk : Option Addr} {τ : L2.St} {G : Hp} {t : Shared} {D : Ends} {n y : Str} {i : Nat} {k : Value} {t0 : Stmt} {ts : List Stmt} {q1 q2 q3 : Pos} {hs : List ExceptHandler} {fs : Suites} {f : Addr → Value → Option Addr → TS}
theorem Ground.inside (g : Ground X pz B ea ck dk τ G t) (fr : X.env.frame = some X.env.locals) {h : Heap} (x : HandSPX.FlyingZ B (X.env :: X.outer) ea (Zc ck dk) h) (u : t.heap.UpToSlots h) :
    ∃ ob, h.get? ea = some ob ∧ Zc ck dk ob ∧ (∃ ws, ob.data = .fields ws) ∧ Inv (X.suite ea ((ea, ob) :: (X.pn ++ pz))) [] τ G { t with heap := h } := by
  obtain ⟨ob, ws, e1, e2, e3⟩ := x.there
  have out := no_frame x
  refine ⟨ob, e1, e2, ⟨ws, e3⟩, (g.any h x u).suite e1 e3 g.new (fun z => out ?_) fun m => out ?_⟩
  · exact List.mem_filterMap.mpr ⟨X.env, List.mem_cons_self, by rw [fr, z]⟩
  · obtain ⟨v, v1, v2⟩ := List.mem_filterMap.mp m
    exact List.mem_filterMap.mpr ⟨v, List.mem_cons_of_mem _ v1, v2⟩
theorem refl_slots (h : Heap) : h.UpToSlots h := fun b o e _ => ⟨o.slots, e⟩
/-- does the clause's class fit? -/
theorem Ground.asks (g : Ground X pz B ea ck dk τ G t) (fr : X.env.frame = some X.env.locals) (nm : Names X y k) {b : Bool} (e : PySem.W.exmOne X.K ck k = some b) {Q : Bool → Shared → Prop} {R : Value → Shared → Prop} {M : Model} (hM : M = model X.prog X.w) (q : Q b t) :
    wpAny M (X.A.mark (some (.ref ea))) (eval (.Name y q1) X.env) (fun c s => wpAny M (X.A.mark (some (.ref ea))) (excMatches (.ref ea) c) Q R s) R t := by
  subst hM
  obtain ⟨ob, e1, e2, _, J⟩ := g.inside fr g.fl (refl_slots _)
  have kin : X.K.In t.heap := (g.any _ g.fl (refl_slots _)).kIn
  have ty : PySem.W.Looks (model X.prog X.w) t.heap (typeOf (.ref ea)) ck := fun _ _ _ _ keep z => wpAny_typeOf_ref (keep _ _ e1) (by rw [e2.1]; exact z)
  have fit := (PySem.W.exm_one (M := model X.prog X.w) kin ty e).here (A := X.A.mark (some (.ref ea))) (E := R) (Q := Q) (s := t) q
  obtain ⟨n1, n2, n3 | ⟨n3, n4, n5⟩⟩ := nm
  · exact ld_glob (X := X.suite ea ((ea, ob) :: (X.pn ++ pz))) J n1 n3 fit n2
  · exact ld_blt (X := X.suite ea ((ea, ob) :: (X.pn ++ pz))) J n1 n3 n4 fit n5 n2
/-- the clause that fits: n is bound, its suite runs, n goes -/
theorem Ground.runs (g : Ground X pz B ea ck dk τ G t) (fr : X.env.frame = some X.env.locals) (okX : X.Ok) (nd : X.N.Nodup) (hi : X.N[i]? = some n) (hk : X.env.kindOf n = some .local) (su : SuiteOk X (t0 :: ts) f) (wish : f ea ck dk (offE i D) (τ.set i (some (.ref ea))) G)
    {R : Except Value Flow → Shared → Prop} (after : ∀ fl s, wpAny (model X.prog X.w) X.A (do bindName X.env n .none; unbindBehindTheSuite X.env n q3) (fun _ s' => SP X pz D fl s') X.xe s → R (.ok fl) s) :
    codeAny (model X.prog X.w) (X.A.mark (some (.ref ea))) (.handlers (.ref ea) [.ExceptHandler none (some n) (t0 :: ts) q2] X.env) R t := by
  refine codeAny_handlers_suite_as (HandSPX.lands_againZ g.fl fun h x u => ?_)
  obtain ⟨ob, _, z, w, J⟩ := g.inside fr x u
  refine store_ok (X := X.suite ea ((ea, ob) :: (X.pn ++ pz))) (v := .ref ea) J nd hi (.inl hk) rfl (fun s5 J5 => ?_) (.inr hk)
  refine wpAny_mono ((su ea ob ck dk (X.pn ++ pz) z w).run [] s5 _ G _ J5 wish) (fun fl s6 end6 => after fl s6 ?_) fun _ _ no => no.elim
  have gone : ∀ {τ6 : L2.St} {G6 : Hp} {P : Shared → Prop}, Inv (X.suite ea ((ea, ob) :: (X.pn ++ pz))) [] τ6 G6 s6 → (∀ s7, Inv X pz (τ6.set i none) G6 s7 → P s7) → wpAny (model X.prog X.w) X.A (do bindName X.env n .none; unbindBehindTheSuite X.env n q3) (fun _ s7 => P s7) X.xe s6 :=
    fun J6 p => gone_ok (J6.unsuite okX) nd hi hk p
  cases fl with
  | ret => exact let ⟨v, τ6, G6, J6, r, d⟩ := end6; gone J6 fun _ J7 => ⟨v, _, G6, J7, r, d⟩
  | _ => exact let ⟨τ6, G6, J6, d⟩ := end6; gone J6 fun _ J7 => ⟨_, G6, J7, d⟩
/-- all clauses -/
theorem Ground.all (g : Ground X pz B ea ck dk τ G t) (fr : X.env.frame = some X.env.locals) (okX : X.Ok) (nd : X.N.Nodup) (hi : X.N[i]? = some n) (hk : X.env.kindOf n = some .local) (hh : HdsAs X n hs fs) :
    wMas X.K i D fs ck dk τ G → wpAny (model X.prog X.w) X.A (handleBy (.ref ea) X.env hs) (SP X pz D) X.xe t := by
  induction hh with
  | nil => exact fun no => no.elim
  | cons nm su more ih =>
    rintro ⟨b, e, yes, no⟩
    refine wpAny_handleBy_cons (codeAny_handlers_test (g.asks fr nm e rfl ?_)) (fun z => by cases z)
    cases b with
    | false => exact ih (no rfl)
    | true => exact g.runs fr okX nd hi hk su (yes rfl ea g.new) fun _ _ z => z
end
section
variable {X : Cx} {bs : List Stmt} {h0 : ExceptHandler} {hs : List ExceptHandler} {fs : Suites} {pos : Pos} {tb : WX → TS} {n : Str} {i : Nat}
theorem ps_try_mas (st : X.stack = X.env :: X.outer) (fr : X.env.frame = some X.env.locals) (nd : X.N.Nodup) (hi : X.N[i]? = some n) (hk : X.env.kindOf n = some .local)
    (hb : ∀ (V : WX) (pl : List (Addr × Obj)) (xe : Value → Shared → Prop), Takes (X.tr pl xe) V → PSs (X.tr pl xe) bs (tb V)) (hh : HdsAs X n (h0 :: hs) fs) : PS X (.Try bs (h0 :: hs) [] [] pos) (fun D σ H => tb (wMas X.K i D fs) D σ H) := by
  refine ⟨fun pz s σ H D I w => wpAny_Try_except ?_⟩
  have okX := I.ok
  have fms : X.A.frames = some (X.env :: X.outer) := okX.frames.trans (by rw [st])
  refine wpAny_mono ((hb _ (X.pn ++ pz) _ fun u s1 air => ?_).run [] s σ H D (I.toTry _) w) (fun fl s1 z => ?_) fun _ _ z => z
  · obtain ⟨ea, B, sI, pl, τ, G, ck, dk, rfl, J, b1, b2, b3, b4, b5, b6, wish⟩ := air
    have b3' : Sky B (X.env :: X.outer) ea (Zc ck dk) X.env.locals s1.heap := st ▸ b3
    refine Sky.land (L := X.env.locals) (outer := X.outer) Zc.steady fms fr b3' fun h x u => ?_
    have g : Ground X pz B ea ck dk τ G { s1 with heap := h } := ⟨x, fun h' x' u' => (J.ofTry okX).landed b1 x'.1 ((b2.trans u).trans u') b5 b6, b4⟩
    exact g.all fr okX nd hi hk hh wish
  · cases fl with
    | next => exact let ⟨τ, G, J, d⟩ := z; wpAny_execs_nil ⟨τ, G, J.ofTry okX, d⟩
    | ret => exact let ⟨v, τ, G, J, r, d⟩ := z; ⟨v, τ, G, J.ofTry okX, r, d⟩
    | _ => exact let ⟨τ, G, J, d⟩ := z; ⟨τ, G, J.ofTry okX, d⟩
end
end PD
set_option Elab.async false
set_option linter.all false
set_option maxRecDepth 100000
set_option maxHeartbeats 4000000
namespace PD
open PySem PySem.Spec PyProof.Rows L2
/-! ### growth, tables aside -/
theorem extN_seq {K : PySem.W.Frag} {H H' : Hp} {a : Addr} {xs : List V} (e : LamX.ExtN H H') (h : SqL K H a xs) : SqL K H' a xs := by
  rcases h with (h | ⟨o, h⟩) | h
  · exact .inl (.inl (e _ _ h fun _ z => by cases z))
  · exact .inl (.inr ⟨o, e _ _ h fun _ z => by cases z⟩)
  · exact .inr h
theorem extN_st {K : PySem.W.Frag} {H H' : Hp} {a : Addr} {xs : List V} (e : LamX.ExtN H H') (h : SqT K H a xs) : SqT K H' a xs := by
  rcases h with (h | ⟨o, h⟩) | h
  · exact .inl (.inl (e _ _ h fun _ z => by cases z))
  · exact .inl (.inr ⟨o, e _ _ h fun _ z => by cases z⟩)
  · exact .inr h
mutual
theorem dp_extN {K : PySem.W.Frag} {H H' : Hp} (e : LamX.ExtN H H') : ∀ {d : PyData} {v : V}, Dp K H v d → Dp K H' v d
  | .none, _, h => by cases h; exact .non
  | .bool b, _, h => by cases h; exact .bl b
  | .int i, _, h => by cases h; exact .int i
  | .str x, _, h => by cases h; exact .str x
  | .list ds, _, h => by
    cases h with
    | lst hs ha => exact .lst (extN_seq e hs) (dpAll_extN e ha)
  | .tuple ds, _, h => by
    cases h with
    | tup hs ha => exact .tup (extN_st e hs) (dpAll_extN e ha)
  | .dict _, _, h => by cases h
theorem dpAll_extN {K : PySem.W.Frag} {H H' : Hp} (e : LamX.ExtN H H') : ∀ {ds : List PyData} {vs : List V}, DpAll K H vs ds → DpAll K H' vs ds
  | [], _, h => by cases h; exact .nil
  | d :: ds, _, h => by
    cases h with
    | cons h1 h2 => exact .cons (dp_extN e h1) (dpAll_extN e h2)
end
/-- F without the tables -/
def strip (F : Hp) : Hp := fun a => match F a with
  | some (.tbl _) => none
  | o => o
theorem strip_some {F : Hp} {a : Addr} {o : HO} (h : strip F a = some o) : F a = some o ∧ ∀ ps, o ≠ .tbl ps := by
  unfold strip at h
  cases q : F a with
  | none =>
    rw [q] at h
    cases h
  | some u =>
    rw [q] at h
    cases u <;> first | (cases h; done) | (cases h; exact ⟨rfl, fun _ z => by cases z⟩)
theorem strip_of {F : Hp} {a : Addr} {o : HO} (h : F a = some o) (n : ∀ ps, o ≠ .tbl ps) : strip F a = some o := by
  unfold strip
  rw [h]
  cases o <;> first | rfl | exact absurd rfl (n _)
theorem strip_none {F : Hp} {a : Addr} (h : F a = none) : strip F a = none := by
  unfold strip
  rw [h]
structure GrowT (F H F2 H2 : Hp) : Prop where
  fs : LamX.ExtN F F2
  fh : Same F2 H2
  hs : LamX.ExtN H H2
  out : ∀ a o, F a = none → H a = some o → (∀ ps, o ≠ .tbl ps) → F2 a = none
theorem GrowT.of {F H F1 H1 F2 H2 : Hp} (s : Same F H) (e : LamX.ExtN H H1) (e1 : F1 = strip F) (g : Grow F1 H1 F2 H2) : GrowT F H F2 H2 := by
  subst e1
  refine ⟨fun a o h n => g.fs a o (strip_of h n), g.fh, fun a o h n => g.hs a o (e a o h n), fun a o h q n => g.out a (strip_none h) (by rw [e a o q n]; simp)⟩
theorem strip_same {F H H1 : Hp} (s : Same F H) (e : LamX.ExtN H H1) : Same (strip F) H1 := fun a o h => by
  obtain ⟨h1, h2⟩ := strip_some h
  exact e a o (s a o h1) h2
/-! ### taken with one more fact: how many slots there are -/
theorem takes_len {X : Cx} {W : WX} (tk : Takes X W) : Takes X (fun cls d σ H => σ.length = X.N.length → W cls d σ H) := fun u s' x => by
  obtain ⟨a, B, sI, pins, σ, H, cls, d, e, I, nb, up, sky, na, os, ag, w⟩ := x
  exact tk u s' ⟨a, B, sI, pins, σ, H, cls, d, e, I, nb, up, sky, na, os, ag, w I.len⟩
end PD
namespace K74
open PySem PySem.Spec PyProof.Rows L2 PD
/-! ### _law_fault -/
structure ExF (K : PySem.W.Frag) (mg : Str → Option Value) : Prop where
  g1 : mg "BadName" = some (.ref (He.ga K "BadName"))
  g2 : mg "BadNumber" = some (.ref (He.ga K "BadNumber"))
  g3 : mg "BadRow" = some (.ref (He.ga K "BadRow"))
  g4 : mg "NoName" = some (.ref (He.ga K "NoName"))
  g5 : mg "TakenName" = some (.ref (He.ga K "TakenName"))
  g6 : mg "Unlike" = some (.ref (He.ga K "Unlike"))
  g7 : mg "NotThere" = some (.ref (He.ga K "NotThere"))
  g8 : mg "TooMany" = some (.ref (He.ga K "TooMany"))
  x1 : XfC K (He.ga K "BadName")
  x2 : XfC K (He.ga K "BadNumber")
  x3 : XfC K (He.ga K "BadRow")
  x4 : XfC K (He.ga K "NoName")
  x5 : XfC K (He.ga K "TakenName")
  x6 : XfC K (He.ga K "Unlike")
  x7 : XfC K (He.ga K "NotThere")
  x8 : XfC K (He.ga K "TooMany")
  n1 : PySem.W.findIn K (.ref (He.ga K "BadName")) "name" = some none
  n2 : PySem.W.findIn K (.ref (He.ga K "BadNumber")) "what" = some none
  n2' : PySem.W.findIn K (.ref (He.ga K "BadNumber")) "number" = some none
  n3 : PySem.W.findIn K (.ref (He.ga K "BadRow")) "what" = some none
  n3' : PySem.W.findIn K (.ref (He.ga K "BadRow")) "row" = some none
  n4 : PySem.W.findIn K (.ref (He.ga K "NoName")) "name" = some none
  n5 : PySem.W.findIn K (.ref (He.ga K "TakenName")) "name" = some none
  n6 : PySem.W.findIn K (.ref (He.ga K "Unlike")) "what" = some none
  n7 : PySem.W.findIn K (.ref (He.ga K "NotThere")) "what" = some none
  n8 : PySem.W.findIn K (.ref (He.ga K "TooMany")) "what" = some none
  n8' : PySem.W.findIn K (.ref (He.ga K "TooMany")) "many" = some none
  n8'' : PySem.W.findIn K (.ref (He.ga K "TooMany")) "limit" = some none
  e21 : PySem.W.exmOne K (.ref (He.ga K "BadNumber")) (.ref (He.ga K "BadName")) = some false
  e22 : PySem.W.exmOne K (.ref (He.ga K "BadNumber")) (.ref (He.ga K "BadNumber")) = some true
  e31 : PySem.W.exmOne K (.ref (He.ga K "BadRow")) (.ref (He.ga K "BadName")) = some false
  e32 : PySem.W.exmOne K (.ref (He.ga K "BadRow")) (.ref (He.ga K "BadNumber")) = some false
  e33 : PySem.W.exmOne K (.ref (He.ga K "BadRow")) (.ref (He.ga K "BadRow")) = some true
/-- what _law_fault makes of an exception -/
def faultE (K : PySem.W.Frag) (Q : VK) : XK := fun cls d H => ∃ (dd : Addr) (fs : List (Str × V)) (v1 v2 : V), d = some dd ∧ H dd = some (.xd fs) ∧
  ((cls = .ref (He.ga K "BadNumber") ∧ fs.lookup ("what" : Str) = some v1 ∧ fs.lookup ("number" : Str) = some v2 ∧ ∀ p, H p = none → Q (.ref p) (upd H p (.tup [.str "BadNumber", v1, v2]))) ∨
   (cls = .ref (He.ga K "BadRow") ∧ fs.lookup ("what" : Str) = some v1 ∧ fs.lookup ("row" : Str) = some v2 ∧ ∀ p, H p = none → Q (.ref p) (upd H p (.tup [.str "BadRow", v1, v2]))))
def TTf (K : PySem.W.Frag) : (XK → Hp → VK → Prop) → Hp → VK → Prop := fun tl H Q => tl (faultE K Q) H fun _ H' => Q .non H'
theorem set1 {α : Type} {σ : List (Option α)} {x : α} (h : σ.length = 2) : (σ.set 1 (some x))[1]? = some (some x) := by
  match σ, h with
  | [a, b], _ => rfl
theorem ps_tb {Y : Cx} {x : Str} {p1 p2 pos : Pos} {C : XK → Prop} {tE : XK → TE} (hp : ∀ Ech, C Ech → PE Y (.Call (.Name x p1) [] [] p2) (tE Ech)) : PSs Y [.Expr (.Call (.Name x p1) [] [] p2) pos] (fun D σ H => ∃ Ech, C Ech ∧ tE Ech σ H fun _ H' => D.nx σ H') :=
  ⟨fun pins s σ H D I ⟨Ech, hc, h⟩ => (pss_one (ps_expr (pos := pos) (hp Ech hc))).run pins s σ H D I h⟩
theorem fault_gives {X : Cx} (F : ExF X.K X.mg) {g : Addr} {cdg : Value} {q : Str} : LamX.GivesTo X s_law_fault_N "_law_fault" (defScope s_law_fault) g cdg (defBody s_law_fault) "call" q (TTf X.K) := by
  intro f c' s H Q tl act hc h
  refine ⟨_, pss_cons (PD.ps_try_mas (X := (cxOf C8.CX0 X.prog X.w X.K X.mg X.base s_law_fault_N "_law_fault" (defScope s_law_fault) g cdg X.A X.stack s H C8.E0).nox) (n := "e") (i := 1)
      (tb := fun W D σ H => ∃ Ech : XK, (∀ cls d σ' H', Ech cls d H' → σ'.length = 2 → W cls d σ' H') ∧ σ[0]? = some (some (.ref f)) ∧ H c' = some (LamX.CodeO c' q) ∧ tl Ech H fun _ H' => D.nx σ H')
      rfl rfl s_law_fault_S.nd rfl rfl (fun W pn xe tk => ?_)
      (.cons ⟨by rfl, by decide, .inl F.g1⟩ (fun a oe cls d pn hz hf => pss_one (ps_ret (pe_tup (pa_cons pe_str (pa_cons (pe_xf F.x1 F.n1 hz hf (pv 1)) pa_nil)))))
      (.cons ⟨by rfl, by decide, .inl F.g2⟩ (fun a oe cls d pn hz hf => pss_one (ps_ret (pe_tup (pa_cons pe_str (pa_cons (pe_xf F.x2 F.n2 hz hf (pv 1)) (pa_cons (pe_xf F.x2 F.n2' hz hf (pv 1)) pa_nil))))))
      (.cons ⟨by rfl, by decide, .inl F.g3⟩ (fun a oe cls d pn hz hf => pss_one (ps_ret (pe_tup (pa_cons pe_str (pa_cons (pe_xf F.x3 F.n3 hz hf (pv 1)) (pa_cons (pe_xf F.x3 F.n3' hz hf (pv 1)) pa_nil))))))
      (.cons ⟨by rfl, by decide, .inl F.g4⟩ (fun a oe cls d pn hz hf => pss_one (ps_ret (pe_tup (pa_cons pe_str (pa_cons (pe_xf F.x4 F.n4 hz hf (pv 1)) pa_nil)))))
      (.cons ⟨by rfl, by decide, .inl F.g5⟩ (fun a oe cls d pn hz hf => pss_one (ps_ret (pe_tup (pa_cons pe_str (pa_cons (pe_xf F.x5 F.n5 hz hf (pv 1)) pa_nil)))))
      (.cons ⟨by rfl, by decide, .inl F.g6⟩ (fun a oe cls d pn hz hf => pss_one (ps_ret (pe_tup (pa_cons pe_str (pa_cons (pe_xf F.x6 F.n6 hz hf (pv 1)) pa_nil)))))
      (.cons ⟨by rfl, by decide, .inl F.g7⟩ (fun a oe cls d pn hz hf => pss_one (ps_ret (pe_tup (pa_cons pe_str (pa_cons (pe_xf F.x7 F.n7 hz hf (pv 1)) pa_nil)))))
      (.cons ⟨by rfl, by decide, .inl F.g8⟩ (fun a oe cls d pn hz hf => pss_one (ps_ret (pe_tup (pa_cons pe_str (pa_cons (pe_xf F.x8 F.n8 hz hf (pv 1)) (pa_cons (pe_xf F.x8 F.n8' hz hf (pv 1)) (pa_cons (pe_xf F.x8 F.n8'' hz hf (pv 1)) pa_nil)))))))
      .nil))))))))) (pss_one (ps_ret pe_non)), ?_⟩
  · exact ps_tb (C := fun Ech => ∀ cls d σ' H', Ech cls d H' → σ'.length = 2 → W cls d σ' H') (tE := fun Ech σZ HZ Q => σZ[0]? = some (some (.ref f)) ∧ HZ c' = some (LamX.CodeO c' q) ∧ tl Ech HZ Q) (fun Ech hW => act _ pn xe Ech _ _ (PD.takes_len tk) (fun cls d σ' H' z hl => hW cls d σ' H' z hl))
  · refine ⟨faultE X.K Q, fun cls d σ' H' z hl => ?_, rfl, hc, h⟩
    obtain ⟨dd, fs, v1, v2, ed, hd, h⟩ := z
    have z3 : 3 ≤ sizeLine := by decide
    rcases h with ⟨ec, l1, l2, k⟩ | ⟨ec, l1, l2, k⟩
    · subst ec
      refine ⟨false, F.e21, (fun z => by cases z), fun _ => ⟨true, F.e22, (fun _ a na => ?_), (fun z => by cases z)⟩⟩
      exact ⟨.ref a, set1 hl, rfl, rfl, dd, fs, v1, ed, hd, l1, .ref a, set1 hl, rfl, rfl, dd, fs, v2, ed, hd, l2, z3, fun p hp => k p hp⟩
    · subst ec
      refine ⟨false, F.e31, (fun z => by cases z), fun _ => ⟨false, F.e32, (fun z => by cases z), fun _ => ⟨true, F.e33, (fun _ a na => ?_), (fun z => by cases z)⟩⟩⟩
      exact ⟨.ref a, set1 hl, rfl, rfl, dd, fs, v1, ed, hd, l1, .ref a, set1 hl, rfl, rfl, dd, fs, v2, ed, hd, l2, z3, fun p hp => k p hp⟩
end K74
set_option Elab.async false
set_option linter.all false
set_option maxRecDepth 100000
set_option maxHeartbeats 4000000
namespace PD
open PySem PySem.Spec PyProof.Rows L2
section
variable {K : PySem.W.Frag} {σ : L2.St} {F H : Hp} {te ta tb : TE} {D : Ends} {ds es : List PyData} {d : PyData}
theorem Grow.t {F2 H2 : Hp} (g : Grow F H F2 H2) : GrowT F H F2 H2 := ⟨fun a o h _ => g.fs a o h, g.fh, fun a o h _ => g.hs a o h, fun a o h q _ => g.out a h (by rw [q]; simp)⟩
theorem GrowT.trans {F1 H1 F2 H2 : Hp} (a : GrowT F H F1 H1) (b : GrowT F1 H1 F2 H2) : GrowT F H F2 H2 := ⟨fun x o h n => b.fs x o (a.fs x o h n) n, b.fh, fun x o h n => b.hs x o (a.hs x o h n) n, fun x o h q n => b.out x o (a.out x o h q n) (a.hs x o q n) n⟩
theorem Sl.t {i : Nat} {F2 : Hp} (e : LamX.ExtN F F2) (h : Sl K σ F i d) : Sl K σ F2 i d := let ⟨v, q, p⟩ := h; ⟨v, q, dp_extN e p⟩
theorem ed_fld {a C dx : Addr} {fs : List (Str × V)} {v : V} {f : Str} {i : Nat} (hσ : σ[i]? = some (some (.ref a))) (fa : F a = some (.ins C dx fs)) (c : Cls K C) (n : NoAttr K C f) (hl : fs.lookup f = some v) (p : Dp K F v d) : EvD K (tFld K (tVar i) f) σ F d := fun H s Q q =>
  ⟨.ref a, hσ, a, C, dx, fs, v, rfl, s _ _ fa, c, n, hl, q v F H (.refl s) p⟩
theorem ed_isC {a C dx : Addr} {fs : List (Str × V)} {i : Nat} (hσ : σ[i]? = some (some (.ref a))) (fa : F a = some (.ins C dx fs)) : EvD K (tCB (fun xs H Q => ∃ a dx fs, xs = [.ref a, .ref C] ∧ H a = some (.ins C dx fs) ∧ Q (.bl true) H) (tCons (tVar i) (tCons (tC (.ref C)) tNil))) σ F (.bool true) := fun H s Q q =>
  ⟨.ref a, hσ, a, dx, fs, rfl, s _ _ fa, q _ F H (.refl s) (.bl true)⟩
theorem ed_neg {i : Int} (h : EvD K te σ F (.int i)) : EvD K (tUn (rU fun i => .int (-i)) te) σ F (.int (-i)) := fun H s Q q => h H s _ fun v F2 H2 g p => ⟨i, dp_int p, q _ F2 H2 g (.int _)⟩
theorem rd_repT {k : Int} (h1 : ds ≠ []) (hk : 2 ≤ k ∧ k ≤ 1000) (hl : ds.length ≤ 1000) : RvD K (rRepT K) (.tuple ds) (.int k) (.tuple (List.replicate k.toNat ds).flatten) := fun F H v u s p1 p2 Q q => by
  cases p1 with
  | tup hs pa =>
    have e := dpAll_len pa
    refine ⟨_, k, _, rfl, dp_int p2, st_same s hs, fun z => h1 (by
      have h3 := e
      rw [z] at h3
      exact List.length_eq_zero_iff.mp h3.symm), hk.1, hk.2, by omega, fun p hp => ?_⟩
    exact q _ _ _ (Grow.new s hp) (.tup (SqT.of upd_same) (dpAll_same (Grow.new (o := .tup _) s hp).fs (dpAll_flat pa _)))
/-- for, with nothing said of what the heaps have in common but that what is told for ever is true -/
theorem w_forS {tb : TS} {wi : TI} {g : TG} (s0 : Same F H) (it : IterD K wi σ F ds) (Pv : Nat → L2.St → Hp → Hp → Prop) (h0 : ∀ F1 H1, Grow F H F1 H1 → Pv 0 σ F1 H1)
    (hs : ∀ i σ' F' H' e x F2 H2, ds[i]? = some e → Same F F' → Same F' H' → Pv i σ' F' H' → Grow F' H' F2 H2 → Dp K F2 x e →
      g x σ' H2 fun σ2 H3 => tb { D with nx := fun σ3 H3 => ∃ F3, Same F' F3 ∧ Same F3 H3 ∧ Pv (i + 1) σ3 F3 H3, ct := fun σ3 H3 => ∃ F3, Same F' F3 ∧ Same F3 H3 ∧ Pv (i + 1) σ3 F3 H3, bk := D.nx } σ2 H3)
    (hd : ∀ σ' F' H', Same F F' → Same F' H' → Pv ds.length σ' F' H' → D.nx σ' H') : tFor wi g tb D σ H := it H s0 _ fun J F1 H1 g1 w => by
  refine ⟨fun i m σ' H' => m = ds.length - i ∧ i ≤ ds.length ∧ ∃ F', Same F1 F' ∧ Same F' H' ∧ Pv i σ' F' H', ⟨ds.length, by simp, Nat.zero_le _, F1, Same.refl F1, g1.fh, h0 F1 H1 g1⟩, ?_⟩
  rintro i m σ' H' ⟨rfl, hi, F', s1, gg, p⟩
  have sF : Same F1 H' := s1.trans gg
  by_cases hlt : i < ds.length
  · refine Or.inr ⟨w.goes i H' hlt sF, fun σ3 H3 => ∃ F3, Same F' F3 ∧ Same F3 H3 ∧ Pv (i + 1) σ3 F3 H3, fun σ2 H2 ⟨F3, z1, z2, z3⟩ => ⟨ds.length - (i + 1), by omega, rfl, hlt, F3, s1.trans z1, z2, z3⟩, fun x H2 y => ?_⟩
    have he : ds[i]? = some ds[i] := by simp [hlt]
    obtain ⟨F2, g2, pv⟩ := (w.mono s1).yields i H' x H2 _ he gg y
    exact hs i σ' F' H' _ x F2 H2 he (g1.fs.trans s1) gg p g2 pv
  · have e : i = ds.length := by omega
    subst e
    exact Or.inl ⟨w.stops H' sF, hd σ' F' H' (g1.fs.trans s1) gg p⟩
end
end PD
namespace K74
open PySem PySem.Spec PyProof.Rows L2 PD
/-! ### _law_fault, of a lambda -/
theorem passLam {X : Cx} {A : Around} {outer : List Env} {s : Shared} {H : Hp} {E : XK} {scope : Scope} {f c' : Addr} : Passes (L2.CX X.prog X.w) (LamX.lamCx X A outer s H E scope f c') E := passes_call (X := LamX.lamCx X A outer s H E scope f c') (takes_of rfl rfl rfl rfl) (fun _ _ _ _ h => h)
theorem pe_flt {X : Cx} {k : Nat} {fd : FuncData} {c P : Addr} {params : Arguments} {body : Expr} {scope : Scope} {p lpos pos : Pos} {t : XK → TE} (a : At X.K X.mg "_law_fault" s_law_fault [] ["call"] fd) (F : ExF X.K X.mg) (hg : Gl X "_law_fault")
    (TB : LamX.TabB X.base X.mg c P) (hcode : X.env.code = .ref c) (hr : Room (k + 2) X.A) (L : LamX.LamS X.env.scope scope) (hdef : defaultsOf params X.env = ([], []))
    (hbind : ∀ (q : Str) (cl : List (Str × Addr)) (pm cv ctv : Value), bindArgs (PySem.W.kla_fn "<lambda>" q params body scope cl pm cv ctv) ⟨[], []⟩ = pure [])
    (hbody : ∀ (A : Around) (outer : List Env) (s : Shared) (H : Hp) (E : XK) (f c' : Addr), Room k (A.deeper (LamX.lamEnv X scope s.heap.objs.size f c')) → PE (LamX.lamCx X A outer s H E scope f c') body (t E)) :
    PE X (.Call (.Name "_law_fault" p) [.Lambda params body scope lpos] [] pos) (LamX.tLam [(P, X.env.qual ++ "<lambda>")] (TTf X.K) t) := by
  obtain ⟨oc, od, dV, kV, doc, pm, an, cdv, ct, osl, rfl, lk, hcd, _, _⟩ := a.F.ex
  exact LamX.pe_lamcall hg a.gl a.F.kp lk hcd a.b s_law_fault_S rfl (Or.inl rfl) (fault_gives F) TB hcode (List.mem_singleton.mpr rfl) (fun p hp _ => by rw [List.mem_singleton.mp hp]) hr L hdef hbind hbody
theorem w_fault {K : PySem.W.Frag} {T : List (Addr × Str)} {σ : L2.St} {F H : Hp} {t : XK → TE} {C : Str} {ns : List Str} {d1 d2 : PyData} (s : Same F H) (hT : LamX.Tabs T H) (hC : (C = "BadNumber" ∧ ns = (["what", "number"] : List Str)) ∨ (C = "BadRow" ∧ ns = (["what", "row"] : List Str)))
    (hc : ∀ E F1, LamX.ExtN F F1 → EvX K E (t E) σ F1 C ns [d1, d2]) {Q : VK} (k : ∀ v F2 H2, GrowT F H F2 H2 → LamX.Tabs T H2 → Dp K F2 v (.tuple [.str C, d1, d2]) → Q v H2) : LamX.tLam T (TTf K) t σ H Q := by
  refine ⟨hT, fun H1 e T1 => hc (faultE K Q) (strip F) (fun a o h n => strip_of h n) H1 (strip_same s e) _ fun d vs F2 H2 g hd pa => ?_⟩
  obtain ⟨v1, v2, rfl, p1, p2⟩ := dpAll_two pa
  have fin : ∀ p, H2 p = none → Q (.ref p) (upd H2 p (.tup [.str C, v1, v2])) := fun p hp => by
    have gn := Grow.new (o := .tup [.str C, v1, v2]) g.fh hp
    exact k _ _ _ ((GrowT.of s e rfl g).trans gn.t) (T1.ext fun b o q => gn.hs b o (g.hs b o q)) (.tup (SqT.of upd_same) (dpAll_same gn.fs (.cons (.str _) (.cons p1 (.cons p2 .nil)))))
  rcases hC with ⟨rfl, rfl⟩ | ⟨rfl, rfl⟩
  · exact ⟨d, _, v1, v2, rfl, hd, .inl ⟨rfl, rfl, rfl, fin⟩⟩
  · exact ⟨d, _, v1, v2, rfl, hd, .inr ⟨rfl, rfl, rfl, fin⟩⟩
/-! ### the faults, one after the other -/
structure FS (K : PySem.W.Frag) (T : List (Addr × Str)) (p l : Addr) (n : Nat) (F H : Hp) (vs : List V) (ds : List PyData) : Prop where
  s : Same F H
  pen : PenAt K F H p n
  tab : LamX.Tabs T H
  fl : F l = none
  hl : H l = some (.lst vs)
  ds : DpAll K F vs ds
theorem PenAt.t {K : PySem.W.Frag} {F H F2 H2 : Hp} {p : Addr} {n : Nat} (h : PenAt K F H p n) (g : GrowT F H F2 H2) : PenAt K F2 H2 p n := by
  obtain ⟨c, xs, ns, a, d, f, h1, h2, h3, h4⟩ := h.ex
  exact ⟨g.out p _ h.fp h3 (fun _ z => by cases z), c, xs, ns, a, d, f, extN_seq g.fs h1, h2, g.hs _ _ h3 (fun _ z => by cases z), h4⟩
theorem PenAt.off {K : PySem.W.Frag} {F H : Hp} {p l : Addr} {n : Nat} {o : HO} (h : PenAt K F H p n) (e : l ≠ p) : PenAt K F (upd H l o) p n := by
  obtain ⟨c, xs, ns, a, d, f, h1, h2, h3, h4⟩ := h.ex
  exact ⟨h.fp, c, xs, ns, a, d, f, h1, h2, by rw [upd_ne (Ne.symm e)]; exact h3, h4⟩
theorem tabs_off {T : List (Addr × Str)} {H : Hp} {l : Addr} {o : HO} (h : LamX.Tabs T H) (e : ∀ q, H l ≠ some (.tbl q)) (e2 : ∀ c q, H l ≠ some (LamX.CodeO c q)) : LamX.Tabs T (upd H l o) := fun p hp => by
  obtain ⟨ps, h1, h2, h3⟩ := h p hp
  refine ⟨ps, by rw [upd_ne (fun z => e ps (by rw [← z]; exact h1))]; exact h1, h2, fun pos cv hc => ?_⟩
  obtain ⟨c, e3, e4⟩ := h3 pos cv hc
  exact ⟨c, e3, by rw [upd_ne (fun z => e2 c p.2 (by rw [← z]; exact e4))]; exact e4⟩
/-- faults.append(_law_fault(lambda: ..)) -/
theorem w_appF {K : PySem.W.Frag} {T : List (Addr × Str)} {p l : Addr} {n : Nat} {σ : L2.St} {F H : Hp} {vs : List V} {ds : List PyData} {t : XK → TE} {C : Str} {ns : List Str} {d1 d2 : PyData} {D : Ends} {i : Nat} (S : FS K T p l n F H vs ds) (hσ : σ[i]? = some (some (.ref l))) (hz : vs.length < 1000)
    (hC : (C = "BadNumber" ∧ ns = (["what", "number"] : List Str)) ∨ (C = "BadRow" ∧ ns = (["what", "row"] : List Str))) (hc : ∀ E F1, LamX.ExtN F F1 → EvX K E (t E) σ F1 C ns [d1, d2])
    (k : ∀ vs' F2 H2, LamX.ExtN F F2 → FS K T p l n F2 H2 vs' (ds ++ [.tuple [.str C, d1, d2]]) → vs'.length = vs.length + 1 → D.nx σ H2) : tDrop (tBM K "list" rAppend (tVar i) (tCons (LamX.tLam T (TTf K) t) tNil)) D σ H :=
  ⟨.ref l, hσ, Or.inl ⟨rfl, vs, SqL.of S.hl⟩, w_fault S.s S.tab hC hc fun v F2 H2 g hT p1 => by
    have hl2 := g.hs _ _ S.hl (fun _ z => by cases z)
    have fl2 := g.out _ _ S.fl S.hl (fun _ z => by cases z)
    have lp : l ≠ p := fun z => by
      obtain ⟨c, xs, ns, a, d, f, h1, h2, h3, h4⟩ := S.pen.ex
      rw [← z, S.hl] at h3
      cases h3
    refine ⟨l, vs, v, rfl, rfl, hl2, Nat.lt_of_lt_of_le hz (by decide), ?_⟩
    refine k (vs ++ [v]) F2 _ g.fs ⟨same_lay g.fh fl2, (S.pen.t g).off lp, tabs_off hT (fun q z => by rw [hl2] at z; cases z) (fun c q z => by rw [hl2] at z; unfold LamX.CodeO at z; cases z), fl2, upd_same, dpAll_app (dpAll_extN g.fs S.ds) (.cons p1 .nil)⟩ (by simp)⟩
end K74
set_option Elab.async false
set_option linter.all false
set_option maxRecDepth 100000
set_option maxHeartbeats 4000000
namespace K74
open PySem PySem.Spec PyProof.Rows L2 PD
/-! ### the plain law -/
def rowD (n p : Nat) : PyData := .tuple [.int ((p / 5 ^ n : Nat) : Int), .tuple (digits n p).reverse]
theorem digits_cons (n p : Nat) : digits (n + 1) p = stm (p % 5) :: digits n (p / 5) := by
  unfold digits
  rw [List.range_succ_eq_map, List.map_cons, List.map_map]
  congr 1
  · simp
  · apply List.map_congr_left
    intro i _
    show stm (p / 5 ^ (i + 1) % 5) = stm (p / 5 / 5 ^ i % 5)
    rw [Nat.div_div_eq_div_mul, Nat.pow_succ, Nat.mul_comm]
theorem step_row (n q : Nat) : stepRow (rowD n q) = (List.range 5).map fun j => rowD (n + 1) (q * 5 + j) := by
  have key : ∀ j, j < 5 → rowD (n + 1) (q * 5 + j) = .tuple [.int ((q / 5 ^ n : Nat) : Int), .tuple ((digits n q).reverse ++ [stm j])] := fun j hj => by
    have h1 : (q * 5 + j) / 5 = q := by omega
    have h2 : (q * 5 + j) % 5 = j := by omega
    unfold rowD
    rw [digits_cons, h1, h2, List.reverse_cons, Nat.pow_succ, Nat.mul_comm (5 ^ n) 5, ← Nat.div_div_eq_div_mul, h1]
  rw [show List.range 5 = [0, 1, 2, 3, 4] from rfl]
  simp only [List.map_cons, List.map_nil]
  rw [key 0 (by decide), key 1 (by decide), key 2 (by decide), key 3 (by decide), key 4 (by decide)]
  rfl
theorem range5 {α : Type} (f : Nat → α) (m : Nat) : (List.range (m * 5)).map f = (List.range m).flatMap fun q => (List.range 5).map fun j => f (q * 5 + j) := by
  induction m with
  | zero => rfl
  | succ m ih =>
    rw [Nat.succ_mul, List.range_add, List.map_append, ih, List.range_succ (n := m), List.flatMap_append, List.map_map]
    congr 1
theorem allRows_eq (n : Nat) : allRows n = (List.range (3 * 5 ^ n)).map (rowD n) := by
  induction n with
  | zero => rfl
  | succ n ih =>
    rw [allRows, ih, Nat.pow_succ, ← Nat.mul_assoc, range5, List.flatMap_map]
    congr 1
    funext q
    exact step_row n q
theorem allRows_len (n : Nat) : (allRows n).length = 3 * 5 ^ n := by rw [allRows_eq, List.length_map, List.length_range]
theorem allRows_at {n j : Nat} (h : j < 3 * 5 ^ n) : atI (allRows n) (j : Int) = some (rowD n j) := by
  apply atI_nat
  rw [allRows_eq, List.getElem?_map, List.getElem?_range h] <;> rfl
theorem toN_nat (n : Nat) : toN (.int (n : Nat)) = n := by rw [toN, Int.toNat_natCast]
theorem whole_nat {n : Nat} {hi : Int} (h : (n : Int) ≤ hi) : isWhole (.int (n : Nat)) 0 hi = true := by
  simp only [isWhole, Bool.and_eq_true, decide_eq_true_eq]
  omega
theorem count_ok {n : Nat} (h : n ≤ 3) : countParts (.int (n : Nat)) = .ok (.int ((3 * 5 ^ n : Nat) : Int)) := by
  unfold countParts
  rw [whole_nat (by omega), toN_nat]
  rfl
theorem rows_ok {n j : Nat} (h : n ≤ 3) (hj : j < 3 * 5 ^ n) : rowsAt (.int (n : Nat), .int (j : Nat)) = .ok (rowD n j) := by
  unfold rowsAt
  simp only
  rw [whole_nat (n := n) (by omega), if_pos rfl, toN_nat, toN_nat, whole_nat (n := j) (by omega), if_pos rfl]
  rfl
theorem first_stm {j : Nat} (h : j < 5) : first (stm j) = some j := by
  match j, h with
  | 0, _ => decide +kernel
  | 1, _ => decide +kernel
  | 2, _ => decide +kernel
  | 3, _ => decide +kernel
  | 4, _ => decide +kernel
theorem go_app (d : PyData) : ∀ (rs : List PyData) (found : Nat) (j : Nat), j < 5 → ∀ f2, goPlace d found rs = .ok (.int ((f2 : Nat) : Int)) → goPlace d found (rs ++ [stm j]) = .ok (.int ((f2 * 5 + j : Nat) : Int))
  | [], found, j, hj, f2, h => by
    rw [goPlace] at h
    have e : (found : Int) = (f2 : Int) := by
      injection h with h
      injection h
    have e2 : found = f2 := by omega
    subst e2
    rw [List.nil_append, goPlace, first_stm hj]
    rfl
  | r :: rs, found, j, hj, f2, h => by
    rw [List.cons_append, goPlace]
    rw [goPlace] at h
    cases q : first r with
    | none =>
      rw [q] at h
      cases h
    | some i =>
      rw [q] at h
      exact go_app d rs _ j hj f2 h
theorem go_digits (d : PyData) : ∀ (n p : Nat), goPlace d (p / 5 ^ n) (digits n p).reverse = .ok (.int ((p : Nat) : Int))
  | 0, p => by simp [digits, goPlace]
  | n + 1, p => by
    rw [digits_cons, List.reverse_cons, Nat.pow_succ, Nat.mul_comm, ← Nat.div_div_eq_div_mul]
    have h := go_app d (digits n (p / 5)).reverse (p / 5 / 5 ^ n) (p % 5) (Nat.mod_lt _ (by decide)) (p / 5) (go_digits d n (p / 5))
    rw [h]
    have e : p / 5 * 5 + p % 5 = p := by omega
    rw [e]
theorem place_ok {n j : Nat} {R : PyData} (h : n ≤ 3) (hj : j < 3 * 5 ^ n) (hR : R = .tuple (digits n j).reverse ∨ R = .list (digits n j).reverse) : placeOf (.int ((j / 5 ^ n : Nat) : Int), R) = .ok (.int ((j : Nat) : Int)) ∧ (items R).length ≤ 1000 := by
  have hl : (digits n j).reverse.length = n := by rw [List.length_reverse, digits_len]
  have hd : j / 5 ^ n < 3 := by
    rw [Nat.div_lt_iff_lt_mul (Nat.pow_pos (by decide))]
    exact hj
  have e1 : (isT R || isL R) = true := by rcases hR with e | e <;> rw [e] <;> rfl
  have e2 : items R = (digits n j).reverse := by rcases hR with e | e <;> rw [e] <;> rfl
  refine ⟨?_, by rw [e2, hl]; omega⟩
  unfold placeOf
  simp only
  rw [whole_nat (by omega), if_pos rfl, if_pos ⟨e1, by rw [e2, hl]; exact h⟩, e2, toN_nat, go_digits]
/-! what is drawn amiss -/
def odds : List PyData := [.int (-1), .int 4, .none, .bool true, .str "1"]
def wrongs (m : Nat) : List PyData := [.int (-1), .int (m : Nat), .none, .bool true]
def bads : List PyData := [.int (-1), .int 3, .none, .bool true]
def S5 : PyData := .tuple [.tuple [.str "set", .str "a", .tuple [.str "a", .int 2]]]
def S6 : PyData := .tuple [.list [.str "set", .str "a", .tuple [.str "a", .int 1]]]
def S7 : PyData := .tuple [.tuple [.str "post", .str "x", .tuple [.str "", .bool false]]]
def S8 : PyData := .tuple [ST3, ST3, ST3, ST3]
def stranges : List PyData := [.none, .int 5, .tuple [.none], .str "ab", S5, S6, S7, S8]
theorem odd_bad {d : PyData} (h : d ∈ odds) : isWhole d 0 3 = false := by
  unfold odds at h
  simp only [List.mem_cons, List.not_mem_nil, or_false] at h
  rcases h with rfl | rfl | rfl | rfl | rfl <;> decide +kernel
theorem wrong_bad {d : PyData} {m : Nat} (h : d ∈ wrongs m) : isWhole d 0 ((m : Nat) - 1 : Int) = false := by
  unfold wrongs at h
  simp only [List.mem_cons, List.not_mem_nil, or_false] at h
  rcases h with rfl | rfl | rfl | rfl
  · rfl
  · simp only [isWhole, Bool.and_eq_false_iff, decide_eq_false_iff_not]
    omega
  · rfl
  · rfl
theorem bad_bad {d : PyData} (h : d ∈ bads) : isWhole d 0 2 = false := by
  unfold bads at h
  simp only [List.mem_cons, List.not_mem_nil, or_false] at h
  rcases h with rfl | rfl | rfl | rfl <;> decide +kernel
theorem strange_bad {d : PyData} (h : d ∈ stranges) : placeOf (.int 0, d) = badRows d ∧ (items d).length ≤ 1000 := by
  unfold stranges at h
  simp only [List.mem_cons, List.not_mem_nil, or_false] at h
  have f5 : first (.tuple [.str "set", .str "a", .tuple [.str "a", .int 2]]) = none := by decide +kernel
  have f6 : first (.list [.str "set", .str "a", .tuple [.str "a", .int 1]]) = none := by decide +kernel
  have f7 : first (.tuple [.str "post", .str "x", .tuple [.str "", .bool false]]) = none := by decide +kernel
  have f3 : first .none = none := by decide +kernel
  have w0 : isWhole (.int 0) 0 2 = true := rfl
  rcases h with rfl | rfl | rfl | rfl | rfl | rfl | rfl | rfl <;> refine ⟨?_, by decide +kernel⟩ <;> unfold placeOf <;> simp [w0, isT, isL, items, S5, S6, S7, S8, goPlace, f3, f5, f6, f7]
theorem fit_odd {d : PyData} (h : d ∈ odds) : fit 7 d = true ∧ d.canLay0 = true := by
  unfold odds at h
  simp only [List.mem_cons, List.not_mem_nil, or_false] at h
  rcases h with rfl | rfl | rfl | rfl | rfl <;> decide +kernel
theorem fit_wrong {d : PyData} {m : Nat} (h : d ∈ wrongs m) : fit 7 d = true ∧ d.canLay0 = true := by
  unfold wrongs at h
  simp only [List.mem_cons, List.not_mem_nil, or_false] at h
  rcases h with rfl | rfl | rfl | rfl <;> exact ⟨rfl, rfl⟩
theorem fit_bad {d : PyData} (h : d ∈ bads) : fit 7 d = true ∧ d.canLay0 = true := by
  unfold bads at h
  simp only [List.mem_cons, List.not_mem_nil, or_false] at h
  rcases h with rfl | rfl | rfl | rfl <;> decide +kernel
theorem fit_strange {d : PyData} (h : d ∈ stranges) : fit 7 d = true ∧ d.canLay0 = true := by
  unfold stranges at h
  simp only [List.mem_cons, List.not_mem_nil, or_false] at h
  rcases h with rfl | rfl | rfl | rfl | rfl | rfl | rfl | rfl <;> decide +kernel
theorem can_stm (j : Nat) : (stm j).canLay0 = true := by
  have h := stm_cases j
  simp only [List.mem_cons, List.not_mem_nil, or_false] at h
  rcases h with h | h | h | h | h | h <;> rw [h] <;> decide +kernel
theorem canAll_of : ∀ {ds : List PyData}, (∀ d ∈ ds, d.canLay0 = true) → PyData.canLayAll0 ds = true
  | [], _ => by rw [PyData.canLayAll0]
  | d :: ds, h => by rw [PyData.canLayAll0, h d (List.mem_cons_self ..), canAll_of fun e he => h e (List.mem_cons_of_mem _ he)] <;> rfl
theorem can_digits (n p : Nat) : PyData.canLayAll0 (digits n p).reverse = true := canAll_of fun d hd => by
  rw [List.mem_reverse] at hd
  unfold digits at hd
  obtain ⟨i, _, rfl⟩ := List.mem_map.mp hd
  exact can_stm _
theorem fit_row {n p : Nat} (h : n ≤ 3) : fit 9 (rowD n p) = true ∧ (rowD n p).canLay0 = true := by
  have h4 : fit 8 (.tuple (digits n p).reverse) = true := fit_digits 4 n p (by omega)
  have h5 := can_digits n p
  unfold rowD
  refine ⟨?_, ?_⟩
  · simp [fit, fitAll] at h4 ⊢
    exact h4
  · simp [PyData.canLay0, PyData.canLayAll0, h5]
theorem fit_deedT {t n p : Nat} (h : n ≤ 3) : fit 9 (.tuple (deedD (smallBody t (.tuple (digits n p).reverse)))) = true ∧ (PyData.tuple (deedD (smallBody t (.tuple (digits n p).reverse)))).canLay0 = true := by
  have h1 := fit_deed t n p h
  have h5 := can_digits n p
  refine ⟨?_, ?_⟩
  · rw [fit, Bool.and_eq_true]
    exact ⟨decide_eq_true (Nat.le_of_ble_eq_true rfl : 4 ≤ 1000), h1⟩
  · unfold deedD smallBody AN
    split <;> simp [PyData.canLay0, PyData.canLayAll0, h5] <;> decide +kernel
end K74
set_option Elab.async false
set_option linter.all false
set_option maxRecDepth 100000
set_option maxHeartbeats 4000000
namespace PD
open PySem PySem.Spec PyProof.Rows L2
section
variable {K : PySem.W.Frag} {σ : L2.St} {F H : Hp} {D : Ends} {ds : List PyData}
theorem w_forH {tb : TS} {wi : TI} {g : TG} (s0 : Same F H) (it : ∀ R : It → Hp → Prop, (∀ J F1 H1, Grow F H F1 H1 → WalkD K F1 J ds → R J H1) → wi σ H R) (Pv : Nat → L2.St → Hp → Hp → Prop) (h0 : ∀ F1 H1, Grow F H F1 H1 → Pv 0 σ F1 H1)
    (hs : ∀ i σ' F' H' e x F2 H2, ds[i]? = some e → Same F F' → Same F' H' → Pv i σ' F' H' → Grow F' H' F2 H2 → Dp K F2 x e →
      g x σ' H2 fun σ2 H3 => tb { D with nx := fun σ3 H3 => ∃ F3, Same F' F3 ∧ Same F3 H3 ∧ Pv (i + 1) σ3 F3 H3, ct := fun σ3 H3 => ∃ F3, Same F' F3 ∧ Same F3 H3 ∧ Pv (i + 1) σ3 F3 H3, bk := D.nx } σ2 H3)
    (hd : ∀ σ' F' H', Same F F' → Same F' H' → Pv ds.length σ' F' H' → D.nx σ' H') : tFor wi g tb D σ H := it _ fun J F1 H1 g1 w => by
  refine ⟨fun i m σ' H' => m = ds.length - i ∧ i ≤ ds.length ∧ ∃ F', Same F1 F' ∧ Same F' H' ∧ Pv i σ' F' H', ⟨ds.length, by simp, Nat.zero_le _, F1, Same.refl F1, g1.fh, h0 F1 H1 g1⟩, ?_⟩
  rintro i m σ' H' ⟨rfl, hi, F', s1, gg, p⟩
  have sF : Same F1 H' := s1.trans gg
  by_cases hlt : i < ds.length
  · refine Or.inr ⟨w.goes i H' hlt sF, fun σ3 H3 => ∃ F3, Same F' F3 ∧ Same F3 H3 ∧ Pv (i + 1) σ3 F3 H3, fun σ2 H2 ⟨F3, z1, z2, z3⟩ => ⟨ds.length - (i + 1), by omega, rfl, hlt, F3, s1.trans z1, z2, z3⟩, fun x H2 y => ?_⟩
    have he : ds[i]? = some ds[i] := by simp [hlt]
    obtain ⟨F2, g2, pv⟩ := (w.mono s1).yields i H' x H2 _ he gg y
    exact hs i σ' F' H' _ x F2 H2 he (g1.fs.trans s1) gg p g2 pv
  · have e : i = ds.length := by omega
    subst e
    exact Or.inl ⟨w.stops H' sF, hd σ' F' H' (g1.fs.trans s1) gg p⟩
end
end PD
namespace K74
open PySem PySem.Spec PyProof.Rows L2 PD
/-! ### the law's world: what is told for ever, the pen, the lambdas' table -/
structure WS (K : PySem.W.Frag) (T : List (Addr × Str)) (p : Addr) (n : Nat) (F H : Hp) : Prop where
  s : Same F H
  pen : PenAt K F H p n
  tab : LamX.Tabs T H
structure GrowP (p : Addr) (F H F2 H2 : Hp) : Prop where
  fs : Same F F2
  fh : Same F2 H2
  hs : ∀ a o, a ≠ p → H a = some o → H2 a = some o
  out : ∀ a, a ≠ p → F a = none → H a ≠ none → F2 a = none
theorem growP_of {p : Addr} {F H F2 H2 : Hp} (g : Grow F H F2 H2) : GrowP p F H F2 H2 := ⟨g.fs, g.fh, fun a o _ h => g.hs a o h, fun a _ => g.out a⟩
section
variable {K : PySem.W.Frag} {T : List (Addr × Str)} {p : Addr} {n m : Nat} {F H F1 H1 F2 H2 : Hp} {σ : L2.St} {te : TE} {Q : VK} {E : XK} {ds : List PyData} {i : Nat}
theorem WS.g (W : WS K T p n F H) (g : Grow F H F2 H2) : WS K T p n F2 H2 := ⟨g.fh, W.pen.grow g, W.tab.ext g.hs⟩
theorem GrowP.trans (a : GrowP p F H F1 H1) (b : GrowP p F1 H1 F2 H2) : GrowP p F H F2 H2 := ⟨a.fs.trans b.fs, b.fh, fun x o n h => b.hs x o n (a.hs x o n h), fun x e h n => by
  cases q : H x with
  | none => exact absurd q n
  | some o => exact b.out x e (a.out x e h n) (by rw [a.hs x o e q]; simp)⟩
theorem pen_dK (h : PenAt K F H p n) : ∃ kvs, H p = some (.dK kvs) := by
  obtain ⟨c, xs, ns, a, d, f, h1, h2, h3, h4⟩ := h.ex
  exact ⟨_, h3⟩
theorem WS.q (W : WS K T p n F H) (g : GrowP p F H F2 H2) (h : PenAt K F2 H2 p m) : WS K T p m F2 H2 := ⟨g.fh, h, fun q hq => by
  obtain ⟨kvs, hp⟩ := pen_dK W.pen
  obtain ⟨ps, h1, h2, h3⟩ := W.tab q hq
  refine ⟨ps, g.hs _ _ (fun z => by rw [z, hp] at h1; cases h1) h1, h2, fun pos cv hc => ?_⟩
  obtain ⟨c, e, e2⟩ := h3 pos cv hc
  exact ⟨c, e, g.hs _ _ (fun z => by rw [z, hp] at e2; unfold LamX.CodeO at e2; cases e2) e2⟩⟩
theorem growP_off (s : Same F H2) (e : ∀ a, a ≠ p → H2 a = H a) : GrowP p F H F H2 := ⟨Same.refl F, s, fun a o n h => by rw [e a n]; exact h, fun a _ h _ => h⟩
theorem x_draw (hσ : σ[i]? = some (some (.ref p))) (W : WS K T p n F H) (hn : n < 1000000000) (hm : 0 < m ∧ m ≤ 1000000) (ht : EvD K te σ F (.int (m : Nat))) (k : ∀ (r : Nat) F2 H2, r < m → GrowP p F H F2 H2 → WS K T p (n + 1) F2 H2 → Q (.int (r : Nat)) H2) :
    tCall (spDraw K) [] E (tCons (tVar i) (tCons te tNil)) σ H Q :=
  ⟨.ref p, hσ, ht H W.s _ fun v F1 H1 g pv => ⟨p, F1, n, m, by rw [dp_int pv] <;> rfl, g.fh, W.pen.grow g, hn, hm.1, hm.2, fun r H2 hr s e pen => by
    have gp := (growP_of (p := p) g).trans (growP_off s e)
    exact k r F1 H2 hr gp (W.q gp pen)⟩⟩
theorem x_pick (hσ : σ[i]? = some (some (.ref p))) (W : WS K T p n F H) (hn : n < 1000000000) (hm : 0 < ds.length ∧ ds.length ≤ 1000000) (ht : EvD K te σ F (.list ds)) (k : ∀ d v F2 H2, d ∈ ds → GrowP p F H F2 H2 → WS K T p (n + 1) F2 H2 → Dp K F2 v d → Q v H2) :
    tCall (spPick K) [] E (tCons (tVar i) (tCons te tNil)) σ H Q :=
  ⟨.ref p, hσ, ht H W.s _ fun v F1 H1 g pv => ⟨p, F1, n, v, ds, rfl, g.fh, W.pen.grow g, hn, pv, hm.1, hm.2, fun d u H2 hd s e pen pu => by
    have gp := (growP_of (p := p) g).trans (growP_off s e)
    exact k d u F1 H2 hd gp (W.q gp pen) pu⟩⟩
/-- [_law_draw(pen, len(some)) for turn in range(N)] -/
theorem x_lc {N s3 iv i1 : Nat} (hσ1 : ∀ v, ((wipe σ [iv]).set iv v)[i1]? = some (some (.ref p))) (v3 : V) (hσ3 : ∀ v, ((wipe σ [iv]).set iv v)[s3]? = some (some v3)) (hw : ∀ v, wipe ((wipe σ [iv]).set iv v) [iv] = wipe σ [iv])
    (W : WS K T p n F H) (hN : N ≤ 1000) (hn : n + N < 1000000000) (hm : 0 < m ∧ m ≤ 1000000) (p3 : Dp K F v3 (.list ds)) (hd : ds.length = m)
    (k : ∀ l (js : List Nat) H2, H l = none → H2 l = some (.lst (js.map fun j => V.int (j : Nat))) → js.length = N → (∀ j ∈ js, j < m) → (∀ a, a ≠ p → a ≠ l → H2 a = H a) → PenAt K F H2 p (n + N) → Q (.ref l) H2) :
    tLc (iRng1 (tCons (tC (.int (N : Nat))) tNil)) (gName iv) tYes (tCall (spDraw K) [] E (tCons (tVar i1) (tCons (tCB (fun xs H Q => ∃ x n, xs = [x] ∧ LenV K x H n ∧ Q (.int (n : Nat)) H) (tCons (tVar s3) tNil)) tNil))) [iv] σ H Q := by
  refine ⟨(N : Nat), rfl, by omega, by omega, fun D hD => ?_⟩
  obtain ⟨kvs, hp⟩ := pen_dK W.pen
  have Dp' : D ≠ p := fun z => by rw [z, hp] at hD; cases hD
  refine ⟨fun i M H' => M = N - i ∧ i ≤ N ∧ ∃ js : List Nat, H' D = some (.lst (js.map fun j => V.int (j : Nat))) ∧ js.length = i ∧ (∀ j ∈ js, j < m) ∧ (∀ a, a ≠ p → a ≠ D → H' a = H a) ∧ PenAt K F H' p (n + i), ⟨N, by simp, Nat.zero_le _, [], upd_same, rfl, (fun j h => by cases h), (fun a _ e => upd_ne e), W.pen.off Dp'⟩, ?_⟩
  rintro i M H' ⟨rfl, hi, js, hD', hj, hjm, hoff, pen⟩
  have fD : F D = none := W.s.free hD
  have sF : Same F H' := fun a o h => by
    rw [hoff a (ne_of_none h W.pen.fp) (ne_of_none h fD)]
    exact W.s a o h
  have eN : Int.toNat ((N : Nat) : Int) = N := Int.toNat_natCast N
  by_cases hlt : i < N
  · refine Or.inr ⟨by show i < Int.toNat _; rw [eN]; exact hlt, fun H2 => ∃ js : List Nat, H2 D = some (.lst (js.map fun j => V.int (j : Nat))) ∧ js.length = i + 1 ∧ (∀ j ∈ js, j < m) ∧ (∀ a, a ≠ p → a ≠ D → H2 a = H a) ∧ PenAt K F H2 p (n + (i + 1)), fun H2 z => ⟨N - (i + 1), by omega, rfl, hlt, z⟩, fun x H2 y => ?_⟩
    obtain ⟨rfl, rfl⟩ := y
    refine ⟨hw _, ?_⟩
    dsimp only [tYes]
    rw [if_pos rfl]
    cases p3 with
    | @lst a3 vs _ hs pa =>
      have ln : vs.length = m := (dpAll_len pa).trans hd
      refine ⟨.ref p, hσ1 _, _, hσ3 _, _, vs.length, rfl, .inl ⟨vs, sF.seq hs, rfl⟩, p, F, n + i, m, by rw [ln] <;> rfl, sF, pen, by omega, hm.1, hm.2, fun r H2 hr s2 e2 pen2 => ?_⟩
      have hD2 : H2 D = some (.lst (js.map fun j => V.int (j : Nat))) := by rw [e2 D Dp']; exact hD'
      refine ⟨_, hD2, by rw [List.length_map]; exact Nat.lt_of_le_of_lt (show js.length ≤ 1000 by omega) (by decide), js ++ [r], ?_, by rw [List.length_append, hj] <;> rfl, fun j h => ?_, fun a n1 n2 => by rw [upd_ne n2, e2 a n1, hoff a n1 n2], pen2.off Dp'⟩
      · rw [upd_same, List.map_append] <;> rfl
      · rcases List.mem_append.mp h with h | h
        · exact hjm j h
        · rw [List.mem_singleton.mp h]; exact hr
  · have e : i = N := by omega
    subst e
    exact Or.inl ⟨by show Int.toNat _ ≤ i; rw [eN]; exact Nat.le_refl _, k D js H' hD hD' hj hjm hoff pen⟩
end
theorem dp_nats {K : PySem.W.Frag} {F : Hp} : ∀ (js : List Nat), DpAll K F (js.map fun j => V.int (j : Nat)) (js.map fun j => PyData.int (j : Nat))
  | [] => .nil
  | j :: js => .cons (.int _) (dp_nats js)
theorem dp_ints' {K : PySem.W.Frag} {F : Hp} : ∀ (js : List Int), DpAll K F (js.map V.int) (js.map PyData.int)
  | [] => .nil
  | j :: js => .cons (.int _) (dp_ints' js)
section
variable {K : PySem.W.Frag} {T : List (Addr × Str)} {p : Addr} {n m : Nat} {F H F1 H1 F2 H2 : Hp} {σ : L2.St} {Q : VK} {E : XK} {ds : List PyData} {i : Nat}
theorem w_forW {wi : TI} {g : TG} {tb : TS} {D : Ends} {X : It → Hp → Prop} (h : ∀ R : It → Hp → Prop, (∀ J H1, X J H1 → R J H1) → wi σ H R) (k : ∀ J H1, X J H1 → tFor (fun _ _ R => R J H1) g tb D σ H1) : tFor wi g tb D σ H := h _ fun J H1 x => k J H1 x
def PlX (K : PySem.W.Frag) (T : List (Addr × Str)) (p : Addr) (n N m : Nat) (F H : Hp) (J : It) (H2 : Hp) : Prop := ∃ (js : List Nat) (F2 : Hp), Same F F2 ∧ WS K T p (n + N) F2 H2 ∧ WalkD K F2 J ((0 :: (m - 1) :: js).map fun j => PyData.int (j : Nat)) ∧ js.length = N ∧ ∀ j ∈ js, j < m
theorem x_places {N s3 iv i1 : Nat} {ta : TE} (hσ1 : ∀ v, ((wipe σ [iv]).set iv v)[i1]? = some (some (.ref p))) (v3 : V) (hσ3 : ∀ v, ((wipe σ [iv]).set iv v)[s3]? = some (some v3)) (hw : ∀ v, wipe ((wipe σ [iv]).set iv v) [iv] = wipe σ [iv])
    (W : WS K T p n F H) (hN : N ≤ 900) (hn : n + N < 1000000000) (hm : 0 < m ∧ m ≤ 1000000) (p3 : Dp K F v3 (.list ds)) (hd : ds.length = m) (ha : EvL K ta σ F [.int (0 : Nat), .int ((m - 1 : Nat) : Int)]) :
    ∀ R : It → Hp → Prop, (∀ J H1, PlX K T p n N m F H J H1 → R J H1) →
    iSq K (tOp rCat ta (tLc (iRng1 (tCons (tC (.int (N : Nat))) tNil)) (gName iv) tYes (tCall (spDraw K) [] E (tCons (tVar i1) (tCons (tCB (fun xs H Q => ∃ x n, xs = [x] ∧ LenV K x H n ∧ Q (.int (n : Nat)) H) (tCons (tVar s3) tNil)) tNil))) [iv])) σ H R := fun R q =>
  Or.inl (ha H W.s _ fun l us F1 H1 g nl fl hl pa => by
    have W1 := W.g g
    refine x_lc hσ1 v3 hσ3 hw W1 (by omega) hn hm (dp_same g.fs p3) hd fun l2 js H2 nl2 hl2 hjl hjm off pen2 => ?_
    obtain ⟨kvs, hp⟩ := pen_dK W1.pen
    have lp : l ≠ p := fun z => by rw [z, hp] at hl; cases hl
    have ll : l ≠ l2 := fun z => by rw [z, nl2] at hl; cases hl
    have h1 : H2 l = some (.lst us) := by rw [off l lp ll]; exact hl
    have ln : us.length = 2 := dpAll_len pa
    refine ⟨l, l2, us, _, rfl, rfl, h1, hl2, by rw [ln, List.length_map, hjl]; exact Nat.le_of_lt (Nat.lt_of_le_of_lt (show 2 + N ≤ 1000 by omega) (by decide)), fun L hL => ?_⟩
    have fl2 : F1 l2 = none := W1.s.free nl2
    have s2 : Same F1 H2 := fun b o h => by
      rw [off b (ne_of_none h W1.pen.fp) (ne_of_none h fl2)]
      exact W1.s b o h
    obtain ⟨kvs2, hp2⟩ := pen_dK pen2
    have Lp : L ≠ p := fun z => by rw [z, hp2] at hL; cases hL
    have gN := Grow.new (o := .lst (us ++ js.map fun j => V.int (j : Nat))) s2 hL
    have W2 : WS K T p (n + N) F1 H2 := ⟨s2, pen2, fun q hq => by
      obtain ⟨ps, h1, h2, h3⟩ := W1.tab q hq
      refine ⟨ps, by rw [off q.1 (fun z => by rw [z, hp] at h1; cases h1) (fun z => by rw [z, nl2] at h1; cases h1)]; exact h1, h2, fun pos cv hc => ?_⟩
      obtain ⟨c, e, e2⟩ := h3 pos cv hc
      exact ⟨c, e, by rw [off c (fun z => by rw [z, hp] at e2; unfold LamX.CodeO at e2; cases e2) (fun z => by rw [z, nl2] at e2; cases e2)]; exact e2⟩⟩
    have W3 := W2.g gN
    refine ⟨L, rfl, ⟨_, SqL.of upd_same⟩, q _ _ ⟨js, _, g.fs.trans gN.fs, W3, ?_, hjl, hjm⟩⟩
    refine wd_list (SqL.of upd_same) ?_
    have e : ((0 :: (m - 1) :: js).map fun j => PyData.int (j : Nat)) = [.int (0 : Nat), .int ((m - 1 : Nat) : Int)] ++ js.map fun j => PyData.int (j : Nat) := rfl
    rw [e]
    exact dpAll_app (dpAll_same gN.fs pa) (dp_nats js))
theorem x_orF {t u : TT} {tu tw : TS} {D : Ends} (h : EvT t σ F false) (s : Same F H) (k : ∀ F1 H1, Grow F H F1 H1 → u σ H1 fun b H2 => if b = true then tu D σ H2 else tw D σ H2) : tIfS (tOr t u) tu tw D σ H := h H s _ fun F1 H1 g => iteF (k F1 H1 g)
theorem ex_small {C : Addr} {ta tb : TE} {d1 d2 : PyData} {X : Str} {ns : List Str} {es : List PyData} (h1 : EvD K ta σ F d1) (h2 : EvD K tb σ F d2) (e : rowsAt (d1, d2) = .ex X ns es) : EvX K E (tCall (spSmallAt K C) [] E (tCons ta (tCons tb tNil))) σ F X ns es := fun H s Q q =>
  eds_cons h1 (eds_cons h2 eds_nil) H s _ fun vs F1 H1 g pa => ⟨(d1, d2), F1, g.fh, by rw [List.append_nil]; exact pa, by
    unfold XOr
    rw [e]
    exact q.after g⟩
theorem FS.q {l : Addr} {vs : List V} (S : FS K T p l n F H vs ds) (g : GrowP p F H F2 H2) (W : WS K T p m F2 H2) : FS K T p l m F2 H2 vs ds := by
  have lp : l ≠ p := fun z => by
    obtain ⟨kvs, hp⟩ := pen_dK S.pen
    have h := S.hl
    rw [z, hp] at h
    cases h
  exact ⟨W.s, W.pen, W.tab, g.out l lp S.fl (by rw [S.hl]; simp), g.hs l _ lp S.hl, dpAll_same g.fs S.ds⟩
theorem FS.w {l : Addr} {vs : List V} (S : FS K T p l n F H vs ds) : WS K T p n F H := ⟨S.s, S.pen, S.tab⟩
theorem FS.new {l : Addr} {vs : List V} (W : WS K T p n F H) (hl : H l = none) (pa : DpAll K F vs ds) : FS K T p l n F (upd H l (.lst vs)) vs ds := by
  obtain ⟨kvs, hp⟩ := pen_dK W.pen
  exact ⟨same_lay W.s (W.s.free hl), W.pen.off (fun z => by rw [z, hp] at hl; cases hl), tabs_off W.tab (fun q z => by rw [hl] at z; cases z) (fun c q z => by rw [hl] at z; cases z), W.s.free hl, upd_same, pa⟩
theorem small_eq0 {t : Nat} {R : PyData} (e : PyData.eqv (.int (t : Nat)) (.int 0) = true) : R = smallBody t R := by
  rw [eqv_int] at e
  have h : t = 0 := by
    have h1 := eq_of_beq e
    omega
  subst h
  rfl
theorem small_eq1 {t : Nat} {R : PyData} (ht : t < 3) (e : PyData.eqv (.int (t : Nat)) (.int 0) = false) :
    PyData.tuple [.tuple [.str "if", AN, .str (if PyData.eqv (.int (t : Nat)) (.int 1) = true then "<" else "="), .tuple [.str "", .int (if PyData.eqv (.int (t : Nat)) (.int 1) = true then 1 else 0)], R, .none]] = smallBody t R := by
  match t, ht with
  | 0, _ => exact absurd e (by decide +kernel)
  | 1, _ =>
    have h : PyData.eqv (.int ((1 : Nat) : Int)) (.int 1) = true := by decide +kernel
    rw [h]
    rfl
  | 2, _ =>
    have h : PyData.eqv (.int ((2 : Nat) : Int)) (.int 1) = false := by decide +kernel
    rw [h]
    rfl
end
end K74
set_option Elab.async false
set_option linter.all false
set_option maxRecDepth 100000
set_option maxHeartbeats 4000000
namespace K74
open PySem PySem.Spec PyProof.Rows L2 PD C8
abbrev spLaw (K : PySem.W.Frag) (P : Addr) : Sp := fun vs H Q _ => ∃ (a : Addr) (ns : List Int), vs = [.ref a] ∧ H P = some (.tbl #[]) ∧ SqL K H a (ns.map V.int) ∧ ns.length ≤ sizeLine ∧ ∀ H', Q (.bl true) H'
abbrev LX (P : Program) (w : World) (K : PySem.W.Frag) (mg : Str → Option Value) (base : Heap) (c : Addr) (A : Around) (outer : List Env) (s : Shared) (H : Hp) (E : XK) : Cx := cxOf (L2.CX P w) P w K mg base s_law_N "law" (defScope s_law) (He.fAd K ("law", none)) (.ref c) A outer s H E
section
variable {P : Program} {w : World} {K : PySem.W.Frag} {mg : Str → Option Value} {base : Heap} {fd fdF : FuncData}
theorem ok_law (FL : FunD K "law" "law" (defArgs s_law) (defBody s_law) (defScope s_law) [] [] (He.fAd K ("law", none)) fd) (B : Bl mg) (M : Cn K mg) (EF : ExF K mg) (IC : InsC K (He.ga K "Deed")) (gD : mg "Deed" = some (.ref (He.ga K "Deed"))) (DC : DeedC K (He.ga K "Deed"))
    (TB : LamX.TabB base mg (He.cT K ("law", none)).1 (He.cT K ("law", none)).2) (aF : At K mg "_law_fault" s_law_fault [] ["call"] fdF)
    (G_law_pen : Fnk P w K mg base 1 "_law_pen" ["script"] (spPen K)) (G_law_draw : Fnk P w K mg base 1 "_law_draw" ["pen", "many"] (spDraw K)) (G_law_pick : Fnk P w K mg base 2 "_law_pick" ["pen", "some"] (spPick K))
    (G_law_all_rows : Fnk P w K mg base 2 "_law_all_rows" ["many"] (spAllRows K)) (G_law_same : Fnk P w K mg base 2 "_law_same" ["told", "due"] (spLawSame K)) (G_law_equal : Fnk P w K mg base 10 "_law_equal" ["one", "other"] (spLawEq K 9))
    (G_count_parts : Fnk P w K mg base 4 "count_parts" ["many"] (spCountParts K)) (G_rows_at : Fnk P w K mg base 5 "rows_at" ["many", "place"] (spRowsAt K)) (G_place_of : Fnk P w K mg base 5 "place_of" ["test", "rows"] (spPlaceOf K))
    (G_small_at : Fnk P w K mg base 13 "small_at" ["many", "place"] (spSmallAt K (He.ga K "Deed"))) :
    FnOk P w K mg base (L2.CX P w) 16 (He.fAd K ("law", none)) fd ["script"] (spLaw K (He.cT K ("law", none)).2) := by
  obtain ⟨oc, od, dV, kV, doc, pm, an, cdv, ct, osl, rfl, lk, hcd, _, _⟩ := FL.ex
  obtain ⟨c, rfl⟩ := He.codeIn_ref hcd
  have ec : (He.cT K ("law", none)).1 = c := He.codeOf_eq lk rfl
  generalize (He.cT K ("law", none)).2 = P' at TB ⊢
  rw [ec] at TB
  refine fn_of lk hcd s_law_S (fun vs H Q E ⟨a, ns, e, _⟩ => by rw [e] <;> rfl) fun A outer s H vs Q E hr h => ?_
  obtain ⟨a, ns, rfl, hP, hS, hl, k⟩ := h
  refine ⟨_, (pss_cons (ps_set (i := 1) s_law_S.nd rfl (Or.inr rfl) (pe_fn G_law_pen (hr.mono (by decide)) (by rfl) passL (pa_cons (pv 0) pa_nil)))
      (pss_cons (ps_set (i := 2) s_law_S.nd rfl (Or.inr rfl) (pe_fn G_law_draw (hr.mono (by decide)) (by rfl) passL (pa_cons (pv 1) (pa_cons pe_int pa_nil))))
      (pss_cons (ps_set (i := 3) s_law_S.nd rfl (Or.inr rfl) (pe_fn G_law_all_rows (hr.mono (by decide)) (by rfl) passL (pa_cons (pv 2) pa_nil)))
      (pss_cons (ps_if (pt_not (pt_val (pe_fn G_law_same (hr.mono (by decide)) (by rfl) passL (pa_cons (pe_fn G_count_parts (hr.mono (by decide)) (by rfl) passD (pa_cons (pv 2) pa_nil)) (pa_cons (pe_callB call_len (by rfl) B.len PySem.boot_len (pa_cons (pv 3) pa_nil)) pa_nil))))) (pss_one (ps_ret pe_bl)) pss_nil)
      (pss_cons (ps_for ownD rfl (pi_sq (pe_op op_cat (pe_lst (pa_cons pe_int (pa_cons (pe_op op_sub (pe_callB call_len (by rfl) B.len PySem.boot_len (pa_cons (pv 3) pa_nil)) pe_int) pa_nil))) (pe_lc (own := [("turn", 5)]) (g := gName 5) rfl s_law_S.nd (pi_range1 (by rfl) B.range (pa_cons pe_int pa_nil)) (blkOk_by (own := [("turn", 5)]) (N := s_law_N) (sc := defScope s_law) (by decide +kernel)) (fun _ _ _ _ _ => (pg_name (i := 5) s_law_S.nd rfl (Or.inl rfl) (Or.inr rfl))) (fun _ _ _ _ _ => pts_nil) (fun _ _ _ _ _ => (pe_fn G_law_draw (hr.mono (by decide)) (by rfl) passL (pa_cons (pv 1) (pa_cons (pe_callB (r := fun xs H Q => ∃ x n, xs = [x] ∧ LenV K x H n ∧ Q (.int (n : Nat)) H) call_len (by rfl) B.len PySem.boot_len (pa_cons (pv 3) pa_nil)) pa_nil))))))) (pg_name (i := 4) s_law_S.nd rfl (Or.inl rfl)) (pss_cons (ps_asg (pe_ix ix_list (pv 3) (pv 4) (fun _ _ => rfl)) (pg_tup (n := 2) rfl (pgs_cons (pg_name (i := 6) s_law_S.nd rfl (Or.inl rfl)) (pgs_cons (pg_name (i := 7) s_law_S.nd rfl (Or.inl rfl)) pgs_nil))))
      (pss_cons (ps_if (PW.pt (pw_or (pt_not (pt_val (pe_fn G_law_equal (hr.mono (by decide)) (by rfl) passL (pa_cons (pe_fn G_rows_at (hr.mono (by decide)) (by rfl) passD (pa_cons (pv 2) (pa_cons (pv 4) pa_nil))) (pa_cons (pe_tup (pa_cons (pv 6) (pa_cons (pv 7) pa_nil))) pa_nil))))) (pw_or1 (pt_not (pt_val (pe_fn G_law_same (hr.mono (by decide)) (by rfl) passL (pa_cons (pe_fn G_place_of (hr.mono (by decide)) (by rfl) passD (pa_cons (pv 6) (pa_cons (pe_fn G_law_pick (hr.mono (by decide)) (by rfl) passL (pa_cons (pv 1) (pa_cons (pe_lst (pa_cons (pv 7) (pa_cons (pe_callTy call_list_of (by rfl) B.list boot_list (pa_cons (pv 7) pa_nil)) pa_nil))) pa_nil))) pa_nil))) (pa_cons (pv 4) pa_nil)))))))) (pss_one (ps_ret pe_bl)) pss_nil)
      (pss_cons (ps_par (i := 8) (j := 9) (by rfl) s_law_S.nd rfl rfl (by decide) rfl rfl (pa_cons (pe_tup (pa_cons pe_str (pa_cons pe_int pa_nil))) (pa_cons (pe_tup (pa_cons pe_str (pa_cons (pe_ifExp (pt_cmpR (op_eqD hr.units) (pv 6) pe_int (nomark _)) pe_int pe_int) pa_nil))) pa_nil)) (by rfl))
      (pss_cons (ps_set (i := 10) s_law_S.nd rfl (Or.inl rfl) (pe_ifExp (pt_cmpR (op_eqD hr.units) (pv 6) pe_int (nomark _)) (pv 7) (pe_tup (pa_cons (pe_tup (pa_cons pe_str (pa_cons (pv 8) (pa_cons (pe_ifExp (pt_cmpR (op_eqD hr.units) (pv 6) pe_int (nomark _)) pe_str pe_str) (pa_cons (pv 9) (pa_cons (pv 7) (pa_cons pe_non pa_nil))))))) pa_nil))))
      (pss_cons (ps_set (i := 11) s_law_S.nd rfl (Or.inl rfl) (pe_fn G_small_at (hr.mono (by decide)) (by rfl) passD (pa_cons (pv 2) (pa_cons (pv 4) pa_nil))))
      (pss_one (ps_if (PW.pt (pw_or (pt_not (pt_val (pe_callB (call_isC IC) (by rfl) B.isinstance boot_isinstance (pa_cons (pv 11) (pa_cons (pe_glob (v := .ref (He.ga K "Deed")) (by rfl) gD rfl) pa_nil))))) (pw_or1 (pt_not (pt_val (pe_fn G_law_equal (hr.mono (by decide)) (by rfl) passL (pa_cons (pe_tup (pa_cons (pe_fld (pv 11) rfl) (pa_cons (pe_fld (pv 11) rfl) (pa_cons (pe_fld (pv 11) rfl) (pa_cons (pe_fld (pv 11) rfl) pa_nil))))) (pa_cons (pe_tup (pa_cons (pe_tup (pa_cons pe_str pa_nil)) (pa_cons (pe_tup pa_nil) (pa_cons (pe_tup (pa_cons pe_str pa_nil)) (pa_cons (pe_tup (pa_cons (pv 10) pa_nil)) pa_nil))))) pa_nil)))))))) (pss_one (ps_ret pe_bl)) pss_nil))))))))
      (pss_cons (ps_asg (pe_tup (pa_cons (pe_fn G_law_pick (hr.mono (by decide)) (by rfl) passL (pa_cons (pv 1) (pa_cons (pe_lst (pa_cons (pe_un un_neg pe_int) (pa_cons pe_int (pa_cons pe_non (pa_cons pe_bl (pa_cons pe_str pa_nil)))))) pa_nil))) (pa_cons (pe_fn G_law_pick (hr.mono (by decide)) (by rfl) passL (pa_cons (pv 1) (pa_cons (pe_lst (pa_cons (pe_un un_neg pe_int) (pa_cons (pe_callB call_len (by rfl) B.len PySem.boot_len (pa_cons (pv 3) pa_nil)) (pa_cons pe_non (pa_cons pe_bl pa_nil))))) pa_nil))) (pa_cons (pe_fn G_law_pick (hr.mono (by decide)) (by rfl) passL (pa_cons (pv 1) (pa_cons (pe_lst (pa_cons (pe_un un_neg pe_int) (pa_cons pe_int (pa_cons pe_non (pa_cons pe_bl pa_nil))))) pa_nil))) pa_nil)))) (pg_tup (n := 3) rfl (pgs_cons (pg_name (i := 12) s_law_S.nd rfl (Or.inr rfl)) (pgs_cons (pg_name (i := 13) s_law_S.nd rfl (Or.inr rfl)) (pgs_cons (pg_name (i := 14) s_law_S.nd rfl (Or.inr rfl)) pgs_nil)))))
      (pss_cons (ps_set (i := 15) s_law_S.nd rfl (Or.inl rfl) (pe_lst (pa_cons (pe_flt (X := LX P w K mg base c A outer s H E) (k := 13) aF EF (by rfl) TB rfl hr (LamX.lamS_by (sc := defScope s_law) (by decide +kernel)) rfl (fun _ _ _ _ _ => rfl) (fun A2 o2 s2 H2 E2 f c2 hr2 => pe_fn G_count_parts (hr2.mono (by decide)) (by rfl) (passLam (X := LX P w K mg base c A outer s H E)) (pa_cons (pv 12) pa_nil))) pa_nil)))
      (pss_cons (ps_expr (pe_bm PySem.F.plainAttrs_list PySem.F.slot_list_append PySem.F.type_list_append mt_append (pv 15) (pa_cons (pe_flt (X := LX P w K mg base c A outer s H E) (k := 13) aF EF (by rfl) TB rfl hr (LamX.lamS_by (sc := defScope s_law) (by decide +kernel)) rfl (fun _ _ _ _ _ => rfl) (fun A2 o2 s2 H2 E2 f c2 hr2 => pe_fn G_rows_at (hr2.mono (by decide)) (by rfl) (passLam (X := LX P w K mg base c A outer s H E)) (pa_cons (pv 12) (pa_cons (pv 13) pa_nil)))) pa_nil)))
      (pss_cons (ps_expr (pe_bm PySem.F.plainAttrs_list PySem.F.slot_list_append PySem.F.type_list_append mt_append (pv 15) (pa_cons (pe_flt (X := LX P w K mg base c A outer s H E) (k := 13) aF EF (by rfl) TB rfl hr (LamX.lamS_by (sc := defScope s_law) (by decide +kernel)) rfl (fun _ _ _ _ _ => rfl) (fun A2 o2 s2 H2 E2 f c2 hr2 => pe_fn G_small_at (hr2.mono (by decide)) (by rfl) (passLam (X := LX P w K mg base c A outer s H E)) (pa_cons (pv 12) (pa_cons (pv 13) pa_nil)))) pa_nil)))
      (pss_cons (ps_expr (pe_bm PySem.F.plainAttrs_list PySem.F.slot_list_append PySem.F.type_list_append mt_append (pv 15) (pa_cons (pe_flt (X := LX P w K mg base c A outer s H E) (k := 13) aF EF (by rfl) TB rfl hr (LamX.lamS_by (sc := defScope s_law) (by decide +kernel)) rfl (fun _ _ _ _ _ => rfl) (fun A2 o2 s2 H2 E2 f c2 hr2 => pe_fn G_rows_at (hr2.mono (by decide)) (by rfl) (passLam (X := LX P w K mg base c A outer s H E)) (pa_cons (pv 2) (pa_cons (pv 13) pa_nil)))) pa_nil)))
      (pss_cons (ps_expr (pe_bm PySem.F.plainAttrs_list PySem.F.slot_list_append PySem.F.type_list_append mt_append (pv 15) (pa_cons (pe_flt (X := LX P w K mg base c A outer s H E) (k := 13) aF EF (by rfl) TB rfl hr (LamX.lamS_by (sc := defScope s_law) (by decide +kernel)) rfl (fun _ _ _ _ _ => rfl) (fun A2 o2 s2 H2 E2 f c2 hr2 => pe_fn G_small_at (hr2.mono (by decide)) (by rfl) (passLam (X := LX P w K mg base c A outer s H E)) (pa_cons (pv 2) (pa_cons (pv 13) pa_nil)))) pa_nil)))
      (pss_cons (ps_set (i := 16) s_law_S.nd rfl (Or.inr rfl) (pe_fn G_law_pick (hr.mono (by decide)) (by rfl) passL (pa_cons (pv 1) (pa_cons (pe_lst (pa_cons pe_non (pa_cons pe_int (pa_cons (pe_tup (pa_cons pe_non pa_nil)) (pa_cons pe_str (pa_cons (pe_tup (pa_cons (pe_tup (pa_cons pe_str (pa_cons pe_str (pa_cons (pe_tup (pa_cons pe_str (pa_cons pe_int pa_nil))) pa_nil)))) pa_nil)) (pa_cons (pe_tup (pa_cons (pe_lst (pa_cons pe_str (pa_cons pe_str (pa_cons (pe_tup (pa_cons pe_str (pa_cons pe_int pa_nil))) pa_nil)))) pa_nil)) (pa_cons (pe_tup (pa_cons (pe_tup (pa_cons pe_str (pa_cons pe_str (pa_cons (pe_tup (pa_cons pe_str (pa_cons pe_bl pa_nil))) pa_nil)))) pa_nil)) (pa_cons (pe_op op_repT (pe_tup (pa_cons (pe_tup (pa_cons pe_str (pa_cons pe_str (pa_cons (pe_tup (pa_cons pe_str (pa_cons pe_int pa_nil))) pa_nil)))) pa_nil)) pe_int) pa_nil))))))))) pa_nil))))
      (pss_cons (ps_expr (pe_bm PySem.F.plainAttrs_list PySem.F.slot_list_append PySem.F.type_list_append mt_append (pv 15) (pa_cons (pe_flt (X := LX P w K mg base c A outer s H E) (k := 13) aF EF (by rfl) TB rfl hr (LamX.lamS_by (sc := defScope s_law) (by decide +kernel)) rfl (fun _ _ _ _ _ => rfl) (fun A2 o2 s2 H2 E2 f c2 hr2 => pe_fn G_place_of (hr2.mono (by decide)) (by rfl) (passLam (X := LX P w K mg base c A outer s H E)) (pa_cons (pv 14) (pa_cons (pv 16) pa_nil)))) pa_nil)))
      (pss_cons (ps_expr (pe_bm PySem.F.plainAttrs_list PySem.F.slot_list_append PySem.F.type_list_append mt_append (pv 15) (pa_cons (pe_flt (X := LX P w K mg base c A outer s H E) (k := 13) aF EF (by rfl) TB rfl hr (LamX.lamS_by (sc := defScope s_law) (by decide +kernel)) rfl (fun _ _ _ _ _ => rfl) (fun A2 o2 s2 H2 E2 f c2 hr2 => pe_fn G_place_of (hr2.mono (by decide)) (by rfl) (passLam (X := LX P w K mg base c A outer s H E)) (pa_cons pe_int (pa_cons (pv 16) pa_nil)))) pa_nil)))
      (pss_one (ps_ret (pe_fn G_law_equal (hr.mono (by decide)) (by rfl) passL (pa_cons (pv 15) (pa_cons (pe_op op_cat (pe_op op_cat (pe_op op_rep (pe_lst (pa_cons (pe_tup (pa_cons pe_str (pa_cons pe_str (pa_cons (pv 12) pa_nil)))) pa_nil)) pe_int) (pe_op op_rep (pe_lst (pa_cons (pe_tup (pa_cons pe_str (pa_cons pe_str (pa_cons (pv 13) pa_nil)))) pa_nil)) pe_int)) (pe_lst (pa_cons (pe_tup (pa_cons pe_str (pa_cons pe_str (pa_cons (pv 14) pa_nil)))) (pa_cons (pe_tup (pa_cons pe_str (pa_cons pe_str (pa_cons (pv 16) pa_nil)))) pa_nil)))) pa_nil))))))))))))))))))), ?_⟩
  have tab : LamX.Tabs [(P', (LX P w K mg base c A outer s H E).env.qual ++ Str.ofString "<lambda>")] H := fun p hp => by
    rw [List.mem_singleton.mp hp]
    exact LamX.TabS.nil hP
  generalize [(P', (LX P w K mg base c A outer s H E).env.qual ++ Str.ofString "<lambda>")] = T at tab ⊢
  have sF0 : Same (strip H) H := fun a o h => (strip_some h).1
  have p0 : Dp K (strip H) (.ref a) (.list (ns.map .int)) := .lst (extN_seq (fun a o h n => strip_of h n) hS) (dp_ints' ns)
  refine PD.w_seq ⟨.ref a, rfl, ns, strip H, sF0, .cons p0 .nil, hl, fun p F1 H1 g hp pen => ?_⟩
  have W1 : WS K T p 0 F1 H1 := ⟨g.fh, pen, tab.ext g.hs⟩
  dsimp only
  refine PD.w_seq (x_draw (K := K) (T := T) (p := p) (n := 0) (m := 4) (F := F1) (i := 1) rfl W1 (by decide) (by decide) (ed_c (.int 4)) fun r F2 H2 hr4 g2 W2 => ?_)
  dsimp only
  have hr3 : r ≤ 3 := by omega
  refine PD.w_seq (w_asg (K := K) (i := 3) (F := F2) (d := .list (allRows r)) (ed_call (res := fun n => .list (allRows n)) r (eds_cons (ed_var (i := 2) ⟨_, rfl, .int _⟩) eds_nil) hr3) W2.s fun v3 F3 H3 g3 p3 => ?_)
  have e3 : (allRows r).length = 3 * 5 ^ r := allRows_len r
  have W3 := W2.g g3
  dsimp only
  refine PD.w_seq (w_if (F := F3) (b := false) (et_is (et_not (et_B (ed_call (res := fun a : Int × Int => .bool (a.1 == a.2)) (((3 * 5 ^ r : Nat) : Int), ((allRows r).length : Int)) (eds_cons (ed_callO (d := .int ((3 * 5 ^ r : Nat) : Int)) (res := countParts) (.int (r : Nat)) (eds_cons (ed_var (i := 2) ⟨_, rfl, .int _⟩) eds_nil) trivial (count_ok hr3)) (eds_cons (ed_cb (eds_cons (ed_var (i := 3) ⟨v3, rfl, p3⟩) eds_nil) (rc_len rfl)) eds_nil)) trivial))) (by rw [e3]; simp)) W3.s (fun z _ _ _ => by cases z) fun _ F4 H4 g4 => PD.w_next ?_)
  have W4 := W3.g g4
  have p4 := dp_same g4.fs p3
  have hm0 : 0 < (allRows r).length ∧ (allRows r).length ≤ 375 := by
    have h1 := rows_few hr3
    have h2 : 0 < 5 ^ r := Nat.pow_pos (by decide)
    omega
  dsimp only
  refine PD.w_seq (w_forW (X := PlX K T p 1 8 (allRows r).length F4 H4) (x_places (K := K) (T := T) (p := p) (n := 1) (m := (allRows r).length) (N := 8) (s3 := 3) (iv := 5) (i1 := 1) (ds := allRows r) (fun _ => rfl) v3 (fun _ => rfl) (fun _ => rfl) W4 (by decide) (by decide) ⟨hm0.1, by omega⟩ p4 rfl (el_is (el_lst (eds_cons (ed_c (.int 0)) (eds_cons (ed_op (ed_cb (eds_cons (ed_var (i := 3) ⟨v3, rfl, p4⟩) eds_nil) (rc_len rfl)) (ed_c (.int 1)) (rd_I0 (f := fun i j => i - j))) eds_nil)) (by show 2 ≤ sizeLine; decide)) (by
      show [PyData.int 0, PyData.int (((allRows r).length : Nat) - 1 : Int)] = _
      rw [show (((allRows r).length : Nat) - 1 : Int) = (((allRows r).length - 1 : Nat) : Int) from by omega]
      rfl))) fun J H5 ⟨js, F5, s5, W5, wd, hjl, hjm⟩ => ?_)
  have p5 := dp_same s5 p4
  refine w_forH (K := K) (F := F5) W5.s (fun R q => q J F5 H5 (Grow.refl W5.s) wd)
    (fun i σ' F' H' => ∃ t4 t5 t6 t7 t8 t9 t10 t11, σ' = [some (.ref a), some (.ref p), some (.int (r : Nat)), some v3, t4, t5, t6, t7, t8, t9, t10, t11, none, none, none, none, none] ∧ WS K T p (9 + i) F' H')
    (fun F1 H1 g => ⟨none, none, none, none, none, none, none, none, rfl, W5.g g⟩) (fun i σ' F' H' e x F6 H6 he s6 ss h g6 px => ?_) (fun σ' F' H' s6 ss h => ?_)
  · obtain ⟨t4, t5, t6, t7, t8, t9, t10, t11, rfl, W⟩ := h
    obtain ⟨j, hj, rfl⟩ : ∃ j : Nat, j < (allRows r).length ∧ e = .int (j : Nat) := by
      obtain ⟨z, hz, rfl⟩ := List.mem_map.mp (List.mem_of_getElem? he)
      refine ⟨z, ?_, rfl⟩
      rcases List.mem_cons.mp hz with rfl | hz
      · exact hm0.1
      · rcases List.mem_cons.mp hz with rfl | hz
        · omega
        · exact hjm z hz
    have hj3 : j < 3 * 5 ^ r := by rw [← e3]; exact hj
    have ht3 : j / 5 ^ r < 3 := by
      rw [Nat.div_lt_iff_lt_mul (Nat.pow_pos (by decide))]
      exact hj3
    have hi9 : 9 + i < 1000000000 := by
      have h1 := (List.getElem?_eq_some_iff.mp he).1
      rw [List.length_map, List.length_cons, List.length_cons, hjl] at h1
      omega
    have ex := dp_int px
    subst ex
    have W6 := W.g g6
    have q3 : Dp K F6 v3 (.list (allRows r)) := dp_same (s6.trans g6.fs) p5
    dsimp only
    refine PD.w_seq (w_asgB (F := F6) (σ := [some (.ref a), some (.ref p), some (.int (r : Nat)), some v3, some (.int (j : Nat)), t5, t6, t7, t8, t9, t10, t11, none, none, none, none, none]) (d := rowD r j) (ed_op (ed_var (i := 3) ⟨v3, rfl, q3⟩) (ed_var (i := 4) ⟨_, rfl, .int _⟩) (rd_ixL (allRows_at hj3))) W6.s (fun F1 => bd_two (K := K) (i := 6) (j := 7)) fun σ' F7 H7 g7 hσ => ?_)
    obtain ⟨vt, vr, rfl, pt, pr⟩ := hσ
    have et := dp_int pt
    subst et
    have W7 := W6.g g7
    have erow : rowD r j = .tuple [.int ((j / 5 ^ r : Nat) : Int), .tuple (digits r j).reverse] := rfl
    dsimp only
    refine PD.w_seq (x_orF (F := F7) (σ := [some (.ref a), some (.ref p), some (.int (r : Nat)), some v3, some (.int (j : Nat)), t5, some (.int ((j / 5 ^ r : Nat) : Int)), some vr, t8, t9, t10, t11, none, none, none, none, none]) (et_is (et_not (et_B (ed_call (res := fun _ => .bool true) (rowD r j) (eds_cons (ed_callO (d := rowD r j) (res := rowsAt) (.int (r : Nat), .int (j : Nat)) (eds_cons (ed_var (i := 2) ⟨_, rfl, .int _⟩) (eds_cons (ed_var (i := 4) ⟨_, rfl, .int _⟩) eds_nil)) trivial (rows_ok hr3 hj3)) (eds_cons (ed_tup (eds_cons (ed_var (i := 6) ⟨_, rfl, .int _⟩) (eds_cons (ed_var (i := 7) ⟨vr, rfl, pr⟩) eds_nil)) (by show 2 ≤ sizeLine; decide)) eds_nil)) (fit_row hr3)))) rfl) W7.s fun F8 H8 g8 => ?_)
    have W8 := W7.g g8
    have pr8 := dp_same g8.fs pr
    refine ⟨_, rfl, x_pick (K := K) (T := T) (p := p) (i := 1) (ds := [.tuple (digits r j).reverse, .list (digits r j).reverse]) rfl W8 hi9 ⟨(by show 0 < 2; decide), (by show 2 ≤ 1000000; decide)⟩ (ed_lst (eds_cons (ed_var (i := 7) ⟨vr, rfl, pr8⟩) (eds_cons (ed_of_el (el_listOf (ed_var (i := 7) ⟨vr, rfl, pr8⟩) (.inr rfl))) eds_nil)) (by show 2 ≤ sizeLine; decide)) fun d u F9 H9 hd g9 W9 pu => ?_⟩
    have hd2 : d = .tuple (digits r j).reverse ∨ d = .list (digits r j).reverse := by
      simpa using hd
    obtain ⟨hpl, hdom⟩ := place_ok hr3 hj3 hd2
    refine ⟨(.int ((j / 5 ^ r : Nat) : Int), d), F9, W9.s, .cons (.int _) (.cons pu .nil), hdom, ?_⟩
    rw [hpl]
    intro v10 F10 H10 g10 p10
    refine ⟨_, rfl, ((j : Nat), (j : Nat)), F10, g10.fh, .cons p10 (.cons (.int _) .nil), trivial, fun v11 F11 H11 g11 p11 => ⟨_, dp_bl p11, ?_⟩⟩
    rw [show (((j : Nat) : Int) == ((j : Nat) : Int)) = true from by simp]
    refine iteF (PD.w_next ?_)
    have W11 := (W9.g g10).g g11
    have sR : Same F7 F11 := g8.fs.trans (g9.fs.trans (g10.fs.trans g11.fs))
    have pr11 := dp_same sR pr
    dsimp only
    refine PD.w_seq (eds_cons (K := K) (x := AN) (F := F11) (σ := [some (.ref a), some (.ref p), some (.int (r : Nat)), some v3, some (.int (j : Nat)), t5, some (.int ((j / 5 ^ r : Nat) : Int)), some vr, t8, t9, t10, t11, none, none, none, none, none]) (ed_tup (eds_cons (ed_c (.str _)) (eds_cons (ed_c (.int 0)) eds_nil)) (by show 2 ≤ sizeLine; decide))
      (eds_cons (x := .tuple [.str "", .int (if PyData.eqv (.int ((j / 5 ^ r : Nat) : Int)) (.int 1) = true then 1 else 0)]) (ed_tup (eds_cons (ed_c (.str _)) (eds_cons (ed_if (et_test (ed_op (ed_var (i := 6) ⟨_, rfl, .int _⟩) (ed_c (.int 1)) (rd_eq rfl rfl))) (fun e => ed_is (ed_c (.int 1)) (by rw [e]; rfl)) (fun e => ed_is (ed_c (.int 0)) (by rw [e]; rfl))) eds_nil)) (by show 2 ≤ sizeLine; decide)) eds_nil) H11 W11.s _ fun vs F12 H12 g12 pa => ?_)
    obtain ⟨w8, w9, rfl, pw8, pw9⟩ := dpAll_two pa
    refine ⟨w8, w9, rfl, ?_⟩
    have W12 := W11.g g12
    have pr12 := dp_same g12.fs pr11
    dsimp only
    refine PD.w_seq (w_asg (K := K) (i := 10) (F := F12) (d := smallBody (j / 5 ^ r) (.tuple (digits r j).reverse)) (σ := [some (.ref a), some (.ref p), some (.int (r : Nat)), some v3, some (.int (j : Nat)), t5, some (.int ((j / 5 ^ r : Nat) : Int)), some vr, some w8, some w9, t10, t11, none, none, none, none, none])
      (ed_if (et_test (ed_op (ed_var (i := 6) ⟨_, rfl, .int _⟩) (ed_c (.int 0)) (rd_eq rfl rfl))) (fun e => ed_is (ed_var (i := 7) ⟨vr, rfl, pr12⟩) (small_eq0 e)) (fun e => ed_is (ed_tup (eds_cons (ed_tup (eds_cons (ed_c (.str _)) (eds_cons (ed_var (i := 8) ⟨w8, rfl, pw8⟩) (eds_cons (x := .str (if PyData.eqv (.int ((j / 5 ^ r : Nat) : Int)) (.int 1) = true then "<" else "=")) (ed_if (et_test (ed_op (ed_var (i := 6) ⟨_, rfl, .int _⟩) (ed_c (.int 1)) (rd_eq rfl rfl))) (fun e => ed_is (ed_c (.str _)) (by rw [e]; rfl)) (fun e => ed_is (ed_c (.str _)) (by rw [e]; rfl))) (eds_cons (ed_var (i := 9) ⟨w9, rfl, pw9⟩) (eds_cons (ed_var (i := 7) ⟨vr, rfl, pr12⟩) (eds_cons (ed_c .non) eds_nil)))))) (by show 6 ≤ sizeLine; decide)) eds_nil) (by show 1 ≤ sizeLine; decide)) (small_eq1 ht3 e))) W12.s fun w10 F13 H13 g13 pw10 => ?_)
    have W13 := W12.g g13
    dsimp only
    refine PD.w_seq ⟨_, rfl, _, rfl, (.int (r : Nat), .int (j : Nat)), F13, W13.s, .cons (.int _) (.cons (.int _) .nil), ?_⟩
    unfold XOr
    rw [rows_ok hr3 hj3]
    intro x dx v1 v2 v3' v4 F14 H14 g14 nx fx hx pa14
    dsimp only at pa14
    rw [toN_nat, toN_nat] at pa14
    have gF := g14.freeze nx fx hx
    have W14 := W13.g gF
    have pa15 := dpAll_same (same_upd (o := .ins (He.ga K "Deed") dx (deedFs v1 v2 v3' v4)) fx) pa14
    have pw14 := dp_same gF.fs pw10
    cases pa15 with
    | cons y1 pa15 =>
    cases pa15 with
    | cons y2 pa15 =>
    cases pa15 with
    | cons y3 pa15 =>
    cases pa15 with
    | cons y4 pa15 =>
    dsimp only
    refine w_if (F := upd F14 x (.ins (He.ga K "Deed") dx (deedFs v1 v2 v3' v4))) (σ := [some (.ref a), some (.ref p), some (.int (r : Nat)), some v3, some (.int (j : Nat)), t5, some (.int ((j / 5 ^ r : Nat) : Int)), some vr, some w8, some w9, some w10, some (.ref x), none, none, none, none, none]) (b := false)
      (et_is (et_or (et_not (et_B (ed_isC (K := K) (i := 11) rfl upd_same))) (fun _ => et_not (et_B (ed_call (res := fun _ => .bool true) (.tuple (deedD (smallBody (j / 5 ^ r) (.tuple (digits r j).reverse)))) (eds_cons (ed_tup (eds_cons (ed_fld (i := 11) rfl upd_same DC.cl DC.n1 rfl y1) (eds_cons (ed_fld (i := 11) rfl upd_same DC.cl DC.n2 rfl y2) (eds_cons (ed_fld (i := 11) rfl upd_same DC.cl DC.n3 rfl y3) (eds_cons (ed_fld (i := 11) rfl upd_same DC.cl DC.n4 rfl y4) eds_nil)))) (by show 4 ≤ sizeLine; decide))
        (eds_cons (ed_tup (eds_cons (ed_tup (eds_cons (ed_c (.str _)) eds_nil) (by show 1 ≤ sizeLine; decide)) (eds_cons (ed_tup eds_nil (by show 0 ≤ sizeLine; decide)) (eds_cons (ed_tup (eds_cons (ed_c (.str _)) eds_nil) (by show 1 ≤ sizeLine; decide)) (eds_cons (ed_tup (eds_cons (ed_var (i := 10) ⟨w10, rfl, pw14⟩) eds_nil) (by show 1 ≤ sizeLine; decide)) eds_nil)))) (by show 4 ≤ sizeLine; decide)) eds_nil)) (fit_deedT hr3))))) rfl) W14.s (fun z _ _ _ => by cases z) fun _ F16 H16 g16 => PD.w_next ?_
    have W16 := W14.g g16
    exact ⟨F16, (g6.fs.trans (g7.fs.trans sR)).trans (g12.fs.trans (g13.fs.trans (gF.fs.trans g16.fs))), W16.s, _, _, _, _, _, _, _, _, rfl, W16⟩
  · obtain ⟨t4, t5, t6, t7, t8, t9, t10, t11, rfl, W⟩ := h
    have p6 := dp_same s6 p5
    have hl10 : ((0 :: ((allRows r).length - 1) :: js).map fun j => PyData.int (j : Nat)).length = 10 := by rw [List.length_map, List.length_cons, List.length_cons, hjl]
    rw [hl10] at W
    dsimp only
    -- odd, wrong, bad
    refine PD.w_seq (x_pick (K := K) (T := T) (p := p) (i := 1) (F := F') (ds := odds) rfl W (by decide) ⟨(by decide), (by decide)⟩ (ed_lst (eds_cons (ed_neg (ed_c (.int 1))) (eds_cons (ed_c (.int 4)) (eds_cons (ed_c .non) (eds_cons (ed_c (.bl true)) (eds_cons (ed_c (.str _)) eds_nil))))) (by show 5 ≤ sizeLine; decide)) fun d1 u1 F6 H6 m1 g6 W6 q1 => ?_)
    have p7 := dp_same g6.fs p6
    refine x_pick (K := K) (T := T) (p := p) (i := 1) (F := F6) (ds := wrongs (allRows r).length) rfl W6 (by decide) ⟨(by show 0 < 4; decide), (by show 4 ≤ 1000000; decide)⟩ (ed_lst (eds_cons (ed_neg (ed_c (.int 1))) (eds_cons (ed_cb (eds_cons (ed_var (i := 3) ⟨v3, rfl, p7⟩) eds_nil) (rc_len rfl)) (eds_cons (ed_c .non) (eds_cons (ed_c (.bl true)) eds_nil)))) (by show 4 ≤ sizeLine; decide)) fun d2 u2 F7 H7 m2 g7 W7 q2 => ?_
    refine x_pick (K := K) (T := T) (p := p) (i := 1) (F := F7) (ds := bads) rfl W7 (by decide) ⟨(by decide), (by decide)⟩ (ed_lst (eds_cons (ed_neg (ed_c (.int 1))) (eds_cons (ed_c (.int 3)) (eds_cons (ed_c .non) (eds_cons (ed_c (.bl true)) eds_nil)))) (by show 4 ≤ sizeLine; decide)) fun d3 u3 F8 H8 m3 g8 W8 q3 => ⟨by show 3 ≤ sizeLine; decide, fun l hl => ?_⟩
    have gn := Grow.new (o := .tup [u1, u2, u3]) W8.s hl
    have W9 := W8.g gn
    refine bd_three (K := K) (i := 12) (j := 13) (k := 14) (F := upd F8 l (.tup [u1, u2, u3])) _ _ gn.fh (.tup (SqT.of upd_same) (dpAll_same gn.fs (.cons (dp_same (g7.fs.trans g8.fs) q1) (.cons (dp_same g8.fs q2) (.cons q3 .nil))))) _ fun σ' hσ => ?_
    obtain ⟨w1, w2, w3, rfl, z1, z2, z3⟩ := hσ
    have o1 : countParts d1 = .ex "BadNumber" ["what", "number"] [.str "many", d1] := by
      unfold countParts
      rw [odd_bad m1]
      rfl
    have o2 : rowsAt (d1, d2) = .ex "BadNumber" ["what", "number"] [.str "many", d1] := by
      unfold rowsAt
      simp only
      rw [odd_bad m1]
      rfl
    have o3 : rowsAt (.int (r : Nat), d2) = .ex "BadNumber" ["what", "number"] [.str "place", d2] := by
      have h := wrong_bad m2
      rw [e3] at h
      unfold rowsAt
      simp only
      rw [whole_nat (n := r) (by omega), if_pos rfl, toN_nat, h]
      rfl
    dsimp only
    refine PD.w_seq (w_fault (K := K) (T := T) (F := upd F8 l (.tup [u1, u2, u3])) (σ := [some (.ref a), some (.ref p), some (.int (r : Nat)), some v3, t4, t5, t6, t7, t8, t9, t10, t11, some w1, some w2, some w3, none, none]) W9.s W9.tab (.inl ⟨rfl, rfl⟩) (fun E F1 e => ex_callO (res := countParts) d1 (eds_cons (ed_var (i := 12) ⟨w1, rfl, dp_extN e z1⟩) eds_nil) trivial o1) fun vf F10 H10 g10 T10 pf => ⟨by show 1 ≤ sizeLine; decide, fun l2 hl2 => ?_⟩)
    have S0 : FS K T p l2 22 F10 (upd H10 l2 (.lst [vf])) [vf] [.tuple [.str "BadNumber", .str "many", d1]] := FS.new ⟨g10.fh, W9.pen.t g10, T10⟩ hl2 (.cons pf .nil)
    have z1a := dp_extN g10.fs z1
    have z2a := dp_extN g10.fs z2
    have z3a := dp_extN g10.fs z3
    dsimp only
    refine PD.w_seq (w_appF (K := K) (T := T) (i := 15) (σ := [some (.ref a), some (.ref p), some (.int (r : Nat)), some v3, t4, t5, t6, t7, t8, t9, t10, t11, some w1, some w2, some w3, some (.ref l2), none]) S0 rfl (by show 1 < 1000; decide) (.inl ⟨rfl, rfl⟩) (fun E F1 e => ex_callO (res := rowsAt) (d1, d2) (eds_cons (ed_var (i := 12) ⟨w1, rfl, dp_extN e z1a⟩) (eds_cons (ed_var (i := 13) ⟨w2, rfl, dp_extN e z2a⟩) eds_nil)) trivial o2) fun vs1 F11 H11 e11 S1 n1 => ?_)
    have z1b := dp_extN e11 z1a
    have z2b := dp_extN e11 z2a
    have z3b := dp_extN e11 z3a
    dsimp only
    refine PD.w_seq (w_appF (K := K) (T := T) (i := 15) (σ := [some (.ref a), some (.ref p), some (.int (r : Nat)), some v3, t4, t5, t6, t7, t8, t9, t10, t11, some w1, some w2, some w3, some (.ref l2), none]) S1 rfl (by rw [n1]; show 2 < 1000; decide) (.inl ⟨rfl, rfl⟩) (fun E F1 e => ex_small (ed_var (i := 12) ⟨w1, rfl, dp_extN e z1b⟩) (ed_var (i := 13) ⟨w2, rfl, dp_extN e z2b⟩) o2) fun vs2 F12 H12 e12 S2 n2 => ?_)
    have z1c := dp_extN e12 z1b
    have z2c := dp_extN e12 z2b
    have z3c := dp_extN e12 z3b
    dsimp only
    refine PD.w_seq (w_appF (K := K) (T := T) (i := 15) (σ := [some (.ref a), some (.ref p), some (.int (r : Nat)), some v3, t4, t5, t6, t7, t8, t9, t10, t11, some w1, some w2, some w3, some (.ref l2), none]) S2 rfl (by rw [n2, n1]; show 3 < 1000; decide) (.inl ⟨rfl, rfl⟩) (fun E F1 e => ex_callO (res := rowsAt) (.int (r : Nat), d2) (eds_cons (ed_var (i := 2) ⟨_, rfl, .int _⟩) (eds_cons (ed_var (i := 13) ⟨w2, rfl, dp_extN e z2c⟩) eds_nil)) trivial o3) fun vs3 F13 H13 e13 S3 n3 => ?_)
    have z1d := dp_extN e13 z1c
    have z2d := dp_extN e13 z2c
    have z3d := dp_extN e13 z3c
    dsimp only
    refine PD.w_seq (w_appF (K := K) (T := T) (i := 15) (σ := [some (.ref a), some (.ref p), some (.int (r : Nat)), some v3, t4, t5, t6, t7, t8, t9, t10, t11, some w1, some w2, some w3, some (.ref l2), none]) S3 rfl (by rw [n3, n2, n1]; show 4 < 1000; decide) (.inl ⟨rfl, rfl⟩) (fun E F1 e => ex_small (ed_var (i := 2) ⟨_, rfl, .int _⟩) (ed_var (i := 13) ⟨w2, rfl, dp_extN e z2d⟩) o3) fun vs4 F14 H14 e14 S4 n4 => ?_)
    have z1e := dp_extN e14 z1d
    have z2e := dp_extN e14 z2d
    have z3e := dp_extN e14 z3d
    dsimp only
    -- strange
    refine PD.w_seq (x_pick (K := K) (T := T) (p := p) (i := 1) (F := F14) (ds := stranges) (σ := [some (.ref a), some (.ref p), some (.int (r : Nat)), some v3, t4, t5, t6, t7, t8, t9, t10, t11, some w1, some w2, some w3, some (.ref l2), none]) rfl S4.w (by decide) ⟨(by decide), (by decide)⟩ (ed_lst
      (eds_cons (ed_c .non) (eds_cons (ed_c (.int 5)) (eds_cons (ed_tup (eds_cons (ed_c .non) eds_nil) (by show 1 ≤ sizeLine; decide)) (eds_cons (ed_c (.str _))
      (eds_cons (x := S5) (ed_tup (eds_cons (ed_tup (eds_cons (ed_c (.str _)) (eds_cons (ed_c (.str _)) (eds_cons (ed_tup (eds_cons (ed_c (.str _)) (eds_cons (ed_c (.int 2)) eds_nil)) (by show 2 ≤ sizeLine; decide)) eds_nil))) (by show 3 ≤ sizeLine; decide)) eds_nil) (by show 1 ≤ sizeLine; decide))
      (eds_cons (x := S6) (ed_tup (eds_cons (ed_lst (eds_cons (ed_c (.str _)) (eds_cons (ed_c (.str _)) (eds_cons (ed_tup (eds_cons (ed_c (.str _)) (eds_cons (ed_c (.int 1)) eds_nil)) (by show 2 ≤ sizeLine; decide)) eds_nil))) (by show 3 ≤ sizeLine; decide)) eds_nil) (by show 1 ≤ sizeLine; decide))
      (eds_cons (x := S7) (ed_tup (eds_cons (ed_tup (eds_cons (ed_c (.str _)) (eds_cons (ed_c (.str _)) (eds_cons (ed_tup (eds_cons (ed_c (.str _)) (eds_cons (ed_c (.bl false)) eds_nil)) (by show 2 ≤ sizeLine; decide)) eds_nil))) (by show 3 ≤ sizeLine; decide)) eds_nil) (by show 1 ≤ sizeLine; decide))
      (eds_cons (x := S8) (ed_is (ed_op (ed_tup (eds_cons (ed_tup (eds_cons (ed_c (.str _)) (eds_cons (ed_c (.str _)) (eds_cons (ed_tup (eds_cons (ed_c (.str _)) (eds_cons (ed_c (.int 1)) eds_nil)) (by show 2 ≤ sizeLine; decide)) eds_nil))) (by show 3 ≤ sizeLine; decide)) eds_nil) (by show 1 ≤ sizeLine; decide)) (ed_c (.int 4)) (rd_repT (k := 4) (by simp) (by decide) (by show 1 ≤ 1000; decide))) rfl) eds_nil)))))))) (by show 8 ≤ sizeLine; decide)) fun d4 u4 F15 H15 m4 g15 W15 q4 => ?_)
    have S5' := S4.q g15 W15
    have z1f := dp_same g15.fs z1e
    have z2f := dp_same g15.fs z2e
    have z3f := dp_same g15.fs z3e
    obtain ⟨o5, o6⟩ := strange_bad m4
    have o4 : placeOf (d3, d4) = .ex "BadNumber" ["what", "number"] [.str "test", d3] := by
      unfold placeOf
      simp only
      rw [bad_bad m3]
      rfl
    dsimp only
    refine PD.w_seq (w_appF (K := K) (T := T) (i := 15) (σ := [some (.ref a), some (.ref p), some (.int (r : Nat)), some v3, t4, t5, t6, t7, t8, t9, t10, t11, some w1, some w2, some w3, some (.ref l2), some u4]) S5' rfl (by rw [n4, n3, n2, n1]; show 5 < 1000; decide) (.inl ⟨rfl, rfl⟩) (fun E F1 e => ex_callO (res := placeOf) (d3, d4) (eds_cons (ed_var (i := 14) ⟨w3, rfl, dp_extN e z3f⟩) (eds_cons (ed_var (i := 16) ⟨u4, rfl, dp_extN e q4⟩) eds_nil)) o6 o4) fun vs5 F16 H16 e16 S6' n5 => ?_)
    have q5 := dp_extN e16 q4
    have z1g := dp_extN e16 z1f
    have z2g := dp_extN e16 z2f
    have z3g := dp_extN e16 z3f
    dsimp only
    refine PD.w_seq (w_appF (K := K) (T := T) (i := 15) (σ := [some (.ref a), some (.ref p), some (.int (r : Nat)), some v3, t4, t5, t6, t7, t8, t9, t10, t11, some w1, some w2, some w3, some (.ref l2), some u4]) S6' rfl (by rw [n5, n4, n3, n2, n1]; show 6 < 1000; decide) (.inr ⟨rfl, rfl⟩) (fun E F1 e => ex_callO (res := placeOf) (.int 0, d4) (eds_cons (ed_c (.int 0)) (eds_cons (ed_var (i := 16) ⟨u4, rfl, dp_extN e q5⟩) eds_nil)) o6 o5) fun vs6 F17 H17 e17 S7' n6 => ?_)
    have q6 := dp_extN e17 q5
    have z1h := dp_extN e17 z1g
    have z2h := dp_extN e17 z2g
    have z3h := dp_extN e17 z3g
    have sF : Same (upd F17 l2 (.lst vs6)) H17 := fun b o h => by
      by_cases e : b = l2
      · rw [e] at h ⊢
        rw [upd_same] at h
        rw [← h]
        exact S7'.hl
      · rw [upd_ne e] at h
        exact S7'.s b o h
    have up := same_upd (o := .lst vs6) S7'.fl
    dsimp only
    refine w_ret (K := K) (F := upd F17 l2 (.lst vs6)) (ed_call (res := fun _ => .bool true) (.list [.tuple [.str "BadNumber", .str "many", d1], .tuple [.str "BadNumber", .str "many", d1], .tuple [.str "BadNumber", .str "many", d1], .tuple [.str "BadNumber", .str "place", d2], .tuple [.str "BadNumber", .str "place", d2], .tuple [.str "BadNumber", .str "test", d3], .tuple [.str "BadRow", .str "rows", d4]])
      (eds_cons (ed_var (i := 15) ⟨.ref l2, rfl, .lst (SqL.of upd_same) (dpAll_same up S7'.ds)⟩) (eds_cons (ed_of_el (el_is (el_cat (el_cat (el_rep (k := 3) (el_lst (eds_cons (ed_tup (eds_cons (ed_c (.str _)) (eds_cons (ed_c (.str _)) (eds_cons (ed_var (i := 12) ⟨w1, rfl, dp_same up z1h⟩) eds_nil))) (by show 3 ≤ sizeLine; decide)) eds_nil) (by show 1 ≤ sizeLine; decide)) (by decide) (by show 1 ≤ 1000; decide))
        (el_rep (k := 2) (el_lst (eds_cons (ed_tup (eds_cons (ed_c (.str _)) (eds_cons (ed_c (.str _)) (eds_cons (ed_var (i := 13) ⟨w2, rfl, dp_same up z2h⟩) eds_nil))) (by show 3 ≤ sizeLine; decide)) eds_nil) (by show 1 ≤ sizeLine; decide)) (by decide) (by show 1 ≤ 1000; decide)) (by show 5 ≤ sizeLine; decide))
        (el_lst (eds_cons (ed_tup (eds_cons (ed_c (.str _)) (eds_cons (ed_c (.str _)) (eds_cons (ed_var (i := 14) ⟨w3, rfl, dp_same up z3h⟩) eds_nil))) (by show 3 ≤ sizeLine; decide)) (eds_cons (ed_tup (eds_cons (ed_c (.str _)) (eds_cons (ed_c (.str _)) (eds_cons (ed_var (i := 16) ⟨u4, rfl, dp_same up q6⟩) eds_nil))) (by show 3 ≤ sizeLine; decide)) eds_nil)) (by show 2 ≤ sizeLine; decide)) (by show 7 ≤ sizeLine; decide)) rfl)) eds_nil)) ?_) sF fun v F18 H18 g18 p18 => ?_
    · obtain ⟨a1, b1⟩ := fit_odd m1
      obtain ⟨a2, b2⟩ := fit_wrong m2
      obtain ⟨a3, b3⟩ := fit_bad m3
      obtain ⟨a4, b4⟩ := fit_strange m4
      refine ⟨?_, ?_⟩
      · simp [fit, fitAll, a1, a2, a3, a4]
      · simp [PyData.canLay0, PyData.canLayAll0, b1, b2, b3, b4]
        decide +kernel
    · rw [dp_bl p18]
      exact k H18
end
end K74
set_option Elab.async false
set_option linter.all false
set_option maxRecDepth 100000
set_option maxHeartbeats 0
namespace PD
open PySem PySem.Spec PyProof.Rows L2
/-! ### facts of K told by a Bool -/
/-- an exception class's object: its first base in line is itself, the rest own classes down to ValueError -/
def oexO (C : Addr) : Obj → Bool
  | ⟨.type "type", _, .cls ⟨_, _, .ref C' :: bm, _, _, true, _, _, _, _, false⟩, ⟨[_, _, _, _, some (.builtin m), _]⟩⟩ => decide (C' = C) && (decide (m = "ValueError.__new__") && PySem.HandSPX.refsVE bm)
  | _ => false
theorem oexO_ok {C : Addr} {o : Obj} (h : oexO C o = true) : ∃ nm q N bs bm sn sub ab col dd k0 k1 k2 k3 k5, o = excClassObj nm q C N bs bm true sn sub ab col dd k0 k1 k2 k3 k5 "ValueError.__new__" ∧ PySem.HandSPX.refsVE bm = true := by
  unfold oexO at h
  split at h
  · obtain ⟨e1, h2⟩ := He.ba h
    obtain ⟨e2, e3⟩ := He.ba h2
    cases of_decide_eq_true e1
    cases of_decide_eq_true e2
    exact ⟨_, _, _, _, _, _, _, _, _, _, _, _, _, _, _, rfl, e3⟩
  · cases h
def oexB (K : PySem.W.Frag) (C : Addr) : Bool := (K.lookup C).any (oexO C) && (decide (PySem.W.findIn K (.ref C) "__setattr__" = some (some (.builtin "object.__setattr__"))) && (decide (PySem.W.subIn K (.ref C) (.type "BaseException") = some true) && (decide (PySem.W.typeIn K (.ref C) = some (.type "type")) && PySem.W.keepIn K (.ref C))))
theorem oexB_ok {K : PySem.W.Frag} {C : Addr} (h : oexB K C = true) : OexC K C := by
  obtain ⟨q, g1⟩ := He.ba h
  obtain ⟨e1, g2⟩ := He.ba g1
  obtain ⟨e2, g3⟩ := He.ba g2
  obtain ⟨e3, e4⟩ := He.ba g3
  obtain ⟨o, lo, ho⟩ : ∃ o, K.lookup C = some o ∧ oexO C o = true := by
    cases z : K.lookup C with
    | none =>
      rw [z] at q
      cases q
    | some o =>
      rw [z] at q
      exact ⟨o, rfl, q⟩
  obtain ⟨nm, qn, N, bs, bm, sn, sub, ab, col, dd, k0, k1, k2, k3, k5, e, r⟩ := oexO_ok ho
  exact ⟨⟨nm, qn, N, bs, bm, sn, sub, ab, col, dd, k0, k1, k2, k3, k5, by rw [lo, e], r⟩, of_decide_eq_true e1, of_decide_eq_true e2, of_decide_eq_true e3, e4⟩
def insB (K : PySem.W.Frag) (C : Addr) : Bool := decide (PySem.W.findIn K (.ref C) "__class__" = some (some (.builtin "object.__class__"))) && (decide (PySem.W.specialIn K (.builtin "object.__class__") "__get__" = some (some (.builtin "getset_descriptor.__get__"))) && (decide (PySem.W.takesIn K (.builtin "object.__class__") = some true) &&
  (decide (PySem.W.mroIn K C (.type "object") = some true) && decide (PySem.W.kitOne K (.ref C) (.ref C) = some true))))
theorem insB_ok {K : PySem.W.Frag} {C : Addr} (cl : Cls K C) (h : insB K C = true) : C8.InsC K C := by
  obtain ⟨e1, g1⟩ := He.ba h
  obtain ⟨e2, g2⟩ := He.ba g1
  obtain ⟨e3, g3⟩ := He.ba g2
  obtain ⟨e4, e5⟩ := He.ba g3
  exact ⟨cl, of_decide_eq_true e1, of_decide_eq_true e2, of_decide_eq_true e3, of_decide_eq_true e4, of_decide_eq_true e5⟩
mutual
/-- plain data of the text, laid before the walk -/
def litB (K : PySem.W.Frag) : PyData → Value → Bool
  | .none, .none => true
  | .bool b, .bool c => b == c
  | .int i, .int j _ => decide (i = j)
  | .str x, .str y _ => decide (x = y)
  | .tuple ds, .ref a => (match K.lookup a with
    | some ⟨.type c, _, .seq its _, _⟩ => decide (c = "tuple") && (decide (its.size ≤ sizeLine) && litAll K ds its.toList)
    | _ => false)
  | _, _ => false
def litAll (K : PySem.W.Frag) : List PyData → List Value → Bool
  | [], [] => true
  | d :: ds, u :: us => litB K d u && litAll K ds us
  | _, _ => false
end
mutual
theorem litB_ok {K : PySem.W.Frag} {H : Hp} : ∀ {d : PyData} {u : Value}, litB K d u = true → ∃ v, RelV v u ∧ Dp K H v d
  | .none, u, h => by
    cases u <;> simp [litB] at h
    exact ⟨.non, rfl, .non⟩
  | .bool b, u, h => by
    cases u <;> simp [litB] at h
    subst h
    exact ⟨.bl _, rfl, .bl _⟩
  | .int i, u, h => by
    cases u <;> simp [litB] at h
    subst h
    exact ⟨.int _, ⟨_, rfl⟩, .int _⟩
  | .str x, u, h => by
    cases u <;> simp [litB] at h
    subst h
    exact ⟨.str _, ⟨_, rfl⟩, .str _⟩
  | .tuple ds, u, h => by
    cases u <;> simp only [litB] at h <;> try cases h
    rename_i a
    split at h
    · rename_i c dd its n sl ho
      simp only [Bool.and_eq_true, decide_eq_true_eq] at h
      obtain ⟨rfl, h2, h3⟩ := h
      obtain ⟨vs, hv, hd⟩ := litAll_ok (H := H) h3
      exact ⟨.ref a, rfl, .tup (.inr ⟨_, its, n, ho, rfl, rfl, h2, hv⟩) hd⟩
    · cases h
  | .list ds, u, h => by simp [litB] at h
  | .dict ds, u, h => by simp [litB] at h
theorem litAll_ok {K : PySem.W.Frag} {H : Hp} : ∀ {ds : List PyData} {us : List Value}, litAll K ds us = true → ∃ vs, Vals vs us ∧ DpAll K H vs ds
  | [], [], _ => ⟨[], .nil, .nil⟩
  | [], _ :: _, h => by simp [litAll] at h
  | _ :: _, [], h => by simp [litAll] at h
  | d :: ds, u :: us, h => by
    simp only [litAll, Bool.and_eq_true] at h
    obtain ⟨v, r, p⟩ := litB_ok (H := H) h.1
    obtain ⟨vs, rs, ps⟩ := litAll_ok (H := H) h.2
    exact ⟨v :: vs, .cons r rs, .cons p ps⟩
end
theorem litT_ok {K : PySem.W.Frag} {H : Hp} {ds : List PyData} {a : Addr} (h : litB K (.tuple ds) (.ref a) = true) : Dp K H (.ref a) (.tuple ds) := by
  obtain ⟨v, r, p⟩ := litB_ok (H := H) h
  cases p with
  | tup hs pa =>
    rename_i b _
    have e : (Value.ref a) = Value.ref b := r
    cases e
    exact .tup hs pa
end PD
namespace K74
open PySem PySem.Spec PyProof.Rows L2 PD
def fa : List He.Fa := [.glo "BadName", .glo "BadNumber", .glo "BadRow", .glo "NoName", .glo "TakenName", .glo "Unlike", .glo "NotThere", .glo "TooMany", .glo "is_whole", .glo "is_listed", .glo "as_tuples", .glo "same", .glo "Deed", .glo "STATEMENTS", .glo "TESTS", .int "MOST" 3,
  .glo "need_many", .glo "count_rows", .glo "count_parts", .glo "rows_at", .glo "small_at", .glo "place_of", .glo "_law_pen", .glo "_law_draw", .glo "_law_pick", .glo "_law_same", .glo "_law_fault", .glo "_law_equal", .glo "_law_statements", .glo "_law_all_rows", .glo "law",
  .free "isinstance", .free "int", .free "bool", .free "str", .free "tuple", .free "list", .free "len", .free "all", .free "zip", .free "range", .free "enumerate"]
def fa2 : List He.Fa := [.cls "Deed", .noat "Deed" "kept", .noat "Deed" "passing", .noat "Deed" "boxes", .noat "Deed" "parts", .mkr "Deed", .noat "BadNumber" "what", .noat "BadNumber" "number", .noat "BadRow" "what", .noat "BadRow" "row",
  .exm "BadNumber" "BadName" false, .exm "BadNumber" "BadNumber" true, .exm "BadRow" "BadName" false, .exm "BadRow" "BadNumber" false, .exm "BadRow" "BadRow" true,
  .noat "BadName" "name", .noat "NoName" "name", .noat "TakenName" "name", .noat "Unlike" "what", .noat "NotThere" "what", .noat "TooMany" "what", .noat "TooMany" "many", .noat "TooMany" "limit"]
def excs : List Str := ["BadName", "BadNumber", "BadRow", "NoName", "TakenName", "Unlike", "NotThere", "TooMany"]
def raises : List Str := ["BadNumber", "BadRow"]
def initB (K : PySem.W.Frag) (x : Str) : Bool := decide (PySem.W.findIn K (.ref (He.ga K x)) "__init__" = some (some (.ref (He.ma K (He.ga K x) "__init__")))) && decide (PySem.W.typeIn K (.ref (He.ma K (He.ga K x) "__init__")) = some (.type "function"))
def ex (K : PySem.W.Frag) : Bool := litB K (.tuple STM) (.ref (He.ga K "STATEMENTS")) && (litB K (.tuple TST) (.ref (He.ga K "TESTS")) && (excs.all (fun x => xfB K (He.ga K x)) && (raises.all (fun x => oexB K (He.ga K x) && initB K x) && insB K (He.ga K "Deed"))))
def tf : List He.Defn := [("law", none)]
def loose : List Str := ["DeedError", "BadName", "BadNumber", "BadRow", "NoName", "TakenName", "Unlike", "NotThere", "TooMany", "is_whole", "is_listed", "as_tuples", "same", "Deed", "STATEMENTS", "TESTS", "MOST", "need_many", "count_rows", "count_parts", "rows_at", "small_at", "place_of", "_law_pen", "_law_draw", "_law_pick", "_law_same", "_law_fault", "_law_equal", "_law_statements", "_law_all_rows"]
abbrev R : PySem.W.OpenRow := PySem.W.OpenLaw.row PySem.Challenge.rw_evenifstopped_k74_whole_small_parts
abbrev hk : PySem.W.Hook := He.hookX 5 (fa ++ fa2) fn [] tf ex
def ob (s : PySem.W.SharedT) : He.AlX := He.obsX 5 (fa ++ fa2) fn [] tf ex (HandSHeadRun.getT s)
theorem ob_eq (s : PySem.W.SharedT) : ob s = hk.obs s.abs := He.obsX_eq (HandSHeadRun.getT_eq s)
theorem run (w : World) : HandSHeadRun.RunEq R (PySem.W.view R.prog [36]) hk ob 4000 loose w := by
  intro os
  kernel_rfl
end K74
set_option Elab.async false
set_option linter.all false
set_option maxRecDepth 100000
set_option maxHeartbeats 0
namespace K74
open PySem PySem.Spec PyProof.Rows L2 PD
section
variable {P : Program} {w : World} {K : PySem.W.Frag} {h : Heap} {mg : Str → Option Value} {base : Heap} {k : Nat} {x : Str} {ns : List Str}
theorem at_of {st : Stmt} {dv : List V} {ps : List Str} {fd : FuncData} (F : FnP K x x st dv (He.ga K x) fd) (g : mg x = some (.ref (He.ga K x))) (b : Binds K fd ps []) : At K mg x st dv ps fd := ⟨F, g, b⟩
theorem law_facts (X : K.In h) (G : h.Ns mainGlobals mg) (c : He.SaysD (fa ++ fa2) fn K) (hx : ex K = true) :
    ∃ fd : FuncData, (∀ (s : Shared) (v : Value), BindsTo s fd ⟨[v], []⟩ [("script", v)]) ∧ ∀ base : Heap, LamX.TabB base mg (He.cT K ("law", none)).1 (He.cT K ("law", none)).2 → FnOk P w K mg base (L2.CX P w) 16 (He.fAd K ("law", none)) fd ["script"] (spLaw K (He.cT K ("law", none)).2) := by
  have glo : ∀ y, He.Fa.glo y ∈ fa ++ fa2 → mg y = some (.ref (He.ga K y)) := fun y hy => He.glo_ok X G (c.facts hy)
  have fre : ∀ y, He.Fa.free y ∈ fa ++ fa2 → mg y = none := fun y hy => He.free_ok X G (c.facts hy)
  have noa : ∀ y f, He.Fa.noat y f ∈ fa ++ fa2 → PySem.W.findIn K (.ref (He.ga K y)) f = some none := fun y f hy => He.noat_ok (c.facts hy)
  have exm : ∀ y z b, He.Fa.exm y z b ∈ fa ++ fa2 → PySem.W.exmOne K (.ref (He.ga K y)) (.ref (He.ga K z)) = some b := fun y z b hy => He.exm_ok (c.facts hy)
  obtain ⟨x1, hx⟩ := He.ba hx
  obtain ⟨x2, hx⟩ := He.ba hx
  obtain ⟨x3, hx⟩ := He.ba hx
  obtain ⟨x4, x5⟩ := He.ba hx
  have xf : ∀ y ∈ excs, XfC K (He.ga K y) := fun y hy => xfB_ok (List.all_eq_true.mp x3 y hy)
  have rs : ∀ y ∈ raises, OexC K (He.ga K y) ∧ PySem.W.findIn K (.ref (He.ga K y)) "__init__" = some (some (.ref (He.ma K (He.ga K y) "__init__"))) ∧ PySem.W.typeIn K (.ref (He.ma K (He.ga K y) "__init__")) = some (.type "function") := fun y hy => by
    obtain ⟨a1, a2⟩ := He.ba (List.all_eq_true.mp x4 y hy)
    obtain ⟨a3, a4⟩ := He.ba a2
    exact ⟨oexB_ok a1, of_decide_eq_true a3, of_decide_eq_true a4⟩
  have B : Bl mg := ⟨fre _ (by simp [fa]), fre _ (by simp [fa]), fre _ (by simp [fa]), fre _ (by simp [fa]), fre _ (by simp [fa]), fre _ (by simp [fa]), fre _ (by simp [fa]), fre _ (by simp [fa]), fre _ (by simp [fa]), fre _ (by simp [fa]), fre _ (by simp [fa])⟩
  have M : Cn K mg := ⟨He.int_ok X G (c.facts (f := .int "MOST" 3) (by simp [fa])), glo _ (by simp [fa]), glo _ (by simp [fa]), fun H => litT_ok x1, fun H => litT_ok x2⟩
  have EF : ExF K mg := ⟨glo _ (by simp [fa]), glo _ (by simp [fa]), glo _ (by simp [fa]), glo _ (by simp [fa]), glo _ (by simp [fa]), glo _ (by simp [fa]), glo _ (by simp [fa]), glo _ (by simp [fa]),
    xf _ (by simp [excs]), xf _ (by simp [excs]), xf _ (by simp [excs]), xf _ (by simp [excs]), xf _ (by simp [excs]), xf _ (by simp [excs]), xf _ (by simp [excs]), xf _ (by simp [excs]),
    noa _ _ (by simp [fa2]), noa _ _ (by simp [fa2]), noa _ _ (by simp [fa2]), noa _ _ (by simp [fa2]), noa _ _ (by simp [fa2]), noa _ _ (by simp [fa2]), noa _ _ (by simp [fa2]), noa _ _ (by simp [fa2]), noa _ _ (by simp [fa2]), noa _ _ (by simp [fa2]), noa _ _ (by simp [fa2]), noa _ _ (by simp [fa2]),
    exm _ _ _ (by simp [fa2]), exm _ _ _ (by simp [fa2]), exm _ _ _ (by simp [fa2]), exm _ _ _ (by simp [fa2]), exm _ _ _ (by simp [fa2])⟩
  have DC : DeedC K (He.ga K "Deed") := ⟨He.cls_ok (c.facts (f := .cls "Deed") (by simp [fa2])), noa _ _ (by simp [fa2]), noa _ _ (by simp [fa2]), noa _ _ (by simp [fa2]), noa _ _ (by simp [fa2])⟩
  have IC : C8.InsC K (He.ga K "Deed") := insB_ok DC.cl x5
  have MK := He.mkr_ok (c.facts (f := .mkr "Deed") (by simp [fa2]))
  obtain ⟨f_law, F_law⟩ := c.defs (d := s_law_D) (by simp [fn])
  obtain ⟨f_is_whole, F_is_whole⟩ := c.defs (d := s_is_whole_D) (by simp [fn])
  obtain ⟨f_is_listed, F_is_listed⟩ := c.defs (d := s_is_listed_D) (by simp [fn])
  obtain ⟨f_as_tuples, F_as_tuples⟩ := c.defs (d := s_as_tuples_D) (by simp [fn])
  obtain ⟨f_same, F_same⟩ := c.defs (d := s_same_D) (by simp [fn])
  obtain ⟨f_Deed, F_Deed⟩ := c.defs (d := s_Deed_init_D) (by simp [fn])
  obtain ⟨f_BadNumber, F_BadNumber⟩ := c.defs (d := s_BadNumber_init_D) (by simp [fn])
  obtain ⟨f_BadRow, F_BadRow⟩ := c.defs (d := s_BadRow_init_D) (by simp [fn])
  obtain ⟨f_need_many, F_need_many⟩ := c.defs (d := s_need_many_D) (by simp [fn])
  obtain ⟨f_count_rows, F_count_rows⟩ := c.defs (d := s_count_rows_D) (by simp [fn])
  obtain ⟨f_count_parts, F_count_parts⟩ := c.defs (d := s_count_parts_D) (by simp [fn])
  obtain ⟨f_rows_at, F_rows_at⟩ := c.defs (d := s_rows_at_D) (by simp [fn])
  obtain ⟨f_small_at, F_small_at⟩ := c.defs (d := s_small_at_D) (by simp [fn])
  obtain ⟨f_place_of, F_place_of⟩ := c.defs (d := s_place_of_D) (by simp [fn])
  obtain ⟨f_law_pen, F_law_pen⟩ := c.defs (d := s_law_pen_D) (by simp [fn])
  obtain ⟨f_law_draw, F_law_draw⟩ := c.defs (d := s_law_draw_D) (by simp [fn])
  obtain ⟨f_law_pick, F_law_pick⟩ := c.defs (d := s_law_pick_D) (by simp [fn])
  obtain ⟨f_law_same, F_law_same⟩ := c.defs (d := s_law_same_D) (by simp [fn])
  obtain ⟨f_law_fault, F_law_fault⟩ := c.defs (d := s_law_fault_D) (by simp [fn])
  obtain ⟨f_law_equal, F_law_equal⟩ := c.defs (d := s_law_equal_D) (by simp [fn])
  obtain ⟨f_law_statements, F_law_statements⟩ := c.defs (d := s_law_statements_D) (by simp [fn])
  obtain ⟨f_law_all_rows, F_law_all_rows⟩ := c.defs (d := s_law_all_rows_D) (by simp [fn])
  have bl := FunD.bindsA (ps := ["script"]) F_law fun _ _ _ _ _ _ us hl => match us, hl with | [_], _ => rfl
  have b_is_whole : Binds K f_is_whole ["value", "least", "most"] [] := by
    obtain ⟨ds, h1, h2⟩ := FunD.binds1 (ps := ["value", "least", "most"]) F_is_whole 3 1 (by simp [s_is_whole_D, He.DefD.dvs]) rfl (fun T kV doc pm an cdv ct us its e1 e2 => by
      match us, e1 with
      | [a, b, d], _ =>
        match its, e2 with
        | [z], _ => exact ⟨_, rfl, rfl⟩)
    have e : ds = [] := by
      have h3 : Vals [] ds := h1
      cases h3
      rfl
    rw [e] at h2
    exact h2
  have b_is_listed : Binds K f_is_listed ["value"] [] := F_is_listed.bindsN fun _ _ _ _ _ _ us hl => match us, hl with | [_], _ => rfl
  have b_as_tuples : Binds K f_as_tuples ["value"] [] := F_as_tuples.bindsN fun _ _ _ _ _ _ us hl => match us, hl with | [_], _ => rfl
  have b_same : Binds K f_same ["one", "other"] [] := F_same.bindsN fun _ _ _ _ _ _ us hl => match us, hl with | [_, _], _ => rfl
  have b_Deed : Binds K f_Deed ["self", "kept", "passing", "boxes", "parts"] [] := F_Deed.bindsN fun _ _ _ _ _ _ us hl => match us, hl with | [_, _, _, _, _], _ => rfl
  have b_BadNumber : Binds K f_BadNumber ["self", "what", "number"] [] := F_BadNumber.bindsN fun _ _ _ _ _ _ us hl => match us, hl with | [_, _, _], _ => rfl
  have b_BadRow : Binds K f_BadRow ["self", "what", "row"] [] := F_BadRow.bindsN fun _ _ _ _ _ _ us hl => match us, hl with | [_, _, _], _ => rfl
  have b_need_many : Binds K f_need_many ["many"] [] := F_need_many.bindsN fun _ _ _ _ _ _ us hl => match us, hl with | [_], _ => rfl
  have b_count_rows : Binds K f_count_rows ["many"] [] := F_count_rows.bindsN fun _ _ _ _ _ _ us hl => match us, hl with | [_], _ => rfl
  have b_count_parts : Binds K f_count_parts ["many"] [] := F_count_parts.bindsN fun _ _ _ _ _ _ us hl => match us, hl with | [_], _ => rfl
  have b_rows_at : Binds K f_rows_at ["many", "place"] [] := F_rows_at.bindsN fun _ _ _ _ _ _ us hl => match us, hl with | [_, _], _ => rfl
  have b_small_at : Binds K f_small_at ["many", "place"] [] := F_small_at.bindsN fun _ _ _ _ _ _ us hl => match us, hl with | [_, _], _ => rfl
  have b_place_of : Binds K f_place_of ["test", "rows"] [] := F_place_of.bindsN fun _ _ _ _ _ _ us hl => match us, hl with | [_, _], _ => rfl
  have b_law_pen : Binds K f_law_pen ["script"] [] := F_law_pen.bindsN fun _ _ _ _ _ _ us hl => match us, hl with | [_], _ => rfl
  have b_law_draw : Binds K f_law_draw ["pen", "many"] [] := F_law_draw.bindsN fun _ _ _ _ _ _ us hl => match us, hl with | [_, _], _ => rfl
  have b_law_pick : Binds K f_law_pick ["pen", "some"] [] := F_law_pick.bindsN fun _ _ _ _ _ _ us hl => match us, hl with | [_, _], _ => rfl
  have b_law_same : Binds K f_law_same ["told", "due"] [] := F_law_same.bindsN fun _ _ _ _ _ _ us hl => match us, hl with | [_, _], _ => rfl
  have b_law_fault : Binds K f_law_fault ["call"] [] := F_law_fault.bindsN fun _ _ _ _ _ _ us hl => match us, hl with | [_], _ => rfl
  have b_law_equal : Binds K f_law_equal ["one", "other"] [] := F_law_equal.bindsN fun _ _ _ _ _ _ us hl => match us, hl with | [_, _], _ => rfl
  have b_law_statements : Binds K f_law_statements [] [] := F_law_statements.bindsN fun _ _ _ _ _ _ us hl => match us, hl with | [], _ => rfl
  have b_law_all_rows : Binds K f_law_all_rows ["many"] [] := F_law_all_rows.bindsN fun _ _ _ _ _ _ us hl => match us, hl with | [_], _ => rfl
  refine ⟨f_law, fun s v => bl s [v] rfl, fun base TB => ?_⟩
  have g_is_whole := glo "is_whole" (by simp [fa])
  have a_is_listed := at_of (st := s_is_listed) (dv := []) F_is_listed (glo "is_listed" (by simp [fa])) b_is_listed
  have a_same := at_of (st := s_same) (dv := []) F_same (glo "same" (by simp [fa])) b_same
  have a_need_many := at_of (st := s_need_many) (dv := []) F_need_many (glo "need_many" (by simp [fa])) b_need_many
  have a_count_rows := at_of (st := s_count_rows) (dv := []) F_count_rows (glo "count_rows" (by simp [fa])) b_count_rows
  have a_count_parts := at_of (st := s_count_parts) (dv := []) F_count_parts (glo "count_parts" (by simp [fa])) b_count_parts
  have a_rows_at := at_of (st := s_rows_at) (dv := []) F_rows_at (glo "rows_at" (by simp [fa])) b_rows_at
  have a_small_at := at_of (st := s_small_at) (dv := []) F_small_at (glo "small_at" (by simp [fa])) b_small_at
  have a_place_of := at_of (st := s_place_of) (dv := []) F_place_of (glo "place_of" (by simp [fa])) b_place_of
  have a_law_pen := at_of (st := s_law_pen) (dv := []) F_law_pen (glo "_law_pen" (by simp [fa])) b_law_pen
  have a_law_draw := at_of (st := s_law_draw) (dv := []) F_law_draw (glo "_law_draw" (by simp [fa])) b_law_draw
  have a_law_pick := at_of (st := s_law_pick) (dv := []) F_law_pick (glo "_law_pick" (by simp [fa])) b_law_pick
  have a_law_same := at_of (st := s_law_same) (dv := []) F_law_same (glo "_law_same" (by simp [fa])) b_law_same
  have a_law_fault := at_of (st := s_law_fault) (dv := []) F_law_fault (glo "_law_fault" (by simp [fa])) b_law_fault
  have a_law_equal := at_of (st := s_law_equal) (dv := []) F_law_equal (glo "_law_equal" (by simp [fa])) b_law_equal
  have a_law_statements := at_of (st := s_law_statements) (dv := []) F_law_statements (glo "_law_statements" (by simp [fa])) b_law_statements
  have a_law_all_rows := at_of (st := s_law_all_rows) (dv := []) F_law_all_rows (glo "_law_all_rows" (by simp [fa])) b_law_all_rows
  have gl_as := glo "as_tuples" (by simp [fa])
  have G_is_whole : Fnk P w K mg base 1 "is_whole" ["value", "least", "most"] (spIsWhole K) := ⟨⟨f_is_whole, ok_is_whole F_is_whole B, b_is_whole⟩, g_is_whole, F_is_whole.kp⟩
  have G_is_listed : Fnk P w K mg base 1 "is_listed" ["value"] (spIsListed K) := a_is_listed.fn (ok_is_listed a_is_listed.F B)
  have G_same : Fnk P w K mg base 4 "same" ["one", "other"] (spSame K 3) := a_same.fn (ok_same a_same B 3)
  have G_as_tuples : Fnk P w K mg base (depth + 1) "as_tuples" ["value"] (spAsT K depth) := ⟨⟨f_as_tuples, ok_as_tuples F_as_tuples B rfl gl_as b_as_tuples depth, b_as_tuples⟩, gl_as, F_as_tuples.kp⟩
  obtain ⟨r1, r2, r3⟩ := rs "BadNumber" (by simp [raises])
  obtain ⟨r4, r5, r6⟩ := rs "BadRow" (by simp [raises])
  have X_BadNumber : XC P w K mg base "BadNumber" ["what", "number"] := ⟨r1, r2, r3, glo _ (by simp [fa]), ⟨f_BadNumber, ok_BadNumber_init F_BadNumber r1 EF.n2 EF.n2', b_BadNumber⟩⟩
  have X_BadRow : XC P w K mg base "BadRow" ["what", "row"] := ⟨r4, r5, r6, glo _ (by simp [fa]), ⟨f_BadRow, ok_BadRow_init F_BadRow r4 EF.n3 EF.n3', b_BadRow⟩⟩
  have G_Deed : MkC P w K mg base (depth + 2) "Deed" ["self", "kept", "passing", "boxes", "parts"] (spDeedInit K (He.ga K "Deed")) := ⟨MK, glo _ (by simp [fa]), ⟨f_Deed, ok_Deed_init F_Deed DC G_as_tuples, b_Deed⟩⟩
  have G_need_many := a_need_many.fn (ok_need_many (P := P) (w := w) (base := base) a_need_many B M G_is_whole X_BadNumber)
  have G_count_rows := a_count_rows.fn (ok_count_rows (P := P) (w := w) (base := base) a_count_rows B M)
  have G_count_parts := a_count_parts.fn (ok_count_parts a_count_parts B M G_need_many G_count_rows)
  have G_rows_at := a_rows_at.fn (ok_rows_at a_rows_at B M G_is_whole G_count_parts X_BadNumber)
  have G_small_at := a_small_at.fn (ok_small_at a_small_at B M G_rows_at G_Deed)
  have G_place_of := a_place_of.fn (ok_place_of a_place_of B M G_is_whole G_is_listed G_same X_BadNumber X_BadRow)
  have G_law_pen := a_law_pen.fn (ok_law_pen (P := P) (w := w) (base := base) a_law_pen B)
  have G_law_draw := a_law_draw.fn (ok_law_draw (P := P) (w := w) (base := base) a_law_draw B)
  have G_law_pick := a_law_pick.fn (ok_law_pick a_law_pick B G_law_draw)
  have G_law_statements := a_law_statements.fn (ok_law_statements (P := P) (w := w) (base := base) a_law_statements)
  have G_law_all_rows := a_law_all_rows.fn (ok_law_all_rows a_law_all_rows B G_law_statements)
  have G_law_same := a_law_same.fn (ok_law_same (P := P) (w := w) (base := base) a_law_same B)
  have G_law_equal := a_law_equal.fn (ok_law_equal (P := P) (w := w) (base := base) a_law_equal B 9)
  exact ok_law F_law B M EF IC (glo "Deed" (by simp [fa])) DC TB a_law_fault G_law_pen G_law_draw G_law_pick G_law_all_rows G_law_same G_law_equal G_count_parts G_rows_at G_place_of G_small_at
end
end K74
set_option Elab.async false
set_option linter.all false
set_option maxRecDepth 100000
set_option maxHeartbeats 0
namespace K74
open PySem PySem.Spec PyProof.Rows L2 PD
theorem law_at {w : World} {h : Heap} {mg : Str → Option Value} {f : Addr} (Y : hk.says w h) (G : h.Ns mainGlobals mg) (hf : mg "law" = some (.ref f)) :
    ∃ K : PySem.W.Frag, K.In h ∧ LamX.LawAtS PySem.Challenge.rw_evenifstopped_k74_whole_small_parts w K (L2.CX (PySem.Challenge.rw_evenifstopped_k74_whole_small_parts).prog w) 16 63 "script" mg f h := by
  obtain ⟨K, X, c⟩ := Y
  obtain ⟨fd, hb, hF⟩ := law_facts (P := (PySem.Challenge.rw_evenifstopped_k74_whole_small_parts).prog) (w := w) X G c.t.d c.more
  have e : mg "law" = some (.ref (He.ga K "law")) := He.glo_ok X G (c.t.d.facts (f := .glo "law") (by simp [fa]))
  have e2 : f = He.fAd K ("law", none) := by
    have e3 := hf.symm.trans e
    injection e3 with e3
    injection e3
  subst e2
  have one : ∀ p ∈ [He.cT K ("law", none)], p = He.cT K ("law", none) := fun p hp => List.mem_singleton.mp hp
  have ht : (("law", none) : He.Defn) ∈ tf := by simp [tf]
  refine ⟨K, X, fd, [He.cT K ("law", none)], spLaw K (He.cT K ("law", none)).2, fun p hp => ?_, fun p hp => ?_, fun p hp => ?_, hb, fun H a ns hl _ hT hS => ⟨a, ns, rfl, hT _ (List.mem_singleton.mpr rfl), hS, Nat.le_trans hl (by decide), fun _ => rfl⟩, fun base _ _ TB => hF base (TB _ (List.mem_singleton.mpr rfl))⟩
  · rw [one p hp]
    exact c.empty _ ht
  · rw [one p hp]
    exact c.out _ ht
  · rw [one p hp]
    exact PySem.W.codeHd_of_K X (c.hd _ ht)
end K74
open PySem PySem.W PySem.Calls PyProof.Rows
theorem PySem.Challenge.cw_evenifstopped_k74_whole_small_parts_holds : PySem.Challenge.rw_evenifstopped_k74_whole_small_parts.Holds := by
  w_on; o_law
  refine HandSHeadRun.head_any (r := OpenLaw.row PySem.Challenge.rw_evenifstopped_k74_whole_small_parts) (q := view (OpenLaw.row PySem.Challenge.rw_evenifstopped_k74_whole_small_parts).prog [36]) (H := K74.hk) (ob := K74.ob) (M := 4000) (loose := K74.loose) (d := HandSHeadRun.topDef (OpenLaw.row PySem.Challenge.rw_evenifstopped_k74_whole_small_parts).prog 36) (kwd := []) K74.ob_eq
    (by kernel_rfl) (fun s => by kernel_rfl) K74.run (by kernel_rfl) (by kernel_rfl) (by kernel_rfl) (by rfl) (by first | assumption | decide +kernel) (by decide +kernel) ⟨rfl, rfl, rfl, rfl, rfl, by decide +kernel⟩ ?hw ?hc
  case hw => w_witness2
  case hc =>
    refine LamX.walk_ofTsE (l := PySem.Challenge.rw_evenifstopped_k74_whole_small_parts) (n := 63) (k := 16) (x := "script") (CX := fun w => L2.CX (PySem.Challenge.rw_evenifstopped_k74_whole_small_parts).prog w) rfl (by decide) (by kernel_rfl) ⟨rfl, by decide, by decide⟩ ?F (fun w H s e s' z => ?_)
    · intro w mg fa h Y G hmg0
      have hmg : mg ("law" : PySem.Str) = some (.ref fa) := by
        have e : (HandSHeadRun.topDef (OpenLaw.row PySem.Challenge.rw_evenifstopped_k74_whole_small_parts).prog 36).name = ("law" : PySem.Str) := by kernel_rfl
        rw [← e]
        exact hmg0
      exact K74.law_at Y G hmg
    · obtain ⟨a, B, H', cls, d, _, _, _, _, _, _, _, hz⟩ := z
      exact hz
