import PyProof.Rows.All
import Wide.All
import Open.Line
import Wide.FinOn
import PySem.Challenge.RW_uf040038_09
set_option linter.unusedVariables false
set_option linter.unusedSimpArgs false
set_option linter.unusedSectionVars false
set_option maxRecDepth 100000
set_option maxHeartbeats 4000000
set_option Elab.async false
set_option genSizeOf false
namespace Mine
theorem bC {p : Prop} (h : ¬ p → False) : p := Classical.byContradiction h
theorem Ky {a b : Nat} (h : a < b) : (a : Int) < (b : Int) := Int.ofNat_lt.mpr h
theorem Qg {a b : Nat} (h : a ≤ b) : (a : Int) ≤ (b : Int) := Int.ofNat_le.mpr h
theorem A1c {a b : Nat} (h : (a : Int) < (b : Int)) : a < b := Int.ofNat_lt.mp h
theorem Aa9 {a b : Nat} (h : (a : Int) ≤ (b : Int)) : a ≤ b := Int.ofNat_le.mp h
theorem A5p {a b : Nat} (h : (a : Int) = (b : Int)) : a = b := Int.ofNat.inj h
theorem A40 {a b : Nat} (h : a = b) : (a : Int) = (b : Int) := congrArg _ h
theorem A45 {a b : Nat} (h : ¬ a = b) : ¬ (a : Int) = (b : Int) := fun e => h (Int.ofNat.inj e)
theorem Sh {a b c : Nat} (h : a = b) (h2 : b < c) : a < c := h ▸ h2
theorem Ix {a b c : Nat} (h : a < b) (h2 : b = c) : a < c := h2 ▸ h
theorem A3y {a b c : Nat} (h : a = b) (h2 : b ≤ c) : a ≤ c := h ▸ h2
theorem Aat {a b c : Nat} (h : a ≤ b) (h2 : b = c) : a ≤ c := h2 ▸ h
theorem Aao {a b : Nat} (h : ¬ a = b) : ¬ b = a := fun e => h e.symm
theorem Gs {a b : Nat} (h : a < b + 1) (h2 : ¬ a = b) : a < b := Nat.lt_of_le_of_ne (Nat.le_of_lt_succ h) h2
theorem oGe {a b : Nat} (h : ¬ a < b) : b ≤ a := Nat.le_of_not_lt h
theorem oGt {a b : Nat} (h : ¬ a ≤ b) : b < a := Nat.lt_of_not_le h
theorem Rc {a b : Nat} (h : b ≤ a) : ¬ a < b := Nat.not_lt_of_le h
theorem oNN (a : Nat) : (0 : Int) ≤ (a : Int) := Int.natCast_nonneg a
theorem oZl {p : Prop} {a : Nat} (h : a < 0) : p := absurd h (Nat.not_lt_zero a)
theorem A77 {a : Nat} (h : ¬ a = 0) : a - 1 + 1 = a := Nat.sub_add_cancel (Nat.pos_of_ne_zero h)
theorem A27 {a b : Nat} (h : a < b) : a - 1 < b := Nat.lt_of_le_of_lt (Nat.sub_le a 1) h
theorem Us {a b c : Nat} (h : a ≤ b) : a - c ≤ b := Nat.le_trans (Nat.sub_le a c) h
theorem A6r {a b c : Nat} (h : a ≤ b) : a ≤ b + c := Nat.le_trans h (Nat.le_add_right b c)
theorem A9h {a b c : Nat} (h : a ≤ b) : a ≤ c + b := Nat.le_trans h (Nat.le_add_left b c)
theorem W9 {a b c : Nat} (h : c + a ≤ b) : a ≤ b := Nat.le_trans (Nat.le_add_left a c) h
theorem Wu (a : Nat) : ((a + 1 : Nat) : Int) - 1 = (a : Int) := by (first | lia | omega)
theorem Ql {a : Int} (h : 0 ≤ a) : a = (a.toNat : Int) := (Int.toNat_of_nonneg h).symm
theorem A90 (a b : Nat) : max (a : Int) (b : Int) = ((max a b : Nat) : Int) := (Nat.le_total a b).elim (fun q => (Int.max_eq_right (Int.ofNat_le.mpr q)).trans (congrArg Int.ofNat (Nat.max_eq_right q).symm)) fun q => (Int.max_eq_left (Int.ofNat_le.mpr q)).trans (congrArg Int.ofNat (Nat.max_eq_left q).symm)
theorem A8v (a b : Nat) : min (a : Int) (b : Int) = ((min a b : Nat) : Int) := (Nat.le_total a b).elim (fun q => (Int.min_eq_left (Int.ofNat_le.mpr q)).trans (congrArg Int.ofNat (Nat.min_eq_left q).symm)) fun q => (Int.min_eq_right (Int.ofNat_le.mpr q)).trans (congrArg Int.ofNat (Nat.min_eq_right q).symm)
theorem A7x {a : Nat} : ¬ a = a + 1 := fun e => Nat.succ_ne_self a e.symm
theorem Abr {a b : Int} (h : ¬ a < b) : b ≤ a := Int.not_lt.mp h
theorem Aau {a b : Int} (h : ¬ a ≤ b) : b < a := Int.not_le.mp h
theorem Xu {a b : Int} (h : b ≤ a) : ¬ a < b := Int.not_lt.mpr h
theorem Abx {p : Prop} {a b : Int} (h : a < b) (h2 : b ≤ a) : p := absurd h (Int.not_lt.mpr h2)
theorem A6s {a : Nat} : ¬ (a : Int) < 0 := Int.not_lt.mpr (Int.natCast_nonneg a)
theorem Abc {a b c : Int} (h : a < b) (h2 : b = c) : a < c := h2 ▸ h
theorem A9u {a b c : Int} (h : a = b) (h2 : b ≤ c) : a ≤ c := h ▸ h2
theorem Aa1 {a b c : Int} (h : a ≤ b) (h2 : b = c) : a ≤ c := h2 ▸ h
theorem A9t {a : Int} {b : Nat} (h0 : 0 ≤ a) (h : a < (b : Int)) : a.toNat < b := (Int.toNat_lt h0).mpr h
theorem Dz {a b c : Nat} (h : a < b) (h2 : b < c) : a < c := Nat.lt_trans h h2
theorem Fl {a b : Nat} (h : a < b) : 0 < b := Nat.lt_of_le_of_lt (Nat.zero_le a) h
theorem Iz {a b : Nat} (h : a ≤ b) (h2 : ¬ b = a) : a < b := Nat.lt_of_le_of_ne h (fun e => h2 e.symm)
theorem No {a b : Nat} (h : a < b + 1) (h2 : ¬ b = a) : a < b := Nat.lt_of_le_of_ne (Nat.le_of_lt_succ h) (fun e => h2 e.symm)
theorem A9z {a b : Nat} (h : a < b + 1) (h2 : ¬ a < b) : a = b := Nat.le_antisymm (Nat.le_of_lt_succ h) (Nat.le_of_not_lt h2)
theorem Abs {a b : Nat} (h : a ≤ b) (h2 : ¬ a < b) : a = b := Nat.le_antisymm h (Nat.le_of_not_lt h2)
theorem A1x {a b c : Nat} (h : a = b) : a + c = b + c := congrArg (· + c) h
theorem Abt {a b : Nat} (h : ¬ a = b) : ¬ a + 1 = b + 1 := fun e => h (Nat.succ.inj e)
theorem Ab1 {a b c : Nat} (h : a ≤ b + c) : a - c ≤ b := Nat.sub_le_of_le_add h
theorem Rp {a b c : Nat} (h0 : 0 < b) (h : a < b + c) : a - c < b := (Nat.le_total c a).elim (fun q => (Nat.sub_lt_iff_lt_add q).mpr (Nat.add_comm b c ▸ h)) fun q => (Nat.sub_eq_zero_of_le q).symm ▸ h0
theorem A5h (a b : Nat) : a + 1 - (b + 1) = a - b := Nat.add_sub_add_right a 1 b
theorem A75 {a b : Nat} (h : b ≤ a) : (a : Int) - (b : Int) = ((a - b : Nat) : Int) := (Int.ofNat_sub h).symm
theorem A2c {a : Nat} (h : 0 < a) : (a : Int) - 1 = ((a - 1 : Nat) : Int) := (Int.ofNat_sub h).symm
theorem A69 (a b : Nat) : min b a + (a - (b + 1)) ≤ a := by
  rcases Nat.le_total a b with q | q
  · rw [Nat.min_eq_right q, Nat.sub_eq_zero_of_le (Nat.le_succ_of_le q)]; exact Nat.le_refl _
  · rw [Nat.min_eq_left q]; exact Nat.le_trans (Nat.add_le_add_left (Nat.sub_le_sub_left (Nat.le_succ b) a) b) (Nat.le_of_eq (Nat.add_sub_of_le q))
theorem A5x (a b : Nat) : a - b + min b a = a := by
  rcases Nat.le_total a b with q | q
  · rw [Nat.min_eq_right q, Nat.sub_eq_zero_of_le q]; exact Nat.zero_add a
  · rw [Nat.min_eq_left q]; exact Nat.sub_add_cancel q
theorem Y3 {a b : Nat} (h : a < b) : b = a + (b - a - 1) + 1 :=
  ((Nat.add_assoc a (b - a - 1) 1).trans ((congrArg (a + ·) (Nat.sub_add_cancel (Nat.sub_pos_of_lt h))).trans (Nat.add_sub_of_le (Nat.le_of_lt h)))).symm
theorem A4o {a b : Int} (h : a < b) : (b - a).toNat = (b - (a + 1)).toNat + 1 := by
  rw [show b - a = b - (a + 1) + 1 by rw [← Int.sub_sub, Int.sub_add_cancel]]
  exact Int.toNat_add (Int.sub_nonneg_of_le h) (by decide)
theorem oM3 {x0 x1 x2 x3 x4 : Nat} (h0 : ¬(x0 = x1 ∧ x2 = x3)) (h1 : ¬(x4 < x0 ∧ x4 < x2 ∧ (x0 < x1 ∨ x0 = x1 ∧ x2 < x3))) : ¬(x4 < x0 ∧ x4 < x2 ∧ (x0 < x1 ∨ x0 = x1 ∧ x2 < x3 + (1 : Nat))) := fun e => h1 ⟨e.1, e.2.1, e.2.2.imp id fun q => ⟨q.1, Gs q.2 fun r => h0 ⟨q.1, r⟩⟩⟩
theorem oM4 {x0 x1 x2 x3 x4 : Nat} (h0 : x0 < x1 ∧ x0 < x2 ∧ (x1 < x3 ∨ x1 = x3 ∧ x2 < x4)) : x0 < x1 ∧ x0 < x2 ∧ (x1 < x3 ∨ x1 = x3 ∧ x2 < x4 + (1 : Nat)) := ⟨h0.1, h0.2.1, h0.2.2.imp id fun q => ⟨q.1, Nat.lt_succ_of_lt q.2⟩⟩
theorem oM5 {x0 x1 x2 x3 : Nat} (h0 : x0 ≤ (16 : Nat)) (h1 : x1 < x0 - x2 + (1 : Nat)) (h2 : x3 < x1) : x2 + x3 < (100 : Nat) := Nat.lt_of_lt_of_le (Nat.add_lt_of_lt_sub' (Nat.lt_of_lt_of_le h2 (Nat.le_of_lt_succ h1))) (Nat.le_trans h0 (by decide))
theorem A91 {x0 x1 : Nat} (h0 : x0 ≠ x1) : min x0 x1 < max x0 x1 := (Nat.lt_or_gt_of_ne h0).elim (fun q => (Nat.min_eq_left (Nat.le_of_lt q)).symm ▸ (Nat.max_eq_right (Nat.le_of_lt q)).symm ▸ q) (fun q => (Nat.min_eq_right (Nat.le_of_lt q)).symm ▸ (Nat.max_eq_left (Nat.le_of_lt q)).symm ▸ q)
theorem Abo {x0 x1 x2 : Nat} (h0 : ¬x0 = x1) (h1 : x0 < x2 + (1 : Nat) ∧ x1 < x2 + (1 : Nat)) : x2 = x2 - (1 : Nat) + (1 : Nat) := (Nat.sub_add_cancel (Nat.pos_of_ne_zero fun e => h0 (by subst e; exact (Nat.lt_one_iff.mp h1.1).trans (Nat.lt_one_iff.mp h1.2).symm))).symm
theorem Abj {x0 x1 x2 : Nat} (h0 : x0 ≤ (16 : Nat)) (h1 : x1 < x0 - x2 + (1 : Nat)) : x1 ≤ (1000 : Nat) := Nat.le_trans (Nat.le_of_lt_succ h1) (Nat.le_trans (Nat.sub_le _ _) (Nat.le_trans h0 (by decide)))
theorem Ac7 {x0 x1 x2 : Nat} (h0 : x0 = x1 + (x2 + (1 : Nat)) + (1 : Nat)) : ¬x1 = x0 - (1 : Nat) := fun e => by subst h0; exact Nat.ne_of_lt (Nat.lt_add_of_pos_right (Nat.succ_pos _)) e
theorem Abk {x0 x1 x2 : Nat} (h0 : x0 = x1 + (x2 + (1 : Nat)) + (1 : Nat)) : x0 - (1 : Nat) ≠ x0 := fun e => by subst h0; exact Nat.ne_of_lt (Nat.lt_succ_self _) e
theorem Abq {x0 x1 x2 x3 : Nat} (h0 : x0 = x1 + (x2 + (1 : Nat)) + (1 : Nat)) (h1 : x0 < x3) : x0 - (1 : Nat) + (1 : Nat) < x3 := h0 ▸ h1
theorem Ac6 {x0 x1 x2 : Nat} (h0 : x0 = x1 + (x2 + (1 : Nat)) + (1 : Nat)) : x0 - (1 : Nat) + (1 : Nat) = x0 := Nat.sub_add_cancel (h0 ▸ Nat.succ_pos _)
theorem Abv {x0 x1 x2 : Nat} (h0 : ¬x0 = x1) (h1 : ¬x0 < x1) (h2 : x2 < x1) : ¬x2 = x0 - (1 : Nat) := fun e => Nat.not_lt_of_le (Nat.le_sub_of_add_le (Iz (oGe h1) h0)) (e ▸ h2)
theorem Ac8 {x0 x1 x2 x3 : Nat} (h0 : x0 + x1 = x2) (h1 : x3 ≤ x1) : x0 + x3 + (x1 - x3) = x2 := (Nat.add_assoc _ _ _).trans ((congrArg (x0 + ·) (Nat.add_sub_of_le h1)).trans h0)
theorem Abw {x0 x1 x2 x3 : Nat} (h0 : x0 ≤ x1) (h1 : x0 = max x2 x3) : min x2 x3 ≤ x1 := Nat.le_trans (Nat.le_trans (Nat.min_le_left _ _) (Nat.le_max_left _ _)) (h1 ▸ h0)
theorem Ac0 {x0 x1 : Int} (h0 : x0 ≤ x1) : x1 = x0 + (↑(x1 - x0).toNat : Int) := ((congrArg (x0 + ·) (Int.toNat_of_nonneg (Int.sub_nonneg_of_le h0))).trans ((Int.add_comm _ _).trans (Int.sub_add_cancel _ _))).symm
theorem Ac2 {x0 x1 x2 : Nat} (h0 : x0 ≤ x1) (h1 : x1 < x2) : x0 ≤ x1 ∧ x1 < x0 + (x2 - x0) := ⟨h0, (Nat.add_sub_of_le (Nat.le_trans h0 (Nat.le_of_lt h1))).symm ▸ h1⟩
theorem Ac9 {x0 x1 x2 x3 : Nat} (h0 : x0 ≤ x1) (h1 : x2 < x1 - x0 + (1 : Nat)) (h2 : x3 = x0 + x2) : x3 ≤ x1 := h2 ▸ Nat.le_trans (Nat.add_le_add_left (Nat.le_of_lt_succ h1) _) (Nat.le_of_eq (Nat.add_sub_of_le h0))
theorem Abg {x0 : Int} (h0 : (-1000 : Int) ≤ x0) (h1 : x0 ≤ (1000 : Int)) : x0.natAbs < (2000 : Nat) := Nat.lt_of_le_of_lt ((Int.natAbs_eq x0).elim (fun q => Int.ofNat_le.mp (Int.le_trans (Int.le_of_eq q.symm) h1)) fun q => Int.ofNat_le.mp (Int.le_of_neg_le_neg (Int.le_trans h0 (Int.le_of_eq q)))) (by decide : 1000 < 2000)
theorem Aac {x0 x1 : Nat} (h0 : x0 < x1 + (1 : Nat)) (h1 : (0 : Nat) < x0) : x0 - (1 : Nat) < x1 := Nat.lt_of_lt_of_le (Nat.sub_lt h1 Nat.one_pos) (Nat.le_of_lt_succ h0)
theorem Abi {x0 x1 x2 : Nat} (h0 : x0 = x1 + x2) : x1 ≤ x0 ∧ x0 < x1 + (x2 + (1 : Nat)) := ⟨h0 ▸ Nat.le_add_right _ _, Nat.lt_succ_of_le (Nat.le_of_eq h0)⟩
theorem Abf {x0 x1 : Nat} (h0 : x0 ≤ (7 : Nat)) (h1 : x0 = x1) : x1 < (64 : Nat) := h1 ▸ Nat.lt_of_le_of_lt h0 (by decide)
theorem Aa3 {x0 x1 x2 : Nat} (h0 : x0 < x1) (h1 : x2 = x1 - (1 : Nat)) : ¬x2 < x0 := h1 ▸ Nat.not_lt_of_le (Nat.le_sub_of_add_le h0)
theorem A9c {x0 x1 x2 : Nat} (h0 : x0 ≤ (7 : Nat)) (h1 : x1 < x0) (h2 : x2 = x1) : x2 < (100 : Nat) := h2 ▸ Nat.lt_of_lt_of_le h1 (Nat.le_trans h0 (by decide))
theorem Aai {x0 x1 x2 x3 : Nat} (h0 : x0 < x1) (h1 : ¬x2 < x1) (h2 : x3 = x2 - (1 : Nat)) : x3 + (1 : Nat) = x2 := h2 ▸ Nat.sub_add_cancel (Fl (Nat.lt_of_lt_of_le h0 (oGe h1)))
theorem A9i {x0 x1 x2 : Nat} (h0 : x0 + (1 : Nat) < x1 + (1 : Nat)) (h1 : x2 < x0) : x0 - (1 : Nat) + (1 : Nat) < x1 := (Nat.sub_add_cancel (Fl h1)).symm ▸ Nat.lt_of_succ_lt_succ h0
theorem Aax {x0 : Int} (h0 : x0 = (-1 : Int)) : -x0 = (1 : Int) := h0 ▸ rfl
theorem A9e {x0 : Int} (h0 : x0 = (1 : Int)) : -x0 = (-1 : Int) := h0 ▸ rfl
theorem Ab5 {x0 x1 x2 x3 : Int}  : x0 + x1 + (x2 + x3) = x0 + x2 + (x1 + x3) := (Int.add_assoc _ _ _).trans ((congrArg (x0 + ·) (Int.add_left_comm _ _ _)).trans (Int.add_assoc _ _ _).symm)
theorem Aaw {x0 x1 : Int} {x2 : Nat} (h0 : x0 = x1 + (↑(x2 + (1 : Nat)) : Int)) : x1 + (1 : Int) ≤ x0 := h0 ▸ Int.add_le_add_left (Qg (Nat.succ_pos _)) _
theorem Aa8 {x0 x1 : Int} (h0 : x0 = x1 + (↑(0 : Nat) : Int)) : (x0 - x1).toNat = (0 : Nat) := h0 ▸ congrArg Int.toNat (Int.sub_eq_zero.mpr (Int.add_zero x1))
theorem Ab7 {x0 x1 : Int}  : x0 + (0 : Int) * x1 = x0 := (congrArg (x0 + ·) (Int.zero_mul _)).trans (Int.add_zero _)
theorem Aah {x0 x1 x2 : Int}  : x0 + (x1 + x2) = (1 : Int) * (x0 + x1) + x2 := (Int.add_assoc _ _ _).symm.trans (congrArg (· + x2) (Int.one_mul _).symm)
theorem A9n {x0 x1 : Int}  : (1 : Int) * x0 + x1 * (0 : Int) = x0 := (congrArg ((1 : Int) * x0 + ·) (Int.mul_zero _)).trans ((Int.add_zero _).trans (Int.one_mul _))
theorem oR0 : ∀ {x0 x1 : Nat}, x0 + (1 : Nat) ≤ (7 : Nat) → x1 = x0 → x1 ≤ (1000 : Nat) := by intros; (first | lia | omega)
theorem oR1 : ∀ {x0 x1 : Nat}, x0 < x1 → (↑x0 : Int) ≤ (↑x1 : Int) - (1 : Int) := by intros; (first | lia | omega)
theorem oR2 : ∀ {x0 x1 : Nat}, x0 + (1 : Nat) ≤ (7 : Nat) → x1 = x0 → x1 < (64 : Nat) := by intros; (first | lia | omega)
theorem oR3 : ∀ {x0 : Nat}, x0 < (64 : Nat) → x0 ≤ (1000 : Nat) := by intros; (first | lia | omega)
theorem oR4 : ∀ {x0 : Nat}, x0 ≤ (7 : Nat) → x0 + (1 : Nat) ≤ (1000 : Nat) := by intros; (first | lia | omega)
theorem oR6 {x0 x1 : Int} {x2 : Nat} (h : x0 = x1 + (↑(x2 + (1 : Nat)) : Int)) : x1 < x0 := h ▸ Int.lt_add_of_pos_right _ (Int.natCast_pos.mpr (Nat.succ_pos _))
theorem Abh : ∀ {x0 x1 x2 x3 x4 : Int}, x0 + x1 + x2 + x3 + x4 = x0 + (x1 + x2 + x3 + x4) := by intros; (first | lia | omega)
theorem Abn : ∀ {x0 x1 : Nat}, x0 ≤ (7 : Nat) → x1 ≤ x0 → x1 < (100 : Nat) := by intros; (first | lia | omega)
theorem Abm : ∀ {x0 x1 : Nat}, x0 ≤ (7 : Nat) → x0 = x1 → x1 ≤ (1000 : Nat) := by intros; (first | lia | omega)
theorem Aaf : ∀ {x0 x1 : Nat}, x0 ≤ (8 : Nat) → x1 < x0 → x1 + (1 : Nat) ≤ (1000 : Nat) := by intros; (first | lia | omega)
theorem Aa6 : ∀ {x0 x1 x2 : Nat}, x0 ≤ x1 → x1 ≤ (16 : Nat) → x2 = x0 → x2 ≤ (100 : Nat) := by intros; (first | lia | omega)
theorem Aar : ∀ {x0 x1 x2 : Nat}, x0 < x1 + (1 : Nat) → x2 = x1 → x0 ≤ x2 := by intros; (first | lia | omega)
theorem Ab9 : ∀ {x0 x1 : Nat}, x0 = x1 → (↑x0 : Int) = (↑(x1 + (1 : Nat)) : Int) - (1 : Int) := by intros; (first | lia | omega)
theorem Aby : ∀ {x0 x1 : Nat}, ¬x0 = x1 → (↑x0 : Int) ≠ (↑(x1 + (1 : Nat)) : Int) - (1 : Int) := by intros; (first | lia | omega)
theorem Ab3 : ∀ {x0 x1 x2 : Nat}, x0 ≤ (16 : Nat) → x1 + (1 : Nat) + x2 = x0 → x1 < (100 : Nat) := by intros; (first | lia | omega)
theorem A9q : ∀ {x0 x1 x2 : Nat}, x0 ≤ (16 : Nat) → x1 < x0 → x2 ≤ x1 → x2 < (100 : Nat) := by intros; (first | lia | omega)
theorem A9m : ∀ {x0 : Nat}, x0 < (100 : Nat) → x0 + (1 : Nat) ≤ (1000 : Nat) := by intros; (first | lia | omega)
theorem Abb : ∀ {x0 x1 : Nat}, x0 + x1 = x1 → x0 = (0 : Nat) := by intros; (first | lia | omega)
theorem Ac3 : ∀ {x0 : Nat}, min (x0 + (2 : Nat)) (2 : Nat) = (2 : Nat) := fun {x0} => Nat.min_eq_right (Nat.le_add_left 2 x0)
theorem Aa7 {a b : Int} (h : 0 < a + b) (h2 : ¬ 0 < a) : 0 < b := Int.lt_of_lt_of_le h (Int.le_trans (Int.add_le_add_right (Int.not_lt.mp h2) b) (Int.le_of_eq (Int.zero_add b)))
theorem Ac4 {lo mid hi f : Nat} (h : hi - lo < f + 1 + 1) (h2 : lo ≤ mid) : hi - (mid + 1) < f + 1 := Nat.lt_of_le_of_lt (Nat.sub_le_sub_right (Nat.sub_le_sub_left h2 hi) 1) (Rp (Nat.succ_pos f) h)
theorem Ac5 {lo mid hi f : Nat} (h : hi - lo < f + 1 + 1) (h2 : mid < hi) : mid - lo < f + 1 := by
  have h1 : mid - lo + 1 ≤ hi - lo ∨ mid - lo = 0 := (Nat.lt_or_ge lo mid).imp (fun q => Nat.sub_lt_sub_right (Nat.le_of_lt q) h2) Nat.sub_eq_zero_of_le
  rcases h1 with h1 | h1
  · exact Nat.lt_of_succ_lt_succ (Nat.lt_of_le_of_lt h1 h)
  · rw [h1]; exact Nat.succ_pos f
theorem oB1 {k : Int} {n N : Nat} (h : n < N) (h2 : -(n : Int) ≤ k) : -(N : Int) ≤ k := Int.le_trans (Int.neg_le_neg (Int.ofNat_le.mpr (Nat.le_of_lt h))) h2
theorem oB2 {k : Int} {n N j : Nat} (h : n < N) (hc : 0 ≤ k ∧ k < (n : Int) ∧ j = k.toNat ∨ k < 0 ∧ -(n : Int) ≤ k ∧ j = (k + (n : Int)).toNat) : -(N : Int) ≤ k ∧ k < (N : Int) :=
  hc.elim (fun q => ⟨Int.le_trans (Int.neg_nonpos_of_nonneg (Int.natCast_nonneg N)) q.1, Int.lt_trans q.2.1 (Int.ofNat_lt.mpr h)⟩) fun q => ⟨oB1 h q.2.1, Int.lt_of_lt_of_le q.1 (Int.natCast_nonneg N)⟩
theorem oB3 {k : Int} {n : Nat} (h : k < 0 ∧ -(n : Int) ≤ k) : 0 ≤ k + (n : Int) ∧ k + (n : Int) < (n : Int) :=
  ⟨Int.le_trans (Int.le_of_eq (Int.add_left_neg (n : Int)).symm) (Int.add_le_add_right h.2 n), Int.lt_of_lt_of_le (Int.add_lt_add_right h.1 n) (Int.le_of_eq (Int.zero_add _))⟩
theorem oAb {i : Int} {n : Nat} (h : i.natAbs < n) : -(n : Int) < i ∧ i < (n : Int) :=
  ⟨Int.neg_lt_of_neg_lt (Int.lt_of_le_of_lt Int.le_natAbs (Int.ofNat_lt.mpr ((Int.natAbs_neg i).symm ▸ h))), Int.lt_of_le_of_lt Int.le_natAbs (Int.ofNat_lt.mpr h)⟩
theorem oNA {i : Int} {n : Nat} (h0 : 0 ≤ i) (h : i < (n : Int)) : i.natAbs < n := Int.ofNat_lt.mp (Int.lt_of_le_of_lt (Int.le_of_eq (Int.natAbs_of_nonneg h0)) h)
theorem oPk (x : Int) : x - 1 - -1 - -1 - 1 = x := by rw [Int.sub_neg, Int.sub_neg, Int.sub_add_cancel, Int.add_sub_cancel]
theorem Abe {n i : Nat} (h : i < n) : ((n : Int) - 1 + -1 * (i : Int)).toNat = n - 1 - i := by
  rw [Int.neg_mul, Int.one_mul, ← Int.sub_eq_add_neg, A2c (Fl h)]; exact Int.toNat_sub _ _
theorem oC0 {c : Int} {N : Nat} (h : c ≤ (N : Int)) : (c - 0).toNat ≤ N := Int.toNat_le.mpr (Int.le_trans (Int.le_of_eq (Int.sub_zero c)) h)
theorem A11 {a : Int} {n N : Nat} (h : a < (n : Int)) (hn : n < N) : a < (N : Int) := Int.lt_trans h (Int.ofNat_lt.mpr hn)
theorem Aae {a b : Nat} : max a b = 0 → a = 0 ∧ b = 0 := fun h => ⟨Nat.eq_zero_of_le_zero (h ▸ Nat.le_max_left a b), Nat.eq_zero_of_le_zero (h ▸ Nat.le_max_right a b)⟩
end Mine
namespace Mine
open PySem
inductive AV where
  | none
  | bool (b : Bool)
  | int (i : Int)
  | str (s : Str)
  | tup (vs : List AV)
  | ref (n : Nat)
  | scr
  | fn (k : Nat)
  | exc (c : Nat)
inductive Br where
  | list (xs : List AV)
  | dict
abbrev A0 := List Br
noncomputable def G2 (H : A0) (r : Nat) (xs : List AV) : Bool := match H[r]? with
  | some (.list ys) => @decide (ys = xs) (Classical.propDecidable _)
  | _ => false
inductive Res (α : Type) where
  | ok (a : α) (H : A0)
  | exc (c : Nat) (H : A0)
  | bad
noncomputable def Res.thn {α β : Type} (r : Res α) (f : α → A0 → Res β) : Res β := match r with
  | .ok a H => f a H
  | .exc c H => .exc c H
  | .bad => .bad
noncomputable def Res.get {α β : Type} (r : Res α) (f : α → A0 → Res β) : Res β := match r with
  | .ok a H => f a H
  | _ => .bad
abbrev A8 := List (Option AV)
inductive SR where
  | next (ρ : A8) (H : A0)
  | ret (v : AV) (H : A0)
  | exc (c : Nat) (H : A0)
  | bad
set_option genInjectivity false
inductive D6 where
  | len | list | listRange | tuple | sorted | sortedSet | min2 | max2 | min1 | max1 | all | int | sortedP
  | isInt | isBool | isList | isTuple | isExc (c : Nat) | isValueError
mutual
inductive PE where
  | none | bool (b : Bool) | int (i : Int) | str (s : Str)
  | var (i : Nat)
  | gfn (k : Nat)
  | gint (k : Nat) (i : Int)
  | bin (op : Operator) (a b : PE)
  | neg (a : PE)
  | not (a : PE)
  | cmp (op : CmpOp) (a b : PE)
  | cmp2 (o1 o2 : CmpOp) (a b c : PE)
  | and (es : PEs) | or (es : PEs)
  | ite (c a b : PE)
  | call (k : Nat) (es : PEs)
  | callv (f : PE) (es : PEs)
  | prim (p : D6) (es : PEs)
  | idx (a i : PE)
  | slice (a : PE) (lo hi : PEo)
  | rev (a : PE)
  | list (es : PEs) | tuple (es : PEs) | dict
  | comp1 (elt : PE) (it : It) (cond : PEo)
  | comp2 (elt : PE) (it : It)
  | append (a e : PE)
  | count (a e : PE)
  | index (a e : PE)
  | sset (a : PE)
inductive PEs where
  | nil | cons (e : PE) (es : PEs)
inductive PEo where
  | none | some (e : PE)
inductive It where
  | of (e : PE)
  | range1 (n : PE)
  | range2 (a b : PE)
end
mutual
inductive PS where
  | assign (i : Nat) (e : PE)
  | assigns (is : List Nat) (e : PE)
  | setIdx (a i e : PE)
  | ite (c : PE) (t e : PSs)
  | for1 (i : Nat) (it : It) (body : PSs)
  | for2 (i j : Nat) (it : It) (body : PSs)
  | whl (c : PE) (body : PSs)
  | ret (e : PE)
  | expr (e : PE)
  | raise (c : Nat) (msg : Str)
  | tryRet (e : PE) (c : Nat) (i : Option Nat) (h : PSs)
inductive PSs where
  | nil | any | cons (s : PS) (ss : PSs)
end
noncomputable def R6 : PE → Bool
  | .callv .. => true
  | _ => false
noncomputable def Kd : PE → Bool
  | .call .. => true
  | .callv .. => true
  | .list es => (match es with
    | .cons e r => R6 e && (match r with | .nil => true | _ => false)
    | _ => false)
  | _ => false
noncomputable def Gm (r : SR) : SR := match r with
  | .ret v H => .ret v H
  | _ => .bad
noncomputable def Rv (t : Bool) (c : Nat) (H : A0) : SR := if t then .exc c H else .bad
structure FnI where
  np : Nat
  nv : Nat
  body : PSs
noncomputable def lim : Nat := 2 ^ 20
noncomputable def big : Nat := 2 ^ 5000
noncomputable def K2 (i : Int) : Bool := decide (i.natAbs < 2 ^ 60)
noncomputable def E0 (a b : Int) : Bool := K2 a || K2 b || (decide (a.natAbs < big) && decide (b.natAbs < big))
noncomputable def Aw (xs : List AV) (H : A0) : Res AV := if xs.length ≤ lim then .ok (.ref H.length) (H ++ [.list xs]) else .bad
noncomputable def O7 (vs : List AV) (H : A0) : Res AV := if vs.length ≤ lim then .ok (.tup vs) H else .bad
noncomputable def Cn : AV → Option Int
  | .int i => some i
  | _ => none
noncomputable def Ut : AV → Option Str
  | .str i => some i
  | _ => none
noncomputable def Aca : AV → Option Nat
  | .ref r => some r
  | _ => none
noncomputable def A1s : Br → Option (List AV)
  | .list xs => some xs
  | .dict => none
noncomputable def D5 {α : Type} (no : α) (x y : AV) (f : Int → Int → α) : α := ((Cn x).bind fun a => (Cn y).map fun b => f a b).getD no
noncomputable def Fj (H : A0) (x : AV) : Option (List AV) := (Aca x).bind fun r => (H[r]?).bind A1s
noncomputable def Rm (x y : AV) (H : A0) : Res AV := ((Fj H x).bind fun xs => (Fj H y).map fun ys => Aw (xs ++ ys) H).getD .bad
noncomputable def Bc (op : Operator) (x y : AV) (H : A0) : Res AV := match op with
  | .Add => if (Cn x).isSome then D5 .bad x y fun a b => .ok (.int (a + b)) H else Rm x y H
  | .Sub => D5 .bad x y fun a b => .ok (.int (a - b)) H
  | .Mult => if (Cn x).isSome then D5 .bad x y fun a b => if E0 a b then .ok (.int (a * b)) H else .bad else .bad
  | .FloorDiv => D5 .bad x y fun a b => if b ≠ 0 ∧ b.natAbs < big then .ok (.int (a.fdiv b)) H else .bad
  | .Mod => D5 .bad x y fun a b => if b ≠ 0 then .ok (.int (a.fmod b)) H else .bad
  | .Pow => D5 .bad x y fun a b => if 0 ≤ b ∧ b ≤ 64 ∧ K2 a then .ok (.int (a ^ b.toNat)) H else .bad
  | _ => .bad
noncomputable def Xq : AV → Option Bool
  | .bool i => some i
  | _ => none
noncomputable def Bh : List AV → Option (List Int)
  | [] => some []
  | x :: r => (Cn x).bind fun i => (Bh r).map (i :: ·)
noncomputable def Bg : List AV → Option (List Bool)
  | [] => some []
  | x :: r => (Xq x).bind fun i => (Bg r).map (i :: ·)
noncomputable def A0t : AV → Option PyData
  | .none => some .none
  | .bool b => some (.bool b)
  | .int i => some (.int i)
  | .str s => if PyData.strOk s then some (.str s) else none
  | _ => none
noncomputable def rd (H : A0) : Nat → AV → Option PyData
  | 0, v => A0t v
  | n + 1, v => (match v with
    | .tup vs => (vs.mapM (rd H n)).map .tuple
    | .ref r => (match H[r]? with
      | some (.list xs) => (xs.mapM (rd H n)).map .list
      | _ => none)
    | v => A0t v)
noncomputable def Gv (x y : AV) (H : A0) : Option Bool := match rd H 8 x, rd H 8 y with
  | some d, some e => some (PyData.eqv d e)
  | _, _ => none
noncomputable def R2 : AV → Option Bool
  | .none => some true
  | .int _ => some false
  | .bool _ => some false
  | .ref _ => some false
  | _ => none
noncomputable def My (x y : AV) (H : A0) : Option Bool := match x, y with
  | .int i, .ref r => (match H[r]? with
      | some (.list xs) => (Bh xs).map fun is => decide (i ∈ is)
      | _ => none)
  | _, _ => none
noncomputable def eqV (x y : AV) (H : A0) : Option Bool := if (Cn x).isSome ∧ (Cn y).isSome then D5 none x y fun a b => some (a == b) else if (Ut x).isSome ∧ (Ut y).isSome then (Ut x).bind fun a => (Ut y).map fun b => a.cps.toList == b.cps.toList else Gv x y H
noncomputable def neV (x y : AV) (H : A0) : Option Bool := if (Cn x).isSome ∧ (Cn y).isSome then D5 none x y fun a b => some (!(a == b)) else (Gv x y H).map (!·)
noncomputable def ltL : List Int → List Int → Bool
  | [], [] => false
  | [], _ :: _ => true
  | _ :: _, [] => false
  | x :: xs, y :: ys => if x = y then ltL xs ys else decide (x < y)
noncomputable def A1r (x y : AV) (H : A0) : Option Bool := ((Fj H x).bind Bh).bind fun is => ((Fj H y).bind Bh).map fun js => ltL is js
noncomputable def B5 (op : CmpOp) (x y : AV) (H : A0) : Option Bool := match op with
  | .Lt => if (Cn x).isSome then D5 none x y fun a b => some (decide (a < b)) else A1r x y H
  | .LtE => D5 none x y fun a b => some (decide (a ≤ b))
  | .Gt => D5 none x y fun a b => some (decide (b < a))
  | .Eq => eqV x y H
  | .NotEq => neV x y H
  | .In => My x y H
  | .NotIn => (My x y H).map (!·)
  | .Is => (match y with | .none => R2 x | _ => none)
  | _ => none
noncomputable def Ce (x : Int) : List Int → List Int
  | [] => [x]
  | y :: r => if x ≤ y then x :: y :: r else y :: Ce x r
noncomputable def Ch : List Int → List Int
  | [] => []
  | x :: r => Ce x (Ch r)
noncomputable def B9 : List Int → List Int
  | [] => []
  | x :: r => match B9 r with
    | [] => [x]
    | y :: r' => if x = y then y :: r' else x :: y :: r'
noncomputable def Af (v : AV) (H : A0) : Option (List AV) := match v with
  | .tup vs => some vs
  | .ref r => (match H[r]? with
      | some (.list xs) => some xs
      | _ => none)
  | _ => none
noncomputable def inR (i : Int) : Bool := decide (-1000 ≤ i ∧ i ≤ 1000)
noncomputable def B4 (a b : Int) : List AV := (List.range (b - a).toNat).map fun (k : Nat) => AV.int (a + (k : Int))
noncomputable def at? (n : Nat) (i : Int) : Option Nat := if 0 ≤ i ∧ i < n then some i.toNat else if i < 0 ∧ -(n : Int) ≤ i then some (i + n).toNat else none
noncomputable def Cl (sc : List Int) (v w : AV) (H : A0) : Res AV := match w with
  | .int k => (match v with
    | .scr => if 0 ≤ k ∧ k < sc.length then .ok (.int (sc.getD k.toNat 0)) H else .bad
    | v => (match Af v H with
      | some xs => (match at? xs.length k with
        | some j => (match xs[j]? with | some x => .ok x H | none => .bad)
        | none => .bad)
      | none => .bad))
  | _ => .bad
noncomputable def cutAt (n : Nat) (i : Int) : Nat := (max 0 (min (if i < 0 then i + n else i) n)).toNat
noncomputable def cut (xs : List AV) (lo hi : Option Int) : List AV :=
  let a := match lo with | some i => cutAt xs.length i | none => 0
  let b := match hi with | some i => cutAt xs.length i | none => xs.length
  (xs.take b).drop a
noncomputable def Fs (o : Option Bool) (H : A0) : Res AV := match o with
  | some t => .ok (.bool t) H
  | none => .bad
noncomputable def Od : AV → Option Bool
  | .int _ => some true
  | .bool _ => some true
  | .none => some false
  | .str _ => some false
  | .tup _ => some false
  | .ref _ => some false
  | _ => none
noncomputable def Lz : AV → Option Bool
  | .int _ => some false
  | .bool _ => some true
  | .none => some false
  | .str _ => some false
  | .tup _ => some false
  | .ref _ => some false
  | _ => none
noncomputable def Kk : AV → Option Bool
  | .int _ => some false
  | .bool _ => some false
  | .none => some false
  | .str _ => some false
  | .tup _ => some true
  | .ref _ => some false
  | _ => none
noncomputable def Ez (v : AV) (H : A0) : Option Bool := match v with
  | .int _ => some false
  | .bool _ => some false
  | .none => some false
  | .str _ => some false
  | .tup _ => some false
  | .ref r => (match H[r]? with
    | some (.list _) => some true
    | some .dict => some false
    | none => none)
  | _ => none
noncomputable def Mz : AV → Option (Int × Int)
  | .tup vs => (match vs with
    | [x, y] => (Cn x).bind fun i => (Cn y).map fun j => (i, j)
    | _ => none)
  | _ => none
noncomputable def A9x (p : Int × Int) : AV := .tup [.int p.1, .int p.2]
noncomputable def Wl : List AV → Option (List (Int × Int))
  | [] => some []
  | x :: r => (Mz x).bind fun p => (Wl r).map (p :: ·)
abbrev Bi := List (Int × Int) → Option (List (Int × Int))
variable (strF : Bi)
noncomputable def A7i (sc : List Int) (p : D6) (v : AV) (H : A0) : Res AV := match p with
  | .len => (match v with
    | .scr => .ok (.int sc.length) H
    | v => (match Af v H with | some xs => .ok (.int xs.length) H | none => .bad))
  | .list => (match Af v H with | some xs => Aw xs H | none => .bad)
  | .listRange => (match v with
    | .int n => if inR n then Aw (B4 0 n) H else .bad
    | _ => .bad)
  | .tuple => (match Af v H with | some xs => .ok (.tup xs) H | none => .bad)
  | .sorted => (match v with
    | .ref r => (match H[r]? with
      | some (.list xs) => if xs.length < 64 then (match Bh xs with
          | some is => Aw ((Ch is).map .int) H
          | none => .bad) else .bad
      | _ => .bad)
    | _ => .bad)
  | .sortedSet => (match v with
    | .ref r => (match H[r]? with
      | some (.list xs) => if xs.length < 64 then (match Bh xs with
          | some is => Aw ((B9 (Ch is)).map .int) H
          | none => .bad) else .bad
      | _ => .bad)
    | _ => .bad)
  | .min1 => (match Mz v with | some p => .ok (.int (min p.1 p.2)) H | none => .bad)
  | .max1 => (match Mz v with
      | some p => .ok (.int (max p.1 p.2)) H
      | none => (match v with
        | .ref r => (match H[r]? with
          | some (.list xs) => (match Bh xs with
              | some (i :: is) => .ok (.int (is.foldl max i)) H
              | _ => .bad)
          | _ => .bad)
        | _ => .bad))
  | .all => (match v with
    | .ref r => (match H[r]? with
      | some (.list xs) => (match Bg xs with
          | some bs => .ok (.bool (bs.all id)) H
          | none => .bad)
      | _ => .bad)
    | _ => .bad)
  | .int => (match v with | .bool b => .ok (.int (if b then 1 else 0)) H | _ => .bad)
  | .sortedP => (((Fj H v).bind Wl).bind fun ps => (strF ps).map fun qs => if ps.length < 64 then Aw (qs.map A9x) H else .bad).getD .bad
  | .isInt => Fs (Od v) H
  | .isBool => Fs (Lz v) H
  | .isList => Fs (Ez v H) H
  | .isTuple => Fs (Kk v) H
  | .isExc c => (match v with | .exc d => .ok (.bool (decide (d = c) || decide (c = 0))) H | _ => .bad)
  | .isValueError => (match v with | .exc _ => .ok (.bool true) H | _ => .bad)
  | _ => .bad
noncomputable def A7r (p : D6) (v w : AV) (H : A0) : Res AV := match p with
  | .min2 => D5 .bad v w fun a b => .ok (.int (min a b)) H
  | .max2 => D5 .bad v w fun a b => .ok (.int (max a b)) H
  | _ => .bad
noncomputable def prim (sc : List Int) (p : D6) (vs : List AV) (H : A0) : Res AV := match vs with
  | [] => .bad
  | x :: r => (match r with
    | [] => A7i strF sc p x H
    | y :: r => (match r with
      | [] => A7r p x y H
      | _ :: _ => .bad))
noncomputable def Ej (ws : List (Nat × List AV)) (step : AV → A8 → A0 → SR) : List AV → A8 → A0 → SR
  | [], ρ, H => .next ρ H
  | v :: vs, ρ, H => match step v ρ H with
    | .next ρ' H' => if ws.all (fun w => G2 H' w.1 w.2) then Ej ws step vs ρ' H' else .bad
    | r => r
noncomputable def Wz (o : Option AV) (r : List AV) : List AV := match o with
  | some x => x :: r
  | none => r
noncomputable def Bp (ws : List (Nat × List AV)) (step : AV → A0 → Res (Option AV)) : List AV → A0 → Res (List AV)
  | [], H => .ok [] H
  | v :: vs, H => (step v H).get fun o H' => if ws.all (fun w => G2 H' w.1 w.2) then (Bp ws step vs H').get fun r H'' => .ok (Wz o r) H'' else .bad
noncomputable def Gc (test : A8 → A0 → Res Bool) (body : A8 → A0 → SR) : Nat → A8 → A0 → SR
  | 0, _, _ => .bad
  | n + 1, ρ, H => match test ρ H with
    | .ok false H' => .next ρ H'
    | .ok true H' => (match body ρ H' with
      | .next ρ' H'' => Gc test body n ρ' H''
      | r => r)
    | _ => .bad
noncomputable def Gr (b : Nat) (v k x : AV) (H : A0) : Res Unit := match v, k with
  | .ref r, .int k => (match H[r]? with
    | some (.list xs) => if b ≤ r ∧ 0 ≤ k ∧ k < xs.length then .ok () (H.set r (.list (xs.set k.toNat x))) else .bad
    | _ => .bad)
  | _, _ => .bad
noncomputable def Mr (f : AV → AV → SR) (v : AV) : SR := match v with
  | .tup [x, y] => f x y
  | _ => .bad
noncomputable def Hd (f : AV → AV → Res (Option AV)) (v : AV) : Res (Option AV) := match v with
  | .tup [x, y] => f x y
  | _ => .bad
noncomputable def isL (v : AV) (H : A0) : Bool := match v with
  | .ref r => (match H[r]? with
    | some (.list _) => true
    | _ => false)
  | _ => false
noncomputable def Cp (b : Nat) (v w : AV) (H : A0) : Res AV := match v with
  | .ref r => (match H[r]? with
    | some (.list xs) => if b ≤ r ∧ xs.length < lim then .ok .none (H.set r (.list (xs ++ [w]))) else .bad
    | _ => .bad)
  | _ => .bad
noncomputable def Y6 (v w : AV) (H : A0) : Res AV := match w with
  | .bool t => (match v with
    | .ref r => (match H[r]? with
      | some (.list xs) => (match Bg xs with
        | some bs => .ok (.int (bs.countP (· == t) : Nat)) H
        | none => .bad)
      | _ => .bad)
    | _ => .bad)
  | _ => .bad
noncomputable def Xr (v w : AV) (H : A0) : Res AV := match w with
  | .bool t => (match v with
    | .ref r => (match H[r]? with
      | some (.list xs) => (match Bg xs with
        | some bs => (match bs.findIdx? (· == t) with
          | some k => .ok (.int k) H
          | none => .bad)
        | none => .bad)
      | _ => .bad)
    | _ => .bad)
  | _ => .bad
section
variable (cf : Nat → List AV → A0 → Res AV) (sc : List Int) (b : Nat)
mutual
noncomputable def Aa : PE → A8 → A0 → Res AV
  | .none, _, H => .ok .none H
  | .bool v, _, H => .ok (.bool v) H
  | .int i, _, H => .ok (.int i) H
  | .str s, _, H => .ok (.str s) H
  | .var i, ρ, H => (match ρ[i]? with | some (some v) => .ok v H | _ => .bad)
  | .gfn k, _, H => .ok (.fn k) H
  | .gint _ i, _, H => .ok (.int i) H
  | .bin op x y, ρ, H => (Aa x ρ H).get fun v H => (Aa y ρ H).get fun w H => Bc op v w H
  | .neg x, ρ, H => (Aa x ρ H).get fun v H => (match v with | .int i => .ok (.int (-i)) H | _ => .bad)
  | .not x, ρ, H => (Aa x ρ H).get fun v H => (match v with | .bool t => .ok (.bool (!t)) H | _ => .bad)
  | .cmp op x y, ρ, H => (Aa x ρ H).get fun v H => (Aa y ρ H).get fun w H => (match B5 op v w H with | some r => .ok (.bool r) H | none => .bad)
  | .cmp2 o1 o2 x y z, ρ, H => (Aa x ρ H).get fun v H => (Aa y ρ H).get fun w H => (match B5 o1 v w H with
      | some true => (Aa z ρ H).get fun u H => (match B5 o2 w u H with | some r => .ok (.bool r) H | none => .bad)
      | some false => .ok (.bool false) H
      | none => .bad)
  | .and es, ρ, H => En es ρ H
  | .or es, ρ, H => W3 es ρ H
  | .ite c x y, ρ, H => (Bo c ρ H).get fun t H => if t then Aa x ρ H else Aa y ρ H
  | .call k es, ρ, H => (Bj es ρ H).get fun vs H => cf k vs H
  | .callv f es, ρ, H => (Aa f ρ H).get fun v H => (Bj es ρ H).get fun vs H => (match v with | .fn k => cf k vs H | _ => .bad)
  | .prim p es, ρ, H => (Bj es ρ H).get fun vs H => prim strF sc p vs H
  | .idx a i, ρ, H => (Aa a ρ H).get fun v H => (Aa i ρ H).get fun w H => Cl sc v w H
  | .slice a lo hi, ρ, H => (Aa a ρ H).get fun v H => (Lw lo ρ H).get fun l H => (Lw hi ρ H).get fun h H => (match v with
      | .ref r => (match H[r]? with
        | some (.list xs) => Aw (cut xs l h) H
        | _ => .bad)
      | _ => .bad)
  | .rev a, ρ, H => (Aa a ρ H).get fun v H => (match v with
      | .ref r => (match H[r]? with
        | some (.list xs) => Aw xs.reverse H
        | _ => .bad)
      | _ => .bad)
  | .list es, ρ, H => (Bj es ρ H).thn fun vs H => Aw vs H
  | .tuple es, ρ, H => (Bj es ρ H).get fun vs H => O7 vs H
  | .dict, _, H => .ok (.ref H.length) (H ++ [.dict])
  | .comp1 e it c, ρ, H => (Dv it ρ H).get fun p H => (Bp p.2 (fun v H => (Tn c (some v :: ρ) H).get fun t H => if t then (Aa e (some v :: ρ) H).get fun x H => .ok (some x) H else .ok none H) p.1 H).get fun vs H => Aw vs H
  | .comp2 e it, ρ, H => (Dv it ρ H).get fun p H => (Bp p.2 (fun v H => Hd (fun x y => (Aa e (some x :: some y :: ρ) H).get fun x H => .ok (some x) H) v) p.1 H).get fun vs H => Aw vs H
  | .append a e, ρ, H => (Aa a ρ H).get fun v H => if isL v H then (Aa e ρ H).get fun w H => Cp b v w H else .bad
  | .count a e, ρ, H => (Aa a ρ H).get fun v H => if isL v H then (Aa e ρ H).get fun w H => Y6 v w H else .bad
  | .index a e, ρ, H => (Aa a ρ H).get fun v H => if isL v H then (Aa e ρ H).get fun w H => Xr v w H else .bad
  | .sset a, ρ, H => (Aa a ρ H).get fun v H => prim strF sc .sortedSet [v] H
noncomputable def Bo : PE → A8 → A0 → Res Bool
  | .not x, ρ, H => (Bo x ρ H).get fun v H => .ok (!v) H
  | .cmp op x y, ρ, H => (Aa x ρ H).get fun v H => (Aa y ρ H).get fun w H => (match B5 op v w H with | some r => .ok r H | none => .bad)
  | .and es, ρ, H => D9 es ρ H
  | .or es, ρ, H => Ek es ρ H
  | .var i, ρ, H => (match ρ[i]? with | some (some (.bool v)) => .ok v H | _ => .bad)
  | .call k es, ρ, H => (Bj es ρ H).get fun vs H => (cf k vs H).get fun v H => (match v with | .bool t => .ok t H | _ => .bad)
  | .prim p es, ρ, H => (Bj es ρ H).get fun vs H => (prim strF sc p vs H).get fun v H => (match v with | .bool t => .ok t H | _ => .bad)
  | _, _, _ => .bad
noncomputable def En : PEs → A8 → A0 → Res AV
  | .nil, _, _ => .bad
  | .cons e .nil, ρ, H => Aa e ρ H
  | .cons e es, ρ, H => (Aa e ρ H).get fun v H => (match v with
      | .bool false => .ok (.bool false) H
      | .bool true => En es ρ H
      | _ => .bad)
noncomputable def W3 : PEs → A8 → A0 → Res AV
  | .nil, _, _ => .bad
  | .cons e .nil, ρ, H => Aa e ρ H
  | .cons e es, ρ, H => (Aa e ρ H).get fun v H => (match v with
      | .bool true => .ok (.bool true) H
      | .bool false => W3 es ρ H
      | _ => .bad)
noncomputable def D9 : PEs → A8 → A0 → Res Bool
  | .nil, _, H => .ok true H
  | .cons e es, ρ, H => (Bo e ρ H).get fun v H => if v then D9 es ρ H else .ok false H
noncomputable def Ek : PEs → A8 → A0 → Res Bool
  | .nil, _, H => .ok false H
  | .cons e es, ρ, H => (Bo e ρ H).get fun v H => if v then .ok true H else Ek es ρ H
noncomputable def Bj : PEs → A8 → A0 → Res (List AV)
  | .nil, _, H => .ok [] H
  | .cons e es, ρ, H => (Aa e ρ H).thn fun v H => (Bj es ρ H).thn fun vs H => .ok (v :: vs) H
noncomputable def Lw : PEo → A8 → A0 → Res (Option Int)
  | .none, _, H => .ok none H
  | .some e, ρ, H => (Aa e ρ H).get fun v H => (match v with | .int i => .ok (some i) H | _ => .bad)
noncomputable def Tn : PEo → A8 → A0 → Res Bool
  | .none, _, H => .ok true H
  | .some e, ρ, H => Bo e ρ H
noncomputable def Dv : It → A8 → A0 → Res (List AV × List (Nat × List AV))
  | .of e, ρ, H => (Aa e ρ H).get fun v H => (match v with
      | .ref r => (match H[r]? with | some (.list xs) => .ok (xs, [(r, xs)]) H | _ => .bad)
      | _ => .bad)
  | .range1 n, ρ, H => (Aa n ρ H).get fun v H => (match v with | .int k => if inR k then .ok (B4 0 k, []) H else .bad | _ => .bad)
  | .range2 x y, ρ, H => (Aa x ρ H).get fun v H => (Aa y ρ H).get fun w H => (match v, w with | .int j, .int k => if inR j ∧ inR k then .ok (B4 j k, []) H else .bad | _, _ => .bad)
end
noncomputable def E7 : List Nat → List AV → A8 → Option A8
  | [], [], ρ => some ρ
  | i :: is, v :: vs, ρ => E7 is vs (ρ.set i (some v))
  | _, _, _ => none
mutual
noncomputable def Et : PS → A8 → A0 → SR
  | .assign i e, ρ, H => (match Aa strF cf sc b e ρ H with | .ok v H => .next (ρ.set i (some v)) H | _ => .bad)
  | .assigns is e, ρ, H => (match Aa strF cf sc b e ρ H with
      | .ok v H => (match v with
        | .tup vs => (match E7 is vs ρ with | some ρ' => .next ρ' H | none => .bad)
        | _ => .bad)
      | _ => .bad)
  | .setIdx a i e, ρ, H => (match (Aa strF cf sc b e ρ H).get fun x H => (Aa strF cf sc b a ρ H).get fun v H => (Aa strF cf sc b i ρ H).get fun k H => Gr b v k x H with
      | .ok _ H => .next ρ H
      | _ => .bad)
  | .ite c t e, ρ, H => (match Bo strF cf sc b c ρ H with
      | .ok true H => Ai t ρ H
      | .ok false H => Ai e ρ H
      | _ => .bad)
  | .for1 i it body, ρ, H => (match Dv strF cf sc b it ρ H with
      | .ok p H => Ej p.2 (fun v ρ H => Ai body (ρ.set i (some v)) H) p.1 ρ H
      | _ => .bad)
  | .for2 i j it body, ρ, H => (match Dv strF cf sc b it ρ H with
      | .ok p H => Ej p.2 (fun v ρ H => Mr (fun x y => Ai body ((ρ.set i (some x)).set j (some y)) H) v) p.1 ρ H
      | _ => .bad)
  | .whl c body, ρ, H => Gc (Bo strF cf sc b c) (Ai body) 100 ρ H
  | .ret e, ρ, H => (match Aa strF cf sc b e ρ H with | .ok v H => .ret v H | .exc c H => Rv (Kd e) c H | .bad => .bad)
  | .expr e, ρ, H => (match Aa strF cf sc b e ρ H with | .ok _ H => .next ρ H | .exc c H => Rv (Kd e) c H | .bad => .bad)
  | .raise c _, _, H => .exc c H
  | .tryRet e c i h, ρ, H => (match Aa strF cf sc b e ρ H with
      | .ok v H => .ret v H
      | .exc d H => if Kd e = true ∧ (d = c ∨ c = 0) then (match i with
        | some j => Gm (Ai h (ρ.set j (some (.exc d))) H)
        | none => Gm (Ai h ρ H)) else .bad
      | .bad => .bad)
noncomputable def Ai : PSs → A8 → A0 → SR
  | .nil, ρ, H => .next ρ H
  | .any, _, _ => .bad
  | .cons s ss, ρ, H => (match Et s ρ H with
      | .next ρ H => Ai ss ρ H
      | r => r)
end
end
noncomputable def Al (P : Nat → Option FnI) (sc : List Int) : Nat → Nat → List AV → A0 → Res AV
  | 0, _, _, _ => .bad
  | n + 1, k, args, H => match P k with
    | none => .bad
    | some f => if args.length = f.np then (match Ai strF (Al P sc n) sc H.length f.body (args.map some ++ List.replicate (f.nv - f.np) none) H with
      | .next _ H' => .ok .none H'
      | .ret v H' => .ok v H'
      | .exc c H' => .exc c H'
      | .bad => .bad) else .bad
end Mine
set_option genInjectivity false
namespace Mine
open PySem
section
variable {strF : Bi} {cf : Nat → List AV → A0 → Res AV} {sc : List Int} {b : Nat} {ρ : A8} {H : A0} {x y z : PE} {es : PEs}
theorem Wf : Aa strF cf sc b .none ρ H = .ok .none H := rfl
theorem Xw {v : Bool} : Aa strF cf sc b (.bool v) ρ H = .ok (.bool v) H := rfl
theorem A10 {i : Int} : Aa strF cf sc b (.int i) ρ H = .ok (.int i) H := rfl
theorem A13 {i : Nat} : Aa strF cf sc b (.var i) ρ H = (match ρ[i]? with | some (some v) => .ok v H | _ => .bad) := rfl
theorem Wx {k : Nat} {i : Int} : Aa strF cf sc b (.gint k i) ρ H = .ok (.int i) H := rfl
theorem A0c {op : Operator} : Aa strF cf sc b (.bin op x y) ρ H = (Aa strF cf sc b x ρ H).get fun v H => (Aa strF cf sc b y ρ H).get fun w H => Bc op v w H := rfl
theorem A1b : Aa strF cf sc b (.neg x) ρ H = (Aa strF cf sc b x ρ H).get fun v H => (match v with | .int i => .ok (.int (-i)) H | _ => .bad) := rfl
theorem A4d : Aa strF cf sc b (.not x) ρ H = (Aa strF cf sc b x ρ H).get fun v H => (match v with | .bool t => .ok (.bool (!t)) H | _ => .bad) := rfl
theorem A04 {op : CmpOp} : Aa strF cf sc b (.cmp op x y) ρ H = (Aa strF cf sc b x ρ H).get fun v H => (Aa strF cf sc b y ρ H).get fun w H => (match B5 op v w H with | some r => .ok (.bool r) H | none => .bad) := rfl
theorem M5 {o1 o2 : CmpOp} : Aa strF cf sc b (.cmp2 o1 o2 x y z) ρ H = (Aa strF cf sc b x ρ H).get fun v H => (Aa strF cf sc b y ρ H).get fun w H => (match B5 o1 v w H with
      | some true => (Aa strF cf sc b z ρ H).get fun u H => (match B5 o2 w u H with | some r => .ok (.bool r) H | none => .bad)
      | some false => .ok (.bool false) H
      | none => .bad) := rfl
theorem A35 : Aa strF cf sc b (.and es) ρ H = En strF cf sc b es ρ H := rfl
theorem A7j : Aa strF cf sc b (.or es) ρ H = W3 strF cf sc b es ρ H := rfl
theorem Rf : Aa strF cf sc b (.ite x y z) ρ H = (Bo strF cf sc b x ρ H).get fun t H => if t then Aa strF cf sc b y ρ H else Aa strF cf sc b z ρ H := rfl
theorem M4 {k : Nat} : Aa strF cf sc b (.call k es) ρ H = (Bj strF cf sc b es ρ H).get fun vs H => cf k vs H := rfl
theorem Nz : Aa strF cf sc b (.callv x es) ρ H = (Aa strF cf sc b x ρ H).get fun v H => (Bj strF cf sc b es ρ H).get fun vs H => (match v with | .fn k => cf k vs H | _ => .bad) := rfl
theorem Qh {p : D6} : Aa strF cf sc b (.prim p es) ρ H = (Bj strF cf sc b es ρ H).get fun vs H => prim strF sc p vs H := rfl
theorem Va : Aa strF cf sc b (.idx x y) ρ H = (Aa strF cf sc b x ρ H).get fun v H => (Aa strF cf sc b y ρ H).get fun w H => Cl sc v w H := rfl
theorem Oe {lo hi : PEo} : Aa strF cf sc b (.slice x lo hi) ρ H = (Aa strF cf sc b x ρ H).get fun v H => (Lw strF cf sc b lo ρ H).get fun l H => (Lw strF cf sc b hi ρ H).get fun h H => (match v with
      | .ref r => (match H[r]? with
        | some (.list xs) => Aw (cut xs l h) H
        | _ => .bad)
      | _ => .bad) := rfl
theorem Vq : Aa strF cf sc b (.rev x) ρ H = (Aa strF cf sc b x ρ H).get fun v H => (match v with
      | .ref r => (match H[r]? with
        | some (.list xs) => Aw xs.reverse H
        | _ => .bad)
      | _ => .bad) := rfl
theorem Rq : Aa strF cf sc b (.list es) ρ H = (Bj strF cf sc b es ρ H).thn fun vs H => Aw vs H := rfl
theorem Og : Aa strF cf sc b (.tuple es) ρ H = (Bj strF cf sc b es ρ H).get fun vs H => O7 vs H := rfl
theorem Oh {it : It} {c : PEo} : Aa strF cf sc b (.comp1 x it c) ρ H = (Dv strF cf sc b it ρ H).get fun p H => (Bp p.2 (fun v H => (Tn strF cf sc b c (some v :: ρ) H).get fun t H => if t then (Aa strF cf sc b x (some v :: ρ) H).get fun x H => .ok (some x) H else .ok none H) p.1 H).get fun vs H => Aw vs H := rfl
theorem O9 {it : It} : Aa strF cf sc b (.comp2 x it) ρ H = (Dv strF cf sc b it ρ H).get fun p H => (Bp p.2 (fun v H => Hd (fun u w => (Aa strF cf sc b x (some u :: some w :: ρ) H).get fun x H => .ok (some x) H) v) p.1 H).get fun vs H => Aw vs H := rfl
theorem Kr : Aa strF cf sc b (.append x y) ρ H = (Aa strF cf sc b x ρ H).get fun v H => if isL v H then (Aa strF cf sc b y ρ H).get fun w H => Cp b v w H else .bad := rfl
theorem A59 : Aa strF cf sc b (.sset x) ρ H = (Aa strF cf sc b x ρ H).get fun v H => prim strF sc .sortedSet [v] H := rfl
theorem A3g : Bo strF cf sc b (.not x) ρ H = (Bo strF cf sc b x ρ H).get fun v H => .ok (!v) H := rfl
theorem A21 {op : CmpOp} : Bo strF cf sc b (.cmp op x y) ρ H = (Aa strF cf sc b x ρ H).get fun v H => (Aa strF cf sc b y ρ H).get fun w H => (match B5 op v w H with | some r => .ok r H | none => .bad) := rfl
theorem A81 : Bo strF cf sc b (.and es) ρ H = D9 strF cf sc b es ρ H := rfl
theorem Aal : Bo strF cf sc b (.or es) ρ H = Ek strF cf sc b es ρ H := rfl
theorem A8z {i : Nat} : Bo strF cf sc b (.var i) ρ H = (match ρ[i]? with | some (some (.bool v)) => .ok v H | _ => .bad) := rfl
theorem Wi {k : Nat} : Bo strF cf sc b (.call k es) ρ H = (Bj strF cf sc b es ρ H).get fun vs H => (cf k vs H).get fun v H => (match v with | .bool t => .ok t H | _ => .bad) := rfl
theorem Xa {p : D6} : Bo strF cf sc b (.prim p es) ρ H = (Bj strF cf sc b es ρ H).get fun vs H => (prim strF sc p vs H).get fun v H => (match v with | .bool t => .ok t H | _ => .bad) := rfl
theorem Wg : En strF cf sc b (.cons x (.cons y es)) ρ H = (Aa strF cf sc b x ρ H).get fun v H => (match v with
      | .bool false => .ok (.bool false) H
      | .bool true => En strF cf sc b (.cons y es) ρ H
      | _ => .bad) := rfl
theorem Se : D9 strF cf sc b (.cons x es) ρ H = (Bo strF cf sc b x ρ H).get fun v H => if v then D9 strF cf sc b es ρ H else .ok false H := rfl
theorem Tx : Ek strF cf sc b (.cons x es) ρ H = (Bo strF cf sc b x ρ H).get fun v H => if v then .ok true H else Ek strF cf sc b es ρ H := rfl
theorem Xc : Bj strF cf sc b .nil ρ H = .ok [] H := rfl
theorem Nd : Bj strF cf sc b (.cons x es) ρ H = (Aa strF cf sc b x ρ H).thn fun v H => (Bj strF cf sc b es ρ H).thn fun vs H => .ok (v :: vs) H := rfl
theorem A6e : Lw strF cf sc b (.some x) ρ H = (Aa strF cf sc b x ρ H).get fun v H => (match v with | .int i => .ok (some i) H | _ => .bad) := rfl
theorem Aaj : Dv strF cf sc b (.of x) ρ H = (Aa strF cf sc b x ρ H).get fun v H => (match v with
      | .ref r => (match H[r]? with | some (.list xs) => .ok (xs, [(r, xs)]) H | _ => .bad)
      | _ => .bad) := rfl
theorem Yk : Dv strF cf sc b (.range1 x) ρ H = (Aa strF cf sc b x ρ H).get fun v H => (match v with | .int k => if inR k then .ok (B4 0 k, []) H else .bad | _ => .bad) := rfl
theorem Zh : Dv strF cf sc b (.range2 x y) ρ H = (Aa strF cf sc b x ρ H).get fun v H => (Aa strF cf sc b y ρ H).get fun w H => (match v, w with | .int j, .int k => if inR j ∧ inR k then .ok (B4 j k, []) H else .bad | _, _ => .bad) := rfl
end
section
variable {i j : Int} {H : A0} {r q : Nat}
theorem De : Bc .Add (.int i) (.int j) H = .ok (.int (i + j)) H := rfl
theorem Df : Bc .Sub (.int i) (.int j) H = .ok (.int (i - j)) H := rfl
theorem Sx : Bc .Mult (.int i) (.int j) H = if E0 i j then .ok (.int (i * j)) H else .bad := rfl
theorem A1z : Bc .FloorDiv (.int i) (.int j) H = if j ≠ 0 ∧ j.natAbs < big then .ok (.int (i.fdiv j)) H else .bad := rfl
theorem Ws : Bc .Mod (.int i) (.int j) H = if j ≠ 0 then .ok (.int (i.fmod j)) H else .bad := rfl
theorem A6z : Bc .Pow (.int i) (.int j) H = if 0 ≤ j ∧ j ≤ 64 ∧ K2 i then .ok (.int (i ^ j.toNat)) H else .bad := rfl
theorem Re : Bc .Add (.ref r) (.ref q) H = (match H[r]?, H[q]? with
      | some (.list xs), some (.list ys) => Aw (xs ++ ys) H
      | _, _ => .bad) := by
  show (((H[r]?).bind A1s).bind fun xs => ((H[q]?).bind A1s).map fun ys => Aw (xs ++ ys) H).getD .bad = _
  rcases H[r]? with _ | (_ | _) <;> rcases H[q]? with _ | (_ | _) <;> rfl
theorem A2b : B5 .Lt (.int i) (.int j) H = some (decide (i < j)) := rfl
theorem A8p : B5 .LtE (.int i) (.int j) H = some (decide (i ≤ j)) := rfl
theorem A8n : B5 .Gt (.int i) (.int j) H = some (decide (j < i)) := rfl
theorem Ym : B5 .Eq (.int i) (.int j) H = some (i == j) := rfl
theorem A84 : B5 .NotEq (.int i) (.int j) H = some (!(i == j)) := rfl
theorem A7q {v : AV} : B5 .Eq (.ref r) v H = Gv (.ref r) v H := rfl
theorem Uh {v : AV} : B5 .NotEq (.ref r) v H = (Gv (.ref r) v H).map (!·) := rfl
theorem Ab2 {c : Bool} {v : AV} : B5 .NotEq (.bool c) v H = (Gv (.bool c) v H).map (!·) := rfl
theorem A87 {v w : AV} : B5 .In v w H = My v w H := rfl
theorem Qj {v w : AV} : B5 .NotIn v w H = (My v w H).map (!·) := rfl
theorem Abu {v : AV} : B5 .Is v .none H = R2 v := rfl
end
section
variable {strF : Bi} {sc : List Int} {H : A0} {r : Nat} {vs : List AV} {i j : Int} {v : AV}
theorem A17 : prim strF sc .len [.scr] H = .ok (.int sc.length) H := rfl
theorem Mo : prim strF sc .len [.ref r] H = (match Af (.ref r) H with | some xs => .ok (.int xs.length) H | none => .bad) := rfl
theorem A1n : prim strF sc .len [.tup vs] H = .ok (.int vs.length) H := rfl
theorem Mg : prim strF sc .list [v] H = (match Af v H with | some xs => Aw xs H | none => .bad) := rfl
theorem Nn : prim strF sc .listRange [.int i] H = if inR i then Aw (B4 0 i) H else .bad := rfl
theorem N0 : prim strF sc .sorted [.ref r] H = (match H[r]? with
      | some (.list xs) => if xs.length < 64 then (match Bh xs with
          | some is => Aw ((Ch is).map .int) H
          | none => .bad) else .bad
      | _ => .bad) := rfl
theorem A4i : prim strF sc .min2 [.int i, .int j] H = .ok (.int (min i j)) H := rfl
theorem A16 : prim strF sc .max2 [.int i, .int j] H = .ok (.int (max i j)) H := rfl
theorem A1v : prim strF sc .min1 [.tup [.int i, .int j]] H = .ok (.int (min i j)) H := rfl
theorem A0o : prim strF sc .max1 [.tup [.int i, .int j]] H = .ok (.int (max i j)) H := rfl
theorem A0g : prim strF sc .all [.ref r] H = (match H[r]? with
      | some (.list xs) => (match Bg xs with
          | some bs => .ok (.bool (bs.all id)) H
          | none => .bad)
      | _ => .bad) := rfl
theorem Wd : prim strF sc .tuple [v] H = (match Af v H with | some xs => .ok (.tup xs) H | none => .bad) := rfl
theorem We : prim strF sc .isInt [v] H = Fs (Od v) H := rfl
theorem Ug : prim strF sc .isBool [v] H = Fs (Lz v) H := rfl
theorem Ts : prim strF sc .isList [v] H = Fs (Ez v H) H := rfl
theorem Pj : prim strF sc .isTuple [v] H = Fs (Kk v) H := rfl
theorem Kx : Ez (.ref r) H = (match H[r]? with
    | some (.list _) => some true
    | some .dict => some false
    | none => none) := rfl
theorem Lj : Af (.ref r) H = (match H[r]? with
      | some (.list xs) => some xs
      | _ => none) := rfl
end
theorem Hl {a c : Int} (h : a < c) : B4 a c = .int a :: B4 (a + 1) c := by
  unfold B4
  rw [show (c - a).toNat = (c - (a + 1)).toNat + 1 by exact A4o h, List.range_succ_eq_map]
  simp only [List.map_cons, List.map_map, List.cons.injEq]
  refine ⟨by simp, List.map_congr_left fun k _ => ?_⟩
  simp only [Function.comp]
  congr 1
  exact Eq.symm (Eq.trans (Int.add_comm _ _) (Int.add_left_comm _ _ _))
theorem Pq {n c : Nat} (h : c ≤ n) : cutAt n (c : Int) = c := by
  unfold cutAt
  rw [if_neg (by exact A6s), Int.min_eq_left (by exact Qg h), Int.max_eq_right (by exact oNN _)]; rfl
end Mine
namespace Mine
open PySem
noncomputable def A47 : FnI := ⟨1, 1, .cons (.ret (.and (.cons (.prim .isInt (.cons (.var 0) .nil)) (.cons (.not (.prim .isBool (.cons (.var 0) .nil))) .nil)))) .nil⟩
end Mine
namespace Mine
abbrev Mat := Nat → Nat → Int
noncomputable def Av : Nat → (Nat → Int) → Int
  | 0, _ => 0
  | n + 1, f => Av n f + f n
theorem Ay {n : Nat} {f g : Nat → Int} (h : ∀ i, i < n → f i = g i) : Av n f = Av n g := by
  induction n with
  | zero => rfl
  | succ n ih => unfold Av; rw [ih fun i hi => h i (by exact Nat.lt_succ_of_lt hi), h n (by exact Nat.le_refl _)]
theorem Ip {n : Nat} {f : Nat → Int} (h : ∀ i, i < n → f i = 0) : Av n f = 0 := by
  induction n with
  | zero => rfl
  | succ n ih => unfold Av; rw [ih fun i hi => h i (by exact Nat.lt_succ_of_lt hi), h n (by exact Nat.le_refl _)]; rfl
theorem Dh (n : Nat) (f : Nat → Int) : Av (n + 1) f = Av n f + f n := rfl
theorem Fv {n : Nat} {f g : Nat → Int} : Av n (fun i => f i + g i) = Av n f + Av n g := by
  induction n with
  | zero => rfl
  | succ n ih => rw [Dh, Dh, Dh, ih]; exact Ab5
theorem Fy {n : Nat} {f : Nat → Int} {c : Int} : Av n (fun i => c * f i) = c * Av n f := by
  induction n with
  | zero => simp [Av]
  | succ n ih => unfold Av; rw [ih]; grind
theorem Q2 {n : Nat} {f : Nat → Int} {c : Int} : Av n (fun i => f i * c) = Av n f * c := by
  induction n with
  | zero => simp [Av]
  | succ n ih => unfold Av; rw [ih]; grind
theorem O3 {n : Nat} {f : Nat → Int} : Av (n + 1) f = f 0 + Av n (fun i => f (i + 1)) := by
  induction n with
  | zero => simp [Av]
  | succ n ih => rw [Av, ih]; simp only [Av]; exact Int.add_assoc _ _ _
theorem Zk {n m : Nat} {f : Nat → Nat → Int} : Av n (fun i => Av m (f i)) = Av m (fun j => Av n (fun i => f i j)) := by
  induction n with
  | zero => simp only [Av]; rw [Ip fun _ _ => rfl]
  | succ n ih => simp only [Av]; rw [ih, ← Fv]
theorem Kg {n r : Nat} {f : Nat → Int} (hr : r < n) (h : ∀ i, i < n → i ≠ r → f i = 0) : Av n f = f r := by
  induction n with
  | zero => exact oZl hr
  | succ n ih =>
    unfold Av
    by_cases e : r = n
    · subst e; rw [Ip fun i hi => h i (by exact Nat.lt_succ_of_lt hi) (by exact Nat.ne_of_lt hi)]; exact Int.zero_add _
    · rw [ih (by exact Gs hr e) fun i hi hn => h i (by exact Nat.lt_succ_of_lt hi) hn, h n (by exact Nat.le_refl _) (by exact Aao e)]; exact Int.add_zero _
theorem To {n r s : Nat} {f : Nat → Int} (hr : r < n) (hs : s < n) (hrs : r ≠ s) (h : ∀ i, i < n → i ≠ r → i ≠ s → f i = 0) : Av n f = f r + f s := by
  have e1 : Av n f = Av n (fun i => (if i = r then f i else 0) + (if i = r then 0 else f i)) := Ay fun i _ => by split <;> (first | exact Eq.symm (Int.add_zero _) | exact Eq.symm (Int.zero_add _))
  rw [e1, Fv, Kg hr (fun i hi hn => if_neg hn), Kg hs (fun i hi hn => by
    by_cases q : i = r
    · rw [if_pos q]
    · rw [if_neg q]; exact h i hi q hn), if_pos rfl, if_neg (Ne.symm hrs)]
theorem Ys {n m : Nat} {f : Nat → Int} (hm : m ≤ n) (h : ∀ i, m ≤ i → i < n → f i = 0) : Av n f = Av m f := by
  induction n with
  | zero => rw [show m = 0 by exact Nat.eq_zero_of_le_zero hm]
  | succ n ih =>
    by_cases e : m = n + 1
    · subst e; rfl
    · rw [Dh, ih (by exact Nat.le_of_lt_succ (Nat.lt_of_le_of_ne hm e)) fun i h1 h2 => h i h1 (by exact Nat.lt_succ_of_lt h2), h n (by exact Nat.le_of_lt_succ (Nat.lt_of_le_of_ne hm e)) (by exact Nat.le_refl _)]; exact Int.add_zero _
noncomputable def sgn (i : Nat) : Int := if i % 2 = 0 then 1 else -1
theorem A0s : sgn 0 = 1 := rfl
theorem Ot (i : Nat) : sgn (i + 1) = - sgn i := by
  unfold sgn
  by_cases h : i % 2 = 0
  · rw [if_pos h, if_neg fun q => absurd (q.symm.trans ((Nat.add_mod i 1 2).trans (congrArg (fun x => (x + 1 % 2) % 2) h))) (by decide)]
  · rw [if_neg h, if_pos ((Nat.add_mod i 1 2).trans (congrArg (fun x => (x + 1 % 2) % 2) ((Nat.mod_two_eq_zero_or_one i).resolve_left h)))]; rfl
theorem Rd (i : Nat) : sgn i * sgn i = 1 := by unfold sgn; split <;> rfl
noncomputable def skip (i a : Nat) : Nat := if a < i then a else a + 1
theorem Yu (a : Nat) : skip 0 a = a + 1 := rfl
theorem Pz (i a : Nat) : skip (i + 1) (a + 1) = skip i a + 1 := by unfold skip; by_cases h : a < i <;> simp [h]
theorem Op (i : Nat) : skip (i + 1) 0 = 0 := by unfold skip; simp
theorem I6 {n i a : Nat} (hi : i < n + 1) (ha : a < n) : skip i a < n + 1 := by unfold skip; split <;> (first | exact Nat.lt_succ_of_lt ha | exact Nat.lt_succ_of_le ha)
theorem Jt (i a : Nat) : skip i a ≠ i := by unfold skip; split <;> (first | exact Nat.ne_of_lt (by assumption) | exact Nat.ne_of_gt (oGt (by assumption)))
noncomputable def det : Nat → Mat → Int
  | 0, _ => 1
  | n + 1, M => Av (n + 1) fun i => sgn i * M i 0 * det n (fun a b => M (skip i a) (b + 1))
theorem Bl {n : Nat} : ∀ {M N : Mat}, (∀ a b, a < n → b < n → M a b = N a b) → det n M = det n N := by
  induction n with
  | zero => intros; rfl
  | succ n ih =>
    intro M N h
    unfold det
    refine Ay fun i hi => ?_
    rw [h i 0 hi (by exact Nat.succ_pos _), ih fun a b ha hb => h _ _ (I6 hi ha) (by exact Nat.lt_succ_of_le hb)]
noncomputable def upd (M : Mat) (r : Nat) (x : Nat → Int) : Mat := fun a b => if a = r then x b else M a b
theorem Da (M : Mat) (r : Nat) (x : Nat → Int) (b : Nat) : upd M r x r b = x b := if_pos rfl
theorem Di {M : Mat} {r a : Nat} (x : Nat → Int) (b : Nat) (h : a ≠ r) : upd M r x a b = M a b := if_neg h
theorem I4 {n : Nat} : ∀ {M : Mat} {r : Nat} {x y : Int} {u v : Nat → Int}, r < n → det n (upd M r fun b => x * u b + y * v b) = x * det n (upd M r u) + y * det n (upd M r v) := by
  induction n with
  | zero => intros; exact oZl (by assumption)
  | succ n ih =>
    intro M r x y u v hr
    unfold det
    rw [← Fy, ← Fy, ← Fv]
    refine Ay fun i hi => ?_
    by_cases e : i = r
    · subst e
      simp only [Da, Di _ _ (Jt i _)]
      grind
    · simp only [Di _ _ e]
      refine bC fun hno => ?_
      have : ∃ r', skip i r' = r ∧ r' < n := by
        unfold skip
        by_cases q : r < i
        · exact ⟨r, if_pos q, by exact Nat.le_of_lt_succ (Nat.lt_of_le_of_lt q hi)⟩
        · exact ⟨r - 1, by rw [if_neg (by exact Nat.not_lt_of_le (Nat.le_sub_of_add_le (Nat.lt_of_le_of_ne (oGe q) e)))]; exact Nat.sub_add_cancel (Fl (Nat.lt_of_le_of_ne (oGe q) e)), by exact Nat.lt_of_lt_of_le (Nat.sub_lt (Nat.lt_of_le_of_lt (Nat.zero_le _) (Nat.lt_of_le_of_ne (oGe q) e)) Nat.one_pos) (Nat.le_of_lt_succ hr)⟩
      obtain ⟨r', e1, e2⟩ := this
      have inj : ∀ a, skip i a = r ↔ a = r' := fun a => by
        constructor
        · intro q; rw [← e1] at q; unfold skip at q; split at q <;> split at q <;> (first | lia | omega)
        · intro q; rw [q, e1]
      have hu : ∀ w : Nat → Int, (fun a b => upd M r w (skip i a) (b + 1)) = upd (fun a b => M (skip i a) (b + 1)) r' (fun b => w (b + 1)) := fun w => by
        funext a b
        unfold upd
        by_cases q : a = r'
        · rw [if_pos q, if_pos ((inj a).mpr q)]
        · rw [if_neg q, if_neg fun h => q ((inj a).mp h)]
      refine hno ?_
      rw [hu, hu, hu, ih e2]
      grind
theorem Wt {n : Nat} : ∀ {M : Mat} {r : Nat}, r + 1 < n → (∀ b, b < n → M r b = M (r + 1) b) → det n M = 0 := by
  induction n with
  | zero => intros; exact oZl (by assumption)
  | succ n ih =>
    intro M r hr h
    unfold det
    rw [To (r := r) (s := r + 1) (by exact Nat.le_of_lt hr) hr (by exact A7x) fun i hi h1 h2 => ?_]
    · have : det n (fun a b => M (skip r a) (b + 1)) = det n (fun a b => M (skip (r + 1) a) (b + 1)) := Bl fun a b ha hb => by
        by_cases q : a = r
        · subst q
          have e1 : skip a a = a + 1 := by unfold skip; simp
          have e2 : skip (a + 1) a = a := by unfold skip; simp
          rw [e1, e2, h (b + 1) (by exact Nat.lt_succ_of_le hb)]
        · have : skip r a = skip (r + 1) a := by unfold skip; split <;> split <;> (first | lia | omega)
          rw [this]
      rw [this, h 0 (by exact Nat.succ_pos _), Ot]
      grind
    · have : det n (fun a b => M (skip i a) (b + 1)) = 0 := by
        by_cases q : i < r
        · refine ih (r := r - 1) (by exact A9i hr q) fun b hb => ?_
          have e1 : skip i (r - 1) = r := by unfold skip; rw [if_neg (by exact fun e1 => Rc (Nat.sub_le_sub_right q _) e1)]; exact Nat.sub_add_cancel (W9 q)
          have e2 : skip i (r - 1 + 1) = r + 1 := by unfold skip; rw [if_neg (by exact Nat.not_lt_of_le (Nat.le_trans (Nat.le_of_lt q) (Nat.le_of_eq (Nat.sub_add_cancel (Fl q)).symm)))]; exact A1x (Nat.sub_add_cancel (W9 q))
          rw [e1, e2]; exact h _ (by exact Nat.lt_succ_of_le hb)
        · refine ih (r := r) (by exact Nat.lt_of_lt_of_le (Iz (Iz (oGe q) h1) h2) (Nat.le_of_lt_succ hi)) fun b hb => ?_
          have e1 : skip i r = r := by unfold skip; rw [if_pos (by exact No (oGt q) h1)]
          have e2 : skip i (r + 1) = r + 1 := by unfold skip; rw [if_pos (by exact Iz (Iz (oGe q) h1) h2)]
          rw [e1, e2]; exact h _ (by exact Nat.lt_succ_of_le hb)
      rw [this]; simp
noncomputable def swp (r s a : Nat) : Nat := if a = r then s else if a = s then r else a
theorem L9 {n r s : Nat} (alt : ∀ N : Mat, (∀ b, b < n → N r b = N s b) → det n N = 0) (hr : r < n) (hs : s < n) (hrs : r ≠ s) (M : Mat) : det n (fun a => M (swp r s a)) = - det n M := by
  have lin1 : ∀ (N : Mat) (t : Nat) (u v : Nat → Int), t < n → det n (upd N t fun b => u b + v b) = det n (upd N t u) + det n (upd N t v) := fun N t u v ht => by
    have := I4 (M := N) (r := t) (x := 1) (y := 1) (u := u) (v := v) ht
    simpa using this
  let X (x y : Nat → Int) : Mat := upd (upd M r x) s y
  have hX : ∀ x, det n (X x x) = 0 := fun x => alt _ fun b _ => by
    show upd (upd M r x) s x r b = upd (upd M r x) s x s b
    rw [Di _ _ hrs, Da, Da]
  have hl : ∀ x x' y, det n (X (fun b => x b + x' b) y) = det n (X x y) + det n (X x' y) := fun x x' y => by
    have com : ∀ x, X x y = upd (upd M s y) r x := fun x => by
      funext a b
      show upd (upd M r x) s y a b = _
      unfold upd
      by_cases q : a = s
      · rw [if_pos q, if_neg (by exact fun e2 => hrs (Eq.trans (Eq.symm e2) q)), if_pos q]
      · rw [if_neg q, if_neg q]
    rw [com, com, com]; exact lin1 _ _ _ _ hr
  have hr' : ∀ x y y', det n (X x (fun b => y b + y' b)) = det n (X x y) + det n (X x y') := fun x y y' => lin1 _ _ _ _ hs
  have h0 := hX (fun b => M r b + M s b)
  rw [hl, hr', hr', hX, hX] at h0
  have e1 : det n (X (M r) (M s)) = det n M := Bl fun a b _ _ => by
    show upd (upd M r (M r)) s (M s) a b = _
    unfold upd
    by_cases q : a = s
    · rw [if_pos q, q]
    · rw [if_neg q]; by_cases q' : a = r
      · rw [if_pos q', q']
      · rw [if_neg q']
  have e2 : det n (X (M s) (M r)) = det n (fun a => M (swp r s a)) := Bl fun a b _ _ => by
    show upd (upd M r (M s)) s (M r) a b = M (swp r s a) b
    unfold upd swp
    by_cases q : a = s
    · rw [if_pos q, if_neg (by exact fun e2 => hrs (Eq.trans (Eq.symm e2) q)), if_pos q]
    · rw [if_neg q]; by_cases q' : a = r
      · rw [if_pos q', if_pos q']
      · rw [if_neg q', if_neg q', if_neg q]
  rw [e1, e2] at h0
  (first | lia | omega)
theorem Nh {n : Nat} : ∀ (d : Nat) {M : Mat} {r s : Nat}, s = r + d + 1 → s < n → (∀ b, b < n → M r b = M s b) → det n M = 0 := by
  intro d
  induction d with
  | zero => intro M r s e hs h; subst e; exact Wt hs h
  | succ d ih =>
    intro M r s e hs h
    have sw := L9 (r := s - 1) (s := s) (fun N hN => Wt (r := s - 1) (by exact Abq e hs) (by rw [show s - 1 + 1 = s by exact Ac6 e]; exact hN)) (by exact A27 hs) hs (by exact Abk e) M
    have : det n (fun a => M (swp (s - 1) s a)) = 0 := ih (r := r) (s := s - 1) (by exact congrArg (· - 1) e) (by exact A27 hs) fun b hb => by
      have e1 : swp (s - 1) s r = r := (if_neg (Ac7 e)).trans (if_neg fun q => Nat.ne_of_lt (Nat.lt_succ_of_le (Nat.le_add_right _ _)) (q.trans e))
      have e2 : swp (s - 1) s (s - 1) = s := by unfold swp; rw [if_pos rfl]
      show M (swp (s - 1) s r) b = M (swp (s - 1) s (s - 1)) b
      rw [e1, e2]; exact h b hb
    exact Int.neg_eq_zero.mp (sw.symm.trans this)
theorem Lx {n : Nat} {M : Mat} {r s : Nat} (hr : r < n) (hs : s < n) (hrs : r ≠ s) (h : ∀ b, b < n → M r b = M s b) : det n M = 0 := by
  by_cases q : r < s
  · exact Nh (s - r - 1) (by exact Y3 q) hs h
  · exact Nh (r - s - 1) (r := s) (s := r) (by exact Y3 (Iz (oGe q) hrs)) hr fun b hb => (h b hb).symm
theorem Mb {n r s : Nat} (hr : r < n) (hs : s < n) (hrs : r ≠ s) (M : Mat) : det n (fun a => M (swp r s a)) = - det n M :=
  L9 (fun N hN => Lx hr hs hrs hN) hr hs hrs M
theorem Nq {n : Nat} : ∀ (M : Mat), det (n + 1) M = Av (n + 1) fun j => sgn j * M 0 j * det n (fun a b => M (a + 1) (skip j b)) := by
  induction n with
  | zero => intro M; simp [det, Av]
  | succ n ih =>
    intro M
    rw [det, O3 (n := n + 1), O3 (n := n + 1)]
    have l : Av (n + 1) (fun i => sgn (i + 1) * M (i + 1) 0 * det (n + 1) (fun a b => M (skip (i + 1) a) (b + 1))) =
        Av (n + 1) (fun i => Av (n + 1) fun j => sgn (i + 1) * M (i + 1) 0 * (sgn j * M 0 (j + 1) * det n (fun a b => M (skip i a + 1) (skip j b + 1)))) := Ay fun i _ => by
      rw [ih, ← Fy]
      refine Ay fun j _ => ?_
      simp only [Op, Pz]
    have r : Av (n + 1) (fun j => sgn (j + 1) * M 0 (j + 1) * det (n + 1) (fun a b => M (a + 1) (skip (j + 1) b))) =
        Av (n + 1) (fun j => Av (n + 1) fun i => sgn (i + 1) * M (i + 1) 0 * (sgn j * M 0 (j + 1) * det n (fun a b => M (skip i a + 1) (skip j b + 1)))) := Ay fun j _ => by
      rw [det, ← Fy]
      refine Ay fun i _ => ?_
      simp only [Op, Pz, Ot]
      grind
    rw [l, r, Zk]
    simp only [Yu]
theorem Dn {n : Nat} : ∀ (M : Mat), det n (fun a b => M b a) = det n M := by
  induction n with
  | zero => intro M; rfl
  | succ n ih =>
    intro M
    rw [Nq M, det]
    refine Ay fun i _ => ?_
    rw [← ih fun a b => M (a + 1) (skip i b)]
noncomputable def cyc (m a : Nat) : Nat := if a = 0 then m else if a ≤ m then a - 1 else a
theorem Xd {n : Nat} : ∀ (m : Nat) (M : Mat), m < n → det n (fun a => M (cyc m a)) = sgn m * det n M := by
  intro m
  induction m with
  | zero =>
    intro M h
    have : (fun a => M (cyc 0 a)) = M := by
      funext a b; unfold cyc
      by_cases q : a = 0
      · simp [q]
      · simp [q]
    rw [this, A0s]; exact Eq.symm (Int.one_mul _)
  | succ m ih =>
    intro M h
    have e : (fun a => M (cyc (m + 1) a)) = fun a => (fun c => M (swp m (m + 1) c)) (cyc m a) := by
      funext a b
      show M (cyc (m + 1) a) b = M (swp m (m + 1) (cyc m a)) b
      congr 1
      unfold cyc swp
      by_cases q : a = 0
      · simp [q]
      · rw [if_neg q, if_neg q]
        by_cases q' : a ≤ m
        · rw [if_pos q', if_pos (by exact Nat.le_succ_of_le q'), if_neg (by exact Nat.ne_of_lt (A3y (A77 q) q')), if_neg (by exact Nat.ne_of_lt (Nat.lt_succ_of_le (Us q')))]
        · rw [if_neg q']
          by_cases q2 : a ≤ m + 1
          · rw [if_pos q2, if_neg (by exact Nat.ne_of_gt (oGt q')), if_pos (by exact Nat.le_antisymm q2 (oGt q'))]; exact congrArg (· - 1) (Nat.le_antisymm q2 (oGt q'))
          · rw [if_neg q2, if_neg (by exact Nat.ne_of_gt (Nat.le_of_lt (oGt q2))), if_neg (by exact Nat.ne_of_gt (oGt q2))]
    rw [e, ih (fun c => M (swp m (m + 1) c)) (by exact Nat.le_of_lt h), Mb (by exact Nat.le_of_lt h) h (by exact A7x), Ot]
    grind
theorem A0h {n : Nat} (M : Mat) : det (n + 1) M = sgn n * Av (n + 1) fun j => sgn j * M n j * det n (fun a b => M a (skip j b)) := by
  have h := Xd (n := n + 1) n M (by exact Nat.le_refl _)
  rw [Nq] at h
  have : Av (n + 1) (fun j => sgn j * M (cyc n 0) j * det n (fun a b => M (cyc n (a + 1)) (skip j b))) = Av (n + 1) fun j => sgn j * M n j * det n (fun a b => M a (skip j b)) := Ay fun j _ => by
    have e1 : cyc n 0 = n := rfl
    rw [e1, Bl (M := fun a b => M (cyc n (a + 1)) (skip j b)) (N := fun a b => M a (skip j b)) fun a b ha hb => by
      have : cyc n (a + 1) = a := by unfold cyc; rw [if_neg (by exact Nat.succ_ne_zero _), if_pos (by exact ha)]; exact rfl
      rw [this]]
  rw [this] at h
  rw [h]
  have := Rd n
  grind
theorem A2j {n : Nat} (M : Mat) : det (n + 1) M = sgn n * Av (n + 1) fun i => sgn i * M i n * det n (fun a b => M (skip i a) b) := by
  rw [← Dn M, A0h]
  congr 1
  refine Ay fun i _ => ?_
  rw [← Dn fun a b => M (skip i a) b]
theorem Vd {n : Nat} {M : Mat} {r s : Nat} (hr : r < n) (hs : s < n) (hrs : r ≠ s) (h : ∀ a, a < n → M a r = M a s) : det n M = 0 := by
  rw [← Dn]; exact Lx hr hs hrs h
theorem Py {k : Nat} : ∀ {n : Nat} {M : Mat}, k ≤ n → (∀ a b, k ≤ a → a < n → b < k → M a b = 0) → det n M = det k M * det (n - k) (fun a b => M (k + a) (k + b)) := by
  induction k with
  | zero => intro n M _ _; simp [det]
  | succ k ih =>
    intro n M hk h
    obtain ⟨n, rfl⟩ : ∃ m, n = m + 1 := ⟨n - 1, by exact Eq.symm (Nat.sub_add_cancel (W9 hk))⟩
    rw [det, Ys (m := k + 1) hk fun i h1 h2 => by rw [h i 0 h1 h2 (by exact Nat.succ_pos _)]; simp, det, ← Q2]
    refine Ay fun i hi => ?_
    rw [ih (M := fun a b => M (skip i a) (b + 1)) (by exact Nat.le_of_lt_succ hk) fun a b h1 h2 h3 => ?_]
    · have e : det (n - k) (fun a b => (fun a b => M (skip i a) (b + 1)) (k + a) (k + b)) = det (n + 1 - (k + 1)) (fun a b => M (k + 1 + a) (k + 1 + b)) := by
        rw [show n + 1 - (k + 1) = n - k by exact A5h _ _]
        refine Bl fun a b ha hb => ?_
        show M (skip i (k + a)) (k + b + 1) = _
        have : skip i (k + a) = k + 1 + a := by unfold skip; rw [if_neg (by exact Rc (A6r (Nat.le_of_lt_succ hi)))]; exact Nat.add_right_comm _ _ _
        rw [this, show k + b + 1 = k + 1 + b by exact Nat.add_right_comm _ _ _]
      rw [e]; grind
    · have : skip i a = a + 1 := by unfold skip; rw [if_neg (by exact fun e2 => Rc (Nat.lt_of_le_of_lt h1 e2) hi)]
      show M (skip i a) (b + 1) = 0
      rw [this]; exact h _ _ (by exact Nat.lt_succ_of_le h1) (by exact Nat.lt_succ_of_le h2) (by exact Nat.lt_succ_of_le h3)
theorem Qu {n r : Nat} {q : Int} {c : Nat → Int} : ∀ {k : Nat} {M : Mat}, k ≤ r → r < n → det n (upd M r fun b => q * M r b + Av k fun m => c m * M m b) = q * det n M := by
  intro k
  induction k with
  | zero =>
    intro M _ hr
    have := I4 (n := n) (M := M) (r := r) (x := q) (y := 0) (u := M r) (v := M r) hr
    have e : upd M r (M r) = M := by funext a b; unfold upd; split <;> simp_all
    rw [e] at this
    have e2 : (upd M r fun b => q * M r b + Av 0 fun m => c m * M m b) = upd M r fun b => q * M r b + 0 * M r b := by simp [Av]
    rw [e2, this]; exact Ab7
  | succ k ih =>
    intro M hk hr
    have e : (upd M r fun b => q * M r b + Av (k + 1) fun m => c m * M m b) = upd M r fun b => 1 * (q * M r b + Av k fun m => c m * M m b) + c k * M k b := by
      funext a b; unfold upd
      split
      · simp only [Av]; exact Aah
      · rfl
    rw [e, I4 hr, ih (by exact Nat.le_of_lt hk) hr]
    have : det n (upd M r (M k)) = 0 := Lx hr (s := k) (by exact Dz hk hr) (by exact Nat.ne_of_gt hk) fun b _ => by rw [Da, Di _ _ (by exact Nat.ne_of_lt hk)]
    rw [this]; exact A9n
end Mine
namespace Mine
noncomputable def sel (k i a : Nat) : Nat := if a < k then a else i
theorem Ct {k i a : Nat} (h : a < k) : sel k i a = a := if_pos h
theorem Ep (k i : Nat) : sel k i k = i := if_neg (Nat.lt_irrefl _)
theorem A0j {k i a : Nat} (h : k ≤ a) : sel k i a = i := if_neg (Nat.not_lt.mpr h)
noncomputable def E (M : Mat) (k i j : Nat) : Int := det (k + 1) fun a b => M (sel k i a) (sel k j b)
noncomputable def cfE (M : Mat) (k i m : Nat) : Int := sgn k * sgn m * det k fun a b => M (sel k i (skip m a)) b
theorem A8a (M : Mat) (k : Nat) : E M k k k = det (k + 1) M := Bl fun a b ha hb => by
  have h1 : sel k k a = a := by unfold sel; split <;> (first | exact rfl | exact Eq.symm (A9z ha (by assumption)))
  have h2 : sel k k b = b := by unfold sel; split <;> (first | exact rfl | exact Eq.symm (A9z hb (by assumption)))
  rw [h1, h2]
theorem Vn (M : Mat) (k i j : Nat) : E M k i j = det k M * M i j + Av k fun m => cfE M k i m * M m j := by
  unfold E
  rw [A2j, Dh]
  have e1 : Av k (fun m => sgn m * M (sel k i m) (sel k j k) * det k (fun a b => M (sel k i (skip m a)) (sel k j b))) = Av k fun m => sgn m * (det k fun a b => M (sel k i (skip m a)) b) * M m j := Ay fun m hm => by
    rw [Ct hm, Ep, Bl (M := fun a b => M (sel k i (skip m a)) (sel k j b)) (N := fun a b => M (sel k i (skip m a)) b) fun a b ha hb => by rw [Ct hb]]
    grind
  have e2 : det k (fun a b => M (sel k i (skip k a)) (sel k j b)) = det k M := Bl fun a b ha hb => by
    have : skip k a = a := if_pos ha
    rw [this, Ct ha, Ct hb]
  rw [e1, e2, Ep, Ep]
  have e3 : Av k (fun m => cfE M k i m * M m j) = sgn k * Av k fun m => sgn m * (det k fun a b => M (sel k i (skip m a)) b) * M m j := by
    rw [← Fy]
    refine Ay fun m _ => ?_
    unfold cfE; grind
  rw [e3]
  have := Rd k
  grind
theorem Vt {M : Mat} {k i j : Nat} (h : j < k) : E M k i j = 0 :=
  Vd (r := j) (s := k) (by exact Nat.lt_succ_of_lt h) (by exact Nat.le_refl _) (by exact Nat.ne_of_lt h) fun a _ => by rw [Ct h, Ep]
theorem A4l (M : Mat) : det 2 M = M 0 0 * M 1 1 - M 1 0 * M 0 1 := by
  simp [det, Av, sgn, skip]
  grind
theorem A83 {M : Mat} {k i j : Nat} (hq : det k M ≠ 0) : det k M * E M (k + 1) i j = E M k k k * E M k i j - E M k i k * E M k k j := by
  let N : Mat := fun a b => M (sel (k + 1) i a) (sel (k + 1) j b)
  let N1 : Mat := upd N k fun b => det k M * N k b + Av k fun m => cfE M k k m * N m b
  let N2 : Mat := upd N1 (k + 1) fun b => det k M * N1 (k + 1) b + Av k fun m => cfE M k i m * N1 m b
  have hN : det (k + 2) N = E M (k + 1) i j := rfl
  have h1 : det (k + 2) N1 = det k M * det (k + 2) N := Qu (by exact Nat.le_refl _) (by exact Nat.le_of_lt (Nat.le_refl _))
  have h2 : det (k + 2) N2 = det k M * det (k + 2) N1 := Qu (by exact Nat.le_add_right _ _) (by exact Nat.le_refl _)
  have v0 : ∀ a b, a < k → N2 a b = M a (sel (k + 1) j b) := fun a b ha => by
    show upd N1 (k + 1) _ a b = _
    rw [Di _ _ (by exact Nat.ne_of_lt (Nat.lt_succ_of_lt ha))]
    show upd N k _ a b = _
    rw [Di _ _ (by exact Nat.ne_of_lt ha)]
    show M (sel (k + 1) i a) (sel (k + 1) j b) = _
    rw [Ct (by exact Nat.lt_succ_of_lt ha)]
  have v1 : ∀ b, N2 k b = E M k k (sel (k + 1) j b) := fun b => by
    show upd N1 (k + 1) _ k b = _
    rw [Di _ _ (by exact A7x)]
    show upd N k _ k b = _
    rw [Da, Vn]
    show det k M * M (sel (k + 1) i k) (sel (k + 1) j b) + _ = _
    rw [Ct (by exact Nat.le_refl _)]
    congr 1
    refine Ay fun m hm => ?_
    show cfE M k k m * M (sel (k + 1) i m) (sel (k + 1) j b) = _
    rw [Ct (by exact Nat.lt_succ_of_lt hm)]
  have v2 : ∀ b, N2 (k + 1) b = E M k i (sel (k + 1) j b) := fun b => by
    show upd N1 (k + 1) _ (k + 1) b = _
    rw [Da, Vn]
    show det k M * upd N k _ (k + 1) b + _ = _
    rw [Di _ _ (by exact Nat.ne_of_gt (Nat.le_refl _))]
    show det k M * M (sel (k + 1) i (k + 1)) (sel (k + 1) j b) + _ = _
    rw [Ep]
    congr 1
    refine Ay fun m hm => ?_
    show cfE M k i m * upd N k _ m b = _
    rw [Di _ _ (by exact Nat.ne_of_lt hm)]
    show cfE M k i m * M (sel (k + 1) i m) (sel (k + 1) j b) = _
    rw [Ct (by exact Nat.lt_succ_of_lt hm)]
  have hb : det (k + 2) N2 = det k N2 * det (k + 2 - k) (fun a b => N2 (k + a) (k + b)) := Py (by exact Nat.le_add_right _ _) fun a b ha ha2 hb => by
    have : a = k ∨ a = k + 1 := by (first | lia | omega)
    rcases this with rfl | rfl
    · rw [v1, Ct (by exact Nat.lt_succ_of_lt hb)]; exact Vt hb
    · rw [v2, Ct (by exact Nat.lt_succ_of_lt hb)]; exact Vt hb
  have hk : det k N2 = det k M := Bl fun a b ha hb => by rw [v0 a b ha, Ct (by exact Nat.lt_succ_of_lt hb)]
  rw [show k + 2 - k = 2 by exact Nat.add_sub_cancel_left _ _, A4l, hk] at hb
  have w1 : N2 (k + 0) (k + 0) = E M k k k := by rw [Nat.add_zero, v1, Ct (by exact Nat.le_refl _)]
  have w2 : N2 (k + 1) (k + 1) = E M k i j := by rw [v2, Ep]
  have w3 : N2 (k + 1) (k + 0) = E M k i k := by rw [v2, Ct (by exact Nat.le_refl _)]; rfl
  have w4 : N2 (k + 0) (k + 1) = E M k k j := by rw [Nat.add_zero, v1, Ep]
  rw [w1, w2, w3, w4] at hb
  rw [h2, h1, hN] at hb
  exact Int.eq_of_mul_eq_mul_left hq hb
theorem Tr {n : Nat} {M : Mat} (hn : 0 < n) (h : ∀ a, a < n → M a 0 = 0) : det n M = 0 := by
  obtain ⟨n, rfl⟩ : ∃ m, n = m + 1 := ⟨n - 1, by exact Eq.symm (Nat.sub_add_cancel hn)⟩
  rw [det]
  exact Ip fun i hi => by rw [h i hi]; simp
theorem A20 {M : Mat} {n k : Nat} (hk : k < n) (hq : det k M ≠ 0) (h : ∀ i, k ≤ i → i < n → E M k i k = 0) : det n M = 0 := by
  let R (t : Nat) : Mat := fun a b => if k ≤ a ∧ a < k + t then E M k a b else M a b
  have hR : ∀ t, k + t ≤ n → det n (R t) = det k M ^ t * det n M := by
    intro t
    induction t with
    | zero =>
      intro _
      have : R 0 = M := by funext a b; show (if _ then _ else _) = _; rw [if_neg (by exact fun e0 => Rc e0.1 e0.2)]
      rw [this]; simp
    | succ t ih =>
      intro ht
      have e : R (t + 1) = upd (R t) (k + t) fun b => det k M * (R t) (k + t) b + Av k fun m => cfE M k (k + t) m * (R t) m b := by
        funext a b
        show (if _ then _ else _) = _
        unfold upd
        by_cases q : a = k + t
        · rw [if_pos (by exact Abi q), if_pos q, q, Vn]
          have e1 : R t (k + t) b = M (k + t) b := if_neg (by exact fun e0 => Nat.lt_irrefl _ e0.2)
          show _ = det k M * R t (k + t) b + Av k fun m => cfE M k (k + t) m * R t m b
          rw [e1]
          congr 1
          refine Ay fun m hm => ?_
          have e2 : R t m b = M m b := if_neg (by exact fun e1 => Rc e1.1 hm)
          rw [e2]
        · rw [if_neg q]
          show _ = (if _ then _ else _)
          by_cases q2 : k ≤ a ∧ a < k + t
          · rw [if_pos q2, if_pos (by exact And.intro q2.1 (Nat.lt_succ_of_lt q2.2))]
          · rw [if_neg q2, if_neg (by exact fun e => q2 ⟨e.1, Gs e.2 q⟩)]
      rw [e, Qu (by exact Nat.le_add_right _ _) (by exact ht), ih (by exact Nat.le_of_lt ht), Int.pow_succ]
      grind
  have h1 := hR (n - k) (by exact Nat.le_of_eq (Nat.add_sub_of_le (Nat.le_of_lt hk)))
  have hb : det n (R (n - k)) = det k (R (n - k)) * det (n - k) (fun a b => R (n - k) (k + a) (k + b)) := Py (by exact Nat.le_of_lt hk) fun a b ha ha2 hb => by
    have : R (n - k) a b = E M k a b := if_pos (by exact Ac2 ha ha2)
    rw [this]; exact Vt hb
  have hz : det (n - k) (fun a b => R (n - k) (k + a) (k + b)) = 0 := Tr (by exact Nat.sub_pos_of_lt hk) fun a ha => by
    have : R (n - k) (k + a) (k + 0) = E M k (k + a) (k + 0) := if_pos (by exact And.intro (Nat.le_add_right _ _) (Nat.add_lt_add_left ha _))
    rw [this, Nat.add_zero]; exact h _ (by exact Nat.le_add_right _ _) (by exact Nat.add_lt_of_lt_sub' ha)
  rw [hz, Int.mul_zero, h1] at hb
  rcases Int.mul_eq_zero.mp hb with q | q
  · exact absurd q (Int.pow_ne_zero hq)
  · exact q
theorem A1q {M : Mat} {k r s i j : Nat} (hr : k ≤ r) (hs : k ≤ s) : E (fun a => M (swp r s a)) k i j = E M k (swp r s i) j := by
  unfold E
  congr 1
  funext a b
  show M (swp r s (sel k i a)) _ = _
  by_cases q : a < k
  · rw [Ct q, Ct q]
    have : swp r s a = a := by unfold swp; rw [if_neg (by exact Nat.ne_of_lt (Nat.lt_of_lt_of_le q hr)), if_neg (by exact Nat.ne_of_lt (Nat.lt_of_lt_of_le q hs))]
    rw [this]
  · have h1 : sel k i a = i := A0j (by exact oGe q)
    have h2 : sel k (swp r s i) a = swp r s i := A0j (by exact oGe q)
    rw [h1, h2]
theorem Zn {M : Mat} {k r s : Nat} (hr : k ≤ r) (hs : k ≤ s) : det k (fun a => M (swp r s a)) = det k M := Bl fun a b ha hb => by
  have : swp r s a = a := by unfold swp; rw [if_neg (by exact Nat.ne_of_lt (Nat.lt_of_lt_of_le ha hr)), if_neg (by exact Nat.ne_of_lt (Nat.lt_of_lt_of_le ha hs))]
  show M (swp r s a) b = _
  rw [this]
noncomputable def Sv : Nat → Nat
  | 0 => 1
  | n + 1 => (n + 1) * Sv n
theorem Vm {n : Nat} {f : Nat → Int} {B : Nat} (h : ∀ i, i < n → (f i).natAbs ≤ B) : (Av n f).natAbs ≤ n * B := by
  induction n with
  | zero => simp [Av]
  | succ n ih =>
    rw [Dh]
    have h1 := ih fun i hi => h i (by exact Nat.lt_succ_of_lt hi)
    have h2 := h n (by exact Nat.le_refl _)
    have := Int.natAbs_add_le (Av n f) (f n)
    rw [Nat.succ_mul]; exact Nat.le_trans (Int.natAbs_add_le _ _) (Nat.add_le_add h1 h2)
theorem Yy {n : Nat} : ∀ {M : Mat} {B : Nat}, (∀ a b, a < n → b < n → (M a b).natAbs ≤ B) → (det n M).natAbs ≤ Sv n * B ^ n := by
  induction n with
  | zero => intro M B _; simp [det, Sv]
  | succ n ih =>
    intro M B h
    unfold det
    have := Vm (n := n + 1) (f := fun i => sgn i * M i 0 * det n (fun a b => M (skip i a) (b + 1))) (B := B * (Sv n * B ^ n)) fun i hi => by
      rw [Int.natAbs_mul, Int.natAbs_mul]
      have h1 : (sgn i).natAbs = 1 := by unfold sgn; split <;> rfl
      rw [h1, Nat.one_mul]
      exact Nat.mul_le_mul (h i 0 hi (by exact Nat.succ_pos _)) (ih fun a b ha hb => h _ _ (I6 hi ha) (by exact Nat.lt_succ_of_le hb))
    refine Nat.le_trans this (Nat.le_of_eq ?_)
    rw [show Sv (n + 1) = (n + 1) * Sv n from rfl, Nat.pow_succ]
    generalize Sv n = x
    generalize B ^ n = y
    grind
end Mine
namespace Mine
open PySem
theorem Hn : ∀ {a b : List Int}, a.Pairwise (· < ·) → b.Pairwise (· < ·) → (∀ x, x ∈ a ↔ x ∈ b) → a = b
  | [], [], _, _, _ => rfl
  | [], y :: b, _, _, h => absurd ((h y).mpr List.mem_cons_self) (by simp)
  | x :: a, [], _, _, h => absurd ((h x).mp List.mem_cons_self) (by simp)
  | x :: a, y :: b, ha, hb, h => by
    obtain ⟨a1, a2⟩ := List.pairwise_cons.mp ha
    obtain ⟨b1, b2⟩ := List.pairwise_cons.mp hb
    have e : x = y := by
      rcases List.mem_cons.mp ((h x).mp List.mem_cons_self) with e | m
      · exact e
      · rcases List.mem_cons.mp ((h y).mpr List.mem_cons_self) with e | m'
        · exact e.symm
        · have := a1 y m'; have := b1 x m; exact Abx (by assumption) (Int.le_of_lt this)
    subst e
    rw [Hn a2 b2 fun z => ?_]
    constructor
    · intro m
      rcases List.mem_cons.mp ((h z).mp (List.mem_cons_of_mem _ m)) with e | m'
      · have := a1 z m; (first | lia | omega)
      · exact m'
    · intro m
      rcases List.mem_cons.mp ((h z).mpr (List.mem_cons_of_mem _ m)) with e | m'
      · have := b1 z m; (first | lia | omega)
      · exact m'
theorem Ho {x z : Int} : ∀ {l : List Int}, z ∈ Ce x l ↔ z = x ∨ z ∈ l
  | [] => by unfold Ce; simp
  | y :: l => by
    unfold Ce
    split
    · simp
    · rw [List.mem_cons, Ho, List.mem_cons]
      constructor <;> rintro (h | h | h) <;> simp [h]
theorem Il {z : Int} : ∀ {l : List Int}, z ∈ Ch l ↔ z ∈ l
  | [] => Iff.rfl
  | x :: l => by unfold Ch; rw [Ho, Il, List.mem_cons]
theorem Mu {x : Int} : ∀ {l : List Int}, l.Pairwise (· ≤ ·) → (Ce x l).Pairwise (· ≤ ·)
  | [], _ => by unfold Ce; exact List.pairwise_singleton _ _
  | y :: l, h => by
    obtain ⟨h1, h2⟩ := List.pairwise_cons.mp h
    unfold Ce
    split
    · rename_i q
      exact List.pairwise_cons.mpr ⟨fun z hz => by
        rcases List.mem_cons.mp hz with rfl | hz
        · exact q
        · exact Int.le_trans q (h1 z hz), h⟩
    · rename_i q
      exact List.pairwise_cons.mpr ⟨fun z hz => by
        rcases Ho.mp hz with rfl | hz
        · exact Int.le_of_lt (Aau q)
        · exact h1 z hz, Mu h2⟩
theorem Nb : ∀ (l : List Int), (Ch l).Pairwise (· ≤ ·)
  | [] => .nil
  | x :: l => by unfold Ch; exact Mu (Nb l)
theorem Md (x : Int) (l : List Int) : B9 (x :: l) = (match B9 l with
    | [] => [x]
    | y :: r' => if x = y then y :: r' else x :: y :: r') := rfl
theorem Ol {x : Int} : ∀ {l : List Int}, (∀ z ∈ l, x ≤ z) → ∀ z ∈ B9 l, x ≤ z
  | [], _, z, h => by cases h
  | y :: l, h, z, hz => by
    rw [Md] at hz
    have ih := Ol fun z hz => h z (List.mem_cons_of_mem _ hz)
    have hy := h y List.mem_cons_self
    cases e : B9 l with
    | nil => rw [e] at hz; simp at hz; exact Aa1 hy (Eq.symm hz)
    | cons u r =>
      rw [e] at hz ih
      dsimp only at hz
      split at hz
      · exact ih z hz
      · rcases List.mem_cons.mp hz with rfl | hz
        · exact hy
        · exact ih z hz
theorem J3 : ∀ {l : List Int}, l.Pairwise (· ≤ ·) → (B9 l).Pairwise (· < ·) ∧ ∀ z, z ∈ B9 l ↔ z ∈ l
  | [], _ => ⟨.nil, fun z => Iff.rfl⟩
  | x :: l, h => by
    obtain ⟨h1, h2⟩ := List.pairwise_cons.mp h
    obtain ⟨i1, i2⟩ := J3 h2
    have hh := Ol h1
    rw [Md]
    cases e : B9 l with
    | nil =>
      rw [e] at i2
      refine ⟨List.pairwise_singleton _ _, fun z => ?_⟩
      rw [List.mem_cons, List.mem_cons, ← i2 z]
    | cons y r =>
      rw [e] at i1 i2 hh
      dsimp only
      by_cases q : x = y
      · rw [if_pos q]
        refine ⟨i1, fun z => ?_⟩
        rw [i2 z, List.mem_cons]
        constructor
        · exact .inr
        · rintro (rfl | m)
          · exact (i2 z).mp (by rw [q]; exact List.mem_cons_self)
          · exact m
      · rw [if_neg q]
        refine ⟨List.pairwise_cons.mpr ⟨fun z hz => ?_, i1⟩, fun z => ?_⟩
        · have a1 := hh z hz
          have a2 := hh y List.mem_cons_self
          rcases List.mem_cons.mp hz with rfl | hz
          · (first | lia | omega)
          · have := (List.pairwise_cons.mp i1).1 z hz; exact Int.lt_of_le_of_lt a2 this
        · rw [List.mem_cons, i2 z, List.mem_cons]
end Mine
namespace Mine
open PySem
noncomputable def Res.sat {α : Type} (r : Res α) (K : α → A0 → Prop) : Prop := match r with
  | .ok a H => K a H
  | _ => False
noncomputable def SR.sat (r : SR) (N : A8 → A0 → Prop) (R : AV → A0 → Prop) : Prop := match r with
  | .next ρ H => N ρ H
  | .ret v H => R v H
  | _ => False
theorem Res.sat_ok {α : Type} {a : α} {H : A0} {K : α → A0 → Prop} : (Res.ok a H).sat K = K a H := rfl
theorem Res.sat_get {α β : Type} {r : Res α} {f : α → A0 → Res β} {K : β → A0 → Prop} : (r.get f).sat K = r.sat fun a H => (f a H).sat K := by cases r <;> rfl
theorem Res.sat_mono {α : Type} {r : Res α} {K K' : α → A0 → Prop} (h : r.sat K) (q : ∀ a H, K a H → K' a H) : r.sat K' := by
  cases r with
  | ok a H => exact q a H h
  | exc c H => exact h
  | bad => exact h
inductive A7d {α : Type} (r : Res α) (K : α → A0 → Prop) : Prop
  | mk (a : α) (H : A0) (e : r = .ok a H) (k : K a H) : A7d r K
theorem Res.sat_ex {α : Type} {r : Res α} {K : α → A0 → Prop} (h : r.sat K) : A7d r K := by
  cases r with
  | ok a H => exact ⟨a, H, rfl, h⟩
  | exc c H => exact h.elim
  | bad => exact h.elim
theorem SR.sat_mono {r : SR} {N N' : A8 → A0 → Prop} {R R' : AV → A0 → Prop} (h : r.sat N R) (q : ∀ a H, N a H → N' a H) (q' : ∀ a H, R a H → R' a H) : r.sat N' R' := by
  cases r with
  | next ρ H => exact q _ _ h
  | ret v H => exact q' _ _ h
  | exc c H => exact h
  | bad => exact h
section
variable {strF : Bi} {cf : Nat → List AV → A0 → Res AV} {sc : List Int} {b : Nat} {ρ : A8} {H : A0} {N : A8 → A0 → Prop} {R : AV → A0 → Prop}
theorem Xi : (Ai strF cf sc b .nil ρ H).sat N R = N ρ H := rfl
theorem Bt {s : PS} {ss : PSs} : (Ai strF cf sc b (.cons s ss) ρ H).sat N R = (Et strF cf sc b s ρ H).sat (fun ρ H => (Ai strF cf sc b ss ρ H).sat N R) R := by
  show SR.sat (match Et strF cf sc b s ρ H with | .next ρ H => Ai strF cf sc b ss ρ H | r => r) N R = _
  cases Et strF cf sc b s ρ H <;> rfl
theorem O0 {i : Nat} {e : PE} : (Et strF cf sc b (.assign i e) ρ H).sat N R = (Aa strF cf sc b e ρ H).sat fun v H => N (ρ.set i (some v)) H := by
  show SR.sat (match Aa strF cf sc b e ρ H with | .ok v H => .next (ρ.set i (some v)) H | _ => .bad) N R = _
  cases Aa strF cf sc b e ρ H <;> rfl
theorem U1 {is : List Nat} {e : PE} : (Et strF cf sc b (.assigns is e) ρ H).sat N R = (Aa strF cf sc b e ρ H).sat fun v H => ∃ vs ρ', v = .tup vs ∧ E7 is vs ρ = some ρ' ∧ N ρ' H := by
  show SR.sat (match Aa strF cf sc b e ρ H with
      | .ok v H => (match v with
        | .tup vs => (match E7 is vs ρ with | some ρ' => .next ρ' H | none => .bad)
        | _ => .bad)
      | _ => .bad) N R = _
  cases Aa strF cf sc b e ρ H with
  | ok v H =>
    cases v with
    | tup vs =>
      simp only [Res.sat]
      cases e' : E7 is vs ρ with
      | none => simp [SR.sat, e']
      | some ρ' => simp [SR.sat, e']
    | _ => simp [SR.sat, Res.sat]
  | exc c H => rfl
  | bad => rfl
theorem A2p {r : Res Unit} : SR.sat (match r with | .ok _ H => .next ρ H | _ => .bad) N R = r.sat fun _ H => N ρ H := by cases r <;> rfl
theorem Vr {a i e : PE} : (Et strF cf sc b (.setIdx a i e) ρ H).sat N R = (Aa strF cf sc b e ρ H).sat fun x H => (Aa strF cf sc b a ρ H).sat fun v H => (Aa strF cf sc b i ρ H).sat fun k H => (Gr b v k x H).sat fun _ H => N ρ H := by
  simp only [← Res.sat_get]
  exact A2p
theorem Qf {c : PE} {t e : PSs} : (Et strF cf sc b (.ite c t e) ρ H).sat N R = (Bo strF cf sc b c ρ H).sat fun v H => if v then (Ai strF cf sc b t ρ H).sat N R else (Ai strF cf sc b e ρ H).sat N R := by
  show SR.sat (match Bo strF cf sc b c ρ H with
      | .ok true H => Ai strF cf sc b t ρ H
      | .ok false H => Ai strF cf sc b e ρ H
      | _ => .bad) N R = _
  cases Bo strF cf sc b c ρ H with
  | ok v H => cases v <;> rfl
  | exc c H => rfl
  | bad => rfl
theorem A4a {i : Nat} {it : It} {body : PSs} : (Et strF cf sc b (.for1 i it body) ρ H).sat N R = (Dv strF cf sc b it ρ H).sat fun p H => (Ej p.2 (fun v ρ H => Ai strF cf sc b body (ρ.set i (some v)) H) p.1 ρ H).sat N R := by
  show SR.sat (match Dv strF cf sc b it ρ H with
      | .ok p H => Ej p.2 (fun v ρ H => Ai strF cf sc b body (ρ.set i (some v)) H) p.1 ρ H
      | _ => .bad) N R = _
  cases Dv strF cf sc b it ρ H <;> rfl
theorem A09 {i j : Nat} {it : It} {body : PSs} : (Et strF cf sc b (.for2 i j it body) ρ H).sat N R = (Dv strF cf sc b it ρ H).sat fun p H => (Ej p.2 (fun v ρ H => Mr (fun x y => Ai strF cf sc b body ((ρ.set i (some x)).set j (some y)) H) v) p.1 ρ H).sat N R := by
  show SR.sat (match Dv strF cf sc b it ρ H with
      | .ok p H => Ej p.2 (fun v ρ H => Mr (fun x y => Ai strF cf sc b body ((ρ.set i (some x)).set j (some y)) H) v) p.1 ρ H
      | _ => .bad) N R = _
  cases Dv strF cf sc b it ρ H <;> rfl
theorem Rz {t : Bool} {c : Nat} {H : A0} : (Rv t c H).sat N R = False := by cases t <;> rfl
theorem M3 {e : PE} : (Et strF cf sc b (.ret e) ρ H).sat N R = (Aa strF cf sc b e ρ H).sat R := by
  show SR.sat (match Aa strF cf sc b e ρ H with | .ok v H => .ret v H | .exc c H => Rv (Kd e) c H | .bad => .bad) N R = _
  cases Aa strF cf sc b e ρ H with
  | ok => rfl
  | exc => exact Rz
  | bad => rfl
theorem A3j {e : PE} : (Et strF cf sc b (.expr e) ρ H).sat N R = (Aa strF cf sc b e ρ H).sat fun _ H => N ρ H := by
  show SR.sat (match Aa strF cf sc b e ρ H with | .ok _ H => .next ρ H | .exc c H => Rv (Kd e) c H | .bad => .bad) N R = _
  cases Aa strF cf sc b e ρ H with
  | ok => rfl
  | exc => exact Rz
  | bad => rfl
theorem Nt {P : Nat → Option FnI} {n k : Nat} {f : FnI} {args : List AV} {K : AV → A0 → Prop} (hk : P k = some f) (hl : args.length = f.np) :
    (Al strF P sc (n + 1) k args H).sat K = (Ai strF (Al strF P sc n) sc H.length f.body (args.map some ++ List.replicate (f.nv - f.np) none) H).sat (fun _ H => K .none H) K := by
  rw [Al, hk]
  simp only [hl, if_true]
  cases Ai strF (Al strF P sc n) sc H.length f.body (args.map some ++ List.replicate (f.nv - f.np) none) H <;> rfl
theorem Mx {step : AV → A8 → A0 → SR} (I : Int → A8 → A0 → Prop) {x y : Int} (hxy : x ≤ y) (h0 : I x ρ H)
    (hs : ∀ i ρ H, x ≤ i → i < y → I i ρ H → (step (.int i) ρ H).sat (I (i + 1)) R) (hN : ∀ ρ H, I y ρ H → N ρ H) : (Ej [] step (B4 x y) ρ H).sat N R := by
  obtain ⟨d, hd⟩ : ∃ d : Nat, y = x + d := ⟨(y - x).toNat, by exact Ac0 hxy⟩
  induction d generalizing x ρ H with
  | zero =>
    have : B4 x y = [] := by unfold B4; rw [show (y - x).toNat = 0 by exact Aa8 hd]; rfl
    rw [this]
    show N ρ H
    exact hN _ _ (by rw [show y = x by exact Eq.trans hd (Int.add_zero _)]; exact h0)
  | succ d ih =>
    have : B4 x y = .int x :: B4 (x + 1) y := Hl (by exact oR6 hd)
    rw [this]
    unfold Ej
    have h1 := hs x ρ H (by exact Int.le_refl _) (by exact oR6 hd) h0
    cases e : step (.int x) ρ H with
    | next ρ' H' =>
      rw [e] at h1
      simp only [List.all_nil, if_true]
      exact ih (by exact Aaw hd) h1 (fun i ρ H hi hy q => hs i ρ H (by exact Int.le_of_lt hi) hy q) (by (first | lia | omega))
    | ret v H' => rw [e] at h1; exact h1
    | exc c H' => rw [e] at h1; exact h1
    | bad => rw [e] at h1; exact h1
end
end Mine
namespace Mine
open PySem
noncomputable def P8 : FnI := ⟨2, 2, .cons (.ite (.cmp .Lt (.var 1) (.prim .len (.cons (.var 0) .nil))) (.cons (.ret (.idx (.var 0) (.var 1))) .nil) .nil) (.cons (.ret (.int 0)) .nil)⟩
noncomputable def Qn : FnI := ⟨2, 2, .cons (.ret (.bin .Mod (.bin .Add (.bin .Mult (.call 5 (.cons (.var 0) (.cons (.var 1) .nil))) (.int 48271)) (.bin .Mult (.bin .Mult (.int 7919) (.var 1)) (.var 1))) (.int 1000003))) .nil⟩
noncomputable def N8 : FnI := ⟨2, 3, .cons (.for1 2 (.range2 (.var 1) (.prim .len (.cons (.var 0) .nil))) (.cons (.ite (.cmp .NotEq (.idx (.idx (.var 0) (.var 2)) (.var 1)) (.int 0)) (.cons (.ret (.var 2)) .nil) .nil) .nil)) (.cons (.ret .none) .nil)⟩
section
variable {strF : Bi} {sc : List Int} {P : Nat → Option FnI} {H : A0} {n : Nat}
noncomputable def Ko (sc : List Int) (k : Nat) : Int := sc.getD k 0
noncomputable def mix (sc : List Int) (k : Nat) : Int := (Ko sc k * 48271 + 7919 * k * k).fmod 1000003
theorem Yh (sc : List Int) (k : Nat) : 0 ≤ mix sc k ∧ mix sc k < 1000003 := by
  unfold mix
  exact ⟨Int.fmod_nonneg_of_pos _ (by decide), Int.fmod_lt_of_pos _ (by decide)⟩
theorem Zx (h5 : P 5 = some P8) (k : Nat) : Al strF P sc (n + 1) 5 [.scr, .int k] H = .ok (.int (Ko sc k)) H := by
  have : (Al strF P sc (n + 1) 5 [.scr, .int k] H).sat fun v H' => v = .int (Ko sc k) ∧ H' = H := by
    rw [Nt h5 rfl]
    simp only [P8, Bt, Qf, M3, Xi, Wf, Xw, A10, A13, Wx, A0c, A1b, A4d, A04, M5, A35, A7j, Rf, M4, Nz, Qh, Va, Oe, Vq, Rq, Og, Oh, O9, Kr, Xc, Nd, A3g, A21, A81, Aal, A8z, Wi, Xa, Res.sat_get, Res.sat_ok, List.map, List.cons_append, List.nil_append, List.getElem?_cons_zero, List.getElem?_cons_succ, Res.get, Res.thn, A17, Mo, A1n, Mg, Nn, N0, A4i, A16, A1v, A0o, A0g, We, Ug, Ts, Pj, A2b, A8p, A8n, Ym, A84, A7q, Uh, Ab2, A87, Qj, Abu, Cl]
    by_cases h : k < sc.length
    · have : decide ((k : Int) < (sc.length : Int)) = true := by simpa using h
      simp [this, Res.sat, h, Ko]
    · have : decide ((k : Int) < (sc.length : Int)) = false := by simpa using h
      have hn : sc[k]? = none := List.getElem?_eq_none (by exact oGe h)
      simp [h, hn, Res.sat, Ko]
  obtain ⟨v, H', e, rfl, rfl⟩ := Res.sat_ex this
  exact e
theorem G0 {i : Int} (h : i.natAbs < 2 ^ 60) : K2 i = true := by unfold K2; simpa using h
theorem K3 (h5 : P 5 = some P8) (h6 : P 6 = some Qn) {k : Nat} (hk : k < 1000) : Al strF P sc (n + 2) 6 [.scr, .int k] H = .ok (.int (mix sc k)) H := by
  have : (Al strF P sc (n + 2) 6 [.scr, .int k] H).sat fun v H' => v = .int (mix sc k) ∧ H' = H := by
    rw [Nt h6 rfl]
    have m1 : E0 (Ko sc k) 48271 = true := by unfold E0; rw [G0 (i := 48271) (by decide)]; simp
    have m2 : E0 7919 k = true := by unfold E0; rw [G0 (i := 7919) (by decide)]; simp
    have m3 : E0 (7919 * (k : Int)) k = true := by unfold E0; rw [G0 (i := (k : Int)) (Nat.lt_trans hk (by decide))]; simp
    simp only [Qn, Bt, M3, Xi, Wf, Xw, A10, A13, Wx, A0c, A1b, A4d, A04, M5, A35, A7j, Rf, M4, Nz, Qh, Va, Oe, Vq, Rq, Og, Oh, O9, Kr, Xc, Nd, Res.sat_get, Res.sat_ok, List.map, List.cons_append, List.nil_append, List.getElem?_cons_zero, List.getElem?_cons_succ, Res.get, Res.thn, De, Df, Sx, A1z, Ws, A6z, Re, Zx h5, m1, m2, m3, if_true]
    simp [Res.sat, mix]
  obtain ⟨v, H', e, rfl, rfl⟩ := Res.sat_ex this
  exact e
end
noncomputable def Fd (n : Nat) (f : Nat → Int) : List AV := (List.range n).map fun j => .int (f j)
theorem C1 {n : Nat} {f : Nat → Int} : (Fd n f).length = n := by unfold Fd; simp
theorem G6 {n : Nat} {f : Nat → Int} {j : Nat} (h : j < n) : (Fd n f)[j]? = some (.int (f j)) := by
  unfold Fd; rw [List.getElem?_map, List.getElem?_range h]; rfl
theorem A2d {n : Nat} {f : Nat → Int} {j : Nat} {x : Int} : (Fd n f).set j (.int x) = Fd n fun b => if b = j then x else f b := by
  apply List.ext_getElem?
  intro i
  by_cases hi : i < n
  · rw [List.getElem?_set, G6 hi, C1]
    by_cases q : j = i
    · subst q; rw [if_pos rfl, if_pos hi, G6 hi, if_pos rfl]
    · rw [if_neg q, G6 hi, if_neg (Ne.symm q)]
  · rw [List.getElem?_eq_none (by simpa [C1] using hi), List.getElem?_eq_none (by simpa [C1] using hi)]
theorem Jc {n : Nat} {f g : Nat → Int} (h : ∀ j, j < n → f j = g j) : Fd n f = Fd n g := by
  unfold Fd
  exact List.map_congr_left fun j hj => by rw [h j (List.mem_range.mp hj)]
structure Z9 (H : A0) (t : Nat) (qs : List Nat) (n : Nat) (A : Mat) : Prop where
  top : H[t]? = some (.list (qs.map .ref))
  len : qs.length = n
  row : ∀ {i q : Nat}, qs[i]? = some q → H[q]? = some (.list (Fd n (A i)))
section
variable {sc : List Int} {H : A0} {t n : Nat} {qs : List Nat} {A : Mat}
theorem Bk {r : Nat} {xs : List AV} {x : AV} {k : Nat} (h : H[r]? = some (.list xs)) (hx : xs[k]? = some x) : Cl sc (.ref r) (.int k) H = .ok x H := by
  have hk : k < xs.length := (List.getElem?_eq_some_iff.mp hx).1
  unfold Cl Af at?
  simp only [h]
  rw [if_pos ⟨by exact oNN _, by exact Ky hk⟩]
  simp [hx]
inductive AtR (sc : List Int) (H : A0) (t : Nat) (qs : List Nat) (n : Nat) (A : Mat) (i : Nat) : Prop
  | mk (q : Nat) (e : qs[i]? = some q) (g : Cl sc (.ref t) (.int i) H = .ok (.ref q) H) (r : H[q]? = some (.list (Fd n (A i)))) : AtR sc H t qs n A i
theorem Z9.at (T : Z9 H t qs n A) {i : Nat} (hi : i < n) : AtR sc H t qs n A i := by
  have hl : i < qs.length := by rw [T.len]; exact hi
  refine ⟨qs[i], List.getElem?_eq_getElem hl, Bk T.top (by rw [List.getElem?_map, List.getElem?_eq_getElem hl]; rfl), T.row (List.getElem?_eq_getElem hl)⟩
theorem Eg {q i j : Nat} (h : H[q]? = some (.list (Fd n (A i)))) (hj : j < n) : Cl sc (.ref q) (.int j) H = .ok (.int (A i j)) H := Bk h (G6 hj)
end
end Mine
namespace Mine
open PySem
structure G8 (H0 H : A0) (t : Nat) (qs : List Nat) (n : Nat) (A : Mat) : Prop where
  rd : Z9 H t qs n A
  pre : H0 <+: H
  ht : H0.length ≤ t
  inj : ∀ {i j q : Nat}, qs[i]? = some q → qs[j]? = some q → i = j
  tq : ∀ {i : Nat}, qs[i]? ≠ some t
  ge : ∀ {i q : Nat}, qs[i]? = some q → H0.length ≤ q
theorem C2 {H0 H : A0} {r : Nat} {o : Br} (p : H0 <+: H) (h : H0.length ≤ r) : H0 <+: H.set r o := by
  obtain ⟨x, rfl⟩ := p
  rw [List.set_append_right _ _ h]
  exact List.prefix_append ..
section
variable {H0 H : A0} {t n : Nat} {qs : List Nat} {A : Mat}
theorem G8.cell (T : G8 H0 H t qs n A) {i j q : Nat} {x : Int} (hq : qs[i]? = some q) (hj : j < n) :
    Gr H0.length (.ref q) (.int j) (.int x) H = .ok () (H.set q (.list (Fd n fun b => if b = j then x else A i b))) ∧
    G8 H0 (H.set q (.list (Fd n fun b => if b = j then x else A i b))) t qs n fun a b => if a = i ∧ b = j then x else A a b := by
  have hr := T.rd.row hq
  have hlt : q < H.length := (List.getElem?_eq_some_iff.mp hr).1
  constructor
  · unfold Gr
    simp only [hr, C1]
    rw [if_pos ⟨T.ge hq, by exact oNN _, by exact Ky hj⟩]
    simp [A2d]
  · refine ⟨⟨?_, T.rd.len, ?_⟩, C2 T.pre (T.ge hq), T.ht, T.inj, T.tq, T.ge⟩
    · rw [List.getElem?_set_ne (fun e => T.tq (e ▸ hq))]; exact T.rd.top
    · intro i' q' hq'
      by_cases e : i' = i
      · subst e
        rw [hq] at hq'; cases hq'
        rw [List.getElem?_set_self hlt]
        congr 1; congr 1
        exact Jc fun b _ => by by_cases h : b = j <;> simp [h]
      · have : q ≠ q' := fun e' => e (T.inj hq' (e' ▸ hq))
        rw [List.getElem?_set_ne this, T.rd.row hq']
        congr 1; congr 1
        exact Jc fun b _ => by simp [e]
theorem K4 {r s p q : Nat} (hp : qs[r]? = some p) (hq : qs[s]? = some q) (hrs : r ≠ s) (i : Nat) : ((qs.set r q).set s p)[i]? = qs[swp r s i]? := by
  have hr : r < qs.length := (List.getElem?_eq_some_iff.mp hp).1
  have hs : s < qs.length := (List.getElem?_eq_some_iff.mp hq).1
  unfold swp
  by_cases e1 : i = r
  · subst e1
    rw [if_pos rfl, List.getElem?_set_ne (Ne.symm hrs), List.getElem?_set_self hr, hq]
  · rw [if_neg e1]
    by_cases e2 : i = s
    · subst e2
      rw [if_pos rfl, List.getElem?_set_self (by simpa using hs), hp]
    · rw [if_neg e2, List.getElem?_set_ne (Ne.symm e2), List.getElem?_set_ne (Ne.symm e1)]
theorem Y9 (r s i : Nat) : swp r s (swp r s i) = i := by unfold swp; split <;> split <;> (try split) <;> (first | lia | omega)
theorem G8.swap (T : G8 H0 H t qs n A) {r s p q : Nat} (hp : qs[r]? = some p) (hq : qs[s]? = some q) (hrs : r ≠ s) {o : Br} :
    G8 H0 ((H.set t o).set t (.list (((qs.set r q).set s p).map .ref))) t ((qs.set r q).set s p) n fun a => A (swp r s a) := by
  have hlt : t < H.length := (List.getElem?_eq_some_iff.mp T.rd.top).1
  refine ⟨⟨by rw [List.getElem?_set_self (by simpa using hlt)], by simp [T.rd.len], ?_⟩, C2 (C2 T.pre T.ht) T.ht, ?_, ?_, ?_, ?_⟩
  · intro i q' e
    rw [K4 hp hq hrs] at e
    have : t ≠ q' := fun e' => T.tq (e' ▸ e)
    rw [List.getElem?_set_ne this, List.getElem?_set_ne this, T.rd.row e]
  · exact T.ht
  · intro i j q' e1 e2
    rw [K4 hp hq hrs] at e1 e2
    have := T.inj e1 e2
    have h := congrArg (swp r s) this
    rwa [Y9, Y9] at h
  · intro i e
    rw [K4 hp hq hrs] at e; exact T.tq e
  · intro i q' e
    rw [K4 hp hq hrs] at e; exact T.ge e
theorem G8.congr (T : G8 H0 H t qs n A) {B : Mat} (h : ∀ a b, a < n → b < n → A a b = B a b) : G8 H0 H t qs n B :=
  ⟨⟨T.rd.top, T.rd.len, fun {i q} e => by
    rw [T.rd.row e]
    have : i < n := by rw [← T.rd.len]; exact (List.getElem?_eq_some_iff.mp e).1
    congr 1; congr 1
    exact Jc fun b hb => h i b this hb⟩, T.pre, T.ht, T.inj, T.tq, T.ge⟩
end
theorem A3a : ∀ k, k < 8 → Sv (k + 1) * (2 ^ 60) ^ (k + 1) < 2 ^ 5000 := by decide
theorem Xj {M : Mat} {n k i j : Nat} (hB : ∀ a b, a < n → b < n → (M a b).natAbs ≤ 2 ^ 60) (hn : n ≤ 8) (hk : k < n) (hi : i < n) (hj : j < n) : (E M k i j).natAbs < big :=
  Nat.lt_of_le_of_lt (Yy (n := k + 1) (M := fun a b => M (sel k i a) (sel k j b)) (B := 2 ^ 60) fun a b ha hb => hB _ _ (by unfold sel; split <;> (first | exact Dz (by assumption) hk | exact hi)) (by unfold sel; split <;> (first | exact Dz (by assumption) hk | exact hj))) (A3a k (Nat.lt_of_lt_of_le hk hn))
theorem Yv {a b : Int} (ha : a.natAbs < big) (hb : b.natAbs < big) : E0 a b = true := by unfold E0; simp [ha, hb]
noncomputable def Ow : PS := .for1 7 (.range2 (.bin .Add (.var 3) (.int 1)) (.prim .len (.cons (.var 0) .nil))) (.cons (.assign 8 (.bin .Sub (.bin .Mult (.idx (.idx (.var 0) (.var 6)) (.var 7)) (.idx (.idx (.var 0) (.var 3)) (.var 3))) (.bin .Mult (.idx (.idx (.var 0) (.var 6)) (.var 3)) (.idx (.idx (.var 0) (.var 3)) (.var 7))))) (.cons (.setIdx (.idx (.var 0) (.var 6)) (.var 7) (.bin .FloorDiv (.var 8) (.var 2))) .nil))
noncomputable def A22 : PS := .for1 6 (.range2 (.bin .Add (.var 3) (.int 1)) (.prim .len (.cons (.var 0) .nil))) (.cons Ow .nil)
section
variable {strF : Bi} {cf : Nat → List AV → A0 → Res AV} {sc : List Int} {H0 H : A0} {t n k : Nat} {qs : List Nat} {A M : Mat} {sg last : Int} {ρ : A8} {N : A8 → A0 → Prop} {R : AV → A0 → Prop}
noncomputable def Ht (M A : Mat) (k i p : Nat) : Mat := fun a b => if k < a ∧ k < b ∧ (a < i ∨ (a = i ∧ b < p)) then E M (k + 1) a b else A a b
end
end Mine
namespace Mine
open PySem
theorem Jz {H : A0} {r : Nat} {xs : List AV} (h : H[r]? = some (.list xs)) : G2 H r xs = true := by
  unfold G2
  rw [h]
  simp
theorem Ab {H H' : A0} {r : Nat} {o : Br} (p : H <+: H') (h : H[r]? = some o) : H'[r]? = some o := by
  obtain ⟨x, rfl⟩ := p
  rw [List.getElem?_append_left (List.getElem?_eq_some_iff.mp h).1]; exact h
noncomputable def Q7 : FnI := ⟨1, 9, .cons (.assign 0 (.comp1 (.prim .list (.cons (.var 0) .nil)) (.of (.var 0)) .none)) (.cons (.assign 1 (.int 1)) (.cons (.assign 2 (.int 1)) (.cons (.for1 3 (.range1 (.prim .len (.cons (.var 0) .nil))) (.cons (.assign 4 (.call 19 (.cons (.var 0) (.cons (.var 3) .nil)))) (.cons (.ite (.cmp .Is (.var 4) .none) (.cons (.ret (.int 0)) .nil) .nil) (.cons (.ite (.cmp .NotEq (.var 4) (.var 3)) (.cons (.assign 5 (.idx (.var 0) (.var 3))) (.cons (.setIdx (.var 0) (.var 3) (.idx (.var 0) (.var 4))) (.cons (.setIdx (.var 0) (.var 4) (.var 5)) (.cons (.assign 1 (.neg (.var 1))) .nil)))) .nil) (.cons (.for1 6 (.range2 (.bin .Add (.var 3) (.int 1)) (.prim .len (.cons (.var 0) .nil))) (.cons (.for1 7 (.range2 (.bin .Add (.var 3) (.int 1)) (.prim .len (.cons (.var 0) .nil))) (.cons (.assign 8 (.bin .Sub (.bin .Mult (.idx (.idx (.var 0) (.var 6)) (.var 7)) (.idx (.idx (.var 0) (.var 3)) (.var 3))) (.bin .Mult (.idx (.idx (.var 0) (.var 6)) (.var 3)) (.idx (.idx (.var 0) (.var 3)) (.var 7))))) (.cons (.setIdx (.idx (.var 0) (.var 6)) (.var 7) (.bin .FloorDiv (.var 8) (.var 2))) .nil))) .nil)) (.cons (.assign 2 (.idx (.idx (.var 0) (.var 3)) (.var 3))) .nil)))))) (.cons (.ret (.bin .Mult (.var 1) (.var 2))) .nil))))⟩
noncomputable def Aaq : PSs := .cons (.assign 5 (.idx (.var 0) (.var 3))) (.cons (.setIdx (.var 0) (.var 3) (.idx (.var 0) (.var 4))) (.cons (.setIdx (.var 0) (.var 4) (.var 5)) (.cons (.assign 1 (.neg (.var 1))) .nil)))
noncomputable def A79 : PSs := .cons A22 (.cons (.assign 2 (.idx (.idx (.var 0) (.var 3)) (.var 3))) .nil)
noncomputable def Ab4 : PSs := .cons (.assign 4 (.call 19 (.cons (.var 0) (.cons (.var 3) .nil)))) (.cons (.ite (.cmp .Is (.var 4) .none) (.cons (.ret (.int 0)) .nil) .nil) (.cons (.ite (.cmp .NotEq (.var 4) (.var 3)) Aaq .nil) A79))
theorem A6o (M : Mat) (i j : Nat) : E M 0 i j = M i j := by simp [E, det, Av, sgn, sel]
theorem A28 {r s n i : Nat} (hr : r < n) (hs : s < n) (hi : i < n) : swp r s i < n := by unfold swp; split <;> (try split) <;> (first | exact hs | exact hr | exact hi)
theorem A8q {r s k i : Nat} (hr : k ≤ r) (hs : k ≤ s) (hi : k ≤ i) : k ≤ swp r s i := by unfold swp; split <;> (try split) <;> (first | exact hs | exact hr | exact hi)
structure A1l (M0 : Mat) (H0 : A0) (t n k : Nat) (sg last : Int) (M A : Mat) (qs : List Nat) (H : A0) : Prop where
  T : G8 H0 H t qs n A
  hA : ∀ i j, k ≤ i → i < n → k ≤ j → j < n → A i j = E M k i j
  hB : ∀ a b, a < n → b < n → (M a b).natAbs ≤ 2 ^ 60
  hq : det k M = last
  hq0 : last ≠ 0
  hs : sg = 1 ∨ sg = -1
  hd : sg * det n M = det n M0
  hl : last.natAbs < big
end Mine
namespace Mine
open PySem
theorem Ah (H : A0) (o : Br) : (H ++ [o])[H.length]? = some o := by simp
theorem Ag (H X : A0) : H <+: H ++ X := List.prefix_append ..
section
variable {strF : Bi} {sc : List Int} {P : Nat → Option FnI} {H : A0} {n m : Nat} {ρ : A8}
theorem Oo {step : AV → A0 → Res (Option AV)} (f : Nat → Int) : ∀ (l : List Nat), (∀ k ∈ l, step (.int k) H = .ok (some (.int (f k))) H) →
    Bp [] step (l.map fun (k : Nat) => AV.int (k : Int)) H = .ok (l.map fun k => AV.int (f k)) H
  | [], _ => rfl
  | k :: l, h => by
    rw [List.map_cons, Bp, h k List.mem_cons_self]
    simp only [Res.get, List.all_nil, if_true, Oo f l fun k hk => h k (List.mem_cons_of_mem _ hk), Wz, List.map_cons]
theorem Mq (n : Nat) : B4 0 n = (List.range n).map fun (k : Nat) => AV.int (k : Int) := by
  unfold B4
  simp
end
end Mine
namespace Mine
open PySem
end Mine
namespace Mine
open PySem
end Mine
namespace Mine
open PySem
section
variable {strF : Bi} {sc : List Int} {P : Nat → Option FnI} {H : A0} {n m : Nat} {ρ : A8} {N : A8 → A0 → Prop} {R : AV → A0 → Prop} {t : Nat} {due : Int} {A : Mat} {qs : List Nat}
inductive Aam (c : Int) (n : Nat) : Prop
  | mk (k : Nat) (e : c.fmod n = k) (h : k < n) : Aam c n
theorem Bz {c : Int} {n : Nat} (hn : 0 < n) : Aam c n := by
  have h1 : 0 ≤ c.fmod n := Int.fmod_nonneg_of_pos _ (by exact Ky hn)
  have h2 : c.fmod n < n := Int.fmod_lt_of_pos _ (by exact Ky hn)
  exact ⟨(c.fmod n).toNat, by exact Ql h1, by exact A9t h1 h2⟩
theorem K0 {i : Int} (h1 : -1000 ≤ i) (h2 : i ≤ 1000) : K2 i = true := G0 (Nat.lt_trans (show i.natAbs < 2000 by exact Abg h1 h2) (by decide))
theorem A67 {i : Int} (h : i.natAbs < 1000000) : i.natAbs < big := Nat.lt_of_lt_of_le h (by decide)
end
end Mine
namespace Mine
open PySem
end Mine
namespace Mine
open PySem
theorem A55 {n : Nat} (h : n ≤ 1000) : inR (n : Int) = true := by unfold inR; simp; exact Qg h
theorem A4v {n : Nat} (h : n ≤ 1000) : n ≤ lim := Nat.le_trans h (by decide)
end Mine
namespace Mine
open PySem
end Mine
namespace Mine
theorem A23 (p : Nat) : cyc p 0 = p := if_pos rfl
theorem A3f (p a : Nat) : cyc p (a + 1) = skip p a := by
  unfold cyc skip
  rw [if_neg (by exact Nat.succ_ne_zero _)]
  by_cases h : a < p
  · rw [if_pos (by exact h), if_pos h]; rfl
  · rw [if_neg (by exact h), if_neg h]
theorem A2s {n p : Nat} (M : Mat) (hp : p < n + 1) : det (n + 1) M = sgn p * Av (n + 1) fun j => sgn j * M p j * det n (fun a b => M (skip p a) (skip j b)) := by
  have h1 := Xd (n := n + 1) p M hp
  have h2 := Nq (n := n) fun a => M (cyc p a)
  rw [h1] at h2
  simp only [A23, A3f] at h2
  rw [← h2, ← Int.mul_assoc, Rd, Int.one_mul]
noncomputable def Ml (q b : Nat) : Int := if b = q then 1 else 0
theorem Of {n p q : Nat} (M : Mat) (hp : p < n + 1) (hq : q < n + 1) : det (n + 1) (upd M p (Ml q)) = sgn p * sgn q * det n (fun a b => M (skip p a) (skip q b)) := by
  rw [A2s _ hp, Kg (r := q) hq fun j _ hj => by rw [Da]; unfold Ml; rw [if_neg hj]; simp]
  rw [Da, show Ml q q = 1 from if_pos rfl, Int.mul_one, Int.mul_assoc]
  congr 2
  exact Bl fun a b _ _ => Di _ _ (Jt p a)
theorem Te {n s : Nat} {N : Mat} {c : Nat → Int} (hs : s < n) (hc : c s = 0) : ∀ k, k ≤ n → det n (upd N s fun b => N s b + Av k fun a => c a * N a b) = det n N := by
  intro k
  induction k with
  | zero =>
    intro _
    congr 1
    funext a b; unfold upd; split
    · subst_vars; simp [Av]
    · rfl
  | succ k ih =>
    intro hk
    have h := I4 (n := n) (M := N) (r := s) (x := 1) (y := c k) (u := fun b => N s b + Av k fun a => c a * N a b) (v := N k) hs
    rw [ih (by exact Nat.le_of_lt hk)] at h
    have e : (upd N s fun b => 1 * (N s b + Av k fun a => c a * N a b) + c k * N k b) = upd N s fun b => N s b + Av (k + 1) fun a => c a * N a b := by
      funext a b; unfold upd; split
      · show 1 * (N s b + Av k fun a => c a * N a b) + c k * N k b = N s b + Av (k + 1) fun a => c a * N a b
        rw [Dh, Int.one_mul, Int.add_assoc]
      · rfl
    rw [e] at h
    rw [h]
    by_cases hks : k = s
    · rw [hks, hc]; simp
    · have z : det n (upd N s (N k)) = 0 := Lx (r := s) (s := k) hs (by exact hk) (Ne.symm hks) fun b _ => by rw [Da, Di _ _ hks]
      rw [z]; simp
theorem T9 {n r s : Nat} {L : Mat} {x : Nat → Int} (hr : r < n) (hs : s < n) (hz : ∀ b, b < n → Av n (fun a => L a b) = 0) : det n (upd L r x) = det n (upd L s x) := by
  by_cases hrs : r = s
  · rw [hrs]
  have h1 := Te (n := n) (s := s) (N := upd L r x) (c := fun a => if a = r ∨ a = s then 0 else 1) hs (by simp) n (Nat.le_refl _)
  have hsum : ∀ b, b < n → upd L r x s b + Av n (fun a => (if a = r ∨ a = s then (0 : Int) else 1) * upd L r x a b) = -1 * L r b + 0 * L r b := by
    intro b hb
    have e : Av n (fun a => L a b) = Av n (fun a => (if a = r ∨ a = s then (0 : Int) else 1) * upd L r x a b) + Av n (fun a => if a = r ∨ a = s then L a b else 0) := by
      rw [← Fv]
      refine Ay fun a _ => ?_
      by_cases q : a = r ∨ a = s
      · rw [if_pos q, if_pos q]; simp
      · rw [if_neg q, if_neg q, Di _ _ fun e => q (.inl e)]; simp
    rw [hz b hb, To (r := r) (s := s) hr hs hrs fun i _ h1 h2 => if_neg (fun q => q.elim h1 h2), if_pos (.inl rfl), if_pos (.inr rfl)] at e
    rw [Di _ _ (Ne.symm hrs), Int.zero_mul, Int.add_zero, Int.neg_mul, Int.one_mul]
    exact (Int.neg_eq_of_add_eq_zero (((Int.add_assoc _ _ _).symm.trans (Int.add_comm _ _)).trans e.symm)).symm
  have h2 : det n (upd (upd L r x) s fun b => -1 * L r b + 0 * L r b) = det n (upd L r x) := by
    rw [← h1]
    refine Bl fun a b _ hb => ?_
    unfold upd
    split
    · exact (hsum b hb).symm
    · rfl
  have h3 := I4 (n := n) (M := upd L r x) (r := s) (x := -1) (y := 0) (u := L r) (v := L r) hs
  rw [h2] at h3
  have h4 := Mb hr hs hrs (upd (upd L r x) s (L r))
  have h5 : (fun a => upd (upd L r x) s (L r) (swp r s a)) = upd L s x := by
    funext a b
    unfold upd swp
    by_cases q1 : a = r
    · subst q1; simp [hrs]
    · by_cases q2 : a = s
      · subst q2; simp [hrs, q1]
      · simp [q1, q2]
  rw [h5] at h4
  rw [h3, h4, Int.zero_mul, Int.add_zero, Int.neg_mul, Int.one_mul]
noncomputable def cof (n : Nat) (L : Mat) (p : Nat) : Int := det n fun a b => L (skip p a) (skip p b)
theorem Mw {n p : Nat} (L : Mat) (hp : p < n + 1) : det (n + 1) (upd L p (Ml p)) = cof n L p := by
  rw [Of _ hp hp, Rd, Int.one_mul]; rfl
theorem A8g {n p q : Nat} {L : Mat} (hs : ∀ a b, L a b = L b a) (hz : ∀ b, b < n + 1 → Av (n + 1) (fun a => L a b) = 0) (hp : p < n + 1) (hq : q < n + 1) : cof n L p = cof n L q := by
  have h1 : cof n L p = sgn q * sgn p * det n (fun a b => L (skip q a) (skip p b)) := by rw [← Mw L hp, T9 (s := q) hp hq hz, Of _ hq hp]
  have h2 : cof n L q = sgn p * sgn q * det n (fun a b => L (skip p a) (skip q b)) := by rw [← Mw L hq, T9 (s := p) hq hp hz, Of _ hp hq]
  rw [h1, h2, Int.mul_comm (sgn q), ← Dn]
  congr 2
  funext a b
  exact hs _ _
noncomputable def isP (i p : Nat) : Int := if i = p then 1 else 0
noncomputable def Hc (e : Nat × Nat) (i j : Nat) : Int := (isP i e.1 - isP i e.2) * (isP j e.1 - isP j e.2)
noncomputable def lap : List (Nat × Nat) → Mat
  | [], _, _ => 0
  | e :: es, i, j => Hc e i j + lap es i j
theorem Qd (A B : List (Nat × Nat)) (i j : Nat) : lap (A ++ B) i j = lap A i j + lap B i j := by
  induction A with
  | nil => simp [lap]
  | cons e A ih => simp only [List.cons_append, lap, ih, Int.add_assoc]
theorem A6f (A B : List (Nat × Nat)) (e : Nat × Nat) (i j : Nat) : lap (A ++ e :: B) i j = lap (A ++ B) i j + Hc e i j := by
  rw [Qd, Qd, lap]; exact Eq.trans (Int.add_left_comm _ _ _) (Int.add_comm _ _)
theorem A5i (E : List (Nat × Nat)) (i j : Nat) : lap E i j = lap E j i := by
  induction E with
  | nil => rfl
  | cons e E ih => simp only [lap, ih, Hc, Int.mul_comm]
theorem W7 {n p : Nat} (hp : p < n) : Av n (fun i => isP i p) = 1 := by
  have h := Kg (n := n) (r := p) (f := fun i => isP i p) hp fun i _ h => if_neg h
  rw [h]; exact if_pos rfl
noncomputable def okT (n : Nat) (E : List (Nat × Nat)) : Prop := ∀ e ∈ E, e.1 < n ∧ e.2 < n
theorem A1a {n : Nat} {E : List (Nat × Nat)} (h : okT n E) (j : Nat) : Av n (fun i => lap E i j) = 0 := by
  induction E with
  | nil => exact Ip fun _ _ => rfl
  | cons e E ih =>
    simp only [lap]
    rw [Fv, ih fun x hx => h x (List.mem_cons_of_mem _ hx)]
    simp only [Hc]
    rw [Q2]
    have h1 := W7 (h e List.mem_cons_self).1
    have h2 := W7 (h e List.mem_cons_self).2
    have : Av n (fun i => isP i e.1 - isP i e.2) = 0 := by
      have q := Fv (n := n) (f := fun i => isP i e.1) (g := fun i => -1 * isP i e.2)
      rw [Fy, h1, h2] at q
      rw [← show (1 : Int) + -1 * 1 = 0 from rfl, ← q]
      exact Ay fun i _ => by (first | lia | omega)
    rw [this]; simp
noncomputable def tau (n : Nat) (E : List (Nat × Nat)) : Int := det (n - 1) fun a b => lap E (a + 1) (b + 1)
theorem Qr {n p : Nat} {E : List (Nat × Nat)} (h : okT (n + 1) E) (hp : p < n + 1) : cof n (lap E) p = tau (n + 1) E := by
  rw [A8g (q := 0) (A5i E) (fun b _ => A1a h b) hp (by exact Nat.succ_pos _)]; rfl
theorem Pd {e : Nat × Nat} (h : e.1 = e.2) (i j : Nat) : Hc e i j = 0 := by unfold Hc; rw [h]; simp
theorem Zg (a b i j : Nat) : Hc (a, b) i j = Hc (b, a) i j := by
  unfold Hc; simp only; generalize isP i a = x; generalize isP i b = y; generalize isP j a = z; generalize isP j b = w; grind
noncomputable def join (lo hi p : Nat) : Nat := if p = hi then lo else if p < hi then p else p - 1
noncomputable def Eu (lo hi : Nat) (e : Nat × Nat) : Nat × Nat := (join lo hi e.1, join lo hi e.2)
theorem S9 {lo hi i p : Nat} (hl : lo < hi) (hi' : i ≠ lo) : isP i (join lo hi p) = isP (skip hi i) p := by
  unfold isP join skip
  by_cases q : p = hi
  · rw [if_pos q, if_neg hi']
    split <;> rw [if_neg (by (first | exact fun e2 => Nat.ne_of_lt (by assumption) (Eq.trans e2 q) | exact Nat.ne_of_gt (Sh q (oGt (by assumption)))))]
  · rw [if_neg q]
    by_cases q2 : p < hi
    · rw [if_pos q2]
      by_cases q3 : i < hi
      · rw [if_pos q3]
      · rw [if_neg q3, if_neg (by exact fun e2 => q3 (Sh e2 q2)), if_neg (by exact Nat.ne_of_gt (Dz q2 (oGt q3)))]
    · rw [if_neg q2]
      by_cases q3 : i < hi
      · rw [if_pos q3, if_neg (by exact Abv q q2 q3), if_neg (by exact Nat.ne_of_lt (Nat.lt_of_lt_of_le q3 (oGe q2)))]
      · rw [if_neg q3]
        by_cases q4 : i = p - 1
        · rw [if_pos q4, if_pos (by exact Aai hl q2 q4)]
        · rw [if_neg q4, if_neg (by exact fun e => q4 (congrArg (· - 1) e))]
theorem A0l {lo hi i j : Nat} (hl : lo < hi) (h1 : i ≠ lo) (h2 : j ≠ lo) (E : List (Nat × Nat)) : lap (E.map (Eu lo hi)) i j = lap E (skip hi i) (skip hi j) := by
  induction E with
  | nil => rfl
  | cons e E ih =>
    simp only [List.map_cons, lap, ih]
    simp only [Hc, Eu, S9 hl h1, S9 hl h2]
theorem Id {n lo hi z : Nat} (hl : lo < hi) (hh : hi < n + 1) (hz : z < n + 1) : join lo hi z < n := by
  unfold join
  split
  · exact Nat.lt_of_lt_of_le hl (Nat.le_of_lt_succ hh)
  · rename_i q
    split
    · rename_i r; exact Nat.lt_of_lt_of_le r (Nat.le_of_lt_succ hh)
    · rename_i r; exact Nat.lt_of_lt_of_le (Nat.sub_lt (Nat.lt_of_le_of_lt (Nat.zero_le _) (Nat.lt_of_lt_of_le hl (Nat.le_of_not_lt r))) Nat.one_pos) (Nat.le_of_lt_succ hz)
theorem Np {n lo hi : Nat} {E : List (Nat × Nat)} (hl : lo < hi) (hh : hi < n + 1) (h : okT (n + 1) E) : okT n (E.map (Eu lo hi)) := by
  intro e he
  obtain ⟨x, hx, rfl⟩ := List.mem_map.mp he
  have := h x hx
  exact ⟨Id hl hh this.1, Id hl hh this.2⟩
theorem Pg {lo hi a : Nat} (hl : lo < hi) : skip hi (skip lo a) = skip lo (skip (hi - 1) a) := by
  by_cases h : a < lo
  · exact ((congrArg (skip hi) (if_pos h : skip lo a = a)).trans (if_pos (Nat.lt_trans h hl) : skip hi a = a)).trans ((congrArg (skip lo) (if_pos (Nat.lt_of_lt_of_le h (Nat.le_sub_of_add_le hl)) : skip (hi - 1) a = a)).trans (if_pos h : skip lo a = a)).symm
  · by_cases q : a + 1 < hi
    · exact ((congrArg (skip hi) (if_neg h : skip lo a = a + 1)).trans (if_pos q : skip hi (a + 1) = a + 1)).trans ((congrArg (skip lo) (if_pos (Nat.lt_sub_of_add_lt q) : skip (hi - 1) a = a)).trans (if_neg h : skip lo a = a + 1)).symm
    · exact ((congrArg (skip hi) (if_neg h : skip lo a = a + 1)).trans (if_neg q : skip hi (a + 1) = a + 1 + 1)).trans ((congrArg (skip lo) (if_neg (fun r => q (Nat.add_lt_of_lt_sub r)) : skip (hi - 1) a = a + 1)).trans (if_neg (fun r => h (Nat.lt_of_succ_lt r)) : skip lo (a + 1) = a + 1 + 1)).symm
theorem O5 {n lo hi : Nat} {A B : List (Nat × Nat)} (hl : lo < hi) (hh : hi < n + 2) (h : okT (n + 2) (A ++ B)) :
    tau (n + 2) (A ++ (lo, hi) :: B) = tau (n + 2) (A ++ B) + tau (n + 1) ((A ++ B).map (Eu lo hi)) := by
  have h' : okT (n + 2) (A ++ (lo, hi) :: B) := by
    intro e he
    rcases List.mem_append.mp he with q | q
    · exact h e (List.mem_append_left _ q)
    · rcases List.mem_cons.mp q with rfl | q
      · exact ⟨by exact Dz hl hh, hh⟩
      · exact h e (List.mem_append_right _ q)
  rw [← Qr (p := lo) h' (by exact Dz hl hh), ← Qr (p := lo) h (by exact Dz hl hh), ← Qr (p := lo) (Np hl hh h) (by exact Nat.le_of_lt_succ (Nat.lt_of_le_of_lt hl hh))]
  have hR : ∀ a b, lap (A ++ (lo, hi) :: B) (skip lo a) (skip lo b) = upd (fun a b => lap (A ++ B) (skip lo a) (skip lo b)) (hi - 1) (fun b => 1 * lap (A ++ B) (skip lo (hi - 1)) (skip lo b) + 1 * Ml (hi - 1) b) a b := by
    intro a b
    rw [A6f]
    have e : ∀ x, isP (skip lo x) lo - isP (skip lo x) hi = - Ml (hi - 1) x := by
      intro x
      unfold isP Ml
      rw [if_neg (Jt lo x)]
      by_cases q : x = hi - 1
      · rw [if_pos q, if_pos (by unfold skip; rw [if_neg (by exact Aa3 hl q)]; exact (congrArg (· + 1) q).trans (Nat.sub_add_cancel (Fl hl)))]; rfl
      · rw [if_neg q, if_neg (by unfold skip; split <;> (first | exact Nat.ne_of_lt (Dz (by assumption) hl) | exact fun e => q (congrArg (· - 1) e)))]; rfl
    unfold Hc
    simp only [e]
    unfold upd
    split
    · rename_i q
      rw [q, show Ml (hi - 1) (hi - 1) = 1 from if_pos rfl]
      show _ = 1 * lap (A ++ B) (skip lo (hi - 1)) (skip lo b) + 1 * Ml (hi - 1) b
      (first | lia | omega)
    · rename_i q
      rw [show Ml (hi - 1) a = 0 from if_neg q]; simp
  have h1 : cof (n + 1) (lap (A ++ (lo, hi) :: B)) lo = det (n + 1) (upd (fun a b => lap (A ++ B) (skip lo a) (skip lo b)) (hi - 1) (fun b => 1 * lap (A ++ B) (skip lo (hi - 1)) (skip lo b) + 1 * Ml (hi - 1) b)) := Bl fun a b _ _ => hR a b
  rw [h1, I4 (by exact Rp (Nat.succ_pos _) hh), Mw _ (by exact Rp (Nat.succ_pos _) hh)]
  have h2 : upd (fun a b => lap (A ++ B) (skip lo a) (skip lo b)) (hi - 1) (fun b => lap (A ++ B) (skip lo (hi - 1)) (skip lo b)) = fun a b => lap (A ++ B) (skip lo a) (skip lo b) := by
    funext a b; unfold upd; split
    · subst_vars; rfl
    · rfl
  have h3 : cof n (fun a b => lap (A ++ B) (skip lo a) (skip lo b)) (hi - 1) = cof n (lap ((A ++ B).map (Eu lo hi))) lo := by
    unfold cof
    refine Bl fun a b _ _ => ?_
    rw [A0l hl (Jt _ _) (Jt _ _), Pg hl, Pg hl]
  rw [h2, h3, Int.one_mul, Int.one_mul]; rfl
theorem Rr {n : Nat} {e : Nat × Nat} {E : List (Nat × Nat)} (h : e.1 = e.2) : tau n (e :: E) = tau n E := by
  unfold tau
  congr 1
  funext a b
  rw [lap, Pd h]; exact Int.zero_add _
theorem Tc (a b : Nat) (E : List (Nat × Nat)) (n : Nat) : tau n ((a, b) :: E) = tau n ((b, a) :: E) := by
  unfold tau
  congr 1
  funext i j
  rw [lap, lap, Zg]
theorem Y8 (n : Nat) : tau (n + 2) [] = 0 := by
  unfold tau
  exact Tr (by exact Nat.succ_pos _) fun a _ => rfl
theorem Xo (E : List (Nat × Nat)) : tau 1 E = 1 := rfl
theorem Db {n : Nat} {e : Nat × Nat} {E : List (Nat × Nat)} (h : okT n (e :: E)) : okT n E := fun x hx => h x (List.mem_cons_of_mem _ hx)
inductive B7 (E : List (Nat × Nat)) : Nat → Nat → Prop
  | refl (p : Nat) : B7 E p p
  | tie {e : Nat × Nat} : e ∈ E → B7 E e.1 e.2
  | symm {p q : Nat} : B7 E p q → B7 E q p
  | trans {p q r : Nat} : B7 E p q → B7 E q r → B7 E p r
theorem B7.mono {E F : List (Nat × Nat)} {p q : Nat} (c : B7 E p q) (h : ∀ e ∈ E, B7 F e.1 e.2) : B7 F p q := by
  induction c with
  | refl p => exact .refl p
  | tie m => exact h _ m
  | symm _ ih => exact ih.symm
  | trans _ _ i1 i2 => exact i1.trans i2
theorem B7.join {lo hi : Nat} {E : List (Nat × Nat)} {p q : Nat} (c : B7 ((lo, hi) :: E) p q) (hl : lo < hi) : B7 (E.map (Eu lo hi)) (join lo hi p) (join lo hi q) := by
  induction c with
  | refl p => exact .refl _
  | tie m =>
    rcases List.mem_cons.mp m with rfl | m
    · have : Mine.join lo hi lo = Mine.join lo hi hi := by unfold Mine.join; rw [if_neg (by exact Nat.ne_of_lt hl), if_pos hl, if_pos rfl]
      show B7 _ (Mine.join lo hi lo) (Mine.join lo hi hi)
      rw [this]; exact .refl _
    · exact B7.tie (E := E.map (Eu lo hi)) (List.mem_map_of_mem m)
  | symm _ ih => exact ih.symm
  | trans _ _ i1 i2 => exact i1.trans i2
theorem E8 {lo hi y : Nat} : join lo hi (skip hi y) = y := by
  by_cases h : y < hi
  · exact (congrArg (join lo hi) (if_pos h : skip hi y = y)).trans ((if_neg (Nat.ne_of_lt h)).trans (if_pos h))
  · exact (congrArg (join lo hi) (if_neg h : skip hi y = y + 1)).trans ((if_neg (fun e : y + 1 = hi => h (e ▸ Nat.lt_succ_self y))).trans (if_neg (fun r => h (Nat.lt_of_succ_lt r))))
theorem Xe {lo hi : Nat} : join lo hi hi = lo := if_pos rfl
theorem Ib {lo hi x : Nat} (h : x ≠ hi) : skip hi (join lo hi x) = x := by
  unfold skip join
  rw [if_neg h]
  by_cases q : x < hi
  · rw [if_pos q, if_pos q]
  · rw [if_neg q, if_neg (by exact Nat.not_lt_of_le (Nat.le_sub_of_add_le (Iz (oGe q) h)))]; exact Nat.sub_add_cancel (Fl (Iz (oGe q) h))
theorem A68 {lo hi p q : Nat} (hl : lo < hi) (h : join lo hi p = join lo hi q) : p = q ∨ ((p = lo ∨ p = hi) ∧ (q = lo ∨ q = hi)) := by
  have hs : skip hi lo = lo := if_pos hl
  by_cases hp : p = hi
  · by_cases hq : q = hi
    · exact .inl (hp.trans hq.symm)
    · refine .inr ⟨.inr hp, .inl ?_⟩
      rw [← Ib (lo := lo) hq, ← h, hp, Xe, hs]
  · by_cases hq : q = hi
    · refine .inr ⟨.inl ?_, .inr hq⟩
      rw [← Ib (lo := lo) hp, h, hq, Xe, hs]
    · exact .inl (by rw [← Ib (lo := lo) hp, h, Ib hq])
theorem B7.unjoin {lo hi : Nat} {E : List (Nat × Nat)} {x y : Nat} (hl : lo < hi) (c : B7 (E.map (Eu lo hi)) x y) : ∀ p q, Mine.join lo hi p = x → Mine.join lo hi q = y → B7 ((lo, hi) :: E) p q := by
  have hlh : B7 ((lo, hi) :: E) lo hi := B7.tie (e := (lo, hi)) List.mem_cons_self
  have same : ∀ p q, Mine.join lo hi p = Mine.join lo hi q → B7 ((lo, hi) :: E) p q := fun p q h => by
    rcases A68 hl h with rfl | ⟨rfl | rfl, rfl | rfl⟩
    · exact .refl _
    · exact .refl _
    · exact hlh
    · exact hlh.symm
    · exact .refl _
  induction c with
  | refl x => intro p q h1 h2; exact same p q (h1.trans h2.symm)
  | tie m =>
    intro p q h1 h2
    obtain ⟨e, he, rfl⟩ := List.mem_map.mp m
    exact ((same p e.1 h1).trans (B7.tie (List.mem_cons_of_mem _ he))).trans (same e.2 q h2.symm)
  | symm _ ih => intro p q h1 h2; exact (ih q p h2 h1).symm
  | @trans a b c _ _ i1 i2 =>
    intro p q h1 h2
    exact (i1 p (skip hi b) h1 E8).trans (i2 (skip hi b) q E8 h2)
noncomputable def Dj (n : Nat) (E : List (Nat × Nat)) : Prop := ∀ p q, p < n → q < n → B7 E p q
theorem Om {p q : Nat} (c : B7 [] p q) : p = q := by
  induction c with
  | refl p => rfl
  | tie m => cases m
  | symm _ ih => exact ih.symm
  | trans _ _ i1 i2 => exact i1.trans i2
theorem A5m : ∀ (k : Nat) {n : Nat} {E : List (Nat × Nat)}, E.length = k → okT (n + 1) E → 0 ≤ tau (n + 1) E ∧ (0 < tau (n + 1) E ↔ Dj (n + 1) E) := by
  intro k
  induction k with
  | zero =>
    intro n E hk h
    have := List.length_eq_zero_iff.mp hk; subst this
    cases n with
    | zero =>
      rw [Xo]
      exact ⟨by decide, fun _ p q hp hq => by rw [show p = q by exact (Nat.lt_one_iff.mp hp).trans (Nat.lt_one_iff.mp hq).symm]; exact .refl _, fun _ => by decide⟩
    | succ n =>
      rw [Y8]
      exact ⟨by decide, fun h => absurd h (by decide), fun h => absurd (Om (h 0 1 (by exact Nat.succ_pos _) (by exact Nat.le_add_left _ _))) (by decide)⟩
  | succ k ih =>
    intro n E hk h
    cases E with
    | nil => cases hk
    | cons e E =>
    have hk' : E.length = k := by simpa using hk
    have hE := Db h
    by_cases hl : e.1 = e.2
    · rw [Rr hl]
      obtain ⟨a, b⟩ := ih hk' hE
      refine ⟨a, b.trans ⟨fun q x y hx hy => (q x y hx hy).mono fun e he => .tie (List.mem_cons_of_mem _ he), fun q x y hx hy => (q x y hx hy).mono fun f hf => ?_⟩⟩
      rcases List.mem_cons.mp hf with rfl | hf
      · rw [hl]; exact .refl _
      · exact .tie hf
    · cases n with
      | zero => have := h e List.mem_cons_self; exact absurd ((Nat.lt_one_iff.mp this.1).trans (Nat.lt_one_iff.mp this.2).symm) hl
      | succ n =>
      have main : ∀ lo hi, lo < hi → hi < n + 2 → (∀ p q, B7 ((lo, hi) :: E) p q ↔ B7 (e :: E) p q) → tau (n + 2) (e :: E) = tau (n + 2) ((lo, hi) :: E) → 0 ≤ tau (n + 2) (e :: E) ∧ (0 < tau (n + 2) (e :: E) ↔ Dj (n + 2) (e :: E)) := by
        intro lo hi h1 h2 hc ht
        have st := O5 (A := []) (B := E) h1 h2 hE
        simp only [List.nil_append] at st
        rw [ht, st]
        obtain ⟨a1, b1⟩ := ih hk' hE
        rw [show n + 1 + 1 = n + 2 from rfl] at a1 b1
        obtain ⟨a2, b2⟩ := ih (n := n) (E := E.map (Eu lo hi)) (by rw [List.length_map]; exact hk') (Np h1 h2 hE)
        refine ⟨Int.add_nonneg a1 a2, fun q => ?_, fun q => ?_⟩
        · by_cases q1 : 0 < tau (n + 2) E
          · intro x y hx hy
            exact (b1.mp q1 x y hx hy).mono fun f hf => .tie (List.mem_cons_of_mem _ hf)
          · have q2 := b2.mp (Aa7 q q1)
            intro x y hx hy
            exact (hc x y).mp ((q2 _ _ (Id h1 h2 hx) (Id h1 h2 hy)).unjoin h1 x y rfl rfl)
        · have : Dj (n + 1) (E.map (Eu lo hi)) := fun x y hx hy => by
            have := ((hc _ _).mpr (q (skip hi x) (skip hi y) (I6 (by exact h2) hx) (I6 (by exact h2) hy))).join h1
            rwa [E8, E8] at this
          have := b2.mpr this
          exact Int.add_pos_of_nonneg_of_pos a1 this
      have he := h e List.mem_cons_self
      by_cases q : e.1 < e.2
      · exact main e.1 e.2 q he.2 (fun _ _ => Iff.rfl) rfl
      · refine main e.2 e.1 (by exact No (oGt q) hl) he.1 (fun x y => ⟨fun c => c.mono fun f hf => ?_, fun c => c.mono fun f hf => ?_⟩) (Tc e.1 e.2 E _)
        · rcases List.mem_cons.mp hf with rfl | hf
          · exact (B7.tie (e := e) List.mem_cons_self).symm
          · exact .tie (List.mem_cons_of_mem _ hf)
        · rcases List.mem_cons.mp hf with rfl | hf
          · exact (B7.tie (e := (f.2, f.1)) List.mem_cons_self).symm
          · exact .tie (List.mem_cons_of_mem _ hf)
end Mine
namespace Mine
theorem A6b {n a b : Nat} {E : List (Nat × Nat)} (hab : a ≠ b) (ha : a < n + 2) (hb : b < n + 2) (h : okT (n + 2) E) :
    tau (n + 2) ((a, b) :: E) = tau (n + 2) E + tau (n + 1) (E.map (Eu (min a b) (max a b))) := by
  by_cases q : a < b
  · rw [Nat.min_eq_left (by exact Nat.le_of_lt q), Nat.max_eq_right (by exact Nat.le_of_lt q)]
    exact O5 (A := []) q hb h
  · rw [Nat.min_eq_right (by exact oGe q), Nat.max_eq_left (by exact oGe q), Tc]
    exact O5 (A := []) (by exact No (oGt q) hab) ha h
end Mine
namespace Mine
open PySem
noncomputable def C5 (e : Nat × Nat) : AV := .tup [.int e.1, .int e.2]
noncomputable def Uo (e : Nat × Nat) : PyData := .tuple [.int e.1, .int e.2]
noncomputable abbrev TL (H : A0) (r : Nat) (E : List (Nat × Nat)) : Prop := H[r]? = some (.list (E.map C5))
theorem Po {H : A0} {d : Nat} : ∀ (E : List (Nat × Nat)), (E.map C5).mapM (rd H (d + 1)) = some (E.map Uo)
  | [] => rfl
  | x :: E => by
    rw [List.map_cons, List.mapM_cons, Po E]
    cases d <;> rfl
theorem Ma {H : A0} {r d : Nat} {E : List (Nat × Nat)} (h : TL H r E) : rd H (d + 2) (.ref r) = some (.list (E.map Uo)) := by
  unfold rd
  simp only [show H[r]? = some (.list (E.map C5)) from h, Po]; rfl
theorem Lg : ∀ (E : List (Nat × Nat)), PyData.eqvAll (E.map Uo) (E.map Uo) = true
  | [] => rfl
  | x :: E => by
    simp only [List.map_cons, PyData.eqvAll, Lg E, Uo]
    simp [PyData.eqv, PyData.eqvAll]
theorem A4h (E : List (Nat × Nat)) : PyData.eqv (.list (E.map Uo)) (.list (E.map Uo)) = true := by unfold PyData.eqv; exact Lg E
theorem A02 {H : A0} {r q : Nat} {E : List (Nat × Nat)} (h : TL H r E) (h' : TL H q E) : Gv (.ref r) (.ref q) H = some true := by
  unfold Gv
  rw [Ma (d := 6) h, Ma (d := 6) h']
  simp only [A4h]
theorem A3z {H : A0} {r : Nat} {E : List (Nat × Nat)} (h : TL H r E) : Gv (.ref r) (.ref H.length) (H ++ [.list []]) = some (decide (E = [])) := by
  have h2 : TL (H ++ [.list []]) H.length [] := Ah _ _
  unfold Gv
  rw [Ma (d := 6) (Ab (Ag _ _) h), Ma (d := 6) h2]
  cases E with
  | nil => rfl
  | cons e E => rfl
section
variable {strF : Bi} {sc : List Int} {P : Nat → Option FnI} {H H0 : A0} {n m : Nat} {ρ : A8} {cf : Nat → List AV → A0 → Res AV} {N : A8 → A0 → Prop} {R : AV → A0 → Prop}
theorem K7 {E : List (Nat × Nat)} {k : Nat} {v : AV} (h : (E.map C5)[k]? = some v) : ∃ e, E[k]? = some e ∧ v = C5 e := by
  rw [List.getElem?_map] at h
  cases q : E[k]? with
  | none => rw [q] at h; cases h
  | some e => rw [q] at h; cases h; exact ⟨e, rfl, rfl⟩
theorem Ea {step : AV → A8 → A0 → SR} {r : Nat} {ws : List AV} (I : Nat → A8 → A0 → Prop) (h0 : I 0 ρ H)
    (hs : ∀ k v ρ H, ws[k]? = some v → I k ρ H → (step v ρ H).sat (fun ρ H => I (k + 1) ρ H ∧ H[r]? = some (.list ws)) R) (hN : ∀ ρ H, I ws.length ρ H → N ρ H) : (Ej [(r, ws)] step ws ρ H).sat N R := by
  have : ∀ (us pre : List AV) (ρ : A8) (H : A0), pre ++ us = ws → I pre.length ρ H → (Ej [(r, ws)] step us ρ H).sat N R := by
    intro us
    induction us with
    | nil =>
      intro pre ρ H e hI
      rw [List.append_nil] at e; subst e
      exact hN _ _ hI
    | cons v us ih =>
      intro pre ρ H e hI
      have h1 := hs pre.length v ρ H (by rw [← e]; simp) hI
      unfold Ej
      cases e1 : step v ρ H with
      | next ρ' H' =>
        rw [e1] at h1
        have h2 : H'[r]? = some (.list ws) := h1.2
        simp only [List.all_cons, List.all_nil, Bool.and_true, Jz h2, if_true]
        exact ih (pre ++ [v]) ρ' H' (by rw [← e]; simp) (by rw [List.length_append]; exact h1.1)
      | ret w H' => rw [e1] at h1; exact h1
      | exc c H' => rw [e1] at h1; exact h1
      | bad => rw [e1] at h1; exact h1
  exact this ws [] ρ H rfl h0
theorem Ja {r : Nat} {ws : List AV} {step : AV → A0 → Res (Option AV)} (hr : H[r]? = some (.list ws)) (f : Nat × Nat → Nat × Nat) : ∀ (E : List (Nat × Nat)), (∀ e ∈ E, step (C5 e) H = .ok (some (C5 (f e))) H) →
    Bp [(r, ws)] step (E.map C5) H = .ok ((E.map f).map C5) H
  | [], _ => rfl
  | e :: E, h => by
    rw [List.map_cons, Bp, h e List.mem_cons_self]
    simp only [Res.get, List.all_cons, List.all_nil, Bool.and_true, Jz hr, if_true, Ja hr f E fun e he => h e (List.mem_cons_of_mem _ he), Wz, List.map_cons]
theorem Oa {r : Nat} {E : List (Nat × Nat)} {e : Nat × Nat} (h : TL H r E) (hge : H0.length ≤ r) (hl : E.length < lim) : Cp H0.length (.ref r) (C5 e) H = .ok .none (H.set r (.list ((E ++ [e]).map C5))) := by
  unfold Cp
  simp only [show H[r]? = some (.list (E.map C5)) from h]
  rw [if_pos ⟨hge, by simpa using hl⟩]
  simp
theorem F6 {r : Nat} {o : Br} (h : ∃ p, H[r]? = some p) : (H.set r o)[r]? = some o := by
  obtain ⟨p, h⟩ := h
  exact List.getElem?_set_self (List.getElem?_eq_some_iff.mp h).1
noncomputable def A60 : FnI := ⟨2, 6, .cons (.assign 2 (.list .nil)) (.cons (.for1 3 (.range1 (.bin .Sub (.var 1) (.int 1))) (.cons (.assign 4 (.call 6 (.cons (.var 0) (.cons (.bin .Add (.int 4) (.var 3)) .nil)))) (.cons (.assign 5 (.tuple (.cons (.bin .Mod (.var 4) (.bin .Add (.var 3) (.int 1))) (.cons (.bin .Add (.var 3) (.int 1)) .nil)))) (.cons (.expr (.append (.var 2) (.idx (.list (.cons (.var 5) (.cons (.tuple (.cons (.idx (.var 5) (.int 1)) (.cons (.idx (.var 5) (.int 0)) .nil))) .nil))) (.bin .Mod (.bin .FloorDiv (.var 4) (.int 7)) (.int 2))))) .nil)))) (.cons (.ret (.var 2)) .nil))⟩
theorem I8 {x y : AV} : Cl sc (.tup [x, y]) (.int 0) H = .ok x H := rfl
theorem Ir {x y : AV} : Cl sc (.tup [x, y]) (.int 1) H = .ok y H := rfl
theorem Uq {x y : AV} : O7 [x, y] H = .ok (.tup [x, y]) H := by unfold O7; rw [if_pos]; exact A4v (by simp)
theorem Ku {r : Nat} {xs : List AV} (h : H[r]? = some (.list xs)) : isL (.ref r) H = true := by unfold isL; simp only [h]
end
end Mine
namespace Mine
open PySem
noncomputable def A52 : FnI := ⟨3, 12, .cons (.assign 3 (.call 6 (.cons (.var 0) (.cons (.int 0) .nil)))) (.cons (.assign 4 (.bin .Add (.int 1) (.bin .Mod (.var 3) (.var 1)))) (.cons (.assign 5 (.list .nil)) (.cons (.ite (.cmp .Gt (.bin .Mod (.bin .FloorDiv (.var 3) (.int 7)) (.int 5)) (.int 0)) (.cons (.assign 5 (.call 7 (.cons (.var 0) (.cons (.var 4) .nil)))) .nil) .nil) (.cons (.for1 6 (.range1 (.bin .Mod (.call 6 (.cons (.var 0) (.cons (.int 1) .nil))) (.bin .Add (.bin .Sub (.var 2) (.prim .len (.cons (.var 5) .nil))) (.int 1)))) (.cons (.assign 7 (.call 6 (.cons (.var 0) (.cons (.bin .Add (.int 11) (.var 6)) .nil)))) (.cons (.assign 8 (.bin .Mod (.var 7) (.var 4))) (.cons (.assign 9 (.tuple (.cons (.var 8) (.cons (.bin .Mod (.bin .Add (.var 8) (.bin .Mod (.bin .FloorDiv (.var 7) (.int 7)) (.var 4))) (.var 4)) .nil)))) (.cons (.ite (.and (.cons (.cmp .Eq (.bin .Mod (.bin .FloorDiv (.var 7) (.int 49)) (.int 6)) (.int 5)) (.cons (.cmp .NotEq (.var 5) (.list .nil)) .nil))) (.cons (.assign 9 (.idx (.var 5) (.bin .Mod (.bin .FloorDiv (.var 7) (.int 300)) (.prim .len (.cons (.var 5) .nil))))) .nil) .nil) (.cons (.expr (.append (.var 5) (.var 9))) .nil)))))) (.cons (.assign 10 (.bin .Mod (.bin .FloorDiv (.var 3) (.int 35)) (.var 4))) (.cons (.assign 5 (.comp2 (.tuple (.cons (.bin .Mod (.bin .Add (.var 0) (.var 12)) (.var 6)) (.cons (.bin .Mod (.bin .Add (.var 1) (.var 12)) (.var 6)) .nil))) (.of (.var 5)))) (.cons (.assign 11 (.bin .Mod (.call 6 (.cons (.var 0) (.cons (.int 2) .nil))) (.bin .Add (.prim .len (.cons (.var 5) .nil)) (.int 1)))) (.cons (.ret (.tuple (.cons (.var 4) (.cons (.bin .Add (.slice (.var 5) (.some (.var 11)) .none) (.slice (.var 5) .none (.some (.var 11)))) .nil)))) .nil))))))))⟩
noncomputable def Wo : PSs := .cons (.assign 10 (.bin .Mod (.bin .FloorDiv (.var 3) (.int 35)) (.var 4))) (.cons (.assign 5 (.comp2 (.tuple (.cons (.bin .Mod (.bin .Add (.var 0) (.var 12)) (.var 6)) (.cons (.bin .Mod (.bin .Add (.var 1) (.var 12)) (.var 6)) .nil))) (.of (.var 5)))) (.cons (.assign 11 (.bin .Mod (.call 6 (.cons (.var 0) (.cons (.int 2) .nil))) (.bin .Add (.prim .len (.cons (.var 5) .nil)) (.int 1)))) (.cons (.ret (.tuple (.cons (.var 4) (.cons (.bin .Add (.slice (.var 5) (.some (.var 11)) .none) (.slice (.var 5) .none (.some (.var 11)))) .nil)))) .nil)))
noncomputable def A5k : PSs := .cons (.assign 7 (.call 6 (.cons (.var 0) (.cons (.bin .Add (.int 11) (.var 6)) .nil)))) (.cons (.assign 8 (.bin .Mod (.var 7) (.var 4))) (.cons (.assign 9 (.tuple (.cons (.var 8) (.cons (.bin .Mod (.bin .Add (.var 8) (.bin .Mod (.bin .FloorDiv (.var 7) (.int 7)) (.var 4))) (.var 4)) .nil)))) (.cons (.ite (.and (.cons (.cmp .Eq (.bin .Mod (.bin .FloorDiv (.var 7) (.int 49)) (.int 6)) (.int 5)) (.cons (.cmp .NotEq (.var 5) (.list .nil)) .nil))) (.cons (.assign 9 (.idx (.var 5) (.bin .Mod (.bin .FloorDiv (.var 7) (.int 300)) (.prim .len (.cons (.var 5) .nil))))) .nil) .nil) (.cons (.expr (.append (.var 5) (.var 9))) .nil))))
noncomputable def A65 : PSs := .cons (.for1 6 (.range1 (.bin .Mod (.call 6 (.cons (.var 0) (.cons (.int 1) .nil))) (.bin .Add (.bin .Sub (.var 2) (.prim .len (.cons (.var 5) .nil))) (.int 1)))) A5k) Wo
inductive A51 (H : A0) (most room : Nat) (v : AV) (H' : A0) : Prop
  | mk (n r : Nat) (E : List (Nat × Nat)) (e : v = .tup [.int n, .ref r]) (t : TL H' r E) (p : H <+: H') (g : H.length ≤ r) (l : E.length ≤ room) (ok : okT n E) (h1 : 1 ≤ n) (h2 : n ≤ most) : A51 H most room v H'
section
variable {strF : Bi} {sc : List Int} {P : Nat → Option FnI} {H H0 : A0} {n m : Nat} {ρ : A8} {cf : Nat → List AV → A0 → Res AV} {N : A8 → A0 → Prop} {R : AV → A0 → Prop}
theorem Vk {xs : List AV} {c : Nat} (hc : c ≤ xs.length) : cut xs (some (c : Int)) none = xs.drop c := by
  unfold cut
  simp only [Pq hc, List.take_length]
theorem A8d {xs : List AV} {c : Nat} (hc : c ≤ xs.length) : cut xs none (some (c : Int)) = xs.take c := by
  unfold cut
  simp only [Pq hc, List.drop_zero]
end
end Mine
namespace Mine
open PySem
noncomputable def V7 : FnI := ⟨3, 3, .cons (.ret (.and (.cons (.prim .isInt (.cons (.var 0) .nil)) (.cons (.not (.prim .isBool (.cons (.var 0) .nil))) (.cons (.cmp2 .LtE .LtE (.var 1) (.var 0) (.var 2)) .nil))))) .nil⟩
noncomputable def A5b : FnI := ⟨2, 3, .cons (.ite (.not (.call 0 (.cons (.var 0) (.cons (.int 1) (.cons (.gint 0 7) .nil))))) (.cons (.raise 1 "one to seven places") .nil) .nil) (.cons (.ite (.or (.cons (.not (.prim .isList (.cons (.var 1) .nil))) (.cons (.cmp .Gt (.prim .len (.cons (.var 1) .nil)) (.gint 1 16)) .nil))) (.cons (.raise 1 "a list of none to sixteen ties") .nil) .nil) (.cons (.for1 2 (.of (.var 1)) (.cons (.ite (.or (.cons (.not (.prim .isTuple (.cons (.var 2) .nil))) (.cons (.cmp .NotEq (.prim .len (.cons (.var 2) .nil)) (.int 2)) .nil))) (.cons (.raise 1 "a tie is a tuple of two places") .nil) .nil) (.cons (.ite (.or (.cons (.not (.call 0 (.cons (.idx (.var 2) (.int 0)) (.cons (.int 0) (.cons (.bin .Sub (.var 0) (.int 1)) .nil))))) (.cons (.not (.call 0 (.cons (.idx (.var 2) (.int 1)) (.cons (.int 0) (.cons (.bin .Sub (.var 0) (.int 1)) .nil))))) .nil))) (.cons (.raise 1 "no such place") .nil) .nil) .nil))) .nil))⟩
noncomputable def Pe : FnI := ⟨2, 5, .cons (.assign 2 (.comp1 (.comp1 (.int 0) (.range1 (.var 1)) .none) (.range1 (.var 0)) .none)) (.cons (.for2 3 4 (.of (.var 1)) (.cons (.ite (.cmp .NotEq (.var 3) (.var 4)) (.cons (.setIdx (.idx (.var 2) (.var 3)) (.var 3) (.bin .Add (.idx (.idx (.var 2) (.var 3)) (.var 3)) (.int 1))) (.cons (.setIdx (.idx (.var 2) (.var 4)) (.var 4) (.bin .Add (.idx (.idx (.var 2) (.var 4)) (.var 4)) (.int 1))) (.cons (.setIdx (.idx (.var 2) (.var 3)) (.var 4) (.bin .Sub (.idx (.idx (.var 2) (.var 3)) (.var 4)) (.int 1))) (.cons (.setIdx (.idx (.var 2) (.var 4)) (.var 3) (.bin .Sub (.idx (.idx (.var 2) (.var 4)) (.var 3)) (.int 1))) .nil)))) .nil) .nil)) (.cons (.ret (.var 2)) .nil))⟩
noncomputable def Y1 : FnI := ⟨2, 2, .cons (.ret (.call 20 (.cons (.comp1 (.slice (.var 0) (.some (.int 1)) .none) (.of (.slice (.call 21 (.cons (.var 0) (.cons (.var 1) .nil))) (.some (.int 1)) .none)) .none) .nil))) .nil⟩
noncomputable def A0m : FnI := ⟨2, 2, .cons (.expr (.call 1 (.cons (.var 0) (.cons (.var 1) .nil)))) (.cons (.ret (.call 23 (.cons (.var 0) (.cons (.var 1) .nil)))) .nil)⟩
section
variable {strF : Bi} {sc : List Int} {P : Nat → Option FnI} {H H0 : A0} {n m : Nat} {ρ : A8} {cf : Nat → List AV → A0 → Res AV} {N : A8 → A0 → Prop} {R : AV → A0 → Prop}
inductive A73 (sc : List Int) (H0 H : A0) (b t : Nat) (qs : List Nat) (n i j : Nat) (A : Mat) (d : Int) : Prop
  | mk (q : Nat) (H' : A0) (A' : Mat) (a : Cl sc (.ref t) (.int i) H = .ok (.ref q) H) (b' : Cl sc (.ref q) (.int j) H = .ok (.int (A i j)) H) (c : Gr b (.ref q) (.int j) (.int (A i j + d)) H = .ok () H') (T : G8 H0 H' t qs n A') (k : ∀ x y, A' x y = A x y + if x = i ∧ y = j then d else 0) : A73 sc H0 H b t qs n i j A d
theorem Kj {t i j : Nat} {qs : List Nat} {A : Mat} {d : Int} {b : Nat} (T : G8 H0 H t qs n A) (hi : i < n) (hj : j < n) (hb : b = H0.length) :
    A73 sc H0 H b t qs n i j A d := by
  obtain ⟨q, eq, g, r⟩ := T.rd.at (sc := sc) hi
  obtain ⟨s, T'⟩ := T.cell (x := A i j + d) eq hj
  refine ⟨q, _, _, g, Eg r hj, by rw [hb]; exact s, T', fun a c => ?_⟩
  by_cases h : a = i ∧ c = j
  · rw [if_pos h, if_pos h, h.1, h.2]
  · rw [if_neg h, if_neg h]; exact Eq.symm (Int.add_zero _)
theorem V0 {x y : Nat} (h : x ≠ y) (a c : Nat) : (if a = x ∧ c = x then (1 : Int) else 0) + (if a = y ∧ c = y then 1 else 0) + (if a = x ∧ c = y then -1 else 0) + (if a = y ∧ c = x then -1 else 0) = Hc (x, y) a c := by
  unfold Hc isP
  by_cases h1 : a = x
  · subst h1
    by_cases h2 : c = a
    · subst h2; simp [h]
    · by_cases h3 : c = y
      · subst h3; simp [h, h2]
      · simp [h, h2, h3]
  · by_cases h2 : a = y
    · subst h2
      by_cases h3 : c = x
      · subst h3; simp [h, h1, Ne.symm h]
      · by_cases h4 : c = a
        · subst h4; simp [h1, h3]
        · simp [h1, h3, h4]
    · simp [h1, h2]
theorem Vp (e : Nat × Nat) (i j : Nat) : (Hc e i j).natAbs ≤ 1 := by
  unfold Hc
  have : ∀ a, (isP a e.1 - isP a e.2).natAbs ≤ 1 := fun a => by unfold isP; split <;> split <;> decide
  rw [Int.natAbs_mul]
  exact Nat.mul_le_mul (this i) (this j)
theorem Yt (E : List (Nat × Nat)) (i j : Nat) : (lap E i j).natAbs ≤ E.length := by
  induction E with
  | nil => exact Nat.le_refl _
  | cons e E ih =>
    have h1 := Vp e i j
    have h2 := Int.natAbs_add_le (Hc e i j) (lap E i j)
    rw [lap, List.length_cons]; exact Nat.le_trans (Int.natAbs_add_le _ _) (Nat.le_trans (Nat.add_le_add h1 ih) (Nat.le_of_eq (Nat.add_comm _ _)))
theorem A54 {f : Nat → Int} : cut (Fd (n + 1) f) (some 1) none = Fd n fun b => f (b + 1) := by
  have h := Vk (xs := Fd (n + 1) f) (c := 1) (by rw [C1]; exact Nat.succ_pos _)
  rw [show ((1 : Nat) : Int) = (1 : Int) from rfl] at h
  rw [h]
  apply List.ext_getElem?
  intro j
  rw [List.getElem?_drop]
  by_cases hj : j < n
  · rw [G6 hj, G6 (by exact Nat.lt_succ_of_le (A3y (Nat.add_comm _ _) hj)), Nat.add_comm]
  · rw [List.getElem?_eq_none (by rw [C1]; (first | lia | omega)), List.getElem?_eq_none (by rw [C1]; exact oGe hj)]
end
end Mine
namespace Mine
open PySem
noncomputable def As (p : Nat) : AV := .int p
theorem Co : ∀ (F : List Nat), Bh (F.map As) = some (F.map fun (p : Nat) => (p : Int))
  | [] => rfl
  | x :: F => by
    show (Bh (F.map As)).map _ = _
    rw [Co F]; rfl
theorem So {F : List Nat} {p : Nat} : ((p : Int) ∈ F.map fun (p : Nat) => (p : Int)) ↔ p ∈ F := by
  constructor
  · intro h
    obtain ⟨x, hx, e⟩ := List.mem_map.mp h
    rw [show p = x by exact Eq.symm (A5p e)]; exact hx
  · intro h; exact List.mem_map.mpr ⟨p, h, rfl⟩
theorem L5 {H : A0} {r p : Nat} {F : List Nat} (h : H[r]? = some (.list (F.map As))) : My (.int p) (.ref r) H = some (decide (p ∈ F)) := by
  unfold My
  simp only [h, Co, Option.map_some, So]
theorem Hk (x : Int) : ∀ l, (Ce x l).length = l.length + 1
  | [] => rfl
  | y :: r => by unfold Ce; split <;> simp [Hk x r]
theorem Ga : ∀ l, (Ch l).length = l.length
  | [] => rfl
  | x :: r => by unfold Ch; rw [Hk, Ga r]; rfl
theorem Ii {n : Nat} : ∀ {F : List Nat}, F.Nodup → (∀ p ∈ F, p < n) → F.length ≤ n := by
  induction n with
  | zero => intro F _ h; cases F with
    | nil => exact Nat.le_refl _
    | cons x F => exact absurd (h x List.mem_cons_self) (by exact oZl)
  | succ n ih =>
    intro F hd h
    have h1 := ih (F := F.filter (· ≠ n)) (hd.filter _) fun p hp => by
      have := List.mem_filter.mp hp
      have h2 := h p this.1
      have h3 : p ≠ n := by simpa using this.2
      exact Gs h2 h3
    have h2 : F.length ≤ (F.filter (· ≠ n)).length + 1 := by
      clear ih h h1
      induction F with
      | nil => simp
      | cons x F ih =>
        have hd' := List.nodup_cons.mp hd
        by_cases hx : x = n
        · subst hx
          have : F.filter (· ≠ x) = F := List.filter_eq_self.mpr fun p hp => by
            have : p ≠ x := fun e => hd'.1 (e ▸ hp)
            simpa using this
          rw [List.filter_cons_of_neg (by simp), this]; simp
        · have := ih hd'.2
          simp [hx] at this ⊢
          exact this
    exact Nat.le_trans h2 (Nat.lt_succ_of_le h1)
theorem Vy {n : Nat} {F : List Nat} (hd : F.Nodup) (hl : F.length = n) (h : ∀ p ∈ F, p < n) : ∀ p, p < n → p ∈ F := by
  intro p hp
  apply Classical.byContradiction
  intro hn
  have := Ii (n := n) (F := p :: F) (List.nodup_cons.mpr ⟨hn, hd⟩) fun x hx => by
    rcases List.mem_cons.mp hx with rfl | hx
    · exact hp
    · exact h x hx
  simp at this; exact Nat.ne_of_lt this hl
theorem A1y {n : Nat} {F : List Nat} (h : ∀ p, p < n → p ∈ F) : n ≤ F.length := by
  induction n generalizing F with
  | zero => exact Nat.zero_le _
  | succ n ih =>
    have := ih (F := F.erase n) fun p hp => (List.mem_erase_of_ne (by exact Nat.ne_of_lt hp)).mpr (h p (by exact Nat.lt_succ_of_lt hp))
    rw [List.length_erase_of_mem (h n (by exact Nat.le_refl _))] at this
    have : 0 < F.length := List.length_pos_of_mem (h n (by exact Nat.le_refl _))
    exact Nat.add_le_of_le_sub this (by assumption)
section
variable {strF : Bi} {sc : List Int} {P : Nat → Option FnI} {H H0 : A0} {n m : Nat} {ρ : A8} {cf : Nat → List AV → A0 → Res AV} {N : A8 → A0 → Prop} {R : AV → A0 → Prop}
theorem Tq {test : A8 → A0 → Res Bool} {body : A8 → A0 → SR} (I : Nat → A8 → A0 → Prop) (K : Nat)
    (hs : ∀ k ρ H, k ≤ K → I k ρ H → ∃ t H', test ρ H = .ok t H' ∧ (t = false → N ρ H') ∧ (t = true → k < K ∧ (body ρ H').sat (I (k + 1)) R)) :
    ∀ (f k : Nat) (ρ : A8) (H : A0), K < f + k → k ≤ K → I k ρ H → (Gc test body f ρ H).sat N R := by
  intro f
  induction f with
  | zero => intro k ρ H h1 h2; (first | lia | omega)
  | succ f ih =>
    intro k ρ H h1 h2 hI
    refine bC fun hno => ?_
    obtain ⟨t, H', e, hf, ht⟩ := hs k ρ H h2 hI
    refine hno ?_
    unfold Gc
    rw [e]
    cases t with
    | false => exact hf rfl
    | true =>
      obtain ⟨hk, hb⟩ := ht rfl
      simp only
      cases e2 : body ρ H' with
      | next ρ' H'' => rw [e2] at hb; exact ih (k + 1) ρ' H'' (by exact Ix h1 (Nat.add_right_comm _ _ _)) (by exact hk) hb
      | ret v H'' => rw [e2] at hb; exact hb
      | exc c H'' => rw [e2] at hb; exact hb
      | bad => rw [e2] at hb; exact hb
theorem A5s {c : PE} {body : PSs} {b : Nat} : (Et strF cf sc b (.whl c body) ρ H).sat N R = (Gc (Bo strF cf sc b c) (Ai strF cf sc b body) 100 ρ H).sat N R := rfl
theorem J7 {r p : Nat} {F : List Nat} (h : H[r]? = some (.list (F.map As))) (hge : H0.length ≤ r) (hl : F.length < lim) : Cp H0.length (.ref r) (.int p) H = .ok .none (H.set r (.list ((F ++ [p]).map As))) := by
  unfold Cp
  simp only [h]
  rw [if_pos ⟨hge, by simpa using hl⟩]
  simp [As]
noncomputable def Pp : FnI := ⟨3, 7, .cons (.assign 3 (.list (.cons (.var 2) .nil))) (.cons (.assign 4 (.int 0)) (.cons (.whl (.cmp .Lt (.var 4) (.prim .len (.cons (.var 3) .nil))) (.cons (.for2 5 6 (.of (.var 1)) (.cons (.ite (.and (.cons (.cmp .Eq (.var 5) (.idx (.var 3) (.var 4))) (.cons (.cmp .NotIn (.var 6) (.var 3)) .nil))) (.cons (.expr (.append (.var 3) (.var 6))) .nil) .nil) (.cons (.ite (.and (.cons (.cmp .Eq (.var 6) (.idx (.var 3) (.var 4))) (.cons (.cmp .NotIn (.var 5) (.var 3)) .nil))) (.cons (.expr (.append (.var 3) (.var 5))) .nil) .nil) .nil))) (.cons (.assign 4 (.bin .Add (.var 4) (.int 1))) .nil))) (.cons (.ret (.prim .sorted (.cons (.var 3) .nil))) .nil)))⟩
structure Rch (E : List (Nat × Nat)) (n s : Nat) (F : List Nat) : Prop where
  nd : F.Nodup
  lt : ∀ p ∈ F, p < n ∧ B7 E s p
  st : s ∈ F
theorem Rch.add {E : List (Nat × Nat)} {n s x y : Nat} {F : List Nat} (h : Rch E n s F) (hx : x ∈ F) (c : B7 E x y) (hy : y < n) (hn : y ∉ F) : Rch E n s (F ++ [y]) :=
  ⟨by
    rw [List.nodup_append]
    refine ⟨h.nd, by simp, fun a ha b hb => ?_⟩
    simp at hb; subst hb
    exact fun e => hn (e ▸ ha), fun p hp => by
    rcases List.mem_append.mp hp with hp | hp
    · exact h.lt p hp
    · simp at hp; subst hp; exact ⟨hy, (h.lt x hx).2.trans c⟩, List.mem_append_left _ h.st⟩
theorem Qo {F F' : List Nat} {k x : Nat} (p : F <+: F') (h : F[k]? = some x) : F'[k]? = some x := by
  obtain ⟨y, rfl⟩ := p
  rw [List.getElem?_append_left (List.getElem?_eq_some_iff.mp h).1]; exact h
end
end Mine
namespace Mine
open PySem
section
variable {strF : Bi} {cf : Nat → List AV → A0 → Res AV} {sc : List Int} {b : Nat} {ρ : A8} {H H1 H2 H3 H4 : A0} {x y z : PE} {es : PEs} {v w u : AV} {vs : List AV} {r t : Bool}
theorem Kw : Aa strF cf sc b .none ρ H = .ok .none H := rfl
theorem Gh {c : Bool} : Aa strF cf sc b (.bool c) ρ H = .ok (.bool c) H := rfl
theorem Ac {i : Int} : Aa strF cf sc b (.int i) ρ H = .ok (.int i) H := rfl
theorem A9f {s : Str} : Aa strF cf sc b (.str s) ρ H = .ok (.str s) H := rfl
theorem A3b {k : Nat} {i : Int} : Aa strF cf sc b (.gint k i) ρ H = .ok (.int i) H := rfl
theorem Wc {k : Nat} : Aa strF cf sc b (.gfn k) ρ H = .ok (.fn k) H := rfl
theorem A6 {i : Nat} (h : ρ[i]? = some (some v)) : Aa strF cf sc b (.var i) ρ H = .ok v H := by
  show (match ρ[i]? with | some (some v) => Res.ok v H | _ => .bad) = _
  rw [h]
theorem Ak {op : Operator} (h1 : Aa strF cf sc b x ρ H = .ok v H1) (h2 : Aa strF cf sc b y ρ H1 = .ok w H2) (h3 : Bc op v w H2 = .ok u H3) : Aa strF cf sc b (.bin op x y) ρ H = .ok u H3 := by
  show (Aa strF cf sc b x ρ H).get _ = _
  rw [h1]; show (Aa strF cf sc b y ρ H1).get _ = _
  rw [h2]; exact h3
theorem Sw {i : Int} (h1 : Aa strF cf sc b x ρ H = .ok (.int i) H1) : Aa strF cf sc b (.neg x) ρ H = .ok (.int (-i)) H1 := by
  show (Aa strF cf sc b x ρ H).get _ = _
  rw [h1]; rfl
theorem A6x (h1 : Aa strF cf sc b x ρ H = .ok (.bool t) H1) : Aa strF cf sc b (.not x) ρ H = .ok (.bool (!t)) H1 := by
  show (Aa strF cf sc b x ρ H).get _ = _
  rw [h1]; rfl
theorem Rj (h1 : Aa strF cf sc b x ρ H = .ok (.bool false) H1) : Aa strF cf sc b (.not x) ρ H = .ok (.bool true) H1 := A6x h1
theorem A3h (h1 : Aa strF cf sc b x ρ H = .ok (.bool true) H1) : Aa strF cf sc b (.not x) ρ H = .ok (.bool false) H1 := A6x h1
theorem Jr {op : CmpOp} (h1 : Aa strF cf sc b x ρ H = .ok v H1) (h2 : Aa strF cf sc b y ρ H1 = .ok w H2) (h3 : B5 op v w H2 = some r) : Aa strF cf sc b (.cmp op x y) ρ H = .ok (.bool r) H2 := by
  show (Aa strF cf sc b x ρ H).get _ = _
  rw [h1]; show (Aa strF cf sc b y ρ H1).get _ = _
  rw [h2]; show (match B5 op v w H2 with | some r => Res.ok (AV.bool r) H2 | none => .bad) = _
  rw [h3]
theorem Vw {o1 o2 : CmpOp} (h1 : Aa strF cf sc b x ρ H = .ok v H1) (h2 : Aa strF cf sc b y ρ H1 = .ok w H2) (h3 : B5 o1 v w H2 = some true) (h4 : Aa strF cf sc b z ρ H2 = .ok u H3) (h5 : B5 o2 w u H3 = some r) :
    Aa strF cf sc b (.cmp2 o1 o2 x y z) ρ H = .ok (.bool r) H3 := by
  rw [M5, h1]; show (Aa strF cf sc b y ρ H1).get _ = _
  rw [h2]; simp only [Res.get, h3, h4, h5]
theorem Y7 {o1 o2 : CmpOp} (h1 : Aa strF cf sc b x ρ H = .ok v H1) (h2 : Aa strF cf sc b y ρ H1 = .ok w H2) (h3 : B5 o1 v w H2 = some false) : Aa strF cf sc b (.cmp2 o1 o2 x y z) ρ H = .ok (.bool false) H2 := by
  rw [M5, h1]; show (Aa strF cf sc b y ρ H1).get _ = _
  rw [h2]; simp only [Res.get, h3]
theorem F0 (h : En strF cf sc b es ρ H = .ok v H1) : Aa strF cf sc b (.and es) ρ H = .ok v H1 := h
theorem J0 (h : Aa strF cf sc b x ρ H = .ok v H1) : En strF cf sc b (.cons x .nil) ρ H = .ok v H1 := h
theorem D0 (h : Aa strF cf sc b x ρ H = .ok (.bool true) H1) (h2 : En strF cf sc b (.cons y es) ρ H1 = .ok v H2) : En strF cf sc b (.cons x (.cons y es)) ρ H = .ok v H2 := by
  rw [Wg, h]; exact h2
theorem M6 (h : Aa strF cf sc b x ρ H = .ok (.bool false) H1) : En strF cf sc b (.cons x (.cons y es)) ρ H = .ok (.bool false) H1 := by
  rw [Wg, h]; rfl
theorem A8w (h1 : Bo strF cf sc b x ρ H = .ok true H1) (h2 : Aa strF cf sc b y ρ H1 = .ok v H2) : Aa strF cf sc b (.ite x y z) ρ H = .ok v H2 := by
  rw [Rf, h1]; exact h2
theorem A97 (h1 : Bo strF cf sc b x ρ H = .ok false H1) (h2 : Aa strF cf sc b z ρ H1 = .ok v H2) : Aa strF cf sc b (.ite x y z) ρ H = .ok v H2 := by
  rw [Rf, h1]; exact h2
theorem Ar {k : Nat} (h1 : Bj strF cf sc b es ρ H = .ok vs H1) (h2 : cf k vs H1 = .ok v H2) : Aa strF cf sc b (.call k es) ρ H = .ok v H2 := by
  rw [M4, h1]; exact h2
theorem Xn {k : Nat} (h1 : Aa strF cf sc b x ρ H = .ok (.fn k) H1) (h2 : Bj strF cf sc b es ρ H1 = .ok vs H2) (h3 : cf k vs H2 = .ok v H3) : Aa strF cf sc b (.callv x es) ρ H = .ok v H3 := by
  rw [Nz, h1]; show (Bj strF cf sc b es ρ H1).get _ = _
  rw [h2]; exact h3
theorem Ap {p : D6} (h1 : Bj strF cf sc b es ρ H = .ok vs H1) (h2 : prim strF sc p vs H1 = .ok v H2) : Aa strF cf sc b (.prim p es) ρ H = .ok v H2 := by
  rw [Qh, h1]; exact h2
theorem A98 (h1 : Aa strF cf sc b x ρ H = .ok v H1) (h2 : prim strF sc .sortedSet [v] H1 = .ok w H2) : Aa strF cf sc b (.sset x) ρ H = .ok w H2 := by
  rw [A59, h1]; exact h2
theorem At (h1 : Aa strF cf sc b x ρ H = .ok v H1) (h2 : Aa strF cf sc b y ρ H1 = .ok w H2) (h3 : Cl sc v w H2 = .ok u H3) : Aa strF cf sc b (.idx x y) ρ H = .ok u H3 := by
  rw [Va, h1]; show (Aa strF cf sc b y ρ H1).get _ = _
  rw [h2]; exact h3
theorem Gi : Lw strF cf sc b .none ρ H = .ok none H := rfl
theorem Gp {i : Int} (h1 : Aa strF cf sc b x ρ H = .ok (.int i) H1) : Lw strF cf sc b (.some x) ρ H = .ok (some i) H1 := by
  rw [A6e, h1]; rfl
theorem E6 {lo hi : PEo} {l h : Option Int} {q : Nat} {xs : List AV} (h1 : Aa strF cf sc b x ρ H = .ok (.ref q) H1) (h2 : Lw strF cf sc b lo ρ H1 = .ok l H2) (h3 : Lw strF cf sc b hi ρ H2 = .ok h H3) (h4 : H3[q]? = some (.list xs)) (h5 : Aw (cut xs l h) H3 = .ok v H4) :
    Aa strF cf sc b (.slice x lo hi) ρ H = .ok v H4 := by
  rw [Oe, h1]; show (Lw strF cf sc b lo ρ H1).get _ = _
  rw [h2]; show (Lw strF cf sc b hi ρ H2).get _ = _
  rw [h3]; simp only [Res.get, h4, h5]
theorem Aa4 {q : Nat} {xs : List AV} (h1 : Aa strF cf sc b x ρ H = .ok (.ref q) H1) (h4 : H1[q]? = some (.list xs)) (h5 : Aw xs.reverse H1 = .ok v H2) : Aa strF cf sc b (.rev x) ρ H = .ok v H2 := by
  rw [Vq, h1]; simp only [Res.get, h4, h5]
theorem Bb (h1 : Bj strF cf sc b es ρ H = .ok vs H1) (h2 : Aw vs H1 = .ok v H2) : Aa strF cf sc b (.list es) ρ H = .ok v H2 := by
  rw [Rq, h1]; exact h2
theorem Gl (h1 : Bj strF cf sc b es ρ H = .ok vs H1) (h2 : O7 vs H1 = .ok v H2) : Aa strF cf sc b (.tuple es) ρ H = .ok v H2 := by
  rw [Og, h1]; exact h2
theorem Ia {it : It} {c : PEo} {p : List AV × List (Nat × List AV)} (h1 : Dv strF cf sc b it ρ H = .ok p H1)
    (h2 : Bp p.2 (fun v H => (Tn strF cf sc b c (some v :: ρ) H).get fun t H => if t then (Aa strF cf sc b x (some v :: ρ) H).get fun x H => .ok (some x) H else .ok none H) p.1 H1 = .ok vs H2) (h3 : Aw vs H2 = .ok v H3) :
    Aa strF cf sc b (.comp1 x it c) ρ H = .ok v H3 := by
  rw [Oh, h1]; show Res.get (Bp p.2 _ p.1 H1) _ = _
  rw [h2]; exact h3
theorem Xp {it : It} {p : List AV × List (Nat × List AV)} (h1 : Dv strF cf sc b it ρ H = .ok p H1)
    (h2 : Bp p.2 (fun v H => Hd (fun u w => (Aa strF cf sc b x (some u :: some w :: ρ) H).get fun x H => .ok (some x) H) v) p.1 H1 = .ok vs H2) (h3 : Aw vs H2 = .ok v H3) :
    Aa strF cf sc b (.comp2 x it) ρ H = .ok v H3 := by
  rw [O9, h1]; show Res.get (Bp p.2 _ p.1 H1) _ = _
  rw [h2]; exact h3
theorem Ic (h : Aa strF cf sc b x (some u :: ρ) H = .ok v H1) : ((Tn strF cf sc b .none (some u :: ρ) H).get fun t H => if t then (Aa strF cf sc b x (some u :: ρ) H).get fun x H => .ok (some x) H else .ok none H) = .ok (some v) H1 := by
  show (Aa strF cf sc b x (some u :: ρ) H).get _ = _
  rw [h]; rfl
theorem A3r (h : Aa strF cf sc b x (some v :: some w :: ρ) H = .ok u H1) : Hd (fun u w => (Aa strF cf sc b x (some u :: some w :: ρ) H).get fun x H => .ok (some x) H) (.tup [v, w]) = .ok (some u) H1 := by
  show (Aa strF cf sc b x (some v :: some w :: ρ) H).get _ = _
  rw [h]; rfl
theorem Fz (h1 : Aa strF cf sc b x ρ H = .ok v H1) (h2 : isL v H1 = true) (h3 : Aa strF cf sc b y ρ H1 = .ok w H2) (h4 : Cp b v w H2 = .ok u H3) : Aa strF cf sc b (.append x y) ρ H = .ok u H3 := by
  rw [Kr, h1]; show (if isL v H1 = true then _ else _) = _
  rw [if_pos h2, h3]; exact h4
theorem A9 : Bj strF cf sc b .nil ρ H = .ok [] H := rfl
theorem A5 (h1 : Aa strF cf sc b x ρ H = .ok v H1) (h2 : Bj strF cf sc b es ρ H1 = .ok vs H2) : Bj strF cf sc b (.cons x es) ρ H = .ok (v :: vs) H2 := by
  rw [Nd, h1]; show (Bj strF cf sc b es ρ H1).thn _ = _
  rw [h2]; rfl
theorem A71 (h1 : Bo strF cf sc b x ρ H = .ok t H1) : Bo strF cf sc b (.not x) ρ H = .ok (!t) H1 := by
  rw [A3g, h1]; rfl
theorem Rb (h1 : Bo strF cf sc b x ρ H = .ok false H1) : Bo strF cf sc b (.not x) ρ H = .ok true H1 := A71 h1
theorem Cj (h1 : Bo strF cf sc b x ρ H = .ok true H1) : Bo strF cf sc b (.not x) ρ H = .ok false H1 := A71 h1
theorem Au {op : CmpOp} (h1 : Aa strF cf sc b x ρ H = .ok v H1) (h2 : Aa strF cf sc b y ρ H1 = .ok w H2) (h3 : B5 op v w H2 = some r) : Bo strF cf sc b (.cmp op x y) ρ H = .ok r H2 := by
  rw [A21, h1]; show (Aa strF cf sc b y ρ H1).get _ = _
  rw [h2]; simp only [Res.get, h3]
theorem J2 (h : D9 strF cf sc b es ρ H = .ok r H1) : Bo strF cf sc b (.and es) ρ H = .ok r H1 := h
theorem Kz (h : Ek strF cf sc b es ρ H = .ok r H1) : Bo strF cf sc b (.or es) ρ H = .ok r H1 := h
theorem Vg : D9 strF cf sc b .nil ρ H = .ok true H := rfl
theorem Cv (h : Bo strF cf sc b x ρ H = .ok true H1) (h2 : D9 strF cf sc b es ρ H1 = .ok r H2) : D9 strF cf sc b (.cons x es) ρ H = .ok r H2 := by
  rw [Se, h]; exact h2
theorem Eb (h : Bo strF cf sc b x ρ H = .ok false H1) : D9 strF cf sc b (.cons x es) ρ H = .ok false H1 := by
  rw [Se, h]; rfl
theorem Ec : Ek strF cf sc b .nil ρ H = .ok false H := rfl
theorem W0 (h : Bo strF cf sc b x ρ H = .ok true H1) : Ek strF cf sc b (.cons x es) ρ H = .ok true H1 := by
  rw [Tx, h]; rfl
theorem Az (h : Bo strF cf sc b x ρ H = .ok false H1) (h2 : Ek strF cf sc b es ρ H1 = .ok r H2) : Ek strF cf sc b (.cons x es) ρ H = .ok r H2 := by
  rw [Tx, h]; exact h2
theorem Em {k : Nat} (h1 : Bj strF cf sc b es ρ H = .ok vs H1) (h2 : cf k vs H1 = .ok (.bool t) H2) : Bo strF cf sc b (.call k es) ρ H = .ok t H2 := by
  rw [Wi, h1]; show (cf k vs H1).get _ = _
  rw [h2]; rfl
theorem Fi {p : D6} (h1 : Bj strF cf sc b es ρ H = .ok vs H1) (h2 : prim strF sc p vs H1 = .ok (.bool t) H2) : Bo strF cf sc b (.prim p es) ρ H = .ok t H2 := by
  rw [Xa, h1]; show (prim strF sc p vs H1).get _ = _
  rw [h2]; rfl
theorem G3 {q : Nat} (h1 : Aa strF cf sc b x ρ H = .ok (.ref q) H1) (h2 : H1[q]? = some (.list vs)) : Dv strF cf sc b (.of x) ρ H = .ok (vs, [(q, vs)]) H1 := by
  rw [Aaj, h1]; simp only [Res.get, h2]
theorem Eh {k : Int} (h1 : Aa strF cf sc b x ρ H = .ok (.int k) H1) (h2 : inR k = true) : Dv strF cf sc b (.range1 x) ρ H = .ok (B4 0 k, []) H1 := by
  rw [Yk, h1]; simp only [Res.get, h2, if_true]
theorem Me {j k : Int} (h1 : Aa strF cf sc b x ρ H = .ok (.int j) H1) (h2 : Aa strF cf sc b y ρ H1 = .ok (.int k) H2) (h3 : inR j = true) (h4 : inR k = true) : Dv strF cf sc b (.range2 x y) ρ H = .ok (B4 j k, []) H2 := by
  rw [Zh, h1]; show (Aa strF cf sc b y ρ H1).get _ = _
  rw [h2]; simp only [Res.get, h3, h4, and_self, if_true]
variable {N : A8 → A0 → Prop} {R : AV → A0 → Prop} {ss tt ee : PSs}
theorem Be (h : N ρ H) : (Ai strF cf sc b .nil ρ H).sat N R := h
theorem Ae {i : Nat} (h : Aa strF cf sc b x ρ H = .ok v H1) (k : (Ai strF cf sc b ss (ρ.set i (some v)) H1).sat N R) : (Ai strF cf sc b (.cons (.assign i x) ss) ρ H).sat N R := by
  rw [Bt, O0, h]; exact k
theorem Im {is : List Nat} {ρ' : A8} (h : Aa strF cf sc b x ρ H = .ok (.tup vs) H1) (h2 : E7 is vs ρ = some ρ') (k : (Ai strF cf sc b ss ρ' H1).sat N R) : (Ai strF cf sc b (.cons (.assigns is x) ss) ρ H).sat N R := by
  rw [Bt, U1, h]; exact ⟨vs, ρ', rfl, h2, k⟩
theorem Cg (h : Bo strF cf sc b x ρ H = .ok true H1) (k : (Ai strF cf sc b tt ρ H1).sat (fun ρ H => (Ai strF cf sc b ss ρ H).sat N R) R) : (Ai strF cf sc b (.cons (.ite x tt ee) ss) ρ H).sat N R := by
  rw [Bt, Qf, h]; exact k
theorem Um (h : Bo strF cf sc b x ρ H = .ok false H1) (k : (Ai strF cf sc b ee ρ H1).sat (fun ρ H => (Ai strF cf sc b ss ρ H).sat N R) R) : (Ai strF cf sc b (.cons (.ite x tt ee) ss) ρ H).sat N R := by
  rw [Bt, Qf, h]; exact k
theorem B3 (h : Bo strF cf sc b x ρ H = .ok false H1) (k : (Ai strF cf sc b ss ρ H1).sat N R) : (Ai strF cf sc b (.cons (.ite x tt .nil) ss) ρ H).sat N R := Um h k
theorem Bd (h : Aa strF cf sc b x ρ H = .ok v H1) (k : R v H1) : (Ai strF cf sc b (.cons (.ret x) ss) ρ H).sat N R := by
  rw [Bt, M3, h]; exact k
theorem Gn (h : Aa strF cf sc b x ρ H = .ok v H1) (k : (Ai strF cf sc b ss ρ H1).sat N R) : (Ai strF cf sc b (.cons (.expr x) ss) ρ H).sat N R := by
  rw [Bt, A3j, h]; exact k
theorem Dw {i : Nat} {it : It} {p : List AV × List (Nat × List AV)} (h : Dv strF cf sc b it ρ H = .ok p H1) (k : (Ej p.2 (fun v ρ H => Ai strF cf sc b tt (ρ.set i (some v)) H) p.1 ρ H1).sat (fun ρ H => (Ai strF cf sc b ss ρ H).sat N R) R) :
    (Ai strF cf sc b (.cons (.for1 i it tt) ss) ρ H).sat N R := by
  rw [Bt, A4a, h]; exact k
theorem Ur {i j : Nat} {it : It} {p : List AV × List (Nat × List AV)} (h : Dv strF cf sc b it ρ H = .ok p H1) (k : (Ej p.2 (fun v ρ H => Mr (fun x y => Ai strF cf sc b tt ((ρ.set i (some x)).set j (some y)) H) v) p.1 ρ H1).sat (fun ρ H => (Ai strF cf sc b ss ρ H).sat N R) R) :
    (Ai strF cf sc b (.cons (.for2 i j it tt) ss) ρ H).sat N R := by
  rw [Bt, A09, h]; exact k
theorem B0 {P : Nat → Option FnI} {n k np nv : Nat} {body : PSs} {args : List AV} {K : AV → A0 → Prop} (hk : P k = some ⟨np, nv, body⟩) (hl : args.length = np) (h : (Ai strF (Al strF P sc n) sc H.length body (args.map some ++ List.replicate (nv - np) none) H).sat (fun _ H => K .none H) K) :
    (Al strF P sc (n + 1) k args H).sat K := by
  rw [Nt hk hl]; exact h
theorem Fp {α : Type} {r : Res α} {a : α} {H : A0} (h : r.sat fun v H' => v = a ∧ H' = H) : r = .ok a H := by
  obtain ⟨_, _, e, h1, h2⟩ := Res.sat_ex h
  rw [e, h1, h2]
end
end Mine
namespace Mine
noncomputable def up (S : List Nat) : List Nat := S.map (· + 1)
noncomputable def up0 (S : List Nat) : List Nat := 0 :: up S
noncomputable def ctr (e : Nat × Nat) (E : List (Nat × Nat)) : List (Nat × Nat) := E.map (Eu (min e.1 e.2) (max e.1 e.2))
noncomputable def C8 : Nat → Nat → List (Nat × Nat) → List (List Nat)
  | 0, n, _ => if n = 0 then [[]] else []
  | k + 1, n, E => if n = 0 then [[]] else match E with
    | [] => []
    | e :: E' => (if e.1 = e.2 then [] else (C8 k (n - 1) (ctr e E')).map up0) ++ (C8 k n E').map up
theorem Dg (k : Nat) (E : List (Nat × Nat)) : C8 k 0 E = [[]] := by cases k <;> exact if_pos rfl
theorem Hr (n : Nat) (E : List (Nat × Nat)) : C8 0 (n + 1) E = [] := if_neg (by exact Nat.succ_ne_zero _)
theorem Iv (k n : Nat) (e : Nat × Nat) (E : List (Nat × Nat)) : C8 (k + 1) (n + 1) (e :: E) = (if e.1 = e.2 then [] else (C8 k n (ctr e E)).map up0) ++ (C8 k (n + 1) E).map up := if_neg (by exact Nat.succ_ne_zero _)
theorem Bu (e : Nat × Nat) (E : List (Nat × Nat)) : (ctr e E).length = E.length := List.length_map ..
theorem F8 {n : Nat} {e : Nat × Nat} {E : List (Nat × Nat)} (hne : e.1 ≠ e.2) (h : okT (n + 2) (e :: E)) : okT (n + 1) (ctr e E) := by
  have he := h e List.mem_cons_self
  exact Np (by exact A91 hne) (Nat.max_lt.mpr he) (Db h)
theorem A3n {n : Nat} {e : Nat × Nat} {E : List (Nat × Nat)} (h : okT (n + 1 + 1) (e :: E)) : tau (n + 1 + 1) (e :: E) = tau (n + 1 + 1) E + if e.1 = e.2 then 0 else tau (n + 1) (ctr e E) := by
  by_cases hl : e.1 = e.2
  · rw [Rr hl, if_pos hl]; exact Eq.symm (Int.add_zero _)
  · have he := h e List.mem_cons_self
    rw [if_neg hl]
    exact A6b hl he.1 he.2 (Db h)
theorem Ha : ∀ (k : Nat) {n : Nat} {E : List (Nat × Nat)}, E.length = k → okT (n + 1) E → ((C8 k n E).length : Int) = tau (n + 1) E
  | k, 0, E, _, _ => by rw [Dg, Xo]; rfl
  | 0, n + 1, E, hk, h => by rw [Hr, List.length_eq_zero_iff.mp hk, Y8]; rfl
  | k + 1, n + 1, [], hk, h => by cases hk
  | k + 1, n + 1, e :: E, hk, h => by
    have hk' : E.length = k := by simpa using hk
    rw [Iv, List.length_append, List.length_map, A3n h, ← Ha k hk' (Db h)]
    by_cases hl : e.1 = e.2
    · rw [if_pos hl, if_pos hl]; simp
    · rw [if_neg hl, if_neg hl, List.length_map, ← Ha k (by rw [Bu]; exact hk') (F8 hl h)]; exact Eq.symm (Int.add_comm _ _)
theorem Le {e : Nat × Nat} {F : List (Nat × Nat)} {p q : Nat} : B7 ((min e.1 e.2, max e.1 e.2) :: F) p q ↔ B7 (e :: F) p q := by
  have h : (min e.1 e.2, max e.1 e.2) = e ∨ (min e.1 e.2, max e.1 e.2) = (e.2, e.1) := by
    by_cases h : e.1 ≤ e.2
    · rw [Nat.min_eq_left h, Nat.max_eq_right h]; exact .inl rfl
    · rw [Nat.min_eq_right (by exact Nat.le_of_lt (oGt h)), Nat.max_eq_left (by exact Nat.le_of_lt (oGt h))]; exact .inr rfl
  rcases h with h | h
  · rw [h]
  · rw [h]
    constructor
    · intro c
      refine c.mono fun f hf => ?_
      rcases List.mem_cons.mp hf with rfl | hf
      · exact (B7.tie (e := e) List.mem_cons_self).symm
      · exact .tie (List.mem_cons_of_mem _ hf)
    · intro c
      refine c.mono fun f hf => ?_
      rcases List.mem_cons.mp hf with rfl | hf
      · exact (B7.tie (e := (f.2, f.1)) List.mem_cons_self).symm
      · exact .tie (List.mem_cons_of_mem _ hf)
theorem Sl {n : Nat} {e : Nat × Nat} {F : List (Nat × Nat)} (hne : e.1 ≠ e.2) (h1 : e.1 < n + 2) (h2 : e.2 < n + 2) : Dj (n + 2) (e :: F) ↔ Dj (n + 1) (ctr e F) := by
  have hl : min e.1 e.2 < max e.1 e.2 := by exact A91 hne
  have hh : max e.1 e.2 < n + 2 := Nat.max_lt.mpr ⟨h1, h2⟩
  generalize hlo : min e.1 e.2 = lo at hl
  generalize hhi : max e.1 e.2 = hi at hl hh
  have hc : ∀ p q, B7 ((lo, hi) :: F) p q ↔ B7 (e :: F) p q := fun p q => by rw [← hlo, ← hhi]; exact Le
  unfold ctr
  rw [hlo, hhi]
  constructor
  · intro q x y hx hy
    have := ((hc _ _).mpr (q (skip hi x) (skip hi y) (I6 (by exact hh) hx) (I6 (by exact hh) hy))).join hl
    rwa [E8, E8] at this
  · intro q x y hx hy
    exact (hc x y).mp ((q _ _ (Id hl hh hx) (Id hl hh hy)).unjoin hl x y rfl rfl)
theorem Ph {n : Nat} {e : Nat × Nat} {F : List (Nat × Nat)} (hl : e.1 = e.2) (h : Dj n (e :: F)) : Dj n F := by
  intro x y hx hy
  refine (h x y hx hy).mono fun f hf => ?_
  rcases List.mem_cons.mp hf with rfl | hf
  · rw [hl]; exact .refl _
  · exact .tie hf
theorem Hs : ∀ (k : Nat) {n : Nat} {F : List (Nat × Nat)}, F.length = k → okT (n + 1) F → Dj (n + 1) F → n ≤ k
  | k, 0, F, _, _, _ => Nat.zero_le _
  | 0, n + 1, F, hk, h, hc => by
    cases List.length_eq_zero_iff.mp hk
    exact absurd (Om (hc 0 1 (by exact Nat.succ_pos _) (by exact Nat.le_add_left _ _))) (by decide)
  | k + 1, n + 1, [], hk, h, hc => by cases hk
  | k + 1, n + 1, e :: F, hk, h, hc => by
    have hk' : F.length = k := by simpa using hk
    by_cases hl : e.1 = e.2
    · have := Hs k hk' (Db h) (Ph hl hc); exact Nat.lt_succ_of_lt this
    · have he := h e List.mem_cons_self
      have := Hs k (by rw [Bu]; exact hk') (F8 hl h) ((Sl hl he.1 he.2).mp hc)
      exact Nat.lt_succ_of_le this
noncomputable def Dl : Nat → Nat → List (List Nat)
  | 0, k => if k = 0 then [[]] else []
  | m + 1, k => if k = 0 then [[]] else (Dl m (k - 1)).map up0 ++ (Dl m k).map up
theorem F7 (m : Nat) : Dl m 0 = [[]] := by cases m <;> exact if_pos rfl
theorem Jl (k : Nat) : Dl 0 (k + 1) = [] := if_neg (by exact Nat.succ_ne_zero _)
theorem F1 (m k : Nat) : Dl (m + 1) (k + 1) = (Dl m k).map up0 ++ (Dl m (k + 1)).map up := if_neg (by exact Nat.succ_ne_zero _)
structure Ris (m k : Nat) (S : List Nat) : Prop where
  len : S.length = k
  lt : ∀ i ∈ S, i < m
  pw : S.Pairwise (· < ·)
theorem Aan {S : List Nat} (h : S.Pairwise (· < ·)) : (up S).Pairwise (· < ·) := by
  unfold up
  exact List.pairwise_map.mpr (h.imp fun q => by exact Nat.lt_succ_of_le q)
theorem Ris.up {m k : Nat} {S : List Nat} (h : Ris m k S) : Ris (m + 1) k (up S) :=
  ⟨by rw [Mine.up, List.length_map]; exact h.len, fun i hi => by obtain ⟨j, hj, rfl⟩ := List.mem_map.mp hi; have := h.lt j hj; exact Nat.lt_succ_of_le this, Aan h.pw⟩
theorem Ris.up0 {m k : Nat} {S : List Nat} (h : Ris m k S) : Ris (m + 1) (k + 1) (up0 S) :=
  ⟨by rw [Mine.up0, List.length_cons, h.up.len], fun i hi => by
    rcases List.mem_cons.mp hi with rfl | hi
    · exact Nat.succ_pos _
    · exact h.up.lt i hi, List.pairwise_cons.mpr ⟨fun i hi => by obtain ⟨j, _, rfl⟩ := List.mem_map.mp hi; exact Nat.succ_pos _, h.up.pw⟩⟩
theorem Ris.nil {m : Nat} : Ris m 0 [] := ⟨rfl, fun i hi => (by cases hi), .nil⟩
theorem G9 : ∀ {m k : Nat} {S : List Nat}, S ∈ Dl m k → Ris m k S
  | m, 0, S, h => by rw [F7] at h; simp at h; subst h; exact .nil
  | 0, k + 1, S, h => by rw [Jl] at h; cases h
  | m + 1, k + 1, S, h => by
    rw [F1] at h
    rcases List.mem_append.mp h with h | h
    · obtain ⟨S', h', rfl⟩ := List.mem_map.mp h; exact (G9 h').up0
    · obtain ⟨S', h', rfl⟩ := List.mem_map.mp h; exact (G9 h').up
noncomputable def Bn (E : List (Nat × Nat)) (S : List Nat) : List (Nat × Nat) := S.map fun i => E.getD i (0, 0)
theorem Wv (e : Nat × Nat) (E : List (Nat × Nat)) (S : List Nat) : Bn (e :: E) (up S) = Bn E S := by
  unfold Bn up
  rw [List.map_map]
  exact List.map_congr_left fun i _ => List.getD_cons_succ
theorem Uk (e : Nat × Nat) (E : List (Nat × Nat)) (S : List Nat) : Bn (e :: E) (up0 S) = e :: Bn E S := by
  rw [← Wv e E S]; rfl
theorem A3p {e : Nat × Nat} {E : List (Nat × Nat)} {S : List Nat} (h : ∀ i ∈ S, i < E.length) : ctr e (Bn E S) = Bn (ctr e E) S := by
  unfold Bn ctr
  rw [List.map_map]
  refine List.map_congr_left fun i hi => ?_
  have hi' := h i hi
  simp only [Function.comp, List.getD_eq_getElem?_getD, List.getElem?_map, List.getElem?_eq_getElem hi', Option.map_some, Option.getD_some]
theorem Ei {n : Nat} {E : List (Nat × Nat)} {S : List Nat} (h : okT n E) (hS : ∀ i ∈ S, i < E.length) : okT n (Bn E S) := by
  intro e he
  obtain ⟨i, hi, rfl⟩ := List.mem_map.mp he
  have hi' := hS i hi
  rw [List.getD_eq_getElem?_getD, List.getElem?_eq_getElem hi', Option.getD_some]
  exact h _ (List.getElem_mem ..)
theorem Fw {α β : Type} {f : α → β} {g : β → Bool} {g' : α → Bool} {l : List α} (h : ∀ x ∈ l, g (f x) = g' x) : (l.map f).filter g = (l.filter g').map f := by
  rw [List.filter_map]
  congr 1
  exact List.filter_congr fun x hx => h x hx
theorem Dp : ∀ (k : Nat) {n : Nat} {E : List (Nat × Nat)} {g : List Nat → Bool}, E.length = k → okT (n + 1) E → (∀ S, Ris k n S → (g S = true ↔ Dj (n + 1) (Bn E S))) → (Dl k n).filter g = C8 k n E
  | k, 0, E, g, hk, h, hg => by
    rw [F7, Dg, List.filter_cons_of_pos]
    · rfl
    · exact (hg [] .nil).mpr fun p q hp hq => by rw [show p = q by exact (Nat.lt_one_iff.mp hp).trans (Nat.lt_one_iff.mp hq).symm]; exact .refl _
  | 0, n + 1, E, g, hk, h, hg => by rw [Jl, Hr]; rfl
  | k + 1, n + 1, [], g, hk, h, hg => by cases hk
  | k + 1, n + 1, e :: E, g, hk, h, hg => by
    have hk' : E.length = k := by simpa using hk
    have he := h e List.mem_cons_self
    rw [F1, Iv, List.filter_append]
    have e2 : ((Dl k (n + 1)).map up).filter g = (C8 k (n + 1) E).map up := by
      rw [Fw (g' := fun S => g (up S)) fun x _ => rfl]
      rw [Dp k hk' (Db h) fun S hS => by rw [hg _ hS.up, Wv]]
    have e1 : ((Dl k n).map up0).filter g = if e.1 = e.2 then [] else (C8 k n (ctr e E)).map up0 := by
      by_cases hl : e.1 = e.2
      · rw [if_pos hl]
        refine List.filter_eq_nil_iff.mpr fun x hx => ?_
        obtain ⟨S, hS, rfl⟩ := List.mem_map.mp hx
        have r := G9 hS
        intro q
        have c := (hg _ r.up0).mp q
        rw [Uk] at c
        have hlt : ∀ i ∈ S, i < E.length := fun i hi => by have := r.lt i hi; exact Ix this (Eq.symm hk')
        have := Hs n (by unfold Bn; rw [List.length_map]; exact r.len) (Ei (Db h) hlt) (Ph hl c)
        exact Nat.lt_irrefl _ this
      · rw [if_neg hl, Fw (g' := fun S => g (up0 S)) fun x _ => rfl]
        rw [Dp k (by rw [Bu]; exact hk') (F8 hl h) fun S hS => ?_]
        rw [hg _ hS.up0, Uk, Sl hl he.1 he.2, A3p fun i hi => by have := hS.lt i hi; exact Ix this (Eq.symm hk')]
    rw [e1, e2]
theorem G4 : ∀ (k : Nat) {n : Nat} {E : List (Nat × Nat)} {S : List Nat}, S ∈ C8 k n E → Ris k n S
  | k, 0, E, S, h => by rw [Dg] at h; simp at h; subst h; exact .nil
  | 0, n + 1, E, S, h => by rw [Hr] at h; cases h
  | k + 1, n + 1, [], S, h => by cases h
  | k + 1, n + 1, e :: E, S, h => by
    rw [Iv] at h
    rcases List.mem_append.mp h with h | h
    · split at h
      · cases h
      · obtain ⟨S', h', rfl⟩ := List.mem_map.mp h; exact (G4 k h').up0
    · obtain ⟨S', h', rfl⟩ := List.mem_map.mp h; exact (G4 k h').up
theorem K5 {k n : Nat} {E : List (Nat × Nat)} {S : List Nat} (hk : E.length = k) (h : okT (n + 1) E) (hS : S ∈ C8 k n E) : Dj (n + 1) (Bn E S) := by
  have := Dp (g := fun S => @decide (Dj (n + 1) (Bn E S)) (Classical.propDecidable _)) k hk h fun S _ => ⟨fun q => @of_decide_eq_true _ (Classical.propDecidable _) q, fun q => @decide_eq_true _ (Classical.propDecidable _) q⟩
  rw [← this] at hS
  exact @of_decide_eq_true _ (Classical.propDecidable _) (List.mem_filter.mp hS).2
theorem A4u {S : List Nat} : 0 ∉ up S := by
  unfold up
  intro h; obtain ⟨j, hj, e⟩ := List.mem_map.mp h; exact Nat.succ_ne_zero _ e
end Mine
namespace Mine
noncomputable def Lh (n : Nat) : List (Nat × Nat) → Int
  | [] => 0
  | e :: E => if e.1 = e.2 then 0 else tau n (ctr e E)
noncomputable def G5 (t : Nat) (S : List Nat) : List Nat := S.map (· + t)
theorem Nk (t : Nat) (S : List Nat) : G5 t (up S) = G5 (t + 1) S := by
  unfold G5 up
  rw [List.map_map]
  exact List.map_congr_left fun i _ => by simp only [Function.comp]; exact Nat.add_right_comm _ _ _
theorem Qc (t : Nat) (S : List Nat) : G5 t (up0 S) = t :: G5 (t + 1) S := by
  rw [← Nk]; unfold G5 up0; rw [List.map_cons, Nat.zero_add]
theorem Pv {t i : Nat} {S : List Nat} : i + t ∈ G5 t S ↔ i ∈ S := by
  unfold G5
  constructor
  · intro h; obtain ⟨j, hj, e⟩ := List.mem_map.mp h; rw [show i = j by (first | lia | omega)]; exact hj
  · intro h; exact List.mem_map.mpr ⟨i, h, rfl⟩
theorem N9 (S : List Nat) : G5 0 S = S := by unfold G5; exact List.map_id _
inductive A7s (k n j : Nat) (e : Nat × Nat) (E : List (Nat × Nat)) (S : List Nat) : Prop
  | inn (hne : e.1 ≠ e.2) (n' : Nat) (hn : n = n' + 1) (hj : (j : Int) < Lh n (e :: E)) (S' : List Nat) (hS : S = up0 S') (h : (C8 k n' (ctr e E))[j]? = some S') : A7s k n j e E S
  | out (c : Nat) (hc : Lh n (e :: E) = c) (hj : c ≤ j) (S' : List Nat) (hS : S = up S') (h : (C8 k n E)[j - c]? = some S') : A7s k n j e E S
theorem Tz {k n j : Nat} {e : Nat × Nat} {E : List (Nat × Nat)} {S : List Nat} (hk : E.length = k) (h : okT (n + 1) (e :: E)) (hS : (C8 (k + 1) n (e :: E))[j]? = some S) : A7s k n j e E S := by
  have he := h e List.mem_cons_self
  cases n with
  | zero =>
    rw [Dg] at hS
    have hj : j = 0 := by
      cases j with
      | zero => rfl
      | succ j => simp at hS
    subst hj
    simp at hS; subst hS
    exact .out 0 (if_pos (by exact (Nat.lt_one_iff.mp he.1).trans (Nat.lt_one_iff.mp he.2).symm)) (Nat.le_refl _) [] rfl (by rw [Dg]; rfl)
  | succ n =>
    rw [Iv] at hS
    by_cases hl : e.1 = e.2
    · rw [if_pos hl, List.nil_append, List.getElem?_map] at hS
      cases q : (C8 k (n + 1) E)[j]? with
      | none => rw [q] at hS; cases hS
      | some S' => rw [q] at hS; cases hS; exact .out 0 (if_pos hl) (Nat.zero_le _) S' rfl q
    · rw [if_neg hl] at hS
      have hw : Lh (n + 1) (e :: E) = ((C8 k n (ctr e E)).length : Nat) := by
        rw [Ha k (by rw [Bu]; exact hk) (F8 hl h)]; exact if_neg hl
      by_cases hj : j < (C8 k n (ctr e E)).length
      · rw [List.getElem?_append_left (by rw [List.length_map]; exact hj), List.getElem?_map] at hS
        cases q : (C8 k n (ctr e E))[j]? with
        | none => rw [q] at hS; cases hS
        | some S' => rw [q] at hS; cases hS; exact .inn hl n rfl (by rw [hw]; exact Int.ofNat_lt.mpr hj) S' rfl q
      · rw [List.getElem?_append_right (by rw [List.length_map]; exact oGe hj), List.getElem?_map, List.length_map] at hS
        cases q : (C8 k (n + 1) E)[j - (C8 k n (ctr e E)).length]? with
        | none => rw [q] at hS; cases hS
        | some S' => rw [q] at hS; cases hS; exact .out _ hw (by exact oGe hj) S' rfl q
end Mine
namespace Mine
open PySem
section
variable {i j : Int} {H : A0}
theorem eqT (h : i = j) : B5 .Eq (.int i) (.int j) H = some true := by rw [Ym, beq_iff_eq.mpr h]
theorem eqF (h : i ≠ j) : B5 .Eq (.int i) (.int j) H = some false := by rw [Ym, beq_eq_false_iff_ne.mpr h]
theorem neT (h : i ≠ j) : B5 .NotEq (.int i) (.int j) H = some true := by rw [A84, beq_eq_false_iff_ne.mpr h]; rfl
theorem neF (h : i = j) : B5 .NotEq (.int i) (.int j) H = some false := by rw [A84, beq_iff_eq.mpr h]; rfl
theorem ltT (h : i < j) : B5 .Lt (.int i) (.int j) H = some true := by rw [A2b, decide_eq_true h]
theorem ltF (h : ¬ i < j) : B5 .Lt (.int i) (.int j) H = some false := by rw [A2b, decide_eq_false h]
theorem gtT (h : j < i) : B5 .Gt (.int i) (.int j) H = some true := by rw [A8n, decide_eq_true h]
theorem gtF (h : ¬ j < i) : B5 .Gt (.int i) (.int j) H = some false := by rw [A8n, decide_eq_false h]
end
theorem A58 {n : Nat} (h : n ≤ 1000) : n ≤ lim := Nat.le_trans h (by decide)
theorem Aq {xs : List AV} {H : A0} (h : xs.length ≤ 1000) : Aw xs H = .ok (.ref H.length) (H ++ [.list xs]) := if_pos (A58 h)
inductive A9o (H : A0) (E : List (Nat × Nat)) (v : AV) (H' : A0) : Prop
  | mk (r : Nat) (hv : v = .ref r) (hT : TL H' r E) (hp : H <+: H') (hge : H.length ≤ r) : A9o H E v H'
inductive A7b (H : A0) (n : Nat) (E : List (Nat × Nat)) (v : AV) (H' : A0) : Prop
  | mk (r : Nat) (hv : v = .tup [.int n, .ref r]) (hT : TL H' r E) (hp : H <+: H') (hge : H.length ≤ r) : A7b H n E v H'
noncomputable def Xl : FnI := ⟨2, 2, .cons (.ret (.bin .Add (.slice (.var 0) .none (.some (.var 1))) (.slice (.var 0) (.some (.bin .Add (.var 1) (.int 1))) .none))) .nil⟩
noncomputable def W5 : FnI := ⟨3, 3, .cons (.ite (.cmp .Eq (.var 0) (.var 2)) (.cons (.ret (.var 1)) .nil) .nil) (.cons (.ite (.cmp .Gt (.var 0) (.var 2)) (.cons (.ret (.bin .Sub (.var 0) (.int 1))) .nil) .nil) (.cons (.ret (.var 0)) .nil))⟩
noncomputable def A29 : FnI := ⟨3, 6, .cons (.assign 3 (.prim .min1 (.cons (.idx (.var 1) (.var 2)) .nil))) (.cons (.assign 4 (.prim .max1 (.cons (.idx (.var 1) (.var 2)) .nil))) (.cons (.assign 5 (.call 14 (.cons (.var 1) (.cons (.var 2) .nil)))) (.cons (.ret (.tuple (.cons (.bin .Sub (.var 0) (.int 1)) (.cons (.comp2 (.tuple (.cons (.call 16 (.cons (.var 0) (.cons (.var 5) (.cons (.var 6) .nil)))) (.cons (.call 16 (.cons (.var 1) (.cons (.var 5) (.cons (.var 6) .nil)))) .nil))) (.of (.var 5))) .nil)))) .nil)))⟩
section
variable {strF : Bi} {sc : List Int} {P : Nat → Option FnI} {H H0 : A0} {n m : Nat} {ρ : A8} {cf : Nat → List AV → A0 → Res AV} {N : A8 → A0 → Prop} {R : AV → A0 → Prop}
theorem Wm {r i : Nat} {E : List (Nat × Nat)} (hl : E.length ≤ 1000) (hi : i ≤ E.length) : Aw (cut (E.map C5) none (some (i : Int))) H = .ok (.ref H.length) (H ++ [.list ((E.take i).map C5)]) := by
  rw [A8d (by rw [List.length_map]; exact hi), List.map_take, Aq]
  rw [List.length_take, List.length_map]; exact Nat.le_trans (Nat.min_le_right _ _) hl
theorem M1 {r i : Nat} {E : List (Nat × Nat)} (hl : E.length ≤ 1000) (hi : i ≤ E.length) : Aw (cut (E.map C5) (some (i : Int)) none) H = .ok (.ref H.length) (H ++ [.list ((E.drop i).map C5)]) := by
  rw [Vk (by rw [List.length_map]; exact hi), List.map_drop, Aq]
  rw [List.length_drop, List.length_map]; exact Us hl
theorem Aav {r q : Nat} {E F : List (Nat × Nat)} (hr : TL H r E) (hq : TL H q F) (hl : E.length + F.length ≤ 1000) : Bc .Add (.ref r) (.ref q) H = .ok (.ref H.length) (H ++ [.list ((E ++ F).map C5)]) := by
  rw [Re, hr, hq, List.map_append]
  exact Aq (by rw [List.length_append, List.length_map, List.length_map]; exact hl)
theorem Yw (h14 : P 14 = some Xl) {r i : Nat} {E : List (Nat × Nat)} (hT : TL H r E) (hl : E.length ≤ 100) (hi : i < E.length) : (Al strF P sc (m + 1) 14 [.ref r, .int i] H).sat (A9o H (E.eraseIdx i)) := by
  have e1 : ((i : Nat) : Int) + 1 = ((i + 1 : Nat) : Int) := rfl
  refine B0 h14 rfl (Bd (Ak (E6 (A6 rfl) Gi (Gp (A6 rfl)) hT (Wm (r := r) (by exact Nat.le_trans hl (by decide)) (Nat.le_of_lt hi)))
    (E6 (A6 rfl) (Gp (Ak (A6 rfl) Ac (De.trans (by rw [e1])))) Gi (Ab (Ag _ _) hT) (M1 (r := r) (by exact Nat.le_trans hl (by decide)) hi)) (Aav (Ab (Ag _ _) (Ah _ _)) (Ah _ _) ?_))
    ⟨_, rfl, ?_, ?_, ?_⟩)
  · rw [List.length_take, List.length_drop]; exact Nat.le_trans (A69 _ _) (Nat.le_trans hl (by decide))
  · rw [← List.eraseIdx_eq_take_drop_succ]; exact Ah _ _
  · exact ((Ag _ _).trans (Ag _ _)).trans (Ag _ _)
  · rw [List.length_append, List.length_append]; exact A6r (Nat.le_add_right _ _)
theorem Lk (h16 : P 16 = some W5) {lo hi x : Nat} : Al strF P sc (m + 1) 16 [.int x, .int lo, .int hi] H = .ok (.int (join lo hi x)) H := by
  refine Fp (B0 h16 rfl ?_)
  unfold join
  by_cases h1 : x = hi
  · rw [if_pos h1]
    exact Cg (Au (A6 rfl) (A6 rfl) (eqT (by rw [h1]))) (Bd (A6 rfl) ⟨rfl, rfl⟩)
  · rw [if_neg h1]
    refine B3 (Au (A6 rfl) (A6 rfl) (eqF (by exact A45 h1))) ?_
    by_cases h2 : x < hi
    · rw [if_pos h2]
      exact B3 (Au (A6 rfl) (A6 rfl) (gtF (by exact Xu (Int.le_of_lt (Ky h2))))) (Bd (A6 rfl) ⟨rfl, rfl⟩)
    · rw [if_neg h2]
      refine Cg (Au (A6 rfl) (A6 rfl) (gtT (by exact Ky (No (oGt h2) h1)))) (Bd (Ak (A6 rfl) Ac Df) ⟨?_, rfl⟩)
      congr 1; exact A2c (Fl (Iz (oGe h2) h1))
theorem A5g (e : Nat × Nat) : prim strF sc .min1 [C5 e] H = .ok (.int (min e.1 e.2 : Nat)) H := by
  rw [show C5 e = .tup [.int e.1, .int e.2] from rfl, A1v]; congr 2; exact A8v _ _
theorem A5y (e : Nat × Nat) : prim strF sc .max1 [C5 e] H = .ok (.int (max e.1 e.2 : Nat)) H := by
  rw [show C5 e = .tup [.int e.1, .int e.2] from rfl, A0o]; congr 2; exact A90 _ _
theorem Es {r i : Nat} {E : List (Nat × Nat)} {e : Nat × Nat} (hT : TL H r E) (he : E[i]? = some e) : Cl sc (.ref r) (.int i) H = .ok (C5 e) H := Bk hT (by rw [List.getElem?_map, he]; rfl)
theorem J8 (h14 : P 14 = some Xl) (h16 : P 16 = some W5) (h17 : P 17 = some A29) {r i : Nat} {E : List (Nat × Nat)} {e : Nat × Nat} (hT : TL H r E) (hl : E.length ≤ 100) (he : E[i]? = some e) :
    (Al strF P sc (m + 2) 17 [.int (n + 1 : Nat), .ref r, .int i] H).sat (A7b H n (ctr e (E.eraseIdx i))) := by
  refine bC fun hno => ?_
  obtain ⟨v, H1, e1, r1, rfl, hT1, hp1, hg1⟩ := Res.sat_ex (Yw (strF := strF) (sc := sc) (m := m) h14 hT hl (List.getElem?_eq_some_iff.mp he).1)
  have hl1 : (E.eraseIdx i).length ≤ 100 := Nat.le_trans (List.length_eraseIdx_le ..) hl
  refine hno ?_
  refine B0 h17 rfl (Ae (Ap (A5 (At (A6 rfl) (A6 rfl) (Es hT he)) A9) (A5g e)) (Ae (Ap (A5 (At (A6 rfl) (A6 rfl) (Es hT he)) A9) (A5y e))
    (Ae (Ar (A5 (A6 rfl) (A5 (A6 rfl) A9)) e1) (Bd (Gl (A5 (Ak (A6 rfl) Ac Df) (A5 (Xp (G3 (A6 rfl) hT1) (Ja hT1 (Eu (min e.1 e.2) (max e.1 e.2)) _ fun f hf => ?_) (Aq ?_)) A9)) Uq)
    ⟨_, ?_, Ah _ _, hp1.trans (Ag _ _), hp1.length_le⟩))))
  · exact A3r (Gl (A5 (Ar (A5 (A6 rfl) (A5 (A6 rfl) (A5 (A6 rfl) A9))) (Lk h16)) (A5 (Ar (A5 (A6 rfl) (A5 (A6 rfl) (A5 (A6 rfl) A9))) (Lk h16)) A9)) Uq)
  · rw [List.length_map, List.length_map]; exact Nat.le_trans hl1 (by decide)
  · rw [show ((n + 1 : Nat) : Int) - 1 = (n : Int) by exact Wu _]
end
end Mine
namespace Mine
open PySem
section
variable {strF : Bi} {sc : List Int} {P : Nat → Option FnI} {H H0 H1 H2 H3 : A0} {n m b : Nat} {ρ : A8} {cf : Nat → List AV → A0 → Res AV} {N : A8 → A0 → Prop} {R : AV → A0 → Prop} {x y : PE} {ss : PSs}
theorem Lu {c : Int} {n k : Nat} (e : c.fmod n = k) (h : 0 < n) : Bc .Mod (.int c) (.int (n : Int)) H = .ok (.int k) H := by
  rw [Ws, if_pos (by exact A45 (Nat.ne_of_gt h)), e]
theorem Ls {c d : Int} (h0 : d ≠ 0) (h : d.natAbs < 1000000) : Bc .FloorDiv (.int c) (.int d) H = .ok (.int (c.fdiv d)) H := by
  rw [A1z, if_pos ⟨h0, A67 h⟩]
theorem Zj {step : AV → A8 → A0 → SR} (I : Nat → A8 → A0 → Prop) {k : Nat} (h0 : I 0 ρ H) (hs : ∀ i ρ H, i < k → I i ρ H → (step (.int i) ρ H).sat (I (i + 1)) R) (hN : ∀ ρ H, I k ρ H → N ρ H) : (Ej [] step (B4 0 k) ρ H).sat N R := by
  refine Mx (fun i ρ H => I i.toNat ρ H) (by exact oNN _) h0 (fun i ρ H h1 h2 h => ?_) fun ρ H h => hN ρ H (by simpa using h)
  obtain ⟨j, rfl⟩ : ∃ j : Nat, i = j := ⟨i.toNat, by exact Ql h1⟩
  have := hs j ρ H (by exact A1c h2) (by simpa using h)
  refine SR.sat_mono this (fun ρ H h => ?_) fun _ _ h => h
  show I ((j : Int) + 1).toNat ρ H
  rw [show ((j : Int) + 1).toNat = j + 1 by exact rfl]; exact h
theorem Ev {k : Nat} (h : k ≤ 1000) : inR (k : Int) = true := A55 h
theorem Ub {k : Nat} (h5 : P 5 = some P8) (h6 : P 6 = some Qn) (hk : k < 1000) : Al strF P sc (m + 2) 6 [.scr, .int k] H = .ok (.int (mix sc k)) H := K3 h5 h6 hk
inductive TrI (H0 : A0) (n k : Nat) (ρ : A8) (H : A0) : Prop
  | mk (E : List (Nat × Nat)) (x3 x4 x5 : Option AV) (hρ : ρ = [some .scr, some (.int n), some (.ref H0.length), x3, x4, x5]) (hp : H0 <+: H) (hT : TL H H0.length E) (hl : E.length = k) (hok : okT n E) : TrI H0 n k ρ H
theorem Ua {E : List (Nat × Nat)} {e : Nat × Nat} (h : okT n E) (h1 : e.1 < n) (h2 : e.2 < n) : okT n (E ++ [e]) := fun f hf => by
  rcases List.mem_append.mp hf with hf | hf
  · exact h f hf
  · cases List.mem_singleton.mp hf; exact ⟨h1, h2⟩
inductive A70 (H : A0) (n : Nat) (v : AV) (H' : A0) : Prop
  | mk (r : Nat) (E : List (Nat × Nat)) (hv : v = .ref r) (hT : TL H' r E) (hp : H <+: H') (hge : H.length ≤ r) (hl : E.length = n) (hok : okT (n + 1) E) : A70 H n v H'
theorem A1w (h5 : P 5 = some P8) (h6 : P 6 = some Qn) (h7 : P 7 = some A60) (hn : n ≤ 7) : (Al strF P sc (m + 3) 7 [.scr, .int (n + 1 : Nat)] H).sat (A70 H n) := by
  have e1 : Bc .Sub (.int (n + 1 : Nat)) (.int 1) (H ++ [.list []]) = .ok (.int n) (H ++ [.list []]) := by rw [Df, show ((n + 1 : Nat) : Int) - 1 = (n : Int) by exact Wu _]
  refine B0 h7 rfl (Ae (Bb A9 (Aq (by simp))) (Dw (Eh (Ak (A6 rfl) Ac e1) (Ev (by exact Nat.le_trans hn (by decide)))) (Zj (TrI H (n + 1)) ⟨[], _, _, _, rfl, Ag _ _, Ah _ _, rfl, fun e he => by cases he⟩ ?_ ?_)))
  · rintro k ρ H1 hk ⟨E, x3, x4, x5, rfl, hp, hT, hl, hok⟩
    refine bC fun hno => ?_
    have e4 : Bc .Add (.int 4) (.int k) H1 = .ok (.int (4 + k : Nat)) H1 := De
    have ek : Bc .Add (.int k) (.int 1) H1 = .ok (.int (k + 1 : Nat)) H1 := De
    obtain ⟨a, ea, ha⟩ := Bz (c := mix sc (4 + k)) (n := k + 1) (by exact Nat.succ_pos _)
    obtain ⟨c, ec, hc⟩ := Bz (c := (mix sc (4 + k)).fdiv 7) (n := 2) (by decide)
    have hpa := Ag H1 [.list [AV.tup [.int a, .int (k + 1 : Nat)], AV.tup [.int (k + 1 : Nat), .int a]]]
    obtain ⟨e, he, ho1, ho2⟩ : ∃ e : Nat × Nat, Cl sc (.ref H1.length) (.int c) (H1 ++ [.list [AV.tup [.int a, .int (k + 1 : Nat)], AV.tup [.int (k + 1 : Nat), .int a]]]) = .ok (C5 e) (H1 ++ [.list [AV.tup [.int a, .int (k + 1 : Nat)], AV.tup [.int (k + 1 : Nat), .int a]]]) ∧ e.1 < n + 1 ∧ e.2 < n + 1 := by
      rcases (show c = 0 ∨ c = 1 by exact (Nat.lt_succ_iff_lt_or_eq.mp hc).imp Nat.lt_one_iff.mp id) with rfl | rfl
      · exact ⟨(a, k + 1), Bk (Ah _ _) rfl, by show a < n + 1; exact Nat.lt_succ_of_lt (Nat.lt_of_lt_of_le ha hk), by show k + 1 < n + 1; exact Nat.lt_succ_of_le hk⟩
      · exact ⟨(k + 1, a), Bk (Ah _ _) rfl, by show k + 1 < n + 1; exact Nat.lt_succ_of_le hk, by show a < n + 1; exact Nat.lt_succ_of_lt (Nat.lt_of_lt_of_le ha hk)⟩
    have hT2 := Ab hpa hT
    refine hno ?_
    exact Ae (Ar (A5 (A6 rfl) (A5 (Ak Ac (A6 rfl) e4) A9)) (Ub h5 h6 (by exact Nat.lt_of_lt_of_le (Nat.add_lt_add_left (Nat.lt_of_lt_of_le hk hn) 4) (by decide))))
      (Ae (Gl (A5 (Ak (A6 rfl) (Ak (A6 rfl) Ac ek) (Lu ea (by exact Nat.succ_pos _))) (A5 (Ak (A6 rfl) Ac ek) A9)) Uq)
      (Gn (Fz (A6 rfl) (Ku hT) (At (Bb (A5 (A6 rfl) (A5 (Gl (A5 (At (A6 rfl) Ac Ir) (A5 (At (A6 rfl) Ac I8) A9)) Uq) A9)) (Aq (by simp))) (Ak (Ak (A6 rfl) Ac (Ls (by decide) (by decide))) Ac (Lu (n := 2) ec (by decide))) he)
        (Oa hT2 (Nat.le_refl _) (Nat.lt_of_lt_of_le (show E.length < 100 by exact A9c hn hk hl) (by decide))))
      (Be ⟨E ++ [e], _, _, _, rfl, C2 (hp.trans hpa) (Nat.le_refl _), F6 ⟨_, hT2⟩, by rw [List.length_append, hl]; rfl, Ua hok ho1 ho2⟩)))
  · rintro ρ H1 ⟨E, x3, x4, x5, rfl, hp, hT, hl, hok⟩
    exact Bd (A6 rfl) ⟨_, E, rfl, hT, hp, Nat.le_refl _, hl, hok⟩
theorem A1d {i : Nat} {E : List (Nat × Nat)} (hl : E.length ≤ 100) (hi : i ≤ E.length) : Aw (cut (E.map C5) none (some (i : Int))) H = .ok (.ref H.length) (H ++ [.list ((E.take i).map C5)]) := Wm (r := 0) (by exact Nat.le_trans hl (by decide)) hi
theorem A3s {i : Nat} {E : List (Nat × Nat)} (hl : E.length ≤ 100) (hi : i ≤ E.length) : Aw (cut (E.map C5) (some (i : Int)) none) H = .ok (.ref H.length) (H ++ [.list ((E.drop i).map C5)]) := M1 (r := 0) (by exact Nat.le_trans hl (by decide)) hi
theorem V5 {a d : Nat} (h : 0 < n) : Bc .Mod (.int ((a : Int) + (d : Int))) (.int n) H = .ok (.int ((a + d) % n : Nat)) H := Lu (by rw [Int.fmod_eq_emod_of_nonneg _ (by exact oNN _)]; simp) h
theorem Tf {r most room : Nat} {first : Int} {E : List (Nat × Nat)} {x6 x7 x8 x9 x10 x11 : Option AV} (h5 : P 5 = some P8) (h6 : P 6 = some Qn) (h1 : 1 ≤ n) (hn : n ≤ most) (p : H0 <+: H) (hT : TL H r E) (hl : E.length ≤ room) (hr : room ≤ 16) (hok : okT n E) :
    (Ai strF (Al strF P sc (m + 2)) sc H0.length Wo [some .scr, some (.int most), some (.int room), some (.int first), some (.int n), some (.ref r), x6, x7, x8, x9, x10, x11] H).sat N (A51 H0 most room) := by
  refine bC fun hno => ?_
  obtain ⟨d, ed, hd⟩ := Bz (c := first.fdiv 35) (n := n) (by exact h1)
  obtain ⟨a, ea, ha⟩ := Bz (c := mix sc 2) (n := E.length + 1) (by exact Nat.succ_pos _)
  have hE1 : (E.map fun e => ((e.1 + d) % n, (e.2 + d) % n)).length = E.length := List.length_map ..
  have hok1 : okT n (E.map fun e => ((e.1 + d) % n, (e.2 + d) % n)) := fun e he => by
    obtain ⟨x, _, rfl⟩ := List.mem_map.mp he
    exact ⟨Nat.mod_lt _ h1, Nat.mod_lt _ h1⟩
  refine hno ?_
  refine Ae (Ak (Ak (A6 rfl) Ac (Ls (by decide) (by decide))) (A6 rfl) (Lu ed h1)) (Ae (Xp (G3 (A6 rfl) hT) (Ja hT (fun e => ((e.1 + d) % n, (e.2 + d) % n)) E fun e he => ?_) (Aq (by rw [List.length_map, hE1]; (first | lia | omega)))) ?_)
  · exact A3r (Gl (A5 (Ak (Ak (A6 rfl) (A6 rfl) De) (A6 rfl) (V5 h1)) (A5 (Ak (Ak (A6 rfl) (A6 rfl) De) (A6 rfl) (V5 h1)) A9)) Uq)
  generalize (E.map fun e => ((e.1 + d) % n, (e.2 + d) % n)) = E1 at hE1 hok1
  have p1 := Ag H [.list (E1.map C5)]
  have hT1 : TL (H ++ [.list (E1.map C5)]) H.length E1 := Ah _ _
  generalize H ++ [.list (E1.map C5)] = H1 at p1 hT1
  have el : Bc .Add (.int E1.length) (.int 1) H1 = .ok (.int (E.length + 1 : Nat)) H1 := by rw [De, hE1]; rfl
  have p2 := Ag H1 [.list ((E1.drop a).map C5)]
  have p3 := Ag (H1 ++ [.list ((E1.drop a).map C5)]) [.list ((E1.take a).map C5)]
  have hlx : (E1.drop a).length + (E1.take a).length = E.length := by rw [List.length_drop, List.length_take]; exact (A5x _ _).trans hE1
  refine Ae (Ak (Ar (A5 (A6 rfl) (A5 Ac A9)) (Ub (k := 2) h5 h6 (by decide))) (Ak (Ap (A5 (A6 rfl) A9) (by rw [Mo, Lj, hT1]; exact congrArg (fun k : Nat => Res.ok (AV.int k) H1) (List.length_map ..))) Ac el) (Lu ea (by exact Nat.succ_pos _)))
    (Bd (Gl (A5 (A6 rfl) (A5 (Ak (E6 (A6 rfl) (Gp (A6 rfl)) Gi hT1 (A3s (by exact Aa6 hl hr hE1) (by exact Aar ha hE1))) (E6 (A6 rfl) Gi (Gp (A6 rfl)) (Ab p2 hT1) (A1d (by exact Aa6 hl hr hE1) (by exact Aar ha hE1))) (Aav (Ab p3 (Ah _ _)) (Ah _ _) (by (first | lia | omega)))) A9)) Uq)
    ⟨n, _, E1.drop a ++ E1.take a, rfl, Ah _ _, ((p.trans p1).trans (p2.trans p3)).trans (Ag _ _), ((p.trans p1).trans (p2.trans p3)).length_le, by rw [List.length_append]; exact A3y hlx hl, fun e he => ?_, h1, hn⟩)
  rcases List.mem_append.mp he with he | he
  · exact hok1 e (List.mem_of_mem_drop he)
  · exact hok1 e (List.mem_of_mem_take he)
inductive NlI (H0 : A0) (most room : Nat) (first : Int) (n r l : Nat) (k : Nat) (ρ : A8) (H : A0) : Prop
  | mk (E : List (Nat × Nat)) (x6 x7 x8 x9 x10 x11 : Option AV) (hρ : ρ = [some .scr, some (.int most), some (.int room), some (.int first), some (.int n), some (.ref r), x6, x7, x8, x9, x10, x11]) (hp : H0 <+: H) (hT : TL H r E) (hl : E.length = l + k) (hok : okT n E) : NlI H0 most room first n r l k ρ H
theorem Vc {r most room k l : Nat} {first : Int} {E : List (Nat × Nat)} {e : Nat × Nat} {x6 x7 x8 x10 x11 : Option AV} (hge : H0.length ≤ r) (p : H0 <+: H) (hT : TL H r E) (hl : E.length = l + k) (hlk : l + k < 100) (hok : okT n E) (h1 : e.1 < n) (h2 : e.2 < n) :
    (Ai strF cf sc H0.length (.cons (.expr (.append (.var 5) (.var 9))) .nil) [some .scr, some (.int most), some (.int room), some (.int first), some (.int n), some (.ref r), x6, x7, x8, some (C5 e), x10, x11] H).sat (NlI H0 most room first n r l (k + 1)) R :=
  Gn (Fz (A6 rfl) (Ku hT) (A6 rfl) (Oa hT hge (Nat.lt_of_lt_of_le (show E.length < 100 by exact Sh hl hlk) (by decide)))) (Be ⟨E ++ [e], _, _, _, _, _, _, rfl, C2 p hge, F6 ⟨_, hT⟩, by rw [List.length_append, hl]; rfl, Ua hok h1 h2⟩)
theorem Lf {r most room : Nat} {first : Int} {E : List (Nat × Nat)} {x6 x7 x8 x9 x10 x11 : Option AV} (h5 : P 5 = some P8) (h6 : P 6 = some Qn) (h1 : 1 ≤ n) (hn : n ≤ most) (hroom : room ≤ 16) (hge : H0.length ≤ r) (p : H0 <+: H) (hT : TL H r E) (hl : E.length ≤ room) (hok : okT n E) :
    (Ai strF (Al strF P sc (m + 2)) sc H0.length A65 [some .scr, some (.int most), some (.int room), some (.int first), some (.int n), some (.ref r), x6, x7, x8, x9, x10, x11] H).sat N (A51 H0 most room) := by
  refine bC fun hno => ?_
  obtain ⟨k, ek, hk⟩ := Bz (c := mix sc 1) (n := room - E.length + 1) (by exact Nat.succ_pos _)
  have lenT : ∀ {H : A0} {r : Nat} {E : List (Nat × Nat)}, TL H r E → prim strF sc .len [.ref r] H = .ok (.int E.length) H := fun {H r E} h => by rw [Mo, Lj, h]; exact congrArg (fun k : Nat => Res.ok (AV.int k) H) (List.length_map ..)
  have e1 : Bc .Sub (.int room) (.int E.length) H = .ok (.int (room - E.length : Nat)) H := by rw [Df, show (room : Int) - (E.length : Int) = ((room - E.length : Nat) : Int) by exact A75 hl]
  have e2 : Bc .Add (.int (room - E.length : Nat)) (.int 1) H = .ok (.int (room - E.length + 1 : Nat)) H := De
  refine hno ?_
  refine Dw (Eh (Ak (Ar (A5 (A6 rfl) (A5 Ac A9)) (Ub (k := 1) h5 h6 (by decide))) (Ak (Ak (A6 rfl) (Ap (A5 (A6 rfl) A9) (lenT hT)) e1) Ac e2) (Lu ek (by exact Nat.succ_pos _))) (Ev (by exact Abj hroom hk)))
    (Zj (NlI H0 most room first n r E.length) ⟨E, _, _, _, _, _, _, rfl, p, hT, rfl, hok⟩ ?_ ?_)
  · rintro i ρ H1 hi ⟨E1, x6, x7, x8, x9, x10, x11, rfl, p1, hT1, hl1, hok1⟩
    refine bC fun hno => ?_
    have e11 : Bc .Add (.int 11) (.int i) H1 = .ok (.int (11 + i : Nat)) H1 := De
    obtain ⟨one, eone, hone⟩ := Bz (c := mix sc (11 + i)) (n := n) (by exact h1)
    obtain ⟨d, ed, hd⟩ := Bz (c := (mix sc (11 + i)).fdiv 7) (n := n) (by exact h1)
    refine hno ?_
    refine Ae (Ar (A5 (A6 rfl) (A5 (Ak Ac (A6 rfl) e11) A9)) (Ub h5 h6 (by exact Nat.lt_of_lt_of_le (Nat.add_lt_add_left (Nat.lt_of_lt_of_le hi (Nat.le_trans (Nat.le_of_lt_succ hk) (Nat.le_trans (Nat.sub_le _ _) hroom))) 11) (by decide)))) (Ae (Ak (A6 rfl) (A6 rfl) (Lu eone h1))
      (Ae (Gl (A5 (A6 rfl) (A5 (Ak (Ak (A6 rfl) (Ak (Ak (A6 rfl) Ac (Ls (by decide) (by decide))) (A6 rfl) (Lu ed h1)) De) (A6 rfl) (V5 h1)) A9)) Uq) ?_))
    refine bC fun hno => ?_
    have hlt : (one + d) % n < n := Nat.mod_lt _ h1
    obtain ⟨c, ec, hc⟩ := Bz (c := (mix sc (11 + i)).fdiv 49) (n := 6) (by decide)
    have ec' : Bc .Mod (.int ((mix sc (11 + i)).fdiv 49)) (.int 6) H1 = .ok (.int c) H1 := Lu (n := 6) ec (by decide)
    refine hno ?_
    by_cases h5' : c = 5
    · have hc5 : B5 .Eq (.int c) (.int 5) H1 = some true := eqT (by rw [h5']; rfl)
      have p2 := Ag H1 [.list []]
      have hT2 : TL (H1 ++ [.list []]) r E1 := Ab p2 hT1
      have hne := Uh (r := r) (v := .ref H1.length) (H := H1 ++ [.list []])
      rw [A3z hT1] at hne
      by_cases hE : E1 = []
      · rw [decide_eq_true hE] at hne
        exact B3 (J2 (Cv (Au (Ak (Ak (A6 rfl) Ac (Ls (by decide) (by decide))) Ac ec') Ac hc5) (Eb (Au (A6 rfl) (Bb A9 (Aq (by simp))) hne)))) (Vc (e := (one, (one + d) % n)) hge (p1.trans p2) hT2 hl1 (by exact oM5 hroom hk hi) hok1 hone hlt)
      · refine bC fun hno => ?_
        rw [decide_eq_false hE] at hne
        have hpos : 0 < E1.length := List.length_pos_iff.mpr hE
        obtain ⟨j, ej, hj⟩ := Bz (c := (mix sc (11 + i)).fdiv 300) hpos
        have he := List.getElem?_eq_getElem hj
        have ho := hok1 _ (List.getElem_mem hj)
        refine hno ?_
        exact Cg (J2 (Cv (Au (Ak (Ak (A6 rfl) Ac (Ls (by decide) (by decide))) Ac ec') Ac hc5) (Cv (Au (A6 rfl) (Bb A9 (Aq (by simp))) hne) Vg)))
          (Ae (At (A6 rfl) (Ak (Ak (A6 rfl) Ac (Ls (by decide) (by decide))) (Ap (A5 (A6 rfl) A9) (lenT hT2)) (Lu ej hpos)) (Es hT2 he)) (Be (Vc hge (p1.trans p2) hT2 hl1 (by exact oM5 hroom hk hi) hok1 ho.1 ho.2)))
    · exact B3 (J2 (Eb (Au (Ak (Ak (A6 rfl) Ac (Ls (by decide) (by decide))) Ac ec') Ac (eqF (by exact A45 h5'))))) (Vc (e := (one, (one + d) % n)) hge p1 hT1 hl1 (by exact oM5 hroom hk hi) hok1 hone hlt)
  · rintro ρ H1 ⟨E1, x6, x7, x8, x9, x10, x11, rfl, p1, hT1, hl1, hok1⟩
    exact Tf h5 h6 h1 hn p1 hT1 (by exact Ac9 hl hk hl1) hroom hok1
theorem A5t {most room : Nat} (h5 : P 5 = some P8) (h6 : P 6 = some Qn) (h7 : P 7 = some A60) (h8 : P 8 = some A52) (hm : 1 ≤ most) (hm7 : most ≤ 7) (hr : most ≤ room + 1) (hr16 : room ≤ 16) :
    (Al strF P sc (m + 4) 8 [.scr, .int most, .int room] H).sat (A51 H most room) := by
  refine bC fun hno => ?_
  obtain ⟨n, en, hn⟩ := Bz (c := mix sc 0) hm
  have e1 : Bc .Add (.int 1) (.int n) H = .ok (.int (n + 1 : Nat)) H := by rw [De, show (1 : Int) + (n : Int) = ((n + 1 : Nat) : Int) by exact Int.add_comm _ _]
  refine hno ?_
  refine B0 (body := A52.body) h8 rfl (Ae (Ar (A5 (A6 rfl) (A5 Ac A9)) (Ub (k := 0) h5 h6 (by decide))) (Ae (Ak Ac (Ak (A6 rfl) (A6 rfl) (Lu en hm)) e1) (Ae (Bb A9 (Aq (by simp))) ?_)))
  have hT0 : TL (H ++ [.list []]) H.length [] := Ah _ _
  have p0 := Ag H [.list []]
  have ec : Bc .Mod (.int ((mix sc 0).fdiv 7)) (.int 5) (H ++ [.list []]) = .ok (.int (((mix sc 0).fdiv 7).fmod 5)) (H ++ [.list []]) := by rw [Ws, if_pos (by decide)]
  by_cases h : 0 < ((mix sc 0).fdiv 7).fmod 5
  · refine bC fun hno => ?_
    obtain ⟨v, H2, e2, r, E, rfl, hT, hp, hg, hl, hok⟩ := Res.sat_ex (A1w (strF := strF) (sc := sc) (m := m) (H := H ++ [.list []]) h5 h6 h7 (show n ≤ 7 by exact Nat.le_of_lt (Nat.lt_of_lt_of_le hn hm7)))
    refine hno ?_
    exact Cg (Au (Ak (Ak (A6 rfl) Ac (Ls (by decide) (by decide))) Ac ec) Ac (gtT h)) (Ae (Ar (A5 (A6 rfl) (A5 (A6 rfl) A9)) e2) (Be (Lf (m := m + 1) h5 h6 (by exact Nat.succ_pos _) hn hr16 (Nat.le_trans p0.length_le hg) (p0.trans hp) hT (by exact Nat.le_of_lt_succ (Nat.lt_of_lt_of_le (Sh hl hn) hr)) hok)))
  · exact B3 (Au (Ak (Ak (A6 rfl) Ac (Ls (by decide) (by decide))) Ac ec) Ac (gtF h)) (Lf (m := m + 1) (E := []) h5 h6 (by exact Nat.succ_pos _) hn hr16 (Nat.le_refl _) p0 hT0 (Nat.zero_le _) fun e he => by cases he)
end
end Mine
namespace Mine
open PySem
section
variable {M A : Mat} {k i p a c n : Nat}
theorem Uy : Ht M A k i 0 a c = Ht M A k i (k + 1) a c := by
  unfold Ht
  by_cases q : k < a ∧ k < c ∧ (a < i ∨ (a = i ∧ c < 0))
  · rw [if_pos q, if_pos (by exact ⟨q.1, q.2.1, q.2.2.imp id fun q => absurd q.2 (Nat.not_lt_zero _)⟩)]
  · rw [if_neg q, if_neg (by exact fun e => q ⟨e.1, e.2.1, e.2.2.imp id fun q => absurd e.2.1 (Nat.not_lt_of_le (Nat.le_of_lt_succ q.2))⟩)]
theorem A2r (hc : c < n) : Ht M A k i n a c = Ht M A k (i + 1) 0 a c := by
  unfold Ht
  by_cases q : k < a ∧ k < c ∧ (a < i ∨ (a = i ∧ c < n))
  · rw [if_pos q, if_pos (by exact ⟨q.1, q.2.1, .inl (q.2.2.elim Nat.lt_succ_of_lt fun q => Nat.lt_succ_of_le (Nat.le_of_eq q.1))⟩)]
  · rw [if_neg q, if_neg fun e => e.2.2.elim (fun r => q ⟨e.1, e.2.1, (Nat.lt_succ_iff_lt_or_eq.mp r).imp id fun r => ⟨r, hc⟩⟩) fun r => Nat.not_lt_zero _ r.2]
theorem Ze (hi : k < i) (hp : k < p) : (if a = i ∧ c = p then E M (k + 1) i p else Ht M A k i p a c) = Ht M A k i (p + 1) a c := by
  unfold Ht
  by_cases q : a = i ∧ c = p
  · rw [if_pos q, if_pos (by exact ⟨Ix hi q.1.symm, Ix hp q.2.symm, .inr ⟨q.1, Nat.lt_succ_of_le (Nat.le_of_eq q.2)⟩⟩), q.1, q.2]
  · rw [if_neg q]
    by_cases q' : k < a ∧ k < c ∧ (a < i ∨ (a = i ∧ c < p))
    · rw [if_pos q', if_pos (by exact oM4 q')]
    · rw [if_neg q', if_neg (by exact oM3 q q')]
theorem Hi (h : a ≤ k ∨ c ≤ k ∨ (a = i ∧ p ≤ c)) : Ht M A k i p a c = A a c := by unfold Ht; rw [if_neg (by exact fun e => h.elim (fun q => Nat.not_lt_of_le q e.1) fun q => q.elim (fun q => Nat.not_lt_of_le q e.2.1) fun q => e.2.2.elim (fun r => Nat.ne_of_lt r q.1) fun r => Nat.not_lt_of_le q.2 r.2)]
theorem Vb : Ht M A k (k + 1) 0 a c = A a c := by unfold Ht; rw [if_neg (by (first | lia | omega))]
end
section
variable {strF : Bi} {sc : List Int} {P : Nat → Option FnI} {H H0 H1 H2 H3 H4 : A0} {n m b k t : Nat} {ρ : A8} {cf : Nat → List AV → A0 → Res AV} {N : A8 → A0 → Prop} {R : AV → A0 → Prop} {x y z : PE} {v w u : AV} {ss : PSs} {qs : List Nat} {A M M0 : Mat} {sg last : Int}
theorem A8o {a c : Nat} {step : AV → A8 → A0 → SR} (hac : a ≤ c) (I : Nat → A8 → A0 → Prop) (h0 : I a ρ H) (hs : ∀ i ρ H, a ≤ i → i < c → I i ρ H → (step (.int i) ρ H).sat (I (i + 1)) R) (hN : ∀ ρ H, I c ρ H → N ρ H) : (Ej [] step (B4 a c) ρ H).sat N R := by
  refine Mx (fun i ρ H => I i.toNat ρ H) (by exact Qg hac) h0 (fun i ρ H h1 h2 h => ?_) fun ρ H h => hN ρ H (by simpa using h)
  obtain ⟨j, rfl⟩ : ∃ j : Nat, i = j := ⟨i.toNat, by exact Ql (Int.le_trans (oNN _) h1)⟩
  have := hs j ρ H (by exact Aa9 h1) (by exact A1c h2) (by simpa using h)
  refine SR.sat_mono this (fun ρ H h => ?_) fun _ _ h => h
  show I ((j : Int) + 1).toNat ρ H
  rw [show ((j : Int) + 1).toNat = j + 1 by exact rfl]; exact h
theorem El (h1 : Aa strF cf sc b z ρ H = .ok u H1) (h2 : Aa strF cf sc b x ρ H1 = .ok v H2) (h3 : Aa strF cf sc b y ρ H2 = .ok w H3) (h4 : Gr b v w u H3 = .ok () H4) (k : (Ai strF cf sc b ss ρ H4).sat N R) : (Ai strF cf sc b (.cons (.setIdx x y z) ss) ρ H).sat N R := by
  rw [Bt, Vr, h1]; show Res.sat (Aa strF cf sc b x ρ H1) _
  rw [h2]; show Res.sat (Aa strF cf sc b y ρ H2) _
  rw [h3]; show Res.sat (Gr b v w u H3) _
  rw [h4]; exact k
theorem M2 (T : Z9 H t qs n A) : prim strF sc .len [.ref t] H = .ok (.int n) H := by rw [Mo, Lj, T.top]; exact congrArg (fun k : Nat => Res.ok (AV.int k) H) ((List.length_map ..).trans T.len)
inductive Ux (A : Mat) (k n : Nat) (v : AV) : Prop
  | none (hv : v = .none) (h : ∀ i, k ≤ i → i < n → A i k = 0) : Ux A k n v
  | some (c : Nat) (hv : v = .int c) (h1 : k ≤ c) (h2 : c < n) (h3 : A c k ≠ 0) : Ux A k n v
inductive FiI (H0 : A0) (A : Mat) (t k : Nat) (i : Nat) (ρ : A8) (H : A0) : Prop
  | mk (x2 : Option AV) (hρ : ρ = [some (.ref t), some (.int k), x2]) (hH : H = H0) (h : ∀ j, k ≤ j → j < i → A j k = 0) : FiI H0 A t k i ρ H
theorem Zr (h19 : P 19 = some N8) (T : Z9 H t qs n A) (hk : k < n) (hn : n ≤ 1000) : (Al strF P sc (m + 1) 19 [.ref t, .int k] H).sat fun v H' => Ux A k n v ∧ H' = H := by
  refine B0 h19 rfl (Dw (Me (A6 rfl) (Ap (A5 (A6 rfl) A9) (M2 T)) (Ev (by exact Nat.le_of_lt (Nat.lt_of_lt_of_le hk hn))) (Ev hn)) (A8o (Nat.le_of_lt hk) (FiI H A t k) ⟨_, rfl, rfl, fun j h1 h2 => absurd h2 (by exact Rc h1)⟩ ?_ ?_))
  · rintro i ρ H' h1 h2 ⟨x2, rfl, rfl, h⟩
    obtain ⟨q, eq, g, r⟩ := T.at (sc := sc) h2
    have it := Eg (sc := sc) r hk
    by_cases hz : A i k = 0
    · refine B3 (Au (At (At (A6 rfl) (A6 rfl) g) (A6 rfl) it) Ac (neF hz)) (Be ⟨_, rfl, rfl, fun j g1 g2 => ?_⟩)
      by_cases q2 : j = i
      · rw [q2, hz]
      · exact h j g1 (by exact Gs g2 q2)
    · exact Cg (Au (At (At (A6 rfl) (A6 rfl) g) (A6 rfl) it) Ac (neT hz)) (Bd (A6 rfl) ⟨.some i rfl h1 h2 hz, rfl⟩)
  · rintro ρ H' ⟨x2, rfl, rfl, h⟩
    exact Bd Kw ⟨.none rfl h, rfl⟩
theorem A12 {i j : Int} (h1 : i.natAbs < big) (h2 : j.natAbs < big) : Bc .Mult (.int i) (.int j) H = .ok (.int (i * j)) H := by rw [Sx, if_pos (Yv h1 h2)]
inductive PlI (H0 : A0) (t n k i : Nat) (qs : List Nat) (M A : Mat) (sg last : Int) (x4 x5 : Option AV) (p : Nat) (ρ : A8) (H : A0) : Prop
  | mk (x7 x8 : Option AV) (hρ : ρ = [some (.ref t), some (.int sg), some (.int last), some (.int k), x4, x5, some (.int i), x7, x8]) (T : G8 H0 H t qs n (Ht M A k i p)) : PlI H0 t n k i qs M A sg last x4 x5 p ρ H
inductive RoI (H0 : A0) (t n k : Nat) (qs : List Nat) (M A : Mat) (sg last : Int) (x4 x5 : Option AV) (i : Nat) (ρ : A8) (H : A0) : Prop
  | mk (x6 x7 x8 : Option AV) (hρ : ρ = [some (.ref t), some (.int sg), some (.int last), some (.int k), x4, x5, x6, x7, x8]) (T : G8 H0 H t qs n (Ht M A k i 0)) : RoI H0 t n k qs M A sg last x4 x5 i ρ H
theorem A8u {k : Nat} : Bc .Add (.int k) (.int 1) H = .ok (.int (k + 1 : Nat)) H := De
theorem Zl {i : Nat} {x4 x5 x7 x8 : Option AV} (I : A1l M0 H0 t n k sg last M A qs H1) (hn : n ≤ 8) (hk : k < n) (hi : k < i) (hin : i < n) (T : G8 H0 H t qs n (Ht M A k i 0)) :
    (Ai strF cf sc H0.length (.cons Ow .nil) [some (.ref t), some (.int sg), some (.int last), some (.int k), x4, x5, some (.int i), x7, x8] H).sat (RoI H0 t n k qs M A sg last x4 x5 (i + 1)) R := by
  refine Dw (Me (Ak (A6 rfl) Ac A8u) (Ap (A5 (A6 rfl) A9) (M2 T.rd)) (Ev (by exact Aaf hn hk)) (Ev (by exact Nat.le_trans hn (by decide)))) (A8o hk (PlI H0 t n k i qs M A sg last x4 x5) ⟨_, _, rfl, T.congr fun a c _ _ => Uy⟩ ?_ ?_)
  · rintro p ρ H h1 hpn ⟨x7, x8, rfl, T⟩
    refine bC fun hno => ?_
    have hp : k < p := h1
    obtain ⟨qi, ei, gi, ri⟩ := T.rd.at (sc := sc) hin
    obtain ⟨qk, ek, gk, rk⟩ := T.rd.at (sc := sc) hk
    have i1 := Eg (sc := sc) ri hpn
    have i2 := Eg (sc := sc) rk hk
    have i3 := Eg (sc := sc) ri hk
    have i4 := Eg (sc := sc) rk hpn
    rw [Hi (.inr (.inr ⟨rfl, Nat.le_refl _⟩)), I.hA _ _ (Nat.le_of_lt hi) hin (Nat.le_of_lt hp) hpn] at i1
    rw [Hi (.inl (Nat.le_refl _)), I.hA _ _ (Nat.le_refl _) hk (Nat.le_refl _) hk] at i2
    rw [Hi (.inr (.inl (Nat.le_refl _))), I.hA _ _ (Nat.le_of_lt hi) hin (Nat.le_refl _) hk] at i3
    rw [Hi (.inl (Nat.le_refl _)), I.hA _ _ (Nat.le_refl _) hk (Nat.le_of_lt hp) hpn] at i4
    have hdiv : (E M k i p * E M k k k - E M k i k * E M k k p).fdiv last = E M (k + 1) i p := by
      have := A83 (M := M) (k := k) (i := i) (j := p) (by rw [I.hq]; exact I.hq0)
      rw [I.hq] at this
      rw [show E M k i p * E M k k k - E M k i k * E M k k p = last * E M (k + 1) i p by rw [this]; grind]
      exact Int.mul_fdiv_cancel_left _ I.hq0
    obtain ⟨c1, c2⟩ := T.cell (x := E M (k + 1) i p) ei hpn
    have bb := fun {i j : Nat} (hi : i < n) (hj : j < n) => Xj I.hB hn hk hi hj
    refine hno ?_
    exact Ae (Ak (Ak (At (At (A6 rfl) (A6 rfl) gi) (A6 rfl) i1) (At (At (A6 rfl) (A6 rfl) gk) (A6 rfl) i2) (A12 (bb hin hpn) (bb hk hk))) (Ak (At (At (A6 rfl) (A6 rfl) gi) (A6 rfl) i3) (At (At (A6 rfl) (A6 rfl) gk) (A6 rfl) i4) (A12 (bb hin hk) (bb hk hpn))) Df)
      (El (Ak (A6 rfl) (A6 rfl) (by rw [A1z, if_pos ⟨I.hq0, I.hl⟩, hdiv])) (At (A6 rfl) (A6 rfl) gi) (A6 rfl) c1 (Be ⟨_, _, rfl, c2.congr fun a c _ _ => Ze hi hp⟩))
  · rintro ρ H ⟨x7, x8, rfl, T⟩
    exact Be ⟨_, _, _, rfl, T.congr fun a c _ hc => A2r hc⟩
inductive TnI (M0 : Mat) (H0 : A0) (t n k : Nat) (ρ : A8) (H : A0) : Prop
  | mk (sg last : Int) (M A : Mat) (qs : List Nat) (x3 x4 x5 x6 x7 x8 : Option AV) (hρ : ρ = [some (.ref t), some (.int sg), some (.int last), x3, x4, x5, x6, x7, x8]) (I : A1l M0 H0 t n k sg last M A qs H) : TnI M0 H0 t n k ρ H
theorem Tl {x4 x5 x6 x7 x8 : Option AV} (I : A1l M0 H0 t n k sg last M A qs H) (hn : n ≤ 8) (hk : k < n) (hp : E M k k k ≠ 0) :
    (Ai strF cf sc H0.length A79 [some (.ref t), some (.int sg), some (.int last), some (.int k), x4, x5, x6, x7, x8] H).sat (TnI M0 H0 t n (k + 1)) R := by
  refine Dw (Me (Ak (A6 rfl) Ac A8u) (Ap (A5 (A6 rfl) A9) (M2 I.T.rd)) (Ev (by exact Aaf hn hk)) (Ev (by exact Nat.le_trans hn (by decide)))) (A8o hk (RoI H0 t n k qs M A sg last x4 x5) ⟨_, _, _, rfl, I.T.congr fun a c _ _ => Vb.symm⟩ ?_ ?_)
  · rintro i ρ H' h1 h2 ⟨x6, x7, x8, rfl, T⟩
    exact Zl I hn hk h1 h2 T
  · rintro ρ H' ⟨x6, x7, x8, rfl, T⟩
    obtain ⟨q, eq, g, r⟩ := T.rd.at (sc := sc) hk
    have i1 := Eg (sc := sc) r hk
    rw [Hi (.inl (Nat.le_refl _)), I.hA _ _ (Nat.le_refl _) hk (Nat.le_refl _) hk] at i1
    refine Ae (At (At (A6 rfl) (A6 rfl) g) (A6 rfl) i1) (Be ⟨sg, _, M, _, qs, _, _, _, _, _, _, rfl, ⟨T, fun i j h1 h2 h3 h4 => ?_, I.hB, (A8a M k).symm, hp, I.hs, I.hd, Xj I.hB hn hk hk hk⟩⟩)
    unfold Ht
    rw [if_pos (by exact And.intro h1 (And.intro h3 (Or.inl h2)))]
theorem A46 {i q : Nat} (h : H[t]? = some (.list (qs.map .ref))) (hb : b ≤ t) (hi : i < qs.length) : Gr b (.ref t) (.int i) (.ref q) H = .ok () (H.set t (.list ((qs.set i q).map .ref))) := by
  unfold Gr
  simp only [h]
  rw [if_pos ⟨hb, by exact oNN _, by rw [List.length_map]; exact Ky hi⟩]
  simp [List.map_set]
theorem A43 {x4 x5 x6 x7 x8 : Option AV} (h19 : P 19 = some N8) (I : A1l M0 H0 t n k sg last M A qs H) (hn : n ≤ 8) (hk : k < n) (hR : ∀ H, H0 <+: H → det n M0 = 0 → R (.int 0) H) :
    (Ai strF (Al strF P sc (m + 1)) sc H0.length Ab4 [some (.ref t), some (.int sg), some (.int last), some (.int k), x4, x5, x6, x7, x8] H).sat (TnI M0 H0 t n (k + 1)) R := by
  obtain ⟨v, H', ev, hv, rfl⟩ := Res.sat_ex (Zr (strF := strF) (sc := sc) (m := m) h19 I.T.rd hk (by exact Nat.le_trans hn (by decide)))
  refine Ae (Ar (A5 (A6 rfl) (A5 (A6 rfl) A9)) ev) ?_
  cases hv with
  | none hv h =>
    subst hv
    refine Cg (Au (A6 rfl) Kw rfl) (Bd Ac (hR _ I.T.pre ?_))
    have : det n M = 0 := A20 hk (by rw [I.hq]; exact I.hq0) fun i h1 h2 => by rw [← I.hA i k h1 h2 (Nat.le_refl _) hk]; exact h i h1 h2
    rw [← I.hd, this]; exact Int.mul_zero _
  | some c hv hc1 hc2 hc3 =>
    subst hv
    refine B3 (Au (A6 rfl) Kw rfl) ?_
    by_cases hck : c = k
    · subst hck
      exact B3 (Au (A6 rfl) (A6 rfl) (neF rfl)) (Tl I hn hk (by rw [← I.hA c c (Nat.le_refl _) hk (Nat.le_refl _) hk]; exact hc3))
    · refine bC fun hno => ?_
      obtain ⟨qk, ek, gk, rk⟩ := I.T.rd.at (sc := sc) hk
      obtain ⟨qc, ec, gc, rc⟩ := I.T.rd.at (sc := sc) hc2
      have hl := I.T.rd.len
      have e1 := A46 (q := qc) I.T.rd.top I.T.ht (by exact Ix hk (Eq.symm hl) : k < qs.length)
      have top1 := F6 (o := .list ((qs.set k qc).map .ref)) ⟨_, I.T.rd.top⟩
      have e2 := A46 (q := qk) top1 I.T.ht (show c < (qs.set k qc).length by rw [List.length_set]; exact Ix hc2 (Eq.symm hl))
      have T' := I.T.swap ek ec (Ne.symm hck) (o := .list ((qs.set k qc).map .ref))
      have I' : A1l M0 H0 t n k (-sg) last (fun a => M (swp k c a)) (fun a => A (swp k c a)) ((qs.set k qc).set c qk) ((H'.set t (.list ((qs.set k qc).map .ref))).set t (.list (((qs.set k qc).set c qk).map .ref))) := by
        refine ⟨T', fun i j h1 h2 h3 h4 => ?_, fun a b ha hb => I.hB _ _ (A28 hk hc2 ha) hb, ?_, I.hq0, ?_, ?_, I.hl⟩
        · rw [A1q (by exact Nat.le_refl _) (by exact hc1)]; exact I.hA _ _ (A8q (by exact Nat.le_refl _) (by exact hc1) h1) (A28 hk hc2 h2) h3 h4
        · rw [Zn (by exact Nat.le_refl _) (by exact hc1)]; exact I.hq
        · rcases I.hs with h | h
          · right; exact A9e h
          · left; exact Aax h
        · rw [Mb hk hc2 (Ne.symm hck), ← I.hd]; grind
      refine hno ?_
      refine Cg (Au (A6 rfl) (A6 rfl) (neT fun q => hck (Int.ofNat.inj q))) (Ae (At (A6 rfl) (A6 rfl) gk) (El (At (A6 rfl) (A6 rfl) gc) (A6 rfl) (A6 rfl) e1 (El (A6 rfl) (A6 rfl) (A6 rfl) e2 (Ae (Sw (A6 rfl)) (Be (Tl I' hn hk ?_))))))
      rw [A1q (by exact Nat.le_refl _) (by exact hc1), show swp k c k = c from if_pos rfl, ← I.hA c k hc1 hc2 (Nat.le_refl _) hk]; exact hc3
inductive CpS (H : A0) (xs : List AV) (o : Option AV) (H' : A0) : Prop
  | mk (q : Nat) (ho : o = some (.ref q)) (hq : H'[q]? = some (.list xs)) (hp : H <+: H') (hge : H.length ≤ q) : CpS H xs o H'
inductive Tb (H0 : A0) (n : Nat) (fs : List (Nat → Int)) (out : List AV) (H' : A0) : Prop
  | mk (qs : List Nat) (ho : out = qs.map .ref) (hl : qs.length = fs.length) (hf : ∀ {i q : Nat} {f : Nat → Int}, qs[i]? = some q → fs[i]? = some f → H'[q]? = some (.list (Fd n f))) (hp : H0 <+: H') (hq : ∀ q ∈ qs, H0.length ≤ q ∧ q < H'.length) (nd : qs.Nodup) : Tb H0 n fs out H'
theorem Kv {α : Type} {g : α → AV} {f : α → Nat → Int} {ws : List (Nat × List AV)} {step : AV → A0 → Res (Option AV)} (hw : ∀ w ∈ ws, H0[w.1]? = some (.list w.2)) : ∀ (l : List α) {H : A0}, H0 <+: H →
    (∀ a ∈ l, ∀ H, H0 <+: H → (step (g a) H).sat (CpS H (Fd n (f a)))) → (Bp ws step (l.map g) H).sat (Tb H n (l.map f))
  | [], H, p, _ => ⟨[], rfl, rfl, fun e => (by simp at e), List.prefix_rfl, fun q hq => (by cases hq), .nil⟩
  | a :: l, H, p, h => by
    refine bC fun hno => ?_
    obtain ⟨o, H1, e1, q, rfl, hq, hp, hge⟩ := Res.sat_ex (h a List.mem_cons_self H p)
    obtain ⟨out, H2, e2, qs, rfl, hl, hf, hp2, hqs, nd⟩ := Res.sat_ex (Kv hw l (p.trans hp) fun a ha => h a (List.mem_cons_of_mem _ ha))
    refine hno ?_
    rw [List.map_cons, Bp, e1]
    have hw1 : ws.all (fun w => G2 H1 w.1 w.2) = true := List.all_eq_true.mpr fun w hm => Jz (Ab (p.trans hp) (hw w hm))
    simp only [Res.get, hw1, if_true, e2]
    have hlt := (List.getElem?_eq_some_iff.mp hq).1
    refine ⟨q :: qs, rfl, by rw [List.length_cons, List.map_cons, List.length_cons, hl], fun {i q' f'} e3 e4 => ?_, hp.trans hp2, fun x hx => ?_, List.nodup_cons.mpr ⟨fun hm => ?_, nd⟩⟩
    · cases i with
      | zero => simp at e3 e4; subst e3 e4; exact Ab hp2 hq
      | succ i => rw [List.getElem?_cons_succ] at e3; rw [List.map_cons, List.getElem?_cons_succ] at e4; exact hf e3 e4
    · rcases List.mem_cons.mp hx with rfl | hx
      · exact ⟨hge, Nat.lt_of_lt_of_le hlt hp2.length_le⟩
      · exact ⟨Nat.le_trans hp.length_le (hqs x hx).1, (hqs x hx).2⟩
    · have := (hqs q hm).1; exact Rc this hlt
theorem Tb.tab {f : Nat → Nat → Int} {l : List Nat} {qs : List Nat} (hl : qs.length = ((List.range n).map f).length) (hf : ∀ {i q : Nat} {g : Nat → Int}, qs[i]? = some q → ((List.range n).map f)[i]? = some g → H[q]? = some (.list (Fd m g))) (hp : H0 <+: H) (hq : ∀ q ∈ qs, H0.length ≤ q ∧ q < H.length) (nd : qs.Nodup) (hm : m = n) :
    G8 H0 (H ++ [.list (qs.map .ref)]) H.length qs n f := by
  subst hm
  have hl' : qs.length = m := by rw [hl, List.length_map, List.length_range]
  refine ⟨⟨Ah _ _, hl', fun {i q} e => ?_⟩, hp.trans (Ag _ _), hp.length_le, fun {i j q} e1 e2 => ?_, fun {i} e => ?_, fun {i q} e => (hq q (List.mem_of_getElem? e)).1⟩
  · have hi : i < m := hl' ▸ (List.getElem?_eq_some_iff.mp e).1
    exact Ab (Ag _ _) (hf e (by rw [List.getElem?_map, List.getElem?_range hi]; rfl))
  · exact (List.getElem?_inj (List.getElem?_eq_some_iff.mp e1).1 nd).mp (e1.trans e2.symm)
  · exact absurd (hq _ (List.mem_of_getElem? e)).2 (Nat.lt_irrefl _)
theorem A34 {q : Nat} {xs : List AV} (h : H[q]? = some (.list xs)) : ∀ w ∈ [(q, xs)], H[w.1]? = some (.list w.2) := fun w hw => by
  cases List.mem_singleton.mp hw; exact h
theorem Zm (h19 : P 19 = some N8) (h20 : P 20 = some Q7) (T : Z9 H t qs n M) (hn : n ≤ 8) (hB : ∀ a b, a < n → b < n → (M a b).natAbs ≤ 2 ^ 60) : (Al strF P sc (m + 2) 20 [.ref t] H).sat fun v H' => v = .int (det n M) ∧ H <+: H' := by
  refine bC fun hno => ?_
  obtain ⟨out, H1, e1, qs1, rfl, hl1, hf1, hp1, hq1, nd1⟩ := Res.sat_ex (Kv (n := n) (g := fun i => AV.ref (qs.getD i 0)) (f := M) (step := fun v H' => (Tn strF (Al strF P sc (m + 1)) sc H.length .none (some v :: [some (.ref t), none, none, none, none, none, none, none, none]) H').get fun tt H' => if tt then (Aa strF (Al strF P sc (m + 1)) sc H.length (.prim .list (.cons (.var 0) .nil)) (some v :: [some (.ref t), none, none, none, none, none, none, none, none]) H').get fun x H => .ok (some x) H else .ok none H')
    (A34 T.top) (List.range n) List.prefix_rfl fun i hi H' p => by
      have hi' : i < qs.length := by rw [T.len]; exact List.mem_range.mp hi
      have hr := Ab p (T.row (List.getElem?_eq_getElem hi'))
      rw [show qs.getD i 0 = qs[i] by rw [List.getD_eq_getElem?_getD, List.getElem?_eq_getElem hi']; rfl]
      refine (congrArg (fun r : Res (Option AV) => r.sat _) (Ic (Ap (A5 (A6 rfl) A9) ((Mg.trans (by rw [Lj, hr])).trans (Aq (by rw [C1]; exact Nat.le_trans hn (by decide))))))).mpr ⟨_, rfl, Ah _ _, Ag _ _, Nat.le_refl _⟩)
  have ew : (List.range n).map (fun i => AV.ref (qs.getD i 0)) = qs.map AV.ref := by
    refine List.ext_getElem? fun i => ?_
    by_cases h : i < n
    · have h' : i < qs.length := by rw [T.len]; exact h
      rw [List.getElem?_map, List.getElem?_range h, List.getElem?_map, List.getElem?_eq_getElem h', Option.map_some, Option.map_some, List.getD_eq_getElem?_getD, List.getElem?_eq_getElem h']; rfl
    · rw [List.getElem?_eq_none (by rw [List.length_map, List.length_range]; exact oGe h), List.getElem?_eq_none (by rw [List.length_map, T.len]; exact oGe h)]
  rw [ew] at e1
  have T1 := Tb.tab (l := []) hl1 hf1 hp1 hq1 nd1 rfl
  refine hno ?_
  refine B0 (body := Q7.body) h20 rfl (Ae (Ia (G3 (A6 rfl) T.top) e1 (Aq (by rw [List.length_map, hl1, List.length_map, List.length_range]; exact Nat.le_trans hn (by decide)))) (Ae Ac (Ae Ac (Dw (Eh (Ap (A5 (A6 rfl) A9) (M2 T1.rd)) (Ev (by exact Nat.le_trans hn (by decide)))) (Zj (TnI M H H1.length n)
    ⟨1, 1, M, M, qs1, _, _, _, _, _, _, rfl, ⟨T1, fun i j _ _ _ _ => (A6o M i j).symm, hB, rfl, by decide, .inl rfl, by exact Int.one_mul _, by decide⟩⟩ ?_ ?_)))))
  · rintro k ρ H' hk ⟨sg, last, M', A, qs, x3, x4, x5, x6, x7, x8, rfl, I⟩
    exact A43 h19 I hn hk fun H2 hp hd => ⟨by rw [hd], hp⟩
  · rintro ρ H' ⟨sg, last, M', A, qs, x3, x4, x5, x6, x7, x8, rfl, I⟩
    refine Bd (Ak (A6 rfl) (A6 rfl) (by rw [Sx, if_pos]; unfold E0; rw [show K2 sg = true by rcases I.hs with h | h <;> rw [h] <;> decide]; rfl)) ⟨?_, I.T.pre⟩
    rw [← I.hd, I.hq]
end
end Mine
namespace Mine
open PySem
noncomputable def Fk : AV → Bool
  | .scr => false
  | .fn _ => false
  | .exc _ => false
  | _ => true
section
variable {strF : Bi} {sc : List Int} {P : Nat → Option FnI} {H H0 H1 H2 H3 : A0} {n m b : Nat} {ρ : A8} {cf : Nat → List AV → A0 → Res AV} {N : A8 → A0 → Prop} {R : AV → A0 → Prop} {K K' : AV → A0 → Prop} {x y : PE} {es : PEs} {ss : PSs} {v w : AV} {vs : List AV}
theorem D3 {t : Bool} (h : Od v = some t) : prim strF sc .isInt [v] H = .ok (.bool t) H := by rw [We, h]; rfl
theorem Dk {t : Bool} (h : Lz v = some t) : prim strF sc .isBool [v] H = .ok (.bool t) H := by rw [Ug, h]; rfl
theorem D1 {t : Bool} (h : Ez v H = some t) : prim strF sc .isList [v] H = .ok (.bool t) H := by rw [Ts, h]; rfl
theorem Sr {t : Bool} (h : Kk v = some t) : prim strF sc .isTuple [v] H = .ok (.bool t) H := by rw [Pj, h]; rfl
theorem I1 {q : Nat} {xs : List AV} (h : H[q]? = some (.list xs)) : Ez (.ref q) H = some true := by rw [Kx, h]
theorem leT {i j : Int} (h : i ≤ j) : B5 .LtE (.int i) (.int j) H = some true := by rw [A8p, decide_eq_true h]
theorem leF {i j : Int} (h : ¬ i ≤ j) : B5 .LtE (.int i) (.int j) H = some false := by rw [A8p, decide_eq_false h]
theorem Hw {r : Nat} {xs : List AV} (h : H[r]? = some (.list xs)) : prim strF sc .len [.ref r] H = .ok (.int xs.length) H := by rw [Mo, Lj, h]
theorem Dr {r : Nat} {E : List (Nat × Nat)} (h : TL H r E) : prim strF sc .len [.ref r] H = .ok (.int E.length) H := by rw [Hw h, List.length_map]
inductive AmR (lo hi : Int) (v : AV) (t : Bool) : Prop
  | yes (i : Int) (hv : v = .int i) (h1 : lo ≤ i) (h2 : i ≤ hi) (ht : t = true) : AmR lo hi v t
  | no (h : ∀ i, v = .int i → ¬ (lo ≤ i ∧ i ≤ hi)) (ht : t = false) : AmR lo hi v t
inductive AmE (strF : Bi) (P : Nat → Option FnI) (sc : List Int) (m : Nat) (H : A0) (lo hi : Int) (v : AV) : Prop
  | mk (t : Bool) (e : Al strF P sc (m + 1) 0 [v, .int lo, .int hi] H = .ok (.bool t) H) (h : AmR lo hi v t) : AmE strF P sc m H lo hi v
theorem Ie (h0 : P 0 = some V7) {lo hi : Int} (hv : Fk v = true) : AmE strF P sc m H lo hi v := by
  by_cases hi' : ∃ i, v = .int i
  · refine bC fun hno => ?_
    obtain ⟨i, rfl⟩ := hi'
    refine hno ?_
    by_cases h1 : lo ≤ i
    · by_cases h2 : i ≤ hi
      · exact ⟨true, Fp (B0 h0 rfl (Bd (F0 (D0 (Ap (A5 (A6 rfl) A9) (D3 rfl)) (D0 (Rj (Ap (A5 (A6 rfl) A9) (Dk rfl))) (J0 (Vw (A6 rfl) (A6 rfl) (leT h1) (A6 rfl) (leT h2)))))) ⟨rfl, rfl⟩)), .yes i rfl h1 h2 rfl⟩
      · exact ⟨false, Fp (B0 h0 rfl (Bd (F0 (D0 (Ap (A5 (A6 rfl) A9) (D3 rfl)) (D0 (Rj (Ap (A5 (A6 rfl) A9) (Dk rfl))) (J0 (Vw (A6 rfl) (A6 rfl) (leT h1) (A6 rfl) (leF h2)))))) ⟨rfl, rfl⟩)), .no (fun j e q => by cases e; exact h2 q.2) rfl⟩
    · exact ⟨false, Fp (B0 h0 rfl (Bd (F0 (D0 (Ap (A5 (A6 rfl) A9) (D3 rfl)) (D0 (Rj (Ap (A5 (A6 rfl) A9) (Dk rfl))) (J0 (Y7 (A6 rfl) (A6 rfl) (leF h1)))))) ⟨rfl, rfl⟩)), .no (fun j e q => by cases e; exact h1 q.1) rfl⟩
  · have hno : ∀ i, v = .int i → ¬ (lo ≤ i ∧ i ≤ hi) := fun i e => absurd ⟨i, e⟩ hi'
    by_cases hb : ∃ c, v = .bool c
    · obtain ⟨c, rfl⟩ := hb
      exact ⟨false, Fp (B0 h0 rfl (Bd (F0 (D0 (Ap (A5 (A6 rfl) A9) (D3 rfl)) (M6 (A3h (Ap (A5 (A6 rfl) A9) (Dk rfl)))))) ⟨rfl, rfl⟩)), .no hno rfl⟩
    · have hk : Od v = some false := by
        cases v with
        | int i => exact absurd ⟨i, rfl⟩ hi'
        | bool c => exact absurd ⟨c, rfl⟩ hb
        | scr => cases hv
        | fn k => cases hv
        | exc c => cases hv
        | _ => rfl
      exact ⟨false, Fp (B0 h0 rfl (Bd (F0 (M6 (Ap (A5 (A6 rfl) A9) (D3 hk)))) ⟨rfl, rfl⟩)), .no hno rfl⟩
theorem O6 (h0 : P 0 = some V7) {x lo hi : Int} (h1 : lo ≤ x) (h2 : x ≤ hi) : Al strF P sc (m + 1) 0 [.int x, .int lo, .int hi] H = .ok (.bool true) H := by
  obtain ⟨t, e, h⟩ := Ie (strF := strF) (sc := sc) (m := m) (H := H) (v := .int x) (lo := lo) (hi := hi) h0 rfl
  cases h with
  | yes i hv q1 q2 ht => rw [e, ht]
  | no h ht => exact absurd ⟨h1, h2⟩ (h x rfl)
inductive NeI (H0 : A0) (n r k : Nat) (ρ : A8) (H : A0) : Prop
  | mk (x2 : Option AV) (hρ : ρ = [some (.int n), some (.ref r), x2]) (hH : H = H0) : NeI H0 n r k ρ H
theorem T5 (h0 : P 0 = some V7) (h1' : P 1 = some A5b) {r : Nat} {E : List (Nat × Nat)} (h1 : 1 ≤ n) (hn : n ≤ 7) (hT : TL H r E) (hl : E.length ≤ 16) (hok : okT n E) : Al strF P sc (m + 2) 1 [.int n, .ref r] H = .ok .none H := by
  refine Fp (B0 h1' rfl (B3 (Cj (Em (A5 (A6 rfl) (A5 Ac (A5 A3b A9))) (O6 h0 (by exact Ky h1) (by exact Qg hn)))) (B3 (Kz (Az (Cj (Fi (A5 (A6 rfl) A9) (D1 (I1 hT)))) (Az (Au (Ap (A5 (A6 rfl) A9) (Dr hT)) A3b (gtF (by exact Xu (Qg hl)))) Ec)))
    (Dw (G3 (A6 rfl) hT) (Ea (NeI H n r) ⟨_, rfl, rfl⟩ ?_ ?_)))))
  · rintro k v ρ H' hv ⟨x2, rfl, rfl⟩
    obtain ⟨e, he, rfl⟩ := K7 hv
    obtain ⟨o1, o2⟩ := hok e (List.mem_of_getElem? he)
    exact B3 (Kz (Az (Cj (Fi (A5 (A6 rfl) A9) (Sr rfl))) (Az (Au (Ap (A5 (A6 rfl) A9) A1n) Ac (neF rfl)) Ec)))
      (B3 (Kz (Az (Cj (Em (A5 (At (A6 rfl) Ac I8) (A5 Ac (A5 (Ak (A6 rfl) Ac Df) A9))) (O6 h0 (by exact oNN _) (by exact oR1 o1)))) (Az (Cj (Em (A5 (At (A6 rfl) Ac Ir) (A5 Ac (A5 (Ak (A6 rfl) Ac Df) A9))) (O6 h0 (by exact oNN _) (by exact oR1 o2)))) Ec)))
      (Be ⟨⟨_, rfl, rfl⟩, hT⟩))
  · rintro ρ H' ⟨x2, rfl, rfl⟩
    exact Be ⟨rfl, rfl⟩
theorem A38 {α : Type} {a : AV} {Q : Option AV → A0 → Prop} (h : (Aa strF cf sc b x (some a :: ρ) H).sat fun v H' => Q (some v) H') : ((Tn strF cf sc b .none (some a :: ρ) H).get fun t H => if t then (Aa strF cf sc b x (some a :: ρ) H).get fun x H => .ok (some x) H else .ok none H).sat Q := by
  obtain ⟨v, H1, e, q⟩ := Res.sat_ex h
  rw [Ic e]; exact q
theorem Aa0 (h : Aa strF cf sc b x ρ H = .ok v H1) (k : K v H1) : (Aa strF cf sc b x ρ H).sat K := by rw [h]; exact k
theorem A49 {el : PE} {it : It} {g : Nat → AV} {f : Mat} {ws : List (Nat × List AV)} (h1 : Dv strF cf sc b it ρ H = .ok ((List.range n).map g, ws) H1) (hw : ∀ w ∈ ws, H1[w.1]? = some (.list w.2)) (hn : n ≤ 8)
    (h : ∀ a, a < n → ∀ H', H1 <+: H' → (Aa strF cf sc b el (some (g a) :: ρ) H').sat fun v => CpS H' (Fd n (f a)) (some v)) (k : ∀ (t : Nat) (qs : List Nat) (H3 : A0), G8 H1 H3 t qs n f → K (.ref t) H3) : (Aa strF cf sc b (.comp1 el it .none) ρ H).sat K := by
  refine bC fun hno => ?_
  obtain ⟨out, H2, e, qs, rfl, hl2, hf, hp2, hq, nd⟩ := Res.sat_ex (Kv (step := fun v H => (Tn strF cf sc b .none (some v :: ρ) H).get fun t H => if t then (Aa strF cf sc b el (some v :: ρ) H).get fun x H => .ok (some x) H else .ok none H) hw (List.range n) List.prefix_rfl fun a ha H' p => A38 (α := Nat) (h a (List.mem_range.mp ha) H' p))
  refine hno ?_
  rw [Ia h1 e (Aq (by rw [List.length_map, hl2, List.length_map, List.length_range]; exact Nat.le_trans hn (by decide)))]
  exact k _ qs _ (Tb.tab (l := []) hl2 hf hp2 hq nd rfl)
theorem A50 {k : Nat} (h : (Aa strF cf sc b x ρ H).sat fun v H1 => (cf k [v] H1).sat K) : (Aa strF cf sc b (.call k (.cons x .nil)) ρ H).sat K := by
  obtain ⟨v, H1, e, q⟩ := Res.sat_ex h
  rw [M4, A5 e A9]; exact q
theorem Z6 {i : Nat} (h : (Aa strF cf sc b x ρ H).sat fun v H1 => (Ai strF cf sc b ss (ρ.set i (some v)) H1).sat N R) : (Ai strF cf sc b (.cons (.assign i x) ss) ρ H).sat N R := by
  rw [Bt, O0]; exact h
theorem A8k (h : (Aa strF cf sc b x ρ H).sat R) : (Ai strF cf sc b (.cons (.ret x) ss) ρ H).sat N R := by
  rw [Bt, M3]; exact h
theorem Sy {k : Nat} (h1 : Aa strF cf sc b x ρ H = .ok (.int k) H1) (h2 : k ≤ 1000) : Dv strF cf sc b (.range1 x) ρ H = .ok ((List.range k).map fun (j : Nat) => AV.int (j : Int), []) H1 := by
  rw [Eh h1 (Ev h2), Mq]
theorem Abp : ∀ w ∈ ([] : List (Nat × List AV)), H[w.1]? = some (.list w.2) := fun w hw => by cases hw
inductive TbI (H0 : A0) (n r t : Nat) (qs : List Nat) (E : List (Nat × Nat)) (k : Nat) (ρ : A8) (H : A0) : Prop
  | mk (x3 x4 : Option AV) (hρ : ρ = [some (.int n), some (.ref r), some (.ref t), x3, x4]) (T : G8 H0 H t qs n (lap (E.take k))) : TbI H0 n r t qs E k ρ H
inductive Aab (H : A0) (n : Nat) (A : Mat) (v : AV) (H' : A0) : Prop
  | mk (t : Nat) (qs : List Nat) (hv : v = .ref t) (T : G8 H H' t qs n A) : Aab H n A v H'
theorem Yq (h21 : P 21 = some Pe) {r : Nat} {E : List (Nat × Nat)} (hn : n ≤ 7) (hT : TL H r E) (hok : okT n E) : (Al strF P sc (m + 1) 21 [.int n, .ref r] H).sat (Aab H n (lap E)) := by
  refine B0 (body := Pe.body) h21 rfl (Z6 (A49 (f := fun _ _ => 0) (Sy (A6 rfl) (by exact Nat.le_trans hn (by decide))) Abp (by exact Nat.le_succ_of_le hn) (fun a ha H' p => ?_) fun t qs H2 T => ?_))
  · exact Aa0 (Ia (Sy (k := n) (A6 rfl) (by exact Nat.le_trans hn (by decide))) (Oo (fun _ => 0) (List.range n) fun k hk => Ic Ac) (Aq (by rw [List.length_map, List.length_range]; exact Nat.le_trans hn (by decide)))) ⟨_, rfl, Ah _ _, Ag _ _, Nat.le_refl _⟩
  · refine Ur (G3 (A6 rfl) (Ab T.pre hT)) (Ea (TbI H n r t qs E) ⟨_, _, rfl, T.congr fun _ _ _ _ => rfl⟩ ?_ ?_)
    · rintro k v ρ H' hv ⟨x3, x4, rfl, T⟩
      obtain ⟨e, he, rfl⟩ := K7 hv
      obtain ⟨o1, o2⟩ := hok e (List.mem_of_getElem? he)
      have key : ∀ a c, lap (E.take (k + 1)) a c = lap (E.take k) a c + Hc e a c := fun a c => by rw [List.take_add_one, he, Qd]; simp [lap]
      by_cases hl : e.1 = e.2
      · exact B3 (Au (A6 rfl) (A6 rfl) (neF (by rw [hl]))) (Be ⟨⟨_, _, rfl, T.congr fun a c _ _ => by rw [key, Pd hl]; exact Eq.symm (Int.add_zero _)⟩, Ab T.pre hT⟩)
      · refine bC fun hno => ?_
        obtain ⟨q1, H1, A1, a1, b1, c1, T1, k1⟩ := Kj (sc := sc) (d := 1) T o1 o1 rfl
        obtain ⟨q2, H2, A2, a2, b2, c2, T2, k2⟩ := Kj (sc := sc) (d := 1) T1 o2 o2 rfl
        obtain ⟨q3, H3, A3, a3, b3, c3, T3, k3⟩ := Kj (sc := sc) (d := -1) T2 o1 o2 rfl
        obtain ⟨q4, H4, A4, a4, b4, c4, T4, k4⟩ := Kj (sc := sc) (d := -1) T3 o2 o1 rfl
        refine hno ?_
        refine Cg (Au (A6 rfl) (A6 rfl) (neT fun q => hl (Int.ofNat.inj q))) (El (Ak (At (At (A6 rfl) (A6 rfl) a1) (A6 rfl) b1) Ac De) (At (A6 rfl) (A6 rfl) a1) (A6 rfl) c1
          (El (Ak (At (At (A6 rfl) (A6 rfl) a2) (A6 rfl) b2) Ac De) (At (A6 rfl) (A6 rfl) a2) (A6 rfl) c2
          (El (Ak (At (At (A6 rfl) (A6 rfl) a3) (A6 rfl) b3) Ac Df) (At (A6 rfl) (A6 rfl) a3) (A6 rfl) c3
          (El (Ak (At (At (A6 rfl) (A6 rfl) a4) (A6 rfl) b4) Ac Df) (At (A6 rfl) (A6 rfl) a4) (A6 rfl) c4 (Be (Be ⟨⟨_, _, rfl, T4.congr fun a c _ _ => ?_⟩, Ab T4.pre hT⟩))))))
        rw [key, ← V0 hl a c, k4, k3, k2, k1]; exact Abh
    · rintro ρ H' ⟨x3, x4, rfl, T⟩
      rw [List.length_map, List.take_length] at T
      exact Bd (A6 rfl) ⟨_, qs, rfl, T⟩
inductive Yx (H : A0) (i : Int) (v : AV) (H' : A0) : Prop
  | mk (hv : v = .int i) (hp : H <+: H') : Yx H i v H'
theorem Lm (h19 : P 19 = some N8) (h20 : P 20 = some Q7) (h21 : P 21 = some Pe) (h23 : P 23 = some Y1) {r : Nat} {E : List (Nat × Nat)} (hn : n + 1 ≤ 7) (hT : TL H r E) (hl : E.length ≤ 1000) (hok : okT (n + 1) E) :
    (Al strF P sc (m + 3) 23 [.int (n + 1 : Nat), .ref r] H).sat (Yx H (tau (n + 1) E)) := by
  refine bC fun hno => ?_
  obtain ⟨v, H1, e1, t, qs, rfl, T⟩ := Res.sat_ex (Yq (strF := strF) (sc := sc) (m := m + 1) h21 hn hT hok)
  have hql := T.rd.len
  have hcut : cut (qs.map AV.ref) (some 1) none = (List.range n).map fun i => AV.ref (qs.getD (i + 1) 0) := by
    have h := Vk (xs := qs.map AV.ref) (c := 1) (by rw [List.length_map]; (first | lia | omega))
    refine (show _ = _ from h).trans (List.ext_getElem? fun i => ?_)
    rw [List.getElem?_drop, List.getElem?_map, List.getElem?_map]
    by_cases hi : i < n
    · have h' : 1 + i < qs.length := by (first | lia | omega)
      rw [List.getElem?_range hi, List.getElem?_eq_getElem h', Option.map_some, Option.map_some, List.getD_eq_getElem?_getD, Nat.add_comm i 1, List.getElem?_eq_getElem h']; rfl
    · rw [List.getElem?_eq_none (show qs.length ≤ 1 + i by (first | lia | omega)), List.getElem?_eq_none (by rw [List.length_range]; exact oGe hi)]; rfl
  have ealloc : Aw (cut (qs.map AV.ref) (some 1) none) H1 = .ok (.ref H1.length) (H1 ++ [.list ((List.range n).map fun i => AV.ref (qs.getD (i + 1) 0))]) := by rw [hcut]; exact Aq (by rw [List.length_map, List.length_range]; exact Nat.le_trans (Nat.le_of_lt hn) (by decide))
  have p1 := Ag H1 [.list ((List.range n).map fun i => AV.ref (qs.getD (i + 1) 0))]
  refine hno ?_
  refine B0 h23 rfl (A8k (A50 (A49 (n := n) (f := fun i c => lap E (i + 1) (c + 1)) (G3 (E6 (Ar (A5 (A6 rfl) (A5 (A6 rfl) A9)) e1) (Gp Ac) Gi T.rd.top ealloc) (Ah _ _)) (A34 (Ah _ _)) (by exact Nat.le_of_lt (Nat.lt_succ_of_lt hn)) (fun i hi H' p => ?_) fun t qs H3 T2 => ?_)))
  · have hi' : i + 1 < qs.length := by (first | lia | omega)
    have hr := Ab (p1.trans p) (T.rd.row (List.getElem?_eq_getElem hi'))
    have eg : qs.getD (i + 1) 0 = qs[i + 1] := by rw [List.getD_eq_getElem?_getD, List.getElem?_eq_getElem hi']; rfl
    exact Aa0 (E6 (A6 (by rw [eg]; rfl)) (Gp Ac) Gi hr (by rw [A54]; exact Aq (by rw [C1]; exact Nat.le_trans (Nat.le_of_lt hn) (by decide)))) ⟨_, rfl, Ah _ _, Ag _ _, Nat.le_refl _⟩
  · exact Res.sat_mono (Zm (strF := strF) (sc := sc) (m := m) h19 h20 T2.rd (by exact Nat.le_of_lt (Nat.lt_succ_of_lt hn)) fun a c _ _ => Nat.le_trans (Yt E _ _) (Nat.le_trans hl (by decide))) fun v H4 h => ⟨h.1, (T.pre.trans p1).trans (T2.pre.trans h.2)⟩
theorem Zz (h0 : P 0 = some V7) (h1 : P 1 = some A5b) (h19 : P 19 = some N8) (h20 : P 20 = some Q7) (h21 : P 21 = some Pe) (h23 : P 23 = some Y1) (h24 : P 24 = some A0m) {r : Nat} {E : List (Nat × Nat)} (hn : n + 1 ≤ 7) (hT : TL H r E) (hl : E.length ≤ 16) (hok : okT (n + 1) E) :
    (Al strF P sc (m + 4) 24 [.int (n + 1 : Nat), .ref r] H).sat (Yx H (tau (n + 1) E)) := by
  refine bC fun hno => ?_
  obtain ⟨v, H3, e3, rfl, p3⟩ := Res.sat_ex (Lm (strF := strF) (sc := sc) (m := m) h19 h20 h21 h23 hn hT (by exact Nat.le_trans hl (by decide)) hok)
  refine hno ?_
  exact B0 h24 rfl (Gn (Ar (A5 (A6 rfl) (A5 (A6 rfl) A9)) (T5 h0 h1 (by exact Nat.succ_pos _) hn hT hl hok)) (Bd (Ar (A5 (A6 rfl) (A5 (A6 rfl) A9)) e3) ⟨rfl, p3⟩))
end
end Mine
namespace Mine
open PySem
section
variable {strF : Bi} {sc : List Int} {P : Nat → Option FnI} {H H0 H1 H2 H3 : A0} {n m b : Nat} {ρ : A8} {cf : Nat → List AV → A0 → Res AV} {N : A8 → A0 → Prop} {R : AV → A0 → Prop} {x y : PE} {ss : PSs}
theorem Sa {r : Nat} {F : List Nat} (h : H[r]? = some (.list (F.map As))) : prim strF sc .len [.ref r] H = .ok (.int F.length) H := by rw [Hw h, List.length_map]
theorem Rw {r i j k : Nat} {E : List (Nat × Nat)} {s x y : Nat} {F : List Nat} {u : Nat} (hge : H0.length ≤ r) (hr : H[r]? = some (.list (F.map As))) (p : H0 <+: H) (h : Rch E n s F) (hn : n ≤ 7) (hx : F[k]? = some x) (hc : u = x → B7 E x y) (hy : y < n)
    (r3 : ρ[3]? = some (some (.ref r))) (r4 : ρ[4]? = some (some (.int k))) (ri : ρ[i]? = some (some (.int u))) (rj : ρ[j]? = some (some (.int y)))
    (hN : ∀ H' F', H'[r]? = some (.list (F'.map As)) → H0 <+: H' → Rch E n s F' → F <+: F' → (u = x → y ∈ F') → (Ai strF cf sc H0.length ss ρ H').sat N R) :
    (Ai strF cf sc H0.length (.cons (.ite (.and (.cons (.cmp .Eq (.var i) (.idx (.var 3) (.var 4))) (.cons (.cmp .NotIn (.var j) (.var 3)) .nil))) (.cons (.expr (.append (.var 3) (.var j))) .nil) .nil) ss) ρ H).sat N R := by
  have it := Bk (sc := sc) (k := k) (x := As x) hr (by rw [List.getElem?_map, hx]; rfl)
  have hnot := Qj (v := .int y) (w := .ref r) (H := H)
  rw [L5 hr] at hnot
  by_cases h1 : u = x
  · have c1 := Au (strF := strF) (cf := cf) (b := H0.length) (A6 ri) (At (A6 r3) (A6 r4) it) (eqT (by rw [h1]))
    by_cases h2 : y ∈ F
    · rw [decide_eq_true h2] at hnot
      exact B3 (J2 (Cv c1 (Eb (Au (A6 rj) (A6 r3) hnot)))) (hN H F hr p h List.prefix_rfl fun _ => h2)
    · rw [decide_eq_false h2] at hnot
      have hl := Ii h.nd fun p hp => (h.lt p hp).1
      exact Cg (J2 (Cv c1 (Cv (Au (A6 rj) (A6 r3) hnot) Vg))) (Gn (Fz (A6 r3) (Ku hr) (A6 rj) (J7 hr hge (Nat.lt_of_lt_of_le (show F.length < 100 by exact Abn hn hl) (by decide))))
        (Be (hN _ (F ++ [y]) (F6 ⟨_, hr⟩) (C2 p hge) (h.add (List.mem_of_getElem? hx) (hc h1) hy h2) (List.prefix_append ..) fun _ => by simp)))
  · exact B3 (J2 (Eb (Au (A6 ri) (At (A6 r3) (A6 r4) it) (eqF fun q => h1 (Int.ofNat.inj q))))) (hN H F hr p h List.prefix_rfl fun e => absurd e h1)
inductive RcI (H0 : A0) (n rt s : Nat) (E : List (Nat × Nat)) (k : Nat) (ρ : A8) (H : A0) : Prop
  | mk (F : List Nat) (x5 x6 : Option AV) (hρ : ρ = [some (.int n), some (.ref rt), some (.int s), some (.ref H0.length), some (.int k), x5, x6]) (hr : H[H0.length]? = some (.list (F.map As))) (hp : H0 <+: H) (hR : Rch E n s F) (hk : k ≤ F.length)
    (hc : ∀ j x, j < k → F[j]? = some x → ∀ e ∈ E, (e.1 = x → e.2 ∈ F) ∧ (e.2 = x → e.1 ∈ F)) : RcI H0 n rt s E k ρ H
inductive RcJ (H0 : A0) (n rt s : Nat) (E : List (Nat × Nat)) (k x : Nat) (F : List Nat) (q : Nat) (ρ : A8) (H : A0) : Prop
  | mk (F' : List Nat) (x5 x6 : Option AV) (hρ : ρ = [some (.int n), some (.ref rt), some (.int s), some (.ref H0.length), some (.int k), x5, x6]) (hr : H[H0.length]? = some (.list (F'.map As))) (hp : H0 <+: H) (hR : Rch E n s F') (hF : F <+: F')
    (hc : ∀ e ∈ E.take q, (e.1 = x → e.2 ∈ F') ∧ (e.2 = x → e.1 ∈ F')) : RcJ H0 n rt s E k x F q ρ H
inductive A2h (H : A0) (n s : Nat) (E : List (Nat × Nat)) (v : AV) (H' : A0) : Prop
  | mk (r : Nat) (F : List Nat) (hv : v = .ref r) (hr : H'[r]? = some (.list ((Ch (F.map fun (p : Nat) => (p : Int))).map .int))) (hp : H <+: H') (hge : H.length ≤ r) (nd : F.Nodup) (lt : ∀ p ∈ F, p < n) (hF : ∀ p, p < n → (p ∈ F ↔ B7 E s p)) : A2h H n s E v H'
theorem Z7 {E : List (Nat × Nat)} {F : List Nat} (h : ∀ x, x ∈ F → ∀ e ∈ E, (e.1 = x → e.2 ∈ F) ∧ (e.2 = x → e.1 ∈ F)) {x y : Nat} (c : B7 E x y) : x ∈ F ↔ y ∈ F := by
  induction c with
  | refl p => exact Iff.rfl
  | @tie e m => exact ⟨fun q => (h _ q e m).1 rfl, fun q => (h _ q e m).2 rfl⟩
  | symm _ ih => exact ih.symm
  | trans _ _ i1 i2 => exact i1.trans i2
theorem Aad {c : PE} {body : PSs} (k : (Gc (Bo strF cf sc b c) (Ai strF cf sc b body) 100 ρ H).sat (fun ρ H => (Ai strF cf sc b ss ρ H).sat N R) R) : (Ai strF cf sc b (.cons (.whl c body) ss) ρ H).sat N R := by
  rw [Bt, A5s]; exact k
theorem Oq (h10 : P 10 = some Pp) {rt s : Nat} {E : List (Nat × Nat)} (hn : n ≤ 7) (hT : TL H rt E) (hok : okT n E) (hs : s < n) : (Al strF P sc (m + 1) 10 [.int n, .ref rt, .int s] H).sat (A2h H n s E) := by
  refine B0 h10 rfl (Ae (Bb (A5 (A6 rfl) A9) (Aq (by simp))) (Ae Ac (Aad (Tq (RcI H n rt s E) 7 ?_ 100 0 _ _ (by decide) (by decide)
    ⟨[s], _, _, rfl, Ah _ _, Ag _ _, ⟨by simp, fun p hp => by simp at hp; subst hp; exact ⟨hs, .refl _⟩, by simp⟩, Nat.zero_le _, fun j x hj => absurd hj (Nat.not_lt_zero _)⟩))))
  rintro k ρ H' hk ⟨F, x5, x6, rfl, hr, p, hR, hkl, hcl⟩
  have hlen := Ii hR.nd fun p hp => (hR.lt p hp).1
  refine ⟨_, H', Au (A6 rfl) (Ap (A5 (A6 rfl) A9) (Sa hr)) A2b, fun hf => ?_, fun ht => ?_⟩
  · have hk2 : k = F.length := by have := of_decide_eq_false hf; exact Nat.le_antisymm hkl (oGe fun q => this (Ky q))
    have es : prim strF sc .sorted [.ref H.length] H' = .ok (.ref H'.length) (H' ++ [.list ((Ch (F.map fun (p : Nat) => (p : Int))).map .int)]) := by
      rw [N0, hr]
      show (if (F.map As).length < 64 then _ else _) = _
      rw [if_pos (by rw [List.length_map]; exact Abf hk hk2), Co]
      exact Aq (by rw [List.length_map, Ga, List.length_map]; exact Abm hk hk2)
    refine Bd (Ap (A5 (A6 rfl) A9) es) ⟨_, F, rfl, Ah _ _, p.trans (Ag _ _), p.length_le, hR.nd, fun p hp => (hR.lt p hp).1, fun q hq => ⟨fun h => (hR.lt q h).2, fun c => (Z7 (fun x hx => ?_) c).mp hR.st⟩⟩
    obtain ⟨j, hj⟩ := List.mem_iff_getElem?.mp hx
    exact hcl j x (by have := (List.getElem?_eq_some_iff.mp hj).1; exact Ix this (Eq.symm hk2)) hj
  · have hkl2 : k < F.length := by have := of_decide_eq_true ht; exact A1c this
    refine ⟨by exact Nat.lt_of_lt_of_le hkl2 (Nat.le_trans hlen hn), ?_⟩
    obtain ⟨x, hx⟩ : ∃ x, F[k]? = some x := ⟨F[k], List.getElem?_eq_getElem hkl2⟩
    refine Ur (G3 (A6 rfl) (Ab p hT)) (Ea (RcJ H n rt s E k x F) ⟨F, _, _, rfl, hr, p, hR, List.prefix_rfl, fun e he => by simp at he⟩ ?_ ?_)
    · rintro q v ρ H2 hv ⟨F2, x5, x6, rfl, hr2, p2, hR2, pF2, hc2⟩
      obtain ⟨e, he, rfl⟩ := K7 hv
      have hm := List.mem_of_getElem? he
      obtain ⟨o1, o2⟩ := hok e hm
      refine Rw (n := n) (k := k) (E := E) (s := s) (x := x) (y := e.2) (u := e.1) (Nat.le_refl _) hr2 p2 hR2 hn (Qo pF2 hx) (fun h => h ▸ .tie hm) o2 rfl rfl rfl rfl fun H3 F3 hr3 p3 hR3 pF3 g3 => ?_
      refine Rw (n := n) (k := k) (E := E) (s := s) (x := x) (y := e.1) (u := e.2) (Nat.le_refl _) hr3 p3 hR3 hn (Qo (pF2.trans pF3) hx) (fun h => h ▸ (B7.tie hm).symm) o1 rfl rfl rfl rfl fun H4 F4 hr4 p4 hR4 pF4 g4 => ?_
      refine Be ⟨⟨F4, _, _, rfl, hr4, p4, hR4, (pF2.trans pF3).trans pF4, fun f hf => ?_⟩, Ab p4 hT⟩
      rw [List.take_add_one, he] at hf
      rcases List.mem_append.mp hf with hf | hf
      · exact ⟨fun h => (pF3.trans pF4).subset ((hc2 f hf).1 h), fun h => (pF3.trans pF4).subset ((hc2 f hf).2 h)⟩
      · cases List.mem_singleton.mp hf
        exact ⟨fun h => pF4.subset (g3 h), g4⟩
    · rintro ρ H2 ⟨F2, x5, x6, rfl, hr2, p2, hR2, pF2, hc2⟩
      rw [List.length_map, List.take_length] at hc2
      refine Ae (Ak (A6 rfl) Ac De) (Be ⟨F2, _, _, rfl, hr2, p2, hR2, Nat.lt_of_lt_of_le hkl2 pF2.length_le, fun j y hj hy e he => ?_⟩)
      by_cases hjk : j = k
      · subst hjk
        rw [Qo pF2 hx] at hy; cases hy
        exact hc2 e he
      · have hjl : j < F.length := by exact Nat.lt_of_lt_of_le hj hkl2
        have hy' : F[j]? = some y := by
          obtain ⟨z, rfl⟩ := pF2
          rwa [List.getElem?_append_left hjl] at hy
        have := hcl j y (by exact Gs hj hjk) hy' e he
        exact ⟨fun h => pF2.subset (this.1 h), fun h => pF2.subset (this.2 h)⟩
end
end Mine
namespace Mine
open PySem
noncomputable def Dm (L : List Nat) (e : Nat × Nat) : List Nat := L.map fun l => if l = max (L.getD e.1 0) (L.getD e.2 0) then min (L.getD e.1 0) (L.getD e.2 0) else l
structure Lab (n : Nat) (F : List (Nat × Nat)) (L : List Nat) : Prop where
  len : L.length = n
  lt : ∀ p, p < n → L.getD p 0 < n ∧ B7 F p (L.getD p 0)
  le : ∀ p q, p < n → q < n → B7 F p q → L.getD p 0 ≤ q
theorem Ov {n p : Nat} (h : p < n) : (List.range n).getD p 0 = p := by
  rw [List.getD_eq_getElem?_getD, List.getElem?_range h]; rfl
theorem Za (n : Nat) : Lab n [] (List.range n) where
  len := List.length_range
  lt := fun p hp => by rw [Ov hp]; exact ⟨hp, .refl _⟩
  le := fun p q hp hq c => by rw [Ov hp]; exact Nat.le_of_eq (Om c)
theorem A1e {f : Nat → Nat} {L : List Nat} {p : Nat} (h : p < L.length) : (L.map f).getD p 0 = f (L.getD p 0) := by
  rw [List.getD_eq_getElem?_getD, List.getD_eq_getElem?_getD, List.getElem?_map, List.getElem?_eq_getElem h]; rfl
theorem Lab.eq {n : Nat} {F : List (Nat × Nat)} {L : List Nat} (l : Lab n F L) {p q : Nat} (hp : p < n) (hq : q < n) (c : B7 F p q) : L.getD p 0 = L.getD q 0 :=
  Nat.le_antisymm (l.le p _ hp (l.lt q hq).1 (c.trans (l.lt q hq).2)) (l.le q _ hq (l.lt p hp).1 (c.symm.trans (l.lt p hp).2))
theorem B7.const {n : Nat} {F : List (Nat × Nat)} {f : Nat → Nat} (hok : okT n F) (h : ∀ e ∈ F, f e.1 = f e.2) {p q : Nat} (c : B7 F p q) : f p = f q := by
  induction c with
  | refl p => rfl
  | tie m => exact h _ m
  | symm _ ih => exact ih.symm
  | trans _ _ i1 i2 => exact i1.trans i2
theorem A2n {n : Nat} {F : List (Nat × Nat)} {L : List Nat} {e : Nat × Nat} (l : Lab n F L) (hok : okT n F) (h1 : e.1 < n) (h2 : e.2 < n) : Lab n (F ++ [e]) (Dm L e) := by
  have hF : ∀ {p q}, B7 F p q → B7 (F ++ [e]) p q := fun c => c.mono fun f hf => .tie (List.mem_append_left _ hf)
  have hab : B7 (F ++ [e]) (L.getD e.1 0) (L.getD e.2 0) := ((hF (l.lt e.1 h1).2).symm.trans (.tie (List.mem_append_right _ List.mem_cons_self))).trans (hF (l.lt e.2 h2).2)
  have la := (l.lt e.1 h1).1
  have lb := (l.lt e.2 h2).1
  generalize ha : L.getD e.1 0 = a at hab la
  generalize hb : L.getD e.2 0 = c at hab lb
  have hg : ∀ p, p < n → (Dm L e).getD p 0 = if L.getD p 0 = max a c then min a c else L.getD p 0 := fun p hp => by
    unfold Dm; rw [ha, hb]
    exact A1e (f := fun l => if l = max a c then min a c else l) (l.len ▸ hp)
  have hle : ∀ p, p < n → (Dm L e).getD p 0 ≤ p := fun p hp => by
    have := l.le p p hp hp (.refl _)
    rw [hg p hp]; split <;> (first | exact Abw this (by assumption) | exact this)
  have hmm : B7 (F ++ [e]) (max a c) (min a c) := by
    by_cases h : a ≤ c
    · rw [Nat.max_eq_right h, Nat.min_eq_left h]; exact hab.symm
    · rw [Nat.max_eq_left (by exact Nat.le_of_lt (oGt h)), Nat.min_eq_right (by exact Nat.le_of_lt (oGt h))]; exact hab
  refine ⟨by unfold Dm; rw [List.length_map]; exact l.len, fun p hp => ?_, fun p q hp hq cc => ?_⟩
  · rw [hg p hp]
    split
    · rename_i h
      exact ⟨by exact Nat.lt_of_le_of_lt (Nat.min_le_right _ _) lb, (hF (h ▸ (l.lt p hp).2)).trans hmm⟩
    · exact ⟨(l.lt p hp).1, hF (l.lt p hp).2⟩
  · have hc := B7.const (n := n) (f := fun p => if p < n then (Dm L e).getD p 0 else p) (F := F ++ [e]) (fun f hf => by
      rcases List.mem_append.mp hf with hf | hf
      · exact hok f hf
      · simp at hf; subst hf; exact ⟨h1, h2⟩) (fun f hf => ?_) cc
    · simp only [hp, hq, if_true] at hc
      rw [hc]; exact hle q hq
    · rcases List.mem_append.mp hf with hf | hf
      · refine bC fun hno => ?_
        obtain ⟨o1, o2⟩ := hok f hf
        refine hno ?_
        simp only [o1, o2, if_true]
        rw [hg _ o1, hg _ o2, l.eq o1 o2 (.tie hf)]
      · simp at hf; subst hf
        simp only [h1, h2, if_true]
        rw [hg _ h1, hg _ h2, ha, hb]
        have : min a c ≤ max a c := by exact Nat.le_trans (Nat.min_le_left _ _) (Nat.le_max_left _ _)
        by_cases h : a ≤ c
        · rw [Nat.max_eq_right h, Nat.min_eq_left h, if_pos rfl]; split <;> rfl
        · rw [Nat.max_eq_left (by exact Nat.le_of_lt (oGt h)), Nat.min_eq_right (by exact Nat.le_of_lt (oGt h)), if_pos rfl]; split <;> rfl
noncomputable def Ud (n : Nat) (E : List (Nat × Nat)) : List Nat := E.foldl Dm (List.range n)
theorem A5o {n : Nat} {E F : List (Nat × Nat)} (h : okT n (F ++ E)) : okT n F := fun e he => h e (List.mem_append_left _ he)
theorem Xf {n : Nat} : ∀ (E F : List (Nat × Nat)) {L : List Nat}, Lab n F L → okT n (F ++ E) → Lab n (F ++ E) (E.foldl Dm L)
  | [], F, L, l, _ => by rw [List.append_nil]; exact l
  | e :: E, F, L, l, h => by
    have he := h e (List.mem_append_right _ List.mem_cons_self)
    have h' : okT n ((F ++ [e]) ++ E) := by rw [List.append_assoc]; exact h
    have := Xf E (F ++ [e]) (A2n l (A5o h) he.1 he.2) h'
    rw [List.append_assoc] at this
    exact this
theorem Ui {n : Nat} {E : List (Nat × Nat)} (h : okT n E) : Lab n E (Ud n E) := Xf E [] (Za n) h
theorem Yj (n : Nat) (E : List (Nat × Nat)) (e : Nat × Nat) : Ud n (E ++ [e]) = Dm (Ud n E) e := by unfold Ud; rw [List.foldl_append]; rfl
theorem A15 {n : Nat} {E : List (Nat × Nat)} {L : List Nat} (l : Lab n E L) (h1 : 1 ≤ n) : Dj n E ↔ ∀ x ∈ L, x = 0 := by
  constructor
  · intro h x hx
    obtain ⟨p, hp⟩ := List.mem_iff_getElem?.mp hx
    have hpn : p < n := l.len ▸ (List.getElem?_eq_some_iff.mp hp).1
    have := l.le p 0 hpn (by exact h1) (h p 0 hpn (by exact h1))
    rw [List.getD_eq_getElem?_getD, hp] at this
    exact Nat.le_zero.mp this
  · intro h p q hp hq
    have z : ∀ x, x < n → B7 E x 0 := fun x hx => by
      have := (l.lt x hx).2
      have hx' : x < L.length := by rw [l.len]; exact hx
      rwa [h (L.getD x 0) (by rw [List.getD_eq_getElem?_getD, List.getElem?_eq_getElem hx']; exact List.getElem_mem ..)] at this
    exact (z p hp).trans (z q hq).symm
section
variable {strF : Bi} {sc : List Int} {P : Nat → Option FnI} {H H0 : A0} {n m : Nat} {ρ : A8} {cf : Nat → List AV → A0 → Res AV} {N : A8 → A0 → Prop} {R : AV → A0 → Prop}
theorem A5a {ws : List (Nat × List AV)} (h : ∀ w ∈ ws, H[w.1]? = some (.list w.2)) : ws.all (fun w => G2 H w.1 w.2) = true := List.all_eq_true.mpr fun w hw => Jz (h w hw)
theorem Kf {α : Type} {g f : α → AV} {ws : List (Nat × List AV)} {step : AV → A0 → Res (Option AV)} (hw : ∀ w ∈ ws, H[w.1]? = some (.list w.2)) : ∀ (l : List α), (∀ a ∈ l, step (g a) H = .ok (some (f a)) H) → Bp ws step (l.map g) H = .ok (l.map f) H
  | [], _ => rfl
  | a :: l, h => by
    rw [List.map_cons, Bp, h a List.mem_cons_self]
    simp only [Res.get, A5a hw, if_true, Kf hw l fun a ha => h a (List.mem_cons_of_mem _ ha)]; rfl
theorem A3i {q : Nat} {xs : List AV} (h : H[q]? = some (.list xs)) : ∀ w ∈ [(q, xs)], H[w.1]? = some (.list w.2) := fun w hw => by
  cases List.mem_singleton.mp hw; exact h
noncomputable def A4r : FnI := ⟨2, 7, .cons (.assign 2 (.prim .listRange (.cons (.var 0) .nil))) (.cons (.for2 3 4 (.of (.var 1)) (.cons (.assign 5 (.prim .min2 (.cons (.idx (.var 2) (.var 3)) (.cons (.idx (.var 2) (.var 4)) .nil)))) (.cons (.assign 6 (.prim .max2 (.cons (.idx (.var 2) (.var 3)) (.cons (.idx (.var 2) (.var 4)) .nil)))) (.cons (.assign 2 (.comp1 (.ite (.cmp .Eq (.var 0) (.var 7)) (.var 6) (.var 0)) (.of (.var 2)) .none)) .nil)))) (.cons (.ret (.var 2)) .nil))⟩
inductive A0w (H : A0) (F : List Nat) (v : AV) (H' : A0) : Prop
  | mk (r : Nat) (hv : v = .ref r) (hr : H'[r]? = some (.list (F.map As))) (hp : H <+: H') (hge : H.length ≤ r) : A0w H F v H'
inductive Aay (H : A0) (n r : Nat) (E : List (Nat × Nat)) (k : Nat) (ρ : A8) (H' : A0) : Prop
  | mk (q : Nat) (x3 x4 x5 x6 : Option AV) (hρ : ρ = [some (.int n), some (.ref r), some (.ref q), x3, x4, x5, x6]) (hp : H <+: H') (hq : H'[q]? = some (.list ((Ud n (E.take k)).map As))) (hge : H.length ≤ q) : Aay H n r E k ρ H'
theorem T7 {r p : Nat} {F : List Nat} (h : H[r]? = some (.list (F.map As))) (hp : p < F.length) : Cl sc (.ref r) (.int p) H = .ok (.int (F.getD p 0 : Nat)) H :=
  Bk h (by rw [List.getElem?_map, List.getElem?_eq_getElem hp, List.getD_eq_getElem?_getD, List.getElem?_eq_getElem hp]; rfl)
theorem A26 {a c : Nat} : prim strF sc .min2 [.int a, .int c] H = .ok (.int (min a c : Nat)) H := by rw [A4i]; congr 2; exact A8v _ _
theorem A0x {a c : Nat} : prim strF sc .max2 [.int a, .int c] H = .ok (.int (max a c : Nat)) H := by rw [A16]; congr 2; exact A90 _ _
theorem Vj (k : Nat) : B4 0 k = (List.range k).map As := Mq k
theorem Zc {k : Nat} (h : k ≤ 1000) : prim strF sc .listRange [.int k] H = .ok (.ref H.length) (H ++ [.list ((List.range k).map As)]) := by
  rw [Nn, if_pos (Ev h), Vj]
  exact Aq (by rw [List.length_map, List.length_range]; exact h)
theorem Si (n : Nat) (E : List (Nat × Nat)) (h : okT n E) : (Ud n E).length = n := (Ui h).len
theorem U5 (h2 : P 2 = some A4r) {r : Nat} {E : List (Nat × Nat)} (hn : n ≤ 7) (hT : TL H r E) (hok : okT n E) : (Al strF P sc (m + 1) 2 [.int n, .ref r] H).sat (A0w H (Ud n E)) := by
  refine B0 h2 rfl (Ae (Ap (A5 (A6 rfl) A9) (Zc (k := n) (by exact Nat.le_trans hn (by decide)))) (Ur (G3 (A6 rfl) (Ab (Ag _ _) hT)) (Ea (Aay H n r E)
    ⟨H.length, _, _, _, _, rfl, Ag _ _, Ah _ _, Nat.le_refl _⟩ ?_ ?_)))
  · rintro k v ρ H' hv ⟨q, x3, x4, x5, x6, rfl, hp, hq, hge⟩
    obtain ⟨e, he, rfl⟩ := K7 hv
    have ho := hok e (List.mem_of_getElem? he)
    have hokk : okT n (E.take k) := fun f hf => hok f (List.mem_of_mem_take hf)
    have hlen := Si n _ hokk
    generalize hL : Ud n (E.take k) = L at hq hlen
    have h1 := T7 (sc := sc) (p := e.1) hq (by exact Ix ho.1 (Eq.symm hlen))
    have h3 := T7 (sc := sc) (p := e.2) hq (by exact Ix ho.2 (Eq.symm hlen))
    refine Ae (Ap (A5 (At (A6 rfl) (A6 rfl) h1) (A5 (At (A6 rfl) (A6 rfl) h3) A9)) A26)
      (Ae (Ap (A5 (At (A6 rfl) (A6 rfl) h1) (A5 (At (A6 rfl) (A6 rfl) h3) A9)) A0x)
      (Ae (Ia (G3 (A6 rfl) hq) (Kf (f := fun l => As (if l = max (L.getD e.1 0) (L.getD e.2 0) then min (L.getD e.1 0) (L.getD e.2 0) else l)) (A3i hq) L fun l _ => ?_) (Aq (by rw [List.length_map]; (first | lia | omega))))
      (Be ⟨⟨_, _, _, _, _, rfl, hp.trans (Ag _ _), ?_, hp.length_le⟩, Ab (hp.trans (Ag _ _)) hT⟩)))
    · refine Ic ?_
      by_cases h : l = max (L.getD e.1 0) (L.getD e.2 0)
      · rw [if_pos h]; exact A8w (Au (A6 rfl) (A6 rfl) (eqT (by rw [← h]))) (A6 rfl)
      · rw [if_neg h]; exact A97 (Au (A6 rfl) (A6 rfl) (eqF (fun q => h (Int.ofNat.inj q)))) (A6 rfl)
    · rw [Ah, List.take_add_one, he, show (some e).toList = [e] from rfl, Yj, hL, Dm, List.map_map]; rfl
  · rintro ρ H' ⟨q, x3, x4, x5, x6, rfl, hp, hq, hge⟩
    rw [List.length_map, List.take_length] at hq
    exact Bd (A6 rfl) ⟨q, rfl, hq, hp, hge⟩
end
end Mine
namespace Mine
open PySem
noncomputable def lst (S : List Nat) : Nat := match S.getLast? with
  | none => 0
  | some x => x + 1
noncomputable def ext (M : Nat) (S : List Nat) : List (List Nat) := (List.range (M - lst S)).map fun k => S ++ [lst S + k]
theorem O4 (S : List Nat) (x : Nat) : lst (S ++ [x]) = x + 1 := by unfold lst; rw [List.getLast?_concat]
theorem Nj (S : List Nat) : S = [] ∨ ∃ T x, S = T ++ [x] := by
  by_cases h : S = []
  · exact .inl h
  · exact .inr ⟨S.dropLast, S.getLast h, (List.dropLast_concat_getLast h).symm⟩
inductive Fa (H : A0) : List Nat → List (List Nat) → Prop
  | nil : Fa H [] []
  | cons {q : Nat} {qs : List Nat} {S : List Nat} {Ss : List (List Nat)} (h : H[q]? = some (.list (S.map As))) (r : Fa H qs Ss) : Fa H (q :: qs) (S :: Ss)
theorem Xm {H : A0} {d : Nat} : ∀ (F : List Nat), (F.map As).mapM (rd H d) = some (F.map fun (p : Nat) => PyData.int p)
  | [] => rfl
  | x :: F => by
    rw [List.map_cons, List.mapM_cons, Xm F]
    cases d <;> rfl
theorem R9 {H : A0} {r d : Nat} {F : List Nat} (h : H[r]? = some (.list (F.map As))) : rd H (d + 1) (.ref r) = some (.list (F.map fun (p : Nat) => PyData.int p)) := by
  unfold rd
  simp only [h, Xm]; rfl
theorem Hu : ∀ (F G : List Nat), PyData.eqvAll (F.map fun (p : Nat) => PyData.int p) (G.map fun (p : Nat) => PyData.int p) = decide (F = G)
  | [], [] => rfl
  | [], y :: G => rfl
  | x :: F, [] => rfl
  | x :: F, y :: G => by
    simp only [List.map_cons, PyData.eqvAll, Hu F G]
    have : PyData.eqv (.int (x : Int)) (.int (y : Int)) = decide (x = y) := by
      show ((x : Int) == (y : Int)) = _
      by_cases h : x = y
      · subst h; simp
      · rw [decide_eq_false h]; exact beq_eq_false_iff_ne.mpr fun e => h (Int.ofNat.inj e)
    rw [this]
    by_cases h : x = y <;> by_cases g : F = G <;> simp [h, g]
theorem Px {H : A0} {r q : Nat} {F G : List Nat} (h : H[r]? = some (.list (F.map As))) (h' : H[q]? = some (.list (G.map As))) : Gv (.ref r) (.ref q) H = some (decide (F = G)) := by
  unfold Gv
  rw [R9 (d := 7) h, R9 (d := 7) h']
  simp only
  rw [show PyData.eqv (.list (F.map fun (p : Nat) => PyData.int p)) (.list (G.map fun (p : Nat) => PyData.int p)) = PyData.eqvAll (F.map fun (p : Nat) => PyData.int p) (G.map fun (p : Nat) => PyData.int p) from rfl, Hu]
section
variable {strF : Bi} {sc : List Int} {P : Nat → Option FnI} {H H0 : A0} {n m : Nat} {ρ : A8} {cf : Nat → List AV → A0 → Res AV} {N : A8 → A0 → Prop} {R : AV → A0 → Prop}
noncomputable def Xk : FnI := ⟨3, 3, .cons (.ret (.and (.cons (.cmp .Eq (.prim .len (.cons (.var 2) .nil)) (.bin .Sub (.var 0) (.int 1))) (.cons (.cmp .Eq (.prim .len (.cons (.call 10 (.cons (.var 0) (.cons (.comp1 (.idx (.var 2) (.var 0)) (.of (.var 2)) .none) (.cons (.int 0) .nil)))) .nil)) (.var 0)) .nil)))) .nil⟩
inductive A2t (H : A0) (p : Prop) (v : AV) (H' : A0) : Prop
  | mk (t : Bool) (hv : v = .bool t) (ht : t = true ↔ p) (hp : H <+: H') : A2t H p v H'
theorem Ul {b r q i j : Nat} {E : List (Nat × Nat)} {S : List Nat} (hT : TL H r E) (hS : H[q]? = some (.list (S.map As))) (hl : S.length ≤ 1000) (hlt : ∀ i ∈ S, i < E.length) (ri : ρ[i]? = some (some (.ref r))) (rj : ρ[j]? = some (some (.ref q))) :
    Aa strF cf sc b (.comp1 (.idx (.var (i + 1)) (.var 0)) (.of (.var j)) .none) ρ H = .ok (.ref H.length) (H ++ [.list ((Bn E S).map C5)]) := by
  refine Ia (G3 (A6 rj) hS) (Kf (f := fun k => C5 (E.getD k (0, 0))) (A3i hS) S fun k hk => Ic (At (A6 ri) (A6 rfl) (Es hT ?_))) ?_
  · rw [List.getD_eq_getElem?_getD, List.getElem?_eq_getElem (hlt k hk)]; rfl
  · unfold Bn
    rw [List.map_map]
    exact Aq (by rw [List.length_map]; exact hl)
theorem U7 (h10 : P 10 = some Pp) (h54 : P 54 = some Xk) {r q : Nat} {E : List (Nat × Nat)} {S : List Nat} (hn : n + 1 ≤ 7) (hT : TL H r E) (hok : okT (n + 1) E) (hS : H[q]? = some (.list (S.map As))) (hl : S.length = n) (hlt : ∀ i ∈ S, i < E.length) :
    (Al strF P sc (m + 2) 54 [.int (n + 1 : Nat), .ref r, .ref q] H).sat (A2t H (Dj (n + 1) (Bn E S))) := by
  refine bC fun hno => ?_
  obtain ⟨v, H1, e1, r1, F, rfl, hr1, hp1, hge1, nd, lt, hF⟩ := Res.sat_ex (Oq (strF := strF) (sc := sc) (m := m) (H := H ++ [.list ((Bn E S).map C5)]) (s := 0) h10 hn (Ah _ _) (Ei hok hlt) (by exact Nat.succ_pos _))
  refine hno ?_
  refine B0 h54 rfl (Bd (F0 (D0 (Jr (Ap (A5 (A6 rfl) A9) (Sa hS)) (Ak (A6 rfl) Ac Df) (eqT (by exact Ab9 hl)))
    (J0 (Jr (Ap (A5 (Ar (A5 (A6 rfl) (A5 (Ul (i := 1) (j := 2) hT hS (by exact oR0 hn hl) hlt rfl rfl) (A5 Ac A9))) e1) A9) (Hw hr1)) (A6 rfl) Ym)))) ⟨_, rfl, ?_, (Ag _ _).trans hp1⟩)
  rw [List.length_map, Ga, List.length_map, beq_iff_eq]
  constructor
  · intro h
    have hl : F.length = n + 1 := by exact A5p h
    have f := Vy nd hl lt
    intro x y hx hy
    exact (((hF x hx).mp (f x hx)).symm).trans ((hF y hy).mp (f y hy))
  · intro h
    have h1 : n + 1 ≤ F.length := A1y fun p hp => (hF p hp).mpr (h 0 p (by exact Nat.succ_pos _) hp)
    have h2 := Ii nd lt
    exact A40 (Nat.le_antisymm h2 h1)
end
end Mine
namespace Mine
open PySem
end Mine
namespace Mine
open PySem
section
variable {strF : Bi} {sc : List Int} {P : Nat → Option FnI} {H H0 H1 H2 H3 : A0} {n m b : Nat} {ρ : A8} {cf : Nat → List AV → A0 → Res AV} {N : A8 → A0 → Prop} {R : AV → A0 → Prop} {K K' : AV → A0 → Prop} {x y : PE} {es : PEs} {ss : PSs} {v w : AV} {vs : List AV}
theorem A4s {p : Prop} : @decide p (Classical.propDecidable _) = true ↔ p := ⟨fun h => @of_decide_eq_true _ (Classical.propDecidable _) h, fun h => @decide_eq_true _ (Classical.propDecidable _) h⟩
end
end Mine
namespace Mine
open PySem
section
variable {strF : Bi} {sc : List Int} {P : Nat → Option FnI} {H H0 H1 H2 H3 : A0} {n m b : Nat} {ρ : A8} {cf : Nat → List AV → A0 → Res AV} {N : A8 → A0 → Prop} {R : AV → A0 → Prop} {K K' : AV → A0 → Prop} {x y : PE} {es : PEs} {ss : PSs} {v w : AV} {vs : List AV}
noncomputable def A1h : FnI := ⟨3, 5, .cons (.ite (.or (.cons (.not (.prim .isList (.cons (.var 2) .nil))) (.cons (.cmp .NotEq (.prim .len (.cons (.var 2) .nil)) (.bin .Sub (.var 0) (.int 1))) .nil))) (.cons (.ret (.bool false)) .nil) .nil) (.cons (.assign 3 (.neg (.int 1))) (.cons (.for1 4 (.of (.var 2)) (.cons (.ite (.not (.call 0 (.cons (.var 4) (.cons (.bin .Add (.var 3) (.int 1)) (.cons (.bin .Sub (.prim .len (.cons (.var 1) .nil)) (.int 1)) .nil))))) (.cons (.ret (.bool false)) .nil) .nil) (.cons (.assign 3 (.var 4)) .nil))) (.cons (.ret (.cmp .Eq (.prim .max1 (.cons (.call 2 (.cons (.var 0) (.cons (.comp1 (.idx (.var 2) (.var 0)) (.of (.var 2)) .none) .nil))) .nil)) (.int 0))) .nil)))⟩
inductive IsH (H : A0) (n : Nat) (E : List (Nat × Nat)) (v : AV) : Prop
  | mk (q : Nat) (S : List Nat) (hv : v = .ref q) (hq : H[q]? = some (.list (S.map As))) (hr : Ris E.length n S) (hc : Dj (n + 1) (Bn E S)) : IsH H n E v
inductive Ask (H : A0) (v : AV) : Prop
  | other (h : Ez v H = some false) (h' : ∀ q xs, v = .ref q → H[q]? ≠ some (.list xs)) : Ask H v
  | list (q : Nat) (xs : List AV) (hv : v = .ref q) (hq : H[q]? = some (.list xs)) (hx : ∀ x ∈ xs, Fk x = true) : Ask H v
theorem Ng : ∀ (F : List Nat) (a : Nat), (F.map fun (p : Nat) => (p : Int)).foldl max (a : Int) = 0 ↔ a = 0 ∧ ∀ x ∈ F, x = 0
  | [], a => by
    show ((a : Int) = 0) ↔ _
    exact ⟨fun h => ⟨by exact A5p h, fun x hx => by cases hx⟩, fun h => by rw [h.1]; rfl⟩
  | x :: F, a => by
    rw [List.map_cons, List.foldl_cons, show max (a : Int) (x : Int) = ((max a x : Nat) : Int) by exact A90 _ _, Ng F]
    constructor
    · intro h
      refine ⟨(Aae h.1).1, fun y hy => ?_⟩
      rcases List.mem_cons.mp hy with rfl | hy
      · exact (Aae h.1).2
      · exact h.2 y hy
    · intro h
      have := h.2 x List.mem_cons_self
      exact ⟨by rw [h.1, this]; rfl, fun y hy => h.2 y (List.mem_cons_of_mem _ hy)⟩
inductive A9p (strF : Bi) (sc : List Int) (H : A0) (r : Nat) (F : List Nat) : Prop
  | mk (M : Int) (e : prim strF sc .max1 [.ref r] H = .ok (.int M) H) (h : M = 0 ↔ ∀ x ∈ F, x = 0) : A9p strF sc H r F
theorem A3u {r : Nat} {F : List Nat} (h : H[r]? = some (.list (F.map As))) (hF : 0 < F.length) : A9p strF sc H r F := by
  cases F with
  | nil => cases hF
  | cons a F =>
    refine ⟨(F.map fun (p : Nat) => (p : Int)).foldl max (a : Int), ?_, ?_⟩
    · show (match (match H[r]? with
          | some (.list xs) => (match Bh xs with
              | some (i :: is) => Res.ok (AV.int (is.foldl max i)) H
              | _ => .bad)
          | _ => .bad) with | r => r) = _
      rw [h]
      show (match Bh ((a :: F).map As) with
              | some (i :: is) => Res.ok (AV.int (is.foldl max i)) H
              | _ => .bad) = _
      rw [Co]; rfl
    · rw [Ng]
      constructor
      · intro h x hx
        rcases List.mem_cons.mp hx with rfl | hx
        · exact h.1
        · exact h.2 x hx
      · intro h
        exact ⟨h a List.mem_cons_self, fun x hx => h x (List.mem_cons_of_mem _ hx)⟩
inductive IhI (H : A0) (n r q : Nat) (E : List (Nat × Nat)) (xs : List AV) (k : Nat) (ρ : A8) (H' : A0) : Prop
  | mk (S : List Nat) (x4 : Option AV) (hρ : ρ = [some (.int (n + 1 : Nat)), some (.ref r), some (.ref q), some (.int ((lst S : Int) - 1)), x4]) (hH : H' = H) (hS : xs.take k = S.map As) (hr : Ris E.length S.length S) : IhI H n r q E xs k ρ H'
theorem A18 {M : Nat} {S : List Nat} {x : Nat} (h : Ris M S.length S) (h1 : lst S ≤ x) (h2 : x < M) : Ris M (S ++ [x]).length (S ++ [x]) := by
  refine ⟨rfl, fun i hi => ?_, List.pairwise_append.mpr ⟨h.pw, List.pairwise_singleton _ _, fun a ha c hc => ?_⟩⟩
  · rcases List.mem_append.mp hi with hi | hi
    · exact h.lt i hi
    · simp at hi; exact Sh hi h2
  · simp at hc; subst hc
    obtain rfl | ⟨T, y, rfl⟩ := Nj S
    · cases ha
    · rw [O4] at h1
      rcases List.mem_append.mp ha with ha | ha
      · have := (List.pairwise_append.mp h.pw).2.2 a ha y (by simp); exact Dz this h1
      · simp at ha; exact Sh ha h1
theorem A0v {M k : Nat} {S T : List Nat} {x : Nat} (h : Ris M k (S ++ x :: T)) : lst S ≤ x ∧ x < M := by
  refine ⟨?_, h.lt x (by simp)⟩
  obtain rfl | ⟨U, y, rfl⟩ := Nj S
  · exact Nat.zero_le _
  · rw [O4]
    exact (List.pairwise_append.mp h.pw).2.2 y (by simp) x (by simp)
theorem Tm {F G : List Nat} (h : F.map As = G.map As) : F = G := by
  induction F generalizing G with
  | nil => cases G with
    | nil => rfl
    | cons y G => cases h
  | cons x F ih =>
    cases G with
    | nil => cases h
    | cons y G =>
      rw [List.map_cons, List.map_cons] at h
      injection h with h1 h2
      injection h1 with h1
      rw [ih h2, Int.ofNat.inj h1]
theorem Hp (h0 : P 0 = some V7) (h2 : P 2 = some A4r) (h25 : P 25 = some A1h) {r : Nat} {E : List (Nat × Nat)} (hn : n + 1 ≤ 7) (hT : TL H r E) (hok : okT (n + 1) E) (hv : Ask H v) :
    (Al strF P sc (m + 2) 25 [.int (n + 1 : Nat), .ref r, v] H).sat (A2t H (IsH H n E v)) := by
  refine B0 h25 rfl ?_
  cases hv with
  | other h h' =>
    exact Cg (Kz (W0 (Rb (Fi (A5 (A6 rfl) A9) (D1 h))))) (Bd Gh ⟨false, rfl, ⟨fun h => (by cases h), fun i => by obtain ⟨q, S, rfl, hq, _⟩ := i; exact absurd hq (h' q _ rfl)⟩, List.prefix_rfl⟩)
  | list q xs hv hq hx =>
    subst hv
    have e1 : ((n + 1 : Nat) : Int) - 1 = (n : Int) := by exact Wu _
    by_cases hl : xs.length = n
    · refine B3 (Kz (Az (Cj (Fi (A5 (A6 rfl) A9) (D1 (I1 hq)))) (Az (Au (Ap (A5 (A6 rfl) A9) (Hw hq)) (Ak (A6 rfl) Ac Df) (neF (by exact Ab9 hl))) Ec)))
        (Ae (Sw Ac) (Dw (G3 (A6 rfl) hq) (Ea (IhI H n r q E xs) ⟨[], _, rfl, rfl, rfl, ⟨rfl, fun i hi => (by cases hi), .nil⟩⟩ ?_ ?_)))
      · rintro k x ρ H' hk ⟨S, x4, rfl, rfl, hS, hr⟩
        obtain ⟨t, e, am⟩ := Ie (strF := strF) (sc := sc) (m := m) (H := H') (lo := (lst S : Int)) (hi := (E.length : Int) - 1) h0 (hx x (List.mem_of_getElem? hk))
        have e2 : (lst S : Int) - 1 + 1 = (lst S : Int) := by exact Int.sub_add_cancel _ _
        have e3 : Bc .Add (.int ((lst S : Int) - 1)) (.int 1) H' = .ok (.int (lst S)) H' := by rw [De, e2]
        cases am with
        | yes i hv h1 h2 ht =>
          subst ht hv
          obtain ⟨j, rfl⟩ : ∃ j : Nat, i = j := ⟨i.toNat, by exact Ql (Int.le_trans (oNN _) h1)⟩
          refine B3 (Cj (Em (A5 (A6 rfl) (A5 (Ak (A6 rfl) Ac e3) (A5 (Ak (Ap (A5 (A6 rfl) A9) (Dr hT)) Ac Df) A9))) e)) (Ae (A6 rfl) (Be ⟨⟨S ++ [j], some (.int j), ?_, rfl, ?_, A18 hr (by exact Aa9 h1) (by (first | lia | omega))⟩, hq⟩))
          · rw [O4, show (((j + 1 : Nat) : Int) - 1) = (j : Int) by exact Wu _]; rfl
          · rw [List.take_add_one, hk, hS, List.map_append]; rfl
        | no h ht =>
          subst ht
          refine Cg (Rb (Em (A5 (A6 rfl) (A5 (Ak (A6 rfl) Ac e3) (A5 (Ak (Ap (A5 (A6 rfl) A9) (Dr hT)) Ac Df) A9))) e)) (Bd Gh ⟨false, rfl, ⟨fun h => (by cases h), fun i => ?_⟩, List.prefix_rfl⟩)
          obtain ⟨q', S', hv', hq', hr', _⟩ := i
          cases hv'
          rw [hq] at hq'
          injection hq' with hq'
          injection hq' with hq'
          have hsplit : xs = S.map As ++ x :: xs.drop (k + 1) := by
            rw [← hS]
            conv => lhs; rw [← List.take_append_drop k xs]
            rw [List.drop_eq_getElem_cons (List.getElem?_eq_some_iff.mp hk).1, (List.getElem?_eq_some_iff.mp hk).2]
          rw [hq'] at hsplit
          obtain ⟨A, B, rfl, hA, hB⟩ := List.map_eq_append_iff.mp hsplit
          cases B with
          | nil => cases hB
          | cons y B =>
            rw [List.map_cons] at hB
            injection hB with hB1 hB2
            have := Tm hA; subst this
            have := A0v hr'
            exact absurd ⟨by exact Qg this.1, by (first | lia | omega)⟩ (h y hB1.symm)
      · rintro ρ H' ⟨S, x4, rfl, rfl, hS, hr⟩
        refine bC fun hno => ?_
        rw [List.take_length] at hS
        subst hS
        rw [List.length_map] at hl
        have hlt := hr.lt
        have hokp := Ei hok hlt
        obtain ⟨v, H1, e1, r1, rfl, hr1, hp1, hg1⟩ := Res.sat_ex (U5 (strF := strF) (sc := sc) (m := m) (H := H' ++ [.list ((Bn E S).map C5)]) h2 hn (Ah _ _) hokp)
        have hlab := Ui hokp
        obtain ⟨M, e2, hM⟩ := A3u (strF := strF) (sc := sc) hr1 (by rw [hlab.len]; exact Nat.succ_pos _)
        refine hno ?_
        refine Bd (Jr (Ap (A5 (Ar (A5 (A6 rfl) (A5 (Ul (i := 1) (j := 2) hT hq (by exact oR0 hn hl) hlt rfl rfl) A9)) e1) A9) e2) Ac Ym) ⟨_, rfl, ?_, (Ag _ _).trans hp1⟩
        rw [beq_iff_eq, hM, ← A15 hlab (by exact Nat.succ_pos _)]
        constructor
        · intro c; exact ⟨q, S, rfl, hq, hl ▸ hr, c⟩
        · intro i
          obtain ⟨q', S', hv', hq', hr', hc'⟩ := i
          cases hv'
          rw [hq] at hq'
          injection hq' with hq'
          injection hq' with hq'
          rw [Tm hq']; exact hc'
    · refine Cg (Kz (Az (Cj (Fi (A5 (A6 rfl) A9) (D1 (I1 hq)))) (W0 (Au (Ap (A5 (A6 rfl) A9) (Hw hq)) (Ak (A6 rfl) Ac Df) (neT (by exact Aby hl)))))) (Bd Gh ⟨false, rfl, ⟨fun h => (by cases h), fun i => ?_⟩, List.prefix_rfl⟩)
      obtain ⟨q', S', hv', hq', hr', _⟩ := i
      cases hv'
      rw [hq] at hq'
      injection hq' with hq'
      injection hq' with hq'
      rw [hq', List.length_map] at hl
      exact absurd hr'.len hl
end
end Mine
namespace Mine
open PySem
noncomputable def A7a : FnI := ⟨2, 4, .cons (.ite (.cmp .Eq (.idx (.idx (.var 1) (.int 0)) (.int 0)) (.idx (.idx (.var 1) (.int 0)) (.int 1))) (.cons (.ret (.int 0)) .nil) .nil) (.cons (.assigns [2, 3] (.call 17 (.cons (.var 0) (.cons (.var 1) (.cons (.int 0) .nil))))) (.cons (.ret (.call 23 (.cons (.var 2) (.cons (.var 3) .nil)))) .nil))⟩
noncomputable def A7c : FnI := ⟨3, 7, .cons (.expr (.call 1 (.cons (.var 0) (.cons (.var 1) .nil)))) (.cons (.ite (.not (.call 0 (.cons (.var 2) (.cons (.int 0) (.cons (.bin .Sub (.call 23 (.cons (.var 0) (.cons (.var 1) .nil))) (.int 1)) .nil))))) (.cons (.raise 5 "no hanging has that number") .nil) .nil) (.cons (.assign 3 (.list .nil)) (.cons (.assign 4 (.prim .list (.cons (.var 1) .nil))) (.cons (.for1 5 (.range1 (.prim .len (.cons (.var 1) .nil))) (.cons (.assign 6 (.call 29 (.cons (.var 0) (.cons (.var 4) .nil)))) (.cons (.ite (.cmp .Lt (.var 2) (.var 6)) (.cons (.expr (.append (.var 3) (.var 5))) (.cons (.assigns [0, 4] (.call 17 (.cons (.var 0) (.cons (.var 4) (.cons (.int 0) .nil))))) .nil)) (.cons (.assign 2 (.bin .Sub (.var 2) (.var 6))) (.cons (.assign 4 (.slice (.var 4) (.some (.int 1)) .none)) .nil))) .nil))) (.cons (.ret (.var 3)) .nil)))))⟩
noncomputable def A7g : FnI := ⟨3, 6, .cons (.expr (.call 1 (.cons (.var 0) (.cons (.var 1) .nil)))) (.cons (.ite (.not (.call 25 (.cons (.var 0) (.cons (.var 1) (.cons (.var 2) .nil))))) (.cons (.raise 4 "no hanging") .nil) .nil) (.cons (.assign 3 (.int 0)) (.cons (.assign 4 (.prim .list (.cons (.var 1) .nil))) (.cons (.for1 5 (.range1 (.prim .len (.cons (.var 1) .nil))) (.cons (.ite (.cmp .In (.var 5) (.var 2)) (.cons (.assigns [0, 4] (.call 17 (.cons (.var 0) (.cons (.var 4) (.cons (.int 0) .nil))))) .nil) (.cons (.assign 3 (.bin .Add (.var 3) (.call 29 (.cons (.var 0) (.cons (.var 4) .nil))))) (.cons (.assign 4 (.slice (.var 4) (.some (.int 1)) .none)) .nil))) .nil)) (.cons (.ret (.var 3)) .nil)))))⟩
structure DefsT (P : Nat → Option FnI) : Prop where
  h0 : P 0 = some V7
  h1 : P 1 = some A5b
  h19 : P 19 = some N8
  h20 : P 20 = some Q7
  h21 : P 21 = some Pe
  h23 : P 23 = some Y1
structure DefsN (P : Nat → Option FnI) : Prop extends DefsT P where
  h2 : P 2 = some A4r
  h14 : P 14 = some Xl
  h16 : P 16 = some W5
  h17 : P 17 = some A29
  h25 : P 25 = some A1h
  h29 : P 29 = some A7a
  h30 : P 30 = some A7c
  h31 : P 31 = some A7g
section
variable {strF : Bi} {sc : List Int} {P : Nat → Option FnI} {H H0 H1 H2 H3 : A0} {n m b : Nat} {ρ : A8} {cf : Nat → List AV → A0 → Res AV} {N : A8 → A0 → Prop} {R : AV → A0 → Prop} {K K' : AV → A0 → Prop} {x y : PE} {es : PEs} {ss : PSs} {v w : AV} {vs : List AV}
theorem R5 (D : DefsT P) {r : Nat} {E : List (Nat × Nat)} (hn : n + 1 ≤ 7) (hT : TL H r E) (hl : E.length ≤ 100) (hok : okT (n + 1) E) : (Al strF P sc (m + 3) 23 [.int (n + 1 : Nat), .ref r] H).sat (Yx H (tau (n + 1) E)) :=
  Lm D.h19 D.h20 D.h21 D.h23 hn hT (by exact Nat.le_trans hl (by decide)) hok
theorem Qi (D : DefsT P) {r : Nat} {E : List (Nat × Nat)} (hn : n + 1 ≤ 7) (hT : TL H r E) (hl : E.length ≤ 16) (hok : okT (n + 1) E) : Al strF P sc (m + 2) 1 [.int (n + 1 : Nat), .ref r] H = .ok .none H :=
  T5 D.h0 D.h1 (by exact Nat.succ_pos _) hn hT hl hok
theorem A01 (D : DefsT P) {x lo hi : Int} (h1 : lo ≤ x) (h2 : x ≤ hi) : Al strF P sc (m + 1) 0 [.int x, .int lo, .int hi] H = .ok (.bool true) H := by
  obtain ⟨t, e, h⟩ := Ie (strF := strF) (sc := sc) (m := m) (H := H) (v := .int x) (lo := lo) (hi := hi) D.h0 rfl
  cases h with
  | yes i hv q1 q2 ht => rw [e, ht]
  | no h ht => exact absurd ⟨h1, h2⟩ (h x rfl)
theorem A2i {r i : Nat} {E : List (Nat × Nat)} {e : Nat × Nat} {z : PE} {j : Nat} (hT : TL H r E) (he : E[i]? = some e) (hj : ρ[j]? = some (some (.ref r))) (hz : Aa strF cf sc b z ρ H = .ok (.int i) H) :
    Bo strF cf sc b (.cmp .Eq (.idx (.idx (.var j) z) (.int 0)) (.idx (.idx (.var j) z) (.int 1))) ρ H = .ok (decide (e.1 = e.2)) H := by
  have it := Es (sc := sc) hT he
  refine Au (At (At (A6 hj) hz it) Ac I8) (At (At (A6 hj) hz it) Ac Ir) ?_
  by_cases h : e.1 = e.2
  · rw [decide_eq_true h]; exact eqT (by rw [h])
  · rw [decide_eq_false h]; exact eqF fun q => h (Int.ofNat.inj q)
theorem Pw (D : DefsN P) {r : Nat} {E : List (Nat × Nat)} {e : Nat × Nat} (hn : n + 1 ≤ 7) (hT : TL H r (e :: E)) (hl : E.length < 100) (hok : okT (n + 1) (e :: E)) : (Al strF P sc (m + 4) 29 [.int (n + 1 : Nat), .ref r] H).sat (Yx H (Lh n (e :: E))) := by
  refine B0 D.h29 rfl ?_
  have tt := A2i (strF := strF) (sc := sc) (cf := Al strF P sc (m + 3)) (b := H.length) (i := 0) (j := 1) (z := .int 0) (ρ := [some (.int (n + 1 : Nat)), some (.ref r), none, none]) hT rfl rfl Ac
  by_cases h : e.1 = e.2
  · rw [decide_eq_true h] at tt
    exact Cg tt (Bd Ac ⟨by rw [Lh, if_pos h], List.prefix_rfl⟩)
  · refine bC fun hno => ?_
    rw [decide_eq_false h] at tt
    have he := hok e List.mem_cons_self
    obtain ⟨k, rfl⟩ : ∃ k, n = k + 1 := ⟨n - 1, by exact Abo h he⟩
    obtain ⟨v, H1, e1, r1, rfl, hT1, hp1, hg1⟩ := Res.sat_ex (J8 (strF := strF) (sc := sc) (m := m + 1) (n := k + 1) (i := 0) (e := e) D.h14 D.h16 D.h17 hT (by rw [List.length_cons]; exact hl) rfl)
    obtain ⟨v, H2, e2, rfl, hp2⟩ := Res.sat_ex (R5 (strF := strF) (sc := sc) (m := m) D.toDefsT (n := k) (by exact Nat.le_of_lt hn) hT1 (by rw [Bu, List.eraseIdx_cons_zero]; exact Nat.le_of_lt hl) (F8 h hok))
    refine hno ?_
    exact B3 tt (Im (Ar (A5 (A6 rfl) (A5 (A6 rfl) (A5 Ac A9))) e1) rfl (Bd (Ar (A5 (A6 rfl) (A5 (A6 rfl) A9)) e2) ⟨by rw [Lh, if_neg h]; rfl, hp1.trans hp2⟩))
inductive HoI (H0 : A0) (r k : Nat) (S : List Nat) (t : Nat) (ρ : A8) (H : A0) : Prop
  | mk (n j rf rl : Nat) (F S' : List Nat) (L : List (Nat × Nat)) (x5 x6 : Option AV) (hρ : ρ = [some (.int (n + 1 : Nat)), some (.ref r), some (.int j), some (.ref rf), some (.ref rl), x5, x6]) (hp : H0 <+: H) (hf : H[rf]? = some (.list (F.map As))) (hT : TL H rl L)
    (hge : H0.length ≤ rf) (hne : rf ≠ rl) (hn : n + 1 ≤ 7) (hok : okT (n + 1) L) (hl : L.length + t = k) (hS' : (C8 L.length n L)[j]? = some S') (hS : S = F ++ G5 t S') (hF : F.length ≤ t) : HoI H0 r k S t ρ H
theorem Tt {r : Nat} {xs : List AV} (h : H[r]? = some (.list xs)) (hl : xs.length ≤ 1000) : prim strF sc .list [.ref r] H = .ok (.ref H.length) (H ++ [.list xs]) := by
  rw [Mg, Lj, h]; exact Aq hl
theorem A89 {r q : Nat} {o p : Br} (h : H[r]? = some o) (hne : q ≠ r) : (H.set q p)[r]? = some o := by rw [List.getElem?_set_ne hne]; exact h
theorem A0q {r : Nat} {o : Br} (h : H[r]? = some o) : r < H.length := (List.getElem?_eq_some_iff.mp h).1
theorem Mk (D : DefsN P) {r j : Nat} {E : List (Nat × Nat)} {S : List Nat} (hn : n + 1 ≤ 7) (hT : TL H r E) (hl : E.length ≤ 16) (hok : okT (n + 1) E) (hS : (C8 E.length n E)[j]? = some S) :
    (Al strF P sc (m + 5) 30 [.int (n + 1 : Nat), .ref r, .int j] H).sat (A0w H S) := by
  refine bC fun hno => ?_
  have hj : (j : Int) < tau (n + 1) E := by rw [← Ha E.length rfl hok]; exact Int.ofNat_lt.mpr (List.getElem?_eq_some_iff.mp hS).1
  obtain ⟨v, H1, e1, rfl, hp1⟩ := Res.sat_ex (R5 (strF := strF) (sc := sc) (m := m + 1) D.toDefsT hn hT (by exact Nat.le_trans hl (by decide)) hok)
  have hT1 : TL H1 r E := Ab hp1 hT
  have hpa := Ag H1 [.list []]
  have hpb := Ag (H1 ++ [Br.list []]) [.list (E.map C5)]
  refine hno ?_
  refine B0 D.h30 rfl (Gn (Ar (A5 (A6 rfl) (A5 (A6 rfl) A9)) (Qi (m := m + 2) D.toDefsT hn hT hl hok))
    (B3 (Cj (Em (A5 (A6 rfl) (A5 Ac (A5 (Ak (Ar (A5 (A6 rfl) (A5 (A6 rfl) A9)) e1) Ac Df) A9))) (A01 D.toDefsT (by exact oNN _) (by (first | lia | omega)))))
    (Ae (Bb A9 (Aq (by simp))) (Ae (Ap (A5 (A6 rfl) A9) (Tt (Ab hpa hT1) (by rw [List.length_map]; exact Nat.le_trans hl (by decide))))
    (Dw (Eh (Ap (A5 (A6 rfl) A9) (Dr (Ab (hpa.trans hpb) hT1))) (Ev (by exact Nat.le_trans hl (by decide)))) (Zj (HoI H r E.length S)
      ⟨n, j, H1.length, _, [], S, E, _, _, rfl, (hp1.trans hpa).trans hpb, Ab hpb (Ah _ _), Ah _ _, hp1.length_le, by simp, hn, hok, rfl, hS, (N9 S).symm, Nat.le_refl _⟩ ?_ ?_))))))
  · rintro t ρ H2 ht ⟨n, j, rf, rl, F, S', L, x5, x6, rfl, hp, hf, hT2, hge, hne, hn, hok, hl2, hS', hS, hF⟩
    cases L with
    | nil => rw [List.length_nil] at hl2; (first | lia | omega)
    | cons e L =>
    have hll : L.length < 100 := by rw [List.length_cons] at hl2; exact Ab3 hl hl2
    obtain ⟨v, H3, e3, rfl, hp3⟩ := Res.sat_ex (Pw (strF := strF) (sc := sc) (m := m) D hn hT2 hll hok)
    refine Ae (Ar (A5 (A6 rfl) (A5 (A6 rfl) A9)) e3) ?_
    have hf3 := Ab hp3 hf
    have hT3 : TL H3 rl (e :: L) := Ab hp3 hT2
    cases Tz (k := L.length) rfl hok hS' with
    | inn hne' n' hn' hj T hT' hh =>
      refine bC fun hno => ?_
      subst hn'
      have hT4 : TL (H3.set rf (.list ((F ++ [t]).map As))) rl (e :: L) := A89 hT3 hne
      obtain ⟨v, H4, e4, r4, rfl, hT5, hp4, hg4⟩ := Res.sat_ex (J8 (strF := strF) (sc := sc) (m := m + 2) (n := n' + 1) (i := 0) (e := e) D.h14 D.h16 D.h17 hT4 (by rw [List.length_cons]; exact hll) rfl)
      have hps : H <+: H3.set rf (.list ((F ++ [t]).map As)) := C2 (hp.trans hp3) hge
      have hf4 := Ab hp4 (F6 (o := .list ((F ++ [t]).map As)) ⟨_, hf3⟩)
      refine hno ?_
      refine Cg (Au (A6 rfl) (A6 rfl) (ltT hj)) (Gn (Fz (A6 rfl) (Ku hf3) (A6 rfl) (J7 (p := t) hf3 hge (Nat.lt_of_lt_of_le (show F.length < 100 by exact A9q hl ht hF) (by decide))))
        (Im (Ar (A5 (A6 rfl) (A5 (A6 rfl) (A5 Ac A9))) e4) rfl (Be (Be ⟨n', j, rf, r4, F ++ [t], T, _, _, _, rfl, hps.trans hp4, hf4, hT5, hge, ?_, by exact Nat.le_of_lt hn, F8 hne' hok, ?_, ?_, ?_, ?_⟩))))
      · have := A0q (F6 (o := .list ((F ++ [t]).map As)) ⟨_, hf3⟩)
        exact Nat.ne_of_lt (Nat.lt_of_lt_of_le this hg4)
      · rw [Bu, List.eraseIdx_cons_zero]; rw [List.length_cons] at hl2; exact (Nat.add_right_comm _ _ _).symm.trans hl2
      · rw [Bu, List.eraseIdx_cons_zero]; exact hh
      · rw [hS, hT', Qc, List.append_assoc]; rfl
      · rw [List.length_append]; simp; exact hF
    | out c hc hj T hT' hh =>
      have e5 : (j : Int) - Lh n (e :: L) = ((j - c : Nat) : Int) := by rw [hc]; exact A75 hj
      refine Um (Au (A6 rfl) (A6 rfl) (ltF (by rw [hc]; exact Xu (Qg hj)))) (Ae (Ak (A6 rfl) (A6 rfl) (Df.trans (by rw [e5]))) (Ae (E6 (A6 rfl) (Gp Ac) Gi hT3 (M1 (r := 0) (i := 1) (by rw [List.length_cons]; exact A9m hll) (by rw [List.length_cons]; exact Nat.succ_pos _)))
        (Be (Be ⟨n, j - c, rf, H3.length, F, T, L, _, _, rfl, (hp.trans hp3).trans (Ag _ _), Ab (Ag _ _) hf3, Ah _ _, hge, ?_, hn, Db hok, ?_, hh, ?_, by exact Nat.le_succ_of_le hF⟩))))
      · exact Nat.ne_of_lt (A0q hf3)
      · rw [List.length_cons] at hl2; exact (Nat.add_right_comm _ _ _).symm.trans hl2
      · rw [hS, hT', Nk]
  · rintro ρ H2 ⟨n, j, rf, rl, F, S', L, x5, x6, rfl, hp, hf, hT2, hge, hne, hn, hok, hl2, hS', hS, hF⟩
    have hL : L = [] := List.length_eq_zero_iff.mp (by exact Abb hl2)
    subst hL
    have hS0 : S' = [] := by
      cases n with
      | zero =>
        rw [Dg] at hS'
        have := List.mem_of_getElem? hS'
        simpa using this
      | succ n => rw [List.length_nil, Hr] at hS'; simp at hS'
    subst hS0
    have : S = F := by rw [hS]; exact List.append_nil F
    exact Bd (A6 rfl) ⟨rf, rfl, by rw [this]; exact hf, hp, hge⟩
end
end Mine
namespace Mine
open PySem
section
variable {strF : Bi} {sc : List Int} {P : Nat → Option FnI} {H H0 H1 H2 H3 : A0} {n m b : Nat} {ρ : A8} {cf : Nat → List AV → A0 → Res AV} {N : A8 → A0 → Prop} {R : AV → A0 → Prop} {K K' : AV → A0 → Prop} {x y : PE} {es : PEs} {ss : PSs} {v w : AV} {vs : List AV}
inductive NoI (H0 : A0) (r q k j0 : Nat) (S : List Nat) (t : Nat) (ρ : A8) (H : A0) : Prop
  | mk (n j acc rl : Nat) (F S' : List Nat) (L : List (Nat × Nat)) (x5 : Option AV) (hρ : ρ = [some (.int (n + 1 : Nat)), some (.ref r), some (.ref q), some (.int acc), some (.ref rl), x5]) (hp : H0 <+: H) (hT : TL H rl L)
    (hn : n + 1 ≤ 7) (hok : okT (n + 1) L) (hl : L.length + t = k) (hS' : (C8 L.length n L)[j]? = some S') (hS : S = F ++ G5 t S') (hF : ∀ x ∈ F, x < t) (ha : acc + j = j0) : NoI H0 r q k j0 S t ρ H
theorem A8r {t : Nat} {F S' : List Nat} (hF : ∀ x ∈ F, x < t) : t ∈ F ++ G5 t S' ↔ 0 ∈ S' := by
  rw [List.mem_append]
  constructor
  · rintro (h | h)
    · exact absurd (hF t h) (Nat.lt_irrefl _)
    · exact (Pv (t := t)).mp (by rw [Nat.zero_add]; exact h)
  · intro h
    have := (Pv (t := t)).mpr h
    rw [Nat.zero_add] at this
    exact .inr this
theorem inT {t q : Nat} {S : List Nat} (hq : H[q]? = some (.list (S.map As))) (h : t ∈ S) : B5 .In (.int t) (.ref q) H = some true := by rw [A87, L5 hq, decide_eq_true h]
theorem inF {t q : Nat} {S : List Nat} (hq : H[q]? = some (.list (S.map As))) (h : t ∉ S) : B5 .In (.int t) (.ref q) H = some false := by rw [A87, L5 hq, decide_eq_false h]
theorem Pb (D : DefsN P) {r q j : Nat} {E : List (Nat × Nat)} {S : List Nat} (hn : n + 1 ≤ 7) (hT : TL H r E) (hl : E.length ≤ 16) (hok : okT (n + 1) E) (hq : H[q]? = some (.list (S.map As))) (hS : (C8 E.length n E)[j]? = some S) :
    (Al strF P sc (m + 5) 31 [.int (n + 1 : Nat), .ref r, .ref q] H).sat (Yx H j) := by
  refine bC fun hno => ?_
  have hm := List.mem_of_getElem? hS
  obtain ⟨v, H1, e1, t, rfl, ht, hp1⟩ := Res.sat_ex (Hp (strF := strF) (sc := sc) (m := m + 2) D.h0 D.h2 D.h25 hn hT hok (.list q _ rfl hq fun x hx => by obtain ⟨y, _, rfl⟩ := List.mem_map.mp hx; rfl))
  have ht' : t = true := ht.mpr ⟨q, S, rfl, hq, G4 _ hm, K5 rfl hok hm⟩
  subst ht'
  have hT1 : TL H1 r E := Ab hp1 hT
  refine hno ?_
  refine B0 D.h31 rfl (Gn (Ar (A5 (A6 rfl) (A5 (A6 rfl) A9)) (Qi (m := m + 2) D.toDefsT hn hT hl hok))
    (B3 (Cj (Em (A5 (A6 rfl) (A5 (A6 rfl) (A5 (A6 rfl) A9))) e1))
    (Ae Ac (Ae (Ap (A5 (A6 rfl) A9) (Tt hT1 (by rw [List.length_map]; exact Nat.le_trans hl (by decide))))
    (Dw (Eh (Ap (A5 (A6 rfl) A9) (Dr (Ab (Ag _ _) hT1))) (Ev (by exact Nat.le_trans hl (by decide)))) (Zj (NoI H r q E.length j S)
      ⟨n, j, 0, _, [], S, E, _, rfl, hp1.trans (Ag _ _), Ah _ _, hn, hok, rfl, hS, (N9 S).symm, fun x hx => (by cases hx), Nat.zero_add j⟩ ?_ ?_))))))
  · rintro t ρ H2 ht ⟨n, j', acc, rl, F, S', L, x5, rfl, hp, hT2, hn, hok, hl2, hS', hS, hF, ha⟩
    cases L with
    | nil => rw [List.length_nil] at hl2; (first | lia | omega)
    | cons e L =>
    have hq2 := Ab hp hq
    have hmem := A8r (t := t) (S' := S') hF
    rw [← hS] at hmem
    cases Tz (k := L.length) rfl hok hS' with
    | inn hne' n' hn' hj T hT' hh =>
      refine bC fun hno => ?_
      subst hn'
      obtain ⟨v, H4, e4, r4, rfl, hT5, hp4, hg4⟩ := Res.sat_ex (J8 (strF := strF) (sc := sc) (m := m + 2) (n := n' + 1) (i := 0) (e := e) D.h14 D.h16 D.h17 hT2 (by (first | lia | omega)) rfl)
      refine hno ?_
      refine Cg (Au (A6 rfl) (A6 rfl) (inT hq2 (hmem.mpr (by rw [hT']; exact List.mem_cons_self)))) (Im (Ar (A5 (A6 rfl) (A5 (A6 rfl) (A5 Ac A9))) e4) rfl
        (Be (Be ⟨n', j', acc, r4, F ++ [t], T, _, _, rfl, hp.trans hp4, hT5, by exact Nat.le_of_lt hn, F8 hne' hok, ?_, ?_, ?_, ?_, ha⟩)))
      · rw [Bu, List.eraseIdx_cons_zero]; rw [List.length_cons] at hl2; exact (Nat.add_right_comm _ _ _).symm.trans hl2
      · rw [Bu, List.eraseIdx_cons_zero]; exact hh
      · rw [hS, hT', Qc, List.append_assoc]; rfl
      · intro x hx
        rcases List.mem_append.mp hx with hx | hx
        · have := hF x hx; exact Nat.lt_succ_of_lt this
        · simp at hx; exact Nat.lt_succ_of_le (Nat.le_of_eq hx)
    | out c hc hj T hT' hh =>
      refine bC fun hno => ?_
      have hll : L.length < 100 := by rw [List.length_cons] at hl2; exact Ab3 hl hl2
      obtain ⟨v, H3, e3, rfl, hp3⟩ := Res.sat_ex (Pw (strF := strF) (sc := sc) (m := m) D hn hT2 hll hok)
      have e5 : Bc .Add (.int acc) (.int (Lh n (e :: L))) H3 = .ok (.int (acc + c : Nat)) H3 := by rw [De, hc]; rfl
      refine hno ?_
      refine Um (Au (A6 rfl) (A6 rfl) (inF hq2 fun h => ?_)) (Ae (Ak (A6 rfl) (Ar (A5 (A6 rfl) (A5 (A6 rfl) A9)) e3) e5) (Ae (E6 (A6 rfl) (Gp Ac) Gi (Ab hp3 hT2) (M1 (r := 0) (i := 1) (by rw [List.length_cons]; exact A9m hll) (by rw [List.length_cons]; exact Nat.succ_pos _)))
        (Be (Be ⟨n, j' - c, acc + c, H3.length, F, T, L, _, rfl, (hp.trans hp3).trans (Ag _ _), Ah _ _, hn, Db hok, ?_, hh, ?_, fun x hx => Nat.lt_succ_of_lt (hF x hx), by exact Ac8 ha hj⟩))))
      · have := hmem.mp h
        rw [hT'] at this
        exact A4u this
      · rw [List.length_cons] at hl2; exact (Nat.add_right_comm _ _ _).symm.trans hl2
      · rw [hS, hT', Nk]
  · rintro ρ H2 ⟨n, j', acc, rl, F, S', L, x5, rfl, hp, hT2, hn, hok, hl2, hS', hS, hF, ha⟩
    have hL : L = [] := List.length_eq_zero_iff.mp (by exact Abb hl2)
    subst hL
    have hj : j' = 0 := by
      cases n with
      | zero =>
        rw [Dg] at hS'
        have := (List.getElem?_eq_some_iff.mp hS').1
        simpa using this
      | succ n => rw [List.length_nil, Hr] at hS'; simp at hS'
    exact Bd (A6 rfl) ⟨by rw [← ha, hj]; rfl, hp⟩
end
end Mine
namespace Mine
open PySem
noncomputable def SR.xat (r : SR) (N : A8 → A0 → Prop) (c : Nat) (X : A0 → Prop) : Prop := match r with
  | .next ρ H => N ρ H
  | .exc d H => d = c ∧ X H
  | _ => False
section
variable {strF : Bi} {cf : Nat → List AV → A0 → Res AV} {sc : List Int} {b : Nat} {ρ : A8} {H H1 H2 H3 H4 : A0} {x y z : PE} {es : PEs} {v w u : AV} {vs : List AV} {r t : Bool} {ss tt ee : PSs} {N : A8 → A0 → Prop} {c k : Nat} {X : A0 → Prop} {R : AV → A0 → Prop}
theorem Wq {m : Str} (h : X H) : (Ai strF cf sc b (.cons (.raise c m) ss) ρ H).xat N c X := ⟨rfl, h⟩
theorem A32 {s : PS} (h : (Et strF cf sc b s ρ H).xat (fun ρ H => (Ai strF cf sc b ss ρ H).xat N c X) c X) : (Ai strF cf sc b (.cons s ss) ρ H).xat N c X := by
  show (match Et strF cf sc b s ρ H with | .next ρ H => Ai strF cf sc b ss ρ H | r => r).xat N c X
  cases e : Et strF cf sc b s ρ H with
  | next ρ1 H1 => rw [e] at h; exact h
  | ret v H1 => rw [e] at h; exact h.elim
  | exc d H1 => rw [e] at h; exact h
  | bad => rw [e] at h; exact h.elim
theorem A2l (h : Bo strF cf sc b x ρ H = .ok true H1) (q : (Ai strF cf sc b tt ρ H1).xat (fun ρ H => (Ai strF cf sc b ss ρ H).xat N c X) c X) : (Ai strF cf sc b (.cons (.ite x tt ee) ss) ρ H).xat N c X := by
  refine A32 ?_
  show (match Bo strF cf sc b x ρ H with | .ok true H => Ai strF cf sc b tt ρ H | .ok false H => Ai strF cf sc b ee ρ H | _ => .bad).xat _ c X
  rw [h]; exact q
theorem A4g (h : Aa strF cf sc b x ρ H = .ok v H1) (q : (Ai strF cf sc b ss ρ H1).xat N c X) : (Ai strF cf sc b (.cons (.expr x) ss) ρ H).xat N c X := by
  refine A32 ?_
  show (match Aa strF cf sc b x ρ H with | .ok _ H => SR.next ρ H | .exc c H => Rv (Kd x) c H | .bad => .bad).xat _ c X
  rw [h]; exact q
theorem A1m {P : Nat → Option FnI} {n k np nv : Nat} {body : PSs} {args : List AV} (hk : P k = some ⟨np, nv, body⟩) (hl : args.length = np) (h : (Ai strF (Al strF P sc n) sc H.length body (args.map some ++ List.replicate (nv - np) none) H).xat (fun _ _ => False) c X) :
    ∃ H', Al strF P sc (n + 1) k args H = .exc c H' ∧ X H' := by
  rw [Al, hk]
  simp only [hl, if_true]
  cases e : Ai strF (Al strF P sc n) sc H.length body (args.map some ++ List.replicate (nv - np) none) H with
  | next ρ1 H1 => rw [e] at h; exact h.elim
  | ret v H1 => rw [e] at h; exact h.elim
  | exc d H1 => rw [e] at h; obtain ⟨rfl, q⟩ := h; exact ⟨H1, rfl, q⟩
  | bad => rw [e] at h; exact h.elim
theorem Tv {f : PE} (h0 : Aa strF cf sc b f ρ H = .ok (.fn k) H1) (h1 : Bj strF cf sc b es ρ H1 = .ok vs H2) (h2 : cf k vs H2 = .exc c H3) : Aa strF cf sc b (.callv f es) ρ H = .exc c H3 := by
  show (Aa strF cf sc b f ρ H).get _ = _
  rw [h0]; show (Bj strF cf sc b es ρ H1).get _ = _
  rw [h1]; exact h2
theorem Uc (h : Aa strF cf sc b x ρ H = .exc c H1) : Aa strF cf sc b (.list (.cons x .nil)) ρ H = .exc c H1 := by
  show ((Aa strF cf sc b x ρ H).thn _).thn _ = _
  rw [h]; rfl
theorem A53 {r : Nat} {xs : List AV} {bs : List Bool} (h1 : Aa strF cf sc b x ρ H = .ok (.ref r) H1) (hL : isL (.ref r) H1 = true) (h2 : Aa strF cf sc b y ρ H1 = .ok (.bool t) H2) (h3 : H2[r]? = some (.list xs)) (h4 : Bg xs = some bs) :
    Aa strF cf sc b (.count x y) ρ H = .ok (.int (bs.countP (· == t) : Nat)) H2 := by
  show (Aa strF cf sc b x ρ H).get _ = _
  rw [h1]
  show (if isL (.ref r) H1 then (Aa strF cf sc b y ρ H1).get _ else .bad) = _
  rw [hL, if_pos rfl, h2]
  show (match H2[r]? with | some (.list xs) => (match Bg xs with | some bs => Res.ok (AV.int (bs.countP (· == t) : Nat)) H2 | none => .bad) | _ => .bad) = _
  rw [h3]; show (match Bg xs with | some bs => Res.ok (AV.int (bs.countP (· == t) : Nat)) H2 | none => .bad) = _
  rw [h4]
theorem A2q {r j : Nat} {xs : List AV} {bs : List Bool} (h1 : Aa strF cf sc b x ρ H = .ok (.ref r) H1) (hL : isL (.ref r) H1 = true) (h2 : Aa strF cf sc b y ρ H1 = .ok (.bool t) H2) (h3 : H2[r]? = some (.list xs)) (h4 : Bg xs = some bs) (h5 : bs.findIdx? (· == t) = some j) :
    Aa strF cf sc b (.index x y) ρ H = .ok (.int j) H2 := by
  show (Aa strF cf sc b x ρ H).get _ = _
  rw [h1]
  show (if isL (.ref r) H1 then (Aa strF cf sc b y ρ H1).get _ else .bad) = _
  rw [hL, if_pos rfl, h2]
  show (match H2[r]? with | some (.list xs) => (match Bg xs with | some bs => (match bs.findIdx? (· == t) with | some k => Res.ok (AV.int k) H2 | none => .bad) | none => .bad) | _ => .bad) = _
  rw [h3]; show (match Bg xs with | some bs => (match bs.findIdx? (· == t) with | some k => Res.ok (AV.int k) H2 | none => .bad) | none => .bad) = _
  rw [h4]; show (match bs.findIdx? (· == t) with | some k => Res.ok (AV.int k) H2 | none => .bad) = _
  rw [h5]
theorem Sq {i : Option Nat} (h : Aa strF cf sc b x ρ H = .ok v H1) (q : R v H1) : (Ai strF cf sc b (.cons (.tryRet x c i tt) ss) ρ H).sat N R := by
  show (match Et strF cf sc b (.tryRet x c i tt) ρ H with | .next ρ H => Ai strF cf sc b ss ρ H | r => r).sat N R
  have e : Et strF cf sc b (.tryRet x c i tt) ρ H = .ret v H1 := by
    show (match Aa strF cf sc b x ρ H with | .ok v H => SR.ret v H | .exc d H => _ | .bad => .bad) = _
    rw [h]
  rw [e]; exact q
theorem A25 {j d : Nat} (h : Aa strF cf sc b x ρ H = .exc d H1) (hr : Kd x = true) (hm : d = c ∨ c = 0) (q : (Ai strF cf sc b tt (ρ.set j (some (.exc d))) H1).sat (fun _ _ => False) R) : (Ai strF cf sc b (.cons (.tryRet x c (some j) tt) ss) ρ H).sat N R := by
  show (match Et strF cf sc b (.tryRet x c (some j) tt) ρ H with | .next ρ H => Ai strF cf sc b ss ρ H | r => r).sat N R
  have e : Et strF cf sc b (.tryRet x c (some j) tt) ρ H = Gm (Ai strF cf sc b tt (ρ.set j (some (.exc d))) H1) := by
    show (match Aa strF cf sc b x ρ H with | .ok v H => SR.ret v H | .exc d H => (if Kd x = true ∧ (d = c ∨ c = 0) then Gm (Ai strF cf sc b tt (ρ.set j (some (.exc d))) H) else .bad) | .bad => .bad) = _
    rw [h]; exact if_pos ⟨hr, hm⟩
  rw [e]
  cases e1 : Ai strF cf sc b tt (ρ.set j (some (.exc d))) H1 with
  | ret v H2 => rw [e1] at q; exact q
  | next ρ2 H2 => rw [e1] at q; exact q.elim
  | exc _ _ => rw [e1] at q; exact q.elim
  | bad => rw [e1] at q; exact q.elim
end
end Mine
namespace Mine
open PySem
noncomputable def A6u : FnI := ⟨1, 2, .cons (.assign 1 (.list (.cons (.prim (.isExc 4) (.cons (.var 0) .nil)) (.cons (.prim (.isExc 5) (.cons (.var 0) .nil)) (.cons (.prim (.isExc 6) (.cons (.var 0) .nil)) (.cons (.prim (.isExc 1) (.cons (.var 0) .nil)) .nil)))))) (.cons (.assign 1 (.bin .Add (.var 1) (.list (.cons (.prim (.isExc 2) (.cons (.var 0) .nil)) (.cons (.prim (.isExc 3) (.cons (.var 0) .nil)) .nil))))) (.cons (.ite (.or (.cons (.cmp .NotEq (.count (.var 1) (.bool true)) (.int 1)) (.cons (.not (.prim .isValueError (.cons (.var 0) .nil))) .nil))) (.cons (.ret (.neg (.int 1))) .nil) .nil) (.cons (.ret (.index (.var 1) (.bool true))) .nil)))⟩
section
variable {strF : Bi} {sc : List Int} {P : Nat → Option FnI} {H : A0} {n : Nat} {cf : Nat → List AV → A0 → Res AV} {b : Nat} {ρ : A8}
theorem Ij {i c d : Nat} (h : ρ[i]? = some (some (.exc d))) : Aa strF cf sc b (.prim (.isExc c) (.cons (.var i) .nil)) ρ H = .ok (.bool (decide (d = c) || decide (c = 0))) H := Ap (A5 (A6 h) A9) rfl
theorem A8l {i d : Nat} (h : ρ[i]? = some (some (.exc d))) : Bo strF cf sc b (.prim .isValueError (.cons (.var i) .nil)) ρ H = .ok true H := Fi (A5 (A6 h) A9) rfl
noncomputable def Qy (l : List Nat) (d : Nat) : List Bool := l.map fun c => decide (d = c) || decide (c = 0)
theorem A39 (H : A0) (o : Br) : (H ++ [o])[H.length]? = some o := by simp
theorem Sp {a0 a1 a2 a3 a4 a5 d j : Nat} (hc : ((Qy [a0, a1, a2, a3, a4, a5] d).countP (· == true) : Nat) = 1) (hj : (Qy [a0, a1, a2, a3, a4, a5] d).findIdx? (· == true) = some j) :
    (Ai strF cf sc b (.cons (.assign 1 (.list (.cons (.prim (.isExc a0) (.cons (.var 0) .nil)) (.cons (.prim (.isExc a1) (.cons (.var 0) .nil)) (.cons (.prim (.isExc a2) (.cons (.var 0) .nil)) (.cons (.prim (.isExc a3) (.cons (.var 0) .nil)) .nil)))))) (.cons (.assign 1 (.bin .Add (.var 1) (.list (.cons (.prim (.isExc a4) (.cons (.var 0) .nil)) (.cons (.prim (.isExc a5) (.cons (.var 0) .nil)) .nil))))) (.cons (.ite (.or (.cons (.cmp .NotEq (.count (.var 1) (.bool true)) (.int 1)) (.cons (.not (.prim .isValueError (.cons (.var 0) .nil))) .nil))) (.cons (.ret (.neg (.int 1))) .nil) .nil) (.cons (.ret (.index (.var 1) (.bool true))) .nil)))) [some (.exc d), none] H).sat (fun _ _ => False) (fun v H' => v = .int j ∧ H <+: H') := by
  let f : Nat → AV := fun c => .bool (decide (d = c) || decide (c = 0))
  have e3 : Bc .Add (.ref H.length) (.ref (H ++ [Br.list [f a0, f a1, f a2, f a3]]).length) ((H ++ [Br.list [f a0, f a1, f a2, f a3]]) ++ [Br.list [f a4, f a5]]) = .ok (.ref ((H ++ [Br.list [f a0, f a1, f a2, f a3]]) ++ [Br.list [f a4, f a5]]).length) (((H ++ [Br.list [f a0, f a1, f a2, f a3]]) ++ [Br.list [f a4, f a5]]) ++ [Br.list [f a0, f a1, f a2, f a3, f a4, f a5]]) := by
    rw [Re]
    have g1 : ((H ++ [Br.list [f a0, f a1, f a2, f a3]]) ++ [Br.list [f a4, f a5]])[H.length]? = some (.list [f a0, f a1, f a2, f a3]) := by rw [List.getElem?_append_left (by simp)]; exact A39 H _
    have g2 : ((H ++ [Br.list [f a0, f a1, f a2, f a3]]) ++ [Br.list [f a4, f a5]])[(H ++ [Br.list [f a0, f a1, f a2, f a3]]).length]? = some (.list [f a4, f a5]) := A39 _ _
    rw [g1, g2]
    exact if_pos (by show 6 ≤ lim; decide)
  have al : ∀ {xs : List AV} {H : A0}, xs.length ≤ 4 → Aw xs H = .ok (.ref H.length) (H ++ [.list xs]) := fun h => if_pos (Nat.le_trans h (by decide))
  refine Ae (Bb (A5 (Ij rfl) (A5 (Ij rfl) (A5 (Ij rfl) (A5 (Ij rfl) A9)))) (al (by simp))) ?_
  refine Ae (Ak (A6 rfl) (Bb (A5 (Ij rfl) (A5 (Ij rfl) A9)) (al (by simp))) e3) ?_
  have hb : Bg [f a0, f a1, f a2, f a3, f a4, f a5] = some (Qy [a0, a1, a2, a3, a4, a5] d) := rfl
  have hL : isL (.ref ((H ++ [Br.list [f a0, f a1, f a2, f a3]]) ++ [Br.list [f a4, f a5]]).length) (((H ++ [Br.list [f a0, f a1, f a2, f a3]]) ++ [Br.list [f a4, f a5]]) ++ [Br.list [f a0, f a1, f a2, f a3, f a4, f a5]]) = true := by
    show (match (((H ++ [Br.list [f a0, f a1, f a2, f a3]]) ++ [Br.list [f a4, f a5]]) ++ [Br.list [f a0, f a1, f a2, f a3, f a4, f a5]])[((H ++ [Br.list [f a0, f a1, f a2, f a3]]) ++ [Br.list [f a4, f a5]]).length]? with | some (.list _) => true | _ => false) = true
    rw [A39]
  refine B3 (Kz (Az (Au (A53 (A6 rfl) hL Gh (A39 _ _) hb) Ac ?_) (Az (Cj (A8l rfl)) Ec))) ?_
  · show some (!(((Qy [a0, a1, a2, a3, a4, a5] d).countP (· == true) : Nat) : Int) == (1 : Int)) = some false
    rw [hc]; rfl
  · exact Bd (A2q (A6 rfl) hL Gh (A39 _ _) hb hj) ⟨rfl, ((List.prefix_append ..).trans (List.prefix_append ..)).trans (List.prefix_append ..)⟩
end
end Mine
namespace Mine
open PySem
inductive Fo : List (Nat × Nat) → Prop
  | nil : Fo []
  | cons {e : Nat × Nat} {F : List (Nat × Nat)} (hne : e.1 ≠ e.2) (h : Fo (ctr e F)) : Fo (e :: F)
theorem Vz : ∀ (k : Nat) {F : List (Nat × Nat)} {e : Nat × Nat}, F.length = k → Fo F → ¬ B7 F e.1 e.2 → Fo (F ++ [e])
  | 0, [], e, _, _, hc => .cons (fun q => hc (by rw [q]; exact .refl _)) .nil
  | k + 1, [], e, hk, _, _ => by cases hk
  | 0, f :: F, e, hk, _, _ => by cases hk
  | k + 1, f :: F, e, hk, hF, hc => by
    cases hF with
    | cons hne h =>
      refine .cons hne ?_
      have e1 : ctr f (F ++ [e]) = ctr f F ++ [Eu (min f.1 f.2) (max f.1 f.2) e] := by unfold ctr; rw [List.map_append]; rfl
      show Fo (ctr f (F ++ [e]))
      rw [e1]
      refine Vz k (by rw [Bu]; simpa using hk) h fun c => hc ?_
      exact Le.mp (B7.unjoin (by exact A91 hne) c e.1 e.2 rfl rfl)
noncomputable def A8i (n : Nat) (E : List (Nat × Nat)) (S : List Nat) : Bool := @decide (Dj (n + 1) (Bn E S)) (Classical.propDecidable _)
theorem Na {n : Nat} {E : List (Nat × Nat)} {S : List Nat} : A8i n E S = true ↔ Dj (n + 1) (Bn E S) := A4s
end Mine
namespace Mine
open PySem
end Mine
namespace Mine
open PySem
end Mine
namespace Mine
open PySem
end Mine
namespace Mine
open PySem
section
variable {strF : Bi} {sc : List Int} {P : Nat → Option FnI} {H H0 H1 H2 H3 : A0} {n m b : Nat} {ρ : A8} {cf : Nat → List AV → A0 → Res AV} {N : A8 → A0 → Prop} {R : AV → A0 → Prop} {K K' : AV → A0 → Prop} {x y : PE} {es : PEs} {ss : PSs} {v w : AV} {vs : List AV}
theorem Q1 {r : Nat} {xs : List AV} (h : H[r]? = some (.list xs)) : Fj H (.ref r) = some xs := by
  show (H[r]?).bind A1s = _
  rw [h]; rfl
theorem Abz {i j : Int} (h1 : -1000 ≤ j) (h2 : j ≤ 1000) : Bc .Mult (.int i) (.int j) H = .ok (.int (i * j)) H := by
  rw [Sx, if_pos]
  unfold E0
  rw [K0 h1 h2, Bool.or_true]; rfl
theorem Ok : ∀ (l : List Int), Bh (l.map .int) = some l
  | [] => rfl
  | p :: l => by
    show (Bh (l.map .int)).map (p :: ·) = _
    rw [Ok l]; rfl
theorem Yp {r : Nat} {l : List Int} {i : Int} (h : H[r]? = some (.list (l.map .int))) : My (.int i) (.ref r) H = some (decide (i ∈ l)) := by
  show (match H[r]? with | some (.list xs) => (Bh xs).map fun is => decide (i ∈ is) | _ => none) = _
  rw [h]
  show (Bh (l.map .int)).map _ = _
  rw [Ok]; rfl
noncomputable def rk (c : Int) (i : Nat) : Int × Int := (((i : Int) * (c.fmod 97 + 1)).fmod 97 * 17 + (i : Int), (i : Int))
end
end Mine
namespace Mine
open PySem
noncomputable def A08 : FnI := ⟨1, 3, .cons (.assign 1 (.list .nil)) (.cons (.for1 2 (.of (.var 0)) (.cons (.expr (.append (.var 1) (.idx (.list (.cons (.bool false) (.cons (.bool true) (.cons (.var 2) .nil)))) (.prim .min2 (.cons (.var 2) (.cons (.int 2) .nil)))))) .nil)) (.cons (.ret (.var 1)) .nil))⟩
theorem A5f {xs : List AV} {lo hi : Option Int} {x : AV} (h : x ∈ cut xs lo hi) : x ∈ xs := List.mem_of_mem_take (List.mem_of_mem_drop h)
theorem A6m {xs : List AV} {lo hi : Option Int} : (cut xs lo hi).length ≤ xs.length := by
  unfold cut
  rw [List.length_drop, List.length_take]; exact Us (Nat.min_le_right _ _)
section
variable {strF : Bi} {sc : List Int} {P : Nat → Option FnI} {H H0 H1 H2 H3 : A0} {n m b : Nat} {ρ : A8} {cf : Nat → List AV → A0 → Res AV} {N : A8 → A0 → Prop} {R : AV → A0 → Prop} {K K' : AV → A0 → Prop} {x y : PE} {es : PEs} {ss : PSs} {v w : AV} {vs : List AV} {p : A0 → AV → Prop} {k k' : Nat}
theorem A64 {c d : Int} {n k : Nat} (hd : d = (n : Int)) (e : c.fmod n = k) (h : 0 < n) : Bc .Mod (.int c) (.int d) H = .ok (.int k) H := by subst hd; exact Lu e h
theorem Ly {α : Type} {r : Res α} {a : α} {H : A0} {K : α → A0 → Prop} (e : r = .ok a H) (h : K a H) : r.sat K := by rw [e]; exact h
theorem A9v : Bc .Pow (.int 10) (.int 18) H = .ok (.int (10 ^ 18)) H := by
  rw [A6z, if_pos ⟨by decide, by decide, K0 (by decide) (by decide)⟩]; rfl
end
end Mine
namespace Mine
open PySem
section
variable {strF : Bi} {sc : List Int} {P : Nat → Option FnI} {H H0 H1 H2 H3 : A0} {n m b : Nat} {ρ : A8} {cf : Nat → List AV → A0 → Res AV} {N : A8 → A0 → Prop} {R : AV → A0 → Prop} {K K' : AV → A0 → Prop} {x y : PE} {es : PEs} {ss : PSs} {v w : AV} {vs : List AV}
theorem A2w (h9 : P 9 = some A47) (hv : Fk v = true) : Al strF P sc (m + 1) 9 [v] H = .ok (.bool (Cn v).isSome) H := by
  cases v with
  | int i => exact Fp (B0 h9 rfl (Bd (F0 (D0 (Ap (A5 (A6 rfl) A9) (D3 rfl)) (J0 (Rj (Ap (A5 (A6 rfl) A9) (Dk rfl)))))) ⟨rfl, rfl⟩))
  | bool c => exact Fp (B0 h9 rfl (Bd (F0 (D0 (Ap (A5 (A6 rfl) A9) (D3 rfl)) (J0 (A3h (Ap (A5 (A6 rfl) A9) (Dk rfl)))))) ⟨rfl, rfl⟩))
  | scr => cases hv
  | fn k => cases hv
  | exc c => cases hv
  | _ => exact Fp (B0 h9 rfl (Bd (F0 (M6 (Ap (A5 (A6 rfl) A9) (D3 rfl)))) ⟨rfl, rfl⟩))
noncomputable def tw (l : Nat) (v : AV) : Bool := match Cn v with
  | some i => decide (0 ≤ i) && decide (i < l)
  | none => false
theorem Aak {r : Nat} {E : List (Nat × Nat)} (h9 : P 9 = some A47) (hT : TL H r E) (hr : ρ[1]? = some (some (.ref r))) (hv : Fk v = true) :
    Aa strF (Al strF P sc (m + 1)) sc b (.and (.cons (.call 9 (.cons (.var 0) .nil)) (.cons (.cmp2 .LtE .Lt (.int 0) (.var 0) (.prim .len (.cons (.var 2) .nil))) .nil))) (some v :: ρ) H = .ok (.bool (tw E.length v)) H := by
  have hw := A2w (strF := strF) (sc := sc) (m := m) (H := H) h9 hv
  by_cases hi : ∃ i, v = .int i
  · obtain ⟨i, rfl⟩ := hi
    by_cases h0 : 0 ≤ i
    · refine F0 (D0 (Ar (A5 (A6 rfl) A9) hw) (J0 ((Vw Ac (A6 rfl) (leT h0) (Ap (A5 (A6 (i := 2) (ρ := some (.int i) :: ρ) hr) A9) (Dr hT)) A2b).trans ?_)))
      show _ = Res.ok (AV.bool (decide (0 ≤ i) && decide (i < (E.length : Int)))) H
      rw [decide_eq_true h0]; rfl
    · refine F0 (D0 (Ar (A5 (A6 rfl) A9) hw) (J0 ((Y7 Ac (A6 rfl) (leF h0)).trans ?_)))
      show _ = Res.ok (AV.bool (decide (0 ≤ i) && decide (i < (E.length : Int)))) H
      rw [decide_eq_false h0]; rfl
  · have h2 : Cn v = none := by
      cases v with
      | int i => exact absurd ⟨i, rfl⟩ hi
      | _ => rfl
    rw [h2] at hw
    refine (F0 (M6 (Ar (A5 (A6 rfl) A9) hw))).trans ?_
    unfold tw; rw [h2]
theorem L8 {α : Type} {f : α → Bool} : ∀ (l : List α), Bg (l.map fun x => AV.bool (f x)) = some (l.map f)
  | [] => rfl
  | x :: l => by
    show (Bg (l.map fun x => AV.bool (f x))).map (f x :: ·) = _
    rw [L8 l]; rfl
theorem all_map {α : Type} {r : Nat} {f : α → Bool} {l : List α} (h : H[r]? = some (.list (l.map fun x => AV.bool (f x)))) : prim strF sc .all [.ref r] H = .ok (.bool (l.all f)) H := by
  rw [A0g, h]
  show (match Bg (l.map fun x => AV.bool (f x)) with | some bs => Res.ok (AV.bool (bs.all id)) H | none => .bad) = _
  rw [L8]
  show Res.ok (AV.bool ((l.map f).all id)) H = _
  rw [List.all_map]; rfl
theorem A4x {l : Nat} {S : List Nat} (h : ∀ i ∈ S, i < l) : (S.map As).all (tw l) = true := List.all_eq_true.mpr fun x hx => by
  obtain ⟨i, hi, rfl⟩ := List.mem_map.mp hx
  show (decide ((0 : Int) ≤ (i : Int)) && decide ((i : Int) < (l : Int))) = true
  have := h i hi
  rw [decide_eq_true (by exact oNN _), decide_eq_true (by exact Ky this)]; rfl
theorem A5c {f : AV → AV} {ws : List (Nat × List AV)} {step : AV → A0 → Res (Option AV)} {xs : List AV} (hw : ∀ w ∈ ws, H[w.1]? = some (.list w.2)) (h : ∀ a ∈ xs, step a H = .ok (some (f a)) H) : Bp ws step xs H = .ok (xs.map f) H := by
  have := Kf (g := fun x => x) (f := f) hw xs h
  rwa [List.map_id'] at this
theorem A7e {r : Nat} {xs : List AV} (h : H[r]? = some (.list xs)) (hl : xs.length ≤ 1000) : prim strF sc .list [.ref r] H = .ok (.ref H.length) (H ++ [.list xs]) := by
  rw [Mg, Lj, h]; exact Aq hl
end
end Mine
namespace Mine
open PySem
section
variable {n : Nat} {E : List (Nat × Nat)} {A B S T : List Nat} {x y c f g : Nat}
noncomputable abbrev ed (E : List (Nat × Nat)) (i : Nat) : Nat × Nat := E.getD i (0, 0)
theorem U8 {e : Nat × Nat} (h : e ∈ Bn E S) : ∃ i ∈ S, e = ed E i := let ⟨i, hi, e⟩ := List.mem_map.mp h; ⟨i, hi, e.symm⟩
theorem Mj (h : f ∈ S) : B7 (Bn E S) (ed E f).1 (ed E f).2 := B7.tie (List.mem_map_of_mem h)
theorem N3 (h : ∀ i ∈ S, i ∈ T) (c : B7 (Bn E S) x y) : B7 (Bn E T) x y := c.mono fun e he => by
  obtain ⟨i, hi, rfl⟩ := U8 he; exact Mj (h i hi)
noncomputable abbrev Uz (A : List Nat) (f : Nat) : List Nat := A.filter fun i => decide (i ≠ f)
theorem N6 {i : Nat} : i ∈ Uz A f ↔ i ∈ A ∧ i ≠ f := by rw [List.mem_filter, decide_eq_true_iff]
theorem Rx : ∀ {A : List Nat}, A.Nodup → f ∈ A → (Uz A f).length + 1 = A.length
  | [], _, h => by cases h
  | a :: A, nd, h => by
    obtain ⟨h1, h2⟩ := List.nodup_cons.mp nd
    by_cases e : a = f
    · subst e
      have : Uz (a :: A) a = A := by
        show List.filter _ (a :: A) = A
        rw [List.filter_cons_of_neg (by simp)]
        exact List.filter_eq_self.mpr fun i hi => decide_eq_true fun q => h1 (q ▸ hi)
      rw [this]; rfl
    · have hm : f ∈ A := (List.mem_cons.mp h).resolve_left (Ne.symm e)
      have : Uz (a :: A) f = a :: Uz A f := List.filter_cons_of_pos (decide_eq_true e)
      rw [this, List.length_cons, List.length_cons, Rx h2 hm]
structure A4w (n : Nat) (E : List (Nat × Nat)) (A : List Nat) : Prop where
  nd : A.Nodup
  lt : ∀ i ∈ A, i < E.length
  len : A.length = n
  all : Dj (n + 1) (Bn E A)
theorem A4w.need (h : A4w n E A) (hok : okT (n + 1) E) (hf : f ∈ A) (c : B7 (Bn E (Uz A f)) (ed E f).1 (ed E f).2) : False := by
  have all : Dj (n + 1) (Bn E (Uz A f)) := fun p q hp hq => (h.all p q hp hq).mono fun e he => by
    obtain ⟨i, hi, rfl⟩ := U8 he
    by_cases q : i = f
    · rw [q]; exact c
    · exact Mj (N6.mpr ⟨hi, q⟩)
  have hl := Hs _ rfl (Ei hok fun i hi => h.lt i (N6.mp hi).1) all
  have := Rx h.nd hf
  have := h.len
  unfold Bn at hl
  rw [List.length_map] at hl
  exact Nat.ne_of_gt (Nat.lt_succ_of_le hl) (Eq.trans (by assumption) this)
theorem A2u : ∀ (k : Nat) {n : Nat} {F : List (Nat × Nat)}, F.length = k → okT (n + 1) F → Fo F → k ≤ n
  | 0, _, _, _, _, _ => Nat.zero_le _
  | k + 1, n, [], hk, _, _ => by cases hk
  | k + 1, 0, e :: F, hk, hok, hF => by
    cases hF with
    | cons hne h =>
      have he := hok e List.mem_cons_self
      exact absurd (show e.1 = e.2 by exact (Nat.lt_one_iff.mp he.1).trans (Nat.lt_one_iff.mp he.2).symm) hne
  | k + 1, n + 1, e :: F, hk, hok, hF => by
    cases hF with
    | cons hne h =>
      have := A2u k (by rw [Bu]; simpa using hk) (F8 hne hok) h
      exact Nat.lt_succ_of_le this
end
end Mine
namespace Mine
open PySem
structure Hg (n : Nat) (E : List (Nat × Nat)) (A : List Nat) : Prop where
  r : Ris E.length n A
  c : Dj (n + 1) (Bn E A)
theorem A2x {A : List Nat} (h : A.Pairwise (· < ·)) : A.Nodup := h.imp fun h => Nat.ne_of_lt h
section
variable {strF : Bi} {sc : List Int} {P : Nat → Option FnI} {H H0 H1 H2 H3 : A0} {n m b : Nat} {ρ : A8} {cf : Nat → List AV → A0 → Res AV} {N : A8 → A0 → Prop} {R : AV → A0 → Prop} {K K' : AV → A0 → Prop} {x y : PE} {es : PEs} {ss : PSs} {v w : AV} {vs : List AV} {A B : List Nat} {E : List (Nat × Nat)}
theorem A1o {i : Nat} {e : Nat × Nat} (h : E[i]? = some e) : ed E i = e := by unfold ed; rw [List.getD_eq_getElem?_getD, h]; rfl
theorem Yz {S : List Nat} (hok : okT (n + 1) E) (hb : ∀ x ∈ S, x < E.length) (fo : Fo (Bn E S)) (nd : S.Nodup) (cl : ∀ i, i < E.length → B7 (Bn E S) (ed E i).1 (ed E i).2) (all : Dj (n + 1) E) : A4w n E S := by
  have ac : Dj (n + 1) (Bn E S) := fun p q hp hq => (all p q hp hq).mono fun e he => by
    obtain ⟨i, hi⟩ := List.mem_iff_getElem?.mp he
    rw [← A1o hi]
    exact cl i (List.getElem?_eq_some_iff.mp hi).1
  have h1 := Hs _ rfl (Ei hok hb) ac
  have h2 := A2u _ rfl (Ei hok hb) fo
  unfold Bn at h1 h2
  rw [List.length_map] at h1 h2
  exact ⟨nd, hb, by exact Nat.le_antisymm h2 h1, ac⟩
end
end Mine
namespace Mine
open PySem
end Mine
namespace Mine
open PySem
section
variable {strF : Bi} {sc : List Int} {P : Nat → Option FnI} {H H0 H1 H2 H3 : A0} {n m b : Nat} {ρ : A8} {cf : Nat → List AV → A0 → Res AV} {N : A8 → A0 → Prop} {R : AV → A0 → Prop} {K K' : AV → A0 → Prop} {x y : PE} {es : PEs} {ss : PSs} {v w : AV} {vs : List AV} {A B C : List Nat} {E : List (Nat × Nat)} {r qa qb : Nat}
theorem Ask.mono {H H' : A0} {v : AV} (hw : Ask H v) (p : H <+: H') : Ask H' v := by
  cases hw with
  | other h h' =>
    cases v with
    | ref q =>
      rw [Kx] at h
      cases hq : H[q]? with
      | none => rw [hq] at h; cases h
      | some o =>
        cases o with
        | list xs => exact absurd hq (h' q xs rfl)
        | dict =>
          refine .other (by rw [Kx, Ab p hq]) fun q' xs e => ?_
          cases e
          rw [Ab p hq]; intro e; cases e
    | _ => first | exact .other h fun q xs e => (by cases e) | cases h
  | list q xs hv hq hx => exact .list q xs hv (Ab p hq) hx
theorem Ask.back {H H' : A0} {v : AV} {n : Nat} {E : List (Nat × Nat)} (hw : Ask H v) (p : H <+: H') (h : IsH H' n E v) : IsH H n E v := by
  obtain ⟨q, S, hv', hq', hr', hc'⟩ := h
  subst hv'
  refine ⟨q, S, rfl, ?_, hr', hc'⟩
  cases hw with
  | other h h' =>
    rw [Kx] at h
    cases hq : H[q]? with
    | none => rw [hq] at h; cases h
    | some o => rw [Ab p hq] at hq'; rw [hq']
  | list q2 xs hv hq hx => cases hv; rw [Ab p hq] at hq'; rw [hq, hq']
end
end Mine
namespace Mine
open PySem
section
variable {strF : Bi} {sc : List Int} {P : Nat → Option FnI} {H H0 H1 H2 H3 : A0} {n m b : Nat} {ρ : A8} {cf : Nat → List AV → A0 → Res AV} {N : A8 → A0 → Prop} {R : AV → A0 → Prop} {K K' : AV → A0 → Prop} {x y : PE} {es : PEs} {ss : PSs} {v w : AV} {vs : List AV} {A B C : List Nat} {E : List (Nat × Nat)} {r qa qb : Nat}
theorem Up (pw : A.Pairwise (· < ·)) : (B9 (Ch (A.map fun (p : Nat) => (p : Int)))).map AV.int = A.map As := by
  obtain ⟨h1, h2⟩ := J3 (Nb (A.map fun (p : Nat) => (p : Int)))
  have e := Hn h1 (List.pairwise_map.mpr (pw.imp fun h => by exact Ky h)) fun x => (h2 x).trans (Il (l := A.map fun (p : Nat) => (p : Int)))
  rw [e, List.map_map]; rfl
theorem Yd {q : Nat} (hq : H[q]? = some (.list (A.map As))) (pw : A.Pairwise (· < ·)) (hl : A.length < 64) : prim strF sc .sortedSet [.ref q] H = .ok (.ref H.length) (H ++ [.list (A.map As)]) := by
  show (match H[q]? with
      | some (.list xs) => if xs.length < 64 then (match Bh xs with
          | some is => Aw ((B9 (Ch is)).map .int) H
          | none => .bad) else .bad
      | _ => .bad) = _
  rw [hq]
  show (if (A.map As).length < 64 then _ else _) = _
  rw [if_pos (by rw [List.length_map]; exact hl), Co]
  show Aw ((B9 (Ch (A.map fun (p : Nat) => (p : Int)))).map .int) H = _
  rw [Up pw]
  exact Aq (by rw [List.length_map]; exact oR3 hl)
end
end Mine
namespace Mine
open PySem
structure Wr (H : A0) (n : Nat) (E : List (Nat × Nat)) (v : AV) : Prop where
  ask : Ask H v
  no : ¬ IsH H n E v
inductive WrR (H : A0) (n : Nat) (E : List (Nat × Nat)) (v : AV) (H' : A0) : Prop
  | mk (h : Wr H' n E v) (hp : H <+: H') : WrR H n E v H'
theorem Wr.mono {H H' : A0} {v : AV} {n : Nat} {E : List (Nat × Nat)} (h : Wr H n E v) (p : H <+: H') : Wr H' n E v := ⟨h.ask.mono p, fun i => h.no (h.ask.back p i)⟩
theorem Ih {H : A0} {n q : Nat} {E : List (Nat × Nat)} {xs : List AV} (hq : H[q]? = some (.list xs)) (hx : ∀ x ∈ xs, Fk x = true) (hno : ∀ S : List Nat, xs = S.map As → Ris E.length n S → Dj (n + 1) (Bn E S) → False) : Wr H n E (.ref q) :=
  ⟨.list q xs rfl hq hx, fun ⟨q', S, hv', hq', hr', hc'⟩ => by
    cases hv'
    rw [hq] at hq'
    injection hq' with hq'
    injection hq' with hq'
    exact hno S hq' hr' hc'⟩
theorem Dt {H : A0} {n : Nat} {E : List (Nat × Nat)} {v : AV} (h : Ez v H = some false) (hn : ∀ q, v ≠ .ref q) : Wr H n E v :=
  ⟨.other h fun q xs e => absurd e (hn q), fun ⟨q', S, hv', hq', hr', hc'⟩ => hn q' hv'⟩
theorem Ji {A : List Nat} : ∀ x ∈ A.map As, Fk x = true := fun x hx => by obtain ⟨i, _, rfl⟩ := List.mem_map.mp hx; rfl
section
variable {strF : Bi} {sc : List Int} {P : Nat → Option FnI} {H H0 H1 H2 H3 : A0} {n m b : Nat} {ρ : A8} {cf : Nat → List AV → A0 → Res AV} {N : A8 → A0 → Prop} {R : AV → A0 → Prop} {K K' : AV → A0 → Prop} {x y : PE} {es : PEs} {ss : PSs} {v w : AV} {vs : List AV} {A B C : List Nat} {E : List (Nat × Nat)} {r qa qb : Nat}
theorem Ks {p q : Nat} {xs ys : List AV} (h1 : H[p]? = some (.list xs)) (h2 : H[q]? = some (.list ys)) (hl : xs.length + ys.length ≤ 1000) : Bc .Add (.ref p) (.ref q) H = .ok (.ref H.length) (H ++ [.list (xs ++ ys)]) := by
  rw [Re, h1, h2]
  exact Aq (by rw [List.length_append]; exact hl)
theorem U9 {S : List Nat} {i : Int} (h : AV.int i ∈ S.map As) : ∃ j ∈ S, i = (j : Int) := by
  obtain ⟨j, hj, e⟩ := List.mem_map.mp h
  have e : AV.int (j : Int) = AV.int i := e
  injection e with e
  exact ⟨j, hj, e.symm⟩
section
variable (hT : TL H r E) (hl : E.length ≤ 16) (ho : H[qa]? = some (.list (A.map As))) (hal : A.length ≤ 7) {iv jv : Nat} (g2 : ρ[jv]? = some (some (.ref r))) (g5 : ρ[iv]? = some (some (.ref qa)))
include hT hl ho hal g2 g5
theorem A8c : (Aa strF cf sc b (.bin .Add (.var iv) (.list (.cons (.prim .len (.cons (.var jv) .nil)) .nil))) ρ H).sat (WrR H n E) := by
  have p1 := Ag H [.list [AV.int E.length]]
  refine Ly (Ak (A6 g5) (Bb (A5 (Ap (A5 (A6 g2) A9) (Dr hT)) A9) (Aq (Nat.le_of_ble_eq_true rfl))) (Ks (Ab p1 ho) (Ah _ _) (by rw [List.length_map]; show A.length + 1 ≤ 1000; exact oR4 hal))) ⟨Ih (Ah _ _) (fun x hx => ?_) fun S e hr hc => ?_, p1.trans (Ag _ _)⟩
  · rcases List.mem_append.mp hx with hx | hx
    · exact Ji x hx
    · rw [List.mem_singleton.mp hx]; rfl
  · obtain ⟨j, hj, e'⟩ := U9 (S := S) (i := (E.length : Int)) (by rw [← e]; simp)
    have := hr.lt j hj
    exact Nat.ne_of_gt this (A5p e')
theorem A7t : (Aa strF cf sc b (.bin .Add (.slice (.var iv) .none (.some (.neg (.int 1)))) (.list (.cons (.neg (.int 1)) .nil))) ρ H).sat (WrR H n E) := by
  have hcl : (cut (A.map As) none (some (-1))).length ≤ 7 := Nat.le_trans A6m (by rw [List.length_map]; exact hal)
  have p1 := Ag H [.list (cut (A.map As) none (some (-1)))]
  have p2 := Ag (H ++ [.list (cut (A.map As) none (some (-1)))]) [.list [AV.int (-1)]]
  refine Ly (Ak (E6 (A6 g5) Gi (Gp (Sw Ac)) ho (Aq (by exact Nat.le_trans hcl (by decide)))) (Bb (A5 (Sw Ac) A9) (Aq (Nat.le_of_ble_eq_true rfl))) (Ks (Ab p2 (Ah _ _)) (Ah _ _) (by show _ + 1 ≤ 1000; exact oR4 hcl))) ⟨Ih (Ah _ _) (fun x hx => ?_) fun S e hr hc => ?_, (p1.trans p2).trans (Ag _ _)⟩
  · rcases List.mem_append.mp hx with hx | hx
    · exact Ji x (A5f hx)
    · rw [List.mem_singleton.mp hx]; rfl
  · obtain ⟨j, hj, e'⟩ := U9 (S := S) (i := -1) (by rw [← e]; exact List.mem_append_right _ (List.mem_singleton.mpr rfl))
    (first | lia | omega)
end
noncomputable def tv : Nat → AV
  | 0 => .bool false
  | 1 => .bool true
  | i + 2 => As (i + 2)
theorem A3x {i : Nat} : Fk (tv i) = true := match i with
  | 0 => rfl
  | 1 => rfl
  | _ + 2 => rfl
inductive Ab6 (H0 : A0) (r : Nat) (F : List Nat) (k : Nat) (ρ : A8) (H : A0) : Prop
  | mk (x2 : Option AV) (hρ : ρ = [some (.ref r), some (.ref H0.length), x2]) (hr : H[H0.length]? = some (.list ((F.take k).map tv))) (hp : H0 <+: H) : Ab6 H0 r F k ρ H
inductive A9l (H0 : A0) (F : List Nat) (v : AV) (H : A0) : Prop
  | mk (q : Nat) (hv : v = .ref q) (hq : H[q]? = some (.list (F.map tv))) (hp : H0 <+: H) : A9l H0 F v H
theorem A0u (h56 : P 56 = some A08) {F : List Nat} (hr : H[r]? = some (.list (F.map As))) (hl : F.length ≤ 100) : (Al strF P sc (m + 1) 56 [.ref r] H).sat (A9l H F) := by
  refine B0 h56 rfl (Ae (Bb A9 (Aq (Nat.le_of_ble_eq_true rfl))) (Dw (G3 (A6 rfl) (Ab (Ag _ _) hr)) (Ea (Ab6 H r F) ⟨_, rfl, Ah _ _, Ag _ _⟩ ?_ ?_)))
  · rintro j v ρ H1 hv ⟨x2, rfl, hr1, hp1⟩
    rw [List.getElem?_map] at hv
    obtain ⟨i, hi, rfl⟩ := Option.map_eq_some_iff.mp hv
    have hj : j < F.length := (List.getElem?_eq_some_iff.mp hi).1
    have pt := Ag H1 [Br.list [.bool false, .bool true, As i]]
    have hu : [AV.bool false, .bool true, As i][min i 2]? = some (tv i) := by
      match i with
      | 0 => rfl
      | 1 => rfl
      | i + 2 => rw [show min (i + 2) 2 = 2 by exact Ac3]; rfl
    have emin : prim strF sc .min2 [As i, .int 2] (H1 ++ [Br.list [.bool false, .bool true, As i]]) = .ok (.int (min i 2 : Nat)) (H1 ++ [Br.list [.bool false, .bool true, As i]]) := by
      rw [show prim strF sc .min2 [As i, .int 2] (H1 ++ [Br.list [.bool false, .bool true, As i]]) = .ok (.int (min (i : Int) 2)) (H1 ++ [Br.list [.bool false, .bool true, As i]]) from rfl]
      congr 2; exact A8v _ _
    have hr2 := Ab pt hr1
    have hlen : ((F.take j).map tv).length = j := by rw [List.length_map, List.length_take]; (first | lia | omega)
    have ea : Cp H.length (.ref H.length) (tv i) (H1 ++ [Br.list [.bool false, .bool true, As i]]) = .ok .none ((H1 ++ [Br.list [.bool false, .bool true, As i]]).set H.length (.list ((F.take j).map tv ++ [tv i]))) := by
      unfold Cp
      simp only [hr2]
      rw [if_pos ⟨Nat.le_refl _, Nat.lt_of_lt_of_le (show ((F.take j).map tv).length < 1000 by exact Nat.lt_of_le_of_lt (Nat.le_of_eq hlen) (Nat.lt_of_lt_of_le hj (Nat.le_trans hl (by decide)))) (by decide)⟩]
    refine Gn (Fz (A6 rfl) (Ku hr1) (At (Bb (A5 Gh (A5 Gh (A5 (A6 rfl) A9))) (Aq (Nat.le_of_ble_eq_true rfl))) (Ap (A5 (A6 rfl) (A5 Ac A9)) emin) (Bk (Ah _ _) hu)) ea)
      (Be ⟨⟨_, rfl, ?_, C2 (hp1.trans pt) (Nat.le_refl _)⟩, Ab (C2 (hp1.trans pt) (Nat.le_refl _)) hr⟩)
    rw [F6 ⟨_, hr2⟩, List.take_add_one, hi, List.map_append]; rfl
  · rintro ρ H1 ⟨x2, rfl, hr1, hp1⟩
    rw [List.length_map, List.take_length] at hr1
    exact Bd (A6 rfl) ⟨_, rfl, hr1, hp1⟩
theorem Z8 {F : List Nat} {a q : Nat} (ha : a < 2) (hF : F[0]? = some a) (hq : H[q]? = some (.list (F.map tv))) : Wr H n E (.ref q) := by
  refine Ih hq (fun x hx => by obtain ⟨i, _, rfl⟩ := List.mem_map.mp hx; exact A3x) fun S e _ _ => ?_
  have e0 : (F.map tv)[0]? = some (tv a) := by rw [List.getElem?_map, hF]; rfl
  rw [e, List.getElem?_map] at e0
  obtain ⟨i, _, e1⟩ := Option.map_eq_some_iff.mp e0
  match a, ha with
  | 0, _ => cases e1
  | 1, _ => cases e1
end
end Mine
namespace Mine
open PySem
noncomputable def Gu (F : List Nat) : PyData := .list (F.map fun (p : Nat) => PyData.int p)
theorem Zb {H : A0} {d : Nat} {qs : List Nat} {Ss : List (List Nat)} (f : Fa H qs Ss) : (qs.map AV.ref).mapM (rd H (d + 1)) = some (Ss.map Gu) := by
  induction f with
  | nil => rfl
  | cons h _ ih => rw [List.map_cons, List.mapM_cons, R9 h, ih]; rfl
theorem Nl {H : A0} {r d : Nat} {qs : List Nat} {Ss : List (List Nat)} (hr : H[r]? = some (.list (qs.map .ref))) (f : Fa H qs Ss) : rd H (d + 2) (.ref r) = some (.list (Ss.map Gu)) := by
  show (match H[r]? with
      | some (.list xs) => (xs.mapM (rd H (d + 1))).map PyData.list
      | _ => none) = _
  rw [hr]
  show ((qs.map AV.ref).mapM (rd H (d + 1))).map PyData.list = _
  rw [Zb f]; rfl
theorem Hm : ∀ (Ss : List (List Nat)), PyData.eqvAll (Ss.map Gu) (Ss.map Gu) = true
  | [] => rfl
  | S :: Ss => by
    have h : PyData.eqv (Gu S) (Gu S) = true := by
      show PyData.eqvAll (S.map fun (p : Nat) => PyData.int p) (S.map fun (p : Nat) => PyData.int p) = true
      rw [Hu]; exact decide_eq_true rfl
    show (PyData.eqv (Gu S) (Gu S) && PyData.eqvAll (Ss.map Gu) (Ss.map Gu)) = true
    rw [h, Hm Ss]; rfl
theorem Qx {H : A0} {r q : Nat} {qs ps : List Nat} {Ss : List (List Nat)} (hr : H[r]? = some (.list (qs.map .ref))) (h : Fa H qs Ss) (hq : H[q]? = some (.list (ps.map .ref))) (h' : Fa H ps Ss) : Gv (.ref r) (.ref q) H = some true := by
  unfold Gv
  rw [Nl (d := 6) hr h, Nl (d := 6) hq h']
  show some (PyData.eqvAll (Ss.map Gu) (Ss.map Gu)) = _
  rw [Hm]
section
variable {strF : Bi} {sc : List Int} {P : Nat → Option FnI} {H H0 H1 H2 H3 : A0} {n m b : Nat} {ρ : A8} {cf : Nat → List AV → A0 → Res AV} {N : A8 → A0 → Prop} {R : AV → A0 → Prop} {K K' : AV → A0 → Prop} {x y : PE} {es : PEs} {ss tt : PSs} {v w : AV} {vs : List AV} {A B C : List Nat} {E : List (Nat × Nat)} {r rh qo qp : Nat}
theorem A1t {J : A8 → A0 → Prop} (h : (Ai strF cf sc b (.cons (.ite x tt .nil) .nil) ρ H).sat J fun _ _ => False) (k : ∀ ρ' H', J ρ' H' → (Ai strF cf sc b ss ρ' H').sat N R) : (Ai strF cf sc b (.cons (.ite x tt .nil) ss) ρ H).sat N R := by
  rw [Bt] at h ⊢
  exact SR.sat_mono h (fun ρ' H' q => k ρ' H' q) fun _ _ q => q.elim
end
end Mine
namespace Mine
open PySem
noncomputable def ltN (A B : List Nat) : Bool := ltL (A.map fun (p : Nat) => (p : Int)) (B.map fun (p : Nat) => (p : Int))
theorem Ef {a c : Nat} {A B : List Nat} : ltN (a :: A) (c :: B) = if a = c then ltN A B else decide (a < c) := by
  show (if (a : Int) = (c : Int) then ltL _ _ else decide ((a : Int) < (c : Int))) = _
  by_cases h : a = c
  · rw [if_pos h, if_pos (by exact A40 h)]; rfl
  · rw [if_neg h, if_neg (by exact A45 h)]
    exact decide_eq_decide.mpr (by exact Int.ofNat_lt)
theorem Uv : ∀ (A B : List Nat), ltN (up A) (up B) = ltN A B
  | [], [] => rfl
  | [], _ :: _ => rfl
  | _ :: _, [] => rfl
  | a :: A, c :: B => by
    show ltN ((a + 1) :: up A) ((c + 1) :: up B) = _
    rw [Ef, Ef, Uv A B]
    by_cases h : a = c
    · rw [if_pos h, if_pos (by exact A1x h)]
    · rw [if_neg h, if_neg (by exact Abt h)]
      exact decide_eq_decide.mpr (by (first | lia | omega))
theorem Sz : ∀ {A B : List Nat}, ltN A B = true → ltN B A = true → False
  | [], [], h, _ => by cases h
  | [], _ :: _, _, h => by cases h
  | _ :: _, [], h, _ => by cases h
  | a :: A, c :: B, h, k => by
    rw [Ef] at h k
    by_cases e : a = c
    · rw [if_pos e] at h; rw [if_pos e.symm] at k
      exact Sz h k
    · rw [if_neg e] at h; rw [if_neg (Ne.symm e)] at k
      have := of_decide_eq_true h
      have := of_decide_eq_true k
      exact Nat.lt_irrefl _ (Dz (by assumption) this)
theorem Fc : ∀ (m k : Nat), (Dl m k).Pairwise fun A B => ltN A B = true
  | m, 0 => by rw [F7]; exact List.pairwise_singleton _ _
  | 0, k + 1 => by rw [Jl]; exact .nil
  | m + 1, k + 1 => by
    rw [F1]
    refine List.pairwise_append.mpr ⟨List.pairwise_map.mpr ((Fc m k).imp fun {A B} h => ?_), List.pairwise_map.mpr ((Fc m (k + 1)).imp fun {A B} h => by rw [Uv]; exact h), fun A hA B hB => ?_⟩
    · show ltN (0 :: up A) (0 :: up B) = true
      rw [Ef, if_pos rfl, Uv]; exact h
    · obtain ⟨A', _, rfl⟩ := List.mem_map.mp hA
      obtain ⟨B', hB', rfl⟩ := List.mem_map.mp hB
      have hl := (G9 hB').len
      cases B' with
      | nil => cases hl
      | cons c B' =>
        show ltN (0 :: up A') ((c + 1) :: up B') = true
        rw [Ef, if_neg (by exact Nat.ne_of_lt (Nat.succ_pos _))]
        exact decide_eq_true (by exact Nat.succ_pos _)
theorem Jg : ∀ (m : Nat) {k : Nat} {S : List Nat}, Ris m k S → S ∈ Dl m k
  | m, 0, S, h => by
    rw [F7, List.length_eq_zero_iff.mp h.len]; exact List.mem_singleton.mpr rfl
  | 0, k + 1, S, h => by
    cases S with
    | nil => cases h.len
    | cons a S => exact absurd (h.lt a List.mem_cons_self) (Nat.not_lt_zero _)
  | m + 1, k + 1, [], h => by cases h.len
  | m + 1, k + 1, a :: S, h => by
    rw [F1]
    obtain ⟨h1, h2⟩ := List.pairwise_cons.mp h.pw
    have back : ∀ {T : List Nat}, (∀ i ∈ T, 0 < i) → up (T.map (· - 1)) = T := fun {T} q => by
      unfold up
      rw [List.map_map]
      conv => rhs; rw [← List.map_id T]
      exact List.map_congr_left fun i hi => by have := q i hi; show i - 1 + 1 = i; exact Nat.sub_add_cancel this
    have pos : ∀ i ∈ S, 0 < i := fun i hi => by have := h1 i hi; exact W9 this
    by_cases h0 : a = 0
    · subst h0
      refine List.mem_append_left _ (List.mem_map.mpr ⟨S.map (· - 1), Jg m ⟨by rw [List.length_map]; simpa using h.len, fun i hi => ?_, List.pairwise_map.mpr (h2.imp_of_mem fun {x y} hx hy q => by have := pos x hx; have := pos y hy; exact Nat.sub_lt_sub_right (by assumption) q)⟩, ?_⟩)
      · obtain ⟨j, hj, rfl⟩ := List.mem_map.mp hi
        have := h.lt j (List.mem_cons_of_mem _ hj)
        have := pos j hj
        exact Aac (by assumption) this
      · show 0 :: up (S.map (· - 1)) = _
        rw [back pos]
    · have pos' : ∀ i ∈ a :: S, 0 < i := fun i hi => by
        rcases List.mem_cons.mp hi with rfl | hi
        · exact Nat.pos_of_ne_zero h0
        · exact pos i hi
      refine List.mem_append_right _ (List.mem_map.mpr ⟨(a :: S).map (· - 1), Jg m ⟨by rw [List.length_map]; exact h.len, fun i hi => ?_, List.pairwise_map.mpr (h.pw.imp_of_mem fun {x y} hx hy q => by have := pos' x hx; have := pos' y hy; exact Nat.sub_lt_sub_right (by assumption) q)⟩, back pos'⟩)
      obtain ⟨j, hj, rfl⟩ := List.mem_map.mp hi
      have := h.lt j hj
      have := pos' j hj
      exact Aac (by assumption) this
section
variable {n : Nat} {E : List (Nat × Nat)} {S T : List Nat}
theorem Ld (hok : okT (n + 1) E) : (C8 E.length n E).Pairwise fun A B => ltN A B = true := by
  rw [← Dp (g := A8i n E) E.length rfl hok fun S hS => Na]
  exact (Fc _ _).sublist List.filter_sublist
theorem Rs (hok : okT (n + 1) E) (h : Ris E.length n S) (c : Dj (n + 1) (Bn E S)) : S ∈ C8 E.length n E := by
  rw [← Dp (g := A8i n E) E.length rfl hok fun S hS => Na]
  exact List.mem_filter.mpr ⟨Jg _ h, Na.mpr c⟩
inductive A3q (S T : List Nat) : Prop
  | same (h : S = T) : A3q S T
  | diff (P S' T' : List Nat) (s t : Nat) (hS : S = P ++ s :: S') (hT : T = P ++ t :: T') (hne : s ≠ t) : A3q S T
theorem A2k : ∀ {S T : List Nat}, S.length = T.length → A3q S T
  | [], [], _ => .same rfl
  | [], _ :: _, h => by cases h
  | _ :: _, [], h => by cases h
  | s :: S, t :: T, h => by
    by_cases e : s = t
    · subst e
      cases A2k (S := S) (T := T) (by simpa using h) with
      | same h => exact .same (by rw [h])
      | diff P S' T' a c hS hT hne => exact .diff (s :: P) S' T' a c (by rw [hS]; rfl) (by rw [hT]; rfl) hne
    · exact .diff [] S T s t rfl rfl e
theorem A4c {P S' T' : List Nat} {s t : Nat} (h : s < t) : ltN (P ++ s :: S') (P ++ t :: T') = true := by
  induction P with
  | nil => show ltN (s :: S') (t :: T') = true; rw [Ef, if_neg (by exact Nat.ne_of_lt h)]; exact decide_eq_true h
  | cons p P ih => show ltN (p :: (P ++ s :: S')) (p :: (P ++ t :: T')) = true; rw [Ef, if_pos rfl]; exact ih
theorem Vl (hok : okT (n + 1) E) (hS : Ris E.length n S) (hT : Ris E.length n T) (cT : Dj (n + 1) (Bn E T)) (rej : ∀ t, t < E.length → t ∉ S → B7 (Bn E (S.filter fun i => decide (i < t))) (ed E t).1 (ed E t).2) : S = T ∨ ltN S T = true := by
  cases A2k (S := S) (T := T) (hS.len.trans hT.len.symm) with
  | same h => exact .inl h
  | diff P S' T' s t eS eT hne =>
    by_cases h : s < t
    · right; rw [eS, eT]; exact A4c h
    · exfalso
      have hts : t < s := by exact No (oGt h) hne
      have htT : t ∈ T := by rw [eT]; simp
      have pT := hT.pw
      rw [eT] at pT
      have pS := hS.pw
      rw [eS] at pS
      obtain ⟨_, pt2, pt3⟩ := List.pairwise_append.mp pT
      obtain ⟨_, ps2, ps3⟩ := List.pairwise_append.mp pS
      have hSge : ∀ i ∈ s :: S', s ≤ i := fun i hi => by
        rcases List.mem_cons.mp hi with rfl | hi
        · exact Nat.le_refl _
        · exact Nat.le_of_lt ((List.pairwise_cons.mp ps2).1 i hi)
      have htS : t ∉ S := fun q => by
        rw [eS] at q
        rcases List.mem_append.mp q with q | q
        · have := pt3 t q t List.mem_cons_self; exact Nat.lt_irrefl _ this
        · have := hSge t q; exact Rc this hts
      refine A4w.need ⟨hT.pw.imp fun h => Nat.ne_of_lt h, hT.lt, hT.len, cT⟩ hok htT (N3 (fun i hi => ?_) (rej t (hT.lt t htT) htS))
      obtain ⟨h1, h2⟩ := List.mem_filter.mp hi
      have h2 := of_decide_eq_true h2
      rw [eS] at h1
      rcases List.mem_append.mp h1 with q | q
      · refine N6.mpr ⟨by rw [eT]; exact List.mem_append_left _ q, by exact Nat.ne_of_lt h2⟩
      · have := hSge i q; (first | lia | omega)
theorem Vh (hok : okT (n + 1) E) (hS : Ris E.length n S) (cS : Dj (n + 1) (Bn E S)) (rej : ∀ t, t < E.length → t ∉ S → B7 (Bn E (S.filter fun i => decide (i < t))) (ed E t).1 (ed E t).2) : (C8 E.length n E)[0]? = some S := by
  have hm := Rs hok hS cS
  have hs := Ld (E := E) (n := n) hok
  cases hh : C8 E.length n E with
  | nil => rw [hh] at hm; cases hm
  | cons T l =>
    have hTm : T ∈ C8 E.length n E := by rw [hh]; exact List.mem_cons_self
    have e : S = T := by
      rcases Vl hok hS (G4 _ hTm) (K5 rfl hok hTm) rej with e | q
      · exact e
      · rw [hh] at hm hs
        rcases List.mem_cons.mp hm with e | hm
        · exact e
        · exact (Sz q ((List.pairwise_cons.mp hs).1 S hm)).elim
    rw [e]; rfl
end
end Mine
namespace Mine
open PySem
noncomputable def A74 : FnI := ⟨4, 5, .cons (.tryRet (.list (.cons (.callv (.idx (.list (.cons (.gfn 30) (.cons (.gfn 31) .nil))) (.var 0)) (.cons (.var 1) (.cons (.var 2) (.cons (.var 3) .nil)))) .nil)) 0 (some 4) (.cons (.ret (.call 62 (.cons (.var 4) .nil))) .nil)) .nil⟩
noncomputable def A3d : FnI := ⟨2, 4, .cons (.assign 2 (.list .nil)) (.cons (.for1 3 (.range1 (.prim .len (.cons (.var 1) .nil))) (.cons (.ite (.cmp .NotIn (.idx (.idx (.var 1) (.var 3)) (.int 1)) (.call 10 (.cons (.var 0) (.cons (.comp1 (.idx (.var 2) (.var 0)) (.of (.var 2)) .none) (.cons (.idx (.idx (.var 1) (.var 3)) (.int 0)) .nil))))) (.cons (.expr (.append (.var 2) (.var 3))) .nil) .nil) .nil)) (.cons (.ret (.var 2)) .nil))⟩
noncomputable def A4e : FnI := ⟨3, 6, .cons (.assign 3 (.call 66 (.cons (.int 0) (.cons (.var 0) (.cons (.var 1) (.cons (.var 2) .nil)))))) (.cons (.ite (.or (.cons (.not (.prim .isList (.cons (.var 3) .nil))) (.cons (.not (.prim .isList (.cons (.idx (.var 3) (.int 0)) .nil))) .nil))) (.cons (.ret .none) .nil) .nil) (.cons (.assign 4 (.idx (.var 3) (.int 0))) (.cons (.ite (.or (.cons (.not (.prim .all (.cons (.comp1 (.and (.cons (.call 9 (.cons (.var 0) .nil)) (.cons (.cmp2 .LtE .Lt (.int 0) (.var 0) (.prim .len (.cons (.var 2) .nil))) .nil))) (.of (.var 4)) .none) .nil))) (.cons (.cmp .NotEq (.var 4) (.sset (.var 4))) .nil))) (.cons (.ret .none) .nil) .nil) (.cons (.ite (.not (.call 54 (.cons (.var 0) (.cons (.var 1) (.cons (.var 4) .nil))))) (.cons (.ret .none) .nil) .nil) (.cons (.assign 5 (.call 66 (.cons (.int 1) (.cons (.var 0) (.cons (.var 1) (.cons (.prim .list (.cons (.var 4) .nil)) .nil)))))) (.cons (.ite (.or (.cons (.not (.prim .isList (.cons (.var 5) .nil))) (.cons (.not (.call 9 (.cons (.idx (.var 5) (.int 0)) .nil))) (.cons (.cmp .NotEq (.idx (.var 5) (.int 0)) (.var 2)) .nil)))) (.cons (.ret .none) .nil) .nil) (.cons (.ret (.var 4)) .nil)))))))⟩
section
variable {strF : Bi} {sc : List Int} {P : Nat → Option FnI} {H H0 H1 H2 H3 : A0} {n m b : Nat} {ρ : A8} {cf : Nat → List AV → A0 → Res AV} {N : A8 → A0 → Prop} {R : AV → A0 → Prop} {K K' : AV → A0 → Prop} {x y : PE} {es : PEs} {ss : PSs} {v w : AV} {vs : List AV} {A B S : List Nat} {E : List (Nat × Nat)} {r : Nat}
inductive A9j (H : A0) (n : Nat) (E : List (Nat × Nat)) (v : AV) (H' : A0) : Prop
  | mk (q : Nat) (S : List Nat) (hv : v = .ref q) (hq : H'[q]? = some (.list (S.map As))) (hp : H <+: H') (h : Dj (n + 1) E → (C8 E.length n E)[0]? = some S) : A9j H n E v H'
inductive Fi9 (H0 : A0) (n r : Nat) (E : List (Nat × Nat)) (k : Nat) (ρ : A8) (H : A0) : Prop
  | mk (S : List Nat) (x3 : Option AV) (hρ : ρ = [some (.int (n + 1 : Nat)), some (.ref r), some (.ref H0.length), x3]) (hS : H[H0.length]? = some (.list (S.map As))) (hp : H0 <+: H) (hb : ∀ x ∈ S, x < k) (hl : S.length ≤ k) (fo : Fo (Bn E S)) (pw : S.Pairwise (· < ·))
    (rej : ∀ t, t < k → t ∉ S → B7 (Bn E (S.filter fun i => decide (i < t))) (ed E t).1 (ed E t).2) (cl : ∀ t, t < k → B7 (Bn E S) (ed E t).1 (ed E t).2) : Fi9 H0 n r E k ρ H
theorem A7u (h10 : P 10 = some Pp) (h67 : P 67 = some A3d) (hn : n + 1 ≤ 7) (hT : TL H r E) (hl : E.length ≤ 16) (hok : okT (n + 1) E) :
    (Al strF P sc (m + 2) 67 [.int (n + 1 : Nat), .ref r] H).sat (A9j H n E) := by
  refine B0 h67 rfl (Ae (Bb A9 (Aq (Nat.le_of_ble_eq_true rfl))) (Dw (Eh (Ap (A5 (A6 rfl) A9) (Dr (Ab (Ag _ _) hT))) (Ev (by exact Nat.le_trans hl (by decide)))) (Zj (Fi9 H n r E) ⟨[], _, rfl, Ah _ _, Ag _ _, fun x hx => (by cases hx), Nat.le_refl _, .nil, .nil, fun t ht => absurd ht (Nat.not_lt_zero _), fun t ht => absurd ht (Nat.not_lt_zero _)⟩ ?_ ?_)))
  · rintro k ρ H4 hi ⟨S, x3, rfl, hS, hp, hb, hSl, fo, pw, rej, cl⟩
    have hbE : ∀ x ∈ S, x < E.length := fun x hx => Nat.lt_trans (hb x hx) hi
    have he := List.getElem?_eq_getElem hi
    generalize E[k] = e at he
    refine bC fun hno => ?_
    have hed := A1o he
    obtain ⟨o1, o2⟩ := hok e (List.mem_of_getElem? he)
    have hT4 : TL H4 r E := Ab hp hT
    obtain ⟨v, H5, e5, r5, F, rfl, hr5, hp5, hge5, ndF, lt, hF⟩ := Res.sat_ex (Oq (strF := strF) (sc := sc) (m := m) (H := H4 ++ [.list ((Bn E S).map C5)]) (s := e.1) h10 hn (Ah _ _) (Ei hok hbE) o1)
    have p5 : H4 <+: H5 := (Ag _ _).trans hp5
    have hin := Yp (i := (e.2 : Int)) hr5
    have hnot := Qj (v := .int e.2) (w := .ref r5) (H := H5)
    rw [hin] at hnot
    have hS5 := Ab p5 hS
    have hmem : (e.2 : Int) ∈ Ch (F.map fun (p : Nat) => (p : Int)) ↔ B7 (Bn E S) e.1 e.2 := by
      rw [Il, So]; exact hF e.2 o2
    have ev : ∀ ρ : A8, ρ[0]? = some (some (.int (n + 1 : Nat))) → ρ[1]? = some (some (.ref r)) → ρ[2]? = some (some (.ref H.length)) → ρ[3]? = some (some (.int k)) → Bo strF (Al strF P sc (m + 1)) sc H.length (.cmp .NotIn (.idx (.idx (.var 1) (.var 3)) (.int 1)) (.call 10 (.cons (.var 0) (.cons (.comp1 (.idx (.var 2) (.var 0)) (.of (.var 2)) .none) (.cons (.idx (.idx (.var 1) (.var 3)) (.int 0)) .nil))))) ρ H4 = .ok (!decide ((e.2 : Int) ∈ Ch (F.map fun (p : Nat) => (p : Int)))) H5 := fun ρ g0 g1 g2 g3 =>
      Au (At (At (A6 g1) (A6 g3) (Es hT4 he)) Ac Ir) (Ar (A5 (A6 g0) (A5 (Ul (i := 1) (j := 2) hT4 hS (by (first | lia | omega)) hbE g1 g2) (A5 (At (At (A6 g1) (A6 g3) (Es (Ab (Ag _ _) hT4) he)) Ac I8) A9))) e5) hnot
    refine hno ?_
    by_cases hd : (e.2 : Int) ∈ Ch (F.map fun (p : Nat) => (p : Int))
    · rw [decide_eq_true hd] at ev
      have hcc : B7 (Bn E S) (ed E k).1 (ed E k).2 := by rw [hed]; exact hmem.mp hd
      refine B3 (ev _ rfl rfl rfl rfl) (Be ⟨S, _, rfl, hS5, hp.trans p5, fun x hx => Nat.lt_succ_of_lt (hb x hx), by exact Nat.le_succ_of_le hSl, fo, pw, fun t ht hts => ?_, fun t ht => ?_⟩)
      · by_cases h : t = k
        · subst h
          refine N3 (fun i hi => List.mem_filter.mpr ⟨hi, decide_eq_true (hb i hi)⟩) hcc
        · exact rej t (by exact Gs ht h) hts
      · by_cases h : t = k
        · rw [h]; exact hcc
        · exact cl t (by exact Gs ht h)
    · rw [decide_eq_false hd] at ev
      have hnc : ¬ B7 (Bn E S) e.1 e.2 := fun q => hd (hmem.mpr q)
      have hpick : Bn E (S ++ [k]) = Bn E S ++ [e] := by unfold Bn; rw [List.map_append, List.map_singleton]; rw [show E.getD k (0, 0) = e from hed]
      refine Cg (ev _ rfl rfl rfl rfl) (Gn (Fz (A6 rfl) (Ku hS5) (A6 rfl) (J7 hS5 (Nat.le_refl _) (Nat.lt_of_lt_of_le (show S.length < 100 by exact A9q hl hi hSl) (by decide)))) (Be (Be ⟨S ++ [k], _, rfl, F6 ⟨_, hS5⟩, C2 (hp.trans p5) (Nat.le_refl _), fun x hx => ?_, by rw [List.length_append, List.length_singleton]; exact Nat.lt_succ_of_le hSl, ?_, ?_, fun t ht hts => ?_, fun t ht => ?_⟩)))
      · rcases List.mem_append.mp hx with hx | hx
        · exact Nat.lt_succ_of_lt (hb x hx)
        · rw [List.mem_singleton.mp hx]; exact Nat.lt_succ_self _
      · rw [hpick]; exact Vz _ rfl fo hnc
      · exact List.pairwise_append.mpr ⟨pw, List.pairwise_singleton _ _, fun a ha c hc => by rw [List.mem_singleton.mp hc]; exact hb a ha⟩
      · have htk : t ≠ k := fun q => hts (by rw [q]; simp)
        have e1 : (S ++ [k]).filter (fun i => decide (i < t)) = S.filter fun i => decide (i < t) := by
          rw [List.filter_append, List.filter_cons_of_neg (by simp; exact Nat.le_of_lt_succ ht), List.filter_nil, List.append_nil]
        rw [e1]
        exact rej t (by exact Gs ht htk) fun q => hts (List.mem_append_left _ q)
      · by_cases h : t = k
        · rw [h]; exact Mj (by simp)
        · exact N3 (fun x hx => List.mem_append_left _ hx) (cl t (by exact Gs ht h))
  · rintro ρ H4 ⟨S, x3, rfl, hS, hp, hb, hSl, fo, pw, rej, cl⟩
    refine Bd (A6 rfl) ⟨_, S, rfl, hS, hp, fun all => ?_⟩
    have sp := Yz hok hb fo (A2x pw) cl all
    exact Vh hok ⟨sp.len, hb, pw⟩ sp.all rej
theorem fn0 (g : ρ[0]? = some (some (.int 0))) : Aa strF cf sc b (.idx (.list (.cons (.gfn 30) (.cons (.gfn 31) .nil))) (.var 0)) ρ H = .ok (.fn 30) (H ++ [.list [.fn 30, .fn 31]]) :=
  At (Bb (A5 Wc (A5 Wc A9)) (Aq (Nat.le_of_ble_eq_true rfl))) (A6 g) (Bk (k := 0) (Ah _ _) rfl)
theorem fn1 (g : ρ[0]? = some (some (.int 1))) : Aa strF cf sc b (.idx (.list (.cons (.gfn 30) (.cons (.gfn 31) .nil))) (.var 0)) ρ H = .ok (.fn 31) (H ++ [.list [.fn 30, .fn 31]]) :=
  At (Bb (A5 Wc (A5 Wc A9)) (Aq (Nat.le_of_ble_eq_true rfl))) (A6 g) (Bk (k := 1) (Ah _ _) rfl)
inductive A7z (H : A0) (p : AV → A0 → Prop) (v : AV) (H' : A0) : Prop
  | mk (q : Nat) (u : AV) (hv : v = .ref q) (hq : H'[q]? = some (.list [u])) (hu : p u H') (hp : H <+: H') : A7z H p v H'
structure Defs66 (P : Nat → Option FnI) : Prop extends DefsN P where
  h62 : P 62 = some A6u
  h66 : P 66 = some A74
section
variable (D : Defs66 P) (hn : n + 1 ≤ 7) (hT : TL H r E) (hl : E.length ≤ 16) (hok : okT (n + 1) E)
include D hn hT hl hok
theorem A7h {j : Nat} (hS : (C8 E.length n E)[j]? = some S) : (Al strF P sc (m + 6) 66 [.int 0, .int (n + 1 : Nat), .ref r, .int j] H).sat (A7z H fun u H' => ∃ q, u = .ref q ∧ H'[q]? = some (.list (S.map As))) := by
  refine bC fun hno => ?_
  have p1 := Ag H [.list [.fn 30, .fn 31]]
  obtain ⟨v, H1, e1, q, rfl, hq, hp1, hg1⟩ := Res.sat_ex (Mk (strF := strF) (sc := sc) (m := m) D.toDefsN hn (Ab p1 hT) hl hok hS)
  refine hno ?_
  exact B0 D.h66 rfl (Sq (Bb (A5 (Xn (fn0 rfl) (A5 (A6 rfl) (A5 (A6 rfl) (A5 (A6 rfl) A9))) e1) A9) (Aq (Nat.le_of_ble_eq_true rfl))) ⟨_, _, rfl, Ah _ _, ⟨q, rfl, Ab (Ag _ _) hq⟩, (p1.trans hp1).trans (Ag _ _)⟩)
theorem Aa2 {j q : Nat} (hq : H[q]? = some (.list (S.map As))) (hS : (C8 E.length n E)[j]? = some S) : (Al strF P sc (m + 6) 66 [.int 1, .int (n + 1 : Nat), .ref r, .ref q] H).sat (A7z H fun u H' => u = .int j) := by
  refine bC fun hno => ?_
  have p1 := Ag H [.list [.fn 30, .fn 31]]
  obtain ⟨v, H1, e1, rfl, hp1⟩ := Res.sat_ex (Pb (strF := strF) (sc := sc) (m := m) D.toDefsN hn (Ab p1 hT) hl hok (Ab p1 hq) hS)
  refine hno ?_
  exact B0 D.h66 rfl (Sq (Bb (A5 (Xn (fn1 rfl) (A5 (A6 rfl) (A5 (A6 rfl) (A5 (A6 rfl) A9))) e1) A9) (Aq (Nat.le_of_ble_eq_true rfl))) ⟨_, _, rfl, Ah _ _, rfl, (p1.trans hp1).trans (Ag _ _)⟩)
theorem P5 (hv : Fk v = true) (hno : ∀ i, v = .int i → ¬ (0 ≤ i ∧ i ≤ tau (n + 1) E - 1)) : ∃ H', Al strF P sc (m + 5) 30 [.int (n + 1 : Nat), .ref r, v] H = .exc 5 H' ∧ H <+: H' := by
  obtain ⟨u, H1, e1, rfl, hp1⟩ := Res.sat_ex (R5 (strF := strF) (sc := sc) (m := m + 1) D.toDefsT hn hT (by exact Nat.le_trans hl (by decide)) hok)
  obtain ⟨t, e2, am⟩ := Ie (strF := strF) (sc := sc) (m := m + 3) (H := H1) (lo := 0) (hi := tau (n + 1) E - 1) D.h0 hv
  have ht : t = false := by
    cases am with
    | yes i hv h1 h2 ht => exact absurd ⟨h1, h2⟩ (hno i hv)
    | no h ht => exact ht
  subst ht
  exact A1m (X := fun H' => H <+: H') (c := 5) (strF := strF) (sc := sc) (n := m + 4) (H := H) (args := [.int (n + 1 : Nat), .ref r, v]) D.h30 rfl
    (A4g (Ar (A5 (A6 rfl) (A5 (A6 rfl) A9)) (Qi (m := m + 2) D.toDefsT hn hT hl hok)) (A2l (Rb (Em (A5 (A6 rfl) (A5 Ac (A5 (Ak (Ar (A5 (A6 rfl) (A5 (A6 rfl) A9)) e1) Ac Df) A9))) e2)) (Wq hp1)))
theorem Qe (hv : Ask H v) (hno : ¬ IsH H n E v) : ∃ H', Al strF P sc (m + 5) 31 [.int (n + 1 : Nat), .ref r, v] H = .exc 4 H' ∧ H <+: H' := by
  obtain ⟨u, H1, e1, t, rfl, ht, hp1⟩ := Res.sat_ex (Hp (strF := strF) (sc := sc) (m := m + 2) D.h0 D.h2 D.h25 hn hT hok hv)
  obtain rfl : t = false := by
    cases t with
    | false => rfl
    | true => exact absurd (ht.mp rfl) hno
  exact A1m (X := fun H' => H <+: H') (c := 4) (strF := strF) (sc := sc) (n := m + 4) (H := H) (args := [.int (n + 1 : Nat), .ref r, v]) D.h31 rfl
    (A4g (Ar (A5 (A6 rfl) (A5 (A6 rfl) A9)) (Qi (m := m + 2) D.toDefsT hn hT hl hok)) (A2l (Rb (Em (A5 (A6 rfl) (A5 (A6 rfl) (A5 (A6 rfl) A9))) e1)) (Wq hp1)))
theorem Q9 (hv : Fk v = true) (hno : ∀ i, v = .int i → ¬ (0 ≤ i ∧ i ≤ tau (n + 1) E - 1)) : (Al strF P sc (m + 6) 66 [.int 0, .int (n + 1 : Nat), .ref r, v] H).sat fun u H' => u = .int 1 ∧ H <+: H' := by
  have p1 := Ag H [.list [.fn 30, .fn 31]]
  obtain ⟨H1, e1, hp1⟩ := P5 (strF := strF) (sc := sc) (m := m) D hn (Ab p1 hT) hl hok hv hno
  have nm : (Al strF P sc (m + 5) 62 [.exc 5] H1).sat fun v H' => v = .int 1 ∧ H1 <+: H' :=
    B0 D.h62 rfl (SR.sat_mono (Sp (strF := strF) (sc := sc) (H := H1) (cf := Al strF P sc (m + 4)) (b := H1.length) (d := 5) (j := 1) rfl rfl) (fun _ _ q => q.elim) fun _ _ q => q)
  obtain ⟨u, H2, e2, rfl, p2⟩ := Res.sat_ex nm
  exact B0 D.h66 rfl (A25 (Uc (Tv (fn0 rfl) (A5 (A6 rfl) (A5 (A6 rfl) (A5 (A6 rfl) A9))) e1)) rfl (.inr rfl) (Bd (Ar (A5 (A6 rfl) A9) e2) ⟨rfl, (p1.trans hp1).trans p2⟩))
theorem L2 (hw : Wr H n E v) : (Al strF P sc (m + 6) 66 [.int 1, .int (n + 1 : Nat), .ref r, v] H).sat fun u H' => u = .int 0 ∧ H <+: H' := by
  refine bC fun hno => ?_
  have p1 := Ag H [.list [.fn 30, .fn 31]]
  have hw1 := hw.mono p1
  obtain ⟨H1, e1, hp1⟩ := Qe (strF := strF) (sc := sc) (m := m) D hn (Ab p1 hT) hl hok hw1.ask hw1.no
  have nm : (Al strF P sc (m + 5) 62 [.exc 4] H1).sat fun v H' => v = .int 0 ∧ H1 <+: H' :=
    B0 D.h62 rfl (SR.sat_mono (Sp (strF := strF) (sc := sc) (H := H1) (cf := Al strF P sc (m + 4)) (b := H1.length) (d := 4) (j := 0) rfl rfl) (fun _ _ q => q.elim) fun _ _ q => q)
  obtain ⟨u, H2, e2, rfl, p2⟩ := Res.sat_ex nm
  refine hno ?_
  exact B0 D.h66 rfl (A25 (Uc (Tv (fn1 rfl) (A5 (A6 rfl) (A5 (A6 rfl) (A5 (A6 rfl) A9))) e1)) rfl (.inr rfl) (Bd (Ar (A5 (A6 rfl) A9) e2) ⟨rfl, (p1.trans hp1).trans p2⟩))
theorem Pr (h9 : P 9 = some A47) (h10 : P 10 = some Pp) (h54 : P 54 = some Xk) (h68 : P 68 = some A4e) {j : Nat} (hS : (C8 E.length n E)[j]? = some S) :
    (Al strF P sc (m + 7) 68 [.int (n + 1 : Nat), .ref r, .int j] H).sat fun v H' => H <+: H' ∧ ∃ q, v = .ref q ∧ H'[q]? = some (.list (S.map As)) := by
  refine bC fun hno => ?_
  have hm := List.mem_of_getElem? hS
  have hr := G4 _ hm
  have hcl := hr.len
  have hc := K5 rfl hok hm
  obtain ⟨v, H1, e1, q1, u1, rfl, hq1, ⟨q, rfl, hq⟩, hp1⟩ := Res.sat_ex (A7h (strF := strF) (sc := sc) (m := m) D hn hT hl hok hS)
  have hT1 : TL H1 r E := Ab hp1 hT
  have it1 := Bk (sc := sc) (k := 0) (x := .ref q) hq1 rfl
  have p2 := Ag H1 [.list ((S.map As).map fun x => AV.bool (tw E.length x))]
  have al : ∀ ρ : A8, ρ[1]? = some (some (.ref r)) → ρ[4]? = some (some (.ref q)) → Bo strF (Al strF P sc (m + 6)) sc H.length (.prim .all (.cons (.comp1 (.and (.cons (.call 9 (.cons (.var 0) .nil)) (.cons (.cmp2 .LtE .Lt (.int 0) (.var 0) (.prim .len (.cons (.var 2) .nil))) .nil))) (.of (.var 4)) .none) .nil)) ρ H1 = .ok true (H1 ++ [.list ((S.map As).map fun x => AV.bool (tw E.length x))]) := fun ρ g1 g4 => by
    have := Fi (strF := strF) (cf := Al strF P sc (m + 6)) (sc := sc) (b := H.length) (ρ := ρ) (H := H1) (p := .all) (A5 (Ia (x := .and (.cons (.call 9 (.cons (.var 0) .nil)) (.cons (.cmp2 .LtE .Lt (.int 0) (.var 0) (.prim .len (.cons (.var 2) .nil))) .nil))) (c := .none) (G3 (A6 g4) hq) (A5c (A3i hq) fun a ha => Ic (Aak (m := m + 5) h9 hT1 g1 (by obtain ⟨i, _, rfl⟩ := List.mem_map.mp ha; rfl))) (Aq (by rw [List.length_map]; show (S.map As).length ≤ 1000; rw [List.length_map]; exact oR0 hn hcl))) A9) (all_map (Ah _ _))
    rwa [A4x hr.lt] at this
  have h2 := Ab p2 hq
  have hT2 : TL _ r E := Ab p2 hT1
  refine hno ?_
  generalize H1 ++ [.list ((S.map As).map fun x => AV.bool (tw E.length x))] = H2 at p2 al h2 hT2
  have p3 := Ag H2 [.list (S.map As)]
  have ess := Yd (strF := strF) (sc := sc) h2 hr.pw (by exact oR2 hn hcl)
  have h3 := Ab p3 h2
  have hT3 : TL _ r E := Ab p3 hT2
  have g3 := Ah H2 (.list (S.map As))
  generalize H2 ++ [.list (S.map As)] = H3 at p3 ess h3 hT3 g3
  refine bC fun hno => ?_
  have hne := Uh (r := q) (v := .ref H2.length) (H := H3)
  rw [Px h3 g3, decide_eq_true rfl] at hne
  obtain ⟨v, H4, e4, t, rfl, ht4, hp4⟩ := Res.sat_ex (U7 (strF := strF) (sc := sc) (m := m + 4) h10 h54 hn hT3 hok h3 hcl hr.lt)
  obtain rfl : t = true := ht4.mpr hc
  have h4 := Ab hp4 h3
  have el := A7e (strF := strF) (sc := sc) h4 (by rw [List.length_map]; exact oR0 hn hcl)
  have p5 := Ag H4 [.list (S.map As)]
  have g5 := Ah H4 (.list (S.map As))
  have h5 := Ab p5 h4
  have hT5 : TL _ r E := Ab (hp4.trans p5) hT3
  refine hno ?_
  generalize H4 ++ [.list (S.map As)] = H5 at p5 g5 h5 hT5 el
  refine bC fun hno => ?_
  obtain ⟨v, H6, e6, q6, u6, rfl, hq6, rfl, hp6⟩ := Res.sat_ex (Aa2 (strF := strF) (sc := sc) (m := m) D hn hT5 hl hok g5 hS)
  have it6 := Bk (sc := sc) (k := 0) (x := .int j) hq6 rfl
  have pall := ((((hp1.trans p2).trans p3).trans hp4).trans p5).trans hp6
  refine hno ?_
  exact B0 h68 rfl (Ae (Ar (A5 Ac (A5 (A6 rfl) (A5 (A6 rfl) (A5 (A6 rfl) A9)))) e1)
    (B3 (Kz (Az (Cj (Fi (A5 (A6 rfl) A9) (D1 (I1 hq1)))) (Az (Cj (Fi (A5 (At (A6 rfl) Ac it1) A9) (D1 (I1 hq)))) Ec)))
    (Ae (At (A6 rfl) Ac it1) (B3 (Kz (Az (Cj (al _ rfl rfl)) (Az (Au (A6 rfl) (A98 (A6 rfl) ess) hne) Ec)))
    (B3 (Cj (Em (A5 (A6 rfl) (A5 (A6 rfl) (A5 (A6 rfl) A9))) e4)) (Ae (Ar (A5 Ac (A5 (A6 rfl) (A5 (A6 rfl) (A5 (Ap (A5 (A6 rfl) A9) el) A9)))) e6)
    (B3 (Kz (Az (Cj (Fi (A5 (A6 rfl) A9) (D1 (I1 hq6)))) (Az (Cj (Em (A5 (At (A6 rfl) Ac it6) A9) (A2w (m := m + 5) h9 rfl))) (Az (Au (At (A6 rfl) Ac it6) (A6 rfl) (neF rfl)) Ec))))
    (Bd (A6 rfl) ⟨pall, q, rfl, Ab (p5.trans hp6) h4⟩))))))))
end
end
end Mine
namespace Mine
open PySem
noncomputable def A0r : FnI := ⟨1, 12, .cons (.assign 1 (.prim .int (.cons (.cmp .Eq (.bin .Mod (.call 6 (.cons (.var 0) (.cons (.int 40) .nil))) (.int 9)) (.int 4)) .nil))) (.cons (.assigns [2, 3] (.call 8 (.cons (.var 0) (.cons (.idx (.list (.cons (.int 5) (.cons (.int 7) .nil))) (.var 1)) (.cons (.idx (.list (.cons (.int 9) (.cons (.int 13) .nil))) (.var 1)) .nil))))) (.cons (.assign 4 (.prim .list (.cons (.var 3) .nil))) (.cons (.assign 5 (.call 24 (.cons (.var 2) (.cons (.var 3) .nil)))) (.cons (.assign 6 (.call 6 (.cons (.var 0) (.cons (.int 3) .nil)))) (.cons (.assign 7 (.idx (.list (.cons (.neg (.int 1)) (.cons (.var 5) (.cons (.bin .Add (.var 5) (.bin .Mult (.bin .FloorDiv (.var 6) (.int 8)) (.bin .Pow (.int 10) (.int 18)))) (.cons (.bool true) (.cons .none (.cons (.str "0") (.cons (.list (.cons (.list (.cons (.int 0) .nil)) .nil)) (.cons (.bool false) .nil))))))))) (.bin .Mod (.var 6) (.int 8)))) (.cons (.ite (.or (.cons (.cmp .NotEq (.call 66 (.cons (.int 0) (.cons (.var 2) (.cons (.var 4) (.cons (.var 7) .nil))))) (.int 1)) (.cons (.cmp .NotEq (.call 66 (.cons (.int 1) (.cons (.var 2) (.cons (.var 4) (.cons (.var 7) .nil))))) (.int 0)) .nil))) (.cons (.ret (.bool false)) .nil) .nil) (.cons (.ite (.cmp .Eq (.var 5) (.int 0)) (.cons (.ret (.and (.cons (.cmp .Eq (.call 66 (.cons (.int 0) (.cons (.var 2) (.cons (.var 4) (.cons (.int 0) .nil))))) (.int 1)) (.cons (.cmp .Eq (.call 66 (.cons (.int 1) (.cons (.var 2) (.cons (.var 4) (.cons (.list .nil) .nil))))) (.int 0)) (.cons (.cmp .Eq (.var 4) (.var 3)) .nil))))) .nil) .nil) (.cons (.assign 8 (.bin .Mod (.bin .Mult (.call 6 (.cons (.var 0) (.cons (.int 30) .nil))) (.int 31)) (.var 5))) (.cons (.assign 9 (.call 68 (.cons (.var 2) (.cons (.var 4) (.cons (.var 8) .nil))))) (.cons (.ite (.or (.cons (.cmp .Is (.var 9) .none) (.cons (.cmp .NotEq (.call 66 (.cons (.int 0) (.cons (.var 2) (.cons (.var 4) (.cons (.int 0) .nil))))) (.list (.cons (.call 67 (.cons (.var 2) (.cons (.var 3) .nil))) .nil))) .nil))) (.cons (.ret (.bool false)) .nil) .nil) (.cons (.ite (.cmp .Lt (.bin .Add (.var 8) (.int 1)) (.var 5)) (.cons (.assign 10 (.call 68 (.cons (.var 2) (.cons (.var 4) (.cons (.bin .Add (.var 8) (.int 1)) .nil))))) (.cons (.ite (.or (.cons (.cmp .Is (.var 10) .none) (.cons (.not (.cmp .Lt (.var 9) (.var 10))) .nil))) (.cons (.ret (.bool false)) .nil) .nil) .nil)) .nil) (.cons (.assign 11 (.idx (.list (.cons (.bin .Add (.var 9) (.list (.cons (.prim .len (.cons (.var 3) .nil)) .nil))) (.cons (.bin .Add (.slice (.var 9) .none (.some (.neg (.int 1)))) (.list (.cons (.neg (.int 1)) .nil))) (.cons (.bin .Add (.rev (.var 9)) (.list (.cons (.int 0) .nil))) (.cons (.prim .tuple (.cons (.var 9) .nil)) .nil))))) (.bin .Mod (.bin .FloorDiv (.var 6) (.int 8)) (.int 4)))) (.cons (.ite (.and (.cons (.cmp .Eq (.bin .Mod (.bin .FloorDiv (.var 6) (.int 32)) (.int 3)) (.int 1)) (.cons (.cmp .NotEq (.var 9) (.list .nil)) (.cons (.cmp .Lt (.idx (.var 9) (.int 0)) (.int 2)) .nil)))) (.cons (.assign 11 (.call 56 (.cons (.var 9) .nil))) .nil) .nil) (.cons (.ret (.and (.cons (.cmp .Eq (.call 66 (.cons (.int 1) (.cons (.var 2) (.cons (.var 4) (.cons (.var 11) .nil))))) (.int 0)) (.cons (.cmp .Eq (.var 4) (.var 3)) .nil)))) .nil))))))))))))))⟩
structure A9w (P : Nat → Option FnI) : Prop extends Defs66 P where
  h5 : P 5 = some P8
  h6 : P 6 = some Qn
  h7 : P 7 = some A60
  h8 : P 8 = some A52
  h9 : P 9 = some A47
  h10 : P 10 = some Pp
  h24 : P 24 = some A0m
  h54 : P 54 = some Xk
  h56 : P 56 = some A08
  h67 : P 67 = some A3d
  h68 : P 68 = some A4e
  h69 : P 69 = some A0r
section
variable {strF : Bi} {sc : List Int} {P : Nat → Option FnI} {H H0 H1 H2 H3 : A0} {n m b : Nat} {ρ : A8} {cf : Nat → List AV → A0 → Res AV} {N : A8 → A0 → Prop} {R : AV → A0 → Prop} {K K' : AV → A0 → Prop} {x y : PE} {es : PEs} {ss : PSs} {v w : AV} {vs : List AV} {A B S T : List Nat} {E : List (Nat × Nat)} {r : Nat}
theorem A5z {p q : Nat} (hp : H[p]? = some (.list (S.map As))) (hq : H[q]? = some (.list (T.map As))) : B5 .Lt (.ref p) (.ref q) H = some (ltN S T) := by
  show A1r (.ref p) (.ref q) H = _
  unfold A1r
  rw [Q1 hp, Q1 hq]
  show ((Bh (S.map As)).bind fun is => (Bh (T.map As)).map fun js => ltL is js) = _
  rw [Co, Co]; rfl
structure Aba (H : A0) (n : Nat) (E : List (Nat × Nat)) (v : AV) : Prop where
  p : Fk v = true
  no : ∀ i, v = .int i → ¬ (0 ≤ i ∧ i ≤ tau (n + 1) E - 1)
  w : Wr H n E v
inductive A7p (H : A0) (n : Nat) (E : List (Nat × Nat)) (v : AV) (H' : A0) : Prop
  | mk (h : Aba H' n E v) (hp : H <+: H') : A7p H n E v H'
theorem Ac1 {c : Int} (hc0 : 0 ≤ c) (hc1 : c < 1000003) (g5 : ρ[5]? = some (some (.int (tau (n + 1) E)))) (g6 : ρ[6]? = some (some (.int c))) :
    (Aa strF cf sc b (.idx (.list (.cons (.neg (.int 1)) (.cons (.var 5) (.cons (.bin .Add (.var 5) (.bin .Mult (.bin .FloorDiv (.var 6) (.int 8)) (.bin .Pow (.int 10) (.int 18)))) (.cons (.bool true) (.cons .none (.cons (.str "0") (.cons (.list (.cons (.list (.cons (.int 0) .nil)) .nil)) (.cons (.bool false) .nil))))))))) (.bin .Mod (.var 6) (.int 8))) ρ H).sat (A7p H n E) := by
  refine bC fun hno => ?_
  obtain ⟨j, ej, hj⟩ := Bz (c := c) (n := 8) (by decide)
  have hd : 0 ≤ c.fdiv 8 ∧ c.fdiv 8 < 1000003 := by rw [Int.fdiv_eq_ediv_of_nonneg _ (by decide)]; exact ⟨Int.ediv_nonneg hc0 (by decide), Int.lt_of_le_of_lt (Int.ediv_le_self 8 hc0) hc1⟩
  have em : Bc .Mult (.int (c.fdiv 8)) (.int (10 ^ 18)) H = .ok (.int (c.fdiv 8 * 10 ^ 18)) H := by
    rw [Sx, if_pos]
    unfold E0
    rw [G0 (Nat.lt_trans (oNA hd.1 hd.2) (by decide)), Bool.true_or, Bool.true_or]
  have p1 := Ag H [.list [AV.int 0]]
  have p2 := Ag (H ++ [.list [AV.int 0]]) [.list [AV.ref H.length]]
  have e2 : (H ++ [Br.list [AV.int 0]]).length = H.length + 1 := by simp
  have g2 := Ah (H ++ [.list [AV.int 0]]) (.list [AV.ref H.length])
  rw [e2] at g2
  obtain ⟨u, hu, ho⟩ : ∃ u, [AV.int (-1), .int (tau (n + 1) E), .int (tau (n + 1) E + c.fdiv 8 * 10 ^ 18), .bool true, .none, .str "0", .ref (H.length + 1), .bool false][j]? = some u ∧ Aba (((H ++ [Br.list [AV.int 0]]) ++ [.list [AV.ref H.length]]) ++ [.list [AV.int (-1), .int (tau (n + 1) E), .int (tau (n + 1) E + c.fdiv 8 * 10 ^ 18), .bool true, .none, .str "0", .ref (H.length + 1), .bool false]]) n E u := by
    match j, hj with
    | 0, _ => exact ⟨_, rfl, rfl, fun i e => by cases e; exact fun e0 => A6s e0.1, Dt rfl fun q e => by cases e⟩
    | 1, _ => exact ⟨_, rfl, rfl, fun i e => by cases e; exact fun q => absurd q.2 (Int.not_le.mpr (Int.sub_lt_self _ Int.one_pos)), Dt rfl fun q e => by cases e⟩
    | 2, _ => exact ⟨_, rfl, rfl, fun i e => by cases e; exact fun q => absurd q.2 (Int.not_le.mpr (Int.lt_of_lt_of_le (Int.sub_lt_self _ Int.one_pos) (Int.le_add_of_nonneg_right (Int.mul_nonneg hd.1 (by decide))))), Dt rfl fun q e => by cases e⟩
    | 3, _ => exact ⟨_, rfl, rfl, fun i e => (by cases e), Dt rfl fun q e => by cases e⟩
    | 4, _ => exact ⟨_, rfl, rfl, fun i e => (by cases e), Dt rfl fun q e => by cases e⟩
    | 5, _ => exact ⟨_, rfl, rfl, fun i e => (by cases e), Dt rfl fun q e => by cases e⟩
    | 6, _ =>
      refine ⟨_, rfl, rfl, fun i e => (by cases e), Ih (Ab (Ag _ _) g2) (fun x hx => by rw [List.mem_singleton.mp hx]; rfl) fun S e _ _ => ?_⟩
      cases S with
      | nil => cases e
      | cons a S => cases e
    | 7, _ => exact ⟨_, rfl, rfl, fun i e => (by cases e), Dt rfl fun q e => by cases e⟩
  refine hno ?_
  exact Ly (At (Bb (A5 (Sw Ac) (A5 (A6 g5) (A5 (Ak (A6 g5) (Ak (Ak (A6 g6) Ac (Ls (by decide) (by decide))) (Ak Ac Ac A9v) em) De) (A5 Gh (A5 Kw (A5 A9f (A5 (by have := Bb (strF := strF) (cf := cf) (sc := sc) (b := b) (ρ := ρ) (H := H) (es := .cons (.list (.cons (.int 0) .nil)) .nil) (A5 (Bb (A5 Ac A9) (Aq (Nat.le_of_ble_eq_true rfl))) A9) (Aq (Nat.le_of_ble_eq_true rfl)); rwa [e2] at this) (A5 Gh A9)))))))) (Aq (Nat.le_of_ble_eq_true rfl)))
    (Ak (A6 g6) Ac (A64 (n := 8) rfl ej (by decide))) (Bk (Ah _ _) hu)) ⟨ho, (p1.trans p2).trans (Ag _ _)⟩
theorem A7w {c : Int} {qa : Nat} (hT : TL H r E) (hl : E.length ≤ 16) (ho : H[qa]? = some (.list (A.map As))) (hA : Hg n E A) (hal : A.length ≤ 7) (g3 : ρ[3]? = some (some (.ref r))) (g9 : ρ[9]? = some (some (.ref qa))) (g6 : ρ[6]? = some (some (.int c))) :
    (Aa strF cf sc b (.idx (.list (.cons (.bin .Add (.var 9) (.list (.cons (.prim .len (.cons (.var 3) .nil)) .nil))) (.cons (.bin .Add (.slice (.var 9) .none (.some (.neg (.int 1)))) (.list (.cons (.neg (.int 1)) .nil))) (.cons (.bin .Add (.rev (.var 9)) (.list (.cons (.int 0) .nil))) (.cons (.prim .tuple (.cons (.var 9) .nil)) .nil))))) (.bin .Mod (.bin .FloorDiv (.var 6) (.int 8)) (.int 4))) ρ H).sat (WrR H n E) := by
  refine bC fun hno => ?_
  obtain ⟨j, ej, hj⟩ := Bz (c := c.fdiv 8) (n := 4) (by decide)
  obtain ⟨v0, H1, e1, w0, p1⟩ := Res.sat_ex (A8c (strF := strF) (cf := cf) (sc := sc) (b := b) (n := n) hT hl ho hal g3 g9)
  obtain ⟨v1, H2, e2, w1, p2⟩ := Res.sat_ex (A7t (strF := strF) (cf := cf) (sc := sc) (b := b) (n := n) (Ab p1 hT) hl (Ab p1 ho) hal g3 g9)
  have ho2 := Ab (p1.trans p2) ho
  have p3 := Ag H2 [.list (A.map As).reverse]
  have g3' := Ah H2 (.list (A.map As).reverse)
  have er : Aa strF cf sc b (.rev (.var 9)) ρ H2 = .ok (.ref H2.length) (H2 ++ [.list (A.map As).reverse]) := Aa4 (A6 g9) ho2 (Aq (by rw [List.length_reverse, List.length_map]; exact Nat.le_trans hal (by decide)))
  refine hno ?_
  generalize H2 ++ [.list (A.map As).reverse] = H3 at p3 g3' er
  have p4 := Ag H3 [.list [AV.int 0]]
  have ea := Ks (Ab p4 g3') (Ah H3 (.list [AV.int 0])) (by rw [List.length_reverse, List.length_map]; show A.length + 1 ≤ 1000; exact oR4 hal)
  have p5 := Ag (H3 ++ [.list [AV.int 0]]) [.list ((A.map As).reverse ++ [AV.int 0])]
  have w2 : Wr ((H3 ++ [.list [AV.int 0]]) ++ [.list ((A.map As).reverse ++ [AV.int 0])]) n E (.ref (H3 ++ [Br.list [AV.int 0]]).length) := Ih (Ah _ _) (fun x hx => by
      rcases List.mem_append.mp hx with hx | hx
      · exact Ji x (List.mem_reverse.mp hx)
      · rw [List.mem_singleton.mp hx]; rfl) fun S e hr _ => by
      have h1 := congrArg List.length e
      rw [List.length_append, List.length_reverse, List.length_map, List.length_map, hr.len, hA.r.len] at h1
      exact absurd h1 (by show ¬ n + 1 = n; exact Nat.ne_of_gt (Nat.le_refl _))
  have e3 : Aa strF cf sc b (.bin .Add (.rev (.var 9)) (.list (.cons (.int 0) .nil))) ρ H2 = .ok (.ref (H3 ++ [Br.list [AV.int 0]]).length) ((H3 ++ [.list [AV.int 0]]) ++ [.list ((A.map As).reverse ++ [AV.int 0])]) := Ak er (Bb (A5 Ac A9) (Aq (Nat.le_of_ble_eq_true rfl))) ea
  generalize (H3 ++ [Br.list [AV.int 0]]).length = q2 at w2 e3
  have p35 := (p3.trans p4).trans p5
  generalize (H3 ++ [Br.list [AV.int 0]]) ++ [.list ((A.map As).reverse ++ [AV.int 0])] = H5 at p5 w2 e3 p35
  refine bC fun hno => ?_
  have etup : prim strF sc .tuple [.ref qa] H5 = .ok (.tup (A.map As)) H5 := by rw [Wd, Lj, Ab p35 ho2]
  have p6 := Ag H5 [.list [v0, v1, .ref q2, .tup (A.map As)]]
  obtain ⟨u, hu, hw⟩ : ∃ u, [v0, v1, AV.ref q2, .tup (A.map As)][j]? = some u ∧ Wr (H5 ++ [.list [v0, v1, .ref q2, .tup (A.map As)]]) n E u := by
    match j, hj with
    | 0, _ => exact ⟨_, rfl, w0.mono ((p2.trans p35).trans p6)⟩
    | 1, _ => exact ⟨_, rfl, w1.mono (p35.trans p6)⟩
    | 2, _ => exact ⟨_, rfl, w2.mono p6⟩
    | 3, _ => exact ⟨_, rfl, Dt rfl fun q e => by cases e⟩
  refine hno ?_
  exact Ly (At (Bb (A5 e1 (A5 e2 (A5 e3 (A5 (Ap (A5 (A6 g9) A9) etup) A9)))) (Aq (Nat.le_of_ble_eq_true rfl)))
    (Ak (Ak (A6 g6) Ac (Ls (by decide) (by decide))) Ac (A64 (n := 4) rfl ej (by decide))) (Bk (Ah _ _) hu)) ⟨hw, ((p1.trans p2).trans p35).trans p6⟩
inductive Ja9 (H0 : A0) (c0 : Int) (n r rh : Nat) (tt c : Int) (u : AV) (j qs : Nat) (ρ : A8) (H : A0) : Prop
  | mk (x10 : Option AV) (hρ : ρ = [some .scr, some (.int c0), some (.int (n + 1 : Nat)), some (.ref r), some (.ref rh), some (.int tt), some (.int c), some u, some (.int j), some (.ref qs), x10, none]) (hp : H0 <+: H) : Ja9 H0 c0 n r rh tt c u j qs ρ H
inductive Jb9 (H0 : A0) (c0 : Int) (n r rh : Nat) (tt c : Int) (u : AV) (j qs : Nat) (x10 : Option AV) (E : List (Nat × Nat)) (ρ : A8) (H : A0) : Prop
  | mk (w : AV) (hρ : ρ = [some .scr, some (.int c0), some (.int (n + 1 : Nat)), some (.ref r), some (.ref rh), some (.int tt), some (.int c), some u, some (.int j), some (.ref qs), x10, some w]) (hp : H0 <+: H) (hw : Wr H n E w) : Jb9 H0 c0 n r rh tt c u j qs x10 E ρ H
theorem A9d (D : A9w P) : (Al strF P sc (m + 8) 69 [.scr] []).sat fun v _ => v = .bool true := by
  have m40 := K3 (strF := strF) (sc := sc) (P := P) (H := []) (n := m + 5) D.h5 D.h6 (k := 40) (by decide)
  have emod : Bc .Mod (.int (mix sc 40)) (.int 9) [] = .ok (.int ((mix sc 40).fmod 9)) [] := by rw [Ws, if_pos (by decide)]
  refine B0 (body := A0r.body) D.h69 rfl (Ae (Ap (A5 (Jr (Ak (Ar (A5 (A6 rfl) (A5 Ac A9)) m40) Ac emod) Ac Ym) A9) rfl) ?_)
  generalize ((mix sc 40).fmod 9 == 4) = c
  refine bC fun hno => ?_
  have l2 : ∀ (H : A0) (a b : Int), Cl sc (.ref H.length) (.int (if c then 1 else 0)) (H ++ [.list [.int a, .int b]]) = .ok (.int (if c then b else a)) (H ++ [.list [.int a, .int b]]) := fun H a b => by
    cases c
    · exact Bk (k := 0) (Ah _ _) rfl
    · exact Bk (k := 1) (Ah _ _) rfl
  obtain ⟨v, H1, e1, n', r, E, rfl, hT, hp1, hg1, hl, hok, h1, h2⟩ := Res.sat_ex (A5t (strF := strF) (sc := sc) (P := P) (H := ([] ++ [.list [.int 5, .int 7]]) ++ [.list [.int 9, .int 13]]) (m := m + 3) (most := if c then 7 else 5) (room := if c then 13 else 9) D.h5 D.h6 D.h7 D.h8 (by split <;> decide) (by split <;> decide) (by split <;> decide) (by split <;> decide))
  obtain ⟨n, rfl⟩ : ∃ n, n' = n + 1 := ⟨n' - 1, by exact Eq.symm (Nat.sub_add_cancel h1)⟩
  have ec : ∀ a b : Nat, (((if c then a else b : Nat)) : Int) = if c then (a : Int) else (b : Int) := fun a b => by cases c <;> rfl
  rw [ec, ec] at e1
  have hn : n + 1 ≤ 7 := by cases c <;> simp at h2 <;> (first | exact Nat.lt_of_le_of_lt h2 (by decide) | exact Nat.lt_succ_of_le h2)
  have hl : E.length ≤ 16 := by cases c <;> simp at hl <;> exact Nat.le_trans hl (by decide)
  refine hno ?_
  refine Im (Ar (A5 (A6 rfl) (A5 (At (Bb (A5 Ac (A5 Ac A9)) (Aq (Nat.le_of_ble_eq_true rfl))) (A6 rfl) (l2 _ _ _)) (A5 (At (Bb (A5 Ac (A5 Ac A9)) (Aq (Nat.le_of_ble_eq_true rfl))) (A6 rfl) (l2 _ _ _)) A9))) e1) rfl ?_
  generalize hc0 : (if c = true then (1 : Int) else 0) = c0
  clear e1 l2 h1 h2 ec hc0
  have tl := A7e (strF := strF) (sc := sc) hT (by rw [List.length_map]; exact Nat.le_trans hl (by decide))
  have p2 := Ag H1 [.list (E.map C5)]
  have hh2 := Ah H1 (.list (E.map C5))
  have hT2 : TL _ r E := Ab p2 hT
  generalize H1 ++ [.list (E.map C5)] = H2 at tl p2 hh2 hT2
  generalize H1.length = rh at tl hh2
  refine bC fun hno => ?_
  obtain ⟨v, H3, e3, rfl, hp3⟩ := Res.sat_ex (Zz (strF := strF) (sc := sc) (m := m + 3) D.h0 D.h1 D.h19 D.h20 D.h21 D.h23 D.h24 hn hT2 hl hok)
  have hT3 : TL H3 r E := Ab hp3 hT2
  have hh3 : TL H3 rh E := Ab hp3 hh2
  have m3 := K3 (strF := strF) (sc := sc) (P := P) (H := H3) (n := m + 5) D.h5 D.h6 (k := 3) (by decide)
  obtain ⟨hm1, hm2⟩ := Yh sc 3
  obtain ⟨u, H4, e4, ho, hp4⟩ := Res.sat_ex (Ac1 (strF := strF) (cf := Al strF P sc (m + 7)) (sc := sc) (b := 0) (H := H3) (n := n) (E := E) (c := mix sc 3) (ρ := [some .scr, some (.int c0), some (.int (n + 1 : Nat)), some (.ref r), some (.ref rh), some (.int (tau (n + 1) E)), some (.int (mix sc 3)), none, none, none, none, none]) hm1 hm2 rfl rfl)
  refine hno ?_
  generalize mix sc 3 = c at m3 e4
  refine bC fun hno => ?_
  have hh4 : TL H4 rh E := Ab hp4 hh3
  obtain ⟨v, H5, e5, rfl, hp5⟩ := Res.sat_ex (Q9 (strF := strF) (sc := sc) (m := m + 1) D.toDefs66 hn hh4 hl hok ho.p ho.no)
  obtain ⟨v, H6, e6, rfl, hp6⟩ := Res.sat_ex (L2 (strF := strF) (sc := sc) (m := m + 1) D.toDefs66 hn (Ab hp5 hh4) hl hok (ho.w.mono hp5))
  have p36 := (hp4.trans hp5).trans hp6
  have hT6 : TL H6 r E := Ab p36 hT3
  have hh6 : TL H6 rh E := Ab p36 hh3
  refine hno ?_
  refine Ae (Ap (A5 (A6 rfl) A9) tl) (Ae (Ar (A5 (A6 rfl) (A5 (A6 rfl) A9)) e3) (Ae (Ar (A5 (A6 rfl) (A5 Ac A9)) m3) (Ae e4
    (B3 (Kz (Az (Au (Ar (A5 Ac (A5 (A6 rfl) (A5 (A6 rfl) (A5 (A6 rfl) A9)))) e5) Ac (neF rfl)) (Az (Au (Ar (A5 Ac (A5 (A6 rfl) (A5 (A6 rfl) (A5 (A6 rfl) A9)))) e6) Ac (neF rfl)) Ec))) ?_))))
  have htp := A5m E.length rfl hok
  have hlen := Ha E.length rfl hok
  have heqT : ∀ {Hx : A0}, H6 <+: Hx → B5 .Eq (.ref rh) (.ref r) Hx = some true := fun p => by rw [A7q]; exact A02 (Ab p hh6) (Ab p hT6)
  by_cases h0 : tau (n + 1) E = 0
  · refine bC fun hno => ?_
    obtain ⟨v, H7, e7, rfl, hp7⟩ := Res.sat_ex (Q9 (strF := strF) (sc := sc) (m := m + 1) (v := .int 0) D.toDefs66 hn hh6 hl hok rfl fun i e => by cases e; (first | lia | omega))
    have p8 := Ag H7 [.list []]
    have hw : Wr (H7 ++ [.list []]) n E (.ref H7.length) := Ih (Ah _ _) (fun x hx => by cases hx) fun S e hr hc => by
      have := Rs hok hr hc
      have := List.length_pos_of_mem this
      (first | lia | omega)
    obtain ⟨v, H8, e8, rfl, hp8⟩ := Res.sat_ex (L2 (strF := strF) (sc := sc) (m := m + 1) D.toDefs66 hn (Ab (hp7.trans p8) hh6) hl hok hw)
    refine hno ?_
    exact Cg (Au (A6 rfl) Ac (eqT h0)) (Bd (F0 (D0 (Jr (Ar (A5 Ac (A5 (A6 rfl) (A5 (A6 rfl) (A5 Ac A9)))) e7) Ac (eqT rfl)) (D0 (Jr (Ar (A5 Ac (A5 (A6 rfl) (A5 (A6 rfl) (A5 (Bb A9 (Aq (Nat.le_of_ble_eq_true rfl))) A9)))) e8) Ac (eqT rfl)) (J0 (Jr (A6 rfl) (A6 rfl) (heqT ((hp7.trans p8).trans hp8))))))) rfl)
  · refine bC fun hno => ?_
    have all : Dj (n + 1) E := htp.2.mp (by (first | lia | omega))
    have hLpos : 0 < (C8 E.length n E).length := by (first | lia | omega)
    obtain ⟨j, ej, hj⟩ := Bz (c := mix sc 30 * 31) hLpos
    have m30 := K3 (strF := strF) (sc := sc) (P := P) (H := H6) (n := m + 5) D.h5 D.h6 (k := 30) (by decide)
    have emd : Bc .Mod (.int (mix sc 30 * 31)) (.int (tau (n + 1) E)) H6 = .ok (.int j) H6 := A64 hlen.symm ej hLpos
    have hS := List.getElem?_eq_getElem hj
    refine hno ?_
    generalize (C8 E.length n E)[j] = S at hS
    refine bC fun hno => ?_
    have hSm := List.mem_of_getElem? hS
    have hSr := G4 _ hSm
    have hSc := K5 rfl hok hSm
    have hSl := hSr.len
    obtain ⟨v, H7, e7, hp7, q, rfl, hq7⟩ := Res.sat_ex (Pr (strF := strF) (sc := sc) (m := m) D.toDefs66 hn hh6 hl hok D.h9 D.h10 D.h54 D.h68 hS)
    have h00 := List.getElem?_eq_getElem hLpos
    refine hno ?_
    generalize (C8 E.length n E)[0] = S0 at h00
    refine bC fun hno => ?_
    have hh7 : TL H7 rh E := Ab hp7 hh6
    obtain ⟨v, H8, e8, q8, u8, rfl, hq8, ⟨qa, rfl, hqa⟩, hp8⟩ := Res.sat_ex (A7h (strF := strF) (sc := sc) (m := m + 1) (j := 0) D.toDefs66 hn hh7 hl hok h00)
    obtain ⟨v, H9, e9, qf, Sf, rfl, hqf, hp9, hf⟩ := Res.sat_ex (A7u (strF := strF) (sc := sc) (m := m + 5) D.h10 D.h67 hn (Ab (hp7.trans hp8) hT6) hl hok)
    have hSf : S0 = Sf := by have := hf all; rw [h00] at this; exact Option.some.inj this
    subst hSf
    have p9 := Ag H9 [.list [AV.ref qf]]
    have hne := Uh (r := q8) (v := .ref H9.length) (H := H9 ++ [.list [AV.ref qf]])
    rw [Qx (qs := [qa]) (ps := [qf]) (Ss := [S0]) (Ab (hp9.trans p9) hq8) (.cons (Ab (hp9.trans p9) hqa) .nil) (Ah _ _) (.cons (Ab p9 hqf) .nil)] at hne
    have p79 := (hp8.trans hp9).trans p9
    have enm : Bc .Mult (.int (mix sc 30)) (.int 31) H6 = .ok (.int (mix sc 30 * 31)) H6 := Abz (by decide) (by decide)
    refine hno ?_
    refine B3 (Au (A6 rfl) Ac (eqF h0)) (Ae (Ak (Ak (Ar (A5 (A6 rfl) (A5 Ac A9)) m30) Ac enm) (A6 rfl) emd) (Ae (Ar (A5 (A6 rfl) (A5 (A6 rfl) (A5 (A6 rfl) A9))) e7)
      (B3 (Kz (Az (Au (A6 rfl) Kw rfl) (Az (Au (Ar (A5 Ac (A5 (A6 rfl) (A5 (A6 rfl) (A5 Ac A9)))) e8) (Bb (A5 (Ar (A5 (A6 rfl) (A5 (A6 rfl) A9)) e9) A9) (Aq (Nat.le_of_ble_eq_true rfl))) hne) Ec))) ?_)))
    have hqS := Ab p79 hq7
    have hTS : TL _ r E := Ab (hp7.trans p79) hT6
    have hhS : TL _ rh E := Ab (hp7.trans p79) hh6
    have p6S := hp7.trans p79
    generalize H9 ++ [.list [AV.ref qf]] = HA at hqS hTS hhS p6S
    have eadd : ∀ {Hx : A0}, Bc .Add (.int (j : Int)) (.int 1) Hx = .ok (.int (j + 1 : Nat)) Hx := fun {_} => A8u
    refine A1t (J := Ja9 HA c0 n r rh (tau (n + 1) E) c u j q) ?_ ?_
    · by_cases hj1 : j + 1 < (C8 E.length n E).length
      · refine bC fun hno => ?_
        have hS1 := List.getElem?_eq_getElem hj1
        obtain ⟨v, HB, eB, hpB, qB, rfl, hqB⟩ := Res.sat_ex (Pr (strF := strF) (sc := sc) (m := m) D.toDefs66 hn hhS hl hok D.h9 D.h10 D.h54 D.h68 hS1)
        have hlt := A5z (Ab hpB hqS) hqB
        have hsorted : ltN S (C8 E.length n E)[j + 1] = true := by
          have := List.pairwise_iff_getElem.mp (Ld (E := E) (n := n) hok) j (j + 1) hj hj1 (Nat.lt_succ_self _)
          rw [List.getElem?_eq_getElem hj] at hS
          rw [← Option.some.inj hS]; exact this
        rw [hsorted] at hlt
        refine hno ?_
        exact Cg (Au (Ak (A6 rfl) Ac eadd) (A6 rfl) (ltT (by exact Abc (Ky hj1) hlen))) (Ae (Ar (A5 (A6 rfl) (A5 (A6 rfl) (A5 (Ak (A6 rfl) Ac eadd) A9))) eB) (B3 (Kz (Az (Au (A6 rfl) Kw rfl) (Az (Cj (Au (A6 rfl) (A6 rfl) hlt)) Ec))) (Be (Be ⟨_, rfl, hpB⟩))))
      · exact B3 (Au (Ak (A6 rfl) Ac eadd) (A6 rfl) (ltF (by (first | lia | omega)))) (Be ⟨_, rfl, List.prefix_rfl⟩)
    · rintro ρ HB ⟨x10, rfl, hpB⟩
      refine bC fun hno => ?_
      have hqB := Ab hpB hqS
      have hTB : TL HB r E := Ab hpB hTS
      have hhB : TL HB rh E := Ab hpB hhS
      obtain ⟨w, HC, eC, hw, hpC⟩ := Res.sat_ex (A7w (strF := strF) (cf := Al strF P sc (m + 7)) (sc := sc) (b := 0) (n := n) (c := c) (ρ := [some .scr, some (.int c0), some (.int (n + 1 : Nat)), some (.ref r), some (.ref rh), some (.int (tau (n + 1) E)), some (.int c), some u, some (.int j), some (.ref q), x10, none]) hTB hl hqB ⟨hSr, hSc⟩ (by exact Nat.le_of_lt (Sh hSl hn)) rfl rfl rfl)
      refine hno ?_
      refine Ae eC (A1t (J := Jb9 HC c0 n r rh (tau (n + 1) E) c u j q x10 E) ?_ ?_)
      · refine bC fun hno => ?_
        have hqC := Ab hpC hqB
        have pn := Ag HC [.list []]
        obtain ⟨t, et, ht⟩ := Bz (c := c.fdiv 32) (n := 3) (by decide)
        have c1 : ∀ {ρ : A8} {H : A0}, ρ[6]? = some (some (.int c)) → Aa strF (Al strF P sc (m + 7)) sc 0 (.bin .Mod (.bin .FloorDiv (.var 6) (.int 32)) (.int 3)) ρ H = .ok (.int t) H := fun g4 => Ak (Ak (A6 g4) Ac (Ls (by decide) (by decide))) Ac (A64 (n := 3) rfl et (by decide))
        have hne := Uh (r := q) (v := .ref HC.length) (H := HC ++ [.list []])
        rw [Px (G := []) (Ab pn hqC) (Ah _ _)] at hne
        refine hno ?_
        by_cases ht1 : t = 1
        · cases S with
          | nil =>
            rw [decide_eq_true rfl] at hne
            exact B3 (J2 (Cv (Au (c1 rfl) Ac (eqT (by exact A40 ht1))) (Eb (Au (A6 rfl) (Bb A9 (Aq (Nat.le_of_ble_eq_true rfl))) hne)))) (Be ⟨w, rfl, pn, hw.mono pn⟩)
          | cons a A =>
            rw [decide_eq_false (by simp)] at hne
            have it := Bk (sc := sc) (k := 0) (x := As a) (Ab pn hqC) rfl
            by_cases ha : a < 2
            · refine bC fun hno => ?_
              obtain ⟨u', H6, e6, q6, rfl, hq6, hp6⟩ := Res.sat_ex (A0u (strF := strF) (sc := sc) (m := m + 6) D.h56 (Ab pn hqC) (by (first | lia | omega)))
              refine hno ?_
              exact Cg (J2 (Cv (Au (c1 rfl) Ac (eqT (by exact A40 ht1))) (Cv (Au (A6 rfl) (Bb A9 (Aq (Nat.le_of_ble_eq_true rfl))) hne) (Cv (Au (At (A6 rfl) Ac it) Ac (ltT (by exact Ky ha))) Vg))))
                (Ae (Ar (A5 (A6 rfl) A9) e6) (Be (Be ⟨.ref q6, rfl, pn.trans hp6, Z8 ha rfl hq6⟩)))
            · exact B3 (J2 (Cv (Au (c1 rfl) Ac (eqT (by exact A40 ht1))) (Cv (Au (A6 rfl) (Bb A9 (Aq (Nat.le_of_ble_eq_true rfl))) hne) (Eb (Au (At (A6 rfl) Ac it) Ac (ltF (by exact fun e1 => ha (A1c e1)))))))) (Be ⟨w, rfl, pn, hw.mono pn⟩)
        · exact B3 (J2 (Eb (Au (c1 rfl) Ac (eqF (by exact A45 ht1))))) (Be ⟨w, rfl, List.prefix_rfl, hw⟩)
      · rintro ρ HD ⟨w, rfl, hpD, hw⟩
        refine bC fun hno => ?_
        have pBD := hpC.trans hpD
        obtain ⟨v, HE, eE, rfl, hpE⟩ := Res.sat_ex (L2 (strF := strF) (sc := sc) (m := m + 1) D.toDefs66 hn (Ab pBD hhB) hl hok hw)
        refine hno ?_
        exact Bd (F0 (D0 (Jr (Ar (A5 Ac (A5 (A6 rfl) (A5 (A6 rfl) (A5 (A6 rfl) A9)))) eE) Ac (eqT rfl)) (J0 (Jr (A6 rfl) (A6 rfl) (heqT (((p6S.trans hpB).trans pBD).trans hpE)))))) rfl
end
end Mine
namespace Mine
open PySem
structure Tab where
  fns : List (Nat × Str)
  excs : List (Nat × Str)
  gints : List (Nat × Str × Int)
  defs : List (Nat × FnI) := []
  q : Bool := false
  okc : Nat → Bool := fun _ => true
  qs : List Nat := []
noncomputable abbrev Tab.quiet (T : Tab) : Tab := { T with q := true, okc := fun k => T.qs.contains k }
noncomputable def Am (e : Expr) : Bool := !Nat.beq e.ctorIdx 22
noncomputable def Gg (e : Expr) : Bool := !(Nat.beq e.ctorIdx 8 || (Nat.beq e.ctorIdx 9 || Nat.beq e.ctorIdx 10))
noncomputable def Mp (e : Expr) : Bool := Gg e && !Nat.beq e.ctorIdx 25
noncomputable def Oc (e : Expr) : Bool := !Nat.beq e.ctorIdx 26
noncomputable def C3 (e : Expr) : Bool := !Nat.beq e.ctorIdx 7
noncomputable def slot (Γ : List Str) (x : Str) : Option Nat := Γ.findIdx? (· == x)
noncomputable def Bf (S : Scope) (x : Str) : Option NameKind := S.names.lookup x
noncomputable def Ao (S : Scope) (x : Str) : Bool := Bf S x == some .globalImplicit && !(x == ("__debug__" : Str))
noncomputable def Qm (S : Scope) (x : Str) : Bool := (Bf S x == some .local || Bf S x == some .cell || Bf S x == some .free) && !(x == ("__debug__" : Str)) && !(x == ("__classdict__" : Str))
noncomputable def B2 (S : Scope) (x : Str) : Bool := Bf S x == some .local || Bf S x == some .cell
noncomputable def Cs (scope S : Scope) : Scope :=
  { scope with names := scope.names.map fun (n, k) => if (k == .free && S.kind == .function && Bf S n == some .cell) then (n, .cell) else (n, k) }
noncomputable def I7 (scope S : Scope) (Γ xs : List Str) : Bool := scope.kind == .function &&
  scope.names.all (fun x => (x.2 != .local || scope.names.lookup x.1 == some .local) && (x.2 != .cell || scope.names.lookup x.1 == some .cell) &&
    (x.2 != .free || (scope.names.lookup x.1 == some .free && (Bf S x.1 == some .cell || Bf S x.1 == some .free))) && (!(x.2 == .local || x.2 == .cell) || xs.contains x.1 || (slot Γ x.1).isNone)) && xs.all (B2 scope)
noncomputable def Qw : It → Bool
  | _ => true
noncomputable def Nv : PEs → Bool
  | .nil => false
  | _ => true
noncomputable def I3 (e : Expr) : Bool := Nat.beq e.ctorIdx 23 || Nat.beq e.ctorIdx 21
noncomputable def Jd : D6 → Bool
  | .sortedSet => false
  | .sortedP => false
  | _ => true
noncomputable def A37 : D6 → Option Str
  | .isInt => some "int"
  | .isBool => some "bool"
  | .isList => some "list"
  | .isTuple => some "tuple"
  | .isValueError => some "ValueError"
  | _ => none
noncomputable def Je (T : Tab) (p : D6) : Option Str := match p with
  | .isExc c => T.excs.lookup c
  | p => A37 p
noncomputable def Ed : D6 → Option Str
  | .len => some "len"
  | .list => some "list"
  | .tuple => some "tuple"
  | .sorted => some "sorted"
  | .min2 => some "min"
  | .max2 => some "max"
  | .min1 => some "min"
  | .max1 => some "max"
  | .all => some "all"
  | .int => some "int"
  | .sortedP => some "sorted"
  | _ => none
noncomputable def opt {α : Type} (o : Option α) (k : α → Bool) : Bool := match o with
  | some a => k a
  | none => false
inductive A9s {α : Type} (o : Option α) (k : α → Bool) : Prop
  | mk (a : α) (e : o = some a) (h : k a = true) : A9s o k
theorem Ad {α : Type} {o : Option α} {k : α → Bool} (h : opt o k = true) : A9s o k := by
  cases o with
  | none => cases h
  | some a => exact ⟨a, rfl, h⟩
theorem A7 {a b : Bool} (h : (a && b) = true) : a = true ∧ b = true := by
  cases a
  · cases h
  · exact ⟨rfl, h⟩
theorem Ba {α : Type} [BEq α] [LawfulBEq α] {a b : α} (h : (a == b) = true) : a = b := beq_iff_eq.mp h
noncomputable def Fm {α : Type} : List α → Option α
  | [a] => some a
  | _ => none
noncomputable def Qz {α : Type} : List α → Option (α × α)
  | [a, b] => some (a, b)
  | _ => none
theorem By {α : Type} {l : List α} {a : α} (h : Fm l = some a) : l = [a] := by
  match l, h with
  | [_], h => cases h; rfl
theorem Ig {α : Type} {l : List α} {a : α × α} (h : Qz l = some a) : l = [a.1, a.2] := by
  match l, h with
  | [_, _], h => cases h; rfl
theorem inv {α β : Type} {mk : α → β} {d : β → Option α} (G : ∀ e, (d e).elim e mk = e) {e : β} {x : α} (h : d e = some x) : e = mk x := by
  have g := G e
  rw [h] at g
  exact g.symm
noncomputable def Jh (e : Expr) : Option (Const × Nat × Pos) := by
  cases e with
  | Constant c k p => exact some (c, k, p)
  | _ => exact none
theorem E9 {e : Expr} {x : (Const × Nat × Pos)} (h : Jh e = some x) : e = .Constant x.1 x.2.1 x.2.2 := inv (mk := fun x => .Constant x.1 x.2.1 x.2.2) (fun e => by cases e <;> rfl) h
noncomputable def E3 (e : Expr) : Option (Str × Pos) := by
  cases e with
  | Name x p => exact some (x, p)
  | _ => exact none
theorem Bm {e : Expr} {x : (Str × Pos)} (h : E3 e = some x) : e = .Name x.1 x.2 := inv (mk := fun x => .Name x.1 x.2) (fun e => by cases e <;> rfl) h
noncomputable def Aap (e : Expr) : Option (Expr × Operator × Expr × Pos) := by
  cases e with
  | BinOp l o r p => exact some (l, o, r, p)
  | _ => exact none
theorem A5j {e : Expr} {x : (Expr × Operator × Expr × Pos)} (h : Aap e = some x) : e = .BinOp x.1 x.2.1 x.2.2.1 x.2.2.2 := inv (mk := fun x => .BinOp x.1 x.2.1 x.2.2.1 x.2.2.2) (fun e => by cases e <;> rfl) h
noncomputable def dUn (e : Expr) : Option (UnaryOp × Expr × Pos) := by
  cases e with
  | UnaryOp o x p => exact some (o, x, p)
  | _ => exact none
theorem A44 {e : Expr} {x : (UnaryOp × Expr × Pos)} (h : dUn e = some x) : e = .UnaryOp x.1 x.2.1 x.2.2 := inv (mk := fun x => .UnaryOp x.1 x.2.1 x.2.2) (fun e => by cases e <;> rfl) h
noncomputable def A7y (e : Expr) : Option (Expr × List CmpOp × List Expr × Pos) := by
  cases e with
  | Compare l o r p => exact some (l, o, r, p)
  | _ => exact none
theorem Wa {e : Expr} {x : (Expr × List CmpOp × List Expr × Pos)} (h : A7y e = some x) : e = .Compare x.1 x.2.1 x.2.2.1 x.2.2.2 := inv (mk := fun x => .Compare x.1 x.2.1 x.2.2.1 x.2.2.2) (fun e => by cases e <;> rfl) h
noncomputable def Y4 (e : Expr) : Option (BoolOp × List Expr × Pos) := by
  cases e with
  | BoolOp o vs p => exact some (o, vs, p)
  | _ => exact none
theorem A0a {e : Expr} {x : (BoolOp × List Expr × Pos)} (h : Y4 e = some x) : e = .BoolOp x.1 x.2.1 x.2.2 := inv (mk := fun x => .BoolOp x.1 x.2.1 x.2.2) (fun e => by cases e <;> rfl) h
noncomputable def Ab0 (e : Expr) : Option (Expr × Expr × Expr × Pos) := by
  cases e with
  | IfExp t a b p => exact some (t, a, b, p)
  | _ => exact none
theorem A4m {e : Expr} {x : (Expr × Expr × Expr × Pos)} (h : Ab0 e = some x) : e = .IfExp x.1 x.2.1 x.2.2.1 x.2.2.2 := inv (mk := fun x => .IfExp x.1 x.2.1 x.2.2.1 x.2.2.2) (fun e => by cases e <;> rfl) h
noncomputable def Yi (e : Expr) : Option (Expr × Expr × Pos) := by
  cases e with
  | Subscript v s p => exact some (v, s, p)
  | _ => exact none
theorem Jn {e : Expr} {x : (Expr × Expr × Pos)} (h : Yi e = some x) : e = .Subscript x.1 x.2.1 x.2.2 := inv (mk := fun x => .Subscript x.1 x.2.1 x.2.2) (fun e => by cases e <;> rfl) h
noncomputable def dSl (e : Expr) : Option (Option Expr × Option Expr × Option Expr × Pos) := by
  cases e with
  | Slice l h s p => exact some (l, h, s, p)
  | _ => exact none
theorem A1g {e : Expr} {x : (Option Expr × Option Expr × Option Expr × Pos)} (h : dSl e = some x) : e = .Slice x.1 x.2.1 x.2.2.1 x.2.2.2 := inv (mk := fun x => .Slice x.1 x.2.1 x.2.2.1 x.2.2.2) (fun e => by cases e <;> rfl) h
noncomputable def A6w (e : Expr) : Option (List Expr × Pos) := by
  cases e with
  | List vs p => exact some (vs, p)
  | _ => exact none
theorem Su {e : Expr} {x : (List Expr × Pos)} (h : A6w e = some x) : e = .List x.1 x.2 := inv (mk := fun x => .List x.1 x.2) (fun e => by cases e <;> rfl) h
noncomputable def A03 (e : Expr) : Option (List Expr × Nat × Pos) := by
  cases e with
  | Tuple vs b p => exact some (vs, b, p)
  | _ => exact none
theorem M8 {e : Expr} {x : (List Expr × Nat × Pos)} (h : A03 e = some x) : e = .Tuple x.1 x.2.1 x.2.2 := inv (mk := fun x => .Tuple x.1 x.2.1 x.2.2) (fun e => by cases e <;> rfl) h
noncomputable def A0y (e : Expr) : Option (Expr × List Comprehension × Scope × Pos) := by
  cases e with
  | ListComp el g s p => exact some (el, g, s, p)
  | _ => exact none
theorem Sm {e : Expr} {x : (Expr × List Comprehension × Scope × Pos)} (h : A0y e = some x) : e = .ListComp x.1 x.2.1 x.2.2.1 x.2.2.2 := inv (mk := fun x => .ListComp x.1 x.2.1 x.2.2.1 x.2.2.2) (fun e => by cases e <;> rfl) h
noncomputable def Yb (e : Expr) : Option (Expr × Str × Pos) := by
  cases e with
  | Attribute o m p => exact some (o, m, p)
  | _ => exact none
theorem Nx {e : Expr} {x : (Expr × Str × Pos)} (h : Yb e = some x) : e = .Attribute x.1 x.2.1 x.2.2 := inv (mk := fun x => .Attribute x.1 x.2.1 x.2.2) (fun e => by cases e <;> rfl) h
noncomputable def A3o (e : Expr) : Option (Expr × List Expr × List Keyword × Pos) := by
  cases e with
  | Call f a k p => exact some (f, a, k, p)
  | _ => exact none
theorem Z2 {e : Expr} {x : (Expr × List Expr × List Keyword × Pos)} (h : A3o e = some x) : e = .Call x.1 x.2.1 x.2.2.1 x.2.2.2 := inv (mk := fun x => .Call x.1 x.2.1 x.2.2.1 x.2.2.2) (fun e => by cases e <;> rfl) h
noncomputable def nilO {α : Type} (l : List α) : Bool := l.isEmpty
theorem Cw {α : Type} {l : List α} (h : l.isEmpty = true) : l = [] := List.isEmpty_iff.mp h
noncomputable def Q0 (e : Expr) (k : Expr → List Expr → Pos → Bool) : Bool := opt (A3o e) fun x => x.2.2.1.isEmpty && k x.1 x.2.1 x.2.2.2
inductive A7n (e : Expr) (k : Expr → List Expr → Pos → Bool) : Prop
  | mk (f : Expr) (a : List Expr) (p : Pos) (he : e = .Call f a [] p) (h : k f a p = true) : A7n e k
theorem Fx {e : Expr} {k : Expr → List Expr → Pos → Bool} (h : Q0 e k = true) : A7n e k := by
  obtain ⟨x, hx, h⟩ := Ad h
  obtain ⟨h1, h⟩ := A7 h
  exact ⟨_, _, _, by rw [Z2 hx, Cw h1], h⟩
noncomputable def Dy (e : Expr) (k : Str → List Expr → Bool) : Bool := Q0 e fun f a _ => opt (E3 f) fun x => k x.1 a
inductive A0i (e : Expr) (k : Str → List Expr → Bool) : Prop
  | mk (f : Str) (np : Pos) (args : List Expr) (pos : Pos) (he : e = .Call (.Name f np) args [] pos) (h : k f args = true) : A0i e k
theorem Cr {e : Expr} {k : Str → List Expr → Bool} (h : Dy e k = true) : A0i e k := by
  obtain ⟨f, a, p, rfl, h⟩ := Fx h
  obtain ⟨x, hx, h⟩ := Ad h
  cases Bm hx
  exact ⟨_, _, _, _, rfl, h⟩
noncomputable def cBool : Const → Option Bool
  | .bool b => some b
  | _ => none
theorem A2a {c : Const} {x : Bool} (h : cBool c = some x) : c = .bool x := inv (mk := fun x => .bool x) (fun e => by cases e <;> rfl) h
noncomputable def cInt : Const → Option Int
  | .int b => some b
  | _ => none
theorem Xx {c : Const} {x : Int} (h : cInt c = some x) : c = .int x := inv (mk := fun x => .int x) (fun e => by cases e <;> rfl) h
noncomputable def cStr : Const → Option Str
  | .str b => some b
  | _ => none
theorem W6 {c : Const} {x : Str} (h : cStr c = some x) : c = .str x := inv (mk := fun x => .str x) (fun e => by cases e <;> rfl) h
noncomputable def cNone : Const → Option Unit
  | .none => some ()
  | _ => none
theorem A30 {c : Const} {x : Unit} (h : cNone c = some x) : c = .none := inv (mk := fun _ => .none) (fun e => by cases e <;> rfl) h
noncomputable def A6t (e : Expr) : Bool := opt (Yi e) fun _ => true
theorem U3 {e : Expr} (h : A6t e = true) : ∃ v i p, e = .Subscript v i p := by
  obtain ⟨x, hx, _⟩ := Ad h
  exact ⟨_, _, _, Jn hx⟩
noncomputable def A72 (s : Expr) : Bool := opt (dSl s) fun x => x.1.isNone && (x.2.1.isNone && opt x.2.2.1 fun u => opt (dUn u) fun y => y.1 == .USub && opt (Jh y.2.1) fun c => opt (cInt c.1) fun i => i == 1)
theorem A0f {s : Expr} (h : A72 s = true) : ∃ a b p q, s = .Slice none none (some (.UnaryOp .USub (.Constant (.int 1) a b) p)) q := by
  refine bC fun hno => ?_
  obtain ⟨x, hx, h⟩ := Ad h
  obtain ⟨h1, h⟩ := A7 h
  obtain ⟨h2, h3⟩ := A7 h
  obtain ⟨u, hu, h3⟩ := Ad h3
  obtain ⟨y, hy, h3⟩ := Ad h3
  obtain ⟨h4, h3⟩ := A7 h3
  obtain ⟨c, hc, h3⟩ := Ad h3
  obtain ⟨i, hi, h3⟩ := Ad h3
  refine hno ?_
  exact ⟨_, _, _, _, by rw [A1g hx, Option.isNone_iff_eq_none.mp h1, Option.isNone_iff_eq_none.mp h2, hu, A44 hy, E9 hc, Xx hi, Ba h3, Ba h4]⟩
noncomputable def A6q (p : D6) : Bool := by
  cases p with
  | listRange => exact true
  | _ => exact false
theorem A61 {p : D6} (h : A6q p = true) : p = .listRange := by cases p <;> first | rfl | cases h
section
variable (T : Tab)
mutual
noncomputable def B1 (Γ : List Str) (S : Scope) : PE → Expr → Bool
  | .none, e => opt (Jh e) fun c => opt (cNone c.1) fun _ => true
  | .bool b, e => opt (Jh e) fun c => opt (cBool c.1) fun d => b == d
  | .int i, e => opt (Jh e) fun c => opt (cInt c.1) fun j => i == j
  | .str x, e => opt (Jh e) fun c => opt (cStr c.1) fun y => x == y
  | .var i, e => opt (E3 e) fun x => slot Γ x.1 == some i && Qm S x.1
  | .gfn k, e => opt (E3 e) fun x => T.fns.lookup k == some x.1 && Ao S x.1
  | .gint k i, e => opt (E3 e) fun x => T.gints.lookup k == some (x.1, i) && Ao S x.1
  | .bin op a b, e => opt (Aap e) fun x => op == x.2.1 && (B1 Γ S a x.1 && B1 Γ S b x.2.2.1)
  | .neg a, e => opt (dUn e) fun x => UnaryOp.USub == x.1 && B1 Γ S a x.2.1
  | .not a, e => opt (dUn e) fun x => UnaryOp.Not == x.1 && B1 Γ S a x.2.1
  | .cmp op a b, e => opt (A7y e) fun x => opt (Fm x.2.1) fun o => opt (Fm x.2.2.1) fun r => op == o && (C3 r && (B1 Γ S a x.1 && B1 Γ S b r))
  | .cmp2 o1 o2 a b c, e => opt (A7y e) fun x => opt (Qz x.2.1) fun o => opt (Qz x.2.2.1) fun r => o1 == o.1 && (o2 == o.2 && (C3 r.2 && (B1 Γ S a x.1 && (B1 Γ S b r.1 && B1 Γ S c r.2))))
  | .and es, e => opt (Y4 e) fun x => BoolOp.And == x.1 && Bx Γ S es x.2.1
  | .or es, e => opt (Y4 e) fun x => BoolOp.Or == x.1 && Bx Γ S es x.2.1
  | .ite c a b, e => opt (Ab0 e) fun x => B1 Γ S c x.1 && (B1 Γ S a x.2.1 && B1 Γ S b x.2.2.1)
  | .call k es, e => T.okc k && Dy e fun f args => T.fns.lookup k == some f && (Ao S f && (Nv es && Bx Γ S es args))
  | .callv f es, e => !T.q && Q0 e fun g as _ => A6t g && (B1 Γ S f g && (Nv es && Bx Γ S es as))
  | .prim p es, e => (!T.q || (Je T p).isSome) && Dy e fun f args => cond (A6q p)
      (opt (Fm args) fun a => Dy a fun g as => f == ("list" : Str) && (Ao S f && (g == ("range" : Str) && (Ao S g && Bx Γ S es as))))
      (Jd p && (Ao S f && (match Je T p with
        | some t => f == ("isinstance" : Str) && opt (Qz args) fun a => opt (E3 a.2) fun g => t == g.1 && (Ao S g.1 && Bx Γ S es [a.1])
        | none => Ed p == some f && Bx Γ S es args)))
  | .idx a i, e => opt (Yi e) fun x => Oc x.2.1 && (B1 Γ S a x.1 && B1 Γ S i x.2.1)
  | .slice a lo hi, e => opt (Yi e) fun x => opt (dSl x.2.1) fun y => y.2.2.1.isNone && (B1 Γ S a x.1 && (A8j Γ S lo y.1 && A8j Γ S hi y.2.1))
  | .rev a, e => opt (Yi e) fun x => A72 x.2.1 && B1 Γ S a x.1
  | .list es, e => opt (A6w e) fun vs => Bx Γ S es vs.1
  | .tuple es, e => opt (A03 e) fun vs => Bx Γ S es vs.1
  | .dict, _ => false
  | .comp1 el it c, e => !T.q && opt (A0y e) fun x => opt (Fm x.2.1) fun g => opt (E3 g.target) fun v => g.is_async == 0 && (I7 x.2.2.1 S Γ [v.1] && (Qw it && (C3 g.iter && (Vo Γ S it g.iter && (A85 (v.1 :: Γ) (Cs x.2.2.1 S) c g.ifs && B1 (v.1 :: Γ) (Cs x.2.2.1 S) el x.1)))))
  | .comp2 el it, e => !T.q && opt (A0y e) fun x => opt (Fm x.2.1) fun g => opt (A03 g.target) fun ts => opt (Qz ts.1) fun t => opt (E3 t.1) fun v => opt (E3 t.2) fun w => g.is_async == 0 && (g.ifs.isEmpty && (I7 x.2.2.1 S Γ [v.1, w.1] && (!(v.1 == w.1) && (C3 g.iter && (Vo Γ S it g.iter && B1 (v.1 :: w.1 :: Γ) (Cs x.2.2.1 S) el x.1)))))
  | .append a y, e => Q0 e fun f as p => opt (Yb f) fun t => opt (Fm as) fun v => t.2.1 == ("append" : Str) && (t.2.2.endLine == p.line && (I3 t.1 && (Am v && (B1 Γ S a t.1 && B1 Γ S y v))))
  | .count a y, e => Q0 e fun f as p => opt (Yb f) fun t => opt (Fm as) fun v => t.2.1 == ("count" : Str) && (t.2.2.endLine == p.line && (I3 t.1 && (Am v && (B1 Γ S a t.1 && B1 Γ S y v))))
  | .index a y, e => Q0 e fun f as p => opt (Yb f) fun t => opt (Fm as) fun v => t.2.1 == ("index" : Str) && (t.2.2.endLine == p.line && (I3 t.1 && (Am v && (B1 Γ S a t.1 && B1 Γ S y v))))
  | .sset a, e => !T.q && Dy e fun f args => opt (Fm args) fun y => Dy y fun g as => opt (Fm as) fun x => f == ("sorted" : Str) && (Ao S f && (g == ("set" : Str) && (Ao S g && (Am x && B1 Γ S a x))))
noncomputable def Bx (Γ : List Str) (S : Scope) : PEs → List Expr → Bool
  | .nil, es => es.isEmpty
  | .cons a as, es => (match es with | e :: r => Am e && (B1 Γ S a e && Bx Γ S as r) | [] => false)
noncomputable def A8j (Γ : List Str) (S : Scope) : PEo → Option Expr → Bool
  | .none, o => o.isNone
  | .some a, o => opt o fun e => B1 Γ S a e
noncomputable def A85 (Γ : List Str) (S : Scope) : PEo → List Expr → Bool
  | .none, es => es.isEmpty
  | .some a, es => opt (Fm es) fun e => B1 Γ S a e
noncomputable def Vo (Γ : List Str) (S : Scope) : It → Expr → Bool
  | .of a, e => B1 Γ S a e
  | .range1 n, e => Dy e fun f args => opt (Fm args) fun x => f == ("range" : Str) && (Ao S f && (Am x && B1 Γ S n x))
  | .range2 a b, e => Dy e fun f args => opt (Qz args) fun x => f == ("range" : Str) && (Ao S f && (Am x.1 && (Am x.2 && (B1 Γ S a x.1 && B1 Γ S b x.2))))
end
noncomputable def A78 {α : Type} : List α → Option (α × List α)
  | a :: l => some (a, l)
  | [] => none
theorem Ry {α : Type} {l : List α} {a : α × List α} (h : A78 l = some a) : l = a.1 :: a.2 := by
  match l, h with
  | _ :: _, h => cases h; rfl
noncomputable def N5 (Γ : List Str) (S : Scope) : List Nat → List Expr → Bool
  | [], es => es.isEmpty
  | i :: is, es => opt (A78 es) fun y => opt (E3 y.1) fun x => slot Γ x.1 == some i && (B2 S x.1 && N5 Γ S is y.2)
noncomputable def A6h (e : Stmt) : Option (List Expr × Expr × Pos) := by
  cases e with
  | Assign ts v p => exact some (ts, v, p)
  | _ => exact none
theorem R3 {e : Stmt} {x : (List Expr × Expr × Pos)} (h : A6h e = some x) : e = .Assign x.1 x.2.1 x.2.2 := inv (mk := fun x => .Assign x.1 x.2.1 x.2.2) (fun e => by cases e <;> rfl) h
noncomputable def dIf (e : Stmt) : Option (Expr × List Stmt × List Stmt × Pos) := by
  cases e with
  | If c t e p => exact some (c, t, e, p)
  | _ => exact none
theorem A86 {e : Stmt} {x : (Expr × List Stmt × List Stmt × Pos)} (h : dIf e = some x) : e = .If x.1 x.2.1 x.2.2.1 x.2.2.2 := inv (mk := fun x => .If x.1 x.2.1 x.2.2.1 x.2.2.2) (fun e => by cases e <;> rfl) h
noncomputable def A8m (e : Stmt) : Option (Expr × Expr × List Stmt × List Stmt × Pos) := by
  cases e with
  | For t i b o p => exact some (t, i, b, o, p)
  | _ => exact none
theorem Wj {e : Stmt} {x : (Expr × Expr × List Stmt × List Stmt × Pos)} (h : A8m e = some x) : e = .For x.1 x.2.1 x.2.2.1 x.2.2.2.1 x.2.2.2.2 := inv (mk := fun x => .For x.1 x.2.1 x.2.2.1 x.2.2.2.1 x.2.2.2.2) (fun e => by cases e <;> rfl) h
noncomputable def dWh (e : Stmt) : Option (Expr × List Stmt × List Stmt × Pos) := by
  cases e with
  | While t b o p => exact some (t, b, o, p)
  | _ => exact none
theorem A8h {e : Stmt} {x : (Expr × List Stmt × List Stmt × Pos)} (h : dWh e = some x) : e = .While x.1 x.2.1 x.2.2.1 x.2.2.2 := inv (mk := fun x => .While x.1 x.2.1 x.2.2.1 x.2.2.2) (fun e => by cases e <;> rfl) h
noncomputable def A8y (e : Stmt) : Option (Option Expr × Pos) := by
  cases e with
  | Return v p => exact some (v, p)
  | _ => exact none
theorem Wb {e : Stmt} {x : (Option Expr × Pos)} (h : A8y e = some x) : e = .Return x.1 x.2 := inv (mk := fun x => .Return x.1 x.2) (fun e => by cases e <;> rfl) h
noncomputable def dEx (e : Stmt) : Option (Expr × Pos) := by
  cases e with
  | Expr v p => exact some (v, p)
  | _ => exact none
theorem A94 {e : Stmt} {x : (Expr × Pos)} (h : dEx e = some x) : e = .Expr x.1 x.2 := inv (mk := fun x => .Expr x.1 x.2) (fun e => by cases e <;> rfl) h
noncomputable def Qs : PE → Bool
  | .comp1 .. => true
  | .comp2 .. => true
  | _ => false
noncomputable def A0p (e : Stmt) : Option (Option Expr × Option Expr × Pos) := by
  cases e with
  | Raise v c p => exact some (v, c, p)
  | _ => exact none
theorem Zo {e : Stmt} {x : (Option Expr × Option Expr × Pos)} (h : A0p e = some x) : e = .Raise x.1 x.2.1 x.2.2 := inv (mk := fun x => .Raise x.1 x.2.1 x.2.2) (fun e => by cases e <;> rfl) h
noncomputable def A9g (e : Stmt) : Option (List Stmt × List ExceptHandler × List Stmt × List Stmt × Pos) := by
  cases e with
  | Try b h o f p => exact some (b, h, o, f, p)
  | _ => exact none
theorem A4n {e : Stmt} {x : (List Stmt × List ExceptHandler × List Stmt × List Stmt × Pos)} (h : A9g e = some x) : e = .Try x.1 x.2.1 x.2.2.1 x.2.2.2.1 x.2.2.2.2 := inv (mk := fun x => .Try x.1 x.2.1 x.2.2.1 x.2.2.2.1 x.2.2.2.2) (fun e => by cases e <;> rfl) h
noncomputable def U2 : ExceptHandler → List Stmt
  | .ExceptHandler _ _ b _ => b
noncomputable def dH (h : ExceptHandler) : Option Expr × Option Str × Pos := match h with
  | .ExceptHandler t n _ p => (t, n, p)
theorem A99 (h : ExceptHandler) : h = .ExceptHandler (dH h).1 (dH h).2.1 (U2 h) (dH h).2.2 := by cases h; rfl
noncomputable def A9y (T : Tab) (Γ : List Str) (S : Scope) (c : Nat) (i : Option Nat) (h : ExceptHandler) : Bool :=
  opt (dH h).1 fun t => opt (E3 t) fun x => T.excs.lookup c == some x.1 && (Ao S x.1 && (!(U2 h).isEmpty && (match i with
    | none => false
    | some j => opt (dH h).2.1 fun nm => slot Γ nm == some j && Bf S nm == some .local)))
end
mutual
noncomputable def Aaa (T : Tab) (Γ : List Str) (S : Scope) : PS → Stmt → Bool
  | .assign i e, s => opt (A6h s) fun x => opt (Fm x.1) fun t => opt (E3 t) fun v => slot Γ v.1 == some i && (B2 S v.1 && ((Qs e || Gg x.2.1) && B1 T Γ S e x.2.1))
  | .assigns is e, s => !T.q && opt (A6h s) fun x => opt (Fm x.1) fun t => opt (A03 t) fun ts => Mp x.2.1 && (N5 Γ S is ts.1 && (decide is.Nodup && B1 T Γ S e x.2.1))
  | .setIdx a i e, s => opt (A6h s) fun x => opt (Fm x.1) fun t => opt (Yi t) fun y => B1 T Γ S a y.1 && (B1 T Γ S i y.2.1 && B1 T Γ S e x.2.1)
  | .ite c t e, s => opt (dIf s) fun x => B1 T Γ S c x.1 && (Ex T Γ S t x.2.1 && Ex T Γ S e x.2.2.1)
  | .for1 i it body, s => !T.q && opt (A8m s) fun x => opt (E3 x.1) fun v => x.2.2.2.1.isEmpty && (slot Γ v.1 == some i && (B2 S v.1 && (Qw it && (C3 x.2.1 && (Vo T Γ S it x.2.1 && Ex T Γ S body x.2.2.1)))))
  | .for2 i j it body, s => !T.q && opt (A8m s) fun x => opt (A03 x.1) fun ts => opt (Qz ts.1) fun t => opt (E3 t.1) fun v => opt (E3 t.2) fun w => x.2.2.2.1.isEmpty && (slot Γ v.1 == some i && (B2 S v.1 && (slot Γ w.1 == some j && (B2 S w.1 && (C3 x.2.1 && (Vo T Γ S it x.2.1 && Ex T Γ S body x.2.2.1))))))
  | .whl c body, s => opt (dWh s) fun x => x.2.2.1.isEmpty && (B1 T Γ S c x.1 && Ex T Γ S body x.2.1)
  | .ret e, s => opt (A8y s) fun o => opt o.1 fun v => B1 T Γ S e v
  | .expr e, s => opt (dEx s) fun v => Gg v.1 && B1 T Γ S e v.1
  | .raise c m, s => !T.q && opt (A0p s) fun x => x.2.1.isNone && opt x.1 fun v => Dy v fun f args => opt (Fm args) fun y => opt (Jh y) fun z => opt (cStr z.1) fun w => T.excs.lookup c == some f && (Ao S f && m == w)
  | .tryRet e c i h, s => !T.q && opt (A9g s) fun x => x.2.2.1.isEmpty && (x.2.2.2.1.isEmpty && opt (Fm x.1) fun st => opt (A8y st) fun o => opt o.1 fun v => opt (Fm x.2.1) fun hd => B1 T Γ S e v && (A9y T Γ S c i hd && Ex T.quiet Γ S h (U2 hd)))
noncomputable def Ex (T : Tab) (Γ : List Str) (S : Scope) : PSs → List Stmt → Bool
  | .nil, ss => ss.isEmpty
  | .any, _ => true
  | .cons a as, ss => (match ss with | s :: r => Aaa T Γ S a s && Ex T Γ S as r | [] => false)
end
noncomputable def F9 (S : Scope) : List Str := (S.names.filter fun x => x.2 == .local || x.2 == .cell).map (·.1)
noncomputable def Wp (T : Tab) (f : FnI) (params : Arguments) (body : List Stmt) (S : Scope) : Bool :=
  params.posonlyargs.isEmpty && params.vararg.isNone && params.kwonlyargs.isEmpty && params.kw_defaults.isEmpty && params.kwarg.isNone && params.defaults.isEmpty &&
  params.args.length == f.np && (F9 S).take f.np == params.args.map (·.arg) && (F9 S).length == f.nv && decide (S.names.map (·.1)).Nodup &&
  S.kind == .function && !S.isGenerator && !S.isCoroutine && S.names.all (fun x => x.2 != .free) && Ex T (F9 S) S f.body body
end Mine
namespace Mine
open PySem PySem.Calls PyProof.Rows
structure Cx where
  prog : Program
  w : World
  sa : Addr
  sc : List Int
  fa : Nat → Addr
  ea : Nat → Value
  os : OsState
  mg : Str → Option Value
  mb : Str → Option Value
  z : Addr → Prop
  eo : Nat → Prop
mutual
inductive VR (C : Cx) (μ : List Addr) (h : Heap) : AV → Value → Prop
  | none : VR C μ h .none .none
  | bool (b : Bool) : VR C μ h (.bool b) (.bool b)
  | int (i : Int) (t : Tok) : VR C μ h (.int i) (.int i t)
  | str (s : Str) (t : Tok) : VR C μ h (.str s) (.str s t)
  | tup {a : Addr} {Af : List Value} {vs : List AV} : h.IsTuple a Af.toArray → ¬ C.z a → vs.length ≤ lim → VRs C μ h vs Af → VR C μ h (.tup vs) (.ref a)
  | ref {n : Nat} {a : Addr} : μ[n]? = some a → VR C μ h (.ref n) (.ref a)
  | scr : VR C μ h .scr (.ref C.sa)
  | fn (k : Nat) : VR C μ h (.fn k) (.ref (C.fa k))
  | exc {c : Nat} {a : Addr} {o : Obj} : C.eo c → h.get? a = some o → ¬ C.z a → o.cls = C.ea c → (∃ vs, o.data = .fields vs) → VR C μ h (.exc c) (.ref a)
inductive VRs (C : Cx) (μ : List Addr) (h : Heap) : List AV → List Value → Prop
  | nil : VRs C μ h [] []
  | cons {x : AV} {v : Value} {xs : List AV} {vs : List Value} : VR C μ h x v → VRs C μ h xs vs → VRs C μ h (x :: xs) (v :: vs)
end
section
variable {C : Cx} {μ : List Addr} {h : Heap} {xs ys : List AV} {vs us : List Value}
theorem VRs.length (q : VRs C μ h xs vs) : xs.length = vs.length := by
  induction xs generalizing vs with
  | nil => cases q; rfl
  | cons x xs ih => cases q with
    | cons _ r => rw [List.length_cons, List.length_cons, ih r]
theorem VRs.get (q : VRs C μ h xs vs) {i : Nat} {x : AV} (e : xs[i]? = some x) : ∃ v, vs[i]? = some v ∧ VR C μ h x v := by
  induction xs generalizing vs i with
  | nil => cases e
  | cons y xs ih => cases q with
    | cons a r => cases i with
      | zero => cases e; exact ⟨_, rfl, a⟩
      | succ i => exact ih r e
theorem VRs.append (q : VRs C μ h xs vs) (r : VRs C μ h ys us) : VRs C μ h (xs ++ ys) (vs ++ us) := by
  induction xs generalizing vs with
  | nil => cases q; exact r
  | cons x xs ih => cases q with
    | cons a q => exact .cons a (ih q)
theorem VRs.take (q : VRs C μ h xs vs) (n : Nat) : VRs C μ h (xs.take n) (vs.take n) := by
  induction xs generalizing vs n with
  | nil => cases q; rw [List.take_nil, List.take_nil]; exact .nil
  | cons x xs ih => cases q with
    | cons a q => cases n with
      | zero => exact .nil
      | succ n => exact .cons a (ih q n)
theorem VRs.drop (q : VRs C μ h xs vs) (n : Nat) : VRs C μ h (xs.drop n) (vs.drop n) := by
  induction n generalizing xs vs with
  | zero => exact q
  | succ n ih => cases q with
    | nil => exact .nil
    | cons a q => exact ih q
theorem VRs.reverse (q : VRs C μ h xs vs) : VRs C μ h xs.reverse vs.reverse := by
  induction xs generalizing vs with
  | nil => cases q; exact .nil
  | cons x xs ih => cases q with
    | cons a q => rw [List.reverse_cons, List.reverse_cons]; exact (ih q).append (.cons a .nil)
theorem VRs.set (q : VRs C μ h xs vs) (i : Nat) {x : AV} {v : Value} (r : VR C μ h x v) : VRs C μ h (xs.set i x) (vs.set i v) := by
  induction xs generalizing vs i with
  | nil => cases q; exact .nil
  | cons y xs ih => cases q with
    | cons a q => cases i with
      | zero => exact .cons r q
      | succ i => exact .cons a (ih q i)
theorem VRs.of_get (e : xs.length = vs.length) (q : ∀ (i : Nat) (x : AV) (v : Value), xs[i]? = some x → vs[i]? = some v → VR C μ h x v) : VRs C μ h xs vs := by
  induction xs generalizing vs with
  | nil => cases vs with
    | nil => exact .nil
    | cons => cases e
  | cons x xs ih => cases vs with
    | nil => cases e
    | cons v vs => exact .cons (q 0 x v rfl rfl) (ih (Nat.succ.inj e) fun i y u e1 e2 => q (i + 1) y u e1 e2)
end
inductive A9b (C : Cx) (μ : List Addr) (h : Heap) (i : Nat) (xs : List AV) : Prop
  | mk (l : xs.length ≤ lim) (a : Addr) (vs : List Value) (e : μ[i]? = some a) (p : h.PlainList a (List.toArray vs)) (q : VRs C μ h xs vs) : A9b C μ h i xs
structure Cm (C : Cx) (μ : List Addr) (H : A0) (h : Heap) : Prop where
  len : μ.length = H.length
  nd : μ.Nodup
  list : ∀ {i : Nat} {xs : List AV}, H[i]? = some (.list xs) → A9b C μ h i xs
  dict : ∀ {i : Nat}, H[i]? = some .dict → ∃ (a : Addr) (n : Nat × Array (Option Value)), μ[i]? = some a ∧ h.get? a = some { cls := .type "dict", data := .dict #[] n.1, slots := n.2 }
structure Ee (C : Cx) (μ : List Addr) (h : Heap) (env : Env) (Γ : List Str) (ρ : A8) : Prop where
  kind : env.scope.kind = .function
  ns : ∃ m, h.Ns env.locals m ∧ ∀ {x : Str} {i : Nat} {v : AV}, slot Γ x = some i → env.kindOf x = some .local → ρ[i]? = some (some v) → ∃ u, m x = some u ∧ VR C μ h v u
  cells : ∀ {x : Str}, env.kindOf x = some .cell ∨ env.kindOf x = some .free → ∃ c o, env.cells.lookup x = some c ∧ h.IsCell c o ∧
    ∀ {i : Nat} {v : AV}, slot Γ x = some i → ρ[i]? = some (some v) → ∃ u, o = some u ∧ VR C μ h v u
  cell : ∀ {x : Str} {c : Addr}, env.cells.lookup x = some c → ∃ o, h.IsCell c o
  inj : ∀ {x y : Str} {c : Addr}, env.cells.lookup x = some c → env.cells.lookup y = some c → x = y
  globals : env.globals = mainGlobals
  builtins : env.builtins = builtinsNs
noncomputable def Own (μ : List Addr) (env : Env) (a : Addr) : Prop := a ∈ μ ∨ a = env.locals ∨ ∃ x, env.cells.lookup x = some a
noncomputable def ND (o : Obj) : Prop := ∀ es ep, o.data ≠ .dict es ep
inductive DT (o : Obj) : Prop
  | mk (es : Array DictEntry) (ep : Nat) (hd : o.data = .dict es ep) : DT o
theorem DT.no {o : Obj} (d : DT o) (n : ND o) : False := by
  obtain ⟨es, ep, hd⟩ := d
  exact n _ _ hd
inductive Kp (z : Prop) (a : Addr) (o : Obj) (h : Heap) : Prop
  | same (e : h.get? a = some o) : Kp z a o h
  | slot (hz : z) (hd : DT o) (sl : Array (Option Value)) (e : h.get? a = some { o with slots := sl }) : Kp z a o h
theorem Kp.ex {z : Prop} {a : Addr} {o : Obj} {h : Heap} (k : Kp z a o h) (n : ND o) : h.get? a = some o := by
  cases k with
  | same e => exact e
  | slot _ hd _ _ => exact (hd.no n).elim
theorem Kp.map {z z' : Prop} {a : Addr} {o : Obj} {h h' : Heap} (k : Kp z a o h) (q : z → z') (g : ∀ {o' : Obj}, h.get? a = some o' → h'.get? a = some o') : Kp z' a o h' := by
  cases k with
  | same e => exact .same (g e)
  | slot hz hd sl e => exact .slot (q hz) hd sl (g e)
theorem Kp.trans {z : Prop} {a : Addr} {o : Obj} {h h' : Heap} (k : Kp z a o h) (g : ∀ {o' : Obj}, h.get? a = some o' → Kp z a o' h') : Kp z a o h' := by
  cases k with
  | same e => exact g e
  | slot hz hd sl e =>
    cases g e with
    | same e' => exact .slot hz hd sl e'
    | slot _ _ sl' e' => exact .slot hz hd sl' e'
theorem Kp.live {z : Prop} {a : Addr} {o : Obj} {h : Heap} (k : Kp z a o h) : ∃ o', h.get? a = some o' := by
  cases k with
  | same e => exact ⟨_, e⟩
  | slot _ _ _ e => exact ⟨_, e⟩
theorem Kp.ns {z : Prop} {L : Addr} {m : Str → Option Value} {h h' : Heap} (n : h.Ns L m) (k : ∀ {o : Obj}, h.get? L = some o → Kp z L o h') : h'.Ns L m := by
  obtain ⟨o, es, ep, ho, r⟩ := n
  cases k ho with
  | same e => exact ⟨o, es, ep, e, r⟩
  | slot _ _ sl e => exact ⟨_, es, ep, e, r⟩
structure Lv (h h' : Heap) : Prop where
  go : ∀ {a : Addr} {o : Obj}, h.get? a = some o → ∃ o', h'.get? a = some o' ∧ (DT o → DT o')
theorem Lv.trans {h h' h'' : Heap} (x : Lv h h') (y : Lv h' h'') : Lv h h'' := ⟨fun e => let ⟨_, e1, n1⟩ := x.go e; let ⟨o, e2, n2⟩ := y.go e1; ⟨o, e2, fun n => n2 (n1 n)⟩⟩
theorem Lv.grow {h h' : Heap} (k : ∀ {a : Addr} {o : Obj}, h.get? a = some o → h'.get? a = some o) : Lv h h' := ⟨fun e => ⟨_, k e, id⟩⟩
theorem Lv.but {h h' : Heap} {c : Addr} {oc : Obj} (ec : h'.get? c = some oc) (nc : ∀ {o : Obj}, h.get? c = some o → DT o → DT oc) (k : ∀ {a : Addr} {o : Obj}, h.get? a = some o → ¬ (a = c) → h'.get? a = some o) : Lv h h' := ⟨fun {a o} e => by
  by_cases q : a = c
  · subst q; exact ⟨oc, ec, nc e⟩
  · exact ⟨o, k e q, id⟩⟩
noncomputable def FF (z : Addr → Prop) (h g : Heap) : List Env → Prop
  | [] => True
  | env :: r => env.scope.kind ≠ .module ∧ (∃ L o, env.frame = some L ∧ g.get? L = none ∧ h.get? L = some o ∧ DT o ∧ ¬ z L) ∧ FF z h g r
theorem FF.map {z z' : Addr → Prop} {h h' g : Heap} (k : ∀ {L : Addr} {o : Obj}, h.get? L = some o → DT o → ¬ z L → ∃ o', h'.get? L = some o' ∧ DT o' ∧ ¬ z' L) : ∀ {l : List Env}, FF z h g l → FF z' h' g l
  | [], _ => trivial
  | _ :: _, ⟨hk, ⟨L, o, hf, hn, ho, hd, hz⟩, hr⟩ => let ⟨o', e, n, q⟩ := k ho hd hz; ⟨hk, ⟨L, o', hf, hn, e, n, q⟩, FF.map k hr⟩
theorem FF.fun {z : Addr → Prop} {h g : Heap} : ∀ {l : List Env}, FF z h g l → h.FunFrames g l
  | [], _ => trivial
  | _ :: _, ⟨hk, ⟨L, o, hf, hn, ho, hd, _⟩, hr⟩ => ⟨hk, ⟨L, o, hf, hn, ho, fun vs q => by obtain ⟨es, ep, hd⟩ := hd; rw [hd] at q; cases q⟩, FF.fun hr⟩
theorem Lv.ff {z : Addr → Prop} {h h' g : Heap} (x : Lv h h') {l : List Env} (f : FF z h g l) : FF z h' g l := FF.map (fun e n q => let ⟨o, e', n'⟩ := x.go e; ⟨o, e', n' n, q⟩) f
structure Ext (env : Env) (μ μ' : List Addr) (h h' : Heap) : Prop where
  pre : μ <+: μ'
  stay : ∀ {a : Addr} {o : Obj}, h.get? a = some o → ¬ Own μ env a → Kp True a o h'
  new : ∀ {a : Addr}, a ∈ μ' → a ∉ μ → h.get? a = none
  live : Lv h h'
structure Bs where
  h : Heap
  g : Heap
  fs : List Env
  q : Bool
  gb : ∀ a o, g.get? a = some o → h.get? a = some o
noncomputable abbrev Bs.get? (B : Bs) (a : Addr) : Option Obj := B.h.get? a
structure St (C : Cx) (base : Bs) (b : Nat) (env : Env) (Γ : List Str) (ρ : A8) (μ : List Addr) (H : A0) (s : Shared) : Prop where
  keep : ∀ a o, base.get? a = some o → Kp (base.g.get? a = none) a o s.heap
  hp : Cm C μ H s.heap
  er : Ee C μ s.heap env Γ ρ
  fresh : ∀ {i : Nat} {a : Addr}, b ≤ i → μ[i]? = some a → base.get? a = none
  noloc : base.get? env.locals = none
  lm : env.locals ∉ μ
  nocell : ∀ {x : Str} {c : Addr}, env.cells.lookup x = some c → base.get? c = none
  gens : s.gens = #[]
  os : s.os = C.os
  zl : ∀ {a : Addr}, C.z a → ∃ o, s.heap.get? a = some o
  ff : FF C.z s.heap base.g base.fs
section
variable {C : Cx} {μ μ' μ'' : List Addr} {h h' h'' : Heap} {env : Env} {Γ : List Str} {ρ : A8} {H H' : A0}
theorem Ext.refl : Ext env μ μ h h := ⟨List.prefix_rfl, fun e _ => .same e, fun p q => absurd p q, .grow fun e => e⟩
theorem Ext.trans (x : Ext env μ μ' h h') (y : Ext env μ' μ'' h' h'') : Ext env μ μ'' h h'' := by
  refine ⟨x.pre.trans y.pre, fun {a o} e ho => (x.stay e ho).trans fun e' => y.stay e' ?_, fun {a} hm hn => ?_, x.live.trans y.live⟩
  · rintro (q | q | q)
    · by_cases hq : a ∈ μ
      · exact ho (.inl hq)
      · rw [x.new q hq] at e; cases e
    · exact ho (.inr (.inl q))
    · exact ho (.inr (.inr q))
  · by_cases hq : a ∈ μ'
    · exact x.new hq hn
    · cases e : h.get? a with
      | none => rfl
      | some o => obtain ⟨o', e', _⟩ := x.live.go e; rw [y.new hm hq] at e'; cases e'
theorem Bw {μ μ' : List Addr} {n : Nat} {a : Addr} (p : μ <+: μ') (e : μ[n]? = some a) : μ'[n]? = some a := by
  obtain ⟨t, rfl⟩ := p
  rw [List.getElem?_append_left (List.getElem?_eq_some_iff.mp e).1]; exact e
inductive Zu (o : Obj) : Prop
  | list (vs : Array Value) (k : Nat) (e : o = { cls := .type "list", data := .seq vs k }) : Zu o
  | dict (es : Array DictEntry) (ep : Nat) (e : o.data = .dict es ep) : Zu o
inductive P4 (o : Obj) : Prop
  | mem (m : Zu o) : P4 o
  | cell (v : Option Value) (e : o.data = .cell v) : P4 o
theorem Zu.of (R : Cm C μ H h) {a : Addr} {o : Obj} (q : a ∈ μ) (ho : h.get? a = some o) : Zu o := by
  obtain ⟨i, e⟩ := List.mem_iff_getElem?.mp q
  cases hH : H[i]? with
  | none => rw [List.getElem?_eq_none_iff, ← R.len] at hH; rw [List.getElem?_eq_none hH] at e; cases e
  | some x =>
    cases x with
    | list xs =>
      obtain ⟨_, b, vs, e', ⟨k, p⟩, _⟩ := R.list hH
      rw [e] at e'; cases e'
      rw [p] at ho; cases ho
      exact .list _ _ rfl
    | dict =>
      obtain ⟨b, k, e', p⟩ := R.dict hH
      rw [e] at e'; cases e'
      rw [p] at ho; cases ho
      exact .dict _ _ rfl
theorem P4.of (R : Cm C μ H h) (N : Ee C μ h env Γ ρ) {a : Addr} {o : Obj} (q : Own μ env a) (ho : h.get? a = some o) : P4 o := by
  rcases q with q | q | ⟨x, q⟩
  · exact .mem (.of R q ho)
  · subst q
    obtain ⟨m, ⟨o', es, ep, ho', hd', _⟩, _⟩ := N.ns
    rw [ho'] at ho; cases ho; exact .mem (.dict _ _ hd')
  · obtain ⟨o', o'', ho', hd'⟩ := N.cell q
    rw [ho'] at ho; cases ho; exact .cell _ hd'
theorem P4.noF {o : Obj} {vs : Array Value} (q : P4 o) (hd : o.data = .fields vs) : False := by
  cases q with
  | mem m => cases m with
    | list vs k e => subst e; cases hd
    | dict es ep e => rw [hd] at e; cases e
  | cell v e => rw [hd] at e; cases e
theorem P4.noT {o : Obj} {vs : Array Value} {n : Nat} (q : P4 o) (hc : o.cls = .type "tuple") (hd : o.data = .seq vs n) : False := by
  cases q with
  | mem m => cases m with
    | list vs k e => subst e; simp at hc
    | dict es ep e => rw [hd] at e; cases e
  | cell v e => rw [hd] at e; cases e
theorem D7 (R : Cm C μ H h) (N : Ee C μ h env Γ ρ) {a : Addr} {Af : Array Value} (t : h.IsTuple a Af) : ¬ Own μ env a := fun q =>
  let ⟨_, ho, hc, _, hd⟩ := t; (P4.of R N q ho).noT hc hd
theorem C4 (R : Cm C μ H h) (N : Ee C μ h env Γ ρ) {a : Addr} {o : Obj} {vs : Array Value} (ho : h.get? a = some o) (hd : o.data = .fields vs) : ¬ Own μ env a := fun q => (P4.of R N q ho).noF hd
theorem IsTuple.stays {a : Addr} {Af : Array Value} (t : h.IsTuple a Af) (e : ∀ o, h.get? a = some o → h'.get? a = some o) : h'.IsTuple a Af :=
  let ⟨o, ho, r⟩ := t; ⟨o, e o ho, r⟩
theorem IsTuple.kept {z : Prop} {a : Addr} {Af : Array Value} (t : h.IsTuple a Af) (e : ∀ {o : Obj}, h.get? a = some o → Kp z a o h') : h'.IsTuple a Af :=
  let ⟨o, ho, hc, n, hd⟩ := t; ⟨o, (e ho).ex (fun _ _ q => by rw [hd] at q; cases q), hc, n, hd⟩
theorem VR.gmap (hr : ∀ {n : Nat} {a : Addr}, μ[n]? = some a → μ'[n]? = some a) (ht : ∀ {a : Addr} {its : Array Value}, h.IsTuple a its → h'.IsTuple a its)
    (he : ∀ {a : Addr} {o : Obj} {vs : Array Value}, h.get? a = some o → o.data = .fields vs → ∃ o' vs', h'.get? a = some o' ∧ o'.cls = o.cls ∧ o'.data = .fields vs') {x : AV} {v : Value} (q : VR C μ h x v) : VR C μ' h' x v :=
  @VR.rec C μ h (fun x v _ => VR C μ' h' x v) (fun xs vs _ => VRs C μ' h' xs vs) .none .bool .int .str (fun t z l _ ih => .tup (ht t) z l ih) (fun e => .ref (hr e)) .scr .fn
    (fun hk e z hc hd => let ⟨_, hd⟩ := hd; let ⟨_, vs', e', c', d'⟩ := he e hd; .exc hk e' z (c'.trans hc) ⟨vs', d'⟩) .nil (fun _ _ a r => .cons a r) x v q
theorem VRs.gmap (hr : ∀ {n : Nat} {a : Addr}, μ[n]? = some a → μ'[n]? = some a) (ht : ∀ {a : Addr} {its : Array Value}, h.IsTuple a its → h'.IsTuple a its)
    (he : ∀ {a : Addr} {o : Obj} {vs : Array Value}, h.get? a = some o → o.data = .fields vs → ∃ o' vs', h'.get? a = some o' ∧ o'.cls = o.cls ∧ o'.data = .fields vs') {xs : List AV} {vs : List Value} (q : VRs C μ h xs vs) : VRs C μ' h' xs vs := by
  induction xs generalizing vs with
  | nil => cases q; exact .nil
  | cons x xs ih => cases q with
    | cons a r => exact .cons (VR.gmap hr ht he a) (ih r)
theorem Kp.fields {z : Prop} {a : Addr} {o : Obj} {vs : Array Value} (e : Kp z a o h') (hd : o.data = .fields vs) : ∃ o' vs', h'.get? a = some o' ∧ o'.cls = o.cls ∧ o'.data = .fields vs' :=
  ⟨o, vs, e.ex (fun _ _ q => by rw [hd] at q; cases q), rfl, hd⟩
theorem VR.mono' {P : Addr → Prop} (p : μ <+: μ') (st : ∀ {a : Addr} {o : Obj}, h.get? a = some o → ¬ P a → Kp True a o h')
    (ht : ∀ {a : Addr} {Af : Array Value}, h.IsTuple a Af → ¬ P a) (hf : ∀ {a : Addr} {o : Obj} {vs : Array Value}, h.get? a = some o → o.data = .fields vs → ¬ P a) {x : AV} {v : Value} (q : VR C μ h x v) : VR C μ' h' x v :=
  q.gmap (Bw p) (fun t => IsTuple.kept t fun e => st e (ht t)) fun e hd => (st e (hf e hd)).fields hd
theorem VRs.mono' {P : Addr → Prop} (p : μ <+: μ') (st : ∀ {a : Addr} {o : Obj}, h.get? a = some o → ¬ P a → Kp True a o h')
    (ht : ∀ {a : Addr} {Af : Array Value}, h.IsTuple a Af → ¬ P a) (hf : ∀ {a : Addr} {o : Obj} {vs : Array Value}, h.get? a = some o → o.data = .fields vs → ¬ P a) {xs : List AV} {vs : List Value} (q : VRs C μ h xs vs) : VRs C μ' h' xs vs :=
  q.gmap (Bw p) (fun t => IsTuple.kept t fun e => st e (ht t)) fun e hd => (st e (hf e hd)).fields hd
theorem VR.mono (R : Cm C μ H h) (N : Ee C μ h env Γ ρ) (x : Ext env μ μ' h h') {a : AV} {v : Value} (q : VR C μ h a v) : VR C μ' h' a v :=
  VR.mono' (P := Own μ env) x.pre x.stay (D7 R N) (C4 R N) q
theorem VRs.mono (R : Cm C μ H h) (N : Ee C μ h env Γ ρ) (x : Ext env μ μ' h h') {a : List AV} {v : List Value} (q : VRs C μ h a v) : VRs C μ' h' a v :=
  VRs.mono' (P := Own μ env) x.pre x.stay (D7 R N) (C4 R N) q
theorem VR.keeps (k : ∀ {a : Addr} {o : Obj}, h.get? a = some o → h'.get? a = some o) {a : AV} {v : Value} (q : VR C μ h a v) : VR C μ h' a v :=
  VR.mono' (P := fun _ => False) List.prefix_rfl (fun e _ => .same (k e)) (fun _ => id) (fun _ _ => id) q
theorem VRs.keeps (k : ∀ {a : Addr} {o : Obj}, h.get? a = some o → h'.get? a = some o) {a : List AV} {v : List Value} (q : VRs C μ h a v) : VRs C μ h' a v :=
  VRs.mono' (P := fun _ => False) List.prefix_rfl (fun e _ => .same (k e)) (fun _ => id) (fun _ _ => id) q
end
end Mine
namespace Mine
open PySem PySem.Calls PyProof.Rows
section
variable {C : Cx} {μ μ' μ'' : List Addr} {h h' h'' : Heap} {base : Bs} {env : Env} {Γ : List Str} {ρ : A8} {H H' : A0} {b : Nat} {s s' : Shared}
theorem Ee.mono (N : Ee C μ h env Γ ρ) (hL : ∀ m, h.Ns env.locals m → h'.Ns env.locals m)
    (hc : ∀ (x : Str) (c : Addr) (o : Obj), env.cells.lookup x = some c → h.get? c = some o → h'.get? c = some o) (hv : ∀ {x : AV} {v : Value}, VR C μ h x v → VR C μ' h' x v) : Ee C μ' h' env Γ ρ where
  kind := N.kind
  ns := by
    obtain ⟨m, n, q⟩ := N.ns
    exact ⟨m, hL m n, fun e k r => let ⟨u, e', v⟩ := q e k r; ⟨u, e', hv v⟩⟩
  cells := fun k => by
    refine bC fun hno => ?_
    obtain ⟨c, o, e, ⟨ob, eb, db⟩, q⟩ := N.cells k
    refine hno ?_
    exact ⟨c, o, e, ⟨ob, hc _ c ob e eb, db⟩, fun e r => let ⟨u, e', v⟩ := q e r; ⟨u, e', hv v⟩⟩
  cell := fun e => let ⟨o, ob, eb, db⟩ := N.cell e; ⟨o, ob, hc _ _ ob e eb, db⟩
  inj := N.inj
  globals := N.globals
  builtins := N.builtins
theorem Cm.get (R : Cm C μ H h) {i : Nat} {a : Addr} (e : μ[i]? = some a) : ∃ o, H[i]? = some o := by
  have : i < H.length := R.len ▸ (List.getElem?_eq_some_iff.mp e).1
  exact ⟨_, List.getElem?_eq_getElem this⟩
theorem Cm.keeps (R : Cm C μ H h) (k : ∀ {a : Addr} {o : Obj}, h.get? a = some o → h'.get? a = some o) : Cm C μ H h' where
  len := R.len
  nd := R.nd
  list := fun e => by
    obtain ⟨l, a, vs, e', ⟨n, p⟩, q⟩ := R.list e
    exact ⟨l, a, vs, e', ⟨n, k p⟩, q.keeps k⟩
  dict := fun e => let ⟨a, n, e', p⟩ := R.dict e; ⟨a, n, e', k p⟩
theorem St.grow (S : St C base b env Γ ρ μ H s) (k : ∀ {a : Addr} {o : Obj}, s.heap.get? a = some o → s'.heap.get? a = some o) (hg : s'.gens = s.gens) (ho : s'.os = s.os) : St C base b env Γ ρ μ H s' where
  keep := fun a o e => (S.keep a o e).map id k
  hp := S.hp.keeps k
  er := S.er.mono (fun _ n => n.at fun _ e => k e) (fun _ _ _ _ e => k e) (fun q => q.keeps k)
  fresh := S.fresh
  noloc := S.noloc
  lm := S.lm
  nocell := S.nocell
  gens := hg.trans S.gens
  os := ho.trans S.os
  zl := fun z => let ⟨_, e⟩ := S.zl z; ⟨_, k e⟩
  ff := (Lv.grow k).ff S.ff
theorem Ext.grow (k : ∀ {a : Addr} {o : Obj}, h.get? a = some o → h'.get? a = some o) : Ext env μ μ h h' := ⟨List.prefix_rfl, fun e _ => .same (k e), fun p q => absurd p q, .grow k⟩
theorem A3v {m m' : Str → Option Value} {L : Addr} (n : h.Ns L m) (n' : h.Ns L m') : m = m' := by
  refine bC fun hno => ?_
  obtain ⟨o, es, ep, ho, hd, _, e⟩ := n
  obtain ⟨o', es', ep', ho', hd', _, e'⟩ := n'
  rw [ho] at ho'; cases ho'; rw [hd] at hd'; cases hd'
  refine hno ?_
  funext x; rw [← e, ← e']
theorem get_memμ {μ : List Addr} {a : Addr} {i : Nat} (q : μ[i]? = some a) : a ∈ μ := List.mem_iff_getElem?.mpr ⟨i, q⟩
theorem St.core {D : Addr} {ρ' : A8} {H' : A0} {s' : Shared} (S : St C base b env Γ ρ μ H s) (own : Own μ env D) (hb : base.get? D = none)
    (st : ∀ {c : Addr} {o : Obj}, s.heap.get? c = some o → ¬ (c = D) → s'.heap.get? c = some o) (lv : Lv s.heap s'.heap) (hg : s'.gens = s.gens) (ho : s'.os = s.os)
    (hp : (∀ {x : List AV} {v : List Value}, VRs C μ s.heap x v → VRs C μ s'.heap x v) → Cm C μ H' s'.heap)
    (er : (∀ {x : AV} {v : Value}, VR C μ s.heap x v → VR C μ s'.heap x v) → Ee C μ s'.heap env Γ ρ') : St C base b env Γ ρ' μ H' s' ∧ Ext env μ μ s.heap s'.heap := by
  have ht : ∀ {c : Addr} {Af : Array Value}, s.heap.IsTuple c Af → ¬ (c = D) := fun t e => D7 S.hp S.er t (e ▸ own)
  have hf : ∀ {c : Addr} {o : Obj} {vs : Array Value}, s.heap.get? c = some o → o.data = .fields vs → ¬ (c = D) := fun e d e' => C4 S.hp S.er e d (e' ▸ own)
  refine ⟨⟨fun c o e => (S.keep c o e).map id fun e1 => st e1 fun e' => ?_, hp fun q => VRs.mono' (P := (· = D)) List.prefix_rfl (fun e n => .same (st e n)) ht hf q, er fun q => VR.mono' (P := (· = D)) List.prefix_rfl (fun e n => .same (st e n)) ht hf q, S.fresh, S.noloc, S.lm, S.nocell, hg.trans S.gens, ho.trans S.os, fun z => ?_, lv.ff S.ff⟩,
    ⟨List.prefix_rfl, fun e n => .same (st e fun e' => n (e' ▸ own)), fun p q => absurd p q, lv⟩⟩
  · rw [e', hb] at e; cases e
  · obtain ⟨o, e⟩ := S.zl z
    obtain ⟨o', e', _⟩ := lv.go e
    exact ⟨o', e'⟩
theorem St.but {D : Addr} {ρ' : A8} {s' : Shared} (S : St C base b env Γ ρ μ H s) (own : Own μ env D) (hm : D ∉ μ) (hb : base.get? D = none)
    (st : ∀ {c : Addr} {o : Obj}, s.heap.get? c = some o → ¬ (c = D) → s'.heap.get? c = some o) (lv : Lv s.heap s'.heap) (hg : s'.gens = s.gens) (ho : s'.os = s.os)
    (er : (∀ {x : AV} {v : Value}, VR C μ s.heap x v → VR C μ s'.heap x v) → Ee C μ s'.heap env Γ ρ') : St C base b env Γ ρ' μ H s' ∧ Ext env μ μ s.heap s'.heap :=
  S.core own hb st lv hg ho (fun monos => ⟨S.hp.len, S.hp.nd, fun e => let ⟨l, c, ws, e', ⟨k, p⟩, q⟩ := S.hp.list e; ⟨l, c, ws, e', ⟨k, st p fun q => hm (q ▸ get_memμ e')⟩, monos q⟩,
    fun e => let ⟨c, k, e', p⟩ := S.hp.dict e; ⟨c, k, e', st p fun q => hm (q ▸ get_memμ e')⟩⟩) er
theorem Qv {c : Addr} {o : Option Value} {L : Addr} {m : Str → Option Value} (hc : h.IsCell c o) (n : h.Ns L m) : c ≠ L := fun e => by
  subst e; obtain ⟨ob, eb, db⟩ := hc; obtain ⟨o', es, ep, ho, hd, _⟩ := n
  rw [eb] at ho; cases ho; rw [db] at hd; cases hd
theorem A31 {L : Addr} {m : Str → Option Value} (n' : h'.Ns L m) (k : ∀ {a : Addr} {o : Obj}, h.get? a = some o → ¬ (a = L) → h'.get? a = some o) : Lv h h' :=
  let ⟨_, _, _, ho', hd, _⟩ := n'; .but ho' (fun _ _ => ⟨_, _, hd⟩) k
theorem Ee.cellne (N : Ee C μ h env Γ ρ) {x : Str} {c : Addr} (e : env.cells.lookup x = some c) : ¬ (c = env.locals) :=
  let ⟨_, hc⟩ := N.cell e; let ⟨_, n, _⟩ := N.ns; Qv hc n
theorem St.growL (S : St C base b env Γ ρ μ H s) {m : Str → Option Value} (n : s.heap.Ns env.locals m) (n' : s'.heap.Ns env.locals m) (k : ∀ {a : Addr} {o : Obj}, a ≠ env.locals → s.heap.get? a = some o → s'.heap.get? a = some o) (hg : s'.gens = s.gens) (ho : s'.os = s.os) :
    St C base b env Γ ρ μ H s' ∧ Ext env μ μ s.heap s'.heap :=
  S.but (.inr (.inl rfl)) S.lm S.noloc (fun e q => k q e) (A31 n' fun e q => k q e) hg ho fun mono => S.er.mono (fun m' x => A3v n x ▸ n') (fun _ _ _ e1 e2 => k (S.er.cellne e1) e2) mono
theorem St.tok (S : St C base b env Γ ρ μ H s) (t : Nat) : St C base b env Γ ρ μ H { s with toks := t } := S.grow (fun e => e) rfl rfl
theorem size_push (h : Heap) (o : Obj) : (h.push o).objs.size = h.objs.size + 1 := Heap.size_push ..
theorem St.push (S : St C base b env Γ ρ μ H s) (o : Obj) : St C base b env Γ ρ μ H { s with heap := s.heap.push o } := S.grow (fun e => Heap.get?_push_of_some _ e) rfl rfl
theorem Ext.push (o : Obj) : Ext env μ μ h (h.push o) := Ext.grow (fun e => Heap.get?_push_of_some _ e)
theorem Xg {μ : List Addr} {a : Addr} (q : a ∈ μ) : ∃ i : Nat, μ[i]? = some a := List.mem_iff_getElem?.mp q
theorem M9 {μ : List Addr} {a : Addr} {i : Nat} (q : μ[i]? = some a) : a ∈ μ := List.mem_iff_getElem?.mpr ⟨i, q⟩
theorem Cm.live (R : Cm C μ H h) {a : Addr} (q : a ∈ μ) : ∃ o, h.get? a = some o := by
  obtain ⟨i, e⟩ := Xg q
  obtain ⟨o, eo⟩ := R.get e
  cases o with
  | list xs => obtain ⟨_, a', vs, e', ⟨n, p⟩, _⟩ := R.list eo; rw [e] at e'; cases e'; exact ⟨_, p⟩
  | dict => obtain ⟨a', n, e', p⟩ := R.dict eo; rw [e] at e'; cases e'; exact ⟨_, p⟩
theorem Ax (h : Heap) : h.get? h.objs.size = none := by
  cases e : h.get? h.objs.size with
  | none => rfl
  | some o => exact absurd (Heap.lt_size e) (Nat.lt_irrefl _)
theorem Do {h : Heap} {a : Addr} (ha : h.objs.size ≤ a) : h.get? a = none := by
  cases e : h.get? a with
  | none => rfl
  | some o => exact absurd (Heap.lt_size e) (Nat.not_lt.mpr ha)
theorem PlainList.not_ns {a : Addr} {Af : Array Value} {m : Str → Option Value} (p : h.PlainList a Af) (n : h.Ns a m) : False := by
  obtain ⟨k, p⟩ := p
  obtain ⟨o, es, ep, ho, hd, _⟩ := n
  rw [p] at ho; cases ho; cases hd
theorem PlainList.not_cell {a : Addr} {Af : Array Value} {v : Option Value} (p : h.PlainList a Af) (n : h.IsCell a v) : False := by
  obtain ⟨k, p⟩ := p
  obtain ⟨o, ho, hd⟩ := n
  rw [p] at ho; cases ho; cases hd
inductive A48 {α : Type} (l : List α) (x y : α) (i : Nat) : Prop
  | old (e : l[i]? = some y) : A48 l x y i
  | new (hi : i = l.length) (hy : y = x) : A48 l x y i
theorem Mi {α : Type} {l : List α} {x y : α} {i : Nat} (e : (l ++ [x])[i]? = some y) : A48 l x y i := by
  by_cases hi : i < l.length
  · rw [List.getElem?_append_left hi] at e; exact .old e
  · by_cases h : i = l.length
    · subst h; rw [List.getElem?_concat_length] at e; exact .new rfl (Option.some.inj e).symm
    · rw [List.getElem?_eq_none (by rw [List.length_append, List.length_singleton]; exact Nat.lt_of_le_of_ne (Nat.not_lt.mp hi) (Ne.symm h))] at e; cases e
theorem St.trackO (S : St C base b env Γ ρ μ H s) {a : Addr} {o : Br} (h1 : ∀ {xs : List AV}, o = .list xs → xs.length ≤ lim ∧ ∃ vs : List Value, s.heap.PlainList a vs.toArray ∧ VRs C μ s.heap xs vs)
    (h2 : o = .dict → ∃ n : Nat × Array (Option Value), s.heap.get? a = some { cls := .type "dict", data := .dict #[] n.1, slots := n.2 }) (hn : a ∉ μ) (hne : env.locals ≠ a) (hb : base.get? a = none) :
    St C base b env Γ ρ (μ ++ [a]) (H ++ [o]) s := by
  have p := List.prefix_append μ [a]
  have last : (μ ++ [a])[H.length]? = some a := by rw [← S.hp.len]; exact List.getElem?_concat_length
  have monos : ∀ {x : List AV} {v : List Value}, VRs C μ s.heap x v → VRs C (μ ++ [a]) s.heap x v := fun q => q.gmap (Bw p) id fun e d => ⟨_, _, e, rfl, d⟩
  refine ⟨S.keep, ⟨by rw [List.length_append, List.length_append, S.hp.len]; rfl, List.nodup_append.mpr ⟨S.hp.nd, List.pairwise_singleton _ _, fun x hx y hy e => ?_⟩, fun e => ?_, fun e => ?_⟩, S.er.mono (fun _ e => e) (fun _ _ _ _ e => e) (fun q => q.gmap (Bw p) id fun e d => ⟨_, _, e, rfl, d⟩), fun hi e => ?_, S.noloc, fun q => ?_, S.nocell, S.gens, S.os, S.zl, S.ff⟩
  · rw [List.mem_singleton.mp hy] at e; exact hn (e ▸ hx)
  · cases Mi e with
    | old e => obtain ⟨l, c, us, e', p', q⟩ := S.hp.list e; exact ⟨l, c, us, Bw p e', p', monos q⟩
    | new hi hy => obtain ⟨l, vs, p', q⟩ := h1 hy.symm; exact ⟨l, a, vs, hi ▸ last, p', monos q⟩
  · cases Mi e with
    | old e => obtain ⟨c, n, e', p'⟩ := S.hp.dict e; exact ⟨c, n, Bw p e', p'⟩
    | new hi hy => obtain ⟨n, p'⟩ := h2 hy.symm; exact ⟨a, n, hi ▸ last, p'⟩
  · cases Mi e with
    | old e => exact S.fresh hi e
    | new _ hy => rw [hy]; exact hb
  · rcases List.mem_append.mp q with q | q
    · exact S.lm q
    · exact hne (List.mem_singleton.mp q)
theorem St.track (S : St C base b env Γ ρ μ H s) {a : Addr} {vs : List Value} {xs : List AV} (hl : s.heap.PlainList a vs.toArray) (hv : VRs C μ s.heap xs vs) (hn : a ∉ μ) (hb : base.get? a = none) (hz : xs.length ≤ lim) :
    St C base b env Γ ρ (μ ++ [a]) (H ++ [.list xs]) s :=
  S.trackO (fun e => by cases e; exact ⟨hz, vs, hl, hv⟩) (fun e => by cases e) hn (fun e => by obtain ⟨_, n, _⟩ := S.er.ns; exact PlainList.not_ns hl (e ▸ n)) hb
theorem Ext.track {a : Addr} (ha : h.get? a = none) (k : ∀ {a : Addr} {o : Obj}, h.get? a = some o → h'.get? a = some o) : Ext env μ (μ ++ [a]) h h' :=
  ⟨List.prefix_append .., fun e _ => .same (k e), fun p q => by
    rcases List.mem_append.mp p with p | p
    · exact absurd p q
    · simp at p; subst p; exact ha, .grow k⟩
theorem Ext.trackX {a : Addr} (x : Ext env μ μ' h h') (ha : h.get? a = none) : Ext env μ (μ' ++ [a]) h h' :=
  ⟨x.pre.trans (List.prefix_append ..), x.stay, fun p q => by
    rcases List.mem_append.mp p with p | p
    · exact x.new p q
    · simp at p; subst p; exact ha, x.live⟩
theorem Bq (S : St C base b env Γ ρ μ H s) {a : Addr} (ha : s.heap.get? a = none) : base.get? a = none := by
  cases e : base.get? a with
  | none => rfl
  | some o => obtain ⟨o', e'⟩ := (S.keep _ _ e).live; rw [e'] at ha; cases ha
theorem Ge (S : St C base b env Γ ρ μ H s) {a : Addr} (ha : s.heap.get? a = none) : a ∉ μ := fun q => by
  obtain ⟨o, e⟩ := S.hp.live q; rw [ha] at e; cases e
theorem St.newList (S : St C base b env Γ ρ μ H s) {vs : List Value} {xs : List AV} (hv : VRs C μ s.heap xs vs) (hz : xs.length ≤ lim) :
    St C base b env Γ ρ (μ ++ [s.heap.objs.size]) (H ++ [.list xs]) { s with heap := s.heap.push { cls := .type "list", data := .seq vs.toArray } } :=
  (S.push _).track (vs := vs) ⟨0, Heap.get?_push_size _ rfl⟩ (hv.keeps fun e => Heap.get?_push_of_some _ e) (Ge S (Ax _)) (Bq S (Ax _)) hz
theorem Ext.newList {o : Obj} : Ext env μ (μ ++ [h.objs.size]) h (h.push o) := Ext.track (Ax _) fun e => Heap.get?_push_of_some _ e
theorem St.turn (S : St C base b env Γ ρ μ H s) {r : Nat} {a : Addr} {xs ys : List AV} {us : List Value} {h' : Heap} (er : H[r]? = some (.list xs)) (ea : μ[r]? = some a) (hb : b ≤ r)
    (hl : h'.PlainList a us.toArray) (hs : Heap.SameBut a s.heap h') (hv : VRs C μ s.heap ys us) (hz : ys.length ≤ lim) :
    St C base b env Γ ρ μ (H.set r (.list ys)) { s with heap := h' } ∧ Ext env μ μ s.heap h' := by
  obtain ⟨_, a', vs, ea', pl, _⟩ := S.hp.list er
  rw [ea] at ea'; cases ea'
  have st : ∀ {c : Addr} {o : Obj}, s.heap.get? c = some o → ¬ (c = a) → h'.get? c = some o := fun e n => (hs.2 _ n).trans e
  have hr : r < H.length := (List.getElem?_eq_some_iff.mp er).1
  have hne : ∀ {i : Nat} {c : Addr}, i ≠ r → μ[i]? = some c → c ≠ a := fun {i c} hi e e' => hi ((List.getElem?_inj (List.getElem?_eq_some_iff.mp e).1 S.hp.nd).mp (e.trans (e' ▸ ea.symm)))
  have lv : Lv s.heap h' := let ⟨_, p⟩ := hl; let ⟨_, p'⟩ := pl; .but p (fun e d => by rw [p'] at e; cases e; obtain ⟨_, _, q⟩ := d; cases q) st
  refine S.core (s' := { s with heap := h' }) (.inl (get_memμ ea)) (S.fresh hb ea) st lv rfl rfl (fun monos => ⟨by rw [List.length_set]; exact S.hp.len, S.hp.nd, fun {i zs} e => ?_, fun {i} e => ?_⟩)
    fun mono => S.er.mono (fun m n => n.at fun _ e => st e fun e' => PlainList.not_ns pl (e' ▸ n)) (fun x c o e1 e2 => st e2 fun e' => let ⟨_, n⟩ := S.er.cell e1; PlainList.not_cell pl (e' ▸ n)) mono
  · by_cases hi : i = r
    · subst hi
      rw [List.getElem?_set_self hr] at e
      cases e
      exact ⟨hz, a, us, ea, hl, monos hv⟩
    · rw [List.getElem?_set_ne (Ne.symm hi)] at e
      obtain ⟨l, c, ws, e', ⟨n, p⟩, q⟩ := S.hp.list e
      exact ⟨l, c, ws, e', ⟨n, st p (hne hi e')⟩, monos q⟩
  · by_cases hi : i = r
    · subst hi
      rw [List.getElem?_set_self hr] at e
      cases e
    · refine bC fun hno => ?_
      rw [List.getElem?_set_ne (Ne.symm hi)] at e
      obtain ⟨c, n, e', p⟩ := S.hp.dict e
      refine hno ?_
      exact ⟨c, n, e', st p (hne hi e')⟩
theorem Qp {Γ : List Str} {x : Str} {i : Nat} (e : slot Γ x = some i) : Γ[i]? = some x := by
  unfold slot at e
  rw [List.findIdx?_eq_some_iff_getElem] at e
  obtain ⟨hi, h1, _⟩ := e
  rw [List.getElem?_eq_getElem hi]; exact congrArg some (eq_of_beq h1)
theorem A3t {Γ : List Str} {x y : Str} {i : Nat} (e : slot Γ x = some i) (e' : slot Γ y = some i) : x = y := by
  have := Qp e
  rw [Qp e'] at this
  exact (Option.some.inj this).symm
inductive A8e (ρ : A8) (x y : Str) (j : Nat) (v z : AV) : Prop
  | new (hy : y = x) (hz : z = v) : A8e ρ x y j v z
  | old (hy : y ≠ x) (e : ρ[j]? = some (some z)) : A8e ρ x y j v z
theorem Hv {x y : Str} {i j : Nat} {v z : AV} (ex : slot Γ x = some i) (ey : slot Γ y = some j) (e : (ρ.set i (some v))[j]? = some (some z)) : A8e ρ x y j v z := by
  by_cases hj : j = i
  · subst hj
    by_cases hl : j < ρ.length
    · rw [List.getElem?_set_self hl] at e; cases e; exact .new (A3t ex ey).symm rfl
    · rw [List.set_eq_of_length_le (Nat.not_lt.mp hl), List.getElem?_eq_none (Nat.not_lt.mp hl)] at e; cases e
  · rw [List.getElem?_set_ne (Ne.symm hj)] at e
    exact .old (fun e' => hj (by subst e'; rw [ex] at ey; exact (Option.some.inj ey).symm)) e
theorem Vv {x : Str} {i : Nat} {v : AV} {u : Value} {m : Str → Option Value} (N : Ee C μ h env Γ ρ) (ex : slot Γ x = some i) (hk : env.kindOf x = some .local) (hv : VR C μ h' v u) (n' : h'.Ns env.locals fun y => if y = x then some u else m y)
    (q : ∀ {x : Str} {i : Nat} {v : AV}, slot Γ x = some i → env.kindOf x = some .local → ρ[i]? = some (some v) → ∃ u, m x = some u ∧ VR C μ h' v u) (hs : ∀ {c : Addr} {o : Option Value}, h.IsCell c o → h'.IsCell c o)
    (mono : ∀ {x : AV} {v : Value}, VR C μ h x v → VR C μ h' x v) : Ee C μ h' env Γ (ρ.set i (some v)) := by
  refine ⟨N.kind, ⟨_, n', fun ey ky ez => ?_⟩, fun ky => ?_, fun e => ?_, N.inj, N.globals, N.builtins⟩
  · cases Hv ex ey ez with
    | new hy hz => subst hy hz; exact ⟨u, if_pos rfl, hv⟩
    | old ne ez =>
      refine bC fun hno => ?_
      obtain ⟨u', e', v'⟩ := q ey ky ez
      refine hno ?_
      exact ⟨u', (if_neg ne).trans e', v'⟩
  · refine bC fun hno => ?_
    obtain ⟨c, o, e, hc, q⟩ := N.cells ky
    refine hno ?_
    refine ⟨c, o, e, hs hc, fun ey ez => ?_⟩
    cases Hv ex ey ez with
    | new hy hz => subst hy; rw [hk] at ky; rcases ky with ky | ky <;> cases ky
    | old ne ez => obtain ⟨u', e', v'⟩ := q ey ez; exact ⟨u', e', mono v'⟩
  · refine bC fun hno => ?_
    obtain ⟨o, hc⟩ := N.cell e
    refine hno ?_
    exact ⟨o, hs hc⟩
theorem Zw {x : Str} {i : Nat} {v : AV} {u : Value} {c₀ : Addr} (N : Ee C μ h env Γ ρ) (ex : slot Γ x = some i) (hk : env.kindOf x = some .cell) (ec : env.cells.lookup x = some c₀) (hv : VR C μ h' v u) (hc' : h'.IsCell c₀ (some u))
    (ns : ∀ {m : Str → Option Value}, h.Ns env.locals m → h'.Ns env.locals m) (hs : ∀ {c : Addr} {o : Option Value}, h.IsCell c o → c ≠ c₀ → h'.IsCell c o) (mono : ∀ {x : AV} {v : Value}, VR C μ h x v → VR C μ h' x v) : Ee C μ h' env Γ (ρ.set i (some v)) := by
  obtain ⟨m, n, q⟩ := N.ns
  refine ⟨N.kind, ⟨m, ns n, fun ey ky ez => ?_⟩, fun {y} ky => ?_, fun {y c} e => ?_, N.inj, N.globals, N.builtins⟩
  · cases Hv ex ey ez with
    | new hy hz => subst hy; rw [hk] at ky; cases ky
    | old ne ez => obtain ⟨u', e', v'⟩ := q ey ky ez; exact ⟨u', e', mono v'⟩
  · obtain ⟨c, o, e, hc, q⟩ := N.cells ky
    by_cases hcc : c = c₀
    · refine ⟨c₀, some u, hcc ▸ e, hc', fun ey ez => ?_⟩
      cases Hv ex ey ez with
      | new hy hz => subst hz; exact ⟨u, rfl, hv⟩
      | old ne _ => exact absurd (N.inj (hcc ▸ e) ec) ne
    · refine ⟨c, o, e, hs hc hcc, fun ey ez => ?_⟩
      cases Hv ex ey ez with
      | new hy hz => subst hy; rw [ec] at e; cases e; exact absurd rfl hcc
      | old ne ez => obtain ⟨u', e', v'⟩ := q ey ez; exact ⟨u', e', mono v'⟩
  · by_cases hcc : c = c₀
    · exact ⟨some u, hcc ▸ hc'⟩
    · obtain ⟨o, hc⟩ := N.cell e
      exact ⟨o, hs hc hcc⟩
theorem St.bind {A : Around} {E : Value → Shared → Prop} {M : Model} (S : St C base b env Γ ρ μ H s) {x : Str} {i : Nat} {v : AV} {u : Value} {Q : Unit → Shared → Prop} (ex : slot Γ x = some i)
    (hk : env.kindOf x = some .local ∨ env.kindOf x = some .cell) (hv : VR C μ s.heap v u)
    (h : ∀ s', St C base b env Γ (ρ.set i (some v)) μ H s' → Ext env μ μ s.heap s'.heap → Q () s') : wpAny M A (storeName env x u) Q E s := by
  rcases hk with hk | hk
  · refine bC fun hno => ?_
    obtain ⟨m, n, q⟩ := S.er.ns
    refine hno ?_
    refine wpAny_storeName_local hk n (fun h' n' hs => ?_) (by rw [S.er.kind]; rfl)
    refine bC fun hno => ?_
    have st : ∀ {c : Addr} {o : Obj}, s.heap.get? c = some o → ¬ (c = env.locals) → h'.get? c = some o := fun e n => (hs.2 _ n).trans e
    obtain ⟨S', X⟩ := S.but (s' := { s with heap := h', toks := s.toks + 1 }) (.inr (.inl rfl)) S.lm S.noloc st (A31 n' st) rfl rfl fun mono =>
      Vv S.er ex hk (mono hv) n' (fun a b c => let ⟨u, e, z⟩ := q a b c; ⟨u, e, mono z⟩) (fun hc => hc.sameBut hs (Qv hc n)) mono
    refine hno ?_
    exact h _ S' X
  · refine bC fun hno => ?_
    obtain ⟨c₀, o₀, ec, hc₀, _⟩ := S.er.cells (.inl hk)
    refine hno ?_
    refine wpAny_storeName_cell S.er.kind hk ec hc₀ fun h' hc' hs => ?_
    refine bC fun hno => ?_
    have st : ∀ {c : Addr} {o : Obj}, s.heap.get? c = some o → ¬ (c = c₀) → h'.get? c = some o := fun e n => (hs.2 _ n).trans e
    obtain ⟨ob', eb', db'⟩ := id hc₀
    have lv : Lv s.heap h' := let ⟨_, eb, _⟩ := hc'; .but eb (fun e d => by rw [eb'] at e; cases e; obtain ⟨_, _, q⟩ := d; rw [db'] at q; cases q) st
    have hm : c₀ ∉ μ := fun q => by
      cases Zu.of S.hp q eb' with
      | list vs k e => subst e; cases db'
      | dict es ep e => rw [db'] at e; cases e
    obtain ⟨S', X⟩ := S.but (s' := { s with heap := h' }) (.inr (.inr ⟨x, ec⟩)) hm (S.nocell ec) st lv rfl rfl fun mono =>
      Zw S.er ex hk ec (mono hv) hc' (fun n => n.sameBut hs (Qv hc₀ n).symm) (fun hc hne => hc.sameBut hs hne) mono
    refine hno ?_
    exact h _ S' X
theorem St.kg (S : St C base b env Γ ρ μ H s) {a : Addr} {o : Obj} (e : base.g.get? a = some o) : s.heap.get? a = some o := by
  cases S.keep a o (base.gb a o e) with
  | same e' => exact e'
  | slot hz _ _ _ => rw [e] at hz; cases hz
theorem St.notZ (S : St C base b env Γ ρ μ H s) {a : Addr} (h : s.heap.get? a = none) : ¬ C.z a := fun z => by
  obtain ⟨o, e⟩ := S.zl z
  rw [h] at e; cases e
end
end Mine
namespace Mine
open PySem PySem.Calls PyProof.Rows
noncomputable def Gd (h : Heap) (L : Addr) : List (Addr × Obj) := (List.range h.objs.size).filterMap fun a => if a = L then none else (h.get? a).map fun o => (a, o)
theorem Pc (a : Addr) : ({} : Heap).get? a = none := by simp [Heap.get?]
theorem fr0 {h : Heap} {L : Addr} {m : Str → Option Value} (n : h.Ns L m) : Fr {} L h m := ⟨n, fun b o e => (by rw [Pc] at e; cases e), Nat.zero_le _⟩
theorem Tw {h : Heap} {L a : Addr} {o : Obj} (hne : a ≠ L) (e : h.get? a = some o) : (a, o) ∈ Gd h L := by
  unfold Gd
  rw [List.mem_filterMap]
  exact ⟨a, List.mem_range.mpr (Heap.lt_size e), by rw [if_neg hne, e]; rfl⟩
theorem Sc (h : Heap) (L : Addr) : News {} L h (Gd h L) := by
  intro p hp
  unfold Gd at hp
  rw [List.mem_filterMap] at hp
  obtain ⟨a, _, e⟩ := hp
  split at e
  · cases e
  · rename_i hne
    cases eo : h.get? a with
    | none => rw [eo] at e; cases e
    | some o => rw [eo] at e; cases e; exact ⟨eo, hne, Pc _⟩
theorem Qb {h h' : Heap} {L : Addr} {l : List (Addr × Obj)} (N : News {} L h' (l ++ Gd h L)) {a : Addr} {o : Obj} (hne : a ≠ L) (e : h.get? a = some o) : h'.get? a = some o :=
  (N (a, o) (List.mem_append_right _ (Tw hne e))).1
structure AOk (base : Bs) (A : Around) (n : Nat) : Prop where
  depth : A.depth + n + 60 < recursionLimit
  units : A.units + 4 * n + 400 < cLine
  handled : base.q = false → A.handled = none
  frames : A.frames = some base.fs
  guards : A.guards = some []
section
variable {C : Cx} {μ : List Addr} {h h' : Heap} {base : Bs} {env : Env} {Γ : List Str} {ρ : A8} {H H' : A0} {b : Nat} {s s' : Shared} {A : Around} {E : Value → Shared → Prop} {Q : Value → Shared → Prop}
abbrev B6 (C : Cx) (base : Bs) (b : Nat) (env : Env) (Γ : List Str) (ρ : A8) (μ : List Addr) (s : Shared) (v : AV) (H' : A0) (Q : Value → Shared → Prop) : Prop :=
  ∀ (u : Value) (s' : Shared) (μ' : List Addr), Ext env μ μ' s.heap s'.heap → St C base b env Γ ρ μ' H' s' → VR C μ' s'.heap v u → Q u s'
theorem Jm {i : Int} (h : K2 i = true) : Builtin.Int.intBits i ≤ 64 := by
  have h' : i.natAbs < 2 ^ 60 := of_decide_eq_true h
  exact intBits_le_64 (Int.lt_trans (by decide) (oAb h').1) (Int.lt_trans (oAb h').2 (by decide))
theorem Tg {i : Int} (h : i.natAbs < big) : Builtin.Int.intBits i ≤ 2 ^ 20 := by
  unfold Builtin.Int.intBits
  split
  · exact Nat.zero_le _
  · rename_i hn
    have hn' : i.natAbs ≠ 0 := by intro e; apply hn; rw [beq_iff_eq]; exact Int.natAbs_eq_zero.mp e
    have : i.natAbs.log2 < 5000 := (Nat.log2_lt hn').mpr h
    have h2 : (5000 : Nat) < 2 ^ 20 := by decide
    (first | lia | omega)
theorem A0z {a c : Int} (h : E0 a c = true) : IntMulOk a c := by
  unfold E0 at h
  simp only [Bool.or_eq_true, Bool.and_eq_true, decide_eq_true_eq] at h
  rcases h with (h | h) | h
  · exact .of_left (Jm h)
  · exact .of_right (Jm h)
  · exact .of_bits (Tg h.1) (Tg h.2)
theorem Rh {x y : Int} (h : y.natAbs < big) : Builtin.divisionGoesByPylong x y = false := by
  refine PyProof.noPylong_of_log2 ?_
  by_cases h0 : y.natAbs = 0
  · rw [h0]; decide
  · have : y.natAbs.log2 < 5000 := (Nat.log2_lt h0).mpr h
    exact Nat.lt_of_lt_of_le this (by decide)
theorem D8 {n : Nat} (h : n ≤ lim) : n ≤ sizeLine := Nat.le_trans h (by decide)
theorem IsList.of_plain {h : Heap} {a : Addr} {Af : Array Value} (p : h.PlainList a Af) : h.IsList a Af := let ⟨n, e⟩ := p; ⟨_, e, rfl, n, rfl⟩
theorem St.ledger (S : St C base b env Γ ρ μ H s) {m : Str → Option Value} {a : Addr} {xs : List AV} {vs : List Value} {h' : Heap} {n : Nat} {l : List (Addr × Obj)} (nm : s.heap.Ns env.locals m)
    (F : Fr {} env.locals h' m) (N : News {} env.locals h' (l ++ Gd s.heap env.locals)) (hl : (a, ({ cls := .type "list", data := .seq vs.toArray n } : Obj)) ∈ l)
    (ha : s.heap.get? a = none) (hv : VRs C μ s.heap xs vs) (hz : xs.length ≤ lim) : St C base b env Γ ρ (μ ++ [a]) (H ++ [.list xs]) { s with heap := h' } ∧ Ext env μ (μ ++ [a]) s.heap h' := by
  have k : ∀ {a : Addr} {o : Obj}, a ≠ env.locals → s.heap.get? a = some o → h'.get? a = some o := fun hne e => Qb N hne e
  obtain ⟨S', X⟩ := S.growL (s' := { s with heap := h' }) nm F.ns k rfl rfl
  have hv' : VRs C μ h' xs vs := VRs.mono S.hp S.er X hv
  have hp : h'.PlainList a vs.toArray := ⟨n, (N _ (List.mem_append_left _ hl)).1⟩
  exact ⟨S'.track hp hv' (Ge S ha) (Bq S ha) hz, X.trackX ha⟩
theorem VR.isInt {i : Int} {u : Value} (q : VR C μ h (.int i) u) : ∃ t, u = .int i t := by cases q; exact ⟨_, rfl⟩
theorem VR.isRef {r : Nat} {u : Value} (q : VR C μ h (.ref r) u) : ∃ a, u = .ref a ∧ μ[r]? = some a := by cases q; exact ⟨_, rfl, by assumption⟩
theorem Ds {xs : List AV} {v : AV} (e : Aw xs H = .ok v H') : xs.length ≤ lim ∧ v = .ref H.length ∧ H' = H ++ [.list xs] := by
  unfold Aw at e
  split at e
  · rename_i h; cases e; exact ⟨h, rfl, rfl⟩
  · cases e
inductive I2 {α : Type} (x y : AV) (f : Int → Int → α) (v : α) : Prop
  | mk (a b : Int) (hx : x = .int a) (hy : y = .int b) (e : f a b = v) : I2 x y f v
theorem Js {x : AV} {i : Int} (h : Cn x = some i) : x = .int i := by
  cases x with
  | int j => cases h; rfl
  | _ => cases h
theorem A4b {α : Type} {no v : α} {x y : AV} {f : Int → Int → α} (e : D5 no x y f = v) (hn : no ≠ v) : I2 x y f v := by
  unfold D5 at e
  cases h1 : Cn x with
  | none => rw [h1] at e; exact absurd e hn
  | some a =>
    cases h2 : Cn y with
    | none => rw [h1, h2] at e; exact absurd e hn
    | some b => rw [h1, h2] at e; exact ⟨a, b, Js h1, Js h2, e⟩
theorem Hz {v : AV} : Res.bad ≠ .ok v H' := fun e => by cases e
inductive LsR (C : Cx) (μ : List Addr) (h : Heap) (xs : List AV) (p : Value) : Prop
  | mk (a : Addr) (vs : List Value) (hp : p = .ref a) (pl : h.PlainList a vs.toArray) (q : VRs C μ h xs vs) : LsR C μ h xs p
theorem Iu {x : AV} {p : Value} {xs : List AV} (R : Cm C μ H h) (hx : VR C μ h x p) (e : Fj H x = some xs) : LsR C μ h xs p := by
  unfold Fj at e
  cases x with
  | ref r =>
    cases hx with
    | ref ea =>
      have e : (H[r]?).bind A1s = some xs := e
      cases e1 : H[r]? with
      | none => rw [e1] at e; cases e
      | some o =>
        cases o with
        | dict => rw [e1] at e; cases e
        | list ys =>
          refine bC fun hno => ?_
          rw [e1] at e; cases e
          obtain ⟨_, a', vs, ea', p1, q1⟩ := R.list e1
          rw [ea] at ea'; cases ea'
          refine hno ?_
          exact ⟨_, vs, rfl, p1, q1⟩
  | _ => cases e
theorem A5u {x y v : AV} {p q : Value} (S : St C base b env Γ ρ μ H s) (hx : VR C μ s.heap x p) (hy : VR C μ s.heap y q) (e : Rm x y H = .ok v H') (k : B6 C base b env Γ ρ μ s v H' Q) : wpAny (model C.prog C.w) A (binaryOp .Add p q) Q E s := by
  unfold Rm at e
  cases h1 : Fj H x with
  | none => rw [h1] at e; cases e
  | some xs =>
    cases h2 : Fj H y with
    | none => rw [h1, h2] at e; cases e
    | some ys =>
      rw [h1, h2] at e
      obtain ⟨hz, rfl, rfl⟩ := Ds e
      obtain ⟨a, vs, rfl, p1, q1⟩ := Iu S.hp hx h1
      obtain ⟨c, us, rfl, p2, q2⟩ := Iu S.hp hy h2
      obtain ⟨m, nm, _⟩ := S.er.ns
      refine add_arrays (fr0 nm) (Sc _ _) (IsList.of_plain p1) (IsList.of_plain p2) (fun h' F N => ?_) ?_
      · obtain ⟨S', X⟩ := S.ledger (l := [_]) nm F N (.head _) (Ax _) (q1.append q2) hz
        exact k _ _ _ X S' (.ref (by rw [← S.hp.len]; simp))
      · rw [List.size_toArray, List.size_toArray, ← q1.length, ← q2.length, ← List.length_append]; exact D8 hz
theorem Ki {c : Prop} [Decidable c] {r : Res AV} {v : AV} (e : (if c then r else .bad) = .ok v H') : c ∧ r = .ok v H' := by
  by_cases h : c
  · rw [if_pos h] at e; exact ⟨h, e⟩
  · rw [if_neg h] at e; cases e
theorem C6 {α : Type} {no w : α} {K : Value → Value → Sem Value} {x y : AV} {p q : Value} {f : Int → Int → α} (hn : no ≠ w) (hx : VR C μ h x p) (hy : VR C μ h y q) (e : D5 no x y f = w)
    (g : ∀ a c t u, f a c = w → wpAny (model C.prog C.w) A (K (.int a t) (.int c u)) Q E s) : wpAny (model C.prog C.w) A (K p q) Q E s := by
  obtain ⟨a, c, rfl, rfl, e⟩ := A4b e hn
  cases hx with
  | int _ t => cases hy with
    | int _ u => exact g a c t u e
theorem L0 {i : Int} {v : AV} (e : Res.ok (AV.int i) H = .ok v H') (S : St C base b env Γ ρ μ H s) (k : B6 C base b env Γ ρ μ s v H' Q) (n : Nat) (t : Tok) : Q (.int i t) { s with toks := n } := by
  cases e; exact k _ _ μ .refl (S.tok _) (.int _ _)
theorem A33 {op : Operator} {x y v : AV} {p q : Value} (S : St C base b env Γ ρ μ H s) (hx : VR C μ s.heap x p) (hy : VR C μ s.heap y q) (e : Bc op x y H = .ok v H')
    (k : B6 C base b env Γ ρ μ s v H' Q) : wpAny (model C.prog C.w) A (binaryOp op p q) Q E s := by
  cases op with
  | Add =>
    have e : (if (Cn x).isSome = true then D5 .bad x y fun a b => .ok (.int (a + b)) H else Rm x y H) = .ok v H' := e
    by_cases hi : (Cn x).isSome = true
    · exact C6 (K := binaryOp _) Hz hx hy ((if_pos hi).symm.trans e) fun a c t u e => wpAny_add_int (L0 e S k _ _)
    · exact A5u S hx hy ((if_neg hi).symm.trans e) k
  | Sub => exact C6 (K := binaryOp _) Hz hx hy e fun a c t u e => PyProof.Rows.sub_int (L0 e S k _ _)
  | Mult =>
    have e : (if (Cn x).isSome = true then (D5 Res.bad x y fun a b => if E0 a b then Res.ok (.int (a * b)) H else Res.bad) else Res.bad) = .ok v H' := e
    by_cases hi : (Cn x).isSome = true
    · exact C6 (K := binaryOp _) Hz hx hy ((if_pos hi).symm.trans e) fun a c t u e => PyProof.Rows.mul_int (L0 (Ki e).2 S k _ _) (A0z (Ki e).1)
    · rw [if_neg hi] at e; cases e
  | FloorDiv => exact C6 (K := binaryOp _) Hz hx hy e fun a c t u e => PyProof.Rows.floordiv_int (Ki e).1.1 (L0 (Ki e).2 S k _ _) (.inl (Rh (Ki e).1.2))
  | Mod => exact C6 (K := binaryOp _) Hz hx hy e fun a c t u e => PyProof.Rows.mod_int (Ki e).1 (L0 (Ki e).2 S k _ _)
  | Pow =>
    refine C6 (K := binaryOp _) Hz hx hy e fun i j t u e => ?_
    have hm := (Ki e).1
    refine PyProof.Rows.pow_int hm.1 ?_ (L0 (Ki e).2 S k _ _)
    have h1 := Jm hm.2.2
    have h2 : (Builtin.Int.intBits i : Int) * j ≤ 64 * 64 := Int.mul_le_mul (by exact Qg h1) hm.2.1 hm.1 (by exact (by decide))
    (first | lia | omega)
  | _ => cases e
end
end Mine
namespace Mine
open PySem PySem.Calls PyProof.Rows PySem.SeqAt
noncomputable def E4 : List Value := [.type "ValueError", .type "Exception", .type "BaseException", .type "object"]
inductive R4 (h : Heap) (C : Addr) (tl : List Value) : Prop
  | mk (N : Addr) (nm q : Str) (bs : List Value) (hdct : Bool) (sn : List Str) (sub : List Value) (ab : Bool) (col : Option Bool) (dd : Option Addr) (k0 k1 k2 k3 k5 : Option Value) (mN : Str → Option Value)
    (hC : h.get? C = some (excClassObj nm q C N bs tl hdct sn sub ab col dd k0 k1 k2 k3 k5 "ValueError.__new__")) (hN : h.Ns N mN) (hq : ∀ n ∈ quietNames, mN n = none) (hcl : mN "__class__" = none) : R4 h C tl
theorem R4.keeps {h h' : Heap} {C : Addr} {tl : List Value} (x : R4 h C tl) (k : ∀ b o, h.get? b = some o → h'.get? b = some o) : R4 h' C tl := by
  obtain ⟨N, nm, q, bs, hdct, sn, sub, ab, col, dd, k0, k1, k2, k3, k5, mN, hC, hN, hq, hcl⟩ := x
  exact ⟨N, nm, q, bs, hdct, sn, sub, ab, col, dd, k0, k1, k2, k3, k5, mN, k _ _ hC, hN.keeps k, hq, hcl⟩
inductive E2 (h : Heap) : List Value → Prop
  | base : E2 h E4
  | own {C : Addr} {tl : List Value} (x : R4 h C E4) (e : tl = .ref C :: E4) : E2 h tl
theorem E2.keeps {h h' : Heap} {tl : List Value} (x : E2 h tl) (k : ∀ b o, h.get? b = some o → h'.get? b = some o) : E2 h' tl := by
  cases x with
  | base => exact .base
  | own x e => exact .own (x.keeps k) e
theorem E2.tailQ {h : Heap} {tl : List Value} (x : E2 h tl) : OwnTailQ h E4 tl := by
  cases x with
  | base => exact .base
  | own x e =>
    obtain ⟨N, nm, q, bs, hdct, sn, sub, ab, col, dd, k0, k1, k2, k3, k5, mN, hC, hN, hq, hcl⟩ := x
    subst e
    exact .own hC hN hq .base
inductive SmF (g : Heap) : Prop
  | mk (o : Obj) (h : g.get? sysModules = some o) : SmF g
structure Tu (C : Cx) (T : Tab) (g : Heap) : Prop where
  cls : ∀ {k : Nat} {x : Str}, T.excs.lookup k = some x → ∃ Ck tl, C.mg x = some (.ref Ck) ∧ C.ea k = .ref Ck ∧ R4 g Ck tl ∧ E2 g tl ∧ tl = (if k = 0 then E4 else C.ea 0 :: E4)
  inj : ∀ {k j : Nat} {x y : Str}, T.excs.lookup k = some x → T.excs.lookup j = some y → C.ea k = C.ea j → k = j
  has0 : ∀ {k : Nat} {x : Str}, T.excs.lookup k = some x → ∃ y, T.excs.lookup 0 = some y
  eo : ∀ {k : Nat}, C.eo k ↔ ∃ x, T.excs.lookup k = some x
  sm : SmF g
end Mine
namespace Mine
open PySem PySem.Calls PyProof.Rows PySem.SeqAt
section
variable {M : Model} {A : Around} {E : Value → Shared → Prop} {s : Shared}
inductive Y0 (fs : List Env) (e : Addr) (oe : Obj) (h h' : Heap) : Prop
  | mk (T : Addr) (oT : Obj) (ts : Array Value) (oe' : Obj) (vs' : Array Value) (hn : h.get? T = none) (hT : h'.get? T = some oT) (dT : oT.data = .fields ts) (zT : 3 < ts.size) (he : h'.get? e = some oe') (hc : oe'.cls = oe.cls)
    (hd : oe'.data = .fields vs') (h1 : vs'[1]? = some (.ref T)) (hk : ∀ {b : Addr} {o : Obj}, b ≠ e → b ∉ fs.filterMap (·.frame) → h.get? b = some o → h'.get? b = some o)
    (hs : ∀ {b : Addr} {o : Obj}, b ≠ e → h.get? b = some o → ∃ sl, h'.get? b = some { o with slots := sl }) : Y0 fs e oe h h'
theorem Sj {g : Heap} {env : Env} {outer : List Env} {L e : Addr} {oe : Obj} {vs : Array Value} {head : Value} {hadNext : Bool} {Q : Unit → Shared → Prop}
    (hfr : A.frames = some (env :: outer)) (hl : s.heap.FunFrames g (env :: outer)) (hf : env.frame = some L) (he : s.heap.get? e = some oe) (hd : oe.data = .fields vs) (hsz : 1 < vs.size)
    (k : ∀ h', Y0 (env :: outer) e oe s.heap h' → Q () { s with heap := h' }) :
    wpAny M A (do let a ← frameOf env; let pl ← entryPlaceOf L hadNext; let b ← EntryCells.newEntry head a .none (rawInt L) .none pl; setField (.ref e) 1 b) Q E s := by
  have hene : e ∉ (env :: outer).filterMap (·.frame) := fun hm => by
    obtain ⟨_, o, ho, hnf⟩ := hl.mem hm
    rw [he] at ho; injection ho with ho; subst ho; exact hnf vs hd
  refine wpAny_bind (wpAny_frameOf_fun hfr hl hf fun h₁ hs₁ => ?_)
  refine wpAny_bind (wpAny_entryPlaceOf fun pl hpl => ?_)
  unfold EntryCells.newEntry newFields
  refine wpAny_bind (wpAny_newObj_type ?_ (hpl.sizeOk5 _ _ _ _ _))
  have he₁ : h₁.get? e = some oe := (hs₁.2.1 e hene).trans he
  generalize hob : ({ cls := .type "traceback", dict := none, data := .fields ([head, .ref L, .none, rawInt L, .none] ++ (if pl.isEmpty then List.replicate 6 Value.none else pl)).toArray } : Obj) = ob
  have hdb : ob.data = .fields ([head, .ref L, .none, rawInt L, .none] ++ (if pl.isEmpty then List.replicate 6 Value.none else pl)).toArray := by rw [← hob]
  have he₂ := Heap.get?_push_of_some (h := h₁) ob he₁
  refine wpAny_setField he₂ hd hsz (k _ ?_)
  have hTe : h₁.objs.size ≠ e := Nat.ne_of_gt (Heap.lt_size he₁)
  have hd₃ := Obj.data_mapFields hd (·.setIfInBounds 1 (Value.ref h₁.objs.size))
  have hT : ((h₁.push ob).update e (Obj.mapFields (·.setIfInBounds 1 (Value.ref h₁.objs.size)))).get? h₁.objs.size = some ob :=
    (Heap.get?_update_other _ _ (Ne.symm hTe)).trans (Heap.get?_push_size h₁ (by rw [← hob]; rfl))
  have hk : ∀ {b : Addr} {o : Obj}, b ≠ e → h₁.get? b = some o → ((h₁.push ob).update e (Obj.mapFields (·.setIfInBounds 1 (Value.ref h₁.objs.size)))).get? b = some o := fun {b o} hbe hb => by
    rw [Heap.get?_update_other _ _ (Ne.symm hbe)]
    exact Heap.get?_push_of_some _ hb
  refine ⟨h₁.objs.size, ob, _, _, _, Do (Nat.le_of_eq hs₁.1.symm), hT, hdb, by simp only [List.size_toArray, List.length_append, List.length_cons, List.length_nil] <;> exact Nat.le_of_lt (Nat.le_add_right _ _), Heap.get?_update_self _ he₂ (Obj.isFreed_of_fields hd₃), Obj.cls_mapFields _ _, hd₃, by simp [hsz], ?_, ?_⟩
  · intro b o hbe hbf hb
    exact hk hbe ((hs₁.2.1 b hbf).trans hb)
  · intro b o hbe hb
    obtain ⟨sl, e1⟩ := hs₁.2.2 b o hb
    exact ⟨sl, hk hbe e1⟩
inductive XR (cls : Value) (p : Bool) (u : Value) (h0 h : Heap) : Prop
  | new (a : Addr) (o : Obj) (vs : Array Value) (e : u = .ref a) (hp : p = false) (ho : h.get? a = some o) (hn : h0.get? a = none) (hc : o.cls = cls) (hd : o.data = .fields vs) (h1 : vs[1]? = some .none) : XR cls p u h0 h
  | on (a : Addr) (o : Obj) (vs : Array Value) (T : Addr) (oT : Obj) (ts : Array Value) (e : u = .ref a) (ho : h.get? a = some o) (hn : h0.get? a = none) (hc : o.cls = cls) (hd : o.data = .fields vs) (h1 : vs[1]? = some (.ref T))
    (hT : h.get? T = some oT) (nT : h0.get? T = none) (dT : oT.data = .fields ts) (zT : 3 < ts.size) (hne : T ≠ a) : XR cls p u h0 h
theorem XR.back {cls : Value} {p : Bool} {u : Value} {h0 h1 h : Heap} (l : Lv h0 h1) (x : XR cls p u h1 h) : XR cls p u h0 h := by
  have q : ∀ {a : Addr}, h1.get? a = none → h0.get? a = none := fun {a} e => by
    cases e0 : h0.get? a with
    | none => rfl
    | some o => obtain ⟨o', e', _⟩ := l.go e0; rw [e] at e'; cases e'
  cases x with
  | new a o vs e hp ho hn hc hd h1 => exact .new a o vs e hp ho (q hn) hc hd h1
  | on a o vs T oT ts e ho hn hc hd h1 hT nT dT zT hne => exact .on a o vs T oT ts e ho (q hn) hc hd h1 hT (q nT) dT zT hne
inductive D2 (fs : List Env) (h0 h h' : Heap) : Prop
  | mk (keep : ∀ {b : Addr} {o : Obj}, h.get? b = some o → (∀ vs, o.data ≠ .fields vs) → b ∉ fs.filterMap (·.frame) → h'.get? b = some o)
    (old : ∀ {b : Addr} {o o0 : Obj}, h0.get? b = some o0 → h.get? b = some o → b ∉ fs.filterMap (·.frame) → h'.get? b = some o)
    (slot : ∀ {b : Addr} {o : Obj}, h.get? b = some o → (∀ vs, o.data ≠ .fields vs) → ∃ sl, h'.get? b = some { o with slots := sl })
    (rec : ∀ {b : Addr} {o : Obj} {vs : Array Value}, h.get? b = some o → o.data = .fields vs → ∃ o' vs', h'.get? b = some o' ∧ o'.cls = o.cls ∧ o'.data = .fields vs') : D2 fs h0 h h'
theorem D2.refl {fs : List Env} {h0 h : Heap} : D2 fs h0 h h := ⟨fun e _ _ => e, fun _ e _ => e, fun {_ o} e _ => ⟨o.slots, e⟩, fun e d => ⟨_, _, e, rfl, d⟩⟩
theorem D2.trans {fs : List Env} {h0 h h1 h2 : Heap} (x : D2 fs h0 h h1) (y : D2 fs h0 h1 h2) : D2 fs h0 h h2 := by
  refine bC fun hno => ?_
  obtain ⟨x1, x2, x3, x4⟩ := x
  obtain ⟨y1, y2, y3, y4⟩ := y
  refine hno ?_
  refine ⟨fun e n f => y1 (x1 e n f) n f, fun e0 e f => y2 e0 (x2 e0 e f) f, fun e n => ?_, fun e d => ?_⟩
  · refine bC fun hno => ?_
    obtain ⟨sl, e1⟩ := x3 e n
    obtain ⟨sl', e2⟩ := y3 e1 n
    refine hno ?_
    exact ⟨sl', e2⟩
  · refine bC fun hno => ?_
    obtain ⟨o', vs', e1, c1, d1⟩ := x4 e d
    obtain ⟨o'', vs'', e2, c2, d2⟩ := y4 e1 d1
    refine hno ?_
    exact ⟨o'', vs'', e2, c2.trans c1, d2⟩
theorem D2.field {fs : List Env} {h0 h : Heap} {a : Addr} {o : Obj} {vs : Array Value} {f : Array Value → Array Value} (hn : h0.get? a = none) (ho : h.get? a = some o) (hd : o.data = .fields vs) : D2 fs h0 h (h.update a (Obj.mapFields f)) := by
  have hd₃ := Obj.data_mapFields hd f
  have hs := Heap.get?_update_self (Obj.mapFields f) ho (Obj.isFreed_of_fields hd₃)
  refine ⟨fun {b o'} e n _ => ?_, fun {b o' o0} e0 e _ => ?_, fun {b o'} e n => ⟨o'.slots, ?_⟩, fun {b o' vs'} e d => ?_⟩
  · rw [Heap.get?_update_other _ _ fun q => by subst q; rw [ho] at e; cases e; exact n _ hd]; exact e
  · rw [Heap.get?_update_other _ _ fun q => by subst q; rw [hn] at e0; cases e0]; exact e
  · rw [Heap.get?_update_other _ _ fun q => by subst q; rw [ho] at e; cases e; exact n _ hd]; exact e
  · by_cases q : a = b
    · subst q; rw [ho] at e; cases e; exact ⟨_, _, hs, Obj.cls_mapFields _ _, hd₃⟩
    · exact ⟨o', vs', (Heap.get?_update_other _ _ q).trans e, rfl, d⟩
theorem D2.noted {fs : List Env} {h0 h h' : Heap} {e : Addr} {oe : Obj} {vs : Array Value} (hn : h0.get? e = none) (he : h.get? e = some oe) (hd : oe.data = .fields vs) (x : Y0 fs e oe h h') : D2 fs h0 h h' := by
  obtain ⟨T, oT, ts, oe', vs', nT, hT, dT, zT, he', hc, hd', h1, hk, hs⟩ := x
  refine ⟨fun {b o} eb n f => hk (fun q => by subst q; rw [he] at eb; cases eb; exact n _ hd) f eb, fun {b o o0} e0 eb f => hk (fun q => by subst q; rw [hn] at e0; cases e0) f eb,
    fun {b o} eb n => hs (fun q => by subst q; rw [he] at eb; cases eb; exact n _ hd) eb, fun {b o ws} eb d => ?_⟩
  by_cases q : b = e
  · subst q; rw [he] at eb; cases eb; exact ⟨_, _, he', hc, hd'⟩
  · obtain ⟨sl, e1⟩ := hs q eb
    exact ⟨_, ws, e1, rfl, d⟩
theorem A63 {g h0 : Heap} {env : Env} {outer : List Env} {L : Addr} {cls u : Value} {p : Bool} {Q : Unit → Shared → Prop} (hfr : A.frames = some (env :: outer)) (hl : s.heap.FunFrames g (env :: outer)) (hf : env.frame = some L)
    (x : XR cls p u h0 s.heap) (l : Lv h0 s.heap) (k : ∀ h', D2 (env :: outer) h0 s.heap h' → XR cls true u h0 h' → Q () { s with heap := h' }) : wpAny M A (noteFrame u env) Q E s := by
  have q : ∀ {a : Addr}, s.heap.get? a = none → h0.get? a = none := fun {a} e => by
    cases e0 : h0.get? a with
    | none => rfl
    | some o => obtain ⟨o', e', _⟩ := l.go e0; rw [e] at e'; cases e'
  have fin : ∀ {a : Addr} {o : Obj} {vs : Array Value} {h1 h' : Heap}, u = .ref a → h0.get? a = none → h1.get? a = some o → o.cls = cls → o.data = .fields vs → D2 (env :: outer) h0 s.heap h1 → (∀ {b : Addr}, h1.get? b = none → h0.get? b = none) →
      Y0 (env :: outer) a o h1 h' → Q () { s with heap := h' } := by
    intro a o vs h1 h' eu hn ho hc hd st qn N
    refine k h' (st.trans (.noted hn ho hd N)) ?_
    obtain ⟨T, oT, ts, oe', vs', nT, hT, dT, zT, he', hc', hd', h1', _, _⟩ := N
    exact .on a oe' vs' T oT ts eu he' hn (hc'.trans hc) hd' h1' hT (qn nT) dT zT fun e => by rw [e, ho] at nT; cases nT
  unfold noteFrame
  simp only [hf]
  cases x with
  | new a o vs e hp ho hn hc hd h1 =>
    subst e
    refine wpAny_bind (wpAny_field ho hd h1 ?_)
    rw [if_neg (by decide)]
    exact Sj hfr hl hf ho hd (Array.getElem?_eq_some_iff.mp h1).1 fun h' N => fin rfl hn ho hc hd .refl q N
  | on a o vs T oT ts e ho hn hc hd h1 hT nT dT zT hne =>
    subst e
    refine wpAny_bind (wpAny_field ho hd h1 ?_)
    rw [if_pos (show (Value.ref T != Value.none) = true from by simp)]
    refine wpAny_bind (wpAny_field hT dT (x := ts[3]'zT) (Array.getElem?_eq_some_iff.mpr ⟨zT, rfl⟩) ?_)
    by_cases h3 : (ts[3]'zT == rawInt L) = true
    · rw [if_pos h3]
      exact wpAny_pure (k _ .refl (.on a o vs T oT ts rfl ho hn hc hd h1 hT nT dT zT hne))
    · rw [if_neg h3]
      refine wpAny_bind (wpAny_setField hT dT zT ?_)
      have st : D2 (env :: outer) h0 s.heap (s.heap.update T (Obj.mapFields (·.setIfInBounds 3 Value.none))) := .field nT hT dT
      have ho' : (s.heap.update T (Obj.mapFields (·.setIfInBounds 3 Value.none))).get? a = some o := (Heap.get?_update_other _ _ hne).trans ho
      refine Sj hfr (hl.of_keeps fun b ob hb hnf => ?_) hf ho' hd (Array.getElem?_eq_some_iff.mp h1).1 fun h' N => fin rfl hn ho' hc hd st ?_ N
      · refine ⟨ob, (Heap.get?_update_other _ _ fun e => ?_).trans hb, rfl⟩
        subst e; rw [hT] at hb; cases hb; exact hnf _ dT
      · intro b e
        by_cases hb : T = b
        · subst hb; exact nT
        · rw [Heap.get?_update_other _ _ hb] at e; exact q e
theorem Zi {h0 : Heap} {fs : List Env} {f : Option Addr} {cls u : Value} {Q : Unit → Shared → Prop} (x : XR cls true u h0 s.heap) (k : ∀ h', D2 fs h0 s.heap h' → XR cls true u h0 h' → Q () { s with heap := h' }) : wpAny M A (setFlight u f) Q E s := by
  cases x with
  | new a o vs e hp ho hn hc hd h1 => cases hp
  | on a o vs T oT ts e ho hn hc hd h1 hT nT dT zT hne =>
    subst e
    unfold setFlight
    refine wpAny_bind (wpAny_field ho hd h1 ?_)
    rw [if_pos (show (Value.ref T != Value.none) = true from by simp)]
    refine wpAny_setField hT dT zT (k _ (.field nT hT dT) ?_)
    have hd₃ := Obj.data_mapFields dT (·.setIfInBounds 3 (f.elim .none fun f => rawInt f))
    exact .on a o vs T _ _ rfl ((Heap.get?_update_other _ _ hne).trans ho) hn hc hd h1 (Heap.get?_update_self _ hT (Obj.isFreed_of_fields hd₃)) nT hd₃ (by simpa using zT) hne
end
end Mine
namespace Mine
open PySem PySem.Calls PyProof.Rows PySem.SeqAt
section
variable {C : Cx} {μ μ' : List Addr} {h h' : Heap} {base : Bs} {env : Env} {Γ : List Str} {ρ ρ0 : A8} {H H0 : A0} {b : Nat} {s s0 : Shared}
theorem FF.mem {z : Addr → Prop} {g : Heap} : ∀ {l : List Env} {L : Addr}, FF z h g l → L ∈ l.filterMap (·.frame) → g.get? L = none ∧ ∃ o, h.get? L = some o ∧ DT o
  | [], _, _, q => by simp at q
  | e :: r, L, ⟨_, ⟨L', o, hf, hn, ho, hd, _⟩, hr⟩, q => by
    rw [List.filterMap_cons, hf] at q
    rcases List.mem_cons.mp q with q | q
    · subst q; exact ⟨hn, o, ho, hd⟩
    · exact FF.mem hr q
theorem FF.off {z : Addr → Prop} {g : Heap} {l : List Env} {a : Addr} {o : Obj} (f : FF z h g l) (e : h.get? a = some o) (n : ND o) : a ∉ l.filterMap (·.frame) := fun q => by
  obtain ⟨_, o', e', d⟩ := f.mem q
  rw [e] at e'; cases e'; exact d.no n
theorem FF.fresh {z : Addr → Prop} {g : Heap} {l : List Env} {a : Addr} (f : FF z h g l) (e : h.get? a = none) : a ∉ l.filterMap (·.frame) := fun q => by
  obtain ⟨_, o', e', d⟩ := f.mem q
  rw [e] at e'; cases e'
theorem FF.but {z : Addr → Prop} {g : Heap} {D : Addr} (k : ∀ {a : Addr} {o : Obj}, h.get? a = some o → ¬ (a = D) → h'.get? a = some o) : ∀ {l : List Env}, FF z h g l → D ∉ l.filterMap (·.frame) → FF z h' g l
  | [], _, _ => trivial
  | e :: r, ⟨hk, ⟨L, o, hf, hn, ho, hd, hz⟩, hr⟩, q => by
    rw [List.filterMap_cons, hf] at q
    exact ⟨hk, ⟨L, o, hf, hn, k ho (fun e => q (e ▸ List.mem_cons_self ..)), hd, hz⟩, FF.but k hr fun m => q (List.mem_cons_of_mem _ m)⟩
theorem D2.lv {fs : List Env} {h0 : Heap} (x : D2 fs h0 h h') : Lv h h' := by
  obtain ⟨x1, x2, x3, x4⟩ := x
  refine ⟨fun {a o} e => ?_⟩
  by_cases q : ∃ vs, o.data = .fields vs
  · obtain ⟨vs, d⟩ := q
    obtain ⟨o', vs', e', _, _⟩ := x4 e d
    exact ⟨o', e', fun dt => by obtain ⟨es, ep, q⟩ := dt; rw [d] at q; cases q⟩
  · obtain ⟨sl, e'⟩ := x3 e fun vs d => q ⟨vs, d⟩
    exact ⟨_, e', fun ⟨es, ep, d⟩ => ⟨es, ep, d⟩⟩
theorem D2.kp {fs : List Env} {h0 g : Heap} {z : Addr → Prop} (x : D2 fs h0 h h') (f : FF z h g fs) {a : Addr} {o : Obj} (e : h.get? a = some o) (q : (∀ vs, o.data ≠ .fields vs) ∨ ∃ o0, h0.get? a = some o0) : Kp (g.get? a = none) a o h' := by
  refine bC fun hno => ?_
  obtain ⟨x1, x2, x3, x4⟩ := x
  refine hno ?_
  by_cases m : a ∈ fs.filterMap (·.frame)
  · refine bC fun hno => ?_
    obtain ⟨hg, o', e', d⟩ := f.mem m
    rw [e] at e'; cases e'
    obtain ⟨sl, e1⟩ := x3 e fun vs d' => by obtain ⟨_, _, d⟩ := d; rw [d] at d'; cases d'
    refine hno ?_
    exact .slot hg d sl e1
  · rcases q with n | ⟨o0, e0⟩
    · exact .same (x1 e n m)
    · exact .same (x2 e0 e m)
theorem St.xstep (S0 : St C base b env Γ ρ0 μ' H0 s0) (S : St C base b env Γ ρ μ H s) (X : Ext env μ' μ s0.heap s.heap) (st : D2 base.fs s0.heap s.heap h') : St C base b env Γ ρ μ H { s with heap := h' } ∧ Ext env μ' μ s0.heap h' := by
  have lv := st.lv
  have kn : ∀ {a : Addr} {o : Obj}, s.heap.get? a = some o → (∀ vs, o.data ≠ .fields vs) → ND o → h'.get? a = some o := fun e n d => (st.kp S.ff e (.inl n)).ex d
  have tu : ∀ {a : Addr} {its : Array Value}, s.heap.IsTuple a its → h'.IsTuple a its := fun t => by
    obtain ⟨o, e, hc, n, hd⟩ := t
    exact ⟨o, kn e (fun _ q => by rw [hd] at q; cases q) (fun _ _ q => by rw [hd] at q; cases q), hc, n, hd⟩
  have sr : ∀ {a : Addr} {o : Obj} {vs : Array Value}, s.heap.get? a = some o → o.data = .fields vs → ∃ o' vs', h'.get? a = some o' ∧ o'.cls = o.cls ∧ o'.data = .fields vs' := fun e d => by
    obtain ⟨_, _, _, x4⟩ := st
    exact x4 e d
  refine ⟨⟨fun a o e => ?_, ⟨S.hp.len, S.hp.nd, fun e => ?_, fun e => ?_⟩, S.er.mono (fun m n => ?_) (fun x c o ec e => ?_) (fun q => q.gmap id tu sr), S.fresh, S.noloc, S.lm, S.nocell, S.gens, S.os, fun z => ?_, lv.ff S.ff⟩, ⟨X.pre, fun {a o} e n => ?_, X.new, X.live.trans lv⟩⟩
  · refine bC fun hno => ?_
    obtain ⟨o0, e0⟩ := (S0.keep a o e).live
    refine hno ?_
    exact (S.keep a o e).trans fun e' => st.kp S.ff e' (.inr ⟨o0, e0⟩)
  · refine bC fun hno => ?_
    obtain ⟨l, a, vs, e', ⟨n, p⟩, q⟩ := S.hp.list e
    refine hno ?_
    exact ⟨l, a, vs, e', ⟨n, kn p (fun _ q => by cases q) (fun _ _ q => by cases q)⟩, q.gmap id tu sr⟩
  · refine bC fun hno => ?_
    obtain ⟨a, n, e', p⟩ := S.hp.dict e
    refine hno ?_
    cases st.kp S.ff p (.inl fun _ q => by cases q) with
    | same e1 => exact ⟨a, n, e', e1⟩
    | slot _ _ sl e1 => exact ⟨a, (n.1, sl), e', e1⟩
  · refine bC fun hno => ?_
    obtain ⟨o, es, ep, ho, hd, r⟩ := n
    refine hno ?_
    exact Kp.ns ⟨o, es, ep, ho, hd, r⟩ fun e => st.kp S.ff e (.inl (by rw [ho] at e; cases e; intro _ q; rw [hd] at q; cases q))
  · refine bC fun hno => ?_
    obtain ⟨v, ob, eb, db⟩ := S.er.cell ec
    rw [e] at eb; cases eb
    refine hno ?_
    exact kn e (fun _ q => by rw [db] at q; cases q) (fun _ _ q => by rw [db] at q; cases q)
  · refine bC fun hno => ?_
    obtain ⟨o, e⟩ := S.zl z
    obtain ⟨o', e', _⟩ := lv.go e
    refine hno ?_
    exact ⟨o', e'⟩
  · exact (X.stay e n).trans fun e' => (st.kp S.ff e' (.inr ⟨o, e⟩)).map (fun _ => trivial) id
abbrev J6 (C : Cx) (base : Bs) (b : Nat) (env : Env) (Γ : List Str) (ρ : A8) (μ : List Addr) (s : Shared) (c : Nat) (H' : A0) (E : Value → Shared → Prop) : Prop :=
  ∀ (u : Value) (s' : Shared) (μ' : List Addr), Ext env μ μ' s.heap s'.heap → St C base b env Γ ρ μ' H' s' → C.eo c → XR (C.ea c) false u s.heap s'.heap → E u s'
inductive A56 (base : Bs) (env : Env) : Prop
  | mk (outer : List Env) (L : Addr) (hf : env.frame = some L) (e : base.fs = env :: outer) : A56 base env
theorem XR.weak {cls u : Value} {p : Bool} {h0 : Heap} (x : XR cls p u h0 h) : XR cls false u h0 h := by
  cases x with
  | new a o vs e hp ho hn hc hd h1 => exact .new a o vs e rfl ho hn hc hd h1
  | on a o vs T oT ts e ho hn hc hd h1 hT nT dT zT hne => exact .on a o vs T oT ts e ho hn hc hd h1 hT nT dT zT hne
theorem XR.field {cls u : Value} {h0 : Heap} {M : Model} {A : Around} {E : Value → Shared → Prop} {Q : Value → Shared → Prop} (x : XR cls true u h0 s.heap) (k : ∀ T, Q (.ref T) s) : wpAny M A (field u 1) Q E s := by
  cases x with
  | new a o vs e hp ho hn hc hd h1 => cases hp
  | on a o vs T oT ts e ho hn hc hd h1 hT nT dT zT hne => subst e; exact wpAny_field ho hd h1 (k T)
theorem Mh {M : Model} {A : Around} {E : Value → Shared → Prop} {n : Nat} {c : Nat} {p : Bool} {u : Value} {Q : Unit → Shared → Prop} (F : A56 base env) (a : AOk base A n) (S0 : St C base b env Γ ρ0 μ' H0 s0) (S : St C base b env Γ ρ μ H s) (X : Ext env μ' μ s0.heap s.heap)
    (x : XR (C.ea c) p u s0.heap s.heap) (k : ∀ s', St C base b env Γ ρ μ H s' → Ext env μ' μ s0.heap s'.heap → XR (C.ea c) true u s0.heap s'.heap → Q () s') : wpAny M A (noteFrame u env) Q E s := by
  obtain ⟨outer, L, hf, e⟩ := F
  have hfr := a.frames
  rw [e] at hfr
  have ff := S.ff.fun
  rw [e] at ff
  refine A63 hfr ff hf x X.live fun h' st x' => ?_
  rw [← e] at st
  obtain ⟨S', X'⟩ := S0.xstep S X st
  exact k _ S' X' x'
theorem Kc {M : Model} {A : Around} {E : Value → Shared → Prop} {c : Nat} {u : Value} {f : Option Addr} {Q : Unit → Shared → Prop} (S0 : St C base b env Γ ρ0 μ' H0 s0) (S : St C base b env Γ ρ μ H s) (X : Ext env μ' μ s0.heap s.heap)
    (x : XR (C.ea c) true u s0.heap s.heap) (k : ∀ s', St C base b env Γ ρ μ H s' → Ext env μ' μ s0.heap s'.heap → XR (C.ea c) true u s0.heap s'.heap → Q () s') : wpAny M A (setFlight u f) Q E s :=
  Zi (fs := base.fs) x fun h' st x' => let ⟨S', X'⟩ := S0.xstep S X st; k _ S' X' x'
theorem Wy {M : Model} {A : Around} {E : Value → Shared → Prop} {n : Nat} {c : Nat} {p : Bool} {u : Value} (F : A56 base env) (a : AOk base A n) (S0 : St C base b env Γ ρ0 μ' H0 s0) (S : St C base b env Γ ρ μ H s) (X : Ext env μ' μ s0.heap s.heap)
    (x : XR (C.ea c) p u s0.heap s.heap) (k : ∀ s', St C base b env Γ ρ μ H s' → Ext env μ' μ s0.heap s'.heap → XR (C.ea c) false u s0.heap s'.heap → E u s') : notedBy M A env (fun e s' => cameBackBy M A env E e s') u s := by
  refine Mh F a S0 S X x fun s1 S1 X1 x1 => ?_
  show wpAny M A (do
    if (← field u 1) == .none then unsupported "frame.own-activation:exception-without-traceback"
    setFlight u env.frame) (fun _ s'' => E u s'') E s1
  refine wpAny_bind (x1.field fun T => ?_)
  rw [if_neg (by simp)]
  exact Kc S0 S1 X1 x1 fun s2 S2 X2 x2 => k s2 S2 X2 x2.weak
end
end Mine
namespace Mine
open PySem PySem.Calls PyProof.Rows PySem.SeqAt
open AutoSeq1 (wpAny_loadPart')
open MeetsSeq MeetsSeq2 MeetsSeq3
inductive A7k (vs : List Value) (xs : List Int) (i : Nat) : Prop
  | mk (x : Int) (t : Tok) (hv : vs[i]? = some (.int x t)) (hx : xs.drop i = x :: xs.drop (i + 1)) : A7k vs xs i
theorem int_at : ∀ {vs : List Value} {xs : List Int} {i : Nat}, IntsAre vs xs → i < vs.length → A7k vs xs i
  | _, _, i, .nil, h => absurd h (Nat.not_lt_zero _)
  | _, _, 0, .cons n t r, _ => ⟨n, t, rfl, rfl⟩
  | _, _, i + 1, .cons n t r, h => by
    obtain ⟨x, u, hv, hx⟩ := int_at (i := i) r (Nat.lt_of_succ_lt_succ h)
    exact ⟨x, u, hv, hx⟩
theorem A4t (l b : Addr) (Af items2 : Array Value) (n n2 : Nat) (dd dd2 : Option Addr) (sl sl2 : Array (Option Value)) (xs ys : List Int) (hx : IntsAre Af.toList xs) (hy : IntsAre items2.toList ys) (k : Nat) :
    ∀ i : Nat, Af.size - i = k → i ≤ Af.size → i ≤ items2.size → Meets (Builtin.«list.__eq__.loop» ⟨[.ref l, .ref b, rawInt i, rawInt 0], []⟩)
      (fun A R s => s.heap.get? l = some { cls := .type "list", dict := dd, data := .seq Af n, slots := sl } ∧ s.heap.get? b = some { cls := .type "list", dict := dd2, data := .seq items2 n2, slots := sl2 } ∧
        R (.ok (.ret (.bool (ltL (xs.drop i) (ys.drop i))))) s) := by
  have hxl : Af.size = xs.length := by rw [← hx.length]; simp
  have hyl : items2.size = ys.length := by rw [← hy.length]; simp
  induction k with
  | zero =>
    intro i hk h1 h2 prog w A R s h
    obtain ⟨hp, g, d, tk, os⟩ := s; obtain ⟨hl, hb, h⟩ := h
    wp_walk using wpAny_loadPart' hl, wpAny_loadPart' hb
    have hi1 : Af[((i : Nat) : Int).toNat]? = none := by simp; exact Nat.le_of_sub_eq_zero hk
    rw [hi1]
    wp_walk using wpAny_loadPart' hl, wpAny_loadPart' hb
    show R (.ok (.ret (.bool (decide (Af.size < items2.size))))) _
    have e1 : xs.drop i = [] := by simp; exact Nat.le_trans (Nat.le_of_eq hxl.symm) (Nat.le_of_sub_eq_zero hk)
    rw [e1] at h
    have e2 : ltL [] (ys.drop i) = decide (Af.size < items2.size) := by
      cases hd : ys.drop i with
      | nil =>
        have : ys.length ≤ i := by simpa using hd
        rw [decide_eq_false (by exact Rc (Nat.le_trans (A3y hyl this) h1))]; rfl
      | cons y r =>
        have : ¬ ys.length ≤ i := fun q => by rw [List.drop_of_length_le q] at hd; cases hd
        rw [decide_eq_true (by exact Nat.lt_of_le_of_lt (Nat.le_of_sub_eq_zero hk) (Nat.lt_of_lt_of_le (oGt this) (Nat.le_of_eq hyl.symm)))]; rfl
    rw [e2] at h; exact h
  | succ k ih =>
    intro i hk h1 h2 prog w A R s h
    obtain ⟨hp, g, d, tk, os⟩ := s; obtain ⟨hl, hb, h⟩ := h
    wp_walk using wpAny_loadPart' hl, wpAny_loadPart' hb
    have hlt : i < Af.size := by exact Nat.lt_of_sub_eq_succ hk
    obtain ⟨x, t, hv, hx'⟩ := int_at hx (i := i) (by simpa using hlt)
    have hi1 : Af[((i : Nat) : Int).toNat]? = some (.int x t) := by simpa using hv
    rw [hi1]
    rw [hx'] at h
    by_cases hlt2 : i < items2.size
    · obtain ⟨y, u, hw, hy'⟩ := int_at hy (i := i) (by simpa using hlt2)
      have hi2 : items2[((i : Nat) : Int).toNat]? = some (.int y u) := by simpa using hw
      rw [hi2]
      rw [hy'] at h
      have hc : ((i : Int) + 1) = ((i + 1 : Nat) : Int) := by push_cast; rfl
      refine wpAny_bind (wpAny_eqBool_int ?_)
      cases hb' : x == y with
      | true =>
        have e : x = y := by simpa using hb'
        have e2 : ltL (x :: xs.drop (i + 1)) (y :: ys.drop (i + 1)) = ltL (xs.drop (i + 1)) (ys.drop (i + 1)) := if_pos e
        rw [e2] at h
        wp_walk
        rw [hc]
        exact ⟨plainId_quiet plain_eq_loop _, codeAny_builtin entry_eq_loop (by
          rw [Around.under_plainId plain_eq_loop _]
          exact ih (i + 1) (by exact congrArg (· - 1) hk) (by exact hlt) (by exact hlt2) prog w A R _ ⟨hl, hb, h⟩)⟩
      | false =>
        have e : ¬ x = y := by simpa using hb'
        have e2 : ltL (x :: xs.drop (i + 1)) (y :: ys.drop (i + 1)) = decide (x < y) := if_neg e
        rw [e2] at h
        wp_walk using wpAny_loadPart' hl, wpAny_loadPart' hb
        rw [hi1, hi2]
        refine wpAny_bind (PyProof.Rows.lt_int (wpAny_pure ?_))
        exact h
    · have hi2 : items2[((i : Nat) : Int).toNat]? = none := by simp; exact oGe hlt2
      rw [hi2]
      wp_walk using wpAny_loadPart' hl, wpAny_loadPart' hb
      show R (.ok (.ret (.bool (decide (Af.size < items2.size))))) _
      have e1 : ys.drop i = [] := by simp; exact Nat.le_trans (Nat.le_of_eq hyl.symm) (oGe hlt2)
      rw [e1] at h
      rw [decide_eq_false (by exact fun e2 => hlt2 (Dz hlt e2))]; exact h
theorem A5d (l b : Addr) (Af items2 : Array Value) (n n2 : Nat) (dd dd2 : Option Addr) (sl sl2 : Array (Option Value)) (xs ys : List Int) (hx : IntsAre Af.toList xs) (hy : IntsAre items2.toList ys) :
    Meets (Builtin.«list.__lt__» ⟨[.ref l, .ref b], []⟩)
      (fun A R s => s.heap.get? l = some { cls := .type "list", dict := dd, data := .seq Af n, slots := sl } ∧ s.heap.get? b = some { cls := .type "list", dict := dd2, data := .seq items2 n2, slots := sl2 } ∧
        R (.ok (.ret (.bool (ltL xs ys)))) s) := by
  intro prog w A R s h
  obtain ⟨hp, g, d, tk, os⟩ := s; obtain ⟨hl, hb, h⟩ := h
  have f3 := AutoSeq1.sub_list_list
  wp_walk using wpAny_loadPart' hl, wpAny_loadPart' hb
  exact ⟨plainId_quiet plain_eq_loop _, codeAny_builtin entry_eq_loop (by
    rw [Around.under_plainId plain_eq_loop _]
    exact A4t l b Af items2 n n2 dd dd2 sl sl2 xs ys hx hy _ 0 rfl (Nat.zero_le _) (Nat.zero_le _) prog w A R _ ⟨hl, hb, h⟩)⟩
theorem A36 {prog : Program} {w : World} {A : Around} {E : Value → Shared → Prop} {Q : Value → Shared → Prop} {s : Shared} {l b : Addr} {vs us : List Value} {xs ys : List Int} (hl : s.heap.PlainList l vs.toArray) (hb : s.heap.PlainList b us.toArray) (hx : IntsAre vs xs) (hy : IntsAre us ys) (hu : A.units < cLine)
    (h : Q (.bool (ltL xs ys)) s) : wpAny (model prog w) A (compareOp .Lt (.ref l) (.ref b)) Q E s := by
  obtain ⟨n, ho⟩ := hl
  obtain ⟨n2, ho2⟩ := hb
  exact richCompare_meets_room (op := .Lt) ⟨_, ho, rfl⟩ ⟨_, ho2, rfl⟩ F.slot_list_lt F.entry_list_lt (F.args_list_lt_2 _ _) (A5d l b _ _ n n2 none none #[] #[] xs ys (by simpa using hx) (by simpa using hy))
    ⟨ho, ho2, show Value.bool (ltL xs ys) ≠ Value.notImplemented ∧ Q (.bool (ltL xs ys)) s from ⟨(fun x => nomatch x), h⟩⟩ hu
end Mine
namespace Mine
open PySem PySem.Calls PyProof.Rows PySem.SeqAt
section
variable {C : Cx} {μ : List Addr} {h h' : Heap} {base : Bs} {env : Env} {Γ : List Str} {ρ : A8} {H H' : A0} {b : Nat} {s s' : Shared} {A : Around} {E : Value → Shared → Prop} {Q : Value → Shared → Prop}
theorem G1 {xs : List AV} {is : List Int} {vs : List Value} (e : Bh xs = some is) (q : VRs C μ h xs vs) : IntsAre vs is := by
  induction xs generalizing is vs with
  | nil => cases e; cases q; exact .nil
  | cons x xs ih =>
    have e : ((Cn x).bind fun i => (Bh xs).map (i :: ·)) = some is := e
    cases q with
    | cons a q =>
      cases h1 : Cn x with
      | none => rw [h1] at e; cases e
      | some i =>
        cases h2 : Bh xs with
        | none => rw [h1, h2] at e; cases e
        | some js =>
          rw [h1, h2] at e; cases e
          cases Js h1
          obtain ⟨t, rfl⟩ := a.isInt
          exact .cons i t (ih h2 q)
inductive A07 {α β : Type} (P : α → β → Prop) : List α → List β → Prop
  | nil : A07 P [] []
  | cons {x : α} {y : β} {xs : List α} {ys : List β} : P x y → A07 P xs ys → A07 P (x :: xs) (y :: ys)
theorem Ps {f : AV → Option PyData} {xs : List AV} {ds : List PyData} (e : xs.mapM f = some ds) : A07 (fun x d => f x = some d) xs ds := by
  induction xs generalizing ds with
  | nil => cases e; exact .nil
  | cons x xs ih =>
    rw [List.mapM_cons] at e
    cases e1 : f x with
    | none => rw [e1] at e; cases e
    | some d =>
      cases e2 : xs.mapM f with
      | none => rw [e1, e2] at e; cases e
      | some es => rw [e1, e2] at e; cases e; exact .cons e1 (ih e2)
inductive Ab8 (h : Heap) (us : List Value) (ds : List PyData) (n : Nat) : Prop
  | mk (as : List Addr) (r : ReadsAll h us ds as) (c : PyData.canLayAll0 ds = true) (dd : PyData.depthAll ds ≤ n) : Ab8 h us ds n
inductive RdR (h : Heap) (u : Value) (d : PyData) (n : Nat) : Prop
  | mk (as : List Addr) (r : Reads h u d as) (c : d.canLay0 = true) (dd : d.depth ≤ n) : RdR h u d n
theorem Pk {n : Nat} (ih : ∀ {v : AV} {u : Value} {d : PyData}, VR C μ h v u → rd H n v = some d → RdR h u d n) {xs : List AV} {ds : List PyData} (es : A07 (fun x d => rd H n x = some d) xs ds) {vs : List Value} (q : VRs C μ h xs vs) : Ab8 h vs ds n := by
  induction es generalizing vs with
  | nil => cases q; exact ⟨_, .nil, rfl, Nat.zero_le _⟩
  | cons e _ ihs =>
    cases q with
    | cons q r =>
      obtain ⟨a1, r1, c1, d1⟩ := ih q e
      obtain ⟨a2, r2, c2, d2⟩ := ihs r
      exact ⟨_, .cons r1 r2, by simp only [PyData.canLayAll0, c1, c2]; rfl, by simp only [PyData.depthAll]; exact Nat.max_le.mpr ⟨d1, d2⟩⟩
theorem Lp {α β : Type} {o : Option (List α)} {f : List α → β} {d : β} (e : o.map f = some d) : ∃ ds, o = some ds ∧ d = f ds := by
  cases o with
  | none => cases e
  | some ds => cases e; exact ⟨ds, rfl, rfl⟩
theorem On {n : Nat} {v : AV} {u : Value} {d : PyData} (q : VR C μ h v u) (e : A0t v = some d) : RdR h u d n := by
  cases q with
  | none => cases e; exact ⟨_, .none, rfl, Nat.zero_le _⟩
  | bool c => cases e; exact ⟨_, .bool c, rfl, Nat.zero_le _⟩
  | int i t => cases e; exact ⟨_, .int i t, rfl, Nat.zero_le _⟩
  | str x t =>
    have e : (if PyData.strOk x then some (PyData.str x) else none) = some d := e
    by_cases hs : PyData.strOk x = true
    · rw [if_pos hs] at e; cases e; exact ⟨_, .str x t, hs, Nat.zero_le _⟩
    · rw [if_neg hs] at e; cases e
  | _ => cases e
theorem A1p (R : Cm C μ H h) : ∀ (n : Nat) {v : AV} {u : Value} {d : PyData}, VR C μ h v u → rd H n v = some d → RdR h u d n := by
  intro n
  induction n with
  | zero => intro v u d q e; exact On q e
  | succ n ih =>
    intro v u d q e
    cases v with
    | tup vs =>
      cases q with
      | tup t nz hz q =>
        refine bC fun hno => ?_
        obtain ⟨ds, e1, rfl⟩ := Lp e
        obtain ⟨as, r, c, dd⟩ := Pk ih (Ps e1) q
        obtain ⟨o, ho, hc, k, hd⟩ := t
        refine hno ?_
        exact ⟨_, .tuple ho hc hd (by simpa using r), c, Nat.succ_le_succ dd⟩
    | ref r =>
      cases q with
      | ref ea =>
        have e : (match H[r]? with | some (.list xs) => (xs.mapM (rd H n)).map PyData.list | _ => none) = some d := e
        cases e1 : H[r]? with
        | none => rw [e1] at e; cases e
        | some o =>
          cases o with
          | dict => rw [e1] at e; cases e
          | list xs =>
            rw [e1] at e
            obtain ⟨ds, e2, rfl⟩ := Lp e
            obtain ⟨_, a', vs, ea', ⟨k, p⟩, q⟩ := R.list e1
            rw [ea] at ea'; cases ea'
            obtain ⟨as, r, c, dd⟩ := Pk ih (Ps e2) q
            exact ⟨_, .list p rfl rfl (by simpa using r), c, Nat.succ_le_succ dd⟩
    | _ => exact On q e
theorem I5 (R : Cm C μ H h) {v : AV} {u : Value} {d : PyData} (q : VR C μ h v u) (e : rd H 8 v = some d) : (∃ as, Reads h u d as) ∧ shaped d = true := by
  obtain ⟨as, r, c, l⟩ := A1p R 8 q e
  refine ⟨⟨as, r⟩, ?_⟩
  unfold shaped
  rw [c, Bool.true_and, decide_eq_true_eq]; exact Nat.le_trans l (by decide)
theorem Xv {is : List Int} {i : Int} : is.any (· == i) = decide (i ∈ is) := by
  rw [Bool.eq_iff_iff, List.any_eq_true, decide_eq_true_eq]
  exact ⟨fun ⟨x, hx, e⟩ => (eq_of_beq e) ▸ hx, fun hx => ⟨i, hx, beq_self_eq_true i⟩⟩
theorem Aag {x y : AV} {p q : Value} {d e : PyData} {n : Nat} (S : St C base b env Γ ρ μ H s) (hx : VR C μ s.heap x p) (hy : VR C μ s.heap y q) (ex : rd H 8 x = some d) (ey : rd H 8 y = some e) (a : AOk base A n)
    (k : Q (.bool (PyData.eqv d e)) s) : wpAny (model C.prog C.w) A (compareOp .Eq p q) Q E s := by
  refine bC fun hno => ?_
  obtain ⟨⟨as, ra⟩, sa⟩ := I5 S.hp hx ex
  obtain ⟨⟨bs, rb⟩, sb⟩ := I5 S.hp hy ey
  refine hno ?_
  exact compareEq_shaped ra rb sa sb (by have := a.units; exact Nat.lt_of_le_of_lt (Nat.add_le_add (Nat.le_add_right _ _) (by decide)) this) k
theorem A9a {x y : AV} {p q : Value} {d e : PyData} {n : Nat} (S : St C base b env Γ ρ μ H s) (hx : VR C μ s.heap x p) (hy : VR C μ s.heap y q) (ex : rd H 8 x = some d) (ey : rd H 8 y = some e) (a : AOk base A n)
    (k : Q (.bool (!PyData.eqv d e)) s) : wpAny (model C.prog C.w) A (compareOp .NotEq p q) Q E s := by
  refine bC fun hno => ?_
  obtain ⟨⟨as, ra⟩, sa⟩ := I5 S.hp hx ex
  obtain ⟨⟨bs, rb⟩, sb⟩ := I5 S.hp hy ey
  refine hno ?_
  exact compareNe_shaped ra rb sa sb (by have := a.units; exact Nat.lt_of_le_of_lt (Nat.add_le_add (Nat.le_add_right _ _) (by decide)) this) k
theorem Q6 {x y : AV} {H : A0} {r : Bool} (e : Gv x y H = some r) : ∃ d f, rd H 8 x = some d ∧ rd H 8 y = some f ∧ PyData.eqv d f = r := by
  unfold Gv at e
  cases e1 : rd H 8 x with
  | none => rw [e1] at e; cases e
  | some d =>
    cases e2 : rd H 8 y with
    | none => rw [e1, e2] at e; cases e
    | some f => rw [e1, e2] at e; cases e; exact ⟨d, f, rfl, rfl, rfl⟩
theorem A6i {x y : AV} {r : Bool} {p q : Value} {n : Nat} (S : St C base b env Γ ρ μ H s) (hx : VR C μ s.heap x p) (hy : VR C μ s.heap y q) (e : Gv x y H = some r) (a : AOk base A n)
    (k : Q (.bool r) s) : wpAny (model C.prog C.w) A (compareOp .Eq p q) Q E s := by
  obtain ⟨d, f, e1, e2, rfl⟩ := Q6 e
  exact Aag S hx hy e1 e2 a k
theorem A4p {x y : AV} {r : Bool} {p q : Value} {n : Nat} (S : St C base b env Γ ρ μ H s) (hx : VR C μ s.heap x p) (hy : VR C μ s.heap y q) (e : (Gv x y H).map (!·) = some r) (a : AOk base A n)
    (k : Q (.bool r) s) : wpAny (model C.prog C.w) A (compareOp .NotEq p q) Q E s := by
  obtain ⟨c, e', rfl⟩ := Option.map_eq_some_iff.mp e
  obtain ⟨d, f, e1, e2, rfl⟩ := Q6 e'
  exact A9a S hx hy e1 e2 a k
theorem Q4 {x y : AV} {r : Bool} {p q : Value} (S : St C base b env Γ ρ μ H s) (hx : VR C μ s.heap x p) (hy : VR C μ s.heap y q) (e : My x y H = some r) :
    ∃ (i : Int) (t : _) (c : Addr) (vs : List Value) (is : List Int), p = .int i t ∧ q = .ref c ∧ s.heap.IsList c vs.toArray ∧ IntsAre vs is ∧ r = decide (i ∈ is) := by
  unfold My at e
  split at e
  · obtain ⟨t, rfl⟩ := hx.isInt; obtain ⟨c, rfl, ec⟩ := hy.isRef
    split at e
    · rename_i xs e1
      cases e2 : Bh xs with
      | none => rw [e2] at e; cases e
      | some is =>
        refine bC fun hno => ?_
        rw [e2] at e; cases e
        obtain ⟨_, a', vs, ea', p1, q1⟩ := S.hp.list e1
        rw [ec] at ea'; cases ea'
        refine hno ?_
        exact ⟨_, t, c, vs, is, rfl, rfl, IsList.of_plain p1, G1 e2 q1, rfl⟩
    · cases e
  · cases e
theorem X9 {x : AV} {i : Str} (h : Ut x = some i) : x = .str i := by
  cases x with
  | str j => cases h; rfl
  | _ => cases h
theorem VR.isStr {i : Str} {u : Value} (q : VR C μ h (.str i) u) : ∃ t, u = .str i t := by cases q; exact ⟨_, rfl⟩
theorem Pl {r t : Bool} (e : some t = some r) (k : Q (.bool r) s) : Q (.bool t) s := by cases e; exact k
theorem Kh {r : Bool} : (none : Option Bool) ≠ some r := fun e => by cases e
theorem A7v {x y : AV} {r : Bool} {p q : Value} {n : Nat} (S : St C base b env Γ ρ μ H s) (hx : VR C μ s.heap x p) (hy : VR C μ s.heap y q) (e : eqV x y H = some r) (a : AOk base A n)
    (k : Q (.bool r) s) : wpAny (model C.prog C.w) A (compareOp .Eq p q) Q E s := by
  unfold eqV at e
  by_cases hi : (Cn x).isSome = true ∧ (Cn y).isSome = true
  · exact C6 (K := compareOp _) Kh hx hy ((if_pos hi).symm.trans e) fun a c t u e => PyProof.Rows.eq_int (Pl e k)
  · rw [if_neg hi] at e
    by_cases hs : (Ut x).isSome = true ∧ (Ut y).isSome = true
    · rw [if_pos hs] at e
      obtain ⟨a, h1⟩ := Option.isSome_iff_exists.mp hs.1
      obtain ⟨c, h2⟩ := Option.isSome_iff_exists.mp hs.2
      rw [h1, h2] at e
      cases X9 h1
      cases X9 h2
      obtain ⟨t, rfl⟩ := hx.isStr
      obtain ⟨u, rfl⟩ := hy.isStr
      exact PySem.P.eq_str (Pl e k)
    · exact A6i S hx hy ((if_neg hs).symm.trans e) a k
theorem Zv {op : CmpOp} {x : AV} {r : Bool} {p : Value} (hx : VR C μ s.heap x p) (e : R2 x = some r) (k1 : r = true → wpAny (model C.prog C.w) A (compareOp op .none .none) Q E s) (k2 : r = false → ∀ {p : Value}, p ≠ .none → wpAny (model C.prog C.w) A (compareOp op p .none) Q E s) :
    wpAny (model C.prog C.w) A (compareOp op p .none) Q E s := by
  cases hx with
  | none => exact k1 (Option.some.inj e).symm
  | int => exact k2 (Option.some.inj e).symm fun q => by cases q
  | bool => exact k2 (Option.some.inj e).symm fun q => by cases q
  | ref => exact k2 (Option.some.inj e).symm fun q => by cases q
  | _ => cases e
theorem L3 {α β : Type} {o : Option α} {f : α → Option β} {c : β} (e : o.bind f = some c) : ∃ a, o = some a ∧ f a = some c := by
  cases o with
  | none => cases e
  | some a => exact ⟨a, rfl, e⟩
theorem A6a {x y : AV} {r : Bool} {p q : Value} {n : Nat} (S : St C base b env Γ ρ μ H s) (hx : VR C μ s.heap x p) (hy : VR C μ s.heap y q) (e : A1r x y H = some r) (a : AOk base A n) (k : Q (.bool r) s) : wpAny (model C.prog C.w) A (compareOp .Lt p q) Q E s := by
  refine bC fun hno => ?_
  obtain ⟨is, e1, e⟩ := L3 e
  obtain ⟨xs, e1, e2⟩ := L3 e1
  obtain ⟨js, e3, e⟩ := Option.map_eq_some_iff.mp e
  obtain ⟨ys, e3, e4⟩ := L3 e3
  subst e
  obtain ⟨c1, vs, rfl, p1, q1⟩ := Iu S.hp hx e1
  obtain ⟨c2, us, rfl, p2, q2⟩ := Iu S.hp hy e3
  refine hno ?_
  exact A36 p1 p2 (G1 e2 q1) (G1 e4 q2) (by have := a.units; exact Nat.lt_of_le_of_lt (Nat.le_trans (Nat.le_add_right _ _) (Nat.le_add_right _ _)) this) k
theorem I0 {op : CmpOp} {x y : AV} {r : Bool} {p q : Value} {n : Nat} (S : St C base b env Γ ρ μ H s) (hx : VR C μ s.heap x p) (hy : VR C μ s.heap y q) (e : B5 op x y H = some r) (a : AOk base A n)
    (k : Q (.bool r) s) : wpAny (model C.prog C.w) A (compareOp op p q) Q E s := by
  cases op with
  | Lt =>
    have e : (if (Cn x).isSome = true then D5 none x y fun a b => some (decide (a < b)) else A1r x y H) = some r := e
    by_cases hi : (Cn x).isSome = true
    · exact C6 (K := compareOp _) Kh hx hy ((if_pos hi).symm.trans e) fun a c t u e => PyProof.Rows.lt_int (Pl e k)
    · exact A6a S hx hy ((if_neg hi).symm.trans e) a k
  | LtE => exact C6 (K := compareOp _) Kh hx hy e fun a c t u e => PyProof.Rows.le_int (Pl e k)
  | Gt => exact C6 (K := compareOp _) Kh hx hy e fun a c t u e => PyProof.Rows.gt_int (Pl e k)
  | GtE => cases e
  | Eq => exact A7v S hx hy e a k
  | NotEq =>
    have e : (if (Cn x).isSome = true ∧ (Cn y).isSome = true then D5 none x y fun a b => some (!(a == b)) else (Gv x y H).map (!·)) = some r := e
    by_cases hi : (Cn x).isSome = true ∧ (Cn y).isSome = true
    · exact C6 (K := compareOp _) Kh hx hy ((if_pos hi).symm.trans e) fun a c t u e => PyProof.Rows.ne_int (Pl e k)
    · exact A4p S hx hy ((if_neg hi).symm.trans e) a k
  | In =>
    refine bC fun hno => ?_
    obtain ⟨i, t, c, vs, is, rfl, rfl, p1, q1, rfl⟩ := Q4 S hx hy e
    refine hno ?_
    exact in_list_ints p1 q1 (by rw [Xv]; exact k)
  | NotIn =>
    have e : (My x y H).map (!·) = some r := e
    cases e2 : My x y H with
    | none => rw [e2] at e; cases e
    | some r' =>
      refine bC fun hno => ?_
      rw [e2] at e; cases e
      obtain ⟨i, t, c, vs, is, rfl, rfl, p1, q1, rfl⟩ := Q4 S hx hy e2
      refine hno ?_
      exact notin_list_ints p1 q1 (by rw [Xv]; exact k)
  | Is =>
    cases hy with
    | none => exact Zv hx e (fun h => is_none_none (h ▸ k)) fun h {p} hp => is_none_ne hp (h ▸ k)
    | _ => cases e
  | IsNot => cases e
end
end Mine
namespace Mine
open PySem PySem.Calls PyProof.Rows PySem.SeqAt
section
variable {C : Cx} {μ : List Addr} {h h' : Heap} {base : Bs} {env : Env} {Γ : List Str} {ρ : A8} {H H' : A0} {b : Nat} {s s' : Shared} {A : Around} {E : Value → Shared → Prop} {Q : Value → Shared → Prop} {n : Nat}
variable {strF : Bi}
theorem B6.grow {v : AV} {u : Value} (S : St C base b env Γ ρ μ H s) (k : B6 C base b env Γ ρ μ s v H Q) {h' : Heap} {tk : Nat} (g : ∀ {a : Addr} {o : Obj}, s.heap.get? a = some o → h'.get? a = some o)
    (q : VR C μ h' v u) : Q u { s with heap := h', toks := tk } :=
  k u { s with heap := h', toks := tk } μ (Ext.grow g) (S.grow (s' := { s with heap := h', toks := tk }) g rfl rfl) q
theorem B6.led {v : AV} {u : Value} (S : St C base b env Γ ρ μ H s) (k : B6 C base b env Γ ρ μ s v H Q) {m : Str → Option Value} (nm : s.heap.Ns env.locals m) {h' : Heap} {tk : Nat}
    (F : Fr {} env.locals h' m) (N : News {} env.locals h' (Gd s.heap env.locals)) (q : VR C μ h' v u) : Q u { s with heap := h', toks := tk } := by
  obtain ⟨S', X⟩ := S.growL (s' := { s with heap := h', toks := tk }) nm F.ns (fun hne e => Qb (l := []) N hne e) rfl rfl
  exact k u _ μ X S' q
theorem B6.list {xs : List AV} {vs : List Value} {a : Addr} {n : Nat} (S : St C base b env Γ ρ μ H s) (k : B6 C base b env Γ ρ μ s (.ref H.length) (H ++ [.list xs]) Q) {h' : Heap} {tk : Nat} (g : ∀ {a : Addr} {o : Obj}, s.heap.get? a = some o → h'.get? a = some o)
    (ha : s.heap.get? a = none) (hl : h'.get? a = some { cls := .type "list", data := .seq vs.toArray n }) (hv : VRs C μ h' xs vs) (hz : xs.length ≤ lim) : Q (.ref a) { s with heap := h', toks := tk } := by
  have S' := (S.grow (s' := { s with heap := h', toks := tk }) g rfl rfl).track (a := a) (vs := vs) ⟨n, hl⟩ hv (Ge S ha) (Bq S ha) hz
  exact k _ _ _ (Ext.track ha g) S' (.ref (by rw [← S.hp.len]; simp))
theorem VRs.one {x : AV} {us : List Value} (q : VRs C μ h [x] us) : ∃ u, us = [u] ∧ VR C μ h x u := by
  cases q with | cons a r => cases r; exact ⟨_, rfl, a⟩
theorem VRs.two {x y : AV} {us : List Value} (q : VRs C μ h [x, y] us) : ∃ u w, us = [u, w] ∧ VR C μ h x u ∧ VR C μ h y w := by
  cases q with | cons a r => cases r with | cons c r => cases r; exact ⟨_, _, rfl, a, c⟩
theorem Nu {r : Nat} {a : Addr} (R : Cm C μ H h) (e : μ[r]? = some a) : ∃ o, h.get? a = some o ∧ ((∃ xs, H[r]? = some (.list xs)) ∧ o.cls = .type "list" ∨ H[r]? = some .dict ∧ o.cls = .type "dict") := by
  obtain ⟨o, eo⟩ := R.get e
  cases o with
  | list xs => obtain ⟨_, a', vs, e', ⟨n, p⟩, _⟩ := R.list eo; rw [e] at e'; cases e'; exact ⟨_, p, .inl ⟨⟨xs, eo⟩, rfl⟩⟩
  | dict => obtain ⟨a', n, e', p⟩ := R.dict eo; rw [e] at e'; cases e'; exact ⟨_, p, .inr ⟨eo, rfl⟩⟩
theorem Zf {h' : Heap} (g : ∀ b o, h.get? b = some o → h'.get? b = some o) : h.get? h'.objs.size = none := by
  cases e : h.get? h'.objs.size with
  | none => rfl
  | some o => exact absurd (Heap.lt_size (g _ _ e)) (Nat.lt_irrefl _)
inductive Aaz (C : Cx) (μ : List Addr) (h : Heap) (xs : List AV) (u : Value) : Prop
  | mk (l : xs.length ≤ lim) (a : Addr) (o : Obj) (vs : List Value) (k : Nat) (T : String) (e : u = .ref a) (t : T = "list" ∨ T = "tuple") (g : h.get? a = some o) (c : o.cls = .type T) (d : o.data = .seq (List.toArray vs) k) (q : VRs C μ h xs vs) : Aaz C μ h xs u
theorem Ik (R : Cm C μ H h) {v : AV} {u : Value} {xs : List AV} (q : VR C μ h v u) (e : Af v H = some xs) :
    Aaz C μ h xs u := by
  unfold Af at e
  split at e
  · cases e
    cases q with
    | tup t _ l r => obtain ⟨o, ho, hc, k, hd⟩ := t; exact ⟨l, _, o, _, k, "tuple", rfl, .inr rfl, ho, hc, hd, r⟩
  · obtain ⟨a, rfl, ea⟩ := q.isRef
    split at e
    · rename_i ys e1; cases e
      obtain ⟨l, a', vs, ea', ⟨k, p⟩, r⟩ := R.list e1
      rw [ea] at ea'; cases ea'
      exact ⟨l, a, _, vs, k, "list", rfl, .inl rfl, p, rfl, rfl, r⟩
    · cases e
  · cases e
theorem Gz : ∀ (is : List Int) (i : Int), is.foldl max i ∈ i :: is ∧ ∀ a ∈ i :: is, a ≤ is.foldl max i
  | [], i => ⟨by simp, by simp⟩
  | j :: is, i => by
    simp only [List.foldl_cons]
    obtain ⟨h1, h2⟩ := Gz is (max i j)
    refine ⟨?_, ?_⟩
    · rcases List.mem_cons.mp h1 with e | h1
      · rw [e]
        rcases Int.le_total i j with h | h
        · rw [Int.max_eq_right h]; simp
        · rw [Int.max_eq_left h]; simp
      · simp [h1]
    · intro a ha
      have hm := h2 (max i j) (by simp)
      rcases List.mem_cons.mp ha with rfl | ha
      · exact (Int.max_le.mp hm).1
      · rcases List.mem_cons.mp ha with rfl | ha
        · exact (Int.max_le.mp hm).2
        · exact h2 a (by simp [ha])
theorem A4k {x : AV} {i : Bool} (h : Xq x = some i) : x = .bool i := by
  cases x with
  | bool j => cases h; rfl
  | _ => cases h
theorem L1 {xs : List AV} {bs : List Bool} {vs : List Value} (e : Bg xs = some bs) (q : VRs C μ h xs vs) : vs = bs.map .bool := by
  induction xs generalizing bs vs with
  | nil => cases e; cases q; rfl
  | cons x xs ih =>
    have e : ((Xq x).bind fun i => (Bg xs).map (i :: ·)) = some bs := e
    cases q with
    | cons a q =>
      cases h1 : Xq x with
      | none => rw [h1] at e; cases e
      | some i =>
        cases h2 : Bg xs with
        | none => rw [h1, h2] at e; cases e
        | some js =>
          rw [h1, h2] at e; cases e
          cases A4k h1
          cases a
          rw [ih h2 q]; rfl
theorem Zt {cs : List Bool} {i : Nat} {v : Value} (e : (cs.map Value.bool)[i]? = some v) : v = .bool (cs.getD i false) := by
  rw [List.getElem?_map] at e
  rw [List.getD_eq_getElem?_getD]
  cases h1 : cs[i]? with
  | none => rw [h1] at e; cases e
  | some c => rw [h1] at e; cases e; rfl
theorem Yg (cs : List Bool) : (List.range cs.length).all (fun i => cs.getD i false) = cs.all id := by
  rw [Bool.eq_iff_iff, List.all_eq_true, List.all_eq_true]
  constructor
  · intro q x hx
    obtain ⟨i, hi, rfl⟩ := List.mem_iff_getElem.mp hx
    have := q i (List.mem_range.mpr hi)
    simpa [List.getD_eq_getElem?_getD, hi] using this
  · intro q i hi
    have hi' := List.mem_range.mp hi
    have := q _ (List.getElem_mem hi')
    simpa [List.getD_eq_getElem?_getD, hi'] using this
theorem Mv {vs : List Value} {is : List Int} (q : IntsAre vs is) : VRs C μ h (is.map .int) vs := by
  induction q with
  | nil => exact .nil
  | cons n t _ ih => exact .cons (.int n t) ih
theorem V9 {a c : Int} {i : Nat} (hi : i < (c - a).toNat) : (B4 a c)[i]? = some (.int (a + i)) := by
  unfold B4
  rw [List.getElem?_map, List.getElem?_range hi]; rfl
theorem Fb {a c : Int} : (B4 a c).length = (c - a).toNat := by unfold B4; simp
theorem Er {α : Type} {v : α} {H' : A0} {P : Prop} (e : (Res.bad : Res α) = .ok v H') : P := by cases e
structure Scr (C : Cx) (base : Bs) : Prop where
  scr : ∃ svs : List Value, base.g.IsList C.sa svs.toArray ∧ IntsAre svs C.sc ∧ C.sc.length ≤ lim
theorem Jv {h h' : Heap} {a : Addr} {Af : Array Value} (x : h.IsList a Af) (k : ∀ o, h.get? a = some o → h'.get? a = some o) : h'.IsList a Af := let ⟨o, e, r⟩ := x; ⟨o, k o e, r⟩
theorem A92 {x v : AV} {u : Value} (G : Scr C base) (S : St C base b env Γ ρ μ H s) (hx : VR C μ s.heap x u) (e : prim strF C.sc .len [x] H = .ok v H')
    (k : B6 C base b env Γ ρ μ s v H' Q) : wpAny (model C.prog C.w) A (call (.builtin "len") [u]) Q E s := by
  by_cases hs : x = .scr
  · refine bC fun hno => ?_
    subst hs
    cases hx
    rw [A17] at e
    cases e
    obtain ⟨svs, l, hi, hz⟩ := G.scr
    have l' : s.heap.IsList C.sa svs.toArray := Jv l fun _ => S.kg
    have hlen : svs.length = C.sc.length := hi.length
    refine hno ?_
    refine call_len_list l' ?_ (k _ _ μ .refl (S.tok _) ?_)
    · rw [List.size_toArray, hlen]
      have : C.sc.length < 2 ^ 63 := Nat.lt_of_le_of_lt hz (by decide)
      exact Int.ofNat_lt.mpr this
    · rw [List.size_toArray, hlen]; exact .int _ _
  · have e : (match Af x H with | some xs => Res.ok (AV.int xs.length) H | none => .bad) = .ok v H' := by cases x <;> first | exact e | exact absurd rfl hs
    split at e
    · rename_i xs e1; cases e
      obtain ⟨hz, a, o, vs, j, T, rfl, hT, ho, hc, hd, q⟩ := Ik S.hp hx e1
      have hsz : ((List.toArray vs).size : Int) < 2 ^ 63 := by
        rw [List.size_toArray, ← q.length]
        have : xs.length < 2 ^ 63 := Nat.lt_of_le_of_lt hz (by decide)
        exact Int.ofNat_lt.mpr this
      rcases hT with rfl | rfl
      · refine call_len_list ⟨o, ho, hc, j, hd⟩ hsz (k _ _ μ .refl (S.tok _) ?_)
        rw [List.size_toArray, ← q.length]; exact .int _ _
      · refine PyProof.Rows.len_tuple ⟨o, ho, hc, j, hd⟩ hsz (k _ _ μ .refl (S.tok _) ?_)
        rw [List.size_toArray, ← q.length]; exact .int _ _
    · cases e
theorem A5r {x v : AV} {u : Value} (S : St C base b env Γ ρ μ H s) (hx : VR C μ s.heap x u) (e : prim strF C.sc .list [x] H = .ok v H')
    (k : B6 C base b env Γ ρ μ s v H' Q) : wpAny (model C.prog C.w) A (call (.type "list") [u]) Q E s := by
  rw [Mg] at e
  split at e
  · rename_i xs e1
    unfold Aw at e
    split at e
    · rename_i hz; cases e
      obtain ⟨_, a, o, vs, j, T, rfl, hT, ho, hc, hd, q⟩ := Ik S.hp hx e1
      refine call_list_seq a hT ho hc hd (fun h' c' g hl => ?_) ?_
      · exact B6.list S k (tk := s.toks) (fun e => g _ _ e) (Ax _) hl (q.keeps fun e => g _ _ e) hz
      · rw [List.size_toArray, ← q.length]; exact D8 hz
    · cases e
  · cases e
theorem A2m {x v : AV} {u : Value} (S : St C base b env Γ ρ μ H s) (hx : VR C μ s.heap x u) (e : prim strF C.sc .tuple [x] H = .ok v H')
    (k : B6 C base b env Γ ρ μ s v H' Q) : wpAny (model C.prog C.w) A (call (.type "tuple") [u]) Q E s := by
  rw [Wd] at e
  split at e
  · rename_i xs e1; cases e
    obtain ⟨hz, a, o, vs, j, T, rfl, hT, ho, hc, hd, q⟩ := Ik S.hp hx e1
    rcases hT with rfl | rfl
    · refine call_tuple_list ⟨o, ho, hc, j, hd⟩ (fun h' g => ?_) (by rw [List.size_toArray, ← q.length]; exact D8 hz)
      have g' : ∀ {a : Addr} {o : Obj}, s.heap.get? a = some o → (h'.push { cls := .type "tuple", data := .seq (List.toArray vs) }).get? a = some o := fun e => Heap.get?_push_of_some _ (g _ _ e)
      exact B6.grow S k (tk := s.toks) g' (.tup ⟨_, Heap.get?_push_size _ rfl, rfl, _, rfl⟩ (S.notZ (Zf g)) hz (q.keeps g'))
    · refine call_tuple_same ⟨o, ho, hc, j, hd⟩ (k _ _ μ .refl S (by
        cases x with
        | tup vs' => cases e1; exact hx
        | ref r => cases hx with | ref ea => (exfalso; obtain ⟨o', ho', ⟨_, hc'⟩ | ⟨_, hc'⟩⟩ := Nu S.hp ea <;> (rw [ho] at ho'; cases ho'; rw [hc] at hc'; simp at hc'))
        | _ => simp [Af] at e1))
  · cases e
theorem A5v {x y v : AV} {u w : Value} (S : St C base b env Γ ρ μ H s) (a : AOk base A n) (hq : base.q = false) (hx : VR C μ s.heap x u) (hy : VR C μ s.heap y w) (e : prim strF C.sc .min2 [x, y] H = .ok v H')
    (k : B6 C base b env Γ ρ μ s v H' Q) : wpAny (model C.prog C.w) A (call (.builtin "min") [u, w]) Q E s := by
  refine bC fun hno => ?_
  obtain ⟨m, nm, _⟩ := S.er.ns
  refine hno ?_
  refine C6 (K := fun p q => call (.builtin "min") [p, q]) Hz hx hy e fun i j t t' e => ?_
  refine min_two_N (a.handled hq) (fr0 nm) (Sc _ _) fun h' tk F N => ?_
  have hm : (if j < i then j else i) = min i j := by split <;> (first | exact (Int.min_eq_right (Int.le_of_lt (by assumption))).symm | exact (Int.min_eq_left (Int.not_lt.mp (by assumption))).symm)
  rw [hm]
  cases e
  exact B6.led S k nm F N (.int _ _)
theorem A5e {x y v : AV} {u w : Value} (S : St C base b env Γ ρ μ H s) (a : AOk base A n) (hq : base.q = false) (hx : VR C μ s.heap x u) (hy : VR C μ s.heap y w) (e : prim strF C.sc .max2 [x, y] H = .ok v H')
    (k : B6 C base b env Γ ρ μ s v H' Q) : wpAny (model C.prog C.w) A (call (.builtin "max") [u, w]) Q E s := by
  refine bC fun hno => ?_
  obtain ⟨m, nm, _⟩ := S.er.ns
  refine hno ?_
  refine C6 (K := fun p q => call (.builtin "max") [p, q]) Hz hx hy e fun i j t t' e => ?_
  refine max_two_N (a.handled hq) (fr0 nm) (Sc _ _) fun h' tk F N => ?_
  have hm : (if j > i then j else i) = max i j := by split <;> (first | exact (Int.max_eq_right (Int.le_of_lt (by assumption))).symm | exact (Int.max_eq_left (Int.not_lt.mp (by assumption))).symm)
  rw [hm]
  cases e
  exact B6.led S k nm F N (.int _ _)
end
end Mine
namespace Mine
open PySem PySem.Calls PyProof.Rows PySem.SeqAt
section
variable {C : Cx} {μ : List Addr} {h h' : Heap} {base : Bs} {env : Env} {Γ : List Str} {ρ : A8} {H H' : A0} {b : Nat} {s s' : Shared} {A : Around} {E : Value → Shared → Prop} {Q : Value → Shared → Prop} {n : Nat}
variable {strF : Bi}
theorem Hb {vs : List Value} {is : List Int} (h : IntsAre vs is) {i : Nat} {v : Value} (e : vs[i]? = some v) : ∃ t, v = .int (is.getD i 0) t := by
  induction h generalizing i with
  | nil => cases e
  | cons c t r ih => cases i with
    | zero => cases e; exact ⟨t, rfl⟩
    | succ i => exact ih e
inductive A6y (C : Cx) (μ : List Addr) (h : Heap) (x y : AV) (u : Value) : Prop
  | mk (a : Addr) (p r : Value) (e : u = .ref a) (t : h.IsTuple a #[p, r]) (v : VR C μ h x p) (w : VR C μ h y r) : A6y C μ h x y u
theorem Kt {x y : AV} {u : Value} (q : VR C μ h (.tup [x, y]) u) : A6y C μ h x y u := by
  cases q with
  | tup t _ l vs => obtain ⟨p, r, rfl, h1, h2⟩ := vs.two; exact ⟨_, p, r, rfl, t, h1, h2⟩
theorem A6j {i j : Int} {u : Value} (S : St C base b env Γ ρ μ H s) (a : AOk base A n) (hq : base.q = false) (hx : VR C μ s.heap (.tup [.int i, .int j]) u)
    (k : B6 C base b env Γ ρ μ s (.int (min i j)) H Q) : wpAny (model C.prog C.w) A (call (.builtin "min") [u]) Q E s := by
  obtain ⟨t, p, r, rfl, ht, hp, hr⟩ := Kt hx
  obtain ⟨t1, rfl⟩ := hp.isInt; obtain ⟨t2, rfl⟩ := hr.isInt
  have hlt : t < s.heap.objs.size := by obtain ⟨o, ho, _⟩ := ht; exact Heap.lt_size ho
  refine call_min_walk (wpAny_pyIter_tuple ht ?_)
  refine ⟨_, _, _, _, _, _, fun p q => decide ([i, j].getD p 0 < [i, j].getD q 0), rfl, Walks.tuple (A := A.in1) (a.handled hq) _ t (Nat.ne_of_lt hlt) #[.int i t1, .int j t2], ⟨⟨_, Heap.get?_push_size _ rfl, rfl, rfl⟩, ?_⟩, ?_, (by simp),
    CmpOf.ints_lt (fun k => [i, j].getD k 0) (fun m v e => Hb (vs := [.int i t1, .int j t2]) (.cons _ _ (.cons _ _ .nil)) (by simpa using e)), fun v h' tk hP hk => ?_⟩
  · exact IsTuple.stays ht fun _ e => Heap.get?_push_of_some _ e
  · intro d hd
    rw [size_push]
    simp at hd
    rcases hd with rfl | rfl
    · exact Nat.lt_succ_self _
    · exact Nat.lt_succ_of_lt hlt
  · have g : ∀ {a : Addr} {o : Obj}, s.heap.get? a = some o → h'.get? a = some o := fun {a o} e => hk a o (by simp; exact Nat.ne_of_lt (Heap.lt_size e)) (Heap.get?_push_of_some _ e)
    refine B6.grow S k g ?_
    simp [argBest] at hP
    split at hP
    · simp at hP; subst hP; have : min i j = j := by exact Int.min_eq_right (Int.le_of_lt (by assumption))
      rw [this]; exact .int _ _
    · simp at hP; subst hP; have : min i j = i := by exact Int.min_eq_left (Int.not_lt.mp (by assumption))
      rw [this]; exact .int _ _
theorem A4q {i j : Int} {u : Value} (S : St C base b env Γ ρ μ H s) (a : AOk base A n) (hq : base.q = false) (hx : VR C μ s.heap (.tup [.int i, .int j]) u)
    (k : B6 C base b env Γ ρ μ s (.int (max i j)) H Q) : wpAny (model C.prog C.w) A (call (.builtin "max") [u]) Q E s := by
  obtain ⟨t, p, r, rfl, ht, hp, hr⟩ := Kt hx
  obtain ⟨t1, rfl⟩ := hp.isInt; obtain ⟨t2, rfl⟩ := hr.isInt
  have hlt : t < s.heap.objs.size := by obtain ⟨o, ho, _⟩ := ht; exact Heap.lt_size ho
  refine call_max_walk (wpAny_pyIter_tuple ht ?_)
  refine ⟨_, _, _, _, _, _, fun p q => decide ([i, j].getD p 0 > [i, j].getD q 0), rfl, Walks.tuple (A := A.in1) (a.handled hq) _ t (Nat.ne_of_lt hlt) #[.int i t1, .int j t2], ⟨⟨_, Heap.get?_push_size _ rfl, rfl, rfl⟩, ?_⟩, ?_, (by simp),
    CmpOf.ints_gt (fun k => [i, j].getD k 0) (fun m v e => Hb (vs := [.int i t1, .int j t2]) (.cons _ _ (.cons _ _ .nil)) (by simpa using e)), fun v h' tk hP hk => ?_⟩
  · exact IsTuple.stays ht fun _ e => Heap.get?_push_of_some _ e
  · intro d hd
    rw [size_push]
    simp at hd
    rcases hd with rfl | rfl
    · exact Nat.lt_succ_self _
    · exact Nat.lt_succ_of_lt hlt
  · have g : ∀ {a : Addr} {o : Obj}, s.heap.get? a = some o → h'.get? a = some o := fun {a o} e => hk a o (by simp; exact Nat.ne_of_lt (Heap.lt_size e)) (Heap.get?_push_of_some _ e)
    refine B6.grow S k g ?_
    simp [argBest] at hP
    split at hP
    · simp at hP; subst hP; have : max i j = j := by exact Int.max_eq_right (Int.le_of_lt (by assumption))
      rw [this]; exact .int _ _
    · simp at hP; subst hP; have : max i j = i := by exact Int.max_eq_left (Int.not_lt.mp (by assumption))
      rw [this]; exact .int _ _
theorem Ve {ns : List Int} {M M' : Int} (h1 : M ∈ ns) (h2 : ∀ a ∈ ns, a ≤ M) (h3 : M' ∈ ns) (h4 : ∀ a ∈ ns, a ≤ M') : M = M' := by
  have := h2 _ h3; have := h4 _ h1; exact Int.le_antisymm this (by assumption)
theorem A4y {r : Nat} {xs : List AV} {i : Int} {is : List Int} {u : Value} (S : St C base b env Γ ρ μ H s) (a : AOk base A n) (hq : base.q = false) (hx : VR C μ s.heap (.ref r) u) (e1 : H[r]? = some (.list xs)) (e2 : Bh xs = some (i :: is))
    (k : B6 C base b env Γ ρ μ s (.int (is.foldl max i)) H Q) : wpAny (model C.prog C.w) A (call (.builtin "max") [u]) Q E s := by
  refine bC fun hno => ?_
  obtain ⟨c, rfl, ec⟩ := hx.isRef
  obtain ⟨_, a', vs, ea', p1, q1⟩ := S.hp.list e1
  rw [ec] at ea'; cases ea'
  obtain ⟨m, nm, _⟩ := S.er.ns
  refine hno ?_
  refine max_list_N (a.handled hq) (fr0 nm) (Sc _ _) (IsList.of_plain p1) (G1 e2 q1) (by simp) fun h' M t tk F N h1 h2 => ?_
  obtain ⟨h3, h4⟩ := Gz is i
  rw [Ve h1 h2 h3 h4]
  exact B6.led S k nm F N (.int _ _)
theorem A8x {r : Nat} {xs : List AV} {cs : List Bool} {u : Value} (S : St C base b env Γ ρ μ H s) (a : AOk base A n) (hq : base.q = false) (hx : VR C μ s.heap (.ref r) u) (e1 : H[r]? = some (.list xs)) (e2 : Bg xs = some cs)
    (k : B6 C base b env Γ ρ μ s (.bool (cs.all id)) H Q) : wpAny (model C.prog C.w) A (call (.builtin "all") [u]) Q E s := by
  refine bC fun hno => ?_
  obtain ⟨c, rfl, ec⟩ := hx.isRef
  obtain ⟨_, a', vs, ea', p1, q1⟩ := S.hp.list e1
  rw [ec] at ea'; cases ea'
  refine hno ?_
  cases L1 e2 q1
  have hlt : c < s.heap.objs.size := by obtain ⟨_, ho⟩ := p1; exact Heap.lt_size ho
  refine call_all_walk (wpAny_pyIter_list (IsList.of_plain p1) ?_)
  refine ⟨_, _, _, _, _, _, fun i => cs.getD i false, rfl, Walks.list (A := A.in1) (a.handled hq) _ c (Nat.ne_of_lt hlt) (cs.map Value.bool).toArray, ⟨⟨_, Heap.get?_push_size _ rfl, rfl, rfl⟩, (IsList.of_plain p1).push _⟩, ?_, fun h' tk hk => ?_⟩
  · intro i v s Q E e q
    have := Zt (by simpa using e)
    subst this
    exact wpAny_truthy_bool q
  · have g : ∀ {a : Addr} {o : Obj}, s.heap.get? a = some o → h'.get? a = some o := fun {a o} e => hk a o (by simp; exact Nat.ne_of_lt (Heap.lt_size e)) (Heap.get?_push_of_some _ e)
    refine B6.grow S k g ?_
    rw [List.size_toArray, List.length_map, Yg]
    exact .bool _
theorem A8s {c : Bool} {u : Value} (S : St C base b env Γ ρ μ H s) (hx : VR C μ s.heap (.bool c) u) (k : B6 C base b env Γ ρ μ s (.int (if c then 1 else 0)) H Q) : wpAny (model C.prog C.w) A (call (.type "int") [u]) Q E s := by
  cases hx
  exact call_int_bool (k _ _ μ .refl (S.tok _) (.int _ _))
theorem Go (x : Int) : ∀ l : List Int, (Ce x l).Perm (x :: l)
  | [] => List.Perm.refl _
  | y :: r => by
    unfold Ce
    split
    · exact List.Perm.refl _
    · exact ((Go x r).cons y).trans (List.Perm.swap x y r)
theorem J4 : ∀ l : List Int, (Ch l).Perm l
  | [] => List.Perm.refl _
  | x :: r => (Go x _).trans ((J4 r).cons x)
theorem Hh (x : Int) : ∀ {l : List Int}, l.Pairwise (· ≤ ·) → (Ce x l).Pairwise (· ≤ ·)
  | [], _ => by simp [Ce]
  | y :: r, q => by
    unfold Ce
    split
    · rename_i hxy
      rw [List.pairwise_cons] at q ⊢
      refine ⟨fun z hz => ?_, by rw [List.pairwise_cons]; exact q⟩
      rcases List.mem_cons.mp hz with rfl | hz
      · exact hxy
      · exact Int.le_trans hxy (q.1 z hz)
    · rename_i hxy
      rw [List.pairwise_cons] at q ⊢
      refine ⟨fun z hz => ?_, Hh x q.2⟩
      have := (Go x r).mem_iff.mp hz
      rcases List.mem_cons.mp this with rfl | hz
      · exact Int.le_of_lt (Aau hxy)
      · exact q.1 z hz
theorem K9 : ∀ l : List Int, (Ch l).Pairwise (· ≤ ·)
  | [] => .nil
  | x :: r => Hh x (K9 r)
theorem Lc : ∀ {a b : List Int}, a.Perm b → a.Pairwise (· ≤ ·) → b.Pairwise (· ≤ ·) → a = b
  | [], b, p, _, _ => (List.Perm.eq_nil p.symm).symm
  | x :: a, b, p, ha, hb => by
    cases b with
    | nil => exact absurd p.symm.length_eq (by simp)
    | cons y b =>
      have h1 := List.pairwise_cons.mp ha
      have h2 := List.pairwise_cons.mp hb
      have e : x = y := by
        have q1 : x ∈ y :: b := p.subset List.mem_cons_self
        have q2 : y ∈ x :: a := p.symm.subset List.mem_cons_self
        rcases List.mem_cons.mp q1 with q | q
        · exact q
        · rcases List.mem_cons.mp q2 with r | r
          · exact r.symm
          · have := h2.1 x q; have := h1.1 y r; exact Int.le_antisymm this (by assumption)
      subst e
      rw [Lc (List.Perm.cons_inv p) h1.2 h2.2]
theorem Yo {r : Nat} {xs : List AV} {is : List Int} {u : Value} (S : St C base b env Γ ρ μ H s) (hx : VR C μ s.heap (.ref r) u) (e1 : H[r]? = some (.list xs)) (e2 : Bh xs = some is) (h64 : xs.length < 64)
    (k : B6 C base b env Γ ρ μ s (.ref H.length) (H ++ [.list ((Ch is).map .int)]) Q) : wpAny (model C.prog C.w) A (call (.builtin "sorted") [u]) Q E s := by
  refine bC fun hno => ?_
  obtain ⟨c, rfl, ec⟩ := hx.isRef
  obtain ⟨hz, a', vs, ea', p1, q1⟩ := S.hp.list e1
  rw [ec] at ea'; cases ea'
  obtain ⟨m, nm, _⟩ := S.er.ns
  have hi := G1 e2 q1
  refine hno ?_
  refine sorted_N (fr0 nm) (Sc _ _) (IsList.of_plain p1) hi (by rw [← q1.length]; exact h64) fun h' vs' ns' e F N hI' hp hs' => ?_
  have hns : ns' = Ch is := Lc (hp.trans (J4 is).symm) hs' (K9 is)
  subst hns
  have hlen : ((Ch is).map AV.int).length ≤ lim := by
    rw [List.length_map, (J4 is).length_eq, ← hi.length, ← q1.length]; exact hz
  obtain ⟨S', X⟩ := S.ledger (l := [_]) (n := e) nm F N (by exact .head _) (Do (Nat.le_succ _)) (Mv hI') hlen
  exact k _ _ _ X S' (.ref (by rw [← S.hp.len]; simp))
theorem Rn {c : Int} {r : Addr} {t u v : Tok} (S : St C base b env Γ ρ μ H s) (a : AOk base A n) (hq : base.q = false) (hr : IsRange s.heap r 0 c 1 t u v) (hc : inR c = true)
    (k : B6 C base b env Γ ρ μ s (.ref H.length) (H ++ [.list (B4 0 c)]) Q) : wpAny (model C.prog C.w) A (call (.type "list") [.ref r]) Q E s := by
  have hc1 : -1000 ≤ c ∧ c ≤ 1000 := of_decide_eq_true hc
  have hsize : Builtin.Range.rangeSize 0 c 1 = ((c - 0).toNat : Int) := by
    unfold Builtin.Range.rangeSize
    simp
    split
    · exact (Int.max_eq_left (Int.le_of_lt (by assumption))).symm
    · exact (Int.max_eq_right (Int.not_lt.mp (by assumption))).symm
  refine call_list_range (a.handled hq) hr ?_ hsize (Nat.le_trans (oC0 hc1.2) (by decide)) fun h' tk acc' c' g hl hi => ?_
  · exact small_one (by decide) (by decide) (Int.le_trans (by decide) hc1.1) (Int.lt_of_le_of_lt hc1.2 (by decide))
  · have hv : VRs C μ h' (B4 0 c) acc'.toList := by
      refine VRs.of_get ?_ fun i x w e1 e2 => ?_
      · rw [Fb, Array.length_toList, hi.1]
      · have hi' : i < (c - 0).toNat := by rw [← Fb]; exact (List.getElem?_eq_some_iff.mp e1).1
        rw [V9 hi'] at e1
        cases e1
        obtain ⟨t', rfl⟩ := hi.2 i w (by simpa using e2)
        simp
        exact .int _ _
    refine B6.list (n := c') (vs := acc'.toList) S k (fun e => g _ _ e) (Ax _) (by simpa using hl) hv ?_
    rw [Fb]
    have : (c - 0).toNat ≤ 1000 := oC0 hc1.2
    exact Nat.le_trans this (by decide)
theorem A24 {x : AV} {r : Bool} {u : Value} (S : St C base b env Γ ρ μ H s) (hx : VR C μ s.heap x u) (e : Od x = some r) (k : B6 C base b env Γ ρ μ s (.bool r) H Q) :
    wpAny (model C.prog C.w) A (call (.builtin "isinstance") [u, .type "int"]) Q E s := by
  have yes : r = true → Q (.bool true) s := fun hr => by subst hr; exact k _ _ μ .refl S (.bool _)
  have no : r = false → Q (.bool false) { s with toks := s.toks + 1 } := fun hr => by subst hr; exact k _ _ μ .refl (S.tok _) (.bool _)
  cases hx with
  | none => exact IsiPair.NoneType_int (no (Option.some.inj e).symm)
  | bool => exact IsiPair.bool_int (yes (Option.some.inj e).symm)
  | int => exact IsiPair.int_int (yes (Option.some.inj e).symm)
  | str => exact IsiPair.str_int (no (Option.some.inj e).symm)
  | tup t => obtain ⟨o, ho, hc, _⟩ := t; exact IsiPair.tuple_int ho hc (no (Option.some.inj e).symm)
  | ref ea =>
    obtain ⟨o, ho, ⟨_, hc⟩ | ⟨_, hc⟩⟩ := Nu S.hp ea
    · exact IsiPair.list_int ho hc (no (Option.some.inj e).symm)
    · exact IsiPair.dict_int ho hc (no (Option.some.inj e).symm)
  | scr => cases e
  | fn => cases e
  | exc => cases e
theorem Zy {x : AV} {r : Bool} {u : Value} (S : St C base b env Γ ρ μ H s) (hx : VR C μ s.heap x u) (e : Lz x = some r) (k : B6 C base b env Γ ρ μ s (.bool r) H Q) :
    wpAny (model C.prog C.w) A (call (.builtin "isinstance") [u, .type "bool"]) Q E s := by
  have yes : r = true → Q (.bool true) s := fun hr => by subst hr; exact k _ _ μ .refl S (.bool _)
  have no : r = false → Q (.bool false) { s with toks := s.toks + 1 } := fun hr => by subst hr; exact k _ _ μ .refl (S.tok _) (.bool _)
  cases hx with
  | none => exact IsiPair.NoneType_bool (no (Option.some.inj e).symm)
  | bool => exact IsiPair.bool_bool (yes (Option.some.inj e).symm)
  | int => exact IsiPair.int_bool (no (Option.some.inj e).symm)
  | str => exact IsiPair.str_bool (no (Option.some.inj e).symm)
  | tup t => obtain ⟨o, ho, hc, _⟩ := t; exact IsiPair.tuple_bool ho hc (no (Option.some.inj e).symm)
  | ref ea =>
    obtain ⟨o, ho, ⟨_, hc⟩ | ⟨_, hc⟩⟩ := Nu S.hp ea
    · exact IsiPair.list_bool ho hc (no (Option.some.inj e).symm)
    · exact IsiPair.dict_bool ho hc (no (Option.some.inj e).symm)
  | scr => cases e
  | fn => cases e
  | exc => cases e
theorem Vx {x : AV} {r : Bool} {u : Value} (S : St C base b env Γ ρ μ H s) (hx : VR C μ s.heap x u) (e : Kk x = some r) (k : B6 C base b env Γ ρ μ s (.bool r) H Q) :
    wpAny (model C.prog C.w) A (call (.builtin "isinstance") [u, .type "tuple"]) Q E s := by
  have yes : r = true → Q (.bool true) s := fun hr => by subst hr; exact k _ _ μ .refl S (.bool _)
  have no : r = false → Q (.bool false) { s with toks := s.toks + 1 } := fun hr => by subst hr; exact k _ _ μ .refl (S.tok _) (.bool _)
  cases hx with
  | none => exact IsiPair.NoneType_tuple (no (Option.some.inj e).symm)
  | bool => exact IsiPair.bool_tuple (no (Option.some.inj e).symm)
  | int => exact IsiPair.int_tuple (no (Option.some.inj e).symm)
  | str => exact IsiPair.str_tuple (no (Option.some.inj e).symm)
  | tup t => obtain ⟨o, ho, hc, _⟩ := t; exact IsiPair.tuple_tuple ho hc (yes (Option.some.inj e).symm)
  | ref ea =>
    obtain ⟨o, ho, ⟨_, hc⟩ | ⟨_, hc⟩⟩ := Nu S.hp ea
    · exact IsiPair.list_tuple ho hc (no (Option.some.inj e).symm)
    · exact IsiPair.dict_tuple ho hc (no (Option.some.inj e).symm)
  | scr => cases e
  | fn => cases e
  | exc => cases e
theorem Yn {x : AV} {r : Bool} {u : Value} (S : St C base b env Γ ρ μ H s) (hx : VR C μ s.heap x u) (e : Ez x H = some r) (k : B6 C base b env Γ ρ μ s (.bool r) H Q) :
    wpAny (model C.prog C.w) A (call (.builtin "isinstance") [u, .type "list"]) Q E s := by
  have yes : r = true → Q (.bool true) s := fun hr => by subst hr; exact k _ _ μ .refl S (.bool _)
  have no : r = false → Q (.bool false) { s with toks := s.toks + 1 } := fun hr => by subst hr; exact k _ _ μ .refl (S.tok _) (.bool _)
  cases hx with
  | none => exact IsiPair.NoneType_list (no (Option.some.inj e).symm)
  | bool => exact IsiPair.bool_list (no (Option.some.inj e).symm)
  | int => exact IsiPair.int_list (no (Option.some.inj e).symm)
  | str => exact IsiPair.str_list (no (Option.some.inj e).symm)
  | tup t => obtain ⟨o, ho, hc, _⟩ := t; exact IsiPair.tuple_list ho hc (no (Option.some.inj e).symm)
  | ref ea =>
    obtain ⟨o, ho, ⟨⟨xs, e1⟩, hc⟩ | ⟨e1, hc⟩⟩ := Nu S.hp ea
    · rw [Kx, e1] at e; exact IsiPair.list_list ho hc (yes (Option.some.inj e).symm)
    · rw [Kx, e1] at e; exact IsiPair.dict_list ho hc (no (Option.some.inj e).symm)
  | scr => cases e
  | fn => cases e
  | exc => cases e
end
end Mine
namespace Mine
open PySem PySem.Calls PyProof.Rows PySem.SeqAt
noncomputable def Cy : List (Str × Value) := [("len", .builtin "len"), ("range", .type "range"), ("list", .type "list"), ("tuple", .type "tuple"), ("sorted", .builtin "sorted"), ("set", .type "set"), ("min", .builtin "min"), ("max", .builtin "max"),
  ("sum", .builtin "sum"), ("all", .builtin "all"), ("isinstance", .builtin "isinstance"), ("int", .type "int"), ("bool", .type "bool"), ("str", .type "str"), ("zip", .type "zip"), ("ValueError", .type "ValueError")]
inductive A6n (T : Tab) (base : Heap) (a : Addr) (f : FnI) : Prop
  | mk (o : Obj) (fd : FuncData) (body : List Stmt) (h1 : base.get? a = some o) (h2 : o.data = .func fd) (h3 : fd.body = .stmts body) (h4 : fd.globals = mainGlobals) (h5 : fd.closure = []) (h6 : fd.defaults = .none) (h7 : fd.builtins = builtinsNs)
    (h8 : base.CodeRec fd.code fd.qualname) (h9 : Wp T f fd.params body fd.scope = true) : A6n T base a f
structure Gnd (C : Cx) (T : Tab) (base : Bs) : Prop where
  q : base.q = T.q
  okc : T.q = false → ∀ k, T.okc k = true
  scr : Scr C base
  g : base.g.Ns mainGlobals C.mg
  b : base.g.Ns builtinsNs C.mb
  bi : ∀ {x : Str} {v : Value}, Cy.lookup x = some v → C.mg x = none ∧ C.mb x = some v
  fn : ∀ {k : Nat} {x : Str}, T.fns.lookup k = some x → C.mg x = some (.ref (C.fa k)) ∧ ∃ o fd, base.g.get? (C.fa k) = some o ∧ o.data = .func fd
  gint : ∀ {k : Nat} {x : Str} {i : Int}, T.gints.lookup k = some (x, i) → ∃ t, C.mg x = some (.int i t)
  exg : Tu C T base.g
  nolimit : base.g.NoLimit
  defs : ∀ {k : Nat} {f : FnI}, T.defs.lookup k = some f → T.okc k = true → A6n T base.g (C.fa k) f
  qdefs : ∀ {k : Nat} {f : FnI}, T.defs.lookup k = some f → T.qs.contains k = true → A6n T.quiet base.g (C.fa k) f
inductive A3c {α β : Type} (r : Res α) (f : α → A0 → Res β) (v : β) (H' : A0) : Prop
  | mk (a : α) (H1 : A0) (e1 : r = .ok a H1) (e2 : f a H1 = .ok v H') : A3c r f v H'
theorem Res.get_ok {α β : Type} {r : Res α} {f : α → A0 → Res β} {v : β} {H' : A0} (e : r.get f = .ok v H') : A3c r f v H' := by
  cases r with
  | ok a H1 => exact ⟨a, H1, rfl, e⟩
  | exc c H1 => cases e
  | bad => cases e
theorem Res.thn_ok {α β : Type} {r : Res α} {f : α → A0 → Res β} {v : β} {H' : A0} (e : r.thn f = .ok v H') : A3c r f v H' := by
  cases r with
  | ok a H1 => exact ⟨a, H1, rfl, e⟩
  | exc c H1 => cases e
  | bad => cases e
section
variable (C : Cx) (T : Tab) (n b : Nat) (Γ : List Str) (S : Scope)
structure Aj (e : Expr) (d : A8 → A0 → Res AV) : Prop where
  ok : ∀ {base : Bs} {env : Env} {ρ : A8} {μ : List Addr} {H H' : A0} {s : Shared} {A : Around} {E : Value → Shared → Prop} {Q : Value → Shared → Prop} {v : AV},
    Gnd C T base → env.scope = S → St C base b env Γ ρ μ H s → AOk base A n → d ρ H = .ok v H' → B6 C base b env Γ ρ μ s v H' Q → wpAny (model C.prog C.w) A (eval e env) Q E s
structure Gx (e : Expr) (d : A8 → A0 → Res Bool) : Prop where
  ok : ∀ {base : Bs} {env : Env} {ρ : A8} {μ : List Addr} {H H' : A0} {s : Shared} {A : Around} {E : Value → Shared → Prop} {Q : Bool → Shared → Prop} {v : Bool},
    Gnd C T base → env.scope = S → St C base b env Γ ρ μ H s → AOk base A n → d ρ H = .ok v H' → (∀ s' μ', Ext env μ μ' s.heap s'.heap → St C base b env Γ ρ μ' H' s' → Q v s') →
    wpAny (model C.prog C.w) A (isTrue e env (eval e env)) Q E s
structure Gy (es : List Expr) (d : A8 → A0 → Res (List AV)) : Prop where
  ok : ∀ {base : Bs} {env : Env} {ρ : A8} {μ : List Addr} {H H' : A0} {s : Shared} {A : Around} {E : Value → Shared → Prop} {Q : List Value → Shared → Prop} {vs : List AV} {pos : Pos},
    Gnd C T base → env.scope = S → St C base b env Γ ρ μ H s → AOk base A n → d ρ H = .ok vs H' → (∀ us s' μ', Ext env μ μ' s.heap s'.heap → St C base b env Γ ρ μ' H' s' → VRs C μ' s'.heap vs us → Q us s') →
    wpAny (model C.prog C.w) A (spliced (backTo pos (starEach es env))) Q E s
end
theorem An {e : Expr} {r : List Expr} {env : Env} (h : Am e = true) : starEach (e :: r) env = (false, eval e env) :: starEach r env := by
  cases e <;> first | rfl | cases h
section
variable {C : Cx} {T : Tab} {n b : Nat} {Γ : List Str} {S : Scope}
theorem Aj.const {e : Expr} {d : A8 → A0 → Res AV} {v : AV} (hd : ∀ ρ H, d ρ H = .ok v H)
    (he : ∀ {env : Env} {A : Around} {E Q} {s : Shared} {μ : List Addr}, (∀ u tk, VR C μ s.heap v u → Q u { s with toks := tk }) → wpAny (model C.prog C.w) A (eval e env) Q E s) : Aj C T n b Γ S e d := by
  refine ⟨?_⟩
  intro base env ρ μ H H' s A E Q v' G hS st a ed k
  rw [hd] at ed; cases ed
  exact he (μ := μ) fun u tk q => k u _ μ .refl (st.tok tk) q
theorem Aj.cNone {k : Nat} {pos : Pos} {d : A8 → A0 → Res AV} (hd : ∀ ρ H, d ρ H = .ok .none H) : Aj C T n b Γ S (.Constant .none k pos) d :=
  .const hd fun {_ _ _ _ s _} k => wpAny_Constant_none (k _ s.toks .none)
theorem Aj.cBool {c : Bool} {k : Nat} {pos : Pos} {d : A8 → A0 → Res AV} (hd : ∀ ρ H, d ρ H = .ok (.bool c) H) : Aj C T n b Γ S (.Constant (.bool c) k pos) d :=
  .const hd fun {_ _ _ _ s _} k => wpAny_Constant_bool (k _ s.toks (.bool _))
theorem Aj.cInt {c : Int} {k : Nat} {pos : Pos} {d : A8 → A0 → Res AV} (hd : ∀ ρ H, d ρ H = .ok (.int c) H) : Aj C T n b Γ S (.Constant (.int c) k pos) d :=
  .const hd fun {_ _ _ _ s _} k => wpAny_Constant_int (k _ _ (.int _ _))
theorem Aj.cStr {c : Str} {k : Nat} {pos : Pos} {d : A8 → A0 → Res AV} (hd : ∀ ρ H, d ρ H = .ok (.str c) H) : Aj C T n b Γ S (.Constant (.str c) k pos) d :=
  .const hd fun {_ _ _ _ s _} k => wpAny_Constant_str (k _ _ (.str _ _))
theorem Ra {S : Scope} {x : Str} (h : Qm S x = true) : (Bf S x = some .local ∨ Bf S x = some .cell ∨ Bf S x = some .free) ∧ (x == ("__debug__" : Str)) = false ∧ (x == ("__classdict__" : Str)) = false := by
  unfold Qm at h
  simp only [Bool.and_eq_true, Bool.or_eq_true, beq_iff_eq, Bool.not_eq_true'] at h
  obtain ⟨⟨(h1 | h1) | h1, h2⟩, h3⟩ := h
  · exact ⟨.inl h1, h2, h3⟩
  · exact ⟨.inr (.inl h1), h2, h3⟩
  · exact ⟨.inr (.inr h1), h2, h3⟩
theorem Aj.var {x : Str} {pos : Pos} {i : Nat} {d : A8 → A0 → Res AV} (hs : slot Γ x = some i) (hk : Qm S x = true)
    (hd : ∀ ρ H, d ρ H = (match ρ[i]? with | some (some v) => .ok v H | _ => .bad)) : Aj C T n b Γ S (.Name x pos) d := by
  refine ⟨?_⟩
  intro base env ρ μ H H' s A E Q v G hS st a ed k
  rw [hd] at ed
  cases ew : ρ[i]? with
  | none => rw [ew] at ed; cases ed
  | some o =>
  cases o with
  | none => rw [ew] at ed; cases ed
  | some w =>
  rw [ew] at ed; cases ed
  refine bC fun hno => ?_
  obtain ⟨hk, h1, h2⟩ := Ra hk
  refine hno ?_
  refine wpAny_Name ?_ h1
  rw [← hS] at hk
  rcases hk with hk | hk | hk
  · refine bC fun hno => ?_
    obtain ⟨m, nm, q⟩ := st.er.ns
    obtain ⟨u, eu, vu⟩ := q hs hk ew
    refine hno ?_
    exact wpAny_loadName_local st.er.kind hk nm eu (k u s μ .refl st vu)
  · refine bC fun hno => ?_
    obtain ⟨c, o, ec, hc, q⟩ := st.er.cells (.inl hk)
    obtain ⟨u, rfl, vu⟩ := q hs ew
    refine hno ?_
    exact wpAny_loadName_cell st.er.kind hk ec hc (k u s μ .refl st vu)
  · refine bC fun hno => ?_
    obtain ⟨c, o, ec, hc, q⟩ := st.er.cells (.inr hk)
    obtain ⟨u, rfl, vu⟩ := q hs ew
    refine hno ?_
    exact wpAny_loadName_free st.er.kind hk ec hc (k u s μ .refl st vu) h2
theorem Jy {S : Scope} {x : Str} (h : Ao S x = true) : Bf S x = some .globalImplicit ∧ (x == ("__debug__" : Str)) = false := by
  unfold Ao at h
  simp only [Bool.and_eq_true, beq_iff_eq, Bool.not_eq_true'] at h
  exact h
section
variable {base : Bs} {env : Env} {ρ : A8} {μ : List Addr} {H H' : A0} {s : Shared} {A : Around} {E : Value → Shared → Prop} {Q : Value → Shared → Prop}
theorem Gf {x : Str} {pos : Pos} {u : Value} (G : Gnd C T base) (hS : env.scope = S) (st : St C base b env Γ ρ μ H s) (hg : Ao S x = true) (hx : C.mg x = some u) (k : Q u s) : wpAny (model C.prog C.w) A (eval (.Name x pos) env) Q E s := by
  obtain ⟨h1, h2⟩ := Jy hg
  rw [← hS] at h1
  refine Name_function_global st.er.kind h1 (loadGlobal_global (mg := C.mg) ?_ hx k) h2
  rw [st.er.globals]; exact G.g.keeps fun _ _ => st.kg
theorem Bv {x : Str} {pos : Pos} {u : Value} (G : Gnd C T base) (hS : env.scope = S) (st : St C base b env Γ ρ μ H s) (hg : Ao S x = true) (hx : Cy.lookup x = some u) (k : Q u s) : wpAny (model C.prog C.w) A (eval (.Name x pos) env) Q E s := by
  refine bC fun hno => ?_
  obtain ⟨h1, h2⟩ := Jy hg
  obtain ⟨h3, h4⟩ := G.bi hx
  rw [← hS] at h1
  refine hno ?_
  refine Name_function_global st.er.kind h1 (loadGlobal_builtin (mg := C.mg) (mb := C.mb) ?_ h3 ?_ h4 k) h2
  · rw [st.er.globals]; exact G.g.keeps fun _ _ => st.kg
  · rw [st.er.builtins]; exact G.b.keeps fun _ _ => st.kg
end
theorem Aj.gfn {x : Str} {pos : Pos} {k : Nat} {d : A8 → A0 → Res AV} (hx : T.fns.lookup k = some x) (hg : Ao S x = true) (hd : ∀ ρ H, d ρ H = .ok (.fn k) H) : Aj C T n b Γ S (.Name x pos) d := by
  refine ⟨?_⟩
  intro base env ρ μ H H' s A E Q v G hS st a ed q
  rw [hd] at ed; cases ed
  exact Gf G hS st hg (G.fn hx).1 (q _ _ μ .refl st (.fn k))
theorem Aj.gint {x : Str} {pos : Pos} {k : Nat} {i : Int} {d : A8 → A0 → Res AV} (hx : T.gints.lookup k = some (x, i)) (hg : Ao S x = true) (hd : ∀ ρ H, d ρ H = .ok (.int i) H) : Aj C T n b Γ S (.Name x pos) d := by
  refine ⟨?_⟩
  intro base env ρ μ H H' s A E Q v G hS st a ed q
  refine bC fun hno => ?_
  rw [hd] at ed; cases ed
  obtain ⟨t, e⟩ := G.gint hx
  refine hno ?_
  exact Gf G hS st hg e (q _ _ μ .refl st (.int i t))
theorem Qq {l r : Expr} {d1 d2 : A8 → A0 → Res AV} (h1 : Aj C T n b Γ S l d1) (h2 : Aj C T n b Γ S r d2)
    {base : Bs} {env : Env} {ρ : A8} {μ : List Addr} {H H1 H2 : A0} {s : Shared} {A : Around} {E : Value → Shared → Prop} {Q : Value → Value → Shared → Prop} {v w : AV}
    (G : Gnd C T base) (hS : env.scope = S) (st : St C base b env Γ ρ μ H s) (a : AOk base A n) (e1 : d1 ρ H = .ok v H1) (e2 : d2 ρ H1 = .ok w H2)
    (k : ∀ p q s' μ', Ext env μ μ' s.heap s'.heap → St C base b env Γ ρ μ' H2 s' → VR C μ' s'.heap v p → VR C μ' s'.heap w q → Q p q s') :
    wpAny (model C.prog C.w) A (eval l env) (fun p s₁ => wpAny (model C.prog C.w) A (eval r env) (fun q s₂ => Q p q s₂) E s₁) E s :=
  h1.ok G hS st a e1 fun p s1 μ1 X1 S1 V1 => h2.ok G hS S1 a e2 fun q s2 μ2 X2 S2 V2 => k p q s2 μ2 (X1.trans X2) S2 (V1.mono S1.hp S1.er X2) V2
theorem Aj.bin {l r : Expr} {op : Operator} {pos : Pos} {d d1 d2 : A8 → A0 → Res AV} (h1 : Aj C T n b Γ S l d1) (h2 : Aj C T n b Γ S r d2)
    (hd : ∀ ρ H, d ρ H = (d1 ρ H).get fun v H => (d2 ρ H).get fun w H => Bc op v w H) : Aj C T n b Γ S (.BinOp l op r pos) d := by
  refine ⟨?_⟩
  intro base env ρ μ H H' s A E Q v G hS st a ed k
  rw [hd] at ed
  obtain ⟨x, H1, e1, ed⟩ := Res.get_ok ed
  obtain ⟨y, H2, e2, ed⟩ := Res.get_ok ed
  refine wpAny_BinOp (Qq h1 h2 G hS st a e1 e2 fun p q s' μ' X S' V W => ?_)
  exact A33 S' V W ed fun u s'' μ'' X' S'' V' => k u s'' μ'' (X.trans X') S'' V'
theorem Aj.neg {x : Expr} {pos : Pos} {d d1 : A8 → A0 → Res AV} (h1 : Aj C T n b Γ S x d1) (hd : ∀ ρ H, d ρ H = (d1 ρ H).get fun v H => (match v with | .int i => .ok (.int (-i)) H | _ => .bad)) : Aj C T n b Γ S (.UnaryOp .USub x pos) d := by
  refine ⟨?_⟩
  intro base env ρ μ H H' s A E Q v G hS st a ed k
  rw [hd] at ed
  obtain ⟨x, H1, e1, ed⟩ := Res.get_ok ed
  split at ed
  · cases ed
    refine wpAny_UnaryOp (h1.ok G hS st a e1 fun u s' μ' X S' V => ?_)
    obtain ⟨t, rfl⟩ := V.isInt
    exact PyProof.Rows.neg_int (k _ _ μ' X (S'.tok _) (.int _ _))
  · cases ed
theorem Aj.not {x : Expr} {pos : Pos} {d d1 : A8 → A0 → Res AV} (h1 : Aj C T n b Γ S x d1) (hd : ∀ ρ H, d ρ H = (d1 ρ H).get fun v H => (match v with | .bool i => .ok (.bool (!i)) H | _ => .bad)) : Aj C T n b Γ S (.UnaryOp .Not x pos) d := by
  refine ⟨?_⟩
  intro base env ρ μ H H' s A E Q v G hS st a ed k
  rw [hd] at ed
  obtain ⟨x, H1, e1, ed⟩ := Res.get_ok ed
  split at ed
  · cases ed
    refine wpAny_UnaryOp (h1.ok G hS st a e1 fun u s' μ' X S' V => ?_)
    cases V
    refine wpAny_bind (wpAny_truthy_bool (wpAny_pure ?_))
    exact k _ _ μ' X S' (.bool _)
  · cases ed
theorem Aj.ite {t x y : Expr} {pos : Pos} {d d1 d2 : A8 → A0 → Res AV} {dt : A8 → A0 → Res Bool} (ht : Gx C T n b Γ S t dt) (h1 : Aj C T n b Γ S x d1) (h2 : Aj C T n b Γ S y d2)
    (hd : ∀ ρ H, d ρ H = (dt ρ H).get fun t H => if t then d1 ρ H else d2 ρ H) : Aj C T n b Γ S (.IfExp t x y pos) d := by
  refine ⟨?_⟩
  intro base env ρ μ H H' s A E Q v G hS st a ed k
  rw [hd] at ed
  obtain ⟨c, H1, e1, ed⟩ := Res.get_ok ed
  refine wpAny_IfExp (ht.ok G hS st a e1 fun s' μ' X S' => ?_)
  cases c with
  | true =>
    simp only [if_true] at ed ⊢
    exact h1.ok G hS S' a ed fun u s'' μ'' X' S'' V => k u s'' μ'' (X.trans X') S'' V
  | false =>
    simp only [Bool.false_eq_true, if_false] at ed ⊢
    exact h2.ok G hS S' a ed fun u s'' μ'' X' S'' V => k u s'' μ'' (X.trans X') S'' V
theorem Gy.nilE {d : A8 → A0 → Res (List AV)} (hd : ∀ ρ H, d ρ H = .ok [] H) : Gy C T n b Γ S [] d := by
  refine ⟨?_⟩
  intro base env ρ μ H H' s A E Q vs pos G hS st a ed k
  rw [hd] at ed; cases ed
  exact wpAny_pure (k _ _ μ .refl st .nil)
theorem Gy.consE {e : Expr} {es : List Expr} {d1 : A8 → A0 → Res AV} {d d2 : A8 → A0 → Res (List AV)} (hn : Am e = true) (h1 : Aj C T n b Γ S e d1) (h2 : Gy C T n b Γ S es d2)
    (hd : ∀ ρ H, d ρ H = (d1 ρ H).thn fun v H => (d2 ρ H).thn fun vs H => .ok (v :: vs) H) : Gy C T n b Γ S (e :: es) d := by
  refine ⟨?_⟩
  intro base env ρ μ H H' s A E Q vs pos G hS st a ed k
  refine bC fun hno => ?_
  rw [hd] at ed
  obtain ⟨x, H1, e1, ed⟩ := Res.thn_ok ed
  obtain ⟨y, H2, e2, ed⟩ := Res.thn_ok ed
  cases ed
  refine hno ?_
  refine wpAny_items_cons (h1.ok G hS st a e1 fun p s1 μ1 X1 S1 V1 => h2.ok G hS S1 a e2 fun q s2 μ2 X2 S2 V2 => ?_) (An hn)
  exact k _ s2 μ2 (X1.trans X2) S2 (.cons (V1.mono S1.hp S1.er X2) V2)
theorem Aj.mkList {es : List Expr} {pos : Pos} {d : A8 → A0 → Res AV} {d1 : A8 → A0 → Res (List AV)} (h1 : Gy C T n b Γ S es d1) (hd : ∀ ρ H, d ρ H = (d1 ρ H).thn fun vs H => Aw vs H) : Aj C T n b Γ S (.List es pos) d := by
  refine ⟨?_⟩
  intro base env ρ μ H H' s A E Q v G hS st a ed k
  rw [hd] at ed
  obtain ⟨vs, H1, e1, ed⟩ := Res.thn_ok ed
  unfold Aw at ed
  split at ed
  · rename_i hz; cases ed
    refine wpAny_List_spliced (h1.ok G hS st a e1 fun us s' μ' X S' V => ⟨?_, ?_⟩)
    · rw [← V.length]; exact D8 hz
    · exact k _ _ _ (X.trans .newList) (S'.newList V hz) (.ref (by rw [← S'.hp.len]; simp))
  · cases ed
theorem Aj.mkTuple {es : List Expr} {j : Nat} {pos : Pos} {d : A8 → A0 → Res AV} {d1 : A8 → A0 → Res (List AV)} (h1 : Gy C T n b Γ S es d1) (hd : ∀ ρ H, d ρ H = (d1 ρ H).get fun vs H => O7 vs H) : Aj C T n b Γ S (.Tuple es j pos) d := by
  refine ⟨?_⟩
  intro base env ρ μ H H' s A E Q v G hS st a ed k
  rw [hd] at ed
  obtain ⟨vs, H1, e1, ed⟩ := Res.get_ok ed
  unfold O7 at ed
  split at ed
  · rename_i hz; cases ed
    refine wpAny_Tuple_spliced (h1.ok G hS st a e1 fun us s' μ' X S' V => ⟨?_, ?_⟩)
    · rw [← V.length]; exact D8 hz
    · have g : ∀ {a : Addr} {o : Obj}, s'.heap.get? a = some o → (s'.heap.push { cls := .type "tuple", data := .seq us.toArray }).get? a = some o := fun e => Heap.get?_push_of_some _ e
      exact k _ _ μ' (X.trans (Ext.grow g)) (S'.push _) (.tup ⟨_, Heap.get?_push_size _ rfl, rfl, _, rfl⟩ (S'.notZ (Ax _)) hz (V.keeps g))
  · cases ed
theorem Gb {op : CmpOp} {e : Expr} (h : C3 e = true) : behindInMarks op e = false := by
  cases e <;> first | rfl | cases h
theorem Aj.cmp {l r : Expr} {op : CmpOp} {pos : Pos} {d d1 d2 : A8 → A0 → Res AV} (hr : C3 r = true) (h1 : Aj C T n b Γ S l d1) (h2 : Aj C T n b Γ S r d2)
    (hd : ∀ ρ H, d ρ H = (d1 ρ H).get fun v H => (d2 ρ H).get fun w H => (match B5 op v w H with | some r => .ok (.bool r) H | none => .bad)) : Aj C T n b Γ S (.Compare l [op] [r] pos) d := by
  refine ⟨?_⟩
  intro base env ρ μ H H' s A E Q v G hS st a ed k
  rw [hd] at ed
  obtain ⟨x, H1, e1, ed⟩ := Res.get_ok ed
  obtain ⟨y, H2, e2, ed⟩ := Res.get_ok ed
  split at ed
  · rename_i r er; cases ed
    refine wpAny_Compare1 (Qq h1 h2 G hS st a e1 e2 fun p q s' μ' X S' V W => ?_) (Gb hr)
    exact I0 S' V W er a (k _ _ μ' X S' (.bool _))
  · cases ed
theorem Gx.cmp {l r : Expr} {op : CmpOp} {pos : Pos} {d1 d2 : A8 → A0 → Res AV} {d : A8 → A0 → Res Bool} (hr : C3 r = true) (h1 : Aj C T n b Γ S l d1) (h2 : Aj C T n b Γ S r d2)
    (hd : ∀ ρ H, d ρ H = (d1 ρ H).get fun v H => (d2 ρ H).get fun w H => (match B5 op v w H with | some r => .ok r H | none => .bad)) : Gx C T n b Γ S (.Compare l [op] [r] pos) d := by
  refine ⟨?_⟩
  intro base env ρ μ H H' s A E Q v G hS st a ed k
  rw [hd] at ed
  obtain ⟨x, H1, e1, ed⟩ := Res.get_ok ed
  obtain ⟨y, H2, e2, ed⟩ := Res.get_ok ed
  split at ed
  · rename_i r er; cases ed
    refine wpAny_isTrue_Compare1 (Qq h1 h2 G hS st a e1 e2 fun p q s' μ' X S' V W => ?_) (Gb hr)
    exact I0 S' V W er a (wpAny_truthy_bool (k _ μ' X S'))
  · cases ed
theorem Aj.cmp2 {l r1 r2 : Expr} {o1 o2 : CmpOp} {pos : Pos} {d d1 d2 d3 : A8 → A0 → Res AV} (hr : C3 r2 = true) (h1 : Aj C T n b Γ S l d1) (h2 : Aj C T n b Γ S r1 d2) (h3 : Aj C T n b Γ S r2 d3)
    (hd : ∀ ρ H, d ρ H = (d1 ρ H).get fun v H => (d2 ρ H).get fun w H => (match B5 o1 v w H with
      | some true => (d3 ρ H).get fun u H => (match B5 o2 w u H with | some r => .ok (.bool r) H | none => .bad)
      | some false => .ok (.bool false) H
      | none => .bad)) : Aj C T n b Γ S (.Compare l [o1, o2] [r1, r2] pos) d := by
  refine ⟨?_⟩
  intro base env ρ μ H H' s A E Q v G hS st a ed k
  rw [hd] at ed
  obtain ⟨x, H1, e1, ed⟩ := Res.get_ok ed
  obtain ⟨y, H2, e2, ed⟩ := Res.get_ok ed
  rw [arm_eval_Compare]
  refine wpAny_bind (h1.ok G hS st a e1 fun p s1 μ1 X1 S1 V1 => ?_)
  simp only [evalEach, markedEach, markedBehindIn, Gb hr]
  refine wpAny_bind (m := holding [p] (eval r1 env)) (wpAny_holding (h2.ok G hS S1 a e2 fun q s2 μ2 X2 S2 V2 => wpAny_bind (wpAny_standAt (wpAny_bind (wpAny_holding ?_)))))
  have V1' := V1.mono S1.hp S1.er X2
  split at ed
  · rename_i er
    refine I0 S2 V1' V2 er a (wpAny_bind (wpAny_release (wpAny_bind (wpAny_holding (wpAny_truthy_bool ?_)))))
    simp only [if_true]
    obtain ⟨z, H3, e3, ed⟩ := Res.get_ok ed
    refine wpAny_bind (m := holding [q] (eval r2 env)) (wpAny_holding (h3.ok G hS S2 a e3 fun u s3 μ3 X3 S3 V3 => wpAny_bind (wpAny_standAt (wpAny_operating ?_))))
    split at ed
    · rename_i r er'; cases ed
      exact I0 S3 (V2.mono S2.hp S2.er X3) V3 er' a (k _ _ μ3 ((X1.trans X2).trans X3) S3 (.bool _))
    · cases ed
  · rename_i er; cases ed
    refine I0 S2 V1' V2 er a (wpAny_bind (wpAny_release (wpAny_bind (wpAny_holding (wpAny_truthy_bool ?_)))))
    simp only [Bool.false_eq_true, if_false]
    exact wpAny_pure (k _ _ μ2 (X1.trans X2) S2 (.bool _))
  · cases ed
end
end Mine
namespace Mine
open PySem PySem.Calls PyProof.Rows PySem.SeqAt
section
variable (C : Cx) (T : Tab) (n b : Nat) (Γ : List Str) (S : Scope)
structure Ox (op : BoolOp) (es : List Expr) (d : A8 → A0 → Res AV) : Prop where
  ok : ∀ {base : Bs} {env : Env} {ρ : A8} {μ : List Addr} {H H' : A0} {s : Shared} {A : Around} {E : Value → Shared → Prop} {Q : Value → Shared → Prop} {v : AV} {pos : Pos},
    Gnd C T base → env.scope = S → St C base b env Γ ρ μ H s → AOk base A n → d ρ H = .ok v H' → B6 C base b env Γ ρ μ s v H' Q → wpAny (model C.prog C.w) A (boolOp pos op (evalEach es env)) Q E s
structure Kq (op : BoolOp) (es : List Expr) (d : A8 → A0 → Res Bool) : Prop where
  ok : ∀ {base : Bs} {env : Env} {ρ : A8} {μ : List Addr} {H H' : A0} {s : Shared} {A : Around} {E : Value → Shared → Prop} {Q : Bool → Shared → Prop} {v : Bool},
    Gnd C T base → env.scope = S → St C base b env Γ ρ μ H s → AOk base A n → d ρ H = .ok v H' → (∀ s' μ', Ext env μ μ' s.heap s'.heap → St C base b env Γ ρ μ' H' s' → Q v s') →
    wpAny (model C.prog C.w) A (allTrue op es env) Q E s
end
section
variable {C : Cx} {T : Tab} {n b : Nat} {Γ : List Str} {S : Scope}
theorem Gx.ofEv {e : Expr} {d : A8 → A0 → Res Bool} {d1 : A8 → A0 → Res AV} (he : ∀ env whole, isTrue e env whole = (do let v ← whole; standAt e.pos; holding [v] (truthy v))) (h : Aj C T n b Γ S e d1)
    (hd : ∀ ρ H, d ρ H = (d1 ρ H).get fun v H => (match v with | .bool t => .ok t H | _ => .bad)) : Gx C T n b Γ S e d := by
  refine ⟨?_⟩
  intro base env ρ μ H H' s A E Q v G hS st a ed k
  rw [hd] at ed
  obtain ⟨x, H1, e1, ed⟩ := Res.get_ok ed
  split at ed
  · cases ed
    refine wpAny_isTrue_value (h.ok G hS st a e1 fun u s' μ' X S' V => ?_) (he _ _)
    cases V
    exact wpAny_truthy_bool (k _ _ X S')
  · cases ed
theorem Gx.not {x : Expr} {pos : Pos} {d d1 : A8 → A0 → Res Bool} (h : Gx C T n b Γ S x d1) (hd : ∀ ρ H, d ρ H = (d1 ρ H).get fun v H => .ok (!v) H) : Gx C T n b Γ S (.UnaryOp .Not x pos) d := by
  refine ⟨?_⟩
  intro base env ρ μ H H' s A E Q v G hS st a ed k
  refine bC fun hno => ?_
  rw [hd] at ed
  obtain ⟨x, H1, e1, ed⟩ := Res.get_ok ed
  cases ed
  refine hno ?_
  exact wpAny_isTrue_Not (h.ok G hS st a e1 fun s' μ' X S' => k _ _ X S')
theorem Ox.one {op : BoolOp} {e : Expr} {d d1 : A8 → A0 → Res AV} (h : Aj C T n b Γ S e d1) (hd : ∀ ρ H, d ρ H = d1 ρ H) : Ox C T n b Γ S op [e] d := by
  refine ⟨?_⟩
  intro base env ρ μ H H' s A E Q v pos G hS st a ed k
  rw [hd] at ed
  exact h.ok G hS st a ed k
theorem Ox.andE {e e' : Expr} {es : List Expr} {d d1 d2 : A8 → A0 → Res AV} (h : Aj C T n b Γ S e d1) (h2 : Ox C T n b Γ S .And (e' :: es) d2)
    (hd : ∀ ρ H, d ρ H = (d1 ρ H).get fun v H => (match v with
      | .bool false => .ok (.bool false) H
      | .bool true => d2 ρ H
      | _ => .bad)) : Ox C T n b Γ S .And (e :: e' :: es) d := by
  refine ⟨?_⟩
  intro base env ρ μ H H' s A E Q v pos G hS st a ed k
  rw [hd] at ed
  obtain ⟨x, H1, e1, ed⟩ := Res.get_ok ed
  show wpAny _ _ (boolOp pos .And (eval e env :: eval e' env :: evalEach es env)) Q E s
  · refine wpAny_bind (m := eval e env) (h.ok G hS st a e1 fun u s' μ' X S' V => wpAny_bind (wpAny_standAt (wpAny_bind (wpAny_holding ?_))))
    split at ed
    · cases ed; cases V
      exact wpAny_truthy_bool (wpAny_pure (k _ _ μ' X S' (.bool _)))
    · cases V
      refine wpAny_truthy_bool ?_
      exact h2.ok (pos := pos) G hS S' a ed fun u s'' μ'' X' S'' V => k u s'' μ'' (X.trans X') S'' V
    · cases ed
theorem Ox.orE {e e' : Expr} {es : List Expr} {d d1 d2 : A8 → A0 → Res AV} (h : Aj C T n b Γ S e d1) (h2 : Ox C T n b Γ S .Or (e' :: es) d2)
    (hd : ∀ ρ H, d ρ H = (d1 ρ H).get fun v H => (match v with
      | .bool true => .ok (.bool true) H
      | .bool false => d2 ρ H
      | _ => .bad)) : Ox C T n b Γ S .Or (e :: e' :: es) d := by
  refine ⟨?_⟩
  intro base env ρ μ H H' s A E Q v pos G hS st a ed k
  rw [hd] at ed
  obtain ⟨x, H1, e1, ed⟩ := Res.get_ok ed
  show wpAny _ _ (boolOp pos .Or (eval e env :: eval e' env :: evalEach es env)) Q E s
  · refine wpAny_bind (m := eval e env) (h.ok G hS st a e1 fun u s' μ' X S' V => wpAny_bind (wpAny_standAt (wpAny_bind (wpAny_holding ?_))))
    split at ed
    · cases ed; cases V
      exact wpAny_truthy_bool (wpAny_pure (k _ _ μ' X S' (.bool _)))
    · cases V
      refine wpAny_truthy_bool ?_
      exact h2.ok (pos := pos) G hS S' a ed fun u s'' μ'' X' S'' V => k u s'' μ'' (X.trans X') S'' V
    · cases ed
theorem Aj.boolOp {op : BoolOp} {es : List Expr} {pos : Pos} {d : A8 → A0 → Res AV} (h : Ox C T n b Γ S op es d) : Aj C T n b Γ S (.BoolOp op es pos) d := by
  refine ⟨?_⟩
  intro base env ρ μ H H' s A E Q v G hS st a ed k
  rw [arm_eval_BoolOp]
  exact h.ok G hS st a ed k
theorem Kq.nilA {d : A8 → A0 → Res Bool} (hd : ∀ ρ H, d ρ H = .ok true H) : Kq C T n b Γ S .And [] d := by
  refine ⟨?_⟩
  intro base env ρ μ H H' s A E Q v G hS st a ed k
  rw [hd] at ed; cases ed
  exact wpAny_allTrue_And_nil (k _ μ .refl st)
theorem Kq.nilO {d : A8 → A0 → Res Bool} (hd : ∀ ρ H, d ρ H = .ok false H) : Kq C T n b Γ S .Or [] d := by
  refine ⟨?_⟩
  intro base env ρ μ H H' s A E Q v G hS st a ed k
  rw [hd] at ed; cases ed
  exact wpAny_allTrue_Or_nil (k _ μ .refl st)
theorem Kq.andE {e : Expr} {es : List Expr} {d d1 d2 : A8 → A0 → Res Bool} (h : Gx C T n b Γ S e d1) (h2 : Kq C T n b Γ S .And es d2) (hd : ∀ ρ H, d ρ H = (d1 ρ H).get fun v H => if v then d2 ρ H else .ok false H) :
    Kq C T n b Γ S .And (e :: es) d := by
  refine ⟨?_⟩
  intro base env ρ μ H H' s A E Q v G hS st a ed k
  rw [hd] at ed
  obtain ⟨c, H1, e1, ed⟩ := Res.get_ok ed
  refine wpAny_allTrue_And_cons (h.ok G hS st a e1 fun s' μ' X S' => ?_)
  cases c with
  | true => simp only [if_true] at ed ⊢; exact h2.ok G hS S' a ed fun s'' μ'' X' S'' => k s'' μ'' (X.trans X') S''
  | false => simp only [Bool.false_eq_true, if_false] at ed ⊢; cases ed; exact k _ _ X S'
theorem Kq.orE {e : Expr} {es : List Expr} {d d1 d2 : A8 → A0 → Res Bool} (h : Gx C T n b Γ S e d1) (h2 : Kq C T n b Γ S .Or es d2) (hd : ∀ ρ H, d ρ H = (d1 ρ H).get fun v H => if v then .ok true H else d2 ρ H) :
    Kq C T n b Γ S .Or (e :: es) d := by
  refine ⟨?_⟩
  intro base env ρ μ H H' s A E Q v G hS st a ed k
  rw [hd] at ed
  obtain ⟨c, H1, e1, ed⟩ := Res.get_ok ed
  refine wpAny_allTrue_Or_cons (h.ok G hS st a e1 fun s' μ' X S' => ?_)
  cases c with
  | true => simp only [if_true] at ed ⊢; cases ed; exact k _ _ X S'
  | false => simp only [Bool.false_eq_true, if_false] at ed ⊢; exact h2.ok G hS S' a ed fun s'' μ'' X' S'' => k s'' μ'' (X.trans X') S''
theorem Gx.boolOp {op : BoolOp} {es : List Expr} {pos : Pos} {d : A8 → A0 → Res Bool} (h : Kq C T n b Γ S op es d) : Gx C T n b Γ S (.BoolOp op es pos) d := by
  refine ⟨?_⟩
  intro base env ρ μ H H' s A E Q v G hS st a ed k
  exact wpAny_isTrue_BoolOp (h.ok G hS st a ed k)
theorem A6d {n : Nat} {k : Int} {j : Nat} (h : at? n k = some j) : j < n ∧ ((0 ≤ k ∧ k < n ∧ j = k.toNat) ∨ (k < 0 ∧ -(n : Int) ≤ k ∧ j = (k + n).toNat)) := by
  unfold at? at h
  split at h
  · rename_i h1; cases h; exact ⟨by exact A9t h1.1 h1.2, .inl ⟨h1.1, h1.2, rfl⟩⟩
  · split at h
    · rename_i h1; cases h; exact ⟨(Int.toNat_lt (oB3 h1).1).mpr (oB3 h1).2, .inr ⟨h1.1, h1.2, rfl⟩⟩
    · cases h
theorem Du {slice : Expr} {a : Addr} {k : Int} {t : Tok} (hn : Oc slice = true) : subscripted slice false (.ref a) (.int k t) = operate [.ref a, .int k t] (getItem (.ref a) (.int k t)) := by
  cases slice <;> first | rfl | cases hn
theorem Ru {n j : Nat} {k : Int} (hj : j < n) (h : (0 ≤ k ∧ k < n ∧ j = k.toNat) ∨ (k < 0 ∧ -(n : Int) ≤ k ∧ j = (k + n).toNat)) : seqIndex? k n = some j := by
  unfold seqIndex?
  rcases h with ⟨h1, h2, rfl⟩ | ⟨h1, h2, rfl⟩
  · have : ¬ k < 0 := by exact Xu h1
    simp only [this, if_false]
    rw [if_pos (by simp; exact And.intro h1 h2)]
  · simp only [h1, if_true]
    rw [if_pos (by simp; exact oB3 ⟨h1, h2⟩)]
theorem Aj.idx {v i : Expr} {pos : Pos} {d d1 d2 : A8 → A0 → Res AV} (hn : Oc i = true) (h1 : Aj C T n b Γ S v d1) (h2 : Aj C T n b Γ S i d2)
    (hd : ∀ ρ H, d ρ H = (d1 ρ H).get fun v H => (d2 ρ H).get fun w H => Cl C.sc v w H) : Aj C T n b Γ S (.Subscript v i pos) d := by
  refine ⟨?_⟩
  intro base env ρ μ H H' s A E Q v' G hS st a ed k
  rw [hd] at ed
  obtain ⟨x, H1, e1, ed⟩ := Res.get_ok ed
  obtain ⟨y, H2, e2, ed⟩ := Res.get_ok ed
  refine Subscript_ (Qq h1 h2 G hS st a e1 e2 fun p q s' μ' X S' V W => ?_)
  unfold Cl at ed
  split at ed
  · rename_i k'
    obtain ⟨t, rfl⟩ := W.isInt
    split at ed
    · split at ed
      · rename_i hk; cases ed; cases V
        refine bC fun hno => ?_
        obtain ⟨svs, l, hi, hz⟩ := G.scr.scr
        have l' : s'.heap.IsList C.sa svs.toArray := Jv l fun _ => S'.kg
        have hlen : svs.length = C.sc.length := hi.length
        have hlt : k'.toNat < svs.length := by exact Nat.lt_of_lt_of_le ((Int.toNat_lt hk.1).mpr hk.2) (Nat.le_of_eq hlen.symm)
        obtain ⟨t', et⟩ := Hb hi (List.getElem?_eq_getElem hlt)
        have hfit : C.sc.length < 2 ^ 63 := Nat.lt_of_le_of_lt hz (by decide)
        refine hno ?_
        refine tail_any l'.typeIs slot_list_getitem.lookup (wpAny_getItem_list l' hk.1 (A11 hk.2 hfit) (x := .int (C.sc.getD k'.toNat 0) t') ?_ (k _ _ μ' X S' (.int _ _))) (Du hn)
        rw [List.getElem?_toArray, List.getElem?_eq_getElem hlt, et]
      · cases ed
    · split at ed
      · rename_i xs ex
        split at ed
        · rename_i j ej
          split at ed
          · rename_i z ez; cases ed
            obtain ⟨hz, a', o, vs, c, Ty, rfl, hT, ho, hc, hd', q⟩ := Ik S'.hp V ex
            obtain ⟨u, eu, vu⟩ := q.get ez
            have hlim : xs.length < 2 ^ 63 := Nat.lt_of_le_of_lt hz (by decide)
            have hl := q.length
            obtain ⟨hj, hcase⟩ := A6d ej
            rcases hT with rfl | rfl
            · have hl' : s'.heap.IsList a' (List.toArray vs) := ⟨o, ho, hc, c, hd'⟩
              refine tail_any hl'.typeIs slot_list_getitem.lookup ?_ (Du hn)
              rcases hcase with ⟨h3, h4, rfl⟩ | ⟨h3, h4, rfl⟩
              · exact wpAny_getItem_list hl' h3 (A11 h4 hlim) (by simpa using eu) (k _ _ μ' X S' vu)
              · exact wpAny_getItem_list_neg hl' h3 (by simp; exact hl ▸ h4) (oB1 hlim h4) (by simpa [← hl] using eu) (k _ _ μ' X S' vu)
            · have hl' : IsTup s'.heap a' (List.toArray vs) := ⟨o, ho, hc, c, hd'⟩
              refine item_tupleT hl' (oB2 hlim hcase).1 (oB2 hlim hcase).2 (j := j) ?_ eu (k _ _ μ' X S' vu) (Du hn)
              rw [← hl]
              exact Ru hj hcase
          · cases ed
        · cases ed
      · cases ed
  · cases ed
end
end Mine
namespace Mine
open PySem PySem.Calls PyProof.Rows PySem.SeqAt
section
variable (C : Cx) (T : Tab) (n b : Nat) (Γ : List Str) (S : Scope)
structure Vs (o : Option Expr) (d : A8 → A0 → Res (Option Int)) : Prop where
  ok : ∀ {base : Bs} {env : Env} {ρ : A8} {μ : List Addr} {H H' : A0} {s : Shared} {A : Around} {E : Value → Shared → Prop} {Q : Value → Shared → Prop} {v : Option Int},
    Gnd C T base → env.scope = S → St C base b env Γ ρ μ H s → AOk base A n → d ρ H = .ok v H' → (∀ u s' μ', Ext env μ μ' s.heap s'.heap → St C base b env Γ ρ μ' H' s' → IsPart u v → Q u s') → wpAny (model C.prog C.w) A (evalPart o env) Q E s
end
section
variable {C : Cx} {T : Tab} {n b : Nat} {Γ : List Str} {S : Scope}
theorem Vs.no {d : A8 → A0 → Res (Option Int)} (hd : ∀ ρ H, d ρ H = .ok none H) : Vs C T n b Γ S none d := by
  refine ⟨?_⟩
  intro base env ρ μ H H' s A E Q v G hS st a ed k
  rw [hd] at ed; cases ed
  exact wpAny_evalPart_none (k _ _ μ .refl st .none)
theorem Vs.yes {e : Expr} {d : A8 → A0 → Res (Option Int)} {d1 : A8 → A0 → Res AV} (h : Aj C T n b Γ S e d1) (hd : ∀ ρ H, d ρ H = (d1 ρ H).get fun v H => (match v with | .int i => .ok (some i) H | _ => .bad)) : Vs C T n b Γ S (some e) d := by
  refine ⟨?_⟩
  intro base env ρ μ H H' s A E Q v G hS st a ed k
  rw [hd] at ed
  obtain ⟨x, H1, e1, ed⟩ := Res.get_ok ed
  split at ed
  · cases ed
    refine wpAny_evalPart_some (h.ok G hS st a e1 fun u s' μ' X S' V => ?_)
    obtain ⟨t, rfl⟩ := V.isInt
    exact k _ _ μ' X S' (.int _ _)
  · cases ed
theorem Ob (n : Nat) (i : Int) : clipAt n i = cutAt n i := rfl
theorem A1u {xs : List AV} {vs : List Value} {μ : List Addr} {h : Heap} (q : VRs C μ h xs vs) (lo hi : Option Int) : VRs C μ h (cut xs lo hi) (slicePick vs.toArray lo hi none).toList := by
  rw [slicePick_plain]
  have hl := q.length
  have e1 : (lo.elim 0 (clipAt vs.toArray.size)) = (match lo with | some i => cutAt xs.length i | none => 0) := by
    cases lo <;> simp [Ob, hl]
  have e2 : (hi.elim vs.toArray.size (clipAt vs.toArray.size)) = (match hi with | some i => cutAt xs.length i | none => xs.length) := by
    cases hi <;> simp [Ob, hl]
  rw [e1, e2]
  unfold cut
  simp only [← List.drop_take]
  exact (q.take _).drop _
theorem Aj.slice {v : Expr} {lo hi : Option Expr} {p pos : Pos} {d d1 : A8 → A0 → Res AV} {dl dh : A8 → A0 → Res (Option Int)} (h1 : Aj C T n b Γ S v d1) (hl : Vs C T n b Γ S lo dl) (hh : Vs C T n b Γ S hi dh)
    (hd : ∀ ρ H, d ρ H = (d1 ρ H).get fun v H => (dl ρ H).get fun l H => (dh ρ H).get fun h H => (match v with
      | .ref r => (match H[r]? with
        | some (.list xs) => Aw (cut xs l h) H
        | _ => .bad)
      | _ => .bad)) : Aj C T n b Γ S (.Subscript v (.Slice lo hi none p) pos) d := by
  refine ⟨?_⟩
  intro base env ρ μ H H' s A E Q v' G hS st a ed k
  refine bC fun hno => ?_
  rw [hd] at ed
  obtain ⟨x, H1, e1, ed⟩ := Res.get_ok ed
  obtain ⟨l, H2, e2, ed⟩ := Res.get_ok ed
  obtain ⟨h, H3, e3, ed⟩ := Res.get_ok ed
  refine hno ?_
  refine Subscript_ (h1.ok G hS st a e1 fun q s1 μ1 X1 S1 V1 => wpAny_Slice (hl.ok G hS S1 a e2 fun vl s2 μ2 X2 S2 P2 => hh.ok G hS S2 a e3 fun vh s3 μ3 X3 S3 P3 => wpAny_evalPart_none ?_))
  split at ed
  · rename_i r
    split at ed
    · rename_i xs ex
      unfold Aw at ed
      split at ed
      · rename_i hz; cases ed
        refine bC fun hno => ?_
        obtain ⟨c, rfl, ec⟩ := ((V1.mono S1.hp S1.er X2).mono S2.hp S2.er X3).isRef
        obtain ⟨hz', a', vs, ea', p1, q1⟩ := S3.hp.list ex
        rw [ec] at ea'; cases ea'
        have S4 := S3.push { cls := .type "slice", data := .fields #[vl, vh, .none] }
        have X4 : Ext env μ3 μ3 s3.heap (s3.heap.push { cls := .type "slice", data := .fields #[vl, vh, .none] }) := Ext.push _
        have p4 : (s3.heap.push { cls := .type "slice", data := .fields #[vl, vh, .none] }).IsList c vs.toArray := (IsList.of_plain p1).push _
        refine hno ?_
        refine tail_any (ops := [.ref s3.heap.objs.size, .ref c]) p4.typeIs slot_list_getitem.lookup ?_ rfl
        refine wpAny_getItem_list_slice (s := { s3 with heap := _ }) p4 ⟨_, Heap.get?_push_size _ rfl, rfl, rfl⟩ P2 P3 .none (by intro e; cases e) ?_ (by rw [List.size_toArray, ← q1.length]; exact D8 hz')
        have q4 : VRs C μ3 (s3.heap.push { cls := .type "slice", data := .fields #[vl, vh, .none] }) (cut xs l h) (slicePick vs.toArray l h none).toList := A1u (q1.keeps fun e => Heap.get?_push_of_some _ e) l h
        have S5 := S4.newList q4 hz
        simp only [Array.toArray_toList] at S5
        exact k _ _ _ ((((X1.trans X2).trans X3).trans X4).trans .newList) S5 (.ref (by rw [← S3.hp.len]; simp))
      · cases ed
    · cases ed
  · cases ed
theorem Z0 (Af : Array Value) : slicePick Af none none (some (-1)) = Af.toList.reverse.toArray := by
  have hb : sliceBounds none none (some (-1)) Af.size = ((Af.size : Int) - 1, -1, -1) := by simp [sliceBounds]
  unfold slicePick
  rw [hb]
  have hr : sliceRange ((Af.size : Int) - 1) (-1) (-1) = (List.range Af.size).reverse := by
    unfold sliceRange
    apply List.ext_getElem?
    intro i
    by_cases hz : Af.size = 0
    · simp [hz]
    · have h1 : (Af.size : Int) - 1 > -1 := Int.lt_of_lt_of_le (by decide) (Int.sub_nonneg_of_le (Int.ofNat_le.mpr (Nat.pos_of_ne_zero hz)))
      have e : ((Af.size : Int) - 1 - -1 - -1 - 1) / (- -1) = (Af.size : Int) := by
        rw [show (- -1 : Int) = 1 from rfl, Int.ediv_one]; exact oPk _
      have h0 : ¬ ((-1 : Int) > 0) := by decide
      simp only [h0, if_false, h1, if_true, e, Int.toNat_natCast]
      by_cases hi : i < Af.size
      · rw [List.getElem?_map, List.getElem?_range hi, List.getElem?_reverse (by simpa using hi), List.length_range, List.getElem?_range (by exact Nat.lt_of_le_of_lt (Nat.sub_le _ _) (Nat.sub_lt (Fl hi) Nat.one_pos))]
        simp only [Option.map_some]
        exact congrArg some (Abe hi)
      · rw [List.getElem?_eq_none (by simpa using hi), List.getElem?_eq_none (by simpa using hi)]
  show ((sliceRange ((Af.size : Int) - 1) (-1) (-1)).filterMap (Af[·]?)).toArray = _
  rw [hr, List.filterMap_reverse]
  congr 2
  have : ∀ (l : List Value) , (List.range l.length).filterMap (l[·]?) = l := by
    intro l
    induction l with
    | nil => rfl
    | cons x l ih =>
      rw [List.length_cons, List.range_succ_eq_map, List.filterMap_cons]
      simp only [List.getElem?_cons_zero, List.filterMap_map, Function.comp_def, List.getElem?_cons_succ]
      rw [ih]
  have h2 := this Af.toList
  simpa using h2
theorem Aj.rev {v : Expr} {c k' : Nat} {p p1 p2 pos : Pos} {d d1 : A8 → A0 → Res AV} (h1 : Aj C T n b Γ S v d1)
    (hd : ∀ ρ H, d ρ H = (d1 ρ H).get fun v H => (match v with
      | .ref r => (match H[r]? with
        | some (.list xs) => Aw xs.reverse H
        | _ => .bad)
      | _ => .bad)) : Aj C T n b Γ S (.Subscript v (.Slice none none (some (.UnaryOp .USub (.Constant (.int 1) k' p1) p2)) p) pos) d := by
  refine ⟨?_⟩
  intro base env ρ μ H H' s A E Q v' G hS st a ed k
  rw [hd] at ed
  obtain ⟨x, H1, e1, ed⟩ := Res.get_ok ed
  refine Subscript_ (h1.ok G hS st a e1 fun q s1 μ1 X1 S1 V1 => wpAny_Slice (wpAny_evalPart_none (wpAny_evalPart_none (wpAny_evalPart_some (wpAny_UnaryOp (wpAny_Constant_int (PyProof.Rows.neg_int ?_)))))))
  split at ed
  · rename_i r
    split at ed
    · rename_i xs ex
      unfold Aw at ed
      split at ed
      · rename_i hz; cases ed
        refine bC fun hno => ?_
        obtain ⟨c, rfl, ec⟩ := V1.isRef
        obtain ⟨hz', a', vs, ea', p1, q1⟩ := S1.hp.list ex
        rw [ec] at ea'; cases ea'
        have S3 := (S1.tok (s1.toks + 1)).tok (s1.toks + 1 + 1)
        have S4 := S3.push { cls := .type "slice", data := .fields #[.none, .none, .int (-1) (s1.toks + 1)] }
        have p4 : (s1.heap.push { cls := .type "slice", data := .fields #[.none, .none, .int (-1) (s1.toks + 1)] }).IsList c vs.toArray := (IsList.of_plain p1).push _
        refine hno ?_
        refine tail_any (ops := [.ref c, .ref s1.heap.objs.size]) (s := { s1 with heap := _, toks := _ }) p4.typeIs slot_list_getitem.lookup ?_ rfl
        refine wpAny_getItem_list_slice (s := { s1 with heap := _, toks := _ }) p4 ⟨_, Heap.get?_push_size _ rfl, rfl, rfl⟩ .none .none (.int (-1) _) (by intro e; cases e) ?_ (by rw [List.size_toArray, ← q1.length]; exact D8 hz')
        rw [Z0]
        have q4 : VRs C μ1 (s1.heap.push { cls := .type "slice", data := .fields #[.none, .none, .int (-1) (s1.toks + 1)] }) xs.reverse vs.reverse := (q1.keeps fun e => Heap.get?_push_of_some _ e).reverse
        have S5 := S4.newList q4 hz
        exact k _ _ _ ((X1.trans (Ext.push _)).trans .newList) S5 (.ref (by rw [← S1.hp.len]; simp))
      · cases ed
    · cases ed
  · cases ed
theorem Nr {v : AV} {H : A0} (h : isL v H = true) : ∃ r xs, v = .ref r ∧ H[r]? = some (.list xs) := by
  unfold isL at h
  split at h
  · split at h
    · exact ⟨_, _, rfl, by assumption⟩
    · cases h
  · cases h
theorem Pi (vs : List Value) (x : Value) : vs.toArray.push x = (vs ++ [x]).toArray := by simp
theorem Aj.append {o y : Expr} {ap pos : Pos} {d d1 d2 : A8 → A0 → Res AV} (hb : ∀ env, attributeBase o "append" env (eval o env) = eval o env) (hy : Am y = true) (hline : (ap.endLine == pos.line) = true)
    (h1 : Aj C T n b Γ S o d1) (h2 : Aj C T n b Γ S y d2)
    (hd : ∀ ρ H, d ρ H = (d1 ρ H).get fun v H => if isL v H then (d2 ρ H).get fun w H => Cp b v w H else .bad) : Aj C T n b Γ S (.Call (.Attribute o "append" ap) [y] [] pos) d := by
  refine ⟨?_⟩
  intro base env ρ μ H H' s A E Q v' G hS st a ed k
  refine bC fun hno => ?_
  rw [hd] at ed
  obtain ⟨x, H1, e1, ed⟩ := Res.get_ok ed
  refine hno ?_
  split at ed
  · rename_i hL
    refine bC fun hno => ?_
    obtain ⟨z, H2, e2, ed⟩ := Res.get_ok ed
    have htrees : backTo pos (starEach [y] env) = [(false, eval y env)] := by rw [An hy]; rfl
    refine hno ?_
    refine wpAny_Call_append (hb env) (by rw [htrees]; rfl) hline htrees (h1.ok G hS st a e1 fun p s1 μ1 X1 S1 V1 => ?_)
    refine bC fun hno => ?_
    obtain ⟨r, ys, rfl, ey⟩ := Nr hL
    obtain ⟨c, rfl, ec⟩ := V1.isRef
    obtain ⟨_, a', ws, ea', ⟨j, p1⟩, _⟩ := S1.hp.list ey
    rw [ec] at ea'; cases ea'
    refine hno ?_
    refine ⟨c, _, rfl, ⟨_, _, p1, rfl, rfl, rfl⟩, h2.ok G hS S1 a e2 fun q s2 μ2 X2 S2 V2 => ?_⟩
    unfold Cp at ed
    simp only at ed
    split at ed
    · rename_i xs ex
      split at ed
      · rename_i hc; cases ed
        refine bC fun hno => ?_
        have ec2 := Bw X2.pre ec
        obtain ⟨hz', a', vs, ea', p1, q1⟩ := S2.hp.list ex
        rw [ec2] at ea'; cases ea'
        refine hno ?_
        refine wpAny_list_append_plain p1 (fun h' pl hs => ?_) (by rw [List.size_toArray, ← q1.length]; exact D8 hz')
        refine bC fun hno => ?_
        rw [Pi] at pl
        obtain ⟨S3, X3⟩ := S2.turn ex ec2 hc.1 pl hs (q1.append (.cons V2 .nil)) (by simp; exact hc.2)
        refine hno ?_
        exact k _ _ _ ((X1.trans X2).trans X3) S3 .none
      · cases ed
    · cases ed
  · cases ed
noncomputable def isB (t : Bool) (v : Value) : Bool := match v with | .bool b => b == t | _ => false
theorem A1i (t : Bool) {bs : List Bool} {v : Value} (hv : v ∈ (bs.map Value.bool).toArray) (A : Around) (s : Shared) : EqAt A s v (.bool t) (isB t v) := by
  rw [List.mem_toArray] at hv
  obtain ⟨b, _, rfl⟩ := List.mem_map.mp hv
  exact EqAt.bool_bool b t
theorem Ti {prog : Program} {w : World} {l : Addr} {bs : List Bool} {t : Bool} {s : Shared} {A : Around} {E : Value → Shared → Prop} {Q : Value → Shared → Prop} (hl : s.heap.IsList l (bs.map Value.bool).toArray)
    (h : Q (.int (bs.countP (· == t) : Nat) s.toks) { s with toks := s.toks + 1 }) : wpAny (model prog w) A (call (.builtin "list.count") [.ref l, .bool t]) Q E s := by
  refine bC fun hno => ?_
  obtain ⟨⟨cls, dd, data, sl⟩, ho, hc, n, hd⟩ := id hl
  simp only at hc hd
  subst hc hd
  refine hno ?_
  refine call_meets PySem.F.slot_list_count ⟨_, ho, rfl⟩ PySem.F.entry_list_count (PySem.F.args_list_count_2 _ _) (list_countAt l _ n dd sl (.bool t) (isB t)) ⟨ho, fun y hy => A1i t hy _ _, ?_⟩
  have : List.countP (isB t) (bs.map Value.bool).toArray.toList = bs.countP (· == t) := by
    show List.countP (isB t) (bs.map Value.bool) = _
    rw [List.countP_map]; rfl
  rw [this]; exact h
theorem Tp {prog : Program} {w : World} {l : Addr} {bs : List Bool} {t : Bool} {j : Nat} {s : Shared} {A : Around} {E : Value → Shared → Prop} {Q : Value → Shared → Prop} (hl : s.heap.IsList l (bs.map Value.bool).toArray) (ej : bs.findIdx? (· == t) = some j)
    (hb : bs.length < 2 ^ 62) (h : Q (.int (j : Nat) s.toks) { s with toks := s.toks + 1 }) : wpAny (model prog w) A (call (.builtin "list.index") [.ref l, .bool t]) Q E s := by
  refine bC fun hno => ?_
  obtain ⟨⟨cls, dd, data, sl⟩, ho, hc, n, hd⟩ := id hl
  simp only at hc hd
  subst hc hd
  obtain ⟨hj, h1, h2⟩ := List.findIdx?_eq_some_iff_getElem.mp ej
  refine hno ?_
  refine call_meets PySem.F.slot_list_index ⟨_, ho, rfl⟩ PySem.F.entry_list_index (PySem.F.args_list_index_2 _ _)
    (list_indexAt l _ n dd sl (.bool t) (isB t) j (by simpa using hj) (Int.lt_of_lt_of_le (Int.ofNat_lt.mpr (Nat.lt_trans hj hb)) (by decide)) ?_ ?_) ⟨ho, fun y hy => A1i t hy _ _, h⟩
  · simpa [isB] using h1
  · intro m hm hlt
    have := h2 m hlt
    simpa [isB] using this
theorem Aj.index {o y : Expr} {ap pos : Pos} {d d1 d2 : A8 → A0 → Res AV} (hb : ∀ env, attributeBase o "index" env (eval o env) = eval o env) (hy : Am y = true) (hline : (ap.endLine == pos.line) = true)
    (h1 : Aj C T n b Γ S o d1) (h2 : Aj C T n b Γ S y d2)
    (hd : ∀ ρ H, d ρ H = (d1 ρ H).get fun v H => if isL v H then (d2 ρ H).get fun w H => Xr v w H else .bad) : Aj C T n b Γ S (.Call (.Attribute o "index" ap) [y] [] pos) d := by
  refine ⟨?_⟩
  intro base env ρ μ H H' s A E Q v' G hS st a ed k
  refine bC fun hno => ?_
  rw [hd] at ed
  obtain ⟨x, H1, e1, ed⟩ := Res.get_ok ed
  refine hno ?_
  split at ed
  · rename_i hL
    refine bC fun hno => ?_
    obtain ⟨z, H2, e2, ed⟩ := Res.get_ok ed
    have htrees : backTo pos (starEach [y] env) = [(false, eval y env)] := by rw [An hy]; rfl
    refine hno ?_
    refine wpAny_Call_method1_late (hb env) hline htrees (h1.ok G hS st a e1 fun p s1 μ1 X1 S1 V1 => ?_)
    refine bC fun hno => ?_
    obtain ⟨r, ys, rfl, ey⟩ := Nr hL
    obtain ⟨c, rfl, ec⟩ := V1.isRef
    obtain ⟨_, a', ws, ea', ⟨j, p1⟩, _⟩ := S1.hp.list ey
    rw [ec] at ea'; cases ea'
    refine hno ?_
    refine ⟨"list", "list.index", PySem.F.plainAttrs_list, PySem.F.slot_list_index, PySem.F.type_list_index, (IsList.of_plain ⟨j, p1⟩).typeIs, fun a e => by cases e; exact ⟨_, p1, rfl⟩, ?_⟩
    refine Calls.callWith_builtin rfl (Calls.evalArgs_plain (Calls.spliced_cons (h2.ok G hS S1 a e2 fun q s2 μ2 X2 S2 V2 => Calls.spliced_nil ?_)))
    have ec2 := Bw X2.pre ec
    cases z with
    | bool tt =>
      cases V2
      have ed : (match H2[r]? with
        | some (.list xs) => (match Bg xs with
          | some bs => (match bs.findIdx? (· == tt) with
            | some k => Res.ok (AV.int k) H2
            | none => .bad)
          | none => .bad)
        | _ => .bad) = .ok v' H' := ed
      split at ed
      · rename_i xs ex
        split at ed
        · rename_i bs eb
          split at ed
          · rename_i kk ek
            refine bC fun hno => ?_
            cases ed
            obtain ⟨hz', a', vs, ea', p2, q2⟩ := S2.hp.list ex
            rw [ec2] at ea'; cases ea'
            have hvs := L1 eb q2
            subst hvs
            refine hno ?_
            refine Tp (IsList.of_plain p2) ek (Nat.lt_of_le_of_lt ?_ (show lim < 2 ^ 62 by decide)) ?_
            · have hq := q2.length; rw [List.length_map] at hq; rw [← hq]; exact hz'
            · exact k _ _ μ2 (X1.trans X2) (S2.tok _) (.int _ _)
          · cases ed
        · cases ed
      · cases ed
    | _ => cases ed
  · cases ed
theorem Aj.count {o y : Expr} {ap pos : Pos} {d d1 d2 : A8 → A0 → Res AV} (hb : ∀ env, attributeBase o "count" env (eval o env) = eval o env) (hy : Am y = true) (hline : (ap.endLine == pos.line) = true)
    (h1 : Aj C T n b Γ S o d1) (h2 : Aj C T n b Γ S y d2)
    (hd : ∀ ρ H, d ρ H = (d1 ρ H).get fun v H => if isL v H then (d2 ρ H).get fun w H => Y6 v w H else .bad) : Aj C T n b Γ S (.Call (.Attribute o "count" ap) [y] [] pos) d := by
  refine ⟨?_⟩
  intro base env ρ μ H H' s A E Q v' G hS st a ed k
  refine bC fun hno => ?_
  rw [hd] at ed
  obtain ⟨x, H1, e1, ed⟩ := Res.get_ok ed
  refine hno ?_
  split at ed
  · rename_i hL
    refine bC fun hno => ?_
    obtain ⟨z, H2, e2, ed⟩ := Res.get_ok ed
    have htrees : backTo pos (starEach [y] env) = [(false, eval y env)] := by rw [An hy]; rfl
    refine hno ?_
    refine wpAny_Call_method1_late (hb env) hline htrees (h1.ok G hS st a e1 fun p s1 μ1 X1 S1 V1 => ?_)
    refine bC fun hno => ?_
    obtain ⟨r, ys, rfl, ey⟩ := Nr hL
    obtain ⟨c, rfl, ec⟩ := V1.isRef
    obtain ⟨_, a', ws, ea', ⟨j, p1⟩, _⟩ := S1.hp.list ey
    rw [ec] at ea'; cases ea'
    refine hno ?_
    refine ⟨"list", "list.count", PySem.F.plainAttrs_list, PySem.F.slot_list_count, PySem.F.type_list_count, (IsList.of_plain ⟨j, p1⟩).typeIs, fun a e => by cases e; exact ⟨_, p1, rfl⟩, ?_⟩
    refine Calls.callWith_builtin rfl (Calls.evalArgs_plain (Calls.spliced_cons (h2.ok G hS S1 a e2 fun q s2 μ2 X2 S2 V2 => Calls.spliced_nil ?_)))
    have ec2 := Bw X2.pre ec
    cases z with
    | bool tt =>
      cases V2
      have ed : (match H2[r]? with
        | some (.list xs) => (match Bg xs with
          | some bs => Res.ok (AV.int (bs.countP (· == tt) : Nat)) H2
          | none => .bad)
        | _ => .bad) = .ok v' H' := ed
      split at ed
      · rename_i xs ex
        split at ed
        · rename_i bs eb
          refine bC fun hno => ?_
          cases ed
          obtain ⟨hz', a', vs, ea', p2, q2⟩ := S2.hp.list ex
          rw [ec2] at ea'; cases ea'
          have hvs := L1 eb q2
          subst hvs
          refine hno ?_
          exact Ti (IsList.of_plain p2) (k _ _ μ2 (X1.trans X2) (S2.tok _) (.int _ _))
        · cases ed
      · cases ed
    | _ => cases ed
  · cases ed
end
end Mine
namespace Mine
open PySem PySem.Calls PyProof.Rows PySem.SeqAt
structure Cu (C : Cx) (T : Tab) (n : Nat) (cf : Nat → List AV → A0 → Res AV) : Prop where
  ok : ∀ {k : Nat} {base : Bs} {b : Nat} {env : Env} {Γ : List Str} {ρ : A8} {μ : List Addr} {H H' : A0} {s : Shared} {A : Around} {E : Value → Shared → Prop} {Q : Value → Shared → Prop} {vs : List AV} {us : List Value} {v : AV},
    T.okc k = true → Gnd C T base → St C base b env Γ ρ μ H s → AOk base A n → VRs C μ s.heap vs us → cf k vs H = .ok v H' → B6 C base b env Γ ρ μ s v H' Q → wpAny (model C.prog C.w) A (call (.ref (C.fa k)) us) Q E s
  ex : ∀ {k : Nat} {base : Bs} {b : Nat} {env : Env} {Γ : List Str} {ρ : A8} {μ : List Addr} {H H' : A0} {s : Shared} {A : Around} {E : Value → Shared → Prop} {Q : Value → Shared → Prop} {vs : List AV} {us : List Value} {c : Nat},
    T.okc k = true → Gnd C T base → St C base b env Γ ρ μ H s → AOk base A n → VRs C μ s.heap vs us → cf k vs H = .exc c H' → J6 C base b env Γ ρ μ s c H' E → wpAny (model C.prog C.w) A (call (.ref (C.fa k)) us) Q E s
section
variable (C : Cx) (T : Tab) (n b : Nat) (Γ : List Str) (S : Scope)
structure XOk (e : Expr) (d : A8 → A0 → Res AV) : Prop where
  ok : ∀ {base : Bs} {env : Env} {ρ : A8} {μ : List Addr} {H H' : A0} {s : Shared} {A : Around} {E : Value → Shared → Prop} {Q : Value → Shared → Prop} {c : Nat},
    Gnd C T base → env.scope = S → St C base b env Γ ρ μ H s → AOk base A n → d ρ H = .exc c H' → J6 C base b env Γ ρ μ s c H' E → wpAny (model C.prog C.w) A (eval e env) Q E s
end
theorem Res.get_exc {α β : Type} {r : Res α} {f : α → A0 → Res β} {c : Nat} {H' : A0} (e : r.get f = .exc c H') : ∃ a H1, r = .ok a H1 ∧ f a H1 = .exc c H' := by
  cases r with
  | ok a H1 => exact ⟨a, H1, rfl, e⟩
  | exc c H1 => cases e
  | bad => cases e
section
variable {C : Cx} {T : Tab} {n b : Nat} {Γ : List Str} {S : Scope} {cf : Nat → List AV → A0 → Res AV} {strF : Bi}
variable {base : Bs} {env : Env} {ρ : A8} {μ : List Addr} {H H' : A0} {s : Shared} {A : Around} {E : Value → Shared → Prop} {Q : Value → Shared → Prop}
theorem Dc : ∀ {es : List Expr} {pos : Pos}, es.all Am = true → (backTo pos (starEach es env)).any (·.1) = false
  | [], _, _ => rfl
  | e :: r, pos, h => by
    simp only [List.all_cons, Bool.and_eq_true] at h
    rw [An h.1]
    show (false || (backTo pos (starEach r env)).any (·.1)) = false
    rw [Dc h.2]; rfl
theorem Cb {e : Expr} {r : List Expr} {f : Value} {pos : Pos} {Q : Args → Shared → Prop} (hn : Am e = true) (h : wpAny (model C.prog C.w) A (spliced (backTo pos (starEach (e :: r) env))) (fun us s' => Q ⟨us, []⟩ s') E s) :
    wpAny (model C.prog C.w) A (evalArgs f true (backTo pos (starEach (e :: r) env)) []) Q E s := by
  rw [An hn] at h ⊢
  exact evalArgs_plain h
theorem Aj.userCall {x : Str} {e : Expr} {r : List Expr} {k : Nat} {np pos : Pos} {d : A8 → A0 → Res AV} {d1 : A8 → A0 → Res (List AV)} (hcf : Cu C T n cf) (ho : T.okc k = true) (hx : T.fns.lookup k = some x) (hg : Ao S x = true)
    (hn : (e :: r).all Am = true) (h1 : Gy C T n b Γ S (e :: r) d1) (hd : ∀ ρ H, d ρ H = (d1 ρ H).get fun vs H => cf k vs H) : Aj C T n b Γ S (.Call (.Name x np) (e :: r) [] pos) d := by
  refine ⟨?_⟩
  intro base env ρ μ H H' s A E Q v' G hS st a ed q
  refine bC fun hno => ?_
  rw [hd] at ed
  obtain ⟨vs, H1, e1, ed⟩ := Res.get_ok ed
  obtain ⟨hx1, o, fd, ho', hfd⟩ := G.fn hx
  refine hno ?_
  refine wpAny_Call_ofName (Gf G hS st hg hx1 ?_)
  show wpAny _ _ (callWith pos (.ref (C.fa k)) [] (backTo pos (starEach (e :: r) env)) []) _ _ _
  have hne : Am e = true := by simp only [List.all_cons, Bool.and_eq_true] at hn; exact hn.1
  refine callWith_function (Cb hne (h1.ok G hS st a e1 fun us s' μ' X S' V => ⟨⟨S'.kg ho', hfd⟩, ?_⟩))
  exact hcf.ok ho G S' a V ed fun u s'' μ'' X' S'' V' => q u s'' μ'' (X.trans X') S'' V'
theorem Aj.callv {v i : Expr} {p : Pos} {e : Expr} {r : List Expr} {pos : Pos} {d df : A8 → A0 → Res AV} {d1 : A8 → A0 → Res (List AV)} (hcf : Cu C T n cf)
    (hq : ∀ k, T.okc k = true) (hfn : ∀ k, ∃ x, T.fns.lookup k = some x ∨ ∀ vs H, cf k vs H = .bad) (hf : Aj C T n b Γ S (.Subscript v i p) df)
    (hn : (e :: r).all Am = true) (h1 : Gy C T n b Γ S (e :: r) d1) (hd : ∀ ρ H, d ρ H = (df ρ H).get fun v H => (d1 ρ H).get fun vs H => (match v with | .fn k => cf k vs H | _ => .bad)) :
    Aj C T n b Γ S (.Call (.Subscript v i p) (e :: r) [] pos) d := by
  refine ⟨?_⟩
  intro base env ρ μ H H' s A E Q v' G hS st a ed q
  refine bC fun hno => ?_
  rw [hd] at ed
  obtain ⟨f, H0, e0, ed⟩ := Res.get_ok ed
  obtain ⟨vs, H1, e1, ed⟩ := Res.get_ok ed
  refine hno ?_
  show wpAny _ _ (eval (.Subscript v i p) env >>= fun f => callWith pos f [] (backTo pos (starEach (e :: r) env)) []) _ _ _
  refine wpAny_bind (hf.ok G hS st a e0 fun u s1 μ1 X1 S1 V1 => ?_)
  cases f with
  | fn k =>
    refine bC fun hno => ?_
    simp only at ed
    cases V1
    obtain ⟨x, hx | hbad⟩ := hfn k
    refine hno ?_
    · refine bC fun hno => ?_
      obtain ⟨hx1, o, fd, ho, hfd⟩ := G.fn hx
      have hne : Am e = true := by simp only [List.all_cons, Bool.and_eq_true] at hn; exact hn.1
      refine hno ?_
      refine callWith_function (Cb hne (h1.ok G hS S1 a e1 fun us s' μ' X S' V => ⟨⟨S'.kg ho, hfd⟩, ?_⟩))
      exact hcf.ok (hq k) G S' a V ed fun u s'' μ'' X' S'' V' => q u s'' μ'' ((X1.trans X).trans X') S'' V'
    · rw [hbad] at ed; cases ed
  | _ => simp at ed
theorem J6.after {c : Nat} {μ1 : List Addr} {s1 : Shared} (X : Ext env μ μ1 s.heap s1.heap) (q : J6 C base b env Γ ρ μ s c H' E) : J6 C base b env Γ ρ μ1 s1 c H' E :=
  fun u s' μ' X' S' ek x => q u s' μ' (X.trans X') S' ek (x.back X.live)
theorem XOk.userCall {x : Str} {e : Expr} {r : List Expr} {k : Nat} {np pos : Pos} {d : A8 → A0 → Res AV} {d1 : A8 → A0 → Res (List AV)} (hcf : Cu C T n cf) (ho : T.okc k = true) (hx : T.fns.lookup k = some x) (hg : Ao S x = true)
    (hn : (e :: r).all Am = true) (h1 : Gy C T n b Γ S (e :: r) d1) (hd : ∀ ρ H, d ρ H = (d1 ρ H).get fun vs H => cf k vs H) : XOk C T n b Γ S (.Call (.Name x np) (e :: r) [] pos) d := by
  refine ⟨?_⟩
  intro base env ρ μ H H' s A E Q c G hS st a ed q
  refine bC fun hno => ?_
  rw [hd] at ed
  obtain ⟨vs, H1, e1, ed⟩ := Res.get_exc ed
  obtain ⟨hx1, o, fd, ho', hfd⟩ := G.fn hx
  refine hno ?_
  refine wpAny_Call_ofName (Gf G hS st hg hx1 ?_)
  show wpAny _ _ (callWith pos (.ref (C.fa k)) [] (backTo pos (starEach (e :: r) env)) []) _ _ _
  have hne : Am e = true := by simp only [List.all_cons, Bool.and_eq_true] at hn; exact hn.1
  refine callWith_function (Cb hne (h1.ok G hS st a e1 fun us s' μ' X S' V => ⟨⟨S'.kg ho', hfd⟩, ?_⟩))
  exact hcf.ex ho G S' a V ed (q.after X)
theorem XOk.callv {v i : Expr} {p : Pos} {e : Expr} {r : List Expr} {pos : Pos} {d df : A8 → A0 → Res AV} {d1 : A8 → A0 → Res (List AV)} (hcf : Cu C T n cf)
    (hq : ∀ k, T.okc k = true) (hfn : ∀ k, ∃ x, T.fns.lookup k = some x ∨ ∀ vs H, cf k vs H = .bad) (hf : Aj C T n b Γ S (.Subscript v i p) df)
    (hn : (e :: r).all Am = true) (h1 : Gy C T n b Γ S (e :: r) d1) (hd : ∀ ρ H, d ρ H = (df ρ H).get fun v H => (d1 ρ H).get fun vs H => (match v with | .fn k => cf k vs H | _ => .bad)) :
    XOk C T n b Γ S (.Call (.Subscript v i p) (e :: r) [] pos) d := by
  refine ⟨?_⟩
  intro base env ρ μ H H' s A E Q c G hS st a ed q
  refine bC fun hno => ?_
  rw [hd] at ed
  obtain ⟨f, H0, e0, ed⟩ := Res.get_exc ed
  obtain ⟨vs, H1, e1, ed⟩ := Res.get_exc ed
  refine hno ?_
  show wpAny _ _ (eval (.Subscript v i p) env >>= fun f => callWith pos f [] (backTo pos (starEach (e :: r) env)) []) _ _ _
  refine wpAny_bind (hf.ok G hS st a e0 fun u s1 μ1 X1 S1 V1 => ?_)
  cases f with
  | fn k =>
    refine bC fun hno => ?_
    simp only at ed
    cases V1
    obtain ⟨x, hx | hbad⟩ := hfn k
    refine hno ?_
    · refine bC fun hno => ?_
      obtain ⟨hx1, o, fd, ho, hfd⟩ := G.fn hx
      have hne : Am e = true := by simp only [List.all_cons, Bool.and_eq_true] at hn; exact hn.1
      refine hno ?_
      refine callWith_function (Cb hne (h1.ok G hS S1 a e1 fun us s' μ' X S' V => ⟨⟨S'.kg ho, hfd⟩, ?_⟩))
      exact hcf.ex (hq k) G S' a V ed (q.after (X1.trans X))
    · rw [hbad] at ed; cases ed
  | _ => simp at ed
theorem XOk.list1 {e : Expr} {pos : Pos} {d d1 : A8 → A0 → Res AV} (hn : Am e = true) (h1 : XOk C T n b Γ S e d1) (hd : ∀ ρ H, d ρ H = ((d1 ρ H).thn fun v H => (Res.ok ([] : List AV) H).thn fun vs H => .ok (v :: vs) H).thn fun vs H => Aw vs H) : XOk C T n b Γ S (.List [e] pos) d := by
  refine ⟨?_⟩
  intro base env ρ μ H H' s A E Q c G hS st a ed q
  rw [hd] at ed
  refine wpAny_List_spliced (wpAny_items_cons ?_ (An hn))
  cases e1 : d1 ρ H with
  | ok v H1 =>
    rw [e1] at ed
    have ed : Aw [v] H1 = .exc c H' := ed
    unfold Aw at ed
    split at ed <;> cases ed
  | exc c1 H1 =>
    rw [e1] at ed
    cases ed
    exact h1.ok G hS st a e1 q
  | bad => rw [e1] at ed; cases ed
theorem Aj.callB {x : Str} {id : String} {e : Expr} {r : List Expr} {np pos : Pos} {d : A8 → A0 → Res AV} {d1 : A8 → A0 → Res (List AV)} {f : List AV → A0 → Res AV} (hx : Cy.lookup x = some (.builtin id)) (hg : Ao S x = true)
    (hn : (e :: r).all Am = true) (h1 : Gy C T n b Γ S (e :: r) d1) (hd : ∀ ρ H, d ρ H = (d1 ρ H).get f)
    (hc : ∀ {base : Bs} {env : Env} {ρ : A8} {μ : List Addr} {H H' : A0} {s : Shared} {A : Around} {E : Value → Shared → Prop} {Q : Value → Shared → Prop} {vs : List AV} {us : List Value} {v : AV},
      Gnd C T base → St C base b env Γ ρ μ H s → AOk base A n → VRs C μ s.heap vs us → f vs H = .ok v H' → B6 C base b env Γ ρ μ s v H' Q → wpAny (model C.prog C.w) A (call (.builtin id) us) Q E s) :
    Aj C T n b Γ S (.Call (.Name x np) (e :: r) [] pos) d := by
  refine ⟨?_⟩
  intro base env ρ μ H H' s A E Q v' G hS st a ed q
  rw [hd] at ed
  obtain ⟨vs, H1, e1, ed⟩ := Res.get_ok ed
  refine wpAny_Call_ofName (Bv G hS st hg hx ?_)
  have hne : Am e = true := by simp only [List.all_cons, Bool.and_eq_true] at hn; exact hn.1
  refine callWith_builtin (Dc hn) (Cb hne (h1.ok G hS st a e1 fun us s' μ' X S' V => ?_))
  exact hc G S' a V ed fun u s'' μ'' X' S'' V' => q u s'' μ'' (X.trans X') S'' V'
theorem Aj.callT {x : Str} {Ty : String} {e : Expr} {r : List Expr} {np pos : Pos} {d : A8 → A0 → Res AV} {d1 : A8 → A0 → Res (List AV)} {f : List AV → A0 → Res AV} (hx : Cy.lookup x = some (.type Ty)) (hg : Ao S x = true)
    (hn : (e :: r).all Am = true) (h1 : Gy C T n b Γ S (e :: r) d1) (hd : ∀ ρ H, d ρ H = (d1 ρ H).get f)
    (hc : ∀ {base : Bs} {env : Env} {ρ : A8} {μ : List Addr} {H H' : A0} {s : Shared} {A : Around} {E : Value → Shared → Prop} {Q : Value → Shared → Prop} {vs : List AV} {us : List Value} {v : AV},
      Gnd C T base → St C base b env Γ ρ μ H s → AOk base A n → VRs C μ s.heap vs us → f vs H = .ok v H' → B6 C base b env Γ ρ μ s v H' Q → wpAny (model C.prog C.w) A (call (.type Ty) us) Q E s) :
    Aj C T n b Γ S (.Call (.Name x np) (e :: r) [] pos) d := by
  refine ⟨?_⟩
  intro base env ρ μ H H' s A E Q v' G hS st a ed q
  rw [hd] at ed
  obtain ⟨vs, H1, e1, ed⟩ := Res.get_ok ed
  refine wpAny_Call_ofName (Bv G hS st hg hx ?_)
  have hne : Am e = true := by simp only [List.all_cons, Bool.and_eq_true] at hn; exact hn.1
  refine PySem.callWith_type (Dc hn) (Cb hne (h1.ok G hS st a e1 fun us s' μ' X S' V => ?_))
  exact hc G S' a V ed fun u s'' μ'' X' S'' V' => q u s'' μ'' (X.trans X') S'' V'
theorem Aj.callI {f g : Str} {Ty : String} {x : Expr} {np gp pos : Pos} {d d1 : A8 → A0 → Res AV} {fv : AV → A0 → Res AV} (hf : Cy.lookup f = some (.builtin "isinstance")) (hg : Ao S f = true)
    (hgn : Cy.lookup g = some (.type Ty)) (hgg : Ao S g = true) (hn : Am x = true) (h1 : Aj C T n b Γ S x d1) (hd : ∀ ρ H, d ρ H = (d1 ρ H).get fv)
    (hc : ∀ {base : Bs} {env : Env} {ρ : A8} {μ : List Addr} {H H' : A0} {s : Shared} {A : Around} {E : Value → Shared → Prop} {Q : Value → Shared → Prop} {w : AV} {u : Value} {v : AV},
      Gnd C T base → St C base b env Γ ρ μ H s → VR C μ s.heap w u → fv w H = .ok v H' → B6 C base b env Γ ρ μ s v H' Q → wpAny (model C.prog C.w) A (call (.builtin "isinstance") [u, .type Ty]) Q E s) :
    Aj C T n b Γ S (.Call (.Name f np) [x, .Name g gp] [] pos) d := by
  refine ⟨?_⟩
  intro base env ρ μ H H' s A E Q v' G hS st a ed q
  rw [hd] at ed
  obtain ⟨w, H1, e1, ed⟩ := Res.get_ok ed
  refine wpAny_Call_ofName (Bv G hS st hg hf ?_)
  have hall : ([x, .Name g gp] : List Expr).all Am = true := by simp only [List.all_cons, hn]; rfl
  refine callWith_builtin (Dc hall) (Cb hn (wpAny_items_cons (h1.ok G hS st a e1 fun u s' μ' X S' V => ?_) (An hn)))
  refine wpAny_items_cons (Bv G hS S' hgg hgn (wpAny_items_nil ?_)) (An rfl)
  exact hc G S' V ed fun u s'' μ'' X' S'' V' => q u s'' μ'' (X.trans X') S'' V'
theorem Aj.callX {f g : Str} {x : Expr} {np gp pos : Pos} {d d1 : A8 → A0 → Res AV} {fv : AV → A0 → Res AV} (hf : Cy.lookup f = some (.builtin "isinstance")) (hg : Ao S f = true)
    (hgg : Ao S g = true) (hn : Am x = true) (h1 : Aj C T n b Γ S x d1) (hd : ∀ ρ H, d ρ H = (d1 ρ H).get fv)
    (hc : ∀ {base : Bs} {env : Env} {ρ : A8} {μ : List Addr} {H H' : A0} {s : Shared} {A : Around} {E : Value → Shared → Prop} {Q : Value → Shared → Prop} {w : AV} {u : Value} {v : AV},
      Gnd C T base → St C base b env Γ ρ μ H s → VR C μ s.heap w u → fv w H = .ok v H' → B6 C base b env Γ ρ μ s v H' Q → ∃ cl, C.mg g = some cl ∧ wpAny (model C.prog C.w) A (call (.builtin "isinstance") [u, cl]) Q E s) :
    Aj C T n b Γ S (.Call (.Name f np) [x, .Name g gp] [] pos) d := by
  refine ⟨?_⟩
  intro base env ρ μ H H' s A E Q v' G hS st a ed q
  rw [hd] at ed
  obtain ⟨w, H1, e1, ed⟩ := Res.get_ok ed
  refine wpAny_Call_ofName (Bv G hS st hg hf ?_)
  have hall : ([x, .Name g gp] : List Expr).all Am = true := by simp only [List.all_cons, hn]; rfl
  refine callWith_builtin (Dc hall) (Cb hn (wpAny_items_cons (h1.ok G hS st a e1 fun u s' μ' X S' V => ?_) (An hn)))
  refine bC fun hno => ?_
  obtain ⟨cl, ecl, hw⟩ := hc (A := A) (E := E) (Q := Q) G S' V ed fun u s'' μ'' X' S'' V' => q u s'' μ'' (X.trans X') S'' V'
  refine hno ?_
  exact wpAny_items_cons (Gf G hS S' hgg ecl (wpAny_items_nil hw)) (An rfl)
end
end Mine
namespace Mine
open PySem PySem.Calls PyProof.Rows PySem.SeqAt
abbrev Cx.withZ (C : Cx) (z : Addr → Prop) : Cx := { C with z := z }
section
variable {C : Cx} {μ μ' : List Addr} {h h' : Heap} {base : Bs} {env : Env} {Γ : List Str} {ρ : A8} {H H' : A0} {b : Nat} {s s' : Shared} {z : Addr → Prop} {P : Addr → Prop}
theorem VR.mapZ (p : μ <+: μ') (st : ∀ {a : Addr} {o : Obj}, h.get? a = some o → ¬ C.z a → (∃ its, h.IsTuple a its) ∨ (∃ vs, o.data = .fields vs) → h'.get? a = some o) (hz : ∀ {a : Addr} {o : Obj}, h.get? a = some o → ¬ C.z a → ¬ z a)
    {x : AV} {v : Value} (q : VR C μ h x v) : VR (C.withZ z) μ' h' x v :=
  @VR.rec C μ h (fun x v _ => VR (C.withZ z) μ' h' x v) (fun xs vs _ => VRs (C.withZ z) μ' h' xs vs) .none .bool .int .str (fun t nz l _ ih => .tup (IsTuple.stays t fun _ e => st e nz (.inl ⟨_, t⟩)) (let ⟨_, e, _⟩ := t; hz e nz) l ih) (fun e => .ref (Bw p e)) .scr .fn
    (fun hk e nz hc hd => .exc hk (st e nz (.inr hd)) (hz e nz) hc hd) .nil (fun _ _ a r => .cons a r) x v q
theorem VRs.mapZ (p : μ <+: μ') (st : ∀ {a : Addr} {o : Obj}, h.get? a = some o → ¬ C.z a → (∃ its, h.IsTuple a its) ∨ (∃ vs, o.data = .fields vs) → h'.get? a = some o) (hz : ∀ {a : Addr} {o : Obj}, h.get? a = some o → ¬ C.z a → ¬ z a)
    {xs : List AV} {vs : List Value} (q : VRs C μ h xs vs) : VRs (C.withZ z) μ' h' xs vs := by
  induction xs generalizing vs with
  | nil => cases q; exact .nil
  | cons x xs ih => cases q with
    | cons a r => exact .cons (VR.mapZ p st hz a) (ih r)
theorem Ee.mapZ (N : Ee C μ h env Γ ρ) (hL : ∀ m, h.Ns env.locals m → h'.Ns env.locals m)
    (hc : ∀ (x : Str) (c : Addr) (o : Obj), env.cells.lookup x = some c → h.get? c = some o → h'.get? c = some o) (hv : ∀ {x : AV} {v : Value}, VR C μ h x v → VR (C.withZ z) μ' h' x v) : Ee (C.withZ z) μ' h' env Γ ρ where
  kind := N.kind
  ns := by
    obtain ⟨m, n, q⟩ := N.ns
    exact ⟨m, hL m n, fun e k r => let ⟨u, e', v⟩ := q e k r; ⟨u, e', hv v⟩⟩
  cells := fun k => by
    refine bC fun hno => ?_
    obtain ⟨c, o, e, ⟨ob, eb, db⟩, q⟩ := N.cells k
    refine hno ?_
    exact ⟨c, o, e, ⟨ob, hc _ c ob e eb, db⟩, fun e r => let ⟨u, e', v⟩ := q e r; ⟨u, e', hv v⟩⟩
  cell := fun e => let ⟨o, ob, eb, db⟩ := N.cell e; ⟨o, ob, hc _ _ ob e eb, db⟩
  inj := N.inj
  globals := N.globals
  builtins := N.builtins
theorem St.mapZ (S : St C base b env Γ ρ μ H s) (J : Addr → Prop) (k : ∀ {a : Addr} {o : Obj}, ¬ J a → s.heap.get? a = some o → s'.heap.get? a = some o) (hJo : ∀ {a : Addr}, J a → ¬ Own μ env a) (hJb : ∀ {a : Addr}, J a → base.get? a = none)
    (hJz : ∀ {a : Addr}, J a → C.z a ∨ s.heap.get? a = none) (hz : ∀ {a : Addr} {o : Obj}, s.heap.get? a = some o → ¬ C.z a → ¬ z a) (hl : ∀ {a : Addr}, z a → ∃ o, s'.heap.get? a = some o) (hg : s'.gens = s.gens) (ho : s'.os = s.os) :
    St (C.withZ z) base b env Γ ρ μ H s' := by
  have st : ∀ {a : Addr} {o : Obj}, s.heap.get? a = some o → ¬ C.z a → (∃ its, s.heap.IsTuple a its) ∨ (∃ vs, o.data = .fields vs) → s'.heap.get? a = some o := fun {a o} e nz _ =>
    k (fun j => by rcases hJz j with q | q; exact nz q; rw [q] at e; cases e) e
  have mono : ∀ {x : AV} {v : Value}, VR C μ s.heap x v → VR (C.withZ z) μ s'.heap x v := fun q => VR.mapZ List.prefix_rfl st hz q
  have monos : ∀ {x : List AV} {v : List Value}, VRs C μ s.heap x v → VRs (C.withZ z) μ s'.heap x v := fun q => VRs.mapZ List.prefix_rfl st hz q
  refine ⟨?_, ⟨S.hp.len, S.hp.nd, ?_, ?_⟩, S.er.mapZ ?_ ?_ mono, S.fresh, S.noloc, S.lm, S.nocell, hg.trans S.gens, ho.trans S.os, hl, FF.map (fun {L o} e n nz => ⟨o, k (fun j => by rcases hJz j with q | q; exact nz q; rw [q] at e; cases e) e, n, hz e nz⟩) S.ff⟩
  · intro c o e
    exact (S.keep c o e).map id (k (fun j => by rw [hJb j] at e; cases e))
  · intro i xs e
    obtain ⟨l, c, ws, e', ⟨n, p⟩, q⟩ := S.hp.list e
    exact ⟨l, c, ws, e', ⟨n, k (fun j => hJo j (.inl (M9 e'))) p⟩, monos q⟩
  · intro i e
    refine bC fun hno => ?_
    obtain ⟨c, n, e', p⟩ := S.hp.dict e
    refine hno ?_
    exact ⟨c, n, e', k (fun j => hJo j (.inl (M9 e'))) p⟩
  · intro m n
    exact n.at fun o e => k (fun j => hJo j (.inr (.inl rfl))) e
  · intro x c o e1 e2
    exact k (fun j => hJo j (.inr (.inr ⟨x, e1⟩))) e2
theorem Ext.but {J : Addr → Prop} (X : Ext env μ μ' h h') {h'' : Heap} (hJ : ∀ {a : Addr}, J a → h.get? a = none) (k : ∀ {a : Addr} {o : Obj}, ¬ J a → h'.get? a = some o → h''.get? a = some o) : Ext env μ μ' h h'' where
  pre := X.pre
  stay := fun {a o} e n => (X.stay e n).map id (k (fun j => by rw [hJ j] at e; cases e))
  new := X.new
  live := ⟨fun {a o} e => by
    obtain ⟨o', e', n⟩ := X.live.go e
    exact ⟨o', k (fun j => by rw [hJ j] at e; cases e) e', n⟩⟩
theorem Tu.toZ {T : Tab} {g : Heap} (G : Tu C T g) : Tu (C.withZ z) T g := ⟨G.cls, G.inj, G.has0, G.eo, G.sm⟩
theorem Gnd.toZ {T : Tab} (G : Gnd C T base) : Gnd (C.withZ z) T base := ⟨G.q, G.okc, ⟨G.scr.scr⟩, G.g, G.b, G.bi, G.fn, G.gint, G.exg.toZ, G.nolimit, G.defs, G.qdefs⟩
abbrev Cx.plus (C : Cx) (J : Addr → Prop) : Cx := C.withZ fun a => C.z a ∨ J a
structure Jw (C : Cx) (base : Bs) (it : Value) (J : Addr → Prop) (ws : List (Nat × List AV)) (nm : Bool) (R : List AV → List Addr → Heap → Prop) (M : List AV → Value → List Addr → Heap → Prop) : Prop where
  frame : ∀ {μ μ' : List Addr} {h h' : Heap} {l : List AV}, R l μ h → μ <+: μ' → (∀ {a : Addr} {o : Obj}, h.get? a = some o → (∃ its, h.IsTuple a its) ∨ (∃ vs, o.data = .fields vs) → h'.get? a = some o) → R l μ' h'
  off : ∀ {env : Env} {b : Nat} {Γ : List Str} {ρ : A8} {μ : List Addr} {H : A0} {s : Shared} {l : List AV}, St C base b env Γ ρ μ H s → R l μ s.heap → ∀ {a : Addr}, J a → ¬ Own μ env a
  live : ∀ {μ : List Addr} {h : Heap} {l : List AV}, R l μ h → ∀ {a : Addr}, J a → ∃ o, h.get? a = some o
  self : ∀ {μ : List Addr} {s : Shared} {l : List AV} {A : Around} {E : Value → Shared → Prop} {Q : Value → Shared → Prop}, R l μ s.heap → Q it s → wpAny (model C.prog C.w) A (pyIter it) Q E s
  liveM : ∀ {μ : List Addr} {h : Heap} {l : List AV} {u : Value}, M l u μ h → ∀ {a : Addr}, J a → ∃ o, h.get? a = some o
  item : ∀ {env : Env} {b : Nat} {Γ : List Str} {ρ : A8} {μ : List Addr} {H : A0} {s : Shared} {A : Around} {E : Value → Shared → Prop} {Q : Option Value → Shared → Prop} {v : AV} {l : List AV} {n : Nat},
    St C base b env Γ ρ μ H s → AOk base A n → (∀ {a : Addr}, J a → C.z a) → (∀ w ∈ ws, H[w.1]? = some (.list w.2)) → R (v :: l) μ s.heap →
    (∀ u h' tk, (∀ {a : Addr} {o : Obj}, ¬ J a → s.heap.get? a = some o → h'.get? a = some o) → VR C μ h' v u → M l u μ h' → Q (some u) { s with heap := h', toks := tk }) →
    wpAny (model C.prog C.w) A (pyNext it) Q E s
  plain : nm = true → ∀ {μ : List Addr} {h : Heap} {l : List AV} {u : Value}, M l u μ h → R l μ h
  own : ∀ {μ : List Addr} {s : Shared} {l : List AV} {a : Addr} {A : Around} {E : Value → Shared → Prop} {Q : Unit → Shared → Prop} {elts : List Expr} {x1 : Nat} {pos : Pos}, M l (.ref a) μ s.heap →
    (∀ h', (∀ {a : Addr} {o : Obj}, ¬ J a → s.heap.get? a = some o → h'.get? a = some o) → R l μ h' → Q () { s with heap := h' }) → wpAny (model C.prog C.w) A (letOwnedTupleGo (.Tuple elts x1 pos) it (.ref a)) Q E s
  done : ∀ {env : Env} {b : Nat} {Γ : List Str} {ρ : A8} {μ : List Addr} {H : A0} {s : Shared} {A : Around} {E : Value → Shared → Prop} {Q : Option Value → Shared → Prop} {n : Nat},
    St C base b env Γ ρ μ H s → AOk base A n → (∀ {a : Addr}, J a → C.z a) → (∀ w ∈ ws, H[w.1]? = some (.list w.2)) → R [] μ s.heap →
    (∀ h' tk, (∀ {a : Addr} {o : Obj}, ¬ J a → s.heap.get? a = some o → h'.get? a = some o) → Q none { s with heap := h', toks := tk }) → wpAny (model C.prog C.w) A (pyNext it) Q E s
theorem Tk {a : Addr} {its : Array Value} {o : Obj} (t : h.IsTuple a its) (e : h.get? a = some o) : ND o := by
  obtain ⟨o', e', _, n, d⟩ := t
  rw [e] at e'; cases e'
  intro _ _ q; rw [d] at q; cases q
theorem Jw.frameX {it : Value} {J : Addr → Prop} {ws : List (Nat × List AV)} {nm : Bool} {R : List AV → List Addr → Heap → Prop} {M : List AV → Value → List Addr → Heap → Prop} {l : List AV} (W : Jw C base it J ws nm R M)
    {env' : Env} {Γ : List Str} (S : St C base b env' Γ ρ μ H s) (r : R l μ s.heap) (X : Ext env' μ μ' s.heap s'.heap) : R l μ' s'.heap :=
  W.frame r X.pre fun {a o} e k => by
    rcases k with ⟨its, t⟩ | ⟨vs, d⟩
    · exact (X.stay e (D7 S.hp S.er t)).ex (Tk t e)
    · exact (X.stay e (C4 S.hp S.er e d)).ex fun _ _ q => by rw [d] at q; cases q
theorem O8 {elts : List Expr} {x1 : Nat} {pos : Pos} {I a : Addr} {Ty : String} {o : Obj} {vs : Array Value} {A : Around} {E : Value → Shared → Prop} {Q : Unit → Shared → Prop} (ho : s.heap.get? I = some o) (hc : o.cls = .type Ty) (hd : o.data = .fields vs)
    (hn : (["enumerate", "zip", "dict_itemiterator", "dict_reverseitemiterator", "odict_iterator", "itertools.zip_longest", "itertools.pairwise"].contains Ty) = false) (hQ : Q () s) :
    wpAny (model C.prog C.w) A (letOwnedTupleGo (.Tuple elts x1 pos) (.ref I) (.ref a)) Q E s := by
  unfold letOwnedTupleGo
  refine wpAny_bind (wpAny_load ho ?_)
  rw [hc, hd]
  simp only [hn, Bool.false_and]
  exact wpAny_pure hQ
theorem VR.butJ {J : Addr → Prop} (hJ : ∀ {a : Addr}, J a → C.z a) (k : ∀ {a : Addr} {o : Obj}, ¬ J a → h.get? a = some o → h'.get? a = some o) {x : AV} {v : Value} (q : VR C μ h x v) : VR C μ h' x v :=
  VR.mapZ (z := C.z) List.prefix_rfl (fun e nz _ => k (fun j => nz (hJ j)) e) (fun _ nz => nz) q
theorem VRs.butJ {J : Addr → Prop} (hJ : ∀ {a : Addr}, J a → C.z a) (k : ∀ {a : Addr} {o : Obj}, ¬ J a → h.get? a = some o → h'.get? a = some o) {x : List AV} {v : List Value} (q : VRs C μ h x v) : VRs C μ h' x v :=
  VRs.mapZ (z := C.z) List.prefix_rfl (fun e nz _ => k (fun j => nz (hJ j)) e) (fun _ nz => nz) q
theorem VRs.dropCons {xs l : List AV} {v : AV} {i : Nat} (e : xs.drop i = v :: l) : xs[i]? = some v ∧ xs.drop (i + 1) = l := by
  have h1 : xs[i]? = some v := by
    have : (xs.drop i)[0]? = some v := by rw [e]; rfl
    simpa using this
  refine ⟨h1, ?_⟩
  have : (xs.drop i).drop 1 = l := by rw [e]; rfl
  simpa [List.drop_drop, Nat.add_comm] using this
theorem Jw.list (hq : base.q = false) {I a : Addr} {r : Nat} {xs : List AV} (hne : a ≠ I) : Jw C base (.ref I) (· = I) [(r, xs)] true
    (fun l μ h => ∃ i, h.IsListIter I a i ∧ μ[r]? = some a ∧ xs.drop i = l ∧ i ≤ xs.length) (fun l _ μ h => ∃ i, h.IsListIter I a i ∧ μ[r]? = some a ∧ xs.drop i = l ∧ i ≤ xs.length) where
  frame := fun {μ μ' h h' l} R p st => by
    refine bC fun hno => ?_
    obtain ⟨i, ⟨o, ho, hc, hd⟩, ea, e, hi⟩ := R
    refine hno ?_
    exact ⟨i, ⟨o, st ho (.inr ⟨_, hd⟩), hc, hd⟩, Bw p ea, e, hi⟩
  off := fun {env b Γ ρ μ H s l} S R {a'} j => by
    refine bC fun hno => ?_
    subst j
    obtain ⟨i, ⟨o, ho, hc, hd⟩, _⟩ := R
    refine hno ?_
    exact C4 S.hp S.er ho hd
  live := fun {μ h l} R {a'} j => by subst j; obtain ⟨i, ⟨o, ho, _⟩, _⟩ := R; exact ⟨o, ho⟩
  self := fun {μ s l A E Q} R k => by obtain ⟨i, hit, _⟩ := R; exact wpAny_pyIter_listiter hit k
  liveM := fun {μ h l u} R {a'} j => by subst j; obtain ⟨i, ⟨o, ho, _⟩, _⟩ := R; exact ⟨o, ho⟩
  item := fun {env b Γ ρ μ H s A E Q v l n} S a' hJ hw R k => by
    refine bC fun hno => ?_
    obtain ⟨i, hit, ea, e, hi⟩ := R
    have eH := hw _ (List.mem_singleton.mpr rfl)
    obtain ⟨_, a2, vs, ea2, p, q⟩ := S.hp.list eH
    rw [ea] at ea2; cases ea2
    obtain ⟨ex, el⟩ := VRs.dropCons e
    obtain ⟨u, eu, vu⟩ := q.get ex
    refine hno ?_
    refine wpAny_pyNext_list_item hit (IsList.of_plain p) (by simpa using eu) fun h' hit' hs => ?_
    have kk : ∀ {a : Addr} {o : Obj}, ¬ (a = I) → s.heap.get? a = some o → h'.get? a = some o := fun n e => (hs.2 _ n).trans e
    exact k u h' s.toks kk (vu.butJ hJ kk) ⟨i + 1, hit', ea, el, (List.getElem?_eq_some_iff.mp ex).1⟩
  plain := fun _ {μ h l u} R => R
  own := fun {μ s l a' A E Q elts x1 pos} R k => by
    refine bC fun hno => ?_
    obtain ⟨i, ⟨o, ho, hc, hd⟩, r⟩ := R
    refine hno ?_
    exact O8 ho hc hd (by decide) (k s.heap (fun _ e => e) ⟨i, ⟨o, ho, hc, hd⟩, r⟩)
  done := fun {env b Γ ρ μ H s A E Q n} S a' hJ hw R k => by
    refine bC fun hno => ?_
    obtain ⟨i, hit, ea, e, hi⟩ := R
    have eH := hw _ (List.mem_singleton.mpr rfl)
    obtain ⟨_, a2, vs, ea2, p, q⟩ := S.hp.list eH
    rw [ea] at ea2; cases ea2
    have hlen : i = xs.length := by
      have := congrArg List.length e
      simp at this; exact Nat.le_antisymm hi (Nat.le_of_sub_eq_zero this)
    refine hno ?_
    refine wpAny_pyNext_list_end (a'.handled hq) hit (IsList.of_plain p) (by simp [← q.length, hlen]) fun h' he => ?_
    exact k h' s.toks fun n e => he _ _ n e
theorem Jk {a c : Int} (h : c ≤ a) : B4 a c = [] := by unfold B4; rw [show (c - a).toNat = 0 by exact Int.toNat_eq_zero.mpr (Int.sub_nonpos_of_le h)]; rfl
theorem Jw.range (hq : base.q = false) {I : Addr} : Jw C base (.ref I) (· = I) [] true
    (fun l μ h => ∃ x left, IsRangeIter h I x left 1 ∧ B4 x (x + left) = l) (fun l _ μ h => ∃ x left, IsRangeIter h I x left 1 ∧ B4 x (x + left) = l) where
  frame := fun {μ μ' h h' l} R p st => by
    refine bC fun hno => ?_
    obtain ⟨x, left, ho, e⟩ := R
    refine hno ?_
    exact ⟨x, left, st ho (.inr ⟨_, rfl⟩), e⟩
  off := fun {env b Γ ρ μ H s l} S R {a'} j => by
    refine bC fun hno => ?_
    subst j
    obtain ⟨x, left, ho, e⟩ := R
    refine hno ?_
    exact C4 S.hp S.er ho rfl
  live := fun {μ h l} R {a'} j => by subst j; obtain ⟨x, left, ho, _⟩ := R; exact ⟨_, ho⟩
  self := fun {μ s l A E Q} R k => by obtain ⟨x, left, hit, _⟩ := R; exact wpAny_pyIter_rangeiter hit k
  liveM := fun {μ h l u} R {a'} j => by subst j; obtain ⟨x, left, ho, _⟩ := R; exact ⟨_, ho⟩
  item := fun {env b Γ ρ μ H s A E Q v l n} S a' hJ hw R k => by
    refine bC fun hno => ?_
    obtain ⟨x, left, ho, e⟩ := R
    have hlt : 0 < left := by
      rcases Int.lt_or_le 0 left with h | h
      · exact h
      · rw [Jk (by (first | lia | omega))] at e; cases e
    rw [Hl (by exact Int.lt_add_of_pos_right _ hlt)] at e
    cases e
    refine hno ?_
    refine wpAny_pyNext_range_item ho hlt fun h' hit' hs => ?_
    have kk : ∀ {a : Addr} {o : Obj}, ¬ (a = I) → s.heap.get? a = some o → h'.get? a = some o := fun n e => (hs.2 _ n).trans e
    refine k _ h' _ kk (.int _ _) ⟨x + 1, left - 1, hit', ?_⟩
    rw [show x + 1 + (left - 1) = x + left by (first | lia | omega)]
  plain := fun _ {μ h l u} R => R
  own := fun {μ s l a' A E Q elts x1 pos} R k => by
    refine bC fun hno => ?_
    obtain ⟨x, left, ho, e⟩ := R
    refine hno ?_
    exact O8 ho rfl rfl (by decide) (k s.heap (fun _ e => e) ⟨x, left, ho, e⟩)
  done := fun {env b Γ ρ μ H s A E Q n} S a' hJ hw R k => by
    refine bC fun hno => ?_
    obtain ⟨x, left, ho, e⟩ := R
    have hge : left ≤ 0 := by
      rcases Int.lt_or_le 0 left with h | h
      · rw [Hl (by exact Int.lt_add_of_pos_right _ h)] at e; cases e
      · exact h
    refine hno ?_
    refine wpAny_pyNext_range_end (a'.handled hq) ho hge fun h' he => ?_
    exact k h' s.toks fun n e => he _ _ n e
end
end Mine
namespace Mine
open PySem PySem.Calls PyProof.Rows PySem.SeqAt
section
variable (C : Cx) (T : Tab) (n b : Nat) (Γ : List Str) (S : Scope)
structure Iw (nm : Bool) (e : Expr) (d : A8 → A0 → Res (List AV × List (Nat × List AV))) : Prop where
  ok : ∀ {base : Bs} {env : Env} {ρ : A8} {μ : List Addr} {H H' : A0} {s : Shared} {A : Around} {E : Value → Shared → Prop} {Q : Value → Shared → Prop} {p : List AV × List (Nat × List AV)},
    Gnd C T base → env.scope = S → St C base b env Γ ρ μ H s → AOk base A n → d ρ H = .ok p H' →
    (∀ (it : Value) (s' : Shared) (μ' : List Addr) (J : Addr → Prop) (R : List AV → List Addr → Heap → Prop) (M : List AV → Value → List Addr → Heap → Prop), Ext env μ μ' s.heap s'.heap → (∀ {a : Addr}, J a → s.heap.get? a = none) →
      (∀ {a : Addr}, J a → base.get? a = none) → St (C.plus J) base b env Γ ρ μ' H' s' → Jw (C.plus J) base it J p.2 nm R M → R p.1 μ' s'.heap → (∀ w ∈ p.2, H'[w.1]? = some (.list w.2)) → Q it s') →
    wpAny (model C.prog C.w) A (eval e env) (fun x s₁ => wpAny (model C.prog C.w) A (pyIter x) Q E s₁) E s
end
section
variable {C : Cx} {T : Tab} {n b : Nat} {Γ : List Str} {S : Scope} {nm : Bool}
variable {base : Bs} {env : Env} {ρ : A8} {μ : List Addr} {H H' : A0} {s : Shared} {A : Around} {E : Value → Shared → Prop} {Q : Value → Shared → Prop}
theorem Ta (S : St C base b env Γ ρ μ H s) {a : Addr} (h : s.heap.get? a = none) : ¬ Own μ env a := by
  rintro (q | q | ⟨x, q⟩)
  · obtain ⟨o, e⟩ := S.hp.live q; rw [h] at e; cases e
  · subst q; obtain ⟨m, ⟨o, _, _, ho, _⟩, _⟩ := S.er.ns; rw [h] at ho; cases ho
  · obtain ⟨_, o, ho, _⟩ := S.er.cell q; rw [h] at ho; cases ho
theorem St.shut (S : St C base b env Γ ρ μ H s) (o : Obj) (hf : o.isFreed = false) : St (C.plus (· = s.heap.objs.size)) base b env Γ ρ μ H { s with heap := s.heap.push o } := by
  refine S.mapZ (· = s.heap.objs.size) (s' := { s with heap := s.heap.push o }) (fun _ e => Heap.get?_push_of_some _ e) (fun j => ?_) (fun j => ?_) (fun j => .inr ?_) (fun {a o'} e nz => ?_) (fun {a} z => ?_) rfl rfl
  · subst j; exact Ta S (Ax _)
  · subst j; exact Bq S (Ax _)
  · subst j; exact Ax _
  · rintro (q | q)
    · exact nz q
    · subst q; rw [Ax] at e; cases e
  · rcases z with q | q
    · obtain ⟨o', e⟩ := S.zl q; exact ⟨o', Heap.get?_push_of_some _ e⟩
    · subst q; exact ⟨o, Heap.get?_push_size _ hf⟩
theorem Iw.of (hq : T.q = false) {e : Expr} {d : A8 → A0 → Res (List AV × List (Nat × List AV))} {d1 : A8 → A0 → Res AV} (h : Aj C T n b Γ S e d1)
    (hd : ∀ ρ H, d ρ H = (d1 ρ H).get fun v H => (match v with
      | .ref r => (match H[r]? with | some (.list xs) => .ok (xs, [(r, xs)]) H | _ => .bad)
      | _ => .bad)) : Iw C T n b Γ S true e d := by
  refine ⟨?_⟩
  intro base env ρ μ H H' s A E Q p G hS st a ed k
  rw [hd] at ed
  obtain ⟨x, H1, e1, ed⟩ := Res.get_ok ed
  refine h.ok G hS st a e1 fun u s' μ' X S' V => ?_
  split at ed
  · split at ed
    · rename_i r _ xs ex; cases ed
      obtain ⟨c, rfl, ec⟩ := V.isRef
      obtain ⟨_, a', vs, ea', p1, q1⟩ := S'.hp.list ex
      rw [ec] at ea'; cases ea'
      have hlt : c ≠ s'.heap.objs.size := fun e => by obtain ⟨_, ho⟩ := p1; rw [e, Ax] at ho; cases ho
      refine wpAny_pyIter_list (IsList.of_plain p1) ?_
      refine k _ _ μ' (· = s'.heap.objs.size) _ _ (X.trans (Ext.push _)) (fun j => ?_) (fun j => ?_) (S'.shut _ rfl) (Jw.list (G.q.trans hq) (r := r) (xs := xs) hlt) ⟨0, ⟨_, Heap.get?_push_size _ rfl, rfl, rfl⟩, ec, rfl, Nat.zero_le _⟩ ?_
      · subst j
        cases e : s.heap.get? s'.heap.objs.size with
        | none => rfl
        | some o => obtain ⟨o', e', _⟩ := X.live.go e; rw [Ax] at e'; cases e'
      · subst j; exact Bq S' (Ax _)
      · intro w hw; simp at hw; subst hw; exact ex
    · cases ed
  · cases ed
theorem Th {i : Int} (h : inR i = true) : -1000 ≤ i ∧ i ≤ 1000 := of_decide_eq_true h
theorem Tj (hq : base.q = false) {r : Addr} {x y : Int} {t u v : Tok} {ws : List (Nat × List AV)} {s0 : Shared} {μ0 : List Addr} (st : St C base b env Γ ρ μ H s) (hr : IsRange s.heap r x y 1 t u v) (hx : inR x = true) (hy : inR y = true) (X : Ext env μ0 μ s0.heap s.heap)
    (k : ∀ (it : Value) (s' : Shared) (μ' : List Addr) (J : Addr → Prop) (R : List AV → List Addr → Heap → Prop) (M : List AV → Value → List Addr → Heap → Prop), Ext env μ0 μ' s0.heap s'.heap → (∀ {a : Addr}, J a → s0.heap.get? a = none) →
      (∀ {a : Addr}, J a → base.get? a = none) → St (C.plus J) base b env Γ ρ μ' H s' → Jw (C.plus J) base it J [] true R M → R (B4 x y) μ' s'.heap → (∀ w ∈ ([] : List (Nat × List AV)), H[w.1]? = some (.list w.2)) → Q it s') :
    wpAny (model C.prog C.w) A (pyIter (.ref r)) Q E s := by
  have hx' := Th hx
  have hy' := Th hy
  refine wpAny_pyIter_range hr (small_one (Int.le_trans (by decide) hx'.1) (Int.lt_of_le_of_lt hx'.2 (by decide)) (Int.le_trans (by decide) hy'.1) (Int.lt_of_le_of_lt hy'.2 (by decide))) ?_
  refine k _ _ μ (· = s.heap.objs.size) _ _ (X.trans (Ext.push _)) (fun j => ?_) (fun j => ?_) (st.shut _ rfl) (Jw.range hq) ⟨x, Builtin.Range.rangeSize x y 1, Heap.get?_push_size _ rfl, ?_⟩ (by simp)
  · subst j
    cases e : s0.heap.get? s.heap.objs.size with
    | none => rfl
    | some o => obtain ⟨o', e', _⟩ := X.live.go e; rw [Ax] at e'; cases e'
  · subst j; exact Bq st (Ax _)
  · rw [rangeSize_one]
    split
    · rw [show x + (y - x) = y by exact (Int.add_comm _ _).trans (Int.sub_add_cancel _ _)]
    · rw [Jk (by exact A9u (Int.add_zero _) (Int.le_refl _)), Jk (by exact Abr (by assumption))]
theorem Iw.range1 (hq : T.q = false) {f : Str} {e : Expr} {np pos : Pos} {d : A8 → A0 → Res (List AV × List (Nat × List AV))} {d1 : A8 → A0 → Res AV} (hf : Cy.lookup f = some (.type "range")) (hg : Ao S f = true) (hn : Am e = true) (h : Aj C T n b Γ S e d1)
    (hd : ∀ ρ H, d ρ H = (d1 ρ H).get fun v H => (match v with | .int k => if inR k then .ok (B4 0 k, []) H else .bad | _ => .bad)) : Iw C T n b Γ S true (.Call (.Name f np) [e] [] pos) d := by
  refine ⟨?_⟩
  intro base env ρ μ H H' s A E Q p G hS st a ed k
  rw [hd] at ed
  obtain ⟨x, H1, e1, ed⟩ := Res.get_ok ed
  split at ed
  · rename_i j _
    split at ed
    · rename_i hr; cases ed
      refine wpAny_Call_ofName (Bv G hS st hg hf ?_)
      refine PySem.callWith_type (Dc (by simp only [List.all_cons, hn]; rfl)) (Cb hn (wpAny_items_cons (h.ok G hS st a e1 fun u s' μ' X S' V => wpAny_items_nil ?_) (An hn)))
      obtain ⟨t, rfl⟩ := V.isInt
      refine call_range_1 ?_
      exact Tj (G.q.trans hq) (ws := []) ((S'.tok (s'.toks + 1 + 1)).push _) (IsRange.new _ _ _ _ _ _ _) (by decide) hr (X.trans (Ext.push _)) fun it s'' μ'' J R M X2 h1 h2 h3 h4 h5 h6 => k it s'' μ'' J R M X2 h1 h2 h3 h4 h5 h6
    · cases ed
  · cases ed
theorem Iw.range2 (hq : T.q = false) {f : Str} {e1 e2 : Expr} {np pos : Pos} {d : A8 → A0 → Res (List AV × List (Nat × List AV))} {d1 d2 : A8 → A0 → Res AV} (hf : Cy.lookup f = some (.type "range")) (hg : Ao S f = true) (hn1 : Am e1 = true) (hn2 : Am e2 = true)
    (h1 : Aj C T n b Γ S e1 d1) (h2 : Aj C T n b Γ S e2 d2)
    (hd : ∀ ρ H, d ρ H = (d1 ρ H).get fun v H => (d2 ρ H).get fun w H => (match v, w with | .int j, .int k => if inR j ∧ inR k then .ok (B4 j k, []) H else .bad | _, _ => .bad)) : Iw C T n b Γ S true (.Call (.Name f np) [e1, e2] [] pos) d := by
  refine ⟨?_⟩
  intro base env ρ μ H H' s A E Q p G hS st a ed k
  refine bC fun hno => ?_
  rw [hd] at ed
  obtain ⟨x, H1, ex, ed⟩ := Res.get_ok ed
  obtain ⟨y, H2, ey, ed⟩ := Res.get_ok ed
  refine hno ?_
  split at ed
  · rename_i i j
    split at ed
    · rename_i hr; cases ed
      refine wpAny_Call_ofName (Bv G hS st hg hf ?_)
      refine PySem.callWith_type (Dc (by simp only [List.all_cons, hn1, hn2]; rfl)) (Cb hn1 (wpAny_items_cons (h1.ok G hS st a ex fun u s1 μ1 X1 S1 V1 =>
        wpAny_items_cons (h2.ok G hS S1 a ey fun w s' μ' X S' V => wpAny_items_nil ?_) (An hn2)) (An hn1)))
      obtain ⟨t, rfl⟩ := V1.isInt
      obtain ⟨t', rfl⟩ := V.isInt
      refine call_range_2 ?_
      exact Tj (G.q.trans hq) (ws := []) ((S'.tok (s'.toks + 1)).push _) (IsRange.new _ _ _ _ _ _ _) hr.1 hr.2 ((X1.trans X).trans (Ext.push _)) fun it s'' μ'' J R M X2 h1 h2 h3 h4 h5 h6 => k it s'' μ'' J R M X2 h1 h2 h3 h4 h5 h6
    · cases ed
  · cases ed
end
end Mine
namespace Mine
open PySem PySem.Calls PyProof.Rows PySem.SeqAt
noncomputable def Ey (C : Cx) (base : Bs) (b : Nat) (env : Env) (Γ : List Str) (μ : List Addr) (s : Shared) (r : SR) (Q : Flow → Shared → Prop) (E : Value → Shared → Prop) : Prop := match r with
  | .next ρ' H' => ∀ s' μ', Ext env μ μ' s.heap s'.heap → St C base b env Γ ρ' μ' H' s' → Q .next s'
  | .ret v H' => ∀ u s' μ', Ext env μ μ' s.heap s'.heap → St C base b env Γ [] μ' H' s' → VR C μ' s'.heap v u → Q (.ret u) s'
  | .exc c H' => J6 C base b env Γ [] μ s c H' E
  | .bad => False
section
variable (C : Cx) (T : Tab) (n b : Nat) (Γ : List Str) (S : Scope)
structure Fn (base : Bs) (env : Env) (S : Scope) : Prop where
  sc : env.scope = S
  top : A56 base env
structure SOk (st : Stmt) (d : A8 → A0 → SR) : Prop where
  ok : ∀ {base : Bs} {env : Env} {ρ : A8} {μ : List Addr} {H : A0} {s : Shared} {A : Around} {E : Value → Shared → Prop} {Q : Flow → Shared → Prop},
    Gnd C T base → Fn base env S → St C base b env Γ ρ μ H s → AOk base A n → Ey C base b env Γ μ s (d ρ H) Q E → wpAny (model C.prog C.w) A (exec st env) Q E s
structure Ff (ss : List Stmt) (d : A8 → A0 → SR) : Prop where
  ok : ∀ {base : Bs} {env : Env} {ρ : A8} {μ : List Addr} {H : A0} {s : Shared} {A : Around} {E : Value → Shared → Prop} {Q : Flow → Shared → Prop},
    Gnd C T base → Fn base env S → St C base b env Γ ρ μ H s → AOk base A n → Ey C base b env Γ μ s (d ρ H) Q E → wpAny (model C.prog C.w) A (execs ss env) Q E s
end
section
variable {C : Cx} {T : Tab} {n b : Nat} {Γ : List Str} {S : Scope} {nm : Bool}
variable {base : Bs} {env : Env} {ρ : A8} {μ μ' : List Addr} {H H' : A0} {s s' : Shared} {A : Around} {E : Value → Shared → Prop} {Q : Flow → Shared → Prop}
theorem Ee.forget {h : Heap} (N : Ee C μ h env Γ ρ) : Ee C μ h env Γ [] where
  kind := N.kind
  ns := let ⟨m, nm, _⟩ := N.ns; ⟨m, nm, fun _ _ e => by simp at e⟩
  cells := fun k => let ⟨c, o, e, hc, _⟩ := N.cells k; ⟨c, o, e, hc, fun _ e => by simp at e⟩
  cell := N.cell
  inj := N.inj
  globals := N.globals
  builtins := N.builtins
theorem St.forget (S : St C base b env Γ ρ μ H s) : St C base b env Γ [] μ H s := ⟨S.keep, S.hp, S.er.forget, S.fresh, S.noloc, S.lm, S.nocell, S.gens, S.os, S.zl, S.ff⟩
theorem Ey.trans {r : SR} (X : Ext env μ μ' s.heap s'.heap) (k : Ey C base b env Γ μ s r Q E) : Ey C base b env Γ μ' s' r Q E := by
  cases r with
  | next ρ' H' => exact fun s'' μ'' X' S' => k s'' μ'' (X.trans X') S'
  | ret v H' => exact fun u s'' μ'' X' S' V => k u s'' μ'' (X.trans X') S' V
  | exc c H' => exact J6.after X k
  | bad => exact k
theorem Ff.nilS {d : A8 → A0 → SR} (hd : ∀ ρ H, d ρ H = .next ρ H) : Ff C T n b Γ S [] d := by
  refine ⟨?_⟩
  intro base env ρ μ H s A E Q G hS st a k
  rw [hd] at k
  exact wpAny_execs_nil (k _ _ .refl st)
theorem Ff.badS {ss : List Stmt} {d : A8 → A0 → SR} (hd : ∀ ρ H, d ρ H = .bad) : Ff C T n b Γ S ss d := by
  refine ⟨?_⟩
  intro base env ρ μ H s A E Q G hS st a k
  rw [hd] at k
  exact k.elim
theorem Ff.consS {st : Stmt} {ss : List Stmt} {d d1 d2 : A8 → A0 → SR} (h1 : SOk C T n b Γ S st d1) (h2 : Ff C T n b Γ S ss d2)
    (hd : ∀ ρ H, d ρ H = (match d1 ρ H with | .next ρ H => d2 ρ H | r => r)) : Ff C T n b Γ S (st :: ss) d := by
  refine ⟨?_⟩
  intro base env ρ μ H s A E Q G hS st a k
  rw [hd] at k
  refine wpAny_execs_cons (h1.ok G hS st a ?_)
  cases e : d1 ρ H with
  | next ρ' H' => rw [e] at k; exact fun s' μ' X S' => h2.ok G hS S' a (k.trans X)
  | ret v H' => rw [e] at k; exact fun u s' μ' X S' V => k u s' μ' X S' V
  | exc c H' => rw [e] at k; exact k
  | bad => rw [e] at k; exact k
theorem P6 {v t : Expr} {l : Nat} (h : Gg v = true) : swapsWith v (some t) l env = pure false := by
  cases v <;> first | rfl | cases h
theorem SOk.assignN {x : Str} {i : Nat} {v : Expr} {px pos : Pos} {d : A8 → A0 → SR} {d1 : A8 → A0 → Res AV} (hx : slot Γ x = some i) (hk : B2 S x = true) (hv : Gg v = true) (h : Aj C T n b Γ S v d1)
    (hd : ∀ ρ H, d ρ H = (match d1 ρ H with | .ok v H => .next (ρ.set i (some v)) H | _ => .bad)) : SOk C T n b Γ S (.Assign [.Name x px] v pos) d := by
  refine ⟨?_⟩
  intro base env ρ μ H s A E Q G hS st a k
  rw [hd] at k
  cases e : d1 ρ H with
  | ok w H1 =>
    rw [e] at k
    refine wpAny_Assign_Name (h.ok G hS.sc st a e fun u s' μ' X S' V => ?_) (P6 hv)
    have hk' : env.kindOf x = some .local ∨ env.kindOf x = some .cell := by
      unfold B2 at hk; rw [← hS.sc] at hk
      simpa [Bf, Env.kindOf] using hk
    exact S'.bind hx hk' V fun s'' S'' X' => k s'' μ' (X.trans X') S''
  | exc c H1 => rw [e] at k; exact k.elim
  | bad => rw [e] at k; exact k.elim
theorem SOk.ite {t : Expr} {body els : List Stmt} {pos : Pos} {d d1 d2 : A8 → A0 → SR} {dt : A8 → A0 → Res Bool} (ht : Gx C T n b Γ S t dt) (h1 : Ff C T n b Γ S body d1) (h2 : Ff C T n b Γ S els d2)
    (hd : ∀ ρ H, d ρ H = (match dt ρ H with | .ok true H => d1 ρ H | .ok false H => d2 ρ H | _ => .bad)) : SOk C T n b Γ S (.If t body els pos) d := by
  refine ⟨?_⟩
  intro base env ρ μ H s A E Q G hS st a k
  rw [hd] at k
  cases e : dt ρ H with
  | ok c H1 =>
    rw [e] at k
    refine wpAny_If (ht.ok G hS.sc st a e fun s' μ' X S' => ?_)
    cases c with
    | true => simp only [if_true]; exact h1.ok G hS S' a (Ey.trans X k)
    | false => simp only [Bool.false_eq_true, if_false]; exact h2.ok G hS S' a (Ey.trans X k)
  | exc c H1 => rw [e] at k; exact k.elim
  | bad => rw [e] at k; exact k.elim
theorem SOk.ret {v : Expr} {pos : Pos} {d : A8 → A0 → SR} {d1 : A8 → A0 → Res AV} {r : Bool} (h : Aj C T n b Γ S v d1) (hx : r = true → XOk C T n b Γ S v d1) (hd : ∀ ρ H, d ρ H = (match d1 ρ H with | .ok v H => .ret v H | .exc c H => Rv r c H | .bad => .bad)) : SOk C T n b Γ S (.Return (some v) pos) d := by
  refine ⟨?_⟩
  intro base env ρ μ H s A E Q G hS st a k
  rw [hd] at k
  cases e : d1 ρ H with
  | ok w H1 => rw [e] at k; exact wpAny_Return_some (h.ok G hS.sc st a e fun u s' μ' X S' V => k u s' μ' X S'.forget V)
  | exc c H1 =>
    rw [e] at k
    cases r with
    | true => exact wpAny_Return_some ((hx rfl).ok G hS.sc st a e fun u s' μ' X S' ek x => k u s' μ' X S'.forget ek x)
    | false => exact k.elim
  | bad => rw [e] at k; exact k.elim
theorem SOk.expr {v : Expr} {pos : Pos} {d : A8 → A0 → SR} {d1 : A8 → A0 → Res AV} {r : Bool} (hv : Gg v = true) (h : Aj C T n b Γ S v d1) (hx : r = true → XOk C T n b Γ S v d1) (hd : ∀ ρ H, d ρ H = (match d1 ρ H with | .ok _ H => .next ρ H | .exc c H => Rv r c H | .bad => .bad)) : SOk C T n b Γ S (.Expr v pos) d := by
  refine ⟨?_⟩
  intro base env ρ μ H s A E Q G hS st a k
  rw [hd] at k
  cases e : d1 ρ H with
  | ok w H1 =>
    rw [e] at k
    refine wpAny_Expr_any (h.ok G hS.sc st a e fun u s' μ' X S' V => k s' μ' X S') ?_ ?_
    · unfold interactive; rw [st.er.kind]; rfl
    · cases v <;> first | rfl | cases hv
  | exc c H1 =>
    rw [e] at k
    cases r with
    | true =>
      refine wpAny_Expr_any ((hx rfl).ok G hS.sc st a e fun u s' μ' X S' ek x => k u s' μ' X S'.forget ek x) ?_ ?_
      · unfold interactive; rw [st.er.kind]; rfl
      · cases v <;> first | rfl | cases hv
    | false => exact k.elim
  | bad => rw [e] at k; exact k.elim
theorem SOk.whl {t : Expr} {body : List Stmt} {pos : Pos} {m : Nat} {d db : A8 → A0 → SR} {dt : A8 → A0 → Res Bool} (ht : Gx C T n b Γ S t dt) (hb : Ff C T n b Γ S body db)
    (hd : ∀ ρ H, d ρ H = Gc dt db m ρ H) : SOk C T n b Γ S (.While t body [] pos) d := by
  refine ⟨?_⟩
  intro base env ρ μ H s A E Q G hS st a k
  rw [hd] at k
  refine wpAny_While (codeAny_whileLoop (fun j s' => ∃ ρ' μ' H', St C base b env Γ ρ' μ' H' s' ∧ Ext env μ μ' s.heap s'.heap ∧ Ey C base b env Γ μ s (Gc dt db j ρ' H') Q E) ?_ m ⟨ρ, μ, H, st, .refl, k⟩)
  rintro j s1 ⟨ρ1, μ1, H1, S1, X1, k1⟩
  cases j with
  | zero => exact k1.elim
  | succ j =>
    unfold Gc at k1
    cases e : dt ρ1 H1 with
    | ok c H2 =>
      rw [e] at k1
      refine ht.ok G hS.sc S1 a e fun s2 μ2 X2 S2 => ?_
      cases c with
      | false =>
        simp only [Bool.false_eq_true, if_false]
        exact wpAny_execs_nil (k1 s2 μ2 (X1.trans X2) S2)
      | true =>
        simp only [if_true]
        refine hb.ok G hS S2 a ?_
        cases e' : db ρ1 H2 with
        | next ρ3 H3 => simp only [e'] at k1; exact fun s3 μ3 X3 S3 => ⟨j, Nat.lt_succ_self _, ρ3, μ3, H3, S3, (X1.trans X2).trans X3, k1⟩
        | ret v H3 => simp only [e'] at k1; exact fun u s3 μ3 X3 S3 V => k1 u s3 μ3 ((X1.trans X2).trans X3) S3 V
        | exc c H3 => simp only [e'] at k1; exact fun u s3 μ3 X3 S3 ek x => Wy hS.top a st S3 ((X1.trans X2).trans X3) (x.back (X1.trans X2).live) fun s4 S4 X4 x4 => k1 u s4 μ3 X4 S4 ek x4
        | bad => simp only [e'] at k1; exact k1.elim
    | exc c H2 => rw [e] at k1; exact k1.elim
    | bad => rw [e] at k1; exact k1.elim
end
end Mine
namespace Mine
open PySem PySem.Calls PyProof.Rows PySem.SeqAt
section
variable {prog : Program} {w : World} {A : Around} {E : Value → Shared → Prop} {h : Heap} {g : Array GenState} {d : Drawn} {t : Nat} {os : OsState} {a : Addr} {o : Obj}
variable {nm q : Str} {C N : Addr} {bs bm : List Value} {hdct : Bool} {sn : List Str} {sub : List Value} {ab : Bool} {col : Option Bool} {dd : Option Addr} {k0 k1 k2 k3 k5 : Option Value} {newId : String} {mN : Str → Option Value}
theorem A8t : mroOf (.type "ValueError") = pure E4 := F.attrBase_ValueError.mro
theorem A1j : typeLookup (.type "ValueError") "__class__" = pure (some (.builtin "object.__class__")) := by rw [typeLookup_type, builtinLookup_eq_fast]; kernel_rfl
theorem R0 {tl : List Value} {Q : Option Value → Shared → Prop} {M : Model} (T : E2 h tl) (hC : h.get? C = some (excClassObj nm q C N bs tl hdct sn sub ab col dd k0 k1 k2 k3 k5 newId)) (hN : h.Ns N mN) (hcl : mN "__class__" = none)
    (hq : Q (some (.builtin "object.__class__")) ⟨h, g, d, t, os⟩) : wpAny M A (typeLookup (.ref C) "__class__") Q E ⟨h, g, d, t, os⟩ := by
  have hrest : lookupAlong E4 "__class__" = pure (some (.builtin "object.__class__")) := by
    have := A1j
    rw [typeLookup_eq, A8t] at this; exact this
  rw [typeLookup_eq]
  refine wpAny_bind (wpAny_mroOf_exc hC ?_)
  rw [lookupAlong_cons]
  refine wpAny_bind (wpAny_classOwn_exc hC hN ?_)
  rw [hcl]
  cases T with
  | base => show wpAny M A (lookupAlong E4 "__class__") Q E _; rw [hrest]; exact wpAny_pure hq
  | own x e =>
    obtain ⟨N', nm', q', bs', hdct', sn', sub', ab', col', dd', k0', k1', k2', k3', k5', mN', hC', hN', hq', hcl'⟩ := x
    subst e
    show wpAny M A (lookupAlong (_ :: E4) "__class__") Q E _
    rw [lookupAlong_cons]
    refine wpAny_bind (wpAny_classOwn_exc hC' hN' ?_)
    rw [hcl']
    show wpAny M A (lookupAlong E4 "__class__") Q E _
    rw [hrest]; exact wpAny_pure hq
theorem P1 {tl : List Value} {R : Result → Shared → Prop} (T : E2 h tl) (hC : h.get? C = some (excClassObj nm q C N bs tl hdct sn sub ab col dd k0 k1 k2 k3 k5 newId)) (hx : h.get? a = some o) (hc : o.cls = .ref C) (hq : R (.ok (.ret (.ref C))) ⟨h, g, d, t, os⟩) :
    codeAny (model prog w) A (.call (.builtin "getset_descriptor.__get__") ⟨[.builtin "object.__class__", .ref a, .ref C], []⟩) R ⟨h, g, d, t, os⟩ := by
  have hT5 : (⟨h, g, d, t, os⟩ : Shared).TypeIs (.builtin "object.__class__") "getset_descriptor" := F.typeOf_object_class
  have hob : E4.contains (.type "object") = true := by unfold E4; decide +kernel
  have hcB : (Value.ref C :: tl).contains (.type (".".intercalate ("object.__class__".cutAt '.').dropLast)) = true := by
    rw [F.owner_object_class, List.contains_cons, T.tailQ.tail.hasType hob]; rfl
  refine codeAny_call_builtin F.slot_gs_get.plain F.entry_gs_get (F.slot_gs_get.check _ _ _ _ _ _ _ _ hT5 (F.args_gs_get _ _ _) ?_)
  repeat (any_goals (first | assumption | (with_reducible refine wpAny_loadPart_at hx ?_; rw [hc]) | (with_reducible refine wpAny_isSubtype_exc hC ?_; rw [hcB]) | wp_step))
  refine ⟨Code.quiet_builtin _ (by decide +kernel), codeAny_builtin F.entry_object_class ?_⟩
  repeat (any_goals (first | assumption | (with_reducible refine wpAny_loadPart_at hx ?_; rw [hc]) | wp_step))
theorem Lr {tl : List Value} {tk : Tok} {Q : Fin → Shared → Prop} (T : E2 h tl) (hC : h.get? C = some (excClassObj nm q C N bs tl hdct sn sub ab col dd k0 k1 k2 k3 k5 newId)) (hN : h.Ns N mN) (hcl : mN "__class__" = none)
    (hx : h.get? a = some o) (hc : o.cls = .ref C) (hq : Q (.done (.ret (.ref C))) ⟨h, g, d, t, os⟩) :
    wpAny (model prog w) A (Builtin.«object.__getattribute__» ⟨[.ref a, .str "__class__" tk], []⟩) Q E ⟨h, g, d, t, os⟩ := by
  have hT5 : (⟨h, g, d, t, os⟩ : Shared).TypeIs (.builtin "object.__class__") "getset_descriptor" := F.typeOf_object_class
  have f5 := F.typeOf_object_class
  have f6 := F.slot_gs_get.lookup
  have f7 := F.slot_gs_set.lookup
  repeat (any_goals (first | assumption | (with_reducible refine wpAny_loadPart_at hx ?_; rw [hc]) | with_reducible refine R0 T hC hN hcl ?_ | wp_step))
  refine P1 T hC hx hc ?_
  repeat (any_goals (first | assumption | wp_step))
theorem Rg {tl : List Value} {tk : Tok} {Q : Value → Shared → Prop} (T : E2 h tl) (hC : h.get? C = some (excClassObj nm q C N bs tl hdct sn sub ab col dd k0 k1 k2 k3 k5 newId)) (hN : h.Ns N mN) (hmN : ∀ n ∈ quietNames, mN n = none) (hcl : mN "__class__" = none)
    (hx : h.get? a = some o) (hc : o.cls = .ref C) (hq : Q (.ref C) ⟨h, g, d, t, os⟩) : wpAny (model prog w) A (getAttrBy (.ref a) (.str "__class__" tk) false) Q E ⟨h, g, d, t, os⟩ := by
  have FB := F.attrBase_ValueError
  have f3 := FB.ga.bind (.ref a)
  have hx2 : (Value.builtin "BaseException.__getattribute__" == Value.builtin "object.__getattribute__") = false := by decide +kernel
  have hx1 : (onTheHeap (Value.ref C) && Value.builtin "BaseException.__getattribute__" == Value.builtin "object.__getattribute__") = false := by rw [hx2]; rfl
  have hm1 : ("__getattribute__" : Str) ∈ quietNames := .tail _ (.head _)
  have hm2 : ("__getattr__" : Str) ∈ quietNames := .tail _ (.tail _ (.head _))
  repeat (any_goals (first | assumption | (with_reducible refine wpAny_loadPart_at hx ?_; rw [hc]) | with_reducible refine wpAny_typeLookup_tailQ hm1 hC hN hmN T.tailQ FB.mro FB.ga.lookup ?_ | with_reducible refine wpAny_typeLookup_tailQ hm2 hC hN hmN T.tailQ FB.mro FB.noGetattr ?_ | wp_step))
  refine codeAny_call_builtin FB.ga.plain F.entry_bexc_ga (wpAny_check_ga_own FB hC T.tailQ hx hc (Lr T hC hN hcl hx hc ?_))
  repeat (any_goals (first | assumption | wp_step))
theorem Oj {tl : List Value} {Q : Option Value → Shared → Prop} (T : E2 h tl) (hC : h.get? C = some (excClassObj nm q C N bs tl hdct sn sub ab col dd k0 k1 k2 k3 k5 newId)) (hN : h.Ns N mN) (hmN : ∀ n ∈ quietNames, mN n = none) (hcl : mN "__class__" = none)
    (hx : h.get? a = some o) (hc : o.cls = .ref C) (hq : Q (some (.ref C)) ⟨h, g, d, t + 1, os⟩) : wpAny (model prog w) A (getAttr? (.ref a) "__class__") Q E ⟨h, g, d, t, os⟩ := by
  unfold getAttr? getAttrBy?
  repeat (any_goals (first | assumption | with_reducible apply Rg T hC hN hmN hcl hx hc | wp_step))
end
end Mine
namespace Mine
open PySem PySem.Calls PyProof.Rows PySem.SeqAt
section
variable {prog : Program} {w : World} {A : Around} {E : Value → Shared → Prop} {h : Heap} {g : Array GenState} {d : Drawn} {t : Nat} {os : OsState} {a : Addr} {o : Obj}
variable {nm q : Str} {C N : Addr} {bs bm : List Value} {hdct : Bool} {sn : List Str} {sub : List Value} {ab : Bool} {col : Option Bool} {dd : Option Addr} {k0 k1 k2 k3 k5 : Option Value} {newId : String} {mN : Str → Option Value}
variable {nm' q' : Str} {C' N' : Addr} {bs' bm' : List Value} {hdct' : Bool} {sn' : List Str} {sub' : List Value} {ab' : Bool} {col' : Option Bool} {dd' : Option Addr} {k0' k1' k2' k3' k5' : Option Value} {newId' : String}
theorem A0d {dep : Int} {tk : Tok} {Q : Fin → Shared → Prop} (hx : h.get? a = some o) (hc : o.cls = .ref C) (hq : Q (.done (.ret (.bool true))) ⟨h, g, d, t, os⟩) :
    wpAny (model prog w) A (Builtin.«isinstance.nested» ⟨[.ref a, .ref C, .int dep tk], []⟩) Q E ⟨h, g, d, t, os⟩ := by
  have hs : (Value.ref C == Value.ref C) = true := beq_self_eq_true _
  repeat (any_goals (first | assumption | (with_reducible refine wpAny_loadPart_at hx ?_; rw [hc]) | wp_step))
theorem A6g {tl : List Value} {dep : Int} {tk : Tok} {Q : Fin → Shared → Prop} (hC : h.get? C = some (excClassObj nm q C N bs tl hdct sn sub ab col dd k0 k1 k2 k3 k5 newId)) (hX : h.get? C' = some (excClassObj nm' q' C' N' bs' bm' hdct' sn' sub' ab' col' dd' k0' k1' k2' k3' k5' newId'))
    (hx : h.get? a = some o) (hc : o.cls = .ref C) (hne : (Value.ref C == Value.ref C') = false) (hin : (Value.ref C :: tl).contains (.ref C') = true) (hq : Q (.done (.ret (.bool true))) ⟨h, g, d, t, os⟩) :
    wpAny (model prog w) A (Builtin.«isinstance.nested» ⟨[.ref a, .ref C', .int dep tk], []⟩) Q E ⟨h, g, d, t, os⟩ := by
  repeat (any_goals (first | assumption | (with_reducible refine wpAny_loadPart_at hx ?_; rw [hc]) | with_reducible refine wpAny_loadPart_at hX ?_ | (with_reducible refine wpAny_isSubtype_exc hC ?_; rw [hin]) | wp_step))
theorem A66 {tl : List Value} {dep : Int} {tk : Tok} {Q : Fin → Shared → Prop} (T : E2 h tl) (hC : h.get? C = some (excClassObj nm q C N bs tl hdct sn sub ab col dd k0 k1 k2 k3 k5 newId)) (hN : h.Ns N mN) (hmN : ∀ n ∈ quietNames, mN n = none) (hcl : mN "__class__" = none)
    (hX : h.get? C' = some (excClassObj nm' q' C' N' bs' bm' hdct' sn' sub' ab' col' dd' k0' k1' k2' k3' k5' newId'))
    (hx : h.get? a = some o) (hc : o.cls = .ref C) (hne : (Value.ref C == Value.ref C') = false) (hin : (Value.ref C :: tl).contains (.ref C') = false) (hq : Q (.done (.ret (.bool false))) ⟨h, g, d, t + 1, os⟩) :
    wpAny (model prog w) A (Builtin.«isinstance.nested» ⟨[.ref a, .ref C', .int dep tk], []⟩) Q E ⟨h, g, d, t, os⟩ := by
  repeat (any_goals (first | assumption | (with_reducible refine wpAny_loadPart_at hx ?_; rw [hc]) | with_reducible refine wpAny_loadPart_at hX ?_ | with_reducible refine wpAny_loadPart_at hC ?_ | (with_reducible refine wpAny_isSubtype_exc hC ?_; rw [hin]) | with_reducible apply Oj T hC hN hmN hcl hx hc | wp_step))
theorem A80 {tl : List Value} {dep : Int} {tk : Tok} {Q : Fin → Shared → Prop} (T : E2 h tl) (hC : h.get? C = some (excClassObj nm q C N bs tl hdct sn sub ab col dd k0 k1 k2 k3 k5 newId))
    (hx : h.get? a = some o) (hc : o.cls = .ref C) (hq : Q (.done (.ret (.bool true))) ⟨h, g, d, t, os⟩) :
    wpAny (model prog w) A (Builtin.«isinstance.nested» ⟨[.ref a, .type "ValueError", .int dep tk], []⟩) Q E ⟨h, g, d, t, os⟩ := by
  have hne : (Value.ref C == Value.type "ValueError") = false := by rfl
  have hob : E4.contains (.type "ValueError") = true := by unfold E4; decide +kernel
  have hin : (Value.ref C :: tl).contains (.type "ValueError") = true := by rw [List.contains_cons, T.tailQ.tail.hasType hob]; rfl
  have hty : typeOf (.type "ValueError") = pure (.type "type") := by first | rfl | kernel_rfl
  repeat (any_goals (first | assumption | (with_reducible refine wpAny_loadPart_at hx ?_; rw [hc]) | (with_reducible refine wpAny_isSubtype_exc hC ?_; rw [hin]) | wp_step))
end
end Mine
namespace Mine
open PySem PySem.Calls PyProof.Rows PySem.SeqAt
section
variable {C : Cx} {T : Tab} {n b : Nat} {Γ : List Str} {S : Scope} {strF : Bi}
variable {base : Bs} {env : Env} {ρ : A8} {μ : List Addr} {H H' : A0} {s : Shared} {A : Around} {E : Value → Shared → Prop} {Q : Value → Shared → Prop}
theorem Wn {d c : Nat} {x y : Str} {Cd Cc : Addr} {tl : List Value} {g : Heap} (G : Tu C T g) (hd : T.excs.lookup d = some x) (hc : T.excs.lookup c = some y) (ed : C.ea d = .ref Cd) (ec : C.ea c = .ref Cc) (et : tl = (if d = 0 then E4 else C.ea 0 :: E4)) :
    (Value.ref Cd :: tl).contains (.ref Cc) = (decide (d = c) || decide (c = 0)) := by
  have h0 : E4.contains (.ref Cc) = false := rfl
  obtain ⟨z, hz⟩ := G.has0 hd
  have ne : ∀ {k : Nat} {v : Str} {Ck : Addr}, T.excs.lookup k = some v → C.ea k = .ref Ck → ((Value.ref Cc == Value.ref Ck) = decide (k = c)) := fun {k v Ck} hk ek => by
    by_cases q : k = c
    · subst q; rw [ec] at ek; cases ek; simp
    · rw [decide_eq_false q]
      refine Bool.eq_false_iff.mpr fun e => q ?_
      have := beq_iff_eq.mp e
      exact G.inj hk hc (by rw [ek, ec, this])
  rw [List.contains_cons, ne hd ed, et]
  by_cases q : d = 0
  · rw [if_pos q, h0, Bool.or_false]
    subst q
    by_cases q : 0 = c
    · simp [q]
    · rw [decide_eq_false q, decide_eq_false fun e => q e.symm]; rfl
  · rw [if_neg q]
    obtain ⟨C0, _, _, e0, _⟩ := G.cls hz
    rw [e0, List.contains_cons, ne hz e0, h0, Bool.or_false]
    congr 1
    by_cases q : c = 0
    · subst q; rfl
    · rw [decide_eq_false q, decide_eq_false fun e => q e.symm]
theorem A1k {c d : Nat} {y : Str} {u v : Value} (G : Gnd C T base) (st : St C base b env Γ ρ μ H s) (V : VR C μ s.heap (.exc d) u) (hc : T.excs.lookup c = some y) (ev : C.mg y = some v) (k : B6 C base b env Γ ρ μ s (.bool (decide (d = c) || decide (c = 0))) H Q) :
    wpAny (model C.prog C.w) A (call (.builtin "isinstance") [u, v]) Q E s := by
  cases V with
  | exc ek ho nz hcls hd =>
    rename_i a o
    refine bC fun hno => ?_
    obtain ⟨x, hx⟩ := G.exg.eo.mp ek
    obtain ⟨Cd, tl, _, ed, XD, TD, et⟩ := G.exg.cls hx
    obtain ⟨Cc, tlc, ec', ec, XC, _, _⟩ := G.exg.cls hc
    rw [ev] at ec'; cases ec'
    have hm := Wn G.exg hx hc ed ec et
    have kg : ∀ b o, base.g.get? b = some o → s.heap.get? b = some o := fun _ _ => st.kg
    have fin : ∀ tk, Q (.bool (decide (d = c) || decide (c = 0))) { s with toks := tk } := fun tk => k _ _ μ .refl (st.tok tk) (.bool _)
    rw [ed] at hcls
    refine hno ?_
    refine call_isinstance (S := fun _ R s' => s' = s ∧ ∀ tk, R (.ok (.ret (.bool (decide (d = c) || decide (c = 0))))) { s with toks := tk }) (fun _ _ _ _ s' hs => ?_) ⟨rfl, fin⟩
    obtain ⟨rfl, hs⟩ := hs
    refine isinstance_outer ?_ (by intro q; cases q)
    obtain ⟨N, nm, q, bs, hdct, sn, sub, ab, col, dd, k0, k1, k2, k3, k5, mN, hC, hN, hq, hcl⟩ := XD.keeps kg
    obtain ⟨N', nm', q', bs', hdct', sn', sub', ab', col', dd', k0', k1', k2', k3', k5', mN', hC', hN', hq', hcl'⟩ := XC.keeps kg
    have TK := TD.keeps kg
    obtain ⟨h, g, dr, t, os⟩ := s'
    by_cases e : d = c
    · subst e
      rw [ed] at ec; cases ec
      refine A0d ho hcls ?_
      have := hs t
      simpa using this
    · have hne : (Value.ref Cd == Value.ref Cc) = false := Bool.eq_false_iff.mpr fun q => e (G.exg.inj hx hc (by rw [ed, ec, beq_iff_eq.mp q]))
      cases hb : (decide (d = c) || decide (c = 0)) with
      | true =>
        rw [hb] at hm hs
        exact A6g hC hC' ho hcls hne hm (hs t)
      | false =>
        rw [hb] at hm hs
        exact A66 TK hC hN hq hcl hC' ho hcls hne hm (hs (t + 1))
theorem A5l {d : Nat} {u : Value} (G : Gnd C T base) (st : St C base b env Γ ρ μ H s) (V : VR C μ s.heap (.exc d) u) (k : B6 C base b env Γ ρ μ s (.bool true) H Q) :
    wpAny (model C.prog C.w) A (call (.builtin "isinstance") [u, .type "ValueError"]) Q E s := by
  cases V with
  | exc ek ho nz hcls hd =>
    rename_i a o
    obtain ⟨x, hx⟩ := G.exg.eo.mp ek
    obtain ⟨Cd, tl, _, ed, XD, TD, et⟩ := G.exg.cls hx
    have kg : ∀ b o, base.g.get? b = some o → s.heap.get? b = some o := fun _ _ => st.kg
    rw [ed] at hcls
    refine call_isinstance (S := fun _ R s' => s' = s ∧ R (.ok (.ret (.bool true))) s) (fun _ _ _ _ s' hs => ?_) ⟨rfl, k _ _ μ .refl st (.bool _)⟩
    obtain ⟨rfl, hs⟩ := hs
    refine isinstance_outer ?_ (by intro q; cases q)
    obtain ⟨N, nm, q, bs, hdct, sn, sub, ab, col, dd, k0, k1, k2, k3, k5, mN, hC, hN, hq, hcl⟩ := XD.keeps kg
    obtain ⟨h, g, dr, t, os⟩ := s'
    exact A80 (TD.keeps kg) hC ho hcls hs
end
end Mine
namespace Mine
open PySem PySem.Calls PyProof.Rows PySem.SeqAt
section
variable {C : Cx} {T : Tab} {n b : Nat} {Γ : List Str} {S : Scope} {strF : Bi}
variable {base : Bs} {env : Env} {ρ : A8} {μ : List Addr} {H H' : A0} {s : Shared} {A : Around} {E : Value → Shared → Prop} {Q : Flow → Shared → Prop}
theorem SOk.raise (hq : T.q = false) {c : Nat} {x : Str} {m : Str} {kk : Nat} {np p1 cpos pos : Pos} {d : A8 → A0 → SR} (hx : T.excs.lookup c = some x) (hg : Ao S x = true) (hd : ∀ ρ H, d ρ H = .exc c H) :
    SOk C T n b Γ S (.Raise (some (.Call (.Name x np) [.Constant (.str m) kk p1] [] cpos)) none pos) d := by
  refine ⟨?_⟩
  intro base env ρ μ H s A E Q G hS st a k
  refine bC fun hno => ?_
  rw [hd] at k
  obtain ⟨Ck, tl, em, ek, X, TD, _⟩ := G.exg.cls hx
  obtain ⟨N, nm, q, bs, hdct, sn, sub, ab, col, dd, k0, k1, k2, k3, k5, mN, hC, hN, hni, hcl⟩ := X
  have kg : ∀ b o, base.g.get? b = some o → s.heap.get? b = some o := fun _ _ => st.kg
  have hbase : tl.contains (.type "BaseException") = true := TD.tailQ.tail.hasType (F.excBase_ValueError.hasBase)
  refine hno ?_
  refine wpAny_Raise_call_subT (C := Ck) (nm := nm) (q := q) (N := N) (bs := bs) (bm := tl) (hdct := hdct) (sn := sn) (sub := sub) (ab := ab) (col := col) (dd := dd) (k0 := k0) (k1 := k1) (k2 := k2) (k3 := k3) (k5 := k5)
    F.excBase_ValueError (mN := mN) hbase (a.handled (G.q.trans hq)) rfl (hni _ (.head _)) (Gf G hS.sc st hg em ⟨rfl, Cb rfl ?_⟩)
  refine wpAny_items_cons (wpAny_Constant_str (wpAny_items_nil ?_)) (An rfl)
  refine ⟨rfl, by show 1 ≤ sizeLine; decide, kg _ _ hC, hN.keeps kg, (TD.keeps kg).tailQ.tail, fun h' e M => ?_⟩
  refine bC fun hno => ?_
  have kk : ∀ {a : Addr} {o : Obj}, s.heap.get? a = some o → h'.get? a = some o := fun {a o} e => M.keeps a o e
  obtain ⟨t, ho, _, _⟩ := M.there
  refine hno ?_
  exact k _ _ μ (Ext.grow kk) (st.forget.grow kk rfl rfl) (G.exg.eo.mpr ⟨x, hx⟩) (.new e _ _ rfl rfl ho M.new ek.symm rfl rfl)
end
end Mine
namespace Mine
open PySem PySem.Calls PyProof.Rows PySem.SeqAt
section
variable {M : Model} {A : Around} {E : Value → Shared → Prop} {h : Heap} {g : Array GenState} {d : Drawn} {t : Nat} {os : OsState} {e : Addr} {oe : Obj}
variable {nm q : Str} {C N : Addr} {bs bm : List Value} {hdct : Bool} {sn : List Str} {sub : List Value} {ab : Bool} {col : Option Bool} {dd : Option Addr} {k0 k1 k2 k3 k5 : Option Value} {newId : String} {mN : Str → Option Value}
variable {nm' q' : Str} {C' N' : Addr} {bs' bm' : List Value} {hdct' : Bool} {sn' : List Str} {sub' : List Value} {ab' : Bool} {col' : Option Bool} {dd' : Option Addr} {k0' k1' k2' k3' k5' : Option Value} {newId' : String}
theorem U0 {Q : Bool → Shared → Prop} (hC : h.get? C = some (excClassObj nm q C N bs bm hdct sn sub ab col dd k0 k1 k2 k3 k5 newId)) (hC' : h.get? C' = some (excClassObj nm' q' C' N' bs' bm' hdct' sn' sub' ab' col' dd' k0' k1' k2' k3' k5' newId'))
    (he : h.get? e = some oe) (hcls : oe.cls = .ref C) (hbase : bm'.contains (.type "BaseException") = true) (hin : (Value.ref C :: bm).contains (.ref C') = true)
    (hq : Q true ⟨h, g, d, t, os⟩) : wpAny M A (excMatches (.ref e) (.ref C')) Q E ⟨h, g, d, t, os⟩ := by
  have hcB : (Value.ref C' :: bm').contains (.type "BaseException") = true := by rw [List.contains_cons, hbase, Bool.or_true]
  have f := tc_notTuple
  unfold excMatches
  repeat (first | (with_reducible refine wpAny_loadPart_at he ?_; rw [hcls]) | with_reducible refine wpAny_loadPart_at hC' ?_ | (with_reducible refine wpAny_isSubtype_exc hC' ?_; rw [hcB]) | (with_reducible refine wpAny_isSubtype_exc hC ?_; rw [hin]) | wp_step)
  exact hq
end
section
variable {C : Cx} {T : Tab} {n b : Nat} {Γ : List Str} {S : Scope} {strF : Bi}
variable {base : Bs} {env : Env} {ρ : A8} {μ μ1 : List Addr} {H H' H1 : A0} {s s' s1 : Shared} {A : Around} {E : Value → Shared → Prop} {Q : Flow → Shared → Prop}
theorem St.re {B' : Bs} (S : St C base b env Γ ρ μ H s) (h1 : B'.h = base.h) (h2 : B'.g = base.g) (h3 : B'.fs = base.fs) : St C B' b env Γ ρ μ H s := by
  obtain ⟨h, g, fs, q, gb⟩ := base
  obtain ⟨h', g', fs', q', gb'⟩ := B'
  cases h1; cases h2; cases h3
  exact ⟨S.keep, S.hp, S.er, S.fresh, S.noloc, S.lm, S.nocell, S.gens, S.os, S.zl, S.ff⟩
noncomputable abbrev Bs.hush (B : Bs) : Bs := ⟨B.h, B.g, B.fs, true, B.gb⟩
theorem Gnd.hush (G : Gnd C T base) : Gnd C T.quiet base.hush :=
  ⟨rfl, (fun e => by cases e), ⟨G.scr.scr⟩, G.g, G.b, G.bi, G.fn, G.gint, ⟨G.exg.cls, G.exg.inj, G.exg.has0, G.exg.eo, G.exg.sm⟩, G.nolimit, G.qdefs, G.qdefs⟩
theorem AOk.hush (a : AOk base A n) {v : Value} : AOk base.hush (A.mark (some v)) n := ⟨a.depth, a.units, (fun e => by cases e), a.frames, a.guards⟩
theorem Fn.hush (F : Fn base env S) : Fn base.hush env S := ⟨F.sc, let ⟨o, L, hf, e⟩ := F.top; ⟨o, L, hf, e⟩⟩
theorem St.gone (S : St C base b env Γ ρ μ H s) {m' : Str → Option Value} (n' : s'.heap.Ns env.locals m') (hs : Heap.SameBut env.locals s.heap s'.heap) (hg : s'.gens = s.gens) (ho : s'.os = s.os) :
    St C base b env Γ [] μ H s' ∧ Ext env μ μ s.heap s'.heap := by
  have k : ∀ {a : Addr} {o : Obj}, s.heap.get? a = some o → ¬ (a = env.locals) → s'.heap.get? a = some o := fun e q => (hs.2 _ q).trans e
  exact S.but (.inr (.inl rfl)) S.lm S.noloc k (A31 n' k) hg ho fun _ => ⟨S.er.kind, ⟨m', n', fun _ _ e => by simp at e⟩, fun kx => let ⟨c, o, e, ⟨ob, eb, db⟩, _⟩ := S.er.cells kx; ⟨c, o, e, ⟨ob, k eb (S.er.cellne e), db⟩, fun _ e => by simp at e⟩,
    fun e => let ⟨o, ob, eb, db⟩ := S.er.cell e; ⟨o, ob, k eb (S.er.cellne e), db⟩, S.er.inj, S.er.globals, S.er.builtins⟩
theorem Z1 {c k i : Nat} {x nm : Str} {xp hpos : Pos} {b₀ : Stmt} {suite : List Stmt} {dh : A8 → A0 → SR} {u : Value} (hx : T.excs.lookup c = some x) (hg : Ao S x = true) (hi : slot Γ nm = some i) (hl : Bf S nm = some .local) (hh : Ff C T.quiet n b Γ S (b₀ :: suite) dh)
    (G : Gnd C T base) (hS : Fn base env S) (st : St C base b env Γ ρ μ H s) (a : AOk base A n) (S1 : St C base b env Γ ρ μ1 H1 s1) (X1 : Ext env μ μ1 s.heap s1.heap) (ek : C.eo k) (x1 : XR (C.ea k) false u s.heap s1.heap) (hm : k = c ∨ c = 0)
    (q : Ey C base b env Γ μ s (Gm (dh (ρ.set i (some (.exc k))) H1)) Q E) :
    wpAny (model C.prog C.w) A (noteFrame u env) (fun _ s₂ => wpAny (model C.prog C.w) A (setFlight u none) (fun _ s₃ => wpAny (model C.prog C.w) A (handleBy u env [.ExceptHandler (some (.Name x xp)) (some nm) (b₀ :: suite) hpos]) Q E s₃) E s₂) E s1 := by
  refine Mh hS.top a st S1 X1 x1 fun s2 S2 X2 x2 => Kc st S2 X2 x2 fun s3 S3 X3 x3 => ?_
  refine bC fun hno => ?_
  obtain ⟨y, hy⟩ := G.exg.eo.mp ek
  obtain ⟨Cd, tl, _, ed, XD, TD, et⟩ := G.exg.cls hy
  obtain ⟨Cc, tlc, em, ec, XC, TC, _⟩ := G.exg.cls hx
  have hin := Wn G.exg hy hx ed ec et
  have ht : (decide (k = c) || decide (c = 0)) = true := by rcases hm with q | q <;> simp [q]
  rw [ht] at hin
  have kg : ∀ b o, base.g.get? b = some o → s3.heap.get? b = some o := fun _ _ => S3.kg
  have hk : env.kindOf nm = some .local := by rw [← hS.sc] at hl; exact hl
  obtain ⟨e, eu⟩ : ∃ e, u = .ref e := by cases x3 with
    | new a o vs e hp ho hn hc hd h1 => exact ⟨a, e⟩
    | on a o vs T' oT ts e => exact ⟨a, e⟩
  subst eu
  refine hno ?_
  refine wpAny_handleBy_cons (codeAny_handlers_test (Gf G hS.sc S3 hg em ?_)) (by intro q; cases q)
  have go : ∀ {s : Shared} {Q : Bool → Shared → Prop} {E : Value → Shared → Prop} {h0 : Heap} {p : Bool}, (∀ b o, base.g.get? b = some o → s.heap.get? b = some o) → XR (C.ea k) p (.ref e) h0 s.heap → Q true s → wpAny (model C.prog C.w) (A.mark (some (.ref e))) (excMatches (.ref e) (.ref Cc)) Q E s := by
    intro s Q E h0 p kg x hQ
    obtain ⟨N, nm, q, bs, hdct, sn, sub, ab, col, dd, k0, k1, k2, k3, k5, mN, hC, hN, hq, hcl⟩ := XD.keeps kg
    obtain ⟨N', nm', q', bs', hdct', sn', sub', ab', col', dd', k0', k1', k2', k3', k5', mN', hC', hN', hq', hcl'⟩ := XC.keeps kg
    obtain ⟨h, g, dr, t, os⟩ := s
    have hbase : tlc.contains (.type "BaseException") = true := TC.tailQ.tail.hasType (F.excBase_ValueError.hasBase)
    cases x with
    | new a o vs e hp ho hn hc hd h1 => cases e; exact U0 hC hC' ho (hc.trans ed) hbase hin hQ
    | on a o vs T' oT ts e ho hn hc => cases e; exact U0 hC hC' ho (hc.trans ed) hbase hin hQ
  refine go kg x3 ?_
  refine codeAny_handlers_suite_as (Kc st S3 X3 x3 fun s4 S4 X4 x4 => ?_)
  have V : VR C μ1 s4.heap (.exc k) (.ref e) := by
    cases x4 with
    | new a o vs e hp => cases hp
    | on a o vs T' oT ts e ho hn hc hd => cases e; exact .exc ek ho (st.notZ hn) hc ⟨_, hd⟩
  refine S4.bind hi (.inl hk) V fun s5 S5 X5 => ?_
  refine hh.ok G.hush hS.hush (S5.re rfl rfl rfl) a.hush ?_
  cases ed : dh (ρ.set i (some (.exc k))) H1 with
  | ret v H2 =>
    rw [ed] at q
    intro w s6 μ6 X6 S6 V6
    obtain ⟨m, nn, _⟩ := S6.er.ns
    refine wpAny_nameGoes hk nn (by rw [S6.er.kind]; rfl) fun h' m' n' hs => ?_
    obtain ⟨S7, X7⟩ := (S6.re (B' := base) rfl rfl rfl).gone (s' := { s6 with heap := h', toks := s6.toks + 1 }) n' hs rfl rfl
    exact q w _ μ6 (((X4.trans X5).trans X6).trans X7) S7 (V6.mono S6.hp S6.er X7)
  | next ρ2 H2 => rw [ed] at q; exact q.elim
  | exc c2 H2 => rw [ed] at q; exact q.elim
  | bad => rw [ed] at q; exact q.elim
noncomputable def Mf (c : Nat) (i : Option Nat) (dh : A8 → A0 → SR) (r : Bool) (ρ : A8) (d : Nat) (H : A0) : SR := if r = true ∧ (d = c ∨ c = 0) then (match i with | some j => Gm (dh (ρ.set j (some (.exc d))) H) | none => Gm (dh ρ H)) else .bad
theorem Ye {c k : Nat} {i : Option Nat} {dh : A8 → A0 → SR} {ρ : A8} {H : A0} : Mf c i dh false ρ k H = .bad := if_neg fun q => by cases q.1
inductive HdR (T : Tab) (Γ : List Str) (S : Scope) (c : Nat) (i : Option Nat) (body : List Stmt) (h : ExceptHandler) : Prop
  | as (x nm : Str) (xp pos : Pos) (b₀ : Stmt) (ss : List Stmt) (j : Nat) (hx : T.excs.lookup c = some x) (hg : Ao S x = true) (e : i = some j) (hj : slot Γ nm = some j) (hl : Bf S nm = some .local) (eb : body = b₀ :: ss) (eh : h = .ExceptHandler (some (.Name x xp)) (some nm) body pos) : HdR T Γ S c i body h
theorem Zp {c k : Nat} {i : Option Nat} {body : List Stmt} {hd : ExceptHandler} {dh : A8 → A0 → SR} {u : Value} {r : Bool} (R : HdR T Γ S c i body hd) (hh : Ff C T.quiet n b Γ S body dh)
    (G : Gnd C T base) (hS : Fn base env S) (st : St C base b env Γ ρ μ H s) (a : AOk base A n) (S1 : St C base b env Γ ρ μ1 H1 s1) (X1 : Ext env μ μ1 s.heap s1.heap) (ek : C.eo k) (x1 : XR (C.ea k) false u s.heap s1.heap)
    (q : Ey C base b env Γ μ s (Mf c i dh r ρ k H1) Q E) :
    wpAny (model C.prog C.w) A (noteFrame u env) (fun _ s₂ => wpAny (model C.prog C.w) A (setFlight u none) (fun _ s₃ => wpAny (model C.prog C.w) A (handleBy u env [hd]) Q E s₃) E s₂) E s1 := by
  unfold Mf at q
  by_cases hm : r = true ∧ (k = c ∨ c = 0)
  · rw [if_pos hm] at q
    cases R with
    | as x nm xp pos b₀ ss j hx hg e hj hl eb eh =>
      subst e; subst eb; subst eh
      exact Z1 hx hg hj hl hh G hS st a S1 X1 ek x1 hm.2 q
  · rw [if_neg hm] at q; exact q.elim
theorem SOk.tryRet {v : Expr} {p1 pos : Pos} {c : Nat} {i : Option Nat} {body : List Stmt} {hd : ExceptHandler} {r : Bool} {d dh : A8 → A0 → SR} {d1 : A8 → A0 → Res AV} (R : HdR T Γ S c i body hd) (h : Aj C T n b Γ S v d1) (hx : r = true → XOk C T n b Γ S v d1) (hh : Ff C T.quiet n b Γ S body dh)
    (hd' : ∀ ρ H, d ρ H = (match d1 ρ H with | .ok v H => .ret v H | .exc k H => Mf c i dh r ρ k H | .bad => .bad)) : SOk C T n b Γ S (.Try [.Return (some v) p1] [hd] [] [] pos) d := by
  refine ⟨?_⟩
  intro base env ρ μ H s A E Q G hS st a k
  rw [hd'] at k
  refine wpAny_Try_except (wpAny_execs_cons ?_)
  cases e : d1 ρ H with
  | ok w H1 =>
    rw [e] at k
    exact wpAny_Return_some (h.ok G hS.sc st a e fun u s' μ' X S' V => k u s' μ' X S'.forget V)
  | exc c1 H1 =>
    rw [e] at k
    cases r with
    | true => exact wpAny_Return_some ((hx rfl).ok G hS.sc st a e fun u s' μ' X S' ek x => Zp R hh G hS st a S' X ek x k)
    | false =>
      have k : Ey C base b env Γ μ s (Mf c i dh false ρ c1 H1) Q E := k
      rw [Ye] at k; exact k.elim
  | bad => rw [e] at k; exact k.elim
end
end Mine
namespace Mine
open PySem PySem.Calls PyProof.Rows PySem.SeqAt
section
variable {C : Cx} {T : Tab} {n b : Nat} {Γ : List Str} {S : Scope} {nm : Bool} {J : Addr → Prop}
variable {base : Bs} {env : Env} {ρ : A8} {μ μ' : List Addr} {H H' : A0} {s s' : Shared} {A : Around} {E : Value → Shared → Prop} {Q : Flow → Shared → Prop}
theorem Xh (v : AV) : (∃ x y, v = .tup [x, y]) ∨ ((∀ f, Mr f v = .bad) ∧ ∀ f, Hd f v = .bad) := by
  cases v with
  | tup l =>
    cases l with
    | nil => exact .inr ⟨fun _ => rfl, fun _ => rfl⟩
    | cons a l =>
      cases l with
      | nil => exact .inr ⟨fun _ => rfl, fun _ => rfl⟩
      | cons c l =>
        cases l with
        | nil => exact .inl ⟨a, c, rfl⟩
        | cons d l => exact .inr ⟨fun _ => rfl, fun _ => rfl⟩
  | _ => exact .inr ⟨fun _ => rfl, fun _ => rfl⟩
theorem Vu {r : Nat} {xs : List AV} (h : G2 H r xs = true) : H[r]? = some (.list xs) := by
  unfold G2 at h
  split at h
  · rename_i ys e
    rw [e]
    have : ys = xs := @of_decide_eq_true _ (Classical.propDecidable _) h
    rw [this]
  · cases h
theorem Uu {ws : List (Nat × List AV)} (h : ws.all (fun w => G2 H w.1 w.2) = true) : ∀ w ∈ ws, H[w.1]? = some (.list w.2) := fun w hw => Vu (List.all_eq_true.mp h w hw)
theorem St.stepJ (S1 : St (C.plus J) base b env Γ ρ μ H s) {h' : Heap} {tk : Nat} (kk : ∀ {a : Addr} {o : Obj}, ¬ J a → s.heap.get? a = some o → h'.get? a = some o) (off : ∀ {a : Addr}, J a → ¬ Own μ env a) (hJb : ∀ {a : Addr}, J a → base.get? a = none)
    (live : ∀ {a : Addr}, J a → ∃ o, h'.get? a = some o) : St (C.plus J) base b env Γ ρ μ H { s with heap := h', toks := tk } :=
  S1.mapZ J (z := (C.plus J).z) (s' := { s with heap := h', toks := tk }) kk off hJb (fun j => .inl (.inr j)) (fun _ nz => nz) (fun {a} z => by
    by_cases hj : J a
    · exact live hj
    · obtain ⟨o, e⟩ := S1.zl z; exact ⟨o, kk hj e⟩) rfl rfl
theorem St.leaveJ (S1 : St (C.plus J) base b env Γ ρ μ H s) {h' : Heap} {tk : Nat} (kk : ∀ {a : Addr} {o : Obj}, ¬ J a → s.heap.get? a = some o → h'.get? a = some o) (off : ∀ {a : Addr}, J a → ¬ Own μ env a) (hJb : ∀ {a : Addr}, J a → base.get? a = none)
    (hzJ : ∀ {a : Addr}, C.z a → ¬ J a) : St C base b env Γ ρ μ H { s with heap := h', toks := tk } :=
  S1.mapZ J (z := C.z) (s' := { s with heap := h', toks := tk }) kk off hJb (fun j => .inl (.inr j)) (fun _ nz z => nz (.inl z)) (fun {a} z => by
    obtain ⟨o, e⟩ := S1.zl (a := a) (.inl z); exact ⟨o, kk (hzJ z) e⟩) rfl rfl
theorem St.openJ (S1 : St (C.plus J) base b env Γ ρ μ H s) : St C base b env Γ ρ μ H s :=
  S1.mapZ (fun _ => False) (z := C.z) (fun _ e => e) (fun j => j.elim) (fun j => j.elim) (fun j => j.elim) (fun _ nz z => nz (.inl z)) (fun {a} z => S1.zl (a := a) (.inl z)) rfl rfl
theorem VR.openJ {h : Heap} {v : AV} {u : Value} (q : VR (C.plus J) μ h v u) : VR C μ h v u := VR.mapZ (C := C.plus J) (z := C.z) List.prefix_rfl (fun e _ _ => e) (fun _ nz z => nz (.inl z)) q
theorem zJ {h : Heap} (S0 : St C base b env Γ ρ μ H s) (hJ0 : ∀ {a : Addr}, J a → s.heap.get? a = none) : ∀ {a : Addr}, C.z a → ¬ J a := fun z j => by
  obtain ⟨o, e⟩ := S0.zl z
  rw [hJ0 j] at e; cases e
theorem Ci {e : Expr} (h : C3 e = true) : ∀ x, foldedSetIterable e env x = pure x := by
  intro x; cases e <;> first | rfl | cases h
theorem Hy {x : Str} (hS : env.scope = S) (hk : B2 S x = true) : env.kindOf x = some .local ∨ env.kindOf x = some .cell := by
  unfold B2 at hk; rw [← hS] at hk
  simpa [Bf, Env.kindOf] using hk
theorem Qa {ws : List (Nat × List AV)} {step : AV → A8 → A0 → SR} {v : AV} {l : List AV} : Ej ws step (v :: l) ρ H = (match step v ρ H with
    | .next ρ' H' => if ws.all (fun w => G2 H' w.1 w.2) then Ej ws step l ρ' H' else .bad
    | r => r) := rfl
theorem Xz {body : List Stmt} {db : A8 → A0 → SR} (hb : ∀ z, Ff (C.withZ z) T n b Γ S body db) {ws : List (Nat × List AV)} {step : AV → A8 → A0 → SR} {v : AV} {l : List AV} {ρ1 ρ2 : A8} {H1 : A0} {it : Value} {R : List AV → List Addr → Heap → Prop} {M : List AV → Value → List Addr → Heap → Prop}
    {μ1 : List Addr} {s2 : Shared} {Q' : Flow → Shared → Prop}
    (G : Gnd C T base) (hS : Fn base env S) (a : AOk base A n) {ρ0 : A8} {H0 : A0} (st0 : St C base b env Γ ρ0 μ H0 s) (W : Jw (C.plus J) base it J ws nm R M) (S2 : St (C.plus J) base b env Γ ρ2 μ1 H1 s2) (r2 : R l μ1 s2.heap) (X2 : Ext env μ μ1 s.heap s2.heap)
    (hstep : step v ρ1 H1 = db ρ2 H1) (k : Ey C base b env Γ μ s (Ej ws step (v :: l) ρ1 H1) Q E)
    (kn : ∀ s3 ρ3 μ3 H3, St (C.plus J) base b env Γ ρ3 μ3 H3 s3 → R l μ3 s3.heap → (∀ w ∈ ws, H3[w.1]? = some (.list w.2)) → Ext env μ μ3 s.heap s3.heap → Ey C base b env Γ μ s (Ej ws step l ρ3 H3) Q E → Q' .next s3)
    (kr : ∀ u s3, Q (.ret u) s3 → Q' (.ret u) s3) : wpAny (model C.prog C.w) A (execs body env) Q' (notedBy (model C.prog C.w) A env fun e s' => cameBackBy (model C.prog C.w) A env E e s') s2 := by
  rw [Qa, hstep] at k
  refine (hb _).ok (C := C.plus J) G.toZ hS S2 a ?_
  cases e : db ρ2 H1 with
  | next ρ3 H3 =>
    rw [e] at k
    simp only at k
    split at k
    · rename_i hst
      exact fun s3 μ3 X3 S3 => kn s3 ρ3 μ3 H3 S3 (W.frameX S2 r2 X3) (Uu hst) (X2.trans X3) k
    · exact k.elim
  | ret w H3 => rw [e] at k; exact fun u s3 μ3 X3 S3 V => kr u s3 (k u s3 μ3 (X2.trans X3) S3.openJ V.openJ)
  | exc c H3 => rw [e] at k; exact fun u s3 μ3 X3 S3 ek x => Wy hS.top a st0 S3.openJ (X2.trans X3) (XR.back X2.live x) fun s4 S4 X4 x4 => k u s4 μ3 X4 S4 ek x4
  | bad => rw [e] at k; exact k.elim
inductive FI (C C' : Cx) (base : Bs) (b : Nat) (env : Env) (Γ : List Str) (μ : List Addr) (s : Shared) (ws : List (Nat × List AV)) (R : List AV → List Addr → Heap → Prop) (step : AV → A8 → A0 → SR) (Q : Flow → Shared → Prop) (E : Value → Shared → Prop) (m : Nat) (s1 : Shared) : Prop
  | mk (l : List AV) (ρ1 : A8) (μ1 : List Addr) (H1 : A0) (hl : l.length = m) (S1 : St C' base b env Γ ρ1 μ1 H1 s1) (r1 : R l μ1 s1.heap) (hw : ∀ w ∈ ws, H1[w.1]? = some (.list w.2)) (X1 : Ext env μ μ1 s.heap s1.heap) (k1 : Ey C base b env Γ μ s (Ej ws step l ρ1 H1) Q E) : FI C C' base b env Γ μ s ws R step Q E m s1
theorem SOk.for1 {x : Str} {i : Nat} {iter : Expr} {body : List Stmt} {px pos : Pos} {d db : A8 → A0 → SR} {di : A8 → A0 → Res (List AV × List (Nat × List AV))} (hx : slot Γ x = some i) (hk : B2 S x = true) (hset : C3 iter = true)
    (hi : Iw C T n b Γ S true iter di) (hb : ∀ z, Ff (C.withZ z) T n b Γ S body db)
    (hd : ∀ ρ H, d ρ H = (match di ρ H with | .ok p H => Ej p.2 (fun v ρ H => db (ρ.set i (some v)) H) p.1 ρ H | _ => .bad)) : SOk C T n b Γ S (.For (.Name x px) iter body [] pos) d := by
  refine ⟨?_⟩
  intro base env ρ μ H s A E Q G hS st a k
  rw [hd] at k
  cases e : di ρ H with
  | ok p H0 =>
    rw [e] at k
    refine wpAny_For (hi.ok G hS.sc st a e fun it s' μ' J R M X hJ0 hJb S' W r0 hw => ?_) (Ci hset)
    refine codeAny_forLoop_any (FI C (C.plus J) base b env Γ μ s p.2 R (fun v ρ H => db (ρ.set i (some v)) H) Q E) ?_ p.1.length ⟨p.1, ρ, μ', H0, rfl, S', r0, hw, X, k⟩
    rintro m s1 ⟨l, ρ1, μ1, H1, rfl, S1, r1, hw1, X1, k1⟩
    cases l with
    | nil =>
      refine W.done S1 a (fun j => .inr j) hw1 r1 fun h' tk kk => ?_
      exact wpAny_execs_nil (k1 _ μ1 (X1.but hJ0 kk) (S1.leaveJ kk (W.off S1 r1) hJb (zJ (h := s.heap) st hJ0)))
    | cons v l =>
      refine W.item S1 a (fun j => .inr j) hw1 r1 fun u h' tk kk V m => ?_
      refine wpAny_pure ?_
      have S2 := S1.stepJ (tk := tk) kk (W.off S1 r1) hJb (W.liveM m)
      have X2 : Ext env μ μ1 s.heap h' := X1.but hJ0 kk
      refine wpAny_assign_Name (S2.bind hx (Hy hS.sc hk) V fun s3 S3 X3 => ?_)
      refine Xz hb G hS a st W S3 (W.frameX S2 (W.plain rfl m) X3) (X2.trans X3) rfl k1 (fun s4 ρ4 μ4 H4 S4 r4 hw4 X4 k4 => ?_) (fun u s3 q => q)
      exact ⟨l.length, Nat.lt_succ_self _, ⟨l, ρ4, μ4, H4, rfl, S4, r4, hw4, X4, k4⟩⟩
  | exc c H0 => rw [e] at k; exact k.elim
  | bad => rw [e] at k; exact k.elim
theorem Nw {M : Model} {x y : Str} {i j : Nat} {px py tp : Pos} {x1 : Nat} {t : Addr} {p q : Value} {v w : AV} {Q : Unit → Shared → Prop} (hq : base.q = false) (hS : env.scope = S) (a : AOk base A n) (st : St C base b env Γ ρ μ H s) (hx : slot Γ x = some i) (hkx : B2 S x = true) (hy : slot Γ y = some j) (hky : B2 S y = true)
    (ht : s.heap.IsTuple t #[p, q]) (V : VR C μ s.heap v p) (W : VR C μ s.heap w q)
    (k : ∀ s', St C base b env Γ ((ρ.set i (some v)).set j (some w)) μ H s' → Ext env μ μ s.heap s'.heap → Q () s') : wpAny (model C.prog C.w) A (assign (.Tuple [.Name x px, .Name y py] x1 tp) env (.ref t)) Q E s := by
  refine wpAny_assign_Tuple (a.handled hq) ht rfl rfl fun h' he => ?_
  have kk : ∀ {a : Addr} {o : Obj}, s.heap.get? a = some o → h'.get? a = some o := fun {a o} e => he _ _ (fun e' => by rw [e', Ax] at e; cases e) e
  have S1 := st.grow (s' := { s with heap := h' }) kk rfl rfl
  refine wpAny_assignInOrder_more (wpAny_assign_Name (S1.bind hx (Hy hS hkx) (V.keeps kk) fun s2 S2 X2 => ?_))
  have W2 : VR C μ s2.heap w q := (W.keeps kk).mono S1.hp S1.er X2
  refine wpAny_assignInOrder_more (wpAny_assign_Name (S2.bind hy (Hy hS hky) W2 fun s3 S3 X3 => wpAny_assignInOrder_none (k s3 S3 ((Ext.grow kk).trans (X2.trans X3)))))
theorem SOk.for2 (hq : T.q = false) {x y : Str} {i j : Nat} {iter : Expr} {body : List Stmt} {px py tp pos : Pos} {x1 : Nat} {d db : A8 → A0 → SR} {di : A8 → A0 → Res (List AV × List (Nat × List AV))} (hx : slot Γ x = some i) (hk : B2 S x = true) (hy : slot Γ y = some j) (hky : B2 S y = true) (hset : C3 iter = true)
    (hi : Iw C T n b Γ S nm iter di) (hb : ∀ z, Ff (C.withZ z) T n b Γ S body db)
    (hd : ∀ ρ H, d ρ H = (match di ρ H with | .ok p H => Ej p.2 (fun v ρ H => Mr (fun x y => db ((ρ.set i (some x)).set j (some y)) H) v) p.1 ρ H | _ => .bad)) : SOk C T n b Γ S (.For (.Tuple [.Name x px, .Name y py] x1 tp) iter body [] pos) d := by
  refine ⟨?_⟩
  intro base env ρ μ H s A E Q G hS st a k
  rw [hd] at k
  cases e : di ρ H with
  | ok p H0 =>
    rw [e] at k
    refine wpAny_For (hi.ok G hS.sc st a e fun it s' μ' J R M X hJ0 hJb S' W r0 hw => ?_) (Ci hset)
    refine codeAny_forLoop_any (FI C (C.plus J) base b env Γ μ s p.2 R (fun v ρ H => Mr (fun x y => db ((ρ.set i (some x)).set j (some y)) H) v) Q E) ?_ p.1.length ⟨p.1, ρ, μ', H0, rfl, S', r0, hw, X, k⟩
    rintro m s1 ⟨l, ρ1, μ1, H1, rfl, S1, r1, hw1, X1, k1⟩
    cases l with
    | nil =>
      refine W.done S1 a (fun j => .inr j) hw1 r1 fun h' tk kk => ?_
      exact wpAny_execs_nil (k1 _ μ1 (X1.but hJ0 kk) (S1.leaveJ kk (W.off S1 r1) hJb (zJ (h := s.heap) st hJ0)))
    | cons v l =>
      have hv : ∃ v1 v2, v = .tup [v1, v2] := by
        rw [Qa] at k1
        rcases Xh v with hp | hp
        · exact hp
        · rw [hp.1] at k1
          exact k1.elim
      obtain ⟨v1, v2, rfl⟩ := hv
      refine W.item S1 a (fun j => .inr j) hw1 r1 fun u h' tk kk V m => ?_
      obtain ⟨t, p1, p2, rfl, ht, V1, V2⟩ := Kt V
      refine W.own (s := { s1 with heap := h', toks := tk }) m fun h'' kk' r2 => ?_
      refine bC fun hno => ?_
      have kk2 : ∀ {a : Addr} {o : Obj}, ¬ J a → s1.heap.get? a = some o → h''.get? a = some o := fun nj e => kk' nj (kk nj e)
      have S2 := S1.stepJ (tk := tk) kk2 (W.off S1 r1) hJb (W.live r2)
      have X2 : Ext env μ μ1 s.heap h'' := X1.but hJ0 kk2
      have V' : VR (C.plus J) μ1 h'' (.tup [v1, v2]) (.ref t) := VR.butJ (C := C.plus J) (J := J) (fun j => .inr j) kk' V
      obtain ⟨t', q1, q2, et, ht', W1, W2⟩ := Kt V'
      cases et
      refine hno ?_
      refine Nw (M := model C.prog C.w) (C := C.plus J) (G.q.trans hq) hS.sc a S2 hx hk hy hky ht' W1 W2 fun s3 S3 X3 => ?_
      refine Xz hb G hS a st W S3 (W.frameX S2 r2 X3) (X2.trans X3) rfl k1 (fun s4 ρ4 μ4 H4 S4 r4 hw4 X4 k4 => ?_) (fun u s3 q => q)
      exact ⟨l.length, Nat.lt_succ_self _, ⟨l, ρ4, μ4, H4, rfl, S4, r4, hw4, X4, k4⟩⟩
  | exc c H0 => rw [e] at k; exact k.elim
  | bad => rw [e] at k; exact k.elim
end
end Mine
namespace Mine
open PySem PySem.Calls PyProof.Rows PySem.SeqAt
section
variable {C : Cx} {T : Tab} {n b : Nat} {Γ : List Str} {S : Scope} {nm : Bool}
variable {base : Bs} {env : Env} {ρ : A8} {μ μ' : List Addr} {H H' : A0} {s s' : Shared} {A : Around} {E : Value → Shared → Prop} {Q : Flow → Shared → Prop}
theorem Pa {prog : Program} {w : World} {l : Addr} {Af : Array Value} {k : Int} {t : Tok} {v : Value} {Q : Unit → Shared → Prop} (hl : s.heap.PlainList l Af) (h0 : 0 ≤ k) (hfit : k < 2 ^ 63) (hn : k < Af.size)
    (hQ : ∀ h', h'.PlainList l (Af.setIfInBounds k.toNat v) → Heap.SameBut l s.heap h' → Q () { s with heap := h' }) : wpAny (model prog w) A (setItem (.ref l) (.int k t) v) Q E s := by
  obtain ⟨ne, ho⟩ := hl
  have hT : s.TypeIs (.ref l) "list" := ⟨_, ho, rfl⟩
  unfold setItem
  try with_reducible refine wpAny_holding ?_
  first | refine wpAny_bind (wpAny_pure ?_) | skip
  refine wpAny_bind (wpAny_sequenceKey hT (by decide) ?_)
  refine wpAny_bind (wpAny_callSpecial?_slot (name := Str.ofString "__setitem__") hT slot_list_setitem
    (wpAny_call_entry slot_list_setitem hT entry_list_setitem ?_ (args_list_setitem _ _ _)))
  show wpAny _ _ (Builtin.List.listSubscript? (.int k t) >>= _) _ _ s
  refine wpAny_bind (wpAny_listSubscript_int (fitsIndex_of h0 hfit) ?_)
  clear hfit
  obtain ⟨j, rfl⟩ := Int.eq_ofNat_of_zero_le h0
  have hj : j < Af.size := by exact A1c hn
  have hx' : Af[j]? = some Af[j] := Array.getElem?_eq_getElem hj
  show wpAny _ _ ((seqItemAt l j >>= fun r => pure (r.map (j, ·))) >>= _) _ _ s
  refine wpAny_bind (wpAny_bind (wpAny_seqItemAt ho rfl (wpAny_pure ?_)))
  rw [hx']
  show wpAny _ _ (setSeqItemAt l j v >>= _) _ _ s
  have hfin : (s.heap.update l (Obj.mapSeq (·.setIfInBounds j v))).PlainList l (Af.setIfInBounds j v) := by
    refine ⟨_, Heap.get?_update_self _ ho rfl⟩
  refine wpAny_bind (wpAny_setSeqItemAt ho rfl ?_)
  first
    | exact wpAny_bind (wpAny_pure (wpAny_pure ⟨.none, rfl, wpAny_pure (hQ _ hfin (Heap.SameBut.update ..))⟩))
    | exact wpAny_pure ⟨.none, rfl, wpAny_pure (hQ _ hfin (Heap.SameBut.update ..))⟩
theorem A2y (vs : List Value) (j : Nat) (x : Value) : vs.toArray.setIfInBounds j x = (vs.set j x).toArray := by simp
theorem A4f {v k x : AV} {p q u : Value} {Q : Unit → Shared → Prop} (st : St C base b env Γ ρ μ H s) (V : VR C μ s.heap v p) (K : VR C μ s.heap k q) (X : VR C μ s.heap x u) (e : Gr b v k x H = .ok () H')
    (kk : ∀ s', St C base b env Γ ρ μ H' s' → Ext env μ μ s.heap s'.heap → Q () s') : wpAny (model C.prog C.w) A (setItem p q u) Q E s := by
  unfold Gr at e
  split at e
  · rename_i r k'
    split at e
    · rename_i xs ex
      split at e
      · rename_i hc; cases e
        obtain ⟨c, rfl, ec⟩ := V.isRef
        obtain ⟨t, rfl⟩ := K.isInt
        obtain ⟨hz, a', vs, ea', p1, q1⟩ := st.hp.list ex
        rw [ec] at ea'; cases ea'
        have hlim : xs.length < 2 ^ 63 := Nat.lt_of_le_of_lt hz (by decide)
        refine Pa p1 hc.2.1 (A11 hc.2.2 hlim) (by rw [List.size_toArray, ← q1.length]; exact hc.2.2) fun h' pl hs => ?_
        rw [A2y] at pl
        obtain ⟨S', X'⟩ := st.turn ex ec hc.1 pl hs (q1.set k'.toNat X) (by simpa using hz)
        exact kk _ S' X'
      · cases e
    · cases e
  · cases e
theorem Zs {v o i : Expr} {p : Pos} {l : Nat} : swapsWith v (some (.Subscript o i p)) l env = pure false := by
  cases v <;> rfl
theorem SOk.setIdx {o i v : Expr} {sp pos : Pos} {d : A8 → A0 → SR} {dv d1 d2 : A8 → A0 → Res AV} (hv : Aj C T n b Γ S v dv) (h1 : Aj C T n b Γ S o d1) (h2 : Aj C T n b Γ S i d2)
    (hd : ∀ ρ H, d ρ H = (match (dv ρ H).get fun x H => (d1 ρ H).get fun v H => (d2 ρ H).get fun k H => Gr b v k x H with
      | .ok _ H => .next ρ H
      | _ => .bad)) : SOk C T n b Γ S (.Assign [.Subscript o i sp] v pos) d := by
  refine ⟨?_⟩
  intro base env ρ μ H s A E Q G hS st a k
  rw [hd] at k
  split at k
  · rename_i w H' e
    refine bC fun hno => ?_
    obtain ⟨x, H1, e1, e⟩ := Res.get_ok e
    obtain ⟨y, H2, e2, e⟩ := Res.get_ok e
    obtain ⟨z, H3, e3, e⟩ := Res.get_ok e
    refine hno ?_
    refine wpAny_Assign_Subscript (hv.ok G hS.sc st a e1 fun u s1 μ1 X1 S1 V1 => h1.ok G hS.sc S1 a e2 fun p s2 μ2 X2 S2 V2 => h2.ok G hS.sc S2 a e3 fun q s3 μ3 X3 S3 V3 => ?_) Zs
    exact A4f S3 (V2.mono S2.hp S2.er X3) V3 ((V1.mono S1.hp S1.er X2).mono S2.hp S2.er X3) e fun s4 S4 X4 => k s4 μ3 (((X1.trans X2).trans X3).trans X4) S4
  · exact k.elim
theorem Uf (hS : env.scope = S) (a : AOk base A n) : ∀ (is : List Nat) (ts : List Expr) (vs : List AV) (us : List Value) {ρ ρ' : A8} {μ : List Addr} {s : Shared} {Q : Unit → Shared → Prop}, N5 Γ S is ts = true → St C base b env Γ ρ μ H s → VRs C μ s.heap vs us → E7 is vs ρ = some ρ' →
    (∀ s', St C base b env Γ ρ' μ H s' → Ext env μ μ s.heap s'.heap → Q () s') → wpAny (model C.prog C.w) A (assignInOrder ((assignEach ts env).map (·.2)) us) Q E s
  | [], ts, vs, us, ρ, ρ', μ, s, Q, hc, st, V, e, k => by
    cases Cw hc
    cases V with
      | nil => cases Option.some.inj e; exact wpAny_assignInOrder_none (k _ st .refl)
      | cons _ _ => cases e
  | i :: is, ts, vs, us, ρ, ρ', μ, s, Q, hc, st, V, e, k => by
    obtain ⟨⟨_, r⟩, hy, g1⟩ := Ad hc
    obtain ⟨⟨x, px⟩, hx, g2⟩ := Ad g1
    obtain ⟨h1, g3⟩ := A7 g2
    obtain ⟨h2, g4⟩ := A7 g3
    cases Bm hx
    cases Ry hy
    · cases V with
      | nil => cases e
      | cons V1 V2 =>
        show wpAny _ _ (assignInOrder ((assign (.Name x px) env) :: ((assignEach r env).map (·.2))) (_ :: _)) Q E s
        refine wpAny_assignInOrder_more (wpAny_assign_Name (st.bind (Ba h1) (Hy hS h2) V1 fun s2 S2 X2 => ?_))
        exact Uf hS a is r _ _ g4 S2 (V2.mono st.hp st.er X2) e fun s3 S3 X3 => k s3 S3 (X2.trans X3)
theorem La : ∀ {is : List Nat} {ts : List Expr}, N5 Γ S is ts = true → (assignEach ts env).length = is.length ∧ (assignEach ts env).findIdx? (·.1) = none
  | [], ts, hc => by
    cases Cw hc
    exact ⟨rfl, rfl⟩
  | i :: is, ts, hc => by
    obtain ⟨⟨_, r⟩, hy, g1⟩ := Ad hc
    obtain ⟨⟨x, px⟩, hx, g2⟩ := Ad g1
    cases Bm hx
    cases Ry hy
    · obtain ⟨h1, h2⟩ := La (A7 (A7 g2).2).2
      refine ⟨by show (_ :: assignEach r env).length = _; simp [h1], ?_⟩
      show List.findIdx? (·.1) ((false, _) :: assignEach r env) = none
      rw [List.findIdx?_cons, h2]; rfl
theorem L6 : ∀ {is : List Nat} {vs : List AV} {ρ ρ' : A8}, E7 is vs ρ = some ρ' → vs.length = is.length
  | [], [], _, _, _ => rfl
  | [], _ :: _, _, _, e => by cases e
  | _ :: _, [], _, _, e => by cases e
  | i :: is, v :: vs, _, _, e => congrArg (· + 1) (L6 (is := is) (vs := vs) e)
theorem SOk.assignT (hq : T.q = false) {is : List Nat} {ts : List Expr} {x1 : Nat} {v : Expr} {tp pos : Pos} {d : A8 → A0 → SR} {d1 : A8 → A0 → Res AV} (hc : N5 Γ S is ts = true) (hv : Mp v = true) (h : Aj C T n b Γ S v d1)
    (hd : ∀ ρ H, d ρ H = (match d1 ρ H with
      | .ok v H => (match v with
        | .tup vs => (match E7 is vs ρ with | some ρ' => .next ρ' H | none => .bad)
        | _ => .bad)
      | _ => .bad)) : SOk C T n b Γ S (.Assign [.Tuple ts x1 tp] v pos) d := by
  refine ⟨?_⟩
  intro base env ρ μ H s A E Q G hS st a k
  rw [hd] at k
  split at k
  · rename_i w H1 e
    split at k
    · rename_i vs
      split at k
      · rename_i ρ' eρ
        refine wpAny_Assign_stores (h.ok G hS.sc st a e fun u s1 μ1 X1 S1 V1 => ?_) ?_ ?_
        · cases V1 with
          | tup t nz l q =>
            rename_i t' Af
            obtain ⟨h1, h2⟩ := La (env := env) hc
            show wpAny _ _ (assign (.Tuple ts x1 tp) env (.ref t')) _ _ _
            refine wpAny_assign_Tuple (a.handled (G.q.trans hq)) t (by rw [h1, List.size_toArray, ← q.length, L6 eρ]) h2 fun h' he => ?_
            have kk : ∀ {a : Addr} {o : Obj}, s1.heap.get? a = some o → h'.get? a = some o := fun {a o} e => he _ _ (fun e' => by rw [e', Ax] at e; cases e) e
            refine Uf hS.sc a is ts vs Af hc (S1.grow (s' := { s1 with heap := h' }) kk rfl rfl) (q.keeps kk) eρ fun s2 S2 X2 => ?_
            exact k s2 μ1 ((X1.trans (Ext.grow kk)).trans X2) S2
        · cases v <;> first | rfl | cases hv
        · cases v <;> first | rfl | cases hv
      · exact k.elim
    · exact k.elim
  · exact k.elim
end
end Mine
namespace Mine
open PySem PySem.Calls PyProof.Rows PySem.SeqAt
section
variable {C : Cx} {T : Tab} {n b : Nat} {Γ : List Str} {S : Scope} {nm : Bool} {J : Addr → Prop}
variable {base : Bs} {env cenv : Env} {ρ : A8} {μ μ' : List Addr} {H H' : A0} {s s' : Shared} {A : Around} {E : Value → Shared → Prop} {Q : Flow → Shared → Prop}
theorem Ms {h : Heap} {D : Addr} {its : Array Value} (p : h.PlainList D its) {ts : Array Value} : ¬ h.IsTuple D ts := by
  obtain ⟨n, p⟩ := p
  rintro ⟨o, ho, hc, _⟩
  rw [p] at ho; cases ho; simp at hc
theorem Lq {h : Heap} {D : Addr} {its : Array Value} (p : h.PlainList D its) {o : Obj} {vs : Array Value} (e : h.get? D = some o) : o.data ≠ .fields vs := by
  obtain ⟨n, p⟩ := p
  rw [p] at e; cases e; intro e; cases e
theorem Ln {h : Heap} {D : Addr} {m : Str → Option Value} (p : h.Ns D m) {ts : Array Value} : ¬ h.IsTuple D ts := by
  obtain ⟨o', es, ep, ho', hd, _⟩ := p
  rintro ⟨o, ho, _, _, hd'⟩
  rw [ho'] at ho; cases ho; rw [hd] at hd'; cases hd'
theorem K6 {h : Heap} {D : Addr} {m : Str → Option Value} (p : h.Ns D m) {o : Obj} {vs : Array Value} (e : h.get? D = some o) : o.data ≠ .fields vs := by
  obtain ⟨o', es, ep, ho', hd, _⟩ := p
  rw [ho'] at e; cases e; rw [hd]; intro e; cases e
theorem St.other (S : St C base b env Γ ρ μ H s) {D : Addr} {h' : Heap} {tk : Nat} (ht : ∀ {ts : Array Value}, ¬ s.heap.IsTuple D ts) (hf : ∀ {o : Obj} {vs : Array Value}, s.heap.get? D = some o → o.data ≠ .fields vs)
    (hO : ¬ Own μ env D) (hb : base.get? D = none) (hs : Heap.SameBut D s.heap h') (hl : C.z D → ∃ o, h'.get? D = some o) (hfd : D ∉ base.fs.filterMap (·.frame)) : St C base b env Γ ρ μ H { s with heap := h', toks := tk } := by
  have st : ∀ {c : Addr} {o : Obj}, s.heap.get? c = some o → ¬ (c = D) → h'.get? c = some o := fun e n => (hs.2 _ n).trans e
  have ht' : ∀ {c : Addr} {Af : Array Value}, s.heap.IsTuple c Af → ¬ (c = D) := fun t e => by subst e; exact ht t
  have hf' : ∀ {c : Addr} {o : Obj} {vs : Array Value}, s.heap.get? c = some o → o.data = .fields vs → ¬ (c = D) := fun e d e' => by subst e'; exact hf e d
  have mono : ∀ {x : AV} {v : Value}, VR C μ s.heap x v → VR C μ h' x v := fun q => VR.mono' (P := (· = D)) List.prefix_rfl (fun e n => .same (st e n)) ht' hf' q
  have monos : ∀ {x : List AV} {v : List Value}, VRs C μ s.heap x v → VRs C μ h' x v := fun q => VRs.mono' (P := (· = D)) List.prefix_rfl (fun e n => .same (st e n)) ht' hf' q
  have ff : FF C.z h' base.g base.fs := FF.but st S.ff hfd
  refine ⟨?_, ⟨S.hp.len, S.hp.nd, ?_, ?_⟩, S.er.mono ?_ ?_ mono, S.fresh, S.noloc, S.lm, S.nocell, S.gens, S.os, ?_, ff⟩
  · intro c o e
    exact (S.keep c o e).map id fun e1 => st e1 fun e' => by subst e'; rw [hb] at e; cases e
  · intro i xs e
    obtain ⟨l, c, ws, e', ⟨n, p⟩, q⟩ := S.hp.list e
    exact ⟨l, c, ws, e', ⟨n, st p fun e'' => hO (.inl (e'' ▸ M9 e'))⟩, monos q⟩
  · intro i e
    refine bC fun hno => ?_
    obtain ⟨c, n, e', p⟩ := S.hp.dict e
    refine hno ?_
    exact ⟨c, n, e', st p fun e'' => hO (.inl (e'' ▸ M9 e'))⟩
  · intro m n
    exact n.at fun o e => st e fun e' => hO (.inr (.inl e'.symm))
  · intro x c o e1 e2
    exact st e2 fun e' => hO (.inr (.inr ⟨x, e' ▸ e1⟩))
  · intro a z
    refine bC fun hno => ?_
    obtain ⟨o, e⟩ := S.zl z
    refine hno ?_
    by_cases hc : a = D
    · subst hc; exact hl z
    · exact ⟨o, st e hc⟩
theorem VRs.other {h h' : Heap} {D : Addr} (ht : ∀ {ts : Array Value}, ¬ h.IsTuple D ts) (hf : ∀ {o : Obj} {vs : Array Value}, h.get? D = some o → o.data ≠ .fields vs) (hs : Heap.SameBut D h h') {x : List AV} {v : List Value} (q : VRs C μ h x v) : VRs C μ h' x v :=
  VRs.mono' (P := (· = D)) List.prefix_rfl (fun e n => .same ((hs.2 _ n).trans e)) (fun t e => by subst e; exact ht t) (fun e d e' => by subst e'; exact hf e d) q
theorem VR.other {h h' : Heap} {D : Addr} (ht : ∀ {ts : Array Value}, ¬ h.IsTuple D ts) (hf : ∀ {o : Obj} {vs : Array Value}, h.get? D = some o → o.data ≠ .fields vs) (hs : Heap.SameBut D h h') {x : AV} {v : Value} (q : VR C μ h x v) : VR C μ h' x v :=
  VR.mono' (P := (· = D)) List.prefix_rfl (fun e n => .same ((hs.2 _ n).trans e)) (fun t e => by subst e; exact ht t) (fun e d e' => by subst e'; exact hf e d) q
structure A62 (env cenv : Env) (xs : List Str) (h : Heap) : Prop where
  newL : h.get? cenv.locals = none
  cells : ∀ {y : Str} {c : Addr}, cenv.cells.lookup y = some c → h.get? c = none ∨ (env.cells.lookup y = some c ∧ (cenv.kindOf y = some .cell ∨ cenv.kindOf y = some .free) ∧ y ∉ xs)
theorem Hq {xs Γ : List Str} {y : Str} : slot (xs ++ Γ) y = (slot xs y).or ((slot Γ y).map (· + xs.length)) := by
  unfold slot; rw [List.findIdx?_append]
theorem Un {xs : List Str} {y : Str} (hy : y ∉ xs) : slot xs y = none := by
  unfold slot; rw [List.findIdx?_eq_none_iff]
  intro x hx
  cases e : x == y with
  | false => rfl
  | true => exact absurd (eq_of_beq e ▸ hx) hy
theorem A6c {xs : List Str} {y : Str} (hy : y ∈ xs) : ∃ j, slot xs y = some j ∧ j < xs.length := by
  unfold slot
  cases e : List.findIdx? (fun x => x == y) xs with
  | none => rw [List.findIdx?_eq_none_iff] at e; have := e y hy; simp at this
  | some j => rw [List.findIdx?_eq_some_iff_getElem] at e; exact ⟨j, rfl, e.1⟩
theorem L4 {xs Γ : List Str} {y : Str} (hy : y ∉ xs) : slot (xs ++ Γ) y = (slot Γ y).map (· + xs.length) := by
  rw [Hq, Un hy]; simp
structure Dx (J : Addr → Prop) (env : Env) (μ μ' : List Addr) (h h' : Heap) : Prop where
  pre : μ <+: μ'
  stay : ∀ {a : Addr} {o : Obj}, h.get? a = some o → ¬ Own μ env a → ¬ J a → Kp True a o h'
  new : ∀ {a : Addr}, a ∈ μ' → a ∉ μ → h.get? a = none
  live : ∀ {a : Addr} {o : Obj}, h.get? a = some o → ¬ J a → ∃ o', h'.get? a = some o' ∧ (DT o → DT o')
theorem Dx.grow {h h' : Heap} (k : ∀ {a : Addr} {o : Obj}, h.get? a = some o → h'.get? a = some o) : Dx J env μ μ h h' := ⟨List.prefix_rfl, fun e _ _ => .same (k e), fun p q => absurd p q, fun e _ => ⟨_, k e, id⟩⟩
theorem Dx.trans {h h' h'' : Heap} {μ'' : List Addr} (off : ∀ {a : Addr}, J a → a ∉ μ'') (x : Dx J env μ μ' h h') (y : Ext env μ' μ'' h' h'') : Dx J env μ μ'' h h'' := by
  refine ⟨x.pre.trans y.pre, fun {a o} e ho nj => (x.stay e ho nj).trans fun e' => y.stay e' ?_, fun {a} hm hn => ?_, fun e nj => let ⟨_, e', d⟩ := x.live e nj; let ⟨o, e2, d2⟩ := y.live.go e'; ⟨o, e2, fun q => d2 (d q)⟩⟩
  · rintro (q | q | q)
    · by_cases hq : a ∈ μ
      · exact ho (.inl hq)
      · rw [x.new q hq] at e; cases e
    · exact ho (.inr (.inl q))
    · exact ho (.inr (.inr q))
  · by_cases hq : a ∈ μ'
    · exact x.new hq hn
    · cases e : h.get? a with
      | none => rfl
      | some o =>
        by_cases hj : J a
        · exact absurd hm (off hj)
        · obtain ⟨o', e', _⟩ := x.live e hj; rw [y.new hm hq] at e'; cases e'
theorem Dx.step {h h' h'' : Heap} (x : Dx J env μ μ' h h') (k : ∀ {a : Addr} {o : Obj}, ¬ J a → h'.get? a = some o → h''.get? a = some o) : Dx J env μ μ' h h'' :=
  ⟨x.pre, fun e ho nj => (x.stay e ho nj).map id (k nj), x.new, fun e nj => let ⟨o, e', d⟩ := x.live e nj; ⟨o, k nj e', d⟩⟩
theorem Dx.after {h0 h h' : Heap} {μ0 : List Addr} (x : Ext env μ0 μ h0 h) (y : Dx J env μ μ' h h') (hJ : ∀ {a : Addr}, J a → h0.get? a = none) : Ext env μ0 μ' h0 h' := by
  have nj : ∀ {a : Addr} {o : Obj}, h0.get? a = some o → ¬ J a := fun e j => by rw [hJ j] at e; cases e
  refine ⟨x.pre.trans y.pre, fun {a o} e ho => (x.stay e ho).trans fun e' => y.stay e' ?_ (nj e), fun {a} hm hn => ?_, ⟨fun e => let ⟨_, e', d⟩ := x.live.go e; let ⟨o, e2, d2⟩ := y.live e' (nj e); ⟨o, e2, fun q => d2 (d q)⟩⟩⟩
  · rintro (q | q | q)
    · by_cases hq : a ∈ μ0
      · exact ho (.inl hq)
      · rw [x.new q hq] at e; cases e
    · exact ho (.inr (.inl q))
    · exact ho (.inr (.inr q))
  · by_cases hq : a ∈ μ
    · exact x.new hq hn
    · cases e : h0.get? a with
      | none => rfl
      | some o => obtain ⟨o', e', _⟩ := x.live.go e; rw [y.new hm hq] at e'; cases e'
theorem St.leave {xs : List Str} {vals : A8} (S0 : St C base b env Γ ρ μ H s) (N : A62 env cenv xs s.heap) (hv : vals.length = xs.length) (S1 : St C base b cenv (xs ++ Γ) (vals ++ ρ) μ' H' s') (X : Dx J cenv μ μ' s.heap s'.heap)
    (hJz : ∀ {a : Addr}, J a → C.z a) (hJo : ∀ {a : Addr}, J a → ¬ Own μ env a) : St C base b env Γ ρ μ' H' s' ∧ Dx J env μ μ' s.heap s'.heap := by
  refine bC fun hno => ?_
  have own : ∀ {a : Addr} {o : Obj}, s.heap.get? a = some o → ¬ Own μ env a → ¬ Own μ cenv a := by
    rintro a o e hn (q | q | ⟨y, q⟩)
    · exact hn (.inl q)
    · subst q; rw [N.newL] at e; cases e
    · rcases N.cells q with q' | ⟨q', _⟩
      · rw [q'] at e; cases e
      · exact hn (.inr (.inr ⟨y, q'⟩))
  have X' : Dx J env μ μ' s.heap s'.heap := ⟨X.pre, fun e hn nj => X.stay e (own e hn) nj, X.new, X.live⟩
  have mono : ∀ {x : AV} {v : Value}, VR C μ s.heap x v → VR C μ' s'.heap x v := fun q => VR.mapZ (z := C.z) X.pre (fun e nz k => by
    rcases k with ⟨its, t⟩ | ⟨vs, d⟩
    · exact (X'.stay e (D7 S0.hp S0.er t) fun j => nz (hJz j)).ex (Tk t e)
    · exact (X'.stay e (C4 S0.hp S0.er e d) fun j => nz (hJz j)).ex fun _ _ q => by rw [d] at q; cases q) (fun _ nz => nz) q
  obtain ⟨m, nn, q⟩ := S0.er.ns
  have hL : ∀ {o : Obj}, s.heap.get? env.locals = some o → Kp True env.locals o s'.heap := fun {o} e => by
    refine X.stay e ?_ (fun j => hJo j (.inr (.inl rfl)))
    rintro (q | q | ⟨y, q⟩)
    · exact S0.lm q
    · rw [q, N.newL] at e; cases e
    · rcases N.cells q with q' | ⟨q', _⟩
      · rw [q'] at e; cases e
      · obtain ⟨_, o1, h1, d1⟩ := S0.er.cell q'
        obtain ⟨o2, _, _, h2, d2, _⟩ := nn
        rw [h1] at h2; cases h2; rw [d1] at d2; cases d2
  have hc : ∀ {y : Str} {c : Addr} {o : Obj}, env.cells.lookup y = some c → cenv.cells.lookup y ≠ some c → s.heap.get? c = some o → s'.heap.get? c = some o := fun {y c o} e1 ne e => by
    refine (X.stay e ?_ (fun j => hJo j (.inr (.inr ⟨y, e1⟩)))).ex (by obtain ⟨_, o1, h1, d1⟩ := S0.er.cell e1; rw [e] at h1; cases h1; intro _ _ q; rw [d1] at q; cases q)
    rintro (q | q | ⟨z, q⟩)
    · obtain ⟨_, o1, h1, d1⟩ := S0.er.cell e1
      obtain ⟨i, hi⟩ := Xg q
      obtain ⟨ob, eb⟩ := S0.hp.get hi
      cases ob with
      | list xs => obtain ⟨_, a', _, ea, ⟨_, p⟩, _⟩ := S0.hp.list eb; rw [hi] at ea; cases ea; rw [p] at h1; cases h1; cases d1
      | dict => obtain ⟨a', _, ea, p⟩ := S0.hp.dict eb; rw [hi] at ea; cases ea; rw [p] at h1; cases h1; cases d1
    · rw [q] at e; rw [N.newL] at e; cases e
    · rcases N.cells q with q' | ⟨q', _⟩
      · rw [q'] at e; cases e
      · have := S0.er.inj q' e1; subst this; exact ne q
  refine hno ?_
  refine ⟨⟨S1.keep, S1.hp, ⟨S0.er.kind, ⟨m, Kp.ns nn hL, fun e1 e2 e3 => let ⟨u, e4, v⟩ := q e1 e2 e3; ⟨u, e4, mono v⟩⟩, ?_, ?_, S0.er.inj, S0.er.globals, S0.er.builtins⟩, S1.fresh, S0.noloc, ?_, S0.nocell, S1.gens, S1.os, S1.zl, S1.ff⟩, X'⟩
  · intro y ky
    refine bC fun hno => ?_
    obtain ⟨c, o, e, hcell, qv⟩ := S0.er.cells ky
    refine hno ?_
    by_cases hin : cenv.cells.lookup y = some c
    · obtain ⟨ob, eb, _⟩ := id hcell
      rcases N.cells hin with q' | ⟨_, kc, hy⟩
      · rw [q'] at eb; cases eb
      · refine bC fun hno => ?_
        obtain ⟨c2, o2, e2, hcell2, qv2⟩ := S1.er.cells kc
        rw [hin] at e2; cases e2
        refine hno ?_
        refine ⟨c, o2, e, hcell2, fun {i v} e1 e3 => qv2 (i := i + xs.length) (v := v) (by rw [L4 hy, e1]; rfl) ?_⟩
        rw [List.getElem?_append_right (by exact A9h (Nat.le_of_eq hv)), hv, Nat.add_sub_cancel]; exact e3
    · obtain ⟨ob, eb, db⟩ := hcell
      exact ⟨c, o, e, ⟨ob, hc e hin eb, db⟩, fun e1 e2 => let ⟨u, e3, v⟩ := qv e1 e2; ⟨u, e3, mono v⟩⟩
  · intro y c e
    by_cases hin : cenv.cells.lookup y = some c
    · exact S1.er.cell hin
    · obtain ⟨o, ob, eb, db⟩ := S0.er.cell e
      exact ⟨o, ob, hc e hin eb, db⟩
  · intro q
    by_cases hq : env.locals ∈ μ
    · exact S0.lm hq
    · obtain ⟨o, _, _, ho, _⟩ := nn
      rw [X.new q hq] at ho; cases ho
end
noncomputable def Dd (env : Env) : List (Str × NameKind) → List (Str × Addr) → List (Str × Addr)
  | [], acc => acc
  | (x, k) :: r, acc => if k == .free then Dd env r ((x, (env.cells.lookup x).getD 0) :: acc) else Dd env r acc
theorem He {env : Env} (f : Str × NameKind → List (Str × Addr) → Sem (ForInStep (List (Str × Addr))))
    (hf : ∀ x k cs, f (x, k) cs = if k == .free then (do let a ← cellOf env x; pure (.yield ((x, a) :: cs))) else pure (.yield cs)) :
    ∀ (names : List (Str × NameKind)) (acc : List (Str × Addr)), (∀ p ∈ names, p.2 = .free → ∃ c, env.cells.lookup p.1 = some c) → forIn names acc f = pure (Dd env names acc)
  | [], acc, _ => by rw [List.forIn_nil]; rfl
  | (x, k) :: r, acc, h => by
    rw [List.forIn_cons, hf]
    unfold Dd
    by_cases hk : (k == .free) = true
    · rw [if_pos hk, if_pos hk]
      obtain ⟨c, hc⟩ := h (x, k) List.mem_cons_self (eq_of_beq hk)
      have : cellOf env x = pure c := by unfold cellOf; rw [hc]
      rw [this, hc, pure_bind, pure_bind]
      exact He f hf r _ fun p hp => h p (List.mem_cons_of_mem _ hp)
    · rw [if_neg hk, if_neg hk, pure_bind]
      exact He f hf r _ fun p hp => h p (List.mem_cons_of_mem _ hp)
theorem Oz {env : Env} {scope : Scope} (h : ∀ p ∈ scope.names, p.2 = .free → ∃ c, env.cells.lookup p.1 = some c) : closureFor scope env = pure (Dd env scope.names []) := by
  simp only [closureFor]
  rw [He _ (fun x k cs => by cases hk : k == NameKind.free <;> simp [hk]) scope.names [] h]
  rfl
theorem E5 {env : Env} : ∀ (names : List (Str × NameKind)) (acc : List (Str × Addr)) {y : Str} {c : Addr}, (Dd env names acc).lookup y = some c →
    ((y, .free) ∈ names ∧ (env.cells.lookup y).getD 0 = c) ∨ acc.lookup y = some c
  | [], acc, y, c, h => .inr h
  | (x, k) :: r, acc, y, c, h => by
    unfold Dd at h
    split at h
    · rename_i hk
      have hk' : k = .free := eq_of_beq hk
      subst hk'
      rcases E5 r _ h with ⟨q, e⟩ | q
      · exact .inl ⟨List.mem_cons_of_mem _ q, e⟩
      · rw [List.lookup_cons] at q
        cases e : y == x with
        | true => rw [e] at q; cases q; rw [eq_of_beq e]; exact .inl ⟨List.mem_cons_self, rfl⟩
        | false => rw [e] at q; exact .inr q
    · rcases E5 r _ h with ⟨q, e⟩ | q
      · exact .inl ⟨List.mem_cons_of_mem _ q, e⟩
      · exact .inr q
theorem Jf {env : Env} : ∀ (names : List (Str × NameKind)) (acc : List (Str × Addr)) {y : Str}, (y, .free) ∈ names ∨ (∃ c, acc.lookup y = some c) → ∃ c, (Dd env names acc).lookup y = some c
  | [], acc, y, h => by
    rcases h with h | h
    · cases h
    · exact h
  | (x, k) :: r, acc, y, h => by
    unfold Dd
    split
    · rename_i hk
      refine Jf r _ ?_
      by_cases hyx : y = x
      · subst hyx; exact .inr ⟨(env.cells.lookup y).getD 0, by rw [List.lookup_cons]; simp⟩
      · rcases h with h | ⟨c, h⟩
        · rcases List.mem_cons.mp h with h | h
          · cases h; exact absurd rfl hyx
          · exact .inl h
        · refine .inr ⟨c, ?_⟩
          rw [List.lookup_cons, show (y == x) = false by simpa using hyx]; exact h
    · rename_i hk
      refine Jf r _ ?_
      rcases h with h | h
      · rcases List.mem_cons.mp h with h | h
        · cases h; exact absurd rfl hk
        · exact .inl h
      · exact .inr h
theorem Fh : ∀ (names : List (Str × NameKind)) (k : Nat) (acc cl : List (Str × Addr)), cellsFrom k names (acc ++ cl) = cellsFrom k names acc ++ cl
  | [], _, _, _ => rfl
  | (x, kd) :: r, k, acc, cl => by
    unfold cellsFrom
    split
    · exact Fh r (k + 1) ((x, k) :: acc) cl
    · exact Fh r k acc cl
theorem Fe : ∀ (names : List (Str × NameKind)) (k : Nat) (acc : List (Str × Addr)) {y : Str} {c : Addr}, (cellsFrom k names acc).lookup y = some c → (y, .cell) ∈ names ∨ acc.lookup y = some c
  | [], _, _, _, _, h => .inr h
  | (x, kd) :: r, k, acc, y, c, h => by
    unfold cellsFrom at h
    split at h
    · rename_i hk
      have hk' : kd = .cell := eq_of_beq hk
      subst hk'
      rcases Fe r _ _ h with q | q
      · exact .inl (List.mem_cons_of_mem _ q)
      · rw [List.lookup_cons] at q
        cases e : y == x with
        | true => rw [eq_of_beq e]; exact .inl List.mem_cons_self
        | false => rw [e] at q; exact .inr q
    · rcases Fe r _ _ h with q | q
      · exact .inl (List.mem_cons_of_mem _ q)
      · exact .inr q
theorem Cq : ∀ (names : List (Str × NameKind)) (k : Nat) (acc : List (Str × Addr)) {y : Str}, (y, .cell) ∈ names ∨ (∃ c, acc.lookup y = some c) → ∃ c, (cellsFrom k names acc).lookup y = some c
  | [], _, acc, y, h => by
    rcases h with h | h
    · cases h
    · exact h
  | (x, kd) :: r, k, acc, y, h => by
    unfold cellsFrom
    split
    · rename_i hk
      refine Cq r _ _ ?_
      by_cases hyx : y = x
      · subst hyx; exact .inr ⟨k, by rw [List.lookup_cons]; simp⟩
      · rcases h with h | ⟨c, h⟩
        · rcases List.mem_cons.mp h with h | h
          · cases h; exact absurd rfl hyx
          · exact .inl h
        · refine .inr ⟨c, ?_⟩
          rw [List.lookup_cons, show (y == x) = false by simpa using hyx]; exact h
    · rename_i hk
      refine Cq r _ _ ?_
      rcases h with h | h
      · rcases List.mem_cons.mp h with h | h
        · cases h; exact absurd rfl hk
        · exact .inl h
      · exact .inr h
theorem G7 {S : Scope} {scope : Scope} {y : Str} : (Cs scope S).names.lookup y = (scope.names.lookup y).map fun k => if (k == .free && S.kind == .function && Bf S y == some .cell) then .cell else k := by
  have : ∀ (l : List (Str × NameKind)), (l.map fun (n, k) => if (k == .free && S.kind == .function && Bf S n == some .cell) then (n, NameKind.cell) else (n, k)).lookup y = (l.lookup y).map fun k => if (k == .free && S.kind == .function && Bf S y == some .cell) then .cell else k := by
    intro l
    induction l with
    | nil => rfl
    | cons p r ih =>
      obtain ⟨x, k⟩ := p
      rw [List.map_cons, List.lookup_cons]
      cases e : y == x with
      | true =>
        have e' := eq_of_beq e; subst e'
        by_cases hc : (k == NameKind.free && S.kind == .function && Bf S y == some .cell) = true
        · simp only [hc, if_true, List.lookup_cons, beq_self_eq_true, Option.map_some]
        · simp only [hc, Bool.false_eq_true, if_false, List.lookup_cons, beq_self_eq_true, Option.map_some]
      | false =>
        by_cases hc : (k == NameKind.free && S.kind == .function && Bf S x == some .cell) = true
        · simp only [hc, if_true, List.lookup_cons, e]; exact ih
        · simp only [hc, Bool.false_eq_true, if_false, List.lookup_cons, e]; exact ih
  exact this scope.names
end Mine
namespace Mine
open PySem PySem.Calls PyProof.Rows PySem.SeqAt
noncomputable def Kb (scope : Scope) (L : Addr) (env : Env) : Env :=
  { newEnv scope L env.globals (cellsFrom (L + 1) scope.names (Dd env scope.names [])) env.qual none .none (some env) builtinsNs with scope := Cs scope env.scope }
structure K1 (scope S : Scope) (Γ xs : List Str) : Prop where
  kind : scope.kind = .function
  loc : ∀ x ∈ scope.names, x.2 = .local → scope.names.lookup x.1 = some .local
  cell : ∀ x ∈ scope.names, x.2 = .cell → scope.names.lookup x.1 = some .cell
  free : ∀ x ∈ scope.names, x.2 = .free → scope.names.lookup x.1 = some .free ∧ (Bf S x.1 = some .cell ∨ Bf S x.1 = some .free)
  own : ∀ x ∈ scope.names, (x.2 = .local ∨ x.2 = .cell) → x.1 ∈ xs ∨ slot Γ x.1 = none
  tgt : ∀ x ∈ xs, B2 scope x = true
section
variable {C : Cx} {T : Tab} {n b : Nat} {Γ : List Str} {S : Scope} {nm : Bool} {J : Addr → Prop}
variable {base : Bs} {env cenv : Env} {ρ : A8} {μ μ' : List Addr} {H H' : A0} {s s' : Shared} {A : Around} {E : Value → Shared → Prop}
variable {scope : Scope} {xs : List Str} {M : Model}
theorem A5w {Q : Env → Shared → Prop}
    (hQ : ∀ h', (∀ {a : Addr} {o : Obj}, s.heap.get? a = some o → h'.get? a = some o) → h'.Ns s.heap.objs.size (fun _ => none) → CellsOk h' (s.heap.objs.size + 1) (cellsFrom (s.heap.objs.size + 1) scope.names []) →
      Q (newEnv scope s.heap.objs.size env.globals (cellsFrom (s.heap.objs.size + 1) scope.names (Dd env scope.names [])) env.qual none .none (some env) builtinsNs) { s with heap := h' }) :
    wpAny M A (newFunctionEnv scope env.globals (Dd env scope.names []) [] env.qual none .none (some env)) Q E s := by
  simp only [newFunctionEnv, Option.isSome_some, if_true]
  refine wpAny_bind (wpAny_alloc ?_)
  refine wpAny_bind (wpAny_layCells _ (fun name kind cells => by cases hkc : kind == NameKind.cell <;> simp) _ _ _ _ ?_)
  have ok := cellsFrom_ok scope.names (s.heap.push { cls := .type "dict", data := .dict #[] }) (s.heap.objs.size + 1) [] ⟨fun _ _ hm => (nomatch hm), List.Pairwise.nil⟩ (by rw [Heap.size_push]; exact Nat.le_refl _)
  rw [Heap.size_push] at ok
  rw [show ({ s with heap := s.heap.push { cls := .type "dict", data := .dict #[] } } : Shared).heap.objs.size = s.heap.objs.size + 1 from Heap.size_push ..]
  rw [List.forIn_nil]
  refine wpAny_bind (wpAny_pure (wpAny_pure ?_))
  exact hQ _ (fun e => pushCells_keeps _ _ _ _ (Heap.get?_push_of_some _ e)) ((Heap.Ns.new s.heap (.type "dict")).keeps (pushCells_keeps _ _)) ok
theorem Jj (hs : K1 scope env.scope Γ xs) {y : Str} {k : NameKind} (e : (Kb scope n env).kindOf y = some k) :
    (k = .local ∧ scope.names.lookup y = some .local) ∨ (k = .cell ∧ scope.names.lookup y = some .cell) ∨ ((k = .cell ∨ k = .free) ∧ scope.names.lookup y = some .free) ∨ (k ≠ .local ∧ k ≠ .cell ∧ k ≠ .free) := by
  have e' : (Cs scope env.scope).names.lookup y = some k := e
  rw [G7] at e'
  cases q : scope.names.lookup y with
  | none => rw [q] at e'; cases e'
  | some k0 =>
    rw [q] at e'
    simp only [Option.map_some, Option.some.injEq] at e'
    split at e'
    · rename_i hc
      simp only [Bool.and_eq_true, beq_iff_eq] at hc
      rw [hc.1.1]; exact .inr (.inr (.inl ⟨.inl e'.symm, rfl⟩))
    · subst e'
      cases k0 <;> simp
theorem Yc (hs : K1 scope env.scope Γ xs) {y : Str} (e : scope.names.lookup y = some .free) : (Kb scope n env).kindOf y = some .cell ∨ (Kb scope n env).kindOf y = some .free := by
  have : (Kb scope n env).kindOf y = (Cs scope env.scope).names.lookup y := rfl
  rw [this, G7, e]
  simp only [Option.map_some]
  split
  · exact .inl rfl
  · exact .inr rfl
theorem Ou (hs : K1 scope S Γ xs) {y : Str} (e : scope.names.lookup y = some .free) : y ∉ xs := fun hy => by
  have := hs.tgt y hy
  unfold B2 Bf at this
  rw [e] at this; cases this
theorem U6 (hs : K1 scope S Γ xs) {y : Str} {i : Nat} {v : AV} (hm : ∃ k, (y, k) ∈ scope.names ∧ (k = NameKind.local ∨ k = NameKind.cell)) (e : slot (xs ++ Γ) y = some i) (e' : (List.replicate xs.length (none : Option AV) ++ ρ)[i]? = some (some v)) : False := by
  obtain ⟨k, hm, hk⟩ := hm
  by_cases hy : y ∈ xs
  · obtain ⟨j, ej, hj⟩ := A6c hy
    rw [Hq, ej] at e
    simp only [Option.some_or, Option.some.injEq] at e
    subst e
    rw [List.getElem?_append_left (by simpa using hj)] at e'
    simp [hj] at e'
  · rcases hs.own _ hm hk with q | q
    · exact hy q
    · rw [L4 hy] at e
      have q' : slot Γ y = none := q
      rw [q'] at e; cases e
theorem Nc {α : Type} : ∀ (l1 l2 : List (Str × α)) (y : Str), (l1 ++ l2).lookup y = (l1.lookup y).or (l2.lookup y)
  | [], l2, y => by simp
  | (x, c) :: r, l2, y => by
    simp only [List.cons_append, List.lookup_cons]
    cases y == x with
    | true => simp
    | false => exact Nc r l2 y
theorem St.enter (st : St C base b env Γ ρ μ H s) (hs : K1 scope env.scope Γ xs) {h' : Heap} {L : Addr} (hL : s.heap.objs.size ≤ L) (kk : ∀ {a : Addr} {o : Obj}, s.heap.get? a = some o → h'.get? a = some o)
    (nn : h'.Ns L (fun _ => none)) (cs : CellsOk h' (L + 1) (cellsFrom (L + 1) scope.names [])) :
    St C base b (Kb scope L env) (xs ++ Γ) (List.replicate xs.length none ++ ρ) μ H { s with heap := h' } ∧ A62 env (Kb scope L env) xs s.heap := by
  have hcl : ∀ y, (Kb scope L env).cells.lookup y = ((cellsFrom (L + 1) scope.names []).lookup y).or ((Dd env scope.names []).lookup y) := fun y => by
    show (cellsFrom (L + 1) scope.names (Dd env scope.names [])).lookup y = _
    rw [← Nc, ← Fh]; rfl
  have hcases : ∀ {y : Str} {c : Addr}, (Kb scope L env).cells.lookup y = some c → ((cellsFrom (L + 1) scope.names []).lookup y = some c) ∨ (env.cells.lookup y = some c ∧ (y, .free) ∈ scope.names) := by
    intro y c e
    rw [hcl, Option.or_eq_some_iff] at e
    rcases e with e | ⟨_, e⟩
    · exact .inl e
    · rcases E5 _ _ e with ⟨q, e'⟩ | q
      · obtain ⟨c', o', ec, _⟩ := st.er.cells (x := y) (hs.free _ q rfl).2
        rw [ec] at e'
        cases e'
        exact .inr ⟨ec, q⟩
      · cases q
  have hown : ∀ {y : Str} {c : Addr}, (cellsFrom (L + 1) scope.names []).lookup y = some c → h'.IsCell c none ∧ L + 1 ≤ c := fun e => cs.empty _ _ (mem_of_lookup e)
  have hlt : ∀ {y : Str} {c : Addr}, env.cells.lookup y = some c → c < s.heap.objs.size := fun e => by
    obtain ⟨_, o, eo, _⟩ := st.er.cell e; exact Heap.lt_size eo
  refine ⟨⟨fun a o e => (st.keep a o e).map id kk, st.hp.keeps kk, ⟨hs.kind, ⟨_, nn, ?_⟩, ?_, ?_, ?_, st.er.globals, st.er.builtins⟩, st.fresh, Bq st (Do hL), Ge st (Do hL), ?_, st.gens, st.os, fun z => let ⟨o, e⟩ := st.zl z; ⟨o, kk e⟩, (Lv.grow kk).ff st.ff⟩, ⟨Do hL, ?_⟩⟩
  · intro y i v e1 e2 e3
    exfalso
    rcases Jj hs e2 with ⟨_, q⟩ | ⟨q, _⟩ | ⟨q, _⟩ | ⟨q, _⟩
    · exact U6 hs ⟨_, mem_of_lookup q, .inl rfl⟩ e1 e3
    · cases q
    · rcases q with q | q <;> cases q
    · exact q rfl
  · intro y ky
    have : scope.names.lookup y = some .cell ∨ scope.names.lookup y = some .free := by
      rcases ky with ky | ky
      · rcases Jj hs ky with ⟨q, _⟩ | ⟨_, q⟩ | ⟨_, q⟩ | ⟨_, q, _⟩
        · cases q
        · exact .inl q
        · exact .inr q
        · exact absurd rfl q
      · rcases Jj hs ky with ⟨q, _⟩ | ⟨q, _⟩ | ⟨_, q⟩ | ⟨_, _, q⟩
        · cases q
        · cases q
        · exact .inr q
        · exact absurd rfl q
    rcases this with q | q
    · obtain ⟨c, e⟩ := Cq scope.names (L + 1) [] (.inl (mem_of_lookup q))
      refine ⟨c, none, by rw [hcl, e]; rfl, (hown e).1, fun e1 e2 => (U6 hs ⟨_, mem_of_lookup q, .inr rfl⟩ e1 e2).elim⟩
    · have hm := mem_of_lookup q
      obtain ⟨c, o, ec, hcell, qv⟩ := st.er.cells (x := y) (hs.free _ hm rfl).2
      have hno : (cellsFrom (L + 1) scope.names []).lookup y = none := by
        cases e : (cellsFrom (L + 1) scope.names []).lookup y with
        | none => rfl
        | some c' =>
          rcases Fe _ _ _ e with q' | q'
          · have := hs.cell _ q' rfl; rw [q] at this; cases this
          · cases q'
      obtain ⟨c', e'⟩ := Jf (env := env) scope.names [] (.inl hm)
      have : c' = c := by
        rcases E5 _ _ e' with ⟨_, q'⟩ | q'
        · rw [ec] at q'; exact q'.symm
        · cases q'
      subst this
      obtain ⟨ob, eb, db⟩ := hcell
      refine ⟨c', o, by rw [hcl, hno, e']; rfl, ⟨ob, kk eb, db⟩, fun {i v} e1 e2 => ?_⟩
      have hy := Ou hs q
      rw [L4 hy] at e1
      cases ei : slot Γ y with
      | none => rw [ei] at e1; cases e1
      | some j =>
        refine bC fun hno => ?_
        rw [ei] at e1
        cases e1
        rw [List.getElem?_append_right (by simp), List.length_replicate, Nat.add_sub_cancel] at e2
        obtain ⟨u, e3, v3⟩ := qv ei e2
        refine hno ?_
        exact ⟨u, e3, v3.keeps kk⟩
  · intro y c e
    rcases hcases e with e | ⟨e, _⟩
    · exact ⟨_, (hown e).1⟩
    · obtain ⟨o, ob, eb, db⟩ := st.er.cell e; exact ⟨o, ob, kk eb, db⟩
  · intro y z c e1 e2
    rcases hcases e1 with e1 | ⟨e1, _⟩ <;> rcases hcases e2 with e2 | ⟨e2, _⟩
    · exact name_of_addr cs.apart (mem_of_lookup e1) (mem_of_lookup e2)
    · exact absurd (Nat.lt_of_lt_of_le (hlt e2) (Nat.le_trans hL (Nat.le_of_succ_le (hown e1).2))) (Nat.lt_irrefl _)
    · exact absurd (Nat.lt_of_lt_of_le (hlt e1) (Nat.le_trans hL (Nat.le_of_succ_le (hown e2).2))) (Nat.lt_irrefl _)
    · exact st.er.inj e1 e2
  · intro y c e
    rcases hcases e with e | ⟨e, _⟩
    · exact Bq st (Do (Nat.le_trans hL (Nat.le_of_succ_le (hown e).2)))
    · exact st.nocell e
  · intro y c e
    rcases hcases e with e | ⟨e, q⟩
    · exact .inl (Do (Nat.le_trans hL (Nat.le_of_succ_le (hown e).2)))
    · have := (hs.free _ q rfl).1
      exact .inr ⟨e, Yc hs this, Ou hs this⟩
end
end Mine
namespace Mine
open PySem PySem.Calls PyProof.Rows PySem.SeqAt
section
variable (C : Cx) (T : Tab) (n b : Nat) (Γ : List Str) (S : Scope)
structure Td (ifs : List Expr) (d : A8 → A0 → Res Bool) : Prop where
  ok : ∀ {base : Bs} {env : Env} {ρ : A8} {μ : List Addr} {H H' : A0} {s : Shared} {A : Around} {E : Value → Shared → Prop} {Q : Bool → Shared → Prop} {v : Bool},
    Gnd C T base → env.scope = S → St C base b env Γ ρ μ H s → AOk base A n → d ρ H = .ok v H' → (∀ s' μ', Ext env μ μ' s.heap s'.heap → St C base b env Γ ρ μ' H' s' → Q v s') →
    wpAny (model C.prog C.w) A (forIn ifs true fun c r => if r = true then do let ok ← isTrue c env (eval c env); pure (ForInStep.yield ok) else pure (ForInStep.yield r)) Q E s
end
section
variable {C : Cx} {T : Tab} {n b : Nat} {Γ : List Str} {S : Scope} {nm : Bool} {J : Addr → Prop}
variable {base : Bs} {env cenv : Env} {ρ : A8} {μ μ' : List Addr} {H H' : A0} {s s' : Shared} {A : Around} {E : Value → Shared → Prop}
variable {scope : Scope} {xs : List Str} {M : Model}
theorem Td.nil {d : A8 → A0 → Res Bool} (hd : ∀ ρ H, d ρ H = .ok true H) : Td C T n b Γ S [] d := by
  refine ⟨?_⟩
  intro base env ρ μ H H' s A E Q v G hS st a ed k
  rw [hd] at ed; cases ed
  exact wpAny_tests_nil (k s μ .refl st)
theorem Td.one {c : Expr} {d : A8 → A0 → Res Bool} (h : Gx C T n b Γ S c d) : Td C T n b Γ S [c] d := by
  refine ⟨?_⟩
  intro base env ρ μ H H' s A E Q v G hS st a ed k
  exact wpAny_tests_one (h.ok G hS st a ed k)
theorem Sd (st : St C base b env Γ ρ μ H s) {D : Addr} {its : Array Value} (hD : D ∉ μ) (p : s.heap.PlainList D its) (X : Ext env μ μ' s.heap s'.heap) : s'.heap.PlainList D its ∧ D ∉ μ' := by
  obtain ⟨k, e⟩ := id p
  refine ⟨⟨k, (X.stay e ?_).ex (fun _ _ q => by cases q)⟩, fun q => ?_⟩
  · rintro (q | q | ⟨y, q⟩)
    · exact hD q
    · obtain ⟨m, nn, _⟩ := st.er.ns; exact PlainList.not_ns p (q ▸ nn)
    · obtain ⟨o, hc⟩ := st.er.cell q; exact PlainList.not_cell p hc
  · rw [X.new q hD] at e; cases e
theorem Qt (st : St C base b env Γ ρ μ H s) {D : Addr} {its : Array Value} (hD : D ∉ μ) (p : s.heap.PlainList D its) : ¬ Own μ env D := by
  rintro (q | q | ⟨y, q⟩)
  · exact hD q
  · obtain ⟨m, nn, _⟩ := st.er.ns; exact PlainList.not_ns p (q ▸ nn)
  · obtain ⟨o, hc⟩ := st.er.cell q; exact PlainList.not_cell p hc
inductive CI (C : Cx) (J : Addr → Prop) (base : Bs) (b : Nat) (env cenv : Env) (xs Γ : List Str) (ρ : A8) (D : Addr) (ws : List (Nat × List AV)) (R : List AV → List Addr → Heap → Prop) (μ2 : List Addr) (h2 : Heap) (step : AV → A0 → Res (Option AV)) (total : List AV) (Hf : A0) (m : Nat) (s1 : Shared) : Prop
  | mk (l : List AV) (vals : A8) (done : List AV) (Af : List Value) (μ1 : List Addr) (H1 : A0) (hl : List.length l = m) (hv : List.length vals = xs.length) (S1 : St C base b cenv (xs ++ Γ) (vals ++ ρ) μ1 H1 s1) (r1 : R l μ1 s1.heap) (hw : ∀ w ∈ ws, H1[w.1]? = some (.list w.2)) (X1 : Dx J cenv μ2 μ1 h2 s1.heap) (hD : D ∉ μ1)
    (p1 : s1.heap.PlainList D (List.toArray Af)) (q1 : VRs C μ1 s1.heap done Af) (r : List AV) (er : Bp ws step l H1 = .ok r Hf) (et : done ++ r = total) : CI C J base b env cenv xs Γ ρ D ws R μ2 h2 step total Hf m s1
structure Rt (C : Cx) (base : Bs) (b : Nat) (env : Env) (Γ : List Str) (ρ : A8) (μ : List Addr) (h : Heap) (total : List AV) (Hf : A0) (D L : Addr) (s1 : Shared) : Prop where
  ex : ∃ μ1, St C base b env Γ ρ (μ1 ++ [D]) (Hf ++ [.list total]) s1 ∧ Ext env μ (μ1 ++ [D]) h s1.heap ∧ VR C (μ1 ++ [D]) s1.heap (.ref Hf.length) (.ref D) ∧ ¬ Own (μ1 ++ [D]) env L
  ns : ∃ m, s1.heap.Ns L m
  base : base.get? L = none
  new : h.get? L = none
theorem A3k {it : Value} {ws : List (Nat × List AV)} {R : List AV → List Addr → Heap → Prop} {MM : List AV → Value → List Addr → Heap → Prop} {D : Addr} {total : List AV} {Af : List Value} {vals : A8} {μ1 μ2 : List Addr} {s1 s2 : Shared} {H2 Hf : A0}
    (st : St C base b env Γ ρ μ H s) (X0 : Ext env μ μ2 s.heap s2.heap) (st2 : St (C.plus J) base b env Γ ρ μ2 H2 s2) (N : A62 env cenv xs s2.heap) (hJ0 : ∀ {a : Addr}, J a → s.heap.get? a = none) (hJb : ∀ {a : Addr}, J a → base.get? a = none)
    (W : Jw (C.plus J) base it J ws nm R MM) (hD2 : s2.heap.get? D = none) (hJD : ¬ J D) (hJo : ∀ {a : Addr}, J a → ¬ Own μ2 env a)
    (hv : vals.length = xs.length) (S1 : St (C.plus J) base b cenv (xs ++ Γ) (vals ++ ρ) μ1 Hf s1) (r1 : R [] μ1 s1.heap) (X : Dx J cenv μ2 μ1 s2.heap s1.heap) (hD : D ∉ μ1) (p : s1.heap.PlainList D Af.toArray) (q : VRs (C.plus J) μ1 s1.heap total Af) (hz : total.length ≤ lim)
    {h' : Heap} {tk : Nat} (kk : ∀ {a : Addr} {o : Obj}, ¬ J a → s1.heap.get? a = some o → h'.get? a = some o) :
    Rt C base b env Γ ρ μ s.heap total Hf D cenv.locals { s1 with heap := h', toks := tk } := by
  refine bC fun hno => ?_
  obtain ⟨S1', X'⟩ := st2.leave N hv S1 X (fun j => .inr j) hJo
  have X1 := Dx.after X0 X' hJ0
  have off : ∀ {a : Addr}, J a → ¬ Own μ1 cenv a := W.off S1 r1
  have offE : ∀ {a : Addr}, J a → ¬ Own μ1 env a := W.off S1' r1
  have S3 := S1'.leaveJ (tk := tk) kk offE hJb (zJ (h := s.heap) st hJ0)
  have X3 : Ext env μ μ1 s.heap h' := X1.but hJ0 kk
  obtain ⟨k, p'⟩ := id p
  have p3 : h'.PlainList D Af.toArray := ⟨k, kk hJD p'⟩
  have q3 : VRs C μ1 h' total Af := VRs.mapZ (C := C.plus J) (z := C.z) List.prefix_rfl (fun e nz _ => kk (fun j => nz (.inr j)) e) (fun _ nz z => nz (.inl z)) q
  have sD : s.heap.get? D = none := by
    cases e : s.heap.get? D with
    | none => rfl
    | some o => obtain ⟨o', e', _⟩ := X0.live.go e; rw [hD2] at e'; cases e'
  obtain ⟨m, nn, _⟩ := S1.er.ns
  have nn3 : h'.Ns cenv.locals m := nn.at fun o e => kk (fun j => off j (.inr (.inl rfl))) e
  have newL : s.heap.get? cenv.locals = none := by
    cases e : s.heap.get? cenv.locals with
    | none => rfl
    | some o => obtain ⟨o', e', _⟩ := X0.live.go e; rw [N.newL] at e'; cases e'
  refine hno ?_
  refine ⟨⟨μ1, S3.track p3 q3 hD (Bq st2 hD2) hz, X3.trackX sD, .ref (by rw [← S3.hp.len]; simp), ?_⟩, ⟨m, nn3⟩, S1.noloc, newL⟩
  rintro (e | e | ⟨y, e⟩)
  · rcases List.mem_append.mp e with e | e
    · exact S1.lm e
    · simp at e; exact PlainList.not_ns p (e ▸ nn)
  · obtain ⟨m', ⟨o, _, _, ho, _⟩, _⟩ := st2.er.ns
    rw [← e, N.newL] at ho; cases ho
  · obtain ⟨_, o, ho, _⟩ := st2.er.cell e
    rw [N.newL] at ho; cases ho
theorem Mt {ws : List (Nat × List AV)} {step : AV → A0 → Res (Option AV)} {v : AV} {l r : List AV} {Hf : A0} (e : Bp ws step (v :: l) H = .ok r Hf) :
    ∃ o H1 r', step v H = .ok o H1 ∧ ws.all (fun w => G2 H1 w.1 w.2) = true ∧ Bp ws step l H1 = .ok r' Hf ∧ r = Wz o r' := by
  unfold Bp at e
  obtain ⟨o, H1, e1, e⟩ := Res.get_ok e
  split at e
  · rename_i hs
    refine bC fun hno => ?_
    obtain ⟨r', H2, e2, e⟩ := Res.get_ok e
    cases e
    refine hno ?_
    exact ⟨o, H1, r', e1, hs, e2, rfl⟩
  · cases e
theorem CI.skip {ws : List (Nat × List AV)} {R : List AV → List Addr → Heap → Prop} {D : Addr} {μ2 : List Addr} {h2 : Heap} {step : AV → A0 → Res (Option AV)} {total done l r : List AV} {Hf H1 : A0} {vals : A8} {Af : List Value} {μ1 : List Addr} {s1 : Shared}
    (hv : vals.length = xs.length) (S1 : St C base b cenv (xs ++ Γ) (vals ++ ρ) μ1 H1 s1) (r1 : R l μ1 s1.heap) (hw : ws.all (fun w => G2 H1 w.1 w.2) = true) (X : Dx J cenv μ2 μ1 h2 s1.heap) (hD : D ∉ μ1) (p : s1.heap.PlainList D Af.toArray) (q : VRs C μ1 s1.heap done Af)
    (e : Bp ws step l H1 = .ok r Hf) (et : done ++ r = total) : CI C J base b env cenv xs Γ ρ D ws R μ2 h2 step total Hf l.length s1 :=
  ⟨l, vals, done, Af, μ1, H1, rfl, hv, S1, r1, Uu hw, X, hD, p, q, r, e, et⟩
theorem CI.keep {it : Value} {ws : List (Nat × List AV)} {R : List AV → List Addr → Heap → Prop} {MM : List AV → Value → List Addr → Heap → Prop} {D : Addr} {μ2 : List Addr} {h2 : Heap} {step : AV → A0 → Res (Option AV)} {total done l r : List AV} {Hf H1 : A0} {vals : A8} {Af : List Value} {μ1 : List Addr} {s1 : Shared} {x : AV} {u : Value}
    (W : Jw C base it J ws nm R MM) (hD2 : h2.get? D = none) (hbD : base.get? D = none) (hz : total.length ≤ lim)
    (hv : vals.length = xs.length) (S1 : St C base b cenv (xs ++ Γ) (vals ++ ρ) μ1 H1 s1) (r1 : R l μ1 s1.heap) (hw : ws.all (fun w => G2 H1 w.1 w.2) = true) (X : Dx J cenv μ2 μ1 h2 s1.heap) (hD : D ∉ μ1) (p : s1.heap.PlainList D Af.toArray) (q : VRs C μ1 s1.heap done Af) (V : VR C μ1 s1.heap x u)
    (e : Bp ws step l H1 = .ok r Hf) (et : done ++ (x :: r) = total) : wpAny (model C.prog C.w) A (call (.builtin "list.append") [.ref D, u]) (fun _ s5 => ∃ m, m < (l.length + 1) ∧ CI C J base b env cenv xs Γ ρ D ws R μ2 h2 step total Hf m s5) E s1 := by
  have hsz : Af.toArray.size ≤ sizeLine := by
    rw [List.size_toArray, ← q.length]
    refine D8 (Nat.le_trans ?_ hz)
    rw [← et]; simp
  refine wpAny_list_append_plain p (fun h5 pl hs => ⟨l.length, Nat.lt_succ_self _, ?_⟩) hsz
  rw [Pi] at pl
  have ht : ∀ {ts : Array Value}, ¬ s1.heap.IsTuple D ts := Ms p
  have hf : ∀ {o : Obj} {vs : Array Value}, s1.heap.get? D = some o → o.data ≠ .fields vs := Lq p
  have st : ∀ {c : Addr} {o : Obj}, c ≠ D → s1.heap.get? c = some o → h5.get? c = some o := fun n e => (hs.2 _ n).trans e
  refine ⟨l, vals, done ++ [x], Af ++ [u], μ1, H1, rfl, hv, S1.other (tk := s1.toks) ht hf (Qt S1 hD p) hbD hs (fun _ => let ⟨k, e⟩ := pl; ⟨_, e⟩) (let ⟨k, e⟩ := p; S1.ff.off e fun _ _ q => by cases q), ?_, Uu hw, ?_, hD, pl, ?_, r, e, by simpa using et⟩
  · refine W.frame r1 List.prefix_rfl fun {a o} e k => st (fun e' => ?_) e
    subst e'
    rcases k with ⟨its, t⟩ | ⟨vs, d⟩
    · exact ht t
    · exact hf e d
  · have nD : ∀ {a : Addr} {o : Obj}, h2.get? a = some o → a ≠ D := fun e e' => by rw [e', hD2] at e; cases e
    exact ⟨X.pre, fun e n j => (X.stay e n j).map id (st (nD e)), X.new, fun e j => let ⟨o, e', d⟩ := X.live e j; ⟨o, st (nD e) e', d⟩⟩
  · exact (q.other ht hf hs).append (.cons (V.other ht hf hs) .nil)
theorem Yl {prog : Program} {w : World} {A : Around} {elt target iter : Expr} {scope : Scope} {pos : Pos} {it acc : Value} {env : Env} {R : Result → Shared → Prop} (I : Nat → Shared → Prop)
    (step : ∀ m s, I m s → wpAny (model prog w) A (pyNext it) (fun r s1 => match r with
      | none => R (.ok .next) s1
      | some v => wpAny (model prog w) A (letOwnedTupleGo target it v) (fun _ s2 => wpAny (model prog w) A (assign target env v) (fun _ s3 => wpAny (model prog w) A (eval elt env) (fun x s4 =>
          wpAny (model prog w) A (call (.builtin "list.append") [acc, x]) (fun _ s5 => ∃ k, k < m ∧ I k s5) (notedBy (model prog w) A env fun e s' => R (.error e) s') s4)
          (notedBy (model prog w) A env fun e s' => R (.error e) s') s3) (notedBy (model prog w) A env fun e s' => R (.error e) s') s2) (notedBy (model prog w) A env fun e s' => R (.error e) s') s1) (notedBy (model prog w) A env fun e s' => R (.error e) s') s)
    (m : Nat) {s : Shared} (h : I m s) : codeAny (model prog w) A (.compLoop (.ListComp elt [⟨target, iter, [], 0⟩] scope pos) 0 it acc env) R s := by
  apply codeAny_loop rfl I _ m h
  intro m s hI
  change wpAny _ A ((compTurn (.ListComp elt [⟨target, iter, [], 0⟩] scope pos) 0 it acc env).onRaise (fun x => do noteFrame x env; theTreesLotGoes x)) _ _ s
  apply wpAny_noted
  rw [compTurn_list1]
  apply wpAny_bind
  apply wpAny_standAt
  apply wpAny_bind
  refine wpAny_mono (step m s hI) ?_ (fun _ _ q => q)
  rintro (_ | v) s1 h1
  · exact wpAny_pure h1
  · refine wpAny_bind (wpAny_mono h1 ?_ (fun _ _ q => q))
    intro _ s2 h2
    refine wpAny_bind (wpAny_mono h2 ?_ (fun _ _ q => q))
    intro _ s3 h3
    refine wpAny_bind (wpAny_bind (wpAny_mono h3 ?_ (fun _ _ q => q)))
    intro x s4 h4
    refine wpAny_bind (wpAny_mono h4 ?_ (fun _ _ q => q))
    intro _ s5 h5
    exact wpAny_pure (wpAny_pure ⟨rfl, h5⟩)
inductive A14 (C : Cx) (base : Bs) (b : Nat) (env : Env) (Γ : List Str) (ρ : A8) (μ : List Addr) (s : Shared) (scope : Scope) (xs : List Str) (nm : Bool) (p : List AV × List (Nat × List AV)) (H0 : A0) (it : Value) (D L : Addr) (cenv : Env) (J : Addr → Prop) (R : List AV → List Addr → Heap → Prop) (MM : List AV → Value → List Addr → Heap → Prop) (μ2 : List Addr) (s2 : Shared) (h4 : Heap) : Prop
  | mk (X0 : Ext env μ μ2 s.heap s2.heap) (hJ0 : ∀ {a : Addr}, J a → s.heap.get? a = none) (hJb : ∀ {a : Addr}, J a → base.get? a = none) (S2 : St (C.plus J) base b env Γ ρ μ2 H0 s2) (W : Jw (C.plus J) base it J p.2 nm R MM) (r0 : R p.1 μ2 s2.heap)
      (hw : ∀ w ∈ p.2, H0[w.1]? = some (.list w.2)) (kk : ∀ {a : Addr} {o : Obj}, s2.heap.get? a = some o → h4.get? a = some o) (pl4 : h4.PlainList D ([] : List Value).toArray) (hD2 : s2.heap.get? D = none)
      (S4 : St (C.plus J) base b cenv (xs ++ Γ) (List.replicate xs.length none ++ ρ) μ2 H0 { s2 with heap := h4 }) (N4 : A62 env cenv xs s2.heap) (hcs : cenv.scope = Cs scope env.scope) (hcl : cenv.locals = L)
      (hst : ∀ z ∈ xs, B2 (Cs scope env.scope) z = true) : A14 C base b env Γ ρ μ s scope xs nm p H0 it D L cenv J R MM μ2 s2 h4
theorem O2 {xs : List Str} {nm : Bool} {iter cx : Expr} {di : A8 → A0 → Res (List AV × List (Nat × List AV))} {p : List AV × List (Nat × List AV)} {H0 : A0} {RR : Value → Addr → Result → Shared → Prop}
    (hs : K1 scope S Γ xs) (hi : Iw C T n b Γ S nm iter di) (G : Gnd C T base) (hS : env.scope = S) (st : St C base b env Γ ρ μ H s) (a : AOk base A n) (e0 : di ρ H = .ok p H0)
    (k : ∀ it D L cenv J R MM μ2 s2 h4, A14 C base b env Γ ρ μ s scope xs nm p H0 it D L cenv J R MM μ2 s2 h4 → codeAny (model C.prog C.w) A (.compStart cx 0 it (.ref D) cenv) (RR (.ref D) L) { s2 with heap := h4 }) :
    wpAny (model C.prog C.w) A (eval iter env) (fun x' s₁ => wpAny (model C.prog C.w) A (pyIter x') (fun it s₂ => wpAny (model C.prog C.w) A (newList []) (fun acc s₃ =>
      wpAny (model C.prog C.w) A (newFunctionEnv scope env.globals (Dd env scope.names []) [] env.qual none .none (some env)) (fun cenv s₄ =>
        codeAny (model C.prog C.w) A (.compStart cx 0 it acc { cenv with scope := relabel scope env }) (RR acc cenv.locals) s₄) E s₃) E s₂) E s₁) E s := by
  refine hi.ok G hS st a e0 fun it s2 μ2 J R MM X0 hJ0 hJb S2 W r0 hw => ?_
  refine wpAny_newObj_type (A5w fun h4 kk4 nn4 cs4 => ?_)
  dsimp only at nn4 cs4 ⊢
  refine bC fun hno => ?_
  subst hS
  have kk24 : ∀ {a : Addr} {o : Obj}, s2.heap.get? a = some o → h4.get? a = some o := fun e => kk4 (Heap.get?_push_of_some _ e)
  obtain ⟨S4, N4⟩ := S2.enter hs (h' := h4) (by rw [Heap.size_push]; exact Nat.le_succ _) kk24 nn4 cs4
  refine hno ?_
  refine k it _ _ (Kb scope _ env) J R MM μ2 s2 h4 ⟨X0, hJ0, hJb, S2, W, r0, hw, kk24, ⟨_, kk4 (Heap.get?_push_size _ rfl)⟩, Ax _, S4, N4, rfl, rfl, fun z hz => ?_⟩
  have := hs.tgt z hz
  unfold B2 Bf at this ⊢
  rw [G7]
  simp only [Bool.or_eq_true, beq_iff_eq] at this
  rcases this with q | q <;> rw [q] <;> simp
theorem U4 {xs : List Str} {nm : Bool} {p : List AV × List (Nat × List AV)} {H0 H1 Hf : A0} {it : Value} {D L : Addr} {cenv : Env} {J : Addr → Prop} {R : List AV → List Addr → Heap → Prop} {MM : List AV → Value → List Addr → Heap → Prop} {μ1 μ2 : List Addr} {s1 s2 : Shared} {h4 : Heap} {vals : List (Option AV)} {vs done r : List AV} {Af : List Value} {stp : AV → A0 → Res (Option AV)} {RR : Value → Addr → Result → Shared → Prop} {Q : Option Value → Shared → Prop}
    (Z : A14 C base b env Γ ρ μ s scope xs nm p H0 it D L cenv J R MM μ2 s2 h4) (st : St C base b env Γ ρ μ H s) (a : AOk base A n) (hz : vs.length ≤ lim) (k : ∀ D L s', Rt C base b env Γ ρ μ s.heap vs Hf D L s' → RR (.ref D) L (.ok .next) s')
    (hv : vals.length = xs.length) (S1 : St (C.plus J) base b cenv (xs ++ Γ) (vals ++ ρ) μ1 H1 s1) (r1 : R [] μ1 s1.heap) (hw1 : ∀ w ∈ p.2, H1[w.1]? = some (.list w.2)) (X1 : Dx J cenv μ2 μ1 s2.heap s1.heap) (hD1 : D ∉ μ1) (p1 : s1.heap.PlainList D Af.toArray) (q1 : VRs (C.plus J) μ1 s1.heap done Af)
    (er : Bp p.2 stp [] H1 = .ok r Hf) (et : done ++ r = vs) (hQ : ∀ s', RR (.ref D) L (.ok .next) s' → Q none s') : wpAny (model C.prog C.w) A (pyNext it) Q E s1 := by
  refine bC fun hno => ?_
  obtain ⟨X0, hJ0, hJb, S2, W, r0, hw, kk24, pl4, hD2, S4, N4, hcs, hcl, hst⟩ := Z
  have hJD : ¬ J D := fun j => by obtain ⟨o, e⟩ := W.live r0 j; rw [hD2] at e; cases e
  have er' : r = [] ∧ Hf = H1 := by unfold Bp at er; cases er; exact ⟨rfl, rfl⟩
  obtain ⟨rfl, rfl⟩ := er'
  rw [List.append_nil] at et
  subst et
  refine hno ?_
  refine W.done S1 a (fun j => .inr j) hw1 r1 fun h' tk kk => hQ _ ?_
  have := A3k st X0 S2 N4 hJ0 hJb W hD2 hJD (W.off S2 r0) hv S1 r1 X1 hD1 p1 q1 hz (tk := tk) kk
  rw [hcl] at this
  exact k D L _ this
theorem Sb {x : Str} {px pos : Pos} {iter elt : Expr} {ifs : List Expr} {di : A8 → A0 → Res (List AV × List (Nat × List AV))} {dc : A8 → A0 → Res Bool} {de : A8 → A0 → Res AV} {vs : List AV} {Hf : A0} {RR : Value → Addr → Result → Shared → Prop}
    (hs : K1 scope S Γ [x]) (hi : Iw C T n b Γ S true iter di) (hc : ∀ z, Td (C.withZ z) T n b (x :: Γ) (Cs scope S) ifs dc) (he : ∀ z, Aj (C.withZ z) T n b (x :: Γ) (Cs scope S) elt de)
    (G : Gnd C T base) (hS : env.scope = S) (st : St C base b env Γ ρ μ H s) (a : AOk base A n)
    (ed : ((di ρ H).get fun p H => Bp p.2 (fun v H => (dc (some v :: ρ) H).get fun t H => if t then (de (some v :: ρ) H).get fun x H => .ok (some x) H else .ok none H) p.1 H) = .ok vs Hf) (hz : vs.length ≤ lim)
    (k : ∀ D L s', Rt C base b env Γ ρ μ s.heap vs Hf D L s' → RR (.ref D) L (.ok .next) s') :
    wpAny (model C.prog C.w) A (eval iter env) (fun x' s₁ => wpAny (model C.prog C.w) A (pyIter x') (fun it s₂ => wpAny (model C.prog C.w) A (newList []) (fun acc s₃ =>
      wpAny (model C.prog C.w) A (newFunctionEnv scope env.globals (Dd env scope.names []) [] env.qual none .none (some env)) (fun cenv s₄ =>
        codeAny (model C.prog C.w) A (.compStart (.ListComp elt [⟨.Name x px, iter, ifs, 0⟩] scope pos) 0 it acc { cenv with scope := relabel scope env }) (RR acc cenv.locals) s₄) E s₃) E s₂) E s₁) E s := by
  refine bC fun hno => ?_
  obtain ⟨p, H0, e0, ed⟩ := Res.get_ok ed
  obtain ⟨f, hf⟩ : ∃ f : AV → A0 → Res (Option AV), (fun (v : AV) (H : A0) => (dc (some v :: ρ) H).get fun t H => if t then (de (some v :: ρ) H).get fun x H => .ok (some x) H else .ok none H) = f := ⟨_, rfl⟩
  rw [hf] at ed
  refine hno ?_
  refine O2 hs hi G hS st a e0 fun it D L cenv J R MM μ2 s2 h4 Z => ?_
  subst hS
  obtain ⟨X0, hJ0, hJb, S2, W, r0, hw, kk24, pl4, hD2, S4, N4, hcs, hcl, hsk⟩ := id Z
  have hJD : ¬ J D := fun j => by obtain ⟨o, e⟩ := W.live r0 j; rw [hD2] at e; cases e
  have hbD : base.get? D = none := Bq S2 hD2
  have hDm : D ∉ μ2 := Ge S2 hD2
  have hx0 : slot ([x] ++ Γ) x = some 0 := by
    rw [Hq]; unfold slot; simp
  have hkx : cenv.kindOf x = some .local ∨ cenv.kindOf x = some .cell := by
    have := hsk x (List.mem_singleton.mpr rfl)
    rw [← hcs] at this
    unfold B2 Bf at this
    simp only [Bool.or_eq_true, beq_iff_eq] at this
    exact this
  have r4 : R p.1 μ2 h4 := W.frame r0 List.prefix_rfl fun e _ => kk24 e
  have loop : ∀ s₃ : Shared, s₃ = { s2 with heap := h4 } → codeAny (model C.prog C.w) A (.compLoop (.ListComp elt [⟨.Name x px, iter, ifs, 0⟩] scope pos) 0 it (.ref D) cenv) (RR (.ref D) L) s₃ := by
    rintro s₃ rfl
    have i0 : CI (C.plus J) J base b env cenv [x] Γ ρ D p.2 R μ2 s2.heap f vs Hf p.1.length { s2 with heap := h4 } := ⟨p.1, _, [], [], μ2, H0, rfl, rfl, S4, r4, hw, Dx.grow kk24, hDm, pl4, .nil, vs, ed, rfl⟩
    obtain ⟨I, hI⟩ : ∃ I, CI (C.plus J) J base b env cenv [x] Γ ρ D p.2 R μ2 s2.heap f vs Hf = I := ⟨_, rfl⟩
    rw [hI] at i0
    refine codeAny_compLoop_tests I ?_ p.1.length i0
    intro m s1 hi
    rw [← hI] at hi
    obtain ⟨l, vals, done, Af, μ1, H1, rfl, hv, S1, r1, hw1, X1, hD1, p1, q1, r, er, et⟩ := hi
    cases l with
    | nil =>
      exact U4 Z st a hz k hv S1 r1 hw1 X1 hD1 p1 q1 er et fun _ q => q
    | cons v l =>
      obtain ⟨o, H2, r', es, hst, er2, rfl⟩ := Mt er
      refine W.item S1 a (fun j => .inr j) hw1 r1 fun u h' tk kk V m => ?_
      have S5 := S1.stepJ (tk := tk) kk (W.off S1 r1) hJb (W.liveM m)
      have k5 := W.plain rfl m
      obtain ⟨i0, p1'⟩ := id p1
      have p5 : h'.PlainList D Af.toArray := ⟨i0, kk hJD p1'⟩
      have q5 : VRs (C.plus J) μ1 h' done Af := VRs.butJ (C := C.plus J) (J := J) (fun j => .inr j) kk q1
      have X5 : Dx J cenv μ2 μ1 s2.heap h' := X1.step kk
      refine wpAny_assign_Name (S5.bind hx0 hkx V fun s6 S6 X6 => ?_)
      obtain ⟨o0, rfl⟩ := List.length_eq_one_iff.mp hv
      have S6' : St (C.plus J) base b cenv (x :: Γ) (some v :: ρ) μ1 H1 s6 := S6
      rw [← hf] at es
      obtain ⟨t, H3, e3, es⟩ := Res.get_ok es
      refine (hc _).ok (C := C.plus J) G.toZ hcs S6' a e3 fun s7 μ7 X7 S7 => ?_
      obtain ⟨p6, d6⟩ := Sd S5 hD1 p5 X6
      obtain ⟨p7, d7⟩ := Sd S6 d6 p6 X7
      have q7 := (q5.mono S5.hp S5.er X6).mono S6.hp S6.er X7
      have r7 := W.frameX S6 (W.frameX S5 k5 X6) X7
      have off7 : ∀ {a : Addr}, J a → ¬ Own μ7 cenv a := W.off S7 r7
      have X67 : Dx J cenv μ2 μ7 s2.heap s7.heap := X5.trans (fun j q => off7 j (.inl q)) (X6.trans X7)
      cases t with
      | false =>
        simp only [Bool.false_eq_true, if_false] at es ⊢
        cases es
        exact ⟨l.length, Nat.lt_succ_self _, hI ▸ CI.skip (vals := [some v]) rfl S7 r7 hst X67 d7 p7 q7 er2 et⟩
      | true =>
        simp only [if_true] at es ⊢
        obtain ⟨y, H4, e4, es⟩ := Res.get_ok es
        cases es
        refine (he _).ok (C := C.plus J) G.toZ hcs S7 a e4 fun u8 s8 μ8 X8 S8 V8 => ?_
        obtain ⟨p8, d8⟩ := Sd S7 d7 p7 X8
        have r8 := W.frameX S7 r7 X8
        have off8 : ∀ {a : Addr}, J a → ¬ Own μ8 cenv a := W.off S8 r8
        rw [← hI]
        exact CI.keep (C := C.plus J) W hD2 hbD hz (vals := [some v]) rfl S8 r8 hst (X67.trans (fun j q => off8 j (.inl q)) X8) d8 p8 (q7.mono S7.hp S7.er X8) V8 er2 et
  refine codeAny_compStart_list (loop _ rfl) (W.self (s := { s2 with heap := h4 }) r4 (loop _ rfl))
theorem A8b {α : Type} {l : List α} (h : l.length = 2) : ∃ a b, l = [a, b] := by
  cases l with
  | nil => cases h
  | cons a l => obtain ⟨b, rfl⟩ := List.length_eq_one_iff.mp (Nat.succ.inj h); exact ⟨a, b, rfl⟩
theorem T8 (hq : T.q = false) {x y : Str} {px py tp pos : Pos} {x1 : Nat} {iter elt : Expr} {di : A8 → A0 → Res (List AV × List (Nat × List AV))} {de : A8 → A0 → Res AV} {vs : List AV} {Hf : A0} {RR : Value → Addr → Result → Shared → Prop}
    (hs : K1 scope S Γ [x, y]) (hxy : (x == y) = false) (hi : Iw C T n b Γ S nm iter di) (he : ∀ z, Aj (C.withZ z) T n b (x :: y :: Γ) (Cs scope S) elt de)
    (G : Gnd C T base) (hS : env.scope = S) (st : St C base b env Γ ρ μ H s) (a : AOk base A n)
    (ed : ((di ρ H).get fun p H => Bp p.2 (fun v H => Hd (fun x y => (de (some x :: some y :: ρ) H).get fun x H => .ok (some x) H) v) p.1 H) = .ok vs Hf) (hz : vs.length ≤ lim)
    (k : ∀ D L s', Rt C base b env Γ ρ μ s.heap vs Hf D L s' → RR (.ref D) L (.ok .next) s') :
    wpAny (model C.prog C.w) A (eval iter env) (fun x' s₁ => wpAny (model C.prog C.w) A (pyIter x') (fun it s₂ => wpAny (model C.prog C.w) A (newList []) (fun acc s₃ =>
      wpAny (model C.prog C.w) A (newFunctionEnv scope env.globals (Dd env scope.names []) [] env.qual none .none (some env)) (fun cenv s₄ =>
        codeAny (model C.prog C.w) A (.compStart (.ListComp elt [⟨.Tuple [.Name x px, .Name y py] x1 tp, iter, [], 0⟩] scope pos) 0 it acc { cenv with scope := relabel scope env }) (RR acc cenv.locals) s₄) E s₃) E s₂) E s₁) E s := by
  refine bC fun hno => ?_
  obtain ⟨p, H0, e0, ed⟩ := Res.get_ok ed
  obtain ⟨f, hf⟩ : ∃ f : AV → A0 → Res (Option AV), (fun (v : AV) (H : A0) => Hd (fun x y => (de (some x :: some y :: ρ) H).get fun x H => .ok (some x) H) v) = f := ⟨_, rfl⟩
  rw [hf] at ed
  refine hno ?_
  refine O2 hs hi G hS st a e0 fun it D L cenv J R MM μ2 s2 h4 Z => ?_
  subst hS
  obtain ⟨X0, hJ0, hJb, S2, W, r0, hw, kk24, pl4, hD2, S4, N4, hcs, hcl, hsk⟩ := id Z
  have hJD : ¬ J D := fun j => by obtain ⟨o, e⟩ := W.live r0 j; rw [hD2] at e; cases e
  have hbD : base.get? D = none := Bq S2 hD2
  have hDm : D ∉ μ2 := Ge S2 hD2
  have hx0 : slot ([x, y] ++ Γ) x = some 0 := by
    rw [Hq]; unfold slot; simp [List.findIdx?_cons]
  have hy0 : slot ([x, y] ++ Γ) y = some 1 := by
    rw [Hq]; unfold slot; simp [List.findIdx?_cons, hxy]
  have r4 : R p.1 μ2 h4 := W.frame r0 List.prefix_rfl fun e _ => kk24 e
  have loop : ∀ s₃ : Shared, s₃ = { s2 with heap := h4 } → codeAny (model C.prog C.w) A (.compLoop (.ListComp elt [⟨.Tuple [.Name x px, .Name y py] x1 tp, iter, [], 0⟩] scope pos) 0 it (.ref D) cenv) (RR (.ref D) L) s₃ := by
    rintro s₃ rfl
    have i0 : CI (C.plus J) J base b env cenv [x, y] Γ ρ D p.2 R μ2 s2.heap f vs Hf p.1.length { s2 with heap := h4 } := ⟨p.1, _, [], [], μ2, H0, rfl, rfl, S4, r4, hw, Dx.grow kk24, hDm, pl4, .nil, vs, ed, rfl⟩
    obtain ⟨I, hI⟩ : ∃ I, CI (C.plus J) J base b env cenv [x, y] Γ ρ D p.2 R μ2 s2.heap f vs Hf = I := ⟨_, rfl⟩
    rw [hI] at i0
    refine Yl I ?_ p.1.length i0
    intro m s1 hi
    rw [← hI] at hi
    obtain ⟨l, vals, done, Af, μ1, H1, rfl, hv, S1, r1, hw1, X1, hD1, p1, q1, r, er, et⟩ := hi
    cases l with
    | nil =>
      exact U4 Z st a hz k hv S1 r1 hw1 X1 hD1 p1 q1 er et fun _ q => q
    | cons v l =>
      obtain ⟨o, H2, r', es, hst, er2, rfl⟩ := Mt er
      rw [← hf] at es
      have es : Hd (fun x y => (de (some x :: some y :: ρ) H1).get fun x H => .ok (some x) H) v = .ok o H2 := es
      obtain ⟨v1, v2, rfl⟩ : ∃ v1 v2, v = .tup [v1, v2] := (Xh v).resolve_right fun q => by rw [q.2] at es; cases es
      refine W.item S1 a (fun j => .inr j) hw1 r1 fun u h' tk kk V m => ?_
      obtain ⟨t, p1', p2', rfl, ht, V1, V2⟩ := Kt V
      refine W.own (s := { s1 with heap := h', toks := tk }) m fun h'' kk' r2 => ?_
      have kk2 : ∀ {a : Addr} {o : Obj}, ¬ J a → s1.heap.get? a = some o → h''.get? a = some o := fun nj e => kk' nj (kk nj e)
      have S5 := S1.stepJ (tk := tk) kk2 (W.off S1 r1) hJb (W.live r2)
      obtain ⟨i0, p1''⟩ := id p1
      have p5 : h''.PlainList D Af.toArray := ⟨i0, kk2 hJD p1''⟩
      have q5 : VRs (C.plus J) μ1 h'' done Af := VRs.butJ (C := C.plus J) (J := J) (fun j => .inr j) kk2 q1
      have X5 : Dx J cenv μ2 μ1 s2.heap h'' := X1.step kk2
      have V' : VR (C.plus J) μ1 h'' (.tup [v1, v2]) (.ref t) := VR.butJ (C := C.plus J) (J := J) (fun j => .inr j) kk' V
      obtain ⟨t', q1', q2', et', ht', W1, W2⟩ := Kt V'
      cases et'
      refine Nw (M := model C.prog C.w) (C := C.plus J) (S := Cs scope env.scope) (G.q.trans hq) hcs a S5 hx0 (hsk x (by simp)) hy0 (hsk y (by simp)) ht' W1 W2 fun s6 S6 X6 => ?_
      obtain ⟨o0, o1, rfl⟩ := A8b hv
      have S6' : St (C.plus J) base b cenv (x :: y :: Γ) (some v1 :: some v2 :: ρ) μ1 H1 s6 := S6
      obtain ⟨p6, d6⟩ := Sd S5 hD1 p5 X6
      have q6 := q5.mono S5.hp S5.er X6
      have r6 := W.frameX S5 r2 X6
      have off6 : ∀ {a : Addr}, J a → ¬ Own μ1 cenv a := W.off S6 r6
      have X66 : Dx J cenv μ2 μ1 s2.heap s6.heap := X5.trans (fun j q => off6 j (.inl q)) X6
      simp only [Hd] at es
      obtain ⟨y', H4, e4, es⟩ := Res.get_ok es
      cases es
      refine (he _).ok (C := C.plus J) G.toZ hcs S6' a e4 fun u8 s8 μ8 X8 S8 V8 => ?_
      obtain ⟨p8, d8⟩ := Sd S6' d6 p6 X8
      have r8 := W.frameX S6' r6 X8
      have off8 : ∀ {a : Addr}, J a → ¬ Own μ8 cenv a := W.off S8 r8
      rw [← hI]
      exact CI.keep (C := C.plus J) W hD2 hbD hz (vals := [some v1, some v2]) rfl S8 r8 hst (X66.trans (fun j q => off8 j (.inl q)) X8) d8 p8 (q6.mono S6'.hp S6'.er X8) V8 er2 et
  refine codeAny_compStart_list (loop _ rfl) (W.self (s := { s2 with heap := h4 }) r4 (loop _ rfl))
theorem Rt.value {vs : List AV} {Hf : A0} {Q : Value → Shared → Prop} {D L : Addr} {s1 : Shared} (h : Rt C base b env Γ ρ μ s.heap vs Hf D L s1) (st : St C base b env Γ ρ μ H s) (k : B6 C base b env Γ ρ μ s (.ref Hf.length) (Hf ++ [.list vs]) Q) :
    compPost (model C.prog C.w) A E none Q (.ref D) L (.ok .next) s1 := by
  refine bC fun hno => ?_
  obtain ⟨⟨μ1, S1, X1, V1, hO⟩, ⟨m, nn⟩, hb, hnew⟩ := h
  refine hno ?_
  refine ⟨m, nn, fun h' hs => ?_⟩
  have ht : ∀ {ts : Array Value}, ¬ s1.heap.IsTuple L ts := Ln nn
  have hf : ∀ {o : Obj} {vs : Array Value}, s1.heap.get? L = some o → o.data ≠ .fields vs := K6 nn
  refine k _ _ (μ1 ++ [D]) (X1.but (J := (· = L)) (fun j => by subst j; exact hnew) fun n e => (hs.2 _ n).trans e) (S1.other (tk := s1.toks) ht hf hO hb hs (fun z => by obtain ⟨o, e⟩ := st.zl z; rw [hnew] at e; cases e) (st.ff.fresh hnew)) (V1.other ht hf hs)
theorem Rt.use {vs : List AV} {Hf : A0} {Q : Value → Shared → Prop} {D L : Addr} {s1 : Shared} {y : Str} {i : Nat} {py : Pos} (hy : slot Γ y = some i) (hk : env.kindOf y = some .local ∨ env.kindOf y = some .cell) (h : Rt C base b env Γ ρ μ s.heap vs Hf D L s1) (st : St C base b env Γ ρ μ H s)
    (k : ∀ s' μ', Ext env μ μ' s.heap s'.heap → St C base b env Γ (ρ.set i (some (.ref Hf.length))) μ' (Hf ++ [.list vs]) s' → Q .none s') :
    compPost (model C.prog C.w) A E (some (assign (.Name y py) env)) Q (.ref D) L (.ok .next) s1 := by
  refine bC fun hno => ?_
  obtain ⟨⟨μ1, S1, X1, V1, hO⟩, ⟨m, nn⟩, hb, hnew⟩ := h
  refine hno ?_
  refine wpAny_assign_Name (S1.bind hy hk V1 fun s2 S2 X2 => ?_)
  have nn2 : s2.heap.Ns L m := Kp.ns nn fun e => X2.stay e hO
  refine ⟨m, nn2, fun h' hs => ?_⟩
  have ht : ∀ {ts : Array Value}, ¬ s2.heap.IsTuple L ts := Ln nn2
  have hf : ∀ {o : Obj} {vs : Array Value}, s2.heap.get? L = some o → o.data ≠ .fields vs := K6 nn2
  refine k _ (μ1 ++ [D]) ((X1.trans X2).but (J := (· = L)) (fun j => by subst j; exact hnew) fun n e => (hs.2 _ n).trans e) (S2.other (tk := s2.toks) ht hf hO hb hs (fun z => by obtain ⟨o, e⟩ := st.zl z; rw [hnew] at e; cases e) (st.ff.fresh hnew))
theorem Ri (hs : K1 scope env.scope Γ xs) (st : St C base b env Γ ρ μ H s) : closureFor scope env = pure (Dd env scope.names []) :=
  Oz fun p hp e => by
    obtain ⟨c, o, ec, _⟩ := st.er.cells (hs.free p hp e).2
    exact ⟨c, ec⟩
theorem Aj.comp1 {x : Str} {px pos : Pos} {iter elt : Expr} {ifs : List Expr} {d : A8 → A0 → Res AV} {di : A8 → A0 → Res (List AV × List (Nat × List AV))} {dc : A8 → A0 → Res Bool} {de : A8 → A0 → Res AV}
    (hs : K1 scope S Γ [x]) (hset : C3 iter = true) (hi : Iw C T n b Γ S true iter di) (hc : ∀ z, Td (C.withZ z) T n b (x :: Γ) (Cs scope S) ifs dc) (he : ∀ z, Aj (C.withZ z) T n b (x :: Γ) (Cs scope S) elt de)
    (hd : ∀ ρ H, d ρ H = (di ρ H).get fun p H => (Bp p.2 (fun v H => (dc (some v :: ρ) H).get fun t H => if t then (de (some v :: ρ) H).get fun x H => .ok (some x) H else .ok none H) p.1 H).get fun vs H => Aw vs H) :
    Aj C T n b Γ S (.ListComp elt [⟨.Name x px, iter, ifs, 0⟩] scope pos) d := by
  refine ⟨?_⟩
  intro base env ρ μ H H' s A E Q v' G hS st a ed k
  refine bC fun hno => ?_
  rw [hd] at ed
  obtain ⟨p, H1, e1, ed⟩ := Res.get_ok ed
  obtain ⟨vs, H2, e2, ed⟩ := Res.get_ok ed
  obtain ⟨hz, rfl, rfl⟩ := Ds ed
  refine hno ?_
  rw [eval_ListComp]
  subst hS
  refine wpAny_comprehension_free (use := none) rfl (Ci hset) (Ri hs st) hs.kind hs.loc ?_
  refine Sb (RR := compPost (model C.prog C.w) A E none Q) hs hi hc he G rfl st a (vs := vs) (Hf := H2) (by rw [e1]; exact e2) hz fun D L s' h => h.value st k
theorem Aj.comp2 (hq : T.q = false) {x y : Str} {px py tp pos : Pos} {x1 : Nat} {iter elt : Expr} {d : A8 → A0 → Res AV} {di : A8 → A0 → Res (List AV × List (Nat × List AV))} {de : A8 → A0 → Res AV}
    (hs : K1 scope S Γ [x, y]) (hxy : (x == y) = false) (hset : C3 iter = true) (hi : Iw C T n b Γ S nm iter di) (he : ∀ z, Aj (C.withZ z) T n b (x :: y :: Γ) (Cs scope S) elt de)
    (hd : ∀ ρ H, d ρ H = (di ρ H).get fun p H => (Bp p.2 (fun v H => Hd (fun x y => (de (some x :: some y :: ρ) H).get fun x H => .ok (some x) H) v) p.1 H).get fun vs H => Aw vs H) :
    Aj C T n b Γ S (.ListComp elt [⟨.Tuple [.Name x px, .Name y py] x1 tp, iter, [], 0⟩] scope pos) d := by
  refine ⟨?_⟩
  intro base env ρ μ H H' s A E Q v' G hS st a ed k
  refine bC fun hno => ?_
  rw [hd] at ed
  obtain ⟨p, H1, e1, ed⟩ := Res.get_ok ed
  obtain ⟨vs, H2, e2, ed⟩ := Res.get_ok ed
  obtain ⟨hz, rfl, rfl⟩ := Ds ed
  refine hno ?_
  rw [eval_ListComp]
  subst hS
  refine wpAny_comprehension_free (use := none) rfl (Ci hset) (Ri hs st) hs.kind hs.loc ?_
  refine T8 (RR := compPost (model C.prog C.w) A E none Q) hq hs hxy hi he G rfl st a (vs := vs) (Hf := H2) (by rw [e1]; exact e2) hz fun D L s' h => h.value st k
theorem Lo {elt : Expr} {gens : List Comprehension} {scope : Scope} {pos py : Pos} {y : Str} {l : Nat} : swapsWith (.ListComp elt gens scope pos) (some (.Name y py)) l env = pure true ∨ swapsWith (.ListComp elt gens scope pos) (some (.Name y py)) l env = pure false := by
  unfold swapsWith
  simp only
  generalize hb : (env.blockKind == .function && env.kindOf y == some .local && py.line == (Expr.ListComp elt gens scope pos).pos.line && !(scope.names.any fun (n, k) => n == y && (k == .local || k == .cell))) = t
  cases t
  · exact .inr rfl
  · exact .inl rfl
theorem SOk.assignC1 {y : Str} {i : Nat} {py spos : Pos} {x : Str} {px pos : Pos} {iter elt : Expr} {ifs : List Expr} {d : A8 → A0 → SR} {d1 : A8 → A0 → Res AV} {di : A8 → A0 → Res (List AV × List (Nat × List AV))} {dc : A8 → A0 → Res Bool} {de : A8 → A0 → Res AV}
    (hy : slot Γ y = some i) (hk : B2 S y = true)
    (hs : K1 scope S Γ [x]) (hset : C3 iter = true) (hi : Iw C T n b Γ S true iter di) (hc : ∀ z, Td (C.withZ z) T n b (x :: Γ) (Cs scope S) ifs dc) (he : ∀ z, Aj (C.withZ z) T n b (x :: Γ) (Cs scope S) elt de)
    (hd1 : ∀ ρ H, d1 ρ H = (di ρ H).get fun p H => (Bp p.2 (fun v H => (dc (some v :: ρ) H).get fun t H => if t then (de (some v :: ρ) H).get fun x H => .ok (some x) H else .ok none H) p.1 H).get fun vs H => Aw vs H)
    (hd : ∀ ρ H, d ρ H = (match d1 ρ H with | .ok v H => .next (ρ.set i (some v)) H | _ => .bad)) :
    SOk C T n b Γ S (.Assign [.Name y py] (.ListComp elt [⟨.Name x px, iter, ifs, 0⟩] scope pos) spos) d := by
  refine ⟨?_⟩
  intro base env ρ μ H s A E Q G hS st a k
  rw [hd] at k
  cases ed : d1 ρ H with
  | ok v H1 =>
    rw [ed] at k
    rcases Lo (env := env) (elt := elt) (gens := [⟨.Name x px, iter, ifs, 0⟩]) (scope := scope) (pos := pos) (py := py) (y := y) (l := spos.line) with hsw | hsw
    · rw [exec_Assign_Name_used _ _ _ _ hsw]
      refine wpAny_bind (wpAny_standAt (wpAny_bind ?_))
      show wpAny _ A (do let _ ← comprehension (.ListComp elt [⟨.Name x px, iter, ifs, 0⟩] scope pos) scope env _ (newList []) false (eval iter env) (some (assign (.Name y py) env))) _ _ s
      refine bC fun hno => ?_
      rw [hd1] at ed
      obtain ⟨p, H2, e1, ed⟩ := Res.get_ok ed
      obtain ⟨vs, H3, e2, ed⟩ := Res.get_ok ed
      obtain ⟨hz, rfl, rfl⟩ := Ds ed
      obtain ⟨hS, hF⟩ := hS
      subst hS
      refine hno ?_
      refine wpAny_bind (wpAny_mono (wpAny_comprehension_free (use := some (assign (.Name y py) env)) (Q := fun _ s' => Q .next s') rfl (Ci hset) (Ri hs st) hs.kind hs.loc ?_) (fun _ s' hq => wpAny_pure (wpAny_pure hq)) fun _ _ e => e)
      exact Sb (RR := compPost (model C.prog C.w) A E (some (assign (.Name y py) env)) fun _ s' => Q .next s') hs hi hc he G rfl st a (vs := vs) (Hf := H3) (by rw [e1]; exact e2) hz fun D L s' h => h.use hy (Hy rfl hk) st fun s'' μ'' X S' => k s'' μ'' X S'
    · refine wpAny_Assign_Name ((Aj.comp1 hs hset hi hc he hd1).ok G hS.sc st a ed fun u s' μ' X S' V => ?_) hsw
      exact S'.bind hy (Hy hS.sc hk) V fun s'' S'' X' => k s'' μ' (X.trans X') S''
  | exc c H1 => rw [ed] at k; exact k.elim
  | bad => rw [ed] at k; exact k.elim
theorem SOk.assignC2 (hq : T.q = false) {y0 : Str} {i : Nat} {py0 spos : Pos} {x y : Str} {px py tp pos : Pos} {x1 : Nat} {iter elt : Expr} {d : A8 → A0 → SR} {d1 : A8 → A0 → Res AV} {di : A8 → A0 → Res (List AV × List (Nat × List AV))} {de : A8 → A0 → Res AV}
    (hy : slot Γ y0 = some i) (hk : B2 S y0 = true)
    (hs : K1 scope S Γ [x, y]) (hxy : (x == y) = false) (hset : C3 iter = true) (hi : Iw C T n b Γ S nm iter di) (he : ∀ z, Aj (C.withZ z) T n b (x :: y :: Γ) (Cs scope S) elt de)
    (hd1 : ∀ ρ H, d1 ρ H = (di ρ H).get fun p H => (Bp p.2 (fun v H => Hd (fun x y => (de (some x :: some y :: ρ) H).get fun x H => .ok (some x) H) v) p.1 H).get fun vs H => Aw vs H)
    (hd : ∀ ρ H, d ρ H = (match d1 ρ H with | .ok v H => .next (ρ.set i (some v)) H | _ => .bad)) :
    SOk C T n b Γ S (.Assign [.Name y0 py0] (.ListComp elt [⟨.Tuple [.Name x px, .Name y py] x1 tp, iter, [], 0⟩] scope pos) spos) d := by
  refine ⟨?_⟩
  intro base env ρ μ H s A E Q G hS st a k
  rw [hd] at k
  cases ed : d1 ρ H with
  | ok v H1 =>
    rw [ed] at k
    rcases Lo (env := env) (elt := elt) (gens := [⟨.Tuple [.Name x px, .Name y py] x1 tp, iter, [], 0⟩]) (scope := scope) (pos := pos) (py := py0) (y := y0) (l := spos.line) with hsw | hsw
    · rw [exec_Assign_Name_used _ _ _ _ hsw]
      refine wpAny_bind (wpAny_standAt (wpAny_bind ?_))
      show wpAny _ A (do let _ ← comprehension (.ListComp elt [⟨.Tuple [.Name x px, .Name y py] x1 tp, iter, [], 0⟩] scope pos) scope env _ (newList []) false (eval iter env) (some (assign (.Name y0 py0) env))) _ _ s
      refine bC fun hno => ?_
      rw [hd1] at ed
      obtain ⟨p, H2, e1, ed⟩ := Res.get_ok ed
      obtain ⟨vs, H3, e2, ed⟩ := Res.get_ok ed
      obtain ⟨hz, rfl, rfl⟩ := Ds ed
      obtain ⟨hS, hF⟩ := hS
      subst hS
      refine hno ?_
      refine wpAny_bind (wpAny_mono (wpAny_comprehension_free (use := some (assign (.Name y0 py0) env)) (Q := fun _ s' => Q .next s') rfl (Ci hset) (Ri hs st) hs.kind hs.loc ?_) (fun _ s' hq => wpAny_pure (wpAny_pure hq)) fun _ _ e => e)
      exact T8 (RR := compPost (model C.prog C.w) A E (some (assign (.Name y0 py0) env)) fun _ s' => Q .next s') hq hs hxy hi he G rfl st a (vs := vs) (Hf := H3) (by rw [e1]; exact e2) hz fun D L s' h => h.use hy (Hy rfl hk) st fun s'' μ'' X S' => k s'' μ'' X S'
    · refine wpAny_Assign_Name ((Aj.comp2 hq hs hxy hset hi he hd1).ok G hS.sc st a ed fun u s' μ' X S' V => ?_) hsw
      exact S'.bind hy (Hy hS.sc hk) V fun s'' S'' X' => k s'' μ' (X.trans X') S''
  | exc c H1 => rw [ed] at k; exact k.elim
  | bad => rw [ed] at k; exact k.elim
end
end Mine
namespace Mine
open PySem PySem.Calls PyProof.Rows
theorem Gq : ∀ {names : List Str} {us : List Value}, names.length = us.length → ∀ {n : Str}, n ∈ names → ((names.zip us).lookup n).isSome = true
  | [], _, _, _, h => by cases h
  | x :: r, [], e, _, _ => by cases e
  | x :: r, u :: us, e, n, h => by
    simp only [List.zip_cons_cons, List.lookup_cons]
    cases q : n == x with
    | true => rfl
    | false =>
      rcases List.mem_cons.mp h with h | h
      · subst h; simp at q
      · exact Gq (by simpa using e) h
theorem F5 {f : List (Str × Value)} : ∀ {names : List Str} {us : List Value}, names.length = us.length → (∀ n v, (n, v) ∈ names.zip us → f.lookup n = some v) → names.filterMap (fun n => (f.lookup n).map (n, ·)) = names.zip us
  | [], _, _, _ => rfl
  | x :: r, [], e, _ => by cases e
  | x :: r, u :: us, e, h => by
    have h1 := h x u (by simp)
    rw [List.filterMap_cons, h1]
    simp only [Option.map_some, List.zip_cons_cons]
    rw [F5 (by simpa using e) fun n v q => h n v (by simp [q])]
theorem Hj : ∀ {names : List Str} {us : List Value}, names.length = us.length → names.Nodup → ∀ {n : Str} {v : Value}, (n, v) ∈ names.zip us → (names.zip us).lookup n = some v
  | [], _, _, _, _, _, h => by simp at h
  | x :: r, [], e, _, _, _, _ => by cases e
  | x :: r, u :: us, e, nd, n, v, h => by
    simp only [List.zip_cons_cons, List.lookup_cons, List.mem_cons] at h ⊢
    rcases h with h | h
    · cases h; simp
    · have hn : n ∈ r := (List.of_mem_zip h).1
      have : n ≠ x := fun q => (List.nodup_cons.mp nd).1 (q ▸ hn)
      rw [show (n == x) = false by simpa using this]
      exact Hj (by simpa using e) (List.nodup_cons.mp nd).2 h
theorem P7 {names : List Str} {us : List Value} (e : names.length = us.length) (nd : names.Nodup) : names.filterMap (fun n => ((names.zip us).lookup n).map (n, ·)) = names.zip us :=
  F5 e fun n v h => Hj e nd h
theorem Oy {fd : FuncData} {us : List Value} (h1 : fd.params.posonlyargs = []) (h2 : fd.params.vararg = none) (h3 : fd.params.kwonlyargs = []) (h4 : fd.params.kwarg = none) (h5 : fd.defaults = .none)
    (hg : ¬ (us.length > (fd.params.args.map Arg.arg).length)) (hm : ∀ k, ((fd.params.args.map Arg.arg).take k).filter (fun n => (((fd.params.args.map Arg.arg).zip us).lookup n).isNone) = []) {R : List (Str × Value)} (hz : (fd.params.args.map Arg.arg ++ []).filterMap (fun n => (((fd.params.args.map Arg.arg).zip us).lookup n).map (n, ·)) = R) : bindArgs fd ⟨us, []⟩ = pure R := by
  rcases fd with ⟨nm, qn, ⟨po, as, va, ko, kd, kw, df⟩, bd, sc, gl, cl, dfl, kwd, dc, pm, an, cd, ct, bi⟩
  dsimp only at h1 h2 h3 h4 h5 hg hm hz
  subst h1 h2 h3 h4 h5 hz
  have nz : ∀ c : Bool, c = false → ¬ (c = true) := fun c h => by rw [h]; decide
  refine (if_neg (c := ((decide (us.length > (as.map Arg.arg).length) && true) = true)) (nz _ (by rw [decide_eq_false hg]; rfl))).trans ?_
  have hd : ∀ {α : Type} (k : Nat), (#[] : Array α).toList.drop k = [] := fun k => List.drop_nil
  refine (if_neg (nz _ (Bool.not_eq_eq_eq_not.mpr (by exact congrArg List.isEmpty (hm _))))).trans ?_
  dsimp only
  erw [hd]
  rw [List.zip_nil_right]
  rfl
theorem Oi {fd : FuncData} {us : List Value} (h1 : fd.params.posonlyargs = []) (h2 : fd.params.vararg = none) (h3 : fd.params.kwonlyargs = []) (h4 : fd.params.kwarg = none) (h5 : fd.defaults = .none)
    (hl : fd.params.args.length = us.length) (hn : (fd.params.args.map (·.arg)).Nodup) : bindArgs fd ⟨us, []⟩ = pure ((fd.params.args.map (·.arg)).zip us) := by
  have hl' : (fd.params.args.map (·.arg)).length = us.length := by simpa using hl
  have hm : ∀ k, ((fd.params.args.map (·.arg)).take k).filter (fun n => (((fd.params.args.map (·.arg)).zip us).lookup n).isNone) = [] := fun k => by
    rw [List.filter_eq_nil_iff]
    intro n hn' e
    have := Gq hl' (List.mem_of_mem_take hn')
    rw [Option.isNone_iff_eq_none] at e
    rw [e] at this; cases this
  exact Oy h1 h2 h3 h4 h5 (fun q => Nat.lt_irrefl _ (hl' ▸ q)) hm (by rw [List.append_nil]; exact P7 hl' hn)
theorem L7 {kf : Str → Option NameKind} {x : Str} : ∀ {binds : List (Str × Value)} {m : Str → Option Value}, x ∉ binds.map (·.1) → bindL kf binds m x = m x
  | [], m, _ => rfl
  | (n, v) :: r, m, h => by
    simp only [List.map_cons, List.mem_cons, not_or] at h
    unfold bindL
    rw [L7 h.2]
    split
    · exact if_neg h.1
    · rfl
theorem Q5 {kf : Str → Option NameKind} {x : Str} {u : Value} (hk : kf x = some .local) : ∀ {binds : List (Str × Value)} {m : Str → Option Value}, (binds.map (·.1)).Nodup → (x, u) ∈ binds → bindL kf binds m x = some u
  | [], m, _, h => by cases h
  | (n, v) :: r, m, nd, h => by
    simp only [List.map_cons, List.nodup_cons] at nd
    unfold bindL
    rcases List.mem_cons.mp h with h | h
    · cases h
      rw [L7 nd.1, if_pos hk]; exact if_pos rfl
    · exact Q5 hk nd.2 h
theorem Ll {kf : Str → Option NameKind} {x : Str} : ∀ {binds : List (Str × Value)} {m : Str → Option Value}, x ∉ binds.map (·.1) → bindC kf binds m x = m x
  | [], m, _ => rfl
  | (n, v) :: r, m, h => by
    simp only [List.map_cons, List.mem_cons, not_or] at h
    unfold bindC
    rw [Ll h.2]
    split
    · rfl
    · exact if_neg h.1
theorem Pt {kf : Str → Option NameKind} {x : Str} {u : Value} (hk : kf x ≠ some .local) : ∀ {binds : List (Str × Value)} {m : Str → Option Value}, (binds.map (·.1)).Nodup → (x, u) ∈ binds → bindC kf binds m x = some u
  | [], m, _, h => by cases h
  | (n, v) :: r, m, nd, h => by
    simp only [List.map_cons, List.nodup_cons] at nd
    unfold bindC
    rcases List.mem_cons.mp h with h | h
    · cases h
      rw [Ll nd.1, if_neg hk]; exact if_pos rfl
    · exact Pt hk nd.2 h
theorem A2z {C : Cx} {μ : List Addr} {H : A0} {h : Heap} (hp : Cm C μ H h) {a : Addr} (ha : h.get? a = none) : a ∉ μ := fun q => by
  obtain ⟨o, e⟩ := hp.live q; rw [ha] at e; cases e
section
variable {C : Cx} {T : Tab} {n b : Nat} {Γ : List Str} {S : Scope} {J : Addr → Prop}
variable {base : Bs} {env cenv : Env} {ρ : A8} {μ μ' : List Addr} {H H' : A0} {s s' : Shared} {A : Around} {E : Value → Shared → Prop}
structure A9k (T : Tab) (f : FnI) (params : Arguments) (body : List Stmt) (S : Scope) : Prop where
  posonly : params.posonlyargs = []
  vararg : params.vararg = none
  kwonly : params.kwonlyargs = []
  kwarg : params.kwarg = none
  np : params.args.length = f.np
  take : (F9 S).take f.np = params.args.map (·.arg)
  nv : (F9 S).length = f.nv
  nd : (S.names.map (·.1)).Nodup
  kind : S.kind = .function
  gen : S.isGenerator = false
  co : S.isCoroutine = false
  free : ∀ x ∈ S.names, x.2 ≠ .free
  body : Ex T (F9 S) S f.body body = true
theorem A4j {f : FnI} {params : Arguments} {body : List Stmt} (h : Wp T f params body S = true) : A9k T f params body S := by
  refine bC fun hno => ?_
  unfold Wp at h
  simp only [Bool.and_eq_true, beq_iff_eq, List.isEmpty_iff, Option.isNone_iff_eq_none, decide_eq_true_eq, Bool.not_eq_true', List.all_eq_true, bne_iff_ne] at h
  obtain ⟨⟨⟨⟨⟨⟨⟨⟨⟨⟨⟨⟨⟨⟨h1, h2⟩, h3⟩, h4⟩, h5⟩, h6⟩, h7⟩, h8⟩, h9⟩, h10⟩, h11⟩, h12⟩, h13⟩, h14⟩, h15⟩ := h
  refine hno ?_
  exact ⟨h1, h2, h3, h5, h7, h8, h9, h10, h11, h12, h13, h14, h15⟩
theorem Pu (nd : (S.names.map (·.1)).Nodup) : (F9 S).Nodup := by
  unfold F9
  exact List.Nodup.sublist (List.Sublist.map _ List.filter_sublist) nd
theorem Pn : ∀ {l : List (Str × NameKind)}, (l.map (·.1)).Nodup → ∀ {x : Str} {k : NameKind}, (x, k) ∈ l → l.lookup x = some k
  | [], _, _, _, h => by cases h
  | (y, j) :: r, nd, x, k, h => by
    simp only [List.map_cons, List.nodup_cons] at nd
    rw [List.lookup_cons]
    rcases List.mem_cons.mp h with h | h
    · cases h; simp
    · have : x ≠ y := fun e => nd.1 (e ▸ List.mem_map_of_mem (f := (·.1)) h)
      rw [show (x == y) = false by simpa using this]
      exact Pn nd.2 h
theorem A57 {fd : FuncData} {a : Addr} {f : FnI} {body : List Stmt} {vs : List AV} {us : List Value} (hp : Cm C μ H s.heap) (hg : s.gens = #[]) (ho : s.os = C.os) (zl : ∀ {a : Addr}, C.z a → ∃ o, s.heap.get? a = some o)
    {g : Heap} {fs : List Env} {q : Bool} (gb : ∀ a o, g.get? a = some o → s.heap.get? a = some o) (ff : FF C.z s.heap g fs) (K : A9k T f fd.params body fd.scope) (gl : fd.globals = mainGlobals) (bu : fd.builtins = builtinsNs) (V : VRs C μ s.heap vs us) (hv : vs.length = f.np)
    (x : InCallC s (callEnvC fd s.heap.objs.size a).locals (bindL (callEnvC fd s.heap.objs.size a).kindOf ((fd.params.args.map (·.arg)).zip us) fun _ => none) (callEnvC fd s.heap.objs.size a).cells
        (bindC (callEnvC fd s.heap.objs.size a).kindOf ((fd.params.args.map (·.arg)).zip us) fun _ => none) s') :
    St C ⟨s.heap, g, callEnvC fd s.heap.objs.size a :: fs, q, gb⟩ H.length (callEnvC fd s.heap.objs.size a) (F9 fd.scope) (vs.map some ++ List.replicate (f.nv - f.np) none) μ H s' := by
  refine bC fun hno => ?_
  obtain ⟨⟨⟨h1, tk, rfl⟩, nn, kp, fr⟩, hcell, apart, above⟩ := x
  have kk : ∀ {a : Addr} {o : Obj}, s.heap.get? a = some o → h1.get? a = some o := fun {a o} e => kp a o e
  have hul : us.length = f.np := by rw [← V.length, hv]
  have hkl : (fd.params.args.map (·.arg)).length = us.length := by rw [List.length_map, K.np, hul]
  have gnd := Pu K.nd
  have pnd : (fd.params.args.map (·.arg)).Nodup := by rw [← K.take]; exact gnd.sublist (List.take_sublist _ _)
  have bnd : (((fd.params.args.map (·.arg)).zip us).map (·.1)).Nodup := by rw [List.map_fst_zip (by exact Nat.le_of_eq hkl)]; exact pnd
  have val : ∀ {x : Str} {i : Nat} {v : AV}, slot (F9 fd.scope) x = some i → (vs.map some ++ List.replicate (f.nv - f.np) none)[i]? = some (some v) → ∃ u, (x, u) ∈ (fd.params.args.map (·.arg)).zip us ∧ VR C μ h1 v u := by
    intro x i v e1 e2
    have hi : i < vs.length := by
      by_cases hi : i < vs.length
      · exact hi
      · rw [List.getElem?_append_right (by simpa using Nat.not_lt.mp hi), List.getElem?_replicate] at e2
        split at e2 <;> cases e2
    rw [List.getElem?_append_left (by simpa using hi), List.getElem?_map] at e2
    have ev : vs[i]? = some v := by
      cases q : vs[i]? with
      | none => rw [q] at e2; cases e2
      | some w => rw [q] at e2; cases e2; rfl
    obtain ⟨u, eu, vu⟩ := V.get ev
    refine ⟨u, ?_, vu.keeps kk⟩
    have ex := Qp e1
    have ex' : (fd.params.args.map (·.arg))[i]? = some x := by
      rw [← K.take, List.getElem?_take, if_pos (by exact Ix hi hv)]; exact ex
    rw [List.mem_iff_getElem?]
    exact ⟨i, by rw [List.getElem?_zip_eq_some]; exact ⟨ex', eu⟩⟩
  have ff' : FF C.z h1 g (callEnvC fd s.heap.objs.size a :: fs) := by
    obtain ⟨o, es, ep, eo, hd, _⟩ := id nn
    refine ⟨by rw [show (callEnvC fd s.heap.objs.size a).scope.kind = .function from K.kind]; decide, ⟨_, o, rfl, ?_, eo, ⟨es, ep, hd⟩, fun z => ?_⟩, (Lv.grow kk).ff ff⟩
    · cases q : g.get? s.heap.objs.size with
      | none => rfl
      | some o' => have := gb _ _ q; rw [Ax] at this; cases this
    · obtain ⟨o', e'⟩ := zl z
      rw [show s.heap.get? s.heap.objs.size = none from Ax _] at e'; cases e'
  refine hno ?_
  refine ⟨fun a o e => .same (kp a o e), hp.keeps kk, ⟨K.kind, ⟨_, nn, ?_⟩, ?_, ?_, ?_, gl, bu⟩, ?_, Do fr, A2z hp (Do fr), ?_, hg, ho, fun z => let ⟨o, e⟩ := zl z; ⟨o, kk e⟩, ff'⟩
  · intro x i v e1 e2 e3
    obtain ⟨u, hm, vu⟩ := val e1 e3
    exact ⟨u, Q5 e2 bnd hm, vu⟩
  · intro x hk
    have hk' : fd.scope.names.lookup x = some .cell := by
      rcases hk with hk | hk
      · exact hk
      · exact absurd rfl (K.free _ (mem_of_lookup (show fd.scope.names.lookup x = some .free from hk)))
    obtain ⟨c, ec⟩ := Cq fd.scope.names (s.heap.objs.size + 1) [] (.inl (mem_of_lookup hk'))
    refine ⟨c, _, ec, hcell x c ec, fun {i v} e1 e2 => ?_⟩
    obtain ⟨u, hm, vu⟩ := val e1 e2
    refine ⟨u, Pt (fun e => ?_) bnd hm, vu⟩
    have e' : fd.scope.names.lookup x = some .local := e
    rw [hk'] at e'; cases e'
  · intro x c e
    exact ⟨_, hcell x c e⟩
  · intro x y c e1 e2
    exact name_of_addr apart (mem_of_lookup e1) (mem_of_lookup e2)
  · intro i a' hi e
    have := (List.getElem?_eq_some_iff.mp e).1
    rw [hp.len] at this; (first | lia | omega)
  · intro x c e
    exact Do (Nat.le_of_lt (above x c (mem_of_lookup e)))
end
end Mine
namespace Mine
open PySem PySem.Calls PyProof.Rows PySem.SeqAt
end Mine
namespace Mine
noncomputable def Kl (strF : Bi) : Prop := True
end Mine
namespace Mine
open PySem PySem.Calls PyProof.Rows PySem.SeqAt
section
variable {C : Cx} {T : Tab} {n b : Nat} {Γ : List Str} {S : Scope} {J : Addr → Prop} {strF : Bi}
variable {h : Heap} {base : Bs} {env cenv : Env} {ρ : A8} {μ μ' : List Addr} {H H' : A0} {s s' : Shared} {A : Around} {E : Value → Shared → Prop}
theorem Gnd.re {B B' : Bs} (G : Gnd C T B) (hg : B'.g = B.g) (hq : B'.q = B.q) : Gnd C T B' := by
  obtain ⟨h, g, fs, q, gb⟩ := B
  obtain ⟨h', g', fs', q', gb'⟩ := B'
  cases hg; cases hq
  exact ⟨G.q, G.okc, ⟨G.scr.scr⟩, G.g, G.b, G.bi, G.fn, G.gint, G.exg, G.nolimit, G.defs, G.qdefs⟩
theorem AOk.deeper {B : Bs} {h' : Heap} {gb : ∀ a o, B.g.get? a = some o → h'.get? a = some o} (a : AOk B A (n + 1)) : AOk ⟨h', B.g, env :: B.fs, B.q, gb⟩ (A.deeper env) n :=
  ⟨by have := a.depth; show A.depth + 1 + n + 60 < _; exact Nat.lt_of_le_of_lt (Nat.le_of_eq (congrArg (· + 60) (Nat.add_right_comm _ _ _))) this, by have := a.units; show A.units + 3 + 4 * n + 400 < _; exact Nat.lt_of_le_of_lt (Nat.add_le_add_right (Nat.le_trans (Nat.le_of_eq (Nat.add_assoc _ _ _)) (Nat.add_le_add_left (Nat.le_trans (Nat.le_of_eq (Nat.add_comm 3 _)) (Nat.le_succ _)) _)) 400) this, a.handled, Around.frames_deeper a.frames, a.guards⟩
structure Zq (C : Cx) (T : Tab) (n : Nat) (strF : Bi) (cf : Nat → List AV → A0 → Res AV) : Prop where
  any : ∀ (b : Nat) {ps : PSs} {Γ : List Str} {S : Scope} {body : List Stmt}, Ex T Γ S ps body = true → Ff C T n b Γ S body (Ai strF cf C.sc b ps)
theorem Zq.ok {cf : Nat → List AV → A0 → Res AV} (B : Zq C T n strF cf) {f : FnI} {body : List Stmt} {S : Scope} (b : Nat) (h : Ex T (F9 S) S f.body body = true) : Ff C T n b (F9 S) S body (Ai strF cf C.sc b f.body) := B.any b h
structure Ret (C : Cx) (g : Heap) (fs : List Env) (μ : List Addr) (H : A0) (s : Shared) (H' : A0) (s' : Shared) (μ' : List Addr) : Prop where
  kp : ∀ a o, s.heap.get? a = some o → Kp (g.get? a = none) a o s'.heap
  pre : μ <+: μ'
  new : ∀ {a : Addr}, a ∈ μ' → a ∉ μ → s.heap.get? a = none
  fr : ∀ {i : Nat} {a : Addr}, H.length ≤ i → μ'[i]? = some a → s.heap.get? a = none
  hp : Cm C μ' H' s'.heap
  gens : s'.gens = #[]
  os : s'.os = C.os
  zl : ∀ {a : Addr}, C.z a → ∃ o, s'.heap.get? a = some o
  ff : FF C.z s'.heap g fs
noncomputable def A7f (C : Cx) (g : Heap) (fs : List Env) (μ : List Addr) (H : A0) (s : Shared) (r : Res AV) (Q E : Value → Shared → Prop) : Prop := match r with
  | .ok v H' => ∀ u s' μ', Ret C g fs μ H s H' s' μ' → VR C μ' s'.heap v u → Q u s'
  | .exc c H' => ∀ u s' μ', Ret C g fs μ H s H' s' μ' → C.eo c → XR (C.ea c) false u s.heap s'.heap → E u s'
  | .bad => False
theorem T0 {k : Nat} {vs : List AV} {us : List Value} {Q : Value → Shared → Prop} (B : Zq C T n strF (Al strF (fun k => T.defs.lookup k) C.sc n)) (ok : T.okc k = true) (hb : base.h = s.heap) (G : Gnd C T base) (hp : Cm C μ H s.heap) (hg : s.gens = #[]) (ho : s.os = C.os) (zl : ∀ {a : Addr}, C.z a → ∃ o, s.heap.get? a = some o)
    (ff : FF C.z s.heap base.g base.fs) (a : AOk base A (n + 1)) (V : VRs C μ s.heap vs us) (q : A7f C base.g base.fs μ H s (Al strF (fun k => T.defs.lookup k) C.sc (n + 1) k vs H) Q E) :
    wpAny (model C.prog C.w) A (call (.ref (C.fa k)) us) Q E s := by
  have gb : ∀ a o, base.g.get? a = some o → s.heap.get? a = some o := fun a o e => hb ▸ base.gb a o e
  unfold Al at q
  split at q
  · exact q.elim
  · rename_i f ef
    split at q
    · rename_i hl
      obtain ⟨o, fd, body, h1, h2, h3, h4, h5, h6, h7, h8, h9⟩ := G.defs ef ok
      have K := A4j h9
      have hul : us.length = f.np := by rw [← V.length, hl]
      have hkl : fd.params.args.length = us.length := by rw [K.np, hul]
      have pnd : (fd.params.args.map (·.arg)).Nodup := by rw [← K.take]; exact (Pu K.nd).sublist (List.take_sublist _ _)
      refine wpAny_call (codeAny_call_cells (binds := (fd.params.args.map (·.arg)).zip us) (by have := a.depth; exact Nat.lt_of_le_of_lt (Nat.le_trans (Nat.le_add_right _ _) (Nat.le_add_right _ _)) this) (gb _ _ h1) h2 (G.nolimit.keeps gb) (h8.keeps gb) h3 (Oi K.posonly K.vararg K.kwonly K.kwarg h6 hkl pnd) h5 ?_ (fun s1 x => ?_) K.co K.gen K.kind)
      · intro y hy
        refine bC fun hno => ?_
        have hm : y.1 ∈ fd.params.args.map (·.arg) := (List.of_mem_zip (a := y.1) (b := y.2) hy).1
        rw [← K.take] at hm
        have hm' := List.mem_of_mem_take hm
        unfold F9 at hm'
        obtain ⟨p, hp', e'⟩ := List.mem_map.mp hm'
        obtain ⟨hp1, hp2⟩ := List.mem_filter.mp hp'
        have hlk := Pn K.nd (x := p.1) (k := p.2) hp1
        rw [e'] at hlk
        simp only [Bool.or_eq_true, beq_iff_eq] at hp2
        refine hno ?_
        rcases hp2 with q1 | q1
        · rw [q1] at hlk; exact .inl hlk
        · rw [q1] at hlk
          refine .inr ⟨hlk, ?_⟩
          obtain ⟨c, ec⟩ := Cq fd.scope.names (s.heap.objs.size + 1) [] (.inl (mem_of_lookup hlk))
          rw [ec]; rfl
      · have st := A57 (a := C.fa k) (q := base.q) hp hg ho zl gb ff K h4 h7 V hl x
        have G' : Gnd C T ⟨s.heap, base.g, callEnvC fd s.heap.objs.size (C.fa k) :: base.fs, base.q, gb⟩ := G.re rfl rfl
        have F : Fn ⟨s.heap, base.g, callEnvC fd s.heap.objs.size (C.fa k) :: base.fs, base.q, gb⟩ (callEnvC fd s.heap.objs.size (C.fa k)) fd.scope := ⟨rfl, ⟨base.fs, _, rfl, rfl⟩⟩
        have a' := a.deeper (env := callEnvC fd s.heap.objs.size (C.fa k)) (gb := gb)
        refine (B.ok H.length K.body).ok G' F st a' ?_
        have lv1 : Lv s.heap s1.heap := ⟨fun e => by
          cases st.keep _ _ e with
          | same e' => exact ⟨_, e', id⟩
          | slot _ _ sl e' => exact ⟨_, e', fun ⟨es, ep, d⟩ => ⟨es, ep, d⟩⟩⟩
        have ret : ∀ {ρ' : A8} {s2 : Shared} {μ2 : List Addr} {H2 : A0}, St C ⟨s.heap, base.g, callEnvC fd s.heap.objs.size (C.fa k) :: base.fs, base.q, gb⟩ H.length (callEnvC fd s.heap.objs.size (C.fa k)) (F9 fd.scope) ρ' μ2 H2 s2 →
            Ext (callEnvC fd s.heap.objs.size (C.fa k)) μ μ2 s1.heap s2.heap → Ret C base.g base.fs μ H s H2 s2 μ2 := by
          intro ρ' s2 μ2 H2 S2 X2
          refine ⟨S2.keep, X2.pre, fun {a'} hm hn => ?_, S2.fresh, S2.hp, S2.gens, S2.os, S2.zl, S2.ff.2.2⟩
          have := X2.new hm hn
          cases e' : s.heap.get? a' with
          | none => rfl
          | some o => obtain ⟨o', e2, _⟩ := lv1.go e'; rw [this] at e2; cases e2
        cases ed : Ai strF (Al strF (fun k => T.defs.lookup k) C.sc n) C.sc H.length f.body (List.map some vs ++ List.replicate (f.nv - f.np) none) H with
        | next ρ2 H2 =>
          rw [ed] at q
          exact fun s2 μ2 X2 S2 => q _ s2 μ2 (ret S2 X2) .none
        | ret w H2 =>
          rw [ed] at q
          exact fun u s2 μ2 X2 S2 V2 => q u s2 μ2 (ret S2 X2) V2
        | exc c H2 =>
          rw [ed] at q
          intro u s2 μ2 X2 S2 ek x2
          unfold leaving
          refine wpAny_bind (Mh F.top a' st S2 X2 x2 fun s3 S3 X3 x3 => ?_)
          exact Kc st S3 X3 x3 fun s4 S4 X4 x4 => q u s4 μ2 (ret S4 X4) ek (x4.weak.back lv1)
        | bad => rw [ed] at q; exact q.elim
    · exact q.elim
theorem Ret.ext {s' : Shared} {g : Heap} {fs : List Env} (R : Ret C g fs μ H s H' s' μ') : Ext env μ μ' s.heap s'.heap := by
  refine ⟨R.pre, fun e _ => (R.kp _ _ e).map (fun _ => trivial) id, R.new, ⟨fun e => ?_⟩⟩
  cases R.kp _ _ e with
  | same e' => exact ⟨_, e', id⟩
  | slot _ _ sl e' => exact ⟨_, e', fun ⟨es, ep, d⟩ => ⟨es, ep, d⟩⟩
theorem Ret.st {s' : Shared} (st : St C base b env Γ ρ μ H s) (R : Ret C base.g base.fs μ H s H' s' μ') : St C base b env Γ ρ μ' H' s' := by
  have mono : ∀ {x : AV} {v : Value}, VR C μ s.heap x v → VR C μ' s'.heap x v := fun q => VR.mono' (P := fun _ => False) R.pre (fun e _ => (R.kp _ _ e).map (fun _ => trivial) id) (fun _ => id) (fun _ _ => id) q
  refine ⟨fun a o e => (st.keep a o e).trans fun e' => R.kp a _ e', R.hp, st.er.mono (fun _ n => Kp.ns n fun e => R.kp _ _ e) (fun x c o ec e => ?_) mono, ?_, st.noloc, ?_, st.nocell, R.gens, R.os, R.zl, R.ff⟩
  · refine bC fun hno => ?_
    obtain ⟨v, ob, eb, db⟩ := st.er.cell ec
    rw [e] at eb; cases eb
    refine hno ?_
    exact (R.kp _ _ e).ex fun _ _ q => by rw [db] at q; cases q
  · intro i a' hi e'
    by_cases hl : i < μ.length
    · obtain ⟨t, rfl⟩ := R.pre
      rw [List.getElem?_append_left hl] at e'
      exact st.fresh hi e'
    · exact Bq st (R.fr (by rw [← st.hp.len]; exact oGe hl) e')
  · intro hm
    by_cases hq : env.locals ∈ μ
    · exact st.lm hq
    · obtain ⟨m, ⟨o, _, _, ho2, _⟩, _⟩ := st.er.ns
      rw [R.new hm hq] at ho2; cases ho2
theorem Cu.step (B : Zq C T n strF (Al strF (fun k => T.defs.lookup k) C.sc n)) : Cu C T (n + 1) (Al strF (fun k => T.defs.lookup k) C.sc (n + 1)) := by
  have go : ∀ {k : Nat} {base : Bs} {b : Nat} {env : Env} {Γ : List Str} {ρ : A8} {μ : List Addr} {H : A0} {s : Shared} {A : Around} {E : Value → Shared → Prop} {Q : Value → Shared → Prop} {vs : List AV} {us : List Value},
      T.okc k = true → Gnd C T base → St C base b env Γ ρ μ H s → AOk base A (n + 1) → VRs C μ s.heap vs us → A7f C base.g base.fs μ H s (Al strF (fun k => T.defs.lookup k) C.sc (n + 1) k vs H) Q E → wpAny (model C.prog C.w) A (call (.ref (C.fa k)) us) Q E s := by
    intro k base b env Γ ρ μ H s A E Q vs us ok G st a V q
    refine T0 (base := ⟨s.heap, base.g, base.fs, base.q, fun _ _ => st.kg⟩) B ok rfl (G.re rfl rfl) st.hp st.gens st.os st.zl st.ff ⟨a.depth, a.units, a.handled, a.frames, a.guards⟩ V q
  refine ⟨?_, ?_⟩
  · intro k base b env Γ ρ μ H H' s A E Q vs us v ok G st a V e q
    refine go ok G st a V ?_
    rw [e]
    exact fun u s' μ' R V' => q u s' μ' R.ext (R.st st) V'
  · intro k base b env Γ ρ μ H H' s A E Q vs us c ok G st a V e q
    refine go ok G st a V ?_
    rw [e]
    exact fun u s' μ' R ek x => q u s' μ' R.ext (R.st st) ek x
theorem Cu.zero : Cu C T 0 (Al strF (fun k => T.defs.lookup k) C.sc 0) := by
  refine ⟨?_, ?_⟩
  · intro k base b env Γ ρ μ H H' s A E Q vs us v ok G st a V e q
    cases e
  · intro k base b env Γ ρ μ H H' s A E Q vs us c ok G st a V e q
    cases e
end
end Mine
namespace Mine
open PySem PySem.Calls PyProof.Rows PySem.SeqAt
section
variable {C : Cx} {T : Tab} {n b : Nat} {Γ : List Str} {S : Scope} {cf : Nat → List AV → A0 → Res AV} {strF : Bi}
theorem Xs {α : Type} {r : Res AV} {f : List AV → A0 → Res α} : ((r.thn fun v H => (Res.ok ([] : List AV) H).thn fun vs H => .ok (v :: vs) H).get f) = r.get fun w H => f [w] H := by
  cases r <;> rfl
theorem Ue {x : AV} {p : Int × Int} (h : Mz x = some p) : x = .tup [.int p.1, .int p.2] := by
  cases x with
  | tup vs =>
    cases vs with
    | nil => cases h
    | cons x r => cases r with
      | nil => cases h
      | cons y r => cases r with
        | cons _ _ => cases h
        | nil =>
          have h : ((Cn x).bind fun i => (Cn y).map fun j => (i, j)) = some p := h
          cases h1 : Cn x with
          | none => rw [h1] at h; cases h
          | some i =>
            cases h2 : Cn y with
            | none => rw [h1, h2] at h; cases h
            | some j => rw [h1, h2] at h; cases h; rw [Js h1, Js h2]
  | _ => cases h
theorem A1f {p : D6} {x y v : AV} {H H' : A0} (e : A7r p x y H = .ok v H') : p = .min2 ∨ p = .max2 := by
  cases p with
  | min2 => exact .inl rfl
  | max2 => exact .inr rfl
  | _ => cases e
theorem Dq {p : D6} {sc : List Int} {vs : List AV} {H H' : A0} {v : AV} (hp : p ≠ .min2 ∧ p ≠ .max2) (e : prim strF sc p vs H = .ok v H') : ∃ x, vs = [x] := by
  cases vs with
  | nil => cases e
  | cons x r => cases r with
    | nil => exact ⟨x, rfl⟩
    | cons y r => cases r with
      | nil => exact ((A1f e).elim hp.1 hp.2).elim
      | cons _ _ => cases e
theorem T6 {p : D6} {sc : List Int} {vs : List AV} {H H' : A0} {v : AV} (hp : p = .min2 ∨ p = .max2) (e : prim strF sc p vs H = .ok v H') : ∃ x y, vs = [x, y] := by
  cases vs with
  | nil => cases e
  | cons x r => cases r with
    | nil => rcases hp with rfl | rfl <;> cases e
    | cons y r => cases r with
      | nil => exact ⟨x, y, rfl⟩
      | cons _ _ => cases e
theorem Iq {o : Option Bool} {H H' : A0} {v : AV} (e : Fs o H = .ok v H') : ∃ t, o = some t ∧ v = .bool t ∧ H' = H := by
  unfold Fs at e
  split at e
  · cases e; exact ⟨_, rfl, rfl, rfl⟩
  · cases e
theorem Lb {base : Bs} (hsf : Kl strF) (hq : base.q = false) {p : D6} {f : Str} {env : Env} {ρ : A8} {μ : List Addr} {H H' : A0} {s : Shared} {A : Around} {E : Value → Shared → Prop} {Q : Value → Shared → Prop} {vs : List AV} {us : List Value} {v : AV} {fv : Value}
    (hf : Ed p = some f) (hb : Cy.lookup f = some fv) (ok : Jd p = true) (G : Gnd C T base) (st : St C base b env Γ ρ μ H s) (a : AOk base A n) (V : VRs C μ s.heap vs us) (e : prim strF C.sc p vs H = .ok v H') (k : B6 C base b env Γ ρ μ s v H' Q) :
    wpAny (model C.prog C.w) A (call fv us) Q E s := by
  cases p with
  | len =>
    cases hf; cases hb
    refine bC fun hno => ?_
    obtain ⟨x, rfl⟩ := Dq (by simp) e
    obtain ⟨u, rfl, V1⟩ := V.one
    refine hno ?_
    exact A92 G.scr st V1 e k
  | list =>
    cases hf; cases hb
    refine bC fun hno => ?_
    obtain ⟨x, rfl⟩ := Dq (by simp) e
    obtain ⟨u, rfl, V1⟩ := V.one
    refine hno ?_
    exact A5r st V1 e k
  | tuple =>
    cases hf; cases hb
    refine bC fun hno => ?_
    obtain ⟨x, rfl⟩ := Dq (by simp) e
    obtain ⟨u, rfl, V1⟩ := V.one
    refine hno ?_
    exact A2m st V1 e k
  | sorted =>
    cases hf; cases hb
    refine bC fun hno => ?_
    obtain ⟨x, rfl⟩ := Dq (by simp) e
    obtain ⟨u, rfl, V1⟩ := V.one
    refine hno ?_
    cases x with
    | ref r =>
      rw [N0] at e
      split at e
      · rename_i xs ex
        split at e
        · rename_i h64
          split at e
          · rename_i is ei
            refine bC fun hno => ?_
            obtain ⟨_, rfl, rfl⟩ := Ds e
            refine hno ?_
            exact Yo st V1 ex ei h64 k
          · cases e
        · cases e
      · cases e
    | _ => exact Er (v := v) (H' := H') e
  | min2 =>
    cases hf; cases hb
    refine bC fun hno => ?_
    obtain ⟨x, y, rfl⟩ := T6 (.inl rfl) e
    obtain ⟨u, w, rfl, V1, V2⟩ := V.two
    refine hno ?_
    exact A5v st a hq V1 V2 e k
  | max2 =>
    cases hf; cases hb
    refine bC fun hno => ?_
    obtain ⟨x, y, rfl⟩ := T6 (.inr rfl) e
    obtain ⟨u, w, rfl, V1, V2⟩ := V.two
    refine hno ?_
    exact A5e st a hq V1 V2 e k
  | min1 =>
    cases hf; cases hb
    refine bC fun hno => ?_
    obtain ⟨x, rfl⟩ := Dq (by simp) e
    obtain ⟨u, rfl, V1⟩ := V.one
    have e : (match Mz x with | some p => Res.ok (AV.int (min p.1 p.2)) H | none => .bad) = .ok v H' := e
    refine hno ?_
    cases q : Mz x with
    | none => rw [q] at e; cases e
    | some p => rw [q] at e; cases e; cases Ue q; exact A6j st a hq V1 k
  | max1 =>
    cases hf; cases hb
    refine bC fun hno => ?_
    obtain ⟨x, rfl⟩ := Dq (by simp) e
    obtain ⟨u, rfl, V1⟩ := V.one
    unfold prim A7i at e
    dsimp only at e
    refine hno ?_
    cases q : Mz x with
    | some p => rw [q] at e; cases e; cases Ue q; exact A4q st a hq V1 k
    | none =>
      rw [q] at e
      cases x with
      | ref r =>
        dsimp only at e
        split at e
        · rename_i xs ex
          split at e
          · rename_i i is ei
            cases e
            exact A4y st a hq V1 ex ei k
          · cases e
        · cases e
      | _ => cases e
  | all =>
    cases hf; cases hb
    refine bC fun hno => ?_
    obtain ⟨x, rfl⟩ := Dq (by simp) e
    obtain ⟨u, rfl, V1⟩ := V.one
    refine hno ?_
    cases x with
    | ref r =>
      rw [A0g] at e
      split at e
      · rename_i xs ex
        split at e
        · rename_i is ei
          cases e
          exact A8x st a hq V1 ex ei k
        · cases e
      · cases e
    | _ => exact Er (v := v) (H' := H') e
  | int =>
    cases hf; cases hb
    refine bC fun hno => ?_
    obtain ⟨x, rfl⟩ := Dq (by simp) e
    obtain ⟨u, rfl, V1⟩ := V.one
    refine hno ?_
    cases x with
    | bool c =>
      have e : Res.ok (AV.int (if c then 1 else 0)) H = .ok v H' := e
      cases e; exact A8s st V1 k
    | _ => exact Er (v := v) (H' := H') e
  | sortedP => cases ok
  | listRange => cases hf
  | sortedSet => cases hf
  | isInt => cases hf
  | isBool => cases hf
  | isList => cases hf
  | isTuple => cases hf
  | isExc c => cases hf
  | isValueError => cases hf
theorem A5n {p : D6} {f : Str} (h : Ed p = some f) : (∃ id, Cy.lookup f = some (.builtin id)) ∨ (∃ ty, Cy.lookup f = some (.type ty)) := by
  cases p <;> cases h <;> first | exact .inl ⟨_, rfl⟩ | exact .inr ⟨_, rfl⟩
theorem Aj.primCall (hsf : Kl strF) (hq : T.q = false) {p : D6} {f : Str} {e : Expr} {r : List Expr} {np pos : Pos} {d : A8 → A0 → Res AV} {d1 : A8 → A0 → Res (List AV)} (hf : Ed p = some f) (ok : Jd p = true) (hg : Ao S f = true) (hn : (e :: r).all Am = true)
    (h1 : Gy C T n b Γ S (e :: r) d1) (hd : ∀ ρ H, d ρ H = (d1 ρ H).get fun vs H => prim strF C.sc p vs H) : Aj C T n b Γ S (.Call (.Name f np) (e :: r) [] pos) d := by
  rcases A5n hf with ⟨id, hb⟩ | ⟨ty, hb⟩
  · exact .callB hb hg hn h1 hd fun G st a V e k => Lb hsf (G.q.trans hq) hf hb ok G st a V e k
  · exact .callT hb hg hn h1 hd fun G st a V e k => Lb hsf (G.q.trans hq) hf hb ok G st a V e k
theorem Aj.isCall {p : D6} {f g : Str} {x : Expr} {np gp pos : Pos} {d d1 : A8 → A0 → Res AV} (hp : Je T p = some g) (ok : Jd p = true) (hf : f = ("isinstance" : Str)) (hg : Ao S f = true) (hgg : Ao S g = true) (hn : Am x = true)
    (h1 : Aj C T n b Γ S x d1) (hd : ∀ ρ H, d ρ H = (d1 ρ H).get fun w H => prim strF C.sc p [w] H) : Aj C T n b Γ S (.Call (.Name f np) [x, .Name g gp] [] pos) d := by
  subst hf
  cases p with
  | isInt =>
    cases hp
    refine .callI (Ty := "int") rfl hg rfl hgg hn h1 hd fun G st V e k => ?_
    refine bC fun hno => ?_
    obtain ⟨t, e', rfl, rfl⟩ := Iq e
    refine hno ?_
    exact A24 st V e' k
  | isBool =>
    cases hp
    refine .callI (Ty := "bool") rfl hg rfl hgg hn h1 hd fun G st V e k => ?_
    refine bC fun hno => ?_
    obtain ⟨t, e', rfl, rfl⟩ := Iq e
    refine hno ?_
    exact Zy st V e' k
  | isList =>
    cases hp
    refine .callI (Ty := "list") rfl hg rfl hgg hn h1 hd fun G st V e k => ?_
    refine bC fun hno => ?_
    obtain ⟨t, e', rfl, rfl⟩ := Iq e
    refine hno ?_
    exact Yn st V e' k
  | isTuple =>
    cases hp
    refine .callI (Ty := "tuple") rfl hg rfl hgg hn h1 hd fun G st V e k => ?_
    refine bC fun hno => ?_
    obtain ⟨t, e', rfl, rfl⟩ := Iq e
    refine hno ?_
    exact Vx st V e' k
  | isValueError =>
    cases hp
    refine .callI (Ty := "ValueError") rfl hg rfl hgg hn h1 hd fun {_ _ _ _ _ _ _ _ _ _ w _ _} G st V e k => ?_
    cases w with
    | exc c =>
      have e : Res.ok (AV.bool true) _ = .ok _ _ := e
      cases e; exact A5l G st V k
    | _ => exact Er e
  | isExc c =>
    refine .callX rfl hg hgg hn h1 hd fun {_ _ _ _ _ _ _ _ _ _ w _ _} G st V e k => ?_
    refine bC fun hno => ?_
    have hp : T.excs.lookup c = some g := hp
    obtain ⟨Cc, _, em, _⟩ := G.exg.cls hp
    refine hno ?_
    refine ⟨_, em, ?_⟩
    cases w with
    | exc d =>
      have e : Res.ok (AV.bool (decide (d = c) || decide (c = 0))) _ = .ok _ _ := e
      cases e; exact A1k G st V hp em k
    | _ => exact Er e
  | _ => cases hp
theorem Aj.listRange (hq : T.q = false) {f g : Str} {x : Expr} {np gp p2 pos : Pos} {d d1 : A8 → A0 → Res AV} (hf : f = ("list" : Str)) (hg : g = ("range" : Str)) (hgf : Ao S f = true) (hgg : Ao S g = true) (hn : Am x = true) (h1 : Aj C T n b Γ S x d1)
    (hd : ∀ ρ H, d ρ H = (d1 ρ H).get fun w H => prim strF C.sc .listRange [w] H) : Aj C T n b Γ S (.Call (.Name f np) [.Call (.Name g gp) [x] [] p2] [] pos) d := by
  subst hf; subst hg
  refine ⟨?_⟩
  intro base env ρ μ H H' s A E Q v' G hS st a ed k
  rw [hd] at ed
  obtain ⟨w, H1, e1, ed⟩ := Res.get_ok ed
  cases w with
  | int c =>
    rw [Nn] at ed
    split at ed
    · rename_i hr
      refine bC fun hno => ?_
      obtain ⟨_, rfl, rfl⟩ := Ds ed
      refine hno ?_
      refine wpAny_Call_ofName (Bv G hS st hgf rfl ?_)
      refine PySem.callWith_type (Dc rfl) (Cb rfl (wpAny_items_cons ?_ (An rfl)))
      refine wpAny_Call_ofName (Bv G hS st hgg rfl ?_)
      refine PySem.callWith_type (Dc (by simp only [List.all_cons, hn]; rfl)) (Cb hn (wpAny_items_cons (h1.ok G hS st a e1 fun u s' μ' X S' V => wpAny_items_nil ?_) (An hn)))
      obtain ⟨t, rfl⟩ := V.isInt
      refine call_range_1 ?_
      refine wpAny_items_nil ?_
      refine Rn ((S'.tok (s'.toks + 1 + 1)).push _) a (G.q.trans hq) (IsRange.new _ _ _ _ _ _ _) hr fun u2 s2 μ2 X2 S2 V2 => k u2 s2 μ2 ((X.trans (Ext.push _)).trans X2) S2 V2
    · cases ed
  | _ => exact Er (v := v') (H' := H') ed
end
end Mine
namespace Mine
open PySem PySem.Calls PyProof.Rows PySem.SeqAt
theorem O1 {xs : Array Nat} {j : Nat} : ∀ (fuel lo hi : Nat), hi - lo < fuel + 1 → lo ≤ hi → hi ≤ xs.size → (∀ i, i < lo → xs.getD i 0 < j) → (∀ i, hi ≤ i → i < xs.size → j ≤ xs.getD i 0) → xs.toList.Pairwise (· < ·) →
    (∀ i, i < SetTable.below.go xs j fuel lo hi → xs.getD i 0 < j) ∧ (∀ i, SetTable.below.go xs j fuel lo hi ≤ i → i < xs.size → j ≤ xs.getD i 0) ∧ SetTable.below.go xs j fuel lo hi ≤ xs.size
  | 0, lo, hi, h1, h2, h3, ha, hb, hp => by
    have : lo = hi := by exact Nat.le_antisymm h2 (Nat.le_of_sub_eq_zero (Nat.lt_one_iff.mp h1))
    subst this
    exact ⟨ha, hb, h3⟩
  | fuel + 1, lo, hi, h1, h2, h3, ha, hb, hp => by
    unfold SetTable.below.go
    by_cases h : lo < hi
    · rw [if_pos h]
      dsimp only
      have hm : (lo + hi) / 2 < hi := (Nat.div_lt_iff_lt_mul (by decide)).mpr (Nat.lt_of_lt_of_le (Nat.add_lt_add_right h hi) (Nat.le_of_eq (Nat.mul_two hi).symm))
      have hm2 : lo ≤ (lo + hi) / 2 := (Nat.le_div_iff_mul_le (by decide)).mpr (Nat.le_trans (Nat.le_of_eq (Nat.mul_two lo)) (Nat.add_le_add_left h2 lo))
      generalize (lo + hi) / 2 = mid at hm hm2
      have hms : mid < xs.size := by exact Nat.lt_of_lt_of_le hm h3
      have hg : ∀ d, xs.getD mid d = xs[mid] := fun d => by simp [Array.getD, hms]
      have mono : ∀ i k, i < k → k < xs.size → xs.getD i 0 < xs.getD k 0 := fun i k hik hk => by
        have := List.pairwise_iff_getElem.mp hp i k (by simpa using (by exact Dz hik hk : i < xs.size)) (by simpa using hk) hik
        have e1 : xs.getD i 0 = xs[i] := by simp [Array.getD, show i < xs.size by exact Dz hik hk]
        have e2 : xs.getD k 0 = xs[k] := by simp [Array.getD, hk]
        rw [e1, e2]; simpa using this
      by_cases q : xs.getD mid j < j
      · rw [if_pos q]
        rw [hg] at q
        refine O1 fuel (mid + 1) hi (Ac4 h1 hm2) (by exact hm) h3 (fun i hi' => ?_) hb hp
        by_cases e : i = mid
        · rw [e, hg]; exact q
        · have := mono i mid (by exact Gs hi' e) hms; rw [hg] at this; exact Dz this q
      · rw [if_neg q]
        rw [hg] at q
        refine O1 fuel lo mid (Ac5 h1 hm) hm2 (by exact Nat.le_of_lt hms) ha (fun i hi' his => ?_) hp
        by_cases e : i = mid
        · rw [e, hg]; exact oGe q
        · have := mono mid i (by exact Iz hi' e) his; rw [hg] at this; exact Nat.le_of_lt (Nat.lt_of_lt_of_le (oGt q) this)
    · rw [if_neg h]
      have : lo = hi := by exact Abs h2 h
      subst this
      exact ⟨ha, hb, h3⟩
theorem Nm {xs : Array Nat} (j : Nat) (hp : xs.toList.Pairwise (· < ·)) : (∀ i, i < SetTable.below xs j → xs.getD i 0 < j) ∧ (∀ i, SetTable.below xs j ≤ i → i < xs.size → j ≤ xs.getD i 0) ∧ SetTable.below xs j ≤ xs.size :=
  O1 xs.size 0 xs.size (by exact Nat.le_refl _) (Nat.zero_le _) (Nat.le_refl _) (fun i h => absurd h (Nat.not_lt_zero _)) (fun i h1 h2 => by exact absurd h2 (Nat.not_lt_of_le h1)) hp
theorem P0 {α : Type} (xs : Array α) (p : Nat) (x : α) : (SetTable.insertAt xs p x).toList = xs.toList.take p ++ x :: xs.toList.drop p := by
  unfold SetTable.insertAt
  rw [Array.toList_append, Array.toList_push, Array.toList_extract, Array.toList_extract, List.append_assoc]
  simp only [List.extract, List.drop_zero, Nat.sub_zero, List.singleton_append]
  congr 2
  rw [List.take_of_length_le]
  rw [List.length_drop, Array.length_toList]; exact Nat.le_refl _
theorem R7 {xs : Array Nat} {j : Nat} (hp : xs.toList.Pairwise (· < ·)) (hn : xs[SetTable.below xs j]? ≠ some j) : (SetTable.insertAt xs (SetTable.below xs j) j).toList.Pairwise (· < ·) := by
  obtain ⟨b1, b2, b3⟩ := Nm j hp
  generalize SetTable.below xs j = p at hn b1 b2 b3
  rw [P0]
  have hget : ∀ i, i < xs.size → xs.getD i 0 = xs.toList.getD i 0 := fun i hi => by simp [Array.getD, hi]
  refine List.pairwise_append.mpr ⟨hp.sublist (List.take_sublist ..), List.pairwise_cons.mpr ⟨fun y hy => ?_, hp.sublist (List.drop_sublist ..)⟩, fun x hx y hy => ?_⟩
  · obtain ⟨i, hi⟩ := List.mem_iff_getElem?.mp hy
    rw [List.getElem?_drop] at hi
    have hlt : p + i < xs.size := by have := (List.getElem?_eq_some_iff.mp hi).1; simpa using this
    have hy' : xs.getD (p + i) 0 = y := by rw [hget _ hlt, List.getD_eq_getElem?_getD, hi]; rfl
    have h1 := b2 (p + i) (by exact Nat.le_add_right _ _) hlt
    rw [hy'] at h1
    by_cases e : j = y
    · exfalso
      cases i with
      | zero =>
        apply hn
        rw [← Array.getElem?_toList, ← Nat.add_zero p, hi, e]
      | succ i =>
        have hlt2 : p < xs.size := by exact Nat.lt_of_le_of_lt (Nat.le_add_right _ _) hlt
        have h2 := b2 p (Nat.le_refl _) hlt2
        have := List.pairwise_iff_getElem.mp hp p (p + (i + 1)) (by simpa using hlt2) (by simpa using hlt) (by exact Nat.lt_succ_of_le (Nat.le_add_right _ _))
        have e1 : xs.getD p 0 = xs.toList[p]'(by simpa using hlt2) := by rw [hget _ hlt2, List.getD_eq_getElem?_getD, List.getElem?_eq_getElem (by simpa using hlt2)]; rfl
        have e2 : y = xs.toList[p + (i + 1)]'(by simpa using hlt) := (List.getElem?_eq_some_iff.mp hi).2.symm
        rw [e1] at h2
        rw [← e2] at this
        exact Nat.ne_of_lt (Nat.lt_of_le_of_lt h2 this) e
    · exact Nat.lt_of_le_of_ne h1 e
  · have hxp : x < j := by
      obtain ⟨i, hi⟩ := List.mem_iff_getElem?.mp hx
      have hip : i < p := by
        have := (List.getElem?_eq_some_iff.mp hi).1
        rw [List.length_take] at this; exact Nat.lt_of_lt_of_le this (Nat.min_le_left _ _)
      rw [List.getElem?_take_of_lt hip] at hi
      have his : i < xs.size := by exact Nat.lt_of_lt_of_le hip b3
      have := b1 i hip
      rw [hget _ his, List.getD_eq_getElem?_getD, hi] at this
      exact this
    rcases List.mem_cons.mp hy with rfl | hy
    · exact hxp
    · obtain ⟨i, hi⟩ := List.mem_iff_getElem?.mp hy
      rw [List.getElem?_drop] at hi
      have hlt : p + i < xs.size := by have := (List.getElem?_eq_some_iff.mp hi).1; simpa using this
      have hy' : xs.getD (p + i) 0 = y := by rw [hget _ hlt, List.getD_eq_getElem?_getD, hi]; rfl
      have h1 := b2 (p + i) (by exact Nat.le_add_right _ _) hlt
      exact Nat.lt_of_lt_of_le hxp (Aat h1 hy')
noncomputable def Jx (t : SetTable) (j : Nat) : Prop := t.place[SetTable.below t.place j]? ≠ some j
theorem Jo {t : SetTable} {j : Nat} (h : ∀ i, t.slot j ≠ .live i) : Jx t j := fun e => by
  refine h (SetTable.below t.place j) ?_
  unfold SetTable.slot
  dsimp only
  rw [e]
  simp
theorem Iy (t : SetTable) (p : SetTable.Probe) : (t.advance p).dummy = p.dummy := by
  unfold SetTable.advance
  split <;> rfl
theorem Ni {t : SetTable} {f : Nat → Int} {h : Int} {j : Nat} {d : Option Nat} : ∀ (fuel : Nat) (p : SetTable.Probe), (∀ x, p.dummy = some x → Jx t x) → SetTable.probe.go t f h fuel p = some (.empty j d) → Jx t j ∧ ∀ x, d = some x → Jx t x
  | 0, p, hp, e => by cases e
  | fuel + 1, p, hp, e => by
    unfold SetTable.probe.go at e
    cases hs : t.slot p.j with
    | empty =>
      rw [hs] at e
      cases e
      exact ⟨Jo fun i e => (by rw [hs] at e; cases e), hp⟩
    | dummy =>
      rw [hs] at e
      refine Ni fuel _ (fun x hx => ?_) e
      rw [Iy] at hx
      cases hx
      exact Jo fun i e => by rw [hs] at e; cases e
    | live i =>
      rw [hs] at e
      dsimp only at e
      split at e
      · cases e
      · exact Ni fuel _ (fun x hx => by rw [Iy] at hx; exact hp x hx) e
theorem R1 {t : SetTable} {h : Int} {slot : Nat} {b : Bool} (e : t.freeSlot h = some (slot, b)) : Jx t slot := by
  unfold SetTable.freeSlot at e
  cases hp : t.probe (fun _ => h + 1) h (t.probeStart h) with
  | none => rw [hp] at e; cases e
  | some f =>
  cases f with
  | empty j d =>
    rw [hp] at e
    cases e
    have := Ni _ _ (fun x hx => by cases hx) hp
    cases d with
    | none => exact this.1
    | some x => exact this.2 x rfl
  | _ => rw [hp] at e; cases e
structure Ft (led : Bool) (t : SetTable) : Prop where
  led : t.led = led
  ris : t.place.toList.Pairwise (· < ·)
theorem Uj (n : Nat) : (Array.range n).toList.Pairwise (· < ·) := by rw [Array.toList_range]; exact List.pairwise_lt_range
theorem Ft.standIn {led : Bool} {t : SetTable} (h : Ft led t) (n : Nat) : Ft led (t.standIn n) := ⟨h.led, Uj n⟩
theorem Ft.layNew {led : Bool} {t : SetTable} (h : Ft led t) (es : Array (Int × Value)) (k : Int) (x : Value) : Ft led (PySem.layNew t es k x).2.1 := by
  unfold PySem.layNew
  split
  · rename_i slot b hf
    dsimp only
    have hn := R1 hf
    have h' : Ft led (t.put slot).1 := ⟨h.led, R7 h.ris hn⟩
    unfold SetTable.orStandIn
    split
    · exact h'
    · exact h'.standIn _
  · exact h.standIn _
theorem Mc : ∀ (l : List Nat) (f : Nat → Option Nat), l.Pairwise (· < ·) → ((l.filterMap fun j => (f j).map (j, ·)).map (·.1)).Pairwise (· < ·)
  | [], f, _ => .nil
  | x :: l, f, h => by
    obtain ⟨h1, h2⟩ := List.pairwise_cons.mp h
    have ih := Mc l f h2
    rw [List.filterMap_cons]
    cases f x with
    | none => exact ih
    | some y =>
      refine List.pairwise_cons.mpr ⟨fun z hz => ?_, ih⟩
      obtain ⟨p, hp, rfl⟩ := List.mem_map.mp hz
      obtain ⟨j, hj, e⟩ := List.mem_filterMap.mp hp
      cases q : f j with
      | none => rw [q] at e; cases e
      | some u => rw [q] at e; cases e; exact h1 j hj
theorem Ft.laid {led plain : Bool} {mask finger moves : Nat} {hs : Array Int} {t : SetTable} {o : Array Nat} (e : SetTable.laid mask finger moves led plain hs = some (t, o)) : Ft led t := by
  unfold SetTable.laid at e
  cases q : SetTable.layClean mask hs with
  | none => rw [q] at e; cases e
  | some owner =>
    rw [q] at e
    cases e
    exact ⟨rfl, by show (List.toArray _).toList.Pairwise _; rw [List.toList_toArray]; exact Mc _ _ List.pairwise_lt_range⟩
theorem Ft.relay {led : Bool} {t : SetTable} (h : Ft led t) (es : Array (Int × Value)) (n : Nat) : Ft led (relayAll t es n).2.1 := by
  unfold relayAll
  split
  · rename_i t' order hr
    dsimp only
    split
    · have := Ft.laid (led := t.led) hr
      rw [h.led] at this
      exact this
    · exact h.standIn _
  · exact h.standIn _
end Mine
namespace Mine
open PySem PySem.Calls PyProof.Rows PySem.SeqAt
noncomputable def Li : Value → Int
  | .int i _ => i
  | _ => 0
inductive Gw (h : Heap) (a : Addr) (led : Bool) (l : List Int) : Prop
  | mk (o : Obj) (es : Array (Int × Value)) (ep : Nat) (t : SetTable) (ho : h.get? a = some o) (hex : o.ExactSet) (hd : o.data = .set es ep t) (hel : ∀ e ∈ es.toList, ∃ i tk, e = (hashInt i, Value.int i tk))
    (hp : (es.toList.map fun e => Li e.2).Perm l) (hb : es.size < scanBound) (hf : t.fits es.size = true) (ht : Ft led t) : Gw h a led l
noncomputable def dd (l : List Int) (k : Int) : List Int := if k ∈ l then l else l ++ [k]
theorem A06 {l : List Int} (h : l.Nodup) (k : Int) : (dd l k).Nodup := by
  unfold dd
  split
  · exact h
  · rename_i q
    exact List.nodup_append.mpr ⟨h, by simp, fun a ha b hb e => q (by simp at hb; rw [← hb, ← e]; exact ha)⟩
theorem A88 {l : List Int} {k x : Int} : x ∈ dd l k ↔ x ∈ l ∨ x = k := by
  unfold dd
  split
  · rename_i q
    exact ⟨.inl, fun h => h.elim id fun e => e ▸ q⟩
  · simp
theorem A00 (l : List Int) (k : Int) : (dd l k).length ≤ l.length + 1 := by
  unfold dd
  split
  · exact Nat.le_add_right _ _
  · simp
section
variable {prog : Program} {w : World} {A : Around} {E : Value → Shared → Prop} {s : Shared} {a : Addr} {led : Bool} {l : List Int}
theorem A05 {es : List (Int × Value)} (h : ∀ e ∈ es, ∃ i tk, e = (hashInt i, Value.int i tk)) : ElemsOf (intKind prog w) es := fun e he => by
  obtain ⟨i, tk, rfl⟩ := h e he
  exact ⟨⟨i, intKind_is prog w i tk, rfl⟩, rfl⟩
theorem Gw.stored {h : Heap} {o : Obj} {es : Array (Int × Value)} {ep : Nat} {t : SetTable} (ho : h.get? a = some o) (hex : o.ExactSet) (hd : o.data = .set es ep t) {es' : Array (Int × Value)} {t' : SetTable}
    (hel : ∀ e ∈ es'.toList, ∃ i tk, e = (hashInt i, Value.int i tk)) (hp : (es'.toList.map fun e => Li e.2).Perm l) (hb : es'.size < scanBound) (hf : t'.fits es'.size = true) (ht : Ft led t') :
    (h.update a (Obj.putSet es' t')).get? a = some { o with data := .set es' (ep + 1) t' } ∧ Gw (h.update a (Obj.putSet es' t')) a led l := by
  have hg : (h.update a (Obj.putSet es' t')).get? a = some { o with data := .set es' (ep + 1) t' } := by
    have := Heap.get?_update_self (Obj.putSet es' t') ho (by rw [putSet_of es' t' hd]; rfl)
    rw [putSet_of es' t' hd] at this; exact this
  exact ⟨hg, _, es', ep + 1, t', hg, hex, rfl, hel, hp, hb, hf, ht⟩
theorem A6p {k : Int} {tk : Tok} {Q : Bool → Shared → Prop} (S : Gw s.heap a led l) (hroom : l.length + 1 < scanBound) (h : ∀ b h', Heap.SameBut a s.heap h' → Gw h' a led (dd l k) → Q b { s with heap := h' }) :
    wpAny (model prog w) A (setAddHashed a (.int k tk) (hashInt k)) Q E s := by
  obtain ⟨o, es, ep, t, ho, hex, hd, hel, hp, hb, hf, ht⟩ := S
  have hsz : es.size = l.length := by rw [← Array.length_toList, ← hp.length_eq, List.length_map]
  have hel' : ElemsOf (intKind prog w) es.toList := A05 hel
  unfold setAddHashed setAddHashedIn
  refine wpAny_holding (wpAny_bind (wpAny_setState_of ho hd hf ?_))
  dsimp only
  rw [byScan_of (x := .int k tk) rfl hb hel']
  simp only [↓reduceIte]
  unfold setAddByScan
  refine wpAny_bind ?_
  refine wpAny_bind (wpAny_rule ?_)
  refine wpAny_bind (wpAny_setScan_of (knd := intKind prog w) (k := k) (intKind_is prog w k tk) ho hd hf hel' ?_)
  have isk : ∀ {e : Int × Value}, e ∈ es.toList → ((intKind prog w).is k e.2 = true ↔ Li e.2 = k) := fun {e} he => by
    obtain ⟨i, tk, rfl⟩ := hel e he
    show ((i == k) = true) ↔ i = k
    exact beq_iff_eq
  cases hr : List.findIdx? (fun e => (intKind prog w).is k e.2) es.toList with
  | some j =>
    dsimp only
    obtain ⟨hj, hpj, _⟩ := List.findIdx?_eq_some_iff_getElem.mp hr
    have hk : k ∈ l := hp.mem_iff.mp (List.mem_map.mpr ⟨_, List.getElem_mem hj, (isk (List.getElem_mem hj)).mp hpj⟩)
    have e : s = { s with heap := s.heap } := by cases s; rfl
    have := h false s.heap (Heap.SameBut.refl a s.heap) ⟨o, es, ep, t, ho, hex, hd, hel, by unfold dd; rw [if_pos hk]; exact hp, hb, hf, ht⟩
    exact wpAny_pure (wpAny_pure this)
  | none =>
    dsimp only
    have hk : k ∉ l := fun hm => by
      obtain ⟨e, he, q⟩ := List.mem_map.mp (hp.mem_iff.mpr hm)
      have := List.findIdx?_eq_none_iff.mp hr e he
      rw [(isk he).mpr q] at this
      cases this
    have hgw : ∀ (b : Bool) {s₁ : Shared} {Q' : Unit → Shared → Prop}, Q' () s₁ → wpAny (model prog w) A (match b with | true => rule "set.scan.the-table-gave-way" | false => pure ()) Q' E s₁ :=
      fun b s₁ Q' hq => by cases b <;> first | exact wpAny_pure hq | exact wpAny_rule hq
    have hperm := layNew_perm t es (hashInt k) (.int k tk)
    have hfits := layNew_fits t es (hashInt k) (.int k tk)
    have htab := ht.layNew es (hashInt k) (.int k tk)
    generalize hL : layNew t es (hashInt k) (.int k tk) = L at hperm hfits htab ⊢
    obtain ⟨es1, t1, wasDummy, gave⟩ := L
    dsimp only at hperm hfits htab ⊢
    rw [Array.toList_push] at hperm
    have hel1 : ∀ e ∈ es1.toList, ∃ i tk, e = (hashInt i, Value.int i tk) := fun e he => by
      rcases List.mem_append.mp (hperm.mem_iff.mp he) with he | he
      · exact hel e he
      · cases List.mem_singleton.mp he; exact ⟨k, tk, rfl⟩
    have hp1 : (es1.toList.map fun e => Li e.2).Perm (dd l k) := by
      unfold dd
      rw [if_neg hk]
      refine (hperm.map _).trans ?_
      rw [List.map_append]
      exact hp.append_right _
    have hsz1 : es1.size = l.length + 1 := by rw [← Array.length_toList, hperm.length_eq, List.length_append, Array.length_toList, hsz]; rfl
    have hb1 : es1.size < scanBound := by rw [hsz1]; exact hroom
    refine wpAny_bind (hgw _ ?_)
    have tail : ∀ t2 : SetTable, t2.fits es1.size = true → Ft led t2 → wpAny (model prog w) A (do
        storeSet a es1 t2
        if (!wasDummy && t2.tooFull) = true then do
            (match (relayAll t2 es1 (SetTable.grown es1.size)).2.2 with | true => rule "set.scan.the-table-gave-way" | false => pure ())
            storeSet a (relayAll t2 es1 (SetTable.grown es1.size)).1 (relayAll t2 es1 (SetTable.grown es1.size)).2.1
            pure (some true)
          else pure (some true)) (fun r s' => ∃ h', r = some true ∧ s' = { s with heap := h' } ∧ Heap.SameBut a s.heap h' ∧ Gw h' a led (dd l k)) E s := by
      intro t2 hf2 ht2
      refine wpAny_bind (wpAny_storeSet_of ho hd ?_ (fits_of_scanBound hb1))
      obtain ⟨ho1, hS1⟩ := Gw.stored (led := led) (l := dd l k) ho hex hd hel1 hp1 hb1 hf2 ht2
      have hsb1 := Heap.SameBut.update s.heap a (Obj.putSet es1 t2)
      split
      · have hp2 := relayAll_perm t2 es1 (SetTable.grown es1.size)
        have hf3 := relayAll_fits t2 es1 (SetTable.grown es1.size)
        have ht3 := ht2.relay es1 (SetTable.grown es1.size)
        generalize hRl : relayAll t2 es1 (SetTable.grown es1.size) = Rl at hp2 hf3 ht3 ⊢
        obtain ⟨es2, t3, gave2⟩ := Rl
        dsimp only at hp2 hf3 ht3 ⊢
        have hb2 : es2.size < scanBound := by rw [← Array.length_toList, hp2.length_eq, Array.length_toList]; exact hb1
        refine wpAny_bind (hgw _ ?_)
        refine wpAny_bind (wpAny_storeSet_of ho1 rfl ?_ (fits_of_scanBound hb2))
        obtain ⟨_, hS2⟩ := Gw.stored (led := led) (l := dd l k) ho1 hex rfl (fun e he => hel1 e (hp2.mem_iff.mp he)) ((hp2.map _).trans hp1) hb2 hf3 ht3
        exact wpAny_pure ⟨_, rfl, rfl, hsb1.trans (Heap.SameBut.update _ a _), hS2⟩
      · exact wpAny_pure ⟨_, rfl, rfl, hsb1, hS1⟩
    have fin : ∀ (r : Option Bool) (s' : Shared), (∃ h', r = some true ∧ s' = { s with heap := h' } ∧ Heap.SameBut a s.heap h' ∧ Gw h' a led (dd l k)) → wpAny (model prog w) A (match r with | some added => pure added | none => setAddHashedIn a (.int k tk) (hashInt k) 99999) Q E s' := by
      rintro r s' ⟨h', rfl, rfl, hsb, hS⟩
      exact wpAny_pure (h true h' hsb hS)
    split
    · refine wpAny_bind ?_
      rw [hashByValue_scannable 8 (x := .int k tk) rfl]
      refine wpAny_pure ?_
      exact wpAny_mono (tail t1 hfits htab) (fun r s' q => fin r s' q) fun _ _ q => q
    · refine wpAny_bind ?_
      refine wpAny_pure ?_
      exact wpAny_mono (tail t1 hfits htab) (fun r s' q => fin r s' q) fun _ _ q => q
end
end Mine
namespace Mine
open PySem PySem.Calls PyProof.Rows PySem.SeqAt
noncomputable def ddL (val : Nat → Int) (i : Nat) : List Int := ((List.range i).map val).foldl dd []
theorem Ke (val : Nat → Int) (i : Nat) : ddL val (i + 1) = dd (ddL val i) (val i) := by unfold ddL; rw [List.range_succ, List.map_append, List.foldl_append]; rfl
theorem J5 (val : Nat → Int) : ∀ i, (ddL val i).length ≤ i
  | 0 => Nat.le_refl _
  | i + 1 => by rw [Ke]; exact Nat.le_trans (A00 _ _) (Nat.succ_le_succ (J5 val i))
theorem Q8 (val : Nat → Int) : ∀ i, (ddL val i).Nodup
  | 0 => .nil
  | i + 1 => by rw [Ke]; exact A06 (Q8 val i) _
theorem W4 (val : Nat → Int) (x : Int) : ∀ i, x ∈ ddL val i ↔ ∃ j, j < i ∧ val j = x
  | 0 => ⟨fun h => (by cases h), fun ⟨j, h, _⟩ => absurd h (Nat.not_lt_zero _)⟩
  | i + 1 => by
    rw [Ke, A88, W4 val x i]
    constructor
    · rintro (⟨j, h, e⟩ | e)
      · exact ⟨j, Nat.lt_succ_of_lt h, e⟩
      · exact ⟨i, Nat.lt_succ_self _, e.symm⟩
    · rintro ⟨j, h, e⟩
      by_cases q : j = i
      · exact .inr (by rw [← e, q])
      · exact .inl ⟨j, by exact Gs h q, e⟩
section
variable {prog : Program} {w : World} {A : Around} {R : Result → Shared → Prop} {I : Addr} {fp wr : List Addr} {G : Array GenState → Array GenState → Prop} {n : Nat} {P : Nat → Value → Prop} {St : Nat → Shared → Prop} {led : Bool}
theorem Gw.at {h h' : Heap} {a : Addr} {l : List Int} (S : Gw h a led l) (e : ∀ o, h.get? a = some o → h'.get? a = some o) : Gw h' a led l := by
  obtain ⟨o, es, ep, t, ho, r1, r2, r3, r4, r5, r6, r7⟩ := S
  exact ⟨o, es, ep, t, e o ho, r1, r2, r3, r4, r5, r6, r7⟩
theorem A0b (W : WalksS prog w A.in1 I fp wr G n P St) (S : Addr) (hSf : S ∉ fp) (val : Nat → Int) (hval : ∀ i v, P i v → ∃ t, v = .int (val i) t) (hb : n + 1 < scanBound) :
    ∀ (k i : Nat) (s : Shared), n - i = k → i ≤ n → St i s → Gw s.heap S led (ddL val i) → (∀ s', Moved (S :: wr) G s s' → Gw s'.heap S led (ddL val n) → R (.ok (.ret .none)) s') →
      codeAny (model prog w) A (.builtin "set.update.loop" ⟨[.ref S, .ref I], []⟩) R s := by
  have hSw : S ∉ wr := fun h => hSf (W.sub _ h)
  have hsub : ∀ b ∈ wr, b ∈ S :: wr := fun b hb => List.mem_cons_of_mem _ hb
  intro k
  induction k with
  | zero =>
    intro i s hk hi hst hS hR
    have hin : i = n := by exact Nat.le_antisymm hi (Nat.le_of_sub_eq_zero hk)
    subst hin
    refine codeAny_builtin F.entry_set_update_loop ?_
    rw [Around.under_plainId F.plain_set_update_loop _]
    show wpAny _ A.in1 (pyNext (.ref I) >>= _) _ _ s
    refine wpAny_bind (W.done s _ _ hst fun s' hm => ?_)
    show wpAny _ A.in1 (ret Value.none) _ _ s'
    exact wpAny_pure (hR s' (hm.mono hsub) (hS.at fun o e => hm.heap S _ hSw e))
  | succ k ih =>
    intro i s hk hi hst hS hR
    have hlt : i < n := by exact Nat.lt_of_sub_eq_succ hk
    refine codeAny_builtin F.entry_set_update_loop ?_
    rw [Around.under_plainId F.plain_set_update_loop _]
    show wpAny _ A.in1 (pyNext (.ref I) >>= _) _ _ s
    refine wpAny_bind (W.item i s _ _ hlt hst fun v s' hP hst' hm => ?_)
    obtain ⟨t, rfl⟩ := hval i v hP
    have hS' := hS.at (h' := s'.heap) fun o e => hm.heap S _ hSw e
    show wpAny _ A.in1 (holding [Value.int (val i) t] (setAdd S (.int (val i) t)) >>= _) _ _ s'
    refine wpAny_bind (wpAny_holding ?_)
    unfold setAdd
    refine wpAny_holding ?_
    refine wpAny_bind ((intKind prog w).pyHash (k := val i) (intKind_is _ _ _ _) ?_)
    have hroom : (ddL val i).length + 1 < scanBound := by have := J5 val i; exact Nat.lt_trans (Nat.succ_lt_succ (Nat.lt_of_le_of_lt this hlt)) hb
    refine A6p (s := { s' with toks := s'.toks + 1 }) hS' hroom fun b h' hsb hS2 => ?_
    rw [← Ke] at hS2
    refine wpAny_pure ⟨plainId_quiet F.plain_set_update_loop _, ih (i + 1) _ (by exact congrArg (· - 1) hk) hlt (W.frame _ s' _ _ hst' (Nat.le_succ _) fun b hb o e => ?_) hS2 fun s'' hm'' hS'' => ?_⟩
    · rw [hsb.2 b (fun h : b = S => hSf (by rw [← h]; exact hb))]; exact e
    · refine hR s'' (Moved.trans W.gtrans ((hm.mono hsub).then_heap (Nat.le_succ _) fun b o hb e => ?_) hm'') hS''
      rw [hsb.2 b (fun h : b = S => hb (by rw [h]; exact List.mem_cons_self))]; exact e
end
noncomputable def C7 (w : World) : Bool := w.params.followText "set-order"
section
variable {prog : Program} {w : World} {A : Around} {E : Value → Shared → Prop} {s : Shared}
theorem I9 {Q : Bool → Shared → Prop} (h : Q (C7 w) s) : wpAny (model prog w) A setsByText Q E s := by
  unfold setsByText
  exact wpAny_bind (wpAny_askSetting (wpAny_pure h))
noncomputable def Jp (w : World) : Obj := { cls := .type "set", dict := none, data := .set #[] 0 (.fresh 0 0 (!C7 w)) }
theorem A41 (a : Value) {Q₁ : Value → Shared → Prop} (h : Q₁ (.ref s.heap.objs.size) { s with heap := s.heap.push (Jp w) }) : codeAny (model prog w) A (.call (.builtin "set.__new__") ⟨[.type "set", a], []⟩) (wants Q₁ E) s := by
  refine codeAny_of_tree ?_
  show wpAny _ A.in1 (do checkBuiltinCall "set.__new__" ⟨[.type "set", a], []⟩; again (.builtin "set.__new__" ⟨[.type "set", a], []⟩)) _ _ s
  refine wpAny_bind (wpAny_of_eq (PySem.F.newCall_set_1 a) (wpAny_pure ⟨plainId_quiet F.plain_set_new _, codeAny_builtin F.entry_set_new ?_⟩))
  rw [Around.under_plainId F.plain_set_new _]
  unfold Builtin.«set.__new__» Builtin.Frozenset.newClass
  have hsub := sub_set_self
  obtain ⟨hp, g, d, tk, os⟩ := s
  dsimp only
  wp_walk
  refine wpAny_askSetting (wpAny_pure ?_)
  dsimp only
  simp only [newObj]
  refine wpAny_bind (wpAny_alloc (wpAny_pure ?_))
  exact wpAny_pure h
end
end Mine
namespace Mine
open PySem PySem.Calls PyProof.Rows PySem.SeqAt
section
variable {prog : Program} {w : World} {A : Around} {E : Value → Shared → Prop} {s : Shared}
theorem V4 {h : Heap} {a : Addr} (e : h.get? a = some (Jp w)) : Gw h a (!C7 w) [] :=
  ⟨_, #[], 0, _, e, ⟨rfl, rfl, rfl⟩, rfl, fun e he => (by simp at he), .refl _, by decide, rfl, ⟨rfl, .nil⟩⟩
theorem Z5 {l : Addr} {Af : Array Value} {ns : List Int} {Q : Value → Shared → Prop} (hh : A.handled = none) (hl : s.heap.IsList l Af) (hi : IntsAre Af.toList ns) (hb : Af.size + 1 < scanBound)
    (h : ∀ (h' : Heap) (tk : Nat), Gw h' s.heap.objs.size (!C7 w) (ddL (fun i => ns.getD i 0) Af.size) → (∀ b o, s.heap.get? b = some o → h'.get? b = some o) → Q (.ref s.heap.objs.size) { s with heap := h', toks := tk }) :
    wpAny (model prog w) A (call (.type "set") [.ref l]) Q E s := by
  obtain ⟨c, tl, hmro⟩ := F.called_set.mro
  have hmade := F.called_set.made
  have hsub := F.called_set.sub
  refine wpAny_call (codeAny_of_tree ?_)
  show wpAny _ _ (callAny (.type "set") _) _ _ _
  refine wpAny_pure ⟨Code.quiet_builtin _ (by decide +kernel), codeAny_builtin F.entry_type_call ?_⟩
  rw [Around.under_plain (weight_type_call_type "set" [.ref l] []) rfl]
  have h1 := F.called_set.notType
  have h2 := F.called_set.canCreate
  have hct := PySem.F.typeCall_set_1 (.ref l)
  repeat (any_goals (first | assumption | wp_step))
  refine codeAny_mono (A41 (.ref l) (E := E) (Q₁ := fun obj s₁ => obj = .ref s.heap.objs.size ∧ s₁ = { s with heap := s.heap.push (Jp w) }) ⟨rfl, rfl⟩) fun r s₁ hr => ?_
  cases r with
  | error e => exact hr
  | ok fl =>
    cases fl with
    | ret obj =>
      obtain ⟨rfl, hs₁⟩ := hr
      have hS : s₁.heap.get? s.heap.objs.size = some (Jp w) := by rw [hs₁]; exact Heap.get?_push_size _ rfl
      have hT : Shared.TypeIs s₁ (.ref s.heap.objs.size) "set" := ⟨_, hS, rfl⟩
      have hli := F.called_set.init.lookup
      have hbi := F.called_set.init.bind (.ref s.heap.objs.size)
      repeat (any_goals (first | assumption | wp_step))
      obtain ⟨R, hR⟩ : ∃ R : Value → Shared → Prop, R = (fun r s₂ => r = .none ∧ ∃ h' tk, s₂ = { s with heap := h', toks := tk } ∧ Gw h' s.heap.objs.size (!C7 w) (ddL (fun i => ns.getD i 0) Af.size) ∧
          (∀ b o, s.heap.get? b = some o → h'.get? b = some o)) := ⟨_, rfl⟩
      refine codeAny_mono (codeAny_call_builtin (R := wants R E) F.called_set.init.plain F.entry_set_init (check_set_init_1 hT ?_)) fun r₂ s₂ hr₂ => ?_
      · obtain ⟨ol, hol, hcl, nl, hdl⟩ := hl
        obtain ⟨ocls, odict, odata, oslots⟩ := ol
        simp only at hcl hdl
        subst hcl; subst hdl
        have hol' : s₁.heap.get? l = some { cls := .type "list", dict := odict, data := .seq Af nl, slots := oslots } := by rw [hs₁]; exact Heap.get?_push_of_some _ hol
        have hsls := PySem.F.sub_list_set
        have hslf := PySem.F.sub_list_frozenset
        have hne : (Value.type "list" == Value.type "dict") = false := by decide
        have hl1 : s₁.heap.IsList l Af := ⟨_, hol', rfl, nl, rfl⟩
        unfold Builtin.«set.__init__» noKeywords Builtin.Frozenset.updateFrom
        generalize hPI : pyIter = PI
        wp_walk
        subst hPI
        refine wpAny_pyIter_list hl1 ?_
        refine wpAny_bind (wpAny_runValue ?_)
        have hlS : l < s.heap.objs.size := Heap.lt_size hol
        have hh3 : A.in1.in1.in1.handled = none := by simp [hh]
        have hsz : s₁.heap.objs.size = s.heap.objs.size + 1 := by rw [hs₁]; exact Heap.size_push ..
        have hneI : l ≠ s₁.heap.objs.size := by
          rw [hsz]; exact Nat.ne_of_lt (Nat.lt_succ_of_lt hlS)
        have hSf : s.heap.objs.size ∉ [s₁.heap.objs.size, l] := by
          rw [hsz]; simp only [List.mem_cons, List.not_mem_nil, or_false, not_or]
          exact ⟨Nat.ne_of_lt (Nat.lt_succ_self _), Nat.ne_of_gt hlS⟩
        have hval : ∀ (i : Nat) (v : Value), Af[i]? = some v → ∃ t, v = .int ((fun i => ns.getD i 0) i) t := fun i v hv =>
          IntsAre.int_at hi i v (by rw [Array.getElem?_toList]; exact hv)
        refine A0b (led := !C7 w) ((Walks.list hh3 _ l hneI Af).toS) s.heap.objs.size hSf (fun i => ns.getD i 0) hval hb (Af.size - 0) 0 _ (by exact rfl) (Nat.zero_le _)
          ⟨⟨_, Heap.get?_push_size _ rfl, rfl, rfl⟩, (hl1.push _)⟩ (V4 (Heap.get?_push_of_some _ hS)) ?_
        intro s' hm hS'
        obtain ⟨h', g', d', tk', os'⟩ := s'
        have eg : g' = s₁.gens := hm.gens
        have ed : d' = s₁.drawn := hm.drawn
        have eo : os' = s₁.os := hm.os
        subst eg; subst ed; subst eo
        show wpAny _ _ _ _ _ _
        refine wpAny_pure ?_
        show wpAny _ _ (ret Value.none) _ _ _
        refine wpAny_pure ?_
        rw [hR]
        refine ⟨rfl, h', tk', by rw [hs₁], hS', fun b o e => ?_⟩
        have hb := Heap.lt_size e
        refine hm.heap b o ?_ (Heap.get?_push_of_some _ (by rw [hs₁]; exact Heap.get?_push_of_some _ e))
        simp only [List.mem_cons, List.not_mem_nil, or_false, not_or]
        exact ⟨Nat.ne_of_lt hb, by rw [hsz]; exact Nat.ne_of_lt (Nat.lt_succ_of_lt hb)⟩
      · cases r₂ with
        | error e => exact hr₂
        | ok fl₂ =>
          cases fl₂ with
          | ret r =>
            have hr₂ : R r s₂ := hr₂
            rw [hR] at hr₂
            obtain ⟨rfl, h', tk, rfl, hS', hk'⟩ := hr₂
            repeat (any_goals (first | assumption | wp_step))
            exact h _ _ hS' hk'
          | next => exact hr₂.elim
          | brk => exact hr₂.elim
          | cont => exact hr₂.elim
    | next => exact hr.elim
    | brk => exact hr.elim
    | cont => exact hr.elim
end
end Mine
namespace Mine
open PySem PySem.Calls PyProof.Rows PySem.SeqAt
theorem J9 {α : Type} : ∀ {l : List α} {i : Nat} (h : i < l.length), (l[i] :: l.eraseIdx i).Perm l
  | x :: l, 0, h => .refl _
  | x :: l, i + 1, h => by
    rw [List.eraseIdx_cons_succ, List.getElem_cons_succ]
    exact (List.Perm.swap ..).trans (List.Perm.cons _ (J9 (by simpa using h)))
theorem Y2 {α : Type} (next : Nat → Nat) : ∀ (fuel k : Nat) (left : List α) (out : Array α), left.length ≤ fuel → (pickOrder.go next fuel k left out).toList.Perm (out.toList ++ left)
  | 0, k, left, out, h => by
    have : left = [] := List.length_eq_zero_iff.mp (Nat.le_zero.mp h)
    subst this
    unfold pickOrder.go; simp
  | fuel + 1, k, left, out, h => by
    unfold pickOrder.go
    cases e : left[next k % left.length]? with
    | none =>
      have : left = [] := by
        cases left with
        | nil => rfl
        | cons x l => rw [List.getElem?_eq_none_iff] at e; exact absurd (Nat.mod_lt (next k) (by simp)) (Nat.not_lt.mpr e)
      subst this
      simp
    | some x =>
      dsimp only
      have hlt := (List.getElem?_eq_some_iff.mp e).1
      have hlen : (left.eraseIdx (next k % left.length)).length ≤ fuel := by rw [List.length_eraseIdx_of_lt hlt]; exact Ab1 h
      refine (Y2 next fuel (k + 1) _ (out.push x) hlen).trans ?_
      rw [Array.toList_push, List.append_assoc]
      refine List.Perm.append_left _ ?_
      have hx : left[next k % left.length] = x := (List.getElem?_eq_some_iff.mp e).2
      have := J9 hlt
      rw [hx] at this
      exact this
theorem Kn {α : Type} (next : Nat → Nat) (xs : Array α) : (pickOrder next xs).toList.Perm xs.toList := by
  unfold pickOrder
  refine (Y2 next xs.size 0 xs.toList #[] (by simp)).trans ?_
  simp
section
variable {prog : Program} {w : World} {A : Around} {E : Value → Shared → Prop} {s : Shared}
theorem Z3 {src : Source} {n : Nat} {Q : Nat → Shared → Prop} (hn : n ≠ 0) (h : ∀ i d, i < n → Q i { s with drawn := d }) : wpAny (model prog w) A (choose src n) Q E s := fun Γ p _ =>
  ⟨hn, h _ _ (Nat.mod_lt _ (Nat.pos_of_ne_zero hn))⟩
theorem W8 {α : Type} : ∀ (n : Nat) (xs : List α) {s : Shared} {Q : List α → Shared → Prop}, xs.length ≤ n → (∀ l d, l.Perm xs → Q l { s with drawn := d }) → wpAny (model prog w) A (drawOrder n xs) Q E s
  | 0, xs, s, Q, h, k => by
    have : xs = [] := List.length_eq_zero_iff.mp (Nat.le_zero.mp h)
    subst this
    exact wpAny_pure (k [] s.drawn (.refl _))
  | n + 1, [], s, Q, h, k => wpAny_pure (k [] s.drawn (.refl _))
  | n + 1, x :: xs, s, Q, h, k => by
    unfold drawOrder
    refine wpAny_bind (Z3 (by simp) fun i d hi => ?_)
    rw [List.getElem?_eq_getElem hi]
    dsimp only
    have hlen : ((x :: xs).eraseIdx i).length ≤ n := by rw [List.length_eraseIdx_of_lt hi]; simp at h ⊢; exact h
    refine wpAny_bind (W8 n _ hlen fun l d' hl => ?_)
    exact wpAny_pure (k _ d' ((List.Perm.cons _ hl).trans (J9 hi)))
end
noncomputable def Fq (t : SetTable) (i : Nat) : Nat := if i = 0 then 0 else t.place.getD (i - 1) 0 + 1
theorem Ro {t : SetTable} {i : Nat} (hp : t.place.toList.Pairwise (· < ·)) (hi : i ≤ t.place.size) : SetTable.below t.place (Fq t i) = i := by
  obtain ⟨b1, b2, b3⟩ := Nm (Fq t i) hp
  have mono : ∀ i k, i < k → k < t.place.size → t.place.getD i 0 < t.place.getD k 0 := fun i k hik hk => by
    have := List.pairwise_iff_getElem.mp hp i k (by simpa using (by exact Dz hik hk : i < t.place.size)) (by simpa using hk) hik
    have e1 : t.place.getD i 0 = t.place[i] := by simp [Array.getD, show i < t.place.size by exact Dz hik hk]
    have e2 : t.place.getD k 0 = t.place[k] := by simp [Array.getD, hk]
    rw [e1, e2]; simpa using this
  generalize SetTable.below t.place (Fq t i) = r at b1 b2 b3
  unfold Fq at b1 b2
  by_cases h0 : i = 0
  · subst h0
    simp only [if_true] at b1 b2
    cases r with
    | zero => rfl
    | succ r => exact absurd (b1 0 (by exact Nat.succ_pos _)) (Nat.not_lt_zero _)
  · simp only [h0, if_false] at b1 b2
    rcases Nat.lt_trichotomy r i with h | h | h
    · have h1 := b2 r (Nat.le_refl _) (by exact Nat.lt_of_lt_of_le h hi)
      by_cases q : r = i - 1
      · rw [q] at h1; exact absurd h1 (Nat.lt_irrefl _)
      · have := mono r (i - 1) (by exact Nat.lt_of_le_of_ne (Nat.le_sub_of_add_le h) q) (by exact Nat.lt_of_lt_of_le (Nat.sub_lt (Fl h) Nat.one_pos) hi); exact absurd this (Nat.not_lt_of_le (Nat.le_of_lt h1))
    · exact h
    · have h1 := b1 i h
      have := mono (i - 1) i (by exact Nat.le_of_eq (A77 h0)) (by exact Nat.lt_of_lt_of_le h b3)
      exact absurd this (Nat.not_lt_of_le (Nat.le_of_lt_succ h1))
noncomputable def Fu (first : Value) (i : Nat) (S n ep : Nat) : Obj := { cls := .type "set_iterator", dict := none, data := .fields #[first, .int i 0, .ref S, .int n 0, .int ep 0], slots := #[] }
noncomputable def Fg (ps : List Nat) : Obj := { cls := .type "tuple", data := .seq (ps.map fun (i : Nat) => Value.int i 0).toArray 0 }
inductive SW (w : World) (S I tp : Addr) (es : Array (Int × Value)) (ep : Nat) (t : SetTable) (r : List (Int × Value)) (i : Nat) (h : Heap) : Prop
  | text (hb : C7 w = true) (hr : r = (pickOrder (w.params.setOrder S ep) es).toList) (e : h.get? I = some (Fu (.int 0 0) i S es.size ep)) : SW w S I tp es ep t r i h
  | plain (hb : C7 w = false) (hd : (!t.plain && decide (es.size > 1)) = false) (hr : r = es.toList) (e : h.get? I = some (Fu (.int (Fq t i) 0) i S es.size ep)) : SW w S I tp es ep t r i h
  | drawn (ps : List Nat) (hp : ps.Perm (List.range es.size)) (hr : r = ps.map fun p => es.getD p (0, .none)) (e : h.get? I = some (Fu (.ref tp) i S es.size ep)) (et : h.get? tp = some (Fg ps)) : SW w S I tp es ep t r i h
theorem SW.perm {w : World} {S I tp : Addr} {es : Array (Int × Value)} {ep : Nat} {t : SetTable} {r : List (Int × Value)} {i : Nat} {h : Heap} (x : SW w S I tp es ep t r i h) : r.Perm es.toList := by
  cases x with
  | text hb hr e => rw [hr]; exact Kn _ _
  | plain hb hd hr e => rw [hr]
  | drawn ps hp hr e et =>
    rw [hr]
    refine (hp.map _).trans (List.Perm.of_eq ?_)
    refine List.ext_getElem? fun i => ?_
    rw [List.getElem?_map]
    by_cases hi : i < es.size
    · rw [List.getElem?_range hi, Array.getElem?_toList, Array.getElem?_eq_getElem hi]
      simp [Array.getD, hi]
    · rw [List.getElem?_eq_none (by simpa using hi), List.getElem?_eq_none (by simpa using hi)]; rfl
end Mine
namespace Mine
open PySem PySem.Calls PyProof.Rows PySem.SeqAt
theorem Mm : entryFor table "set.__iter__" = some Builtin.«frozenset.__iter__» := entryFor_alias (id' := "frozenset.__iter__") (by kernel_rfl) rfl (by decide +kernel) (by kernel_rfl)
theorem Ca : Slot "set_iterator" "__next__" "set_iterator.__next__" :=
  .of (owner := "set_iterator") (n := "__next__") (by rw [typeLookup_type, builtinLookup_eq_fast]; kernel_rfl) (by decide +kernel) (by decide +kernel) (by decide +kernel)
    (by first | exact .inl (by decide +kernel) | exact .inr (by decide +kernel)) (by rw [isSubtype_type]; kernel_rfl)
theorem J1 : entryFor table "set_iterator.__next__" = some Builtin.«set_iterator.__next__» := entryFor_of_tree (by kernel_rfl)
theorem Ka (a : Value) : argsOk "set_iterator.__next__" ⟨[a], []⟩ := by unfold argsOk; kernel_rfl
theorem Jq : Slot "set_iterator" "__iter__" "set_iterator.__iter__" :=
  .of (owner := "set_iterator") (n := "__iter__") (by rw [typeLookup_type, builtinLookup_eq_fast]; kernel_rfl) (by decide +kernel) (by decide +kernel) (by decide +kernel)
    (by first | exact .inl (by decide +kernel) | exact .inr (by decide +kernel)) (by rw [isSubtype_type]; kernel_rfl)
theorem P9 : entryFor table "set_iterator.__iter__" = some Builtin.«dict_keyiterator.__iter__» := entryFor_alias (id' := "dict_keyiterator.__iter__") (by kernel_rfl) rfl (by decide +kernel) (by kernel_rfl)
theorem Qk (a : Value) : argsOk "set_iterator.__iter__" ⟨[a], []⟩ := by unfold argsOk; kernel_rfl
section
variable {prog : Program} {w : World} {A : Around} {E : Value → Shared → Prop} {s : Shared} {S I tp : Addr} {es : Array (Int × Value)} {ep : Nat} {t : SetTable} {o : Obj} {r : List (Int × Value)} {i : Nat}
theorem A2v {Q : Bool → Shared → Prop} (ho : s.heap.get? S = some o) (hd : o.data = .set es ep t) (hf : t.fits es.size = true) (h : Q (!C7 w && (!t.plain && decide (es.size > 1))) s) : wpAny (model prog w) A (setDrawn S) Q E s := by
  unfold setDrawn
  exact wpAny_bind (wpAny_setState_of ho hd hf (wpAny_bind (I9 (wpAny_pure h))))
theorem A2g {Q : Value → Shared → Prop} (ho : s.heap.get? S = some o) (hex : o.ExactSet) (hd : o.data = .set es ep t) (hf : t.fits es.size = true) (hsz : es.size < scanBound)
    (h : ∀ I tp r s', s.heap.get? I = none → (tp = S ∨ s.heap.get? tp = none ∧ tp ≠ I) → SW w S I tp es ep t r 0 s'.heap → (∀ b ob, s.heap.get? b = some ob → s'.heap.get? b = some ob) → s'.gens = s.gens → s'.os = s.os → Q (.ref I) s') :
    wpAny (model prog w) A (pyIter (.ref S)) Q E s := by
  have hT : s.TypeIs (.ref S) "set" := ⟨o, ho, hex.1⟩
  refine wpAny_pyIter_slot hT F.slot_set_iter (wpAny_call_entry F.slot_set_iter hT Mm ?_ (F.args_set_iter_1 _))
  unfold Builtin.«frozenset.__iter__»
  refine wpAny_bind (wpAny_pure ?_)
  refine wpAny_bind ?_
  refine wpAny_bind (wpAny_setEntries_of ho hd hf (wpAny_pure ?_))
  refine wpAny_bind (A2v ho hd hf ?_)
  have none_new : ∀ {hp : Heap}, hp.get? hp.objs.size = none := fun {hp} => by
    cases e : hp.get? hp.objs.size with
    | none => rfl
    | some ob => exact absurd (Heap.lt_size e) (Nat.lt_irrefl _)
  cases hc : (!C7 w && (!t.plain && decide (es.size > 1))) with
  | false =>
    simp only [Bool.false_eq_true, if_false]
    refine wpAny_bind (wpAny_pure ?_)
    refine wpAny_bind (wpAny_setEpoch_of ho hd hf ?_)
    refine wpAny_bind (wpAny_newObj_type (wpAny_pure ⟨_, rfl, "set_iterator", _, ⟨_, Heap.get?_push_size _ rfl, rfl⟩, Ca.lookup, ?_⟩))
    have hg : (s.heap.push (Fu (.int 0 0) 0 S es.size ep)).get? s.heap.objs.size = some (Fu (.int 0 0) 0 S es.size ep) := Heap.get?_push_size _ rfl
    by_cases hb : C7 w = true
    · exact h _ S _ _ none_new (.inl rfl) (.text hb rfl hg) (fun b ob e => Heap.get?_push_of_some _ e) rfl rfl
    · have hb' : C7 w = false := by simpa using hb
      rw [hb'] at hc
      exact h _ S _ _ none_new (.inl rfl) (.plain hb' (by simpa using hc) rfl hg) (fun b ob e => Heap.get?_push_of_some _ e) rfl rfl
  | true =>
    simp only [if_true]
    refine wpAny_bind (W8 _ _ (by simp) fun ps d hps => ?_)
    have hpl : ps.length = es.size := by rw [hps.length_eq, List.length_range]
    refine wpAny_bind (wpAny_newTuple (Q := _) ?_ (by rw [List.length_map, hpl]; exact fits_of_scanBound hsz))
    have ho' : ({ s with drawn := d, heap := s.heap.push { cls := .type "tuple", data := .seq (ps.map fun (i : Nat) => rawInt i).toArray 0 } } : Shared).heap.get? S = some o := Heap.get?_push_of_some _ ho
    refine wpAny_bind (wpAny_setEpoch_of ho' hd hf ?_)
    refine wpAny_bind (wpAny_newObj_type (wpAny_pure ⟨_, rfl, "set_iterator", _, ⟨_, Heap.get?_push_size _ rfl, rfl⟩, Ca.lookup, ?_⟩))
    have ht : (s.heap.push (Fg ps)).get? s.heap.objs.size = some (Fg ps) := Heap.get?_push_size _ rfl
    have hsz' : (s.heap.push (Fg ps)).objs.size = s.heap.objs.size + 1 := Heap.size_push ..
    have hg : ((s.heap.push (Fg ps)).push (Fu (.ref s.heap.objs.size) 0 S es.size ep)).get? (s.heap.push (Fg ps)).objs.size = some (Fu (.ref s.heap.objs.size) 0 S es.size ep) := Heap.get?_push_size _ rfl
    refine h (s.heap.push (Fg ps)).objs.size s.heap.objs.size _ _ ?_ (.inr ⟨none_new, by rw [hsz']; exact Nat.ne_of_lt (Nat.lt_succ_self _)⟩) (.drawn ps hps rfl hg (Heap.get?_push_of_some _ ht)) (fun b ob e => Heap.get?_push_of_some _ (Heap.get?_push_of_some _ e)) rfl rfl
    cases e : s.heap.get? (s.heap.push (Fg ps)).objs.size with
    | none => rfl
    | some ob => exact absurd (Heap.lt_size e) (by rw [hsz']; exact Nat.not_lt.mpr (Nat.le_succ _))
end
end Mine
namespace Mine
open PySem PySem.Calls PyProof.Rows PySem.SeqAt
section
variable {prog : Program} {w : World} {A : Around} {E : Value → Shared → Prop} {s : Shared} {S I tp : Addr} {es : Array (Int × Value)} {ep : Nat} {t : SetTable} {o : Obj} {r : List (Int × Value)} {i : Nat}
theorem Ww {h : Heap} {first first' x : Value} {k : Nat} (e : h.get? I = some (Fu first i S k ep)) {Q : PySem.Fin → Shared → Prop} {s : Shared} (hs : s.heap = h) (kQ : ∀ h', Heap.SameBut I h h' → h'.get? I = some (Fu first' (i + 1) S k ep) → Q (.done (.ret x)) { s with heap := h' }) :
    wpAny (model prog w) A (do setField (.ref I) 0 first'; setField (.ref I) 1 (rawInt ((i : Int) + 1)); ret x) Q E s := by
  subst hs
  refine wpAny_bind (wpAny_setField_rec e (by simp) fun h1 e1 s1 => ?_)
  refine wpAny_bind (wpAny_setField_rec e1 (by simp) fun h2 e2 s2 => ?_)
  exact wpAny_pure (kQ h2 (s1.trans s2) (by rw [e2]; rfl))
theorem A2o {h : Heap} {first x : Value} {k : Nat} (e : h.get? I = some (Fu first i S k ep)) {Q : PySem.Fin → Shared → Prop} {s : Shared} (hs : s.heap = h) (kQ : ∀ h', Heap.SameBut I h h' → h'.get? I = some (Fu first (i + 1) S k ep) → Q (.done (.ret x)) { s with heap := h' }) :
    wpAny (model prog w) A (do setField (.ref I) 1 (rawInt ((i : Int) + 1)); ret x) Q E s := by
  subst hs
  refine wpAny_bind (wpAny_setField_rec e (by simp) fun h2 e2 s2 => ?_)
  exact wpAny_pure (kQ h2 s2 (by rw [e2]; rfl))
theorem R8 {Q : Option Value → Shared → Prop} {h : Heap} {first : Value} {k : Nat} (hh : A.handled = none) (e : h.get? I = some (Fu first i S k ep)) {s : Shared} (hs : s.heap = h) {Q' : PySem.Fin → Shared → Prop} (kQ : ∀ h', Heap.ExtBut I h h' → Q none { s with heap := h' }) :
    wpAny (model prog w) A.in1 (do setField (.ref I) 2 .none; raiseNew (← newExc (.type "StopIteration") [])) Q' (fun e s' => wpAny (model prog w) A (do let b ← isInstance e (.type "StopIteration"); if b = true then pure none else throw e) Q E s') s := by
  subst hs
  refine wpAny_bind (wpAny_setField_rec e (by simp) fun h1 e1 s1 => ?_)
  refine wpAny_bind ?_
  simp only [newExc, newTuple]
  refine wpAny_bind (wpAny_newObj_type ?_ (by size_fits))
  refine wpAny_bind (m := firstArgMember _ _) (wpAny_of_eq (a := Value.none) (by first | rfl | (simp only [firstArgMember]; rfl)) ?_)
  refine wpAny_newObj_type ?_ (by size_fits)
  rw [raiseNew]
  refine wpAny_bind (wpAny_handled ?_)
  rw [show A.in1.handled = none from hh]
  refine wpAny_bind (wpAny_pure (wpAny_throw ?_))
  refine wpAny_bind (wpAny_isInstance (T := "StopIteration") (b := true) ⟨_, Heap.get?_push_size _ rfl, rfl⟩ isSubtype_stop ?_)
  exact wpAny_pure (kQ _ ((s1.extBut.push _).push _))
theorem Pm {Q : Option (Value × Nat) → Shared → Prop} {slot : Nat} (ho : s.heap.get? S = some o) (hd : o.data = .set es ep t) (hf : t.fits es.size = true) (hb : C7 w = true)
    (h : Q (((pickOrder (w.params.setOrder S ep) es)[i]?).map fun e => (e.2, slot)) s) : wpAny (model prog w) A (setNext S slot i ep) Q E s := by
  unfold setNext
  refine wpAny_bind (wpAny_setState_of ho hd hf ?_)
  dsimp only
  refine wpAny_bind (I9 ?_)
  rw [hb, if_pos rfl]
  rw [if_neg (by simp)]
  unfold setWalk
  refine wpAny_bind (wpAny_bind (wpAny_setState_of ho hd hf ?_))
  dsimp only
  refine wpAny_bind (I9 ?_)
  rw [hb, if_pos rfl]
  exact wpAny_bind (wpAny_askSetting (wpAny_pure (wpAny_pure h)))
theorem Ny {Q : Option (Value × Nat) → Shared → Prop} (ho : s.heap.get? S = some o) (hd : o.data = .set es ep t) (hf : t.fits es.size = true) (hb : C7 w = false) (hl : t.led = !C7 w) (hp : (!t.plain && decide (es.size > 1)) = false) (hr : t.place.toList.Pairwise (· < ·)) (hi : i ≤ es.size)
    (h : Q (if i < es.size then some ((es.getD i (0, .none)).2, Fq t (i + 1)) else none) s) : wpAny (model prog w) A (setNext S (Fq t i) i ep) Q E s := by
  have hps : t.place.size = es.size := by
    unfold SetTable.fits at hf
    exact beq_iff_eq.mp (Bool.and_eq_true _ _ ▸ hf : _ ∧ _).1
  unfold setNext
  refine wpAny_bind (wpAny_setState_of ho hd hf ?_)
  dsimp only
  refine wpAny_bind (I9 ?_)
  rw [hb, if_neg (by decide)]
  show wpAny _ _ (if (!t.plain && decide (es.size > 1)) = true then _ else _) _ _ _
  rw [hp, if_neg (by decide)]
  have hled : (!t.led && !es.isEmpty) = false := by rw [hl, hb]; rfl
  refine wpAny_bind ?_
  show wpAny _ _ (if (!t.led && !es.isEmpty) = true then _ else _) _ _ _
  rw [hled, if_neg (by decide)]
  refine wpAny_pure (wpAny_pure ?_)
  rw [Ro hr (by exact Aat hi (Eq.symm hps))]
  by_cases hlt : i < es.size
  · rw [if_pos hlt] at h
    have hlt' : i < t.place.size := by exact Ix hlt (Eq.symm hps)
    rw [Array.getElem?_eq_getElem hlt, Array.getElem?_eq_getElem hlt']
    have e1 : es.getD i (0, .none) = es[i] := by simp [Array.getD, hlt]
    have e2 : Fq t (i + 1) = t.place[i] + 1 := by unfold Fq; rw [if_neg (by exact Nat.succ_ne_zero _), Nat.add_sub_cancel]; simp [Array.getD, hlt']
    rw [e1, e2] at h
    exact h
  · rw [if_neg hlt] at h
    rw [Array.getElem?_eq_none (by exact oGe hlt)]
    exact h
theorem SW.itObj_at {h : Heap} (x : SW w S I tp es ep t r i h) : ∃ first, h.get? I = some (Fu first i S es.size ep) := by
  cases x with
  | text hb hr e => exact ⟨_, e⟩
  | plain hb hd hr e => exact ⟨_, e⟩
  | drawn ps hp hr e et => exact ⟨_, e⟩
theorem A19 {q : Array (Int × Value)} (hl : q.size = es.size) (hi : i < es.size) : q[i]? = some (q.toList.getD i (0, .none)) := by
  rw [Array.getElem?_eq_getElem (by exact Ix hi (Eq.symm hl)), List.getD_eq_getElem?_getD, Array.getElem?_toList, Array.getElem?_eq_getElem (by exact Ix hi (Eq.symm hl))]; rfl
theorem Yr {Q : Option Value → Shared → Prop} (ho : s.heap.get? S = some o) (hd : o.data = .set es ep t) (hf : t.fits es.size = true) (ht : Ft (!C7 w) t) (hi : i < es.size) (htp : tp ≠ I) (x : SW w S I tp es ep t r i s.heap)
    (h : ∀ h', Heap.SameBut I s.heap h' → SW w S I tp es ep t r (i + 1) h' → Q (some (r.getD i (0, .none)).2) { s with heap := h' }) : wpAny (model prog w) A (pyNext (.ref I)) Q E s := by
  obtain ⟨first, e0⟩ := x.itObj_at
  have hT : s.TypeIs (.ref I) "set_iterator" := ⟨_, e0, rfl⟩
  unfold pyNext
  refine wpAny_bind (wpAny_attempt (wpAny_callSpecial?_slot (name := Str.ofString "__next__") hT Ca (wpAny_call_entry Ca hT J1 ?_ (Ka _))))
  unfold Builtin.«set_iterator.__next__»
  refine wpAny_bind (wpAny_pure ?_)
  cases x with
  | text hb hr e =>
    refine wpAny_bind (wpAny_fieldsOf e rfl ?_)
    dsimp only
    refine wpAny_bind (wpAny_setEntries_of ho hd hf ?_)
    rw [if_neg (by simp)]
    refine wpAny_bind (Pm (slot := 0) ho hd hf hb ?_)
    have hl : (pickOrder (w.params.setOrder S ep) es).size = es.size := by rw [← Array.length_toList, (Kn _ _).length_eq, Array.length_toList]
    simp only [Int.toNat_natCast, A19 hl hi, ← hr, Option.map_some]
    exact Ww (first' := rawInt (0 : Nat)) e rfl fun h' sb e' => ⟨_, rfl, wpAny_pure (h h' sb (.text hb hr e'))⟩
  | plain hb hd' hr e =>
    refine wpAny_bind (wpAny_fieldsOf e rfl ?_)
    dsimp only
    refine wpAny_bind (wpAny_setEntries_of ho hd hf ?_)
    rw [if_neg (by simp)]
    simp only [Int.toNat_natCast]
    refine wpAny_bind (Ny ho hd hf hb ht.led hd' ht.ris (Nat.le_of_lt hi) ?_)
    rw [if_pos hi]
    have er : r.getD i (0, .none) = es.getD i (0, .none) := by rw [hr, List.getD_eq_getElem?_getD, Array.getElem?_toList]; simp [Array.getD, hi]
    rw [er] at h
    exact Ww (first' := rawInt (Fq t (i + 1) : Nat)) e rfl fun h' sb e' => ⟨_, rfl, wpAny_pure (h h' sb (.plain hb hd' hr e'))⟩
  | drawn ps hp hr e et =>
    have hpl : ps.length = es.size := by rw [hp.length_eq, List.length_range]
    have hip : i < ps.length := by exact Ix hi (Eq.symm hpl)
    have hpi : ps[i] < es.size := List.mem_range.mp (hp.mem_iff.mp (List.getElem_mem hip))
    refine wpAny_bind (wpAny_fieldsOf e rfl ?_)
    dsimp only
    refine wpAny_bind (wpAny_setEntries_of ho hd hf ?_)
    rw [if_neg (by simp)]
    simp only [Int.toNat_natCast]
    refine wpAny_bind ?_
    unfold seqItems?
    refine wpAny_bind (wpAny_load et (wpAny_pure ?_))
    have eg : ((ps.map fun (i : Nat) => Value.int i 0).toArray)[i]? = some (.int (ps[i] : Nat) 0) := by rw [List.getElem?_toArray, List.getElem?_map, List.getElem?_eq_getElem hip]; rfl
    dsimp only [Fg]
    rw [eg]
    dsimp only
    refine wpAny_bind ?_
    unfold setNextDrawn
    refine wpAny_bind (wpAny_setState_of ho hd hf ?_)
    simp only [bne_self_eq_false, Bool.false_eq_true, if_false, Int.toNat_natCast, Array.getElem?_eq_getElem hpi]
    refine wpAny_pure ?_
    have er : r.getD i (0, .none) = es[ps[i]] := by rw [hr, List.getD_eq_getElem?_getD, List.getElem?_map, List.getElem?_eq_getElem hip]; simp [Array.getD, hpi]
    rw [er] at h
    exact A2o e rfl fun h' sb e' => ⟨_, rfl, wpAny_pure (h h' sb (.drawn ps hp hr e' ((sb.2 _ htp).trans et)))⟩
theorem A2e {Q : Option Value → Shared → Prop} (hh : A.handled = none) (ho : s.heap.get? S = some o) (hd : o.data = .set es ep t) (hf : t.fits es.size = true) (ht : Ft (!C7 w) t) (x : SW w S I tp es ep t r es.size s.heap)
    (h : ∀ h', Heap.ExtBut I s.heap h' → Q none { s with heap := h' }) : wpAny (model prog w) A (pyNext (.ref I)) Q E s := by
  obtain ⟨first, e0⟩ := x.itObj_at
  have hT : s.TypeIs (.ref I) "set_iterator" := ⟨_, e0, rfl⟩
  unfold pyNext
  refine wpAny_bind (wpAny_attempt (wpAny_callSpecial?_slot (name := Str.ofString "__next__") hT Ca (wpAny_call_entry Ca hT J1 ?_ (Ka _))))
  unfold Builtin.«set_iterator.__next__»
  refine wpAny_bind (wpAny_pure ?_)
  cases x with
  | text hb hr e =>
    refine wpAny_bind (wpAny_fieldsOf e rfl ?_)
    dsimp only
    refine wpAny_bind (wpAny_setEntries_of ho hd hf ?_)
    rw [if_neg (by simp)]
    refine wpAny_bind (Pm (slot := 0) ho hd hf hb ?_)
    have hl : (pickOrder (w.params.setOrder S ep) es).size = es.size := by rw [← Array.length_toList, (Kn _ _).length_eq, Array.length_toList]
    simp only [Int.toNat_natCast, Array.getElem?_eq_none (Nat.le_of_eq hl), Option.map_none]
    exact R8 hh e rfl h
  | plain hb hd' hr e =>
    refine wpAny_bind (wpAny_fieldsOf e rfl ?_)
    dsimp only
    refine wpAny_bind (wpAny_setEntries_of ho hd hf ?_)
    rw [if_neg (by simp)]
    simp only [Int.toNat_natCast]
    refine wpAny_bind (Ny ho hd hf hb ht.led hd' ht.ris (Nat.le_refl _) ?_)
    rw [if_neg (Nat.lt_irrefl _)]
    exact R8 hh e rfl h
  | drawn ps hp hr e et =>
    have hpl : ps.length = es.size := by rw [hp.length_eq, List.length_range]
    refine wpAny_bind (wpAny_fieldsOf e rfl ?_)
    dsimp only
    refine wpAny_bind (wpAny_setEntries_of ho hd hf ?_)
    rw [if_neg (by simp)]
    simp only [Int.toNat_natCast]
    refine wpAny_bind ?_
    unfold seqItems?
    refine wpAny_bind (wpAny_load et (wpAny_pure ?_))
    have eg : ((ps.map fun (i : Nat) => Value.int i 0).toArray)[es.size]? = none := by rw [List.getElem?_toArray, List.getElem?_eq_none (by rw [List.length_map]; exact Nat.le_of_eq hpl)]
    dsimp only [Fg]
    rw [eg]
    dsimp only
    refine wpAny_bind (wpAny_setField_rec e (by simp) fun h1 e1 s1 => ?_)
    exact R8 (first := rawInt 0) (h := h1) hh e1 rfl fun h' x' => h h' fun b ob hb hob => x' b ob hb (s1.extBut b ob hb hob)
end
end Mine
namespace Mine
open PySem PySem.Calls PyProof.Rows PySem.SeqAt
section
variable {prog : Program} {w : World} {A : Around} {E : Value → Shared → Prop} {s : Shared} {S I tp : Addr} {es : Array (Int × Value)} {ep : Nat} {t : SetTable} {o : Obj} {r : List (Int × Value)} {i : Nat}
theorem SW.at {h h' : Heap} (x : SW w S I tp es ep t r i h) (kI : ∀ ob, h.get? I = some ob → h'.get? I = some ob) (kt : ∀ ob, h.get? tp = some ob → h'.get? tp = some ob) : SW w S I tp es ep t r i h' := by
  cases x with
  | text hb hr e => exact .text hb hr (kI _ e)
  | plain hb hd hr e => exact .plain hb hd hr (kI _ e)
  | drawn ps hp hr e et => exact .drawn ps hp hr (kI _ e) (kt _ et)
theorem Z4 (hh : A.handled = none) (hd : o.data = .set es ep t) (hf : t.fits es.size = true) (ht : Ft (!C7 w) t) (hSI : S ≠ I) (htp : tp ≠ I) :
    Walks prog w A I [I, S, tp] [I] es.size (fun i v => v = (r.getD i (0, .none)).2) (fun i h => SW w S I tp es ep t r i h ∧ h.get? S = some o) where
  sub := fun b hb => by simp at hb; simp [hb]
  frame := fun i h h' st hk => ⟨st.1.at (fun ob e => hk I (by simp) ob e) (fun ob e => hk tp (by simp) ob e), hk S (by simp) o st.2⟩
  item := fun i s Q E hi st hQ => Yr st.2 hd hf ht hi htp st.1 fun h' sb x' => hQ _ h' s.toks rfl ⟨x', (sb.2 _ hSI).trans st.2⟩ fun b ob hb e => (sb.2 b fun q => hb (by simp [q])).trans e
  done := fun s Q E st hQ => A2e hh st.2 hd hf ht st.1 fun h' x' => hQ h' s.toks fun b ob hb e => x' b ob (fun q => hb (by simp [q])) e
  self := fun i s Q E st hQ => by
    obtain ⟨first, e⟩ := st.1.itObj_at
    have hT : s.TypeIs (.ref I) "set_iterator" := ⟨_, e, rfl⟩
    refine wpAny_pyIter_slot hT Jq (wpAny_call_entry Jq hT P9 ?_ (Qk _))
    show wpAny _ _ (ret (.ref I)) _ _ s
    exact wpAny_pure ⟨_, rfl, "set_iterator", _, hT, Ca.lookup, hQ⟩
theorem Sn {Q : List Value → Shared → Prop} (hh : A.handled = none) (ho : s.heap.get? S = some o) (hex : o.ExactSet) (hd : o.data = .set es ep t) (hf : t.fits es.size = true) (hsz : es.size < scanBound) (ht : Ft (!C7 w) t)
    (h : ∀ vs s', vs.Perm (es.toList.map (·.2)) → (∀ b ob, s.heap.get? b = some ob → s'.heap.get? b = some ob) → s'.gens = s.gens → s'.os = s.os → Q vs s') : wpAny (model prog w) A (collect (.ref S)) Q E s := by
  have hT0 : s.TypeIs (.ref S) "set" := ⟨o, ho, hex.1⟩
  have hlt : S < s.heap.objs.size := Heap.lt_size ho
  unfold collect
  refine wpAny_bind (wpAny_runValue (codeAny_builtin F.entry_proto_collect ?_))
  rw [Around.under_plainId F.plain_proto_collect _]
  show wpAny _ A.in1 (newList [] >>= fun l => again (.builtin "list.__iadd__" ⟨[l, .ref S], []⟩)) _ _ s
  refine wpAny_bind (wpAny_newObj_type ?_)
  refine wpAny_pure ⟨plainId_quiet F.plain_list_iadd _, codeAny_builtin F.entry_list_iadd ?_⟩
  rw [Around.under_plainId F.plain_list_iadd _]
  show wpAny _ A.in1 (Builtin.List.listExtendWith (.ref s.heap.objs.size) (.ref S) (.ref s.heap.objs.size)) _ _ _
  unfold Builtin.List.listExtendWith
  have ho1 : (s.heap.push { cls := .type "list", data := .seq ([] : List Value).toArray }).get? S = some o := Heap.get?_push_of_some _ ho
  have hT1 : Shared.TypeIs { s with heap := s.heap.push { cls := .type "list", data := .seq ([] : List Value).toArray } } (.ref S) "set" := ⟨o, ho1, hex.1⟩
  refine wpAny_bind (wpAny_typeOf hT1 ?_)
  have h1 : Builtin.List.listSameRef (.ref s.heap.objs.size) (.ref S) = false := by simp [Builtin.List.listSameRef, Nat.ne_of_gt hlt]
  have h2 : (Value.type "set" == Value.type "list") = false := by decide
  have h3 : (Value.type "set" == Value.type "tuple") = false := by decide
  rw [h1, h2, h3, if_neg (by decide)]
  refine wpAny_bind (A2g ho1 hex hd hf hsz fun I tp r s2 hI htp x k2 hg2 ho2 => ?_)
  have hoS2 := k2 _ _ ho1
  have hT2 : s2.TypeIs (.ref S) "set" := ⟨o, hoS2, hex.1⟩
  have hL : (s.heap.push { cls := .type "list", data := .seq ([] : List Value).toArray }).get? s.heap.objs.size = some { cls := .type "list", data := .seq ([] : List Value).toArray } := Heap.get?_push_size _ rfl
  have hSI : S ≠ I := fun e => by rw [← e, ho1] at hI; cases hI
  have hLI : s.heap.objs.size ≠ I := fun e => by rw [← e, hL] at hI; cases hI
  have htI : tp ≠ I := by
    rcases htp with rfl | ⟨_, q⟩
    · exact hSI
    · exact q
  have hLt : s.heap.objs.size ≠ tp := by
    rcases htp with rfl | ⟨q, _⟩
    · exact Nat.ne_of_gt hlt
    · exact fun e => by rw [← e, hL] at q; cases q
  refine wpAny_bind (wpAny_holding ?_)
  unfold Builtin.List.listLengthHint
  refine wpAny_bind (wpAny_specialOf hT2 F.slot_set_len.lookup ?_)
  dsimp only
  rw [show splitId "set.__len__" = some ("set", "__len__") by kernel_rfl]
  dsimp only
  refine wpAny_bind (wpAny_isInstance hT2 sub_set_self ?_)
  rw [if_neg (by decide)]
  rw [if_pos]
  rotate_left
  · kernel_rfl
  refine wpAny_bind (wpAny_typeOf hT2 ?_)
  dsimp only
  refine wpAny_pure ?_
  rw [if_pos]
  rotate_left
  · kernel_rfl
  refine wpAny_bind (wpAny_rule ?_)
  have hS1 := k2 _ _ hL
  refine wpAny_bind ?_
  show wpAny _ A.in1 (updateSeq s.heap.objs.size (·.push .none) >>= fun _ => updateSeq s.heap.objs.size (·.pop)) _ _ _
  refine wpAny_bind (wpAny_updateSeq hS1 rfl ?_)
  have hS2 := Heap.get?_update_self (Obj.mapSeq (·.push Value.none)) hS1 rfl
  refine wpAny_updateSeq hS2 rfl ?_
  have hS3 := Heap.get?_update_self (Obj.mapSeq (·.pop)) hS2 rfl
  have oth : ∀ b ob, b ≠ s.heap.objs.size → s2.heap.get? b = some ob → ((s2.heap.update s.heap.objs.size (Obj.mapSeq (·.push Value.none))).update s.heap.objs.size (Obj.mapSeq (·.pop))).get? b = some ob :=
    fun b ob hb e => (Heap.get?_update_other _ _ (Ne.symm hb)).trans ((Heap.get?_update_other _ _ (Ne.symm hb)).trans e)
  have W := (Z4 (prog := prog) (A := A.in1) (r := r) (o := o) (by simpa using hh) hd hf ht hSI htI).toS
  refine wpAny_pure ⟨plainId_quiet F.plain_extend_loop _, codeAny_extend_loopS W (fits_of_scanBound hsz) s.heap.objs.size (by simp [hLI, Nat.ne_of_gt hlt, hLt]) _ es.size 0 _ _ _ rfl (Nat.zero_le _)
    ⟨x.at (fun ob e => oth _ _ (Ne.symm hLI) e) (fun ob e => oth _ _ (Ne.symm hLt) e), oth _ _ (Nat.ne_of_lt hlt) hoS2⟩ hS3 (ItemsOf.nil _) fun s' acc' c' hm hS' hacc => ?_⟩
  show wpAny _ A (load s.heap.objs.size >>= _) _ _ s'
  refine wpAny_bind (wpAny_load hS' ?_)
  have hrl : r.length = es.size := by rw [x.perm.length_eq, Array.length_toList]
  have hacc' : acc'.toList = r.map (·.2) := by
    refine List.ext_getElem? fun j => ?_
    rw [Array.getElem?_toList, List.getElem?_map]
    by_cases hj : j < es.size
    · have hj' : j < acc'.size := by rw [hacc.1]; exact hj
      rw [Array.getElem?_eq_getElem hj', hacc.2 j _ (Array.getElem?_eq_getElem hj'), List.getD_eq_getElem?_getD, List.getElem?_eq_getElem (by exact Ix hj (Eq.symm hrl))]; rfl
    · rw [Array.getElem?_eq_none (by rw [hacc.1]; exact oGe hj), List.getElem?_eq_none (by exact A3y hrl (oGe hj))]; rfl
  have keep : ∀ b ob, s.heap.get? b = some ob → s'.heap.get? b = some ob := fun b ob e => by
    have hb := Heap.lt_size e
    have e1 : (s.heap.push { cls := .type "list", data := .seq ([] : List Value).toArray }).get? b = some ob := Heap.get?_push_of_some _ e
    refine hm.heap b ob (fun q => ?_) (oth _ _ (Nat.ne_of_lt hb) (k2 _ _ e1))
    simp only [List.mem_cons, List.not_mem_nil, or_false] at q
    rcases q with q | q
    · exact absurd q (Nat.ne_of_lt hb)
    · rw [q, hI] at e1; cases e1
  exact wpAny_pure (h _ s' (by rw [hacc']; exact x.perm.map _) keep (hm.gens.trans hg2) (hm.os.trans ho2))
end
end Mine
namespace Mine
open PySem PySem.Calls PyProof.Rows PySem.SeqAt
section
variable {prog : Program} {w : World} {A : Around} {E : Value → Shared → Prop} {s : Shared} {a : Addr} {l : List Int}
theorem Sg : ∀ (vs : List Value), (∀ v ∈ vs, ∃ i t, v = Value.int i t) → IntsAre vs (vs.map Li)
  | [], _ => .nil
  | v :: vs, h => by
    obtain ⟨i, t, rfl⟩ := h v List.mem_cons_self
    exact .cons i t (Sg vs fun v hv => h v (List.mem_cons_of_mem _ hv))
inductive A6v (s : Shared) (l : List Int) (v : Value) (s' : Shared) : Prop
  | mk (D : Addr) (out : Array Value) (ns : List Int) (k : Nat) (hv : v = .ref D) (hD : s.heap.get? D = none) (hl : s'.heap.get? D = some (seqObj "list" out k)) (hi : IntsAre out.toList ns) (hp : ns.Perm l) (hs : ns.Pairwise (· ≤ ·))
    (kp : ∀ b ob, s.heap.get? b = some ob → s'.heap.get? b = some ob) (hg : s'.gens = s.gens) (ho : s'.os = s.os) : A6v s l v s'
theorem Vi {Q : Value → Shared → Prop} (hh : A.handled = none) (S : Gw s.heap a (!C7 w) l) (hl : l.length < 64) (h : ∀ v s', A6v s l v s' → Q v s') : wpAny (model prog w) A (call (.builtin "sorted") [.ref a]) Q E s := by
  obtain ⟨o, es, ep, t, ho, hex, hd, hel, hp, hb, hf, ht⟩ := S
  refine Calls.call_function_entry kind_sorted plain_sorted entry_sorted (args_sorted1 _) ?_
  unfold Builtin.«sorted»
  refine wpAny_bind (m := checkCount "sorted" 1 1 _) (wpAny_pure ?_)
  refine wpAny_bind (Sn (by simpa using hh) ho hex hd hf hb ht fun vs s1 hvs k1 hg1 ho1 => ?_)
  have hlen : vs.length = l.length := by rw [hvs.length_eq, List.length_map, ← hp.length_eq, List.length_map]
  have hI : IntsAre vs (vs.map Li) := Sg vs fun v hv => by
    obtain ⟨e, he, rfl⟩ := List.mem_map.mp (hvs.mem_iff.mp hv)
    obtain ⟨i, tk, rfl⟩ := hel e he
    exact ⟨i, tk, rfl⟩
  have hpl : (vs.map Li).Perm l := by
    refine (hvs.map Li).trans ?_
    rw [List.map_map]
    exact hp
  refine wpAny_bind (wpAny_newList ?_ (by rw [hlen, sizeLine_eq]; exact Nat.le_trans (Nat.le_of_lt hl) (by decide)))
  have hoL : (s1.heap.push (seqObj "list" vs.toArray 0)).get? s1.heap.objs.size = some (seqObj "list" vs.toArray 0) := Heap.get?_push_size _ rfl
  show wpAny _ _ _ _ _ { s1 with heap := s1.heap.push (seqObj "list" vs.toArray 0) }
  refine wpAny_bind (wpAny_holding (wpAny_call_entry slot_list_sort ⟨_, hoL, rfl⟩ entry_list_sort (list_sort_tree hoL hI (by exact Sh hlen hl) fun out ns' a1 a2 a3 => ⟨_, rfl, ?_⟩) (args_list_sort _)))
  obtain ⟨k, hk⟩ := sortedHeap_at (out := out) hoL
  have keep : ∀ b ob, s.heap.get? b = some ob → (sortedHeap (s1.heap.push (seqObj "list" vs.toArray 0)) s1.heap.objs.size vs out).get? b = some ob := fun b ob e => by
    have e1 := k1 b ob e
    have hlt := Heap.lt_size e1
    rw [sortedHeap_old (Nat.ne_of_lt hlt) (by rw [Heap.size_push]; exact Nat.lt_succ_of_lt hlt)]
    exact Heap.get?_push_of_some _ e1
  refine wpAny_pure ⟨_, rfl, h _ _ ⟨_, out, ns', k, rfl, ?_, hk, a1, a2.trans hpl, a3, keep, hg1, ho1⟩⟩
  cases e : s.heap.get? s1.heap.objs.size with
  | none => rfl
  | some ob => exact absurd (Heap.lt_size (k1 _ _ e)) (Nat.lt_irrefl _)
end
end Mine
namespace Mine
open PySem PySem.Calls PyProof.Rows PySem.SeqAt
theorem Rk {l : List Int} (h1 : l.Pairwise (· ≤ ·)) (h2 : l.Nodup) : l.Pairwise (· < ·) := (h1.and h2).imp fun q => by exact Int.lt_iff_le_and_ne.mpr q
theorem Zd {is ns : List Int} {n : Nat} (hn : n = is.length) (hp : ns.Perm (ddL (fun i => is.getD i 0) n)) (hs : ns.Pairwise (· ≤ ·)) : ns = B9 (Ch is) := by
  obtain ⟨d1, d2⟩ := J3 (Nb is)
  refine Hn (Rk hs (hp.nodup_iff.mpr (Q8 _ _))) d1 fun x => ?_
  rw [hp.mem_iff, W4, d2, Il]
  subst hn
  constructor
  · rintro ⟨j, hj, rfl⟩
    rw [List.getD_eq_getElem?_getD, List.getElem?_eq_getElem hj]
    exact List.getElem_mem ..
  · intro h
    obtain ⟨j, hj⟩ := List.mem_iff_getElem?.mp h
    exact ⟨j, (List.getElem?_eq_some_iff.mp hj).1, by rw [List.getD_eq_getElem?_getD, hj]; rfl⟩
section
variable {C : Cx} {T : Tab} {n b : Nat} {Γ : List Str} {S : Scope} {strF : Bi}
theorem Aj.sset (hq : T.q = false) {f g : Str} {x : Expr} {np gp p2 pos : Pos} {d d1 : A8 → A0 → Res AV} (hf : f = ("sorted" : Str)) (hg : g = ("set" : Str)) (hgf : Ao S f = true) (hgg : Ao S g = true) (hn : Am x = true) (h1 : Aj C T n b Γ S x d1)
    (hd : ∀ ρ H, d ρ H = (d1 ρ H).get fun w H => prim strF C.sc .sortedSet [w] H) : Aj C T n b Γ S (.Call (.Name f np) [.Call (.Name g gp) [x] [] p2] [] pos) d := by
  subst hf; subst hg
  refine ⟨?_⟩
  intro base env ρ μ H H' s A E Q v' G hS st a ed k
  rw [hd] at ed
  obtain ⟨w, H1, e1, ed⟩ := Res.get_ok ed
  cases w with
  | ref r =>
    have ed : (match H1[r]? with
      | some (.list xs) => if xs.length < 64 then (match Bh xs with
          | some is => Aw ((B9 (Ch is)).map .int) H1
          | none => .bad) else .bad
      | _ => .bad) = .ok v' H' := ed
    split at ed
    · rename_i xs ex
      split at ed
      · rename_i h64
        split at ed
        · rename_i is ei
          refine bC fun hno => ?_
          obtain ⟨hz, rfl, rfl⟩ := Ds ed
          refine hno ?_
          refine wpAny_Call_ofName (Bv G hS st hgf rfl ?_)
          refine callWith_builtin (Dc rfl) (Cb rfl (wpAny_items_cons ?_ (An rfl)))
          refine wpAny_Call_ofName (Bv G hS st hgg rfl ?_)
          refine PySem.callWith_type (Dc (by simp only [List.all_cons, hn]; rfl)) (Cb hn (wpAny_items_cons (h1.ok G hS st a e1 fun u s' μ' X S' V => wpAny_items_nil ?_) (An hn)))
          refine bC fun hno => ?_
          obtain ⟨c, rfl, ec⟩ := V.isRef
          obtain ⟨hzx, a', vs, ea', p1, q1⟩ := S'.hp.list ex
          rw [ec] at ea'; cases ea'
          have hi := G1 ei q1
          have hvl : vs.length < 64 := by rw [← q1.length]; exact h64
          have hil : vs.length = is.length := hi.length
          refine hno ?_
          refine Z5 (a.handled (G.q.trans hq)) (IsList.of_plain p1) hi (by rw [List.size_toArray]; exact Nat.lt_trans (Nat.succ_lt_succ hvl) (by decide)) fun h2 tk2 SI k2 => ?_
          refine wpAny_items_nil ?_
          rw [List.size_toArray] at SI
          refine Vi (s := { s' with heap := h2, toks := tk2 }) (a.handled (G.q.trans hq)) SI (Nat.lt_of_le_of_lt (J5 _ _) hvl) fun v2 s2 R => ?_
          obtain ⟨D, out, ns, kk, rfl, hD, hl, hi2, hp2, hs2, kp, hg2, ho2⟩ := R
          have hns := Zd hil hp2 hs2
          subst hns
          have keep : ∀ {b : Addr} {ob : Obj}, s'.heap.get? b = some ob → s2.heap.get? b = some ob := fun e => kp _ _ (k2 _ _ e)
          have hD' : s'.heap.get? D = none := by
            cases e : s'.heap.get? D with
            | none => rfl
            | some ob => rw [show ({ s' with heap := h2, toks := tk2 } : Shared).heap = h2 from rfl, k2 _ _ e] at hD; cases hD
          have S2 := S'.grow (s' := s2) keep hg2 ho2
          have T2 := S2.track (a := D) (vs := out.toList) ⟨kk, by simpa using hl⟩ (Mv hi2) (Ge S' hD') (Bq S' hD') hz
          exact k _ _ _ (X.trans ((Ext.grow keep).trackX hD')) T2 (.ref (by rw [← S'.hp.len]; simp))
        · cases ed
      · cases ed
    · cases ed
  | _ => exact Er (v := v') (H' := H') ed
end
end Mine
namespace Mine
open PySem PySem.Calls PyProof.Rows PySem.SeqAt
theorem Gk {scope S : Scope} {Γ xs : List Str} (h : I7 scope S Γ xs = true) : K1 scope S Γ xs := by
  unfold I7 at h
  simp only [Bool.and_eq_true, beq_iff_eq, List.all_eq_true] at h
  obtain ⟨⟨h1, h2⟩, h3⟩ := h
  refine ⟨h1, fun x hx e => ?_, fun x hx e => ?_, fun x hx e => ?_, fun x hx e => ?_, h3⟩
  · have := (h2 x hx).1.1.1; rw [e] at this; simpa using this
  · have := (h2 x hx).1.1.2; rw [e] at this; simpa using this
  · have := (h2 x hx).1.2; rw [e] at this; simpa using this
  · have := (h2 x hx).2
    rcases e with e | e <;> rw [e] at this <;> simp at this <;> rcases this with q | q
    · exact .inl q
    · exact .inr q
    · exact .inl q
    · exact .inr q
theorem Gj {o : Expr} {m : Str} (h : I3 o = true) : ∀ env, attributeBase o m env (eval o env) = eval o env := by
  cases o <;> first | (intro env; rfl) | cases h
theorem M7 {α β γ : Type} {r : Res α} {f : α → A0 → Res β} {g : β → A0 → Res γ} : (r.get f).get g = r.get fun v H => (f v H).get g := by
  cases r <;> rfl
inductive Y5 (T : Tab) (Γ : List Str) (S : Scope) (es : PEs) : D6 → Expr → Prop
  | lr {f : Str} {np : Pos} {g : Str} {gp : Pos} {args : List Expr} {p2 pos : Pos} : f = ("list" : Str) → Ao S f = true → g = ("range" : Str) → Ao S g = true → Bx T Γ S es args = true → Y5 T Γ S es .listRange (.Call (.Name f np) [.Call (.Name g gp) args [] p2] [] pos)
  | fn {p : D6} {f : Str} {np : Pos} {args : List Expr} {pos : Pos} : Jd p = true → Ao S f = true → Ed p = some f → Bx T Γ S es args = true → Y5 T Γ S es p (.Call (.Name f np) args [] pos)
  | ty {p : D6} {f : Str} {np : Pos} {a : Expr} {g : Str} {gp pos : Pos} : Jd p = true → Ao S f = true → f = ("isinstance" : Str) → Je T p = some g → Ao S g = true → Bx T Γ S es [a] = true → Y5 T Γ S es p (.Call (.Name f np) [a, .Name g gp] [] pos)
theorem Os {T : Tab} {Γ : List Str} {S : Scope} {p : D6} {es : PEs} {e : Expr} (h : B1 T Γ S (.prim p es) e = true) : Y5 T Γ S es p e := by
  obtain ⟨_, h⟩ := A7 h
  obtain ⟨f, np, args, pos, rfl, hk⟩ := Cr h
  clear h
  have h := hk
  have h : cond (A6q p)
      (opt (Fm args) fun a => Dy a fun g as => f == ("list" : Str) && (Ao S f && (g == ("range" : Str) && (Ao S g && Bx T Γ S es as))))
      (Jd p && (Ao S f && (match Je T p with
        | some t => f == ("isinstance" : Str) && opt (Qz args) fun a => opt (E3 a.2) fun g => t == g.1 && (Ao S g.1 && Bx T Γ S es [a.1])
        | none => Ed p == some f && Bx T Γ S es args))) = true := h
  cases hp : A6q p with
  | true =>
    rw [hp] at h
    obtain ⟨a, ha, h⟩ := Ad h
    obtain ⟨g, gp, as, p2, rfl, hk⟩ := Cr h
    clear h
    have h := hk
    obtain ⟨h1, h⟩ := A7 h
    obtain ⟨h2, h⟩ := A7 h
    obtain ⟨h3, h⟩ := A7 h
    obtain ⟨h4, h5⟩ := A7 h
    have q : args = _ := By ha
    subst q
    cases A61 hp
    exact .lr (Ba h1) h2 (Ba h3) h4 h5
  | false =>
    refine bC fun hno => ?_
    rw [hp] at h
    obtain ⟨h1, h⟩ := A7 h
    obtain ⟨h2, h⟩ := A7 h
    refine hno ?_
    cases q : Je T p with
    | none =>
      refine bC fun hno => ?_
      rw [q] at h
      obtain ⟨h3, h4⟩ := A7 h
      refine hno ?_
      exact .fn h1 h2 (Ba h3) h4
    | some t =>
      refine bC fun hno => ?_
      rw [q] at h
      obtain ⟨h3, h⟩ := A7 h
      obtain ⟨a, ha, h⟩ := Ad h
      obtain ⟨g, hg, h⟩ := Ad h
      obtain ⟨h4, h⟩ := A7 h
      obtain ⟨h5, h6⟩ := A7 h
      have q2 : args = _ := Ig ha
      subst q2
      refine hno ?_
      rw [Bm hg]
      exact .ty h1 h2 (Ba h3) (by rw [q, Ba h4]) h5 h6
section
variable {C : Cx} {T : Tab} {n : Nat} {cf : Nat → List AV → A0 → Res AV} {strF : Bi}
theorem Gx.bad {C : Cx} {b : Nat} {Γ : List Str} {S : Scope} {e : Expr} {d : A8 → A0 → Res Bool} (hd : ∀ ρ H, d ρ H = .bad) : Gx C T n b Γ S e d := by
  refine ⟨?_⟩
  intro base env ρ μ H H' s A E Q v G hS st a ed k
  rw [hd] at ed; cases ed
theorem Cz {a : Bool} (h : (!a) = true) : a = false := by
  cases a
  · rfl
  · cases h
inductive A7m (T : Tab) (Γ : List Str) (S : Scope) (a : PE) (as : PEs) (vs : List Expr) : Prop
  | mk (e : Expr) (r : List Expr) (he : vs = e :: r) (h1 : Am e = true) (h2 : B1 T Γ S a e = true) (h3 : Bx T Γ S as r = true) : A7m T Γ S a as vs
theorem B8 {Γ : List Str} {S : Scope} {a : PE} {as : PEs} {vs : List Expr} (h : Bx T Γ S (.cons a as) vs = true) : A7m T Γ S a as vs := by
  cases vs with
  | nil => cases h
  | cons e r =>
    obtain ⟨h1, h⟩ := A7 h
    obtain ⟨h2, h3⟩ := A7 h
    exact ⟨e, r, rfl, h1, h2, h3⟩
theorem D4 {Γ : List Str} {S : Scope} {vs : List Expr} (h : Bx T Γ S .nil vs = true) : vs = [] := Cw h
theorem C9 {Γ : List Str} {S : Scope} : ∀ (es : PEs) (vs : List Expr), Bx T Γ S es vs = true → vs.all Am = true
  | .nil, vs, h => by rw [D4 h]; rfl
  | .cons a as, vs, h => by
    obtain ⟨e, r, rfl, h1, h2, h3⟩ := B8 h
    rw [List.all_cons, h1, C9 as r h3]; rfl
theorem Eo {Γ : List Str} {S : Scope} {es : PEs} {vs : List Expr} (h : Bx T Γ S es vs = true) (hs : Nv es = true) : ∃ e r, vs = e :: r := by
  cases es with
  | nil => cases hs
  | cons a as => obtain ⟨e, r, rfl, _⟩ := B8 h; exact ⟨e, r, rfl⟩
theorem Wk {Γ : List Str} {S : Scope} {op : CmpOp} {a b : PE} {e : Expr} (h : B1 T Γ S (.cmp op a b) e = true) : ∃ l r p, e = .Compare l [op] [r] p ∧ C3 r = true ∧ B1 T Γ S a l = true ∧ B1 T Γ S b r = true := by
  refine bC fun hno => ?_
  obtain ⟨x, hx, h⟩ := Ad h
  obtain ⟨o, ho, h⟩ := Ad h
  obtain ⟨r, hr, h⟩ := Ad h
  obtain ⟨h1, h⟩ := A7 h
  obtain ⟨h2, h⟩ := A7 h
  obtain ⟨h3, h4⟩ := A7 h
  refine hno ?_
  exact ⟨_, _, _, by rw [Wa hx, By ho, By hr, Ba h1], h2, h3, h4⟩
theorem A0k {Γ : List Str} {S : Scope} {o1 o2 : CmpOp} {a b c : PE} {e : Expr} (h : B1 T Γ S (.cmp2 o1 o2 a b c) e = true) : ∃ l r1 r2 p, e = .Compare l [o1, o2] [r1, r2] p ∧ C3 r2 = true ∧ B1 T Γ S a l = true ∧ B1 T Γ S b r1 = true ∧ B1 T Γ S c r2 = true := by
  refine bC fun hno => ?_
  obtain ⟨x, hx, h⟩ := Ad h
  obtain ⟨o, ho, h⟩ := Ad h
  obtain ⟨r, hr, h⟩ := Ad h
  obtain ⟨h1, h⟩ := A7 h
  obtain ⟨h2, h⟩ := A7 h
  obtain ⟨h3, h⟩ := A7 h
  obtain ⟨h4, h⟩ := A7 h
  obtain ⟨h5, h6⟩ := A7 h
  refine hno ?_
  exact ⟨_, _, _, _, by rw [Wa hx, Ig ho, Ig hr, Ba h1, Ba h2], h3, h4, h5, h6⟩
theorem K8 {Γ : List Str} {S : Scope} {o : BoolOp} {es : PEs} {e : Expr} (h : (opt (Y4 e) fun x => o == x.1 && Bx T Γ S es x.2.1) = true) : ∃ vs p, e = .BoolOp o vs p ∧ Bx T Γ S es vs = true := by
  refine bC fun hno => ?_
  obtain ⟨x, hx, h⟩ := Ad h
  obtain ⟨h1, h2⟩ := A7 h
  refine hno ?_
  exact ⟨_, _, by rw [A0a hx, Ba h1], h2⟩
theorem Uw {Γ : List Str} {S : Scope} {o : UnaryOp} {a : PE} {e : Expr} (h : (opt (dUn e) fun x => o == x.1 && B1 T Γ S a x.2.1) = true) : ∃ v p, e = .UnaryOp o v p ∧ B1 T Γ S a v = true := by
  refine bC fun hno => ?_
  obtain ⟨x, hx, h⟩ := Ad h
  obtain ⟨h1, h2⟩ := A7 h
  refine hno ?_
  exact ⟨_, _, by rw [A44 hx, Ba h1], h2⟩
inductive A42 (T : Tab) (Γ : List Str) (S : Scope) (k : Nat) (es : PEs) (e : Expr) : Prop
  | mk (f : Str) (np : Pos) (e' : Expr) (r : List Expr) (pos : Pos) (he : e = .Call (.Name f np) (e' :: r) [] pos) (h1 : T.fns.lookup k = some f) (h2 : Ao S f = true) (h3 : Bx T Γ S es (e' :: r) = true) : A42 T Γ S k es e
theorem Nf {Γ : List Str} {S : Scope} {k : Nat} {es : PEs} {e : Expr} (h : B1 T Γ S (.call k es) e = true) : A42 T Γ S k es e := by
  refine bC fun hno => ?_
  obtain ⟨_, h⟩ := A7 h
  obtain ⟨f, np, args, pos, rfl, hk⟩ := Cr h
  clear h
  have h := hk
  obtain ⟨h1, h⟩ := A7 h
  obtain ⟨h2, h⟩ := A7 h
  obtain ⟨h3, h4⟩ := A7 h
  obtain ⟨e', r, rfl⟩ := Eo h4 h3
  refine hno ?_
  exact ⟨_, _, _, _, _, rfl, Ba h1, h2, h4⟩
inductive A3m (T : Tab) (Γ : List Str) (S : Scope) (el : PE) (it : It) (c : PEo) : Expr → Prop
  | mk {el' : Expr} {x : Str} {px : Pos} {iter : Expr} {ifs : List Expr} {scope : Scope} {p : Pos} : I7 scope S Γ [x] = true → Qw it = true → C3 iter = true → Vo T Γ S it iter = true → A85 T (x :: Γ) (Cs scope S) c ifs = true → B1 T (x :: Γ) (Cs scope S) el el' = true → A3m T Γ S el it c (.ListComp el' [⟨.Name x px, iter, ifs, 0⟩] scope p)
inductive A0e (T : Tab) (Γ : List Str) (S : Scope) (el : PE) (it : It) : Expr → Prop
  | mk {el' : Expr} {x : Str} {px : Pos} {y : Str} {py : Pos} {k : Nat} {tp : Pos} {iter : Expr} {scope : Scope} {p : Pos} : I7 scope S Γ [x, y] = true → (x == y) = false → C3 iter = true → Vo T Γ S it iter = true → B1 T (x :: y :: Γ) (Cs scope S) el el' = true → A0e T Γ S el it (.ListComp el' [⟨.Tuple [.Name x px, .Name y py] k tp, iter, [], 0⟩] scope p)
theorem Q3 {Γ : List Str} {S : Scope} {el : PE} {it : It} {c : PEo} {e : Expr} (h : B1 T Γ S (.comp1 el it c) e = true) : A3m T Γ S el it c e := by
  refine bC fun hno => ?_
  obtain ⟨_, h⟩ := A7 h
  obtain ⟨x, hx, h⟩ := Ad h
  obtain ⟨g, hg, h⟩ := Ad h
  obtain ⟨v, hv, h⟩ := Ad h
  obtain ⟨h1, h⟩ := A7 h
  obtain ⟨h2, h⟩ := A7 h
  obtain ⟨h3, h⟩ := A7 h
  obtain ⟨h4, h⟩ := A7 h
  obtain ⟨h5, h⟩ := A7 h
  obtain ⟨h6, h7⟩ := A7 h
  have e1 : e = .ListComp x.1 [⟨.Name v.1 v.2, g.iter, g.ifs, 0⟩] x.2.2.1 x.2.2.2 := by
    rw [← Bm hv, ← Ba h1]
    exact (Sm hx).trans (by rw [By hg]; cases g; rfl)
  refine hno ?_
  rw [e1]
  exact .mk h2 h3 h4 h5 h6 h7
theorem Pf {Γ : List Str} {S : Scope} {el : PE} {it : It} {e : Expr} (h : B1 T Γ S (.comp2 el it) e = true) : A0e T Γ S el it e := by
  refine bC fun hno => ?_
  obtain ⟨_, h⟩ := A7 h
  obtain ⟨x, hx, h⟩ := Ad h
  obtain ⟨g, hg, h⟩ := Ad h
  obtain ⟨ts, hts, h⟩ := Ad h
  obtain ⟨t, ht, h⟩ := Ad h
  obtain ⟨v, hv, h⟩ := Ad h
  obtain ⟨w, hw, h⟩ := Ad h
  obtain ⟨h1, h⟩ := A7 h
  obtain ⟨h0, h⟩ := A7 h
  obtain ⟨h2, h⟩ := A7 h
  obtain ⟨h3, h⟩ := A7 h
  obtain ⟨h4, h⟩ := A7 h
  obtain ⟨h5, h6⟩ := A7 h
  have e1 : e = .ListComp x.1 [⟨.Tuple [.Name v.1 v.2, .Name w.1 w.2] ts.2.1 ts.2.2, g.iter, [], 0⟩] x.2.2.1 x.2.2.2 := by
    rw [← Bm hv, ← Bm hw, ← Ig ht, ← M8 hts, ← Ba h1, ← Cw h0]
    exact (Sm hx).trans (by rw [By hg]; cases g; rfl)
  refine hno ?_
  rw [e1]
  exact .mk h2 (Cz h3) h4 h5 h6
theorem Km {Γ : List Str} {S : Scope} {p : D6} {es : PEs} {e : Expr} (h : B1 T Γ S (.prim p es) e = true) (env : Env) (whole : _) : isTrue e env whole = (do let v ← whole; standAt e.pos; holding [v] (truthy v)) := by
  obtain ⟨_, h⟩ := A7 h
  obtain ⟨f, np, args, pos, rfl, _⟩ := Cr h
  rfl
theorem Mn {p : D6} {f : Str} (hq : (!T.q || (Je T p).isSome) = true) (h : Ed p = some f) : T.q = false := by
  cases e : T.q with
  | false => rfl
  | true => rw [e] at hq; cases p <;> first | cases h; done | cases hq
theorem A7o {b : Nat} {Γ : List Str} {S : Scope} {p : D6} {e : Expr} {z : Addr → Prop} (h : B1 T Γ S (.prim p .nil) e = true) : Aj (C.withZ z) T n b Γ S e (Aa strF cf C.sc b (.prim p .nil)) := by
  refine ⟨?_⟩
  intro base env ρ μ H H' s A E Q v' G hS st a ed k
  cases p <;> exact Er (v := v') (H' := H') ed
theorem A76 (hsf : Kl strF) {b : Nat} {Γ : List Str} {S : Scope} {p : D6} {e : Expr} {z : Addr → Prop} {x y : PE} {r : PEs} (h : B1 T Γ S (.prim p (.cons x (.cons y r))) e = true) (es : ∀ vs, Bx T Γ S (.cons x (.cons y r)) vs = true → Gy (C.withZ z) T n b Γ S vs (Bj strF cf C.sc b (.cons x (.cons y r)))) :
    Aj (C.withZ z) T n b Γ S e (Aa strF cf C.sc b (.prim p (.cons x (.cons y r)))) := by
  rcases Os h with ⟨h1, h2, h3, h4, h5⟩ | ⟨h1, h2, h3, h4⟩ | ⟨h1, h2, h3, h4, h5, h6⟩
  · refine ⟨?_⟩
    intro base env ρ μ H H' s A E Q v' G hS st a ed k
    refine bC fun hno => ?_
    obtain ⟨vs, H1, e1, ed⟩ := Res.get_ok ed
    obtain ⟨v1, H2, e2, e1⟩ := Res.thn_ok e1
    obtain ⟨vs2, H3, e3, e1⟩ := Res.thn_ok e1
    obtain ⟨v3, H4, e4, e3⟩ := Res.thn_ok e3
    obtain ⟨vs4, H5, e5, e3⟩ := Res.thn_ok e3
    refine hno ?_
    cases e3; cases e1
    cases vs4 <;> exact Er (v := v') (H' := H') ed
  · obtain ⟨e', r', rfl⟩ := Eo h4 rfl
    exact .primCall (strF := strF) hsf (Mn (A7 h).1 h3) h3 h1 h2 (C9 _ _ h4) (es _ h4) fun ρ H => rfl
  · obtain ⟨_, _, q, g1, g2, g3⟩ := B8 h6
    cases q
    obtain ⟨_, _, q, _⟩ := B8 g3
    cases q
theorem A7l (hsf : Kl strF) {b : Nat} {Γ : List Str} {S : Scope} {p : D6} {e : Expr} {z : Addr → Prop} {x : PE} (h : B1 T Γ S (.prim p (.cons x .nil)) e = true) (ev : ∀ e, B1 T Γ S x e = true → Aj (C.withZ z) T n b Γ S e (Aa strF cf C.sc b x)) (es : ∀ vs, Bx T Γ S (.cons x .nil) vs = true → Gy (C.withZ z) T n b Γ S vs (Bj strF cf C.sc b (.cons x .nil))) :
    Aj (C.withZ z) T n b Γ S e (Aa strF cf C.sc b (.prim p (.cons x .nil))) := by
  rcases Os h with ⟨h1, h2, h3, h4, h5⟩ | ⟨h1, h2, h3, h4⟩ | ⟨h1, h2, h3, h4, h5, h6⟩
  · obtain ⟨a, r, rfl, g1, g2, g3⟩ := B8 h5
    cases D4 g3
    exact .listRange (strF := strF) (by have hq := (A7 h).1; cases e : T.q with | false => rfl | true => rw [e] at hq; cases hq) h1 h3 h2 h4 g1 (ev _ g2) fun ρ H => Xs
  · obtain ⟨e', r', rfl⟩ := Eo h4 rfl
    exact .primCall (strF := strF) hsf (Mn (A7 h).1 h3) h3 h1 h2 (C9 _ _ h4) (es _ h4) fun ρ H => rfl
  · refine bC fun hno => ?_
    obtain ⟨_, _, q, g1, g2, g3⟩ := B8 h6
    cases q
    refine hno ?_
    exact .isCall (strF := strF) h4 h1 h3 h2 h5 g1 (ev _ g2) fun ρ H => Xs
variable (hok : T.q = false → ∀ k, T.okc k = true) (hcf : ∀ z, Cu (C.withZ z) T n cf) (hfn : (∀ k, ∃ x, T.fns.lookup k = some x ∨ ∀ vs H, cf k vs H = .bad) ∧ Kl strF)
include hok hcf hfn
mutual
theorem evD (b : Nat) : ∀ (pe : PE) (Γ : List Str) (S : Scope) (e : Expr), B1 T Γ S pe e = true → ∀ z, Aj (C.withZ z) T n b Γ S e (Aa strF cf C.sc b pe)
  | .none, Γ, S, e, h, z => by
    refine bC fun hno => ?_
    obtain ⟨c, hc, h⟩ := Ad h
    obtain ⟨d, hd, _⟩ := Ad h
    refine hno ?_
    rw [E9 hc, A30 hd]
    exact .cNone fun ρ H => rfl
  | .bool v, Γ, S, e, h, z => by
    refine bC fun hno => ?_
    obtain ⟨c, hc, h⟩ := Ad h
    obtain ⟨d, hd, h⟩ := Ad h
    refine hno ?_
    rw [E9 hc, A2a hd, ← Ba h]
    exact .cBool fun ρ H => rfl
  | .int i, Γ, S, e, h, z => by
    refine bC fun hno => ?_
    obtain ⟨c, hc, h⟩ := Ad h
    obtain ⟨d, hd, h⟩ := Ad h
    refine hno ?_
    rw [E9 hc, Xx hd, ← Ba h]
    exact .cInt fun ρ H => rfl
  | .str x, Γ, S, e, h, z => by
    refine bC fun hno => ?_
    obtain ⟨c, hc, h⟩ := Ad h
    obtain ⟨d, hd, h⟩ := Ad h
    refine hno ?_
    rw [E9 hc, W6 hd, ← Ba h]
    exact .cStr fun ρ H => rfl
  | .var i, Γ, S, e, h, z => by
    refine bC fun hno => ?_
    obtain ⟨x, hx, h⟩ := Ad h
    obtain ⟨h1, h2⟩ := A7 h
    refine hno ?_
    rw [Bm hx]
    exact .var (Ba h1) h2 fun ρ H => rfl
  | .gfn k, Γ, S, e, h, z => by
    refine bC fun hno => ?_
    obtain ⟨x, hx, h⟩ := Ad h
    obtain ⟨h1, h2⟩ := A7 h
    refine hno ?_
    rw [Bm hx]
    exact .gfn (Ba h1) h2 fun ρ H => rfl
  | .gint k i, Γ, S, e, h, z => by
    refine bC fun hno => ?_
    obtain ⟨x, hx, h⟩ := Ad h
    obtain ⟨h1, h2⟩ := A7 h
    refine hno ?_
    rw [Bm hx]
    exact .gint (Ba h1) h2 fun ρ H => rfl
  | .bin op x y, Γ, S, e, h, z => by
    refine bC fun hno => ?_
    obtain ⟨w, hw, h⟩ := Ad h
    obtain ⟨h1, h⟩ := A7 h
    obtain ⟨h2, h3⟩ := A7 h
    refine hno ?_
    rw [A5j hw, ← Ba h1]
    exact .bin (evD b x Γ S _ h2 z) (evD b y Γ S _ h3 z) fun ρ H => rfl
  | .neg x, Γ, S, e, h, z => by
    refine bC fun hno => ?_
    obtain ⟨v, p, rfl, h⟩ := Uw h
    refine hno ?_
    exact .neg (evD b x Γ S _ h z) fun ρ H => rfl
  | .not x, Γ, S, e, h, z => by
    refine bC fun hno => ?_
    obtain ⟨v, p, rfl, h⟩ := Uw h
    refine hno ?_
    exact .not (evD b x Γ S _ h z) fun ρ H => rfl
  | .cmp op x y, Γ, S, e, h, z => by
    refine bC fun hno => ?_
    obtain ⟨l, r, p, rfl, h1, h2, h3⟩ := Wk h
    refine hno ?_
    exact .cmp h1 (evD b x Γ S _ h2 z) (evD b y Γ S _ h3 z) fun ρ H => rfl
  | .cmp2 o1 o2 x y w, Γ, S, e, h, z => by
    refine bC fun hno => ?_
    obtain ⟨l, r1, r2, p, rfl, h3, h4, h5, h6⟩ := A0k h
    refine hno ?_
    exact .cmp2 h3 (evD b x Γ S _ h4 z) (evD b y Γ S _ h5 z) (evD b w Γ S _ h6 z) fun ρ H => rfl
  | .and es, Γ, S, e, h, z => by
    refine bC fun hno => ?_
    obtain ⟨vs, p, rfl, h⟩ := K8 h
    refine hno ?_
    exact .boolOp (Aa5 b es Γ S _ h z)
  | .or es, Γ, S, e, h, z => by
    refine bC fun hno => ?_
    obtain ⟨vs, p, rfl, h⟩ := K8 h
    refine hno ?_
    exact .boolOp (orD b es Γ S _ h z)
  | .ite c x y, Γ, S, e, h, z => by
    refine bC fun hno => ?_
    obtain ⟨w, hw, h⟩ := Ad h
    obtain ⟨h1, h⟩ := A7 h
    obtain ⟨h2, h3⟩ := A7 h
    refine hno ?_
    rw [A4m hw]
    exact .ite (trD b c Γ S _ h1 z) (evD b x Γ S _ h2 z) (evD b y Γ S _ h3 z) fun ρ H => rfl
  | .call k es, Γ, S, e, h, z => by
    refine bC fun hno => ?_
    have ho := (A7 h).1
    obtain ⟨f, np, e', r, pos, rfl, h1, h2, h4⟩ := Nf h
    refine hno ?_
    exact .userCall (hcf z) ho h1 h2 (C9 es _ h4) (esD b es Γ S _ h4 z) fun ρ H => rfl
  | .callv f es, Γ, S, e, h, z => by
    refine bC fun hno => ?_
    obtain ⟨hq, h⟩ := A7 h
    have hq := Cz hq
    obtain ⟨g, as, p, rfl, hk⟩ := Fx h
    clear h
    have h := hk
    obtain ⟨h1, h⟩ := A7 h
    obtain ⟨h2, h⟩ := A7 h
    obtain ⟨h3, h4⟩ := A7 h
    obtain ⟨e', r, rfl⟩ := Eo h4 h3
    obtain ⟨_, _, _, rfl⟩ := U3 h1
    refine hno ?_
    exact .callv (hcf z) (hok hq) hfn.1 (evD b f Γ S _ h2 z) (C9 es _ h4) (esD b es Γ S _ h4 z) fun ρ H => rfl
  | .prim p .nil, Γ, S, e, h, z => A7o h
  | .prim p (.cons x .nil), Γ, S, e, h, z => A7l hfn.2 h (fun e h => evD b x Γ S e h z) (fun vs h => esD b (.cons x .nil) Γ S vs h z)
  | .prim p (.cons x (.cons y r)), Γ, S, e, h, z => A76 hfn.2 h (fun vs h => esD b (.cons x (.cons y r)) Γ S vs h z)
  | .idx x i, Γ, S, e, h, z => by
    refine bC fun hno => ?_
    obtain ⟨w, hw, h⟩ := Ad h
    obtain ⟨h1, h⟩ := A7 h
    obtain ⟨h2, h3⟩ := A7 h
    refine hno ?_
    rw [Jn hw]
    exact .idx h1 (evD b x Γ S _ h2 z) (evD b i Γ S _ h3 z) fun ρ H => rfl
  | .slice x lo hi, Γ, S, e, h, z => by
    refine bC fun hno => ?_
    obtain ⟨w, hw, h⟩ := Ad h
    obtain ⟨y, hy, h⟩ := Ad h
    obtain ⟨h1, h⟩ := A7 h
    obtain ⟨h2, h⟩ := A7 h
    obtain ⟨h3, h4⟩ := A7 h
    refine hno ?_
    rw [Jn hw, A1g hy, Option.isNone_iff_eq_none.mp h1]
    exact .slice (evD b x Γ S _ h2 z) (Abd b lo Γ S _ h3 z) (Abd b hi Γ S _ h4 z) fun ρ H => rfl
  | .rev x, Γ, S, e, h, z => by
    refine bC fun hno => ?_
    obtain ⟨w, hw, h⟩ := Ad h
    obtain ⟨h1, h2⟩ := A7 h
    obtain ⟨a, c, p, q, hr⟩ := A0f h1
    refine hno ?_
    rw [Jn hw, hr]
    exact .rev (c := 0) (evD b x Γ S _ h2 z) fun ρ H => rfl
  | .list es, Γ, S, e, h, z => by
    refine bC fun hno => ?_
    obtain ⟨w, hw, h⟩ := Ad h
    refine hno ?_
    rw [Su hw]
    exact .mkList (esD b es Γ S _ h z) fun ρ H => rfl
  | .tuple es, Γ, S, e, h, z => by
    refine bC fun hno => ?_
    obtain ⟨w, hw, h⟩ := Ad h
    refine hno ?_
    rw [M8 hw]
    exact .mkTuple (esD b es Γ S _ h z) fun ρ H => rfl
  | .dict, Γ, S, e, h, z => by cases h
  | .comp1 el it c, Γ, S, e, h, z => by
    refine bC fun hno => ?_
    have hq := Cz (A7 h).1
    obtain ⟨h1, h2, h3, h4, h5, h6⟩ := Q3 h
    refine hno ?_
    exact .comp1 (Gk h1) h3 (by have := itD b hq it Γ S _ h4 z; rwa [h2] at this) (fun z' => coD b c _ _ _ h5 z') (fun z' => evD b el _ _ _ h6 z') fun ρ H => rfl
  | .comp2 el it, Γ, S, e, h, z => by
    refine bC fun hno => ?_
    have hq := Cz (A7 h).1
    obtain ⟨h1, h2, h3, h4, h6⟩ := Pf h
    refine hno ?_
    exact .comp2 hq (Gk h1) h2 h3 (itD b hq it Γ S _ h4 z) (fun z' => evD b el _ _ _ h6 z') fun ρ H => rfl
  | .append x y, Γ, S, e, h, z => by
    refine bC fun hno => ?_
    obtain ⟨f, as, p, rfl, hk⟩ := Fx h
    clear h
    have h := hk
    obtain ⟨t, ht, h⟩ := Ad h
    obtain ⟨v, hv, h⟩ := Ad h
    obtain ⟨h1, h⟩ := A7 h
    obtain ⟨h2, h⟩ := A7 h
    obtain ⟨h3, h⟩ := A7 h
    obtain ⟨h4, h⟩ := A7 h
    obtain ⟨h5, h6⟩ := A7 h
    have q1 : f = _ := Nx ht
    have q2 : as = _ := By hv
    subst q1; subst q2
    refine hno ?_
    rw [Ba h1]
    exact .append (Gj h3) h4 h2 (evD b x Γ S _ h5 z) (evD b y Γ S _ h6 z) fun ρ H => rfl
  | .count x y, Γ, S, e, h, z => by
    refine bC fun hno => ?_
    obtain ⟨f, as, p, rfl, hk⟩ := Fx h
    clear h
    have h := hk
    obtain ⟨t, ht, h⟩ := Ad h
    obtain ⟨v, hv, h⟩ := Ad h
    obtain ⟨h1, h⟩ := A7 h
    obtain ⟨h2, h⟩ := A7 h
    obtain ⟨h3, h⟩ := A7 h
    obtain ⟨h4, h⟩ := A7 h
    obtain ⟨h5, h6⟩ := A7 h
    have q1 : f = _ := Nx ht
    have q2 : as = _ := By hv
    subst q1; subst q2
    refine hno ?_
    rw [Ba h1]
    exact .count (Gj h3) h4 h2 (evD b x Γ S _ h5 z) (evD b y Γ S _ h6 z) fun ρ H => rfl
  | .sset x, Γ, S, e, h, z => by
    refine bC fun hno => ?_
    obtain ⟨hq, h⟩ := A7 h
    have hq := Cz hq
    obtain ⟨f, np, args, pos, rfl, h⟩ := Cr h
    obtain ⟨y, hy, h⟩ := Ad h
    obtain ⟨g, gp, as, p2, rfl, h⟩ := Cr h
    obtain ⟨x', hx, h⟩ := Ad h
    obtain ⟨h1, h⟩ := A7 h
    obtain ⟨h2, h⟩ := A7 h
    obtain ⟨h3, h⟩ := A7 h
    obtain ⟨h4, h⟩ := A7 h
    obtain ⟨h5, h6⟩ := A7 h
    have q : args = _ := By hy
    subst q
    have q2 : as = _ := By hx
    subst q2
    refine hno ?_
    exact .sset hq (strF := strF) (Ba h1) (Ba h3) h2 h4 h5 (evD b x Γ S _ h6 z) fun ρ H => rfl
  | .index x y, Γ, S, e, h, z => by
    refine bC fun hno => ?_
    obtain ⟨f, as, p, rfl, hk⟩ := Fx h
    clear h
    have h := hk
    obtain ⟨t, ht, h⟩ := Ad h
    obtain ⟨v, hv, h⟩ := Ad h
    obtain ⟨h1, h⟩ := A7 h
    obtain ⟨h2, h⟩ := A7 h
    obtain ⟨h3, h⟩ := A7 h
    obtain ⟨h4, h⟩ := A7 h
    obtain ⟨h5, h6⟩ := A7 h
    have q1 : f = _ := Nx ht
    have q2 : as = _ := By hv
    subst q1; subst q2
    refine hno ?_
    rw [Ba h1]
    exact .index (Gj h3) h4 h2 (evD b x Γ S _ h5 z) (evD b y Γ S _ h6 z) fun ρ H => rfl
theorem trD (b : Nat) : ∀ (pe : PE) (Γ : List Str) (S : Scope) (e : Expr), B1 T Γ S pe e = true → ∀ z, Gx (C.withZ z) T n b Γ S e (Bo strF cf C.sc b pe)
  | .not x, Γ, S, e, h, z => by
    obtain ⟨v, p, rfl, h⟩ := Uw h
    exact .not (trD b x Γ S _ h z) fun ρ H => rfl
  | .cmp op x y, Γ, S, e, h, z => by
    refine bC fun hno => ?_
    obtain ⟨l, r, p, rfl, h1, h2, h3⟩ := Wk h
    refine hno ?_
    exact .cmp h1 (evD b x Γ S _ h2 z) (evD b y Γ S _ h3 z) fun ρ H => rfl
  | .cmp2 _ _ _ _ _, Γ, S, e, h, z => .bad fun ρ H => rfl
  | .and es, Γ, S, e, h, z => by
    obtain ⟨vs, p, rfl, h⟩ := K8 h
    exact .boolOp (Aas b es Γ S _ h z)
  | .or es, Γ, S, e, h, z => by
    obtain ⟨vs, p, rfl, h⟩ := K8 h
    exact .boolOp (orT b es Γ S _ h z)
  | .var i, Γ, S, e, h, z => by
    obtain ⟨x, hx, h⟩ := Ad h
    obtain ⟨h1, h2⟩ := A7 h
    rw [Bm hx]
    refine .ofEv (fun _ _ => rfl) (Aj.var (d := Aa strF cf C.sc b (.var i)) (Ba h1) h2 fun ρ H => rfl) fun ρ H => ?_
    show (match ρ[i]? with | some (some (.bool v)) => Res.ok v H | _ => .bad) = (match ρ[i]? with | some (some v) => Res.ok v H | _ => Res.bad).get _
    cases e1 : ρ[i]? with
    | none => rfl
    | some o => cases o with
      | none => rfl
      | some v => cases v <;> rfl
  | .call k es, Γ, S, e, h, z => by
    have ho := (A7 h).1
    obtain ⟨f, np, e', r, pos, rfl, h1, h2, h4⟩ := Nf h
    exact .ofEv (fun _ _ => rfl) (Aj.userCall (d := Aa strF cf C.sc b (.call k es)) (hcf z) ho h1 h2 (C9 es _ h4) (esD b es Γ S _ h4 z) fun ρ H => rfl) fun ρ H => M7.symm
  | .prim p .nil, Γ, S, e, h, z => .ofEv (Km h) (A7o h) fun ρ H => M7.symm
  | .prim p (.cons x .nil), Γ, S, e, h, z => .ofEv (Km h) (A7l hfn.2 h (fun e h => evD b x Γ S e h z) (fun vs h => esD b (.cons x .nil) Γ S vs h z)) fun ρ H => M7.symm
  | .prim p (.cons x (.cons y r)), Γ, S, e, h, z => .ofEv (Km h) (A76 hfn.2 h (fun vs h => esD b (.cons x (.cons y r)) Γ S vs h z)) fun ρ H => M7.symm
  | .none, Γ, S, e, h, z => .bad fun ρ H => rfl
  | .bool v, Γ, S, e, h, z => .bad fun ρ H => rfl
  | .int v, Γ, S, e, h, z => .bad fun ρ H => rfl
  | .str v, Γ, S, e, h, z => .bad fun ρ H => rfl
  | .gfn v, Γ, S, e, h, z => .bad fun ρ H => rfl
  | .gint k v, Γ, S, e, h, z => .bad fun ρ H => rfl
  | .bin _ _ _, Γ, S, e, h, z => .bad fun ρ H => rfl
  | .neg _, Γ, S, e, h, z => .bad fun ρ H => rfl
  | .ite _ _ _, Γ, S, e, h, z => .bad fun ρ H => rfl
  | .callv _ _, Γ, S, e, h, z => .bad fun ρ H => rfl
  | .idx _ _, Γ, S, e, h, z => .bad fun ρ H => rfl
  | .sset _, Γ, S, e, h, z => .bad fun ρ H => rfl
  | .slice _ _ _, Γ, S, e, h, z => .bad fun ρ H => rfl
  | .rev _, Γ, S, e, h, z => .bad fun ρ H => rfl
  | .list _, Γ, S, e, h, z => .bad fun ρ H => rfl
  | .tuple _, Γ, S, e, h, z => .bad fun ρ H => rfl
  | .dict, Γ, S, e, h, z => by cases h
  | .comp1 _ _ _, Γ, S, e, h, z => .bad fun ρ H => rfl
  | .comp2 _ _, Γ, S, e, h, z => .bad fun ρ H => rfl
  | .append _ _, Γ, S, e, h, z => .bad fun ρ H => rfl
  | .count _ _, Γ, S, e, h, z => .bad fun ρ H => rfl
  | .index _ _, Γ, S, e, h, z => .bad fun ρ H => rfl
theorem Aa5 (b : Nat) : ∀ (es : PEs) (Γ : List Str) (S : Scope) (vs : List Expr), Bx T Γ S es vs = true → ∀ z, Ox (C.withZ z) T n b Γ S .And vs (En strF cf C.sc b es)
  | .nil, Γ, S, vs, h, z => ⟨fun _ _ _ _ ed _ => Er ed⟩
  | .cons x .nil, Γ, S, vs, h, z => by
    obtain ⟨e, r, rfl, h1, h2, h3⟩ := B8 h
    cases D4 h3
    exact .one (evD b x Γ S _ h2 z) fun ρ H => rfl
  | .cons x (.cons y es), Γ, S, vs, h, z => by
    obtain ⟨e, r, rfl, h1, h2, h3⟩ := B8 h
    obtain ⟨e', r', q, _⟩ := B8 h3
    rw [q] at h3 ⊢
    exact .andE (evD b x Γ S _ h2 z) (Aa5 b (.cons y es) Γ S _ h3 z) fun ρ H => rfl
theorem orD (b : Nat) : ∀ (es : PEs) (Γ : List Str) (S : Scope) (vs : List Expr), Bx T Γ S es vs = true → ∀ z, Ox (C.withZ z) T n b Γ S .Or vs (W3 strF cf C.sc b es)
  | .nil, Γ, S, vs, h, z => ⟨fun _ _ _ _ ed _ => Er ed⟩
  | .cons x .nil, Γ, S, vs, h, z => by
    obtain ⟨e, r, rfl, h1, h2, h3⟩ := B8 h
    cases D4 h3
    exact .one (evD b x Γ S _ h2 z) fun ρ H => rfl
  | .cons x (.cons y es), Γ, S, vs, h, z => by
    obtain ⟨e, r, rfl, h1, h2, h3⟩ := B8 h
    obtain ⟨e', r', q, _⟩ := B8 h3
    rw [q] at h3 ⊢
    exact .orE (evD b x Γ S _ h2 z) (orD b (.cons y es) Γ S _ h3 z) fun ρ H => rfl
theorem Aas (b : Nat) : ∀ (es : PEs) (Γ : List Str) (S : Scope) (vs : List Expr), Bx T Γ S es vs = true → ∀ z, Kq (C.withZ z) T n b Γ S .And vs (D9 strF cf C.sc b es)
  | .nil, Γ, S, vs, h, z => by cases D4 h; exact .nilA fun ρ H => rfl
  | .cons x es, Γ, S, vs, h, z => by
    obtain ⟨e, r, rfl, h1, h2, h3⟩ := B8 h
    exact .andE (trD b x Γ S _ h2 z) (Aas b es Γ S _ h3 z) fun ρ H => rfl
theorem orT (b : Nat) : ∀ (es : PEs) (Γ : List Str) (S : Scope) (vs : List Expr), Bx T Γ S es vs = true → ∀ z, Kq (C.withZ z) T n b Γ S .Or vs (Ek strF cf C.sc b es)
  | .nil, Γ, S, vs, h, z => by cases D4 h; exact .nilO fun ρ H => rfl
  | .cons x es, Γ, S, vs, h, z => by
    obtain ⟨e, r, rfl, h1, h2, h3⟩ := B8 h
    exact .orE (trD b x Γ S _ h2 z) (orT b es Γ S _ h3 z) fun ρ H => rfl
theorem esD (b : Nat) : ∀ (es : PEs) (Γ : List Str) (S : Scope) (vs : List Expr), Bx T Γ S es vs = true → ∀ z, Gy (C.withZ z) T n b Γ S vs (Bj strF cf C.sc b es)
  | .nil, Γ, S, vs, h, z => by cases D4 h; exact .nilE fun ρ H => rfl
  | .cons x es, Γ, S, vs, h, z => by
    obtain ⟨e, r, rfl, h1, h2, h3⟩ := B8 h
    exact .consE h1 (evD b x Γ S _ h2 z) (esD b es Γ S _ h3 z) fun ρ H => rfl
theorem Abd (b : Nat) : ∀ (o : PEo) (Γ : List Str) (S : Scope) (v : Option Expr), A8j T Γ S o v = true → ∀ z, Vs (C.withZ z) T n b Γ S v (Lw strF cf C.sc b o)
  | .none, Γ, S, v, h, z => by
    cases Option.isNone_iff_eq_none.mp h
    exact .no fun ρ H => rfl
  | .some x, Γ, S, v, h, z => by
    obtain ⟨e, rfl, h⟩ := Ad h
    exact .yes (evD b x Γ S _ h z) fun ρ H => rfl
theorem coD (b : Nat) : ∀ (o : PEo) (Γ : List Str) (S : Scope) (vs : List Expr), A85 T Γ S o vs = true → ∀ z, Td (C.withZ z) T n b Γ S vs (Tn strF cf C.sc b o)
  | .none, Γ, S, v, h, z => by
    cases Cw h
    exact .nil fun ρ H => rfl
  | .some x, Γ, S, v, h, z => by
    obtain ⟨e, he, h⟩ := Ad h
    rw [By he]
    exact .one (trD b x Γ S _ h z)
theorem itD (b : Nat) (hq : T.q = false) : ∀ (it : It) (Γ : List Str) (S : Scope) (e : Expr), Vo T Γ S it e = true → ∀ z, Iw (C.withZ z) T n b Γ S (Qw it) e (Dv strF cf C.sc b it)
  | .of x, Γ, S, e, h, z => .of hq (evD b x Γ S _ h z) fun ρ H => rfl
  | .range1 x, Γ, S, e, h, z => by
    refine bC fun hno => ?_
    have h : Dy e (fun f args => opt (Fm args) fun x' => f == ("range" : Str) && (Ao S f && (Am x' && B1 T Γ S x x'))) = true := h
    obtain ⟨f, np, args, pos, rfl, hk⟩ := Cr h
    clear h
    have h := hk
    obtain ⟨a, ha, h⟩ := Ad h
    obtain ⟨h1, h⟩ := A7 h
    obtain ⟨h2, h⟩ := A7 h
    obtain ⟨h3, h4⟩ := A7 h
    refine hno ?_
    rw [By ha]
    exact .range1 hq (by rw [Ba h1]; rfl) h2 h3 (evD b x Γ S _ h4 z) fun ρ H => rfl
  | .range2 x y, Γ, S, e, h, z => by
    refine bC fun hno => ?_
    have h : Dy e (fun f args => opt (Qz args) fun x' => f == ("range" : Str) && (Ao S f && (Am x'.1 && (Am x'.2 && (B1 T Γ S x x'.1 && B1 T Γ S y x'.2))))) = true := h
    obtain ⟨f, np, args, pos, rfl, hk⟩ := Cr h
    clear h
    have h := hk
    obtain ⟨a, ha, h⟩ := Ad h
    obtain ⟨h1, h⟩ := A7 h
    obtain ⟨h2, h⟩ := A7 h
    obtain ⟨h3, h⟩ := A7 h
    obtain ⟨h4, h⟩ := A7 h
    obtain ⟨h5, h6⟩ := A7 h
    refine hno ?_
    rw [Ig ha]
    exact .range2 hq (by rw [Ba h1]; rfl) h2 h3 h4 (evD b x Γ S _ h5 z) (evD b y Γ S _ h6 z) fun ρ H => rfl
end
end
end Mine
namespace Mine
open PySem PySem.Calls PyProof.Rows PySem.SeqAt
section
variable {C : Cx} {T : Tab} {n : Nat} {cf : Nat → List AV → A0 → Res AV} {strF : Bi}
variable (hok : T.q = false → ∀ k, T.okc k = true) (hcf : ∀ z, Cu (C.withZ z) T n cf) (hfn : (∀ k, ∃ x, T.fns.lookup k = some x ∨ ∀ vs H, cf k vs H = .bad) ∧ Kl strF)
include hok hcf hfn
theorem A5q (b : Nat) {i : Nat} {e : PE} {x : Str} {px pos : Pos} {v : Expr} {Γ : List Str} {S : Scope} (h1 : slot Γ x = some i) (h2 : B2 S x = true) (h3 : (Qs e || Gg v) = true)
    (h4 : B1 T Γ S e v = true) (z : Addr → Prop) : SOk (C.withZ z) T n b Γ S (.Assign [.Name x px] v pos) (Et strF cf C.sc b (.assign i e)) := by
  by_cases hc : Qs e = true
  · cases e with
    | comp1 el it c =>
      have hq := Cz (A7 h4).1
      obtain ⟨g1, g2, g3, g4, g5, g6⟩ := Q3 h4
      exact .assignC1 (C := C.withZ z) (d1 := Aa strF cf C.sc b (.comp1 el it c)) h1 h2 (Gk g1) g3 (by have := itD (strF := strF) hok hcf hfn b hq it Γ S _ g4 z; rwa [g2] at this) (fun z' => coD hok hcf hfn b c _ _ _ g5 z') (fun z' => evD hok hcf hfn b el _ _ _ g6 z')
        (fun ρ H => rfl) fun ρ H => rfl
    | comp2 el it =>
      have hq := Cz (A7 h4).1
      obtain ⟨g1, g2, g3, g4, g6⟩ := Pf h4
      exact .assignC2 hq (C := C.withZ z) (d1 := Aa strF cf C.sc b (.comp2 el it)) h1 h2 (Gk g1) g2 g3 (itD (strF := strF) hok hcf hfn b hq it Γ S _ g4 z) (fun z' => evD hok hcf hfn b el _ _ _ g6 z')
        (fun ρ H => rfl) fun ρ H => rfl
    | _ => cases hc
  · rw [Bool.not_eq_true] at hc
    rw [hc] at h3
    exact .assignN h1 h2 h3 (evD (strF := strF) hok hcf hfn b _ Γ S _ h4 z) fun ρ H => rfl
theorem A3w (b : Nat) {f : PE} {es : PEs} {Γ : List Str} {S : Scope} {e : Expr} (h : B1 T Γ S (.callv f es) e = true) (z : Addr → Prop) : XOk (C.withZ z) T n b Γ S e (Aa strF cf C.sc b (.callv f es)) := by
  refine bC fun hno => ?_
  obtain ⟨hq, h⟩ := A7 h
  have hq := Cz hq
  obtain ⟨g, as, p, rfl, hk⟩ := Fx h
  clear h
  have h := hk
  obtain ⟨h1, h⟩ := A7 h
  obtain ⟨h2, h⟩ := A7 h
  obtain ⟨h3, h4⟩ := A7 h
  obtain ⟨e', r, rfl⟩ := Eo h4 h3
  obtain ⟨_, _, _, rfl⟩ := U3 h1
  refine hno ?_
  exact .callv (hcf z) (hok hq) hfn.1 (evD hok hcf hfn b f Γ S _ h2 z) (C9 es _ h4) (esD hok hcf hfn b es Γ S _ h4 z) fun ρ H => rfl
theorem xD (b : Nat) : ∀ (pe : PE) (Γ : List Str) (S : Scope) (e : Expr), B1 T Γ S pe e = true → Kd pe = true → ∀ z, XOk (C.withZ z) T n b Γ S e (Aa strF cf C.sc b pe) := by
  intro pe Γ S e h hr z
  cases pe with
  | call k es =>
    have ho := (A7 h).1
    obtain ⟨f, np, e', r, pos, rfl, h1, h2, h4⟩ := Nf h
    exact .userCall (hcf z) ho h1 h2 (C9 es _ h4) (esD hok hcf hfn b es Γ S _ h4 z) fun ρ H => rfl
  | callv f es => exact A3w hok hcf hfn b h z
  | list es =>
    obtain ⟨w, hw, h⟩ := Ad h
    rw [Su hw]
    cases es with
    | nil => cases hr
    | cons x r =>
      cases r with
      | cons _ _ =>
        have hr : (R6 x && false) = true := hr
        cases (A7 hr).2
      | nil =>
        have hr : (R6 x && true) = true := hr
        have hr1 := (A7 hr).1
        cases x with
        | callv f es =>
          obtain ⟨v, r, q, g1, g2, g3⟩ := B8 h
          cases D4 g3
          rw [q]
          exact .list1 g1 (A3w hok hcf hfn b g2 z) fun ρ H => rfl
        | _ => cases hr1
  | _ => cases hr
theorem A6l {Γ : List Str} {S : Scope} {c : Nat} {i : Option Nat} {hd : ExceptHandler} (h : A9y T Γ S c i hd = true) : HdR T Γ S c i (U2 hd) hd := by
  obtain ⟨t, ht, h⟩ := Ad h
  obtain ⟨x, hx, h⟩ := Ad h
  obtain ⟨h1, h⟩ := A7 h
  obtain ⟨h2, h⟩ := A7 h
  obtain ⟨h3, h4⟩ := A7 h
  have e := A99 hd
  rw [ht, Bm hx] at e
  cases eb : U2 hd with
  | nil => rw [eb] at h3; cases h3
  | cons b₀ ss =>
    cases i with
    | none => cases h4
    | some j =>
      obtain ⟨nm, hn, h4⟩ := Ad h4
      obtain ⟨h5, h6⟩ := A7 h4
      rw [hn, eb] at e
      exact .as _ nm _ _ b₀ ss j (Ba h1) h2 rfl (Ba h5) (Ba h6) rfl e
variable (hqq : T.q = false → ∀ b ps Γ S ss, Ex T.quiet Γ S ps ss = true → ∀ z, Ff (C.withZ z) T.quiet n b Γ S ss (Ai strF cf C.sc b ps))
include hqq
mutual
theorem stD (b : Nat) : ∀ (ps : PS) (Γ : List Str) (S : Scope) (st : Stmt), Aaa T Γ S ps st = true → ∀ z, SOk (C.withZ z) T n b Γ S st (Et strF cf C.sc b ps)
  | .assign i e, Γ, S, st, h, z => by
    refine bC fun hno => ?_
    obtain ⟨x, hx, h⟩ := Ad h
    obtain ⟨t, ht, h⟩ := Ad h
    obtain ⟨v, hv, h⟩ := Ad h
    obtain ⟨h1, h⟩ := A7 h
    obtain ⟨h2, h⟩ := A7 h
    obtain ⟨h3, h4⟩ := A7 h
    refine hno ?_
    rw [R3 hx, By ht, Bm hv]
    exact A5q hok hcf hfn b (Ba h1) h2 h3 h4 z
  | .assigns is e, Γ, S, st, h, z => by
    refine bC fun hno => ?_
    obtain ⟨hq, h⟩ := A7 h
    have hq := Cz hq
    obtain ⟨x, hx, h⟩ := Ad h
    obtain ⟨t, ht, h⟩ := Ad h
    obtain ⟨ts, hts, h⟩ := Ad h
    obtain ⟨h1, h⟩ := A7 h
    obtain ⟨h2, h⟩ := A7 h
    obtain ⟨h3, h4⟩ := A7 h
    refine hno ?_
    rw [R3 hx, By ht, M8 hts]
    exact .assignT hq h2 h1 (evD hok hcf hfn b e Γ S _ h4 z) fun ρ H => rfl
  | .setIdx x i e, Γ, S, st, h, z => by
    refine bC fun hno => ?_
    obtain ⟨y, hy, h⟩ := Ad h
    obtain ⟨t, ht, h⟩ := Ad h
    obtain ⟨w, hw, h⟩ := Ad h
    obtain ⟨h1, h⟩ := A7 h
    obtain ⟨h2, h3⟩ := A7 h
    refine hno ?_
    rw [R3 hy, By ht, Jn hw]
    exact .setIdx (evD hok hcf hfn b e Γ S _ h3 z) (evD hok hcf hfn b x Γ S _ h1 z) (evD hok hcf hfn b i Γ S _ h2 z) fun ρ H => rfl
  | .ite c t e, Γ, S, st, h, z => by
    refine bC fun hno => ?_
    obtain ⟨x, hx, h⟩ := Ad h
    obtain ⟨h1, h⟩ := A7 h
    obtain ⟨h2, h3⟩ := A7 h
    refine hno ?_
    rw [A86 hx]
    exact .ite (trD hok hcf hfn b c Γ S _ h1 z) (ssD b t Γ S _ h2 z) (ssD b e Γ S _ h3 z) fun ρ H => rfl
  | .for1 i it body, Γ, S, st, h, z => by
    refine bC fun hno => ?_
    obtain ⟨hq, h⟩ := A7 h
    have hq := Cz hq
    obtain ⟨x, hx, h⟩ := Ad h
    obtain ⟨v, hv, h⟩ := Ad h
    obtain ⟨h0, h⟩ := A7 h
    obtain ⟨h1, h⟩ := A7 h
    obtain ⟨h2, h⟩ := A7 h
    obtain ⟨h3, h⟩ := A7 h
    obtain ⟨h4, h⟩ := A7 h
    obtain ⟨h5, h6⟩ := A7 h
    refine hno ?_
    rw [Wj hx, Bm hv, Cw h0]
    exact .for1 (Ba h1) h2 h4 (by have := itD (strF := strF) hok hcf hfn b hq it Γ S _ h5 z; rwa [h3] at this) (fun z' => ssD b body Γ S _ h6 z') fun ρ H => rfl
  | .for2 i j it body, Γ, S, st, h, z => by
    refine bC fun hno => ?_
    obtain ⟨hq, h⟩ := A7 h
    have hq := Cz hq
    obtain ⟨x, hx, h⟩ := Ad h
    obtain ⟨ts, hts, h⟩ := Ad h
    obtain ⟨t, ht, h⟩ := Ad h
    obtain ⟨v, hv, h⟩ := Ad h
    obtain ⟨w, hw, h⟩ := Ad h
    obtain ⟨h0, h⟩ := A7 h
    obtain ⟨h1, h⟩ := A7 h
    obtain ⟨h2, h⟩ := A7 h
    obtain ⟨h3, h⟩ := A7 h
    obtain ⟨h4, h⟩ := A7 h
    obtain ⟨h5, h⟩ := A7 h
    obtain ⟨h6, h7⟩ := A7 h
    refine hno ?_
    rw [Wj hx, M8 hts, Ig ht, Bm hv, Bm hw, Cw h0]
    exact .for2 hq (Ba h1) h2 (Ba h3) h4 h5 (itD (strF := strF) hok hcf hfn b hq it Γ S _ h6 z) (fun z' => ssD b body Γ S _ h7 z') fun ρ H => rfl
  | .whl c body, Γ, S, st, h, z => by
    refine bC fun hno => ?_
    obtain ⟨x, hx, h⟩ := Ad h
    obtain ⟨h0, h⟩ := A7 h
    obtain ⟨h1, h2⟩ := A7 h
    refine hno ?_
    rw [A8h hx, Cw h0]
    exact .whl (trD hok hcf hfn b c Γ S _ h1 z) (ssD b body Γ S _ h2 z) fun ρ H => rfl
  | .ret e, Γ, S, st, h, z => by
    refine bC fun hno => ?_
    obtain ⟨x, hx, h⟩ := Ad h
    obtain ⟨v, hv, h⟩ := Ad h
    refine hno ?_
    rw [Wb hx, hv]
    exact .ret (evD hok hcf hfn b e Γ S _ h z) (fun hr => xD hok hcf hfn b e Γ S _ h hr z) fun ρ H => rfl
  | .expr e, Γ, S, st, h, z => by
    refine bC fun hno => ?_
    obtain ⟨x, hx, h⟩ := Ad h
    obtain ⟨h1, h2⟩ := A7 h
    refine hno ?_
    rw [A94 hx]
    exact .expr h1 (evD hok hcf hfn b e Γ S _ h2 z) (fun hr => xD hok hcf hfn b e Γ S _ h2 hr z) fun ρ H => rfl
  | .raise c m, Γ, S, st, h, z => by
    refine bC fun hno => ?_
    obtain ⟨hq, h⟩ := A7 h
    have hq := Cz hq
    obtain ⟨x, hx, h⟩ := Ad h
    obtain ⟨h0, h⟩ := A7 h
    obtain ⟨v, hv, h⟩ := Ad h
    obtain ⟨f, np, args, pos, hvv, hk⟩ := Cr h
    clear h
    have h := hk
    obtain ⟨y, hy, h⟩ := Ad h
    obtain ⟨w, hw, h⟩ := Ad h
    obtain ⟨u, hu, h⟩ := Ad h
    obtain ⟨h1, h⟩ := A7 h
    obtain ⟨h2, h3⟩ := A7 h
    refine hno ?_
    rw [Zo hx, Option.isNone_iff_eq_none.mp h0, hv, hvv, By hy, E9 hw, W6 hu]
    exact .raise hq (Ba h1) h2 fun ρ H => rfl
  | .tryRet e c i hh, Γ, S, st, h, z => by
    refine bC fun hno => ?_
    obtain ⟨hq, h⟩ := A7 h
    have hq := Cz hq
    obtain ⟨x, hx, h⟩ := Ad h
    obtain ⟨h0, h⟩ := A7 h
    obtain ⟨h0', h⟩ := A7 h
    obtain ⟨st1, hst, h⟩ := Ad h
    obtain ⟨o, ho, h⟩ := Ad h
    obtain ⟨v, hv, h⟩ := Ad h
    obtain ⟨hd, hhd, h⟩ := Ad h
    obtain ⟨h1, h⟩ := A7 h
    obtain ⟨h2, h3⟩ := A7 h
    refine hno ?_
    rw [A4n hx, Cw h0, Cw h0', By hst, By hhd, Wb ho, hv]
    exact .tryRet (A6l hok hcf hfn h2) (evD hok hcf hfn b e Γ S _ h1 z) (fun hr => xD hok hcf hfn b e Γ S _ h1 hr z) (hqq hq b hh Γ S _ h3 z) fun ρ H => rfl
theorem ssD (b : Nat) : ∀ (ps : PSs) (Γ : List Str) (S : Scope) (ss : List Stmt), Ex T Γ S ps ss = true → ∀ z, Ff (C.withZ z) T n b Γ S ss (Ai strF cf C.sc b ps)
  | .nil, Γ, S, ss, h, z => by cases Cw h; exact .nilS fun ρ H => rfl
  | .any, Γ, S, ss, h, z => .badS fun ρ H => rfl
  | .cons s ss, Γ, S, [], h, z => by cases h
  | .cons s ss, Γ, S, st :: r, h, z => by
    obtain ⟨h1, h2⟩ := A7 h
    exact .consS (stD b s Γ S _ h1 z) (ssD b ss Γ S _ h2 z) fun ρ H => rfl
end
end
section
variable {C : Cx} {T : Tab} {strF : Bi}
theorem Xy (hsf : Kl strF) (hok : T.q = false → ∀ k, T.okc k = true) (hd : ∀ k f, T.defs.lookup k = some f → ∃ x, T.fns.lookup k = some x)
    (hqq : T.q = false → ∀ n b ps Γ S ss, Ex T.quiet Γ S ps ss = true → ∀ z, Ff (C.withZ z) T.quiet n b Γ S ss (Ai strF (Al strF (fun k => T.defs.lookup k) C.sc n) C.sc b ps)) :
    ∀ n, (∀ z, Cu (C.withZ z) T n (Al strF (fun k => T.defs.lookup k) C.sc n)) ∧ ∀ z, Zq (C.withZ z) T n strF (Al strF (fun k => T.defs.lookup k) C.sc n) := by
  have hfn : ∀ n k, ∃ x, T.fns.lookup k = some x ∨ ∀ vs H, Al strF (fun k => T.defs.lookup k) C.sc n k vs H = .bad := by
    intro n k
    cases e : T.defs.lookup k with
    | none =>
      refine ⟨"", .inr fun vs H => ?_⟩
      cases n with
      | zero => rfl
      | succ n => unfold Al; simp only [e]
    | some f => obtain ⟨x, hx⟩ := hd k f e; exact ⟨x, .inl hx⟩
  intro n
  induction n with
  | zero =>
    have h : ∀ z, Cu (C.withZ z) T 0 (Al strF (fun k => T.defs.lookup k) C.sc 0) := fun z => Cu.zero (C := C.withZ z)
    exact ⟨h, fun z => ⟨fun b {ps Γ S body} hb => ssD hok h ⟨hfn 0, hsf⟩ (fun q => hqq q 0) b _ _ _ _ hb z⟩⟩
  | succ n ih =>
    have h : ∀ z, Cu (C.withZ z) T (n + 1) (Al strF (fun k => T.defs.lookup k) C.sc (n + 1)) := fun z => Cu.step (C := C.withZ z) (ih.2 z)
    exact ⟨h, fun z => ⟨fun b {ps Γ S body} hb => ssD hok h ⟨hfn (n + 1), hsf⟩ (fun q => hqq q (n + 1)) b _ _ _ _ hb z⟩⟩
theorem Abl (hsf : Kl strF) (hok : T.q = false → ∀ k, T.okc k = true) (hd : ∀ k f, T.defs.lookup k = some f → ∃ x, T.fns.lookup k = some x) :
    ∀ n, (∀ z, Cu (C.withZ z) T n (Al strF (fun k => T.defs.lookup k) C.sc n)) ∧ ∀ z, Zq (C.withZ z) T n strF (Al strF (fun k => T.defs.lookup k) C.sc n) :=
  Xy hsf hok hd fun _ n b ps Γ S ss h z => ((Xy (T := T.quiet) (C := C) (strF := strF) hsf (fun q => by cases q) hd (fun q => by cases q) n).2 z).any b h
end
end Mine
namespace Mine
open PySem PySem.W PySem.Calls PyProof.Rows PySem.SeqAt
noncomputable def A0n (p : Program) (x : Str) (i : Int) : Bool := match valOf p x with
  | some (.int j) => i == j
  | _ => false
noncomputable def A93 (p : Program) (loose : List Str) (x : Str) : Bool := !(startupNames.contains x) && (!(loose.contains x) && (!(((recsOf p).map (·.name)).contains x) && (!(((litsOf p).map (·.1)).contains x) && !(((clssOf p loose).map (·.name)).contains x))))
noncomputable def Sk (p : Program) (T : Tab) (q : Nat × FnI) : Bool := match T.fns.lookup q.1 with
  | some x => (recsOf p).any fun d => d.name == x && Wp T q.2 d.params d.body d.scope
  | none => false
noncomputable def Xb (p : Program) (loose : List Str) (T : Tab) : Bool :=
  T.fns.all (fun q => (recsOf p).any fun d => d.name == q.2) && (T.defs.all (Sk p T) && (T.gints.all (fun q => A0n p q.2.1 q.2.2) && ((T.defs.all fun q => !T.qs.contains q.1 || Sk p T.quiet q) && Cy.all fun q => A93 p loose q.1)))
theorem Cf {α : Type} : ∀ {l : List (Nat × α)} {n : Nat} {c : α}, l.lookup n = some c → (n, c) ∈ l
  | (k, v) :: r, n, c, h => by
    rw [List.lookup_cons] at h
    cases hb : n == k with
    | true => rw [hb] at h; cases h; rw [beq_iff_eq.mp hb]; exact List.mem_cons_self
    | false => rw [hb] at h; exact List.mem_cons_of_mem _ (Cf h)
theorem A4z : ∀ p ∈ Cy, bootBuiltins p.1 = some p.2 ∧ p.1 ≠ "__name__" := by
  intro p hp
  simp only [Cy, List.mem_cons, List.not_mem_nil, or_false] at hp
  rcases hp with rfl | rfl | rfl | rfl | rfl | rfl | rfl | rfl | rfl | rfl | rfl | rfl | rfl | rfl | rfl | rfl <;> exact ⟨by rfl, by decide⟩
noncomputable def Jb (prog : Program) (w : World) (sa : Addr) (sc : List Int) (T : Tab) (os : OsState) (mg mb : Str → Option Value) : Cx :=
  { prog, w, sa, sc, os, mg, mb, z := fun _ => False, fa := fun k => (match T.fns.lookup k with | some x => (match mg x with | some (.ref a) => a | _ => 0) | none => 0), ea := fun k => (match T.excs.lookup k with | some x => (mg x).getD .none | none => .none), eo := fun k => ∃ x, T.excs.lookup k = some x }
theorem N7 {x : Str} {l : List Str} (h : (!(l.contains x)) = true) : x ∉ l := fun m => by
  have := List.contains_iff_mem.mpr m
  rw [Cz h] at this; cases this
theorem A96 {prog : Program} {w : World} {sa : Addr} {sc : List Int} {T : Tab} {os : OsState} {mean : ExcName → Option Value} {mg mb : Str → Option Value} {h : Heap} {p : Program} {loose : List Str} {svs : List Value} (TR : Top p loose mean mg mb h) (hK : Xb p loose T = true)
    (hL : h.IsList sa svs.toArray) (hI : IntsAre svs sc) (hlen : sc.length ≤ lim) (hTq : T.q = false) (hok : ∀ k, T.okc k = true) (exg : Tu (Jb prog w sa sc T os mg mb) T h) : Gnd (Jb prog w sa sc T os mg mb) T ⟨h, h, [], false, fun _ _ e => e⟩ := by
  refine bC fun hno => ?_
  obtain ⟨h1, hK⟩ := A7 hK
  obtain ⟨h2, hK⟩ := A7 hK
  obtain ⟨h3, hK⟩ := A7 hK
  obtain ⟨h4, h5⟩ := A7 hK
  have hrec : ∀ {d : DefRec}, d ∈ recsOf p → ∀ {k : Nat}, T.fns.lookup k = some d.name → ∃ o pm code doc, mg d.name = some (.ref ((Jb prog w sa sc T os mg mb).fa k)) ∧ h.get? ((Jb prog w sa sc T os mg mb).fa k) = some o ∧ o.data = .func (docDef d.name d.params d.body d.scope pm code doc) ∧ h.CodeRec code d.name := by
    intro d hd k e
    obtain ⟨a, o, pm, code, doc, q1, q2, q3, q4⟩ := TR.fn d hd
    have : (Jb prog w sa sc T os mg mb).fa k = a := by simp only [Jb, e, q1]
    rw [this]
    exact ⟨o, pm, code, doc, q1, q2, q3, q4⟩
  have hdef : ∀ {T' : Tab} {k : Nat} {f : FnI}, Sk p T' (k, f) = true → T'.fns = T.fns → A6n T' h ((Jb prog w sa sc T os mg mb).fa k) f := by
    intro T' k f q ef
    unfold Sk at q
    rw [ef] at q
    cases ex : T.fns.lookup k with
    | none => simp only [ex] at q; cases q
    | some x =>
      simp only [ex] at q
      obtain ⟨d, hd, q⟩ := List.any_eq_true.mp q
      obtain ⟨e1, e2⟩ := A7 q
      cases Ba e1
      obtain ⟨o, pm, code, doc, q1, q2, q3, q4⟩ := hrec hd ex
      exact ⟨o, _, d.body, q2, q3, rfl, rfl, rfl, rfl, rfl, q4, e2⟩
  refine hno ?_
  refine ⟨hTq.symm, fun _ => hok, ⟨⟨svs, hL, hI, hlen⟩⟩, TR.g, TR.b, ?_, ?_, ?_, exg, TR.nolimit, ?_, ?_⟩
  · intro x v e
    have hm := mem_of_lookup e
    obtain ⟨b1, b2⟩ := A4z _ hm
    refine ⟨?_, (TR.builtins x b2).trans b1⟩
    have q := List.all_eq_true.mp h5 _ hm
    obtain ⟨q1, q⟩ := A7 q
    obtain ⟨q2, q⟩ := A7 q
    obtain ⟨q3, q⟩ := A7 q
    obtain ⟨q4, q5⟩ := A7 q
    exact TR.free x (N7 q1) (N7 q2) (N7 q3) (N7 q4) (N7 q5)
  · intro k x e
    obtain ⟨d, hd, q⟩ := List.any_eq_true.mp (List.all_eq_true.mp h1 _ (Cf e))
    cases Ba q
    refine bC fun hno => ?_
    obtain ⟨o, pm, code, doc, q1, q2, q3, q4⟩ := hrec hd e
    refine hno ?_
    exact ⟨q1, o, _, q2, q3⟩
  · intro k x i e
    have q := List.all_eq_true.mp h3 _ (Cf e)
    unfold A0n at q
    split at q
    · rename_i j ej
      refine bC fun hno => ?_
      obtain ⟨v, q1, q2⟩ := TR.const x _ ej
      have := q2 h
      cases this
      have e' : i = j := Ba q
      refine hno ?_
      rw [e']
      exact ⟨_, q1⟩
    · cases q
  · intro k f e _
    exact hdef (List.all_eq_true.mp h2 _ (Cf e)) rfl
  · intro k f e hq
    have q := List.all_eq_true.mp h4 _ (Cf e)
    simp only [hq, Bool.not_true, Bool.false_or] at q
    exact hdef (T' := T.quiet) q rfl
theorem A2f {p : Program} {loose : List Str} {T : Tab} (hK : Xb p loose T = true) : ∀ k f, T.defs.lookup k = some f → ∃ x, T.fns.lookup k = some x := by
  refine bC fun hno => ?_
  obtain ⟨_, hK⟩ := A7 hK
  obtain ⟨h2, _⟩ := A7 hK
  refine hno ?_
  intro k f e
  have q := List.all_eq_true.mp h2 _ (Cf e)
  unfold Sk at q
  cases ex : T.fns.lookup k with
  | none => simp only [ex] at q; cases q
  | some x => exact ⟨x, rfl⟩
theorem A3e {prog : Program} {w : World} {sa fa : Addr} {sc : List Int} {T : Tab} {mean' : ExcName → Option Value} {mg mb : Str → Option Value} {s : Shared} {p : Program} {loose : List Str} {svs : List Value} {strF : Bi} {N klaw : Nat} {x : Str} {H' : A0} {A : Around}
    {c : ClaimW} {cl : Str → Option Addr} {mean : ExcName → Option Value} {args : List WData}
    (hsf : Kl strF) (TR : Top p loose mean' mg mb s.heap) (hK : Xb p loose T = true) (hL : s.heap.IsList sa svs.toArray) (hI : IntsAre svs sc) (hlen : sc.length ≤ 63) (hg : s.gens = #[]) (hTq : T.q = false) (hok : ∀ k, T.okc k = true) (exg : Tu (Jb prog w sa sc T s.os mg mb) T s.heap) (a : AOk ⟨s.heap, s.heap, [], false, fun _ _ e => e⟩ A (N + 1)) (hx : T.fns.lookup klaw = some x) (hmg : mg x = some (.ref fa))
    (ev : Al strF (fun k => T.defs.lookup k) sc (N + 1) klaw [.scr] [] = .ok (.bool true) H') (hn : ∀ cls, c.raises args cls = false) (hp : c.post args (.bool true) args = true) :
    wpAny (model prog w) A (call (.ref fa) [.ref sa] []) (fun v s' => GoodW c cl mean args s (.ok (.ret v)) s') (fun e s' => GoodW c cl mean args s (.error e) s') s := by
  have G := A96 (prog := prog) (w := w) (os := s.os) TR hK hL hI (Nat.le_trans hlen (by decide)) hTq hok exg
  have hfa : fa = (Jb prog w sa sc T s.os mg mb).fa klaw := by
    have := (G.fn hx).1
    have hmg' : (Jb prog w sa sc T s.os mg mb).mg x = some (.ref fa) := hmg
    rw [hmg'] at this
    cases this; rfl
  rw [hfa]
  have B := (Abl (C := Jb prog w sa sc T s.os mg mb) (T := T) (strF := strF) hsf (fun _ => hok) (A2f hK) N).2 (fun _ => False)
  refine T0 (C := Jb prog w sa sc T s.os mg mb) (base := ⟨s.heap, s.heap, [], false, fun _ _ e => e⟩) (μ := []) (H := []) B (hok _) rfl G ⟨rfl, .nil, fun e => by simp at e, fun e => by simp at e⟩ hg rfl (fun z => z.elim) trivial a (.cons .scr .nil) ?_
  rw [show Al strF (fun k => T.defs.lookup k) (Jb prog w sa sc T s.os mg mb).sc (N + 1) klaw [.scr] [] = .ok (.bool true) H' from ev]
  intro u s' μ' R V
  cases V
  refine ⟨.inl ⟨.bool true, _, [], rfl, hn, .bool true, hp, fun _ => ⟨.nil, by simp⟩⟩, fun b o e => ?_, R.os, R.gens⟩
  cases R.kp b o e with
  | same e' => exact e'
  | slot hz _ _ _ => rw [e] at hz; cases hz
end Mine
namespace Mine
open PySem PySem.W PySem.Calls PyProof.Rows PySem.SeqAt
noncomputable def A95 (h : Heap) (name : Str) : Bool := match h.clsAt mainGlobals name with
  | some (_, _, cd) => (h.nsMap cd.ns "__class__").isNone
  | none => false
noncomputable def Io (l : List (Nat × Str)) (k : Nat) : List Str := if k = 0 then [] else (match l.lookup 0 with | some x => [x] | none => [])
noncomputable def A3l (h : Heap) : Bool := (h.get? sysModules).isSome
theorem A8f {h : Heap} (e : A3l h = true) : SmF h := let ⟨o, ho⟩ := Option.isSome_iff_exists.mp e; ⟨o, ho⟩
noncomputable def Wh (l : List (Nat × Str)) (h : Heap) : Bool :=
  ((l.lookup 0).isSome && (h.isNs mainGlobals && A3l h)) && (l.all (fun p => h.ownExcOk p.2 (Io l p.1) [.type "ValueError", .type "Exception", .type "BaseException", .type "object"] "ValueError.__new__" && (h.quietOk p.2 && A95 h p.2)) &&
    l.all fun p => l.all fun q => p.1 == q.1 || !(h.nsMap mainGlobals p.2 == h.nsMap mainGlobals q.2))
noncomputable def A9r (l : List (Nat × Str)) (m : Str → Option Value) (k : Nat) : Value := match l.lookup k with | some x => (m x).getD .none | none => .none
structure Ju (l : List (Nat × Str)) (m : Str → Option Value) (h : Heap) : Prop where
  cls : ∀ {k : Nat} {x : Str}, l.lookup k = some x → ∃ Ck tl, m x = some (.ref Ck) ∧ R4 h Ck tl ∧ E2 h tl ∧ tl = (if k = 0 then E4 else A9r l m 0 :: E4)
  inj : ∀ {k j : Nat} {x y : Str}, l.lookup k = some x → l.lookup j = some y → m x = m y → k = j
  sm : SmF h
theorem A6k {h : Heap} {name : Str} {chain : List Str} (x : h.ownExcOk name chain E4 "ValueError.__new__" = true) (y : h.quietOk name = true) (z : A95 h name = true) :
    ∃ C, h.nsMap mainGlobals name = some (.ref C) ∧ R4 h C ((chain.map fun n => (h.nsMap mainGlobals n).getD .none) ++ E4) := by
  refine bC fun hno => ?_
  obtain ⟨C, N, nm, q, bs, hdct, sn, sub, ab, col, dd, k0, k1, k2, k3, k5, hb, hC, hN, hq⟩ := Heap.ownExcQ_of_ok x y
  refine hno ?_
  refine ⟨C, hb, N, nm, q, bs, hdct, sn, sub, ab, col, dd, k0, k1, k2, k3, k5, _, hC, hN, hq, ?_⟩
  unfold A95 at z
  cases hf : h.clsAt mainGlobals name with
  | none => rw [hf] at z; cases z
  | some w =>
    refine bC fun hno => ?_
    obtain ⟨C', o', cd'⟩ := w
    rw [hf] at z
    obtain ⟨hn', ho', hd'⟩ := Heap.clsAt_spec hf
    rw [hb] at hn'
    obtain rfl : C = C' := by injection hn' with q1; injection q1
    rw [hC] at ho'
    obtain rfl := Option.some.inj ho'
    obtain rfl : _ = cd' := by injection hd'
    refine hno ?_
    exact Option.isNone_iff_eq_none.mp z
theorem Vf {l : List (Nat × Str)} {h : Heap} (e : Wh l h = true) : ∃ m, h.Ns mainGlobals m ∧ Ju l m h := by
  refine bC fun hno => ?_
  obtain ⟨e1, e⟩ := A7 e
  obtain ⟨e0, e1⟩ := A7 e1
  obtain ⟨e1, es⟩ := A7 e1
  obtain ⟨x0, e0⟩ := Option.isSome_iff_exists.mp e0
  obtain ⟨e2, e3⟩ := A7 e
  refine hno ?_
  refine ⟨h.nsMap mainGlobals, .of_isNs e1, ?_⟩
  have one : ∀ {k : Nat} {x : Str}, l.lookup k = some x → ∃ C, h.nsMap mainGlobals x = some (.ref C) ∧ R4 h C (((Io l k).map fun n => (h.nsMap mainGlobals n).getD .none) ++ E4) := fun {k x} q => by
    obtain ⟨q1, q2⟩ := A7 (List.all_eq_true.mp e2 _ (Cf q))
    obtain ⟨q2, q3⟩ := A7 q2
    exact A6k q1 q2 q3
  refine ⟨fun {k x} q => ?_, fun {k j x y} q r s => ?_, A8f es⟩
  · refine bC fun hno => ?_
    obtain ⟨C, em, X⟩ := one q
    refine hno ?_
    refine ⟨C, _, em, X, ?_, ?_⟩
    · by_cases hk : k = 0
      · unfold Io; rw [if_pos hk]; exact .base
      · unfold Io
        rw [if_neg hk, e0]
        refine bC fun hno => ?_
        obtain ⟨C0, em0, X0⟩ := one e0
        unfold Io at X0
        rw [if_pos rfl] at X0
        refine hno ?_
        refine .own X0 ?_
        show [(h.nsMap mainGlobals x0).getD .none] ++ E4 = _
        rw [em0]; rfl
    · unfold Io A9r
      by_cases hk : k = 0
      · rw [if_pos hk, if_pos hk]; rfl
      · rw [if_neg hk, if_neg hk, e0]; rfl
  · have q1 := List.all_eq_true.mp (List.all_eq_true.mp e3 _ (Cf q)) _ (Cf r)
    rcases Bool.or_eq_true_iff.mp q1 with q2 | q2
    · exact Ba q2
    · have := Cz q2
      rw [show (h.nsMap mainGlobals (k, x).2 == h.nsMap mainGlobals (j, y).2) = true from beq_iff_eq.mpr s] at this
      cases this
theorem Ju.keeps {l : List (Nat × Str)} {m : Str → Option Value} {h h' : Heap} (x : Ju l m h) (k : ∀ b o, h.get? b = some o → h'.get? b = some o) : Ju l m h' :=
  ⟨fun q => let ⟨C, tl, e1, e2, e3, e4⟩ := x.cls q; ⟨C, tl, e1, e2.keeps k, e3.keeps k, e4⟩, x.inj, let ⟨o, h1⟩ := x.sm; ⟨o, k _ _ h1⟩⟩
noncomputable def Ew (l : List (Nat × Str)) : Hook :=
  ⟨Bool, fun s => Wh l s.heap, fun _ => true, fun _ h => ∃ m, h.Ns mainGlobals m ∧ Ju l m h, fun _ _ e => Vf e, fun _ _ _ x k => let ⟨m, n, y⟩ := x; ⟨m, n.keeps k, y.keeps k⟩⟩
theorem A82 {prog : Program} {w w' : World} {sa : Addr} {sc : List Int} {T : Tab} {os : OsState} {mg mb : Str → Option Value} {h : Heap} (g : h.Ns mainGlobals mg) (Y : (Ew T.excs).says w' h) (h0 : ∃ y, T.excs.lookup 0 = some y) : Tu (Jb prog w sa sc T os mg mb) T h := by
  refine bC fun hno => ?_
  obtain ⟨m, n, y⟩ := Y
  refine hno ?_
  cases A3v n g
  have ea : ∀ {k : Nat} {x : Str} {Ck : Addr}, T.excs.lookup k = some x → mg x = some (.ref Ck) → (Jb prog w sa sc T os mg mb).ea k = .ref Ck := fun {k x Ck} e1 e2 => by
    show (match T.excs.lookup k with | some x => (mg x).getD .none | none => .none) = _
    rw [e1]; show (mg x).getD .none = _; rw [e2]; rfl
  refine ⟨fun {k x} e => ?_, fun {k j x z} e1 e2 e3 => ?_, fun _ => h0, Iff.rfl, y.sm⟩
  · refine bC fun hno => ?_
    obtain ⟨C, tl, e1, e2, e3, e4⟩ := y.cls e
    refine hno ?_
    exact ⟨C, tl, e1, ea e e1, e2, e3, e4⟩
  · refine bC fun hno => ?_
    obtain ⟨C, _, q1, _⟩ := y.cls e1
    obtain ⟨C', _, q2, _⟩ := y.cls e2
    rw [ea e1 q1, ea e2 q2] at e3
    refine hno ?_
    exact y.inj e1 e2 (by rw [q1, q2, e3])
end Mine
namespace Mine
open PySem
noncomputable def tab : Tab := { fns := [(0, Str.ofString "is_among"), (1, Str.ofString "need_net"), (2, Str.ofString "labels_of"), (14, Str.ofString "left_out"), (16, Str.ofString "place_behind"), (17, Str.ofString "drawn"), (19, Str.ofString "first_row_for"), (20, Str.ofString "worth_of"), (21, Str.ofString "table_by"), (23, Str.ofString "tally_of"), (24, Str.ofString "tally"), (25, Str.ofString "is_hanging_of"), (29, Str.ofString "tally_with"), (30, Str.ofString "hanging_of"), (31, Str.ofString "number_of"), (5, Str.ofString "_law_cell_at"), (6, Str.ofString "_law_mixed"), (7, Str.ofString "_law_tree"), (8, Str.ofString "_law_net"), (9, Str.ofString "_law_whole"), (10, Str.ofString "_law_reached"), (54, Str.ofString "_law_is_hanging"), (62, Str.ofString "_law_names"), (66, Str.ofString "_law_told"), (67, Str.ofString "_law_first"), (68, Str.ofString "_law_numbered"), (56, Str.ofString "_law_truths"), (69, Str.ofString "law")], excs := [(0, Str.ofString "NetError"), (1, Str.ofString "BadNet"), (2, Str.ofString "BadTie"), (3, Str.ofString "SelfTie"), (4, Str.ofString "BadHanging"), (5, Str.ofString "BadNumber"), (6, Str.ofString "TooMany")], gints := [(0, Str.ofString "MOST_PLACES", 7), (1, Str.ofString "MOST_TIES", 16)], defs := [(0, V7), (1, A5b), (2, A4r), (5, P8), (6, Qn), (7, A60), (8, A52), (9, A47), (10, Pp), (14, Xl), (16, W5), (17, A29), (19, N8), (20, Q7), (21, Pe), (23, Y1), (24, A0m), (25, A1h), (29, A7a), (30, A7c), (31, A7g), (54, Xk), (56, A08), (62, A6u), (66, A74), (67, A3d), (68, A4e), (69, A0r)], qs := [62] }
noncomputable abbrev P (k : Nat) : Option FnI := tab.defs.lookup k
end Mine
noncomputable def Mine.vw : PySem.Program := PySem.W.view PySem.Challenge.pw_uf040038_09 [1, 2, 3, 4, 5, 6, 7, 9, 10, 11, 12, 13, 14, 15, 16, 18, 19, 21, 22, 23, 25, 27, 28, 29, 31, 32, 33, 34, 35, 36, 37, 38, 39, 40, 41, 42, 43]
open PySem PySem.W PyProof.Rows
set_option maxHeartbeats 8000000
theorem Mine.said0 : PySem.Challenge.rw_uf040038_09.wellSaid = true := by kernel_rfl
theorem Mine.left0 : LeftO PySem.Challenge.pw_uf040038_09 Mine.vw [] (fun s => xlAt Mine.vw [] s && recOk (RowW.records (OpenRow.toRowW PySem.Challenge.rw_uf040038_09.row)) s) (Hook.obs (Mine.Ew [(0, Str.ofString "NetError"), (1, Str.ofString "BadNet"), (2, Str.ofString "BadTie"), (3, Str.ofString "SelfTie"), (4, Str.ofString "BadHanging"), (5, Str.ofString "BadNumber"), (6, Str.ofString "TooMany")])) (Hook.val (Mine.Ew [(0, Str.ofString "NetError"), (1, Str.ofString "BadNet"), (2, Str.ofString "BadTie"), (3, Str.ofString "SelfTie"), (4, Str.ofString "BadHanging"), (5, Str.ofString "BadNumber"), (6, Str.ofString "TooMany")])) 6000 := by
  intro w; kernel_rfl
theorem Mine.row0 : Mine.Xb Mine.vw [] Mine.tab = true := by kernel_rfl
set_option maxHeartbeats 8000000 in
theorem PySem.Challenge.cw_uf040038_09_holds : PySem.Challenge.rw_uf040038_09.Holds := by
  w_on
  refine holds_law Mine.said0 fun said => ?_
  refine holds_open (q := Mine.vw) (loose := []) (Xt := fun s => xlAt Mine.vw [] s && recOk (RowW.records (OpenRow.toRowW PySem.Challenge.rw_uf040038_09.row)) s) (XP := XL Mine.vw []) (Yf := Hook.obs (Mine.Ew [(0, Str.ofString "NetError"), (1, Str.ofString "BadNet"), (2, Str.ofString "BadTie"), (3, Str.ofString "SelfTie"), (4, Str.ofString "BadHanging"), (5, Str.ofString "BadNumber"), (6, Str.ofString "TooMany")])) (Ya := Hook.val (Mine.Ew [(0, Str.ofString "NetError"), (1, Str.ofString "BadNet"), (2, Str.ofString "BadTie"), (3, Str.ofString "SelfTie"), (4, Str.ofString "BadHanging"), (5, Str.ofString "BadNumber"), (6, Str.ofString "TooMany")])) (YP := Hook.says (Mine.Ew [(0, Str.ofString "NetError"), (1, Str.ofString "BadNet"), (2, Str.ofString "BadTie"), (3, Str.ofString "SelfTie"), (4, Str.ofString "BadHanging"), (5, Str.ofString "BadNumber"), (6, Str.ofString "TooMany")])) (N := 6000) Mine.left0 (Hook.of (Mine.Ew [(0, Str.ofString "NetError"), (1, Str.ofString "BadNet"), (2, Str.ofString "BadTie"), (3, Str.ofString "SelfTie"), (4, Str.ofString "BadHanging"), (5, Str.ofString "BadNumber"), (6, Str.ofString "TooMany")])) (Hook.keeps (Mine.Ew [(0, Str.ofString "NetError"), (1, Str.ofString "BadNet"), (2, Str.ofString "BadTie"), (3, Str.ofString "SelfTie"), (4, Str.ofString "BadHanging"), (5, Str.ofString "BadNumber"), (6, Str.ofString "TooMany")])) (fun s e => xl_of s (Bool.and_eq_true_iff.mp e).1) XL.keeps (by rfl) (by rfl) (by rfl) (fun s e => recFacts_of (Bool.and_eq_true_iff.mp e).2) (by rfl) said (by decide +kernel) ⟨rfl, rfl, rfl, rfl, rfl, by decide +kernel⟩ ?hw ?hc
  case hw => w_witness2
  intro w s₀ s₁ mg mb G Y fa o pm cd doc dV kV ho hd hcd hD hmg hg args vals as hpre hlay hrd hwl hlo
  have TR := G.T
  wrow_args hpre hlay hrd hwl hlo
  rename_i sc hs hlay0 hL1 hr1 hl2 a4 a3 sa svs a0 hL ra w1 r0 hI hr hc hc2
  obtain ⟨v, H', ev, hv⟩ := Mine.Res.sat_ex (Mine.A9d (strF := fun _ => none) (sc := sc) (P := Mine.P) (m := 34) ⟨⟨⟨⟨rfl, rfl, rfl, rfl, rfl, rfl⟩, rfl, rfl, rfl, rfl, rfl, rfl, rfl, rfl⟩, rfl, rfl⟩, rfl, rfl, rfl, rfl, rfl, rfl, rfl, rfl, rfl, rfl, rfl, rfl⟩)
  subst hv
  exact wpAny_mono (Mine.A3e trivial (T := Mine.tab) (x := Str.ofString "law") TR Mine.row0 hL hI (by (first | lia | omega)) hg rfl (fun _ => rfl) (Mine.A82 (T := Mine.tab) TR.g Y ⟨_, rfl⟩) ⟨by decide, by decide, fun _ => rfl, rfl, rfl⟩ rfl hmg ev (fun _ => rfl) (by kernel_rfl)) (fun v s' g => GoodW.toG g) (fun e s' g => GoodW.toG g)

