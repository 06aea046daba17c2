import PyProof.Rows.All
import Wide.All
import Open.Line
import Wide.FinOn
import PySem.Challenge.RW_uf040038_15
set_option linter.unusedVariables false
set_option linter.unusedSimpArgs false
set_option linter.unusedSectionVars false
set_option maxRecDepth 100000
set_option maxHeartbeats 4000000
set_option Elab.async false
set_option genSizeOf false
namespace Mine
theorem bC {p : Prop} (h : ¬ p → False) : p := Classical.byContradiction h
theorem J6 {a b : Nat} (h : a < b) : (a : Int) < (b : Int) := Int.ofNat_lt.mpr h
theorem P0 {a b : Nat} (h : a ≤ b) : (a : Int) ≤ (b : Int) := Int.ofNat_le.mpr h
theorem Sr {a b : Nat} (h : (a : Int) < (b : Int)) : a < b := Int.ofNat_lt.mp h
theorem A8o {a b : Nat} (h : (a : Int) ≤ (b : Int)) : a ≤ b := Int.ofNat_le.mp h
theorem A5x {a b : Nat} (h : (a : Int) = (b : Int)) : a = b := Int.ofNat.inj h
theorem A68 {a b : Nat} (h : a = b) : (a : Int) = (b : Int) := congrArg _ h
theorem A0i {a b : Nat} (h : ¬ a = b) : ¬ (a : Int) = (b : Int) := fun e => h (Int.ofNat.inj e)
theorem Nv {a b c : Nat} (h : a = b) (h2 : b < c) : a < c := h ▸ h2
theorem Iv {a b c : Nat} (h : a < b) (h2 : b = c) : a < c := h2 ▸ h
theorem A0j {a b c : Nat} (h : a = b) (h2 : b ≤ c) : a ≤ c := h ▸ h2
theorem Aa0 {a b c : Nat} (h : a ≤ b) (h2 : b = c) : a ≤ c := h2 ▸ h
theorem Aai {a b : Nat} (h : ¬ a = b) : ¬ b = a := fun e => h e.symm
theorem Lk {a b : Nat} (h : a < b + 1) (h2 : ¬ a = b) : a < b := Nat.lt_of_le_of_ne (Nat.le_of_lt_succ h) h2
theorem oGe {a b : Nat} (h : ¬ a < b) : b ≤ a := Nat.le_of_not_lt h
theorem oGt {a b : Nat} (h : ¬ a ≤ b) : b < a := Nat.lt_of_not_le h
theorem Ut {a b : Nat} (h : b ≤ a) : ¬ a < b := Nat.not_lt_of_le h
theorem oNN (a : Nat) : (0 : Int) ≤ (a : Int) := Int.natCast_nonneg a
theorem oZl {p : Prop} {a : Nat} (h : a < 0) : p := absurd h (Nat.not_lt_zero a)
theorem A6r {a : Nat} (h : ¬ a = 0) : a - 1 + 1 = a := Nat.sub_add_cancel (Nat.pos_of_ne_zero h)
theorem A39 {a b : Nat} (h : a < b) : a - 1 < b := Nat.lt_of_le_of_lt (Nat.sub_le a 1) h
theorem V5 {a b c : Nat} (h : a ≤ b) : a - c ≤ b := Nat.le_trans (Nat.sub_le a c) h
theorem A6v {a b c : Nat} (h : a ≤ b) : a ≤ b + c := Nat.le_trans h (Nat.le_add_right b c)
theorem Aap {a b c : Nat} (h : a ≤ b) : a ≤ c + b := Nat.le_trans h (Nat.le_add_left b c)
theorem Abk {a b c : Nat} (h : a + c ≤ b) : a ≤ b := Nat.le_trans (Nat.le_add_right a c) h
theorem A2p {a b c : Nat} (h : c + a ≤ b) : a ≤ b := Nat.le_trans (Nat.le_add_left a c) h
theorem Lq (a : Nat) : ((a + 1 : Nat) : Int) - 1 = (a : Int) := by (first | lia | omega)
theorem Qm {a : Int} (h : 0 ≤ a) : a = (a.toNat : Int) := (Int.toNat_of_nonneg h).symm
theorem A6l (a b : Nat) : max (a : Int) (b : Int) = ((max a b : Nat) : Int) := (Nat.le_total a b).elim (fun q => (Int.max_eq_right (Int.ofNat_le.mpr q)).trans (congrArg Int.ofNat (Nat.max_eq_right q).symm)) fun q => (Int.max_eq_left (Int.ofNat_le.mpr q)).trans (congrArg Int.ofNat (Nat.max_eq_left q).symm)
theorem A9r (a b : Nat) : min (a : Int) (b : Int) = ((min a b : Nat) : Int) := (Nat.le_total a b).elim (fun q => (Int.min_eq_left (Int.ofNat_le.mpr q)).trans (congrArg Int.ofNat (Nat.min_eq_left q).symm)) fun q => (Int.min_eq_right (Int.ofNat_le.mpr q)).trans (congrArg Int.ofNat (Nat.min_eq_right q).symm)
theorem A8h {a : Nat} : ¬ a = a + 1 := fun e => Nat.succ_ne_self a e.symm
theorem Aby {a b : Int} (h : ¬ a < b) : b ≤ a := Int.not_lt.mp h
theorem Ab0 {a b : Int} (h : ¬ a ≤ b) : b < a := Int.not_le.mp h
theorem T7 {a b : Int} (h : b ≤ a) : ¬ a < b := Int.not_lt.mpr h
theorem Ac3 {p : Prop} {a b : Int} (h : a < b) (h2 : b ≤ a) : p := absurd h (Int.not_lt.mpr h2)
theorem A6q {a : Nat} : ¬ (a : Int) < 0 := Int.not_lt.mpr (Int.natCast_nonneg a)
theorem A9j {a b c : Int} (h : a = b) (h2 : b ≤ c) : a ≤ c := h ▸ h2
theorem Aas {a b c : Int} (h : a ≤ b) (h2 : b = c) : a ≤ c := h2 ▸ h
theorem oTN {a : Int} {b : Nat} (h : a = (b : Int)) : a.toNat = b := by rw [h]; rfl
theorem Aak {a : Int} {b : Nat} (h0 : 0 ≤ a) (h : a < (b : Int)) : a.toNat < b := (Int.toNat_lt h0).mpr h
theorem Ew {a b c : Nat} (h : a < b) (h2 : b < c) : a < c := Nat.lt_trans h h2
theorem Hi {a b : Nat} (h : a < b) : 0 < b := Nat.lt_of_le_of_lt (Nat.zero_le a) h
theorem Iy {a b : Nat} (h : a ≤ b) (h2 : ¬ b = a) : a < b := Nat.lt_of_le_of_ne h (fun e => h2 e.symm)
theorem Rn {a b : Nat} (h : a < b + 1) (h2 : ¬ b = a) : a < b := Nat.lt_of_le_of_ne (Nat.le_of_lt_succ h) (fun e => h2 e.symm)
theorem Ab4 {a b : Nat} (h : a < b + 1) (h2 : ¬ a < b) : a = b := Nat.le_antisymm (Nat.le_of_lt_succ h) (Nat.le_of_not_lt h2)
theorem Abz {a b : Nat} (h : a ≤ b) (h2 : ¬ a < b) : a = b := Nat.le_antisymm h (Nat.le_of_not_lt h2)
theorem A0b {a b c : Nat} (h : a = b) : a + c = b + c := congrArg (· + c) h
theorem Abc {a b : Nat} (h : ¬ a = b) : ¬ a + 1 = b + 1 := fun e => h (Nat.succ.inj e)
theorem Aav {a b c : Nat} (h : a ≤ b + c) : a - c ≤ b := Nat.sub_le_of_le_add h
theorem Ro {a b c : Nat} (h0 : 0 < b) (h : a < b + c) : a - c < b := (Nat.le_total c a).elim (fun q => (Nat.sub_lt_iff_lt_add q).mpr (Nat.add_comm b c ▸ h)) fun q => (Nat.sub_eq_zero_of_le q).symm ▸ h0
theorem Ry (a b : Nat) : a + 1 - (b + 1) = a - b := Nat.add_sub_add_right a 1 b
theorem A7i {a b : Nat} (h : b ≤ a) : (a : Int) - (b : Int) = ((a - b : Nat) : Int) := (Int.ofNat_sub h).symm
theorem A8p {a : Nat} (h : 0 < a) : (a : Int) - 1 = ((a - 1 : Nat) : Int) := (Int.ofNat_sub h).symm
theorem Y2 (a b : Nat) : min b a + (a - (b + 1)) ≤ a := by
  rcases Nat.le_total a b with q | q
  · rw [Nat.min_eq_right q, Nat.sub_eq_zero_of_le (Nat.le_succ_of_le q)]; exact Nat.le_refl _
  · rw [Nat.min_eq_left q]; exact Nat.le_trans (Nat.add_le_add_left (Nat.sub_le_sub_left (Nat.le_succ b) a) b) (Nat.le_of_eq (Nat.add_sub_of_le q))
theorem A4g (a b : Nat) : a - b + min b a = a := by
  rcases Nat.le_total a b with q | q
  · rw [Nat.min_eq_right q, Nat.sub_eq_zero_of_le q]; exact Nat.zero_add a
  · rw [Nat.min_eq_left q]; exact Nat.sub_add_cancel q
theorem Xh {a b : Nat} (h : a < b) : b = a + (b - a - 1) + 1 :=
  ((Nat.add_assoc a (b - a - 1) 1).trans ((congrArg (a + ·) (Nat.sub_add_cancel (Nat.sub_pos_of_lt h))).trans (Nat.add_sub_of_le (Nat.le_of_lt h)))).symm
theorem A5z {a b : Int} (h : a < b) : (b - a).toNat = (b - (a + 1)).toNat + 1 := by (first | lia | omega)
theorem oM3 {x0 x1 x2 x3 x4 : Nat} (h0 : ¬(x0 = x1 ∧ x2 = x3)) (h1 : ¬(x4 < x0 ∧ x4 < x2 ∧ (x0 < x1 ∨ x0 = x1 ∧ x2 < x3))) : ¬(x4 < x0 ∧ x4 < x2 ∧ (x0 < x1 ∨ x0 = x1 ∧ x2 < x3 + (1 : Nat))) := fun e => h1 ⟨e.1, e.2.1, e.2.2.imp id fun q => ⟨q.1, Lk q.2 fun r => h0 ⟨q.1, r⟩⟩⟩
theorem oM4 {x0 x1 x2 x3 x4 : Nat} (h0 : x0 < x1 ∧ x0 < x2 ∧ (x1 < x3 ∨ x1 = x3 ∧ x2 < x4)) : x0 < x1 ∧ x0 < x2 ∧ (x1 < x3 ∨ x1 = x3 ∧ x2 < x4 + (1 : Nat)) := ⟨h0.1, h0.2.1, h0.2.2.imp id fun q => ⟨q.1, Nat.lt_succ_of_lt q.2⟩⟩
theorem oM5 {x0 x1 x2 x3 : Nat} (h0 : x0 ≤ (16 : Nat)) (h1 : x1 < x0 - x2 + (1 : Nat)) (h2 : x3 < x1) : x2 + x3 < (100 : Nat) := Nat.lt_of_lt_of_le (Nat.add_lt_of_lt_sub' (Nat.lt_of_lt_of_le h2 (Nat.le_of_lt_succ h1))) (Nat.le_trans h0 (by decide))
theorem A7y {x0 x1 : Nat} (h0 : x0 ≠ x1) : min x0 x1 < max x0 x1 := (Nat.lt_or_gt_of_ne h0).elim (fun q => (Nat.min_eq_left (Nat.le_of_lt q)).symm ▸ (Nat.max_eq_right (Nat.le_of_lt q)).symm ▸ q) (fun q => (Nat.min_eq_right (Nat.le_of_lt q)).symm ▸ (Nat.max_eq_left (Nat.le_of_lt q)).symm ▸ q)
theorem Ab2 {x0 x1 x2 : Nat} (h0 : ¬x0 = x1) (h1 : x0 < x2 + (1 : Nat) ∧ x1 < x2 + (1 : Nat)) : x2 = x2 - (1 : Nat) + (1 : Nat) := (Nat.sub_add_cancel (Nat.pos_of_ne_zero fun e => h0 (by subst e; exact (Nat.lt_one_iff.mp h1.1).trans (Nat.lt_one_iff.mp h1.2).symm))).symm
theorem Abd {x0 x1 x2 : Nat} (h0 : x0 ≤ (16 : Nat)) (h1 : x1 < x0 - x2 + (1 : Nat)) : x1 ≤ (1000 : Nat) := Nat.le_trans (Nat.le_of_lt_succ h1) (Nat.le_trans (Nat.sub_le _ _) (Nat.le_trans h0 (by decide)))
theorem Ac2 {x0 x1 x2 : Nat} (h0 : x0 = x1 + (x2 + (1 : Nat)) + (1 : Nat)) : ¬x1 = x0 - (1 : Nat) := fun e => by subst h0; exact Nat.ne_of_lt (Nat.lt_add_of_pos_right (Nat.succ_pos _)) e
theorem Abs {x0 x1 x2 : Nat} (h0 : x0 = x1 + (x2 + (1 : Nat)) + (1 : Nat)) : x0 - (1 : Nat) ≠ x0 := fun e => by subst h0; exact Nat.ne_of_lt (Nat.lt_succ_self _) e
theorem Abm {x0 x1 x2 x3 : Nat} (h0 : x0 = x1 + (x2 + (1 : Nat)) + (1 : Nat)) (h1 : x0 < x3) : x0 - (1 : Nat) + (1 : Nat) < x3 := h0 ▸ h1
theorem Abu {x0 x1 x2 : Nat} (h0 : x0 = x1 + (x2 + (1 : Nat)) + (1 : Nat)) : x0 - (1 : Nat) + (1 : Nat) = x0 := Nat.sub_add_cancel (h0 ▸ Nat.succ_pos _)
theorem Abp {x0 x1 x2 : Nat} (h0 : ¬x0 = x1) (h1 : ¬x0 < x1) (h2 : x2 < x1) : ¬x2 = x0 - (1 : Nat) := fun e => Nat.not_lt_of_le (Nat.le_sub_of_add_le (Iy (oGe h1) h0)) (e ▸ h2)
theorem Abq {x0 x1 x2 x3 : Nat} (h0 : x0 + x1 = x2) (h1 : x3 ≤ x1) : x0 + x3 + (x1 - x3) = x2 := (Nat.add_assoc _ _ _).trans ((congrArg (x0 + ·) (Nat.add_sub_of_le h1)).trans h0)
theorem Abw {x0 x1 x2 x3 : Nat} (h0 : x0 ≤ x1) (h1 : x0 = max x2 x3) : min x2 x3 ≤ x1 := Nat.le_trans (Nat.le_trans (Nat.min_le_left _ _) (Nat.le_max_left _ _)) (h1 ▸ h0)
theorem Abg {x0 : Nat} {x1 : Int} (h0 : (↑x0 : Int) ≤ x1) : x1 = (↑(x0 + (x1 - (↑x0 : Int)).toNat) : Int) := ((congrArg ((x0 : Int) + ·) (Int.toNat_of_nonneg (Int.sub_nonneg_of_le h0))).trans ((Int.add_comm _ _).trans (Int.sub_add_cancel _ _))).symm
theorem Abb {x0 x1 : Int} (h0 : x0 ≤ x1) : x1 = x0 + (↑(x1 - x0).toNat : Int) := ((congrArg (x0 + ·) (Int.toNat_of_nonneg (Int.sub_nonneg_of_le h0))).trans ((Int.add_comm _ _).trans (Int.sub_add_cancel _ _))).symm
theorem Abt {x0 x1 x2 : Nat} (h0 : x0 ≤ x1) (h1 : x1 < x2) : x0 ≤ x1 ∧ x1 < x0 + (x2 - x0) := ⟨h0, (Nat.add_sub_of_le (Nat.le_trans h0 (Nat.le_of_lt h1))).symm ▸ h1⟩
theorem Abi {x0 x1 x2 x3 : Nat} (h0 : x0 ≤ x1) (h1 : x2 < x1 - x0 + (1 : Nat)) (h2 : x3 = x0 + x2) : x3 ≤ x1 := h2 ▸ Nat.le_trans (Nat.add_le_add_left (Nat.le_of_lt_succ h1) _) (Nat.le_of_eq (Nat.add_sub_of_le h0))
theorem Abj {x0 : Int} (h0 : (-1000 : Int) ≤ x0) (h1 : x0 ≤ (1000 : Int)) : x0.natAbs < (2000 : Nat) := by (first | lia | omega)
theorem Ac0 {x0 x1 x2 : Nat} (h0 : x0 = x1 + x2) : x1 ≤ x0 ∧ x0 < x1 + (x2 + (1 : Nat)) := ⟨h0 ▸ Nat.le_add_right _ _, Nat.lt_succ_of_le (Nat.le_of_eq h0)⟩
theorem Aba {x0 x1 : Nat} (h0 : x0 ≤ (7 : Nat)) (h1 : x0 = x1) : x1 < (64 : Nat) := h1 ▸ Nat.lt_of_le_of_lt h0 (by decide)
theorem A95 {x0 x1 : Nat}  : ((↑(x0 + x1) : Int) + (1 : Int) - (↑x0 : Int)).toNat = x1 + (1 : Nat) := (Int.toNat_sub (x0 + x1 + 1) x0).trans (Nat.add_sub_cancel_left x0 (x1 + 1))
theorem Aaj {x0 x1 x2 : Nat} (h0 : x0 < x1) (h1 : x2 = x1 - (1 : Nat)) : ¬x2 < x0 := h1 ▸ Nat.not_lt_of_le (Nat.le_sub_of_add_le h0)
theorem Aaw {x0 x1 x2 : Nat} (h0 : x0 ≤ (7 : Nat)) (h1 : x1 < x0) (h2 : x2 = x1) : x2 < (100 : Nat) := h2 ▸ Nat.lt_of_lt_of_le h1 (Nat.le_trans h0 (by decide))
theorem Ab6 {x0 x1 x2 x3 : Nat} (h0 : x0 < x1) (h1 : ¬x2 < x1) (h2 : x3 = x2 - (1 : Nat)) : x3 + (1 : Nat) = x2 := h2 ▸ Nat.sub_add_cancel (Hi (Nat.lt_of_lt_of_le h0 (oGe h1)))
theorem A97 {x0 x1 x2 : Nat} (h0 : x0 + (1 : Nat) < x1 + (1 : Nat)) (h1 : x2 < x0) : x0 - (1 : Nat) + (1 : Nat) < x1 := (Nat.sub_add_cancel (Hi h1)).symm ▸ Nat.lt_of_succ_lt_succ h0
theorem A9h {x0 : Int} (h0 : x0 = (-1 : Int)) : -x0 = (1 : Int) := h0 ▸ rfl
theorem Aae {x0 : Int} (h0 : x0 = (1 : Int)) : -x0 = (-1 : Int) := h0 ▸ rfl
theorem A9y {x0 x1 x2 x3 x4 : Nat} (h0 : x0 + x1 ≤ x2) (h1 : x3 ≤ x4) (h2 : x1 = (2 : Nat) * x4) : x0 + x3 + x4 ≤ x2 := Nat.le_trans (Nat.le_trans (Nat.add_le_add_right (Nat.add_le_add_left h1 _) _) (Nat.le_of_eq ((Nat.add_assoc _ _ _).trans (congrArg (x0 + ·) (h2.trans (Nat.two_mul _)).symm)))) h0
theorem A7l {x0 x1 x2 x3 : Int}  : x0 + x1 + (x2 + x3) = x0 + x2 + (x1 + x3) := (Int.add_assoc _ _ _).trans ((congrArg (x0 + ·) (Int.add_left_comm _ _ _)).trans (Int.add_assoc _ _ _).symm)
theorem Ab9 {x0 x1 : Int} {x2 : Nat} (h0 : x0 = x1 + (↑(x2 + (1 : Nat)) : Int)) : x1 + (1 : Int) ≤ x0 := h0 ▸ Int.add_le_add_left (P0 (Nat.succ_pos _)) _
theorem Aa7 {x0 x1 : Int} (h0 : x0 = x1 + (↑(0 : Nat) : Int)) : (x0 - x1).toNat = (0 : Nat) := h0 ▸ congrArg Int.toNat (Int.sub_eq_zero.mpr (Int.add_zero x1))
theorem A9m {x0 x1 : Int}  : x0 + (0 : Int) * x1 = x0 := (congrArg (x0 + ·) (Int.zero_mul _)).trans (Int.add_zero _)
theorem Aal {x0 x1 x2 : Int}  : x0 + (x1 + x2) = (1 : Int) * (x0 + x1) + x2 := (Int.add_assoc _ _ _).symm.trans (congrArg (· + x2) (Int.one_mul _).symm)
theorem Aa4 {x0 x1 : Int}  : (1 : Int) * x0 + x1 * (0 : Int) = x0 := (congrArg ((1 : Int) * x0 + ·) (Int.mul_zero _)).trans ((Int.add_zero _).trans (Int.one_mul _))
theorem oR0 : ∀ {x0 x1 : Nat}, x0 + (1 : Nat) ≤ (7 : Nat) → x1 = x0 → x1 ≤ (1000 : Nat) := by intros; (first | lia | omega)
theorem oR1 : ∀ {x0 x1 : Nat}, x0 < x1 → (↑x0 : Int) ≤ (↑x1 : Int) - (1 : Int) := by intros; (first | lia | omega)
theorem oR2 : ∀ {x0 x1 : Nat}, x0 + (1 : Nat) ≤ (7 : Nat) → x1 = x0 → x1 < (64 : Nat) := by intros; (first | lia | omega)
theorem oR3 : ∀ {x0 : Nat}, x0 < (64 : Nat) → x0 ≤ (1000 : Nat) := by intros; (first | lia | omega)
theorem oR6 {x0 x1 : Int} {x2 : Nat} (h : x0 = x1 + (↑(x2 + (1 : Nat)) : Int)) : x1 < x0 := h ▸ Int.lt_add_of_pos_right _ (Int.natCast_pos.mpr (Nat.succ_pos _))
theorem Abo : ∀ {x0 x1 x2 x3 x4 : Int}, x0 + x1 + x2 + x3 + x4 = x0 + (x1 + x2 + x3 + x4) := by intros; (first | lia | omega)
theorem Abf : ∀ {x0 x1 : Nat}, x0 ≤ (7 : Nat) → x1 ≤ x0 → x1 < (100 : Nat) := by intros; (first | lia | omega)
theorem Ac4 : ∀ {x0 x1 : Nat}, x0 ≤ (7 : Nat) → x0 = x1 → x1 ≤ (1000 : Nat) := by intros; (first | lia | omega)
theorem Aaf : ∀ {x0 x1 : Nat}, x0 ≤ (8 : Nat) → x1 < x0 → x1 + (1 : Nat) ≤ (1000 : Nat) := by intros; (first | lia | omega)
theorem Aa6 : ∀ {x0 x1 x2 : Nat}, x0 ≤ x1 → x1 ≤ (16 : Nat) → x2 = x0 → x2 ≤ (100 : Nat) := by intros; (first | lia | omega)
theorem Aa8 : ∀ {x0 x1 x2 : Nat}, x0 < x1 + (1 : Nat) → x2 = x1 → x0 ≤ x2 := by intros; (first | lia | omega)
theorem A9e : ∀ {x0 x1 : Nat}, x0 = x1 → (↑x0 : Int) = (↑(x1 + (1 : Nat)) : Int) - (1 : Int) := by intros; (first | lia | omega)
theorem Abn : ∀ {x0 x1 : Nat}, ¬x0 = x1 → (↑x0 : Int) ≠ (↑(x1 + (1 : Nat)) : Int) - (1 : Int) := by intros; (first | lia | omega)
theorem A9w : ∀ {x0 x1 x2 : Nat}, x0 - x1 - x2 - (1 : Nat) = x0 - (x1 + x2 + (1 : Nat)) := by intros; (first | lia | omega)
theorem Ab7 : ∀ {x0 x1 x2 : Nat}, x0 ≤ (16 : Nat) → x1 + (1 : Nat) + x2 = x0 → x1 < (100 : Nat) := by intros; (first | lia | omega)
theorem Abx : ∀ {x0 x1 x2 : Nat}, x0 ≤ (16 : Nat) → x1 < x0 → x2 ≤ x1 → x2 < (100 : Nat) := by intros; (first | lia | omega)
theorem Aa2 : ∀ {x0 : Nat}, x0 < (100 : Nat) → x0 + (1 : Nat) ≤ (1000 : Nat) := by intros; (first | lia | omega)
theorem A9k : ∀ {x0 x1 : Nat}, x0 + x1 = x1 → x0 = (0 : Nat) := by intros; (first | lia | omega)
theorem Abr : ∀ {x0 : Nat}, x0 + (1 : Nat) ≤ (7 : Nat) → (↑x0 : Int) ≤ (1000 : Int) := by intros; (first | lia | omega)
theorem A9l {a b : Int} (h : 0 < a + b) (h2 : ¬ 0 < a) : 0 < b := Int.lt_of_lt_of_le h (Int.le_trans (Int.add_le_add_right (Int.not_lt.mp h2) b) (Int.le_of_eq (Int.zero_add b)))
theorem Abv {lo mid hi f : Nat} (h : hi - lo < f + 1 + 1) (h2 : lo ≤ mid) : hi - (mid + 1) < f + 1 := Nat.lt_of_le_of_lt (Nat.sub_le_sub_right (Nat.sub_le_sub_left h2 hi) 1) (Ro (Nat.succ_pos f) h)
theorem Abh {lo mid hi f : Nat} (h : hi - lo < f + 1 + 1) (h2 : mid < hi) : mid - lo < f + 1 := by
  have h1 : mid - lo + 1 ≤ hi - lo ∨ mid - lo = 0 := (Nat.lt_or_ge lo mid).imp (fun q => Nat.sub_lt_sub_right (Nat.le_of_lt q) h2) Nat.sub_eq_zero_of_le
  rcases h1 with h1 | h1
  · exact Nat.lt_of_succ_lt_succ (Nat.lt_of_le_of_lt h1 h)
  · rw [h1]; exact Nat.succ_pos f
theorem oB1 {k : Int} {n N : Nat} (h : n < N) (h2 : -(n : Int) ≤ k) : -(N : Int) ≤ k := Int.le_trans (Int.neg_le_neg (Int.ofNat_le.mpr (Nat.le_of_lt h))) h2
theorem oB2 {k : Int} {n N j : Nat} (h : n < N) (hc : 0 ≤ k ∧ k < (n : Int) ∧ j = k.toNat ∨ k < 0 ∧ -(n : Int) ≤ k ∧ j = (k + (n : Int)).toNat) : -(N : Int) ≤ k ∧ k < (N : Int) :=
  hc.elim (fun q => ⟨Int.le_trans (Int.neg_nonpos_of_nonneg (Int.natCast_nonneg N)) q.1, Int.lt_trans q.2.1 (Int.ofNat_lt.mpr h)⟩) fun q => ⟨oB1 h q.2.1, Int.lt_of_lt_of_le q.1 (Int.natCast_nonneg N)⟩
theorem oB3 {k : Int} {n : Nat} (h : k < 0 ∧ -(n : Int) ≤ k) : 0 ≤ k + (n : Int) ∧ k + (n : Int) < (n : Int) :=
  ⟨Int.le_trans (Int.le_of_eq (Int.add_left_neg (n : Int)).symm) (Int.add_le_add_right h.2 n), Int.lt_of_lt_of_le (Int.add_lt_add_right h.1 n) (Int.le_of_eq (Int.zero_add _))⟩
theorem oAb {i : Int} {n : Nat} (h : i.natAbs < n) : -(n : Int) < i ∧ i < (n : Int) :=
  ⟨Int.neg_lt_of_neg_lt (Int.lt_of_le_of_lt Int.le_natAbs (Int.ofNat_lt.mpr ((Int.natAbs_neg i).symm ▸ h))), Int.lt_of_le_of_lt Int.le_natAbs (Int.ofNat_lt.mpr h)⟩
theorem oC0 {c : Int} {N : Nat} (h : c ≤ (N : Int)) : (c - 0).toNat ≤ N := Int.toNat_le.mpr (Int.le_trans (Int.le_of_eq (Int.sub_zero c)) h)
theorem A1f {a : Int} {n N : Nat} (h : a < (n : Int)) (hn : n < N) : a < (N : Int) := Int.lt_trans h (Int.ofNat_lt.mpr hn)
theorem Aac {a b : Nat} : max a b = 0 → a = 0 ∧ b = 0 := fun h => ⟨Nat.eq_zero_of_le_zero (h ▸ Nat.le_max_left a b), Nat.eq_zero_of_le_zero (h ▸ Nat.le_max_right a b)⟩
end Mine
namespace Mine
open PySem
inductive AV where
  | none
  | bool (b : Bool)
  | int (i : Int)
  | str (s : Str)
  | tup (vs : List AV)
  | ref (n : Nat)
  | scr
  | fn (k : Nat)
  | exc (c : Nat)
inductive Bw where
  | list (xs : List AV)
  | dict
abbrev A0 := List Bw
noncomputable def G0 (H : A0) (r : Nat) (xs : List AV) : Bool := match H[r]? with
  | some (.list ys) => @decide (ys = xs) (Classical.propDecidable _)
  | _ => false
inductive Res (α : Type) where
  | ok (a : α) (H : A0)
  | exc (c : Nat) (H : A0)
  | bad
noncomputable def Res.thn {α β : Type} (r : Res α) (f : α → A0 → Res β) : Res β := match r with
  | .ok a H => f a H
  | .exc c H => .exc c H
  | .bad => .bad
noncomputable def Res.get {α β : Type} (r : Res α) (f : α → A0 → Res β) : Res β := match r with
  | .ok a H => f a H
  | _ => .bad
abbrev A8 := List (Option AV)
inductive SR where
  | next (ρ : A8) (H : A0)
  | ret (v : AV) (H : A0)
  | exc (c : Nat) (H : A0)
  | bad
set_option genInjectivity false
inductive D9 where
  | len | list | listRange | tuple | sorted | sortedSet | min2 | max2 | min1 | max1 | sum | all | int | sortedP
  | isInt | isBool | isList | isTuple | isExc (c : Nat) | isValueError
mutual
inductive PE where
  | none | bool (b : Bool) | int (i : Int) | str (s : Str)
  | var (i : Nat)
  | gint (k : Nat) (i : Int)
  | bin (op : Operator) (a b : PE)
  | neg (a : PE)
  | not (a : PE)
  | cmp (op : CmpOp) (a b : PE)
  | cmp2 (o1 o2 : CmpOp) (a b c : PE)
  | and (es : PEs) | or (es : PEs)
  | ite (c a b : PE)
  | call (k : Nat) (es : PEs)
  | prim (p : D9) (es : PEs)
  | idx (a i : PE)
  | slice (a : PE) (lo hi : PEo)
  | list (es : PEs) | tuple (es : PEs) | dict
  | comp1 (elt : PE) (it : It) (cond : PEo)
  | comp2 (elt : PE) (it : It)
  | append (a e : PE)
  | sset (a : PE)
inductive PEs where
  | nil | cons (e : PE) (es : PEs)
inductive PEo where
  | none | some (e : PE)
inductive It where
  | of (e : PE)
  | range1 (n : PE)
  | range2 (a b : PE)
  | zip (a b : PE)
end
mutual
inductive PS where
  | assign (i : Nat) (e : PE)
  | assigns (is : List Nat) (e : PE)
  | setIdx (a i e : PE)
  | ite (c : PE) (t e : PSs)
  | for1 (i : Nat) (it : It) (body : PSs)
  | for2 (i j : Nat) (it : It) (body : PSs)
  | whl (c : PE) (body : PSs)
  | ret (e : PE)
  | expr (e : PE)
  | raise (c : Nat) (msg : Str)
  | tryExpr (e : PE) (c : Nat) (i : Option Nat) (h : PSs)
inductive PSs where
  | nil | any | cons (s : PS) (ss : PSs)
end
noncomputable def Ki : PE → Bool
  | .call .. => true
  | _ => false
noncomputable def Fc (r : SR) : SR := match r with
  | .ret v H => .ret v H
  | _ => .bad
noncomputable def Sn (t : Bool) (c : Nat) (H : A0) : SR := if t then .exc c H else .bad
structure FnI where
  np : Nat
  nv : Nat
  body : PSs
noncomputable def lim : Nat := 2 ^ 20
noncomputable def big : Nat := 2 ^ 5000
noncomputable def Oo (i : Int) : Bool := decide (i.natAbs < 2 ^ 60)
noncomputable def E8 (a b : Int) : Bool := Oo a || Oo b || (decide (a.natAbs < big) && decide (b.natAbs < big))
noncomputable def B7 (xs : List AV) (H : A0) : Res AV := if xs.length ≤ lim then .ok (.ref H.length) (H ++ [.list xs]) else .bad
noncomputable def Ot (vs : List AV) (H : A0) : Res AV := if vs.length ≤ lim then .ok (.tup vs) H else .bad
noncomputable def Cj : AV → Option Int
  | .int i => some i
  | _ => none
noncomputable def Ac1 : AV → Option Nat
  | .ref r => some r
  | _ => none
noncomputable def A2w : Bw → Option (List AV)
  | .list xs => some xs
  | .dict => none
noncomputable def Dd {α : Type} (no : α) (x y : AV) (f : Int → Int → α) : α := ((Cj x).bind fun a => (Cj y).map fun b => f a b).getD no
noncomputable def Fp (H : A0) (x : AV) : Option (List AV) := (Ac1 x).bind fun r => (H[r]?).bind A2w
noncomputable def Rc (x y : AV) (H : A0) : Res AV := ((Fp H x).bind fun xs => (Fp H y).map fun ys => B7 (xs ++ ys) H).getD .bad
noncomputable def Bg (op : Operator) (x y : AV) (H : A0) : Res AV := match op with
  | .Add => if (Cj x).isSome then Dd .bad x y fun a b => .ok (.int (a + b)) H else Rc x y H
  | .Sub => Dd .bad x y fun a b => .ok (.int (a - b)) H
  | .Mult => if (Cj x).isSome then Dd .bad x y fun a b => if E8 a b then .ok (.int (a * b)) H else .bad else .bad
  | .FloorDiv => Dd .bad x y fun a b => if b ≠ 0 ∧ b.natAbs < big then .ok (.int (a.fdiv b)) H else .bad
  | .Mod => Dd .bad x y fun a b => if b ≠ 0 then .ok (.int (a.fmod b)) H else .bad
  | _ => .bad
noncomputable def Y6 : AV → Option Bool
  | .bool i => some i
  | _ => none
noncomputable def Bc : List AV → Option (List Int)
  | [] => some []
  | x :: r => (Cj x).bind fun i => (Bc r).map (i :: ·)
noncomputable def Du : List AV → Option (List Bool)
  | [] => some []
  | x :: r => (Y6 x).bind fun i => (Du r).map (i :: ·)
noncomputable def A1v : AV → Option PyData
  | .none => some .none
  | .bool b => some (.bool b)
  | .int i => some (.int i)
  | .str s => if PyData.strOk s then some (.str s) else none
  | _ => none
noncomputable def rd (H : A0) : Nat → AV → Option PyData
  | 0, v => A1v v
  | n + 1, v => (match v with
    | .tup vs => (vs.mapM (rd H n)).map .tuple
    | .ref r => (match H[r]? with
      | some (.list xs) => (xs.mapM (rd H n)).map .list
      | _ => none)
    | v => A1v v)
noncomputable def Kq (x y : AV) (H : A0) : Option Bool := match rd H 8 x, rd H 8 y with
  | some d, some e => some (PyData.eqv d e)
  | _, _ => none
noncomputable def Rw : AV → Option Bool
  | .none => some true
  | .int _ => some false
  | .bool _ => some false
  | .ref _ => some false
  | _ => none
noncomputable def Pf (x y : AV) (H : A0) : Option Bool := match x, y with
  | .int i, .ref r => (match H[r]? with
      | some (.list xs) => (Bc xs).map fun is => decide (i ∈ is)
      | _ => none)
  | _, _ => none
noncomputable def eqV (x y : AV) (H : A0) : Option Bool := if (Cj x).isSome ∧ (Cj y).isSome then Dd none x y fun a b => some (a == b) else Kq x y H
noncomputable def neV (x y : AV) (H : A0) : Option Bool := if (Cj x).isSome ∧ (Cj y).isSome then Dd none x y fun a b => some (!(a == b)) else (Kq x y H).map (!·)
noncomputable def ltL : List Int → List Int → Bool
  | [], [] => false
  | [], _ :: _ => true
  | _ :: _, [] => false
  | x :: xs, y :: ys => if x = y then ltL xs ys else decide (x < y)
noncomputable def A1w (x y : AV) (H : A0) : Option Bool := ((Fp H x).bind Bc).bind fun is => ((Fp H y).bind Bc).map fun js => ltL is js
noncomputable def B4 (op : CmpOp) (x y : AV) (H : A0) : Option Bool := match op with
  | .Lt => if (Cj x).isSome then Dd none x y fun a b => some (decide (a < b)) else A1w x y H
  | .LtE => Dd none x y fun a b => some (decide (a ≤ b))
  | .Gt => Dd none x y fun a b => some (decide (b < a))
  | .Eq => eqV x y H
  | .NotEq => neV x y H
  | .In => Pf x y H
  | .NotIn => (Pf x y H).map (!·)
  | .Is => (match y with | .none => Rw x | _ => none)
  | _ => none
noncomputable def C9 (x : Int) : List Int → List Int
  | [] => [x]
  | y :: r => if x ≤ y then x :: y :: r else y :: C9 x r
noncomputable def C7 : List Int → List Int
  | [] => []
  | x :: r => C9 x (C7 r)
noncomputable def B6 : List Int → List Int
  | [] => []
  | x :: r => match B6 r with
    | [] => [x]
    | y :: r' => if x = y then y :: r' else x :: y :: r'
noncomputable def items (v : AV) (H : A0) : Option (List AV) := match v with
  | .tup vs => some vs
  | .ref r => (match H[r]? with
      | some (.list xs) => some xs
      | _ => none)
  | _ => none
noncomputable def inR (i : Int) : Bool := decide (-1000 ≤ i ∧ i ≤ 1000)
noncomputable def B1 (a b : Int) : List AV := (List.range (b - a).toNat).map fun (k : Nat) => AV.int (a + (k : Int))
noncomputable def at? (n : Nat) (i : Int) : Option Nat := if 0 ≤ i ∧ i < n then some i.toNat else if i < 0 ∧ -(n : Int) ≤ i then some (i + n).toNat else none
noncomputable def Bx (sc : List Int) (v w : AV) (H : A0) : Res AV := match w with
  | .int k => (match v with
    | .scr => if 0 ≤ k ∧ k < sc.length then .ok (.int (sc.getD k.toNat 0)) H else .bad
    | v => (match items v H with
      | some xs => (match at? xs.length k with
        | some j => (match xs[j]? with | some x => .ok x H | none => .bad)
        | none => .bad)
      | none => .bad))
  | _ => .bad
noncomputable def cutAt (n : Nat) (i : Int) : Nat := (max 0 (min (if i < 0 then i + n else i) n)).toNat
noncomputable def cut (xs : List AV) (lo hi : Option Int) : List AV :=
  let a := match lo with | some i => cutAt xs.length i | none => 0
  let b := match hi with | some i => cutAt xs.length i | none => xs.length
  (xs.take b).drop a
noncomputable def Fm (o : Option Bool) (H : A0) : Res AV := match o with
  | some t => .ok (.bool t) H
  | none => .bad
noncomputable def N6 : AV → Option Bool
  | .int _ => some true
  | .bool _ => some true
  | .none => some false
  | .str _ => some false
  | .tup _ => some false
  | .ref _ => some false
  | _ => none
noncomputable def M3 : AV → Option Bool
  | .int _ => some false
  | .bool _ => some true
  | .none => some false
  | .str _ => some false
  | .tup _ => some false
  | .ref _ => some false
  | _ => none
noncomputable def K6 : AV → Option Bool
  | .int _ => some false
  | .bool _ => some false
  | .none => some false
  | .str _ => some false
  | .tup _ => some true
  | .ref _ => some false
  | _ => none
noncomputable def Gm (v : AV) (H : A0) : Option Bool := match v with
  | .int _ => some false
  | .bool _ => some false
  | .none => some false
  | .str _ => some false
  | .tup _ => some false
  | .ref r => (match H[r]? with
    | some (.list _) => some true
    | some .dict => some false
    | none => none)
  | _ => none
noncomputable def Mt : AV → Option (Int × Int)
  | .tup vs => (match vs with
    | [x, y] => (Cj x).bind fun i => (Cj y).map fun j => (i, j)
    | _ => none)
  | _ => none
noncomputable def Aa1 (p : Int × Int) : AV := .tup [.int p.1, .int p.2]
noncomputable def Xp : List AV → Option (List (Int × Int))
  | [] => some []
  | x :: r => (Mt x).bind fun p => (Xp r).map (p :: ·)
abbrev Bi := List (Int × Int) → Option (List (Int × Int))
variable (strF : Bi)
noncomputable def A7e (sc : List Int) (p : D9) (v : AV) (H : A0) : Res AV := match p with
  | .len => (match v with
    | .scr => .ok (.int sc.length) H
    | v => (match items v H with | some xs => .ok (.int xs.length) H | none => .bad))
  | .list => (match items v H with | some xs => B7 xs H | none => .bad)
  | .listRange => (match v with
    | .int n => if inR n then B7 (B1 0 n) H else .bad
    | _ => .bad)
  | .tuple => (match items v H with | some xs => .ok (.tup xs) H | none => .bad)
  | .sorted => (match v with
    | .ref r => (match H[r]? with
      | some (.list xs) => if xs.length < 64 then (match Bc xs with
          | some is => B7 ((C7 is).map .int) H
          | none => .bad) else .bad
      | _ => .bad)
    | _ => .bad)
  | .sortedSet => (match v with
    | .ref r => (match H[r]? with
      | some (.list xs) => if xs.length < 64 then (match Bc xs with
          | some is => B7 ((B6 (C7 is)).map .int) H
          | none => .bad) else .bad
      | _ => .bad)
    | _ => .bad)
  | .min1 => (match Mt v with | some p => .ok (.int (min p.1 p.2)) H | none => .bad)
  | .max1 => (match Mt v with
      | some p => .ok (.int (max p.1 p.2)) H
      | none => (match v with
        | .ref r => (match H[r]? with
          | some (.list xs) => (match Bc xs with
              | some (i :: is) => .ok (.int (is.foldl max i)) H
              | _ => .bad)
          | _ => .bad)
        | _ => .bad))
  | .sum => (match v with
    | .ref r => (match H[r]? with
      | some (.list xs) => (match Bc xs with
          | some is => .ok (.int is.sum) H
          | none => .bad)
      | _ => .bad)
    | _ => .bad)
  | .all => (match v with
    | .ref r => (match H[r]? with
      | some (.list xs) => (match Du xs with
          | some bs => .ok (.bool (bs.all id)) H
          | none => .bad)
      | _ => .bad)
    | _ => .bad)
  | .int => (match v with | .bool b => .ok (.int (if b then 1 else 0)) H | _ => .bad)
  | .sortedP => (((Fp H v).bind Xp).bind fun ps => (strF ps).map fun qs => if ps.length < 64 then B7 (qs.map Aa1) H else .bad).getD .bad
  | .isInt => Fm (N6 v) H
  | .isBool => Fm (M3 v) H
  | .isList => Fm (Gm v H) H
  | .isTuple => Fm (K6 v) H
  | .isExc c => (match v with | .exc d => .ok (.bool (decide (d = c) || decide (c = 0))) H | _ => .bad)
  | .isValueError => (match v with | .exc _ => .ok (.bool true) H | _ => .bad)
  | _ => .bad
noncomputable def A70 (p : D9) (v w : AV) (H : A0) : Res AV := match p with
  | .min2 => Dd .bad v w fun a b => .ok (.int (min a b)) H
  | .max2 => Dd .bad v w fun a b => .ok (.int (max a b)) H
  | _ => .bad
noncomputable def prim (sc : List Int) (p : D9) (vs : List AV) (H : A0) : Res AV := match vs with
  | [] => .bad
  | x :: r => (match r with
    | [] => A7e strF sc p x H
    | y :: r => (match r with
      | [] => A70 p x y H
      | _ :: _ => .bad))
noncomputable def Ed (ws : List (Nat × List AV)) (step : AV → A8 → A0 → SR) : List AV → A8 → A0 → SR
  | [], ρ, H => .next ρ H
  | v :: vs, ρ, H => match step v ρ H with
    | .next ρ' H' => if ws.all (fun w => G0 H' w.1 w.2) then Ed ws step vs ρ' H' else .bad
    | r => r
noncomputable def Wx (o : Option AV) (r : List AV) : List AV := match o with
  | some x => x :: r
  | none => r
noncomputable def Bh (ws : List (Nat × List AV)) (step : AV → A0 → Res (Option AV)) : List AV → A0 → Res (List AV)
  | [], H => .ok [] H
  | v :: vs, H => (step v H).get fun o H' => if ws.all (fun w => G0 H' w.1 w.2) then (Bh ws step vs H').get fun r H'' => .ok (Wx o r) H'' else .bad
noncomputable def Gj (test : A8 → A0 → Res Bool) (body : A8 → A0 → SR) : Nat → A8 → A0 → SR
  | 0, _, _ => .bad
  | n + 1, ρ, H => match test ρ H with
    | .ok false H' => .next ρ H'
    | .ok true H' => (match body ρ H' with
      | .next ρ' H'' => Gj test body n ρ' H''
      | r => r)
    | _ => .bad
noncomputable def Gv (b : Nat) (v k x : AV) (H : A0) : Res Unit := match v, k with
  | .ref r, .int k => (match H[r]? with
    | some (.list xs) => if b ≤ r ∧ 0 ≤ k ∧ k < xs.length then .ok () (H.set r (.list (xs.set k.toNat x))) else .bad
    | _ => .bad)
  | _, _ => .bad
noncomputable def L8 (f : AV → AV → SR) (v : AV) : SR := match v with
  | .tup [x, y] => f x y
  | _ => .bad
noncomputable def Hz (f : AV → AV → Res (Option AV)) (v : AV) : Res (Option AV) := match v with
  | .tup [x, y] => f x y
  | _ => .bad
noncomputable def isL (v : AV) (H : A0) : Bool := match v with
  | .ref r => (match H[r]? with
    | some (.list _) => true
    | _ => false)
  | _ => false
noncomputable def De (b : Nat) (v w : AV) (H : A0) : Res AV := match v with
  | .ref r => (match H[r]? with
    | some (.list xs) => if b ≤ r ∧ xs.length < lim then .ok .none (H.set r (.list (xs ++ [w]))) else .bad
    | _ => .bad)
  | _ => .bad
noncomputable def Fz : List AV → List AV → List AV
  | x :: xs, y :: ys => .tup [x, y] :: Fz xs ys
  | _, _ => []
section
variable (cf : Nat → List AV → A0 → Res AV) (sc : List Int) (b : Nat)
mutual
noncomputable def Aa : PE → A8 → A0 → Res AV
  | .none, _, H => .ok .none H
  | .bool v, _, H => .ok (.bool v) H
  | .int i, _, H => .ok (.int i) H
  | .str s, _, H => .ok (.str s) H
  | .var i, ρ, H => (match ρ[i]? with | some (some v) => .ok v H | _ => .bad)
  | .gint _ i, _, H => .ok (.int i) H
  | .bin op x y, ρ, H => (Aa x ρ H).get fun v H => (Aa y ρ H).get fun w H => Bg op v w H
  | .neg x, ρ, H => (Aa x ρ H).get fun v H => (match v with | .int i => .ok (.int (-i)) H | _ => .bad)
  | .not x, ρ, H => (Aa x ρ H).get fun v H => (match v with | .bool t => .ok (.bool (!t)) H | _ => .bad)
  | .cmp op x y, ρ, H => (Aa x ρ H).get fun v H => (Aa y ρ H).get fun w H => (match B4 op v w H with | some r => .ok (.bool r) H | none => .bad)
  | .cmp2 o1 o2 x y z, ρ, H => (Aa x ρ H).get fun v H => (Aa y ρ H).get fun w H => (match B4 o1 v w H with
      | some true => (Aa z ρ H).get fun u H => (match B4 o2 w u H with | some r => .ok (.bool r) H | none => .bad)
      | some false => .ok (.bool false) H
      | none => .bad)
  | .and es, ρ, H => Eo es ρ H
  | .or es, ρ, H => Xg es ρ H
  | .ite c x y, ρ, H => (Bp c ρ H).get fun t H => if t then Aa x ρ H else Aa y ρ H
  | .call k es, ρ, H => (Br es ρ H).get fun vs H => cf k vs H
  | .prim p es, ρ, H => (Br es ρ H).get fun vs H => prim strF sc p vs H
  | .idx a i, ρ, H => (Aa a ρ H).get fun v H => (Aa i ρ H).get fun w H => Bx sc v w H
  | .slice a lo hi, ρ, H => (Aa a ρ H).get fun v H => (Ly lo ρ H).get fun l H => (Ly hi ρ H).get fun h H => (match v with
      | .ref r => (match H[r]? with
        | some (.list xs) => B7 (cut xs l h) H
        | _ => .bad)
      | _ => .bad)
  | .list es, ρ, H => (Br es ρ H).thn fun vs H => B7 vs H
  | .tuple es, ρ, H => (Br es ρ H).get fun vs H => Ot vs H
  | .dict, _, H => .ok (.ref H.length) (H ++ [.dict])
  | .comp1 e it c, ρ, H => (Dy it ρ H).get fun p H => (Bh p.2 (fun v H => (Mm c (some v :: ρ) H).get fun t H => if t then (Aa e (some v :: ρ) H).get fun x H => .ok (some x) H else .ok none H) p.1 H).get fun vs H => B7 vs H
  | .comp2 e it, ρ, H => (Dy it ρ H).get fun p H => (Bh p.2 (fun v H => Hz (fun x y => (Aa e (some x :: some y :: ρ) H).get fun x H => .ok (some x) H) v) p.1 H).get fun vs H => B7 vs H
  | .append a e, ρ, H => (Aa a ρ H).get fun v H => if isL v H then (Aa e ρ H).get fun w H => De b v w H else .bad
  | .sset a, ρ, H => (Aa a ρ H).get fun v H => prim strF sc .sortedSet [v] H
noncomputable def Bp : PE → A8 → A0 → Res Bool
  | .not x, ρ, H => (Bp x ρ H).get fun v H => .ok (!v) H
  | .cmp op x y, ρ, H => (Aa x ρ H).get fun v H => (Aa y ρ H).get fun w H => (match B4 op v w H with | some r => .ok r H | none => .bad)
  | .and es, ρ, H => Da es ρ H
  | .or es, ρ, H => Ex es ρ H
  | .var i, ρ, H => (match ρ[i]? with | some (some (.bool v)) => .ok v H | _ => .bad)
  | .call k es, ρ, H => (Br es ρ H).get fun vs H => (cf k vs H).get fun v H => (match v with | .bool t => .ok t H | _ => .bad)
  | .prim p es, ρ, H => (Br es ρ H).get fun vs H => (prim strF sc p vs H).get fun v H => (match v with | .bool t => .ok t H | _ => .bad)
  | _, _, _ => .bad
noncomputable def Eo : PEs → A8 → A0 → Res AV
  | .nil, _, _ => .bad
  | .cons e .nil, ρ, H => Aa e ρ H
  | .cons e es, ρ, H => (Aa e ρ H).get fun v H => (match v with
      | .bool false => .ok (.bool false) H
      | .bool true => Eo es ρ H
      | _ => .bad)
noncomputable def Xg : PEs → A8 → A0 → Res AV
  | .nil, _, _ => .bad
  | .cons e .nil, ρ, H => Aa e ρ H
  | .cons e es, ρ, H => (Aa e ρ H).get fun v H => (match v with
      | .bool true => .ok (.bool true) H
      | .bool false => Xg es ρ H
      | _ => .bad)
noncomputable def Da : PEs → A8 → A0 → Res Bool
  | .nil, _, H => .ok true H
  | .cons e es, ρ, H => (Bp e ρ H).get fun v H => if v then Da es ρ H else .ok false H
noncomputable def Ex : PEs → A8 → A0 → Res Bool
  | .nil, _, H => .ok false H
  | .cons e es, ρ, H => (Bp e ρ H).get fun v H => if v then .ok true H else Ex es ρ H
noncomputable def Br : PEs → A8 → A0 → Res (List AV)
  | .nil, _, H => .ok [] H
  | .cons e es, ρ, H => (Aa e ρ H).thn fun v H => (Br es ρ H).thn fun vs H => .ok (v :: vs) H
noncomputable def Ly : PEo → A8 → A0 → Res (Option Int)
  | .none, _, H => .ok none H
  | .some e, ρ, H => (Aa e ρ H).get fun v H => (match v with | .int i => .ok (some i) H | _ => .bad)
noncomputable def Mm : PEo → A8 → A0 → Res Bool
  | .none, _, H => .ok true H
  | .some e, ρ, H => Bp e ρ H
noncomputable def Dy : It → A8 → A0 → Res (List AV × List (Nat × List AV))
  | .of e, ρ, H => (Aa e ρ H).get fun v H => (match v with
      | .ref r => (match H[r]? with | some (.list xs) => .ok (xs, [(r, xs)]) H | _ => .bad)
      | _ => .bad)
  | .range1 n, ρ, H => (Aa n ρ H).get fun v H => (match v with | .int k => if inR k then .ok (B1 0 k, []) H else .bad | _ => .bad)
  | .range2 x y, ρ, H => (Aa x ρ H).get fun v H => (Aa y ρ H).get fun w H => (match v, w with | .int j, .int k => if inR j ∧ inR k then .ok (B1 j k, []) H else .bad | _, _ => .bad)
  | .zip x y, ρ, H => (Aa x ρ H).get fun v H => (Aa y ρ H).get fun w H => (match v, w with
      | .ref r, .ref q => (match H[r]?, H[q]? with
        | some (.list xs), some (.list ys) => .ok (Fz xs ys, [(r, xs), (q, ys)]) H
        | _, _ => .bad)
      | _, _ => .bad)
end
noncomputable def Eg : List Nat → List AV → A8 → Option A8
  | [], [], ρ => some ρ
  | i :: is, v :: vs, ρ => Eg is vs (ρ.set i (some v))
  | _, _, _ => none
mutual
noncomputable def Fy : PS → A8 → A0 → SR
  | .assign i e, ρ, H => (match Aa strF cf sc b e ρ H with | .ok v H => .next (ρ.set i (some v)) H | _ => .bad)
  | .assigns is e, ρ, H => (match Aa strF cf sc b e ρ H with
      | .ok v H => (match v with
        | .tup vs => (match Eg is vs ρ with | some ρ' => .next ρ' H | none => .bad)
        | _ => .bad)
      | _ => .bad)
  | .setIdx a i e, ρ, H => (match (Aa strF cf sc b e ρ H).get fun x H => (Aa strF cf sc b a ρ H).get fun v H => (Aa strF cf sc b i ρ H).get fun k H => Gv b v k x H with
      | .ok _ H => .next ρ H
      | _ => .bad)
  | .ite c t e, ρ, H => (match Bp strF cf sc b c ρ H with
      | .ok true H => Ai t ρ H
      | .ok false H => Ai e ρ H
      | _ => .bad)
  | .for1 i it body, ρ, H => (match Dy strF cf sc b it ρ H with
      | .ok p H => Ed p.2 (fun v ρ H => Ai body (ρ.set i (some v)) H) p.1 ρ H
      | _ => .bad)
  | .for2 i j it body, ρ, H => (match Dy strF cf sc b it ρ H with
      | .ok p H => Ed p.2 (fun v ρ H => L8 (fun x y => Ai body ((ρ.set i (some x)).set j (some y)) H) v) p.1 ρ H
      | _ => .bad)
  | .whl c body, ρ, H => Gj (Bp strF cf sc b c) (Ai body) 100 ρ H
  | .ret e, ρ, H => (match Aa strF cf sc b e ρ H with | .ok v H => .ret v H | .exc c H => Sn (Ki e) c H | .bad => .bad)
  | .expr e, ρ, H => (match Aa strF cf sc b e ρ H with | .ok _ H => .next ρ H | .exc c H => Sn (Ki e) c H | .bad => .bad)
  | .raise c _, _, H => .exc c H
  | .tryExpr e c i h, ρ, H => (match Aa strF cf sc b e ρ H with
      | .ok _ H => .next ρ H
      | .exc d H => if Ki e = true ∧ (d = c ∨ c = 0) then (match i with
        | some j => Fc (Ai h (ρ.set j (some (.exc d))) H)
        | none => Fc (Ai h ρ H)) else .bad
      | .bad => .bad)
noncomputable def Ai : PSs → A8 → A0 → SR
  | .nil, ρ, H => .next ρ H
  | .any, _, _ => .bad
  | .cons s ss, ρ, H => (match Fy s ρ H with
      | .next ρ H => Ai ss ρ H
      | r => r)
end
end
noncomputable def Ah (P : Nat → Option FnI) (sc : List Int) : Nat → Nat → List AV → A0 → Res AV
  | 0, _, _, _ => .bad
  | n + 1, k, args, H => match P k with
    | none => .bad
    | some f => if args.length = f.np then (match Ai strF (Ah P sc n) sc H.length f.body (args.map some ++ List.replicate (f.nv - f.np) none) H with
      | .next _ H' => .ok .none H'
      | .ret v H' => .ok v H'
      | .exc c H' => .exc c H'
      | .bad => .bad) else .bad
end Mine
set_option genInjectivity false
namespace Mine
open PySem
section
variable {strF : Bi} {cf : Nat → List AV → A0 → Res AV} {sc : List Int} {b : Nat} {ρ : A8} {H : A0} {x y z : PE} {es : PEs}
theorem Xl : Aa strF cf sc b .none ρ H = .ok .none H := rfl
theorem Xj {v : Bool} : Aa strF cf sc b (.bool v) ρ H = .ok (.bool v) H := rfl
theorem A2j {i : Int} : Aa strF cf sc b (.int i) ρ H = .ok (.int i) H := rfl
theorem A1k {i : Nat} : Aa strF cf sc b (.var i) ρ H = (match ρ[i]? with | some (some v) => .ok v H | _ => .bad) := rfl
theorem Wo {k : Nat} {i : Int} : Aa strF cf sc b (.gint k i) ρ H = .ok (.int i) H := rfl
theorem A0v {op : Operator} : Aa strF cf sc b (.bin op x y) ρ H = (Aa strF cf sc b x ρ H).get fun v H => (Aa strF cf sc b y ρ H).get fun w H => Bg op v w H := rfl
theorem A26 : Aa strF cf sc b (.neg x) ρ H = (Aa strF cf sc b x ρ H).get fun v H => (match v with | .int i => .ok (.int (-i)) H | _ => .bad) := rfl
theorem A1o : Aa strF cf sc b (.not x) ρ H = (Aa strF cf sc b x ρ H).get fun v H => (match v with | .bool t => .ok (.bool (!t)) H | _ => .bad) := rfl
theorem A2n {op : CmpOp} : Aa strF cf sc b (.cmp op x y) ρ H = (Aa strF cf sc b x ρ H).get fun v H => (Aa strF cf sc b y ρ H).get fun w H => (match B4 op v w H with | some r => .ok (.bool r) H | none => .bad) := rfl
theorem M9 {o1 o2 : CmpOp} : Aa strF cf sc b (.cmp2 o1 o2 x y z) ρ H = (Aa strF cf sc b x ρ H).get fun v H => (Aa strF cf sc b y ρ H).get fun w H => (match B4 o1 v w H with
      | some true => (Aa strF cf sc b z ρ H).get fun u H => (match B4 o2 w u H with | some r => .ok (.bool r) H | none => .bad)
      | some false => .ok (.bool false) H
      | none => .bad) := rfl
theorem A3m : Aa strF cf sc b (.and es) ρ H = Eo strF cf sc b es ρ H := rfl
theorem A6u : Aa strF cf sc b (.or es) ρ H = Xg strF cf sc b es ρ H := rfl
theorem Rm : Aa strF cf sc b (.ite x y z) ρ H = (Bp strF cf sc b x ρ H).get fun t H => if t then Aa strF cf sc b y ρ H else Aa strF cf sc b z ρ H := rfl
theorem Ma {k : Nat} : Aa strF cf sc b (.call k es) ρ H = (Br strF cf sc b es ρ H).get fun vs H => cf k vs H := rfl
theorem Qx {p : D9} : Aa strF cf sc b (.prim p es) ρ H = (Br strF cf sc b es ρ H).get fun vs H => prim strF sc p vs H := rfl
theorem W4 : Aa strF cf sc b (.idx x y) ρ H = (Aa strF cf sc b x ρ H).get fun v H => (Aa strF cf sc b y ρ H).get fun w H => Bx sc v w H := rfl
theorem Oc {lo hi : PEo} : Aa strF cf sc b (.slice x lo hi) ρ H = (Aa strF cf sc b x ρ H).get fun v H => (Ly strF cf sc b lo ρ H).get fun l H => (Ly strF cf sc b hi ρ H).get fun h H => (match v with
      | .ref r => (match H[r]? with
        | some (.list xs) => B7 (cut xs l h) H
        | _ => .bad)
      | _ => .bad) := rfl
theorem Qs : Aa strF cf sc b (.list es) ρ H = (Br strF cf sc b es ρ H).thn fun vs H => B7 vs H := rfl
theorem O7 : Aa strF cf sc b (.tuple es) ρ H = (Br strF cf sc b es ρ H).get fun vs H => Ot vs H := rfl
theorem N5 {it : It} {c : PEo} : Aa strF cf sc b (.comp1 x it c) ρ H = (Dy strF cf sc b it ρ H).get fun p H => (Bh p.2 (fun v H => (Mm strF cf sc b c (some v :: ρ) H).get fun t H => if t then (Aa strF cf sc b x (some v :: ρ) H).get fun x H => .ok (some x) H else .ok none H) p.1 H).get fun vs H => B7 vs H := rfl
theorem Nk {it : It} : Aa strF cf sc b (.comp2 x it) ρ H = (Dy strF cf sc b it ρ H).get fun p H => (Bh p.2 (fun v H => Hz (fun u w => (Aa strF cf sc b x (some u :: some w :: ρ) H).get fun x H => .ok (some x) H) v) p.1 H).get fun vs H => B7 vs H := rfl
theorem L6 : Aa strF cf sc b (.append x y) ρ H = (Aa strF cf sc b x ρ H).get fun v H => if isL v H then (Aa strF cf sc b y ρ H).get fun w H => De b v w H else .bad := rfl
theorem A4l : Aa strF cf sc b (.sset x) ρ H = (Aa strF cf sc b x ρ H).get fun v H => prim strF sc .sortedSet [v] H := rfl
theorem A0x : Bp strF cf sc b (.not x) ρ H = (Bp strF cf sc b x ρ H).get fun v H => .ok (!v) H := rfl
theorem A1u {op : CmpOp} : Bp strF cf sc b (.cmp op x y) ρ H = (Aa strF cf sc b x ρ H).get fun v H => (Aa strF cf sc b y ρ H).get fun w H => (match B4 op v w H with | some r => .ok r H | none => .bad) := rfl
theorem A81 : Bp strF cf sc b (.and es) ρ H = Da strF cf sc b es ρ H := rfl
theorem Aar : Bp strF cf sc b (.or es) ρ H = Ex strF cf sc b es ρ H := rfl
theorem A8r {i : Nat} : Bp strF cf sc b (.var i) ρ H = (match ρ[i]? with | some (some (.bool v)) => .ok v H | _ => .bad) := rfl
theorem Wm {k : Nat} : Bp strF cf sc b (.call k es) ρ H = (Br strF cf sc b es ρ H).get fun vs H => (cf k vs H).get fun v H => (match v with | .bool t => .ok t H | _ => .bad) := rfl
theorem Ws {p : D9} : Bp strF cf sc b (.prim p es) ρ H = (Br strF cf sc b es ρ H).get fun vs H => (prim strF sc p vs H).get fun v H => (match v with | .bool t => .ok t H | _ => .bad) := rfl
theorem Xz : Eo strF cf sc b (.cons x (.cons y es)) ρ H = (Aa strF cf sc b x ρ H).get fun v H => (match v with
      | .bool false => .ok (.bool false) H
      | .bool true => Eo strF cf sc b (.cons y es) ρ H
      | _ => .bad) := rfl
theorem Td : Da strF cf sc b (.cons x es) ρ H = (Bp strF cf sc b x ρ H).get fun v H => if v then Da strF cf sc b es ρ H else .ok false H := rfl
theorem Sq : Ex strF cf sc b (.cons x es) ρ H = (Bp strF cf sc b x ρ H).get fun v H => if v then .ok true H else Ex strF cf sc b es ρ H := rfl
theorem Xo : Br strF cf sc b .nil ρ H = .ok [] H := rfl
theorem Ms : Br strF cf sc b (.cons x es) ρ H = (Aa strF cf sc b x ρ H).thn fun v H => (Br strF cf sc b es ρ H).thn fun vs H => .ok (v :: vs) H := rfl
theorem A6j : Ly strF cf sc b (.some x) ρ H = (Aa strF cf sc b x ρ H).get fun v H => (match v with | .int i => .ok (some i) H | _ => .bad) := rfl
theorem A9a : Dy strF cf sc b (.of x) ρ H = (Aa strF cf sc b x ρ H).get fun v H => (match v with
      | .ref r => (match H[r]? with | some (.list xs) => .ok (xs, [(r, xs)]) H | _ => .bad)
      | _ => .bad) := rfl
theorem Yu : Dy strF cf sc b (.range1 x) ρ H = (Aa strF cf sc b x ρ H).get fun v H => (match v with | .int k => if inR k then .ok (B1 0 k, []) H else .bad | _ => .bad) := rfl
theorem Zy : Dy strF cf sc b (.range2 x y) ρ H = (Aa strF cf sc b x ρ H).get fun v H => (Aa strF cf sc b y ρ H).get fun w H => (match v, w with | .int j, .int k => if inR j ∧ inR k then .ok (B1 j k, []) H else .bad | _, _ => .bad) := rfl
end
section
variable {i j : Int} {H : A0} {r q : Nat}
theorem Di : Bg .Add (.int i) (.int j) H = .ok (.int (i + j)) H := rfl
theorem Cp : Bg .Sub (.int i) (.int j) H = .ok (.int (i - j)) H := rfl
theorem Tc : Bg .Mult (.int i) (.int j) H = if E8 i j then .ok (.int (i * j)) H else .bad := rfl
theorem A0k : Bg .FloorDiv (.int i) (.int j) H = if j ≠ 0 ∧ j.natAbs < big then .ok (.int (i.fdiv j)) H else .bad := rfl
theorem A28 : Bg .Mod (.int i) (.int j) H = if j ≠ 0 then .ok (.int (i.fmod j)) H else .bad := rfl
theorem Ow : Bg .Add (.ref r) (.ref q) H = (match H[r]?, H[q]? with
      | some (.list xs), some (.list ys) => B7 (xs ++ ys) H
      | _, _ => .bad) := by
  show (((H[r]?).bind A2w).bind fun xs => ((H[q]?).bind A2w).map fun ys => B7 (xs ++ ys) H).getD .bad = _
  rcases H[r]? with _ | (_ | _) <;> rcases H[q]? with _ | (_ | _) <;> rfl
theorem Yn : B4 .Lt (.int i) (.int j) H = some (decide (i < j)) := rfl
theorem A85 : B4 .LtE (.int i) (.int j) H = some (decide (i ≤ j)) := rfl
theorem A86 : B4 .Gt (.int i) (.int j) H = some (decide (j < i)) := rfl
theorem A0y : B4 .Eq (.int i) (.int j) H = some (i == j) := rfl
theorem A8g : B4 .NotEq (.int i) (.int j) H = some (!(i == j)) := rfl
theorem A17 {v : AV} : B4 .Eq (.ref r) v H = Kq (.ref r) v H := rfl
theorem A0n {v : AV} : B4 .NotEq (.ref r) v H = (Kq (.ref r) v H).map (!·) := rfl
theorem Aa3 {c : Bool} {v : AV} : B4 .NotEq (.bool c) v H = (Kq (.bool c) v H).map (!·) := rfl
theorem A8z {v w : AV} : B4 .In v w H = Pf v w H := rfl
theorem Xw {v w : AV} : B4 .NotIn v w H = (Pf v w H).map (!·) := rfl
theorem Abl {v : AV} : B4 .Is v .none H = Rw v := rfl
end
section
variable {strF : Bi} {sc : List Int} {H : A0} {r : Nat} {vs : List AV} {i j : Int} {v : AV}
theorem A1z : prim strF sc .len [.scr] H = .ok (.int sc.length) H := rfl
theorem Np : prim strF sc .len [.ref r] H = (match items (.ref r) H with | some xs => .ok (.int xs.length) H | none => .bad) := rfl
theorem A42 : prim strF sc .len [.tup vs] H = .ok (.int vs.length) H := rfl
theorem Rg : prim strF sc .list [v] H = (match items v H with | some xs => B7 xs H | none => .bad) := rfl
theorem O9 : prim strF sc .listRange [.int i] H = if inR i then B7 (B1 0 i) H else .bad := rfl
theorem K0 : prim strF sc .sorted [.ref r] H = (match H[r]? with
      | some (.list xs) => if xs.length < 64 then (match Bc xs with
          | some is => B7 ((C7 is).map .int) H
          | none => .bad) else .bad
      | _ => .bad) := rfl
theorem A0o : prim strF sc .min2 [.int i, .int j] H = .ok (.int (min i j)) H := rfl
theorem A30 : prim strF sc .max2 [.int i, .int j] H = .ok (.int (max i j)) H := rfl
theorem A01 : prim strF sc .min1 [.tup [.int i, .int j]] H = .ok (.int (min i j)) H := rfl
theorem A1n : prim strF sc .max1 [.tup [.int i, .int j]] H = .ok (.int (max i j)) H := rfl
theorem A0z : prim strF sc .all [.ref r] H = (match H[r]? with
      | some (.list xs) => (match Du xs with
          | some bs => .ok (.bool (bs.all id)) H
          | none => .bad)
      | _ => .bad) := rfl
theorem A7c : prim strF sc .sum [.ref r] H = (match H[r]? with
      | some (.list xs) => (match Bc xs with
          | some is => .ok (.int is.sum) H
          | none => .bad)
      | _ => .bad) := rfl
theorem Xv : prim strF sc .isInt [v] H = Fm (N6 v) H := rfl
theorem Uo : prim strF sc .isBool [v] H = Fm (M3 v) H := rfl
theorem Te : prim strF sc .isList [v] H = Fm (Gm v H) H := rfl
theorem Q2 : prim strF sc .isTuple [v] H = Fm (K6 v) H := rfl
theorem Vj : Gm (.ref r) H = (match H[r]? with
    | some (.list _) => some true
    | some .dict => some false
    | none => none) := rfl
theorem Ou : items (.ref r) H = (match H[r]? with
      | some (.list xs) => some xs
      | _ => none) := rfl
end
theorem Hu {a c : Int} (h : a < c) : B1 a c = .int a :: B1 (a + 1) c := by
  unfold B1
  rw [show (c - a).toNat = (c - (a + 1)).toNat + 1 by exact A5z h, List.range_succ_eq_map]
  simp only [List.map_cons, List.map_map, List.cons.injEq]
  refine ⟨by simp, List.map_congr_left fun k _ => ?_⟩
  simp only [Function.comp]
  congr 1
  exact Eq.symm (Eq.trans (Int.add_comm _ _) (Int.add_left_comm _ _ _))
theorem Q8 {n c : Nat} (h : c ≤ n) : cutAt n (c : Int) = c := by
  unfold cutAt
  rw [if_neg (by exact A6q), Int.min_eq_left (by exact P0 h), Int.max_eq_right (by exact oNN _)]; rfl
end Mine
namespace Mine
open PySem
noncomputable def A34 : FnI := ⟨1, 1, .cons (.ret (.and (.cons (.prim .isInt (.cons (.var 0) .nil)) (.cons (.not (.prim .isBool (.cons (.var 0) .nil))) .nil)))) .nil⟩
end Mine
namespace Mine
abbrev Mat := Nat → Nat → Int
noncomputable def At : Nat → (Nat → Int) → Int
  | 0, _ => 0
  | n + 1, f => At n f + f n
theorem Ax {n : Nat} {f g : Nat → Int} (h : ∀ i, i < n → f i = g i) : At n f = At n g := by
  induction n with
  | zero => rfl
  | succ n ih => unfold At; rw [ih fun i hi => h i (by exact Nat.lt_succ_of_lt hi), h n (by exact Nat.le_refl _)]
theorem I9 {n : Nat} {f : Nat → Int} (h : ∀ i, i < n → f i = 0) : At n f = 0 := by
  induction n with
  | zero => rfl
  | succ n ih => unfold At; rw [ih fun i hi => h i (by exact Nat.lt_succ_of_lt hi), h n (by exact Nat.le_refl _)]; rfl
theorem Dl (n : Nat) (f : Nat → Int) : At (n + 1) f = At n f + f n := rfl
theorem G2 {n : Nat} {f g : Nat → Int} : At n (fun i => f i + g i) = At n f + At n g := by
  induction n with
  | zero => rfl
  | succ n ih => rw [Dl, Dl, Dl, ih]; exact A7l
theorem G9 {n : Nat} {f : Nat → Int} {c : Int} : At n (fun i => c * f i) = c * At n f := by
  induction n with
  | zero => simp [At]
  | succ n ih => unfold At; rw [ih]; grind
theorem Q3 {n : Nat} {f : Nat → Int} {c : Int} : At n (fun i => f i * c) = At n f * c := by
  induction n with
  | zero => simp [At]
  | succ n ih => unfold At; rw [ih]; grind
theorem Mp {n : Nat} {f : Nat → Int} : At (n + 1) f = f 0 + At n (fun i => f (i + 1)) := by
  induction n with
  | zero => simp [At]
  | succ n ih => rw [At, ih]; simp only [At]; exact Int.add_assoc _ _ _
theorem Z1 {n m : Nat} {f : Nat → Nat → Int} : At n (fun i => At m (f i)) = At m (fun j => At n (fun i => f i j)) := by
  induction n with
  | zero => simp only [At]; rw [I9 fun _ _ => rfl]
  | succ n ih => simp only [At]; rw [ih, ← G2]
theorem Jx {n r : Nat} {f : Nat → Int} (hr : r < n) (h : ∀ i, i < n → i ≠ r → f i = 0) : At n f = f r := by
  induction n with
  | zero => exact oZl hr
  | succ n ih =>
    unfold At
    by_cases e : r = n
    · subst e; rw [I9 fun i hi => h i (by exact Nat.lt_succ_of_lt hi) (by exact Nat.ne_of_lt hi)]; exact Int.zero_add _
    · rw [ih (by exact Lk hr e) fun i hi hn => h i (by exact Nat.lt_succ_of_lt hi) hn, h n (by exact Nat.le_refl _) (by exact Aai e)]; exact Int.add_zero _
theorem Ur {n r s : Nat} {f : Nat → Int} (hr : r < n) (hs : s < n) (hrs : r ≠ s) (h : ∀ i, i < n → i ≠ r → i ≠ s → f i = 0) : At n f = f r + f s := by
  have e1 : At n f = At n (fun i => (if i = r then f i else 0) + (if i = r then 0 else f i)) := Ax fun i _ => by split <;> (first | exact Eq.symm (Int.add_zero _) | exact Eq.symm (Int.zero_add _))
  rw [e1, G2, Jx hr (fun i hi hn => if_neg hn), Jx hs (fun i hi hn => by
    by_cases q : i = r
    · rw [if_pos q]
    · rw [if_neg q]; exact h i hi q hn), if_pos rfl, if_neg (Ne.symm hrs)]
theorem Z7 {n m : Nat} {f : Nat → Int} (hm : m ≤ n) (h : ∀ i, m ≤ i → i < n → f i = 0) : At n f = At m f := by
  induction n with
  | zero => rw [show m = 0 by exact Nat.eq_zero_of_le_zero hm]
  | succ n ih =>
    by_cases e : m = n + 1
    · subst e; rfl
    · rw [Dl, ih (by exact Nat.le_of_lt_succ (Nat.lt_of_le_of_ne hm e)) fun i h1 h2 => h i h1 (by exact Nat.lt_succ_of_lt h2), h n (by exact Nat.le_of_lt_succ (Nat.lt_of_le_of_ne hm e)) (by exact Nat.le_refl _)]; exact Int.add_zero _
noncomputable def sgn (i : Nat) : Int := if i % 2 = 0 then 1 else -1
theorem A2a : sgn 0 = 1 := rfl
theorem Op (i : Nat) : sgn (i + 1) = - sgn i := by
  unfold sgn
  by_cases h : i % 2 = 0
  · rw [if_pos h, if_neg fun q => absurd (q.symm.trans ((Nat.add_mod i 1 2).trans (congrArg (fun x => (x + 1 % 2) % 2) h))) (by decide)]
  · rw [if_neg h, if_pos ((Nat.add_mod i 1 2).trans (congrArg (fun x => (x + 1 % 2) % 2) ((Nat.mod_two_eq_zero_or_one i).resolve_left h)))]; rfl
theorem Rp (i : Nat) : sgn i * sgn i = 1 := by unfold sgn; split <;> rfl
noncomputable def skip (i a : Nat) : Nat := if a < i then a else a + 1
theorem Zg (a : Nat) : skip 0 a = a + 1 := rfl
theorem Pm (i a : Nat) : skip (i + 1) (a + 1) = skip i a + 1 := by unfold skip; by_cases h : a < i <;> simp [h]
theorem O0 (i : Nat) : skip (i + 1) 0 = 0 := by unfold skip; simp
theorem Ia {n i a : Nat} (hi : i < n + 1) (ha : a < n) : skip i a < n + 1 := by unfold skip; split <;> (first | exact Nat.lt_succ_of_lt ha | exact Nat.lt_succ_of_le ha)
theorem Jm (i a : Nat) : skip i a ≠ i := by unfold skip; split <;> (first | exact Nat.ne_of_lt (by assumption) | exact Nat.ne_of_gt (oGt (by assumption)))
noncomputable def det : Nat → Mat → Int
  | 0, _ => 1
  | n + 1, M => At (n + 1) fun i => sgn i * M i 0 * det n (fun a b => M (skip i a) (b + 1))
theorem Bk {n : Nat} : ∀ {M N : Mat}, (∀ a b, a < n → b < n → M a b = N a b) → det n M = det n N := by
  induction n with
  | zero => intros; rfl
  | succ n ih =>
    intro M N h
    unfold det
    refine Ax fun i hi => ?_
    rw [h i 0 hi (by exact Nat.succ_pos _), ih fun a b ha hb => h _ _ (Ia hi ha) (by exact Nat.lt_succ_of_le hb)]
noncomputable def upd (M : Mat) (r : Nat) (x : Nat → Int) : Mat := fun a b => if a = r then x b else M a b
theorem Dh (M : Mat) (r : Nat) (x : Nat → Int) (b : Nat) : upd M r x r b = x b := if_pos rfl
theorem Dn {M : Mat} {r a : Nat} (x : Nat → Int) (b : Nat) (h : a ≠ r) : upd M r x a b = M a b := if_neg h
theorem Ic {n : Nat} : ∀ {M : Mat} {r : Nat} {x y : Int} {u v : Nat → Int}, r < n → det n (upd M r fun b => x * u b + y * v b) = x * det n (upd M r u) + y * det n (upd M r v) := by
  induction n with
  | zero => intros; exact oZl (by assumption)
  | succ n ih =>
    intro M r x y u v hr
    unfold det
    rw [← G9, ← G9, ← G2]
    refine Ax fun i hi => ?_
    by_cases e : i = r
    · subst e
      simp only [Dh, Dn _ _ (Jm i _)]
      grind
    · simp only [Dn _ _ e]
      refine bC fun hno => ?_
      have : ∃ r', skip i r' = r ∧ r' < n := by
        unfold skip
        by_cases q : r < i
        · exact ⟨r, if_pos q, by exact Nat.le_of_lt_succ (Nat.lt_of_le_of_lt q hi)⟩
        · exact ⟨r - 1, by rw [if_neg (by exact Nat.not_lt_of_le (Nat.le_sub_of_add_le (Nat.lt_of_le_of_ne (oGe q) e)))]; exact Nat.sub_add_cancel (Hi (Nat.lt_of_le_of_ne (oGe q) e)), by exact Nat.lt_of_lt_of_le (Nat.sub_lt (Nat.lt_of_le_of_lt (Nat.zero_le _) (Nat.lt_of_le_of_ne (oGe q) e)) Nat.one_pos) (Nat.le_of_lt_succ hr)⟩
      obtain ⟨r', e1, e2⟩ := this
      have inj : ∀ a, skip i a = r ↔ a = r' := fun a => by
        constructor
        · intro q; rw [← e1] at q; unfold skip at q; split at q <;> split at q <;> (first | lia | omega)
        · intro q; rw [q, e1]
      have hu : ∀ w : Nat → Int, (fun a b => upd M r w (skip i a) (b + 1)) = upd (fun a b => M (skip i a) (b + 1)) r' (fun b => w (b + 1)) := fun w => by
        funext a b
        unfold upd
        by_cases q : a = r'
        · rw [if_pos q, if_pos ((inj a).mpr q)]
        · rw [if_neg q, if_neg fun h => q ((inj a).mp h)]
      refine hno ?_
      rw [hu, hu, hu, ih e2]
      grind
theorem We {n : Nat} : ∀ {M : Mat} {r : Nat}, r + 1 < n → (∀ b, b < n → M r b = M (r + 1) b) → det n M = 0 := by
  induction n with
  | zero => intros; exact oZl (by assumption)
  | succ n ih =>
    intro M r hr h
    unfold det
    rw [Ur (r := r) (s := r + 1) (by exact Nat.le_of_lt hr) hr (by exact A8h) fun i hi h1 h2 => ?_]
    · have : det n (fun a b => M (skip r a) (b + 1)) = det n (fun a b => M (skip (r + 1) a) (b + 1)) := Bk fun a b ha hb => by
        by_cases q : a = r
        · subst q
          have e1 : skip a a = a + 1 := by unfold skip; simp
          have e2 : skip (a + 1) a = a := by unfold skip; simp
          rw [e1, e2, h (b + 1) (by exact Nat.lt_succ_of_le hb)]
        · have : skip r a = skip (r + 1) a := by unfold skip; split <;> split <;> (first | lia | omega)
          rw [this]
      rw [this, h 0 (by exact Nat.succ_pos _), Op]
      grind
    · have : det n (fun a b => M (skip i a) (b + 1)) = 0 := by
        by_cases q : i < r
        · refine ih (r := r - 1) (by exact A97 hr q) fun b hb => ?_
          have e1 : skip i (r - 1) = r := by unfold skip; rw [if_neg (by exact fun e1 => Ut (Nat.sub_le_sub_right q _) e1)]; exact Nat.sub_add_cancel (A2p q)
          have e2 : skip i (r - 1 + 1) = r + 1 := by unfold skip; rw [if_neg (by exact Nat.not_lt_of_le (Nat.le_trans (Nat.le_of_lt q) (Nat.le_of_eq (Nat.sub_add_cancel (Hi q)).symm)))]; exact A0b (Nat.sub_add_cancel (A2p q))
          rw [e1, e2]; exact h _ (by exact Nat.lt_succ_of_le hb)
        · refine ih (r := r) (by exact Nat.lt_of_lt_of_le (Iy (Iy (oGe q) h1) h2) (Nat.le_of_lt_succ hi)) fun b hb => ?_
          have e1 : skip i r = r := by unfold skip; rw [if_pos (by exact Rn (oGt q) h1)]
          have e2 : skip i (r + 1) = r + 1 := by unfold skip; rw [if_pos (by exact Iy (Iy (oGe q) h1) h2)]
          rw [e1, e2]; exact h _ (by exact Nat.lt_succ_of_le hb)
      rw [this]; simp
noncomputable def swp (r s a : Nat) : Nat := if a = r then s else if a = s then r else a
theorem Lg {n r s : Nat} (alt : ∀ N : Mat, (∀ b, b < n → N r b = N s b) → det n N = 0) (hr : r < n) (hs : s < n) (hrs : r ≠ s) (M : Mat) : det n (fun a => M (swp r s a)) = - det n M := by
  have lin1 : ∀ (N : Mat) (t : Nat) (u v : Nat → Int), t < n → det n (upd N t fun b => u b + v b) = det n (upd N t u) + det n (upd N t v) := fun N t u v ht => by
    have := Ic (M := N) (r := t) (x := 1) (y := 1) (u := u) (v := v) ht
    simpa using this
  let X (x y : Nat → Int) : Mat := upd (upd M r x) s y
  have hX : ∀ x, det n (X x x) = 0 := fun x => alt _ fun b _ => by
    show upd (upd M r x) s x r b = upd (upd M r x) s x s b
    rw [Dn _ _ hrs, Dh, Dh]
  have hl : ∀ x x' y, det n (X (fun b => x b + x' b) y) = det n (X x y) + det n (X x' y) := fun x x' y => by
    have com : ∀ x, X x y = upd (upd M s y) r x := fun x => by
      funext a b
      show upd (upd M r x) s y a b = _
      unfold upd
      by_cases q : a = s
      · rw [if_pos q, if_neg (by exact fun e2 => hrs (Eq.trans (Eq.symm e2) q)), if_pos q]
      · rw [if_neg q, if_neg q]
    rw [com, com, com]; exact lin1 _ _ _ _ hr
  have hr' : ∀ x y y', det n (X x (fun b => y b + y' b)) = det n (X x y) + det n (X x y') := fun x y y' => lin1 _ _ _ _ hs
  have h0 := hX (fun b => M r b + M s b)
  rw [hl, hr', hr', hX, hX] at h0
  have e1 : det n (X (M r) (M s)) = det n M := Bk fun a b _ _ => by
    show upd (upd M r (M r)) s (M s) a b = _
    unfold upd
    by_cases q : a = s
    · rw [if_pos q, q]
    · rw [if_neg q]; by_cases q' : a = r
      · rw [if_pos q', q']
      · rw [if_neg q']
  have e2 : det n (X (M s) (M r)) = det n (fun a => M (swp r s a)) := Bk fun a b _ _ => by
    show upd (upd M r (M s)) s (M r) a b = M (swp r s a) b
    unfold upd swp
    by_cases q : a = s
    · rw [if_pos q, if_neg (by exact fun e2 => hrs (Eq.trans (Eq.symm e2) q)), if_pos q]
    · rw [if_neg q]; by_cases q' : a = r
      · rw [if_pos q', if_pos q']
      · rw [if_neg q', if_neg q', if_neg q]
  rw [e1, e2] at h0
  (first | lia | omega)
theorem Oy {n : Nat} : ∀ (d : Nat) {M : Mat} {r s : Nat}, s = r + d + 1 → s < n → (∀ b, b < n → M r b = M s b) → det n M = 0 := by
  intro d
  induction d with
  | zero => intro M r s e hs h; subst e; exact We hs h
  | succ d ih =>
    intro M r s e hs h
    have sw := Lg (r := s - 1) (s := s) (fun N hN => We (r := s - 1) (by exact Abm e hs) (by rw [show s - 1 + 1 = s by exact Abu e]; exact hN)) (by exact A39 hs) hs (by exact Abs e) M
    have : det n (fun a => M (swp (s - 1) s a)) = 0 := ih (r := r) (s := s - 1) (by exact congrArg (· - 1) e) (by exact A39 hs) fun b hb => by
      have e1 : swp (s - 1) s r = r := (if_neg (Ac2 e)).trans (if_neg fun q => Nat.ne_of_lt (Nat.lt_succ_of_le (Nat.le_add_right _ _)) (q.trans e))
      have e2 : swp (s - 1) s (s - 1) = s := by unfold swp; rw [if_pos rfl]
      show M (swp (s - 1) s r) b = M (swp (s - 1) s (s - 1)) b
      rw [e1, e2]; exact h b hb
    exact Int.neg_eq_zero.mp (sw.symm.trans this)
theorem M4 {n : Nat} {M : Mat} {r s : Nat} (hr : r < n) (hs : s < n) (hrs : r ≠ s) (h : ∀ b, b < n → M r b = M s b) : det n M = 0 := by
  by_cases q : r < s
  · exact Oy (s - r - 1) (by exact Xh q) hs h
  · exact Oy (r - s - 1) (r := s) (s := r) (by exact Xh (Iy (oGe q) hrs)) hr fun b hb => (h b hb).symm
theorem Nz {n r s : Nat} (hr : r < n) (hs : s < n) (hrs : r ≠ s) (M : Mat) : det n (fun a => M (swp r s a)) = - det n M :=
  Lg (fun N hN => M4 hr hs hrs hN) hr hs hrs M
theorem Ml {n : Nat} : ∀ (M : Mat), det (n + 1) M = At (n + 1) fun j => sgn j * M 0 j * det n (fun a b => M (a + 1) (skip j b)) := by
  induction n with
  | zero => intro M; simp [det, At]
  | succ n ih =>
    intro M
    rw [det, Mp (n := n + 1), Mp (n := n + 1)]
    have l : At (n + 1) (fun i => sgn (i + 1) * M (i + 1) 0 * det (n + 1) (fun a b => M (skip (i + 1) a) (b + 1))) =
        At (n + 1) (fun i => At (n + 1) fun j => sgn (i + 1) * M (i + 1) 0 * (sgn j * M 0 (j + 1) * det n (fun a b => M (skip i a + 1) (skip j b + 1)))) := Ax fun i _ => by
      rw [ih, ← G9]
      refine Ax fun j _ => ?_
      simp only [O0, Pm]
    have r : At (n + 1) (fun j => sgn (j + 1) * M 0 (j + 1) * det (n + 1) (fun a b => M (a + 1) (skip (j + 1) b))) =
        At (n + 1) (fun j => At (n + 1) fun i => sgn (i + 1) * M (i + 1) 0 * (sgn j * M 0 (j + 1) * det n (fun a b => M (skip i a + 1) (skip j b + 1)))) := Ax fun j _ => by
      rw [det, ← G9]
      refine Ax fun i _ => ?_
      simp only [O0, Pm, Op]
      grind
    rw [l, r, Z1]
    simp only [Zg]
theorem Dv {n : Nat} : ∀ (M : Mat), det n (fun a b => M b a) = det n M := by
  induction n with
  | zero => intro M; rfl
  | succ n ih =>
    intro M
    rw [Ml M, det]
    refine Ax fun i _ => ?_
    rw [← ih fun a b => M (a + 1) (skip i b)]
noncomputable def cyc (m a : Nat) : Nat := if a = 0 then m else if a ≤ m then a - 1 else a
theorem Wz {n : Nat} : ∀ (m : Nat) (M : Mat), m < n → det n (fun a => M (cyc m a)) = sgn m * det n M := by
  intro m
  induction m with
  | zero =>
    intro M h
    have : (fun a => M (cyc 0 a)) = M := by
      funext a b; unfold cyc
      by_cases q : a = 0
      · simp [q]
      · simp [q]
    rw [this, A2a]; exact Eq.symm (Int.one_mul _)
  | succ m ih =>
    intro M h
    have e : (fun a => M (cyc (m + 1) a)) = fun a => (fun c => M (swp m (m + 1) c)) (cyc m a) := by
      funext a b
      show M (cyc (m + 1) a) b = M (swp m (m + 1) (cyc m a)) b
      congr 1
      unfold cyc swp
      by_cases q : a = 0
      · simp [q]
      · rw [if_neg q, if_neg q]
        by_cases q' : a ≤ m
        · rw [if_pos q', if_pos (by exact Nat.le_succ_of_le q'), if_neg (by exact Nat.ne_of_lt (A0j (A6r q) q')), if_neg (by exact Nat.ne_of_lt (Nat.lt_succ_of_le (V5 q')))]
        · rw [if_neg q']
          by_cases q2 : a ≤ m + 1
          · rw [if_pos q2, if_neg (by exact Nat.ne_of_gt (oGt q')), if_pos (by exact Nat.le_antisymm q2 (oGt q'))]; exact congrArg (· - 1) (Nat.le_antisymm q2 (oGt q'))
          · rw [if_neg q2, if_neg (by exact Nat.ne_of_gt (Nat.le_of_lt (oGt q2))), if_neg (by exact Nat.ne_of_gt (oGt q2))]
    rw [e, ih (fun c => M (swp m (m + 1) c)) (by exact Nat.le_of_lt h), Nz (by exact Nat.le_of_lt h) h (by exact A8h), Op]
    grind
theorem A4d {n : Nat} (M : Mat) : det (n + 1) M = sgn n * At (n + 1) fun j => sgn j * M n j * det n (fun a b => M a (skip j b)) := by
  have h := Wz (n := n + 1) n M (by exact Nat.le_refl _)
  rw [Ml] at h
  have : At (n + 1) (fun j => sgn j * M (cyc n 0) j * det n (fun a b => M (cyc n (a + 1)) (skip j b))) = At (n + 1) fun j => sgn j * M n j * det n (fun a b => M a (skip j b)) := Ax fun j _ => by
    have e1 : cyc n 0 = n := rfl
    rw [e1, Bk (M := fun a b => M (cyc n (a + 1)) (skip j b)) (N := fun a b => M a (skip j b)) fun a b ha hb => by
      have : cyc n (a + 1) = a := by unfold cyc; rw [if_neg (by exact Nat.succ_ne_zero _), if_pos (by exact ha)]; exact rfl
      rw [this]]
  rw [this] at h
  rw [h]
  have := Rp n
  grind
theorem A2l {n : Nat} (M : Mat) : det (n + 1) M = sgn n * At (n + 1) fun i => sgn i * M i n * det n (fun a b => M (skip i a) b) := by
  rw [← Dv M, A4d]
  congr 1
  refine Ax fun i _ => ?_
  rw [← Dv fun a b => M (skip i a) b]
theorem V0 {n : Nat} {M : Mat} {r s : Nat} (hr : r < n) (hs : s < n) (hrs : r ≠ s) (h : ∀ a, a < n → M a r = M a s) : det n M = 0 := by
  rw [← Dv]; exact M4 hr hs hrs h
theorem Ps {k : Nat} : ∀ {n : Nat} {M : Mat}, k ≤ n → (∀ a b, k ≤ a → a < n → b < k → M a b = 0) → det n M = det k M * det (n - k) (fun a b => M (k + a) (k + b)) := by
  induction k with
  | zero => intro n M _ _; simp [det]
  | succ k ih =>
    intro n M hk h
    obtain ⟨n, rfl⟩ : ∃ m, n = m + 1 := ⟨n - 1, by exact Eq.symm (Nat.sub_add_cancel (A2p hk))⟩
    rw [det, Z7 (m := k + 1) hk fun i h1 h2 => by rw [h i 0 h1 h2 (by exact Nat.succ_pos _)]; simp, det, ← Q3]
    refine Ax fun i hi => ?_
    rw [ih (M := fun a b => M (skip i a) (b + 1)) (by exact Nat.le_of_lt_succ hk) fun a b h1 h2 h3 => ?_]
    · have e : det (n - k) (fun a b => (fun a b => M (skip i a) (b + 1)) (k + a) (k + b)) = det (n + 1 - (k + 1)) (fun a b => M (k + 1 + a) (k + 1 + b)) := by
        rw [show n + 1 - (k + 1) = n - k by exact Ry _ _]
        refine Bk fun a b ha hb => ?_
        show M (skip i (k + a)) (k + b + 1) = _
        have : skip i (k + a) = k + 1 + a := by unfold skip; rw [if_neg (by exact Ut (A6v (Nat.le_of_lt_succ hi)))]; exact Nat.add_right_comm _ _ _
        rw [this, show k + b + 1 = k + 1 + b by exact Nat.add_right_comm _ _ _]
      rw [e]; grind
    · have : skip i a = a + 1 := by unfold skip; rw [if_neg (by exact fun e2 => Ut (Nat.lt_of_le_of_lt h1 e2) hi)]
      show M (skip i a) (b + 1) = 0
      rw [this]; exact h _ _ (by exact Nat.lt_succ_of_le h1) (by exact Nat.lt_succ_of_le h2) (by exact Nat.lt_succ_of_le h3)
theorem Qy {n r : Nat} {q : Int} {c : Nat → Int} : ∀ {k : Nat} {M : Mat}, k ≤ r → r < n → det n (upd M r fun b => q * M r b + At k fun m => c m * M m b) = q * det n M := by
  intro k
  induction k with
  | zero =>
    intro M _ hr
    have := Ic (n := n) (M := M) (r := r) (x := q) (y := 0) (u := M r) (v := M r) hr
    have e : upd M r (M r) = M := by funext a b; unfold upd; split <;> simp_all
    rw [e] at this
    have e2 : (upd M r fun b => q * M r b + At 0 fun m => c m * M m b) = upd M r fun b => q * M r b + 0 * M r b := by simp [At]
    rw [e2, this]; exact A9m
  | succ k ih =>
    intro M hk hr
    have e : (upd M r fun b => q * M r b + At (k + 1) fun m => c m * M m b) = upd M r fun b => 1 * (q * M r b + At k fun m => c m * M m b) + c k * M k b := by
      funext a b; unfold upd
      split
      · simp only [At]; exact Aal
      · rfl
    rw [e, Ic hr, ih (by exact Nat.le_of_lt hk) hr]
    have : det n (upd M r (M k)) = 0 := M4 hr (s := k) (by exact Ew hk hr) (by exact Nat.ne_of_gt hk) fun b _ => by rw [Dh, Dn _ _ (by exact Nat.ne_of_lt hk)]
    rw [this]; exact Aa4
end Mine
namespace Mine
noncomputable def sel (k i a : Nat) : Nat := if a < k then a else i
theorem Ct {k i a : Nat} (h : a < k) : sel k i a = a := if_pos h
theorem F6 (k i : Nat) : sel k i k = i := if_neg (Nat.lt_irrefl _)
theorem A20 {k i a : Nat} (h : k ≤ a) : sel k i a = i := if_neg (Nat.not_lt.mpr h)
noncomputable def E (M : Mat) (k i j : Nat) : Int := det (k + 1) fun a b => M (sel k i a) (sel k j b)
noncomputable def cfE (M : Mat) (k i m : Nat) : Int := sgn k * sgn m * det k fun a b => M (sel k i (skip m a)) b
theorem A7n (M : Mat) (k : Nat) : E M k k k = det (k + 1) M := Bk fun a b ha hb => by
  have h1 : sel k k a = a := by unfold sel; split <;> (first | exact rfl | exact Eq.symm (Ab4 ha (by assumption)))
  have h2 : sel k k b = b := by unfold sel; split <;> (first | exact rfl | exact Eq.symm (Ab4 hb (by assumption)))
  rw [h1, h2]
theorem Vk (M : Mat) (k i j : Nat) : E M k i j = det k M * M i j + At k fun m => cfE M k i m * M m j := by
  unfold E
  rw [A2l, Dl]
  have e1 : At k (fun m => sgn m * M (sel k i m) (sel k j k) * det k (fun a b => M (sel k i (skip m a)) (sel k j b))) = At k fun m => sgn m * (det k fun a b => M (sel k i (skip m a)) b) * M m j := Ax fun m hm => by
    rw [Ct hm, F6, Bk (M := fun a b => M (sel k i (skip m a)) (sel k j b)) (N := fun a b => M (sel k i (skip m a)) b) fun a b ha hb => by rw [Ct hb]]
    grind
  have e2 : det k (fun a b => M (sel k i (skip k a)) (sel k j b)) = det k M := Bk fun a b ha hb => by
    have : skip k a = a := if_pos ha
    rw [this, Ct ha, Ct hb]
  rw [e1, e2, F6, F6]
  have e3 : At k (fun m => cfE M k i m * M m j) = sgn k * At k fun m => sgn m * (det k fun a b => M (sel k i (skip m a)) b) * M m j := by
    rw [← G9]
    refine Ax fun m _ => ?_
    unfold cfE; grind
  rw [e3]
  have := Rp k
  grind
theorem Vu {M : Mat} {k i j : Nat} (h : j < k) : E M k i j = 0 :=
  V0 (r := j) (s := k) (by exact Nat.lt_succ_of_lt h) (by exact Nat.le_refl _) (by exact Nat.ne_of_lt h) fun a _ => by rw [Ct h, F6]
theorem A56 (M : Mat) : det 2 M = M 0 0 * M 1 1 - M 1 0 * M 0 1 := by
  simp [det, At, sgn, skip]
  grind
theorem A8n {M : Mat} {k i j : Nat} (hq : det k M ≠ 0) : det k M * E M (k + 1) i j = E M k k k * E M k i j - E M k i k * E M k k j := by
  let N : Mat := fun a b => M (sel (k + 1) i a) (sel (k + 1) j b)
  let N1 : Mat := upd N k fun b => det k M * N k b + At k fun m => cfE M k k m * N m b
  let N2 : Mat := upd N1 (k + 1) fun b => det k M * N1 (k + 1) b + At k fun m => cfE M k i m * N1 m b
  have hN : det (k + 2) N = E M (k + 1) i j := rfl
  have h1 : det (k + 2) N1 = det k M * det (k + 2) N := Qy (by exact Nat.le_refl _) (by exact Nat.le_of_lt (Nat.le_refl _))
  have h2 : det (k + 2) N2 = det k M * det (k + 2) N1 := Qy (by exact Nat.le_add_right _ _) (by exact Nat.le_refl _)
  have v0 : ∀ a b, a < k → N2 a b = M a (sel (k + 1) j b) := fun a b ha => by
    show upd N1 (k + 1) _ a b = _
    rw [Dn _ _ (by exact Nat.ne_of_lt (Nat.lt_succ_of_lt ha))]
    show upd N k _ a b = _
    rw [Dn _ _ (by exact Nat.ne_of_lt ha)]
    show M (sel (k + 1) i a) (sel (k + 1) j b) = _
    rw [Ct (by exact Nat.lt_succ_of_lt ha)]
  have v1 : ∀ b, N2 k b = E M k k (sel (k + 1) j b) := fun b => by
    show upd N1 (k + 1) _ k b = _
    rw [Dn _ _ (by exact A8h)]
    show upd N k _ k b = _
    rw [Dh, Vk]
    show det k M * M (sel (k + 1) i k) (sel (k + 1) j b) + _ = _
    rw [Ct (by exact Nat.le_refl _)]
    congr 1
    refine Ax fun m hm => ?_
    show cfE M k k m * M (sel (k + 1) i m) (sel (k + 1) j b) = _
    rw [Ct (by exact Nat.lt_succ_of_lt hm)]
  have v2 : ∀ b, N2 (k + 1) b = E M k i (sel (k + 1) j b) := fun b => by
    show upd N1 (k + 1) _ (k + 1) b = _
    rw [Dh, Vk]
    show det k M * upd N k _ (k + 1) b + _ = _
    rw [Dn _ _ (by exact Nat.ne_of_gt (Nat.le_refl _))]
    show det k M * M (sel (k + 1) i (k + 1)) (sel (k + 1) j b) + _ = _
    rw [F6]
    congr 1
    refine Ax fun m hm => ?_
    show cfE M k i m * upd N k _ m b = _
    rw [Dn _ _ (by exact Nat.ne_of_lt hm)]
    show cfE M k i m * M (sel (k + 1) i m) (sel (k + 1) j b) = _
    rw [Ct (by exact Nat.lt_succ_of_lt hm)]
  have hb : det (k + 2) N2 = det k N2 * det (k + 2 - k) (fun a b => N2 (k + a) (k + b)) := Ps (by exact Nat.le_add_right _ _) fun a b ha ha2 hb => by
    have : a = k ∨ a = k + 1 := by (first | lia | omega)
    rcases this with rfl | rfl
    · rw [v1, Ct (by exact Nat.lt_succ_of_lt hb)]; exact Vu hb
    · rw [v2, Ct (by exact Nat.lt_succ_of_lt hb)]; exact Vu hb
  have hk : det k N2 = det k M := Bk fun a b ha hb => by rw [v0 a b ha, Ct (by exact Nat.lt_succ_of_lt hb)]
  rw [show k + 2 - k = 2 by exact Nat.add_sub_cancel_left _ _, A56, hk] at hb
  have w1 : N2 (k + 0) (k + 0) = E M k k k := by rw [Nat.add_zero, v1, Ct (by exact Nat.le_refl _)]
  have w2 : N2 (k + 1) (k + 1) = E M k i j := by rw [v2, F6]
  have w3 : N2 (k + 1) (k + 0) = E M k i k := by rw [v2, Ct (by exact Nat.le_refl _)]; rfl
  have w4 : N2 (k + 0) (k + 1) = E M k k j := by rw [Nat.add_zero, v1, F6]
  rw [w1, w2, w3, w4] at hb
  rw [h2, h1, hN] at hb
  exact Int.eq_of_mul_eq_mul_left hq hb
theorem Sf {n : Nat} {M : Mat} (hn : 0 < n) (h : ∀ a, a < n → M a 0 = 0) : det n M = 0 := by
  obtain ⟨n, rfl⟩ : ∃ m, n = m + 1 := ⟨n - 1, by exact Eq.symm (Nat.sub_add_cancel hn)⟩
  rw [det]
  exact I9 fun i hi => by rw [h i hi]; simp
theorem A0a {M : Mat} {n k : Nat} (hk : k < n) (hq : det k M ≠ 0) (h : ∀ i, k ≤ i → i < n → E M k i k = 0) : det n M = 0 := by
  let R (t : Nat) : Mat := fun a b => if k ≤ a ∧ a < k + t then E M k a b else M a b
  have hR : ∀ t, k + t ≤ n → det n (R t) = det k M ^ t * det n M := by
    intro t
    induction t with
    | zero =>
      intro _
      have : R 0 = M := by funext a b; show (if _ then _ else _) = _; rw [if_neg (by exact fun e0 => Ut e0.1 e0.2)]
      rw [this]; simp
    | succ t ih =>
      intro ht
      have e : R (t + 1) = upd (R t) (k + t) fun b => det k M * (R t) (k + t) b + At k fun m => cfE M k (k + t) m * (R t) m b := by
        funext a b
        show (if _ then _ else _) = _
        unfold upd
        by_cases q : a = k + t
        · rw [if_pos (by exact Ac0 q), if_pos q, q, Vk]
          have e1 : R t (k + t) b = M (k + t) b := if_neg (by exact fun e0 => Nat.lt_irrefl _ e0.2)
          show _ = det k M * R t (k + t) b + At k fun m => cfE M k (k + t) m * R t m b
          rw [e1]
          congr 1
          refine Ax fun m hm => ?_
          have e2 : R t m b = M m b := if_neg (by exact fun e1 => Ut e1.1 hm)
          rw [e2]
        · rw [if_neg q]
          show _ = (if _ then _ else _)
          by_cases q2 : k ≤ a ∧ a < k + t
          · rw [if_pos q2, if_pos (by exact And.intro q2.1 (Nat.lt_succ_of_lt q2.2))]
          · rw [if_neg q2, if_neg (by exact fun e => q2 ⟨e.1, Lk e.2 q⟩)]
      rw [e, Qy (by exact Nat.le_add_right _ _) (by exact ht), ih (by exact Nat.le_of_lt ht), Int.pow_succ]
      grind
  have h1 := hR (n - k) (by exact Nat.le_of_eq (Nat.add_sub_of_le (Nat.le_of_lt hk)))
  have hb : det n (R (n - k)) = det k (R (n - k)) * det (n - k) (fun a b => R (n - k) (k + a) (k + b)) := Ps (by exact Nat.le_of_lt hk) fun a b ha ha2 hb => by
    have : R (n - k) a b = E M k a b := if_pos (by exact Abt ha ha2)
    rw [this]; exact Vu hb
  have hz : det (n - k) (fun a b => R (n - k) (k + a) (k + b)) = 0 := Sf (by exact Nat.sub_pos_of_lt hk) fun a ha => by
    have : R (n - k) (k + a) (k + 0) = E M k (k + a) (k + 0) := if_pos (by exact And.intro (Nat.le_add_right _ _) (Nat.add_lt_add_left ha _))
    rw [this, Nat.add_zero]; exact h _ (by exact Nat.le_add_right _ _) (by exact Nat.add_lt_of_lt_sub' ha)
  rw [hz, Int.mul_zero, h1] at hb
  rcases Int.mul_eq_zero.mp hb with q | q
  · exact absurd q (Int.pow_ne_zero hq)
  · exact q
theorem A0c {M : Mat} {k r s i j : Nat} (hr : k ≤ r) (hs : k ≤ s) : E (fun a => M (swp r s a)) k i j = E M k (swp r s i) j := by
  unfold E
  congr 1
  funext a b
  show M (swp r s (sel k i a)) _ = _
  by_cases q : a < k
  · rw [Ct q, Ct q]
    have : swp r s a = a := by unfold swp; rw [if_neg (by exact Nat.ne_of_lt (Nat.lt_of_lt_of_le q hr)), if_neg (by exact Nat.ne_of_lt (Nat.lt_of_lt_of_le q hs))]
    rw [this]
  · have h1 : sel k i a = i := A20 (by exact oGe q)
    have h2 : sel k (swp r s i) a = swp r s i := A20 (by exact oGe q)
    rw [h1, h2]
theorem Zo {M : Mat} {k r s : Nat} (hr : k ≤ r) (hs : k ≤ s) : det k (fun a => M (swp r s a)) = det k M := Bk fun a b ha hb => by
  have : swp r s a = a := by unfold swp; rw [if_neg (by exact Nat.ne_of_lt (Nat.lt_of_lt_of_le ha hr)), if_neg (by exact Nat.ne_of_lt (Nat.lt_of_lt_of_le ha hs))]
  show M (swp r s a) b = _
  rw [this]
noncomputable def Sy : Nat → Nat
  | 0 => 1
  | n + 1 => (n + 1) * Sy n
theorem Wa {n : Nat} {f : Nat → Int} {B : Nat} (h : ∀ i, i < n → (f i).natAbs ≤ B) : (At n f).natAbs ≤ n * B := by
  induction n with
  | zero => simp [At]
  | succ n ih =>
    rw [Dl]
    have h1 := ih fun i hi => h i (by exact Nat.lt_succ_of_lt hi)
    have h2 := h n (by exact Nat.le_refl _)
    have := Int.natAbs_add_le (At n f) (f n)
    rw [Nat.succ_mul]; exact Nat.le_trans (Int.natAbs_add_le _ _) (Nat.add_le_add h1 h2)
theorem Zx {n : Nat} : ∀ {M : Mat} {B : Nat}, (∀ a b, a < n → b < n → (M a b).natAbs ≤ B) → (det n M).natAbs ≤ Sy n * B ^ n := by
  induction n with
  | zero => intro M B _; simp [det, Sy]
  | succ n ih =>
    intro M B h
    unfold det
    have := Wa (n := n + 1) (f := fun i => sgn i * M i 0 * det n (fun a b => M (skip i a) (b + 1))) (B := B * (Sy n * B ^ n)) fun i hi => by
      rw [Int.natAbs_mul, Int.natAbs_mul]
      have h1 : (sgn i).natAbs = 1 := by unfold sgn; split <;> rfl
      rw [h1, Nat.one_mul]
      exact Nat.mul_le_mul (h i 0 hi (by exact Nat.succ_pos _)) (ih fun a b ha hb => h _ _ (Ia hi ha) (by exact Nat.lt_succ_of_le hb))
    refine Nat.le_trans this (Nat.le_of_eq ?_)
    rw [show Sy (n + 1) = (n + 1) * Sy n from rfl, Nat.pow_succ]
    generalize Sy n = x
    generalize B ^ n = y
    grind
end Mine
namespace Mine
open PySem
theorem Hm : ∀ {a b : List Int}, a.Pairwise (· < ·) → b.Pairwise (· < ·) → (∀ x, x ∈ a ↔ x ∈ b) → a = b
  | [], [], _, _, _ => rfl
  | [], y :: b, _, _, h => absurd ((h y).mpr List.mem_cons_self) (by simp)
  | x :: a, [], _, _, h => absurd ((h x).mp List.mem_cons_self) (by simp)
  | x :: a, y :: b, ha, hb, h => by
    obtain ⟨a1, a2⟩ := List.pairwise_cons.mp ha
    obtain ⟨b1, b2⟩ := List.pairwise_cons.mp hb
    have e : x = y := by
      rcases List.mem_cons.mp ((h x).mp List.mem_cons_self) with e | m
      · exact e
      · rcases List.mem_cons.mp ((h y).mpr List.mem_cons_self) with e | m'
        · exact e.symm
        · have := a1 y m'; have := b1 x m; exact Ac3 (by assumption) (Int.le_of_lt this)
    subst e
    rw [Hm a2 b2 fun z => ?_]
    constructor
    · intro m
      rcases List.mem_cons.mp ((h z).mp (List.mem_cons_of_mem _ m)) with e | m'
      · have := a1 z m; (first | lia | omega)
      · exact m'
    · intro m
      rcases List.mem_cons.mp ((h z).mpr (List.mem_cons_of_mem _ m)) with e | m'
      · have := b1 z m; (first | lia | omega)
      · exact m'
theorem Hc {x z : Int} : ∀ {l : List Int}, z ∈ C9 x l ↔ z = x ∨ z ∈ l
  | [] => by unfold C9; simp
  | y :: l => by
    unfold C9
    split
    · simp
    · rw [List.mem_cons, Hc, List.mem_cons]
      constructor <;> rintro (h | h | h) <;> simp [h]
theorem Ks {z : Int} : ∀ {l : List Int}, z ∈ C7 l ↔ z ∈ l
  | [] => Iff.rfl
  | x :: l => by unfold C7; rw [Hc, Ks, List.mem_cons]
theorem Me {x : Int} : ∀ {l : List Int}, l.Pairwise (· ≤ ·) → (C9 x l).Pairwise (· ≤ ·)
  | [], _ => by unfold C9; exact List.pairwise_singleton _ _
  | y :: l, h => by
    obtain ⟨h1, h2⟩ := List.pairwise_cons.mp h
    unfold C9
    split
    · rename_i q
      exact List.pairwise_cons.mpr ⟨fun z hz => by
        rcases List.mem_cons.mp hz with rfl | hz
        · exact q
        · exact Int.le_trans q (h1 z hz), h⟩
    · rename_i q
      exact List.pairwise_cons.mpr ⟨fun z hz => by
        rcases Hc.mp hz with rfl | hz
        · exact Int.le_of_lt (Ab0 q)
        · exact h1 z hz, Me h2⟩
theorem Oe : ∀ (l : List Int), (C7 l).Pairwise (· ≤ ·)
  | [] => .nil
  | x :: l => by unfold C7; exact Me (Oe l)
theorem Nr (x : Int) (l : List Int) : B6 (x :: l) = (match B6 l with
    | [] => [x]
    | y :: r' => if x = y then y :: r' else x :: y :: r') := rfl
theorem O6 {x : Int} : ∀ {l : List Int}, (∀ z ∈ l, x ≤ z) → ∀ z ∈ B6 l, x ≤ z
  | [], _, z, h => by cases h
  | y :: l, h, z, hz => by
    rw [Nr] at hz
    have ih := O6 fun z hz => h z (List.mem_cons_of_mem _ hz)
    have hy := h y List.mem_cons_self
    cases e : B6 l with
    | nil => rw [e] at hz; simp at hz; exact Aas hy (Eq.symm hz)
    | cons u r =>
      rw [e] at hz ih
      dsimp only at hz
      split at hz
      · exact ih z hz
      · rcases List.mem_cons.mp hz with rfl | hz
        · exact hy
        · exact ih z hz
theorem J1 : ∀ {l : List Int}, l.Pairwise (· ≤ ·) → (B6 l).Pairwise (· < ·) ∧ ∀ z, z ∈ B6 l ↔ z ∈ l
  | [], _ => ⟨.nil, fun z => Iff.rfl⟩
  | x :: l, h => by
    obtain ⟨h1, h2⟩ := List.pairwise_cons.mp h
    obtain ⟨i1, i2⟩ := J1 h2
    have hh := O6 h1
    rw [Nr]
    cases e : B6 l with
    | nil =>
      rw [e] at i2
      refine ⟨List.pairwise_singleton _ _, fun z => ?_⟩
      rw [List.mem_cons, List.mem_cons, ← i2 z]
    | cons y r =>
      rw [e] at i1 i2 hh
      dsimp only
      by_cases q : x = y
      · rw [if_pos q]
        refine ⟨i1, fun z => ?_⟩
        rw [i2 z, List.mem_cons]
        constructor
        · exact .inr
        · rintro (rfl | m)
          · exact (i2 z).mp (by rw [q]; exact List.mem_cons_self)
          · exact m
      · rw [if_neg q]
        refine ⟨List.pairwise_cons.mpr ⟨fun z hz => ?_, i1⟩, fun z => ?_⟩
        · have a1 := hh z hz
          have a2 := hh y List.mem_cons_self
          rcases List.mem_cons.mp hz with rfl | hz
          · (first | lia | omega)
          · have := (List.pairwise_cons.mp i1).1 z hz; exact Int.lt_of_le_of_lt a2 this
        · rw [List.mem_cons, i2 z, List.mem_cons]
end Mine
namespace Mine
open PySem
noncomputable def Res.sat {α : Type} (r : Res α) (K : α → A0 → Prop) : Prop := match r with
  | .ok a H => K a H
  | _ => False
noncomputable def SR.sat (r : SR) (N : A8 → A0 → Prop) (R : AV → A0 → Prop) : Prop := match r with
  | .next ρ H => N ρ H
  | .ret v H => R v H
  | _ => False
theorem Res.sat_ok {α : Type} {a : α} {H : A0} {K : α → A0 → Prop} : (Res.ok a H).sat K = K a H := rfl
theorem Res.sat_get {α β : Type} {r : Res α} {f : α → A0 → Res β} {K : β → A0 → Prop} : (r.get f).sat K = r.sat fun a H => (f a H).sat K := by cases r <;> rfl
theorem Res.sat_mono {α : Type} {r : Res α} {K K' : α → A0 → Prop} (h : r.sat K) (q : ∀ a H, K a H → K' a H) : r.sat K' := by
  cases r with
  | ok a H => exact q a H h
  | exc c H => exact h
  | bad => exact h
inductive A71 {α : Type} (r : Res α) (K : α → A0 → Prop) : Prop
  | mk (a : α) (H : A0) (e : r = .ok a H) (k : K a H) : A71 r K
theorem Res.sat_ex {α : Type} {r : Res α} {K : α → A0 → Prop} (h : r.sat K) : A71 r K := by
  cases r with
  | ok a H => exact ⟨a, H, rfl, h⟩
  | exc c H => exact h.elim
  | bad => exact h.elim
theorem SR.sat_mono {r : SR} {N N' : A8 → A0 → Prop} {R R' : AV → A0 → Prop} (h : r.sat N R) (q : ∀ a H, N a H → N' a H) (q' : ∀ a H, R a H → R' a H) : r.sat N' R' := by
  cases r with
  | next ρ H => exact q _ _ h
  | ret v H => exact q' _ _ h
  | exc c H => exact h
  | bad => exact h
section
variable {strF : Bi} {cf : Nat → List AV → A0 → Res AV} {sc : List Int} {b : Nat} {ρ : A8} {H : A0} {N : A8 → A0 → Prop} {R : AV → A0 → Prop}
theorem Xs : (Ai strF cf sc b .nil ρ H).sat N R = N ρ H := rfl
theorem C1 {s : PS} {ss : PSs} : (Ai strF cf sc b (.cons s ss) ρ H).sat N R = (Fy strF cf sc b s ρ H).sat (fun ρ H => (Ai strF cf sc b ss ρ H).sat N R) R := by
  show SR.sat (match Fy strF cf sc b s ρ H with | .next ρ H => Ai strF cf sc b ss ρ H | r => r) N R = _
  cases Fy strF cf sc b s ρ H <;> rfl
theorem Mu {i : Nat} {e : PE} : (Fy strF cf sc b (.assign i e) ρ H).sat N R = (Aa strF cf sc b e ρ H).sat fun v H => N (ρ.set i (some v)) H := by
  show SR.sat (match Aa strF cf sc b e ρ H with | .ok v H => .next (ρ.set i (some v)) H | _ => .bad) N R = _
  cases Aa strF cf sc b e ρ H <;> rfl
theorem Sm {is : List Nat} {e : PE} : (Fy strF cf sc b (.assigns is e) ρ H).sat N R = (Aa strF cf sc b e ρ H).sat fun v H => ∃ vs ρ', v = .tup vs ∧ Eg is vs ρ = some ρ' ∧ N ρ' H := by
  show SR.sat (match Aa strF cf sc b e ρ H with
      | .ok v H => (match v with
        | .tup vs => (match Eg is vs ρ with | some ρ' => .next ρ' H | none => .bad)
        | _ => .bad)
      | _ => .bad) N R = _
  cases Aa strF cf sc b e ρ H with
  | ok v H =>
    cases v with
    | tup vs =>
      simp only [Res.sat]
      cases e' : Eg is vs ρ with
      | none => simp [SR.sat, e']
      | some ρ' => simp [SR.sat, e']
    | _ => simp [SR.sat, Res.sat]
  | exc c H => rfl
  | bad => rfl
theorem A1g {r : Res Unit} : SR.sat (match r with | .ok _ H => .next ρ H | _ => .bad) N R = r.sat fun _ H => N ρ H := by cases r <;> rfl
theorem W6 {a i e : PE} : (Fy strF cf sc b (.setIdx a i e) ρ H).sat N R = (Aa strF cf sc b e ρ H).sat fun x H => (Aa strF cf sc b a ρ H).sat fun v H => (Aa strF cf sc b i ρ H).sat fun k H => (Gv b v k x H).sat fun _ H => N ρ H := by
  simp only [← Res.sat_get]
  exact A1g
theorem Rr {c : PE} {t e : PSs} : (Fy strF cf sc b (.ite c t e) ρ H).sat N R = (Bp strF cf sc b c ρ H).sat fun v H => if v then (Ai strF cf sc b t ρ H).sat N R else (Ai strF cf sc b e ρ H).sat N R := by
  show SR.sat (match Bp strF cf sc b c ρ H with
      | .ok true H => Ai strF cf sc b t ρ H
      | .ok false H => Ai strF cf sc b e ρ H
      | _ => .bad) N R = _
  cases Bp strF cf sc b c ρ H with
  | ok v H => cases v <;> rfl
  | exc c H => rfl
  | bad => rfl
theorem A0q {i : Nat} {it : It} {body : PSs} : (Fy strF cf sc b (.for1 i it body) ρ H).sat N R = (Dy strF cf sc b it ρ H).sat fun p H => (Ed p.2 (fun v ρ H => Ai strF cf sc b body (ρ.set i (some v)) H) p.1 ρ H).sat N R := by
  show SR.sat (match Dy strF cf sc b it ρ H with
      | .ok p H => Ed p.2 (fun v ρ H => Ai strF cf sc b body (ρ.set i (some v)) H) p.1 ρ H
      | _ => .bad) N R = _
  cases Dy strF cf sc b it ρ H <;> rfl
theorem A44 {i j : Nat} {it : It} {body : PSs} : (Fy strF cf sc b (.for2 i j it body) ρ H).sat N R = (Dy strF cf sc b it ρ H).sat fun p H => (Ed p.2 (fun v ρ H => L8 (fun x y => Ai strF cf sc b body ((ρ.set i (some x)).set j (some y)) H) v) p.1 ρ H).sat N R := by
  show SR.sat (match Dy strF cf sc b it ρ H with
      | .ok p H => Ed p.2 (fun v ρ H => L8 (fun x y => Ai strF cf sc b body ((ρ.set i (some x)).set j (some y)) H) v) p.1 ρ H
      | _ => .bad) N R = _
  cases Dy strF cf sc b it ρ H <;> rfl
theorem Uk {t : Bool} {c : Nat} {H : A0} : (Sn t c H).sat N R = False := by cases t <;> rfl
theorem M1 {e : PE} : (Fy strF cf sc b (.ret e) ρ H).sat N R = (Aa strF cf sc b e ρ H).sat R := by
  show SR.sat (match Aa strF cf sc b e ρ H with | .ok v H => .ret v H | .exc c H => Sn (Ki e) c H | .bad => .bad) N R = _
  cases Aa strF cf sc b e ρ H with
  | ok => rfl
  | exc => exact Uk
  | bad => rfl
theorem A3c {e : PE} : (Fy strF cf sc b (.expr e) ρ H).sat N R = (Aa strF cf sc b e ρ H).sat fun _ H => N ρ H := by
  show SR.sat (match Aa strF cf sc b e ρ H with | .ok _ H => .next ρ H | .exc c H => Sn (Ki e) c H | .bad => .bad) N R = _
  cases Aa strF cf sc b e ρ H with
  | ok => rfl
  | exc => exact Uk
  | bad => rfl
theorem Nc {P : Nat → Option FnI} {n k : Nat} {f : FnI} {args : List AV} {K : AV → A0 → Prop} (hk : P k = some f) (hl : args.length = f.np) :
    (Ah strF P sc (n + 1) k args H).sat K = (Ai strF (Ah strF P sc n) sc H.length f.body (args.map some ++ List.replicate (f.nv - f.np) none) H).sat (fun _ H => K .none H) K := by
  rw [Ah, hk]
  simp only [hl, if_true]
  cases Ai strF (Ah strF P sc n) sc H.length f.body (args.map some ++ List.replicate (f.nv - f.np) none) H <;> rfl
theorem J8 {step : AV → A8 → A0 → SR} (I : Int → A8 → A0 → Prop) {x y : Int} (hxy : x ≤ y) (h0 : I x ρ H)
    (hs : ∀ i ρ H, x ≤ i → i < y → I i ρ H → (step (.int i) ρ H).sat (I (i + 1)) R) (hN : ∀ ρ H, I y ρ H → N ρ H) : (Ed [] step (B1 x y) ρ H).sat N R := by
  obtain ⟨d, hd⟩ : ∃ d : Nat, y = x + d := ⟨(y - x).toNat, by exact Abb hxy⟩
  induction d generalizing x ρ H with
  | zero =>
    have : B1 x y = [] := by unfold B1; rw [show (y - x).toNat = 0 by exact Aa7 hd]; rfl
    rw [this]
    show N ρ H
    exact hN _ _ (by rw [show y = x by exact Eq.trans hd (Int.add_zero _)]; exact h0)
  | succ d ih =>
    have : B1 x y = .int x :: B1 (x + 1) y := Hu (by exact oR6 hd)
    rw [this]
    unfold Ed
    have h1 := hs x ρ H (by exact Int.le_refl _) (by exact oR6 hd) h0
    cases e : step (.int x) ρ H with
    | next ρ' H' =>
      rw [e] at h1
      simp only [List.all_nil, if_true]
      exact ih (by exact Ab9 hd) h1 (fun i ρ H hi hy q => hs i ρ H (by exact Int.le_of_lt hi) hy q) (by (first | lia | omega))
    | ret v H' => rw [e] at h1; exact h1
    | exc c H' => rw [e] at h1; exact h1
    | bad => rw [e] at h1; exact h1
end
end Mine
namespace Mine
open PySem
noncomputable def P9 : FnI := ⟨2, 2, .cons (.ite (.cmp .Lt (.var 1) (.prim .len (.cons (.var 0) .nil))) (.cons (.ret (.idx (.var 0) (.var 1))) .nil) .nil) (.cons (.ret (.int 0)) .nil)⟩
noncomputable def Qn : FnI := ⟨2, 2, .cons (.ret (.bin .Mod (.bin .Add (.bin .Mult (.call 5 (.cons (.var 0) (.cons (.var 1) .nil))) (.int 48271)) (.bin .Mult (.bin .Mult (.int 7919) (.var 1)) (.var 1))) (.int 1000003))) .nil⟩
noncomputable def La : FnI := ⟨2, 3, .cons (.for1 2 (.range2 (.var 1) (.prim .len (.cons (.var 0) .nil))) (.cons (.ite (.cmp .NotEq (.idx (.idx (.var 0) (.var 2)) (.var 1)) (.int 0)) (.cons (.ret (.var 2)) .nil) .nil) .nil)) (.cons (.ret .none) .nil)⟩
section
variable {strF : Bi} {sc : List Int} {P : Nat → Option FnI} {H : A0} {n : Nat}
noncomputable def L4 (sc : List Int) (k : Nat) : Int := sc.getD k 0
noncomputable def mix (sc : List Int) (k : Nat) : Int := (L4 sc k * 48271 + 7919 * k * k).fmod 1000003
theorem Yv (h5 : P 5 = some P9) (k : Nat) : Ah strF P sc (n + 1) 5 [.scr, .int k] H = .ok (.int (L4 sc k)) H := by
  have : (Ah strF P sc (n + 1) 5 [.scr, .int k] H).sat fun v H' => v = .int (L4 sc k) ∧ H' = H := by
    rw [Nc h5 rfl]
    simp only [P9, C1, Rr, M1, Xs, Xl, Xj, A2j, A1k, Wo, A0v, A26, A1o, A2n, M9, A3m, A6u, Rm, Ma, Qx, W4, Oc, Qs, O7, N5, Nk, L6, Xo, Ms, A0x, A1u, A81, Aar, A8r, Wm, Ws, Res.sat_get, Res.sat_ok, List.map, List.cons_append, List.nil_append, List.getElem?_cons_zero, List.getElem?_cons_succ, Res.get, Res.thn, A1z, Np, A42, Rg, O9, K0, A0o, A30, A01, A1n, A0z, Xv, Uo, Te, Q2, Yn, A85, A86, A0y, A8g, A17, A0n, Aa3, A8z, Xw, Abl, Bx]
    by_cases h : k < sc.length
    · have : decide ((k : Int) < (sc.length : Int)) = true := by simpa using h
      simp [this, Res.sat, h, L4]
    · have : decide ((k : Int) < (sc.length : Int)) = false := by simpa using h
      have hn : sc[k]? = none := List.getElem?_eq_none (by exact oGe h)
      simp [h, hn, Res.sat, L4]
  obtain ⟨v, H', e, rfl, rfl⟩ := Res.sat_ex this
  exact e
theorem Io {i : Int} (h : i.natAbs < 2 ^ 60) : Oo i = true := by unfold Oo; simpa using h
theorem I4 (h5 : P 5 = some P9) (h6 : P 6 = some Qn) {k : Nat} (hk : k < 1000) : Ah strF P sc (n + 2) 6 [.scr, .int k] H = .ok (.int (mix sc k)) H := by
  have : (Ah strF P sc (n + 2) 6 [.scr, .int k] H).sat fun v H' => v = .int (mix sc k) ∧ H' = H := by
    rw [Nc h6 rfl]
    have m1 : E8 (L4 sc k) 48271 = true := by unfold E8; rw [Io (i := 48271) (by decide)]; simp
    have m2 : E8 7919 k = true := by unfold E8; rw [Io (i := 7919) (by decide)]; simp
    have m3 : E8 (7919 * (k : Int)) k = true := by unfold E8; rw [Io (i := (k : Int)) (Nat.lt_trans hk (by decide))]; simp
    simp only [Qn, C1, M1, Xs, Xl, Xj, A2j, A1k, Wo, A0v, A26, A1o, A2n, M9, A3m, A6u, Rm, Ma, Qx, W4, Oc, Qs, O7, N5, Nk, L6, Xo, Ms, Res.sat_get, Res.sat_ok, List.map, List.cons_append, List.nil_append, List.getElem?_cons_zero, List.getElem?_cons_succ, Res.get, Res.thn, Di, Cp, Tc, A0k, A28, Ow, Yv h5, m1, m2, m3, if_true]
    simp [Res.sat, mix]
  obtain ⟨v, H', e, rfl, rfl⟩ := Res.sat_ex this
  exact e
end
noncomputable def Ee (n : Nat) (f : Nat → Int) : List AV := (List.range n).map fun j => .int (f j)
theorem Bj {n : Nat} {f : Nat → Int} : (Ee n f).length = n := by unfold Ee; simp
theorem F0 {n : Nat} {f : Nat → Int} {j : Nat} (h : j < n) : (Ee n f)[j]? = some (.int (f j)) := by
  unfold Ee; rw [List.getElem?_map, List.getElem?_range h]; rfl
theorem A1t {n : Nat} {f : Nat → Int} {j : Nat} {x : Int} : (Ee n f).set j (.int x) = Ee n fun b => if b = j then x else f b := by
  apply List.ext_getElem?
  intro i
  by_cases hi : i < n
  · rw [List.getElem?_set, F0 hi, Bj]
    by_cases q : j = i
    · subst q; rw [if_pos rfl, if_pos hi, F0 hi, if_pos rfl]
    · rw [if_neg q, F0 hi, if_neg (Ne.symm q)]
  · rw [List.getElem?_eq_none (by simpa [Bj] using hi), List.getElem?_eq_none (by simpa [Bj] using hi)]
theorem Jc {n : Nat} {f g : Nat → Int} (h : ∀ j, j < n → f j = g j) : Ee n f = Ee n g := by
  unfold Ee
  exact List.map_congr_left fun j hj => by rw [h j (List.mem_range.mp hj)]
structure Z0 (H : A0) (t : Nat) (qs : List Nat) (n : Nat) (A : Mat) : Prop where
  top : H[t]? = some (.list (qs.map .ref))
  len : qs.length = n
  row : ∀ {i q : Nat}, qs[i]? = some q → H[q]? = some (.list (Ee n (A i)))
section
variable {sc : List Int} {H : A0} {t n : Nat} {qs : List Nat} {A : Mat}
theorem Cb {r : Nat} {xs : List AV} {x : AV} {k : Nat} (h : H[r]? = some (.list xs)) (hx : xs[k]? = some x) : Bx sc (.ref r) (.int k) H = .ok x H := by
  have hk : k < xs.length := (List.getElem?_eq_some_iff.mp hx).1
  unfold Bx items at?
  simp only [h]
  rw [if_pos ⟨by exact oNN _, by exact J6 hk⟩]
  simp [hx]
inductive AtR (sc : List Int) (H : A0) (t : Nat) (qs : List Nat) (n : Nat) (A : Mat) (i : Nat) : Prop
  | mk (q : Nat) (e : qs[i]? = some q) (g : Bx sc (.ref t) (.int i) H = .ok (.ref q) H) (r : H[q]? = some (.list (Ee n (A i)))) : AtR sc H t qs n A i
theorem Z0.at (T : Z0 H t qs n A) {i : Nat} (hi : i < n) : AtR sc H t qs n A i := by
  have hl : i < qs.length := by rw [T.len]; exact hi
  refine ⟨qs[i], List.getElem?_eq_getElem hl, Cb T.top (by rw [List.getElem?_map, List.getElem?_eq_getElem hl]; rfl), T.row (List.getElem?_eq_getElem hl)⟩
theorem Ev {q i j : Nat} (h : H[q]? = some (.list (Ee n (A i)))) (hj : j < n) : Bx sc (.ref q) (.int j) H = .ok (.int (A i j)) H := Cb h (F0 hj)
end
end Mine
namespace Mine
open PySem
structure Gl (H0 H : A0) (t : Nat) (qs : List Nat) (n : Nat) (A : Mat) : Prop where
  rd : Z0 H t qs n A
  pre : H0 <+: H
  ht : H0.length ≤ t
  inj : ∀ {i j q : Nat}, qs[i]? = some q → qs[j]? = some q → i = j
  tq : ∀ {i : Nat}, qs[i]? ≠ some t
  ge : ∀ {i q : Nat}, qs[i]? = some q → H0.length ≤ q
theorem D4 {H0 H : A0} {r : Nat} {o : Bw} (p : H0 <+: H) (h : H0.length ≤ r) : H0 <+: H.set r o := by
  obtain ⟨x, rfl⟩ := p
  rw [List.set_append_right _ _ h]
  exact List.prefix_append ..
section
variable {H0 H : A0} {t n : Nat} {qs : List Nat} {A : Mat}
theorem Gl.cell (T : Gl H0 H t qs n A) {i j q : Nat} {x : Int} (hq : qs[i]? = some q) (hj : j < n) :
    Gv H0.length (.ref q) (.int j) (.int x) H = .ok () (H.set q (.list (Ee n fun b => if b = j then x else A i b))) ∧
    Gl H0 (H.set q (.list (Ee n fun b => if b = j then x else A i b))) t qs n fun a b => if a = i ∧ b = j then x else A a b := by
  have hr := T.rd.row hq
  have hlt : q < H.length := (List.getElem?_eq_some_iff.mp hr).1
  constructor
  · unfold Gv
    simp only [hr, Bj]
    rw [if_pos ⟨T.ge hq, by exact oNN _, by exact J6 hj⟩]
    simp [A1t]
  · refine ⟨⟨?_, T.rd.len, ?_⟩, D4 T.pre (T.ge hq), T.ht, T.inj, T.tq, T.ge⟩
    · rw [List.getElem?_set_ne (fun e => T.tq (e ▸ hq))]; exact T.rd.top
    · intro i' q' hq'
      by_cases e : i' = i
      · subst e
        rw [hq] at hq'; cases hq'
        rw [List.getElem?_set_self hlt]
        congr 1; congr 1
        exact Jc fun b _ => by by_cases h : b = j <;> simp [h]
      · have : q ≠ q' := fun e' => e (T.inj hq' (e' ▸ hq))
        rw [List.getElem?_set_ne this, T.rd.row hq']
        congr 1; congr 1
        exact Jc fun b _ => by simp [e]
theorem K1 {r s p q : Nat} (hp : qs[r]? = some p) (hq : qs[s]? = some q) (hrs : r ≠ s) (i : Nat) : ((qs.set r q).set s p)[i]? = qs[swp r s i]? := by
  have hr : r < qs.length := (List.getElem?_eq_some_iff.mp hp).1
  have hs : s < qs.length := (List.getElem?_eq_some_iff.mp hq).1
  unfold swp
  by_cases e1 : i = r
  · subst e1
    rw [if_pos rfl, List.getElem?_set_ne (Ne.symm hrs), List.getElem?_set_self hr, hq]
  · rw [if_neg e1]
    by_cases e2 : i = s
    · subst e2
      rw [if_pos rfl, List.getElem?_set_self (by simpa using hs), hp]
    · rw [if_neg e2, List.getElem?_set_ne (Ne.symm e2), List.getElem?_set_ne (Ne.symm e1)]
theorem Wq (r s i : Nat) : swp r s (swp r s i) = i := by unfold swp; split <;> split <;> (try split) <;> (first | lia | omega)
theorem Gl.swap (T : Gl H0 H t qs n A) {r s p q : Nat} (hp : qs[r]? = some p) (hq : qs[s]? = some q) (hrs : r ≠ s) {o : Bw} :
    Gl H0 ((H.set t o).set t (.list (((qs.set r q).set s p).map .ref))) t ((qs.set r q).set s p) n fun a => A (swp r s a) := by
  have hlt : t < H.length := (List.getElem?_eq_some_iff.mp T.rd.top).1
  refine ⟨⟨by rw [List.getElem?_set_self (by simpa using hlt)], by simp [T.rd.len], ?_⟩, D4 (D4 T.pre T.ht) T.ht, ?_, ?_, ?_, ?_⟩
  · intro i q' e
    rw [K1 hp hq hrs] at e
    have : t ≠ q' := fun e' => T.tq (e' ▸ e)
    rw [List.getElem?_set_ne this, List.getElem?_set_ne this, T.rd.row e]
  · exact T.ht
  · intro i j q' e1 e2
    rw [K1 hp hq hrs] at e1 e2
    have := T.inj e1 e2
    have h := congrArg (swp r s) this
    rwa [Wq, Wq] at h
  · intro i e
    rw [K1 hp hq hrs] at e; exact T.tq e
  · intro i q' e
    rw [K1 hp hq hrs] at e; exact T.ge e
theorem Gl.congr (T : Gl H0 H t qs n A) {B : Mat} (h : ∀ a b, a < n → b < n → A a b = B a b) : Gl H0 H t qs n B :=
  ⟨⟨T.rd.top, T.rd.len, fun {i q} e => by
    rw [T.rd.row e]
    have : i < n := by rw [← T.rd.len]; exact (List.getElem?_eq_some_iff.mp e).1
    congr 1; congr 1
    exact Jc fun b hb => h i b this hb⟩, T.pre, T.ht, T.inj, T.tq, T.ge⟩
end
theorem A24 : ∀ k, k < 8 → Sy (k + 1) * (2 ^ 60) ^ (k + 1) < 2 ^ 5000 := by decide
theorem Xe {M : Mat} {n k i j : Nat} (hB : ∀ a b, a < n → b < n → (M a b).natAbs ≤ 2 ^ 60) (hn : n ≤ 8) (hk : k < n) (hi : i < n) (hj : j < n) : (E M k i j).natAbs < big :=
  Nat.lt_of_le_of_lt (Zx (n := k + 1) (M := fun a b => M (sel k i a) (sel k j b)) (B := 2 ^ 60) fun a b ha hb => hB _ _ (by unfold sel; split <;> (first | exact Ew (by assumption) hk | exact hi)) (by unfold sel; split <;> (first | exact Ew (by assumption) hk | exact hj))) (A24 k (Nat.lt_of_lt_of_le hk hn))
theorem Zl {a b : Int} (ha : a.natAbs < big) (hb : b.natAbs < big) : E8 a b = true := by unfold E8; simp [ha, hb]
noncomputable def Oz : PS := .for1 7 (.range2 (.bin .Add (.var 3) (.int 1)) (.prim .len (.cons (.var 0) .nil))) (.cons (.assign 8 (.bin .Sub (.bin .Mult (.idx (.idx (.var 0) (.var 6)) (.var 7)) (.idx (.idx (.var 0) (.var 3)) (.var 3))) (.bin .Mult (.idx (.idx (.var 0) (.var 6)) (.var 3)) (.idx (.idx (.var 0) (.var 3)) (.var 7))))) (.cons (.setIdx (.idx (.var 0) (.var 6)) (.var 7) (.bin .FloorDiv (.var 8) (.var 2))) .nil))
noncomputable def A1a : PS := .for1 6 (.range2 (.bin .Add (.var 3) (.int 1)) (.prim .len (.cons (.var 0) .nil))) (.cons Oz .nil)
section
variable {strF : Bi} {cf : Nat → List AV → A0 → Res AV} {sc : List Int} {H0 H : A0} {t n k : Nat} {qs : List Nat} {A M : Mat} {sg last : Int} {ρ : A8} {N : A8 → A0 → Prop} {R : AV → A0 → Prop}
noncomputable def Hr (M A : Mat) (k i p : Nat) : Mat := fun a b => if k < a ∧ k < b ∧ (a < i ∨ (a = i ∧ b < p)) then E M (k + 1) a b else A a b
end
end Mine
namespace Mine
open PySem
theorem K9 {H : A0} {r : Nat} {xs : List AV} (h : H[r]? = some (.list xs)) : G0 H r xs = true := by
  unfold G0
  rw [h]
  simp
theorem Ab {H H' : A0} {r : Nat} {o : Bw} (p : H <+: H') (h : H[r]? = some o) : H'[r]? = some o := by
  obtain ⟨x, rfl⟩ := p
  rw [List.getElem?_append_left (List.getElem?_eq_some_iff.mp h).1]; exact h
noncomputable def Mr : FnI := ⟨1, 9, .cons (.assign 0 (.comp1 (.prim .list (.cons (.var 0) .nil)) (.of (.var 0)) .none)) (.cons (.assign 1 (.int 1)) (.cons (.assign 2 (.int 1)) (.cons (.for1 3 (.range1 (.prim .len (.cons (.var 0) .nil))) (.cons (.assign 4 (.call 19 (.cons (.var 0) (.cons (.var 3) .nil)))) (.cons (.ite (.cmp .Is (.var 4) .none) (.cons (.ret (.int 0)) .nil) .nil) (.cons (.ite (.cmp .NotEq (.var 4) (.var 3)) (.cons (.assign 5 (.idx (.var 0) (.var 3))) (.cons (.setIdx (.var 0) (.var 3) (.idx (.var 0) (.var 4))) (.cons (.setIdx (.var 0) (.var 4) (.var 5)) (.cons (.assign 1 (.neg (.var 1))) .nil)))) .nil) (.cons (.for1 6 (.range2 (.bin .Add (.var 3) (.int 1)) (.prim .len (.cons (.var 0) .nil))) (.cons (.for1 7 (.range2 (.bin .Add (.var 3) (.int 1)) (.prim .len (.cons (.var 0) .nil))) (.cons (.assign 8 (.bin .Sub (.bin .Mult (.idx (.idx (.var 0) (.var 6)) (.var 7)) (.idx (.idx (.var 0) (.var 3)) (.var 3))) (.bin .Mult (.idx (.idx (.var 0) (.var 6)) (.var 3)) (.idx (.idx (.var 0) (.var 3)) (.var 7))))) (.cons (.setIdx (.idx (.var 0) (.var 6)) (.var 7) (.bin .FloorDiv (.var 8) (.var 2))) .nil))) .nil)) (.cons (.assign 2 (.idx (.idx (.var 0) (.var 3)) (.var 3))) .nil)))))) (.cons (.ret (.bin .Mult (.var 1) (.var 2))) .nil))))⟩
noncomputable def Aaa : PSs := .cons (.assign 5 (.idx (.var 0) (.var 3))) (.cons (.setIdx (.var 0) (.var 3) (.idx (.var 0) (.var 4))) (.cons (.setIdx (.var 0) (.var 4) (.var 5)) (.cons (.assign 1 (.neg (.var 1))) .nil)))
noncomputable def A7k : PSs := .cons A1a (.cons (.assign 2 (.idx (.idx (.var 0) (.var 3)) (.var 3))) .nil)
noncomputable def A9c : PSs := .cons (.assign 4 (.call 19 (.cons (.var 0) (.cons (.var 3) .nil)))) (.cons (.ite (.cmp .Is (.var 4) .none) (.cons (.ret (.int 0)) .nil) .nil) (.cons (.ite (.cmp .NotEq (.var 4) (.var 3)) Aaa .nil) A7k))
theorem A5m (M : Mat) (i j : Nat) : E M 0 i j = M i j := by simp [E, det, At, sgn, sel]
theorem A14 {r s n i : Nat} (hr : r < n) (hs : s < n) (hi : i < n) : swp r s i < n := by unfold swp; split <;> (try split) <;> (first | exact hs | exact hr | exact hi)
theorem A94 {r s k i : Nat} (hr : k ≤ r) (hs : k ≤ s) (hi : k ≤ i) : k ≤ swp r s i := by unfold swp; split <;> (try split) <;> (first | exact hs | exact hr | exact hi)
structure A27 (M0 : Mat) (H0 : A0) (t n k : Nat) (sg last : Int) (M A : Mat) (qs : List Nat) (H : A0) : Prop where
  T : Gl H0 H t qs n A
  hA : ∀ i j, k ≤ i → i < n → k ≤ j → j < n → A i j = E M k i j
  hB : ∀ a b, a < n → b < n → (M a b).natAbs ≤ 2 ^ 60
  hq : det k M = last
  hq0 : last ≠ 0
  hs : sg = 1 ∨ sg = -1
  hd : sg * det n M = det n M0
  hl : last.natAbs < big
end Mine
namespace Mine
open PySem
theorem Ae (H : A0) (o : Bw) : (H ++ [o])[H.length]? = some o := by simp
theorem Ad (H X : A0) : H <+: H ++ X := List.prefix_append ..
section
variable {strF : Bi} {sc : List Int} {P : Nat → Option FnI} {H : A0} {n m : Nat} {ρ : A8}
theorem Nl {step : AV → A0 → Res (Option AV)} (f : Nat → Int) : ∀ (l : List Nat), (∀ k ∈ l, step (.int k) H = .ok (some (.int (f k))) H) →
    Bh [] step (l.map fun (k : Nat) => AV.int (k : Int)) H = .ok (l.map fun k => AV.int (f k)) H
  | [], _ => rfl
  | k :: l, h => by
    rw [List.map_cons, Bh, h k List.mem_cons_self]
    simp only [Res.get, List.all_nil, if_true, Nl f l fun k hk => h k (List.mem_cons_of_mem _ hk), Wx, List.map_cons]
theorem Ol (n : Nat) : B1 0 n = (List.range n).map fun (k : Nat) => AV.int (k : Int) := by
  unfold B1
  simp
end
end Mine
namespace Mine
open PySem
end Mine
namespace Mine
open PySem
end Mine
namespace Mine
open PySem
section
variable {strF : Bi} {sc : List Int} {P : Nat → Option FnI} {H : A0} {n m : Nat} {ρ : A8} {N : A8 → A0 → Prop} {R : AV → A0 → Prop} {t : Nat} {due : Int} {A : Mat} {qs : List Nat}
inductive Aax (c : Int) (n : Nat) : Prop
  | mk (k : Nat) (e : c.fmod n = k) (h : k < n) : Aax c n
theorem By {c : Int} {n : Nat} (hn : 0 < n) : Aax c n := by
  have h1 : 0 ≤ c.fmod n := Int.fmod_nonneg_of_pos _ (by exact J6 hn)
  have h2 : c.fmod n < n := Int.fmod_lt_of_pos _ (by exact J6 hn)
  exact ⟨(c.fmod n).toNat, by exact Qm h1, by exact Aak h1 h2⟩
theorem Kb {i : Int} (h1 : -1000 ≤ i) (h2 : i ≤ 1000) : Oo i = true := Io (Nat.lt_trans (show i.natAbs < 2000 by exact Abj h1 h2) (by decide))
theorem A4h {i : Int} (h : i.natAbs < 1000000) : i.natAbs < big := Nat.lt_of_lt_of_le h (by decide)
end
end Mine
namespace Mine
open PySem
end Mine
namespace Mine
open PySem
theorem A4q {n : Nat} (h : n ≤ 1000) : inR (n : Int) = true := by unfold inR; simp; exact P0 h
theorem A60 {n : Nat} (h : n ≤ 1000) : n ≤ lim := Nat.le_trans h (by decide)
end Mine
namespace Mine
open PySem
end Mine
namespace Mine
theorem A1p (p : Nat) : cyc p 0 = p := if_pos rfl
theorem A3j (p a : Nat) : cyc p (a + 1) = skip p a := by
  unfold cyc skip
  rw [if_neg (by exact Nat.succ_ne_zero _)]
  by_cases h : a < p
  · rw [if_pos (by exact h), if_pos h]; rfl
  · rw [if_neg (by exact h), if_neg h]
theorem A2c {n p : Nat} (M : Mat) (hp : p < n + 1) : det (n + 1) M = sgn p * At (n + 1) fun j => sgn j * M p j * det n (fun a b => M (skip p a) (skip j b)) := by
  have h1 := Wz (n := n + 1) p M hp
  have h2 := Ml (n := n) fun a => M (cyc p a)
  rw [h1] at h2
  simp only [A1p, A3j] at h2
  rw [← h2, ← Int.mul_assoc, Rp, Int.one_mul]
noncomputable def Nx (q b : Nat) : Int := if b = q then 1 else 0
theorem Of {n p q : Nat} (M : Mat) (hp : p < n + 1) (hq : q < n + 1) : det (n + 1) (upd M p (Nx q)) = sgn p * sgn q * det n (fun a b => M (skip p a) (skip q b)) := by
  rw [A2c _ hp, Jx (r := q) hq fun j _ hj => by rw [Dh]; unfold Nx; rw [if_neg hj]; simp]
  rw [Dh, show Nx q q = 1 from if_pos rfl, Int.mul_one, Int.mul_assoc]
  congr 2
  exact Bk fun a b _ _ => Dn _ _ (Jm p a)
theorem Us {n s : Nat} {N : Mat} {c : Nat → Int} (hs : s < n) (hc : c s = 0) : ∀ k, k ≤ n → det n (upd N s fun b => N s b + At k fun a => c a * N a b) = det n N := by
  intro k
  induction k with
  | zero =>
    intro _
    congr 1
    funext a b; unfold upd; split
    · subst_vars; simp [At]
    · rfl
  | succ k ih =>
    intro hk
    have h := Ic (n := n) (M := N) (r := s) (x := 1) (y := c k) (u := fun b => N s b + At k fun a => c a * N a b) (v := N k) hs
    rw [ih (by exact Nat.le_of_lt hk)] at h
    have e : (upd N s fun b => 1 * (N s b + At k fun a => c a * N a b) + c k * N k b) = upd N s fun b => N s b + At (k + 1) fun a => c a * N a b := by
      funext a b; unfold upd; split
      · show 1 * (N s b + At k fun a => c a * N a b) + c k * N k b = N s b + At (k + 1) fun a => c a * N a b
        rw [Dl, Int.one_mul, Int.add_assoc]
      · rfl
    rw [e] at h
    rw [h]
    by_cases hks : k = s
    · rw [hks, hc]; simp
    · have z : det n (upd N s (N k)) = 0 := M4 (r := s) (s := k) hs (by exact hk) (Ne.symm hks) fun b _ => by rw [Dh, Dn _ _ hks]
      rw [z]; simp
theorem Uq {n r s : Nat} {L : Mat} {x : Nat → Int} (hr : r < n) (hs : s < n) (hz : ∀ b, b < n → At n (fun a => L a b) = 0) : det n (upd L r x) = det n (upd L s x) := by
  by_cases hrs : r = s
  · rw [hrs]
  have h1 := Us (n := n) (s := s) (N := upd L r x) (c := fun a => if a = r ∨ a = s then 0 else 1) hs (by simp) n (Nat.le_refl _)
  have hsum : ∀ b, b < n → upd L r x s b + At n (fun a => (if a = r ∨ a = s then (0 : Int) else 1) * upd L r x a b) = -1 * L r b + 0 * L r b := by
    intro b hb
    have e : At n (fun a => L a b) = At n (fun a => (if a = r ∨ a = s then (0 : Int) else 1) * upd L r x a b) + At n (fun a => if a = r ∨ a = s then L a b else 0) := by
      rw [← G2]
      refine Ax fun a _ => ?_
      by_cases q : a = r ∨ a = s
      · rw [if_pos q, if_pos q]; simp
      · rw [if_neg q, if_neg q, Dn _ _ fun e => q (.inl e)]; simp
    rw [hz b hb, Ur (r := r) (s := s) hr hs hrs fun i _ h1 h2 => if_neg (fun q => q.elim h1 h2), if_pos (.inl rfl), if_pos (.inr rfl)] at e
    rw [Dn _ _ (Ne.symm hrs), Int.zero_mul, Int.add_zero, Int.neg_mul, Int.one_mul]
    exact (Int.neg_eq_of_add_eq_zero (((Int.add_assoc _ _ _).symm.trans (Int.add_comm _ _)).trans e.symm)).symm
  have h2 : det n (upd (upd L r x) s fun b => -1 * L r b + 0 * L r b) = det n (upd L r x) := by
    rw [← h1]
    refine Bk fun a b _ hb => ?_
    unfold upd
    split
    · exact (hsum b hb).symm
    · rfl
  have h3 := Ic (n := n) (M := upd L r x) (r := s) (x := -1) (y := 0) (u := L r) (v := L r) hs
  rw [h2] at h3
  have h4 := Nz hr hs hrs (upd (upd L r x) s (L r))
  have h5 : (fun a => upd (upd L r x) s (L r) (swp r s a)) = upd L s x := by
    funext a b
    unfold upd swp
    by_cases q1 : a = r
    · subst q1; simp [hrs]
    · by_cases q2 : a = s
      · subst q2; simp [hrs, q1]
      · simp [q1, q2]
  rw [h5] at h4
  rw [h3, h4, Int.zero_mul, Int.add_zero, Int.neg_mul, Int.one_mul]
noncomputable def cof (n : Nat) (L : Mat) (p : Nat) : Int := det n fun a b => L (skip p a) (skip p b)
theorem Ni {n p : Nat} (L : Mat) (hp : p < n + 1) : det (n + 1) (upd L p (Nx p)) = cof n L p := by
  rw [Of _ hp hp, Rp, Int.one_mul]; rfl
theorem A8s {n p q : Nat} {L : Mat} (hs : ∀ a b, L a b = L b a) (hz : ∀ b, b < n + 1 → At (n + 1) (fun a => L a b) = 0) (hp : p < n + 1) (hq : q < n + 1) : cof n L p = cof n L q := by
  have h1 : cof n L p = sgn q * sgn p * det n (fun a b => L (skip q a) (skip p b)) := by rw [← Ni L hp, Uq (s := q) hp hq hz, Of _ hq hp]
  have h2 : cof n L q = sgn p * sgn q * det n (fun a b => L (skip p a) (skip q b)) := by rw [← Ni L hq, Uq (s := p) hq hp hz, Of _ hp hq]
  rw [h1, h2, Int.mul_comm (sgn q), ← Dv]
  congr 2
  funext a b
  exact hs _ _
noncomputable def isP (i p : Nat) : Int := if i = p then 1 else 0
noncomputable def Hd (e : Nat × Nat) (i j : Nat) : Int := (isP i e.1 - isP i e.2) * (isP j e.1 - isP j e.2)
noncomputable def lap : List (Nat × Nat) → Mat
  | [], _, _ => 0
  | e :: es, i, j => Hd e i j + lap es i j
theorem Rx (A B : List (Nat × Nat)) (i j : Nat) : lap (A ++ B) i j = lap A i j + lap B i j := by
  induction A with
  | nil => simp [lap]
  | cons e A ih => simp only [List.cons_append, lap, ih, Int.add_assoc]
theorem Xy (A B : List (Nat × Nat)) (e : Nat × Nat) (i j : Nat) : lap (A ++ e :: B) i j = lap (A ++ B) i j + Hd e i j := by
  rw [Rx, Rx, lap]; exact Eq.trans (Int.add_left_comm _ _ _) (Int.add_comm _ _)
theorem A55 (E : List (Nat × Nat)) (i j : Nat) : lap E i j = lap E j i := by
  induction E with
  | nil => rfl
  | cons e E ih => simp only [lap, ih, Hd, Int.mul_comm]
theorem Wl {n p : Nat} (hp : p < n) : At n (fun i => isP i p) = 1 := by
  have h := Jx (n := n) (r := p) (f := fun i => isP i p) hp fun i _ h => if_neg h
  rw [h]; exact if_pos rfl
noncomputable def okT (n : Nat) (E : List (Nat × Nat)) : Prop := ∀ e ∈ E, e.1 < n ∧ e.2 < n
theorem A1l {n : Nat} {E : List (Nat × Nat)} (h : okT n E) (j : Nat) : At n (fun i => lap E i j) = 0 := by
  induction E with
  | nil => exact I9 fun _ _ => rfl
  | cons e E ih =>
    simp only [lap]
    rw [G2, ih fun x hx => h x (List.mem_cons_of_mem _ hx)]
    simp only [Hd]
    rw [Q3]
    have h1 := Wl (h e List.mem_cons_self).1
    have h2 := Wl (h e List.mem_cons_self).2
    have : At n (fun i => isP i e.1 - isP i e.2) = 0 := by
      have q := G2 (n := n) (f := fun i => isP i e.1) (g := fun i => -1 * isP i e.2)
      rw [G9, h1, h2] at q
      rw [← show (1 : Int) + -1 * 1 = 0 from rfl, ← q]
      exact Ax fun i _ => by (first | lia | omega)
    rw [this]; simp
noncomputable def tau (n : Nat) (E : List (Nat × Nat)) : Int := det (n - 1) fun a b => lap E (a + 1) (b + 1)
theorem Qv {n p : Nat} {E : List (Nat × Nat)} (h : okT (n + 1) E) (hp : p < n + 1) : cof n (lap E) p = tau (n + 1) E := by
  rw [A8s (q := 0) (A55 E) (fun b _ => A1l h b) hp (by exact Nat.succ_pos _)]; rfl
theorem Pw {e : Nat × Nat} (h : e.1 = e.2) (i j : Nat) : Hd e i j = 0 := by unfold Hd; rw [h]; simp
theorem Z4 (a b i j : Nat) : Hd (a, b) i j = Hd (b, a) i j := by
  unfold Hd; simp only; generalize isP i a = x; generalize isP i b = y; generalize isP j a = z; generalize isP j b = w; grind
noncomputable def join (lo hi p : Nat) : Nat := if p = hi then lo else if p < hi then p else p - 1
noncomputable def Fh (lo hi : Nat) (e : Nat × Nat) : Nat × Nat := (join lo hi e.1, join lo hi e.2)
theorem Uv {lo hi i p : Nat} (hl : lo < hi) (hi' : i ≠ lo) : isP i (join lo hi p) = isP (skip hi i) p := by
  unfold isP join skip
  by_cases q : p = hi
  · rw [if_pos q, if_neg hi']
    split <;> rw [if_neg (by (first | exact fun e2 => Nat.ne_of_lt (by assumption) (Eq.trans e2 q) | exact Nat.ne_of_gt (Nv q (oGt (by assumption)))))]
  · rw [if_neg q]
    by_cases q2 : p < hi
    · rw [if_pos q2]
      by_cases q3 : i < hi
      · rw [if_pos q3]
      · rw [if_neg q3, if_neg (by exact fun e2 => q3 (Nv e2 q2)), if_neg (by exact Nat.ne_of_gt (Ew q2 (oGt q3)))]
    · rw [if_neg q2]
      by_cases q3 : i < hi
      · rw [if_pos q3, if_neg (by exact Abp q q2 q3), if_neg (by exact Nat.ne_of_lt (Nat.lt_of_lt_of_le q3 (oGe q2)))]
      · rw [if_neg q3]
        by_cases q4 : i = p - 1
        · rw [if_pos q4, if_pos (by exact Ab6 hl q2 q4)]
        · rw [if_neg q4, if_neg (by exact fun e => q4 (congrArg (· - 1) e))]
theorem A13 {lo hi i j : Nat} (hl : lo < hi) (h1 : i ≠ lo) (h2 : j ≠ lo) (E : List (Nat × Nat)) : lap (E.map (Fh lo hi)) i j = lap E (skip hi i) (skip hi j) := by
  induction E with
  | nil => rfl
  | cons e E ih =>
    simp only [List.map_cons, lap, ih]
    simp only [Hd, Fh, Uv hl h1, Uv hl h2]
theorem Ih {n lo hi z : Nat} (hl : lo < hi) (hh : hi < n + 1) (hz : z < n + 1) : join lo hi z < n := by
  unfold join
  split
  · exact Nat.lt_of_lt_of_le hl (Nat.le_of_lt_succ hh)
  · rename_i q
    split
    · rename_i r; exact Nat.lt_of_lt_of_le r (Nat.le_of_lt_succ hh)
    · rename_i r; exact Nat.lt_of_lt_of_le (Nat.sub_lt (Nat.lt_of_le_of_lt (Nat.zero_le _) (Nat.lt_of_lt_of_le hl (Nat.le_of_not_lt r))) Nat.one_pos) (Nat.le_of_lt_succ hz)
theorem Mh {n lo hi : Nat} {E : List (Nat × Nat)} (hl : lo < hi) (hh : hi < n + 1) (h : okT (n + 1) E) : okT n (E.map (Fh lo hi)) := by
  intro e he
  obtain ⟨x, hx, rfl⟩ := List.mem_map.mp he
  have := h x hx
  exact ⟨Ih hl hh this.1, Ih hl hh this.2⟩
theorem Pp {lo hi a : Nat} (hl : lo < hi) : skip hi (skip lo a) = skip lo (skip (hi - 1) a) := by
  by_cases h : a < lo
  · exact ((congrArg (skip hi) (if_pos h : skip lo a = a)).trans (if_pos (Nat.lt_trans h hl) : skip hi a = a)).trans ((congrArg (skip lo) (if_pos (Nat.lt_of_lt_of_le h (Nat.le_sub_of_add_le hl)) : skip (hi - 1) a = a)).trans (if_pos h : skip lo a = a)).symm
  · by_cases q : a + 1 < hi
    · exact ((congrArg (skip hi) (if_neg h : skip lo a = a + 1)).trans (if_pos q : skip hi (a + 1) = a + 1)).trans ((congrArg (skip lo) (if_pos (Nat.lt_sub_of_add_lt q) : skip (hi - 1) a = a)).trans (if_neg h : skip lo a = a + 1)).symm
    · exact ((congrArg (skip hi) (if_neg h : skip lo a = a + 1)).trans (if_neg q : skip hi (a + 1) = a + 1 + 1)).trans ((congrArg (skip lo) (if_neg (fun r => q (Nat.add_lt_of_lt_sub r)) : skip (hi - 1) a = a + 1)).trans (if_neg (fun r => h (Nat.lt_of_succ_lt r)) : skip lo (a + 1) = a + 1 + 1)).symm
theorem Ok {n lo hi : Nat} {A B : List (Nat × Nat)} (hl : lo < hi) (hh : hi < n + 2) (h : okT (n + 2) (A ++ B)) :
    tau (n + 2) (A ++ (lo, hi) :: B) = tau (n + 2) (A ++ B) + tau (n + 1) ((A ++ B).map (Fh lo hi)) := by
  have h' : okT (n + 2) (A ++ (lo, hi) :: B) := by
    intro e he
    rcases List.mem_append.mp he with q | q
    · exact h e (List.mem_append_left _ q)
    · rcases List.mem_cons.mp q with rfl | q
      · exact ⟨by exact Ew hl hh, hh⟩
      · exact h e (List.mem_append_right _ q)
  rw [← Qv (p := lo) h' (by exact Ew hl hh), ← Qv (p := lo) h (by exact Ew hl hh), ← Qv (p := lo) (Mh hl hh h) (by exact Nat.le_of_lt_succ (Nat.lt_of_le_of_lt hl hh))]
  have hR : ∀ a b, lap (A ++ (lo, hi) :: B) (skip lo a) (skip lo b) = upd (fun a b => lap (A ++ B) (skip lo a) (skip lo b)) (hi - 1) (fun b => 1 * lap (A ++ B) (skip lo (hi - 1)) (skip lo b) + 1 * Nx (hi - 1) b) a b := by
    intro a b
    rw [Xy]
    have e : ∀ x, isP (skip lo x) lo - isP (skip lo x) hi = - Nx (hi - 1) x := by
      intro x
      unfold isP Nx
      rw [if_neg (Jm lo x)]
      by_cases q : x = hi - 1
      · rw [if_pos q, if_pos (by unfold skip; rw [if_neg (by exact Aaj hl q)]; exact (congrArg (· + 1) q).trans (Nat.sub_add_cancel (Hi hl)))]; rfl
      · rw [if_neg q, if_neg (by unfold skip; split <;> (first | exact Nat.ne_of_lt (Ew (by assumption) hl) | exact fun e => q (congrArg (· - 1) e)))]; rfl
    unfold Hd
    simp only [e]
    unfold upd
    split
    · rename_i q
      rw [q, show Nx (hi - 1) (hi - 1) = 1 from if_pos rfl]
      show _ = 1 * lap (A ++ B) (skip lo (hi - 1)) (skip lo b) + 1 * Nx (hi - 1) b
      (first | lia | omega)
    · rename_i q
      rw [show Nx (hi - 1) a = 0 from if_neg q]; simp
  have h1 : cof (n + 1) (lap (A ++ (lo, hi) :: B)) lo = det (n + 1) (upd (fun a b => lap (A ++ B) (skip lo a) (skip lo b)) (hi - 1) (fun b => 1 * lap (A ++ B) (skip lo (hi - 1)) (skip lo b) + 1 * Nx (hi - 1) b)) := Bk fun a b _ _ => hR a b
  rw [h1, Ic (by exact Ro (Nat.succ_pos _) hh), Ni _ (by exact Ro (Nat.succ_pos _) hh)]
  have h2 : upd (fun a b => lap (A ++ B) (skip lo a) (skip lo b)) (hi - 1) (fun b => lap (A ++ B) (skip lo (hi - 1)) (skip lo b)) = fun a b => lap (A ++ B) (skip lo a) (skip lo b) := by
    funext a b; unfold upd; split
    · subst_vars; rfl
    · rfl
  have h3 : cof n (fun a b => lap (A ++ B) (skip lo a) (skip lo b)) (hi - 1) = cof n (lap ((A ++ B).map (Fh lo hi))) lo := by
    unfold cof
    refine Bk fun a b _ _ => ?_
    rw [A13 hl (Jm _ _) (Jm _ _), Pp hl, Pp hl]
  rw [h2, h3, Int.one_mul, Int.one_mul]; rfl
theorem Mi {n : Nat} {e : Nat × Nat} {E : List (Nat × Nat)} (h : e.1 = e.2) : tau n (e :: E) = tau n E := by
  unfold tau
  congr 1
  funext a b
  rw [lap, Pw h]; exact Int.zero_add _
theorem Uh (a b : Nat) (E : List (Nat × Nat)) (n : Nat) : tau n ((a, b) :: E) = tau n ((b, a) :: E) := by
  unfold tau
  congr 1
  funext i j
  rw [lap, lap, Z4]
theorem Qq (n : Nat) : tau (n + 2) [] = 0 := by
  unfold tau
  exact Sf (by exact Nat.succ_pos _) fun a _ => rfl
theorem Mc (E : List (Nat × Nat)) : tau 1 E = 1 := rfl
theorem Cm {n : Nat} {e : Nat × Nat} {E : List (Nat × Nat)} (h : okT n (e :: E)) : okT n E := fun x hx => h x (List.mem_cons_of_mem _ hx)
inductive Be (E : List (Nat × Nat)) : Nat → Nat → Prop
  | refl (p : Nat) : Be E p p
  | tie {e : Nat × Nat} : e ∈ E → Be E e.1 e.2
  | symm {p q : Nat} : Be E p q → Be E q p
  | trans {p q r : Nat} : Be E p q → Be E q r → Be E p r
theorem Be.mono {E F : List (Nat × Nat)} {p q : Nat} (c : Be E p q) (h : ∀ e ∈ E, Be F e.1 e.2) : Be F p q := by
  induction c with
  | refl p => exact .refl p
  | tie m => exact h _ m
  | symm _ ih => exact ih.symm
  | trans _ _ i1 i2 => exact i1.trans i2
theorem Be.join {lo hi : Nat} {E : List (Nat × Nat)} {p q : Nat} (c : Be ((lo, hi) :: E) p q) (hl : lo < hi) : Be (E.map (Fh lo hi)) (join lo hi p) (join lo hi q) := by
  induction c with
  | refl p => exact .refl _
  | tie m =>
    rcases List.mem_cons.mp m with rfl | m
    · have : Mine.join lo hi lo = Mine.join lo hi hi := by unfold Mine.join; rw [if_neg (by exact Nat.ne_of_lt hl), if_pos hl, if_pos rfl]
      show Be _ (Mine.join lo hi lo) (Mine.join lo hi hi)
      rw [this]; exact .refl _
    · exact Be.tie (E := E.map (Fh lo hi)) (List.mem_map_of_mem m)
  | symm _ ih => exact ih.symm
  | trans _ _ i1 i2 => exact i1.trans i2
theorem Ej {lo hi y : Nat} : join lo hi (skip hi y) = y := by
  by_cases h : y < hi
  · exact (congrArg (join lo hi) (if_pos h : skip hi y = y)).trans ((if_neg (Nat.ne_of_lt h)).trans (if_pos h))
  · exact (congrArg (join lo hi) (if_neg h : skip hi y = y + 1)).trans ((if_neg (fun e : y + 1 = hi => h (e ▸ Nat.lt_succ_self y))).trans (if_neg (fun r => h (Nat.lt_of_succ_lt r))))
theorem Y1 {lo hi : Nat} : join lo hi hi = lo := if_pos rfl
theorem Ij {lo hi x : Nat} (h : x ≠ hi) : skip hi (join lo hi x) = x := by
  unfold skip join
  rw [if_neg h]
  by_cases q : x < hi
  · rw [if_pos q, if_pos q]
  · rw [if_neg q, if_neg (by exact Nat.not_lt_of_le (Nat.le_sub_of_add_le (Iy (oGe q) h)))]; exact Nat.sub_add_cancel (Hi (Iy (oGe q) h))
theorem A6i {lo hi p q : Nat} (hl : lo < hi) (h : join lo hi p = join lo hi q) : p = q ∨ ((p = lo ∨ p = hi) ∧ (q = lo ∨ q = hi)) := by
  have hs : skip hi lo = lo := if_pos hl
  by_cases hp : p = hi
  · by_cases hq : q = hi
    · exact .inl (hp.trans hq.symm)
    · refine .inr ⟨.inr hp, .inl ?_⟩
      rw [← Ij (lo := lo) hq, ← h, hp, Y1, hs]
  · by_cases hq : q = hi
    · refine .inr ⟨.inl ?_, .inr hq⟩
      rw [← Ij (lo := lo) hp, h, hq, Y1, hs]
    · exact .inl (by rw [← Ij (lo := lo) hp, h, Ij hq])
theorem Be.unjoin {lo hi : Nat} {E : List (Nat × Nat)} {x y : Nat} (hl : lo < hi) (c : Be (E.map (Fh lo hi)) x y) : ∀ p q, Mine.join lo hi p = x → Mine.join lo hi q = y → Be ((lo, hi) :: E) p q := by
  have hlh : Be ((lo, hi) :: E) lo hi := Be.tie (e := (lo, hi)) List.mem_cons_self
  have same : ∀ p q, Mine.join lo hi p = Mine.join lo hi q → Be ((lo, hi) :: E) p q := fun p q h => by
    rcases A6i hl h with rfl | ⟨rfl | rfl, rfl | rfl⟩
    · exact .refl _
    · exact .refl _
    · exact hlh
    · exact hlh.symm
    · exact .refl _
  induction c with
  | refl x => intro p q h1 h2; exact same p q (h1.trans h2.symm)
  | tie m =>
    intro p q h1 h2
    obtain ⟨e, he, rfl⟩ := List.mem_map.mp m
    exact ((same p e.1 h1).trans (Be.tie (List.mem_cons_of_mem _ he))).trans (same e.2 q h2.symm)
  | symm _ ih => intro p q h1 h2; exact (ih q p h2 h1).symm
  | @trans a b c _ _ i1 i2 =>
    intro p q h1 h2
    exact (i1 p (skip hi b) h1 Ej).trans (i2 (skip hi b) q Ej h2)
noncomputable def F9 (n : Nat) (E : List (Nat × Nat)) : Prop := ∀ p q, p < n → q < n → Be E p q
theorem Nh {p q : Nat} (c : Be [] p q) : p = q := by
  induction c with
  | refl p => rfl
  | tie m => cases m
  | symm _ ih => exact ih.symm
  | trans _ _ i1 i2 => exact i1.trans i2
theorem A52 : ∀ (k : Nat) {n : Nat} {E : List (Nat × Nat)}, E.length = k → okT (n + 1) E → 0 ≤ tau (n + 1) E ∧ (0 < tau (n + 1) E ↔ F9 (n + 1) E) := by
  intro k
  induction k with
  | zero =>
    intro n E hk h
    have := List.length_eq_zero_iff.mp hk; subst this
    cases n with
    | zero =>
      rw [Mc]
      exact ⟨by decide, fun _ p q hp hq => by rw [show p = q by exact (Nat.lt_one_iff.mp hp).trans (Nat.lt_one_iff.mp hq).symm]; exact .refl _, fun _ => by decide⟩
    | succ n =>
      rw [Qq]
      exact ⟨by decide, fun h => absurd h (by decide), fun h => absurd (Nh (h 0 1 (by exact Nat.succ_pos _) (by exact Nat.le_add_left _ _))) (by decide)⟩
  | succ k ih =>
    intro n E hk h
    cases E with
    | nil => cases hk
    | cons e E =>
    have hk' : E.length = k := by simpa using hk
    have hE := Cm h
    by_cases hl : e.1 = e.2
    · rw [Mi hl]
      obtain ⟨a, b⟩ := ih hk' hE
      refine ⟨a, b.trans ⟨fun q x y hx hy => (q x y hx hy).mono fun e he => .tie (List.mem_cons_of_mem _ he), fun q x y hx hy => (q x y hx hy).mono fun f hf => ?_⟩⟩
      rcases List.mem_cons.mp hf with rfl | hf
      · rw [hl]; exact .refl _
      · exact .tie hf
    · cases n with
      | zero => have := h e List.mem_cons_self; exact absurd ((Nat.lt_one_iff.mp this.1).trans (Nat.lt_one_iff.mp this.2).symm) hl
      | succ n =>
      have main : ∀ lo hi, lo < hi → hi < n + 2 → (∀ p q, Be ((lo, hi) :: E) p q ↔ Be (e :: E) p q) → tau (n + 2) (e :: E) = tau (n + 2) ((lo, hi) :: E) → 0 ≤ tau (n + 2) (e :: E) ∧ (0 < tau (n + 2) (e :: E) ↔ F9 (n + 2) (e :: E)) := by
        intro lo hi h1 h2 hc ht
        have st := Ok (A := []) (B := E) h1 h2 hE
        simp only [List.nil_append] at st
        rw [ht, st]
        obtain ⟨a1, b1⟩ := ih hk' hE
        rw [show n + 1 + 1 = n + 2 from rfl] at a1 b1
        obtain ⟨a2, b2⟩ := ih (n := n) (E := E.map (Fh lo hi)) (by rw [List.length_map]; exact hk') (Mh h1 h2 hE)
        refine ⟨Int.add_nonneg a1 a2, fun q => ?_, fun q => ?_⟩
        · by_cases q1 : 0 < tau (n + 2) E
          · intro x y hx hy
            exact (b1.mp q1 x y hx hy).mono fun f hf => .tie (List.mem_cons_of_mem _ hf)
          · have q2 := b2.mp (A9l q q1)
            intro x y hx hy
            exact (hc x y).mp ((q2 _ _ (Ih h1 h2 hx) (Ih h1 h2 hy)).unjoin h1 x y rfl rfl)
        · have : F9 (n + 1) (E.map (Fh lo hi)) := fun x y hx hy => by
            have := ((hc _ _).mpr (q (skip hi x) (skip hi y) (Ia (by exact h2) hx) (Ia (by exact h2) hy))).join h1
            rwa [Ej, Ej] at this
          have := b2.mpr this
          exact Int.add_pos_of_nonneg_of_pos a1 this
      have he := h e List.mem_cons_self
      by_cases q : e.1 < e.2
      · exact main e.1 e.2 q he.2 (fun _ _ => Iff.rfl) rfl
      · refine main e.2 e.1 (by exact Rn (oGt q) hl) he.1 (fun x y => ⟨fun c => c.mono fun f hf => ?_, fun c => c.mono fun f hf => ?_⟩) (Uh e.1 e.2 E _)
        · rcases List.mem_cons.mp hf with rfl | hf
          · exact (Be.tie (e := e) List.mem_cons_self).symm
          · exact .tie (List.mem_cons_of_mem _ hf)
        · rcases List.mem_cons.mp hf with rfl | hf
          · exact (Be.tie (e := (f.2, f.1)) List.mem_cons_self).symm
          · exact .tie (List.mem_cons_of_mem _ hf)
end Mine
namespace Mine
theorem Yc {n : Nat} {E F : List (Nat × Nat)} (h : ∀ i j, lap E i j = lap F i j) : tau n E = tau n F := by
  unfold tau; congr 1; funext a b; exact h _ _
theorem A5o {n a b : Nat} {E : List (Nat × Nat)} (hab : a ≠ b) (ha : a < n + 2) (hb : b < n + 2) (h : okT (n + 2) E) :
    tau (n + 2) ((a, b) :: E) = tau (n + 2) E + tau (n + 1) (E.map (Fh (min a b) (max a b))) := by
  by_cases q : a < b
  · rw [Nat.min_eq_left (by exact Nat.le_of_lt q), Nat.max_eq_right (by exact Nat.le_of_lt q)]
    exact Ok (A := []) q hb h
  · rw [Nat.min_eq_right (by exact oGe q), Nat.max_eq_left (by exact oGe q), Uh]
    exact Ok (A := []) (by exact Rn (oGt q) hab) ha h
end Mine
namespace Mine
open PySem
noncomputable def Av (e : Nat × Nat) : AV := .tup [.int e.1, .int e.2]
noncomputable def Aa9 (e : Nat × Nat) : PyData := .tuple [.int e.1, .int e.2]
noncomputable abbrev TL (H : A0) (r : Nat) (E : List (Nat × Nat)) : Prop := H[r]? = some (.list (E.map Av))
theorem Pk {H : A0} {d : Nat} : ∀ (E : List (Nat × Nat)), (E.map Av).mapM (rd H (d + 1)) = some (E.map Aa9)
  | [] => rfl
  | x :: E => by
    rw [List.map_cons, List.mapM_cons, Pk E]
    cases d <;> rfl
theorem Xu {H : A0} {r d : Nat} {E : List (Nat × Nat)} (h : TL H r E) : rd H (d + 2) (.ref r) = some (.list (E.map Aa9)) := by
  unfold rd
  simp only [show H[r]? = some (.list (E.map Av)) from h, Pk]; rfl
theorem Uu {H : A0} {r : Nat} {E : List (Nat × Nat)} (h : TL H r E) : Kq (.ref r) (.ref H.length) (H ++ [.list []]) = some (decide (E = [])) := by
  have h2 : TL (H ++ [.list []]) H.length [] := Ae _ _
  unfold Kq
  rw [Xu (d := 6) (Ab (Ad _ _) h), Xu (d := 6) h2]
  cases E with
  | nil => rfl
  | cons e E => rfl
section
variable {strF : Bi} {sc : List Int} {P : Nat → Option FnI} {H H0 : A0} {n m : Nat} {ρ : A8} {cf : Nat → List AV → A0 → Res AV} {N : A8 → A0 → Prop} {R : AV → A0 → Prop}
theorem Kl {E : List (Nat × Nat)} {k : Nat} {v : AV} (h : (E.map Av)[k]? = some v) : ∃ e, E[k]? = some e ∧ v = Av e := by
  rw [List.getElem?_map] at h
  cases q : E[k]? with
  | none => rw [q] at h; cases h
  | some e => rw [q] at h; cases h; exact ⟨e, rfl, rfl⟩
theorem El {step : AV → A8 → A0 → SR} {r : Nat} {ws : List AV} (I : Nat → A8 → A0 → Prop) (h0 : I 0 ρ H)
    (hs : ∀ k v ρ H, ws[k]? = some v → I k ρ H → (step v ρ H).sat (fun ρ H => I (k + 1) ρ H ∧ H[r]? = some (.list ws)) R) (hN : ∀ ρ H, I ws.length ρ H → N ρ H) : (Ed [(r, ws)] step ws ρ H).sat N R := by
  have : ∀ (us pre : List AV) (ρ : A8) (H : A0), pre ++ us = ws → I pre.length ρ H → (Ed [(r, ws)] step us ρ H).sat N R := by
    intro us
    induction us with
    | nil =>
      intro pre ρ H e hI
      rw [List.append_nil] at e; subst e
      exact hN _ _ hI
    | cons v us ih =>
      intro pre ρ H e hI
      have h1 := hs pre.length v ρ H (by rw [← e]; simp) hI
      unfold Ed
      cases e1 : step v ρ H with
      | next ρ' H' =>
        rw [e1] at h1
        have h2 : H'[r]? = some (.list ws) := h1.2
        simp only [List.all_cons, List.all_nil, Bool.and_true, K9 h2, if_true]
        exact ih (pre ++ [v]) ρ' H' (by rw [← e]; simp) (by rw [List.length_append]; exact h1.1)
      | ret w H' => rw [e1] at h1; exact h1
      | exc c H' => rw [e1] at h1; exact h1
      | bad => rw [e1] at h1; exact h1
  exact this ws [] ρ H rfl h0
theorem J5 {r : Nat} {ws : List AV} {step : AV → A0 → Res (Option AV)} (hr : H[r]? = some (.list ws)) (f : Nat × Nat → Nat × Nat) : ∀ (E : List (Nat × Nat)), (∀ e ∈ E, step (Av e) H = .ok (some (Av (f e))) H) →
    Bh [(r, ws)] step (E.map Av) H = .ok ((E.map f).map Av) H
  | [], _ => rfl
  | e :: E, h => by
    rw [List.map_cons, Bh, h e List.mem_cons_self]
    simp only [Res.get, List.all_cons, List.all_nil, Bool.and_true, K9 hr, if_true, J5 hr f E fun e he => h e (List.mem_cons_of_mem _ he), Wx, List.map_cons]
theorem Nj {r : Nat} {E : List (Nat × Nat)} {e : Nat × Nat} (h : TL H r E) (hge : H0.length ≤ r) (hl : E.length < lim) : De H0.length (.ref r) (Av e) H = .ok .none (H.set r (.list ((E ++ [e]).map Av))) := by
  unfold De
  simp only [show H[r]? = some (.list (E.map Av)) from h]
  rw [if_pos ⟨hge, by simpa using hl⟩]
  simp
theorem Im {r : Nat} {o : Bw} (h : ∃ p, H[r]? = some p) : (H.set r o)[r]? = some o := by
  obtain ⟨p, h⟩ := h
  exact List.getElem?_set_self (List.getElem?_eq_some_iff.mp h).1
noncomputable def A58 : FnI := ⟨2, 6, .cons (.assign 2 (.list .nil)) (.cons (.for1 3 (.range1 (.bin .Sub (.var 1) (.int 1))) (.cons (.assign 4 (.call 6 (.cons (.var 0) (.cons (.bin .Add (.int 4) (.var 3)) .nil)))) (.cons (.assign 5 (.tuple (.cons (.bin .Mod (.var 4) (.bin .Add (.var 3) (.int 1))) (.cons (.bin .Add (.var 3) (.int 1)) .nil)))) (.cons (.expr (.append (.var 2) (.idx (.list (.cons (.var 5) (.cons (.tuple (.cons (.idx (.var 5) (.int 1)) (.cons (.idx (.var 5) (.int 0)) .nil))) .nil))) (.bin .Mod (.bin .FloorDiv (.var 4) (.int 7)) (.int 2))))) .nil)))) (.cons (.ret (.var 2)) .nil))⟩
theorem G8 {x y : AV} : Bx sc (.tup [x, y]) (.int 0) H = .ok x H := rfl
theorem Gb {x y : AV} : Bx sc (.tup [x, y]) (.int 1) H = .ok y H := rfl
theorem Va {x y : AV} : Ot [x, y] H = .ok (.tup [x, y]) H := by unfold Ot; rw [if_pos]; exact A60 (by simp)
theorem Rk {r : Nat} {xs : List AV} (h : H[r]? = some (.list xs)) : isL (.ref r) H = true := by unfold isL; simp only [h]
end
end Mine
namespace Mine
open PySem
noncomputable def A5l : FnI := ⟨3, 12, .cons (.assign 3 (.call 6 (.cons (.var 0) (.cons (.int 0) .nil)))) (.cons (.assign 4 (.bin .Add (.int 1) (.bin .Mod (.var 3) (.var 1)))) (.cons (.assign 5 (.list .nil)) (.cons (.ite (.cmp .Gt (.bin .Mod (.bin .FloorDiv (.var 3) (.int 7)) (.int 5)) (.int 0)) (.cons (.assign 5 (.call 7 (.cons (.var 0) (.cons (.var 4) .nil)))) .nil) .nil) (.cons (.for1 6 (.range1 (.bin .Mod (.call 6 (.cons (.var 0) (.cons (.int 1) .nil))) (.bin .Add (.bin .Sub (.var 2) (.prim .len (.cons (.var 5) .nil))) (.int 1)))) (.cons (.assign 7 (.call 6 (.cons (.var 0) (.cons (.bin .Add (.int 11) (.var 6)) .nil)))) (.cons (.assign 8 (.bin .Mod (.var 7) (.var 4))) (.cons (.assign 9 (.tuple (.cons (.var 8) (.cons (.bin .Mod (.bin .Add (.var 8) (.bin .Mod (.bin .FloorDiv (.var 7) (.int 7)) (.var 4))) (.var 4)) .nil)))) (.cons (.ite (.and (.cons (.cmp .Eq (.bin .Mod (.bin .FloorDiv (.var 7) (.int 49)) (.int 6)) (.int 5)) (.cons (.cmp .NotEq (.var 5) (.list .nil)) .nil))) (.cons (.assign 9 (.idx (.var 5) (.bin .Mod (.bin .FloorDiv (.var 7) (.int 300)) (.prim .len (.cons (.var 5) .nil))))) .nil) .nil) (.cons (.expr (.append (.var 5) (.var 9))) .nil)))))) (.cons (.assign 10 (.bin .Mod (.bin .FloorDiv (.var 3) (.int 35)) (.var 4))) (.cons (.assign 5 (.comp2 (.tuple (.cons (.bin .Mod (.bin .Add (.var 0) (.var 12)) (.var 6)) (.cons (.bin .Mod (.bin .Add (.var 1) (.var 12)) (.var 6)) .nil))) (.of (.var 5)))) (.cons (.assign 11 (.bin .Mod (.call 6 (.cons (.var 0) (.cons (.int 2) .nil))) (.bin .Add (.prim .len (.cons (.var 5) .nil)) (.int 1)))) (.cons (.ret (.tuple (.cons (.var 4) (.cons (.bin .Add (.slice (.var 5) (.some (.var 11)) .none) (.slice (.var 5) .none (.some (.var 11)))) .nil)))) .nil))))))))⟩
noncomputable def Wh : PSs := .cons (.assign 10 (.bin .Mod (.bin .FloorDiv (.var 3) (.int 35)) (.var 4))) (.cons (.assign 5 (.comp2 (.tuple (.cons (.bin .Mod (.bin .Add (.var 0) (.var 12)) (.var 6)) (.cons (.bin .Mod (.bin .Add (.var 1) (.var 12)) (.var 6)) .nil))) (.of (.var 5)))) (.cons (.assign 11 (.bin .Mod (.call 6 (.cons (.var 0) (.cons (.int 2) .nil))) (.bin .Add (.prim .len (.cons (.var 5) .nil)) (.int 1)))) (.cons (.ret (.tuple (.cons (.var 4) (.cons (.bin .Add (.slice (.var 5) (.some (.var 11)) .none) (.slice (.var 5) .none (.some (.var 11)))) .nil)))) .nil)))
noncomputable def A4y : PSs := .cons (.assign 7 (.call 6 (.cons (.var 0) (.cons (.bin .Add (.int 11) (.var 6)) .nil)))) (.cons (.assign 8 (.bin .Mod (.var 7) (.var 4))) (.cons (.assign 9 (.tuple (.cons (.var 8) (.cons (.bin .Mod (.bin .Add (.var 8) (.bin .Mod (.bin .FloorDiv (.var 7) (.int 7)) (.var 4))) (.var 4)) .nil)))) (.cons (.ite (.and (.cons (.cmp .Eq (.bin .Mod (.bin .FloorDiv (.var 7) (.int 49)) (.int 6)) (.int 5)) (.cons (.cmp .NotEq (.var 5) (.list .nil)) .nil))) (.cons (.assign 9 (.idx (.var 5) (.bin .Mod (.bin .FloorDiv (.var 7) (.int 300)) (.prim .len (.cons (.var 5) .nil))))) .nil) .nil) (.cons (.expr (.append (.var 5) (.var 9))) .nil))))
noncomputable def A5v : PSs := .cons (.for1 6 (.range1 (.bin .Mod (.call 6 (.cons (.var 0) (.cons (.int 1) .nil))) (.bin .Add (.bin .Sub (.var 2) (.prim .len (.cons (.var 5) .nil))) (.int 1)))) A4y) Wh
inductive A57 (H : A0) (most room : Nat) (v : AV) (H' : A0) : Prop
  | mk (n r : Nat) (E : List (Nat × Nat)) (e : v = .tup [.int n, .ref r]) (t : TL H' r E) (p : H <+: H') (g : H.length ≤ r) (l : E.length ≤ room) (ok : okT n E) (h1 : 1 ≤ n) (h2 : n ≤ most) : A57 H most room v H'
section
variable {strF : Bi} {sc : List Int} {P : Nat → Option FnI} {H H0 : A0} {n m : Nat} {ρ : A8} {cf : Nat → List AV → A0 → Res AV} {N : A8 → A0 → Prop} {R : AV → A0 → Prop}
theorem W3 {xs : List AV} {c : Nat} (hc : c ≤ xs.length) : cut xs (some (c : Int)) none = xs.drop c := by
  unfold cut
  simp only [Q8 hc, List.take_length]
theorem A8x {xs : List AV} {c : Nat} (hc : c ≤ xs.length) : cut xs none (some (c : Int)) = xs.take c := by
  unfold cut
  simp only [Q8 hc, List.drop_zero]
end
end Mine
namespace Mine
open PySem
noncomputable def Ue : FnI := ⟨3, 3, .cons (.ret (.and (.cons (.prim .isInt (.cons (.var 0) .nil)) (.cons (.not (.prim .isBool (.cons (.var 0) .nil))) (.cons (.cmp2 .LtE .LtE (.var 1) (.var 0) (.var 2)) .nil))))) .nil⟩
noncomputable def A2v : FnI := ⟨2, 3, .cons (.ite (.not (.call 0 (.cons (.var 0) (.cons (.int 1) (.cons (.gint 0 7) .nil))))) (.cons (.raise 1 "one to seven places") .nil) .nil) (.cons (.ite (.or (.cons (.not (.prim .isList (.cons (.var 1) .nil))) (.cons (.cmp .Gt (.prim .len (.cons (.var 1) .nil)) (.gint 1 16)) .nil))) (.cons (.raise 1 "a list of none to sixteen ties") .nil) .nil) (.cons (.for1 2 (.of (.var 1)) (.cons (.ite (.or (.cons (.not (.prim .isTuple (.cons (.var 2) .nil))) (.cons (.cmp .NotEq (.prim .len (.cons (.var 2) .nil)) (.int 2)) .nil))) (.cons (.raise 1 "a tie is a tuple of two places") .nil) .nil) (.cons (.ite (.or (.cons (.not (.call 0 (.cons (.idx (.var 2) (.int 0)) (.cons (.int 0) (.cons (.bin .Sub (.var 0) (.int 1)) .nil))))) (.cons (.not (.call 0 (.cons (.idx (.var 2) (.int 1)) (.cons (.int 0) (.cons (.bin .Sub (.var 0) (.int 1)) .nil))))) .nil))) (.cons (.raise 1 "no such place") .nil) .nil) .nil))) .nil))⟩
noncomputable def Os : FnI := ⟨2, 5, .cons (.assign 2 (.comp1 (.comp1 (.int 0) (.range1 (.var 1)) .none) (.range1 (.var 0)) .none)) (.cons (.for2 3 4 (.of (.var 1)) (.cons (.ite (.cmp .NotEq (.var 3) (.var 4)) (.cons (.setIdx (.idx (.var 2) (.var 3)) (.var 3) (.bin .Add (.idx (.idx (.var 2) (.var 3)) (.var 3)) (.int 1))) (.cons (.setIdx (.idx (.var 2) (.var 4)) (.var 4) (.bin .Add (.idx (.idx (.var 2) (.var 4)) (.var 4)) (.int 1))) (.cons (.setIdx (.idx (.var 2) (.var 3)) (.var 4) (.bin .Sub (.idx (.idx (.var 2) (.var 3)) (.var 4)) (.int 1))) (.cons (.setIdx (.idx (.var 2) (.var 4)) (.var 3) (.bin .Sub (.idx (.idx (.var 2) (.var 4)) (.var 3)) (.int 1))) .nil)))) .nil) .nil)) (.cons (.ret (.var 2)) .nil))⟩
noncomputable def Ul : FnI := ⟨2, 2, .cons (.ret (.call 20 (.cons (.comp1 (.slice (.var 0) (.some (.int 1)) .none) (.of (.slice (.call 21 (.cons (.var 0) (.cons (.var 1) .nil))) (.some (.int 1)) .none)) .none) .nil))) .nil⟩
noncomputable def A3y : FnI := ⟨2, 2, .cons (.expr (.call 1 (.cons (.var 0) (.cons (.var 1) .nil)))) (.cons (.ret (.call 23 (.cons (.var 0) (.cons (.var 1) .nil)))) .nil)⟩
section
variable {strF : Bi} {sc : List Int} {P : Nat → Option FnI} {H H0 : A0} {n m : Nat} {ρ : A8} {cf : Nat → List AV → A0 → Res AV} {N : A8 → A0 → Prop} {R : AV → A0 → Prop}
inductive A72 (sc : List Int) (H0 H : A0) (b t : Nat) (qs : List Nat) (n i j : Nat) (A : Mat) (d : Int) : Prop
  | mk (q : Nat) (H' : A0) (A' : Mat) (a : Bx sc (.ref t) (.int i) H = .ok (.ref q) H) (b' : Bx sc (.ref q) (.int j) H = .ok (.int (A i j)) H) (c : Gv b (.ref q) (.int j) (.int (A i j + d)) H = .ok () H') (T : Gl H0 H' t qs n A') (k : ∀ x y, A' x y = A x y + if x = i ∧ y = j then d else 0) : A72 sc H0 H b t qs n i j A d
theorem Jv {t i j : Nat} {qs : List Nat} {A : Mat} {d : Int} {b : Nat} (T : Gl H0 H t qs n A) (hi : i < n) (hj : j < n) (hb : b = H0.length) :
    A72 sc H0 H b t qs n i j A d := by
  obtain ⟨q, eq, g, r⟩ := T.rd.at (sc := sc) hi
  obtain ⟨s, T'⟩ := T.cell (x := A i j + d) eq hj
  refine ⟨q, _, _, g, Ev r hj, by rw [hb]; exact s, T', fun a c => ?_⟩
  by_cases h : a = i ∧ c = j
  · rw [if_pos h, if_pos h, h.1, h.2]
  · rw [if_neg h, if_neg h]; exact Eq.symm (Int.add_zero _)
theorem Vv {x y : Nat} (h : x ≠ y) (a c : Nat) : (if a = x ∧ c = x then (1 : Int) else 0) + (if a = y ∧ c = y then 1 else 0) + (if a = x ∧ c = y then -1 else 0) + (if a = y ∧ c = x then -1 else 0) = Hd (x, y) a c := by
  unfold Hd isP
  by_cases h1 : a = x
  · subst h1
    by_cases h2 : c = a
    · subst h2; simp [h]
    · by_cases h3 : c = y
      · subst h3; simp [h, h2]
      · simp [h, h2, h3]
  · by_cases h2 : a = y
    · subst h2
      by_cases h3 : c = x
      · subst h3; simp [h, h1, Ne.symm h]
      · by_cases h4 : c = a
        · subst h4; simp [h1, h3]
        · simp [h1, h3, h4]
    · simp [h1, h2]
theorem V7 (e : Nat × Nat) (i j : Nat) : (Hd e i j).natAbs ≤ 1 := by
  unfold Hd
  have : ∀ a, (isP a e.1 - isP a e.2).natAbs ≤ 1 := fun a => by unfold isP; split <;> split <;> decide
  rw [Int.natAbs_mul]
  exact Nat.mul_le_mul (this i) (this j)
theorem Yl (E : List (Nat × Nat)) (i j : Nat) : (lap E i j).natAbs ≤ E.length := by
  induction E with
  | nil => exact Nat.le_refl _
  | cons e E ih =>
    have h1 := V7 e i j
    have h2 := Int.natAbs_add_le (Hd e i j) (lap E i j)
    rw [lap, List.length_cons]; exact Nat.le_trans (Int.natAbs_add_le _ _) (Nat.le_trans (Nat.add_le_add h1 ih) (Nat.le_of_eq (Nat.add_comm _ _)))
theorem A4r {f : Nat → Int} : cut (Ee (n + 1) f) (some 1) none = Ee n fun b => f (b + 1) := by
  have h := W3 (xs := Ee (n + 1) f) (c := 1) (by rw [Bj]; exact Nat.succ_pos _)
  rw [show ((1 : Nat) : Int) = (1 : Int) from rfl] at h
  rw [h]
  apply List.ext_getElem?
  intro j
  rw [List.getElem?_drop]
  by_cases hj : j < n
  · rw [F0 hj, F0 (by exact Nat.lt_succ_of_le (A0j (Nat.add_comm _ _) hj)), Nat.add_comm]
  · rw [List.getElem?_eq_none (by rw [Bj]; (first | lia | omega)), List.getElem?_eq_none (by rw [Bj]; exact oGe hj)]
end
end Mine
namespace Mine
open PySem
noncomputable def Am (p : Nat) : AV := .int p
theorem C2 : ∀ (F : List Nat), Bc (F.map Am) = some (F.map fun (p : Nat) => (p : Int))
  | [] => rfl
  | x :: F => by
    show (Bc (F.map Am)).map _ = _
    rw [C2 F]; rfl
theorem A3t {F : List Nat} {p : Nat} : ((p : Int) ∈ F.map fun (p : Nat) => (p : Int)) ↔ p ∈ F := by
  constructor
  · intro h
    obtain ⟨x, hx, e⟩ := List.mem_map.mp h
    rw [show p = x by exact Eq.symm (A5x e)]; exact hx
  · intro h; exact List.mem_map.mpr ⟨p, h, rfl⟩
theorem L7 {H : A0} {r p : Nat} {F : List Nat} (h : H[r]? = some (.list (F.map Am))) : Pf (.int p) (.ref r) H = some (decide (p ∈ F)) := by
  unfold Pf
  simp only [h, C2, Option.map_some, A3t]
theorem Hw (x : Int) : ∀ l, (C9 x l).length = l.length + 1
  | [] => rfl
  | y :: r => by unfold C9; split <;> simp [Hw x r]
theorem Ea : ∀ l, (C7 l).length = l.length
  | [] => rfl
  | x :: r => by unfold C7; rw [Hw, Ea r]; rfl
theorem Ie {n : Nat} : ∀ {F : List Nat}, F.Nodup → (∀ p ∈ F, p < n) → F.length ≤ n := by
  induction n with
  | zero => intro F _ h; cases F with
    | nil => exact Nat.le_refl _
    | cons x F => exact absurd (h x List.mem_cons_self) (by exact oZl)
  | succ n ih =>
    intro F hd h
    have h1 := ih (F := F.filter (· ≠ n)) (hd.filter _) fun p hp => by
      have := List.mem_filter.mp hp
      have h2 := h p this.1
      have h3 : p ≠ n := by simpa using this.2
      exact Lk h2 h3
    have h2 : F.length ≤ (F.filter (· ≠ n)).length + 1 := by
      clear ih h h1
      induction F with
      | nil => simp
      | cons x F ih =>
        have hd' := List.nodup_cons.mp hd
        by_cases hx : x = n
        · subst hx
          have : F.filter (· ≠ x) = F := List.filter_eq_self.mpr fun p hp => by
            have : p ≠ x := fun e => hd'.1 (e ▸ hp)
            simpa using this
          rw [List.filter_cons_of_neg (by simp), this]; simp
        · have := ih hd'.2
          simp [hx] at this ⊢
          exact this
    exact Nat.le_trans h2 (Nat.lt_succ_of_le h1)
theorem Vq {n : Nat} {F : List Nat} (hd : F.Nodup) (hl : F.length = n) (h : ∀ p ∈ F, p < n) : ∀ p, p < n → p ∈ F := by
  intro p hp
  apply Classical.byContradiction
  intro hn
  have := Ie (n := n) (F := p :: F) (List.nodup_cons.mpr ⟨hn, hd⟩) fun x hx => by
    rcases List.mem_cons.mp hx with rfl | hx
    · exact hp
    · exact h x hx
  simp at this; exact Nat.ne_of_lt this hl
theorem A2s {n : Nat} {F : List Nat} (h : ∀ p, p < n → p ∈ F) : n ≤ F.length := by
  induction n generalizing F with
  | zero => exact Nat.zero_le _
  | succ n ih =>
    have := ih (F := F.erase n) fun p hp => (List.mem_erase_of_ne (by exact Nat.ne_of_lt hp)).mpr (h p (by exact Nat.lt_succ_of_lt hp))
    rw [List.length_erase_of_mem (h n (by exact Nat.le_refl _))] at this
    have : 0 < F.length := List.length_pos_of_mem (h n (by exact Nat.le_refl _))
    exact Nat.add_le_of_le_sub this (by assumption)
section
variable {strF : Bi} {sc : List Int} {P : Nat → Option FnI} {H H0 : A0} {n m : Nat} {ρ : A8} {cf : Nat → List AV → A0 → Res AV} {N : A8 → A0 → Prop} {R : AV → A0 → Prop}
theorem U3 {test : A8 → A0 → Res Bool} {body : A8 → A0 → SR} (I : Nat → A8 → A0 → Prop) (K : Nat)
    (hs : ∀ k ρ H, k ≤ K → I k ρ H → ∃ t H', test ρ H = .ok t H' ∧ (t = false → N ρ H') ∧ (t = true → k < K ∧ (body ρ H').sat (I (k + 1)) R)) :
    ∀ (f k : Nat) (ρ : A8) (H : A0), K < f + k → k ≤ K → I k ρ H → (Gj test body f ρ H).sat N R := by
  intro f
  induction f with
  | zero => intro k ρ H h1 h2; (first | lia | omega)
  | succ f ih =>
    intro k ρ H h1 h2 hI
    refine bC fun hno => ?_
    obtain ⟨t, H', e, hf, ht⟩ := hs k ρ H h2 hI
    refine hno ?_
    unfold Gj
    rw [e]
    cases t with
    | false => exact hf rfl
    | true =>
      obtain ⟨hk, hb⟩ := ht rfl
      simp only
      cases e2 : body ρ H' with
      | next ρ' H'' => rw [e2] at hb; exact ih (k + 1) ρ' H'' (by exact Iv h1 (Nat.add_right_comm _ _ _)) (by exact hk) hb
      | ret v H'' => rw [e2] at hb; exact hb
      | exc c H'' => rw [e2] at hb; exact hb
      | bad => rw [e2] at hb; exact hb
theorem A4v {c : PE} {body : PSs} {b : Nat} : (Fy strF cf sc b (.whl c body) ρ H).sat N R = (Gj (Bp strF cf sc b c) (Ai strF cf sc b body) 100 ρ H).sat N R := rfl
theorem Mv {r p : Nat} {F : List Nat} (h : H[r]? = some (.list (F.map Am))) (hge : H0.length ≤ r) (hl : F.length < lim) : De H0.length (.ref r) (.int p) H = .ok .none (H.set r (.list ((F ++ [p]).map Am))) := by
  unfold De
  simp only [h]
  rw [if_pos ⟨hge, by simpa using hl⟩]
  simp [Am]
noncomputable def Sw : FnI := ⟨3, 7, .cons (.assign 3 (.list (.cons (.var 2) .nil))) (.cons (.assign 4 (.int 0)) (.cons (.whl (.cmp .Lt (.var 4) (.prim .len (.cons (.var 3) .nil))) (.cons (.for2 5 6 (.of (.var 1)) (.cons (.ite (.and (.cons (.cmp .Eq (.var 5) (.idx (.var 3) (.var 4))) (.cons (.cmp .NotIn (.var 6) (.var 3)) .nil))) (.cons (.expr (.append (.var 3) (.var 6))) .nil) .nil) (.cons (.ite (.and (.cons (.cmp .Eq (.var 6) (.idx (.var 3) (.var 4))) (.cons (.cmp .NotIn (.var 5) (.var 3)) .nil))) (.cons (.expr (.append (.var 3) (.var 5))) .nil) .nil) .nil))) (.cons (.assign 4 (.bin .Add (.var 4) (.int 1))) .nil))) (.cons (.ret (.prim .sorted (.cons (.var 3) .nil))) .nil)))⟩
structure Rch (E : List (Nat × Nat)) (n s : Nat) (F : List Nat) : Prop where
  nd : F.Nodup
  lt : ∀ p ∈ F, p < n ∧ Be E s p
  st : s ∈ F
theorem Rch.add {E : List (Nat × Nat)} {n s x y : Nat} {F : List Nat} (h : Rch E n s F) (hx : x ∈ F) (c : Be E x y) (hy : y < n) (hn : y ∉ F) : Rch E n s (F ++ [y]) :=
  ⟨by
    rw [List.nodup_append]
    refine ⟨h.nd, by simp, fun a ha b hb => ?_⟩
    simp at hb; subst hb
    exact fun e => hn (e ▸ ha), fun p hp => by
    rcases List.mem_append.mp hp with hp | hp
    · exact h.lt p hp
    · simp at hp; subst hp; exact ⟨hy, (h.lt x hx).2.trans c⟩, List.mem_append_left _ h.st⟩
theorem Qw {F F' : List Nat} {k x : Nat} (p : F <+: F') (h : F[k]? = some x) : F'[k]? = some x := by
  obtain ⟨y, rfl⟩ := p
  rw [List.getElem?_append_left (List.getElem?_eq_some_iff.mp h).1]; exact h
end
end Mine
namespace Mine
open PySem
section
variable {strF : Bi} {cf : Nat → List AV → A0 → Res AV} {sc : List Int} {b : Nat} {ρ : A8} {H H1 H2 H3 H4 : A0} {x y z : PE} {es : PEs} {v w u : AV} {vs : List AV} {r t : Bool}
theorem V9 : Aa strF cf sc b .none ρ H = .ok .none H := rfl
theorem Kx {c : Bool} : Aa strF cf sc b (.bool c) ρ H = .ok (.bool c) H := rfl
theorem Ac {i : Int} : Aa strF cf sc b (.int i) ρ H = .ok (.int i) H := rfl
theorem A2x {k : Nat} {i : Int} : Aa strF cf sc b (.gint k i) ρ H = .ok (.int i) H := rfl
theorem A5 {i : Nat} (h : ρ[i]? = some (some v)) : Aa strF cf sc b (.var i) ρ H = .ok v H := by
  show (match ρ[i]? with | some (some v) => Res.ok v H | _ => .bad) = _
  rw [h]
theorem Aj {op : Operator} (h1 : Aa strF cf sc b x ρ H = .ok v H1) (h2 : Aa strF cf sc b y ρ H1 = .ok w H2) (h3 : Bg op v w H2 = .ok u H3) : Aa strF cf sc b (.bin op x y) ρ H = .ok u H3 := by
  show (Aa strF cf sc b x ρ H).get _ = _
  rw [h1]; show (Aa strF cf sc b y ρ H1).get _ = _
  rw [h2]; exact h3
theorem A0f {i : Int} (h1 : Aa strF cf sc b x ρ H = .ok (.int i) H1) : Aa strF cf sc b (.neg x) ρ H = .ok (.int (-i)) H1 := by
  show (Aa strF cf sc b x ρ H).get _ = _
  rw [h1]; rfl
theorem A79 (h1 : Aa strF cf sc b x ρ H = .ok (.bool t) H1) : Aa strF cf sc b (.not x) ρ H = .ok (.bool (!t)) H1 := by
  show (Aa strF cf sc b x ρ H).get _ = _
  rw [h1]; rfl
theorem Qp (h1 : Aa strF cf sc b x ρ H = .ok (.bool false) H1) : Aa strF cf sc b (.not x) ρ H = .ok (.bool true) H1 := A79 h1
theorem A3i (h1 : Aa strF cf sc b x ρ H = .ok (.bool true) H1) : Aa strF cf sc b (.not x) ρ H = .ok (.bool false) H1 := A79 h1
theorem Hb {op : CmpOp} (h1 : Aa strF cf sc b x ρ H = .ok v H1) (h2 : Aa strF cf sc b y ρ H1 = .ok w H2) (h3 : B4 op v w H2 = some r) : Aa strF cf sc b (.cmp op x y) ρ H = .ok (.bool r) H2 := by
  show (Aa strF cf sc b x ρ H).get _ = _
  rw [h1]; show (Aa strF cf sc b y ρ H1).get _ = _
  rw [h2]; show (match B4 op v w H2 with | some r => Res.ok (AV.bool r) H2 | none => .bad) = _
  rw [h3]
theorem Vd {o1 o2 : CmpOp} (h1 : Aa strF cf sc b x ρ H = .ok v H1) (h2 : Aa strF cf sc b y ρ H1 = .ok w H2) (h3 : B4 o1 v w H2 = some true) (h4 : Aa strF cf sc b z ρ H2 = .ok u H3) (h5 : B4 o2 w u H3 = some r) :
    Aa strF cf sc b (.cmp2 o1 o2 x y z) ρ H = .ok (.bool r) H3 := by
  rw [M9, h1]; show (Aa strF cf sc b y ρ H1).get _ = _
  rw [h2]; simp only [Res.get, h3, h4, h5]
theorem Wc {o1 o2 : CmpOp} (h1 : Aa strF cf sc b x ρ H = .ok v H1) (h2 : Aa strF cf sc b y ρ H1 = .ok w H2) (h3 : B4 o1 v w H2 = some false) : Aa strF cf sc b (.cmp2 o1 o2 x y z) ρ H = .ok (.bool false) H2 := by
  rw [M9, h1]; show (Aa strF cf sc b y ρ H1).get _ = _
  rw [h2]; simp only [Res.get, h3]
theorem Fw (h : Eo strF cf sc b es ρ H = .ok v H1) : Aa strF cf sc b (.and es) ρ H = .ok v H1 := h
theorem Kd (h : Aa strF cf sc b x ρ H = .ok v H1) : Eo strF cf sc b (.cons x .nil) ρ H = .ok v H1 := h
theorem Dm (h : Aa strF cf sc b x ρ H = .ok (.bool true) H1) (h2 : Eo strF cf sc b (.cons y es) ρ H1 = .ok v H2) : Eo strF cf sc b (.cons x (.cons y es)) ρ H = .ok v H2 := by
  rw [Xz, h]; exact h2
theorem M7 (h : Aa strF cf sc b x ρ H = .ok (.bool false) H1) : Eo strF cf sc b (.cons x (.cons y es)) ρ H = .ok (.bool false) H1 := by
  rw [Xz, h]; rfl
theorem A4c (h1 : Bp strF cf sc b x ρ H = .ok true H1) (h2 : Aa strF cf sc b y ρ H1 = .ok v H2) : Aa strF cf sc b (.ite x y z) ρ H = .ok v H2 := by
  rw [Rm, h1]; exact h2
theorem A43 (h1 : Bp strF cf sc b x ρ H = .ok false H1) (h2 : Aa strF cf sc b z ρ H1 = .ok v H2) : Aa strF cf sc b (.ite x y z) ρ H = .ok v H2 := by
  rw [Rm, h1]; exact h2
theorem An {k : Nat} (h1 : Br strF cf sc b es ρ H = .ok vs H1) (h2 : cf k vs H1 = .ok v H2) : Aa strF cf sc b (.call k es) ρ H = .ok v H2 := by
  rw [Ma, h1]; exact h2
theorem Ak {p : D9} (h1 : Br strF cf sc b es ρ H = .ok vs H1) (h2 : prim strF sc p vs H1 = .ok v H2) : Aa strF cf sc b (.prim p es) ρ H = .ok v H2 := by
  rw [Qx, h1]; exact h2
theorem A7o (h1 : Aa strF cf sc b x ρ H = .ok v H1) (h2 : prim strF sc .sortedSet [v] H1 = .ok w H2) : Aa strF cf sc b (.sset x) ρ H = .ok w H2 := by
  rw [A4l, h1]; exact h2
theorem Ap (h1 : Aa strF cf sc b x ρ H = .ok v H1) (h2 : Aa strF cf sc b y ρ H1 = .ok w H2) (h3 : Bx sc v w H2 = .ok u H3) : Aa strF cf sc b (.idx x y) ρ H = .ok u H3 := by
  rw [W4, h1]; show (Aa strF cf sc b y ρ H1).get _ = _
  rw [h2]; exact h3
theorem E4 : Ly strF cf sc b .none ρ H = .ok none H := rfl
theorem E6 {i : Int} (h1 : Aa strF cf sc b x ρ H = .ok (.int i) H1) : Ly strF cf sc b (.some x) ρ H = .ok (some i) H1 := by
  rw [A6j, h1]; rfl
theorem D1 {lo hi : PEo} {l h : Option Int} {q : Nat} {xs : List AV} (h1 : Aa strF cf sc b x ρ H = .ok (.ref q) H1) (h2 : Ly strF cf sc b lo ρ H1 = .ok l H2) (h3 : Ly strF cf sc b hi ρ H2 = .ok h H3) (h4 : H3[q]? = some (.list xs)) (h5 : B7 (cut xs l h) H3 = .ok v H4) :
    Aa strF cf sc b (.slice x lo hi) ρ H = .ok v H4 := by
  rw [Oc, h1]; show (Ly strF cf sc b lo ρ H1).get _ = _
  rw [h2]; show (Ly strF cf sc b hi ρ H2).get _ = _
  rw [h3]; simp only [Res.get, h4, h5]
theorem Cs (h1 : Br strF cf sc b es ρ H = .ok vs H1) (h2 : B7 vs H1 = .ok v H2) : Aa strF cf sc b (.list es) ρ H = .ok v H2 := by
  rw [Qs, h1]; exact h2
theorem Gr (h1 : Br strF cf sc b es ρ H = .ok vs H1) (h2 : Ot vs H1 = .ok v H2) : Aa strF cf sc b (.tuple es) ρ H = .ok v H2 := by
  rw [O7, h1]; exact h2
theorem Eb {it : It} {c : PEo} {p : List AV × List (Nat × List AV)} (h1 : Dy strF cf sc b it ρ H = .ok p H1)
    (h2 : Bh p.2 (fun v H => (Mm strF cf sc b c (some v :: ρ) H).get fun t H => if t then (Aa strF cf sc b x (some v :: ρ) H).get fun x H => .ok (some x) H else .ok none H) p.1 H1 = .ok vs H2) (h3 : B7 vs H2 = .ok v H3) :
    Aa strF cf sc b (.comp1 x it c) ρ H = .ok v H3 := by
  rw [N5, h1]; show Res.get (Bh p.2 _ p.1 H1) _ = _
  rw [h2]; exact h3
theorem Rd {it : It} {p : List AV × List (Nat × List AV)} (h1 : Dy strF cf sc b it ρ H = .ok p H1)
    (h2 : Bh p.2 (fun v H => Hz (fun u w => (Aa strF cf sc b x (some u :: some w :: ρ) H).get fun x H => .ok (some x) H) v) p.1 H1 = .ok vs H2) (h3 : B7 vs H2 = .ok v H3) :
    Aa strF cf sc b (.comp2 x it) ρ H = .ok v H3 := by
  rw [Nk, h1]; show Res.get (Bh p.2 _ p.1 H1) _ = _
  rw [h2]; exact h3
theorem Eh (h : Aa strF cf sc b x (some u :: ρ) H = .ok v H1) : ((Mm strF cf sc b .none (some u :: ρ) H).get fun t H => if t then (Aa strF cf sc b x (some u :: ρ) H).get fun x H => .ok (some x) H else .ok none H) = .ok (some v) H1 := by
  show (Aa strF cf sc b x (some u :: ρ) H).get _ = _
  rw [h]; rfl
theorem Uw (h : Aa strF cf sc b x (some v :: some w :: ρ) H = .ok u H1) : Hz (fun u w => (Aa strF cf sc b x (some u :: some w :: ρ) H).get fun x H => .ok (some x) H) (.tup [v, w]) = .ok (some u) H1 := by
  show (Aa strF cf sc b x (some v :: some w :: ρ) H).get _ = _
  rw [h]; rfl
theorem K2 (h1 : Aa strF cf sc b x ρ H = .ok v H1) (h2 : isL v H1 = true) (h3 : Aa strF cf sc b y ρ H1 = .ok w H2) (h4 : De b v w H2 = .ok u H3) : Aa strF cf sc b (.append x y) ρ H = .ok u H3 := by
  rw [L6, h1]; show (if isL v H1 = true then _ else _) = _
  rw [if_pos h2, h3]; exact h4
theorem A7 : Br strF cf sc b .nil ρ H = .ok [] H := rfl
theorem A6 (h1 : Aa strF cf sc b x ρ H = .ok v H1) (h2 : Br strF cf sc b es ρ H1 = .ok vs H2) : Br strF cf sc b (.cons x es) ρ H = .ok (v :: vs) H2 := by
  rw [Ms, h1]; show (Br strF cf sc b es ρ H1).thn _ = _
  rw [h2]; rfl
theorem A75 (h1 : Bp strF cf sc b x ρ H = .ok t H1) : Bp strF cf sc b (.not x) ρ H = .ok (!t) H1 := by
  rw [A0x, h1]; rfl
theorem A1q (h1 : Bp strF cf sc b x ρ H = .ok false H1) : Bp strF cf sc b (.not x) ρ H = .ok true H1 := A75 h1
theorem Cu (h1 : Bp strF cf sc b x ρ H = .ok true H1) : Bp strF cf sc b (.not x) ρ H = .ok false H1 := A75 h1
theorem As {op : CmpOp} (h1 : Aa strF cf sc b x ρ H = .ok v H1) (h2 : Aa strF cf sc b y ρ H1 = .ok w H2) (h3 : B4 op v w H2 = some r) : Bp strF cf sc b (.cmp op x y) ρ H = .ok r H2 := by
  rw [A1u, h1]; show (Aa strF cf sc b y ρ H1).get _ = _
  rw [h2]; simp only [Res.get, h3]
theorem Q5 (h : Da strF cf sc b es ρ H = .ok r H1) : Bp strF cf sc b (.and es) ρ H = .ok r H1 := h
theorem Pe (h : Ex strF cf sc b es ρ H = .ok r H1) : Bp strF cf sc b (.or es) ρ H = .ok r H1 := h
theorem A47 : Da strF cf sc b .nil ρ H = .ok true H := rfl
theorem Ib (h : Bp strF cf sc b x ρ H = .ok true H1) (h2 : Da strF cf sc b es ρ H1 = .ok r H2) : Da strF cf sc b (.cons x es) ρ H = .ok r H2 := by
  rw [Td, h]; exact h2
theorem Jo (h : Bp strF cf sc b x ρ H = .ok false H1) : Da strF cf sc b (.cons x es) ρ H = .ok false H1 := by
  rw [Td, h]; rfl
theorem I1 : Ex strF cf sc b .nil ρ H = .ok false H := rfl
theorem Wt (h : Bp strF cf sc b x ρ H = .ok true H1) : Ex strF cf sc b (.cons x es) ρ H = .ok true H1 := by
  rw [Sq, h]; rfl
theorem Bf (h : Bp strF cf sc b x ρ H = .ok false H1) (h2 : Ex strF cf sc b es ρ H1 = .ok r H2) : Ex strF cf sc b (.cons x es) ρ H = .ok r H2 := by
  rw [Sq, h]; exact h2
theorem Ht {k : Nat} (h1 : Br strF cf sc b es ρ H = .ok vs H1) (h2 : cf k vs H1 = .ok (.bool t) H2) : Bp strF cf sc b (.call k es) ρ H = .ok t H2 := by
  rw [Wm, h1]; show (cf k vs H1).get _ = _
  rw [h2]; rfl
theorem Ft {p : D9} (h1 : Br strF cf sc b es ρ H = .ok vs H1) (h2 : prim strF sc p vs H1 = .ok (.bool t) H2) : Bp strF cf sc b (.prim p es) ρ H = .ok t H2 := by
  rw [Ws, h1]; show (prim strF sc p vs H1).get _ = _
  rw [h2]; rfl
theorem Em {q : Nat} (h1 : Aa strF cf sc b x ρ H = .ok (.ref q) H1) (h2 : H1[q]? = some (.list vs)) : Dy strF cf sc b (.of x) ρ H = .ok (vs, [(q, vs)]) H1 := by
  rw [A9a, h1]; simp only [Res.get, h2]
theorem Es {k : Int} (h1 : Aa strF cf sc b x ρ H = .ok (.int k) H1) (h2 : inR k = true) : Dy strF cf sc b (.range1 x) ρ H = .ok (B1 0 k, []) H1 := by
  rw [Yu, h1]; simp only [Res.get, h2, if_true]
theorem Ka {j k : Int} (h1 : Aa strF cf sc b x ρ H = .ok (.int j) H1) (h2 : Aa strF cf sc b y ρ H1 = .ok (.int k) H2) (h3 : inR j = true) (h4 : inR k = true) : Dy strF cf sc b (.range2 x y) ρ H = .ok (B1 j k, []) H2 := by
  rw [Zy, h1]; show (Aa strF cf sc b y ρ H1).get _ = _
  rw [h2]; simp only [Res.get, h3, h4, and_self, if_true]
variable {N : A8 → A0 → Prop} {R : AV → A0 → Prop} {ss tt ee : PSs}
theorem Bt (h : N ρ H) : (Ai strF cf sc b .nil ρ H).sat N R := h
theorem Ag {i : Nat} (h : Aa strF cf sc b x ρ H = .ok v H1) (k : (Ai strF cf sc b ss (ρ.set i (some v)) H1).sat N R) : (Ai strF cf sc b (.cons (.assign i x) ss) ρ H).sat N R := by
  rw [C1, Mu, h]; exact k
theorem Ek {is : List Nat} {ρ' : A8} (h : Aa strF cf sc b x ρ H = .ok (.tup vs) H1) (h2 : Eg is vs ρ = some ρ') (k : (Ai strF cf sc b ss ρ' H1).sat N R) : (Ai strF cf sc b (.cons (.assigns is x) ss) ρ H).sat N R := by
  rw [C1, Sm, h]; exact ⟨vs, ρ', rfl, h2, k⟩
theorem Bn (h : Bp strF cf sc b x ρ H = .ok true H1) (k : (Ai strF cf sc b tt ρ H1).sat (fun ρ H => (Ai strF cf sc b ss ρ H).sat N R) R) : (Ai strF cf sc b (.cons (.ite x tt ee) ss) ρ H).sat N R := by
  rw [C1, Rr, h]; exact k
theorem Ux (h : Bp strF cf sc b x ρ H = .ok false H1) (k : (Ai strF cf sc b ee ρ H1).sat (fun ρ H => (Ai strF cf sc b ss ρ H).sat N R) R) : (Ai strF cf sc b (.cons (.ite x tt ee) ss) ρ H).sat N R := by
  rw [C1, Rr, h]; exact k
theorem B0 (h : Bp strF cf sc b x ρ H = .ok false H1) (k : (Ai strF cf sc b ss ρ H1).sat N R) : (Ai strF cf sc b (.cons (.ite x tt .nil) ss) ρ H).sat N R := Ux h k
theorem Az (h : Aa strF cf sc b x ρ H = .ok v H1) (k : R v H1) : (Ai strF cf sc b (.cons (.ret x) ss) ρ H).sat N R := by
  rw [C1, M1, h]; exact k
theorem Gs (h : Aa strF cf sc b x ρ H = .ok v H1) (k : (Ai strF cf sc b ss ρ H1).sat N R) : (Ai strF cf sc b (.cons (.expr x) ss) ρ H).sat N R := by
  rw [C1, A3c, h]; exact k
theorem E5 {i : Nat} {it : It} {p : List AV × List (Nat × List AV)} (h : Dy strF cf sc b it ρ H = .ok p H1) (k : (Ed p.2 (fun v ρ H => Ai strF cf sc b tt (ρ.set i (some v)) H) p.1 ρ H1).sat (fun ρ H => (Ai strF cf sc b ss ρ H).sat N R) R) :
    (Ai strF cf sc b (.cons (.for1 i it tt) ss) ρ H).sat N R := by
  rw [C1, A0q, h]; exact k
theorem Vf {i j : Nat} {it : It} {p : List AV × List (Nat × List AV)} (h : Dy strF cf sc b it ρ H = .ok p H1) (k : (Ed p.2 (fun v ρ H => L8 (fun x y => Ai strF cf sc b tt ((ρ.set i (some x)).set j (some y)) H) v) p.1 ρ H1).sat (fun ρ H => (Ai strF cf sc b ss ρ H).sat N R) R) :
    (Ai strF cf sc b (.cons (.for2 i j it tt) ss) ρ H).sat N R := by
  rw [C1, A44, h]; exact k
theorem Ay {P : Nat → Option FnI} {n k np nv : Nat} {body : PSs} {args : List AV} {K : AV → A0 → Prop} (hk : P k = some ⟨np, nv, body⟩) (hl : args.length = np) (h : (Ai strF (Ah strF P sc n) sc H.length body (args.map some ++ List.replicate (nv - np) none) H).sat (fun _ H => K .none H) K) :
    (Ah strF P sc (n + 1) k args H).sat K := by
  rw [Nc hk hl]; exact h
theorem Fl {α : Type} {r : Res α} {a : α} {H : A0} (h : r.sat fun v H' => v = a ∧ H' = H) : r = .ok a H := by
  obtain ⟨_, _, e, h1, h2⟩ := Res.sat_ex h
  rw [e, h1, h2]
end
end Mine
namespace Mine
noncomputable def up (S : List Nat) : List Nat := S.map (· + 1)
noncomputable def up0 (S : List Nat) : List Nat := 0 :: up S
noncomputable def ctr (e : Nat × Nat) (E : List (Nat × Nat)) : List (Nat × Nat) := E.map (Fh (min e.1 e.2) (max e.1 e.2))
noncomputable def Bz : Nat → Nat → List (Nat × Nat) → List (List Nat)
  | 0, n, _ => if n = 0 then [[]] else []
  | k + 1, n, E => if n = 0 then [[]] else match E with
    | [] => []
    | e :: E' => (if e.1 = e.2 then [] else (Bz k (n - 1) (ctr e E')).map up0) ++ (Bz k n E').map up
theorem Dp (k : Nat) (E : List (Nat × Nat)) : Bz k 0 E = [[]] := by cases k <;> exact if_pos rfl
theorem Hv (n : Nat) (E : List (Nat × Nat)) : Bz 0 (n + 1) E = [] := if_neg (by exact Nat.succ_ne_zero _)
theorem Iu (k n : Nat) (e : Nat × Nat) (E : List (Nat × Nat)) : Bz (k + 1) (n + 1) (e :: E) = (if e.1 = e.2 then [] else (Bz k n (ctr e E)).map up0) ++ (Bz k (n + 1) E).map up := if_neg (by exact Nat.succ_ne_zero _)
theorem Bb (e : Nat × Nat) (E : List (Nat × Nat)) : (ctr e E).length = E.length := List.length_map ..
theorem Dw {n : Nat} {e : Nat × Nat} {E : List (Nat × Nat)} (hne : e.1 ≠ e.2) (h : okT (n + 2) (e :: E)) : okT (n + 1) (ctr e E) := by
  have he := h e List.mem_cons_self
  exact Mh (by exact A7y hne) (Nat.max_lt.mpr he) (Cm h)
theorem Ga {n : Nat} {e : Nat × Nat} {E : List (Nat × Nat)} (h : okT (n + 1 + 1) (e :: E)) : tau (n + 1 + 1) (e :: E) = tau (n + 1 + 1) E + if e.1 = e.2 then 0 else tau (n + 1) (ctr e E) := by
  by_cases hl : e.1 = e.2
  · rw [Mi hl, if_pos hl]; exact Eq.symm (Int.add_zero _)
  · have he := h e List.mem_cons_self
    rw [if_neg hl]
    exact A5o hl he.1 he.2 (Cm h)
theorem G4 : ∀ (k : Nat) {n : Nat} {E : List (Nat × Nat)}, E.length = k → okT (n + 1) E → ((Bz k n E).length : Int) = tau (n + 1) E
  | k, 0, E, _, _ => by rw [Dp, Mc]; rfl
  | 0, n + 1, E, hk, h => by rw [Hv, List.length_eq_zero_iff.mp hk, Qq]; rfl
  | k + 1, n + 1, [], hk, h => by cases hk
  | k + 1, n + 1, e :: E, hk, h => by
    have hk' : E.length = k := by simpa using hk
    rw [Iu, List.length_append, List.length_map, Ga h, ← G4 k hk' (Cm h)]
    by_cases hl : e.1 = e.2
    · rw [if_pos hl, if_pos hl]; simp
    · rw [if_neg hl, if_neg hl, List.length_map, ← G4 k (by rw [Bb]; exact hk') (Dw hl h)]; exact Eq.symm (Int.add_comm _ _)
theorem Lo {e : Nat × Nat} {F : List (Nat × Nat)} {p q : Nat} : Be ((min e.1 e.2, max e.1 e.2) :: F) p q ↔ Be (e :: F) p q := by
  have h : (min e.1 e.2, max e.1 e.2) = e ∨ (min e.1 e.2, max e.1 e.2) = (e.2, e.1) := by
    by_cases h : e.1 ≤ e.2
    · rw [Nat.min_eq_left h, Nat.max_eq_right h]; exact .inl rfl
    · rw [Nat.min_eq_right (by exact Nat.le_of_lt (oGt h)), Nat.max_eq_left (by exact Nat.le_of_lt (oGt h))]; exact .inr rfl
  rcases h with h | h
  · rw [h]
  · rw [h]
    constructor
    · intro c
      refine c.mono fun f hf => ?_
      rcases List.mem_cons.mp hf with rfl | hf
      · exact (Be.tie (e := e) List.mem_cons_self).symm
      · exact .tie (List.mem_cons_of_mem _ hf)
    · intro c
      refine c.mono fun f hf => ?_
      rcases List.mem_cons.mp hf with rfl | hf
      · exact (Be.tie (e := (f.2, f.1)) List.mem_cons_self).symm
      · exact .tie (List.mem_cons_of_mem _ hf)
theorem O1 {n : Nat} {e : Nat × Nat} {F : List (Nat × Nat)} (hne : e.1 ≠ e.2) (h1 : e.1 < n + 2) (h2 : e.2 < n + 2) : F9 (n + 2) (e :: F) ↔ F9 (n + 1) (ctr e F) := by
  have hl : min e.1 e.2 < max e.1 e.2 := by exact A7y hne
  have hh : max e.1 e.2 < n + 2 := Nat.max_lt.mpr ⟨h1, h2⟩
  generalize hlo : min e.1 e.2 = lo at hl
  generalize hhi : max e.1 e.2 = hi at hl hh
  have hc : ∀ p q, Be ((lo, hi) :: F) p q ↔ Be (e :: F) p q := fun p q => by rw [← hlo, ← hhi]; exact Lo
  unfold ctr
  rw [hlo, hhi]
  constructor
  · intro q x y hx hy
    have := ((hc _ _).mpr (q (skip hi x) (skip hi y) (Ia (by exact hh) hx) (Ia (by exact hh) hy))).join hl
    rwa [Ej, Ej] at this
  · intro q x y hx hy
    exact (hc x y).mp ((q _ _ (Ih hl hh hx) (Ih hl hh hy)).unjoin hl x y rfl rfl)
theorem Q0 {n : Nat} {e : Nat × Nat} {F : List (Nat × Nat)} (hl : e.1 = e.2) (h : F9 n (e :: F)) : F9 n F := by
  intro x y hx hy
  refine (h x y hx hy).mono fun f hf => ?_
  rcases List.mem_cons.mp hf with rfl | hf
  · rw [hl]; exact .refl _
  · exact .tie hf
theorem K4 : ∀ (k : Nat) {n : Nat} {F : List (Nat × Nat)}, F.length = k → okT (n + 1) F → F9 (n + 1) F → n ≤ k
  | k, 0, F, _, _, _ => Nat.zero_le _
  | 0, n + 1, F, hk, h, hc => by
    cases List.length_eq_zero_iff.mp hk
    exact absurd (Nh (hc 0 1 (by exact Nat.succ_pos _) (by exact Nat.le_add_left _ _))) (by decide)
  | k + 1, n + 1, [], hk, h, hc => by cases hk
  | k + 1, n + 1, e :: F, hk, h, hc => by
    have hk' : F.length = k := by simpa using hk
    by_cases hl : e.1 = e.2
    · have := K4 k hk' (Cm h) (Q0 hl hc); exact Nat.lt_succ_of_lt this
    · have he := h e List.mem_cons_self
      have := K4 k (by rw [Bb]; exact hk') (Dw hl h) ((O1 hl he.1 he.2).mp hc)
      exact Nat.lt_succ_of_le this
noncomputable def D3 : Nat → Nat → List (List Nat)
  | 0, k => if k = 0 then [[]] else []
  | m + 1, k => if k = 0 then [[]] else (D3 m (k - 1)).map up0 ++ (D3 m k).map up
theorem Cl (m : Nat) : D3 m 0 = [[]] := by cases m <;> exact if_pos rfl
theorem F5 (k : Nat) : D3 0 (k + 1) = [] := if_neg (by exact Nat.succ_ne_zero _)
theorem D8 (m k : Nat) : D3 (m + 1) (k + 1) = (D3 m k).map up0 ++ (D3 m (k + 1)).map up := if_neg (by exact Nat.succ_ne_zero _)
structure Ris (m k : Nat) (S : List Nat) : Prop where
  len : S.length = k
  lt : ∀ i ∈ S, i < m
  pw : S.Pairwise (· < ·)
theorem Ab5 {S : List Nat} (h : S.Pairwise (· < ·)) : (up S).Pairwise (· < ·) := by
  unfold up
  exact List.pairwise_map.mpr (h.imp fun q => by exact Nat.lt_succ_of_le q)
theorem Ris.up {m k : Nat} {S : List Nat} (h : Ris m k S) : Ris (m + 1) k (up S) :=
  ⟨by rw [Mine.up, List.length_map]; exact h.len, fun i hi => by obtain ⟨j, hj, rfl⟩ := List.mem_map.mp hi; have := h.lt j hj; exact Nat.lt_succ_of_le this, Ab5 h.pw⟩
theorem Ris.up0 {m k : Nat} {S : List Nat} (h : Ris m k S) : Ris (m + 1) (k + 1) (up0 S) :=
  ⟨by rw [Mine.up0, List.length_cons, h.up.len], fun i hi => by
    rcases List.mem_cons.mp hi with rfl | hi
    · exact Nat.succ_pos _
    · exact h.up.lt i hi, List.pairwise_cons.mpr ⟨fun i hi => by obtain ⟨j, _, rfl⟩ := List.mem_map.mp hi; exact Nat.succ_pos _, h.up.pw⟩⟩
theorem Ris.nil {m : Nat} : Ris m 0 [] := ⟨rfl, fun i hi => (by cases hi), .nil⟩
theorem Et : ∀ {m k : Nat} {S : List Nat}, S ∈ D3 m k → Ris m k S
  | m, 0, S, h => by rw [Cl] at h; simp at h; subst h; exact .nil
  | 0, k + 1, S, h => by rw [F5] at h; cases h
  | m + 1, k + 1, S, h => by
    rw [D8] at h
    rcases List.mem_append.mp h with h | h
    · obtain ⟨S', h', rfl⟩ := List.mem_map.mp h; exact (Et h').up0
    · obtain ⟨S', h', rfl⟩ := List.mem_map.mp h; exact (Et h').up
noncomputable def Bo (E : List (Nat × Nat)) (S : List Nat) : List (Nat × Nat) := S.map fun i => E.getD i (0, 0)
theorem Ww (e : Nat × Nat) (E : List (Nat × Nat)) (S : List Nat) : Bo (e :: E) (up S) = Bo E S := by
  unfold Bo up
  rw [List.map_map]
  exact List.map_congr_left fun i _ => List.getD_cons_succ
theorem Su (e : Nat × Nat) (E : List (Nat × Nat)) (S : List Nat) : Bo (e :: E) (up0 S) = e :: Bo E S := by
  rw [← Ww e E S]; rfl
theorem A0s {e : Nat × Nat} {E : List (Nat × Nat)} {S : List Nat} (h : ∀ i ∈ S, i < E.length) : ctr e (Bo E S) = Bo (ctr e E) S := by
  unfold Bo ctr
  rw [List.map_map]
  refine List.map_congr_left fun i hi => ?_
  have hi' := h i hi
  simp only [Function.comp, List.getD_eq_getElem?_getD, List.getElem?_map, List.getElem?_eq_getElem hi', Option.map_some, Option.getD_some]
theorem G5 {n : Nat} {E : List (Nat × Nat)} {S : List Nat} (h : okT n E) (hS : ∀ i ∈ S, i < E.length) : okT n (Bo E S) := by
  intro e he
  obtain ⟨i, hi, rfl⟩ := List.mem_map.mp he
  have hi' := hS i hi
  rw [List.getD_eq_getElem?_getD, List.getElem?_eq_getElem hi', Option.getD_some]
  exact h _ (List.getElem_mem ..)
theorem G3 {α β : Type} {f : α → β} {g : β → Bool} {g' : α → Bool} {l : List α} (h : ∀ x ∈ l, g (f x) = g' x) : (l.map f).filter g = (l.filter g').map f := by
  rw [List.filter_map]
  congr 1
  exact List.filter_congr fun x hx => h x hx
theorem Dz : ∀ (k : Nat) {n : Nat} {E : List (Nat × Nat)} {g : List Nat → Bool}, E.length = k → okT (n + 1) E → (∀ S, Ris k n S → (g S = true ↔ F9 (n + 1) (Bo E S))) → (D3 k n).filter g = Bz k n E
  | k, 0, E, g, hk, h, hg => by
    rw [Cl, Dp, List.filter_cons_of_pos]
    · rfl
    · exact (hg [] .nil).mpr fun p q hp hq => by rw [show p = q by exact (Nat.lt_one_iff.mp hp).trans (Nat.lt_one_iff.mp hq).symm]; exact .refl _
  | 0, n + 1, E, g, hk, h, hg => by rw [F5, Hv]; rfl
  | k + 1, n + 1, [], g, hk, h, hg => by cases hk
  | k + 1, n + 1, e :: E, g, hk, h, hg => by
    have hk' : E.length = k := by simpa using hk
    have he := h e List.mem_cons_self
    rw [D8, Iu, List.filter_append]
    have e2 : ((D3 k (n + 1)).map up).filter g = (Bz k (n + 1) E).map up := by
      rw [G3 (g' := fun S => g (up S)) fun x _ => rfl]
      rw [Dz k hk' (Cm h) fun S hS => by rw [hg _ hS.up, Ww]]
    have e1 : ((D3 k n).map up0).filter g = if e.1 = e.2 then [] else (Bz k n (ctr e E)).map up0 := by
      by_cases hl : e.1 = e.2
      · rw [if_pos hl]
        refine List.filter_eq_nil_iff.mpr fun x hx => ?_
        obtain ⟨S, hS, rfl⟩ := List.mem_map.mp hx
        have r := Et hS
        intro q
        have c := (hg _ r.up0).mp q
        rw [Su] at c
        have hlt : ∀ i ∈ S, i < E.length := fun i hi => by have := r.lt i hi; exact Iv this (Eq.symm hk')
        have := K4 n (by unfold Bo; rw [List.length_map]; exact r.len) (G5 (Cm h) hlt) (Q0 hl c)
        exact Nat.lt_irrefl _ this
      · rw [if_neg hl, G3 (g' := fun S => g (up0 S)) fun x _ => rfl]
        rw [Dz k (by rw [Bb]; exact hk') (Dw hl h) fun S hS => ?_]
        rw [hg _ hS.up0, Su, O1 hl he.1 he.2, A0s fun i hi => by have := hS.lt i hi; exact Iv this (Eq.symm hk')]
    rw [e1, e2]
theorem Jz : ∀ (k : Nat) {n : Nat} {E : List (Nat × Nat)} {S : List Nat}, S ∈ Bz k n E → Ris k n S
  | k, 0, E, S, h => by rw [Dp] at h; simp at h; subst h; exact .nil
  | 0, n + 1, E, S, h => by rw [Hv] at h; cases h
  | k + 1, n + 1, [], S, h => by cases h
  | k + 1, n + 1, e :: E, S, h => by
    rw [Iu] at h
    rcases List.mem_append.mp h with h | h
    · split at h
      · cases h
      · obtain ⟨S', h', rfl⟩ := List.mem_map.mp h; exact (Jz k h').up0
    · obtain ⟨S', h', rfl⟩ := List.mem_map.mp h; exact (Jz k h').up
theorem Tk {k n : Nat} {E : List (Nat × Nat)} {S : List Nat} (hk : E.length = k) (h : okT (n + 1) E) (hS : S ∈ Bz k n E) : F9 (n + 1) (Bo E S) := by
  have := Dz (g := fun S => @decide (F9 (n + 1) (Bo E S)) (Classical.propDecidable _)) k hk h fun S _ => ⟨fun q => @of_decide_eq_true _ (Classical.propDecidable _) q, fun q => @decide_eq_true _ (Classical.propDecidable _) q⟩
  rw [← this] at hS
  exact @of_decide_eq_true _ (Classical.propDecidable _) (List.mem_filter.mp hS).2
theorem A4u {S : List Nat} : 0 ∉ up S := by
  unfold up
  intro h; obtain ⟨j, hj, e⟩ := List.mem_map.mp h; exact Nat.succ_ne_zero _ e
theorem Pt {α β : Type} (f : α → β) : ∀ (l : List α) (i : Nat), (l.map f).eraseIdx i = (l.eraseIdx i).map f
  | [], _ => rfl
  | x :: l, 0 => rfl
  | x :: l, i + 1 => by rw [List.map_cons, List.eraseIdx_cons_succ, List.eraseIdx_cons_succ, List.map_cons, Pt f l i]
theorem Zf (e : Nat × Nat) (E : List (Nat × Nat)) (i : Nat) : (ctr e E).eraseIdx i = ctr e (E.eraseIdx i) := Pt _ E i
theorem L1 {n : Nat} {E : List (Nat × Nat)} (h : okT n E) (i : Nat) : okT n (E.eraseIdx i) := fun e he => h e ((List.eraseIdx_sublist ..).subset he)
noncomputable def Jw (n : Nat) (E : List (Nat × Nat)) : List Int := (List.range E.length).map fun i => tau n E - tau n (E.eraseIdx i)
theorem A6a (l : List Nat) (f g : Nat → Int) : (l.map fun i => f i + g i).sum = (l.map f).sum + (l.map g).sum := by
  induction l with
  | nil => rfl
  | cons x l ih => simp only [List.map_cons, List.sum_cons, ih]; exact A7l
theorem J9 : ∀ (k : Nat) {n : Nat} {E : List (Nat × Nat)}, E.length = k → okT (n + 1) E → (Jw (n + 1) E).sum = tau (n + 1) E * n
  | k, 0, E, _, _ => by
    unfold Jw
    have : ∀ l : List Nat, (l.map fun i => tau (0 + 1) E - tau (0 + 1) (E.eraseIdx i)).sum = 0 := fun l => by
      induction l with
      | nil => rfl
      | cons x l ih => rw [List.map_cons, List.sum_cons, ih, Mc, Mc]; rfl
    rw [this]; simp
  | 0, n + 1, E, hk, h => by
    cases List.length_eq_zero_iff.mp hk
    rw [Qq]; simp [Jw]
  | k + 1, n + 1, [], hk, h => by cases hk
  | k + 1, n + 1, e :: E, hk, h => by
    have hk' : E.length = k := by simpa using hk
    have i2 := J9 k hk' (Cm h)
    unfold Jw
    rw [List.length_cons, List.range_succ_eq_map, List.map_cons, List.sum_cons, List.map_map, List.eraseIdx_cons_zero]
    have h' : ∀ i, okT (n + 2) (e :: E.eraseIdx i) := fun i f hf => by
      rcases List.mem_cons.mp hf with rfl | hf
      · exact h _ List.mem_cons_self
      · exact L1 (Cm h) i f hf
    by_cases hl : e.1 = e.2
    · have t1 := Ga h
      rw [if_pos hl, Int.add_zero] at t1
      rw [t1]
      have : (List.range E.length).map ((fun i => tau (n + 1 + 1) E - tau (n + 1 + 1) ((e :: E).eraseIdx i)) ∘ Nat.succ) = (List.range E.length).map fun i => tau (n + 1 + 1) E - tau (n + 1 + 1) (E.eraseIdx i) :=
        List.map_congr_left fun i _ => by
          simp only [Function.comp, Nat.succ_eq_add_one, List.eraseIdx_cons_succ, Ga (h' i), if_pos hl]; (first | lia | omega)
      rw [this]
      have i2' : ((List.range E.length).map fun i => tau (n + 1 + 1) E - tau (n + 1 + 1) (E.eraseIdx i)).sum = _ := i2
      rw [i2']
      (first | lia | omega)
    · have i1 := J9 k (E := ctr e E) (by rw [Bb]; exact hk') (Dw hl h)
      have t1 := Ga h
      rw [if_neg hl] at t1
      have : (List.range E.length).map ((fun i => tau (n + 1 + 1) (e :: E) - tau (n + 1 + 1) ((e :: E).eraseIdx i)) ∘ Nat.succ) = (List.range E.length).map fun i => (tau (n + 1) (ctr e E) - tau (n + 1) ((ctr e E).eraseIdx i)) + (tau (n + 1 + 1) E - tau (n + 1 + 1) (E.eraseIdx i)) :=
        List.map_congr_left fun i _ => by
          simp only [Function.comp, Nat.succ_eq_add_one, List.eraseIdx_cons_succ, Ga (h' i), if_neg hl, t1, Zf]; (first | lia | omega)
      rw [this, A6a]
      have i2' : ((List.range E.length).map fun i => tau (n + 1 + 1) E - tau (n + 1 + 1) (E.eraseIdx i)).sum = _ := i2
      have i1' : ((List.range E.length).map fun i => tau (n + 1) (ctr e E) - tau (n + 1) ((ctr e E).eraseIdx i)).sum = tau (n + 1) (ctr e E) * n := by
        have : (ctr e E).length = E.length := Bb e E
        rw [← this]; exact i1
      rw [i2', i1']
      rw [t1]
      generalize tau (n + 1) (ctr e E) = X
      generalize tau (n + 1 + 1) E = Y
      have : ((n + 1 : Nat) : Int) = (n : Int) + 1 := by exact rfl
      rw [this]
      grind
end Mine
namespace Mine
noncomputable def Lc (n : Nat) : List (Nat × Nat) → Int
  | [] => 0
  | e :: E => if e.1 = e.2 then 0 else tau n (ctr e E)
noncomputable def Fx (t : Nat) (S : List Nat) : List Nat := S.map (· + t)
theorem On (t : Nat) (S : List Nat) : Fx t (up S) = Fx (t + 1) S := by
  unfold Fx up
  rw [List.map_map]
  exact List.map_congr_left fun i _ => by simp only [Function.comp]; exact Nat.add_right_comm _ _ _
theorem Q6 (t : Nat) (S : List Nat) : Fx t (up0 S) = t :: Fx (t + 1) S := by
  rw [← On]; unfold Fx up0; rw [List.map_cons, Nat.zero_add]
theorem Pn {t i : Nat} {S : List Nat} : i + t ∈ Fx t S ↔ i ∈ S := by
  unfold Fx
  constructor
  · intro h; obtain ⟨j, hj, e⟩ := List.mem_map.mp h; rw [show i = j by (first | lia | omega)]; exact hj
  · intro h; exact List.mem_map.mpr ⟨i, h, rfl⟩
theorem Nw (S : List Nat) : Fx 0 S = S := by unfold Fx; exact List.map_id _
inductive A82 (k n j : Nat) (e : Nat × Nat) (E : List (Nat × Nat)) (S : List Nat) : Prop
  | inn (hne : e.1 ≠ e.2) (n' : Nat) (hn : n = n' + 1) (hj : (j : Int) < Lc n (e :: E)) (S' : List Nat) (hS : S = up0 S') (h : (Bz k n' (ctr e E))[j]? = some S') : A82 k n j e E S
  | out (c : Nat) (hc : Lc n (e :: E) = c) (hj : c ≤ j) (S' : List Nat) (hS : S = up S') (h : (Bz k n E)[j - c]? = some S') : A82 k n j e E S
theorem So {k n j : Nat} {e : Nat × Nat} {E : List (Nat × Nat)} {S : List Nat} (hk : E.length = k) (h : okT (n + 1) (e :: E)) (hS : (Bz (k + 1) n (e :: E))[j]? = some S) : A82 k n j e E S := by
  have he := h e List.mem_cons_self
  cases n with
  | zero =>
    rw [Dp] at hS
    have hj : j = 0 := by
      cases j with
      | zero => rfl
      | succ j => simp at hS
    subst hj
    simp at hS; subst hS
    exact .out 0 (if_pos (by exact (Nat.lt_one_iff.mp he.1).trans (Nat.lt_one_iff.mp he.2).symm)) (Nat.le_refl _) [] rfl (by rw [Dp]; rfl)
  | succ n =>
    rw [Iu] at hS
    by_cases hl : e.1 = e.2
    · rw [if_pos hl, List.nil_append, List.getElem?_map] at hS
      cases q : (Bz k (n + 1) E)[j]? with
      | none => rw [q] at hS; cases hS
      | some S' => rw [q] at hS; cases hS; exact .out 0 (if_pos hl) (Nat.zero_le _) S' rfl q
    · rw [if_neg hl] at hS
      have hw : Lc (n + 1) (e :: E) = ((Bz k n (ctr e E)).length : Nat) := by
        rw [G4 k (by rw [Bb]; exact hk) (Dw hl h)]; exact if_neg hl
      by_cases hj : j < (Bz k n (ctr e E)).length
      · rw [List.getElem?_append_left (by rw [List.length_map]; exact hj), List.getElem?_map] at hS
        cases q : (Bz k n (ctr e E))[j]? with
        | none => rw [q] at hS; cases hS
        | some S' => rw [q] at hS; cases hS; exact .inn hl n rfl (by rw [hw]; exact Int.ofNat_lt.mpr hj) S' rfl q
      · rw [List.getElem?_append_right (by rw [List.length_map]; exact oGe hj), List.getElem?_map, List.length_map] at hS
        cases q : (Bz k (n + 1) E)[j - (Bz k n (ctr e E)).length]? with
        | none => rw [q] at hS; cases hS
        | some S' => rw [q] at hS; cases hS; exact .out _ hw (by exact oGe hj) S' rfl q
end Mine
namespace Mine
open PySem
section
variable {i j : Int} {H : A0}
theorem eqT (h : i = j) : B4 .Eq (.int i) (.int j) H = some true := by rw [A0y, beq_iff_eq.mpr h]
theorem eqF (h : i ≠ j) : B4 .Eq (.int i) (.int j) H = some false := by rw [A0y, beq_eq_false_iff_ne.mpr h]
theorem neT (h : i ≠ j) : B4 .NotEq (.int i) (.int j) H = some true := by rw [A8g, beq_eq_false_iff_ne.mpr h]; rfl
theorem neF (h : i = j) : B4 .NotEq (.int i) (.int j) H = some false := by rw [A8g, beq_iff_eq.mpr h]; rfl
theorem ltT (h : i < j) : B4 .Lt (.int i) (.int j) H = some true := by rw [Yn, decide_eq_true h]
theorem ltF (h : ¬ i < j) : B4 .Lt (.int i) (.int j) H = some false := by rw [Yn, decide_eq_false h]
theorem gtT (h : j < i) : B4 .Gt (.int i) (.int j) H = some true := by rw [A86, decide_eq_true h]
theorem gtF (h : ¬ j < i) : B4 .Gt (.int i) (.int j) H = some false := by rw [A86, decide_eq_false h]
end
theorem A66 {n : Nat} (h : n ≤ 1000) : n ≤ lim := Nat.le_trans h (by decide)
theorem Au {xs : List AV} {H : A0} (h : xs.length ≤ 1000) : B7 xs H = .ok (.ref H.length) (H ++ [.list xs]) := if_pos (A66 h)
inductive Aah (H : A0) (E : List (Nat × Nat)) (v : AV) (H' : A0) : Prop
  | mk (r : Nat) (hv : v = .ref r) (hT : TL H' r E) (hp : H <+: H') (hge : H.length ≤ r) : Aah H E v H'
inductive A6o (H : A0) (n : Nat) (E : List (Nat × Nat)) (v : AV) (H' : A0) : Prop
  | mk (r : Nat) (hv : v = .tup [.int n, .ref r]) (hT : TL H' r E) (hp : H <+: H') (hge : H.length ≤ r) : A6o H n E v H'
noncomputable def Pi : FnI := ⟨2, 2, .cons (.ret (.bin .Add (.slice (.var 0) .none (.some (.var 1))) (.slice (.var 0) (.some (.bin .Add (.var 1) (.int 1))) .none))) .nil⟩
noncomputable def Pr : FnI := ⟨3, 3, .cons (.ite (.cmp .Eq (.var 0) (.var 2)) (.cons (.ret (.var 1)) .nil) .nil) (.cons (.ite (.cmp .Gt (.var 0) (.var 2)) (.cons (.ret (.bin .Sub (.var 0) (.int 1))) .nil) .nil) (.cons (.ret (.var 0)) .nil))⟩
noncomputable def Ta : FnI := ⟨3, 6, .cons (.assign 3 (.prim .min1 (.cons (.idx (.var 1) (.var 2)) .nil))) (.cons (.assign 4 (.prim .max1 (.cons (.idx (.var 1) (.var 2)) .nil))) (.cons (.assign 5 (.call 14 (.cons (.var 1) (.cons (.var 2) .nil)))) (.cons (.ret (.tuple (.cons (.bin .Sub (.var 0) (.int 1)) (.cons (.comp2 (.tuple (.cons (.call 16 (.cons (.var 0) (.cons (.var 5) (.cons (.var 6) .nil)))) (.cons (.call 16 (.cons (.var 1) (.cons (.var 5) (.cons (.var 6) .nil)))) .nil))) (.of (.var 5))) .nil)))) .nil)))⟩
section
variable {strF : Bi} {sc : List Int} {P : Nat → Option FnI} {H H0 : A0} {n m : Nat} {ρ : A8} {cf : Nat → List AV → A0 → Res AV} {N : A8 → A0 → Prop} {R : AV → A0 → Prop}
theorem Ra {r i : Nat} {E : List (Nat × Nat)} (hl : E.length ≤ 1000) (hi : i ≤ E.length) : B7 (cut (E.map Av) none (some (i : Int))) H = .ok (.ref H.length) (H ++ [.list ((E.take i).map Av)]) := by
  rw [A8x (by rw [List.length_map]; exact hi), List.map_take, Au]
  rw [List.length_take, List.length_map]; exact Nat.le_trans (Nat.min_le_right _ _) hl
theorem Ig {r i : Nat} {E : List (Nat × Nat)} (hl : E.length ≤ 1000) (hi : i ≤ E.length) : B7 (cut (E.map Av) (some (i : Int)) none) H = .ok (.ref H.length) (H ++ [.list ((E.drop i).map Av)]) := by
  rw [W3 (by rw [List.length_map]; exact hi), List.map_drop, Au]
  rw [List.length_drop, List.length_map]; exact V5 hl
theorem A93 {r q : Nat} {E F : List (Nat × Nat)} (hr : TL H r E) (hq : TL H q F) (hl : E.length + F.length ≤ 1000) : Bg .Add (.ref r) (.ref q) H = .ok (.ref H.length) (H ++ [.list ((E ++ F).map Av)]) := by
  rw [Ow, hr, hq, List.map_append]
  exact Au (by rw [List.length_append, List.length_map, List.length_map]; exact hl)
theorem Zh (h14 : P 14 = some Pi) {r i : Nat} {E : List (Nat × Nat)} (hT : TL H r E) (hl : E.length ≤ 100) (hi : i < E.length) : (Ah strF P sc (m + 1) 14 [.ref r, .int i] H).sat (Aah H (E.eraseIdx i)) := by
  have e1 : ((i : Nat) : Int) + 1 = ((i + 1 : Nat) : Int) := rfl
  refine Ay h14 rfl (Az (Aj (D1 (A5 rfl) E4 (E6 (A5 rfl)) hT (Ra (r := r) (by exact Nat.le_trans hl (by decide)) (Nat.le_of_lt hi)))
    (D1 (A5 rfl) (E6 (Aj (A5 rfl) Ac (Di.trans (by rw [e1])))) E4 (Ab (Ad _ _) hT) (Ig (r := r) (by exact Nat.le_trans hl (by decide)) hi)) (A93 (Ab (Ad _ _) (Ae _ _)) (Ae _ _) ?_))
    ⟨_, rfl, ?_, ?_, ?_⟩)
  · rw [List.length_take, List.length_drop]; exact Nat.le_trans (Y2 _ _) (Nat.le_trans hl (by decide))
  · rw [← List.eraseIdx_eq_take_drop_succ]; exact Ae _ _
  · exact ((Ad _ _).trans (Ad _ _)).trans (Ad _ _)
  · rw [List.length_append, List.length_append]; exact A6v (Nat.le_add_right _ _)
theorem Li (h16 : P 16 = some Pr) {lo hi x : Nat} : Ah strF P sc (m + 1) 16 [.int x, .int lo, .int hi] H = .ok (.int (join lo hi x)) H := by
  refine Fl (Ay h16 rfl ?_)
  unfold join
  by_cases h1 : x = hi
  · rw [if_pos h1]
    exact Bn (As (A5 rfl) (A5 rfl) (eqT (by rw [h1]))) (Az (A5 rfl) ⟨rfl, rfl⟩)
  · rw [if_neg h1]
    refine B0 (As (A5 rfl) (A5 rfl) (eqF (by exact A0i h1))) ?_
    by_cases h2 : x < hi
    · rw [if_pos h2]
      exact B0 (As (A5 rfl) (A5 rfl) (gtF (by exact T7 (Int.le_of_lt (J6 h2))))) (Az (A5 rfl) ⟨rfl, rfl⟩)
    · rw [if_neg h2]
      refine Bn (As (A5 rfl) (A5 rfl) (gtT (by exact J6 (Rn (oGt h2) h1)))) (Az (Aj (A5 rfl) Ac Cp) ⟨?_, rfl⟩)
      congr 1; exact A8p (Hi (Iy (oGe h2) h1))
theorem A64 (e : Nat × Nat) : prim strF sc .min1 [Av e] H = .ok (.int (min e.1 e.2 : Nat)) H := by
  rw [show Av e = .tup [.int e.1, .int e.2] from rfl, A01]; congr 2; exact A9r _ _
theorem A5k (e : Nat × Nat) : prim strF sc .max1 [Av e] H = .ok (.int (max e.1 e.2 : Nat)) H := by
  rw [show Av e = .tup [.int e.1, .int e.2] from rfl, A1n]; congr 2; exact A6l _ _
theorem Cy {r i : Nat} {E : List (Nat × Nat)} {e : Nat × Nat} (hT : TL H r E) (he : E[i]? = some e) : Bx sc (.ref r) (.int i) H = .ok (Av e) H := Cb hT (by rw [List.getElem?_map, he]; rfl)
theorem Gg (h14 : P 14 = some Pi) (h16 : P 16 = some Pr) (h17 : P 17 = some Ta) {r i : Nat} {E : List (Nat × Nat)} {e : Nat × Nat} (hT : TL H r E) (hl : E.length ≤ 100) (he : E[i]? = some e) :
    (Ah strF P sc (m + 2) 17 [.int (n + 1 : Nat), .ref r, .int i] H).sat (A6o H n (ctr e (E.eraseIdx i))) := by
  refine bC fun hno => ?_
  obtain ⟨v, H1, e1, r1, rfl, hT1, hp1, hg1⟩ := Res.sat_ex (Zh (strF := strF) (sc := sc) (m := m) h14 hT hl (List.getElem?_eq_some_iff.mp he).1)
  have hl1 : (E.eraseIdx i).length ≤ 100 := Nat.le_trans (List.length_eraseIdx_le ..) hl
  refine hno ?_
  refine Ay h17 rfl (Ag (Ak (A6 (Ap (A5 rfl) (A5 rfl) (Cy hT he)) A7) (A64 e)) (Ag (Ak (A6 (Ap (A5 rfl) (A5 rfl) (Cy hT he)) A7) (A5k e))
    (Ag (An (A6 (A5 rfl) (A6 (A5 rfl) A7)) e1) (Az (Gr (A6 (Aj (A5 rfl) Ac Cp) (A6 (Rd (Em (A5 rfl) hT1) (J5 hT1 (Fh (min e.1 e.2) (max e.1 e.2)) _ fun f hf => ?_) (Au ?_)) A7)) Va)
    ⟨_, ?_, Ae _ _, hp1.trans (Ad _ _), hp1.length_le⟩))))
  · exact Uw (Gr (A6 (An (A6 (A5 rfl) (A6 (A5 rfl) (A6 (A5 rfl) A7))) (Li h16)) (A6 (An (A6 (A5 rfl) (A6 (A5 rfl) (A6 (A5 rfl) A7))) (Li h16)) A7)) Va)
  · rw [List.length_map, List.length_map]; exact Nat.le_trans hl1 (by decide)
  · rw [show ((n + 1 : Nat) : Int) - 1 = (n : Int) by exact Lq _]
end
end Mine
namespace Mine
open PySem
section
variable {strF : Bi} {sc : List Int} {P : Nat → Option FnI} {H H0 H1 H2 H3 : A0} {n m b : Nat} {ρ : A8} {cf : Nat → List AV → A0 → Res AV} {N : A8 → A0 → Prop} {R : AV → A0 → Prop} {x y : PE} {ss : PSs}
theorem Kv {c : Int} {n k : Nat} (e : c.fmod n = k) (h : 0 < n) : Bg .Mod (.int c) (.int (n : Int)) H = .ok (.int k) H := by
  rw [A28, if_pos (by exact A0i (Nat.ne_of_gt h)), e]
theorem Qo {c d : Int} (h0 : d ≠ 0) (h : d.natAbs < 1000000) : Bg .FloorDiv (.int c) (.int d) H = .ok (.int (c.fdiv d)) H := by
  rw [A0k, if_pos ⟨h0, A4h h⟩]
theorem A1h {step : AV → A8 → A0 → SR} (I : Nat → A8 → A0 → Prop) {k : Nat} (h0 : I 0 ρ H) (hs : ∀ i ρ H, i < k → I i ρ H → (step (.int i) ρ H).sat (I (i + 1)) R) (hN : ∀ ρ H, I k ρ H → N ρ H) : (Ed [] step (B1 0 k) ρ H).sat N R := by
  refine J8 (fun i ρ H => I i.toNat ρ H) (by exact oNN _) h0 (fun i ρ H h1 h2 h => ?_) fun ρ H h => hN ρ H (by simpa using h)
  obtain ⟨j, rfl⟩ : ∃ j : Nat, i = j := ⟨i.toNat, by exact Qm h1⟩
  have := hs j ρ H (by exact Sr h2) (by simpa using h)
  refine SR.sat_mono this (fun ρ H h => ?_) fun _ _ h => h
  show I ((j : Int) + 1).toNat ρ H
  rw [show ((j : Int) + 1).toNat = j + 1 by exact rfl]; exact h
theorem E9 {k : Nat} (h : k ≤ 1000) : inR (k : Int) = true := A4q h
theorem Tj {k : Nat} (h5 : P 5 = some P9) (h6 : P 6 = some Qn) (hk : k < 1000) : Ah strF P sc (m + 2) 6 [.scr, .int k] H = .ok (.int (mix sc k)) H := I4 h5 h6 hk
inductive TrI (H0 : A0) (n k : Nat) (ρ : A8) (H : A0) : Prop
  | mk (E : List (Nat × Nat)) (x3 x4 x5 : Option AV) (hρ : ρ = [some .scr, some (.int n), some (.ref H0.length), x3, x4, x5]) (hp : H0 <+: H) (hT : TL H H0.length E) (hl : E.length = k) (hok : okT n E) : TrI H0 n k ρ H
theorem Tl {E : List (Nat × Nat)} {e : Nat × Nat} (h : okT n E) (h1 : e.1 < n) (h2 : e.2 < n) : okT n (E ++ [e]) := fun f hf => by
  rcases List.mem_append.mp hf with hf | hf
  · exact h f hf
  · cases List.mem_singleton.mp hf; exact ⟨h1, h2⟩
inductive A73 (H : A0) (n : Nat) (v : AV) (H' : A0) : Prop
  | mk (r : Nat) (E : List (Nat × Nat)) (hv : v = .ref r) (hT : TL H' r E) (hp : H <+: H') (hge : H.length ≤ r) (hl : E.length = n) (hok : okT (n + 1) E) : A73 H n v H'
theorem A2h (h5 : P 5 = some P9) (h6 : P 6 = some Qn) (h7 : P 7 = some A58) (hn : n ≤ 7) : (Ah strF P sc (m + 3) 7 [.scr, .int (n + 1 : Nat)] H).sat (A73 H n) := by
  have e1 : Bg .Sub (.int (n + 1 : Nat)) (.int 1) (H ++ [.list []]) = .ok (.int n) (H ++ [.list []]) := by rw [Cp, show ((n + 1 : Nat) : Int) - 1 = (n : Int) by exact Lq _]
  refine Ay h7 rfl (Ag (Cs A7 (Au (by simp))) (E5 (Es (Aj (A5 rfl) Ac e1) (E9 (by exact Nat.le_trans hn (by decide)))) (A1h (TrI H (n + 1)) ⟨[], _, _, _, rfl, Ad _ _, Ae _ _, rfl, fun e he => by cases he⟩ ?_ ?_)))
  · rintro k ρ H1 hk ⟨E, x3, x4, x5, rfl, hp, hT, hl, hok⟩
    refine bC fun hno => ?_
    have e4 : Bg .Add (.int 4) (.int k) H1 = .ok (.int (4 + k : Nat)) H1 := Di
    have ek : Bg .Add (.int k) (.int 1) H1 = .ok (.int (k + 1 : Nat)) H1 := Di
    obtain ⟨a, ea, ha⟩ := By (c := mix sc (4 + k)) (n := k + 1) (by exact Nat.succ_pos _)
    obtain ⟨c, ec, hc⟩ := By (c := (mix sc (4 + k)).fdiv 7) (n := 2) (by decide)
    have hpa := Ad H1 [.list [AV.tup [.int a, .int (k + 1 : Nat)], AV.tup [.int (k + 1 : Nat), .int a]]]
    obtain ⟨e, he, ho1, ho2⟩ : ∃ e : Nat × Nat, Bx sc (.ref H1.length) (.int c) (H1 ++ [.list [AV.tup [.int a, .int (k + 1 : Nat)], AV.tup [.int (k + 1 : Nat), .int a]]]) = .ok (Av e) (H1 ++ [.list [AV.tup [.int a, .int (k + 1 : Nat)], AV.tup [.int (k + 1 : Nat), .int a]]]) ∧ e.1 < n + 1 ∧ e.2 < n + 1 := by
      rcases (show c = 0 ∨ c = 1 by exact (Nat.lt_succ_iff_lt_or_eq.mp hc).imp Nat.lt_one_iff.mp id) with rfl | rfl
      · exact ⟨(a, k + 1), Cb (Ae _ _) rfl, by show a < n + 1; exact Nat.lt_succ_of_lt (Nat.lt_of_lt_of_le ha hk), by show k + 1 < n + 1; exact Nat.lt_succ_of_le hk⟩
      · exact ⟨(k + 1, a), Cb (Ae _ _) rfl, by show k + 1 < n + 1; exact Nat.lt_succ_of_le hk, by show a < n + 1; exact Nat.lt_succ_of_lt (Nat.lt_of_lt_of_le ha hk)⟩
    have hT2 := Ab hpa hT
    refine hno ?_
    exact Ag (An (A6 (A5 rfl) (A6 (Aj Ac (A5 rfl) e4) A7)) (Tj h5 h6 (by exact Nat.lt_of_lt_of_le (Nat.add_lt_add_left (Nat.lt_of_lt_of_le hk hn) 4) (by decide))))
      (Ag (Gr (A6 (Aj (A5 rfl) (Aj (A5 rfl) Ac ek) (Kv ea (by exact Nat.succ_pos _))) (A6 (Aj (A5 rfl) Ac ek) A7)) Va)
      (Gs (K2 (A5 rfl) (Rk hT) (Ap (Cs (A6 (A5 rfl) (A6 (Gr (A6 (Ap (A5 rfl) Ac Gb) (A6 (Ap (A5 rfl) Ac G8) A7)) Va) A7)) (Au (by simp))) (Aj (Aj (A5 rfl) Ac (Qo (by decide) (by decide))) Ac (Kv (n := 2) ec (by decide))) he)
        (Nj hT2 (Nat.le_refl _) (Nat.lt_of_lt_of_le (show E.length < 100 by exact Aaw hn hk hl) (by decide))))
      (Bt ⟨E ++ [e], _, _, _, rfl, D4 (hp.trans hpa) (Nat.le_refl _), Im ⟨_, hT2⟩, by rw [List.length_append, hl]; rfl, Tl hok ho1 ho2⟩)))
  · rintro ρ H1 ⟨E, x3, x4, x5, rfl, hp, hT, hl, hok⟩
    exact Az (A5 rfl) ⟨_, E, rfl, hT, hp, Nat.le_refl _, hl, hok⟩
theorem A46 {i : Nat} {E : List (Nat × Nat)} (hl : E.length ≤ 100) (hi : i ≤ E.length) : B7 (cut (E.map Av) none (some (i : Int))) H = .ok (.ref H.length) (H ++ [.list ((E.take i).map Av)]) := Ra (r := 0) (by exact Nat.le_trans hl (by decide)) hi
theorem A3q {i : Nat} {E : List (Nat × Nat)} (hl : E.length ≤ 100) (hi : i ≤ E.length) : B7 (cut (E.map Av) (some (i : Int)) none) H = .ok (.ref H.length) (H ++ [.list ((E.drop i).map Av)]) := Ig (r := 0) (by exact Nat.le_trans hl (by decide)) hi
theorem Vo {a d : Nat} (h : 0 < n) : Bg .Mod (.int ((a : Int) + (d : Int))) (.int n) H = .ok (.int ((a + d) % n : Nat)) H := Kv (by rw [Int.fmod_eq_emod_of_nonneg _ (by exact oNN _)]; simp) h
theorem Uf {r most room : Nat} {first : Int} {E : List (Nat × Nat)} {x6 x7 x8 x9 x10 x11 : Option AV} (h5 : P 5 = some P9) (h6 : P 6 = some Qn) (h1 : 1 ≤ n) (hn : n ≤ most) (p : H0 <+: H) (hT : TL H r E) (hl : E.length ≤ room) (hr : room ≤ 16) (hok : okT n E) :
    (Ai strF (Ah strF P sc (m + 2)) sc H0.length Wh [some .scr, some (.int most), some (.int room), some (.int first), some (.int n), some (.ref r), x6, x7, x8, x9, x10, x11] H).sat N (A57 H0 most room) := by
  refine bC fun hno => ?_
  obtain ⟨d, ed, hd⟩ := By (c := first.fdiv 35) (n := n) (by exact h1)
  obtain ⟨a, ea, ha⟩ := By (c := mix sc 2) (n := E.length + 1) (by exact Nat.succ_pos _)
  have hE1 : (E.map fun e => ((e.1 + d) % n, (e.2 + d) % n)).length = E.length := List.length_map ..
  have hok1 : okT n (E.map fun e => ((e.1 + d) % n, (e.2 + d) % n)) := fun e he => by
    obtain ⟨x, _, rfl⟩ := List.mem_map.mp he
    exact ⟨Nat.mod_lt _ h1, Nat.mod_lt _ h1⟩
  refine hno ?_
  refine Ag (Aj (Aj (A5 rfl) Ac (Qo (by decide) (by decide))) (A5 rfl) (Kv ed h1)) (Ag (Rd (Em (A5 rfl) hT) (J5 hT (fun e => ((e.1 + d) % n, (e.2 + d) % n)) E fun e he => ?_) (Au (by rw [List.length_map, hE1]; (first | lia | omega)))) ?_)
  · exact Uw (Gr (A6 (Aj (Aj (A5 rfl) (A5 rfl) Di) (A5 rfl) (Vo h1)) (A6 (Aj (Aj (A5 rfl) (A5 rfl) Di) (A5 rfl) (Vo h1)) A7)) Va)
  generalize (E.map fun e => ((e.1 + d) % n, (e.2 + d) % n)) = E1 at hE1 hok1
  have p1 := Ad H [.list (E1.map Av)]
  have hT1 : TL (H ++ [.list (E1.map Av)]) H.length E1 := Ae _ _
  generalize H ++ [.list (E1.map Av)] = H1 at p1 hT1
  have el : Bg .Add (.int E1.length) (.int 1) H1 = .ok (.int (E.length + 1 : Nat)) H1 := by rw [Di, hE1]; rfl
  have p2 := Ad H1 [.list ((E1.drop a).map Av)]
  have p3 := Ad (H1 ++ [.list ((E1.drop a).map Av)]) [.list ((E1.take a).map Av)]
  have hlx : (E1.drop a).length + (E1.take a).length = E.length := by rw [List.length_drop, List.length_take]; exact (A4g _ _).trans hE1
  refine Ag (Aj (An (A6 (A5 rfl) (A6 Ac A7)) (Tj (k := 2) h5 h6 (by decide))) (Aj (Ak (A6 (A5 rfl) A7) (by rw [Np, Ou, hT1]; exact congrArg (fun k : Nat => Res.ok (AV.int k) H1) (List.length_map ..))) Ac el) (Kv ea (by exact Nat.succ_pos _)))
    (Az (Gr (A6 (A5 rfl) (A6 (Aj (D1 (A5 rfl) (E6 (A5 rfl)) E4 hT1 (A3q (by exact Aa6 hl hr hE1) (by exact Aa8 ha hE1))) (D1 (A5 rfl) E4 (E6 (A5 rfl)) (Ab p2 hT1) (A46 (by exact Aa6 hl hr hE1) (by exact Aa8 ha hE1))) (A93 (Ab p3 (Ae _ _)) (Ae _ _) (by (first | lia | omega)))) A7)) Va)
    ⟨n, _, E1.drop a ++ E1.take a, rfl, Ae _ _, ((p.trans p1).trans (p2.trans p3)).trans (Ad _ _), ((p.trans p1).trans (p2.trans p3)).length_le, by rw [List.length_append]; exact A0j hlx hl, fun e he => ?_, h1, hn⟩)
  rcases List.mem_append.mp he with he | he
  · exact hok1 e (List.mem_of_mem_drop he)
  · exact hok1 e (List.mem_of_mem_take he)
inductive NlI (H0 : A0) (most room : Nat) (first : Int) (n r l : Nat) (k : Nat) (ρ : A8) (H : A0) : Prop
  | mk (E : List (Nat × Nat)) (x6 x7 x8 x9 x10 x11 : Option AV) (hρ : ρ = [some .scr, some (.int most), some (.int room), some (.int first), some (.int n), some (.ref r), x6, x7, x8, x9, x10, x11]) (hp : H0 <+: H) (hT : TL H r E) (hl : E.length = l + k) (hok : okT n E) : NlI H0 most room first n r l k ρ H
theorem Vc {r most room k l : Nat} {first : Int} {E : List (Nat × Nat)} {e : Nat × Nat} {x6 x7 x8 x10 x11 : Option AV} (hge : H0.length ≤ r) (p : H0 <+: H) (hT : TL H r E) (hl : E.length = l + k) (hlk : l + k < 100) (hok : okT n E) (h1 : e.1 < n) (h2 : e.2 < n) :
    (Ai strF cf sc H0.length (.cons (.expr (.append (.var 5) (.var 9))) .nil) [some .scr, some (.int most), some (.int room), some (.int first), some (.int n), some (.ref r), x6, x7, x8, some (Av e), x10, x11] H).sat (NlI H0 most room first n r l (k + 1)) R :=
  Gs (K2 (A5 rfl) (Rk hT) (A5 rfl) (Nj hT hge (Nat.lt_of_lt_of_le (show E.length < 100 by exact Nv hl hlk) (by decide)))) (Bt ⟨E ++ [e], _, _, _, _, _, _, rfl, D4 p hge, Im ⟨_, hT⟩, by rw [List.length_append, hl]; rfl, Tl hok h1 h2⟩)
theorem Lw {r most room : Nat} {first : Int} {E : List (Nat × Nat)} {x6 x7 x8 x9 x10 x11 : Option AV} (h5 : P 5 = some P9) (h6 : P 6 = some Qn) (h1 : 1 ≤ n) (hn : n ≤ most) (hroom : room ≤ 16) (hge : H0.length ≤ r) (p : H0 <+: H) (hT : TL H r E) (hl : E.length ≤ room) (hok : okT n E) :
    (Ai strF (Ah strF P sc (m + 2)) sc H0.length A5v [some .scr, some (.int most), some (.int room), some (.int first), some (.int n), some (.ref r), x6, x7, x8, x9, x10, x11] H).sat N (A57 H0 most room) := by
  refine bC fun hno => ?_
  obtain ⟨k, ek, hk⟩ := By (c := mix sc 1) (n := room - E.length + 1) (by exact Nat.succ_pos _)
  have lenT : ∀ {H : A0} {r : Nat} {E : List (Nat × Nat)}, TL H r E → prim strF sc .len [.ref r] H = .ok (.int E.length) H := fun {H r E} h => by rw [Np, Ou, h]; exact congrArg (fun k : Nat => Res.ok (AV.int k) H) (List.length_map ..)
  have e1 : Bg .Sub (.int room) (.int E.length) H = .ok (.int (room - E.length : Nat)) H := by rw [Cp, show (room : Int) - (E.length : Int) = ((room - E.length : Nat) : Int) by exact A7i hl]
  have e2 : Bg .Add (.int (room - E.length : Nat)) (.int 1) H = .ok (.int (room - E.length + 1 : Nat)) H := Di
  refine hno ?_
  refine E5 (Es (Aj (An (A6 (A5 rfl) (A6 Ac A7)) (Tj (k := 1) h5 h6 (by decide))) (Aj (Aj (A5 rfl) (Ak (A6 (A5 rfl) A7) (lenT hT)) e1) Ac e2) (Kv ek (by exact Nat.succ_pos _))) (E9 (by exact Abd hroom hk)))
    (A1h (NlI H0 most room first n r E.length) ⟨E, _, _, _, _, _, _, rfl, p, hT, rfl, hok⟩ ?_ ?_)
  · rintro i ρ H1 hi ⟨E1, x6, x7, x8, x9, x10, x11, rfl, p1, hT1, hl1, hok1⟩
    refine bC fun hno => ?_
    have e11 : Bg .Add (.int 11) (.int i) H1 = .ok (.int (11 + i : Nat)) H1 := Di
    obtain ⟨one, eone, hone⟩ := By (c := mix sc (11 + i)) (n := n) (by exact h1)
    obtain ⟨d, ed, hd⟩ := By (c := (mix sc (11 + i)).fdiv 7) (n := n) (by exact h1)
    refine hno ?_
    refine Ag (An (A6 (A5 rfl) (A6 (Aj Ac (A5 rfl) e11) A7)) (Tj h5 h6 (by exact Nat.lt_of_lt_of_le (Nat.add_lt_add_left (Nat.lt_of_lt_of_le hi (Nat.le_trans (Nat.le_of_lt_succ hk) (Nat.le_trans (Nat.sub_le _ _) hroom))) 11) (by decide)))) (Ag (Aj (A5 rfl) (A5 rfl) (Kv eone h1))
      (Ag (Gr (A6 (A5 rfl) (A6 (Aj (Aj (A5 rfl) (Aj (Aj (A5 rfl) Ac (Qo (by decide) (by decide))) (A5 rfl) (Kv ed h1)) Di) (A5 rfl) (Vo h1)) A7)) Va) ?_))
    refine bC fun hno => ?_
    have hlt : (one + d) % n < n := Nat.mod_lt _ h1
    obtain ⟨c, ec, hc⟩ := By (c := (mix sc (11 + i)).fdiv 49) (n := 6) (by decide)
    have ec' : Bg .Mod (.int ((mix sc (11 + i)).fdiv 49)) (.int 6) H1 = .ok (.int c) H1 := Kv (n := 6) ec (by decide)
    refine hno ?_
    by_cases h5' : c = 5
    · have hc5 : B4 .Eq (.int c) (.int 5) H1 = some true := eqT (by rw [h5']; rfl)
      have p2 := Ad H1 [.list []]
      have hT2 : TL (H1 ++ [.list []]) r E1 := Ab p2 hT1
      have hne := A0n (r := r) (v := .ref H1.length) (H := H1 ++ [.list []])
      rw [Uu hT1] at hne
      by_cases hE : E1 = []
      · rw [decide_eq_true hE] at hne
        exact B0 (Q5 (Ib (As (Aj (Aj (A5 rfl) Ac (Qo (by decide) (by decide))) Ac ec') Ac hc5) (Jo (As (A5 rfl) (Cs A7 (Au (by simp))) hne)))) (Vc (e := (one, (one + d) % n)) hge (p1.trans p2) hT2 hl1 (by exact oM5 hroom hk hi) hok1 hone hlt)
      · refine bC fun hno => ?_
        rw [decide_eq_false hE] at hne
        have hpos : 0 < E1.length := List.length_pos_iff.mpr hE
        obtain ⟨j, ej, hj⟩ := By (c := (mix sc (11 + i)).fdiv 300) hpos
        have he := List.getElem?_eq_getElem hj
        have ho := hok1 _ (List.getElem_mem hj)
        refine hno ?_
        exact Bn (Q5 (Ib (As (Aj (Aj (A5 rfl) Ac (Qo (by decide) (by decide))) Ac ec') Ac hc5) (Ib (As (A5 rfl) (Cs A7 (Au (by simp))) hne) A47)))
          (Ag (Ap (A5 rfl) (Aj (Aj (A5 rfl) Ac (Qo (by decide) (by decide))) (Ak (A6 (A5 rfl) A7) (lenT hT2)) (Kv ej hpos)) (Cy hT2 he)) (Bt (Vc hge (p1.trans p2) hT2 hl1 (by exact oM5 hroom hk hi) hok1 ho.1 ho.2)))
    · exact B0 (Q5 (Jo (As (Aj (Aj (A5 rfl) Ac (Qo (by decide) (by decide))) Ac ec') Ac (eqF (by exact A0i h5'))))) (Vc (e := (one, (one + d) % n)) hge p1 hT1 hl1 (by exact oM5 hroom hk hi) hok1 hone hlt)
  · rintro ρ H1 ⟨E1, x6, x7, x8, x9, x10, x11, rfl, p1, hT1, hl1, hok1⟩
    exact Uf h5 h6 h1 hn p1 hT1 (by exact Abi hl hk hl1) hroom hok1
theorem A51 {most room : Nat} (h5 : P 5 = some P9) (h6 : P 6 = some Qn) (h7 : P 7 = some A58) (h8 : P 8 = some A5l) (hm : 1 ≤ most) (hm7 : most ≤ 7) (hr : most ≤ room + 1) (hr16 : room ≤ 16) :
    (Ah strF P sc (m + 4) 8 [.scr, .int most, .int room] H).sat (A57 H most room) := by
  refine bC fun hno => ?_
  obtain ⟨n, en, hn⟩ := By (c := mix sc 0) hm
  have e1 : Bg .Add (.int 1) (.int n) H = .ok (.int (n + 1 : Nat)) H := by rw [Di, show (1 : Int) + (n : Int) = ((n + 1 : Nat) : Int) by exact Int.add_comm _ _]
  refine hno ?_
  refine Ay (body := A5l.body) h8 rfl (Ag (An (A6 (A5 rfl) (A6 Ac A7)) (Tj (k := 0) h5 h6 (by decide))) (Ag (Aj Ac (Aj (A5 rfl) (A5 rfl) (Kv en hm)) e1) (Ag (Cs A7 (Au (by simp))) ?_)))
  have hT0 : TL (H ++ [.list []]) H.length [] := Ae _ _
  have p0 := Ad H [.list []]
  have ec : Bg .Mod (.int ((mix sc 0).fdiv 7)) (.int 5) (H ++ [.list []]) = .ok (.int (((mix sc 0).fdiv 7).fmod 5)) (H ++ [.list []]) := by rw [A28, if_pos (by decide)]
  by_cases h : 0 < ((mix sc 0).fdiv 7).fmod 5
  · refine bC fun hno => ?_
    obtain ⟨v, H2, e2, r, E, rfl, hT, hp, hg, hl, hok⟩ := Res.sat_ex (A2h (strF := strF) (sc := sc) (m := m) (H := H ++ [.list []]) h5 h6 h7 (show n ≤ 7 by exact Nat.le_of_lt (Nat.lt_of_lt_of_le hn hm7)))
    refine hno ?_
    exact Bn (As (Aj (Aj (A5 rfl) Ac (Qo (by decide) (by decide))) Ac ec) Ac (gtT h)) (Ag (An (A6 (A5 rfl) (A6 (A5 rfl) A7)) e2) (Bt (Lw (m := m + 1) h5 h6 (by exact Nat.succ_pos _) hn hr16 (Nat.le_trans p0.length_le hg) (p0.trans hp) hT (by exact Nat.le_of_lt_succ (Nat.lt_of_lt_of_le (Nv hl hn) hr)) hok)))
  · exact B0 (As (Aj (Aj (A5 rfl) Ac (Qo (by decide) (by decide))) Ac ec) Ac (gtF h)) (Lw (m := m + 1) (E := []) h5 h6 (by exact Nat.succ_pos _) hn hr16 (Nat.le_refl _) p0 hT0 (Nat.zero_le _) fun e he => by cases he)
end
end Mine
namespace Mine
open PySem
section
variable {M A : Mat} {k i p a c n : Nat}
theorem W5 : Hr M A k i 0 a c = Hr M A k i (k + 1) a c := by
  unfold Hr
  by_cases q : k < a ∧ k < c ∧ (a < i ∨ (a = i ∧ c < 0))
  · rw [if_pos q, if_pos (by exact ⟨q.1, q.2.1, q.2.2.imp id fun q => absurd q.2 (Nat.not_lt_zero _)⟩)]
  · rw [if_neg q, if_neg (by exact fun e => q ⟨e.1, e.2.1, e.2.2.imp id fun q => absurd e.2.1 (Nat.not_lt_of_le (Nat.le_of_lt_succ q.2))⟩)]
theorem A3h (hc : c < n) : Hr M A k i n a c = Hr M A k (i + 1) 0 a c := by
  unfold Hr
  by_cases q : k < a ∧ k < c ∧ (a < i ∨ (a = i ∧ c < n))
  · rw [if_pos q, if_pos (by exact ⟨q.1, q.2.1, .inl (q.2.2.elim Nat.lt_succ_of_lt fun q => Nat.lt_succ_of_le (Nat.le_of_eq q.1))⟩)]
  · rw [if_neg q, if_neg fun e => e.2.2.elim (fun r => q ⟨e.1, e.2.1, (Nat.lt_succ_iff_lt_or_eq.mp r).imp id fun r => ⟨r, hc⟩⟩) fun r => Nat.not_lt_zero _ r.2]
theorem Yx (hi : k < i) (hp : k < p) : (if a = i ∧ c = p then E M (k + 1) i p else Hr M A k i p a c) = Hr M A k i (p + 1) a c := by
  unfold Hr
  by_cases q : a = i ∧ c = p
  · rw [if_pos q, if_pos (by exact ⟨Iv hi q.1.symm, Iv hp q.2.symm, .inr ⟨q.1, Nat.lt_succ_of_le (Nat.le_of_eq q.2)⟩⟩), q.1, q.2]
  · rw [if_neg q]
    by_cases q' : k < a ∧ k < c ∧ (a < i ∨ (a = i ∧ c < p))
    · rw [if_pos q', if_pos (by exact oM4 q')]
    · rw [if_neg q', if_neg (by exact oM3 q q')]
theorem Hs (h : a ≤ k ∨ c ≤ k ∨ (a = i ∧ p ≤ c)) : Hr M A k i p a c = A a c := by unfold Hr; rw [if_neg (by exact fun e => h.elim (fun q => Nat.not_lt_of_le q e.1) fun q => q.elim (fun q => Nat.not_lt_of_le q e.2.1) fun q => e.2.2.elim (fun r => Nat.ne_of_lt r q.1) fun r => Nat.not_lt_of_le q.2 r.2)]
theorem Vs : Hr M A k (k + 1) 0 a c = A a c := by unfold Hr; rw [if_neg (by (first | lia | omega))]
end
section
variable {strF : Bi} {sc : List Int} {P : Nat → Option FnI} {H H0 H1 H2 H3 H4 : A0} {n m b k t : Nat} {ρ : A8} {cf : Nat → List AV → A0 → Res AV} {N : A8 → A0 → Prop} {R : AV → A0 → Prop} {x y z : PE} {v w u : AV} {ss : PSs} {qs : List Nat} {A M M0 : Mat} {sg last : Int}
theorem A7x {a c : Nat} {step : AV → A8 → A0 → SR} (hac : a ≤ c) (I : Nat → A8 → A0 → Prop) (h0 : I a ρ H) (hs : ∀ i ρ H, a ≤ i → i < c → I i ρ H → (step (.int i) ρ H).sat (I (i + 1)) R) (hN : ∀ ρ H, I c ρ H → N ρ H) : (Ed [] step (B1 a c) ρ H).sat N R := by
  refine J8 (fun i ρ H => I i.toNat ρ H) (by exact P0 hac) h0 (fun i ρ H h1 h2 h => ?_) fun ρ H h => hN ρ H (by simpa using h)
  obtain ⟨j, rfl⟩ : ∃ j : Nat, i = j := ⟨i.toNat, by exact Qm (Int.le_trans (oNN _) h1)⟩
  have := hs j ρ H (by exact A8o h1) (by exact Sr h2) (by simpa using h)
  refine SR.sat_mono this (fun ρ H h => ?_) fun _ _ h => h
  show I ((j : Int) + 1).toNat ρ H
  rw [show ((j : Int) + 1).toNat = j + 1 by exact rfl]; exact h
theorem Ey (h1 : Aa strF cf sc b z ρ H = .ok u H1) (h2 : Aa strF cf sc b x ρ H1 = .ok v H2) (h3 : Aa strF cf sc b y ρ H2 = .ok w H3) (h4 : Gv b v w u H3 = .ok () H4) (k : (Ai strF cf sc b ss ρ H4).sat N R) : (Ai strF cf sc b (.cons (.setIdx x y z) ss) ρ H).sat N R := by
  rw [C1, W6, h1]; show Res.sat (Aa strF cf sc b x ρ H1) _
  rw [h2]; show Res.sat (Aa strF cf sc b y ρ H2) _
  rw [h3]; show Res.sat (Gv b v w u H3) _
  rw [h4]; exact k
theorem M6 (T : Z0 H t qs n A) : prim strF sc .len [.ref t] H = .ok (.int n) H := by rw [Np, Ou, T.top]; exact congrArg (fun k : Nat => Res.ok (AV.int k) H) ((List.length_map ..).trans T.len)
inductive W8 (A : Mat) (k n : Nat) (v : AV) : Prop
  | none (hv : v = .none) (h : ∀ i, k ≤ i → i < n → A i k = 0) : W8 A k n v
  | some (c : Nat) (hv : v = .int c) (h1 : k ≤ c) (h2 : c < n) (h3 : A c k ≠ 0) : W8 A k n v
inductive FiI (H0 : A0) (A : Mat) (t k : Nat) (i : Nat) (ρ : A8) (H : A0) : Prop
  | mk (x2 : Option AV) (hρ : ρ = [some (.ref t), some (.int k), x2]) (hH : H = H0) (h : ∀ j, k ≤ j → j < i → A j k = 0) : FiI H0 A t k i ρ H
theorem Z8 (h19 : P 19 = some La) (T : Z0 H t qs n A) (hk : k < n) (hn : n ≤ 1000) : (Ah strF P sc (m + 1) 19 [.ref t, .int k] H).sat fun v H' => W8 A k n v ∧ H' = H := by
  refine Ay h19 rfl (E5 (Ka (A5 rfl) (Ak (A6 (A5 rfl) A7) (M6 T)) (E9 (by exact Nat.le_of_lt (Nat.lt_of_lt_of_le hk hn))) (E9 hn)) (A7x (Nat.le_of_lt hk) (FiI H A t k) ⟨_, rfl, rfl, fun j h1 h2 => absurd h2 (by exact Ut h1)⟩ ?_ ?_))
  · rintro i ρ H' h1 h2 ⟨x2, rfl, rfl, h⟩
    obtain ⟨q, eq, g, r⟩ := T.at (sc := sc) h2
    have it := Ev (sc := sc) r hk
    by_cases hz : A i k = 0
    · refine B0 (As (Ap (Ap (A5 rfl) (A5 rfl) g) (A5 rfl) it) Ac (neF hz)) (Bt ⟨_, rfl, rfl, fun j g1 g2 => ?_⟩)
      by_cases q2 : j = i
      · rw [q2, hz]
      · exact h j g1 (by exact Lk g2 q2)
    · exact Bn (As (Ap (Ap (A5 rfl) (A5 rfl) g) (A5 rfl) it) Ac (neT hz)) (Az (A5 rfl) ⟨.some i rfl h1 h2 hz, rfl⟩)
  · rintro ρ H' ⟨x2, rfl, rfl, h⟩
    exact Az V9 ⟨.none rfl h, rfl⟩
theorem A3p {i j : Int} (h1 : i.natAbs < big) (h2 : j.natAbs < big) : Bg .Mult (.int i) (.int j) H = .ok (.int (i * j)) H := by rw [Tc, if_pos (Zl h1 h2)]
inductive PlI (H0 : A0) (t n k i : Nat) (qs : List Nat) (M A : Mat) (sg last : Int) (x4 x5 : Option AV) (p : Nat) (ρ : A8) (H : A0) : Prop
  | mk (x7 x8 : Option AV) (hρ : ρ = [some (.ref t), some (.int sg), some (.int last), some (.int k), x4, x5, some (.int i), x7, x8]) (T : Gl H0 H t qs n (Hr M A k i p)) : PlI H0 t n k i qs M A sg last x4 x5 p ρ H
inductive RoI (H0 : A0) (t n k : Nat) (qs : List Nat) (M A : Mat) (sg last : Int) (x4 x5 : Option AV) (i : Nat) (ρ : A8) (H : A0) : Prop
  | mk (x6 x7 x8 : Option AV) (hρ : ρ = [some (.ref t), some (.int sg), some (.int last), some (.int k), x4, x5, x6, x7, x8]) (T : Gl H0 H t qs n (Hr M A k i 0)) : RoI H0 t n k qs M A sg last x4 x5 i ρ H
theorem Aam {k : Nat} : Bg .Add (.int k) (.int 1) H = .ok (.int (k + 1 : Nat)) H := Di
theorem Ye {i : Nat} {x4 x5 x7 x8 : Option AV} (I : A27 M0 H0 t n k sg last M A qs H1) (hn : n ≤ 8) (hk : k < n) (hi : k < i) (hin : i < n) (T : Gl H0 H t qs n (Hr M A k i 0)) :
    (Ai strF cf sc H0.length (.cons Oz .nil) [some (.ref t), some (.int sg), some (.int last), some (.int k), x4, x5, some (.int i), x7, x8] H).sat (RoI H0 t n k qs M A sg last x4 x5 (i + 1)) R := by
  refine E5 (Ka (Aj (A5 rfl) Ac Aam) (Ak (A6 (A5 rfl) A7) (M6 T.rd)) (E9 (by exact Aaf hn hk)) (E9 (by exact Nat.le_trans hn (by decide)))) (A7x hk (PlI H0 t n k i qs M A sg last x4 x5) ⟨_, _, rfl, T.congr fun a c _ _ => W5⟩ ?_ ?_)
  · rintro p ρ H h1 hpn ⟨x7, x8, rfl, T⟩
    refine bC fun hno => ?_
    have hp : k < p := h1
    obtain ⟨qi, ei, gi, ri⟩ := T.rd.at (sc := sc) hin
    obtain ⟨qk, ek, gk, rk⟩ := T.rd.at (sc := sc) hk
    have i1 := Ev (sc := sc) ri hpn
    have i2 := Ev (sc := sc) rk hk
    have i3 := Ev (sc := sc) ri hk
    have i4 := Ev (sc := sc) rk hpn
    rw [Hs (.inr (.inr ⟨rfl, Nat.le_refl _⟩)), I.hA _ _ (Nat.le_of_lt hi) hin (Nat.le_of_lt hp) hpn] at i1
    rw [Hs (.inl (Nat.le_refl _)), I.hA _ _ (Nat.le_refl _) hk (Nat.le_refl _) hk] at i2
    rw [Hs (.inr (.inl (Nat.le_refl _))), I.hA _ _ (Nat.le_of_lt hi) hin (Nat.le_refl _) hk] at i3
    rw [Hs (.inl (Nat.le_refl _)), I.hA _ _ (Nat.le_refl _) hk (Nat.le_of_lt hp) hpn] at i4
    have hdiv : (E M k i p * E M k k k - E M k i k * E M k k p).fdiv last = E M (k + 1) i p := by
      have := A8n (M := M) (k := k) (i := i) (j := p) (by rw [I.hq]; exact I.hq0)
      rw [I.hq] at this
      rw [show E M k i p * E M k k k - E M k i k * E M k k p = last * E M (k + 1) i p by rw [this]; grind]
      exact Int.mul_fdiv_cancel_left _ I.hq0
    obtain ⟨c1, c2⟩ := T.cell (x := E M (k + 1) i p) ei hpn
    have bb := fun {i j : Nat} (hi : i < n) (hj : j < n) => Xe I.hB hn hk hi hj
    refine hno ?_
    exact Ag (Aj (Aj (Ap (Ap (A5 rfl) (A5 rfl) gi) (A5 rfl) i1) (Ap (Ap (A5 rfl) (A5 rfl) gk) (A5 rfl) i2) (A3p (bb hin hpn) (bb hk hk))) (Aj (Ap (Ap (A5 rfl) (A5 rfl) gi) (A5 rfl) i3) (Ap (Ap (A5 rfl) (A5 rfl) gk) (A5 rfl) i4) (A3p (bb hin hk) (bb hk hpn))) Cp)
      (Ey (Aj (A5 rfl) (A5 rfl) (by rw [A0k, if_pos ⟨I.hq0, I.hl⟩, hdiv])) (Ap (A5 rfl) (A5 rfl) gi) (A5 rfl) c1 (Bt ⟨_, _, rfl, c2.congr fun a c _ _ => Yx hi hp⟩))
  · rintro ρ H ⟨x7, x8, rfl, T⟩
    exact Bt ⟨_, _, _, rfl, T.congr fun a c _ hc => A3h hc⟩
inductive TnI (M0 : Mat) (H0 : A0) (t n k : Nat) (ρ : A8) (H : A0) : Prop
  | mk (sg last : Int) (M A : Mat) (qs : List Nat) (x3 x4 x5 x6 x7 x8 : Option AV) (hρ : ρ = [some (.ref t), some (.int sg), some (.int last), x3, x4, x5, x6, x7, x8]) (I : A27 M0 H0 t n k sg last M A qs H) : TnI M0 H0 t n k ρ H
theorem Tg {x4 x5 x6 x7 x8 : Option AV} (I : A27 M0 H0 t n k sg last M A qs H) (hn : n ≤ 8) (hk : k < n) (hp : E M k k k ≠ 0) :
    (Ai strF cf sc H0.length A7k [some (.ref t), some (.int sg), some (.int last), some (.int k), x4, x5, x6, x7, x8] H).sat (TnI M0 H0 t n (k + 1)) R := by
  refine E5 (Ka (Aj (A5 rfl) Ac Aam) (Ak (A6 (A5 rfl) A7) (M6 I.T.rd)) (E9 (by exact Aaf hn hk)) (E9 (by exact Nat.le_trans hn (by decide)))) (A7x hk (RoI H0 t n k qs M A sg last x4 x5) ⟨_, _, _, rfl, I.T.congr fun a c _ _ => Vs.symm⟩ ?_ ?_)
  · rintro i ρ H' h1 h2 ⟨x6, x7, x8, rfl, T⟩
    exact Ye I hn hk h1 h2 T
  · rintro ρ H' ⟨x6, x7, x8, rfl, T⟩
    obtain ⟨q, eq, g, r⟩ := T.rd.at (sc := sc) hk
    have i1 := Ev (sc := sc) r hk
    rw [Hs (.inl (Nat.le_refl _)), I.hA _ _ (Nat.le_refl _) hk (Nat.le_refl _) hk] at i1
    refine Ag (Ap (Ap (A5 rfl) (A5 rfl) g) (A5 rfl) i1) (Bt ⟨sg, _, M, _, qs, _, _, _, _, _, _, rfl, ⟨T, fun i j h1 h2 h3 h4 => ?_, I.hB, (A7n M k).symm, hp, I.hs, I.hd, Xe I.hB hn hk hk hk⟩⟩)
    unfold Hr
    rw [if_pos (by exact And.intro h1 (And.intro h3 (Or.inl h2)))]
theorem A23 {i q : Nat} (h : H[t]? = some (.list (qs.map .ref))) (hb : b ≤ t) (hi : i < qs.length) : Gv b (.ref t) (.int i) (.ref q) H = .ok () (H.set t (.list ((qs.set i q).map .ref))) := by
  unfold Gv
  simp only [h]
  rw [if_pos ⟨hb, by exact oNN _, by rw [List.length_map]; exact J6 hi⟩]
  simp [List.map_set]
theorem A0r {x4 x5 x6 x7 x8 : Option AV} (h19 : P 19 = some La) (I : A27 M0 H0 t n k sg last M A qs H) (hn : n ≤ 8) (hk : k < n) (hR : ∀ H, H0 <+: H → det n M0 = 0 → R (.int 0) H) :
    (Ai strF (Ah strF P sc (m + 1)) sc H0.length A9c [some (.ref t), some (.int sg), some (.int last), some (.int k), x4, x5, x6, x7, x8] H).sat (TnI M0 H0 t n (k + 1)) R := by
  obtain ⟨v, H', ev, hv, rfl⟩ := Res.sat_ex (Z8 (strF := strF) (sc := sc) (m := m) h19 I.T.rd hk (by exact Nat.le_trans hn (by decide)))
  refine Ag (An (A6 (A5 rfl) (A6 (A5 rfl) A7)) ev) ?_
  cases hv with
  | none hv h =>
    subst hv
    refine Bn (As (A5 rfl) V9 rfl) (Az Ac (hR _ I.T.pre ?_))
    have : det n M = 0 := A0a hk (by rw [I.hq]; exact I.hq0) fun i h1 h2 => by rw [← I.hA i k h1 h2 (Nat.le_refl _) hk]; exact h i h1 h2
    rw [← I.hd, this]; exact Int.mul_zero _
  | some c hv hc1 hc2 hc3 =>
    subst hv
    refine B0 (As (A5 rfl) V9 rfl) ?_
    by_cases hck : c = k
    · subst hck
      exact B0 (As (A5 rfl) (A5 rfl) (neF rfl)) (Tg I hn hk (by rw [← I.hA c c (Nat.le_refl _) hk (Nat.le_refl _) hk]; exact hc3))
    · refine bC fun hno => ?_
      obtain ⟨qk, ek, gk, rk⟩ := I.T.rd.at (sc := sc) hk
      obtain ⟨qc, ec, gc, rc⟩ := I.T.rd.at (sc := sc) hc2
      have hl := I.T.rd.len
      have e1 := A23 (q := qc) I.T.rd.top I.T.ht (by exact Iv hk (Eq.symm hl) : k < qs.length)
      have top1 := Im (o := .list ((qs.set k qc).map .ref)) ⟨_, I.T.rd.top⟩
      have e2 := A23 (q := qk) top1 I.T.ht (show c < (qs.set k qc).length by rw [List.length_set]; exact Iv hc2 (Eq.symm hl))
      have T' := I.T.swap ek ec (Ne.symm hck) (o := .list ((qs.set k qc).map .ref))
      have I' : A27 M0 H0 t n k (-sg) last (fun a => M (swp k c a)) (fun a => A (swp k c a)) ((qs.set k qc).set c qk) ((H'.set t (.list ((qs.set k qc).map .ref))).set t (.list (((qs.set k qc).set c qk).map .ref))) := by
        refine ⟨T', fun i j h1 h2 h3 h4 => ?_, fun a b ha hb => I.hB _ _ (A14 hk hc2 ha) hb, ?_, I.hq0, ?_, ?_, I.hl⟩
        · rw [A0c (by exact Nat.le_refl _) (by exact hc1)]; exact I.hA _ _ (A94 (by exact Nat.le_refl _) (by exact hc1) h1) (A14 hk hc2 h2) h3 h4
        · rw [Zo (by exact Nat.le_refl _) (by exact hc1)]; exact I.hq
        · rcases I.hs with h | h
          · right; exact Aae h
          · left; exact A9h h
        · rw [Nz hk hc2 (Ne.symm hck), ← I.hd]; grind
      refine hno ?_
      refine Bn (As (A5 rfl) (A5 rfl) (neT fun q => hck (Int.ofNat.inj q))) (Ag (Ap (A5 rfl) (A5 rfl) gk) (Ey (Ap (A5 rfl) (A5 rfl) gc) (A5 rfl) (A5 rfl) e1 (Ey (A5 rfl) (A5 rfl) (A5 rfl) e2 (Ag (A0f (A5 rfl)) (Bt (Tg I' hn hk ?_))))))
      rw [A0c (by exact Nat.le_refl _) (by exact hc1), show swp k c k = c from if_pos rfl, ← I.hA c k hc1 hc2 (Nat.le_refl _) hk]; exact hc3
inductive CpS (H : A0) (xs : List AV) (o : Option AV) (H' : A0) : Prop
  | mk (q : Nat) (ho : o = some (.ref q)) (hq : H'[q]? = some (.list xs)) (hp : H <+: H') (hge : H.length ≤ q) : CpS H xs o H'
inductive Ud (H0 : A0) (n : Nat) (fs : List (Nat → Int)) (out : List AV) (H' : A0) : Prop
  | mk (qs : List Nat) (ho : out = qs.map .ref) (hl : qs.length = fs.length) (hf : ∀ {i q : Nat} {f : Nat → Int}, qs[i]? = some q → fs[i]? = some f → H'[q]? = some (.list (Ee n f))) (hp : H0 <+: H') (hq : ∀ q ∈ qs, H0.length ≤ q ∧ q < H'.length) (nd : qs.Nodup) : Ud H0 n fs out H'
theorem Kt {α : Type} {g : α → AV} {f : α → Nat → Int} {ws : List (Nat × List AV)} {step : AV → A0 → Res (Option AV)} (hw : ∀ w ∈ ws, H0[w.1]? = some (.list w.2)) : ∀ (l : List α) {H : A0}, H0 <+: H →
    (∀ a ∈ l, ∀ H, H0 <+: H → (step (g a) H).sat (CpS H (Ee n (f a)))) → (Bh ws step (l.map g) H).sat (Ud H n (l.map f))
  | [], H, p, _ => ⟨[], rfl, rfl, fun e => (by simp at e), List.prefix_rfl, fun q hq => (by cases hq), .nil⟩
  | a :: l, H, p, h => by
    refine bC fun hno => ?_
    obtain ⟨o, H1, e1, q, rfl, hq, hp, hge⟩ := Res.sat_ex (h a List.mem_cons_self H p)
    obtain ⟨out, H2, e2, qs, rfl, hl, hf, hp2, hqs, nd⟩ := Res.sat_ex (Kt hw l (p.trans hp) fun a ha => h a (List.mem_cons_of_mem _ ha))
    refine hno ?_
    rw [List.map_cons, Bh, e1]
    have hw1 : ws.all (fun w => G0 H1 w.1 w.2) = true := List.all_eq_true.mpr fun w hm => K9 (Ab (p.trans hp) (hw w hm))
    simp only [Res.get, hw1, if_true, e2]
    have hlt := (List.getElem?_eq_some_iff.mp hq).1
    refine ⟨q :: qs, rfl, by rw [List.length_cons, List.map_cons, List.length_cons, hl], fun {i q' f'} e3 e4 => ?_, hp.trans hp2, fun x hx => ?_, List.nodup_cons.mpr ⟨fun hm => ?_, nd⟩⟩
    · cases i with
      | zero => simp at e3 e4; subst e3 e4; exact Ab hp2 hq
      | succ i => rw [List.getElem?_cons_succ] at e3; rw [List.map_cons, List.getElem?_cons_succ] at e4; exact hf e3 e4
    · rcases List.mem_cons.mp hx with rfl | hx
      · exact ⟨hge, Nat.lt_of_lt_of_le hlt hp2.length_le⟩
      · exact ⟨Nat.le_trans hp.length_le (hqs x hx).1, (hqs x hx).2⟩
    · have := (hqs q hm).1; exact Ut this hlt
theorem Ud.tab {f : Nat → Nat → Int} {l : List Nat} {qs : List Nat} (hl : qs.length = ((List.range n).map f).length) (hf : ∀ {i q : Nat} {g : Nat → Int}, qs[i]? = some q → ((List.range n).map f)[i]? = some g → H[q]? = some (.list (Ee m g))) (hp : H0 <+: H) (hq : ∀ q ∈ qs, H0.length ≤ q ∧ q < H.length) (nd : qs.Nodup) (hm : m = n) :
    Gl H0 (H ++ [.list (qs.map .ref)]) H.length qs n f := by
  subst hm
  have hl' : qs.length = m := by rw [hl, List.length_map, List.length_range]
  refine ⟨⟨Ae _ _, hl', fun {i q} e => ?_⟩, hp.trans (Ad _ _), hp.length_le, fun {i j q} e1 e2 => ?_, fun {i} e => ?_, fun {i q} e => (hq q (List.mem_of_getElem? e)).1⟩
  · have hi : i < m := hl' ▸ (List.getElem?_eq_some_iff.mp e).1
    exact Ab (Ad _ _) (hf e (by rw [List.getElem?_map, List.getElem?_range hi]; rfl))
  · exact (List.getElem?_inj (List.getElem?_eq_some_iff.mp e1).1 nd).mp (e1.trans e2.symm)
  · exact absurd (hq _ (List.mem_of_getElem? e)).2 (Nat.lt_irrefl _)
theorem A1j {q : Nat} {xs : List AV} (h : H[q]? = some (.list xs)) : ∀ w ∈ [(q, xs)], H[w.1]? = some (.list w.2) := fun w hw => by
  cases List.mem_singleton.mp hw; exact h
theorem Ym (h19 : P 19 = some La) (h20 : P 20 = some Mr) (T : Z0 H t qs n M) (hn : n ≤ 8) (hB : ∀ a b, a < n → b < n → (M a b).natAbs ≤ 2 ^ 60) : (Ah strF P sc (m + 2) 20 [.ref t] H).sat fun v H' => v = .int (det n M) ∧ H <+: H' := by
  refine bC fun hno => ?_
  obtain ⟨out, H1, e1, qs1, rfl, hl1, hf1, hp1, hq1, nd1⟩ := Res.sat_ex (Kt (n := n) (g := fun i => AV.ref (qs.getD i 0)) (f := M) (step := fun v H' => (Mm strF (Ah strF P sc (m + 1)) sc H.length .none (some v :: [some (.ref t), none, none, none, none, none, none, none, none]) H').get fun tt H' => if tt then (Aa strF (Ah strF P sc (m + 1)) sc H.length (.prim .list (.cons (.var 0) .nil)) (some v :: [some (.ref t), none, none, none, none, none, none, none, none]) H').get fun x H => .ok (some x) H else .ok none H')
    (A1j T.top) (List.range n) List.prefix_rfl fun i hi H' p => by
      have hi' : i < qs.length := by rw [T.len]; exact List.mem_range.mp hi
      have hr := Ab p (T.row (List.getElem?_eq_getElem hi'))
      rw [show qs.getD i 0 = qs[i] by rw [List.getD_eq_getElem?_getD, List.getElem?_eq_getElem hi']; rfl]
      refine (congrArg (fun r : Res (Option AV) => r.sat _) (Eh (Ak (A6 (A5 rfl) A7) ((Rg.trans (by rw [Ou, hr])).trans (Au (by rw [Bj]; exact Nat.le_trans hn (by decide))))))).mpr ⟨_, rfl, Ae _ _, Ad _ _, Nat.le_refl _⟩)
  have ew : (List.range n).map (fun i => AV.ref (qs.getD i 0)) = qs.map AV.ref := by
    refine List.ext_getElem? fun i => ?_
    by_cases h : i < n
    · have h' : i < qs.length := by rw [T.len]; exact h
      rw [List.getElem?_map, List.getElem?_range h, List.getElem?_map, List.getElem?_eq_getElem h', Option.map_some, Option.map_some, List.getD_eq_getElem?_getD, List.getElem?_eq_getElem h']; rfl
    · rw [List.getElem?_eq_none (by rw [List.length_map, List.length_range]; exact oGe h), List.getElem?_eq_none (by rw [List.length_map, T.len]; exact oGe h)]
  rw [ew] at e1
  have T1 := Ud.tab (l := []) hl1 hf1 hp1 hq1 nd1 rfl
  refine hno ?_
  refine Ay (body := Mr.body) h20 rfl (Ag (Eb (Em (A5 rfl) T.top) e1 (Au (by rw [List.length_map, hl1, List.length_map, List.length_range]; exact Nat.le_trans hn (by decide)))) (Ag Ac (Ag Ac (E5 (Es (Ak (A6 (A5 rfl) A7) (M6 T1.rd)) (E9 (by exact Nat.le_trans hn (by decide)))) (A1h (TnI M H H1.length n)
    ⟨1, 1, M, M, qs1, _, _, _, _, _, _, rfl, ⟨T1, fun i j _ _ _ _ => (A5m M i j).symm, hB, rfl, by decide, .inl rfl, by exact Int.one_mul _, by decide⟩⟩ ?_ ?_)))))
  · rintro k ρ H' hk ⟨sg, last, M', A, qs, x3, x4, x5, x6, x7, x8, rfl, I⟩
    exact A0r h19 I hn hk fun H2 hp hd => ⟨by rw [hd], hp⟩
  · rintro ρ H' ⟨sg, last, M', A, qs, x3, x4, x5, x6, x7, x8, rfl, I⟩
    refine Az (Aj (A5 rfl) (A5 rfl) (by rw [Tc, if_pos]; unfold E8; rw [show Oo sg = true by rcases I.hs with h | h <;> rw [h] <;> decide]; rfl)) ⟨?_, I.T.pre⟩
    rw [← I.hd, I.hq]
end
end Mine
namespace Mine
open PySem
noncomputable def R4 : AV → Bool
  | .scr => false
  | .fn _ => false
  | .exc _ => false
  | _ => true
section
variable {strF : Bi} {sc : List Int} {P : Nat → Option FnI} {H H0 H1 H2 H3 : A0} {n m b : Nat} {ρ : A8} {cf : Nat → List AV → A0 → Res AV} {N : A8 → A0 → Prop} {R : AV → A0 → Prop} {K K' : AV → A0 → Prop} {x y : PE} {es : PEs} {ss : PSs} {v w : AV} {vs : List AV}
theorem D6 {t : Bool} (h : N6 v = some t) : prim strF sc .isInt [v] H = .ok (.bool t) H := by rw [Xv, h]; rfl
theorem Dk {t : Bool} (h : M3 v = some t) : prim strF sc .isBool [v] H = .ok (.bool t) H := by rw [Uo, h]; rfl
theorem D2 {t : Bool} (h : Gm v H = some t) : prim strF sc .isList [v] H = .ok (.bool t) H := by rw [Te, h]; rfl
theorem Ub {t : Bool} (h : K6 v = some t) : prim strF sc .isTuple [v] H = .ok (.bool t) H := by rw [Q2, h]; rfl
theorem Iq {q : Nat} {xs : List AV} (h : H[q]? = some (.list xs)) : Gm (.ref q) H = some true := by rw [Vj, h]
theorem leT {i j : Int} (h : i ≤ j) : B4 .LtE (.int i) (.int j) H = some true := by rw [A85, decide_eq_true h]
theorem leF {i j : Int} (h : ¬ i ≤ j) : B4 .LtE (.int i) (.int j) H = some false := by rw [A85, decide_eq_false h]
theorem Eu {r : Nat} {xs : List AV} (h : H[r]? = some (.list xs)) : prim strF sc .len [.ref r] H = .ok (.int xs.length) H := by rw [Np, Ou, h]
theorem Cv {r : Nat} {E : List (Nat × Nat)} (h : TL H r E) : prim strF sc .len [.ref r] H = .ok (.int E.length) H := by rw [Eu h, List.length_map]
inductive AmR (lo hi : Int) (v : AV) (t : Bool) : Prop
  | yes (i : Int) (hv : v = .int i) (h1 : lo ≤ i) (h2 : i ≤ hi) (ht : t = true) : AmR lo hi v t
  | no (h : ∀ i, v = .int i → ¬ (lo ≤ i ∧ i ≤ hi)) (ht : t = false) : AmR lo hi v t
inductive AmE (strF : Bi) (P : Nat → Option FnI) (sc : List Int) (m : Nat) (H : A0) (lo hi : Int) (v : AV) : Prop
  | mk (t : Bool) (e : Ah strF P sc (m + 1) 0 [v, .int lo, .int hi] H = .ok (.bool t) H) (h : AmR lo hi v t) : AmE strF P sc m H lo hi v
theorem Kr (h0 : P 0 = some Ue) {lo hi : Int} (hv : R4 v = true) : AmE strF P sc m H lo hi v := by
  by_cases hi' : ∃ i, v = .int i
  · refine bC fun hno => ?_
    obtain ⟨i, rfl⟩ := hi'
    refine hno ?_
    by_cases h1 : lo ≤ i
    · by_cases h2 : i ≤ hi
      · exact ⟨true, Fl (Ay h0 rfl (Az (Fw (Dm (Ak (A6 (A5 rfl) A7) (D6 rfl)) (Dm (Qp (Ak (A6 (A5 rfl) A7) (Dk rfl))) (Kd (Vd (A5 rfl) (A5 rfl) (leT h1) (A5 rfl) (leT h2)))))) ⟨rfl, rfl⟩)), .yes i rfl h1 h2 rfl⟩
      · exact ⟨false, Fl (Ay h0 rfl (Az (Fw (Dm (Ak (A6 (A5 rfl) A7) (D6 rfl)) (Dm (Qp (Ak (A6 (A5 rfl) A7) (Dk rfl))) (Kd (Vd (A5 rfl) (A5 rfl) (leT h1) (A5 rfl) (leF h2)))))) ⟨rfl, rfl⟩)), .no (fun j e q => by cases e; exact h2 q.2) rfl⟩
    · exact ⟨false, Fl (Ay h0 rfl (Az (Fw (Dm (Ak (A6 (A5 rfl) A7) (D6 rfl)) (Dm (Qp (Ak (A6 (A5 rfl) A7) (Dk rfl))) (Kd (Wc (A5 rfl) (A5 rfl) (leF h1)))))) ⟨rfl, rfl⟩)), .no (fun j e q => by cases e; exact h1 q.1) rfl⟩
  · have hno : ∀ i, v = .int i → ¬ (lo ≤ i ∧ i ≤ hi) := fun i e => absurd ⟨i, e⟩ hi'
    by_cases hb : ∃ c, v = .bool c
    · obtain ⟨c, rfl⟩ := hb
      exact ⟨false, Fl (Ay h0 rfl (Az (Fw (Dm (Ak (A6 (A5 rfl) A7) (D6 rfl)) (M7 (A3i (Ak (A6 (A5 rfl) A7) (Dk rfl)))))) ⟨rfl, rfl⟩)), .no hno rfl⟩
    · have hk : N6 v = some false := by
        cases v with
        | int i => exact absurd ⟨i, rfl⟩ hi'
        | bool c => exact absurd ⟨c, rfl⟩ hb
        | scr => cases hv
        | fn k => cases hv
        | exc c => cases hv
        | _ => rfl
      exact ⟨false, Fl (Ay h0 rfl (Az (Fw (M7 (Ak (A6 (A5 rfl) A7) (D6 hk)))) ⟨rfl, rfl⟩)), .no hno rfl⟩
theorem N8 (h0 : P 0 = some Ue) {x lo hi : Int} (h1 : lo ≤ x) (h2 : x ≤ hi) : Ah strF P sc (m + 1) 0 [.int x, .int lo, .int hi] H = .ok (.bool true) H := by
  obtain ⟨t, e, h⟩ := Kr (strF := strF) (sc := sc) (m := m) (H := H) (v := .int x) (lo := lo) (hi := hi) h0 rfl
  cases h with
  | yes i hv q1 q2 ht => rw [e, ht]
  | no h ht => exact absurd ⟨h1, h2⟩ (h x rfl)
inductive NeI (H0 : A0) (n r k : Nat) (ρ : A8) (H : A0) : Prop
  | mk (x2 : Option AV) (hρ : ρ = [some (.int n), some (.ref r), x2]) (hH : H = H0) : NeI H0 n r k ρ H
theorem Kn (h0 : P 0 = some Ue) (h1' : P 1 = some A2v) {r : Nat} {E : List (Nat × Nat)} (h1 : 1 ≤ n) (hn : n ≤ 7) (hT : TL H r E) (hl : E.length ≤ 16) (hok : okT n E) : Ah strF P sc (m + 2) 1 [.int n, .ref r] H = .ok .none H := by
  refine Fl (Ay h1' rfl (B0 (Cu (Ht (A6 (A5 rfl) (A6 Ac (A6 A2x A7))) (N8 h0 (by exact J6 h1) (by exact P0 hn)))) (B0 (Pe (Bf (Cu (Ft (A6 (A5 rfl) A7) (D2 (Iq hT)))) (Bf (As (Ak (A6 (A5 rfl) A7) (Cv hT)) A2x (gtF (by exact T7 (P0 hl)))) I1)))
    (E5 (Em (A5 rfl) hT) (El (NeI H n r) ⟨_, rfl, rfl⟩ ?_ ?_)))))
  · rintro k v ρ H' hv ⟨x2, rfl, rfl⟩
    obtain ⟨e, he, rfl⟩ := Kl hv
    obtain ⟨o1, o2⟩ := hok e (List.mem_of_getElem? he)
    exact B0 (Pe (Bf (Cu (Ft (A6 (A5 rfl) A7) (Ub rfl))) (Bf (As (Ak (A6 (A5 rfl) A7) A42) Ac (neF rfl)) I1)))
      (B0 (Pe (Bf (Cu (Ht (A6 (Ap (A5 rfl) Ac G8) (A6 Ac (A6 (Aj (A5 rfl) Ac Cp) A7))) (N8 h0 (by exact oNN _) (by exact oR1 o1)))) (Bf (Cu (Ht (A6 (Ap (A5 rfl) Ac Gb) (A6 Ac (A6 (Aj (A5 rfl) Ac Cp) A7))) (N8 h0 (by exact oNN _) (by exact oR1 o2)))) I1)))
      (Bt ⟨⟨_, rfl, rfl⟩, hT⟩))
  · rintro ρ H' ⟨x2, rfl, rfl⟩
    exact Bt ⟨rfl, rfl⟩
theorem A10 {α : Type} {a : AV} {Q : Option AV → A0 → Prop} (h : (Aa strF cf sc b x (some a :: ρ) H).sat fun v H' => Q (some v) H') : ((Mm strF cf sc b .none (some a :: ρ) H).get fun t H => if t then (Aa strF cf sc b x (some a :: ρ) H).get fun x H => .ok (some x) H else .ok none H).sat Q := by
  obtain ⟨v, H1, e, q⟩ := Res.sat_ex h
  rw [Eh e]; exact q
theorem A9x (h : Aa strF cf sc b x ρ H = .ok v H1) (k : K v H1) : (Aa strF cf sc b x ρ H).sat K := by rw [h]; exact k
theorem A04 {el : PE} {it : It} {g : Nat → AV} {f : Mat} {ws : List (Nat × List AV)} (h1 : Dy strF cf sc b it ρ H = .ok ((List.range n).map g, ws) H1) (hw : ∀ w ∈ ws, H1[w.1]? = some (.list w.2)) (hn : n ≤ 8)
    (h : ∀ a, a < n → ∀ H', H1 <+: H' → (Aa strF cf sc b el (some (g a) :: ρ) H').sat fun v => CpS H' (Ee n (f a)) (some v)) (k : ∀ (t : Nat) (qs : List Nat) (H3 : A0), Gl H1 H3 t qs n f → K (.ref t) H3) : (Aa strF cf sc b (.comp1 el it .none) ρ H).sat K := by
  refine bC fun hno => ?_
  obtain ⟨out, H2, e, qs, rfl, hl2, hf, hp2, hq, nd⟩ := Res.sat_ex (Kt (step := fun v H => (Mm strF cf sc b .none (some v :: ρ) H).get fun t H => if t then (Aa strF cf sc b el (some v :: ρ) H).get fun x H => .ok (some x) H else .ok none H) hw (List.range n) List.prefix_rfl fun a ha H' p => A10 (α := Nat) (h a (List.mem_range.mp ha) H' p))
  refine hno ?_
  rw [Eb h1 e (Au (by rw [List.length_map, hl2, List.length_map, List.length_range]; exact Nat.le_trans hn (by decide)))]
  exact k _ qs _ (Ud.tab (l := []) hl2 hf hp2 hq nd rfl)
theorem A62 {k : Nat} (h : (Aa strF cf sc b x ρ H).sat fun v H1 => (cf k [v] H1).sat K) : (Aa strF cf sc b (.call k (.cons x .nil)) ρ H).sat K := by
  obtain ⟨v, H1, e, q⟩ := Res.sat_ex h
  rw [Ma, A6 e A7]; exact q
theorem Yy {i : Nat} (h : (Aa strF cf sc b x ρ H).sat fun v H1 => (Ai strF cf sc b ss (ρ.set i (some v)) H1).sat N R) : (Ai strF cf sc b (.cons (.assign i x) ss) ρ H).sat N R := by
  rw [C1, Mu]; exact h
theorem A7s (h : (Aa strF cf sc b x ρ H).sat R) : (Ai strF cf sc b (.cons (.ret x) ss) ρ H).sat N R := by
  rw [C1, M1]; exact h
theorem Tu {k : Nat} (h1 : Aa strF cf sc b x ρ H = .ok (.int k) H1) (h2 : k ≤ 1000) : Dy strF cf sc b (.range1 x) ρ H = .ok ((List.range k).map fun (j : Nat) => AV.int (j : Int), []) H1 := by
  rw [Es h1 (E9 h2), Ol]
theorem A98 : ∀ w ∈ ([] : List (Nat × List AV)), H[w.1]? = some (.list w.2) := fun w hw => by cases hw
inductive TbI (H0 : A0) (n r t : Nat) (qs : List Nat) (E : List (Nat × Nat)) (k : Nat) (ρ : A8) (H : A0) : Prop
  | mk (x3 x4 : Option AV) (hρ : ρ = [some (.int n), some (.ref r), some (.ref t), x3, x4]) (T : Gl H0 H t qs n (lap (E.take k))) : TbI H0 n r t qs E k ρ H
inductive Aat (H : A0) (n : Nat) (A : Mat) (v : AV) (H' : A0) : Prop
  | mk (t : Nat) (qs : List Nat) (hv : v = .ref t) (T : Gl H H' t qs n A) : Aat H n A v H'
theorem Yp (h21 : P 21 = some Os) {r : Nat} {E : List (Nat × Nat)} (hn : n ≤ 7) (hT : TL H r E) (hok : okT n E) : (Ah strF P sc (m + 1) 21 [.int n, .ref r] H).sat (Aat H n (lap E)) := by
  refine Ay (body := Os.body) h21 rfl (Yy (A04 (f := fun _ _ => 0) (Tu (A5 rfl) (by exact Nat.le_trans hn (by decide))) A98 (by exact Nat.le_succ_of_le hn) (fun a ha H' p => ?_) fun t qs H2 T => ?_))
  · exact A9x (Eb (Tu (k := n) (A5 rfl) (by exact Nat.le_trans hn (by decide))) (Nl (fun _ => 0) (List.range n) fun k hk => Eh Ac) (Au (by rw [List.length_map, List.length_range]; exact Nat.le_trans hn (by decide)))) ⟨_, rfl, Ae _ _, Ad _ _, Nat.le_refl _⟩
  · refine Vf (Em (A5 rfl) (Ab T.pre hT)) (El (TbI H n r t qs E) ⟨_, _, rfl, T.congr fun _ _ _ _ => rfl⟩ ?_ ?_)
    · rintro k v ρ H' hv ⟨x3, x4, rfl, T⟩
      obtain ⟨e, he, rfl⟩ := Kl hv
      obtain ⟨o1, o2⟩ := hok e (List.mem_of_getElem? he)
      have key : ∀ a c, lap (E.take (k + 1)) a c = lap (E.take k) a c + Hd e a c := fun a c => by rw [List.take_add_one, he, Rx]; simp [lap]
      by_cases hl : e.1 = e.2
      · exact B0 (As (A5 rfl) (A5 rfl) (neF (by rw [hl]))) (Bt ⟨⟨_, _, rfl, T.congr fun a c _ _ => by rw [key, Pw hl]; exact Eq.symm (Int.add_zero _)⟩, Ab T.pre hT⟩)
      · refine bC fun hno => ?_
        obtain ⟨q1, H1, A1, a1, b1, c1, T1, k1⟩ := Jv (sc := sc) (d := 1) T o1 o1 rfl
        obtain ⟨q2, H2, A2, a2, b2, c2, T2, k2⟩ := Jv (sc := sc) (d := 1) T1 o2 o2 rfl
        obtain ⟨q3, H3, A3, a3, b3, c3, T3, k3⟩ := Jv (sc := sc) (d := -1) T2 o1 o2 rfl
        obtain ⟨q4, H4, A4, a4, b4, c4, T4, k4⟩ := Jv (sc := sc) (d := -1) T3 o2 o1 rfl
        refine hno ?_
        refine Bn (As (A5 rfl) (A5 rfl) (neT fun q => hl (Int.ofNat.inj q))) (Ey (Aj (Ap (Ap (A5 rfl) (A5 rfl) a1) (A5 rfl) b1) Ac Di) (Ap (A5 rfl) (A5 rfl) a1) (A5 rfl) c1
          (Ey (Aj (Ap (Ap (A5 rfl) (A5 rfl) a2) (A5 rfl) b2) Ac Di) (Ap (A5 rfl) (A5 rfl) a2) (A5 rfl) c2
          (Ey (Aj (Ap (Ap (A5 rfl) (A5 rfl) a3) (A5 rfl) b3) Ac Cp) (Ap (A5 rfl) (A5 rfl) a3) (A5 rfl) c3
          (Ey (Aj (Ap (Ap (A5 rfl) (A5 rfl) a4) (A5 rfl) b4) Ac Cp) (Ap (A5 rfl) (A5 rfl) a4) (A5 rfl) c4 (Bt (Bt ⟨⟨_, _, rfl, T4.congr fun a c _ _ => ?_⟩, Ab T4.pre hT⟩))))))
        rw [key, ← Vv hl a c, k4, k3, k2, k1]; exact Abo
    · rintro ρ H' ⟨x3, x4, rfl, T⟩
      rw [List.length_map, List.take_length] at T
      exact Az (A5 rfl) ⟨_, qs, rfl, T⟩
inductive T0 (H : A0) (i : Int) (v : AV) (H' : A0) : Prop
  | mk (hv : v = .int i) (hp : H <+: H') : T0 H i v H'
theorem Fd (h19 : P 19 = some La) (h20 : P 20 = some Mr) (h21 : P 21 = some Os) (h23 : P 23 = some Ul) {r : Nat} {E : List (Nat × Nat)} (hn : n + 1 ≤ 7) (hT : TL H r E) (hl : E.length ≤ 1000) (hok : okT (n + 1) E) :
    (Ah strF P sc (m + 3) 23 [.int (n + 1 : Nat), .ref r] H).sat (T0 H (tau (n + 1) E)) := by
  refine bC fun hno => ?_
  obtain ⟨v, H1, e1, t, qs, rfl, T⟩ := Res.sat_ex (Yp (strF := strF) (sc := sc) (m := m + 1) h21 hn hT hok)
  have hql := T.rd.len
  have hcut : cut (qs.map AV.ref) (some 1) none = (List.range n).map fun i => AV.ref (qs.getD (i + 1) 0) := by
    have h := W3 (xs := qs.map AV.ref) (c := 1) (by rw [List.length_map]; (first | lia | omega))
    refine (show _ = _ from h).trans (List.ext_getElem? fun i => ?_)
    rw [List.getElem?_drop, List.getElem?_map, List.getElem?_map]
    by_cases hi : i < n
    · have h' : 1 + i < qs.length := by (first | lia | omega)
      rw [List.getElem?_range hi, List.getElem?_eq_getElem h', Option.map_some, Option.map_some, List.getD_eq_getElem?_getD, Nat.add_comm i 1, List.getElem?_eq_getElem h']; rfl
    · rw [List.getElem?_eq_none (show qs.length ≤ 1 + i by (first | lia | omega)), List.getElem?_eq_none (by rw [List.length_range]; exact oGe hi)]; rfl
  have ealloc : B7 (cut (qs.map AV.ref) (some 1) none) H1 = .ok (.ref H1.length) (H1 ++ [.list ((List.range n).map fun i => AV.ref (qs.getD (i + 1) 0))]) := by rw [hcut]; exact Au (by rw [List.length_map, List.length_range]; exact Nat.le_trans (Nat.le_of_lt hn) (by decide))
  have p1 := Ad H1 [.list ((List.range n).map fun i => AV.ref (qs.getD (i + 1) 0))]
  refine hno ?_
  refine Ay h23 rfl (A7s (A62 (A04 (n := n) (f := fun i c => lap E (i + 1) (c + 1)) (Em (D1 (An (A6 (A5 rfl) (A6 (A5 rfl) A7)) e1) (E6 Ac) E4 T.rd.top ealloc) (Ae _ _)) (A1j (Ae _ _)) (by exact Nat.le_of_lt (Nat.lt_succ_of_lt hn)) (fun i hi H' p => ?_) fun t qs H3 T2 => ?_)))
  · have hi' : i + 1 < qs.length := by (first | lia | omega)
    have hr := Ab (p1.trans p) (T.rd.row (List.getElem?_eq_getElem hi'))
    have eg : qs.getD (i + 1) 0 = qs[i + 1] := by rw [List.getD_eq_getElem?_getD, List.getElem?_eq_getElem hi']; rfl
    exact A9x (D1 (A5 (by rw [eg]; rfl)) (E6 Ac) E4 hr (by rw [A4r]; exact Au (by rw [Bj]; exact Nat.le_trans (Nat.le_of_lt hn) (by decide)))) ⟨_, rfl, Ae _ _, Ad _ _, Nat.le_refl _⟩
  · exact Res.sat_mono (Ym (strF := strF) (sc := sc) (m := m) h19 h20 T2.rd (by exact Nat.le_of_lt (Nat.lt_succ_of_lt hn)) fun a c _ _ => Nat.le_trans (Yl E _ _) (Nat.le_trans hl (by decide))) fun v H4 h => ⟨h.1, (T.pre.trans p1).trans (T2.pre.trans h.2)⟩
theorem Zq (h0 : P 0 = some Ue) (h1 : P 1 = some A2v) (h19 : P 19 = some La) (h20 : P 20 = some Mr) (h21 : P 21 = some Os) (h23 : P 23 = some Ul) (h24 : P 24 = some A3y) {r : Nat} {E : List (Nat × Nat)} (hn : n + 1 ≤ 7) (hT : TL H r E) (hl : E.length ≤ 16) (hok : okT (n + 1) E) :
    (Ah strF P sc (m + 4) 24 [.int (n + 1 : Nat), .ref r] H).sat (T0 H (tau (n + 1) E)) := by
  refine bC fun hno => ?_
  obtain ⟨v, H3, e3, rfl, p3⟩ := Res.sat_ex (Fd (strF := strF) (sc := sc) (m := m) h19 h20 h21 h23 hn hT (by exact Nat.le_trans hl (by decide)) hok)
  refine hno ?_
  exact Ay h24 rfl (Gs (An (A6 (A5 rfl) (A6 (A5 rfl) A7)) (Kn h0 h1 (by exact Nat.succ_pos _) hn hT hl hok)) (Az (An (A6 (A5 rfl) (A6 (A5 rfl) A7)) e3) ⟨rfl, p3⟩))
end
end Mine
namespace Mine
open PySem
section
variable {strF : Bi} {sc : List Int} {P : Nat → Option FnI} {H H0 H1 H2 H3 : A0} {n m b : Nat} {ρ : A8} {cf : Nat → List AV → A0 → Res AV} {N : A8 → A0 → Prop} {R : AV → A0 → Prop} {x y : PE} {ss : PSs}
theorem Kj {r : Nat} {F : List Nat} (h : H[r]? = some (.list (F.map Am))) : prim strF sc .len [.ref r] H = .ok (.int F.length) H := by rw [Eu h, List.length_map]
theorem Um {r i j k : Nat} {E : List (Nat × Nat)} {s x y : Nat} {F : List Nat} {u : Nat} (hge : H0.length ≤ r) (hr : H[r]? = some (.list (F.map Am))) (p : H0 <+: H) (h : Rch E n s F) (hn : n ≤ 7) (hx : F[k]? = some x) (hc : u = x → Be E x y) (hy : y < n)
    (r3 : ρ[3]? = some (some (.ref r))) (r4 : ρ[4]? = some (some (.int k))) (ri : ρ[i]? = some (some (.int u))) (rj : ρ[j]? = some (some (.int y)))
    (hN : ∀ H' F', H'[r]? = some (.list (F'.map Am)) → H0 <+: H' → Rch E n s F' → F <+: F' → (u = x → y ∈ F') → (Ai strF cf sc H0.length ss ρ H').sat N R) :
    (Ai strF cf sc H0.length (.cons (.ite (.and (.cons (.cmp .Eq (.var i) (.idx (.var 3) (.var 4))) (.cons (.cmp .NotIn (.var j) (.var 3)) .nil))) (.cons (.expr (.append (.var 3) (.var j))) .nil) .nil) ss) ρ H).sat N R := by
  have it := Cb (sc := sc) (k := k) (x := Am x) hr (by rw [List.getElem?_map, hx]; rfl)
  have hnot := Xw (v := .int y) (w := .ref r) (H := H)
  rw [L7 hr] at hnot
  by_cases h1 : u = x
  · have c1 := As (strF := strF) (cf := cf) (b := H0.length) (A5 ri) (Ap (A5 r3) (A5 r4) it) (eqT (by rw [h1]))
    by_cases h2 : y ∈ F
    · rw [decide_eq_true h2] at hnot
      exact B0 (Q5 (Ib c1 (Jo (As (A5 rj) (A5 r3) hnot)))) (hN H F hr p h List.prefix_rfl fun _ => h2)
    · rw [decide_eq_false h2] at hnot
      have hl := Ie h.nd fun p hp => (h.lt p hp).1
      exact Bn (Q5 (Ib c1 (Ib (As (A5 rj) (A5 r3) hnot) A47))) (Gs (K2 (A5 r3) (Rk hr) (A5 rj) (Mv hr hge (Nat.lt_of_lt_of_le (show F.length < 100 by exact Abf hn hl) (by decide))))
        (Bt (hN _ (F ++ [y]) (Im ⟨_, hr⟩) (D4 p hge) (h.add (List.mem_of_getElem? hx) (hc h1) hy h2) (List.prefix_append ..) fun _ => by simp)))
  · exact B0 (Q5 (Jo (As (A5 ri) (Ap (A5 r3) (A5 r4) it) (eqF fun q => h1 (Int.ofNat.inj q))))) (hN H F hr p h List.prefix_rfl fun e => absurd e h1)
inductive RcI (H0 : A0) (n rt s : Nat) (E : List (Nat × Nat)) (k : Nat) (ρ : A8) (H : A0) : Prop
  | mk (F : List Nat) (x5 x6 : Option AV) (hρ : ρ = [some (.int n), some (.ref rt), some (.int s), some (.ref H0.length), some (.int k), x5, x6]) (hr : H[H0.length]? = some (.list (F.map Am))) (hp : H0 <+: H) (hR : Rch E n s F) (hk : k ≤ F.length)
    (hc : ∀ j x, j < k → F[j]? = some x → ∀ e ∈ E, (e.1 = x → e.2 ∈ F) ∧ (e.2 = x → e.1 ∈ F)) : RcI H0 n rt s E k ρ H
inductive RcJ (H0 : A0) (n rt s : Nat) (E : List (Nat × Nat)) (k x : Nat) (F : List Nat) (q : Nat) (ρ : A8) (H : A0) : Prop
  | mk (F' : List Nat) (x5 x6 : Option AV) (hρ : ρ = [some (.int n), some (.ref rt), some (.int s), some (.ref H0.length), some (.int k), x5, x6]) (hr : H[H0.length]? = some (.list (F'.map Am))) (hp : H0 <+: H) (hR : Rch E n s F') (hF : F <+: F')
    (hc : ∀ e ∈ E.take q, (e.1 = x → e.2 ∈ F') ∧ (e.2 = x → e.1 ∈ F')) : RcJ H0 n rt s E k x F q ρ H
inductive A36 (H : A0) (n s : Nat) (E : List (Nat × Nat)) (v : AV) (H' : A0) : Prop
  | mk (r : Nat) (F : List Nat) (hv : v = .ref r) (hr : H'[r]? = some (.list ((C7 (F.map fun (p : Nat) => (p : Int))).map .int))) (hp : H <+: H') (hge : H.length ≤ r) (nd : F.Nodup) (lt : ∀ p ∈ F, p < n) (hF : ∀ p, p < n → (p ∈ F ↔ Be E s p)) : A36 H n s E v H'
theorem Zm {E : List (Nat × Nat)} {F : List Nat} (h : ∀ x, x ∈ F → ∀ e ∈ E, (e.1 = x → e.2 ∈ F) ∧ (e.2 = x → e.1 ∈ F)) {x y : Nat} (c : Be E x y) : x ∈ F ↔ y ∈ F := by
  induction c with
  | refl p => exact Iff.rfl
  | @tie e m => exact ⟨fun q => (h _ q e m).1 rfl, fun q => (h _ q e m).2 rfl⟩
  | symm _ ih => exact ih.symm
  | trans _ _ i1 i2 => exact i1.trans i2
theorem Aa5 {c : PE} {body : PSs} (k : (Gj (Bp strF cf sc b c) (Ai strF cf sc b body) 100 ρ H).sat (fun ρ H => (Ai strF cf sc b ss ρ H).sat N R) R) : (Ai strF cf sc b (.cons (.whl c body) ss) ρ H).sat N R := by
  rw [C1, A4v]; exact k
theorem Vb (h10 : P 10 = some Sw) {rt s : Nat} {E : List (Nat × Nat)} (hn : n ≤ 7) (hT : TL H rt E) (hok : okT n E) (hs : s < n) : (Ah strF P sc (m + 1) 10 [.int n, .ref rt, .int s] H).sat (A36 H n s E) := by
  refine Ay h10 rfl (Ag (Cs (A6 (A5 rfl) A7) (Au (by simp))) (Ag Ac (Aa5 (U3 (RcI H n rt s E) 7 ?_ 100 0 _ _ (by decide) (by decide)
    ⟨[s], _, _, rfl, Ae _ _, Ad _ _, ⟨by simp, fun p hp => by simp at hp; subst hp; exact ⟨hs, .refl _⟩, by simp⟩, Nat.zero_le _, fun j x hj => absurd hj (Nat.not_lt_zero _)⟩))))
  rintro k ρ H' hk ⟨F, x5, x6, rfl, hr, p, hR, hkl, hcl⟩
  have hlen := Ie hR.nd fun p hp => (hR.lt p hp).1
  refine ⟨_, H', As (A5 rfl) (Ak (A6 (A5 rfl) A7) (Kj hr)) Yn, fun hf => ?_, fun ht => ?_⟩
  · have hk2 : k = F.length := by have := of_decide_eq_false hf; exact Nat.le_antisymm hkl (oGe fun q => this (J6 q))
    have es : prim strF sc .sorted [.ref H.length] H' = .ok (.ref H'.length) (H' ++ [.list ((C7 (F.map fun (p : Nat) => (p : Int))).map .int)]) := by
      rw [K0, hr]
      show (if (F.map Am).length < 64 then _ else _) = _
      rw [if_pos (by rw [List.length_map]; exact Aba hk hk2), C2]
      exact Au (by rw [List.length_map, Ea, List.length_map]; exact Ac4 hk hk2)
    refine Az (Ak (A6 (A5 rfl) A7) es) ⟨_, F, rfl, Ae _ _, p.trans (Ad _ _), p.length_le, hR.nd, fun p hp => (hR.lt p hp).1, fun q hq => ⟨fun h => (hR.lt q h).2, fun c => (Zm (fun x hx => ?_) c).mp hR.st⟩⟩
    obtain ⟨j, hj⟩ := List.mem_iff_getElem?.mp hx
    exact hcl j x (by have := (List.getElem?_eq_some_iff.mp hj).1; exact Iv this (Eq.symm hk2)) hj
  · have hkl2 : k < F.length := by have := of_decide_eq_true ht; exact Sr this
    refine ⟨by exact Nat.lt_of_lt_of_le hkl2 (Nat.le_trans hlen hn), ?_⟩
    obtain ⟨x, hx⟩ : ∃ x, F[k]? = some x := ⟨F[k], List.getElem?_eq_getElem hkl2⟩
    refine Vf (Em (A5 rfl) (Ab p hT)) (El (RcJ H n rt s E k x F) ⟨F, _, _, rfl, hr, p, hR, List.prefix_rfl, fun e he => by simp at he⟩ ?_ ?_)
    · rintro q v ρ H2 hv ⟨F2, x5, x6, rfl, hr2, p2, hR2, pF2, hc2⟩
      obtain ⟨e, he, rfl⟩ := Kl hv
      have hm := List.mem_of_getElem? he
      obtain ⟨o1, o2⟩ := hok e hm
      refine Um (n := n) (k := k) (E := E) (s := s) (x := x) (y := e.2) (u := e.1) (Nat.le_refl _) hr2 p2 hR2 hn (Qw pF2 hx) (fun h => h ▸ .tie hm) o2 rfl rfl rfl rfl fun H3 F3 hr3 p3 hR3 pF3 g3 => ?_
      refine Um (n := n) (k := k) (E := E) (s := s) (x := x) (y := e.1) (u := e.2) (Nat.le_refl _) hr3 p3 hR3 hn (Qw (pF2.trans pF3) hx) (fun h => h ▸ (Be.tie hm).symm) o1 rfl rfl rfl rfl fun H4 F4 hr4 p4 hR4 pF4 g4 => ?_
      refine Bt ⟨⟨F4, _, _, rfl, hr4, p4, hR4, (pF2.trans pF3).trans pF4, fun f hf => ?_⟩, Ab p4 hT⟩
      rw [List.take_add_one, he] at hf
      rcases List.mem_append.mp hf with hf | hf
      · exact ⟨fun h => (pF3.trans pF4).subset ((hc2 f hf).1 h), fun h => (pF3.trans pF4).subset ((hc2 f hf).2 h)⟩
      · cases List.mem_singleton.mp hf
        exact ⟨fun h => pF4.subset (g3 h), g4⟩
    · rintro ρ H2 ⟨F2, x5, x6, rfl, hr2, p2, hR2, pF2, hc2⟩
      rw [List.length_map, List.take_length] at hc2
      refine Ag (Aj (A5 rfl) Ac Di) (Bt ⟨F2, _, _, rfl, hr2, p2, hR2, Nat.lt_of_lt_of_le hkl2 pF2.length_le, fun j y hj hy e he => ?_⟩)
      by_cases hjk : j = k
      · subst hjk
        rw [Qw pF2 hx] at hy; cases hy
        exact hc2 e he
      · have hjl : j < F.length := by exact Nat.lt_of_lt_of_le hj hkl2
        have hy' : F[j]? = some y := by
          obtain ⟨z, rfl⟩ := pF2
          rwa [List.getElem?_append_left hjl] at hy
        have := hcl j y (by exact Lk hj hjk) hy' e he
        exact ⟨fun h => pF2.subset (this.1 h), fun h => pF2.subset (this.2 h)⟩
end
end Mine
namespace Mine
open PySem
noncomputable def Dt (L : List Nat) (e : Nat × Nat) : List Nat := L.map fun l => if l = max (L.getD e.1 0) (L.getD e.2 0) then min (L.getD e.1 0) (L.getD e.2 0) else l
structure Lab (n : Nat) (F : List (Nat × Nat)) (L : List Nat) : Prop where
  len : L.length = n
  lt : ∀ p, p < n → L.getD p 0 < n ∧ Be F p (L.getD p 0)
  le : ∀ p q, p < n → q < n → Be F p q → L.getD p 0 ≤ q
theorem My {n p : Nat} (h : p < n) : (List.range n).getD p 0 = p := by
  rw [List.getD_eq_getElem?_getD, List.getElem?_range h]; rfl
theorem Yd (n : Nat) : Lab n [] (List.range n) where
  len := List.length_range
  lt := fun p hp => by rw [My hp]; exact ⟨hp, .refl _⟩
  le := fun p q hp hq c => by rw [My hp]; exact Nat.le_of_eq (Nh c)
theorem A38 {f : Nat → Nat} {L : List Nat} {p : Nat} (h : p < L.length) : (L.map f).getD p 0 = f (L.getD p 0) := by
  rw [List.getD_eq_getElem?_getD, List.getD_eq_getElem?_getD, List.getElem?_map, List.getElem?_eq_getElem h]; rfl
theorem Lab.eq {n : Nat} {F : List (Nat × Nat)} {L : List Nat} (l : Lab n F L) {p q : Nat} (hp : p < n) (hq : q < n) (c : Be F p q) : L.getD p 0 = L.getD q 0 :=
  Nat.le_antisymm (l.le p _ hp (l.lt q hq).1 (c.trans (l.lt q hq).2)) (l.le q _ hq (l.lt p hp).1 (c.symm.trans (l.lt p hp).2))
theorem Be.const {n : Nat} {F : List (Nat × Nat)} {f : Nat → Nat} (hok : okT n F) (h : ∀ e ∈ F, f e.1 = f e.2) {p q : Nat} (c : Be F p q) : f p = f q := by
  induction c with
  | refl p => rfl
  | tie m => exact h _ m
  | symm _ ih => exact ih.symm
  | trans _ _ i1 i2 => exact i1.trans i2
theorem A1m {n : Nat} {F : List (Nat × Nat)} {L : List Nat} {e : Nat × Nat} (l : Lab n F L) (hok : okT n F) (h1 : e.1 < n) (h2 : e.2 < n) : Lab n (F ++ [e]) (Dt L e) := by
  have hF : ∀ {p q}, Be F p q → Be (F ++ [e]) p q := fun c => c.mono fun f hf => .tie (List.mem_append_left _ hf)
  have hab : Be (F ++ [e]) (L.getD e.1 0) (L.getD e.2 0) := ((hF (l.lt e.1 h1).2).symm.trans (.tie (List.mem_append_right _ List.mem_cons_self))).trans (hF (l.lt e.2 h2).2)
  have la := (l.lt e.1 h1).1
  have lb := (l.lt e.2 h2).1
  generalize ha : L.getD e.1 0 = a at hab la
  generalize hb : L.getD e.2 0 = c at hab lb
  have hg : ∀ p, p < n → (Dt L e).getD p 0 = if L.getD p 0 = max a c then min a c else L.getD p 0 := fun p hp => by
    unfold Dt; rw [ha, hb]
    exact A38 (f := fun l => if l = max a c then min a c else l) (l.len ▸ hp)
  have hle : ∀ p, p < n → (Dt L e).getD p 0 ≤ p := fun p hp => by
    have := l.le p p hp hp (.refl _)
    rw [hg p hp]; split <;> (first | exact Abw this (by assumption) | exact this)
  have hmm : Be (F ++ [e]) (max a c) (min a c) := by
    by_cases h : a ≤ c
    · rw [Nat.max_eq_right h, Nat.min_eq_left h]; exact hab.symm
    · rw [Nat.max_eq_left (by exact Nat.le_of_lt (oGt h)), Nat.min_eq_right (by exact Nat.le_of_lt (oGt h))]; exact hab
  refine ⟨by unfold Dt; rw [List.length_map]; exact l.len, fun p hp => ?_, fun p q hp hq cc => ?_⟩
  · rw [hg p hp]
    split
    · rename_i h
      exact ⟨by exact Nat.lt_of_le_of_lt (Nat.min_le_right _ _) lb, (hF (h ▸ (l.lt p hp).2)).trans hmm⟩
    · exact ⟨(l.lt p hp).1, hF (l.lt p hp).2⟩
  · have hc := Be.const (n := n) (f := fun p => if p < n then (Dt L e).getD p 0 else p) (F := F ++ [e]) (fun f hf => by
      rcases List.mem_append.mp hf with hf | hf
      · exact hok f hf
      · simp at hf; subst hf; exact ⟨h1, h2⟩) (fun f hf => ?_) cc
    · simp only [hp, hq, if_true] at hc
      rw [hc]; exact hle q hq
    · rcases List.mem_append.mp hf with hf | hf
      · refine bC fun hno => ?_
        obtain ⟨o1, o2⟩ := hok f hf
        refine hno ?_
        simp only [o1, o2, if_true]
        rw [hg _ o1, hg _ o2, l.eq o1 o2 (.tie hf)]
      · simp at hf; subst hf
        simp only [h1, h2, if_true]
        rw [hg _ h1, hg _ h2, ha, hb]
        have : min a c ≤ max a c := by exact Nat.le_trans (Nat.min_le_left _ _) (Nat.le_max_left _ _)
        by_cases h : a ≤ c
        · rw [Nat.max_eq_right h, Nat.min_eq_left h, if_pos rfl]; split <;> rfl
        · rw [Nat.max_eq_left (by exact Nat.le_of_lt (oGt h)), Nat.min_eq_right (by exact Nat.le_of_lt (oGt h)), if_pos rfl]; split <;> rfl
noncomputable def Tf (n : Nat) (E : List (Nat × Nat)) : List Nat := E.foldl Dt (List.range n)
theorem A4w {n : Nat} {E F : List (Nat × Nat)} (h : okT n (F ++ E)) : okT n F := fun e he => h e (List.mem_append_left _ he)
theorem Wg {n : Nat} : ∀ (E F : List (Nat × Nat)) {L : List Nat}, Lab n F L → okT n (F ++ E) → Lab n (F ++ E) (E.foldl Dt L)
  | [], F, L, l, _ => by rw [List.append_nil]; exact l
  | e :: E, F, L, l, h => by
    have he := h e (List.mem_append_right _ List.mem_cons_self)
    have h' : okT n ((F ++ [e]) ++ E) := by rw [List.append_assoc]; exact h
    have := Wg E (F ++ [e]) (A1m l (A4w h) he.1 he.2) h'
    rw [List.append_assoc] at this
    exact this
theorem Jq {n : Nat} {E : List (Nat × Nat)} (h : okT n E) : Lab n E (Tf n E) := Wg E [] (Yd n) h
theorem Yi (n : Nat) (E : List (Nat × Nat)) (e : Nat × Nat) : Tf n (E ++ [e]) = Dt (Tf n E) e := by unfold Tf; rw [List.foldl_append]; rfl
theorem Sh {n : Nat} {E : List (Nat × Nat)} {L : List Nat} (l : Lab n E L) (h1 : 1 ≤ n) : F9 n E ↔ ∀ x ∈ L, x = 0 := by
  constructor
  · intro h x hx
    obtain ⟨p, hp⟩ := List.mem_iff_getElem?.mp hx
    have hpn : p < n := l.len ▸ (List.getElem?_eq_some_iff.mp hp).1
    have := l.le p 0 hpn (by exact h1) (h p 0 hpn (by exact h1))
    rw [List.getD_eq_getElem?_getD, hp] at this
    exact Nat.le_zero.mp this
  · intro h p q hp hq
    have z : ∀ x, x < n → Be E x 0 := fun x hx => by
      have := (l.lt x hx).2
      have hx' : x < L.length := by rw [l.len]; exact hx
      rwa [h (L.getD x 0) (by rw [List.getD_eq_getElem?_getD, List.getElem?_eq_getElem hx']; exact List.getElem_mem ..)] at this
    exact (z p hp).trans (z q hq).symm
section
variable {strF : Bi} {sc : List Int} {P : Nat → Option FnI} {H H0 : A0} {n m : Nat} {ρ : A8} {cf : Nat → List AV → A0 → Res AV} {N : A8 → A0 → Prop} {R : AV → A0 → Prop}
theorem R7 {ws : List (Nat × List AV)} (h : ∀ w ∈ ws, H[w.1]? = some (.list w.2)) : ws.all (fun w => G0 H w.1 w.2) = true := List.all_eq_true.mpr fun w hw => K9 (h w hw)
theorem I6 {α : Type} {g f : α → AV} {ws : List (Nat × List AV)} {step : AV → A0 → Res (Option AV)} (hw : ∀ w ∈ ws, H[w.1]? = some (.list w.2)) : ∀ (l : List α), (∀ a ∈ l, step (g a) H = .ok (some (f a)) H) → Bh ws step (l.map g) H = .ok (l.map f) H
  | [], _ => rfl
  | a :: l, h => by
    rw [List.map_cons, Bh, h a List.mem_cons_self]
    simp only [Res.get, R7 hw, if_true, I6 hw l fun a ha => h a (List.mem_cons_of_mem _ ha)]; rfl
theorem Sk {q : Nat} {xs : List AV} (h : H[q]? = some (.list xs)) : ∀ w ∈ [(q, xs)], H[w.1]? = some (.list w.2) := fun w hw => by
  cases List.mem_singleton.mp hw; exact h
noncomputable def Vx : FnI := ⟨2, 7, .cons (.assign 2 (.prim .listRange (.cons (.var 0) .nil))) (.cons (.for2 3 4 (.of (.var 1)) (.cons (.assign 5 (.prim .min2 (.cons (.idx (.var 2) (.var 3)) (.cons (.idx (.var 2) (.var 4)) .nil)))) (.cons (.assign 6 (.prim .max2 (.cons (.idx (.var 2) (.var 3)) (.cons (.idx (.var 2) (.var 4)) .nil)))) (.cons (.assign 2 (.comp1 (.ite (.cmp .Eq (.var 0) (.var 7)) (.var 6) (.var 0)) (.of (.var 2)) .none)) .nil)))) (.cons (.ret (.var 2)) .nil))⟩
inductive A0m (H : A0) (F : List Nat) (v : AV) (H' : A0) : Prop
  | mk (r : Nat) (hv : v = .ref r) (hr : H'[r]? = some (.list (F.map Am))) (hp : H <+: H') (hge : H.length ≤ r) : A0m H F v H'
inductive A96 (H : A0) (n r : Nat) (E : List (Nat × Nat)) (k : Nat) (ρ : A8) (H' : A0) : Prop
  | mk (q : Nat) (x3 x4 x5 x6 : Option AV) (hρ : ρ = [some (.int n), some (.ref r), some (.ref q), x3, x4, x5, x6]) (hp : H <+: H') (hq : H'[q]? = some (.list ((Tf n (E.take k)).map Am))) (hge : H.length ≤ q) : A96 H n r E k ρ H'
theorem Kk {r p : Nat} {F : List Nat} (h : H[r]? = some (.list (F.map Am))) (hp : p < F.length) : Bx sc (.ref r) (.int p) H = .ok (.int (F.getD p 0 : Nat)) H :=
  Cb h (by rw [List.getElem?_map, List.getElem?_eq_getElem hp, List.getD_eq_getElem?_getD, List.getElem?_eq_getElem hp]; rfl)
theorem A25 {a c : Nat} : prim strF sc .min2 [.int a, .int c] H = .ok (.int (min a c : Nat)) H := by rw [A0o]; congr 2; exact A9r _ _
theorem A2o {a c : Nat} : prim strF sc .max2 [.int a, .int c] H = .ok (.int (max a c : Nat)) H := by rw [A30]; congr 2; exact A6l _ _
theorem N0 (k : Nat) : B1 0 k = (List.range k).map Am := Ol k
theorem Yj {k : Nat} (h : k ≤ 1000) : prim strF sc .listRange [.int k] H = .ok (.ref H.length) (H ++ [.list ((List.range k).map Am)]) := by
  rw [O9, if_pos (E9 h), N0]
  exact Au (by rw [List.length_map, List.length_range]; exact h)
theorem Tt (n : Nat) (E : List (Nat × Nat)) (h : okT n E) : (Tf n E).length = n := (Jq h).len
theorem Hj (h2 : P 2 = some Vx) {r : Nat} {E : List (Nat × Nat)} (hn : n ≤ 7) (hT : TL H r E) (hok : okT n E) : (Ah strF P sc (m + 1) 2 [.int n, .ref r] H).sat (A0m H (Tf n E)) := by
  refine Ay h2 rfl (Ag (Ak (A6 (A5 rfl) A7) (Yj (k := n) (by exact Nat.le_trans hn (by decide)))) (Vf (Em (A5 rfl) (Ab (Ad _ _) hT)) (El (A96 H n r E)
    ⟨H.length, _, _, _, _, rfl, Ad _ _, Ae _ _, Nat.le_refl _⟩ ?_ ?_)))
  · rintro k v ρ H' hv ⟨q, x3, x4, x5, x6, rfl, hp, hq, hge⟩
    obtain ⟨e, he, rfl⟩ := Kl hv
    have ho := hok e (List.mem_of_getElem? he)
    have hokk : okT n (E.take k) := fun f hf => hok f (List.mem_of_mem_take hf)
    have hlen := Tt n _ hokk
    generalize hL : Tf n (E.take k) = L at hq hlen
    have h1 := Kk (sc := sc) (p := e.1) hq (by exact Iv ho.1 (Eq.symm hlen))
    have h3 := Kk (sc := sc) (p := e.2) hq (by exact Iv ho.2 (Eq.symm hlen))
    refine Ag (Ak (A6 (Ap (A5 rfl) (A5 rfl) h1) (A6 (Ap (A5 rfl) (A5 rfl) h3) A7)) A25)
      (Ag (Ak (A6 (Ap (A5 rfl) (A5 rfl) h1) (A6 (Ap (A5 rfl) (A5 rfl) h3) A7)) A2o)
      (Ag (Eb (Em (A5 rfl) hq) (I6 (f := fun l => Am (if l = max (L.getD e.1 0) (L.getD e.2 0) then min (L.getD e.1 0) (L.getD e.2 0) else l)) (Sk hq) L fun l _ => ?_) (Au (by rw [List.length_map]; (first | lia | omega))))
      (Bt ⟨⟨_, _, _, _, _, rfl, hp.trans (Ad _ _), ?_, hp.length_le⟩, Ab (hp.trans (Ad _ _)) hT⟩)))
    · refine Eh ?_
      by_cases h : l = max (L.getD e.1 0) (L.getD e.2 0)
      · rw [if_pos h]; exact A4c (As (A5 rfl) (A5 rfl) (eqT (by rw [← h]))) (A5 rfl)
      · rw [if_neg h]; exact A43 (As (A5 rfl) (A5 rfl) (eqF (fun q => h (Int.ofNat.inj q)))) (A5 rfl)
    · rw [Ae, List.take_add_one, he, show (some e).toList = [e] from rfl, Yi, hL, Dt, List.map_map]; rfl
  · rintro ρ H' ⟨q, x3, x4, x5, x6, rfl, hp, hq, hge⟩
    rw [List.length_map, List.take_length] at hq
    exact Az (A5 rfl) ⟨q, rfl, hq, hp, hge⟩
end
end Mine
namespace Mine
open PySem
noncomputable def lst (S : List Nat) : Nat := match S.getLast? with
  | none => 0
  | some x => x + 1
noncomputable def ext (M : Nat) (S : List Nat) : List (List Nat) := (List.range (M - lst S)).map fun k => S ++ [lst S + k]
theorem C5 (S : List Nat) (x : Nat) : lst (S ++ [x]) = x + 1 := by unfold lst; rw [List.getLast?_concat]
theorem Do (S : List Nat) : S = [] ∨ ∃ T x, S = T ++ [x] := by
  by_cases h : S = []
  · exact .inl h
  · exact .inr ⟨S.dropLast, S.getLast h, (List.dropLast_concat_getLast h).symm⟩
theorem Mb (S : List Nat) (x : Nat) : up (S ++ [x]) = up S ++ [x + 1] := by unfold up; rw [List.map_append]; rfl
theorem A8i {S : List Nat} (h : S ≠ []) : lst (up S) = lst S + 1 := by
  obtain h | ⟨T, x, rfl⟩ := Do S
  · contradiction
  · rw [Mb, C5, C5]
theorem A5i (S : List Nat) : lst (up0 S) = lst S + 1 := by
  obtain rfl | ⟨T, x, rfl⟩ := Do S
  · rfl
  · unfold up0
    rw [Mb, ← List.cons_append, C5, C5]
theorem A8k {M : Nat} {S : List Nat} (h : S ≠ []) : ext (M + 1) (up S) = (ext M S).map up := by
  unfold ext
  rw [A8i h, List.map_map, show M + 1 - (lst S + 1) = M - lst S by exact Ry _ _]
  refine List.map_congr_left fun k _ => ?_
  simp only [Function.comp, Mb]
  congr 2; exact Nat.add_right_comm _ _ _
theorem A5w (M : Nat) (S : List Nat) : ext (M + 1) (up0 S) = (ext M S).map up0 := by
  unfold ext
  rw [A5i, List.map_map, show M + 1 - (lst S + 1) = M - lst S by exact Ry _ _]
  refine List.map_congr_left fun k _ => ?_
  simp only [Function.comp, up0, Mb, List.cons_append]
  congr 3; exact Nat.add_right_comm _ _ _
theorem Jd {α β : Type} {f g : α → List β} {l : List α} (h : ∀ a ∈ l, f a = g a) : l.flatMap f = l.flatMap g := by
  rw [List.flatMap, List.flatMap, List.map_congr_left h]
theorem T6 {α β γ : Type} (f : β → γ) (g : α → List β) (l : List α) : (l.flatMap g).map f = l.flatMap fun a => (g a).map f := List.map_flatMap
theorem Gu : ∀ (M K : Nat), D3 M (K + 1) = (D3 M K).flatMap (ext M)
  | 0, 0 => rfl
  | 0, K + 1 => by rw [F5, F5]; rfl
  | M + 1, 0 => by
    rw [D8, Cl, Cl, Gu M 0, Cl]
    show [[0]] ++ ((ext M [] ++ []).map up) = ext (M + 1) [] ++ []
    rw [List.append_nil, List.append_nil]
    unfold ext
    show _ = (List.range (M + 1)).map _
    rw [List.range_succ_eq_map, List.map_cons, List.map_map, List.map_map]
    show [[0]] ++ _ = [[0]] ++ _
    congr 1
  | M + 1, K + 1 => by
    rw [D8, Gu M K, Gu M (K + 1), D8, List.flatMap_append, T6, T6, List.flatMap_map, List.flatMap_map]
    congr 1
    · exact Jd fun S _ => (A5w M S).symm
    · refine Jd fun S hS => (A8k fun e => ?_).symm
      have := (Et hS).len
      rw [e] at this; cases this
inductive Fa (H : A0) : List Nat → List (List Nat) → Prop
  | nil : Fa H [] []
  | cons {q : Nat} {qs : List Nat} {S : List Nat} {Ss : List (List Nat)} (h : H[q]? = some (.list (S.map Am))) (r : Fa H qs Ss) : Fa H (q :: qs) (S :: Ss)
theorem Fa.grow {H H' : A0} (p : H <+: H') {qs : List Nat} {Ss : List (List Nat)} (f : Fa H qs Ss) : Fa H' qs Ss := by
  induction f with
  | nil => exact .nil
  | cons h _ ih => exact .cons (Ab p h) ih
theorem Fa.app {H : A0} {qs ps : List Nat} {Ss Ts : List (List Nat)} (f : Fa H qs Ss) (t : Fa H ps Ts) : Fa H (qs ++ ps) (Ss ++ Ts) := by
  induction f with
  | nil => exact t
  | cons h _ ih => exact .cons h ih
theorem Fa.length {H : A0} {qs : List Nat} {Ss : List (List Nat)} (f : Fa H qs Ss) : qs.length = Ss.length := by
  induction f with
  | nil => rfl
  | cons _ _ ih => rw [List.length_cons, List.length_cons, ih]
theorem Fa.get {H : A0} {qs : List Nat} {Ss : List (List Nat)} (f : Fa H qs Ss) {i q : Nat} (e : qs[i]? = some q) : ∃ S, Ss[i]? = some S ∧ H[q]? = some (.list (S.map Am)) := by
  induction f generalizing i with
  | nil => cases e
  | cons h _ ih => cases i with
    | zero => cases e; exact ⟨_, rfl, h⟩
    | succ i => exact ih e
theorem X9 {H : A0} {d : Nat} : ∀ (F : List Nat), (F.map Am).mapM (rd H d) = some (F.map fun (p : Nat) => PyData.int p)
  | [] => rfl
  | x :: F => by
    rw [List.map_cons, List.mapM_cons, X9 F]
    cases d <;> rfl
theorem Xk {H : A0} {r d : Nat} {F : List Nat} (h : H[r]? = some (.list (F.map Am))) : rd H (d + 1) (.ref r) = some (.list (F.map fun (p : Nat) => PyData.int p)) := by
  unfold rd
  simp only [h, X9]; rfl
theorem Ll : ∀ (F G : List Nat), PyData.eqvAll (F.map fun (p : Nat) => PyData.int p) (G.map fun (p : Nat) => PyData.int p) = decide (F = G)
  | [], [] => rfl
  | [], y :: G => rfl
  | x :: F, [] => rfl
  | x :: F, y :: G => by
    simp only [List.map_cons, PyData.eqvAll, Ll F G]
    have : PyData.eqv (.int (x : Int)) (.int (y : Int)) = decide (x = y) := by
      show ((x : Int) == (y : Int)) = _
      by_cases h : x = y
      · subst h; simp
      · rw [decide_eq_false h]; exact beq_eq_false_iff_ne.mpr fun e => h (Int.ofNat.inj e)
    rw [this]
    by_cases h : x = y <;> by_cases g : F = G <;> simp [h, g]
theorem Qg {H : A0} {r q : Nat} {F G : List Nat} (h : H[r]? = some (.list (F.map Am))) (h' : H[q]? = some (.list (G.map Am))) : Kq (.ref r) (.ref q) H = some (decide (F = G)) := by
  unfold Kq
  rw [Xk (d := 7) h, Xk (d := 7) h']
  simp only
  rw [show PyData.eqv (.list (F.map fun (p : Nat) => PyData.int p)) (.list (G.map fun (p : Nat) => PyData.int p)) = PyData.eqvAll (F.map fun (p : Nat) => PyData.int p) (G.map fun (p : Nat) => PyData.int p) from rfl, Ll]
section
variable {strF : Bi} {sc : List Int} {P : Nat → Option FnI} {H H0 : A0} {n m : Nat} {ρ : A8} {cf : Nat → List AV → A0 → Res AV} {N : A8 → A0 → Prop} {R : AV → A0 → Prop}
inductive A6p (H : A0) (F : List Nat) (o : Option AV) (H' : A0) : Prop
  | mk (q : Nat) (ho : o = some (.ref q)) (hq : H'[q]? = some (.list (F.map Am))) (hp : H <+: H') (hge : H.length ≤ q) : A6p H F o H'
inductive A74 (H : A0) (Ss : List (List Nat)) (out : List AV) (H' : A0) : Prop
  | mk (qs : List Nat) (ho : out = qs.map .ref) (hf : Fa H' qs Ss) (hp : H <+: H') (hq : ∀ q ∈ qs, H.length ≤ q) : A74 H Ss out H'
theorem Q7 {α : Type} {g : α → AV} {f : α → List Nat} {ws : List (Nat × List AV)} {step : AV → A0 → Res (Option AV)} (hw : ∀ w ∈ ws, H0[w.1]? = some (.list w.2)) : ∀ (l : List α) {H : A0}, H0 <+: H →
    (∀ a ∈ l, ∀ H, H0 <+: H → (step (g a) H).sat (A6p H (f a))) → (Bh ws step (l.map g) H).sat (A74 H (l.map f))
  | [], H, p, _ => ⟨[], rfl, .nil, List.prefix_rfl, fun q hq => by cases hq⟩
  | a :: l, H, p, h => by
    refine bC fun hno => ?_
    obtain ⟨o, H1, e1, q, rfl, hq, hp, hge⟩ := Res.sat_ex (h a List.mem_cons_self H p)
    obtain ⟨out, H2, e2, qs, rfl, hf, hp2, hqs⟩ := Res.sat_ex (Q7 hw l (p.trans hp) fun a ha => h a (List.mem_cons_of_mem _ ha))
    refine hno ?_
    rw [List.map_cons, Bh, e1]
    simp only [Res.get, R7 fun w hw' => Ab (p.trans hp) (hw w hw'), if_true, e2]
    refine ⟨q :: qs, rfl, .cons (Ab hp2 hq) hf, hp.trans hp2, fun x hx => ?_⟩
    rcases List.mem_cons.mp hx with rfl | hx
    · exact hge
    · exact Nat.le_trans hp.length_le (hqs x hx)
noncomputable def Wi : FnI := ⟨3, 3, .cons (.ret (.and (.cons (.cmp .Eq (.prim .len (.cons (.var 2) .nil)) (.bin .Sub (.var 0) (.int 1))) (.cons (.cmp .Eq (.prim .len (.cons (.call 10 (.cons (.var 0) (.cons (.comp1 (.idx (.var 2) (.var 0)) (.of (.var 2)) .none) (.cons (.int 0) .nil)))) .nil)) (.var 0)) .nil)))) .nil⟩
inductive A1b (H : A0) (p : Prop) (v : AV) (H' : A0) : Prop
  | mk (t : Bool) (hv : v = .bool t) (ht : t = true ↔ p) (hp : H <+: H') : A1b H p v H'
theorem W0 {b r q i j : Nat} {E : List (Nat × Nat)} {S : List Nat} (hT : TL H r E) (hS : H[q]? = some (.list (S.map Am))) (hl : S.length ≤ 1000) (hlt : ∀ i ∈ S, i < E.length) (ri : ρ[i]? = some (some (.ref r))) (rj : ρ[j]? = some (some (.ref q))) :
    Aa strF cf sc b (.comp1 (.idx (.var (i + 1)) (.var 0)) (.of (.var j)) .none) ρ H = .ok (.ref H.length) (H ++ [.list ((Bo E S).map Av)]) := by
  refine Eb (Em (A5 rj) hS) (I6 (f := fun k => Av (E.getD k (0, 0))) (Sk hS) S fun k hk => Eh (Ap (A5 ri) (A5 rfl) (Cy hT ?_))) ?_
  · rw [List.getD_eq_getElem?_getD, List.getElem?_eq_getElem (hlt k hk)]; rfl
  · unfold Bo
    rw [List.map_map]
    exact Au (by rw [List.length_map]; exact hl)
theorem Se (h10 : P 10 = some Sw) (h54 : P 54 = some Wi) {r q : Nat} {E : List (Nat × Nat)} {S : List Nat} (hn : n + 1 ≤ 7) (hT : TL H r E) (hok : okT (n + 1) E) (hS : H[q]? = some (.list (S.map Am))) (hl : S.length = n) (hlt : ∀ i ∈ S, i < E.length) :
    (Ah strF P sc (m + 2) 54 [.int (n + 1 : Nat), .ref r, .ref q] H).sat (A1b H (F9 (n + 1) (Bo E S))) := by
  refine bC fun hno => ?_
  obtain ⟨v, H1, e1, r1, F, rfl, hr1, hp1, hge1, nd, lt, hF⟩ := Res.sat_ex (Vb (strF := strF) (sc := sc) (m := m) (H := H ++ [.list ((Bo E S).map Av)]) (s := 0) h10 hn (Ae _ _) (G5 hok hlt) (by exact Nat.succ_pos _))
  refine hno ?_
  refine Ay h54 rfl (Az (Fw (Dm (Hb (Ak (A6 (A5 rfl) A7) (Kj hS)) (Aj (A5 rfl) Ac Cp) (eqT (by exact A9e hl)))
    (Kd (Hb (Ak (A6 (An (A6 (A5 rfl) (A6 (W0 (i := 1) (j := 2) hT hS (by exact oR0 hn hl) hlt rfl rfl) (A6 Ac A7))) e1) A7) (Eu hr1)) (A5 rfl) A0y)))) ⟨_, rfl, ?_, (Ad _ _).trans hp1⟩)
  rw [List.length_map, Ea, List.length_map, beq_iff_eq]
  constructor
  · intro h
    have hl : F.length = n + 1 := by exact A5x h
    have f := Vq nd hl lt
    intro x y hx hy
    exact (((hF x hx).mp (f x hx)).symm).trans ((hF y hy).mp (f y hy))
  · intro h
    have h1 : n + 1 ≤ F.length := A2s fun p hp => (hF p hp).mpr (h 0 p (by exact Nat.succ_pos _) hp)
    have h2 := Ie nd lt
    exact A68 (Nat.le_antisymm h2 h1)
end
end Mine
namespace Mine
open PySem
section
variable {strF : Bi} {sc : List Int} {P : Nat → Option FnI} {H H0 H1 H2 H3 : A0} {n m b : Nat} {ρ : A8} {cf : Nat → List AV → A0 → Res AV} {N : A8 → A0 → Prop} {R : AV → A0 → Prop} {K K' : AV → A0 → Prop} {x y : PE} {es : PEs} {ss : PSs} {v w : AV} {vs : List AV}
theorem Yo {q x : Nat} {T : List Nat} (h : H[q]? = some (.list ((T ++ [x]).map Am))) : Bx sc (.ref q) (.int (-1)) H = .ok (.int x) H := by
  have hl : (T.map Am ++ [Am x]).length = T.length + 1 := by rw [List.length_append, List.length_map]; rfl
  have ha : at? ((T.map Am ++ [Am x]).length) (-1) = some T.length := by
    unfold at?
    rw [hl, if_neg (by exact fun e0 => A6q e0.1), if_pos (by exact And.intro (by decide) (J6 (Nat.succ_pos _)))]
    congr 1; exact oTN (Lq _)
  rw [List.map_append] at h
  show (match items (.ref q) H with
      | some xs => (match at? xs.length (-1) with
        | some j => (match xs[j]? with | some x => Res.ok x H | none => .bad)
        | none => .bad)
      | none => .bad) = _
  rw [Ou, h]
  show (match at? (T.map Am ++ [Am x]).length (-1) with
        | some j => (match (T.map Am ++ [Am x])[j]? with | some x => Res.ok x H | none => .bad)
        | none => .bad) = _
  rw [ha]
  show (match (T.map Am ++ [Am x])[T.length]? with | some x => Res.ok x H | none => .bad) = _
  rw [show (T.map Am ++ [Am x])[T.length]? = some (Am x) by rw [List.getElem?_append_right (by rw [List.length_map]; exact Nat.le_refl _), List.length_map, Nat.sub_self]; rfl]
  rfl
theorem A4z {r q : Nat} {F G : List Nat} (hr : H[r]? = some (.list (F.map Am))) (hq : H[q]? = some (.list (G.map Am))) (hl : F.length + G.length ≤ 1000) : Bg .Add (.ref r) (.ref q) H = .ok (.ref H.length) (H ++ [.list ((F ++ G).map Am)]) := by
  rw [Ow, hr, hq, List.map_append]
  exact Au (by rw [List.length_append, List.length_map, List.length_map]; exact hl)
theorem A41 {M k : Nat} {S : List Nat} (h : Ris M k S) : lst S ≤ M := by
  obtain rfl | ⟨T, x, rfl⟩ := Do S
  · exact Nat.zero_le _
  · rw [C5]; exact h.lt x (by simp)
end
end Mine
namespace Mine
open PySem
section
variable {strF : Bi} {sc : List Int} {P : Nat → Option FnI} {H H0 H1 H2 H3 : A0} {n m b : Nat} {ρ : A8} {cf : Nat → List AV → A0 → Res AV} {N : A8 → A0 → Prop} {R : AV → A0 → Prop} {K K' : AV → A0 → Prop} {x y : PE} {es : PEs} {ss : PSs} {v w : AV} {vs : List AV}
theorem A4k {p : Prop} : @decide p (Classical.propDecidable _) = true ↔ p := ⟨fun h => @of_decide_eq_true _ (Classical.propDecidable _) h, fun h => @decide_eq_true _ (Classical.propDecidable _) h⟩
end
end Mine
namespace Mine
open PySem
section
variable {strF : Bi} {sc : List Int} {P : Nat → Option FnI} {H H0 H1 H2 H3 : A0} {n m b : Nat} {ρ : A8} {cf : Nat → List AV → A0 → Res AV} {N : A8 → A0 → Prop} {R : AV → A0 → Prop} {K K' : AV → A0 → Prop} {x y : PE} {es : PEs} {ss : PSs} {v w : AV} {vs : List AV}
noncomputable def Wn : FnI := ⟨3, 5, .cons (.ite (.or (.cons (.not (.prim .isList (.cons (.var 2) .nil))) (.cons (.cmp .NotEq (.prim .len (.cons (.var 2) .nil)) (.bin .Sub (.var 0) (.int 1))) .nil))) (.cons (.ret (.bool false)) .nil) .nil) (.cons (.assign 3 (.neg (.int 1))) (.cons (.for1 4 (.of (.var 2)) (.cons (.ite (.not (.call 0 (.cons (.var 4) (.cons (.bin .Add (.var 3) (.int 1)) (.cons (.bin .Sub (.prim .len (.cons (.var 1) .nil)) (.int 1)) .nil))))) (.cons (.ret (.bool false)) .nil) .nil) (.cons (.assign 3 (.var 4)) .nil))) (.cons (.ret (.cmp .Eq (.prim .max1 (.cons (.call 2 (.cons (.var 0) (.cons (.comp1 (.idx (.var 2) (.var 0)) (.of (.var 2)) .none) .nil))) .nil)) (.int 0))) .nil)))⟩
inductive IsH (H : A0) (n : Nat) (E : List (Nat × Nat)) (v : AV) : Prop
  | mk (q : Nat) (S : List Nat) (hv : v = .ref q) (hq : H[q]? = some (.list (S.map Am))) (hr : Ris E.length n S) (hc : F9 (n + 1) (Bo E S)) : IsH H n E v
inductive Ask (H : A0) (v : AV) : Prop
  | other (h : Gm v H = some false) (h' : ∀ q xs, v = .ref q → H[q]? ≠ some (.list xs)) : Ask H v
  | list (q : Nat) (xs : List AV) (hv : v = .ref q) (hq : H[q]? = some (.list xs)) (hx : ∀ x ∈ xs, R4 x = true) : Ask H v
theorem Jf : ∀ (F : List Nat) (a : Nat), (F.map fun (p : Nat) => (p : Int)).foldl max (a : Int) = 0 ↔ a = 0 ∧ ∀ x ∈ F, x = 0
  | [], a => by
    show ((a : Int) = 0) ↔ _
    exact ⟨fun h => ⟨by exact A5x h, fun x hx => by cases hx⟩, fun h => by rw [h.1]; rfl⟩
  | x :: F, a => by
    rw [List.map_cons, List.foldl_cons, show max (a : Int) (x : Int) = ((max a x : Nat) : Int) by exact A6l _ _, Jf F]
    constructor
    · intro h
      refine ⟨(Aac h.1).1, fun y hy => ?_⟩
      rcases List.mem_cons.mp hy with rfl | hy
      · exact (Aac h.1).2
      · exact h.2 y hy
    · intro h
      have := h.2 x List.mem_cons_self
      exact ⟨by rw [h.1, this]; rfl, fun y hy => h.2 y (List.mem_cons_of_mem _ hy)⟩
inductive A9g (strF : Bi) (sc : List Int) (H : A0) (r : Nat) (F : List Nat) : Prop
  | mk (M : Int) (e : prim strF sc .max1 [.ref r] H = .ok (.int M) H) (h : M = 0 ↔ ∀ x ∈ F, x = 0) : A9g strF sc H r F
theorem A37 {r : Nat} {F : List Nat} (h : H[r]? = some (.list (F.map Am))) (hF : 0 < F.length) : A9g strF sc H r F := by
  cases F with
  | nil => cases hF
  | cons a F =>
    refine ⟨(F.map fun (p : Nat) => (p : Int)).foldl max (a : Int), ?_, ?_⟩
    · show (match (match H[r]? with
          | some (.list xs) => (match Bc xs with
              | some (i :: is) => Res.ok (AV.int (is.foldl max i)) H
              | _ => .bad)
          | _ => .bad) with | r => r) = _
      rw [h]
      show (match Bc ((a :: F).map Am) with
              | some (i :: is) => Res.ok (AV.int (is.foldl max i)) H
              | _ => .bad) = _
      rw [C2]; rfl
    · rw [Jf]
      constructor
      · intro h x hx
        rcases List.mem_cons.mp hx with rfl | hx
        · exact h.1
        · exact h.2 x hx
      · intro h
        exact ⟨h a List.mem_cons_self, fun x hx => h x (List.mem_cons_of_mem _ hx)⟩
inductive IhI (H : A0) (n r q : Nat) (E : List (Nat × Nat)) (xs : List AV) (k : Nat) (ρ : A8) (H' : A0) : Prop
  | mk (S : List Nat) (x4 : Option AV) (hρ : ρ = [some (.int (n + 1 : Nat)), some (.ref r), some (.ref q), some (.int ((lst S : Int) - 1)), x4]) (hH : H' = H) (hS : xs.take k = S.map Am) (hr : Ris E.length S.length S) : IhI H n r q E xs k ρ H'
theorem U2 {M : Nat} {S : List Nat} {x : Nat} (h : Ris M S.length S) (h1 : lst S ≤ x) (h2 : x < M) : Ris M (S ++ [x]).length (S ++ [x]) := by
  refine ⟨rfl, fun i hi => ?_, List.pairwise_append.mpr ⟨h.pw, List.pairwise_singleton _ _, fun a ha c hc => ?_⟩⟩
  · rcases List.mem_append.mp hi with hi | hi
    · exact h.lt i hi
    · simp at hi; exact Nv hi h2
  · simp at hc; subst hc
    obtain rfl | ⟨T, y, rfl⟩ := Do S
    · cases ha
    · rw [C5] at h1
      rcases List.mem_append.mp ha with ha | ha
      · have := (List.pairwise_append.mp h.pw).2.2 a ha y (by simp); exact Ew this h1
      · simp at ha; exact Nv ha h1
theorem A00 {M k : Nat} {S T : List Nat} {x : Nat} (h : Ris M k (S ++ x :: T)) : lst S ≤ x ∧ x < M := by
  refine ⟨?_, h.lt x (by simp)⟩
  obtain rfl | ⟨U, y, rfl⟩ := Do S
  · exact Nat.zero_le _
  · rw [C5]
    exact (List.pairwise_append.mp h.pw).2.2 y (by simp) x (by simp)
theorem T5 {F G : List Nat} (h : F.map Am = G.map Am) : F = G := by
  induction F generalizing G with
  | nil => cases G with
    | nil => rfl
    | cons y G => cases h
  | cons x F ih =>
    cases G with
    | nil => cases h
    | cons y G =>
      rw [List.map_cons, List.map_cons] at h
      injection h with h1 h2
      injection h1 with h1
      rw [ih h2, Int.ofNat.inj h1]
theorem Mk (h0 : P 0 = some Ue) (h2 : P 2 = some Vx) (h25 : P 25 = some Wn) {r : Nat} {E : List (Nat × Nat)} (hn : n + 1 ≤ 7) (hT : TL H r E) (hok : okT (n + 1) E) (hv : Ask H v) :
    (Ah strF P sc (m + 2) 25 [.int (n + 1 : Nat), .ref r, v] H).sat (A1b H (IsH H n E v)) := by
  refine Ay h25 rfl ?_
  cases hv with
  | other h h' =>
    exact Bn (Pe (Wt (A1q (Ft (A6 (A5 rfl) A7) (D2 h))))) (Az Kx ⟨false, rfl, ⟨fun h => (by cases h), fun i => by obtain ⟨q, S, rfl, hq, _⟩ := i; exact absurd hq (h' q _ rfl)⟩, List.prefix_rfl⟩)
  | list q xs hv hq hx =>
    subst hv
    have e1 : ((n + 1 : Nat) : Int) - 1 = (n : Int) := by exact Lq _
    by_cases hl : xs.length = n
    · refine B0 (Pe (Bf (Cu (Ft (A6 (A5 rfl) A7) (D2 (Iq hq)))) (Bf (As (Ak (A6 (A5 rfl) A7) (Eu hq)) (Aj (A5 rfl) Ac Cp) (neF (by exact A9e hl))) I1)))
        (Ag (A0f Ac) (E5 (Em (A5 rfl) hq) (El (IhI H n r q E xs) ⟨[], _, rfl, rfl, rfl, ⟨rfl, fun i hi => (by cases hi), .nil⟩⟩ ?_ ?_)))
      · rintro k x ρ H' hk ⟨S, x4, rfl, rfl, hS, hr⟩
        obtain ⟨t, e, am⟩ := Kr (strF := strF) (sc := sc) (m := m) (H := H') (lo := (lst S : Int)) (hi := (E.length : Int) - 1) h0 (hx x (List.mem_of_getElem? hk))
        have e2 : (lst S : Int) - 1 + 1 = (lst S : Int) := by exact Int.sub_add_cancel _ _
        have e3 : Bg .Add (.int ((lst S : Int) - 1)) (.int 1) H' = .ok (.int (lst S)) H' := by rw [Di, e2]
        cases am with
        | yes i hv h1 h2 ht =>
          subst ht hv
          obtain ⟨j, rfl⟩ : ∃ j : Nat, i = j := ⟨i.toNat, by exact Qm (Int.le_trans (oNN _) h1)⟩
          refine B0 (Cu (Ht (A6 (A5 rfl) (A6 (Aj (A5 rfl) Ac e3) (A6 (Aj (Ak (A6 (A5 rfl) A7) (Cv hT)) Ac Cp) A7))) e)) (Ag (A5 rfl) (Bt ⟨⟨S ++ [j], some (.int j), ?_, rfl, ?_, U2 hr (by exact A8o h1) (by (first | lia | omega))⟩, hq⟩))
          · rw [C5, show (((j + 1 : Nat) : Int) - 1) = (j : Int) by exact Lq _]; rfl
          · rw [List.take_add_one, hk, hS, List.map_append]; rfl
        | no h ht =>
          subst ht
          refine Bn (A1q (Ht (A6 (A5 rfl) (A6 (Aj (A5 rfl) Ac e3) (A6 (Aj (Ak (A6 (A5 rfl) A7) (Cv hT)) Ac Cp) A7))) e)) (Az Kx ⟨false, rfl, ⟨fun h => (by cases h), fun i => ?_⟩, List.prefix_rfl⟩)
          obtain ⟨q', S', hv', hq', hr', _⟩ := i
          cases hv'
          rw [hq] at hq'
          injection hq' with hq'
          injection hq' with hq'
          have hsplit : xs = S.map Am ++ x :: xs.drop (k + 1) := by
            rw [← hS]
            conv => lhs; rw [← List.take_append_drop k xs]
            rw [List.drop_eq_getElem_cons (List.getElem?_eq_some_iff.mp hk).1, (List.getElem?_eq_some_iff.mp hk).2]
          rw [hq'] at hsplit
          obtain ⟨A, B, rfl, hA, hB⟩ := List.map_eq_append_iff.mp hsplit
          cases B with
          | nil => cases hB
          | cons y B =>
            rw [List.map_cons] at hB
            injection hB with hB1 hB2
            have := T5 hA; subst this
            have := A00 hr'
            exact absurd ⟨by exact P0 this.1, by (first | lia | omega)⟩ (h y hB1.symm)
      · rintro ρ H' ⟨S, x4, rfl, rfl, hS, hr⟩
        rw [List.take_length] at hS
        subst hS
        rw [List.length_map] at hl
        have hlt := hr.lt
        have hokp := G5 hok hlt
        obtain ⟨v, H1, e1, r1, rfl, hr1, hp1, hg1⟩ := Res.sat_ex (Hj (strF := strF) (sc := sc) (m := m) (H := H' ++ [.list ((Bo E S).map Av)]) h2 hn (Ae _ _) hokp)
        have hlab := Jq hokp
        obtain ⟨M, e2, hM⟩ := A37 (strF := strF) (sc := sc) hr1 (by rw [hlab.len]; exact Nat.succ_pos _)
        refine Az (Hb (Ak (A6 (An (A6 (A5 rfl) (A6 (W0 (i := 1) (j := 2) hT hq (by exact oR0 hn hl) hlt rfl rfl) A7)) e1) A7) e2) Ac A0y) ⟨_, rfl, ?_, (Ad _ _).trans hp1⟩
        rw [beq_iff_eq, hM, ← Sh hlab (by exact Nat.succ_pos _)]
        constructor
        · intro c; exact ⟨q, S, rfl, hq, hl ▸ hr, c⟩
        · intro i
          obtain ⟨q', S', hv', hq', hr', hc'⟩ := i
          cases hv'
          rw [hq] at hq'
          injection hq' with hq'
          injection hq' with hq'
          rw [T5 hq']; exact hc'
    · refine Bn (Pe (Bf (Cu (Ft (A6 (A5 rfl) A7) (D2 (Iq hq)))) (Wt (As (Ak (A6 (A5 rfl) A7) (Eu hq)) (Aj (A5 rfl) Ac Cp) (neT (by exact Abn hl)))))) (Az Kx ⟨false, rfl, ⟨fun h => (by cases h), fun i => ?_⟩, List.prefix_rfl⟩)
      obtain ⟨q', S', hv', hq', hr', _⟩ := i
      cases hv'
      rw [hq] at hq'
      injection hq' with hq'
      injection hq' with hq'
      rw [hq', List.length_map] at hl
      exact absurd hr'.len hl
end
end Mine
namespace Mine
open PySem
noncomputable def A2q : FnI := ⟨2, 4, .cons (.ite (.cmp .Eq (.idx (.idx (.var 1) (.int 0)) (.int 0)) (.idx (.idx (.var 1) (.int 0)) (.int 1))) (.cons (.ret (.int 0)) .nil) .nil) (.cons (.assigns [2, 3] (.call 17 (.cons (.var 0) (.cons (.var 1) (.cons (.int 0) .nil))))) (.cons (.ret (.call 23 (.cons (.var 2) (.cons (.var 3) .nil)))) .nil))⟩
noncomputable def A15 : FnI := ⟨3, 7, .cons (.expr (.call 1 (.cons (.var 0) (.cons (.var 1) .nil)))) (.cons (.ite (.not (.call 0 (.cons (.var 2) (.cons (.int 0) (.cons (.bin .Sub (.call 23 (.cons (.var 0) (.cons (.var 1) .nil))) (.int 1)) .nil))))) (.cons (.raise 5 "no hanging has that number") .nil) .nil) (.cons (.assign 3 (.list .nil)) (.cons (.assign 4 (.prim .list (.cons (.var 1) .nil))) (.cons (.for1 5 (.range1 (.prim .len (.cons (.var 1) .nil))) (.cons (.assign 6 (.call 29 (.cons (.var 0) (.cons (.var 4) .nil)))) (.cons (.ite (.cmp .Lt (.var 2) (.var 6)) (.cons (.expr (.append (.var 3) (.var 5))) (.cons (.assigns [0, 4] (.call 17 (.cons (.var 0) (.cons (.var 4) (.cons (.int 0) .nil))))) .nil)) (.cons (.assign 2 (.bin .Sub (.var 2) (.var 6))) (.cons (.assign 4 (.slice (.var 4) (.some (.int 1)) .none)) .nil))) .nil))) (.cons (.ret (.var 3)) .nil)))))⟩
noncomputable def A2m : FnI := ⟨3, 6, .cons (.expr (.call 1 (.cons (.var 0) (.cons (.var 1) .nil)))) (.cons (.ite (.not (.call 25 (.cons (.var 0) (.cons (.var 1) (.cons (.var 2) .nil))))) (.cons (.raise 4 "no hanging") .nil) .nil) (.cons (.assign 3 (.int 0)) (.cons (.assign 4 (.prim .list (.cons (.var 1) .nil))) (.cons (.for1 5 (.range1 (.prim .len (.cons (.var 1) .nil))) (.cons (.ite (.cmp .In (.var 5) (.var 2)) (.cons (.assigns [0, 4] (.call 17 (.cons (.var 0) (.cons (.var 4) (.cons (.int 0) .nil))))) .nil) (.cons (.assign 3 (.bin .Add (.var 3) (.call 29 (.cons (.var 0) (.cons (.var 4) .nil))))) (.cons (.assign 4 (.slice (.var 4) (.some (.int 1)) .none)) .nil))) .nil)) (.cons (.ret (.var 3)) .nil)))))⟩
structure DefsT (P : Nat → Option FnI) : Prop where
  h0 : P 0 = some Ue
  h1 : P 1 = some A2v
  h19 : P 19 = some La
  h20 : P 20 = some Mr
  h21 : P 21 = some Os
  h23 : P 23 = some Ul
structure Wv (P : Nat → Option FnI) : Prop extends DefsT P where
  h2 : P 2 = some Vx
  h14 : P 14 = some Pi
  h16 : P 16 = some Pr
  h17 : P 17 = some Ta
  h25 : P 25 = some Wn
  h29 : P 29 = some A2q
  h30 : P 30 = some A15
  h31 : P 31 = some A2m
section
variable {strF : Bi} {sc : List Int} {P : Nat → Option FnI} {H H0 H1 H2 H3 : A0} {n m b : Nat} {ρ : A8} {cf : Nat → List AV → A0 → Res AV} {N : A8 → A0 → Prop} {R : AV → A0 → Prop} {K K' : AV → A0 → Prop} {x y : PE} {es : PEs} {ss : PSs} {v w : AV} {vs : List AV}
theorem Rs (D : DefsT P) {r : Nat} {E : List (Nat × Nat)} (hn : n + 1 ≤ 7) (hT : TL H r E) (hl : E.length ≤ 100) (hok : okT (n + 1) E) : (Ah strF P sc (m + 3) 23 [.int (n + 1 : Nat), .ref r] H).sat (T0 H (tau (n + 1) E)) :=
  Fd D.h19 D.h20 D.h21 D.h23 hn hT (by exact Nat.le_trans hl (by decide)) hok
theorem W7 (D : DefsT P) {r : Nat} {E : List (Nat × Nat)} (hn : n + 1 ≤ 7) (hT : TL H r E) (hl : E.length ≤ 16) (hok : okT (n + 1) E) : Ah strF P sc (m + 2) 1 [.int (n + 1 : Nat), .ref r] H = .ok .none H :=
  Kn D.h0 D.h1 (by exact Nat.succ_pos _) hn hT hl hok
theorem Yz (D : DefsT P) {x lo hi : Int} (h1 : lo ≤ x) (h2 : x ≤ hi) : Ah strF P sc (m + 1) 0 [.int x, .int lo, .int hi] H = .ok (.bool true) H := by
  obtain ⟨t, e, h⟩ := Kr (strF := strF) (sc := sc) (m := m) (H := H) (v := .int x) (lo := lo) (hi := hi) D.h0 rfl
  cases h with
  | yes i hv q1 q2 ht => rw [e, ht]
  | no h ht => exact absurd ⟨h1, h2⟩ (h x rfl)
theorem T8 {r i : Nat} {E : List (Nat × Nat)} {e : Nat × Nat} {z : PE} {j : Nat} (hT : TL H r E) (he : E[i]? = some e) (hj : ρ[j]? = some (some (.ref r))) (hz : Aa strF cf sc b z ρ H = .ok (.int i) H) :
    Bp strF cf sc b (.cmp .Eq (.idx (.idx (.var j) z) (.int 0)) (.idx (.idx (.var j) z) (.int 1))) ρ H = .ok (decide (e.1 = e.2)) H := by
  have it := Cy (sc := sc) hT he
  refine As (Ap (Ap (A5 hj) hz it) Ac G8) (Ap (Ap (A5 hj) hz it) Ac Gb) ?_
  by_cases h : e.1 = e.2
  · rw [decide_eq_true h]; exact eqT (by rw [h])
  · rw [decide_eq_false h]; exact eqF fun q => h (Int.ofNat.inj q)
theorem Qf (D : Wv P) {r : Nat} {E : List (Nat × Nat)} {e : Nat × Nat} (hn : n + 1 ≤ 7) (hT : TL H r (e :: E)) (hl : E.length < 100) (hok : okT (n + 1) (e :: E)) : (Ah strF P sc (m + 4) 29 [.int (n + 1 : Nat), .ref r] H).sat (T0 H (Lc n (e :: E))) := by
  refine Ay D.h29 rfl ?_
  have tt := T8 (strF := strF) (sc := sc) (cf := Ah strF P sc (m + 3)) (b := H.length) (i := 0) (j := 1) (z := .int 0) (ρ := [some (.int (n + 1 : Nat)), some (.ref r), none, none]) hT rfl rfl Ac
  by_cases h : e.1 = e.2
  · rw [decide_eq_true h] at tt
    exact Bn tt (Az Ac ⟨by rw [Lc, if_pos h], List.prefix_rfl⟩)
  · refine bC fun hno => ?_
    rw [decide_eq_false h] at tt
    have he := hok e List.mem_cons_self
    obtain ⟨k, rfl⟩ : ∃ k, n = k + 1 := ⟨n - 1, by exact Ab2 h he⟩
    obtain ⟨v, H1, e1, r1, rfl, hT1, hp1, hg1⟩ := Res.sat_ex (Gg (strF := strF) (sc := sc) (m := m + 1) (n := k + 1) (i := 0) (e := e) D.h14 D.h16 D.h17 hT (by rw [List.length_cons]; exact hl) rfl)
    obtain ⟨v, H2, e2, rfl, hp2⟩ := Res.sat_ex (Rs (strF := strF) (sc := sc) (m := m) D.toDefsT (n := k) (by exact Nat.le_of_lt hn) hT1 (by rw [Bb, List.eraseIdx_cons_zero]; exact Nat.le_of_lt hl) (Dw h hok))
    refine hno ?_
    exact B0 tt (Ek (An (A6 (A5 rfl) (A6 (A5 rfl) (A6 Ac A7))) e1) rfl (Az (An (A6 (A5 rfl) (A6 (A5 rfl) A7)) e2) ⟨by rw [Lc, if_neg h]; rfl, hp1.trans hp2⟩))
inductive HoI (H0 : A0) (r k : Nat) (S : List Nat) (t : Nat) (ρ : A8) (H : A0) : Prop
  | mk (n j rf rl : Nat) (F S' : List Nat) (L : List (Nat × Nat)) (x5 x6 : Option AV) (hρ : ρ = [some (.int (n + 1 : Nat)), some (.ref r), some (.int j), some (.ref rf), some (.ref rl), x5, x6]) (hp : H0 <+: H) (hf : H[rf]? = some (.list (F.map Am))) (hT : TL H rl L)
    (hge : H0.length ≤ rf) (hne : rf ≠ rl) (hn : n + 1 ≤ 7) (hok : okT (n + 1) L) (hl : L.length + t = k) (hS' : (Bz L.length n L)[j]? = some S') (hS : S = F ++ Fx t S') (hF : F.length ≤ t) : HoI H0 r k S t ρ H
theorem Ox {r : Nat} {xs : List AV} (h : H[r]? = some (.list xs)) (hl : xs.length ≤ 1000) : prim strF sc .list [.ref r] H = .ok (.ref H.length) (H ++ [.list xs]) := by
  rw [Rg, Ou, h]; exact Au hl
theorem A8t {r q : Nat} {o p : Bw} (h : H[r]? = some o) (hne : q ≠ r) : (H.set q p)[r]? = some o := by rw [List.getElem?_set_ne hne]; exact h
theorem A3l {r : Nat} {o : Bw} (h : H[r]? = some o) : r < H.length := (List.getElem?_eq_some_iff.mp h).1
theorem O4 (D : Wv P) {r j : Nat} {E : List (Nat × Nat)} {S : List Nat} (hn : n + 1 ≤ 7) (hT : TL H r E) (hl : E.length ≤ 16) (hok : okT (n + 1) E) (hS : (Bz E.length n E)[j]? = some S) :
    (Ah strF P sc (m + 5) 30 [.int (n + 1 : Nat), .ref r, .int j] H).sat (A0m H S) := by
  refine bC fun hno => ?_
  have hj : (j : Int) < tau (n + 1) E := by rw [← G4 E.length rfl hok]; exact Int.ofNat_lt.mpr (List.getElem?_eq_some_iff.mp hS).1
  obtain ⟨v, H1, e1, rfl, hp1⟩ := Res.sat_ex (Rs (strF := strF) (sc := sc) (m := m + 1) D.toDefsT hn hT (by exact Nat.le_trans hl (by decide)) hok)
  have hT1 : TL H1 r E := Ab hp1 hT
  have hpa := Ad H1 [.list []]
  have hpb := Ad (H1 ++ [Bw.list []]) [.list (E.map Av)]
  refine hno ?_
  refine Ay D.h30 rfl (Gs (An (A6 (A5 rfl) (A6 (A5 rfl) A7)) (W7 (m := m + 2) D.toDefsT hn hT hl hok))
    (B0 (Cu (Ht (A6 (A5 rfl) (A6 Ac (A6 (Aj (An (A6 (A5 rfl) (A6 (A5 rfl) A7)) e1) Ac Cp) A7))) (Yz D.toDefsT (by exact oNN _) (by (first | lia | omega)))))
    (Ag (Cs A7 (Au (by simp))) (Ag (Ak (A6 (A5 rfl) A7) (Ox (Ab hpa hT1) (by rw [List.length_map]; exact Nat.le_trans hl (by decide))))
    (E5 (Es (Ak (A6 (A5 rfl) A7) (Cv (Ab (hpa.trans hpb) hT1))) (E9 (by exact Nat.le_trans hl (by decide)))) (A1h (HoI H r E.length S)
      ⟨n, j, H1.length, _, [], S, E, _, _, rfl, (hp1.trans hpa).trans hpb, Ab hpb (Ae _ _), Ae _ _, hp1.length_le, by simp, hn, hok, rfl, hS, (Nw S).symm, Nat.le_refl _⟩ ?_ ?_))))))
  · rintro t ρ H2 ht ⟨n, j, rf, rl, F, S', L, x5, x6, rfl, hp, hf, hT2, hge, hne, hn, hok, hl2, hS', hS, hF⟩
    cases L with
    | nil => rw [List.length_nil] at hl2; (first | lia | omega)
    | cons e L =>
    have hll : L.length < 100 := by rw [List.length_cons] at hl2; exact Ab7 hl hl2
    obtain ⟨v, H3, e3, rfl, hp3⟩ := Res.sat_ex (Qf (strF := strF) (sc := sc) (m := m) D hn hT2 hll hok)
    refine Ag (An (A6 (A5 rfl) (A6 (A5 rfl) A7)) e3) ?_
    have hf3 := Ab hp3 hf
    have hT3 : TL H3 rl (e :: L) := Ab hp3 hT2
    cases So (k := L.length) rfl hok hS' with
    | inn hne' n' hn' hj T hT' hh =>
      refine bC fun hno => ?_
      subst hn'
      have hT4 : TL (H3.set rf (.list ((F ++ [t]).map Am))) rl (e :: L) := A8t hT3 hne
      obtain ⟨v, H4, e4, r4, rfl, hT5, hp4, hg4⟩ := Res.sat_ex (Gg (strF := strF) (sc := sc) (m := m + 2) (n := n' + 1) (i := 0) (e := e) D.h14 D.h16 D.h17 hT4 (by rw [List.length_cons]; exact hll) rfl)
      have hps : H <+: H3.set rf (.list ((F ++ [t]).map Am)) := D4 (hp.trans hp3) hge
      have hf4 := Ab hp4 (Im (o := .list ((F ++ [t]).map Am)) ⟨_, hf3⟩)
      refine hno ?_
      refine Bn (As (A5 rfl) (A5 rfl) (ltT hj)) (Gs (K2 (A5 rfl) (Rk hf3) (A5 rfl) (Mv (p := t) hf3 hge (Nat.lt_of_lt_of_le (show F.length < 100 by exact Abx hl ht hF) (by decide))))
        (Ek (An (A6 (A5 rfl) (A6 (A5 rfl) (A6 Ac A7))) e4) rfl (Bt (Bt ⟨n', j, rf, r4, F ++ [t], T, _, _, _, rfl, hps.trans hp4, hf4, hT5, hge, ?_, by exact Nat.le_of_lt hn, Dw hne' hok, ?_, ?_, ?_, ?_⟩))))
      · have := A3l (Im (o := .list ((F ++ [t]).map Am)) ⟨_, hf3⟩)
        exact Nat.ne_of_lt (Nat.lt_of_lt_of_le this hg4)
      · rw [Bb, List.eraseIdx_cons_zero]; rw [List.length_cons] at hl2; exact (Nat.add_right_comm _ _ _).symm.trans hl2
      · rw [Bb, List.eraseIdx_cons_zero]; exact hh
      · rw [hS, hT', Q6, List.append_assoc]; rfl
      · rw [List.length_append]; simp; exact hF
    | out c hc hj T hT' hh =>
      have e5 : (j : Int) - Lc n (e :: L) = ((j - c : Nat) : Int) := by rw [hc]; exact A7i hj
      refine Ux (As (A5 rfl) (A5 rfl) (ltF (by rw [hc]; exact T7 (P0 hj)))) (Ag (Aj (A5 rfl) (A5 rfl) (Cp.trans (by rw [e5]))) (Ag (D1 (A5 rfl) (E6 Ac) E4 hT3 (Ig (r := 0) (i := 1) (by rw [List.length_cons]; exact Aa2 hll) (by rw [List.length_cons]; exact Nat.succ_pos _)))
        (Bt (Bt ⟨n, j - c, rf, H3.length, F, T, L, _, _, rfl, (hp.trans hp3).trans (Ad _ _), Ab (Ad _ _) hf3, Ae _ _, hge, ?_, hn, Cm hok, ?_, hh, ?_, by exact Nat.le_succ_of_le hF⟩))))
      · exact Nat.ne_of_lt (A3l hf3)
      · rw [List.length_cons] at hl2; exact (Nat.add_right_comm _ _ _).symm.trans hl2
      · rw [hS, hT', On]
  · rintro ρ H2 ⟨n, j, rf, rl, F, S', L, x5, x6, rfl, hp, hf, hT2, hge, hne, hn, hok, hl2, hS', hS, hF⟩
    have hL : L = [] := List.length_eq_zero_iff.mp (by exact A9k hl2)
    subst hL
    have hS0 : S' = [] := by
      cases n with
      | zero =>
        rw [Dp] at hS'
        have := List.mem_of_getElem? hS'
        simpa using this
      | succ n => rw [List.length_nil, Hv] at hS'; simp at hS'
    subst hS0
    have : S = F := by rw [hS]; exact List.append_nil F
    exact Az (A5 rfl) ⟨rf, rfl, by rw [this]; exact hf, hp, hge⟩
end
end Mine
namespace Mine
open PySem
section
variable {strF : Bi} {sc : List Int} {P : Nat → Option FnI} {H H0 H1 H2 H3 : A0} {n m b : Nat} {ρ : A8} {cf : Nat → List AV → A0 → Res AV} {N : A8 → A0 → Prop} {R : AV → A0 → Prop} {K K' : AV → A0 → Prop} {x y : PE} {es : PEs} {ss : PSs} {v w : AV} {vs : List AV}
inductive NoI (H0 : A0) (r q k j0 : Nat) (S : List Nat) (t : Nat) (ρ : A8) (H : A0) : Prop
  | mk (n j acc rl : Nat) (F S' : List Nat) (L : List (Nat × Nat)) (x5 : Option AV) (hρ : ρ = [some (.int (n + 1 : Nat)), some (.ref r), some (.ref q), some (.int acc), some (.ref rl), x5]) (hp : H0 <+: H) (hT : TL H rl L)
    (hn : n + 1 ≤ 7) (hok : okT (n + 1) L) (hl : L.length + t = k) (hS' : (Bz L.length n L)[j]? = some S') (hS : S = F ++ Fx t S') (hF : ∀ x ∈ F, x < t) (ha : acc + j = j0) : NoI H0 r q k j0 S t ρ H
theorem A8q {t : Nat} {F S' : List Nat} (hF : ∀ x ∈ F, x < t) : t ∈ F ++ Fx t S' ↔ 0 ∈ S' := by
  rw [List.mem_append]
  constructor
  · rintro (h | h)
    · exact absurd (hF t h) (Nat.lt_irrefl _)
    · exact (Pn (t := t)).mp (by rw [Nat.zero_add]; exact h)
  · intro h
    have := (Pn (t := t)).mpr h
    rw [Nat.zero_add] at this
    exact .inr this
theorem inT {t q : Nat} {S : List Nat} (hq : H[q]? = some (.list (S.map Am))) (h : t ∈ S) : B4 .In (.int t) (.ref q) H = some true := by rw [A8z, L7 hq, decide_eq_true h]
theorem inF {t q : Nat} {S : List Nat} (hq : H[q]? = some (.list (S.map Am))) (h : t ∉ S) : B4 .In (.int t) (.ref q) H = some false := by rw [A8z, L7 hq, decide_eq_false h]
theorem Ix (D : Wv P) {r q j : Nat} {E : List (Nat × Nat)} {S : List Nat} (hn : n + 1 ≤ 7) (hT : TL H r E) (hl : E.length ≤ 16) (hok : okT (n + 1) E) (hq : H[q]? = some (.list (S.map Am))) (hS : (Bz E.length n E)[j]? = some S) :
    (Ah strF P sc (m + 5) 31 [.int (n + 1 : Nat), .ref r, .ref q] H).sat (T0 H j) := by
  refine bC fun hno => ?_
  have hm := List.mem_of_getElem? hS
  obtain ⟨v, H1, e1, t, rfl, ht, hp1⟩ := Res.sat_ex (Mk (strF := strF) (sc := sc) (m := m + 2) D.h0 D.h2 D.h25 hn hT hok (.list q _ rfl hq fun x hx => by obtain ⟨y, _, rfl⟩ := List.mem_map.mp hx; rfl))
  have ht' : t = true := ht.mpr ⟨q, S, rfl, hq, Jz _ hm, Tk rfl hok hm⟩
  subst ht'
  have hT1 : TL H1 r E := Ab hp1 hT
  refine hno ?_
  refine Ay D.h31 rfl (Gs (An (A6 (A5 rfl) (A6 (A5 rfl) A7)) (W7 (m := m + 2) D.toDefsT hn hT hl hok))
    (B0 (Cu (Ht (A6 (A5 rfl) (A6 (A5 rfl) (A6 (A5 rfl) A7))) e1))
    (Ag Ac (Ag (Ak (A6 (A5 rfl) A7) (Ox hT1 (by rw [List.length_map]; exact Nat.le_trans hl (by decide))))
    (E5 (Es (Ak (A6 (A5 rfl) A7) (Cv (Ab (Ad _ _) hT1))) (E9 (by exact Nat.le_trans hl (by decide)))) (A1h (NoI H r q E.length j S)
      ⟨n, j, 0, _, [], S, E, _, rfl, hp1.trans (Ad _ _), Ae _ _, hn, hok, rfl, hS, (Nw S).symm, fun x hx => (by cases hx), Nat.zero_add j⟩ ?_ ?_))))))
  · rintro t ρ H2 ht ⟨n, j', acc, rl, F, S', L, x5, rfl, hp, hT2, hn, hok, hl2, hS', hS, hF, ha⟩
    cases L with
    | nil => rw [List.length_nil] at hl2; (first | lia | omega)
    | cons e L =>
    have hq2 := Ab hp hq
    have hmem := A8q (t := t) (S' := S') hF
    rw [← hS] at hmem
    cases So (k := L.length) rfl hok hS' with
    | inn hne' n' hn' hj T hT' hh =>
      refine bC fun hno => ?_
      subst hn'
      obtain ⟨v, H4, e4, r4, rfl, hT5, hp4, hg4⟩ := Res.sat_ex (Gg (strF := strF) (sc := sc) (m := m + 2) (n := n' + 1) (i := 0) (e := e) D.h14 D.h16 D.h17 hT2 (by (first | lia | omega)) rfl)
      refine hno ?_
      refine Bn (As (A5 rfl) (A5 rfl) (inT hq2 (hmem.mpr (by rw [hT']; exact List.mem_cons_self)))) (Ek (An (A6 (A5 rfl) (A6 (A5 rfl) (A6 Ac A7))) e4) rfl
        (Bt (Bt ⟨n', j', acc, r4, F ++ [t], T, _, _, rfl, hp.trans hp4, hT5, by exact Nat.le_of_lt hn, Dw hne' hok, ?_, ?_, ?_, ?_, ha⟩)))
      · rw [Bb, List.eraseIdx_cons_zero]; rw [List.length_cons] at hl2; exact (Nat.add_right_comm _ _ _).symm.trans hl2
      · rw [Bb, List.eraseIdx_cons_zero]; exact hh
      · rw [hS, hT', Q6, List.append_assoc]; rfl
      · intro x hx
        rcases List.mem_append.mp hx with hx | hx
        · have := hF x hx; exact Nat.lt_succ_of_lt this
        · simp at hx; exact Nat.lt_succ_of_le (Nat.le_of_eq hx)
    | out c hc hj T hT' hh =>
      refine bC fun hno => ?_
      have hll : L.length < 100 := by rw [List.length_cons] at hl2; exact Ab7 hl hl2
      obtain ⟨v, H3, e3, rfl, hp3⟩ := Res.sat_ex (Qf (strF := strF) (sc := sc) (m := m) D hn hT2 hll hok)
      have e5 : Bg .Add (.int acc) (.int (Lc n (e :: L))) H3 = .ok (.int (acc + c : Nat)) H3 := by rw [Di, hc]; rfl
      refine hno ?_
      refine Ux (As (A5 rfl) (A5 rfl) (inF hq2 fun h => ?_)) (Ag (Aj (A5 rfl) (An (A6 (A5 rfl) (A6 (A5 rfl) A7)) e3) e5) (Ag (D1 (A5 rfl) (E6 Ac) E4 (Ab hp3 hT2) (Ig (r := 0) (i := 1) (by rw [List.length_cons]; exact Aa2 hll) (by rw [List.length_cons]; exact Nat.succ_pos _)))
        (Bt (Bt ⟨n, j' - c, acc + c, H3.length, F, T, L, _, rfl, (hp.trans hp3).trans (Ad _ _), Ae _ _, hn, Cm hok, ?_, hh, ?_, fun x hx => Nat.lt_succ_of_lt (hF x hx), by exact Abq ha hj⟩))))
      · have := hmem.mp h
        rw [hT'] at this
        exact A4u this
      · rw [List.length_cons] at hl2; exact (Nat.add_right_comm _ _ _).symm.trans hl2
      · rw [hS, hT', On]
  · rintro ρ H2 ⟨n, j', acc, rl, F, S', L, x5, rfl, hp, hT2, hn, hok, hl2, hS', hS, hF, ha⟩
    have hL : L = [] := List.length_eq_zero_iff.mp (by exact A9k hl2)
    subst hL
    have hj : j' = 0 := by
      cases n with
      | zero =>
        rw [Dp] at hS'
        have := (List.getElem?_eq_some_iff.mp hS').1
        simpa using this
      | succ n => rw [List.length_nil, Hv] at hS'; simp at hS'
    exact Az (A5 rfl) ⟨by rw [← ha, hj]; rfl, hp⟩
end
end Mine
namespace Mine
open PySem
noncomputable def sh (n : Nat) (E : List (Nat × Nat)) (i : Nat) : Int := tau n E - tau n (E.eraseIdx i)
theorem A45 {E : List (Nat × Nat)} {e : Nat × Nat} {k : Nat} (he : E[k]? = some e) : E = E.take k ++ e :: E.drop (k + 1) := by
  have hk := (List.getElem?_eq_some_iff.mp he).1
  conv => lhs; rw [← List.take_append_drop k E]
  rw [List.drop_eq_getElem_cons hk, (List.getElem?_eq_some_iff.mp he).2]
theorem Q4 {n i : Nat} {E : List (Nat × Nat)} {e : Nat × Nat} (he : E[i]? = some e) : tau n E = tau n (e :: E.eraseIdx i) := by
  conv => lhs; rw [A45 he]
  rw [List.eraseIdx_eq_take_drop_succ]
  exact Yc fun a c => by rw [Xy, lap]; exact Int.add_comm _ _
theorem Qj {n i : Nat} {E : List (Nat × Nat)} {e : Nat × Nat} (h : okT n E) (he : E[i]? = some e) : okT n (e :: E.eraseIdx i) := fun f hf => by
  rcases List.mem_cons.mp hf with rfl | hf
  · exact h _ (List.mem_of_getElem? he)
  · exact L1 h i f hf
theorem Xc {n i : Nat} {E : List (Nat × Nat)} {e : Nat × Nat} (he : E[i]? = some e) (hl : e.1 = e.2) : sh n E i = 0 := by
  unfold sh; rw [Q4 he, Mi hl]; exact Int.sub_self _
theorem A83 {n i : Nat} {E : List (Nat × Nat)} {e : Nat × Nat} (h : okT (n + 1 + 1) E) (he : E[i]? = some e) (hl : e.1 ≠ e.2) : sh (n + 1 + 1) E i = tau (n + 1) (ctr e (E.eraseIdx i)) := by
  unfold sh; rw [Q4 he, Ga (Qj h he), if_neg hl]; (first | lia | omega)
noncomputable def A0l : FnI := ⟨3, 5, .cons (.ite (.cmp .Eq (.idx (.idx (.var 1) (.var 2)) (.int 0)) (.idx (.idx (.var 1) (.var 2)) (.int 1))) (.cons (.ret (.int 0)) .nil) .nil) (.cons (.assigns [3, 4] (.call 17 (.cons (.var 0) (.cons (.var 1) (.cons (.var 2) .nil))))) (.cons (.ret (.call 23 (.cons (.var 3) (.cons (.var 4) .nil)))) .nil))⟩
noncomputable def A0d : FnI := ⟨2, 2, .cons (.expr (.call 1 (.cons (.var 0) (.cons (.var 1) .nil)))) (.cons (.ret (.comp1 (.call 32 (.cons (.var 1) (.cons (.var 2) (.cons (.var 0) .nil)))) (.range1 (.prim .len (.cons (.var 1) .nil))) .none)) .nil)⟩
structure A16 (P : Nat → Option FnI) : Prop extends DefsT P where
  h14 : P 14 = some Pi
  h16 : P 16 = some Pr
  h17 : P 17 = some Ta
  h32 : P 32 = some A0l
  h33 : P 33 = some A0d
section
variable {strF : Bi} {sc : List Int} {P : Nat → Option FnI} {H H0 H1 H2 H3 : A0} {n m b : Nat} {ρ : A8} {cf : Nat → List AV → A0 → Res AV} {N : A8 → A0 → Prop} {R : AV → A0 → Prop} {K K' : AV → A0 → Prop} {x y : PE} {es : PEs} {ss : PSs} {v w : AV} {vs : List AV}
theorem Uz (D : A16 P) {r i : Nat} {E : List (Nat × Nat)} (hn : n + 1 ≤ 7) (hT : TL H r E) (hl : E.length ≤ 100) (hok : okT (n + 1) E) (hi : i < E.length) : (Ah strF P sc (m + 4) 32 [.int (n + 1 : Nat), .ref r, .int i] H).sat (T0 H (sh (n + 1) E i)) := by
  have he := List.getElem?_eq_getElem hi
  generalize E[i] = e at he
  refine Ay D.h32 rfl ?_
  have tt := T8 (strF := strF) (sc := sc) (cf := Ah strF P sc (m + 3)) (b := H.length) (i := i) (j := 1) (z := .var 2) (ρ := [some (.int (n + 1 : Nat)), some (.ref r), some (.int i), none, none]) hT he rfl (A5 rfl)
  by_cases h : e.1 = e.2
  · rw [decide_eq_true h] at tt
    exact Bn tt (Az Ac ⟨by rw [Xc he h], List.prefix_rfl⟩)
  · refine bC fun hno => ?_
    rw [decide_eq_false h] at tt
    have hee := hok e (List.mem_of_getElem? he)
    obtain ⟨k, rfl⟩ : ∃ k, n = k + 1 := ⟨n - 1, by exact Ab2 h hee⟩
    obtain ⟨v, H1, e1, r1, rfl, hT1, hp1, hg1⟩ := Res.sat_ex (Gg (strF := strF) (sc := sc) (m := m + 1) (n := k + 1) D.h14 D.h16 D.h17 hT hl he)
    obtain ⟨v, H2, e2, rfl, hp2⟩ := Res.sat_ex (Rs (strF := strF) (sc := sc) (m := m) D.toDefsT (n := k) (by exact Nat.le_of_lt hn) hT1 (by rw [Bb]; exact Nat.le_trans (List.length_eraseIdx_le ..) hl) (Dw h (Qj hok he)))
    refine hno ?_
    exact B0 tt (Ek (An (A6 (A5 rfl) (A6 (A5 rfl) (A6 (A5 rfl) A7))) e1) rfl (Az (An (A6 (A5 rfl) (A6 (A5 rfl) A7)) e2) ⟨by rw [A83 hok he h], hp1.trans hp2⟩))
theorem Od {α : Type} {g f : α → AV} {ws : List (Nat × List AV)} {step : AV → A0 → Res (Option AV)} (hw : ∀ w ∈ ws, H0[w.1]? = some (.list w.2)) : ∀ (l : List α) {H : A0}, H0 <+: H →
    (∀ a ∈ l, ∀ H, H0 <+: H → (step (g a) H).sat fun o H' => o = some (f a) ∧ H <+: H') → (Bh ws step (l.map g) H).sat fun out H' => out = l.map f ∧ H <+: H'
  | [], H, p, _ => ⟨rfl, List.prefix_rfl⟩
  | a :: l, H, p, h => by
    refine bC fun hno => ?_
    obtain ⟨o, H1, e1, rfl, hp⟩ := Res.sat_ex (h a List.mem_cons_self H p)
    obtain ⟨out, H2, e2, rfl, hp2⟩ := Res.sat_ex (Od hw l (p.trans hp) fun a ha => h a (List.mem_cons_of_mem _ ha))
    refine hno ?_
    rw [List.map_cons, Bh, e1]
    simp only [Res.get, R7 fun w hw' => Ab (p.trans hp) (hw w hw'), if_true, e2]
    exact ⟨rfl, hp.trans hp2⟩
inductive Aab (H : A0) (k : Nat) (f : Nat → Int) (v : AV) (H' : A0) : Prop
  | mk (r : Nat) (hv : v = .ref r) (hr : H'[r]? = some (.list (Ee k f))) (hp : H <+: H') (hge : H.length ≤ r) : Aab H k f v H'
theorem P4 (D : A16 P) {r : Nat} {E : List (Nat × Nat)} (hn : n + 1 ≤ 7) (hT : TL H r E) (hl : E.length ≤ 16) (hok : okT (n + 1) E) : (Ah strF P sc (m + 5) 33 [.int (n + 1 : Nat), .ref r] H).sat (Aab H E.length (sh (n + 1) E)) := by
  refine bC fun hno => ?_
  obtain ⟨out, H2, e2, rfl, hp2⟩ := Res.sat_ex (Od (H0 := H) (g := Am) (f := fun i => AV.int (sh (n + 1) E i)) (ws := []) (step := fun v H' => (Mm strF (Ah strF P sc (m + 4)) sc H.length .none (some v :: [some (.int (n + 1 : Nat)), some (.ref r)]) H').get fun t H' => if t then (Aa strF (Ah strF P sc (m + 4)) sc H.length (.call 32 (.cons (.var 1) (.cons (.var 2) (.cons (.var 0) .nil)))) (some v :: [some (.int (n + 1 : Nat)), some (.ref r)]) H').get fun x H => .ok (some x) H else .ok none H')
    A98 (List.range E.length) List.prefix_rfl fun i hi H' p => by
      obtain ⟨v, H3, e3, rfl, hp3⟩ := Res.sat_ex (Uz (strF := strF) (sc := sc) (m := m) D hn (Ab p hT) (by exact Nat.le_trans hl (by decide)) hok (List.mem_range.mp hi))
      exact (congrArg (fun r : Res (Option AV) => r.sat _) (Eh (An (A6 (A5 rfl) (A6 (A5 rfl) (A6 (A5 rfl) A7))) e3))).mpr ⟨rfl, hp3⟩)
  refine hno ?_
  refine Ay D.h33 rfl (Gs (An (A6 (A5 rfl) (A6 (A5 rfl) A7)) (W7 (m := m + 2) D.toDefsT hn hT hl hok))
    (Az (Eb (Es (Ak (A6 (A5 rfl) A7) (Cv hT)) (E9 (by exact Nat.le_trans hl (by decide)))) (by rw [N0]; exact e2) (Au (by rw [Bj]; exact Nat.le_trans hl (by decide)))) ⟨_, rfl, Ae _ _, hp2.trans (Ad _ _), hp2.length_le⟩))
end
end Mine
namespace Mine
open PySem
section
variable {strF : Bi} {sc : List Int} {P : Nat → Option FnI} {H H0 H1 H2 H3 : A0} {n m b : Nat} {ρ : A8} {cf : Nat → List AV → A0 → Res AV} {N : A8 → A0 → Prop} {R : AV → A0 → Prop} {K K' : AV → A0 → Prop} {x y : PE} {es : PEs} {ss : PSs} {v w : AV} {vs : List AV}
theorem Oq : ∀ (l : List Nat) (f : Nat → Int), Bc (l.map fun j => AV.int (f j)) = some (l.map f)
  | [], _ => rfl
  | x :: l, f => by
    show (Bc (l.map fun j => AV.int (f j))).map _ = _
    rw [Oq l f]; rfl
theorem A4o {r k : Nat} {f : Nat → Int} (h : H[r]? = some (.list (Ee k f))) : prim strF sc .sum [.ref r] H = .ok (.int ((List.range k).map f).sum) H := by
  rw [A7c, h]
  simp only [Ee, Oq]
theorem Qe {i j : Int} (h1 : -1000 ≤ j) (h2 : j ≤ 1000) : Bg .Mult (.int i) (.int j) H = .ok (.int (i * j)) H := by
  rw [Tc, if_pos]
  unfold E8
  rw [Kb h1 h2, Bool.or_true]; rfl
end
end Mine
namespace Mine
open PySem
end Mine
namespace Mine
open PySem
end Mine
namespace Mine
open PySem
end Mine
namespace Mine
open PySem
noncomputable def SR.xat (r : SR) (N : A8 → A0 → Prop) (c : Nat) (X : A0 → Prop) : Prop := match r with
  | .next ρ H => N ρ H
  | .exc d H => d = c ∧ X H
  | _ => False
section
variable {strF : Bi} {cf : Nat → List AV → A0 → Res AV} {sc : List Int} {b : Nat} {ρ : A8} {H H1 H2 H3 H4 : A0} {x y z : PE} {es : PEs} {v w u : AV} {vs : List AV} {r t : Bool} {ss tt ee : PSs} {N : A8 → A0 → Prop} {c k : Nat} {X : A0 → Prop} {R : AV → A0 → Prop}
theorem A69 {m : Str} (h : X H) : (Ai strF cf sc b (.cons (.raise c m) ss) ρ H).xat N c X := ⟨rfl, h⟩
theorem A2b {s : PS} (h : (Fy strF cf sc b s ρ H).xat (fun ρ H => (Ai strF cf sc b ss ρ H).xat N c X) c X) : (Ai strF cf sc b (.cons s ss) ρ H).xat N c X := by
  show (match Fy strF cf sc b s ρ H with | .next ρ H => Ai strF cf sc b ss ρ H | r => r).xat N c X
  cases e : Fy strF cf sc b s ρ H with
  | next ρ1 H1 => rw [e] at h; exact h
  | ret v H1 => rw [e] at h; exact h.elim
  | exc d H1 => rw [e] at h; exact h
  | bad => rw [e] at h; exact h.elim
theorem A8j (h : Bp strF cf sc b x ρ H = .ok true H1) (q : (Ai strF cf sc b tt ρ H1).xat (fun ρ H => (Ai strF cf sc b ss ρ H).xat N c X) c X) : (Ai strF cf sc b (.cons (.ite x tt ee) ss) ρ H).xat N c X := by
  refine A2b ?_
  show (match Bp strF cf sc b x ρ H with | .ok true H => Ai strF cf sc b tt ρ H | .ok false H => Ai strF cf sc b ee ρ H | _ => .bad).xat _ c X
  rw [h]; exact q
theorem A90 (h : Aa strF cf sc b x ρ H = .ok v H1) (q : (Ai strF cf sc b ss ρ H1).xat N c X) : (Ai strF cf sc b (.cons (.expr x) ss) ρ H).xat N c X := by
  refine A2b ?_
  show (match Aa strF cf sc b x ρ H with | .ok _ H => SR.next ρ H | .exc c H => Sn (Ki x) c H | .bad => .bad).xat _ c X
  rw [h]; exact q
theorem A8l {P : Nat → Option FnI} {n k np nv : Nat} {body : PSs} {args : List AV} (hk : P k = some ⟨np, nv, body⟩) (hl : args.length = np) (h : (Ai strF (Ah strF P sc n) sc H.length body (args.map some ++ List.replicate (nv - np) none) H).xat (fun _ _ => False) c X) :
    ∃ H', Ah strF P sc (n + 1) k args H = .exc c H' ∧ X H' := by
  rw [Ah, hk]
  simp only [hl, if_true]
  cases e : Ai strF (Ah strF P sc n) sc H.length body (args.map some ++ List.replicate (nv - np) none) H with
  | next ρ1 H1 => rw [e] at h; exact h.elim
  | ret v H1 => rw [e] at h; exact h.elim
  | exc d H1 => rw [e] at h; obtain ⟨rfl, q⟩ := h; exact ⟨H1, rfl, q⟩
  | bad => rw [e] at h; exact h.elim
theorem A4j (h1 : Br strF cf sc b es ρ H = .ok vs H1) (h2 : cf k vs H1 = .exc c H2) : Aa strF cf sc b (.call k es) ρ H = .exc c H2 := by
  show (Br strF cf sc b es ρ H).get _ = _
  rw [h1]; exact h2
end
end Mine
namespace Mine
open PySem
end Mine
namespace Mine
open PySem
noncomputable def Ds (M : Nat) : Nat → List Nat → List (List Nat)
  | 0, S => [S]
  | d + 1, S => (ext M S).flatMap (Ds M d)
theorem Qk (M : Nat) : ∀ (d : Nat) (S : List Nat), Ds M (d + 1) S = (Ds M d S).flatMap (ext M)
  | 0, S => by
    show (ext M S).flatMap (fun T => [T]) = [S].flatMap (ext M)
    rw [List.flatMap_singleton', List.flatMap_cons, List.flatMap_nil, List.append_nil]
  | d + 1, S => by
    show (ext M S).flatMap (Ds M (d + 1)) = ((ext M S).flatMap (Ds M d)).flatMap (ext M)
    rw [List.flatMap_assoc]; exact Jd fun a _ => Qk M d a
theorem Lu (M : Nat) : ∀ K, D3 M K = Ds M K []
  | 0 => Cl M
  | K + 1 => by rw [Gu, Lu M K, Qk]
inductive A9i (M d : Nat) (C S : List Nat) : Prop
  | mk (T : List Nat) (hS : S = C ++ T) (hl : T.length = d) (hT : ∀ i ∈ T, lst C ≤ i ∧ i < M) : A9i M d C S
theorem Nd {M : Nat} : ∀ {d : Nat} {C S : List Nat}, S ∈ Ds M d C → A9i M d C S
  | 0, C, S, h => ⟨[], by rw [List.append_nil]; exact List.mem_singleton.mp h, rfl, fun i hi => by cases hi⟩
  | d + 1, C, S, h => by
    obtain ⟨C', h1, h2⟩ := List.mem_flatMap.mp h
    obtain ⟨k, hk, rfl⟩ := List.mem_map.mp h1
    obtain ⟨T, rfl, hl, hT⟩ := Nd h2
    have hk := List.mem_range.mp hk
    refine ⟨(lst C + k) :: T, by rw [List.append_assoc]; rfl, by rw [List.length_cons, hl], fun i hi => ?_⟩
    rcases List.mem_cons.mp hi with rfl | hi
    · exact ⟨Nat.le_add_right _ _, Nat.add_lt_of_lt_sub' hk⟩
    · have := hT i hi
      rw [C5] at this; exact And.intro (Abk (Nat.le_of_lt this.1)) this.2
theorem Jh {α : Type} {f : Nat → List α} {N : Nat} (hf : ∀ k, k < N → (f k).length ≤ 2 ^ (N - k - 1)) : ∀ K, K ≤ N → ((List.range K).flatMap f).length + 2 ^ (N - K) ≤ 2 ^ N
  | 0, _ => by simp
  | K + 1, h => by
    have h1 := Jh hf K (by exact Nat.le_of_lt h)
    have h2 := hf K (by exact h)
    rw [List.range_succ, List.flatMap_append, List.flatMap_cons, List.flatMap_nil, List.append_nil, List.length_append]
    have e : 2 ^ (N - K) = 2 * 2 ^ (N - K - 1) := by rw [show N - K = (N - K - 1) + 1 by exact (Nat.sub_add_cancel (Nat.sub_pos_of_lt h)).symm, Nat.pow_succ]; simp; exact Nat.mul_comm _ _
    rw [show N - (K + 1) = N - K - 1 by exact rfl]
    exact A9y h1 h2 e
theorem L5 (M d : Nat) (S : List Nat) : Ds M (d + 1) S = (List.range (M - lst S)).flatMap fun k => Ds M d (S ++ [lst S + k]) := by
  show (ext M S).flatMap (Ds M d) = _
  unfold ext
  rw [List.flatMap_map]
theorem Sv {M : Nat} : ∀ (d : Nat) (S : List Nat), (Ds M d S).length ≤ 2 ^ (M - lst S)
  | 0, S => Nat.one_le_two_pow
  | d + 1, S => by
    rw [L5]
    have := Jh (f := fun k => Ds M d (S ++ [lst S + k])) (N := M - lst S) (fun k hk => by
      have := Sv (M := M) d (S ++ [lst S + k])
      rw [C5] at this
      rw [show M - lst S - k - 1 = M - (lst S + k + 1) by exact A9w]; exact this) (M - lst S) (Nat.le_refl _)
    exact Nat.le_trans (Nat.le_add_right _ _) this
inductive Fo : List (Nat × Nat) → Prop
  | nil : Fo []
  | cons {e : Nat × Nat} {F : List (Nat × Nat)} (hne : e.1 ≠ e.2) (h : Fo (ctr e F)) : Fo (e :: F)
theorem Wp : ∀ (k : Nat) {F : List (Nat × Nat)} {e : Nat × Nat}, F.length = k → Fo F → ¬ Be F e.1 e.2 → Fo (F ++ [e])
  | 0, [], e, _, _, hc => .cons (fun q => hc (by rw [q]; exact .refl _)) .nil
  | k + 1, [], e, hk, _, _ => by cases hk
  | 0, f :: F, e, hk, _, _ => by cases hk
  | k + 1, f :: F, e, hk, hF, hc => by
    cases hF with
    | cons hne h =>
      refine .cons hne ?_
      have e1 : ctr f (F ++ [e]) = ctr f F ++ [Fh (min f.1 f.2) (max f.1 f.2) e] := by unfold ctr; rw [List.map_append]; rfl
      show Fo (ctr f (F ++ [e]))
      rw [e1]
      refine Wp k (by rw [Bb]; simpa using hk) h fun c => hc ?_
      exact Lo.mp (Be.unjoin (by exact A7y hne) c e.1 e.2 rfl rfl)
theorem A3w : ∀ (n : Nat) {F : List (Nat × Nat)}, F.length = n → okT (n + 1) F → Fo F → F9 (n + 1) F
  | 0, F, _, _, _ => fun p q hp hq => by rw [show p = q by exact (Nat.lt_one_iff.mp hp).trans (Nat.lt_one_iff.mp hq).symm]; exact .refl _
  | n + 1, [], hk, _, _ => by cases hk
  | n + 1, e :: F, hk, hok, hF => by
    cases hF with
    | cons hne h =>
      have he := hok e List.mem_cons_self
      exact (O1 hne he.1 he.2).mpr (A3w n (by rw [Bb]; simpa using hk) (Dw hne hok) h)
noncomputable def Go (n : Nat) (E : List (Nat × Nat)) (S : List Nat) : Bool := @decide (F9 (n + 1) (Bo E S)) (Classical.propDecidable _)
theorem I5 {n : Nat} {E : List (Nat × Nat)} {S : List Nat} : Go n E S = true ↔ F9 (n + 1) (Bo E S) := A4k
theorem Yb {n : Nat} {E : List (Nat × Nat)} (hok : okT (n + 1) E) : Bz E.length n E = (Ds E.length n []).filter (Go n E) := by
  rw [← Lu, Dz E.length rfl hok fun S _ => I5]
theorem Hn (E : List (Nat × Nat)) (S T : List Nat) : Bo E (S ++ T) = Bo E S ++ Bo E T := List.map_append ..
theorem Ug {E : List (Nat × Nat)} {t : Nat} {e : Nat × Nat} (h : E[t]? = some e) : Bo E [t] = [e] := by
  unfold Bo; rw [List.map_cons, List.getD_eq_getElem?_getD, h]; rfl
theorem A3d {n d t t' : Nat} {E : List (Nat × Nat)} {C : List Nat} (h : ¬ F9 (n + 1) (Bo E C ++ E.drop t)) (htt : t ≤ t') (ht' : t' < E.length) : (Ds E.length d (C ++ [t'])).filter (Go n E) = [] := by
  refine List.filter_eq_nil_iff.mpr fun S hS q => h ?_
  obtain ⟨T, rfl, _, hT⟩ := Nd hS
  rw [C5] at hT
  have hall := I5.mp q
  intro x y hx hy
  refine (hall x y hx hy).mono fun e he => .tie ?_
  rw [List.append_assoc, Hn] at he
  rcases List.mem_append.mp he with he | he
  · exact List.mem_append_left _ he
  · obtain ⟨i, hi, rfl⟩ := List.mem_map.mp he
    have hi' : t ≤ i ∧ i < E.length := by
      rcases List.mem_cons.mp hi with rfl | hi
      · exact ⟨htt, ht'⟩
      · have := hT i hi; exact And.intro (Nat.le_of_lt (Nat.lt_of_le_of_lt htt this.1)) this.2
    refine List.mem_append_right _ ?_
    rw [List.getD_eq_getElem?_getD, List.getElem?_eq_getElem hi'.2, Option.getD_some, List.mem_iff_getElem?]
    exact ⟨i - t, by rw [List.getElem?_drop, show t + (i - t) = i by exact Nat.add_sub_of_le hi'.1, List.getElem?_eq_getElem hi'.2]⟩
theorem Zv {n d t : Nat} {E : List (Nat × Nat)} {C : List Nat} {e : Nat × Nat} (hok : okT (n + 1) E) (hC : ∀ i ∈ C, i < E.length) (hl : C.length + (d + 1) = n) (he : E[t]? = some e) (hc : Be (Bo E C) e.1 e.2) : (Ds E.length d (C ++ [t])).filter (Go n E) = [] := by
  refine List.filter_eq_nil_iff.mpr fun S hS q => ?_
  obtain ⟨T, rfl, hTl, hT⟩ := Nd hS
  have hall := I5.mp q
  rw [Hn, Hn, Ug he] at hall
  have hlt : ∀ i ∈ C ++ T, i < E.length := fun i hi => by
    rcases List.mem_append.mp hi with hi | hi
    · exact hC i hi
    · exact (hT i hi).2
  have h2 : F9 (n + 1) (Bo E (C ++ T)) := fun x y hx hy => by
    refine (hall x y hx hy).mono fun f hf => ?_
    rw [Hn]
    rcases List.mem_append.mp hf with hf | hf
    · rcases List.mem_append.mp hf with hf | hf
      · exact .tie (List.mem_append_left _ hf)
      · rw [List.mem_singleton.mp hf]
        exact hc.mono fun f hf => .tie (List.mem_append_left _ hf)
    · exact .tie (List.mem_append_right _ hf)
  have := K4 (C ++ T).length (by unfold Bo; rw [List.length_map]) (G5 hok hlt) h2
  rw [List.length_append] at this; (first | lia | omega)
theorem Tx {α : Type} {f : Nat → List α} {k : Nat} : ∀ {N : Nat}, k ≤ N → (∀ j, k ≤ j → j < N → f j = []) → (List.range N).flatMap f = (List.range k).flatMap f
  | 0, h, _ => by rw [show k = 0 by exact Nat.eq_zero_of_le_zero h]
  | N + 1, h, hf => by
    by_cases hk : k = N + 1
    · rw [hk]
    · rw [List.range_succ, List.flatMap_append, List.flatMap_cons, List.flatMap_nil, List.append_nil, hf N (by exact Nat.le_of_lt_succ (Nat.lt_of_le_of_ne h hk)) (by exact Nat.le_refl _), List.append_nil]
      exact Tx (by exact Nat.le_of_lt_succ (Nat.lt_of_le_of_ne h hk)) fun j h1 h2 => hf j h1 (by exact Nat.lt_succ_of_lt h2)
end Mine
namespace Mine
open PySem
noncomputable def A07 : FnI := ⟨3, 8, .cons (.ite (.cmp .Eq (.prim .len (.cons (.var 2) .nil)) (.bin .Sub (.var 0) (.int 1))) (.cons (.ret (.list (.cons (.var 2) .nil))) .nil) .nil) (.cons (.assign 3 (.list .nil)) (.cons (.assign 4 (.ite (.cmp .NotEq (.var 2) (.list .nil)) (.bin .Add (.idx (.var 2) (.neg (.int 1))) (.int 1)) (.int 0))) (.cons (.assign 6 (.comp1 (.idx (.var 2) (.var 0)) (.of (.var 2)) .none)) (.cons (.for1 5 (.range2 (.var 4) (.prim .len (.cons (.var 1) .nil))) (.cons (.ite (.cmp .Gt (.prim .max1 (.cons (.call 2 (.cons (.var 0) (.cons (.bin .Add (.var 6) (.slice (.var 1) (.some (.var 5)) .none)) .nil))) .nil)) (.int 0)) (.cons (.ret (.var 3)) .nil) .nil) (.cons (.assign 7 (.call 2 (.cons (.var 0) (.cons (.var 6) .nil)))) (.cons (.ite (.cmp .NotEq (.idx (.var 7) (.idx (.idx (.var 1) (.var 5)) (.int 0))) (.idx (.var 7) (.idx (.idx (.var 1) (.var 5)) (.int 1)))) (.cons (.assign 3 (.bin .Add (.var 3) (.call 27 (.cons (.var 0) (.cons (.var 1) (.cons (.bin .Add (.var 2) (.list (.cons (.var 5) .nil))) .nil)))))) .nil) .nil) .nil)))) (.cons (.ret (.var 3)) .nil)))))⟩
inductive GrR (H0 : A0) (b : Nat) (Ss : List (List Nat)) (v : AV) (H : A0) : Prop
  | mk (r : Nat) (qs : List Nat) (hv : v = .ref r) (hr : H[r]? = some (.list (qs.map .ref))) (hf : Fa H qs Ss) (hp : H0 <+: H) (hge : H0.length ≤ r) (hq : ∀ q ∈ qs, b ≤ q) : GrR H0 b Ss v H
inductive GwI (H0 H1 : A0) (b n r rc ro : Nat) (C : List Nat) (f : Nat → List (List Nat)) (k : Nat) (ρ : A8) (H : A0) : Prop
  | mk (rf : Nat) (qs : List Nat) (x5 x7 : Option AV) (hρ : ρ = [some (.int (n + 1 : Nat)), some (.ref r), some (.ref rc), some (.ref rf), some (.int (lst C)), x5, some (.ref ro), x7]) (hp : H1 <+: H) (hr : H[rf]? = some (.list (qs.map .ref))) (hf : Fa H qs ((List.range k).flatMap f)) (hge : H0.length ≤ rf) (hq : ∀ q ∈ qs, b ≤ q) : GwI H0 H1 b n r rc ro C f k ρ H
section
variable {strF : Bi} {sc : List Int} {P : Nat → Option FnI} {H H0 H1 : A0} {n m b : Nat} {ρ : A8} {cf : Nat → List AV → A0 → Res AV} {N : A8 → A0 → Prop} {R : AV → A0 → Prop}
theorem Ab1 {step : AV → A8 → A0 → SR} (I : Nat → A8 → A0 → Prop) {a c : Nat} (hac : a ≤ c) (h0 : I 0 ρ H) (hs : ∀ i ρ H, a + i < c → I i ρ H → (step (.int (a + i : Nat)) ρ H).sat (I (i + 1)) R) (hN : ∀ ρ H, I (c - a) ρ H → N ρ H) : (Ed [] step (B1 a c) ρ H).sat N R := by
  refine J8 (fun i ρ H => I (i - a).toNat ρ H) (by exact P0 hac) (by rw [Int.sub_self]; exact h0) (fun i ρ H h1 h2 h => ?_) fun ρ H h => hN ρ H (by rw [show ((c : Int) - (a : Int)).toNat = c - a by exact Int.toNat_sub _ _] at h; exact h)
  obtain ⟨j, rfl⟩ : ∃ j : Nat, i = ((a + j : Nat) : Int) := ⟨(i - a).toNat, by exact Abg h1⟩
  rw [show (((a + j : Nat) : Int) - (a : Int)).toNat = j by exact (Int.toNat_sub _ _).trans (Nat.add_sub_cancel_left _ _)] at h
  refine SR.sat_mono (hs j ρ H (by exact Sr h2) h) (fun ρ H h => ?_) fun _ _ h => h
  show I (((a + j : Nat) : Int) + 1 - (a : Int)).toNat ρ H
  rw [show (((a + j : Nat) : Int) + 1 - (a : Int)).toNat = j + 1 by exact A95]; exact h
theorem A3v {r q : Nat} {F G : List Nat} (hr : H[r]? = some (.list (F.map AV.ref))) (hq : H[q]? = some (.list (G.map AV.ref))) (hl : F.length + G.length ≤ lim) : Bg .Add (.ref r) (.ref q) H = .ok (.ref H.length) (H ++ [.list ((F ++ G).map AV.ref)]) := by
  rw [Ow, hr, hq, List.map_append]
  exact if_pos (by rw [List.length_append, List.length_map, List.length_map]; exact hl)
theorem Ng : ∀ (F : List Nat) (a : Nat), ∃ c : Nat, (F.map fun (p : Nat) => (p : Int)).foldl max (a : Int) = c
  | [], a => ⟨a, rfl⟩
  | x :: F, a => by
    rw [List.map_cons, List.foldl_cons, show max (a : Int) (x : Int) = ((max a x : Nat) : Int) by exact A6l _ _]
    exact Ng F _
inductive A9v (strF : Bi) (sc : List Int) (H : A0) (r : Nat) (F : List Nat) : Prop
  | mk (M : Nat) (e : prim strF sc .max1 [.ref r] H = .ok (.int M) H) (h : M = 0 ↔ ∀ x ∈ F, x = 0) : A9v strF sc H r F
theorem Y8 {r : Nat} {F : List Nat} (h : H[r]? = some (.list (F.map Am))) (hF : 0 < F.length) : A9v strF sc H r F := by
  cases F with
  | nil => cases hF
  | cons a F =>
    obtain ⟨c, hc⟩ := Ng F a
    refine ⟨c, ?_, ?_⟩
    · show (match (match H[r]? with
          | some (.list xs) => (match Bc xs with
              | some (i :: is) => Res.ok (AV.int (is.foldl max i)) H
              | _ => .bad)
          | _ => .bad) with | r => r) = _
      rw [h]
      show (match Bc ((a :: F).map Am) with
              | some (i :: is) => Res.ok (AV.int (is.foldl max i)) H
              | _ => .bad) = _
      rw [C2, ← hc]; rfl
    · have := Jf F a
      rw [hc] at this
      constructor
      · intro h x hx
        have q := this.mp (by exact A68 h)
        rcases List.mem_cons.mp hx with rfl | hx
        · exact q.1
        · exact q.2 x hx
      · intro h
        have := this.mpr ⟨h a List.mem_cons_self, fun x hx => h x (List.mem_cons_of_mem _ hx)⟩
        exact A5x this
theorem A0g {n : Nat} {F : List (Nat × Nat)} {L : List Nat} (l : Lab n F L) {p q : Nat} (hp : p < n) (hq : q < n) (e : L.getD p 0 = L.getD q 0) : Be F p q := by
  have h := (l.lt p hp).2
  rw [e] at h
  exact h.trans (l.lt q hq).2.symm
theorem Vp (h2 : P 2 = some Vx) {r rc ro d k : Nat} {E : List (Nat × Nat)} {e : Nat × Nat} {C : List Nat} (he : E[lst C + k]? = some e) (hn : n + 1 ≤ 7) (hl : E.length ≤ 16) (hok : okT (n + 1) E) (hT : TL H1 r E) (hC : H1[rc]? = some (.list (C.map Am))) (hO : TL H1 ro (Bo E C)) (hr : Ris E.length C.length C) (hF : Fo (Bo E C)) (hd : C.length + (d + 1) = n) (h01 : H0 <+: H1) (hb : b ≤ H0.length)
    (ih : ∀ {H : A0} {rc : Nat} {C : List Nat}, TL H r E → H[rc]? = some (.list (C.map Am)) → Ris E.length C.length C → Fo (Bo E C) → C.length + d = n → b ≤ rc → b ≤ H.length → (Ah strF P sc (m + d + 2) 27 [.int (n + 1 : Nat), .ref r, .ref rc] H).sat (GrR H b ((Ds E.length d C).filter (Go n E))))
    (hk : lst C + k < E.length) (hI : GwI H0 H1 b n r rc ro C (fun k => (Ds E.length d (C ++ [lst C + k])).filter (Go n E)) k ρ H) :
    (Ai strF (Ah strF P sc (m + d + 2)) sc H0.length (.cons (.ite (.cmp .Gt (.prim .max1 (.cons (.call 2 (.cons (.var 0) (.cons (.bin .Add (.var 6) (.slice (.var 1) (.some (.var 5)) .none)) .nil))) .nil)) (.int 0)) (.cons (.ret (.var 3)) .nil) .nil) (.cons (.assign 7 (.call 2 (.cons (.var 0) (.cons (.var 6) .nil)))) (.cons (.ite (.cmp .NotEq (.idx (.var 7) (.idx (.idx (.var 1) (.var 5)) (.int 0))) (.idx (.var 7) (.idx (.idx (.var 1) (.var 5)) (.int 1)))) (.cons (.assign 3 (.bin .Add (.var 3) (.call 27 (.cons (.var 0) (.cons (.var 1) (.cons (.bin .Add (.var 2) (.list (.cons (.var 5) .nil))) .nil)))))) .nil) .nil) .nil))) (ρ.set 5 (some (.int (lst C + k : Nat)))) H).sat
      (GwI H0 H1 b n r rc ro C (fun k => (Ds E.length d (C ++ [lst C + k])).filter (Go n E)) (k + 1)) (GrR H0 b ((Ds E.length (d + 1) C).filter (Go n E))) := by
  obtain ⟨rf, qs, x5, x7, rfl, p, hrf, hf, hge, hq⟩ := hI
  have hCl : ∀ i ∈ C, i < E.length := hr.lt
  have hokC : okT (n + 1) (Bo E C) := G5 hok hCl
  have hst : (Ds E.length (d + 1) C).filter (Go n E) = (List.range (E.length - lst C)).flatMap fun k => (Ds E.length d (C ++ [lst C + k])).filter (Go n E) := by rw [L5, List.filter_flatMap]
  rw [hst]
  refine bC fun hno => ?_
  have hbd := Jh (f := fun k => (Ds E.length d (C ++ [lst C + k])).filter (Go n E)) (N := E.length - lst C) (fun j hj => by
    have := Sv (M := E.length) d (C ++ [lst C + j])
    rw [C5] at this
    rw [show E.length - lst C - j - 1 = E.length - (lst C + j + 1) by exact A9w]; exact Nat.le_trans (List.length_filter_le ..) this) (k + 1) (by exact Nat.le_sub_of_add_le' hk)
  have hpow : 2 ^ (E.length - lst C) ≤ 2 ^ 16 := Nat.pow_le_pow_right (by decide) (by exact V5 hl)
  have hself := Zv (n := n) (d := d) (t := lst C + k) hok hCl hd he
  have hcut := fun (hA : ¬ F9 (n + 1) (Bo E C ++ E.drop (lst C + k))) (j : Nat) (h1 : k ≤ j) (h2 : j < E.length - lst C) => A3d (d := d) (t' := lst C + j) hA (by exact Nat.add_le_add_left h1 _) (by exact Nat.add_lt_of_lt_sub' h2)
  have hsn : (List.range (k + 1)).flatMap (fun k => (Ds E.length d (C ++ [lst C + k])).filter (Go n E)) = (List.range k).flatMap (fun k => (Ds E.length d (C ++ [lst C + k])).filter (Go n E)) ++ (Ds E.length d (C ++ [lst C + k])).filter (Go n E) := by
    rw [List.range_succ, List.flatMap_append, List.flatMap_cons, List.flatMap_nil, List.append_nil]
  have hris := U2 (x := lst C + k) hr (by exact Nat.le_add_right _ _) hk
  have ho := hok _ (List.mem_of_getElem? he)
  have hpe : Bo E (C ++ [lst C + k]) = Bo E C ++ [e] := by rw [Hn, Ug he]
  have hT' : TL H r E := Ab p hT
  have hO' : TL H ro (Bo E C) := Ab p hO
  have q1 := Ad H [Bw.list ((E.drop (lst C + k)).map Av)]
  have q2 := Ad (H ++ [Bw.list ((E.drop (lst C + k)).map Av)]) [Bw.list ((Bo E C ++ E.drop (lst C + k)).map Av)]
  have hokA : okT (n + 1) (Bo E C ++ E.drop (lst C + k)) := fun f hf => by
    rcases List.mem_append.mp hf with hf | hf
    · exact hokC f hf
    · exact hok f (List.mem_of_mem_drop hf)
  have hCn : C.length ≤ 7 := by (first | lia | omega)
  obtain ⟨v, H2, e2, rl, rfl, hrl, hpl, hgl⟩ := Res.sat_ex (Hj (strF := strF) (sc := sc) (m := m + d + 1) (H := (H ++ [Bw.list ((E.drop (lst C + k)).map Av)]) ++ [Bw.list ((Bo E C ++ E.drop (lst C + k)).map Av)]) h2 hn (Ae _ _) hokA)
  have lab := Jq hokA
  obtain ⟨M, eM, hM⟩ := Y8 (strF := strF) (sc := sc) hrl (by rw [lab.len]; exact Nat.succ_pos _)
  have hAll := Sh lab (by exact Nat.succ_pos _)
  have p2 := (q1.trans q2).trans hpl
  have tst : Aa strF (Ah strF P sc (m + d + 2)) sc H0.length (.prim .max1 (.cons (.call 2 (.cons (.var 0) (.cons (.bin .Add (.var 6) (.slice (.var 1) (.some (.var 5)) .none)) .nil))) .nil)) [some (.int (n + 1 : Nat)), some (.ref r), some (.ref rc), some (.ref rf), some (.int (lst C)), some (.int (lst C + k)), some (.ref ro), x7] H = .ok (.int M) H2 := Ak (A6 (An (A6 (A5 rfl) (A6 (Aj (A5 rfl) (D1 (A5 rfl) (E6 (A5 rfl)) E4 hT' (Ig (r := r) (by exact Nat.le_trans hl (by decide)) (Nat.le_of_lt hk))) (A93 (Ab q1 hO') (Ae _ _) (by rw [List.length_drop]; unfold Bo; rw [List.length_map]; exact Nat.le_trans (Nat.add_le_add (Nat.le_trans (Nat.le_add_right _ _) (Nat.le_trans (Nat.le_of_eq hd) (Nat.le_of_lt hn))) (Nat.le_trans (Nat.sub_le _ _) hl)) (by decide)))) A7)) e2) A7) eM
  refine hno ?_
  by_cases hA : F9 (n + 1) (Bo E C ++ E.drop (lst C + k))
  · have hM0 : M = 0 := hM.mpr (hAll.mp hA)
    refine B0 (As tst Ac (gtF (by exact fun e1 => Nat.ne_of_gt (Sr e1) hM0))) ?_
    refine bC fun hno => ?_
    obtain ⟨v, H3, e3, r7, rfl, hr7, hp3, hg3⟩ := Res.sat_ex (Hj (strF := strF) (sc := sc) (m := m + d + 1) (H := H2) h2 hn (Ab p2 hO') hokC)
    have labC := Jq hokC
    have hT3 : TL H3 r E := Ab (p2.trans hp3) hT'
    have i1 := Kk (sc := sc) (p := e.1) hr7 (by rw [labC.len]; exact ho.1)
    have i2 := Kk (sc := sc) (p := e.2) hr7 (by rw [labC.len]; exact ho.2)
    have p3 := p2.trans hp3
    refine hno ?_
    refine Ag (An (A6 (A5 rfl) (A6 (A5 rfl) A7)) e3) ?_
    by_cases hc : Be (Bo E C) e.1 e.2
    · refine B0 (As (Ap (A5 rfl) (Ap (Ap (A5 rfl) (A5 rfl) (Cy hT3 he)) Ac G8) i1) (Ap (A5 rfl) (Ap (Ap (A5 rfl) (A5 rfl) (Cy hT3 he)) Ac Gb) i2) (neF (by rw [labC.eq ho.1 ho.2 hc]))) (Bt ⟨rf, qs, _, _, rfl, p.trans p3, Ab p3 hrf, ?_, hge, hq⟩)
      rw [hsn, hself hc, List.append_nil]; exact hf.grow p3
    · refine bC fun hno => ?_
      have q8 := Ad H3 [Bw.list ([(lst C + k)].map Am)]
      have q9 := Ad (H3 ++ [Bw.list ([(lst C + k)].map Am)]) [Bw.list ((C ++ [(lst C + k)]).map Am)]
      have hC3 := Ab (p.trans p3) hC
      have p8 := p3.trans (q8.trans q9)
      have hlen8 : b ≤ ((H3 ++ [Bw.list ([(lst C + k)].map Am)]) ++ [Bw.list ((C ++ [(lst C + k)]).map Am)]).length := Nat.le_trans (Nat.le_trans hb h01.length_le) (p.trans p8).length_le
      obtain ⟨v, H5, e5, r9, ps, rfl, hr9, hf9, hp9, hg9, hq9⟩ := Res.sat_ex (ih (H := (H3 ++ [Bw.list ([(lst C + k)].map Am)]) ++ [Bw.list ((C ++ [(lst C + k)]).map Am)]) (C := C ++ [(lst C + k)]) (Ab p8 hT') (Ae _ _) hris (by rw [hpe]; exact Wp _ rfl hF hc) (by rw [List.length_append]; simp; exact Eq.trans (Nat.add_right_comm _ _ _) hd) (by
        exact Nat.le_trans (Nat.le_trans hb h01.length_le) (p.trans (p3.trans q8)).length_le) hlen8)
      have p9 := p8.trans hp9
      rw [hsn, List.length_append] at hbd
      refine hno ?_
      refine Bn (As (Ap (A5 rfl) (Ap (Ap (A5 rfl) (A5 rfl) (Cy hT3 he)) Ac G8) i1) (Ap (A5 rfl) (Ap (Ap (A5 rfl) (A5 rfl) (Cy hT3 he)) Ac Gb) i2) (neT fun q => hc (A0g labC ho.1 ho.2 (Int.ofNat.inj q))))
        (Ag (Aj (A5 rfl) (An (A6 (A5 rfl) (A6 (A5 rfl) (A6 (Aj (A5 rfl) (Cs (A6 (A5 rfl) A7) (Au (by simp))) (A4z (F := C) (G := [(lst C + k)]) (Ab q8 hC3) (Ae _ _) (by simp; exact Nat.le_trans hCn (by decide)))) A7))) e5) (A3v (Ab p9 hrf) hr9 ?_)) (Bt (Bt ⟨_, qs ++ ps, _, _, rfl, (p.trans p9).trans (Ad _ _), Ae _ _, ?_, ?_, ?_⟩)))
      · rw [hf.length, hf9.length]
        exact Nat.le_trans (Nat.le_trans (Nat.le_add_right _ _) hbd) (Nat.le_trans hpow (by decide))
      · rw [hsn]; exact (hf.grow (p9.trans (Ad _ _))).app (hf9.grow (Ad _ _))
      · exact Nat.le_trans h01.length_le (p.trans p9).length_le
      · intro q hm
        rcases List.mem_append.mp hm with hm | hm
        · exact hq q hm
        · exact hq9 q hm
  · have hM0 : M ≠ 0 := fun h => hA (hAll.mpr (hM.mp h))
    refine Bn (As tst Ac (gtT (by exact J6 (Nat.pos_of_ne_zero hM0)))) (Az (A5 rfl) ⟨rf, qs, rfl, Ab p2 hrf, ?_, h01.trans (p.trans p2), hge, hq⟩)
    rw [Tx (k := k) (by exact Nat.le_sub_of_add_le' (Nat.le_of_lt hk)) (hcut hA)]; exact hf.grow p2
theorem Mw (h2 : P 2 = some Vx) (h27 : P 27 = some A07) {r : Nat} {E : List (Nat × Nat)} (hn : n + 1 ≤ 7) (hl : E.length ≤ 16) (hok : okT (n + 1) E) : ∀ (d : Nat) {H : A0} {rc : Nat} {C : List Nat}, TL H r E → H[rc]? = some (.list (C.map Am)) → Ris E.length C.length C → Fo (Bo E C) → C.length + d = n → b ≤ rc → b ≤ H.length →
    (Ah strF P sc (m + d + 2) 27 [.int (n + 1 : Nat), .ref r, .ref rc] H).sat (GrR H b ((Ds E.length d C).filter (Go n E)))
  | 0, H, rc, C, hT, hC, hr, hF, hd, hb, hbH => by
    have e1 : ((n + 1 : Nat) : Int) - 1 = (n : Int) := by exact Lq _
    have hA : Go n E C = true := I5.mpr (A3w n (by unfold Bo; rw [List.length_map]; exact hd) (G5 hok hr.lt) hF)
    refine Ay (n := m + 1) h27 rfl (Bn (As (Ak (A6 (A5 rfl) A7) (Kj hC)) (Aj (A5 rfl) Ac Cp) (eqT (by (first | lia | omega)))) (Az (Cs (A6 (A5 rfl) A7) (Au (by simp))) ⟨_, [rc], rfl, Ae _ _, ?_, Ad _ _, Nat.le_refl _, fun q hq => by rw [List.mem_singleton.mp hq]; exact hb⟩))
    show Fa _ [rc] ([C].filter (Go n E))
    rw [List.filter_cons_of_pos hA]
    exact .cons (Ab (Ad _ _) hC) .nil
  | d + 1, H, rc, C, hT, hC, hr, hF, hd, hb, hbH => by
    have e1 : ((n + 1 : Nat) : Int) - 1 = (n : Int) := by exact Lq _
    have q1 := Ad H [Bw.list []]
    have q2 := Ad (H ++ [Bw.list []]) [Bw.list []]
    have q3 := Ad ((H ++ [Bw.list []]) ++ [Bw.list []]) [Bw.list ((Bo E C).map Av)]
    have hC2 := Ab (q1.trans q2) hC
    have hbg : Aa strF (Ah strF P sc (m + d + 2)) sc H.length (.ite (.cmp .NotEq (.var 2) (.list .nil)) (.bin .Add (.idx (.var 2) (.neg (.int 1))) (.int 1)) (.int 0)) [some (.int (n + 1 : Nat)), some (.ref r), some (.ref rc), some (.ref H.length), none, none, none, none] (H ++ [Bw.list []]) = .ok (.int (lst C)) ((H ++ [Bw.list []]) ++ [Bw.list []]) := by
      have hne := A0n (r := rc) (v := .ref (H ++ [Bw.list []]).length) (H := (H ++ [Bw.list []]) ++ [Bw.list []])
      rw [Qg (F := C) (G := []) hC2 (Ae _ _)] at hne
      obtain rfl | ⟨T, x, rfl⟩ := Do C
      · exact A43 (As (A5 rfl) (Cs A7 (Au (by simp))) hne) Ac
      · rw [decide_eq_false (by simp)] at hne
        refine A4c (As (A5 rfl) (Cs A7 (Au (by simp))) hne) (Aj (Ap (A5 rfl) (A0f Ac) (Yo hC2)) Ac (Di.trans ?_))
        rw [C5]; rfl
    refine Ay (n := m + d + 2) h27 rfl (B0 (As (Ak (A6 (A5 rfl) A7) (Kj hC)) (Aj (A5 rfl) Ac Cp) (eqF (by (first | lia | omega))))
      (Ag (Cs A7 (Au (by simp))) (Ag hbg (Ag (W0 (i := 1) (j := 2) (Ab (q1.trans q2) hT) hC2 (by exact Nat.le_trans (Nat.le_add_right _ _) (Nat.le_trans (Nat.le_of_eq hd) (Nat.le_trans (Nat.le_of_lt hn) (by decide)))) hr.lt rfl rfl)
      (E5 (Ka (A5 rfl) (Ak (A6 (A5 rfl) A7) (Cv (Ab ((q1.trans q2).trans q3) hT))) (E9 (by have := A41 hr; (first | lia | omega))) (E9 (by exact Nat.le_trans hl (by decide)))) (Ab1 (GwI H (((H ++ [Bw.list []]) ++ [Bw.list []]) ++ [Bw.list ((Bo E C).map Av)]) b n r rc ((H ++ [Bw.list []]) ++ [Bw.list []]).length C (fun k => (Ds E.length d (C ++ [lst C + k])).filter (Go n E))) (A41 hr) ⟨H.length, [], _, _, rfl, List.prefix_rfl, Ab (q2.trans q3) (Ae _ _), .nil, Nat.le_refl _, fun q hq => by cases hq⟩ ?_ ?_))))))
    · intro k ρ H' hk hI
      exact Vp h2 (List.getElem?_eq_getElem hk) hn hl hok (Ab ((q1.trans q2).trans q3) hT) (Ab q3 hC2) (Ae _ _) hr hF hd ((q1.trans q2).trans q3) hbH (fun a b c e f g h => Mw h2 h27 hn hl hok d a b c e f g h) hk hI
    · rintro ρ H' ⟨rf, qs, x5, x7, rfl, p, hrf, hf, hge, hq⟩
      refine Az (A5 rfl) ⟨rf, qs, rfl, hrf, ?_, ((q1.trans q2).trans q3).trans p, hge, hq⟩
      rw [L5, List.filter_flatMap]; exact hf
end
end Mine
namespace Mine
open PySem
noncomputable def A76 : FnI := ⟨3, 3, .cons (.expr (.call 1 (.cons (.var 0) (.cons (.var 1) .nil)))) (.cons (.ite (.cmp .Gt (.call 23 (.cons (.var 0) (.cons (.var 1) .nil))) (.var 2)) (.cons (.raise 6 "more hangings than wished") .nil) .nil) (.cons (.ret (.call 27 (.cons (.var 0) (.cons (.var 1) (.cons (.list .nil) .nil))))) .nil))⟩
structure Defs8a (P : Nat → Option FnI) : Prop where
  h0 : P 0 = some Ue
  h1 : P 1 = some A2v
  h2 : P 2 = some Vx
  h19 : P 19 = some La
  h20 : P 20 = some Mr
  h21 : P 21 = some Os
  h23 : P 23 = some Ul
  h27 : P 27 = some A07
  h28 : P 28 = some A76
section
variable {strF : Bi} {sc : List Int} {P : Nat → Option FnI} {H H0 H1 H2 H3 : A0} {n m b r : Nat} {ρ : A8} {E : List (Nat × Nat)} {most : Int}
section
variable (D : Defs8a P) (hn : n + 1 ≤ 7) (hT : TL H r E) (hl : E.length ≤ 16) (hok : okT (n + 1) E)
include D hn hT hl hok
theorem A6e (hm : tau (n + 1) E ≤ most) : (Ah strF P sc (m + 9) 28 [.int (n + 1 : Nat), .ref r, .int most] H).sat (GrR H H.length (Bz E.length n E)) := by
  obtain ⟨v, H1, e1, rfl, hp1⟩ := Res.sat_ex (Fd (strF := strF) (sc := sc) (m := m + 5) D.h19 D.h20 D.h21 D.h23 hn hT (by exact Nat.le_trans hl (by decide)) hok)
  have hlev : m + 8 = (m + 6 - n) + n + 2 := by exact congrArg (· + 2) (Nat.sub_add_cancel (Nat.le_trans (Nat.le_of_lt_succ hn) (Nat.le_add_left 6 _))).symm
  have g := Mw (strF := strF) (sc := sc) (m := m + 6 - n) (b := H.length) D.h2 D.h27 hn hl hok n (H := H1 ++ [.list []]) (rc := H1.length) (C := []) (Ab (hp1.trans (Ad _ _)) hT) (Ae _ _) ⟨rfl, fun i hi => (by cases hi), .nil⟩ .nil (Nat.zero_add _) hp1.length_le (Nat.le_trans hp1.length_le (Ad _ _).length_le)
  rw [← hlev, ← Yb hok] at g
  obtain ⟨v, H2, e2, r2, qs, rfl, hr2, hf2, hp2, hg2, hq2⟩ := Res.sat_ex g
  have p2 := (hp1.trans (Ad _ _)).trans hp2
  exact Ay D.h28 rfl (Gs (An (A6 (A5 rfl) (A6 (A5 rfl) A7)) (Kn (m := m + 6) D.h0 D.h1 (by exact Nat.succ_pos _) hn hT hl hok)) (B0 (As (An (A6 (A5 rfl) (A6 (A5 rfl) A7)) e1) (A5 rfl) (gtF (by exact T7 hm)))
    (Az (An (A6 (A5 rfl) (A6 (A5 rfl) (A6 (Cs A7 (Au (by simp))) A7))) e2) ⟨r2, qs, rfl, hr2, hf2, p2, Nat.le_trans (hp1.trans (Ad _ _)).length_le hg2, hq2⟩)))
theorem A2i (hm : most < tau (n + 1) E) : ∃ H', Ah strF P sc (m + 9) 28 [.int (n + 1 : Nat), .ref r, .int most] H = .exc 6 H' ∧ H <+: H' := by
  obtain ⟨v, H1, e1, rfl, hp1⟩ := Res.sat_ex (Fd (strF := strF) (sc := sc) (m := m + 5) D.h19 D.h20 D.h21 D.h23 hn hT (by exact Nat.le_trans hl (by decide)) hok)
  exact A8l (X := fun H' => H <+: H') (c := 6) (strF := strF) (sc := sc) (n := m + 8) (H := H) (args := [.int (n + 1 : Nat), .ref r, .int most]) D.h28 rfl
    (A90 (An (A6 (A5 rfl) (A6 (A5 rfl) A7)) (Kn (m := m + 6) D.h0 D.h1 (by exact Nat.succ_pos _) hn hT hl hok)) (A8j (As (An (A6 (A5 rfl) (A6 (A5 rfl) A7)) e1) (A5 rfl) (gtT (by exact hm))) (A69 hp1)))
end
end
end Mine
namespace Mine
open PySem
end Mine
namespace Mine
open PySem
end Mine
namespace Mine
open PySem
end Mine
namespace Mine
open PySem
section
variable {strF : Bi} {sc : List Int} {P : Nat → Option FnI} {H H0 H1 H2 H3 : A0} {n m b : Nat} {ρ : A8} {cf : Nat → List AV → A0 → Res AV} {N : A8 → A0 → Prop} {R : AV → A0 → Prop} {K K' : AV → A0 → Prop} {x y : PE} {es : PEs} {ss : PSs} {v w : AV} {vs : List AV}
theorem Ph {r : Nat} {xs : List AV} (h : H[r]? = some (.list xs)) : Fp H (.ref r) = some xs := by
  show (H[r]?).bind A2w = _
  rw [h]; rfl
theorem Aay {i j : Int} (h1 : -1000 ≤ j) (h2 : j ≤ 1000) : Bg .Mult (.int i) (.int j) H = .ok (.int (i * j)) H := by
  rw [Tc, if_pos]
  unfold E8
  rw [Kb h1 h2, Bool.or_true]; rfl
theorem Sg {r : Nat} {F : List Nat} (h : H[r]? = some (.list (F.map Am))) (hl : F.length < 64) : prim strF sc .sorted [.ref r] H = .ok (.ref H.length) (H ++ [.list ((C7 (F.map fun (p : Nat) => (p : Int))).map .int)]) := by
  rw [K0, h]
  show (if (F.map Am).length < 64 then _ else _) = _
  rw [if_pos (by rw [List.length_map]; exact hl), C2]
  exact Au (by rw [List.length_map, Ea, List.length_map]; exact oR3 hl)
noncomputable def rk (c : Int) (i : Nat) : Int × Int := (((i : Int) * (c.fmod 97 + 1)).fmod 97 * 17 + (i : Int), (i : Int))
end
end Mine
namespace Mine
open PySem
section
variable {strF : Bi} {sc : List Int} {P : Nat → Option FnI} {H H0 H1 H2 H3 : A0} {n m b : Nat} {ρ : A8} {cf : Nat → List AV → A0 → Res AV} {N : A8 → A0 → Prop} {R : AV → A0 → Prop} {K K' : AV → A0 → Prop} {x y : PE} {es : PEs} {ss : PSs} {v w : AV} {vs : List AV} {p : A0 → AV → Prop} {k k' : Nat}
theorem A91 {c d : Int} {n k : Nat} (hd : d = (n : Int)) (e : c.fmod n = k) (h : 0 < n) : Bg .Mod (.int c) (.int d) H = .ok (.int k) H := by subst hd; exact Kv e h
theorem Xd {α : Type} {r : Res α} {a : α} {H : A0} {K : α → A0 → Prop} (e : r = .ok a H) (h : K a H) : r.sat K := by rw [e]; exact h
end
end Mine
namespace Mine
open PySem
section
variable {strF : Bi} {sc : List Int} {P : Nat → Option FnI} {H H0 H1 H2 H3 : A0} {n m b : Nat} {ρ : A8} {cf : Nat → List AV → A0 → Res AV} {N : A8 → A0 → Prop} {R : AV → A0 → Prop} {K K' : AV → A0 → Prop} {x y : PE} {es : PEs} {ss : PSs} {v w : AV} {vs : List AV}
theorem A7u {q r : Nat} {xs ys : List AV} (h1 : Aa strF cf sc b x ρ H = .ok (.ref r) H1) (h2 : Aa strF cf sc b y ρ H1 = .ok (.ref q) H2) (h3 : H2[r]? = some (.list xs)) (h4 : H2[q]? = some (.list ys)) : Dy strF cf sc b (.zip x y) ρ H = .ok (Fz xs ys, [(r, xs), (q, ys)]) H2 := by
  show (Aa strF cf sc b x ρ H).get _ = _
  rw [h1]; show (Aa strF cf sc b y ρ H1).get _ = _
  rw [h2]
  show (match H2[r]?, H2[q]? with | some (.list xs), some (.list ys) => Res.ok (Fz xs ys, [(r, xs), (q, ys)]) H2 | _, _ => .bad) = _
  rw [h3, h4]
theorem A8d (h9 : P 9 = some A34) (hv : R4 v = true) : Ah strF P sc (m + 1) 9 [v] H = .ok (.bool (Cj v).isSome) H := by
  cases v with
  | int i => exact Fl (Ay h9 rfl (Az (Fw (Dm (Ak (A6 (A5 rfl) A7) (D6 rfl)) (Kd (Qp (Ak (A6 (A5 rfl) A7) (Dk rfl)))))) ⟨rfl, rfl⟩))
  | bool c => exact Fl (Ay h9 rfl (Az (Fw (Dm (Ak (A6 (A5 rfl) A7) (D6 rfl)) (Kd (A3i (Ak (A6 (A5 rfl) A7) (Dk rfl)))))) ⟨rfl, rfl⟩))
  | scr => cases hv
  | fn k => cases hv
  | exc c => cases hv
  | _ => exact Fl (Ay h9 rfl (Az (Fw (M7 (Ak (A6 (A5 rfl) A7) (D6 rfl)))) ⟨rfl, rfl⟩))
noncomputable def tw (l : Nat) (v : AV) : Bool := match Cj v with
  | some i => decide (0 ≤ i) && decide (i < l)
  | none => false
theorem A9p {r : Nat} {E : List (Nat × Nat)} (h9 : P 9 = some A34) (hT : TL H r E) (hr : ρ[1]? = some (some (.ref r))) (hv : R4 v = true) :
    Aa strF (Ah strF P sc (m + 1)) sc b (.and (.cons (.call 9 (.cons (.var 0) .nil)) (.cons (.cmp2 .LtE .Lt (.int 0) (.var 0) (.prim .len (.cons (.var 2) .nil))) .nil))) (some v :: ρ) H = .ok (.bool (tw E.length v)) H := by
  have hw := A8d (strF := strF) (sc := sc) (m := m) (H := H) h9 hv
  by_cases hi : ∃ i, v = .int i
  · obtain ⟨i, rfl⟩ := hi
    by_cases h0 : 0 ≤ i
    · refine Fw (Dm (An (A6 (A5 rfl) A7) hw) (Kd ((Vd Ac (A5 rfl) (leT h0) (Ak (A6 (A5 (i := 2) (ρ := some (.int i) :: ρ) hr) A7) (Cv hT)) Yn).trans ?_)))
      show _ = Res.ok (AV.bool (decide (0 ≤ i) && decide (i < (E.length : Int)))) H
      rw [decide_eq_true h0]; rfl
    · refine Fw (Dm (An (A6 (A5 rfl) A7) hw) (Kd ((Wc Ac (A5 rfl) (leF h0)).trans ?_)))
      show _ = Res.ok (AV.bool (decide (0 ≤ i) && decide (i < (E.length : Int)))) H
      rw [decide_eq_false h0]; rfl
  · have h2 : Cj v = none := by
      cases v with
      | int i => exact absurd ⟨i, rfl⟩ hi
      | _ => rfl
    rw [h2] at hw
    refine (Fw (M7 (An (A6 (A5 rfl) A7) hw))).trans ?_
    unfold tw; rw [h2]
theorem Lp {α : Type} {f : α → Bool} : ∀ (l : List α), Du (l.map fun x => AV.bool (f x)) = some (l.map f)
  | [] => rfl
  | x :: l => by
    show (Du (l.map fun x => AV.bool (f x))).map (f x :: ·) = _
    rw [Lp l]; rfl
theorem all_map {α : Type} {r : Nat} {f : α → Bool} {l : List α} (h : H[r]? = some (.list (l.map fun x => AV.bool (f x)))) : prim strF sc .all [.ref r] H = .ok (.bool (l.all f)) H := by
  rw [A0z, h]
  show (match Du (l.map fun x => AV.bool (f x)) with | some bs => Res.ok (AV.bool (bs.all id)) H | none => .bad) = _
  rw [Lp]
  show Res.ok (AV.bool ((l.map f).all id)) H = _
  rw [List.all_map]; rfl
theorem A5e {l : Nat} {S : List Nat} (h : ∀ i ∈ S, i < l) : (S.map Am).all (tw l) = true := List.all_eq_true.mpr fun x hx => by
  obtain ⟨i, hi, rfl⟩ := List.mem_map.mp hx
  show (decide ((0 : Int) ≤ (i : Int)) && decide ((i : Int) < (l : Int))) = true
  have := h i hi
  rw [decide_eq_true (by exact oNN _), decide_eq_true (by exact J6 this)]; rfl
theorem A65 (xs : List AV) : cut xs (some 1) none = xs.drop 1 := by
  show (xs.take xs.length).drop (cutAt xs.length 1) = _
  rw [List.take_length]
  cases xs with
  | nil => rfl
  | cons x xs =>
    have : cutAt (x :: xs).length 1 = 1 := congrArg (fun z : Int => (max 0 z).toNat) (Int.min_eq_left (Int.ofNat_le.mpr (Nat.succ_le_succ (Nat.zero_le xs.length))) : min (1 : Int) ((xs.length + 1 : Nat) : Int) = 1)
    rw [this]
theorem A67 {f : AV → AV} {ws : List (Nat × List AV)} {step : AV → A0 → Res (Option AV)} {xs : List AV} (hw : ∀ w ∈ ws, H[w.1]? = some (.list w.2)) (h : ∀ a ∈ xs, step a H = .ok (some (f a)) H) : Bh ws step xs H = .ok (xs.map f) H := by
  have := I6 (g := fun x => x) (f := f) hw xs h
  rwa [List.map_id'] at this
end
end Mine
namespace Mine
open PySem
section
variable {n : Nat} {E : List (Nat × Nat)} {A B S T : List Nat} {x y c f g : Nat}
noncomputable abbrev ed (E : List (Nat × Nat)) (i : Nat) : Nat × Nat := E.getD i (0, 0)
end
end Mine
namespace Mine
open PySem
structure Hg (n : Nat) (E : List (Nat × Nat)) (A : List Nat) : Prop where
  r : Ris E.length n A
  c : F9 (n + 1) (Bo E A)
end Mine
namespace Mine
open PySem
end Mine
namespace Mine
open PySem
end Mine
namespace Mine
open PySem
section
variable {strF : Bi} {sc : List Int} {P : Nat → Option FnI} {H H0 H1 H2 H3 : A0} {n m b : Nat} {ρ : A8} {cf : Nat → List AV → A0 → Res AV} {N : A8 → A0 → Prop} {R : AV → A0 → Prop} {K K' : AV → A0 → Prop} {x y : PE} {es : PEs} {ss : PSs} {v w : AV} {vs : List AV} {A B C : List Nat} {E : List (Nat × Nat)} {r qa qb : Nat}
theorem Vn (pw : A.Pairwise (· < ·)) : (B6 (C7 (A.map fun (p : Nat) => (p : Int)))).map AV.int = A.map Am := by
  obtain ⟨h1, h2⟩ := J1 (Oe (A.map fun (p : Nat) => (p : Int)))
  have e := Hm h1 (List.pairwise_map.mpr (pw.imp fun h => by exact J6 h)) fun x => (h2 x).trans (Ks (l := A.map fun (p : Nat) => (p : Int)))
  rw [e, List.map_map]; rfl
theorem Ze {q : Nat} (hq : H[q]? = some (.list (A.map Am))) (pw : A.Pairwise (· < ·)) (hl : A.length < 64) : prim strF sc .sortedSet [.ref q] H = .ok (.ref H.length) (H ++ [.list (A.map Am)]) := by
  show (match H[q]? with
      | some (.list xs) => if xs.length < 64 then (match Bc xs with
          | some is => B7 ((B6 (C7 is)).map .int) H
          | none => .bad) else .bad
      | _ => .bad) = _
  rw [hq]
  show (if (A.map Am).length < 64 then _ else _) = _
  rw [if_pos (by rw [List.length_map]; exact hl), C2]
  show B7 ((B6 (C7 (A.map fun (p : Nat) => (p : Int)))).map .int) H = _
  rw [Vn pw]
  exact Au (by rw [List.length_map]; exact oR3 hl)
end
end Mine
namespace Mine
open PySem
noncomputable def ltN (A B : List Nat) : Bool := ltL (A.map fun (p : Nat) => (p : Int)) (B.map fun (p : Nat) => (p : Int))
theorem I7 {a c : Nat} {A B : List Nat} : ltN (a :: A) (c :: B) = if a = c then ltN A B else decide (a < c) := by
  show (if (a : Int) = (c : Int) then ltL _ _ else decide ((a : Int) < (c : Int))) = _
  by_cases h : a = c
  · rw [if_pos h, if_pos (by exact A68 h)]; rfl
  · rw [if_neg h, if_neg (by exact A0i h)]
    exact decide_eq_decide.mpr (by exact Int.ofNat_lt)
theorem Ve : ∀ (A B : List Nat), ltN (up A) (up B) = ltN A B
  | [], [] => rfl
  | [], _ :: _ => rfl
  | _ :: _, [] => rfl
  | a :: A, c :: B => by
    show ltN ((a + 1) :: up A) ((c + 1) :: up B) = _
    rw [I7, I7, Ve A B]
    by_cases h : a = c
    · rw [if_pos h, if_pos (by exact A0b h)]
    · rw [if_neg h, if_neg (by exact Abc h)]
      exact decide_eq_decide.mpr (by (first | lia | omega))
theorem Wk : ∀ (A : List Nat), ltN A A = false
  | [] => rfl
  | a :: A => by rw [I7, if_pos rfl, Wk A]
theorem Fq : ∀ (m k : Nat), (D3 m k).Pairwise fun A B => ltN A B = true
  | m, 0 => by rw [Cl]; exact List.pairwise_singleton _ _
  | 0, k + 1 => by rw [F5]; exact .nil
  | m + 1, k + 1 => by
    rw [D8]
    refine List.pairwise_append.mpr ⟨List.pairwise_map.mpr ((Fq m k).imp fun {A B} h => ?_), List.pairwise_map.mpr ((Fq m (k + 1)).imp fun {A B} h => by rw [Ve]; exact h), fun A hA B hB => ?_⟩
    · show ltN (0 :: up A) (0 :: up B) = true
      rw [I7, if_pos rfl, Ve]; exact h
    · obtain ⟨A', _, rfl⟩ := List.mem_map.mp hA
      obtain ⟨B', hB', rfl⟩ := List.mem_map.mp hB
      have hl := (Et hB').len
      cases B' with
      | nil => cases hl
      | cons c B' =>
        show ltN (0 :: up A') ((c + 1) :: up B') = true
        rw [I7, if_neg (by exact Nat.ne_of_lt (Nat.succ_pos _))]
        exact decide_eq_true (by exact Nat.succ_pos _)
section
variable {n : Nat} {E : List (Nat × Nat)} {S T : List Nat}
theorem Ls (hok : okT (n + 1) E) : (Bz E.length n E).Pairwise fun A B => ltN A B = true := by
  rw [← Dz (g := Go n E) E.length rfl hok fun S hS => I5]
  exact (Fq _ _).sublist List.filter_sublist
end
end Mine
namespace Mine
open PySem
noncomputable def A0u : FnI := ⟨3, 3, .cons (.ite (.or (.cons (.not (.prim .isList (.cons (.var 2) .nil))) (.cons (.not (.prim .all (.cons (.comp1 (.and (.cons (.call 9 (.cons (.var 0) .nil)) (.cons (.cmp2 .LtE .Lt (.int 0) (.var 0) (.prim .len (.cons (.var 2) .nil))) .nil))) (.of (.var 2)) .none) .nil))) .nil))) (.cons (.ret (.bool false)) .nil) .nil) (.cons (.ret (.and (.cons (.cmp .Eq (.var 2) (.sset (.var 2))) (.cons (.call 54 (.cons (.var 0) (.cons (.var 1) (.cons (.var 2) .nil)))) .nil)))) .nil)⟩
noncomputable def A7f : FnI := ⟨3, 5, .cons (.ite (.cmp .Gt (.var 2) (.int 200)) (.cons (.tryExpr (.call 28 (.cons (.var 0) (.cons (.prim .list (.cons (.var 1) .nil)) (.cons (.bin .Sub (.var 2) (.int 1)) .nil)))) 6 none (.cons (.ret (.bool true)) .nil)) (.cons (.ret (.bool false)) .nil)) .nil) (.cons (.assign 3 (.call 28 (.cons (.var 0) (.cons (.prim .list (.cons (.var 1) .nil)) (.cons (.var 2) .nil))))) (.cons (.ite (.or (.cons (.not (.prim .isList (.cons (.var 3) .nil))) (.cons (.cmp .NotEq (.prim .len (.cons (.var 3) .nil)) (.var 2)) .nil))) (.cons (.ret (.bool false)) .nil) .nil) (.cons (.for1 4 (.of (.var 3)) (.cons (.ite (.not (.call 85 (.cons (.var 0) (.cons (.var 1) (.cons (.var 4) .nil))))) (.cons (.ret (.bool false)) .nil) .nil) .nil)) (.cons (.ret (.prim .all (.cons (.comp2 (.cmp .Lt (.var 0) (.var 1)) (.zip (.var 3) (.slice (.var 3) (.some (.int 1)) .none))) .nil))) .nil))))⟩
section
variable {strF : Bi} {sc : List Int} {P : Nat → Option FnI} {H H0 H1 H2 H3 : A0} {n m b : Nat} {ρ : A8} {cf : Nat → List AV → A0 → Res AV} {N : A8 → A0 → Prop} {R : AV → A0 → Prop} {K K' : AV → A0 → Prop} {x y e : PE} {es : PEs} {ss tt : PSs} {v w : AV} {vs : List AV} {A B S T : List Nat} {E : List (Nat × Nat)} {r c : Nat}
theorem Qd {p q : Nat} (hp : H[p]? = some (.list (S.map Am))) (hq : H[q]? = some (.list (T.map Am))) : B4 .Lt (.ref p) (.ref q) H = some (ltN S T) := by
  show A1w (.ref p) (.ref q) H = _
  unfold A1w
  rw [Ph hp, Ph hq]
  show ((Bc (S.map Am)).bind fun is => (Bc (T.map Am)).map fun js => ltL is js) = _
  rw [C2, C2]; rfl
theorem A5b {d : Nat} (h : Aa strF cf sc b e ρ H = .exc d H1) (hr : Ki e = true) (hm : d = c ∨ c = 0) (q : (Ai strF cf sc b tt ρ H1).sat (fun _ _ => False) R) : (Ai strF cf sc b (.cons (.tryExpr e c none tt) ss) ρ H).sat N R := by
  show (match Fy strF cf sc b (.tryExpr e c none tt) ρ H with | .next ρ H => Ai strF cf sc b ss ρ H | r => r).sat N R
  have e1 : Fy strF cf sc b (.tryExpr e c none tt) ρ H = Fc (Ai strF cf sc b tt ρ H1) := by
    show (match Aa strF cf sc b e ρ H with | .ok _ H => SR.next ρ H | .exc d H => (if Ki e = true ∧ (d = c ∨ c = 0) then Fc (Ai strF cf sc b tt ρ H) else .bad) | .bad => .bad) = _
    rw [h]; exact if_pos ⟨hr, hm⟩
  rw [e1]
  cases e2 : Ai strF cf sc b tt ρ H1 with
  | ret v H2 => rw [e2] at q; exact q
  | next ρ2 H2 => rw [e2] at q; exact q.elim
  | exc _ _ => rw [e2] at q; exact q.elim
  | bad => rw [e2] at q; exact q.elim
theorem A2k (h9 : P 9 = some A34) (h10 : P 10 = some Sw) (h54 : P 54 = some Wi) (h85 : P 85 = some A0u) {q : Nat} (hn : n + 1 ≤ 7) (hT : TL H r E) (hok : okT (n + 1) E) (hq : H[q]? = some (.list (S.map Am))) (hg : Hg n E S) :
    (Ah strF P sc (m + 3) 85 [.int (n + 1 : Nat), .ref r, .ref q] H).sat fun v H' => v = .bool true ∧ H <+: H' := by
  have hcl := hg.r.len
  have p2 := Ad H [.list ((S.map Am).map fun x => AV.bool (tw E.length x))]
  have al : ∀ ρ : A8, ρ[1]? = some (some (.ref r)) → ρ[2]? = some (some (.ref q)) → Bp strF (Ah strF P sc (m + 2)) sc H.length (.prim .all (.cons (.comp1 (.and (.cons (.call 9 (.cons (.var 0) .nil)) (.cons (.cmp2 .LtE .Lt (.int 0) (.var 0) (.prim .len (.cons (.var 2) .nil))) .nil))) (.of (.var 2)) .none) .nil)) ρ H = .ok true (H ++ [.list ((S.map Am).map fun x => AV.bool (tw E.length x))]) := fun ρ g1 g2 => by
    have := Ft (strF := strF) (cf := Ah strF P sc (m + 2)) (sc := sc) (b := H.length) (ρ := ρ) (H := H) (p := .all) (A6 (Eb (x := .and (.cons (.call 9 (.cons (.var 0) .nil)) (.cons (.cmp2 .LtE .Lt (.int 0) (.var 0) (.prim .len (.cons (.var 2) .nil))) .nil))) (c := .none) (Em (A5 g2) hq) (A67 (Sk hq) fun a ha => Eh (A9p (m := m + 1) h9 hT g1 (by obtain ⟨i, _, rfl⟩ := List.mem_map.mp ha; rfl))) (Au (by rw [List.length_map]; show (S.map Am).length ≤ 1000; rw [List.length_map]; exact oR0 hn hcl))) A7) (all_map (Ae _ _))
    rwa [A5e hg.r.lt] at this
  have h2 := Ab p2 hq
  have hT2 : TL _ r E := Ab p2 hT
  generalize H ++ [.list ((S.map Am).map fun x => AV.bool (tw E.length x))] = H2 at p2 al h2 hT2
  have p3 := Ad H2 [.list (S.map Am)]
  have ess := Ze (strF := strF) (sc := sc) h2 hg.r.pw (by exact oR2 hn hcl)
  have h3 := Ab p3 h2
  have hT3 : TL _ r E := Ab p3 hT2
  have g3 := Ae H2 (.list (S.map Am))
  generalize H2 ++ [.list (S.map Am)] = H3 at p3 ess h3 hT3 g3
  refine bC fun hno => ?_
  have heq := A17 (r := q) (v := .ref H2.length) (H := H3)
  rw [Qg h3 g3, decide_eq_true rfl] at heq
  obtain ⟨v, H4, e4, t, rfl, ht4, hp4⟩ := Res.sat_ex (Se (strF := strF) (sc := sc) (m := m) h10 h54 hn hT3 hok h3 hcl hg.r.lt)
  obtain rfl : t = true := ht4.mpr hg.c
  refine hno ?_
  exact Ay h85 rfl (B0 (Pe (Bf (Cu (Ft (A6 (A5 rfl) A7) (D2 (Iq hq)))) (Bf (Cu (al _ rfl rfl)) I1)))
    (Az (Fw (Dm (Hb (A5 rfl) (A7o (A5 rfl) ess) heq) (Kd (An (A6 (A5 rfl) (A6 (A5 rfl) (A6 (A5 rfl) A7))) e4)))) ⟨rfl, (p2.trans p3).trans hp4⟩))
theorem Vm (hok : okT (n + 1) E) (h : S ∈ Bz E.length n E) : Hg n E S := ⟨Jz _ h, Tk rfl hok h⟩
theorem Uj : ∀ (A B : List Nat), Fz (A.map AV.ref) (B.map AV.ref) = (A.zip B).map fun p => AV.tup [.ref p.1, .ref p.2]
  | [], B => by cases B <;> rfl
  | a :: A, [] => rfl
  | a :: A, c :: B => by
    show AV.tup [.ref a, .ref c] :: Fz (A.map AV.ref) (B.map AV.ref) = _
    rw [Uj A B]; rfl
inductive AgI (H0 : A0) (n r q : Nat) (x : Int) (k : Nat) (ρ : A8) (H : A0) : Prop
  | mk (x4 : Option AV) (hρ : ρ = [some (.int (n + 1 : Nat)), some (.ref r), some (.int x), some (.ref q), x4]) (hp : H0 <+: H) : AgI H0 n r q x k ρ H
structure Defs86 (P : Nat → Option FnI) : Prop extends Defs8a P where
  h9 : P 9 = some A34
  h10 : P 10 = some Sw
  h54 : P 54 = some Wi
  h85 : P 85 = some A0u
  h86 : P 86 = some A7f
theorem Q9 {xs : List AV} (h : H[r]? = some (.list xs)) (hl : xs.length ≤ 1000) : prim strF sc .list [.ref r] H = .ok (.ref H.length) (H ++ [.list xs]) := Ox h hl
theorem Zd (D : Defs86 P) (hn : n + 1 ≤ 7) (hT : TL H r E) (hl : E.length ≤ 16) (hok : okT (n + 1) E) : (Ah strF P sc (m + 10) 86 [.int (n + 1 : Nat), .ref r, .int (tau (n + 1) E)] H).sat fun v H' => v = .bool true ∧ H <+: H' := by
  have el := Q9 (strF := strF) (sc := sc) hT (by rw [List.length_map]; exact Nat.le_trans hl (by decide))
  have p1 := Ad H [.list (E.map Av)]
  have hh := Ae H (.list (E.map Av))
  have hT1 : TL _ r E := Ab p1 hT
  generalize H ++ [.list (E.map Av)] = H1 at el p1 hh hT1
  by_cases h2 : 200 < tau (n + 1) E
  · refine bC fun hno => ?_
    obtain ⟨H2, e2, hp2⟩ := A2i (strF := strF) (sc := sc) (m := m) (most := tau (n + 1) E - 1) D.toDefs8a hn hh hl hok (by (first | lia | omega))
    refine hno ?_
    exact Ay D.h86 rfl (Bn (As (A5 rfl) Ac (gtT h2)) (A5b (A4j (A6 (A5 rfl) (A6 (Ak (A6 (A5 rfl) A7) el) (A6 (Aj (A5 rfl) Ac Cp) A7))) e2) rfl (.inl rfl) (Az Kx ⟨rfl, p1.trans hp2⟩)))
  · refine bC fun hno => ?_
    obtain ⟨v, H2, e2, q, qs, rfl, hq, hf, hp2, hge, hqs⟩ := Res.sat_ex (A6e (strF := strF) (sc := sc) (m := m) (most := tau (n + 1) E) D.toDefs8a hn hh hl hok (Int.le_refl _))
    have hlen := G4 E.length rfl hok
    have hql := hf.length
    have p2 := p1.trans hp2
    have hq9 : qs.length ≤ 1000 := by (first | lia | omega)
    refine hno ?_
    refine Ay D.h86 rfl (B0 (As (A5 rfl) Ac (gtF h2)) (Ag (An (A6 (A5 rfl) (A6 (Ak (A6 (A5 rfl) A7) el) (A6 (A5 rfl) A7))) e2)
      (B0 (Pe (Bf (Cu (Ft (A6 (A5 rfl) A7) (D2 (Iq hq)))) (Bf (As (Ak (A6 (A5 rfl) A7) (Eu hq)) (A5 rfl) (neF (by rw [List.length_map, hql, hlen]))) I1)))
      (E5 (Em (A5 rfl) hq) (El (AgI H2 n r q (tau (n + 1) E)) ⟨_, rfl, List.prefix_rfl⟩ ?_ ?_)))))
    · rintro j v ρ H3 hv ⟨x4, rfl, hp3⟩
      refine bC fun hno => ?_
      rw [List.getElem?_map] at hv
      obtain ⟨qc, hqc, rfl⟩ := Option.map_eq_some_iff.mp hv
      obtain ⟨C, hC, hCq⟩ := hf.get hqc
      obtain ⟨v, H4, e4, rfl, hp4⟩ := Res.sat_ex (A2k (strF := strF) (sc := sc) (m := m + 6) D.h9 D.h10 D.h54 D.h85 hn (Ab (p2.trans hp3) hT) hok (Ab hp3 hCq) (Vm hok (List.mem_of_getElem? hC)))
      refine hno ?_
      exact B0 (Cu (Ht (A6 (A5 rfl) (A6 (A5 rfl) (A6 (A5 rfl) A7))) e4)) (Bt ⟨⟨_, rfl, hp3.trans hp4⟩, Ab (hp3.trans hp4) hq⟩)
    · rintro ρ H3 ⟨x4, rfl, hp3⟩
      have hq3 := Ab hp3 hq
      have ps := Ad H3 [.list ((qs.drop 1).map AV.ref)]
      have es : Aa strF (Ah strF P sc (m + 9)) sc H.length (.slice (.var 3) (.some (.int 1)) .none) [some (.int (n + 1 : Nat)), some (.ref r), some (.int (tau (n + 1) E)), some (.ref q), x4] H3 = .ok (.ref H3.length) (H3 ++ [.list ((qs.drop 1).map AV.ref)]) := by
        refine D1 (A5 rfl) (E6 Ac) E4 hq3 ?_
        rw [A65, ← List.map_drop]
        exact Au (by rw [List.length_map, List.length_drop]; exact Nat.le_trans (Nat.sub_le _ _) hq9)
      have hq4 := Ab ps hq3
      have hz := Ae H3 (.list ((qs.drop 1).map AV.ref))
      have hf4 := (hf.grow hp3).grow ps
      generalize H3 ++ [.list ((qs.drop 1).map AV.ref)] = H4 at ps es hq4 hz hf4
      have hw : ∀ w ∈ [(q, qs.map AV.ref), (H3.length, (qs.drop 1).map AV.ref)], H4[w.1]? = some (.list w.2) := fun w hw => by
        rcases List.mem_cons.mp hw with rfl | hw
        · exact hq4
        · rw [List.mem_singleton.mp hw]; exact hz
      have pz := Ad H4 [.list ((qs.zip (qs.drop 1)).map fun _ => AV.bool true)]
      have hall := all_map (strF := strF) (sc := sc) (f := fun _ : Nat × Nat => true) (Ae H4 (.list ((qs.zip (qs.drop 1)).map fun _ => AV.bool true)))
      rw [show (qs.zip (qs.drop 1)).all (fun _ : Nat × Nat => true) = true from List.all_eq_true.mpr fun _ _ => rfl] at hall
      refine Az (Ak (A6 (Rd (A7u (A5 rfl) es hq4 hz) (by
        rw [Uj]
        exact I6 (f := fun _ => AV.bool true) hw (qs.zip (qs.drop 1)) fun p hp => by
          refine bC fun hno => ?_
          obtain ⟨j, hj⟩ := List.mem_iff_getElem?.mp hp
          obtain ⟨j1, j2⟩ := List.getElem?_zip_eq_some.mp hj
          rw [List.getElem?_drop, Nat.add_comm] at j2
          obtain ⟨C, hC, hCq⟩ := hf4.get j1
          obtain ⟨C', hC', hCq'⟩ := hf4.get j2
          have hlt : ltN C C' = true := by
            obtain ⟨a1, a2⟩ := List.getElem?_eq_some_iff.mp hC
            obtain ⟨b1, b2⟩ := List.getElem?_eq_some_iff.mp hC'
            have := List.pairwise_iff_getElem.mp (Ls (E := E) (n := n) hok) j (j + 1) a1 b1 (Nat.lt_succ_self _)
            rwa [a2, b2] at this
          have := Qd hCq hCq'
          rw [hlt] at this
          refine hno ?_
          exact Uw (Hb (A5 rfl) (A5 rfl) this)) (Au (by rw [List.length_map, List.length_zip]; exact Nat.le_trans (Nat.min_le_left _ _) hq9))) A7) hall) ⟨rfl, ((p2.trans hp3).trans ps).trans pz⟩
end
end Mine
namespace Mine
open PySem
noncomputable def A7a : FnI := ⟨4, 8, .cons (.assign 4 (.call 33 (.cons (.var 1) (.cons (.prim .list (.cons (.var 2) .nil)) .nil)))) (.cons (.ite (.or (.cons (.not (.prim .isList (.cons (.var 4) .nil))) (.cons (.cmp .NotEq (.prim .len (.cons (.var 4) .nil)) (.prim .len (.cons (.var 2) .nil))) (.cons (.cmp .NotEq (.prim .sum (.cons (.var 4) .nil)) (.bin .Mult (.var 3) (.bin .Sub (.var 1) (.int 1)))) .nil)))) (.cons (.ret (.bool false)) .nil) .nil) (.cons (.ite (.cmp .Eq (.var 2) (.list .nil)) (.cons (.ret (.bool true)) .nil) .nil) (.cons (.assign 5 (.bin .Mod (.call 6 (.cons (.var 0) (.cons (.int 30) .nil))) (.prim .len (.cons (.var 2) .nil)))) (.cons (.assigns [6, 7] (.idx (.var 2) (.var 5))) (.cons (.ret (.cmp .Eq (.idx (.var 4) (.var 5)) (.bin .Mult (.bin .Sub (.var 3) (.call 24 (.cons (.var 1) (.cons (.bin .Add (.slice (.var 2) .none (.some (.var 5))) (.slice (.var 2) (.some (.bin .Add (.var 5) (.int 1))) .none)) .nil)))) (.prim .int (.cons (.cmp .NotEq (.var 6) (.var 7)) .nil))))) .nil)))))⟩
noncomputable def A7m : FnI := ⟨4, 6, .cons (.ite (.cmp .Eq (.var 3) (.int 0)) (.cons (.ret (.bool true)) .nil) .nil) (.cons (.assign 4 (.prim .sorted (.cons (.list (.cons (.bin .Mod (.bin .Mult (.call 6 (.cons (.var 0) (.cons (.int 30) .nil))) (.int 31)) (.var 3)) (.cons (.bin .Mod (.bin .Mult (.call 6 (.cons (.var 0) (.cons (.int 31) .nil))) (.int 17)) (.var 3)) .nil))) .nil))) (.cons (.assign 5 (.comp1 (.call 30 (.cons (.var 2) (.cons (.prim .list (.cons (.var 3) .nil)) (.cons (.var 0) .nil)))) (.of (.var 4)) .none)) (.cons (.ite (.not (.prim .all (.cons (.comp1 (.call 85 (.cons (.var 2) (.cons (.var 3) (.cons (.var 0) .nil)))) (.of (.var 5)) .none) .nil))) (.cons (.ret (.bool false)) .nil) .nil) (.cons (.ite (.or (.cons (.cmp .NotEq (.cmp .Lt (.idx (.var 4) (.int 0)) (.idx (.var 4) (.int 1))) (.cmp .Lt (.idx (.var 5) (.int 0)) (.idx (.var 5) (.int 1)))) (.cons (.cmp .NotEq (.call 31 (.cons (.var 1) (.cons (.prim .list (.cons (.var 2) .nil)) (.cons (.idx (.var 5) (.int 0)) .nil)))) (.idx (.var 4) (.int 0))) .nil))) (.cons (.ret (.bool false)) .nil) .nil) (.cons (.ret (.cmp .Eq (.call 31 (.cons (.var 1) (.cons (.prim .list (.cons (.var 2) .nil)) (.cons (.idx (.var 5) (.int 1)) .nil)))) (.idx (.var 4) (.int 1)))) .nil)))))⟩
noncomputable def A6s : FnI := ⟨1, 5, .cons (.assigns [1, 2] (.call 8 (.cons (.var 0) (.cons (.int 7) (.cons (.int 16) .nil))))) (.cons (.assign 3 (.call 24 (.cons (.var 1) (.cons (.prim .list (.cons (.var 2) .nil)) .nil)))) (.cons (.assign 4 (.bin .Mod (.call 6 (.cons (.var 0) (.cons (.int 3) .nil))) (.int 4))) (.cons (.ite (.cmp .Lt (.var 4) (.int 2)) (.cons (.ret (.call 86 (.cons (.var 1) (.cons (.var 2) (.cons (.var 3) .nil))))) .nil) .nil) (.cons (.ite (.cmp .Eq (.var 4) (.int 2)) (.cons (.ret (.call 87 (.cons (.var 0) (.cons (.var 1) (.cons (.var 2) (.cons (.var 3) .nil)))))) .nil) .nil) (.cons (.ret (.call 88 (.cons (.var 0) (.cons (.var 1) (.cons (.var 2) (.cons (.var 3) .nil)))))) .nil)))))⟩
structure Fu (P : Nat → Option FnI) : Prop extends Defs86 P where
  h5 : P 5 = some P9
  h6 : P 6 = some Qn
  h7 : P 7 = some A58
  h8 : P 8 = some A5l
  h14 : P 14 = some Pi
  h16 : P 16 = some Pr
  h17 : P 17 = some Ta
  h24 : P 24 = some A3y
  h25 : P 25 = some Wn
  h29 : P 29 = some A2q
  h30 : P 30 = some A15
  h31 : P 31 = some A2m
  h32 : P 32 = some A0l
  h33 : P 33 = some A0d
  h87 : P 87 = some A7a
  h88 : P 88 = some A7m
  h89 : P 89 = some A6s
section
variable {P : Nat → Option FnI}
theorem Fu.t (D : Fu P) : DefsT P := ⟨D.h0, D.h1, D.h19, D.h20, D.h21, D.h23⟩
theorem Fu.n (D : Fu P) : Wv P := ⟨D.t, D.h2, D.h14, D.h16, D.h17, D.h25, D.h29, D.h30, D.h31⟩
theorem Fu.s (D : Fu P) : A16 P := ⟨D.t, D.h14, D.h16, D.h17, D.h32, D.h33⟩
end
section
variable {strF : Bi} {sc : List Int} {P : Nat → Option FnI} {H H0 H1 H2 H3 : A0} {n m b : Nat} {ρ : A8} {cf : Nat → List AV → A0 → Res AV} {N : A8 → A0 → Prop} {R : AV → A0 → Prop} {K K' : AV → A0 → Prop} {x y e : PE} {es : PEs} {ss tt : PSs} {v w : AV} {vs : List AV} {A B S T : List Nat} {E : List (Nat × Nat)} {r c : Nat}
theorem Wd (D : Fu P) (hn : n + 1 ≤ 7) (hT : TL H r E) (hl : E.length ≤ 16) (hok : okT (n + 1) E) : (Ah strF P sc (m + 4) 24 [.int (n + 1 : Nat), .ref r] H).sat (T0 H (tau (n + 1) E)) :=
  Zq D.h0 D.h1 D.h19 D.h20 D.h21 D.h23 D.h24 hn hT hl hok
theorem A32 (D : Fu P) (hn : n + 1 ≤ 7) (hT : TL H r E) (hl : E.length ≤ 16) (hok : okT (n + 1) E) : (Ah strF P sc (m + 6) 87 [.scr, .int (n + 1 : Nat), .ref r, .int (tau (n + 1) E)] H).sat fun v H' => v = .bool true := by
  have el := Q9 (strF := strF) (sc := sc) hT (by rw [List.length_map]; exact Nat.le_trans hl (by decide))
  have p1 := Ad H [.list (E.map Av)]
  have hh := Ae H (.list (E.map Av))
  generalize H ++ [.list (E.map Av)] = H1 at el p1 hh
  refine bC fun hno => ?_
  obtain ⟨v, H2, e2, rs, rfl, hrs, hp2, hg2⟩ := Res.sat_ex (P4 (strF := strF) (sc := sc) (m := m) D.s hn hh hl hok)
  have hT2 : TL H2 r E := Ab (p1.trans hp2) hT
  have hsum : ((List.range E.length).map (sh (n + 1) E)).sum = tau (n + 1) E * n := J9 E.length rfl hok
  have esub : Bg .Sub (.int (n + 1 : Nat)) (.int 1) H2 = .ok (.int n) H2 := by rw [Cp, show ((n + 1 : Nat) : Int) - 1 = (n : Int) by exact Lq _]
  refine hno ?_
  refine Ay D.h87 rfl (Ag (An (A6 (A5 rfl) (A6 (Ak (A6 (A5 rfl) A7) el) A7)) e2)
    (B0 (Pe (Bf (Cu (Ft (A6 (A5 rfl) A7) (D2 (Iq hrs)))) (Bf (As (Ak (A6 (A5 rfl) A7) (Eu hrs)) (Ak (A6 (A5 rfl) A7) (Cv hT2)) (neF (by rw [Bj]))) (Bf (As (Ak (A6 (A5 rfl) A7) (A4o hrs)) (Aj (A5 rfl) (Aj (A5 rfl) Ac esub) (Qe (by exact oNN _) (by exact Abr hn))) (neF hsum)) I1)))) ?_))
  have hnil := A17 (r := r) (v := .ref H2.length) (H := H2 ++ [.list []])
  rw [Uu hT2] at hnil
  by_cases hE : E = []
  · rw [decide_eq_true hE] at hnil
    exact Bn (As (A5 rfl) (Cs A7 (Au (Nat.le_of_ble_eq_true rfl))) hnil) (Az Kx rfl)
  · rw [decide_eq_false hE] at hnil
    refine B0 (As (A5 rfl) (Cs A7 (Au (Nat.le_of_ble_eq_true rfl))) hnil) ?_
    have pn := Ad H2 [.list []]
    have hT6 : TL _ r E := Ab pn hT2
    have hrs6 := Ab pn hrs
    generalize H2 ++ [.list []] = H6 at pn hT6 hrs6
    have hpos : 0 < E.length := List.length_pos_iff.mpr hE
    have m30 := I4 (strF := strF) (sc := sc) (P := P) (H := H6) (n := m + 3) D.h5 D.h6 (k := 30) (by decide)
    obtain ⟨i, ei, hi⟩ := By (c := mix sc 30) hpos
    have he := List.getElem?_eq_getElem hi
    generalize E[i] = e at he
    refine bC fun hno => ?_
    have q1 := Ad H6 [.list ((E.take i).map Av)]
    have q2 := Ad (H6 ++ [.list ((E.take i).map Av)]) [.list ((E.drop (i + 1)).map Av)]
    have q3 := Ad ((H6 ++ [.list ((E.take i).map Av)]) ++ [.list ((E.drop (i + 1)).map Av)]) [.list ((E.take i ++ E.drop (i + 1)).map Av)]
    have e1 : ((i : Nat) : Int) + 1 = ((i + 1 : Nat) : Int) := rfl
    have hlx : (E.take i ++ E.drop (i + 1)).length ≤ 16 := by rw [List.length_append, List.length_take, List.length_drop]; exact Nat.le_trans (Y2 _ _) hl
    obtain ⟨v, H7, e7, rfl, hp7⟩ := Res.sat_ex (Wd (strF := strF) (sc := sc) (m := m + 1) (H := ((H6 ++ [.list ((E.take i).map Av)]) ++ [.list ((E.drop (i + 1)).map Av)]) ++ [.list ((E.take i ++ E.drop (i + 1)).map Av)]) D hn (Ae _ _) hlx (by rw [← List.eraseIdx_eq_take_drop_succ]; exact L1 hok i))
    have eadd : Bg .Add (.ref H6.length) (.ref (H6 ++ [Bw.list ((E.take i).map Av)]).length) ((H6 ++ [.list ((E.take i).map Av)]) ++ [.list ((E.drop (i + 1)).map Av)]) = .ok (.ref ((H6 ++ [Bw.list ((E.take i).map Av)]) ++ [Bw.list ((E.drop (i + 1)).map Av)]).length) (((H6 ++ [.list ((E.take i).map Av)]) ++ [.list ((E.drop (i + 1)).map Av)]) ++ [.list ((E.take i ++ E.drop (i + 1)).map Av)]) := by
      rw [Ow, Ab q2 (Ae _ _), Ae]
      show B7 ((E.take i).map Av ++ (E.drop (i + 1)).map Av) _ = _
      rw [← List.map_append]
      exact Au (by rw [List.length_map]; exact Nat.le_trans hlx (by decide))
    have hin : ∀ {ρ : A8} {Hx : A0}, ρ[6]? = some (some (.int e.1)) → ρ[7]? = some (some (.int e.2)) → Aa strF (Ah strF P sc (m + 5)) sc H.length (.prim .int (.cons (.cmp .NotEq (.var 6) (.var 7)) .nil)) ρ Hx = .ok (.int (if e.1 = e.2 then 0 else 1)) Hx := fun g6 g7 => by
      by_cases h : e.1 = e.2
      · rw [if_pos h]; exact Ak (A6 (Hb (A5 g6) (A5 g7) (neF (by rw [h]))) A7) rfl
      · rw [if_neg h]; exact Ak (A6 (Hb (A5 g6) (A5 g7) (neT fun q => h (Int.ofNat.inj q))) A7) rfl
    have hs : sh (n + 1) E i = tau (n + 1) E - tau (n + 1) (E.take i ++ E.drop (i + 1)) := by unfold sh; rw [List.eraseIdx_eq_take_drop_succ]
    have hfin : sh (n + 1) E i = (tau (n + 1) E - tau (n + 1) (E.take i ++ E.drop (i + 1))) * (if e.1 = e.2 then 0 else 1) := by
      by_cases h : e.1 = e.2
      · rw [if_pos h, Xc he h]; exact Eq.symm (Int.mul_zero _)
      · rw [if_neg h, hs]; exact Eq.symm (Int.mul_one _)
    refine hno ?_
    exact Ag (Aj (An (A6 (A5 rfl) (A6 Ac A7)) m30) (Ak (A6 (A5 rfl) A7) (Cv hT6)) (Kv ei hpos)) (Ek (Ap (A5 rfl) (A5 rfl) (Cy hT6 he)) rfl
      (Az (Hb (Ap (A5 rfl) (A5 rfl) (Cb hrs6 (F0 hi))) (Aj (Aj (A5 rfl) (An (A6 (A5 rfl) (A6 (Aj (D1 (A5 rfl) E4 (E6 (A5 rfl)) hT6 (Ra (r := r) (by exact Nat.le_trans hl (by decide)) (Nat.le_of_lt hi))) (D1 (A5 rfl) (E6 (Aj (A5 rfl) Ac (Di.trans (by rw [e1])))) E4 (Ab q1 hT6) (Ig (r := r) (by exact Nat.le_trans hl (by decide)) hi)) eadd) A7)) e7) Cp) (hin rfl rfl) (Qe (by split <;> exact (by decide)) (by split <;> exact (by decide)))) (eqT hfin)) rfl))
theorem A1y (a c : Nat) : ∃ x y : Nat, C7 [(a : Int), (c : Int)] = [(x : Int), (y : Int)] ∧ x ≤ y ∧ ((x = a ∧ y = c) ∨ (x = c ∧ y = a)) := by
  by_cases h : a ≤ c
  · refine ⟨a, c, ?_, h, .inl ⟨rfl, rfl⟩⟩
    show (if (a : Int) ≤ (c : Int) then _ else _) = _
    rw [if_pos (by exact P0 h)]
  · refine ⟨c, a, ?_, by exact Nat.le_of_lt (oGt h), .inr ⟨rfl, rfl⟩⟩
    show (if (a : Int) ≤ (c : Int) then _ else _) = _
    rw [if_neg (by exact fun e1 => h (A8o e1))]; rfl
theorem Zc (D : Fu P) (hn : n + 1 ≤ 7) (hT : TL H r E) (hl : E.length ≤ 16) (hok : okT (n + 1) E) : (Ah strF P sc (m + 6) 88 [.scr, .int (n + 1 : Nat), .ref r, .int (tau (n + 1) E)] H).sat fun v H' => v = .bool true := by
  refine Ay D.h88 rfl ?_
  by_cases h0 : tau (n + 1) E = 0
  · exact Bn (As (A5 rfl) Ac (eqT h0)) (Az Kx rfl)
  · refine bC fun hno => ?_
    have htp := A52 E.length rfl hok
    have hlen := G4 E.length rfl hok
    have hLpos : 0 < (Bz E.length n E).length := by (first | lia | omega)
    obtain ⟨j1, ej1, hj1⟩ := By (c := mix sc 30 * 31) hLpos
    obtain ⟨j2, ej2, hj2⟩ := By (c := mix sc 31 * 17) hLpos
    have m30 := I4 (strF := strF) (sc := sc) (P := P) (H := H) (n := m + 3) D.h5 D.h6 (k := 30) (by decide)
    have m31 := I4 (strF := strF) (sc := sc) (P := P) (H := H) (n := m + 3) D.h5 D.h6 (k := 31) (by decide)
    obtain ⟨a, c, hsrt, hac, hwh⟩ := A1y j1 j2
    have ha : a < (Bz E.length n E).length := by rcases hwh with ⟨q, _⟩ | ⟨q, _⟩ <;> (first | exact Nv q hj1 | exact Nv q hj2)
    have hc : c < (Bz E.length n E).length := by rcases hwh with ⟨_, q⟩ | ⟨_, q⟩ <;> (first | exact Nv q hj2 | exact Nv q hj1)
    have p1 := Ad H [.list [Am j1, Am j2]]
    have es := Sg (strF := strF) (sc := sc) (F := [j1, j2]) (Ae H (.list [Am j1, Am j2])) (by show 2 < 64; decide)
    have e2 : (C7 ([j1, j2].map fun (p : Nat) => (p : Int))).map AV.int = [a, c].map Am := by
      show (C7 [(j1 : Int), (j2 : Int)]).map AV.int = _
      rw [hsrt]; rfl
    rw [e2] at es
    have p2 := Ad (H ++ [.list [Am j1, Am j2]]) [.list ([a, c].map Am)]
    have g2 := Ae (H ++ [.list [Am j1, Am j2]]) (.list ([a, c].map Am))
    have pH := p1.trans p2
    refine hno ?_
    refine B0 (As (A5 rfl) Ac (eqF h0)) (Ag (Ak (A6 (Cs (A6 (Aj (Aj (An (A6 (A5 rfl) (A6 Ac A7)) m30) Ac (Aay (by decide) (by decide))) (A5 rfl) (A91 hlen.symm ej1 hLpos)) (A6 (Aj (Aj (An (A6 (A5 rfl) (A6 Ac A7)) m31) Ac (Aay (by decide) (by decide))) (A5 rfl) (A91 hlen.symm ej2 hLpos)) A7)) (Au (Nat.le_of_ble_eq_true rfl))) A7) es) ?_)
    generalize (H ++ [Bw.list [Am j1, Am j2]]).length = rn at g2
    generalize (H ++ [Bw.list [Am j1, Am j2]]) ++ [.list ([a, c].map Am)] = H2 at pH g2
    refine bC fun hno => ?_
    have hT2 : TL H2 r E := Ab pH hT
    have hget : ∀ {j : Nat}, j < (Bz E.length n E).length → (Bz E.length n E)[j]? = some ((Bz E.length n E).getD j []) := fun {j} hj => by
      rw [List.getD_eq_getElem?_getD, List.getElem?_eq_getElem hj]; rfl
    obtain ⟨out, H3, e3, qs, rfl, hf, hp3, hqs⟩ := Res.sat_ex (Q7 (H0 := H2) (g := Am) (f := fun j => (Bz E.length n E).getD j []) (ws := [(rn, [a, c].map Am)]) (step := fun v H' => (Mm strF (Ah strF P sc (m + 5)) sc H.length .none (some v :: [some .scr, some (.int (n + 1 : Nat)), some (.ref r), some (.int (tau (n + 1) E)), some (.ref rn), none]) H').get fun t H' => if t then (Aa strF (Ah strF P sc (m + 5)) sc H.length (.call 30 (.cons (.var 2) (.cons (.prim .list (.cons (.var 3) .nil)) (.cons (.var 0) .nil)))) (some v :: [some .scr, some (.int (n + 1 : Nat)), some (.ref r), some (.int (tau (n + 1) E)), some (.ref rn), none]) H').get fun x H => .ok (some x) H else .ok none H') (Sk g2) [a, c] List.prefix_rfl fun j hj Hx px => by
        have hjl : j < (Bz E.length n E).length := by
          rcases List.mem_cons.mp hj with rfl | hj
          · exact ha
          · rw [List.mem_singleton.mp hj]; exact hc
        have hTx : TL Hx r E := Ab px hT2
        have el := Q9 (strF := strF) (sc := sc) hTx (by rw [List.length_map]; exact Nat.le_trans hl (by decide))
        have pl := Ad Hx [.list (E.map Av)]
        obtain ⟨v, Hy, ey, q, rfl, hq, hp, hg⟩ := Res.sat_ex (O4 (strF := strF) (sc := sc) (m := m) D.n hn (Ae Hx (.list (E.map Av))) hl hok (hget hjl))
        exact Xd (Eh (An (A6 (A5 rfl) (A6 (Ak (A6 (A5 rfl) A7) el) (A6 (A5 rfl) A7))) ey)) ⟨q, rfl, hq, pl.trans hp, Nat.le_trans pl.length_le hg⟩)
    have hql := hf.length
    have hf : Fa H3 qs [(Bz E.length n E).getD a [], (Bz E.length n E).getD c []] := hf
    refine hno ?_
    generalize hSa : (Bz E.length n E).getD a [] = Sa at hf
    generalize hSc : (Bz E.length n E).getD c [] = Sc at hf
    refine bC fun hno => ?_
    have hSa' : (Bz E.length n E)[a]? = some Sa := by rw [hget ha, hSa]
    have hSc' : (Bz E.length n E)[c]? = some Sc := by rw [hget hc, hSc]
    have hgA := Vm hok (List.mem_of_getElem? hSa')
    have hgC := Vm hok (List.mem_of_getElem? hSc')
    have hf : Fa H3 qs [Sa, Sc] := hf
    obtain ⟨qa, qc, rfl, hqa, hqc⟩ : ∃ qa qc, qs = [qa, qc] ∧ H3[qa]? = some (.list (Sa.map Am)) ∧ H3[qc]? = some (.list (Sc.map Am)) := by
      cases hf with
      | cons h1 r1 => cases r1 with
        | cons h2 r2 => cases r2; exact ⟨_, _, rfl, h1, h2⟩
    have p4 := Ad H3 [.list [AV.ref qa, .ref qc]]
    have g4 := Ae H3 (.list [AV.ref qa, .ref qc])
    have hT4 : TL _ r E := Ab (hp3.trans p4) hT2
    have gn4 := Ab (hp3.trans p4) g2
    have hqa4 := Ab p4 hqa
    have hqc4 := Ab p4 hqc
    refine hno ?_
    refine Ag (Eb (Em (A5 rfl) g2) e3 (Au (Nat.le_of_ble_eq_true rfl))) ?_
    show (Ai _ _ _ _ _ [some .scr, some (.int (n + 1 : Nat)), some (.ref r), some (.int (tau (n + 1) E)), some (.ref rn), some (.ref H3.length)] (H3 ++ [.list [AV.ref qa, .ref qc]])).sat _ _
    generalize H3.length = rf at g4
    generalize H3 ++ [.list [AV.ref qa, .ref qc]] = H4 at p4 g4 hT4 gn4 hqa4 hqc4
    refine bC fun hno => ?_
    obtain ⟨out, H5, e5, rfl, hp5⟩ := Res.sat_ex (Od (H0 := H4) (g := AV.ref) (f := fun _ => AV.bool true) (ws := [(rf, [qa, qc].map AV.ref)]) (step := fun v H' => (Mm strF (Ah strF P sc (m + 5)) sc H.length .none (some v :: [some .scr, some (.int (n + 1 : Nat)), some (.ref r), some (.int (tau (n + 1) E)), some (.ref rn), some (.ref rf)]) H').get fun t H' => if t then (Aa strF (Ah strF P sc (m + 5)) sc H.length (.call 85 (.cons (.var 2) (.cons (.var 3) (.cons (.var 0) .nil)))) (some v :: [some .scr, some (.int (n + 1 : Nat)), some (.ref r), some (.int (tau (n + 1) E)), some (.ref rn), some (.ref rf)]) H').get fun x H => .ok (some x) H else .ok none H') (Sk g4) [qa, qc] List.prefix_rfl fun j hj Hx px => by
        obtain ⟨Sj, hSj, hgj⟩ : ∃ Sj, Hx[j]? = some (.list (Sj.map Am)) ∧ Hg n E Sj := by
          rcases List.mem_cons.mp hj with rfl | hj
          · exact ⟨Sa, Ab px hqa4, hgA⟩
          · rw [List.mem_singleton.mp hj]; exact ⟨Sc, Ab px hqc4, hgC⟩
        obtain ⟨v, Hy, ey, rfl, hp⟩ := Res.sat_ex (A2k (strF := strF) (sc := sc) (m := m + 2) D.h9 D.h10 D.h54 D.h85 hn (Ab px hT4) hok hSj hgj)
        exact Xd (Eh (An (A6 (A5 rfl) (A6 (A5 rfl) (A6 (A5 rfl) A7))) ey)) ⟨rfl, hp⟩)
    have p6 := Ad H5 [.list [AV.bool true, .bool true]]
    have hall : prim strF sc .all [.ref H5.length] (H5 ++ [.list [AV.bool true, .bool true]]) = .ok (.bool true) (H5 ++ [.list [AV.bool true, .bool true]]) := all_map (f := fun _ : Nat => true) (l := [qa, qc]) (Ae H5 (.list [AV.bool true, .bool true]))
    have p46 := hp5.trans p6
    have gn6 := Ab p46 gn4
    have g6 := Ab p46 g4
    have hqa6 := Ab p46 hqa4
    have hqc6 := Ab p46 hqc4
    have hT6 : TL _ r E := Ab p46 hT4
    refine hno ?_
    refine B0 (Cu (Ft (A6 (Eb (Em (A5 rfl) g4) e5 (Au (Nat.le_of_ble_eq_true rfl))) A7) hall)) ?_
    generalize H5 ++ [.list [AV.bool true, .bool true]] = H6 at p46 gn6 g6 hqa6 hqc6 hT6
    have n0 : ∀ {Hx : A0}, H6 <+: Hx → Bx sc (.ref rn) (.int 0) Hx = .ok (Am a) Hx := fun p => Cb (k := 0) (Ab p gn6) rfl
    have n1 : ∀ {Hx : A0}, H6 <+: Hx → Bx sc (.ref rn) (.int 1) Hx = .ok (Am c) Hx := fun p => Cb (k := 1) (Ab p gn6) rfl
    have f0 : ∀ {Hx : A0}, H6 <+: Hx → Bx sc (.ref rf) (.int 0) Hx = .ok (.ref qa) Hx := fun p => Cb (k := 0) (Ab p g6) rfl
    have f1 : ∀ {Hx : A0}, H6 <+: Hx → Bx sc (.ref rf) (.int 1) Hx = .ok (.ref qc) Hx := fun p => Cb (k := 1) (Ab p g6) rfl
    have hlt : ltN Sa Sc = decide ((a : Int) < (c : Int)) := by
      by_cases h : a = c
      · rw [h] at hSa'
        rw [hSc'] at hSa'
        rw [← Option.some.inj hSa', Wk, decide_eq_false (by exact fun e1 => Nat.ne_of_lt (Sr e1) h)]
      · rw [decide_eq_true (by exact J6 (Nat.lt_of_le_of_ne hac h))]
        obtain ⟨a1, a2⟩ := List.getElem?_eq_some_iff.mp hSa'
        obtain ⟨b1, b2⟩ := List.getElem?_eq_some_iff.mp hSc'
        have := List.pairwise_iff_getElem.mp (Ls (E := E) (n := n) hok) a c a1 b1 (by exact Nat.lt_of_le_of_ne hac h)
        rwa [a2, b2] at this
    have hcl := Qd hqa6 hqc6
    rw [hlt] at hcl
    have el := Q9 (strF := strF) (sc := sc) hT6 (by rw [List.length_map]; exact Nat.le_trans hl (by decide))
    have p7 := Ad H6 [.list (E.map Av)]
    have hh7 := Ae H6 (.list (E.map Av))
    have hqa7 := Ab p7 hqa6
    generalize H6 ++ [.list (E.map Av)] = H7 at el p7 hh7 hqa7
    refine bC fun hno => ?_
    obtain ⟨v, H8, e8, rfl, hp8⟩ := Res.sat_ex (Ix (strF := strF) (sc := sc) (m := m) D.n hn hh7 hl hok hqa7 hSa')
    have p68 := p7.trans hp8
    have hT8 : TL H8 r E := Ab p68 hT6
    have el8 := Q9 (strF := strF) (sc := sc) hT8 (by rw [List.length_map]; exact Nat.le_trans hl (by decide))
    have p9 := Ad H8 [.list (E.map Av)]
    have hh9 := Ae H8 (.list (E.map Av))
    have hqc9 := Ab (p68.trans p9) hqc6
    refine hno ?_
    generalize H8 ++ [.list (E.map Av)] = H9 at el8 p9 hh9 hqc9
    refine bC fun hno => ?_
    obtain ⟨v, HA, eA, rfl, hpA⟩ := Res.sat_ex (Ix (strF := strF) (sc := sc) (m := m) D.n hn hh9 hl hok hqc9 hSc')
    have hnb : B4 .NotEq (.bool (decide ((a : Int) < (c : Int)))) (.bool (decide ((a : Int) < (c : Int)))) H6 = some false := by cases decide ((a : Int) < (c : Int)) <;> rfl
    refine hno ?_
    exact B0 (Pe (Bf (As (Hb (Ap (A5 rfl) Ac (n0 List.prefix_rfl)) (Ap (A5 rfl) Ac (n1 List.prefix_rfl)) Yn) (Hb (Ap (A5 rfl) Ac (f0 List.prefix_rfl)) (Ap (A5 rfl) Ac (f1 List.prefix_rfl)) hcl) hnb) (Bf (As (An (A6 (A5 rfl) (A6 (Ak (A6 (A5 rfl) A7) el) (A6 (Ap (A5 rfl) Ac (f0 p7)) A7))) e8) (Ap (A5 rfl) Ac (n0 p68)) (neF rfl)) I1)))
      (Az (Hb (An (A6 (A5 rfl) (A6 (Ak (A6 (A5 rfl) A7) el8) (A6 (Ap (A5 rfl) Ac (f1 (p68.trans p9))) A7))) eA) (Ap (A5 rfl) Ac (n1 ((p68.trans p9).trans hpA))) (eqT rfl)) rfl)
theorem A9o (D : Fu P) : (Ah strF P sc (m + 11) 89 [.scr] []).sat fun v _ => v = .bool true := by
  refine bC fun hno => ?_
  obtain ⟨v, H1, e1, n', r, E, rfl, hT1, hp1, hg1, hl, hok, h1, h2⟩ := Res.sat_ex (A51 (strF := strF) (sc := sc) (P := P) (H := []) (m := m + 6) (most := 7) (room := 16) D.h5 D.h6 D.h7 D.h8 (by decide) (by decide) (by decide) (by decide))
  obtain ⟨n, rfl⟩ : ∃ n, n' = n + 1 := ⟨n' - 1, by exact Eq.symm (Nat.sub_add_cancel h1)⟩
  have el := Q9 (strF := strF) (sc := sc) hT1 (by rw [List.length_map]; exact Nat.le_trans hl (by decide))
  have p2 := Ad H1 [.list (E.map Av)]
  have hh := Ae H1 (.list (E.map Av))
  refine hno ?_
  generalize H1 ++ [.list (E.map Av)] = H2 at el p2 hh
  refine bC fun hno => ?_
  obtain ⟨v, H3, e3, rfl, hp3⟩ := Res.sat_ex (Wd (strF := strF) (sc := sc) (m := m + 6) D h2 hh hl hok)
  have hT3 : TL H3 r E := Ab (p2.trans hp3) hT1
  have m3 := I4 (strF := strF) (sc := sc) (P := P) (H := H3) (n := m + 8) D.h5 D.h6 (k := 3) (by decide)
  obtain ⟨t, et, ht⟩ := By (c := mix sc 3) (n := 4) (by decide)
  refine hno ?_
  refine Ay D.h89 rfl (Ek (An (A6 (A5 rfl) (A6 Ac (A6 Ac A7))) e1) rfl (Ag (An (A6 (A5 rfl) (A6 (Ak (A6 (A5 rfl) A7) el) A7)) e3) (Ag (Aj (An (A6 (A5 rfl) (A6 Ac A7)) m3) Ac (A91 (n := 4) rfl et (by decide))) ?_)))
  by_cases ht2 : t < 2
  · refine bC fun hno => ?_
    obtain ⟨v, H4, e4, rfl, hp4⟩ := Res.sat_ex (Zd (strF := strF) (sc := sc) (m := m) D.toDefs86 h2 hT3 hl hok)
    refine hno ?_
    exact Bn (As (A5 rfl) Ac (ltT (by exact J6 ht2))) (Az (An (A6 (A5 rfl) (A6 (A5 rfl) (A6 (A5 rfl) A7))) e4) rfl)
  refine B0 (As (A5 rfl) Ac (ltF (by exact fun e1 => ht2 (Sr e1)))) ?_
  by_cases ht3 : t = 2
  · refine bC fun hno => ?_
    obtain ⟨v, H4, e4, rfl⟩ := Res.sat_ex (A32 (strF := strF) (sc := sc) (m := m + 4) D h2 hT3 hl hok)
    refine hno ?_
    exact Bn (As (A5 rfl) Ac (eqT (by exact A68 ht3))) (Az (An (A6 (A5 rfl) (A6 (A5 rfl) (A6 (A5 rfl) (A6 (A5 rfl) A7)))) e4) rfl)
  refine bC fun hno => ?_
  obtain ⟨v, H4, e4, rfl⟩ := Res.sat_ex (Zc (strF := strF) (sc := sc) (m := m + 4) D h2 hT3 hl hok)
  refine hno ?_
  exact B0 (As (A5 rfl) Ac (eqF (by exact A0i ht3))) (Az (An (A6 (A5 rfl) (A6 (A5 rfl) (A6 (A5 rfl) (A6 (A5 rfl) A7)))) e4) rfl)
end
end Mine
namespace Mine
open PySem
structure Tab where
  fns : List (Nat × Str)
  excs : List (Nat × Str)
  gints : List (Nat × Str × Int)
  defs : List (Nat × FnI) := []
  q : Bool := false
  okc : Nat → Bool := fun _ => true
  qs : List Nat := []
noncomputable abbrev Tab.quiet (T : Tab) : Tab := { T with q := true, okc := fun k => T.qs.contains k }
noncomputable def Aq (e : Expr) : Bool := !Nat.beq e.ctorIdx 22
noncomputable def Ec (e : Expr) : Bool := !(Nat.beq e.ctorIdx 8 || (Nat.beq e.ctorIdx 9 || Nat.beq e.ctorIdx 10))
noncomputable def Mg (e : Expr) : Bool := Ec e && !Nat.beq e.ctorIdx 25
noncomputable def O5 (e : Expr) : Bool := !Nat.beq e.ctorIdx 26
noncomputable def C3 (e : Expr) : Bool := !Nat.beq e.ctorIdx 7
noncomputable def slot (Γ : List Str) (x : Str) : Option Nat := Γ.findIdx? (· == x)
noncomputable def Bd (S : Scope) (x : Str) : Option NameKind := S.names.lookup x
noncomputable def Ao (S : Scope) (x : Str) : Bool := Bd S x == some .globalImplicit && !(x == ("__debug__" : Str))
noncomputable def Rv (S : Scope) (x : Str) : Bool := (Bd S x == some .local || Bd S x == some .cell || Bd S x == some .free) && !(x == ("__debug__" : Str)) && !(x == ("__classdict__" : Str))
noncomputable def B2 (S : Scope) (x : Str) : Bool := Bd S x == some .local || Bd S x == some .cell
noncomputable def Cq (scope S : Scope) : Scope :=
  { scope with names := scope.names.map fun (n, k) => if (k == .free && S.kind == .function && Bd S n == some .cell) then (n, .cell) else (n, k) }
noncomputable def I8 (scope S : Scope) (Γ xs : List Str) : Bool := scope.kind == .function &&
  scope.names.all (fun x => (x.2 != .local || scope.names.lookup x.1 == some .local) && (x.2 != .cell || scope.names.lookup x.1 == some .cell) &&
    (x.2 != .free || (scope.names.lookup x.1 == some .free && (Bd S x.1 == some .cell || Bd S x.1 == some .free))) && (!(x.2 == .local || x.2 == .cell) || xs.contains x.1 || (slot Γ x.1).isNone)) && xs.all (B2 scope)
noncomputable def Ru : It → Bool
  | .zip _ _ => false
  | _ => true
noncomputable def Tz : PEs → Bool
  | .nil => false
  | _ => true
noncomputable def Qi (e : Expr) : Bool := Nat.beq e.ctorIdx 23 || Nat.beq e.ctorIdx 21
noncomputable def J2 : D9 → Bool
  | .sortedSet => false
  | .tuple => false
  | .sortedP => false
  | _ => true
noncomputable def A1r : D9 → Option Str
  | .isInt => some "int"
  | .isBool => some "bool"
  | .isList => some "list"
  | .isTuple => some "tuple"
  | .isValueError => some "ValueError"
  | _ => none
noncomputable def Jb (T : Tab) (p : D9) : Option Str := match p with
  | .isExc c => T.excs.lookup c
  | p => A1r p
noncomputable def F1 : D9 → Option Str
  | .len => some "len"
  | .list => some "list"
  | .tuple => some "tuple"
  | .sorted => some "sorted"
  | .min2 => some "min"
  | .max2 => some "max"
  | .min1 => some "min"
  | .max1 => some "max"
  | .sum => some "sum"
  | .all => some "all"
  | .int => some "int"
  | .sortedP => some "sorted"
  | _ => none
noncomputable def opt {α : Type} (o : Option α) (k : α → Bool) : Bool := match o with
  | some a => k a
  | none => false
inductive A9q {α : Type} (o : Option α) (k : α → Bool) : Prop
  | mk (a : α) (e : o = some a) (h : k a = true) : A9q o k
theorem Af {α : Type} {o : Option α} {k : α → Bool} (h : opt o k = true) : A9q o k := by
  cases o with
  | none => cases h
  | some a => exact ⟨a, rfl, h⟩
theorem A9 {a b : Bool} (h : (a && b) = true) : a = true ∧ b = true := by
  cases a
  · cases h
  · exact ⟨rfl, h⟩
theorem Ba {α : Type} [BEq α] [LawfulBEq α] {a b : α} (h : (a == b) = true) : a = b := beq_iff_eq.mp h
noncomputable def Ge {α : Type} : List α → Option α
  | [a] => some a
  | _ => none
noncomputable def Nq {α : Type} : List α → Option (α × α)
  | [a, b] => some (a, b)
  | _ => none
theorem C4 {α : Type} {l : List α} {a : α} (h : Ge l = some a) : l = [a] := by
  match l, h with
  | [_], h => cases h; rfl
theorem Gq {α : Type} {l : List α} {a : α × α} (h : Nq l = some a) : l = [a.1, a.2] := by
  match l, h with
  | [_, _], h => cases h; rfl
theorem inv {α β : Type} {mk : α → β} {d : β → Option α} (G : ∀ e, (d e).elim e mk = e) {e : β} {x : α} (h : d e = some x) : e = mk x := by
  have g := G e
  rw [h] at g
  exact g.symm
noncomputable def N7 (e : Expr) : Option (Const × Nat × Pos) := by
  cases e with
  | Constant c k p => exact some (c, k, p)
  | _ => exact none
theorem Ir {e : Expr} {x : (Const × Nat × Pos)} (h : N7 e = some x) : e = .Constant x.1 x.2.1 x.2.2 := inv (mk := fun x => .Constant x.1 x.2.1 x.2.2) (fun e => by cases e <;> rfl) h
noncomputable def Ep (e : Expr) : Option (Str × Pos) := by
  cases e with
  | Name x p => exact some (x, p)
  | _ => exact none
theorem Bu {e : Expr} {x : (Str × Pos)} (h : Ep e = some x) : e = .Name x.1 x.2 := inv (mk := fun x => .Name x.1 x.2) (fun e => by cases e <;> rfl) h
noncomputable def A9n (e : Expr) : Option (Expr × Operator × Expr × Pos) := by
  cases e with
  | BinOp l o r p => exact some (l, o, r, p)
  | _ => exact none
theorem A4x {e : Expr} {x : (Expr × Operator × Expr × Pos)} (h : A9n e = some x) : e = .BinOp x.1 x.2.1 x.2.2.1 x.2.2.2 := inv (mk := fun x => .BinOp x.1 x.2.1 x.2.2.1 x.2.2.2) (fun e => by cases e <;> rfl) h
noncomputable def dUn (e : Expr) : Option (UnaryOp × Expr × Pos) := by
  cases e with
  | UnaryOp o x p => exact some (o, x, p)
  | _ => exact none
theorem A7r {e : Expr} {x : (UnaryOp × Expr × Pos)} (h : dUn e = some x) : e = .UnaryOp x.1 x.2.1 x.2.2 := inv (mk := fun x => .UnaryOp x.1 x.2.1 x.2.2) (fun e => by cases e <;> rfl) h
noncomputable def A8v (e : Expr) : Option (Expr × List CmpOp × List Expr × Pos) := by
  cases e with
  | Compare l o r p => exact some (l, o, r, p)
  | _ => exact none
theorem Xq {e : Expr} {x : (Expr × List CmpOp × List Expr × Pos)} (h : A8v e = some x) : e = .Compare x.1 x.2.1 x.2.2.1 x.2.2.2 := inv (mk := fun x => .Compare x.1 x.2.1 x.2.2.1 x.2.2.2) (fun e => by cases e <;> rfl) h
noncomputable def Wj (e : Expr) : Option (BoolOp × List Expr × Pos) := by
  cases e with
  | BoolOp o vs p => exact some (o, vs, p)
  | _ => exact none
theorem A22 {e : Expr} {x : (BoolOp × List Expr × Pos)} (h : Wj e = some x) : e = .BoolOp x.1 x.2.1 x.2.2 := inv (mk := fun x => .BoolOp x.1 x.2.1 x.2.2) (fun e => by cases e <;> rfl) h
noncomputable def A9z (e : Expr) : Option (Expr × Expr × Expr × Pos) := by
  cases e with
  | IfExp t a b p => exact some (t, a, b, p)
  | _ => exact none
theorem A59 {e : Expr} {x : (Expr × Expr × Expr × Pos)} (h : A9z e = some x) : e = .IfExp x.1 x.2.1 x.2.2.1 x.2.2.2 := inv (mk := fun x => .IfExp x.1 x.2.1 x.2.2.1 x.2.2.2) (fun e => by cases e <;> rfl) h
noncomputable def A50 (e : Expr) : Option (Expr × Expr × Pos) := by
  cases e with
  | Subscript v s p => exact some (v, s, p)
  | _ => exact none
theorem R0 {e : Expr} {x : (Expr × Expr × Pos)} (h : A50 e = some x) : e = .Subscript x.1 x.2.1 x.2.2 := inv (mk := fun x => .Subscript x.1 x.2.1 x.2.2) (fun e => by cases e <;> rfl) h
noncomputable def dSl (e : Expr) : Option (Option Expr × Option Expr × Option Expr × Pos) := by
  cases e with
  | Slice l h s p => exact some (l, h, s, p)
  | _ => exact none
theorem A87 {e : Expr} {x : (Option Expr × Option Expr × Option Expr × Pos)} (h : dSl e = some x) : e = .Slice x.1 x.2.1 x.2.2.1 x.2.2.2 := inv (mk := fun x => .Slice x.1 x.2.1 x.2.2.1 x.2.2.2) (fun e => by cases e <;> rfl) h
noncomputable def A6x (e : Expr) : Option (List Expr × Pos) := by
  cases e with
  | List vs p => exact some (vs, p)
  | _ => exact none
theorem A3o {e : Expr} {x : (List Expr × Pos)} (h : A6x e = some x) : e = .List x.1 x.2 := inv (mk := fun x => .List x.1 x.2) (fun e => by cases e <;> rfl) h
noncomputable def A09 (e : Expr) : Option (List Expr × Nat × Pos) := by
  cases e with
  | Tuple vs b p => exact some (vs, b, p)
  | _ => exact none
theorem M2 {e : Expr} {x : (List Expr × Nat × Pos)} (h : A09 e = some x) : e = .Tuple x.1 x.2.1 x.2.2 := inv (mk := fun x => .Tuple x.1 x.2.1 x.2.2) (fun e => by cases e <;> rfl) h
noncomputable def A0w (e : Expr) : Option (Expr × List Comprehension × Scope × Pos) := by
  cases e with
  | ListComp el g s p => exact some (el, g, s, p)
  | _ => exact none
theorem Ti {e : Expr} {x : (Expr × List Comprehension × Scope × Pos)} (h : A0w e = some x) : e = .ListComp x.1 x.2.1 x.2.2.1 x.2.2.2 := inv (mk := fun x => .ListComp x.1 x.2.1 x.2.2.1 x.2.2.2) (fun e => by cases e <;> rfl) h
noncomputable def A7b (e : Expr) : Option (Expr × Str × Pos) := by
  cases e with
  | Attribute o m p => exact some (o, m, p)
  | _ => exact none
theorem A2y {e : Expr} {x : (Expr × Str × Pos)} (h : A7b e = some x) : e = .Attribute x.1 x.2.1 x.2.2 := inv (mk := fun x => .Attribute x.1 x.2.1 x.2.2) (fun e => by cases e <;> rfl) h
noncomputable def A19 (e : Expr) : Option (Expr × List Expr × List Keyword × Pos) := by
  cases e with
  | Call f a k p => exact some (f, a, k, p)
  | _ => exact none
theorem Z3 {e : Expr} {x : (Expr × List Expr × List Keyword × Pos)} (h : A19 e = some x) : e = .Call x.1 x.2.1 x.2.2.1 x.2.2.2 := inv (mk := fun x => .Call x.1 x.2.1 x.2.2.1 x.2.2.2) (fun e => by cases e <;> rfl) h
noncomputable def nilO {α : Type} (l : List α) : Bool := l.isEmpty
theorem D0 {α : Type} {l : List α} (h : l.isEmpty = true) : l = [] := List.isEmpty_iff.mp h
noncomputable def A08 (e : Expr) (k : Expr → List Expr → Pos → Bool) : Bool := opt (A19 e) fun x => x.2.2.1.isEmpty && k x.1 x.2.1 x.2.2.2
inductive A7d (e : Expr) (k : Expr → List Expr → Pos → Bool) : Prop
  | mk (f : Expr) (a : List Expr) (p : Pos) (he : e = .Call f a [] p) (h : k f a p = true) : A7d e k
theorem Tw {e : Expr} {k : Expr → List Expr → Pos → Bool} (h : A08 e k = true) : A7d e k := by
  obtain ⟨x, hx, h⟩ := Af h
  obtain ⟨h1, h⟩ := A9 h
  exact ⟨_, _, _, by rw [Z3 hx, D0 h1], h⟩
noncomputable def Dg (e : Expr) (k : Str → List Expr → Bool) : Bool := A08 e fun f a _ => opt (Ep f) fun x => k x.1 a
inductive A02 (e : Expr) (k : Str → List Expr → Bool) : Prop
  | mk (f : Str) (np : Pos) (args : List Expr) (pos : Pos) (he : e = .Call (.Name f np) args [] pos) (h : k f args = true) : A02 e k
theorem Cf {e : Expr} {k : Str → List Expr → Bool} (h : Dg e k = true) : A02 e k := by
  obtain ⟨f, a, p, rfl, h⟩ := Tw h
  obtain ⟨x, hx, h⟩ := Af h
  cases Bu hx
  exact ⟨_, _, _, _, rfl, h⟩
noncomputable def cBool : Const → Option Bool
  | .bool b => some b
  | _ => none
theorem A1s {c : Const} {x : Bool} (h : cBool c = some x) : c = .bool x := inv (mk := fun x => .bool x) (fun e => by cases e <;> rfl) h
noncomputable def cInt : Const → Option Int
  | .int b => some b
  | _ => none
theorem A5q {c : Const} {x : Int} (h : cInt c = some x) : c = .int x := inv (mk := fun x => .int x) (fun e => by cases e <;> rfl) h
noncomputable def A9t : Const → Option Str
  | .str b => some b
  | _ => none
theorem A5g {c : Const} {x : Str} (h : A9t c = some x) : c = .str x := inv (mk := fun x => .str x) (fun e => by cases e <;> rfl) h
noncomputable def cNone : Const → Option Unit
  | .none => some ()
  | _ => none
theorem A31 {c : Const} {x : Unit} (h : cNone c = some x) : c = .none := inv (mk := fun _ => .none) (fun e => by cases e <;> rfl) h
noncomputable def A6n (p : D9) : Bool := by
  cases p with
  | listRange => exact true
  | _ => exact false
theorem A4f {p : D9} (h : A6n p = true) : p = .listRange := by cases p <;> first | rfl | cases h
section
variable (T : Tab)
mutual
noncomputable def B3 (Γ : List Str) (S : Scope) : PE → Expr → Bool
  | .none, e => opt (N7 e) fun c => opt (cNone c.1) fun _ => true
  | .bool b, e => opt (N7 e) fun c => opt (cBool c.1) fun d => b == d
  | .int i, e => opt (N7 e) fun c => opt (cInt c.1) fun j => i == j
  | .str .., _ => false
  | .var i, e => opt (Ep e) fun x => slot Γ x.1 == some i && Rv S x.1
  | .gint k i, e => opt (Ep e) fun x => T.gints.lookup k == some (x.1, i) && Ao S x.1
  | .bin op a b, e => opt (A9n e) fun x => op == x.2.1 && (B3 Γ S a x.1 && B3 Γ S b x.2.2.1)
  | .neg a, e => opt (dUn e) fun x => UnaryOp.USub == x.1 && B3 Γ S a x.2.1
  | .not a, e => opt (dUn e) fun x => UnaryOp.Not == x.1 && B3 Γ S a x.2.1
  | .cmp op a b, e => opt (A8v e) fun x => opt (Ge x.2.1) fun o => opt (Ge x.2.2.1) fun r => op == o && (C3 r && (B3 Γ S a x.1 && B3 Γ S b r))
  | .cmp2 o1 o2 a b c, e => opt (A8v e) fun x => opt (Nq x.2.1) fun o => opt (Nq x.2.2.1) fun r => o1 == o.1 && (o2 == o.2 && (C3 r.2 && (B3 Γ S a x.1 && (B3 Γ S b r.1 && B3 Γ S c r.2))))
  | .and es, e => opt (Wj e) fun x => BoolOp.And == x.1 && Bv Γ S es x.2.1
  | .or es, e => opt (Wj e) fun x => BoolOp.Or == x.1 && Bv Γ S es x.2.1
  | .ite c a b, e => opt (A9z e) fun x => B3 Γ S c x.1 && (B3 Γ S a x.2.1 && B3 Γ S b x.2.2.1)
  | .call k es, e => T.okc k && Dg e fun f args => T.fns.lookup k == some f && (Ao S f && (Tz es && Bv Γ S es args))
  | .prim p es, e => (!T.q || (Jb T p).isSome) && Dg e fun f args => cond (A6n p)
      (opt (Ge args) fun a => Dg a fun g as => f == ("list" : Str) && (Ao S f && (g == ("range" : Str) && (Ao S g && Bv Γ S es as))))
      (J2 p && (Ao S f && (match Jb T p with
        | some t => f == ("isinstance" : Str) && opt (Nq args) fun a => opt (Ep a.2) fun g => t == g.1 && (Ao S g.1 && Bv Γ S es [a.1])
        | none => F1 p == some f && Bv Γ S es args)))
  | .idx a i, e => opt (A50 e) fun x => O5 x.2.1 && (B3 Γ S a x.1 && B3 Γ S i x.2.1)
  | .slice a lo hi, e => opt (A50 e) fun x => opt (dSl x.2.1) fun y => y.2.2.1.isNone && (B3 Γ S a x.1 && (A8w Γ S lo y.1 && A8w Γ S hi y.2.1))
  | .list es, e => opt (A6x e) fun vs => Bv Γ S es vs.1
  | .tuple es, e => opt (A09 e) fun vs => Bv Γ S es vs.1
  | .dict, _ => false
  | .comp1 el it c, e => !T.q && opt (A0w e) fun x => opt (Ge x.2.1) fun g => opt (Ep g.target) fun v => g.is_async == 0 && (I8 x.2.2.1 S Γ [v.1] && (Ru it && (C3 g.iter && (Vi Γ S it g.iter && (A7p (v.1 :: Γ) (Cq x.2.2.1 S) c g.ifs && B3 (v.1 :: Γ) (Cq x.2.2.1 S) el x.1)))))
  | .comp2 el it, e => !T.q && opt (A0w e) fun x => opt (Ge x.2.1) fun g => opt (A09 g.target) fun ts => opt (Nq ts.1) fun t => opt (Ep t.1) fun v => opt (Ep t.2) fun w => g.is_async == 0 && (g.ifs.isEmpty && (I8 x.2.2.1 S Γ [v.1, w.1] && (!(v.1 == w.1) && (C3 g.iter && (Vi Γ S it g.iter && B3 (v.1 :: w.1 :: Γ) (Cq x.2.2.1 S) el x.1)))))
  | .append a y, e => A08 e fun f as p => opt (A7b f) fun t => opt (Ge as) fun v => t.2.1 == ("append" : Str) && (t.2.2.endLine == p.line && (Qi t.1 && (Aq v && (B3 Γ S a t.1 && B3 Γ S y v))))
  | .sset a, e => !T.q && Dg e fun f args => opt (Ge args) fun y => Dg y fun g as => opt (Ge as) fun x => f == ("sorted" : Str) && (Ao S f && (g == ("set" : Str) && (Ao S g && (Aq x && B3 Γ S a x))))
noncomputable def Bv (Γ : List Str) (S : Scope) : PEs → List Expr → Bool
  | .nil, es => es.isEmpty
  | .cons a as, es => (match es with | e :: r => Aq e && (B3 Γ S a e && Bv Γ S as r) | [] => false)
noncomputable def A8w (Γ : List Str) (S : Scope) : PEo → Option Expr → Bool
  | .none, o => o.isNone
  | .some a, o => opt o fun e => B3 Γ S a e
noncomputable def A7p (Γ : List Str) (S : Scope) : PEo → List Expr → Bool
  | .none, es => es.isEmpty
  | .some a, es => opt (Ge es) fun e => B3 Γ S a e
noncomputable def Vi (Γ : List Str) (S : Scope) : It → Expr → Bool
  | .of a, e => B3 Γ S a e
  | .range1 n, e => Dg e fun f args => opt (Ge args) fun x => f == ("range" : Str) && (Ao S f && (Aq x && B3 Γ S n x))
  | .range2 a b, e => Dg e fun f args => opt (Nq args) fun x => f == ("range" : Str) && (Ao S f && (Aq x.1 && (Aq x.2 && (B3 Γ S a x.1 && B3 Γ S b x.2))))
  | .zip a b, e => Dg e fun f args => opt (Nq args) fun x => f == ("zip" : Str) && (Ao S f && (Aq x.1 && (Aq x.2 && (B3 Γ S a x.1 && B3 Γ S b x.2))))
end
noncomputable def A78 {α : Type} : List α → Option (α × List α)
  | a :: l => some (a, l)
  | [] => none
theorem Tp {α : Type} {l : List α} {a : α × List α} (h : A78 l = some a) : l = a.1 :: a.2 := by
  match l, h with
  | _ :: _, h => cases h; rfl
noncomputable def O3 (Γ : List Str) (S : Scope) : List Nat → List Expr → Bool
  | [], es => es.isEmpty
  | i :: is, es => opt (A78 es) fun y => opt (Ep y.1) fun x => slot Γ x.1 == some i && (B2 S x.1 && O3 Γ S is y.2)
noncomputable def A4e (e : Stmt) : Option (List Expr × Expr × Pos) := by
  cases e with
  | Assign ts v p => exact some (ts, v, p)
  | _ => exact none
theorem R9 {e : Stmt} {x : (List Expr × Expr × Pos)} (h : A4e e = some x) : e = .Assign x.1 x.2.1 x.2.2 := inv (mk := fun x => .Assign x.1 x.2.1 x.2.2) (fun e => by cases e <;> rfl) h
noncomputable def dIf (e : Stmt) : Option (Expr × List Stmt × List Stmt × Pos) := by
  cases e with
  | If c t e p => exact some (c, t, e, p)
  | _ => exact none
theorem A7v {e : Stmt} {x : (Expr × List Stmt × List Stmt × Pos)} (h : dIf e = some x) : e = .If x.1 x.2.1 x.2.2.1 x.2.2.2 := inv (mk := fun x => .If x.1 x.2.1 x.2.2.1 x.2.2.2) (fun e => by cases e <;> rfl) h
noncomputable def A88 (e : Stmt) : Option (Expr × Expr × List Stmt × List Stmt × Pos) := by
  cases e with
  | For t i b o p => exact some (t, i, b, o, p)
  | _ => exact none
theorem Xi {e : Stmt} {x : (Expr × Expr × List Stmt × List Stmt × Pos)} (h : A88 e = some x) : e = .For x.1 x.2.1 x.2.2.1 x.2.2.2.1 x.2.2.2.2 := inv (mk := fun x => .For x.1 x.2.1 x.2.2.1 x.2.2.2.1 x.2.2.2.2) (fun e => by cases e <;> rfl) h
noncomputable def dWh (e : Stmt) : Option (Expr × List Stmt × List Stmt × Pos) := by
  cases e with
  | While t b o p => exact some (t, b, o, p)
  | _ => exact none
theorem A8a {e : Stmt} {x : (Expr × List Stmt × List Stmt × Pos)} (h : dWh e = some x) : e = .While x.1 x.2.1 x.2.2.1 x.2.2.2 := inv (mk := fun x => .While x.1 x.2.1 x.2.2.1 x.2.2.2) (fun e => by cases e <;> rfl) h
noncomputable def Aag (e : Stmt) : Option (Option Expr × Pos) := by
  cases e with
  | Return v p => exact some (v, p)
  | _ => exact none
theorem A4n {e : Stmt} {x : (Option Expr × Pos)} (h : Aag e = some x) : e = .Return x.1 x.2 := inv (mk := fun x => .Return x.1 x.2) (fun e => by cases e <;> rfl) h
noncomputable def dEx (e : Stmt) : Option (Expr × Pos) := by
  cases e with
  | Expr v p => exact some (v, p)
  | _ => exact none
theorem A03 {e : Stmt} {x : (Expr × Pos)} (h : dEx e = some x) : e = .Expr x.1 x.2 := inv (mk := fun x => .Expr x.1 x.2) (fun e => by cases e <;> rfl) h
noncomputable def S9 : PE → Bool
  | .comp1 .. => true
  | .comp2 .. => true
  | _ => false
noncomputable def A3s (e : Stmt) : Option (Option Expr × Option Expr × Pos) := by
  cases e with
  | Raise v c p => exact some (v, c, p)
  | _ => exact none
theorem Yg {e : Stmt} {x : (Option Expr × Option Expr × Pos)} (h : A3s e = some x) : e = .Raise x.1 x.2.1 x.2.2 := inv (mk := fun x => .Raise x.1 x.2.1 x.2.2) (fun e => by cases e <;> rfl) h
noncomputable def Aan (e : Stmt) : Option (List Stmt × List ExceptHandler × List Stmt × List Stmt × Pos) := by
  cases e with
  | Try b h o f p => exact some (b, h, o, f, p)
  | _ => exact none
theorem A5h {e : Stmt} {x : (List Stmt × List ExceptHandler × List Stmt × List Stmt × Pos)} (h : Aan e = some x) : e = .Try x.1 x.2.1 x.2.2.1 x.2.2.2.1 x.2.2.2.2 := inv (mk := fun x => .Try x.1 x.2.1 x.2.2.1 x.2.2.2.1 x.2.2.2.2) (fun e => by cases e <;> rfl) h
noncomputable def Th : ExceptHandler → List Stmt
  | .ExceptHandler _ _ b _ => b
noncomputable def dH (h : ExceptHandler) : Option Expr × Option Str × Pos := match h with
  | .ExceptHandler t n _ p => (t, n, p)
theorem A9b (h : ExceptHandler) : h = .ExceptHandler (dH h).1 (dH h).2.1 (Th h) (dH h).2.2 := by cases h; rfl
noncomputable def Aao (T : Tab) (Γ : List Str) (S : Scope) (c : Nat) (i : Option Nat) (h : ExceptHandler) : Bool :=
  opt (dH h).1 fun t => opt (Ep t) fun x => T.excs.lookup c == some x.1 && (Ao S x.1 && (!(Th h).isEmpty && (match i with
    | none => (dH h).2.1.isNone
    | some j => opt (dH h).2.1 fun nm => slot Γ nm == some j && Bd S nm == some .local)))
end
mutual
noncomputable def A9u (T : Tab) (Γ : List Str) (S : Scope) : PS → Stmt → Bool
  | .assign i e, s => opt (A4e s) fun x => opt (Ge x.1) fun t => opt (Ep t) fun v => slot Γ v.1 == some i && (B2 S v.1 && ((S9 e || Ec x.2.1) && B3 T Γ S e x.2.1))
  | .assigns is e, s => !T.q && opt (A4e s) fun x => opt (Ge x.1) fun t => opt (A09 t) fun ts => Mg x.2.1 && (O3 Γ S is ts.1 && (decide is.Nodup && B3 T Γ S e x.2.1))
  | .setIdx a i e, s => opt (A4e s) fun x => opt (Ge x.1) fun t => opt (A50 t) fun y => B3 T Γ S a y.1 && (B3 T Γ S i y.2.1 && B3 T Γ S e x.2.1)
  | .ite c t e, s => opt (dIf s) fun x => B3 T Γ S c x.1 && (Fg T Γ S t x.2.1 && Fg T Γ S e x.2.2.1)
  | .for1 i it body, s => !T.q && opt (A88 s) fun x => opt (Ep x.1) fun v => x.2.2.2.1.isEmpty && (slot Γ v.1 == some i && (B2 S v.1 && (Ru it && (C3 x.2.1 && (Vi T Γ S it x.2.1 && Fg T Γ S body x.2.2.1)))))
  | .for2 i j it body, s => !T.q && opt (A88 s) fun x => opt (A09 x.1) fun ts => opt (Nq ts.1) fun t => opt (Ep t.1) fun v => opt (Ep t.2) fun w => x.2.2.2.1.isEmpty && (slot Γ v.1 == some i && (B2 S v.1 && (slot Γ w.1 == some j && (B2 S w.1 && (C3 x.2.1 && (Vi T Γ S it x.2.1 && Fg T Γ S body x.2.2.1))))))
  | .whl c body, s => opt (dWh s) fun x => x.2.2.1.isEmpty && (B3 T Γ S c x.1 && Fg T Γ S body x.2.1)
  | .ret e, s => opt (Aag s) fun o => opt o.1 fun v => B3 T Γ S e v
  | .expr e, s => opt (dEx s) fun v => Ec v.1 && B3 T Γ S e v.1
  | .raise c m, s => !T.q && opt (A3s s) fun x => x.2.1.isNone && opt x.1 fun v => Dg v fun f args => opt (Ge args) fun y => opt (N7 y) fun z => opt (A9t z.1) fun w => T.excs.lookup c == some f && (Ao S f && m == w)
  | .tryExpr e c i h, s => !T.q && opt (Aan s) fun x => x.2.2.1.isEmpty && (x.2.2.2.1.isEmpty && opt (Ge x.1) fun st => opt (dEx st) fun v => opt (Ge x.2.1) fun hd => Ec v.1 && (B3 T Γ S e v.1 && (Aao T Γ S c i hd && Fg T.quiet Γ S h (Th hd))))
noncomputable def Fg (T : Tab) (Γ : List Str) (S : Scope) : PSs → List Stmt → Bool
  | .nil, ss => ss.isEmpty
  | .any, _ => true
  | .cons a as, ss => (match ss with | s :: r => A9u T Γ S a s && Fg T Γ S as r | [] => false)
end
noncomputable def Ff (S : Scope) : List Str := (S.names.filter fun x => x.2 == .local || x.2 == .cell).map (·.1)
noncomputable def Wr (T : Tab) (f : FnI) (params : Arguments) (body : List Stmt) (S : Scope) : Bool :=
  params.posonlyargs.isEmpty && params.vararg.isNone && params.kwonlyargs.isEmpty && params.kw_defaults.isEmpty && params.kwarg.isNone && params.defaults.isEmpty &&
  params.args.length == f.np && (Ff S).take f.np == params.args.map (·.arg) && (Ff S).length == f.nv && decide (S.names.map (·.1)).Nodup &&
  S.kind == .function && !S.isGenerator && !S.isCoroutine && S.names.all (fun x => x.2 != .free) && Fg T (Ff S) S f.body body
end Mine
namespace Mine
open PySem PySem.Calls PyProof.Rows
structure Cx where
  prog : Program
  w : World
  sa : Addr
  sc : List Int
  fa : Nat → Addr
  ea : Nat → Value
  os : OsState
  mg : Str → Option Value
  mb : Str → Option Value
  z : Addr → Prop
  eo : Nat → Prop
mutual
inductive VR (C : Cx) (μ : List Addr) (h : Heap) : AV → Value → Prop
  | none : VR C μ h .none .none
  | bool (b : Bool) : VR C μ h (.bool b) (.bool b)
  | int (i : Int) (t : Tok) : VR C μ h (.int i) (.int i t)
  | str (s : Str) (t : Tok) : VR C μ h (.str s) (.str s t)
  | tup {a : Addr} {items : List Value} {vs : List AV} : h.IsTuple a items.toArray → ¬ C.z a → vs.length ≤ lim → VRs C μ h vs items → VR C μ h (.tup vs) (.ref a)
  | ref {n : Nat} {a : Addr} : μ[n]? = some a → VR C μ h (.ref n) (.ref a)
  | scr : VR C μ h .scr (.ref C.sa)
  | fn (k : Nat) : VR C μ h (.fn k) (.ref (C.fa k))
  | exc {c : Nat} {a : Addr} {o : Obj} : C.eo c → h.get? a = some o → ¬ C.z a → o.cls = C.ea c → (∃ vs, o.data = .fields vs) → VR C μ h (.exc c) (.ref a)
inductive VRs (C : Cx) (μ : List Addr) (h : Heap) : List AV → List Value → Prop
  | nil : VRs C μ h [] []
  | cons {x : AV} {v : Value} {xs : List AV} {vs : List Value} : VR C μ h x v → VRs C μ h xs vs → VRs C μ h (x :: xs) (v :: vs)
end
section
variable {C : Cx} {μ : List Addr} {h : Heap} {xs ys : List AV} {vs us : List Value}
theorem VRs.length (q : VRs C μ h xs vs) : xs.length = vs.length := by
  induction xs generalizing vs with
  | nil => cases q; rfl
  | cons x xs ih => cases q with
    | cons _ r => rw [List.length_cons, List.length_cons, ih r]
theorem VRs.get (q : VRs C μ h xs vs) {i : Nat} {x : AV} (e : xs[i]? = some x) : ∃ v, vs[i]? = some v ∧ VR C μ h x v := by
  induction xs generalizing vs i with
  | nil => cases e
  | cons y xs ih => cases q with
    | cons a r => cases i with
      | zero => cases e; exact ⟨_, rfl, a⟩
      | succ i => exact ih r e
theorem VRs.append (q : VRs C μ h xs vs) (r : VRs C μ h ys us) : VRs C μ h (xs ++ ys) (vs ++ us) := by
  induction xs generalizing vs with
  | nil => cases q; exact r
  | cons x xs ih => cases q with
    | cons a q => exact .cons a (ih q)
theorem VRs.take (q : VRs C μ h xs vs) (n : Nat) : VRs C μ h (xs.take n) (vs.take n) := by
  induction xs generalizing vs n with
  | nil => cases q; rw [List.take_nil, List.take_nil]; exact .nil
  | cons x xs ih => cases q with
    | cons a q => cases n with
      | zero => exact .nil
      | succ n => exact .cons a (ih q n)
theorem VRs.drop (q : VRs C μ h xs vs) (n : Nat) : VRs C μ h (xs.drop n) (vs.drop n) := by
  induction n generalizing xs vs with
  | zero => exact q
  | succ n ih => cases q with
    | nil => exact .nil
    | cons a q => exact ih q
theorem VRs.set (q : VRs C μ h xs vs) (i : Nat) {x : AV} {v : Value} (r : VR C μ h x v) : VRs C μ h (xs.set i x) (vs.set i v) := by
  induction xs generalizing vs i with
  | nil => cases q; exact .nil
  | cons y xs ih => cases q with
    | cons a q => cases i with
      | zero => exact .cons r q
      | succ i => exact .cons a (ih q i)
theorem VRs.of_get (e : xs.length = vs.length) (q : ∀ (i : Nat) (x : AV) (v : Value), xs[i]? = some x → vs[i]? = some v → VR C μ h x v) : VRs C μ h xs vs := by
  induction xs generalizing vs with
  | nil => cases vs with
    | nil => exact .nil
    | cons => cases e
  | cons x xs ih => cases vs with
    | nil => cases e
    | cons v vs => exact .cons (q 0 x v rfl rfl) (ih (Nat.succ.inj e) fun i y u e1 e2 => q (i + 1) y u e1 e2)
end
inductive A9d (C : Cx) (μ : List Addr) (h : Heap) (i : Nat) (xs : List AV) : Prop
  | mk (l : xs.length ≤ lim) (a : Addr) (vs : List Value) (e : μ[i]? = some a) (p : h.PlainList a (List.toArray vs)) (q : VRs C μ h xs vs) : A9d C μ h i xs
structure Ci (C : Cx) (μ : List Addr) (H : A0) (h : Heap) : Prop where
  len : μ.length = H.length
  nd : μ.Nodup
  list : ∀ {i : Nat} {xs : List AV}, H[i]? = some (.list xs) → A9d C μ h i xs
  dict : ∀ {i : Nat}, H[i]? = some .dict → ∃ (a : Addr) (n : Nat × Array (Option Value)), μ[i]? = some a ∧ h.get? a = some { cls := .type "dict", data := .dict #[] n.1, slots := n.2 }
structure En (C : Cx) (μ : List Addr) (h : Heap) (env : Env) (Γ : List Str) (ρ : A8) : Prop where
  kind : env.scope.kind = .function
  ns : ∃ m, h.Ns env.locals m ∧ ∀ {x : Str} {i : Nat} {v : AV}, slot Γ x = some i → env.kindOf x = some .local → ρ[i]? = some (some v) → ∃ u, m x = some u ∧ VR C μ h v u
  cells : ∀ {x : Str}, env.kindOf x = some .cell ∨ env.kindOf x = some .free → ∃ c o, env.cells.lookup x = some c ∧ h.IsCell c o ∧
    ∀ {i : Nat} {v : AV}, slot Γ x = some i → ρ[i]? = some (some v) → ∃ u, o = some u ∧ VR C μ h v u
  cell : ∀ {x : Str} {c : Addr}, env.cells.lookup x = some c → ∃ o, h.IsCell c o
  inj : ∀ {x y : Str} {c : Addr}, env.cells.lookup x = some c → env.cells.lookup y = some c → x = y
  globals : env.globals = mainGlobals
  builtins : env.builtins = builtinsNs
noncomputable def Own (μ : List Addr) (env : Env) (a : Addr) : Prop := a ∈ μ ∨ a = env.locals ∨ ∃ x, env.cells.lookup x = some a
noncomputable def ND (o : Obj) : Prop := ∀ es ep, o.data ≠ .dict es ep
inductive DT (o : Obj) : Prop
  | mk (es : Array DictEntry) (ep : Nat) (hd : o.data = .dict es ep) : DT o
theorem DT.no {o : Obj} (d : DT o) (n : ND o) : False := by
  obtain ⟨es, ep, hd⟩ := d
  exact n _ _ hd
inductive Kp (z : Prop) (a : Addr) (o : Obj) (h : Heap) : Prop
  | same (e : h.get? a = some o) : Kp z a o h
  | slot (hz : z) (hd : DT o) (sl : Array (Option Value)) (e : h.get? a = some { o with slots := sl }) : Kp z a o h
theorem Kp.ex {z : Prop} {a : Addr} {o : Obj} {h : Heap} (k : Kp z a o h) (n : ND o) : h.get? a = some o := by
  cases k with
  | same e => exact e
  | slot _ hd _ _ => exact (hd.no n).elim
theorem Kp.map {z z' : Prop} {a : Addr} {o : Obj} {h h' : Heap} (k : Kp z a o h) (q : z → z') (g : ∀ {o' : Obj}, h.get? a = some o' → h'.get? a = some o') : Kp z' a o h' := by
  cases k with
  | same e => exact .same (g e)
  | slot hz hd sl e => exact .slot (q hz) hd sl (g e)
theorem Kp.trans {z : Prop} {a : Addr} {o : Obj} {h h' : Heap} (k : Kp z a o h) (g : ∀ {o' : Obj}, h.get? a = some o' → Kp z a o' h') : Kp z a o h' := by
  cases k with
  | same e => exact g e
  | slot hz hd sl e =>
    cases g e with
    | same e' => exact .slot hz hd sl e'
    | slot _ _ sl' e' => exact .slot hz hd sl' e'
theorem Kp.live {z : Prop} {a : Addr} {o : Obj} {h : Heap} (k : Kp z a o h) : ∃ o', h.get? a = some o' := by
  cases k with
  | same e => exact ⟨_, e⟩
  | slot _ _ _ e => exact ⟨_, e⟩
theorem Kp.ns {z : Prop} {L : Addr} {m : Str → Option Value} {h h' : Heap} (n : h.Ns L m) (k : ∀ {o : Obj}, h.get? L = some o → Kp z L o h') : h'.Ns L m := by
  obtain ⟨o, es, ep, ho, r⟩ := n
  cases k ho with
  | same e => exact ⟨o, es, ep, e, r⟩
  | slot _ _ sl e => exact ⟨_, es, ep, e, r⟩
structure Lv (h h' : Heap) : Prop where
  go : ∀ {a : Addr} {o : Obj}, h.get? a = some o → ∃ o', h'.get? a = some o' ∧ (DT o → DT o')
theorem Lv.trans {h h' h'' : Heap} (x : Lv h h') (y : Lv h' h'') : Lv h h'' := ⟨fun e => let ⟨_, e1, n1⟩ := x.go e; let ⟨o, e2, n2⟩ := y.go e1; ⟨o, e2, fun n => n2 (n1 n)⟩⟩
theorem Lv.grow {h h' : Heap} (k : ∀ {a : Addr} {o : Obj}, h.get? a = some o → h'.get? a = some o) : Lv h h' := ⟨fun e => ⟨_, k e, id⟩⟩
theorem Lv.but {h h' : Heap} {c : Addr} {oc : Obj} (ec : h'.get? c = some oc) (nc : ∀ {o : Obj}, h.get? c = some o → DT o → DT oc) (k : ∀ {a : Addr} {o : Obj}, h.get? a = some o → ¬ (a = c) → h'.get? a = some o) : Lv h h' := ⟨fun {a o} e => by
  by_cases q : a = c
  · subst q; exact ⟨oc, ec, nc e⟩
  · exact ⟨o, k e q, id⟩⟩
noncomputable def FF (z : Addr → Prop) (h g : Heap) : List Env → Prop
  | [] => True
  | env :: r => env.scope.kind ≠ .module ∧ (∃ L o, env.frame = some L ∧ g.get? L = none ∧ h.get? L = some o ∧ DT o ∧ ¬ z L) ∧ FF z h g r
theorem FF.map {z z' : Addr → Prop} {h h' g : Heap} (k : ∀ {L : Addr} {o : Obj}, h.get? L = some o → DT o → ¬ z L → ∃ o', h'.get? L = some o' ∧ DT o' ∧ ¬ z' L) : ∀ {l : List Env}, FF z h g l → FF z' h' g l
  | [], _ => trivial
  | _ :: _, ⟨hk, ⟨L, o, hf, hn, ho, hd, hz⟩, hr⟩ => let ⟨o', e, n, q⟩ := k ho hd hz; ⟨hk, ⟨L, o', hf, hn, e, n, q⟩, FF.map k hr⟩
theorem FF.fun {z : Addr → Prop} {h g : Heap} : ∀ {l : List Env}, FF z h g l → h.FunFrames g l
  | [], _ => trivial
  | _ :: _, ⟨hk, ⟨L, o, hf, hn, ho, hd, _⟩, hr⟩ => ⟨hk, ⟨L, o, hf, hn, ho, fun vs q => by obtain ⟨es, ep, hd⟩ := hd; rw [hd] at q; cases q⟩, FF.fun hr⟩
theorem Lv.ff {z : Addr → Prop} {h h' g : Heap} (x : Lv h h') {l : List Env} (f : FF z h g l) : FF z h' g l := FF.map (fun e n q => let ⟨o, e', n'⟩ := x.go e; ⟨o, e', n' n, q⟩) f
structure Ext (env : Env) (μ μ' : List Addr) (h h' : Heap) : Prop where
  pre : μ <+: μ'
  stay : ∀ {a : Addr} {o : Obj}, h.get? a = some o → ¬ Own μ env a → Kp True a o h'
  new : ∀ {a : Addr}, a ∈ μ' → a ∉ μ → h.get? a = none
  live : Lv h h'
structure Bs where
  h : Heap
  g : Heap
  fs : List Env
  q : Bool
  gb : ∀ a o, g.get? a = some o → h.get? a = some o
noncomputable abbrev Bs.get? (B : Bs) (a : Addr) : Option Obj := B.h.get? a
structure St (C : Cx) (base : Bs) (b : Nat) (env : Env) (Γ : List Str) (ρ : A8) (μ : List Addr) (H : A0) (s : Shared) : Prop where
  keep : ∀ a o, base.get? a = some o → Kp (base.g.get? a = none) a o s.heap
  hp : Ci C μ H s.heap
  er : En C μ s.heap env Γ ρ
  fresh : ∀ {i : Nat} {a : Addr}, b ≤ i → μ[i]? = some a → base.get? a = none
  noloc : base.get? env.locals = none
  lm : env.locals ∉ μ
  nocell : ∀ {x : Str} {c : Addr}, env.cells.lookup x = some c → base.get? c = none
  gens : s.gens = #[]
  os : s.os = C.os
  zl : ∀ {a : Addr}, C.z a → ∃ o, s.heap.get? a = some o
  ff : FF C.z s.heap base.g base.fs
section
variable {C : Cx} {μ μ' μ'' : List Addr} {h h' h'' : Heap} {env : Env} {Γ : List Str} {ρ : A8} {H H' : A0}
theorem Ext.refl : Ext env μ μ h h := ⟨List.prefix_rfl, fun e _ => .same e, fun p q => absurd p q, .grow fun e => e⟩
theorem Ext.trans (x : Ext env μ μ' h h') (y : Ext env μ' μ'' h' h'') : Ext env μ μ'' h h'' := by
  refine ⟨x.pre.trans y.pre, fun {a o} e ho => (x.stay e ho).trans fun e' => y.stay e' ?_, fun {a} hm hn => ?_, x.live.trans y.live⟩
  · rintro (q | q | q)
    · by_cases hq : a ∈ μ
      · exact ho (.inl hq)
      · rw [x.new q hq] at e; cases e
    · exact ho (.inr (.inl q))
    · exact ho (.inr (.inr q))
  · by_cases hq : a ∈ μ'
    · exact x.new hq hn
    · cases e : h.get? a with
      | none => rfl
      | some o => obtain ⟨o', e', _⟩ := x.live.go e; rw [y.new hm hq] at e'; cases e'
theorem Bq {μ μ' : List Addr} {n : Nat} {a : Addr} (p : μ <+: μ') (e : μ[n]? = some a) : μ'[n]? = some a := by
  obtain ⟨t, rfl⟩ := p
  rw [List.getElem?_append_left (List.getElem?_eq_some_iff.mp e).1]; exact e
inductive Zz (o : Obj) : Prop
  | list (vs : Array Value) (k : Nat) (e : o = { cls := .type "list", data := .seq vs k }) : Zz o
  | dict (es : Array DictEntry) (ep : Nat) (e : o.data = .dict es ep) : Zz o
inductive Pa (o : Obj) : Prop
  | mem (m : Zz o) : Pa o
  | cell (v : Option Value) (e : o.data = .cell v) : Pa o
theorem Zz.of (R : Ci C μ H h) {a : Addr} {o : Obj} (q : a ∈ μ) (ho : h.get? a = some o) : Zz o := by
  obtain ⟨i, e⟩ := List.mem_iff_getElem?.mp q
  cases hH : H[i]? with
  | none => rw [List.getElem?_eq_none_iff, ← R.len] at hH; rw [List.getElem?_eq_none hH] at e; cases e
  | some x =>
    cases x with
    | list xs =>
      obtain ⟨_, b, vs, e', ⟨k, p⟩, _⟩ := R.list hH
      rw [e] at e'; cases e'
      rw [p] at ho; cases ho
      exact .list _ _ rfl
    | dict =>
      obtain ⟨b, k, e', p⟩ := R.dict hH
      rw [e] at e'; cases e'
      rw [p] at ho; cases ho
      exact .dict _ _ rfl
theorem Pa.of (R : Ci C μ H h) (N : En C μ h env Γ ρ) {a : Addr} {o : Obj} (q : Own μ env a) (ho : h.get? a = some o) : Pa o := by
  rcases q with q | q | ⟨x, q⟩
  · exact .mem (.of R q ho)
  · subst q
    obtain ⟨m, ⟨o', es, ep, ho', hd', _⟩, _⟩ := N.ns
    rw [ho'] at ho; cases ho; exact .mem (.dict _ _ hd')
  · obtain ⟨o', o'', ho', hd'⟩ := N.cell q
    rw [ho'] at ho; cases ho; exact .cell _ hd'
theorem Pa.noF {o : Obj} {vs : Array Value} (q : Pa o) (hd : o.data = .fields vs) : False := by
  cases q with
  | mem m => cases m with
    | list vs k e => subst e; cases hd
    | dict es ep e => rw [hd] at e; cases e
  | cell v e => rw [hd] at e; cases e
theorem Pa.noT {o : Obj} {vs : Array Value} {n : Nat} (q : Pa o) (hc : o.cls = .type "tuple") (hd : o.data = .seq vs n) : False := by
  cases q with
  | mem m => cases m with
    | list vs k e => subst e; simp at hc
    | dict es ep e => rw [hd] at e; cases e
  | cell v e => rw [hd] at e; cases e
theorem Co (R : Ci C μ H h) (N : En C μ h env Γ ρ) {a : Addr} {items : Array Value} (t : h.IsTuple a items) : ¬ Own μ env a := fun q =>
  let ⟨_, ho, hc, _, hd⟩ := t; (Pa.of R N q ho).noT hc hd
theorem B9 (R : Ci C μ H h) (N : En C μ h env Γ ρ) {a : Addr} {o : Obj} {vs : Array Value} (ho : h.get? a = some o) (hd : o.data = .fields vs) : ¬ Own μ env a := fun q => (Pa.of R N q ho).noF hd
theorem IsTuple.stays {a : Addr} {items : Array Value} (t : h.IsTuple a items) (e : ∀ o, h.get? a = some o → h'.get? a = some o) : h'.IsTuple a items :=
  let ⟨o, ho, r⟩ := t; ⟨o, e o ho, r⟩
theorem IsTuple.kept {z : Prop} {a : Addr} {items : Array Value} (t : h.IsTuple a items) (e : ∀ {o : Obj}, h.get? a = some o → Kp z a o h') : h'.IsTuple a items :=
  let ⟨o, ho, hc, n, hd⟩ := t; ⟨o, (e ho).ex (fun _ _ q => by rw [hd] at q; cases q), hc, n, hd⟩
theorem VR.gmap (hr : ∀ {n : Nat} {a : Addr}, μ[n]? = some a → μ'[n]? = some a) (ht : ∀ {a : Addr} {its : Array Value}, h.IsTuple a its → h'.IsTuple a its)
    (he : ∀ {a : Addr} {o : Obj} {vs : Array Value}, h.get? a = some o → o.data = .fields vs → ∃ o' vs', h'.get? a = some o' ∧ o'.cls = o.cls ∧ o'.data = .fields vs') {x : AV} {v : Value} (q : VR C μ h x v) : VR C μ' h' x v :=
  @VR.rec C μ h (fun x v _ => VR C μ' h' x v) (fun xs vs _ => VRs C μ' h' xs vs) .none .bool .int .str (fun t z l _ ih => .tup (ht t) z l ih) (fun e => .ref (hr e)) .scr .fn
    (fun hk e z hc hd => let ⟨_, hd⟩ := hd; let ⟨_, vs', e', c', d'⟩ := he e hd; .exc hk e' z (c'.trans hc) ⟨vs', d'⟩) .nil (fun _ _ a r => .cons a r) x v q
theorem VRs.gmap (hr : ∀ {n : Nat} {a : Addr}, μ[n]? = some a → μ'[n]? = some a) (ht : ∀ {a : Addr} {its : Array Value}, h.IsTuple a its → h'.IsTuple a its)
    (he : ∀ {a : Addr} {o : Obj} {vs : Array Value}, h.get? a = some o → o.data = .fields vs → ∃ o' vs', h'.get? a = some o' ∧ o'.cls = o.cls ∧ o'.data = .fields vs') {xs : List AV} {vs : List Value} (q : VRs C μ h xs vs) : VRs C μ' h' xs vs := by
  induction xs generalizing vs with
  | nil => cases q; exact .nil
  | cons x xs ih => cases q with
    | cons a r => exact .cons (VR.gmap hr ht he a) (ih r)
theorem Kp.fields {z : Prop} {a : Addr} {o : Obj} {vs : Array Value} (e : Kp z a o h') (hd : o.data = .fields vs) : ∃ o' vs', h'.get? a = some o' ∧ o'.cls = o.cls ∧ o'.data = .fields vs' :=
  ⟨o, vs, e.ex (fun _ _ q => by rw [hd] at q; cases q), rfl, hd⟩
theorem VR.mono' {P : Addr → Prop} (p : μ <+: μ') (st : ∀ {a : Addr} {o : Obj}, h.get? a = some o → ¬ P a → Kp True a o h')
    (ht : ∀ {a : Addr} {items : Array Value}, h.IsTuple a items → ¬ P a) (hf : ∀ {a : Addr} {o : Obj} {vs : Array Value}, h.get? a = some o → o.data = .fields vs → ¬ P a) {x : AV} {v : Value} (q : VR C μ h x v) : VR C μ' h' x v :=
  q.gmap (Bq p) (fun t => IsTuple.kept t fun e => st e (ht t)) fun e hd => (st e (hf e hd)).fields hd
theorem VRs.mono' {P : Addr → Prop} (p : μ <+: μ') (st : ∀ {a : Addr} {o : Obj}, h.get? a = some o → ¬ P a → Kp True a o h')
    (ht : ∀ {a : Addr} {items : Array Value}, h.IsTuple a items → ¬ P a) (hf : ∀ {a : Addr} {o : Obj} {vs : Array Value}, h.get? a = some o → o.data = .fields vs → ¬ P a) {xs : List AV} {vs : List Value} (q : VRs C μ h xs vs) : VRs C μ' h' xs vs :=
  q.gmap (Bq p) (fun t => IsTuple.kept t fun e => st e (ht t)) fun e hd => (st e (hf e hd)).fields hd
theorem VR.mono (R : Ci C μ H h) (N : En C μ h env Γ ρ) (x : Ext env μ μ' h h') {a : AV} {v : Value} (q : VR C μ h a v) : VR C μ' h' a v :=
  VR.mono' (P := Own μ env) x.pre x.stay (Co R N) (B9 R N) q
theorem VRs.mono (R : Ci C μ H h) (N : En C μ h env Γ ρ) (x : Ext env μ μ' h h') {a : List AV} {v : List Value} (q : VRs C μ h a v) : VRs C μ' h' a v :=
  VRs.mono' (P := Own μ env) x.pre x.stay (Co R N) (B9 R N) q
theorem VR.keeps (k : ∀ {a : Addr} {o : Obj}, h.get? a = some o → h'.get? a = some o) {a : AV} {v : Value} (q : VR C μ h a v) : VR C μ h' a v :=
  VR.mono' (P := fun _ => False) List.prefix_rfl (fun e _ => .same (k e)) (fun _ => id) (fun _ _ => id) q
theorem VRs.keeps (k : ∀ {a : Addr} {o : Obj}, h.get? a = some o → h'.get? a = some o) {a : List AV} {v : List Value} (q : VRs C μ h a v) : VRs C μ h' a v :=
  VRs.mono' (P := fun _ => False) List.prefix_rfl (fun e _ => .same (k e)) (fun _ => id) (fun _ _ => id) q
end
end Mine
namespace Mine
open PySem PySem.Calls PyProof.Rows
section
variable {C : Cx} {μ μ' μ'' : List Addr} {h h' h'' : Heap} {base : Bs} {env : Env} {Γ : List Str} {ρ : A8} {H H' : A0} {b : Nat} {s s' : Shared}
theorem En.mono (N : En C μ h env Γ ρ) (hL : ∀ m, h.Ns env.locals m → h'.Ns env.locals m)
    (hc : ∀ (x : Str) (c : Addr) (o : Obj), env.cells.lookup x = some c → h.get? c = some o → h'.get? c = some o) (hv : ∀ {x : AV} {v : Value}, VR C μ h x v → VR C μ' h' x v) : En C μ' h' env Γ ρ where
  kind := N.kind
  ns := by
    obtain ⟨m, n, q⟩ := N.ns
    exact ⟨m, hL m n, fun e k r => let ⟨u, e', v⟩ := q e k r; ⟨u, e', hv v⟩⟩
  cells := fun k => by
    refine bC fun hno => ?_
    obtain ⟨c, o, e, ⟨ob, eb, db⟩, q⟩ := N.cells k
    refine hno ?_
    exact ⟨c, o, e, ⟨ob, hc _ c ob e eb, db⟩, fun e r => let ⟨u, e', v⟩ := q e r; ⟨u, e', hv v⟩⟩
  cell := fun e => let ⟨o, ob, eb, db⟩ := N.cell e; ⟨o, ob, hc _ _ ob e eb, db⟩
  inj := N.inj
  globals := N.globals
  builtins := N.builtins
theorem Ci.get (R : Ci C μ H h) {i : Nat} {a : Addr} (e : μ[i]? = some a) : ∃ o, H[i]? = some o := by
  have : i < H.length := R.len ▸ (List.getElem?_eq_some_iff.mp e).1
  exact ⟨_, List.getElem?_eq_getElem this⟩
theorem Ci.keeps (R : Ci C μ H h) (k : ∀ {a : Addr} {o : Obj}, h.get? a = some o → h'.get? a = some o) : Ci C μ H h' where
  len := R.len
  nd := R.nd
  list := fun e => by
    obtain ⟨l, a, vs, e', ⟨n, p⟩, q⟩ := R.list e
    exact ⟨l, a, vs, e', ⟨n, k p⟩, q.keeps k⟩
  dict := fun e => let ⟨a, n, e', p⟩ := R.dict e; ⟨a, n, e', k p⟩
theorem St.grow (S : St C base b env Γ ρ μ H s) (k : ∀ {a : Addr} {o : Obj}, s.heap.get? a = some o → s'.heap.get? a = some o) (hg : s'.gens = s.gens) (ho : s'.os = s.os) : St C base b env Γ ρ μ H s' where
  keep := fun a o e => (S.keep a o e).map id k
  hp := S.hp.keeps k
  er := S.er.mono (fun _ n => n.at fun _ e => k e) (fun _ _ _ _ e => k e) (fun q => q.keeps k)
  fresh := S.fresh
  noloc := S.noloc
  lm := S.lm
  nocell := S.nocell
  gens := hg.trans S.gens
  os := ho.trans S.os
  zl := fun z => let ⟨_, e⟩ := S.zl z; ⟨_, k e⟩
  ff := (Lv.grow k).ff S.ff
theorem Ext.grow (k : ∀ {a : Addr} {o : Obj}, h.get? a = some o → h'.get? a = some o) : Ext env μ μ h h' := ⟨List.prefix_rfl, fun e _ => .same (k e), fun p q => absurd p q, .grow k⟩
theorem A29 {m m' : Str → Option Value} {L : Addr} (n : h.Ns L m) (n' : h.Ns L m') : m = m' := by
  refine bC fun hno => ?_
  obtain ⟨o, es, ep, ho, hd, _, e⟩ := n
  obtain ⟨o', es', ep', ho', hd', _, e'⟩ := n'
  rw [ho] at ho'; cases ho'; rw [hd] at hd'; cases hd'
  refine hno ?_
  funext x; rw [← e, ← e']
theorem get_memμ {μ : List Addr} {a : Addr} {i : Nat} (q : μ[i]? = some a) : a ∈ μ := List.mem_iff_getElem?.mpr ⟨i, q⟩
theorem St.core {D : Addr} {ρ' : A8} {H' : A0} {s' : Shared} (S : St C base b env Γ ρ μ H s) (own : Own μ env D) (hb : base.get? D = none)
    (st : ∀ {c : Addr} {o : Obj}, s.heap.get? c = some o → ¬ (c = D) → s'.heap.get? c = some o) (lv : Lv s.heap s'.heap) (hg : s'.gens = s.gens) (ho : s'.os = s.os)
    (hp : (∀ {x : List AV} {v : List Value}, VRs C μ s.heap x v → VRs C μ s'.heap x v) → Ci C μ H' s'.heap)
    (er : (∀ {x : AV} {v : Value}, VR C μ s.heap x v → VR C μ s'.heap x v) → En C μ s'.heap env Γ ρ') : St C base b env Γ ρ' μ H' s' ∧ Ext env μ μ s.heap s'.heap := by
  have ht : ∀ {c : Addr} {items : Array Value}, s.heap.IsTuple c items → ¬ (c = D) := fun t e => Co S.hp S.er t (e ▸ own)
  have hf : ∀ {c : Addr} {o : Obj} {vs : Array Value}, s.heap.get? c = some o → o.data = .fields vs → ¬ (c = D) := fun e d e' => B9 S.hp S.er e d (e' ▸ own)
  refine ⟨⟨fun c o e => (S.keep c o e).map id fun e1 => st e1 fun e' => ?_, hp fun q => VRs.mono' (P := (· = D)) List.prefix_rfl (fun e n => .same (st e n)) ht hf q, er fun q => VR.mono' (P := (· = D)) List.prefix_rfl (fun e n => .same (st e n)) ht hf q, S.fresh, S.noloc, S.lm, S.nocell, hg.trans S.gens, ho.trans S.os, fun z => ?_, lv.ff S.ff⟩,
    ⟨List.prefix_rfl, fun e n => .same (st e fun e' => n (e' ▸ own)), fun p q => absurd p q, lv⟩⟩
  · rw [e', hb] at e; cases e
  · obtain ⟨o, e⟩ := S.zl z
    obtain ⟨o', e', _⟩ := lv.go e
    exact ⟨o', e'⟩
theorem St.but {D : Addr} {ρ' : A8} {s' : Shared} (S : St C base b env Γ ρ μ H s) (own : Own μ env D) (hm : D ∉ μ) (hb : base.get? D = none)
    (st : ∀ {c : Addr} {o : Obj}, s.heap.get? c = some o → ¬ (c = D) → s'.heap.get? c = some o) (lv : Lv s.heap s'.heap) (hg : s'.gens = s.gens) (ho : s'.os = s.os)
    (er : (∀ {x : AV} {v : Value}, VR C μ s.heap x v → VR C μ s'.heap x v) → En C μ s'.heap env Γ ρ') : St C base b env Γ ρ' μ H s' ∧ Ext env μ μ s.heap s'.heap :=
  S.core own hb st lv hg ho (fun monos => ⟨S.hp.len, S.hp.nd, fun e => let ⟨l, c, ws, e', ⟨k, p⟩, q⟩ := S.hp.list e; ⟨l, c, ws, e', ⟨k, st p fun q => hm (q ▸ get_memμ e')⟩, monos q⟩,
    fun e => let ⟨c, k, e', p⟩ := S.hp.dict e; ⟨c, k, e', st p fun q => hm (q ▸ get_memμ e')⟩⟩) er
theorem R8 {c : Addr} {o : Option Value} {L : Addr} {m : Str → Option Value} (hc : h.IsCell c o) (n : h.Ns L m) : c ≠ L := fun e => by
  subst e; obtain ⟨ob, eb, db⟩ := hc; obtain ⟨o', es, ep, ho, hd, _⟩ := n
  rw [eb] at ho; cases ho; rw [db] at hd; cases hd
theorem A3e {L : Addr} {m : Str → Option Value} (n' : h'.Ns L m) (k : ∀ {a : Addr} {o : Obj}, h.get? a = some o → ¬ (a = L) → h'.get? a = some o) : Lv h h' :=
  let ⟨_, _, _, ho', hd, _⟩ := n'; .but ho' (fun _ _ => ⟨_, _, hd⟩) k
theorem En.cellne (N : En C μ h env Γ ρ) {x : Str} {c : Addr} (e : env.cells.lookup x = some c) : ¬ (c = env.locals) :=
  let ⟨_, hc⟩ := N.cell e; let ⟨_, n, _⟩ := N.ns; R8 hc n
theorem St.growL (S : St C base b env Γ ρ μ H s) {m : Str → Option Value} (n : s.heap.Ns env.locals m) (n' : s'.heap.Ns env.locals m) (k : ∀ {a : Addr} {o : Obj}, a ≠ env.locals → s.heap.get? a = some o → s'.heap.get? a = some o) (hg : s'.gens = s.gens) (ho : s'.os = s.os) :
    St C base b env Γ ρ μ H s' ∧ Ext env μ μ s.heap s'.heap :=
  S.but (.inr (.inl rfl)) S.lm S.noloc (fun e q => k q e) (A3e n' fun e q => k q e) hg ho fun mono => S.er.mono (fun m' x => A29 n x ▸ n') (fun _ _ _ e1 e2 => k (S.er.cellne e1) e2) mono
theorem St.tok (S : St C base b env Γ ρ μ H s) (t : Nat) : St C base b env Γ ρ μ H { s with toks := t } := S.grow (fun e => e) rfl rfl
theorem size_push (h : Heap) (o : Obj) : (h.push o).objs.size = h.objs.size + 1 := Heap.size_push ..
theorem St.push (S : St C base b env Γ ρ μ H s) (o : Obj) : St C base b env Γ ρ μ H { s with heap := s.heap.push o } := S.grow (fun e => Heap.get?_push_of_some _ e) rfl rfl
theorem Ext.push (o : Obj) : Ext env μ μ h (h.push o) := Ext.grow (fun e => Heap.get?_push_of_some _ e)
theorem Xx {μ : List Addr} {a : Addr} (q : a ∈ μ) : ∃ i : Nat, μ[i]? = some a := List.mem_iff_getElem?.mp q
theorem M5 {μ : List Addr} {a : Addr} {i : Nat} (q : μ[i]? = some a) : a ∈ μ := List.mem_iff_getElem?.mpr ⟨i, q⟩
theorem Ci.live (R : Ci C μ H h) {a : Addr} (q : a ∈ μ) : ∃ o, h.get? a = some o := by
  obtain ⟨i, e⟩ := Xx q
  obtain ⟨o, eo⟩ := R.get e
  cases o with
  | list xs => obtain ⟨_, a', vs, e', ⟨n, p⟩, _⟩ := R.list eo; rw [e] at e'; cases e'; exact ⟨_, p⟩
  | dict => obtain ⟨a', n, e', p⟩ := R.dict eo; rw [e] at e'; cases e'; exact ⟨_, p⟩
theorem Aw (h : Heap) : h.get? h.objs.size = none := by
  cases e : h.get? h.objs.size with
  | none => rfl
  | some o => exact absurd (Heap.lt_size e) (Nat.lt_irrefl _)
theorem Db {h : Heap} {a : Addr} (ha : h.objs.size ≤ a) : h.get? a = none := by
  cases e : h.get? a with
  | none => rfl
  | some o => exact absurd (Heap.lt_size e) (Nat.not_lt.mpr ha)
theorem PlainList.not_ns {a : Addr} {items : Array Value} {m : Str → Option Value} (p : h.PlainList a items) (n : h.Ns a m) : False := by
  obtain ⟨k, p⟩ := p
  obtain ⟨o, es, ep, ho, hd, _⟩ := n
  rw [p] at ho; cases ho; cases hd
theorem PlainList.not_cell {a : Addr} {items : Array Value} {v : Option Value} (p : h.PlainList a items) (n : h.IsCell a v) : False := by
  obtain ⟨k, p⟩ := p
  obtain ⟨o, ho, hd⟩ := n
  rw [p] at ho; cases ho; cases hd
inductive A2d {α : Type} (l : List α) (x y : α) (i : Nat) : Prop
  | old (e : l[i]? = some y) : A2d l x y i
  | new (hi : i = l.length) (hy : y = x) : A2d l x y i
theorem Oj {α : Type} {l : List α} {x y : α} {i : Nat} (e : (l ++ [x])[i]? = some y) : A2d l x y i := by
  by_cases hi : i < l.length
  · rw [List.getElem?_append_left hi] at e; exact .old e
  · by_cases h : i = l.length
    · subst h; rw [List.getElem?_concat_length] at e; exact .new rfl (Option.some.inj e).symm
    · rw [List.getElem?_eq_none (by rw [List.length_append, List.length_singleton]; exact Nat.lt_of_le_of_ne (Nat.not_lt.mp hi) (Ne.symm h))] at e; cases e
theorem St.trackO (S : St C base b env Γ ρ μ H s) {a : Addr} {o : Bw} (h1 : ∀ {xs : List AV}, o = .list xs → xs.length ≤ lim ∧ ∃ vs : List Value, s.heap.PlainList a vs.toArray ∧ VRs C μ s.heap xs vs)
    (h2 : o = .dict → ∃ n : Nat × Array (Option Value), s.heap.get? a = some { cls := .type "dict", data := .dict #[] n.1, slots := n.2 }) (hn : a ∉ μ) (hne : env.locals ≠ a) (hb : base.get? a = none) :
    St C base b env Γ ρ (μ ++ [a]) (H ++ [o]) s := by
  have p := List.prefix_append μ [a]
  have last : (μ ++ [a])[H.length]? = some a := by rw [← S.hp.len]; exact List.getElem?_concat_length
  have monos : ∀ {x : List AV} {v : List Value}, VRs C μ s.heap x v → VRs C (μ ++ [a]) s.heap x v := fun q => q.gmap (Bq p) id fun e d => ⟨_, _, e, rfl, d⟩
  refine ⟨S.keep, ⟨by rw [List.length_append, List.length_append, S.hp.len]; rfl, List.nodup_append.mpr ⟨S.hp.nd, List.pairwise_singleton _ _, fun x hx y hy e => ?_⟩, fun e => ?_, fun e => ?_⟩, S.er.mono (fun _ e => e) (fun _ _ _ _ e => e) (fun q => q.gmap (Bq p) id fun e d => ⟨_, _, e, rfl, d⟩), fun hi e => ?_, S.noloc, fun q => ?_, S.nocell, S.gens, S.os, S.zl, S.ff⟩
  · rw [List.mem_singleton.mp hy] at e; exact hn (e ▸ hx)
  · cases Oj e with
    | old e => obtain ⟨l, c, us, e', p', q⟩ := S.hp.list e; exact ⟨l, c, us, Bq p e', p', monos q⟩
    | new hi hy => obtain ⟨l, vs, p', q⟩ := h1 hy.symm; exact ⟨l, a, vs, hi ▸ last, p', monos q⟩
  · cases Oj e with
    | old e => obtain ⟨c, n, e', p'⟩ := S.hp.dict e; exact ⟨c, n, Bq p e', p'⟩
    | new hi hy => obtain ⟨n, p'⟩ := h2 hy.symm; exact ⟨a, n, hi ▸ last, p'⟩
  · cases Oj e with
    | old e => exact S.fresh hi e
    | new _ hy => rw [hy]; exact hb
  · rcases List.mem_append.mp q with q | q
    · exact S.lm q
    · exact hne (List.mem_singleton.mp q)
theorem St.track (S : St C base b env Γ ρ μ H s) {a : Addr} {vs : List Value} {xs : List AV} (hl : s.heap.PlainList a vs.toArray) (hv : VRs C μ s.heap xs vs) (hn : a ∉ μ) (hb : base.get? a = none) (hz : xs.length ≤ lim) :
    St C base b env Γ ρ (μ ++ [a]) (H ++ [.list xs]) s :=
  S.trackO (fun e => by cases e; exact ⟨hz, vs, hl, hv⟩) (fun e => by cases e) hn (fun e => by obtain ⟨_, n, _⟩ := S.er.ns; exact PlainList.not_ns hl (e ▸ n)) hb
theorem Ext.track {a : Addr} (ha : h.get? a = none) (k : ∀ {a : Addr} {o : Obj}, h.get? a = some o → h'.get? a = some o) : Ext env μ (μ ++ [a]) h h' :=
  ⟨List.prefix_append .., fun e _ => .same (k e), fun p q => by
    rcases List.mem_append.mp p with p | p
    · exact absurd p q
    · simp at p; subst p; exact ha, .grow k⟩
theorem Ext.trackX {a : Addr} (x : Ext env μ μ' h h') (ha : h.get? a = none) : Ext env μ (μ' ++ [a]) h h' :=
  ⟨x.pre.trans (List.prefix_append ..), x.stay, fun p q => by
    rcases List.mem_append.mp p with p | p
    · exact x.new p q
    · simp at p; subst p; exact ha, x.live⟩
theorem Bl (S : St C base b env Γ ρ μ H s) {a : Addr} (ha : s.heap.get? a = none) : base.get? a = none := by
  cases e : base.get? a with
  | none => rfl
  | some o => obtain ⟨o', e'⟩ := (S.keep _ _ e).live; rw [e'] at ha; cases ha
theorem Gk (S : St C base b env Γ ρ μ H s) {a : Addr} (ha : s.heap.get? a = none) : a ∉ μ := fun q => by
  obtain ⟨o, e⟩ := S.hp.live q; rw [ha] at e; cases e
theorem St.newList (S : St C base b env Γ ρ μ H s) {vs : List Value} {xs : List AV} (hv : VRs C μ s.heap xs vs) (hz : xs.length ≤ lim) :
    St C base b env Γ ρ (μ ++ [s.heap.objs.size]) (H ++ [.list xs]) { s with heap := s.heap.push { cls := .type "list", data := .seq vs.toArray } } :=
  (S.push _).track (vs := vs) ⟨0, Heap.get?_push_size _ rfl⟩ (hv.keeps fun e => Heap.get?_push_of_some _ e) (Gk S (Aw _)) (Bl S (Aw _)) hz
theorem Ext.newList {o : Obj} : Ext env μ (μ ++ [h.objs.size]) h (h.push o) := Ext.track (Aw _) fun e => Heap.get?_push_of_some _ e
theorem St.turn (S : St C base b env Γ ρ μ H s) {r : Nat} {a : Addr} {xs ys : List AV} {us : List Value} {h' : Heap} (er : H[r]? = some (.list xs)) (ea : μ[r]? = some a) (hb : b ≤ r)
    (hl : h'.PlainList a us.toArray) (hs : Heap.SameBut a s.heap h') (hv : VRs C μ s.heap ys us) (hz : ys.length ≤ lim) :
    St C base b env Γ ρ μ (H.set r (.list ys)) { s with heap := h' } ∧ Ext env μ μ s.heap h' := by
  obtain ⟨_, a', vs, ea', pl, _⟩ := S.hp.list er
  rw [ea] at ea'; cases ea'
  have st : ∀ {c : Addr} {o : Obj}, s.heap.get? c = some o → ¬ (c = a) → h'.get? c = some o := fun e n => (hs.2 _ n).trans e
  have hr : r < H.length := (List.getElem?_eq_some_iff.mp er).1
  have hne : ∀ {i : Nat} {c : Addr}, i ≠ r → μ[i]? = some c → c ≠ a := fun {i c} hi e e' => hi ((List.getElem?_inj (List.getElem?_eq_some_iff.mp e).1 S.hp.nd).mp (e.trans (e' ▸ ea.symm)))
  have lv : Lv s.heap h' := let ⟨_, p⟩ := hl; let ⟨_, p'⟩ := pl; .but p (fun e d => by rw [p'] at e; cases e; obtain ⟨_, _, q⟩ := d; cases q) st
  refine S.core (s' := { s with heap := h' }) (.inl (get_memμ ea)) (S.fresh hb ea) st lv rfl rfl (fun monos => ⟨by rw [List.length_set]; exact S.hp.len, S.hp.nd, fun {i zs} e => ?_, fun {i} e => ?_⟩)
    fun mono => S.er.mono (fun m n => n.at fun _ e => st e fun e' => PlainList.not_ns pl (e' ▸ n)) (fun x c o e1 e2 => st e2 fun e' => let ⟨_, n⟩ := S.er.cell e1; PlainList.not_cell pl (e' ▸ n)) mono
  · by_cases hi : i = r
    · subst hi
      rw [List.getElem?_set_self hr] at e
      cases e
      exact ⟨hz, a, us, ea, hl, monos hv⟩
    · rw [List.getElem?_set_ne (Ne.symm hi)] at e
      obtain ⟨l, c, ws, e', ⟨n, p⟩, q⟩ := S.hp.list e
      exact ⟨l, c, ws, e', ⟨n, st p (hne hi e')⟩, monos q⟩
  · by_cases hi : i = r
    · subst hi
      rw [List.getElem?_set_self hr] at e
      cases e
    · refine bC fun hno => ?_
      rw [List.getElem?_set_ne (Ne.symm hi)] at e
      obtain ⟨c, n, e', p⟩ := S.hp.dict e
      refine hno ?_
      exact ⟨c, n, e', st p (hne hi e')⟩
theorem Rt {Γ : List Str} {x : Str} {i : Nat} (e : slot Γ x = some i) : Γ[i]? = some x := by
  unfold slot at e
  rw [List.findIdx?_eq_some_iff_getElem] at e
  obtain ⟨hi, h1, _⟩ := e
  rw [List.getElem?_eq_getElem hi]; exact congrArg some (eq_of_beq h1)
theorem A48 {Γ : List Str} {x y : Str} {i : Nat} (e : slot Γ x = some i) (e' : slot Γ y = some i) : x = y := by
  have := Rt e
  rw [Rt e'] at this
  exact (Option.some.inj this).symm
inductive A8b (ρ : A8) (x y : Str) (j : Nat) (v z : AV) : Prop
  | new (hy : y = x) (hz : z = v) : A8b ρ x y j v z
  | old (hy : y ≠ x) (e : ρ[j]? = some (some z)) : A8b ρ x y j v z
theorem Hk {x y : Str} {i j : Nat} {v z : AV} (ex : slot Γ x = some i) (ey : slot Γ y = some j) (e : (ρ.set i (some v))[j]? = some (some z)) : A8b ρ x y j v z := by
  by_cases hj : j = i
  · subst hj
    by_cases hl : j < ρ.length
    · rw [List.getElem?_set_self hl] at e; cases e; exact .new (A48 ex ey).symm rfl
    · rw [List.set_eq_of_length_le (Nat.not_lt.mp hl), List.getElem?_eq_none (Nat.not_lt.mp hl)] at e; cases e
  · rw [List.getElem?_set_ne (Ne.symm hj)] at e
    exact .old (fun e' => hj (by subst e'; rw [ex] at ey; exact (Option.some.inj ey).symm)) e
theorem Vg {x : Str} {i : Nat} {v : AV} {u : Value} {m : Str → Option Value} (N : En C μ h env Γ ρ) (ex : slot Γ x = some i) (hk : env.kindOf x = some .local) (hv : VR C μ h' v u) (n' : h'.Ns env.locals fun y => if y = x then some u else m y)
    (q : ∀ {x : Str} {i : Nat} {v : AV}, slot Γ x = some i → env.kindOf x = some .local → ρ[i]? = some (some v) → ∃ u, m x = some u ∧ VR C μ h' v u) (hs : ∀ {c : Addr} {o : Option Value}, h.IsCell c o → h'.IsCell c o)
    (mono : ∀ {x : AV} {v : Value}, VR C μ h x v → VR C μ h' x v) : En C μ h' env Γ (ρ.set i (some v)) := by
  refine ⟨N.kind, ⟨_, n', fun ey ky ez => ?_⟩, fun ky => ?_, fun e => ?_, N.inj, N.globals, N.builtins⟩
  · cases Hk ex ey ez with
    | new hy hz => subst hy hz; exact ⟨u, if_pos rfl, hv⟩
    | old ne ez =>
      refine bC fun hno => ?_
      obtain ⟨u', e', v'⟩ := q ey ky ez
      refine hno ?_
      exact ⟨u', (if_neg ne).trans e', v'⟩
  · refine bC fun hno => ?_
    obtain ⟨c, o, e, hc, q⟩ := N.cells ky
    refine hno ?_
    refine ⟨c, o, e, hs hc, fun ey ez => ?_⟩
    cases Hk ex ey ez with
    | new hy hz => subst hy; rw [hk] at ky; rcases ky with ky | ky <;> cases ky
    | old ne ez => obtain ⟨u', e', v'⟩ := q ey ez; exact ⟨u', e', mono v'⟩
  · refine bC fun hno => ?_
    obtain ⟨o, hc⟩ := N.cell e
    refine hno ?_
    exact ⟨o, hs hc⟩
theorem Zr {x : Str} {i : Nat} {v : AV} {u : Value} {c₀ : Addr} (N : En C μ h env Γ ρ) (ex : slot Γ x = some i) (hk : env.kindOf x = some .cell) (ec : env.cells.lookup x = some c₀) (hv : VR C μ h' v u) (hc' : h'.IsCell c₀ (some u))
    (ns : ∀ {m : Str → Option Value}, h.Ns env.locals m → h'.Ns env.locals m) (hs : ∀ {c : Addr} {o : Option Value}, h.IsCell c o → c ≠ c₀ → h'.IsCell c o) (mono : ∀ {x : AV} {v : Value}, VR C μ h x v → VR C μ h' x v) : En C μ h' env Γ (ρ.set i (some v)) := by
  obtain ⟨m, n, q⟩ := N.ns
  refine ⟨N.kind, ⟨m, ns n, fun ey ky ez => ?_⟩, fun {y} ky => ?_, fun {y c} e => ?_, N.inj, N.globals, N.builtins⟩
  · cases Hk ex ey ez with
    | new hy hz => subst hy; rw [hk] at ky; cases ky
    | old ne ez => obtain ⟨u', e', v'⟩ := q ey ky ez; exact ⟨u', e', mono v'⟩
  · obtain ⟨c, o, e, hc, q⟩ := N.cells ky
    by_cases hcc : c = c₀
    · refine ⟨c₀, some u, hcc ▸ e, hc', fun ey ez => ?_⟩
      cases Hk ex ey ez with
      | new hy hz => subst hz; exact ⟨u, rfl, hv⟩
      | old ne _ => exact absurd (N.inj (hcc ▸ e) ec) ne
    · refine ⟨c, o, e, hs hc hcc, fun ey ez => ?_⟩
      cases Hk ex ey ez with
      | new hy hz => subst hy; rw [ec] at e; cases e; exact absurd rfl hcc
      | old ne ez => obtain ⟨u', e', v'⟩ := q ey ez; exact ⟨u', e', mono v'⟩
  · by_cases hcc : c = c₀
    · exact ⟨some u, hcc ▸ hc'⟩
    · obtain ⟨o, hc⟩ := N.cell e
      exact ⟨o, hs hc hcc⟩
theorem St.bind {A : Around} {E : Value → Shared → Prop} {M : Model} (S : St C base b env Γ ρ μ H s) {x : Str} {i : Nat} {v : AV} {u : Value} {Q : Unit → Shared → Prop} (ex : slot Γ x = some i)
    (hk : env.kindOf x = some .local ∨ env.kindOf x = some .cell) (hv : VR C μ s.heap v u)
    (h : ∀ s', St C base b env Γ (ρ.set i (some v)) μ H s' → Ext env μ μ s.heap s'.heap → Q () s') : wpAny M A (storeName env x u) Q E s := by
  rcases hk with hk | hk
  · refine bC fun hno => ?_
    obtain ⟨m, n, q⟩ := S.er.ns
    refine hno ?_
    refine wpAny_storeName_local hk n (fun h' n' hs => ?_) (by rw [S.er.kind]; rfl)
    refine bC fun hno => ?_
    have st : ∀ {c : Addr} {o : Obj}, s.heap.get? c = some o → ¬ (c = env.locals) → h'.get? c = some o := fun e n => (hs.2 _ n).trans e
    obtain ⟨S', X⟩ := S.but (s' := { s with heap := h', toks := s.toks + 1 }) (.inr (.inl rfl)) S.lm S.noloc st (A3e n' st) rfl rfl fun mono =>
      Vg S.er ex hk (mono hv) n' (fun a b c => let ⟨u, e, z⟩ := q a b c; ⟨u, e, mono z⟩) (fun hc => hc.sameBut hs (R8 hc n)) mono
    refine hno ?_
    exact h _ S' X
  · refine bC fun hno => ?_
    obtain ⟨c₀, o₀, ec, hc₀, _⟩ := S.er.cells (.inl hk)
    refine hno ?_
    refine wpAny_storeName_cell S.er.kind hk ec hc₀ fun h' hc' hs => ?_
    refine bC fun hno => ?_
    have st : ∀ {c : Addr} {o : Obj}, s.heap.get? c = some o → ¬ (c = c₀) → h'.get? c = some o := fun e n => (hs.2 _ n).trans e
    obtain ⟨ob', eb', db'⟩ := id hc₀
    have lv : Lv s.heap h' := let ⟨_, eb, _⟩ := hc'; .but eb (fun e d => by rw [eb'] at e; cases e; obtain ⟨_, _, q⟩ := d; rw [db'] at q; cases q) st
    have hm : c₀ ∉ μ := fun q => by
      cases Zz.of S.hp q eb' with
      | list vs k e => subst e; cases db'
      | dict es ep e => rw [db'] at e; cases e
    obtain ⟨S', X⟩ := S.but (s' := { s with heap := h' }) (.inr (.inr ⟨x, ec⟩)) hm (S.nocell ec) st lv rfl rfl fun mono =>
      Zr S.er ex hk ec (mono hv) hc' (fun n => n.sameBut hs (R8 hc₀ n).symm) (fun hc hne => hc.sameBut hs hne) mono
    refine hno ?_
    exact h _ S' X
theorem St.kg (S : St C base b env Γ ρ μ H s) {a : Addr} {o : Obj} (e : base.g.get? a = some o) : s.heap.get? a = some o := by
  cases S.keep a o (base.gb a o e) with
  | same e' => exact e'
  | slot hz _ _ _ => rw [e] at hz; cases hz
theorem St.notZ (S : St C base b env Γ ρ μ H s) {a : Addr} (h : s.heap.get? a = none) : ¬ C.z a := fun z => by
  obtain ⟨o, e⟩ := S.zl z
  rw [h] at e; cases e
end
end Mine
namespace Mine
open PySem PySem.Calls PyProof.Rows
noncomputable def Gd (h : Heap) (L : Addr) : List (Addr × Obj) := (List.range h.objs.size).filterMap fun a => if a = L then none else (h.get? a).map fun o => (a, o)
theorem Pu (a : Addr) : ({} : Heap).get? a = none := by simp [Heap.get?]
theorem fr0 {h : Heap} {L : Addr} {m : Str → Option Value} (n : h.Ns L m) : Fr {} L h m := ⟨n, fun b o e => (by rw [Pu] at e; cases e), Nat.zero_le _⟩
theorem Tr {h : Heap} {L a : Addr} {o : Obj} (hne : a ≠ L) (e : h.get? a = some o) : (a, o) ∈ Gd h L := by
  unfold Gd
  rw [List.mem_filterMap]
  exact ⟨a, List.mem_range.mpr (Heap.lt_size e), by rw [if_neg hne, e]; rfl⟩
theorem Ui (h : Heap) (L : Addr) : News {} L h (Gd h L) := by
  intro p hp
  unfold Gd at hp
  rw [List.mem_filterMap] at hp
  obtain ⟨a, _, e⟩ := hp
  split at e
  · cases e
  · rename_i hne
    cases eo : h.get? a with
    | none => rw [eo] at e; cases e
    | some o => rw [eo] at e; cases e; exact ⟨eo, hne, Pu _⟩
theorem Py {h h' : Heap} {L : Addr} {l : List (Addr × Obj)} (N : News {} L h' (l ++ Gd h L)) {a : Addr} {o : Obj} (hne : a ≠ L) (e : h.get? a = some o) : h'.get? a = some o :=
  (N (a, o) (List.mem_append_right _ (Tr hne e))).1
structure AOk (base : Bs) (A : Around) (n : Nat) : Prop where
  depth : A.depth + n + 60 < recursionLimit
  units : A.units + 4 * n + 400 < cLine
  handled : base.q = false → A.handled = none
  frames : A.frames = some base.fs
  guards : A.guards = some []
section
variable {C : Cx} {μ : List Addr} {h h' : Heap} {base : Bs} {env : Env} {Γ : List Str} {ρ : A8} {H H' : A0} {b : Nat} {s s' : Shared} {A : Around} {E : Value → Shared → Prop} {Q : Value → Shared → Prop}
abbrev B5 (C : Cx) (base : Bs) (b : Nat) (env : Env) (Γ : List Str) (ρ : A8) (μ : List Addr) (s : Shared) (v : AV) (H' : A0) (Q : Value → Shared → Prop) : Prop :=
  ∀ (u : Value) (s' : Shared) (μ' : List Addr), Ext env μ μ' s.heap s'.heap → St C base b env Γ ρ μ' H' s' → VR C μ' s'.heap v u → Q u s'
theorem Mf {i : Int} (h : Oo i = true) : Builtin.Int.intBits i ≤ 64 := by
  have h' : i.natAbs < 2 ^ 60 := of_decide_eq_true h
  exact intBits_le_64 (Int.lt_trans (by decide) (oAb h').1) (Int.lt_trans (oAb h').2 (by decide))
theorem Ua {i : Int} (h : i.natAbs < big) : Builtin.Int.intBits i ≤ 2 ^ 20 := by
  unfold Builtin.Int.intBits
  split
  · exact Nat.zero_le _
  · rename_i hn
    have hn' : i.natAbs ≠ 0 := by intro e; apply hn; rw [beq_iff_eq]; exact Int.natAbs_eq_zero.mp e
    have : i.natAbs.log2 < 5000 := (Nat.log2_lt hn').mpr h
    have h2 : (5000 : Nat) < 2 ^ 20 := by decide
    (first | lia | omega)
theorem A3u {a c : Int} (h : E8 a c = true) : IntMulOk a c := by
  unfold E8 at h
  simp only [Bool.or_eq_true, Bool.and_eq_true, decide_eq_true_eq] at h
  rcases h with (h | h) | h
  · exact .of_left (Mf h)
  · exact .of_right (Mf h)
  · exact .of_bits (Ua h.1) (Ua h.2)
theorem R2 {x y : Int} (h : y.natAbs < big) : Builtin.divisionGoesByPylong x y = false := by
  refine PyProof.noPylong_of_log2 ?_
  by_cases h0 : y.natAbs = 0
  · rw [h0]; decide
  · have : y.natAbs.log2 < 5000 := (Nat.log2_lt h0).mpr h
    exact Nat.lt_of_lt_of_le this (by decide)
theorem Er {n : Nat} (h : n ≤ lim) : n ≤ sizeLine := Nat.le_trans h (by decide)
theorem IsList.of_plain {h : Heap} {a : Addr} {items : Array Value} (p : h.PlainList a items) : h.IsList a items := let ⟨n, e⟩ := p; ⟨_, e, rfl, n, rfl⟩
theorem St.ledger (S : St C base b env Γ ρ μ H s) {m : Str → Option Value} {a : Addr} {xs : List AV} {vs : List Value} {h' : Heap} {n : Nat} {l : List (Addr × Obj)} (nm : s.heap.Ns env.locals m)
    (F : Fr {} env.locals h' m) (N : News {} env.locals h' (l ++ Gd s.heap env.locals)) (hl : (a, ({ cls := .type "list", data := .seq vs.toArray n } : Obj)) ∈ l)
    (ha : s.heap.get? a = none) (hv : VRs C μ s.heap xs vs) (hz : xs.length ≤ lim) : St C base b env Γ ρ (μ ++ [a]) (H ++ [.list xs]) { s with heap := h' } ∧ Ext env μ (μ ++ [a]) s.heap h' := by
  have k : ∀ {a : Addr} {o : Obj}, a ≠ env.locals → s.heap.get? a = some o → h'.get? a = some o := fun hne e => Py N hne e
  obtain ⟨S', X⟩ := S.growL (s' := { s with heap := h' }) nm F.ns k rfl rfl
  have hv' : VRs C μ h' xs vs := VRs.mono S.hp S.er X hv
  have hp : h'.PlainList a vs.toArray := ⟨n, (N _ (List.mem_append_left _ hl)).1⟩
  exact ⟨S'.track hp hv' (Gk S ha) (Bl S ha) hz, X.trackX ha⟩
theorem VR.isInt {i : Int} {u : Value} (q : VR C μ h (.int i) u) : ∃ t, u = .int i t := by cases q; exact ⟨_, rfl⟩
theorem VR.isRef {r : Nat} {u : Value} (q : VR C μ h (.ref r) u) : ∃ a, u = .ref a ∧ μ[r]? = some a := by cases q; exact ⟨_, rfl, by assumption⟩
theorem Dx {xs : List AV} {v : AV} (e : B7 xs H = .ok v H') : xs.length ≤ lim ∧ v = .ref H.length ∧ H' = H ++ [.list xs] := by
  unfold B7 at e
  split at e
  · rename_i h; cases e; exact ⟨h, rfl, rfl⟩
  · cases e
inductive I2 {α : Type} (x y : AV) (f : Int → Int → α) (v : α) : Prop
  | mk (a b : Int) (hx : x = .int a) (hy : y = .int b) (e : f a b = v) : I2 x y f v
theorem Jr {x : AV} {i : Int} (h : Cj x = some i) : x = .int i := by
  cases x with
  | int j => cases h; rfl
  | _ => cases h
theorem A35 {α : Type} {no v : α} {x y : AV} {f : Int → Int → α} (e : Dd no x y f = v) (hn : no ≠ v) : I2 x y f v := by
  unfold Dd at e
  cases h1 : Cj x with
  | none => rw [h1] at e; exact absurd e hn
  | some a =>
    cases h2 : Cj y with
    | none => rw [h1, h2] at e; exact absurd e hn
    | some b => rw [h1, h2] at e; exact ⟨a, b, Jr h1, Jr h2, e⟩
theorem Jj {v : AV} : Res.bad ≠ .ok v H' := fun e => by cases e
inductive LsR (C : Cx) (μ : List Addr) (h : Heap) (xs : List AV) (p : Value) : Prop
  | mk (a : Addr) (vs : List Value) (hp : p = .ref a) (pl : h.PlainList a vs.toArray) (q : VRs C μ h xs vs) : LsR C μ h xs p
theorem Ik {x : AV} {p : Value} {xs : List AV} (R : Ci C μ H h) (hx : VR C μ h x p) (e : Fp H x = some xs) : LsR C μ h xs p := by
  unfold Fp at e
  cases x with
  | ref r =>
    cases hx with
    | ref ea =>
      have e : (H[r]?).bind A2w = some xs := e
      cases e1 : H[r]? with
      | none => rw [e1] at e; cases e
      | some o =>
        cases o with
        | dict => rw [e1] at e; cases e
        | list ys =>
          refine bC fun hno => ?_
          rw [e1] at e; cases e
          obtain ⟨_, a', vs, ea', p1, q1⟩ := R.list e1
          rw [ea] at ea'; cases ea'
          refine hno ?_
          exact ⟨_, vs, rfl, p1, q1⟩
  | _ => cases e
theorem A6f {x y v : AV} {p q : Value} (S : St C base b env Γ ρ μ H s) (hx : VR C μ s.heap x p) (hy : VR C μ s.heap y q) (e : Rc x y H = .ok v H') (k : B5 C base b env Γ ρ μ s v H' Q) : wpAny (model C.prog C.w) A (binaryOp .Add p q) Q E s := by
  unfold Rc at e
  cases h1 : Fp H x with
  | none => rw [h1] at e; cases e
  | some xs =>
    cases h2 : Fp H y with
    | none => rw [h1, h2] at e; cases e
    | some ys =>
      rw [h1, h2] at e
      obtain ⟨hz, rfl, rfl⟩ := Dx e
      obtain ⟨a, vs, rfl, p1, q1⟩ := Ik S.hp hx h1
      obtain ⟨c, us, rfl, p2, q2⟩ := Ik S.hp hy h2
      obtain ⟨m, nm, _⟩ := S.er.ns
      refine add_arrays (fr0 nm) (Ui _ _) (IsList.of_plain p1) (IsList.of_plain p2) (fun h' F N => ?_) ?_
      · obtain ⟨S', X⟩ := S.ledger (l := [_]) nm F N (.head _) (Aw _) (q1.append q2) hz
        exact k _ _ _ X S' (.ref (by rw [← S.hp.len]; simp))
      · rw [List.size_toArray, List.size_toArray, ← q1.length, ← q2.length, ← List.length_append]; exact Er hz
theorem Ny {c : Prop} [Decidable c] {r : Res AV} {v : AV} (e : (if c then r else .bad) = .ok v H') : c ∧ r = .ok v H' := by
  by_cases h : c
  · rw [if_pos h] at e; exact ⟨h, e⟩
  · rw [if_neg h] at e; cases e
theorem Ce {α : Type} {no w : α} {K : Value → Value → Sem Value} {x y : AV} {p q : Value} {f : Int → Int → α} (hn : no ≠ w) (hx : VR C μ h x p) (hy : VR C μ h y q) (e : Dd no x y f = w)
    (g : ∀ a c t u, f a c = w → wpAny (model C.prog C.w) A (K (.int a t) (.int c u)) Q E s) : wpAny (model C.prog C.w) A (K p q) Q E s := by
  obtain ⟨a, c, rfl, rfl, e⟩ := A35 e hn
  cases hx with
  | int _ t => cases hy with
    | int _ u => exact g a c t u e
theorem Nn {i : Int} {v : AV} (e : Res.ok (AV.int i) H = .ok v H') (S : St C base b env Γ ρ μ H s) (k : B5 C base b env Γ ρ μ s v H' Q) (n : Nat) (t : Tok) : Q (.int i t) { s with toks := n } := by
  cases e; exact k _ _ μ .refl (S.tok _) (.int _ _)
theorem A2t {op : Operator} {x y v : AV} {p q : Value} (S : St C base b env Γ ρ μ H s) (hx : VR C μ s.heap x p) (hy : VR C μ s.heap y q) (e : Bg op x y H = .ok v H')
    (k : B5 C base b env Γ ρ μ s v H' Q) : wpAny (model C.prog C.w) A (binaryOp op p q) Q E s := by
  cases op with
  | Add =>
    have e : (if (Cj x).isSome = true then Dd .bad x y fun a b => .ok (.int (a + b)) H else Rc x y H) = .ok v H' := e
    by_cases hi : (Cj x).isSome = true
    · exact Ce (K := binaryOp _) Jj hx hy ((if_pos hi).symm.trans e) fun a c t u e => wpAny_add_int (Nn e S k _ _)
    · exact A6f S hx hy ((if_neg hi).symm.trans e) k
  | Sub => exact Ce (K := binaryOp _) Jj hx hy e fun a c t u e => PyProof.Rows.sub_int (Nn e S k _ _)
  | Mult =>
    have e : (if (Cj x).isSome = true then (Dd Res.bad x y fun a b => if E8 a b then Res.ok (.int (a * b)) H else Res.bad) else Res.bad) = .ok v H' := e
    by_cases hi : (Cj x).isSome = true
    · exact Ce (K := binaryOp _) Jj hx hy ((if_pos hi).symm.trans e) fun a c t u e => PyProof.Rows.mul_int (Nn (Ny e).2 S k _ _) (A3u (Ny e).1)
    · rw [if_neg hi] at e; cases e
  | FloorDiv => exact Ce (K := binaryOp _) Jj hx hy e fun a c t u e => PyProof.Rows.floordiv_int (Ny e).1.1 (Nn (Ny e).2 S k _ _) (.inl (R2 (Ny e).1.2))
  | Mod => exact Ce (K := binaryOp _) Jj hx hy e fun a c t u e => PyProof.Rows.mod_int (Ny e).1 (Nn (Ny e).2 S k _ _)
  | Pow => cases e
  | _ => cases e
end
end Mine
namespace Mine
open PySem PySem.Calls PyProof.Rows PySem.SeqAt
noncomputable def Ei : List Value := [.type "ValueError", .type "Exception", .type "BaseException", .type "object"]
inductive Sb (h : Heap) (C : Addr) (tl : List Value) : Prop
  | mk (N : Addr) (nm q : Str) (bs : List Value) (hdct : Bool) (sn : List Str) (sub : List Value) (ab : Bool) (col : Option Bool) (dd : Option Addr) (k0 k1 k2 k3 k5 : Option Value) (mN : Str → Option Value)
    (hC : h.get? C = some (excClassObj nm q C N bs tl hdct sn sub ab col dd k0 k1 k2 k3 k5 "ValueError.__new__")) (hN : h.Ns N mN) (hq : ∀ n ∈ quietNames, mN n = none) (hcl : mN "__class__" = none) : Sb h C tl
theorem Sb.keeps {h h' : Heap} {C : Addr} {tl : List Value} (x : Sb h C tl) (k : ∀ b o, h.get? b = some o → h'.get? b = some o) : Sb h' C tl := by
  obtain ⟨N, nm, q, bs, hdct, sn, sub, ab, col, dd, k0, k1, k2, k3, k5, mN, hC, hN, hq, hcl⟩ := x
  exact ⟨N, nm, q, bs, hdct, sn, sub, ab, col, dd, k0, k1, k2, k3, k5, mN, k _ _ hC, hN.keeps k, hq, hcl⟩
inductive E7 (h : Heap) : List Value → Prop
  | base : E7 h Ei
  | own {C : Addr} {tl : List Value} (x : Sb h C Ei) (e : tl = .ref C :: Ei) : E7 h tl
theorem E7.keeps {h h' : Heap} {tl : List Value} (x : E7 h tl) (k : ∀ b o, h.get? b = some o → h'.get? b = some o) : E7 h' tl := by
  cases x with
  | base => exact .base
  | own x e => exact .own (x.keeps k) e
theorem E7.tailQ {h : Heap} {tl : List Value} (x : E7 h tl) : OwnTailQ h Ei tl := by
  cases x with
  | base => exact .base
  | own x e =>
    obtain ⟨N, nm, q, bs, hdct, sn, sub, ab, col, dd, k0, k1, k2, k3, k5, mN, hC, hN, hq, hcl⟩ := x
    subst e
    exact .own hC hN hq .base
inductive SmF (g : Heap) : Prop
  | mk (o : Obj) (h : g.get? sysModules = some o) : SmF g
structure Tb (C : Cx) (T : Tab) (g : Heap) : Prop where
  cls : ∀ {k : Nat} {x : Str}, T.excs.lookup k = some x → ∃ Ck tl, C.mg x = some (.ref Ck) ∧ C.ea k = .ref Ck ∧ Sb g Ck tl ∧ E7 g tl ∧ tl = (if k = 0 then Ei else C.ea 0 :: Ei)
  inj : ∀ {k j : Nat} {x y : Str}, T.excs.lookup k = some x → T.excs.lookup j = some y → C.ea k = C.ea j → k = j
  has0 : ∀ {k : Nat} {x : Str}, T.excs.lookup k = some x → ∃ y, T.excs.lookup 0 = some y
  eo : ∀ {k : Nat}, C.eo k ↔ ∃ x, T.excs.lookup k = some x
  sm : SmF g
end Mine
namespace Mine
open PySem PySem.Calls PyProof.Rows PySem.SeqAt
section
variable {M : Model} {A : Around} {E : Value → Shared → Prop} {s : Shared}
inductive Xr (fs : List Env) (e : Addr) (oe : Obj) (h h' : Heap) : Prop
  | mk (T : Addr) (oT : Obj) (ts : Array Value) (oe' : Obj) (vs' : Array Value) (hn : h.get? T = none) (hT : h'.get? T = some oT) (dT : oT.data = .fields ts) (zT : 3 < ts.size) (he : h'.get? e = some oe') (hc : oe'.cls = oe.cls)
    (hd : oe'.data = .fields vs') (h1 : vs'[1]? = some (.ref T)) (hk : ∀ {b : Addr} {o : Obj}, b ≠ e → b ∉ fs.filterMap (·.frame) → h.get? b = some o → h'.get? b = some o)
    (hs : ∀ {b : Addr} {o : Obj}, b ≠ e → h.get? b = some o → ∃ sl, h'.get? b = some { o with slots := sl }) : Xr fs e oe h h'
theorem Si {g : Heap} {env : Env} {outer : List Env} {L e : Addr} {oe : Obj} {vs : Array Value} {head : Value} {hadNext : Bool} {Q : Unit → Shared → Prop}
    (hfr : A.frames = some (env :: outer)) (hl : s.heap.FunFrames g (env :: outer)) (hf : env.frame = some L) (he : s.heap.get? e = some oe) (hd : oe.data = .fields vs) (hsz : 1 < vs.size)
    (k : ∀ h', Xr (env :: outer) e oe s.heap h' → Q () { s with heap := h' }) :
    wpAny M A (do let a ← frameOf env; let pl ← entryPlaceOf L hadNext; let b ← EntryCells.newEntry head a .none (rawInt L) .none pl; setField (.ref e) 1 b) Q E s := by
  have hene : e ∉ (env :: outer).filterMap (·.frame) := fun hm => by
    obtain ⟨_, o, ho, hnf⟩ := hl.mem hm
    rw [he] at ho; injection ho with ho; subst ho; exact hnf vs hd
  refine wpAny_bind (wpAny_frameOf_fun hfr hl hf fun h₁ hs₁ => ?_)
  refine wpAny_bind (wpAny_entryPlaceOf fun pl hpl => ?_)
  unfold EntryCells.newEntry newFields
  refine wpAny_bind (wpAny_newObj_type ?_ (hpl.sizeOk5 _ _ _ _ _))
  have he₁ : h₁.get? e = some oe := (hs₁.2.1 e hene).trans he
  generalize hob : ({ cls := .type "traceback", dict := none, data := .fields ([head, .ref L, .none, rawInt L, .none] ++ (if pl.isEmpty then List.replicate 6 Value.none else pl)).toArray } : Obj) = ob
  have hdb : ob.data = .fields ([head, .ref L, .none, rawInt L, .none] ++ (if pl.isEmpty then List.replicate 6 Value.none else pl)).toArray := by rw [← hob]
  have he₂ := Heap.get?_push_of_some (h := h₁) ob he₁
  refine wpAny_setField he₂ hd hsz (k _ ?_)
  have hTe : h₁.objs.size ≠ e := Nat.ne_of_gt (Heap.lt_size he₁)
  have hd₃ := Obj.data_mapFields hd (·.setIfInBounds 1 (Value.ref h₁.objs.size))
  have hT : ((h₁.push ob).update e (Obj.mapFields (·.setIfInBounds 1 (Value.ref h₁.objs.size)))).get? h₁.objs.size = some ob :=
    (Heap.get?_update_other _ _ (Ne.symm hTe)).trans (Heap.get?_push_size h₁ (by rw [← hob]; rfl))
  have hk : ∀ {b : Addr} {o : Obj}, b ≠ e → h₁.get? b = some o → ((h₁.push ob).update e (Obj.mapFields (·.setIfInBounds 1 (Value.ref h₁.objs.size)))).get? b = some o := fun {b o} hbe hb => by
    rw [Heap.get?_update_other _ _ (Ne.symm hbe)]
    exact Heap.get?_push_of_some _ hb
  refine ⟨h₁.objs.size, ob, _, _, _, Db (Nat.le_of_eq hs₁.1.symm), hT, hdb, by simp only [List.size_toArray, List.length_append, List.length_cons, List.length_nil] <;> exact Nat.le_of_lt (Nat.le_add_right _ _), Heap.get?_update_self _ he₂ (Obj.isFreed_of_fields hd₃), Obj.cls_mapFields _ _, hd₃, by simp [hsz], ?_, ?_⟩
  · intro b o hbe hbf hb
    exact hk hbe ((hs₁.2.1 b hbf).trans hb)
  · intro b o hbe hb
    obtain ⟨sl, e1⟩ := hs₁.2.2 b o hb
    exact ⟨sl, hk hbe e1⟩
inductive XR (cls : Value) (p : Bool) (u : Value) (h0 h : Heap) : Prop
  | new (a : Addr) (o : Obj) (vs : Array Value) (e : u = .ref a) (hp : p = false) (ho : h.get? a = some o) (hn : h0.get? a = none) (hc : o.cls = cls) (hd : o.data = .fields vs) (h1 : vs[1]? = some .none) : XR cls p u h0 h
  | on (a : Addr) (o : Obj) (vs : Array Value) (T : Addr) (oT : Obj) (ts : Array Value) (e : u = .ref a) (ho : h.get? a = some o) (hn : h0.get? a = none) (hc : o.cls = cls) (hd : o.data = .fields vs) (h1 : vs[1]? = some (.ref T))
    (hT : h.get? T = some oT) (nT : h0.get? T = none) (dT : oT.data = .fields ts) (zT : 3 < ts.size) (hne : T ≠ a) : XR cls p u h0 h
theorem XR.back {cls : Value} {p : Bool} {u : Value} {h0 h1 h : Heap} (l : Lv h0 h1) (x : XR cls p u h1 h) : XR cls p u h0 h := by
  have q : ∀ {a : Addr}, h1.get? a = none → h0.get? a = none := fun {a} e => by
    cases e0 : h0.get? a with
    | none => rfl
    | some o => obtain ⟨o', e', _⟩ := l.go e0; rw [e] at e'; cases e'
  cases x with
  | new a o vs e hp ho hn hc hd h1 => exact .new a o vs e hp ho (q hn) hc hd h1
  | on a o vs T oT ts e ho hn hc hd h1 hT nT dT zT hne => exact .on a o vs T oT ts e ho (q hn) hc hd h1 hT (q nT) dT zT hne
inductive D7 (fs : List Env) (h0 h h' : Heap) : Prop
  | mk (keep : ∀ {b : Addr} {o : Obj}, h.get? b = some o → (∀ vs, o.data ≠ .fields vs) → b ∉ fs.filterMap (·.frame) → h'.get? b = some o)
    (old : ∀ {b : Addr} {o o0 : Obj}, h0.get? b = some o0 → h.get? b = some o → b ∉ fs.filterMap (·.frame) → h'.get? b = some o)
    (slot : ∀ {b : Addr} {o : Obj}, h.get? b = some o → (∀ vs, o.data ≠ .fields vs) → ∃ sl, h'.get? b = some { o with slots := sl })
    (rec : ∀ {b : Addr} {o : Obj} {vs : Array Value}, h.get? b = some o → o.data = .fields vs → ∃ o' vs', h'.get? b = some o' ∧ o'.cls = o.cls ∧ o'.data = .fields vs') : D7 fs h0 h h'
theorem D7.refl {fs : List Env} {h0 h : Heap} : D7 fs h0 h h := ⟨fun e _ _ => e, fun _ e _ => e, fun {_ o} e _ => ⟨o.slots, e⟩, fun e d => ⟨_, _, e, rfl, d⟩⟩
theorem D7.trans {fs : List Env} {h0 h h1 h2 : Heap} (x : D7 fs h0 h h1) (y : D7 fs h0 h1 h2) : D7 fs h0 h h2 := by
  refine bC fun hno => ?_
  obtain ⟨x1, x2, x3, x4⟩ := x
  obtain ⟨y1, y2, y3, y4⟩ := y
  refine hno ?_
  refine ⟨fun e n f => y1 (x1 e n f) n f, fun e0 e f => y2 e0 (x2 e0 e f) f, fun e n => ?_, fun e d => ?_⟩
  · refine bC fun hno => ?_
    obtain ⟨sl, e1⟩ := x3 e n
    obtain ⟨sl', e2⟩ := y3 e1 n
    refine hno ?_
    exact ⟨sl', e2⟩
  · refine bC fun hno => ?_
    obtain ⟨o', vs', e1, c1, d1⟩ := x4 e d
    obtain ⟨o'', vs'', e2, c2, d2⟩ := y4 e1 d1
    refine hno ?_
    exact ⟨o'', vs'', e2, c2.trans c1, d2⟩
theorem D7.field {fs : List Env} {h0 h : Heap} {a : Addr} {o : Obj} {vs : Array Value} {f : Array Value → Array Value} (hn : h0.get? a = none) (ho : h.get? a = some o) (hd : o.data = .fields vs) : D7 fs h0 h (h.update a (Obj.mapFields f)) := by
  have hd₃ := Obj.data_mapFields hd f
  have hs := Heap.get?_update_self (Obj.mapFields f) ho (Obj.isFreed_of_fields hd₃)
  refine ⟨fun {b o'} e n _ => ?_, fun {b o' o0} e0 e _ => ?_, fun {b o'} e n => ⟨o'.slots, ?_⟩, fun {b o' vs'} e d => ?_⟩
  · rw [Heap.get?_update_other _ _ fun q => by subst q; rw [ho] at e; cases e; exact n _ hd]; exact e
  · rw [Heap.get?_update_other _ _ fun q => by subst q; rw [hn] at e0; cases e0]; exact e
  · rw [Heap.get?_update_other _ _ fun q => by subst q; rw [ho] at e; cases e; exact n _ hd]; exact e
  · by_cases q : a = b
    · subst q; rw [ho] at e; cases e; exact ⟨_, _, hs, Obj.cls_mapFields _ _, hd₃⟩
    · exact ⟨o', vs', (Heap.get?_update_other _ _ q).trans e, rfl, d⟩
theorem D7.noted {fs : List Env} {h0 h h' : Heap} {e : Addr} {oe : Obj} {vs : Array Value} (hn : h0.get? e = none) (he : h.get? e = some oe) (hd : oe.data = .fields vs) (x : Xr fs e oe h h') : D7 fs h0 h h' := by
  obtain ⟨T, oT, ts, oe', vs', nT, hT, dT, zT, he', hc, hd', h1, hk, hs⟩ := x
  refine ⟨fun {b o} eb n f => hk (fun q => by subst q; rw [he] at eb; cases eb; exact n _ hd) f eb, fun {b o o0} e0 eb f => hk (fun q => by subst q; rw [hn] at e0; cases e0) f eb,
    fun {b o} eb n => hs (fun q => by subst q; rw [he] at eb; cases eb; exact n _ hd) eb, fun {b o ws} eb d => ?_⟩
  by_cases q : b = e
  · subst q; rw [he] at eb; cases eb; exact ⟨_, _, he', hc, hd'⟩
  · obtain ⟨sl, e1⟩ := hs q eb
    exact ⟨_, ws, e1, rfl, d⟩
theorem A5c {g h0 : Heap} {env : Env} {outer : List Env} {L : Addr} {cls u : Value} {p : Bool} {Q : Unit → Shared → Prop} (hfr : A.frames = some (env :: outer)) (hl : s.heap.FunFrames g (env :: outer)) (hf : env.frame = some L)
    (x : XR cls p u h0 s.heap) (l : Lv h0 s.heap) (k : ∀ h', D7 (env :: outer) h0 s.heap h' → XR cls true u h0 h' → Q () { s with heap := h' }) : wpAny M A (noteFrame u env) Q E s := by
  have q : ∀ {a : Addr}, s.heap.get? a = none → h0.get? a = none := fun {a} e => by
    cases e0 : h0.get? a with
    | none => rfl
    | some o => obtain ⟨o', e', _⟩ := l.go e0; rw [e] at e'; cases e'
  have fin : ∀ {a : Addr} {o : Obj} {vs : Array Value} {h1 h' : Heap}, u = .ref a → h0.get? a = none → h1.get? a = some o → o.cls = cls → o.data = .fields vs → D7 (env :: outer) h0 s.heap h1 → (∀ {b : Addr}, h1.get? b = none → h0.get? b = none) →
      Xr (env :: outer) a o h1 h' → Q () { s with heap := h' } := by
    intro a o vs h1 h' eu hn ho hc hd st qn N
    refine k h' (st.trans (.noted hn ho hd N)) ?_
    obtain ⟨T, oT, ts, oe', vs', nT, hT, dT, zT, he', hc', hd', h1', _, _⟩ := N
    exact .on a oe' vs' T oT ts eu he' hn (hc'.trans hc) hd' h1' hT (qn nT) dT zT fun e => by rw [e, ho] at nT; cases nT
  unfold noteFrame
  simp only [hf]
  cases x with
  | new a o vs e hp ho hn hc hd h1 =>
    subst e
    refine wpAny_bind (wpAny_field ho hd h1 ?_)
    rw [if_neg (by decide)]
    exact Si hfr hl hf ho hd (Array.getElem?_eq_some_iff.mp h1).1 fun h' N => fin rfl hn ho hc hd .refl q N
  | on a o vs T oT ts e ho hn hc hd h1 hT nT dT zT hne =>
    subst e
    refine wpAny_bind (wpAny_field ho hd h1 ?_)
    rw [if_pos (show (Value.ref T != Value.none) = true from by simp)]
    refine wpAny_bind (wpAny_field hT dT (x := ts[3]'zT) (Array.getElem?_eq_some_iff.mpr ⟨zT, rfl⟩) ?_)
    by_cases h3 : (ts[3]'zT == rawInt L) = true
    · rw [if_pos h3]
      exact wpAny_pure (k _ .refl (.on a o vs T oT ts rfl ho hn hc hd h1 hT nT dT zT hne))
    · rw [if_neg h3]
      refine wpAny_bind (wpAny_setField hT dT zT ?_)
      have st : D7 (env :: outer) h0 s.heap (s.heap.update T (Obj.mapFields (·.setIfInBounds 3 Value.none))) := .field nT hT dT
      have ho' : (s.heap.update T (Obj.mapFields (·.setIfInBounds 3 Value.none))).get? a = some o := (Heap.get?_update_other _ _ hne).trans ho
      refine Si hfr (hl.of_keeps fun b ob hb hnf => ?_) hf ho' hd (Array.getElem?_eq_some_iff.mp h1).1 fun h' N => fin rfl hn ho' hc hd st ?_ N
      · refine ⟨ob, (Heap.get?_update_other _ _ fun e => ?_).trans hb, rfl⟩
        subst e; rw [hT] at hb; cases hb; exact hnf _ dT
      · intro b e
        by_cases hb : T = b
        · subst hb; exact nT
        · rw [Heap.get?_update_other _ _ hb] at e; exact q e
theorem Zk {h0 : Heap} {fs : List Env} {f : Option Addr} {cls u : Value} {Q : Unit → Shared → Prop} (x : XR cls true u h0 s.heap) (k : ∀ h', D7 fs h0 s.heap h' → XR cls true u h0 h' → Q () { s with heap := h' }) : wpAny M A (setFlight u f) Q E s := by
  cases x with
  | new a o vs e hp ho hn hc hd h1 => cases hp
  | on a o vs T oT ts e ho hn hc hd h1 hT nT dT zT hne =>
    subst e
    unfold setFlight
    refine wpAny_bind (wpAny_field ho hd h1 ?_)
    rw [if_pos (show (Value.ref T != Value.none) = true from by simp)]
    refine wpAny_setField hT dT zT (k _ (.field nT hT dT) ?_)
    have hd₃ := Obj.data_mapFields dT (·.setIfInBounds 3 (f.elim .none fun f => rawInt f))
    exact .on a o vs T _ _ rfl ((Heap.get?_update_other _ _ hne).trans ho) hn hc hd h1 (Heap.get?_update_self _ hT (Obj.isFreed_of_fields hd₃)) nT hd₃ (by simpa using zT) hne
end
end Mine
namespace Mine
open PySem PySem.Calls PyProof.Rows PySem.SeqAt
section
variable {C : Cx} {μ μ' : List Addr} {h h' : Heap} {base : Bs} {env : Env} {Γ : List Str} {ρ ρ0 : A8} {H H0 : A0} {b : Nat} {s s0 : Shared}
theorem FF.mem {z : Addr → Prop} {g : Heap} : ∀ {l : List Env} {L : Addr}, FF z h g l → L ∈ l.filterMap (·.frame) → g.get? L = none ∧ ∃ o, h.get? L = some o ∧ DT o
  | [], _, _, q => by simp at q
  | e :: r, L, ⟨_, ⟨L', o, hf, hn, ho, hd, _⟩, hr⟩, q => by
    rw [List.filterMap_cons, hf] at q
    rcases List.mem_cons.mp q with q | q
    · subst q; exact ⟨hn, o, ho, hd⟩
    · exact FF.mem hr q
theorem FF.off {z : Addr → Prop} {g : Heap} {l : List Env} {a : Addr} {o : Obj} (f : FF z h g l) (e : h.get? a = some o) (n : ND o) : a ∉ l.filterMap (·.frame) := fun q => by
  obtain ⟨_, o', e', d⟩ := f.mem q
  rw [e] at e'; cases e'; exact d.no n
theorem FF.fresh {z : Addr → Prop} {g : Heap} {l : List Env} {a : Addr} (f : FF z h g l) (e : h.get? a = none) : a ∉ l.filterMap (·.frame) := fun q => by
  obtain ⟨_, o', e', d⟩ := f.mem q
  rw [e] at e'; cases e'
theorem FF.but {z : Addr → Prop} {g : Heap} {D : Addr} (k : ∀ {a : Addr} {o : Obj}, h.get? a = some o → ¬ (a = D) → h'.get? a = some o) : ∀ {l : List Env}, FF z h g l → D ∉ l.filterMap (·.frame) → FF z h' g l
  | [], _, _ => trivial
  | e :: r, ⟨hk, ⟨L, o, hf, hn, ho, hd, hz⟩, hr⟩, q => by
    rw [List.filterMap_cons, hf] at q
    exact ⟨hk, ⟨L, o, hf, hn, k ho (fun e => q (e ▸ List.mem_cons_self ..)), hd, hz⟩, FF.but k hr fun m => q (List.mem_cons_of_mem _ m)⟩
theorem D7.lv {fs : List Env} {h0 : Heap} (x : D7 fs h0 h h') : Lv h h' := by
  obtain ⟨x1, x2, x3, x4⟩ := x
  refine ⟨fun {a o} e => ?_⟩
  by_cases q : ∃ vs, o.data = .fields vs
  · obtain ⟨vs, d⟩ := q
    obtain ⟨o', vs', e', _, _⟩ := x4 e d
    exact ⟨o', e', fun dt => by obtain ⟨es, ep, q⟩ := dt; rw [d] at q; cases q⟩
  · obtain ⟨sl, e'⟩ := x3 e fun vs d => q ⟨vs, d⟩
    exact ⟨_, e', fun ⟨es, ep, d⟩ => ⟨es, ep, d⟩⟩
theorem D7.kp {fs : List Env} {h0 g : Heap} {z : Addr → Prop} (x : D7 fs h0 h h') (f : FF z h g fs) {a : Addr} {o : Obj} (e : h.get? a = some o) (q : (∀ vs, o.data ≠ .fields vs) ∨ ∃ o0, h0.get? a = some o0) : Kp (g.get? a = none) a o h' := by
  refine bC fun hno => ?_
  obtain ⟨x1, x2, x3, x4⟩ := x
  refine hno ?_
  by_cases m : a ∈ fs.filterMap (·.frame)
  · refine bC fun hno => ?_
    obtain ⟨hg, o', e', d⟩ := f.mem m
    rw [e] at e'; cases e'
    obtain ⟨sl, e1⟩ := x3 e fun vs d' => by obtain ⟨_, _, d⟩ := d; rw [d] at d'; cases d'
    refine hno ?_
    exact .slot hg d sl e1
  · rcases q with n | ⟨o0, e0⟩
    · exact .same (x1 e n m)
    · exact .same (x2 e0 e m)
theorem St.xstep (S0 : St C base b env Γ ρ0 μ' H0 s0) (S : St C base b env Γ ρ μ H s) (X : Ext env μ' μ s0.heap s.heap) (st : D7 base.fs s0.heap s.heap h') : St C base b env Γ ρ μ H { s with heap := h' } ∧ Ext env μ' μ s0.heap h' := by
  have lv := st.lv
  have kn : ∀ {a : Addr} {o : Obj}, s.heap.get? a = some o → (∀ vs, o.data ≠ .fields vs) → ND o → h'.get? a = some o := fun e n d => (st.kp S.ff e (.inl n)).ex d
  have tu : ∀ {a : Addr} {its : Array Value}, s.heap.IsTuple a its → h'.IsTuple a its := fun t => by
    obtain ⟨o, e, hc, n, hd⟩ := t
    exact ⟨o, kn e (fun _ q => by rw [hd] at q; cases q) (fun _ _ q => by rw [hd] at q; cases q), hc, n, hd⟩
  have sr : ∀ {a : Addr} {o : Obj} {vs : Array Value}, s.heap.get? a = some o → o.data = .fields vs → ∃ o' vs', h'.get? a = some o' ∧ o'.cls = o.cls ∧ o'.data = .fields vs' := fun e d => by
    obtain ⟨_, _, _, x4⟩ := st
    exact x4 e d
  refine ⟨⟨fun a o e => ?_, ⟨S.hp.len, S.hp.nd, fun e => ?_, fun e => ?_⟩, S.er.mono (fun m n => ?_) (fun x c o ec e => ?_) (fun q => q.gmap id tu sr), S.fresh, S.noloc, S.lm, S.nocell, S.gens, S.os, fun z => ?_, lv.ff S.ff⟩, ⟨X.pre, fun {a o} e n => ?_, X.new, X.live.trans lv⟩⟩
  · refine bC fun hno => ?_
    obtain ⟨o0, e0⟩ := (S0.keep a o e).live
    refine hno ?_
    exact (S.keep a o e).trans fun e' => st.kp S.ff e' (.inr ⟨o0, e0⟩)
  · refine bC fun hno => ?_
    obtain ⟨l, a, vs, e', ⟨n, p⟩, q⟩ := S.hp.list e
    refine hno ?_
    exact ⟨l, a, vs, e', ⟨n, kn p (fun _ q => by cases q) (fun _ _ q => by cases q)⟩, q.gmap id tu sr⟩
  · refine bC fun hno => ?_
    obtain ⟨a, n, e', p⟩ := S.hp.dict e
    refine hno ?_
    cases st.kp S.ff p (.inl fun _ q => by cases q) with
    | same e1 => exact ⟨a, n, e', e1⟩
    | slot _ _ sl e1 => exact ⟨a, (n.1, sl), e', e1⟩
  · refine bC fun hno => ?_
    obtain ⟨o, es, ep, ho, hd, r⟩ := n
    refine hno ?_
    exact Kp.ns ⟨o, es, ep, ho, hd, r⟩ fun e => st.kp S.ff e (.inl (by rw [ho] at e; cases e; intro _ q; rw [hd] at q; cases q))
  · refine bC fun hno => ?_
    obtain ⟨v, ob, eb, db⟩ := S.er.cell ec
    rw [e] at eb; cases eb
    refine hno ?_
    exact kn e (fun _ q => by rw [db] at q; cases q) (fun _ _ q => by rw [db] at q; cases q)
  · refine bC fun hno => ?_
    obtain ⟨o, e⟩ := S.zl z
    obtain ⟨o', e', _⟩ := lv.go e
    refine hno ?_
    exact ⟨o', e'⟩
  · exact (X.stay e n).trans fun e' => (st.kp S.ff e' (.inr ⟨o, e⟩)).map (fun _ => trivial) id
abbrev J0 (C : Cx) (base : Bs) (b : Nat) (env : Env) (Γ : List Str) (ρ : A8) (μ : List Addr) (s : Shared) (c : Nat) (H' : A0) (E : Value → Shared → Prop) : Prop :=
  ∀ (u : Value) (s' : Shared) (μ' : List Addr), Ext env μ μ' s.heap s'.heap → St C base b env Γ ρ μ' H' s' → C.eo c → XR (C.ea c) false u s.heap s'.heap → E u s'
inductive A5t (base : Bs) (env : Env) : Prop
  | mk (outer : List Env) (L : Addr) (hf : env.frame = some L) (e : base.fs = env :: outer) : A5t base env
theorem XR.weak {cls u : Value} {p : Bool} {h0 : Heap} (x : XR cls p u h0 h) : XR cls false u h0 h := by
  cases x with
  | new a o vs e hp ho hn hc hd h1 => exact .new a o vs e rfl ho hn hc hd h1
  | on a o vs T oT ts e ho hn hc hd h1 hT nT dT zT hne => exact .on a o vs T oT ts e ho hn hc hd h1 hT nT dT zT hne
theorem XR.field {cls u : Value} {h0 : Heap} {M : Model} {A : Around} {E : Value → Shared → Prop} {Q : Value → Shared → Prop} (x : XR cls true u h0 s.heap) (k : ∀ T, Q (.ref T) s) : wpAny M A (field u 1) Q E s := by
  cases x with
  | new a o vs e hp ho hn hc hd h1 => cases hp
  | on a o vs T oT ts e ho hn hc hd h1 hT nT dT zT hne => subst e; exact wpAny_field ho hd h1 (k T)
theorem Jn {M : Model} {A : Around} {E : Value → Shared → Prop} {n : Nat} {c : Nat} {p : Bool} {u : Value} {Q : Unit → Shared → Prop} (F : A5t base env) (a : AOk base A n) (S0 : St C base b env Γ ρ0 μ' H0 s0) (S : St C base b env Γ ρ μ H s) (X : Ext env μ' μ s0.heap s.heap)
    (x : XR (C.ea c) p u s0.heap s.heap) (k : ∀ s', St C base b env Γ ρ μ H s' → Ext env μ' μ s0.heap s'.heap → XR (C.ea c) true u s0.heap s'.heap → Q () s') : wpAny M A (noteFrame u env) Q E s := by
  obtain ⟨outer, L, hf, e⟩ := F
  have hfr := a.frames
  rw [e] at hfr
  have ff := S.ff.fun
  rw [e] at ff
  refine A5c hfr ff hf x X.live fun h' st x' => ?_
  rw [← e] at st
  obtain ⟨S', X'⟩ := S0.xstep S X st
  exact k _ S' X' x'
theorem G1 {M : Model} {A : Around} {E : Value → Shared → Prop} {c : Nat} {u : Value} {f : Option Addr} {Q : Unit → Shared → Prop} (S0 : St C base b env Γ ρ0 μ' H0 s0) (S : St C base b env Γ ρ μ H s) (X : Ext env μ' μ s0.heap s.heap)
    (x : XR (C.ea c) true u s0.heap s.heap) (k : ∀ s', St C base b env Γ ρ μ H s' → Ext env μ' μ s0.heap s'.heap → XR (C.ea c) true u s0.heap s'.heap → Q () s') : wpAny M A (setFlight u f) Q E s :=
  Zk (fs := base.fs) x fun h' st x' => let ⟨S', X'⟩ := S0.xstep S X st; k _ S' X' x'
theorem Xf {M : Model} {A : Around} {E : Value → Shared → Prop} {n : Nat} {c : Nat} {p : Bool} {u : Value} (F : A5t base env) (a : AOk base A n) (S0 : St C base b env Γ ρ0 μ' H0 s0) (S : St C base b env Γ ρ μ H s) (X : Ext env μ' μ s0.heap s.heap)
    (x : XR (C.ea c) p u s0.heap s.heap) (k : ∀ s', St C base b env Γ ρ μ H s' → Ext env μ' μ s0.heap s'.heap → XR (C.ea c) false u s0.heap s'.heap → E u s') : notedBy M A env (fun e s' => cameBackBy M A env E e s') u s := by
  refine Jn F a S0 S X x fun s1 S1 X1 x1 => ?_
  show wpAny M A (do
    if (← field u 1) == .none then unsupported "frame.own-activation:exception-without-traceback"
    setFlight u env.frame) (fun _ s'' => E u s'') E s1
  refine wpAny_bind (x1.field fun T => ?_)
  rw [if_neg (by simp)]
  exact G1 S0 S1 X1 x1 fun s2 S2 X2 x2 => k s2 S2 X2 x2.weak
end
end Mine
namespace Mine
open PySem PySem.Calls PyProof.Rows PySem.SeqAt
open AutoSeq1 (wpAny_loadPart')
open MeetsSeq MeetsSeq2 MeetsSeq3
inductive A7j (vs : List Value) (xs : List Int) (i : Nat) : Prop
  | mk (x : Int) (t : Tok) (hv : vs[i]? = some (.int x t)) (hx : xs.drop i = x :: xs.drop (i + 1)) : A7j vs xs i
theorem int_at : ∀ {vs : List Value} {xs : List Int} {i : Nat}, IntsAre vs xs → i < vs.length → A7j vs xs i
  | _, _, i, .nil, h => absurd h (Nat.not_lt_zero _)
  | _, _, 0, .cons n t r, _ => ⟨n, t, rfl, rfl⟩
  | _, _, i + 1, .cons n t r, h => by
    obtain ⟨x, u, hv, hx⟩ := int_at (i := i) r (Nat.lt_of_succ_lt_succ h)
    exact ⟨x, u, hv, hx⟩
theorem A5f (l b : Addr) (items items2 : Array Value) (n n2 : Nat) (dd dd2 : Option Addr) (sl sl2 : Array (Option Value)) (xs ys : List Int) (hx : IntsAre items.toList xs) (hy : IntsAre items2.toList ys) (k : Nat) :
    ∀ i : Nat, items.size - i = k → i ≤ items.size → i ≤ items2.size → Meets (Builtin.«list.__eq__.loop» ⟨[.ref l, .ref b, rawInt i, rawInt 0], []⟩)
      (fun A R s => s.heap.get? l = some { cls := .type "list", dict := dd, data := .seq items n, slots := sl } ∧ s.heap.get? b = some { cls := .type "list", dict := dd2, data := .seq items2 n2, slots := sl2 } ∧
        R (.ok (.ret (.bool (ltL (xs.drop i) (ys.drop i))))) s) := by
  have hxl : items.size = xs.length := by rw [← hx.length]; simp
  have hyl : items2.size = ys.length := by rw [← hy.length]; simp
  induction k with
  | zero =>
    intro i hk h1 h2 prog w A R s h
    obtain ⟨hp, g, d, tk, os⟩ := s; obtain ⟨hl, hb, h⟩ := h
    wp_walk using wpAny_loadPart' hl, wpAny_loadPart' hb
    have hi1 : items[((i : Nat) : Int).toNat]? = none := by simp; exact Nat.le_of_sub_eq_zero hk
    rw [hi1]
    wp_walk using wpAny_loadPart' hl, wpAny_loadPart' hb
    show R (.ok (.ret (.bool (decide (items.size < items2.size))))) _
    have e1 : xs.drop i = [] := by simp; exact Nat.le_trans (Nat.le_of_eq hxl.symm) (Nat.le_of_sub_eq_zero hk)
    rw [e1] at h
    have e2 : ltL [] (ys.drop i) = decide (items.size < items2.size) := by
      cases hd : ys.drop i with
      | nil =>
        have : ys.length ≤ i := by simpa using hd
        rw [decide_eq_false (by exact Ut (Nat.le_trans (A0j hyl this) h1))]; rfl
      | cons y r =>
        have : ¬ ys.length ≤ i := fun q => by rw [List.drop_of_length_le q] at hd; cases hd
        rw [decide_eq_true (by exact Nat.lt_of_le_of_lt (Nat.le_of_sub_eq_zero hk) (Nat.lt_of_lt_of_le (oGt this) (Nat.le_of_eq hyl.symm)))]; rfl
    rw [e2] at h; exact h
  | succ k ih =>
    intro i hk h1 h2 prog w A R s h
    obtain ⟨hp, g, d, tk, os⟩ := s; obtain ⟨hl, hb, h⟩ := h
    wp_walk using wpAny_loadPart' hl, wpAny_loadPart' hb
    have hlt : i < items.size := by exact Nat.lt_of_sub_eq_succ hk
    obtain ⟨x, t, hv, hx'⟩ := int_at hx (i := i) (by simpa using hlt)
    have hi1 : items[((i : Nat) : Int).toNat]? = some (.int x t) := by simpa using hv
    rw [hi1]
    rw [hx'] at h
    by_cases hlt2 : i < items2.size
    · obtain ⟨y, u, hw, hy'⟩ := int_at hy (i := i) (by simpa using hlt2)
      have hi2 : items2[((i : Nat) : Int).toNat]? = some (.int y u) := by simpa using hw
      rw [hi2]
      rw [hy'] at h
      have hc : ((i : Int) + 1) = ((i + 1 : Nat) : Int) := by push_cast; rfl
      refine wpAny_bind (wpAny_eqBool_int ?_)
      cases hb' : x == y with
      | true =>
        have e : x = y := by simpa using hb'
        have e2 : ltL (x :: xs.drop (i + 1)) (y :: ys.drop (i + 1)) = ltL (xs.drop (i + 1)) (ys.drop (i + 1)) := if_pos e
        rw [e2] at h
        wp_walk
        rw [hc]
        exact ⟨plainId_quiet plain_eq_loop _, codeAny_builtin entry_eq_loop (by
          rw [Around.under_plainId plain_eq_loop _]
          exact ih (i + 1) (by exact congrArg (· - 1) hk) (by exact hlt) (by exact hlt2) prog w A R _ ⟨hl, hb, h⟩)⟩
      | false =>
        have e : ¬ x = y := by simpa using hb'
        have e2 : ltL (x :: xs.drop (i + 1)) (y :: ys.drop (i + 1)) = decide (x < y) := if_neg e
        rw [e2] at h
        wp_walk using wpAny_loadPart' hl, wpAny_loadPart' hb
        rw [hi1, hi2]
        refine wpAny_bind (PyProof.Rows.lt_int (wpAny_pure ?_))
        exact h
    · have hi2 : items2[((i : Nat) : Int).toNat]? = none := by simp; exact oGe hlt2
      rw [hi2]
      wp_walk using wpAny_loadPart' hl, wpAny_loadPart' hb
      show R (.ok (.ret (.bool (decide (items.size < items2.size))))) _
      have e1 : ys.drop i = [] := by simp; exact Nat.le_trans (Nat.le_of_eq hyl.symm) (oGe hlt2)
      rw [e1] at h
      rw [decide_eq_false (by exact fun e2 => hlt2 (Ew hlt e2))]; exact h
theorem A6g (l b : Addr) (items items2 : Array Value) (n n2 : Nat) (dd dd2 : Option Addr) (sl sl2 : Array (Option Value)) (xs ys : List Int) (hx : IntsAre items.toList xs) (hy : IntsAre items2.toList ys) :
    Meets (Builtin.«list.__lt__» ⟨[.ref l, .ref b], []⟩)
      (fun A R s => s.heap.get? l = some { cls := .type "list", dict := dd, data := .seq items n, slots := sl } ∧ s.heap.get? b = some { cls := .type "list", dict := dd2, data := .seq items2 n2, slots := sl2 } ∧
        R (.ok (.ret (.bool (ltL xs ys)))) s) := by
  intro prog w A R s h
  obtain ⟨hp, g, d, tk, os⟩ := s; obtain ⟨hl, hb, h⟩ := h
  have f3 := AutoSeq1.sub_list_list
  wp_walk using wpAny_loadPart' hl, wpAny_loadPart' hb
  exact ⟨plainId_quiet plain_eq_loop _, codeAny_builtin entry_eq_loop (by
    rw [Around.under_plainId plain_eq_loop _]
    exact A5f l b items items2 n n2 dd dd2 sl sl2 xs ys hx hy _ 0 rfl (Nat.zero_le _) (Nat.zero_le _) prog w A R _ ⟨hl, hb, h⟩)⟩
theorem A18 {prog : Program} {w : World} {A : Around} {E : Value → Shared → Prop} {Q : Value → Shared → Prop} {s : Shared} {l b : Addr} {vs us : List Value} {xs ys : List Int} (hl : s.heap.PlainList l vs.toArray) (hb : s.heap.PlainList b us.toArray) (hx : IntsAre vs xs) (hy : IntsAre us ys) (hu : A.units < cLine)
    (h : Q (.bool (ltL xs ys)) s) : wpAny (model prog w) A (compareOp .Lt (.ref l) (.ref b)) Q E s := by
  obtain ⟨n, ho⟩ := hl
  obtain ⟨n2, ho2⟩ := hb
  exact richCompare_meets_room (op := .Lt) ⟨_, ho, rfl⟩ ⟨_, ho2, rfl⟩ F.slot_list_lt F.entry_list_lt (F.args_list_lt_2 _ _) (A6g l b _ _ n n2 none none #[] #[] xs ys (by simpa using hx) (by simpa using hy))
    ⟨ho, ho2, show Value.bool (ltL xs ys) ≠ Value.notImplemented ∧ Q (.bool (ltL xs ys)) s from ⟨(fun x => nomatch x), h⟩⟩ hu
end Mine
namespace Mine
open PySem PySem.Calls PyProof.Rows PySem.SeqAt
section
variable {C : Cx} {μ : List Addr} {h h' : Heap} {base : Bs} {env : Env} {Γ : List Str} {ρ : A8} {H H' : A0} {b : Nat} {s s' : Shared} {A : Around} {E : Value → Shared → Prop} {Q : Value → Shared → Prop}
theorem F7 {xs : List AV} {is : List Int} {vs : List Value} (e : Bc xs = some is) (q : VRs C μ h xs vs) : IntsAre vs is := by
  induction xs generalizing is vs with
  | nil => cases e; cases q; exact .nil
  | cons x xs ih =>
    have e : ((Cj x).bind fun i => (Bc xs).map (i :: ·)) = some is := e
    cases q with
    | cons a q =>
      cases h1 : Cj x with
      | none => rw [h1] at e; cases e
      | some i =>
        cases h2 : Bc xs with
        | none => rw [h1, h2] at e; cases e
        | some js =>
          rw [h1, h2] at e; cases e
          cases Jr h1
          obtain ⟨t, rfl⟩ := a.isInt
          exact .cons i t (ih h2 q)
inductive A3z {α β : Type} (P : α → β → Prop) : List α → List β → Prop
  | nil : A3z P [] []
  | cons {x : α} {y : β} {xs : List α} {ys : List β} : P x y → A3z P xs ys → A3z P (x :: xs) (y :: ys)
theorem Qc {f : AV → Option PyData} {xs : List AV} {ds : List PyData} (e : xs.mapM f = some ds) : A3z (fun x d => f x = some d) xs ds := by
  induction xs generalizing ds with
  | nil => cases e; exact .nil
  | cons x xs ih =>
    rw [List.mapM_cons] at e
    cases e1 : f x with
    | none => rw [e1] at e; cases e
    | some d =>
      cases e2 : xs.mapM f with
      | none => rw [e1, e2] at e; cases e
      | some es => rw [e1, e2] at e; cases e; exact .cons e1 (ih e2)
inductive Aaz (h : Heap) (us : List Value) (ds : List PyData) (n : Nat) : Prop
  | mk (as : List Addr) (r : ReadsAll h us ds as) (c : PyData.canLayAll0 ds = true) (dd : PyData.depthAll ds ≤ n) : Aaz h us ds n
inductive RdR (h : Heap) (u : Value) (d : PyData) (n : Nat) : Prop
  | mk (as : List Addr) (r : Reads h u d as) (c : d.canLay0 = true) (dd : d.depth ≤ n) : RdR h u d n
theorem Pj {n : Nat} (ih : ∀ {v : AV} {u : Value} {d : PyData}, VR C μ h v u → rd H n v = some d → RdR h u d n) {xs : List AV} {ds : List PyData} (es : A3z (fun x d => rd H n x = some d) xs ds) {vs : List Value} (q : VRs C μ h xs vs) : Aaz h vs ds n := by
  induction es generalizing vs with
  | nil => cases q; exact ⟨_, .nil, rfl, Nat.zero_le _⟩
  | cons e _ ihs =>
    cases q with
    | cons q r =>
      obtain ⟨a1, r1, c1, d1⟩ := ih q e
      obtain ⟨a2, r2, c2, d2⟩ := ihs r
      exact ⟨_, .cons r1 r2, by simp only [PyData.canLayAll0, c1, c2]; rfl, by simp only [PyData.depthAll]; exact Nat.max_le.mpr ⟨d1, d2⟩⟩
theorem Le {α β : Type} {o : Option (List α)} {f : List α → β} {d : β} (e : o.map f = some d) : ∃ ds, o = some ds ∧ d = f ds := by
  cases o with
  | none => cases e
  | some ds => cases e; exact ⟨ds, rfl, rfl⟩
theorem Nb {n : Nat} {v : AV} {u : Value} {d : PyData} (q : VR C μ h v u) (e : A1v v = some d) : RdR h u d n := by
  cases q with
  | none => cases e; exact ⟨_, .none, rfl, Nat.zero_le _⟩
  | bool c => cases e; exact ⟨_, .bool c, rfl, Nat.zero_le _⟩
  | int i t => cases e; exact ⟨_, .int i t, rfl, Nat.zero_le _⟩
  | str x t =>
    have e : (if PyData.strOk x then some (PyData.str x) else none) = some d := e
    by_cases hs : PyData.strOk x = true
    · rw [if_pos hs] at e; cases e; exact ⟨_, .str x t, hs, Nat.zero_le _⟩
    · rw [if_neg hs] at e; cases e
  | _ => cases e
theorem A3g (R : Ci C μ H h) : ∀ (n : Nat) {v : AV} {u : Value} {d : PyData}, VR C μ h v u → rd H n v = some d → RdR h u d n := by
  intro n
  induction n with
  | zero => intro v u d q e; exact Nb q e
  | succ n ih =>
    intro v u d q e
    cases v with
    | tup vs =>
      cases q with
      | tup t nz hz q =>
        refine bC fun hno => ?_
        obtain ⟨ds, e1, rfl⟩ := Le e
        obtain ⟨as, r, c, dd⟩ := Pj ih (Qc e1) q
        obtain ⟨o, ho, hc, k, hd⟩ := t
        refine hno ?_
        exact ⟨_, .tuple ho hc hd (by simpa using r), c, Nat.succ_le_succ dd⟩
    | ref r =>
      cases q with
      | ref ea =>
        have e : (match H[r]? with | some (.list xs) => (xs.mapM (rd H n)).map PyData.list | _ => none) = some d := e
        cases e1 : H[r]? with
        | none => rw [e1] at e; cases e
        | some o =>
          cases o with
          | dict => rw [e1] at e; cases e
          | list xs =>
            rw [e1] at e
            obtain ⟨ds, e2, rfl⟩ := Le e
            obtain ⟨_, a', vs, ea', ⟨k, p⟩, q⟩ := R.list e1
            rw [ea] at ea'; cases ea'
            obtain ⟨as, r, c, dd⟩ := Pj ih (Qc e2) q
            exact ⟨_, .list p rfl rfl (by simpa using r), c, Nat.succ_le_succ dd⟩
    | _ => exact Nb q e
theorem Ip (R : Ci C μ H h) {v : AV} {u : Value} {d : PyData} (q : VR C μ h v u) (e : rd H 8 v = some d) : (∃ as, Reads h u d as) ∧ shaped d = true := by
  obtain ⟨as, r, c, l⟩ := A3g R 8 q e
  refine ⟨⟨as, r⟩, ?_⟩
  unfold shaped
  rw [c, Bool.true_and, decide_eq_true_eq]; exact Nat.le_trans l (by decide)
theorem Y3 {is : List Int} {i : Int} : is.any (· == i) = decide (i ∈ is) := by
  rw [Bool.eq_iff_iff, List.any_eq_true, decide_eq_true_eq]
  exact ⟨fun ⟨x, hx, e⟩ => (eq_of_beq e) ▸ hx, fun hx => ⟨i, hx, beq_self_eq_true i⟩⟩
theorem A9f {x y : AV} {p q : Value} {d e : PyData} {n : Nat} (S : St C base b env Γ ρ μ H s) (hx : VR C μ s.heap x p) (hy : VR C μ s.heap y q) (ex : rd H 8 x = some d) (ey : rd H 8 y = some e) (a : AOk base A n)
    (k : Q (.bool (PyData.eqv d e)) s) : wpAny (model C.prog C.w) A (compareOp .Eq p q) Q E s := by
  refine bC fun hno => ?_
  obtain ⟨⟨as, ra⟩, sa⟩ := Ip S.hp hx ex
  obtain ⟨⟨bs, rb⟩, sb⟩ := Ip S.hp hy ey
  refine hno ?_
  exact compareEq_shaped ra rb sa sb (by have := a.units; exact Nat.lt_of_le_of_lt (Nat.add_le_add (Nat.le_add_right _ _) (by decide)) this) k
theorem Ab3 {x y : AV} {p q : Value} {d e : PyData} {n : Nat} (S : St C base b env Γ ρ μ H s) (hx : VR C μ s.heap x p) (hy : VR C μ s.heap y q) (ex : rd H 8 x = some d) (ey : rd H 8 y = some e) (a : AOk base A n)
    (k : Q (.bool (!PyData.eqv d e)) s) : wpAny (model C.prog C.w) A (compareOp .NotEq p q) Q E s := by
  refine bC fun hno => ?_
  obtain ⟨⟨as, ra⟩, sa⟩ := Ip S.hp hx ex
  obtain ⟨⟨bs, rb⟩, sb⟩ := Ip S.hp hy ey
  refine hno ?_
  exact compareNe_shaped ra rb sa sb (by have := a.units; exact Nat.lt_of_le_of_lt (Nat.add_le_add (Nat.le_add_right _ _) (by decide)) this) k
theorem A61 {x y : AV} {r : Bool} {p q : Value} {n : Nat} (S : St C base b env Γ ρ μ H s) (hx : VR C μ s.heap x p) (hy : VR C μ s.heap y q) (e : Kq x y H = some r) (a : AOk base A n)
    (k : Q (.bool r) s) : wpAny (model C.prog C.w) A (compareOp .Eq p q) Q E s := by
  unfold Kq at e
  split at e
  · rename_i d f e1 e2; cases e; exact A9f S hx hy e1 e2 a k
  · cases e
theorem A4m {x y : AV} {r : Bool} {p q : Value} {n : Nat} (S : St C base b env Γ ρ μ H s) (hx : VR C μ s.heap x p) (hy : VR C μ s.heap y q) (e : (Kq x y H).map (!·) = some r) (a : AOk base A n)
    (k : Q (.bool r) s) : wpAny (model C.prog C.w) A (compareOp .NotEq p q) Q E s := by
  unfold Kq at e
  split at e
  · rename_i d f e1 e2; cases e; exact Ab3 S hx hy e1 e2 a k
  · cases e
theorem Pl {x y : AV} {r : Bool} {p q : Value} (S : St C base b env Γ ρ μ H s) (hx : VR C μ s.heap x p) (hy : VR C μ s.heap y q) (e : Pf x y H = some r) :
    ∃ (i : Int) (t : _) (c : Addr) (vs : List Value) (is : List Int), p = .int i t ∧ q = .ref c ∧ s.heap.IsList c vs.toArray ∧ IntsAre vs is ∧ r = decide (i ∈ is) := by
  unfold Pf at e
  split at e
  · obtain ⟨t, rfl⟩ := hx.isInt; obtain ⟨c, rfl, ec⟩ := hy.isRef
    split at e
    · rename_i xs e1
      cases e2 : Bc xs with
      | none => rw [e2] at e; cases e
      | some is =>
        refine bC fun hno => ?_
        rw [e2] at e; cases e
        obtain ⟨_, a', vs, ea', p1, q1⟩ := S.hp.list e1
        rw [ec] at ea'; cases ea'
        refine hno ?_
        exact ⟨_, t, c, vs, is, rfl, rfl, IsList.of_plain p1, F7 e2 q1, rfl⟩
    · cases e
  · cases e
theorem U9 {r t : Bool} (e : some t = some r) (k : Q (.bool r) s) : Q (.bool t) s := by cases e; exact k
theorem K3 {r : Bool} : (none : Option Bool) ≠ some r := fun e => by cases e
theorem A8u {x y : AV} {r : Bool} {p q : Value} {n : Nat} (S : St C base b env Γ ρ μ H s) (hx : VR C μ s.heap x p) (hy : VR C μ s.heap y q) (e : eqV x y H = some r) (a : AOk base A n)
    (k : Q (.bool r) s) : wpAny (model C.prog C.w) A (compareOp .Eq p q) Q E s := by
  unfold eqV at e
  by_cases hi : (Cj x).isSome = true ∧ (Cj y).isSome = true
  · exact Ce (K := compareOp _) K3 hx hy ((if_pos hi).symm.trans e) fun a c t u e => PyProof.Rows.eq_int (U9 e k)
  · exact A61 S hx hy ((if_neg hi).symm.trans e) a k
theorem Zw {op : CmpOp} {x : AV} {r : Bool} {p : Value} (hx : VR C μ s.heap x p) (e : Rw x = some r) (k1 : r = true → wpAny (model C.prog C.w) A (compareOp op .none .none) Q E s) (k2 : r = false → ∀ {p : Value}, p ≠ .none → wpAny (model C.prog C.w) A (compareOp op p .none) Q E s) :
    wpAny (model C.prog C.w) A (compareOp op p .none) Q E s := by
  cases hx with
  | none => exact k1 (Option.some.inj e).symm
  | int => exact k2 (Option.some.inj e).symm fun q => by cases q
  | bool => exact k2 (Option.some.inj e).symm fun q => by cases q
  | ref => exact k2 (Option.some.inj e).symm fun q => by cases q
  | _ => cases e
theorem L0 {α β : Type} {o : Option α} {f : α → Option β} {c : β} (e : o.bind f = some c) : ∃ a, o = some a ∧ f a = some c := by
  cases o with
  | none => cases e
  | some a => exact ⟨a, rfl, e⟩
theorem A53 {x y : AV} {r : Bool} {p q : Value} {n : Nat} (S : St C base b env Γ ρ μ H s) (hx : VR C μ s.heap x p) (hy : VR C μ s.heap y q) (e : A1w x y H = some r) (a : AOk base A n) (k : Q (.bool r) s) : wpAny (model C.prog C.w) A (compareOp .Lt p q) Q E s := by
  refine bC fun hno => ?_
  obtain ⟨is, e1, e⟩ := L0 e
  obtain ⟨xs, e1, e2⟩ := L0 e1
  obtain ⟨js, e3, e⟩ := Option.map_eq_some_iff.mp e
  obtain ⟨ys, e3, e4⟩ := L0 e3
  subst e
  obtain ⟨c1, vs, rfl, p1, q1⟩ := Ik S.hp hx e1
  obtain ⟨c2, us, rfl, p2, q2⟩ := Ik S.hp hy e3
  refine hno ?_
  exact A18 p1 p2 (F7 e2 q1) (F7 e4 q2) (by have := a.units; exact Nat.lt_of_le_of_lt (Nat.le_trans (Nat.le_add_right _ _) (Nat.le_add_right _ _)) this) k
theorem He {op : CmpOp} {x y : AV} {r : Bool} {p q : Value} {n : Nat} (S : St C base b env Γ ρ μ H s) (hx : VR C μ s.heap x p) (hy : VR C μ s.heap y q) (e : B4 op x y H = some r) (a : AOk base A n)
    (k : Q (.bool r) s) : wpAny (model C.prog C.w) A (compareOp op p q) Q E s := by
  cases op with
  | Lt =>
    have e : (if (Cj x).isSome = true then Dd none x y fun a b => some (decide (a < b)) else A1w x y H) = some r := e
    by_cases hi : (Cj x).isSome = true
    · exact Ce (K := compareOp _) K3 hx hy ((if_pos hi).symm.trans e) fun a c t u e => PyProof.Rows.lt_int (U9 e k)
    · exact A53 S hx hy ((if_neg hi).symm.trans e) a k
  | LtE => exact Ce (K := compareOp _) K3 hx hy e fun a c t u e => PyProof.Rows.le_int (U9 e k)
  | Gt => exact Ce (K := compareOp _) K3 hx hy e fun a c t u e => PyProof.Rows.gt_int (U9 e k)
  | GtE => cases e
  | Eq => exact A8u S hx hy e a k
  | NotEq =>
    have e : (if (Cj x).isSome = true ∧ (Cj y).isSome = true then Dd none x y fun a b => some (!(a == b)) else (Kq x y H).map (!·)) = some r := e
    by_cases hi : (Cj x).isSome = true ∧ (Cj y).isSome = true
    · exact Ce (K := compareOp _) K3 hx hy ((if_pos hi).symm.trans e) fun a c t u e => PyProof.Rows.ne_int (U9 e k)
    · exact A4m S hx hy ((if_neg hi).symm.trans e) a k
  | In =>
    refine bC fun hno => ?_
    obtain ⟨i, t, c, vs, is, rfl, rfl, p1, q1, rfl⟩ := Pl S hx hy e
    refine hno ?_
    exact in_list_ints p1 q1 (by rw [Y3]; exact k)
  | NotIn =>
    have e : (Pf x y H).map (!·) = some r := e
    cases e2 : Pf x y H with
    | none => rw [e2] at e; cases e
    | some r' =>
      refine bC fun hno => ?_
      rw [e2] at e; cases e
      obtain ⟨i, t, c, vs, is, rfl, rfl, p1, q1, rfl⟩ := Pl S hx hy e2
      refine hno ?_
      exact notin_list_ints p1 q1 (by rw [Y3]; exact k)
  | Is =>
    cases hy with
    | none => exact Zw hx e (fun h => is_none_none (h ▸ k)) fun h {p} hp => is_none_ne hp (h ▸ k)
    | _ => cases e
  | IsNot => cases e
end
end Mine
namespace Mine
open PySem PySem.Calls PyProof.Rows PySem.SeqAt
section
variable {C : Cx} {μ : List Addr} {h h' : Heap} {base : Bs} {env : Env} {Γ : List Str} {ρ : A8} {H H' : A0} {b : Nat} {s s' : Shared} {A : Around} {E : Value → Shared → Prop} {Q : Value → Shared → Prop} {n : Nat}
variable {strF : Bi}
theorem B5.grow {v : AV} {u : Value} (S : St C base b env Γ ρ μ H s) (k : B5 C base b env Γ ρ μ s v H Q) {h' : Heap} {tk : Nat} (g : ∀ {a : Addr} {o : Obj}, s.heap.get? a = some o → h'.get? a = some o)
    (q : VR C μ h' v u) : Q u { s with heap := h', toks := tk } :=
  k u { s with heap := h', toks := tk } μ (Ext.grow g) (S.grow (s' := { s with heap := h', toks := tk }) g rfl rfl) q
theorem B5.led {v : AV} {u : Value} (S : St C base b env Γ ρ μ H s) (k : B5 C base b env Γ ρ μ s v H Q) {m : Str → Option Value} (nm : s.heap.Ns env.locals m) {h' : Heap} {tk : Nat}
    (F : Fr {} env.locals h' m) (N : News {} env.locals h' (Gd s.heap env.locals)) (q : VR C μ h' v u) : Q u { s with heap := h', toks := tk } := by
  obtain ⟨S', X⟩ := S.growL (s' := { s with heap := h', toks := tk }) nm F.ns (fun hne e => Py (l := []) N hne e) rfl rfl
  exact k u _ μ X S' q
theorem B5.list {xs : List AV} {vs : List Value} {a : Addr} {n : Nat} (S : St C base b env Γ ρ μ H s) (k : B5 C base b env Γ ρ μ s (.ref H.length) (H ++ [.list xs]) Q) {h' : Heap} {tk : Nat} (g : ∀ {a : Addr} {o : Obj}, s.heap.get? a = some o → h'.get? a = some o)
    (ha : s.heap.get? a = none) (hl : h'.get? a = some { cls := .type "list", data := .seq vs.toArray n }) (hv : VRs C μ h' xs vs) (hz : xs.length ≤ lim) : Q (.ref a) { s with heap := h', toks := tk } := by
  have S' := (S.grow (s' := { s with heap := h', toks := tk }) g rfl rfl).track (a := a) (vs := vs) ⟨n, hl⟩ hv (Gk S ha) (Bl S ha) hz
  exact k _ _ _ (Ext.track ha g) S' (.ref (by rw [← S.hp.len]; simp))
theorem VRs.one {x : AV} {us : List Value} (q : VRs C μ h [x] us) : ∃ u, us = [u] ∧ VR C μ h x u := by
  cases q with | cons a r => cases r; exact ⟨_, rfl, a⟩
theorem VRs.two {x y : AV} {us : List Value} (q : VRs C μ h [x, y] us) : ∃ u w, us = [u, w] ∧ VR C μ h x u ∧ VR C μ h y w := by
  cases q with | cons a r => cases r with | cons c r => cases r; exact ⟨_, _, rfl, a, c⟩
theorem Rh {r : Nat} {a : Addr} (R : Ci C μ H h) (e : μ[r]? = some a) : ∃ o, h.get? a = some o ∧ ((∃ xs, H[r]? = some (.list xs)) ∧ o.cls = .type "list" ∨ H[r]? = some .dict ∧ o.cls = .type "dict") := by
  obtain ⟨o, eo⟩ := R.get e
  cases o with
  | list xs => obtain ⟨_, a', vs, e', ⟨n, p⟩, _⟩ := R.list eo; rw [e] at e'; cases e'; exact ⟨_, p, .inl ⟨⟨xs, eo⟩, rfl⟩⟩
  | dict => obtain ⟨a', n, e', p⟩ := R.dict eo; rw [e] at e'; cases e'; exact ⟨_, p, .inr ⟨eo, rfl⟩⟩
inductive Aaq (C : Cx) (μ : List Addr) (h : Heap) (xs : List AV) (u : Value) : Prop
  | mk (l : xs.length ≤ lim) (a : Addr) (o : Obj) (vs : List Value) (k : Nat) (T : String) (e : u = .ref a) (t : T = "list" ∨ T = "tuple") (g : h.get? a = some o) (c : o.cls = .type T) (d : o.data = .seq (List.toArray vs) k) (q : VRs C μ h xs vs) : Aaq C μ h xs u
theorem Ku (R : Ci C μ H h) {v : AV} {u : Value} {xs : List AV} (q : VR C μ h v u) (e : items v H = some xs) :
    Aaq C μ h xs u := by
  unfold items at e
  split at e
  · cases e
    cases q with
    | tup t _ l r => obtain ⟨o, ho, hc, k, hd⟩ := t; exact ⟨l, _, o, _, k, "tuple", rfl, .inr rfl, ho, hc, hd, r⟩
  · obtain ⟨a, rfl, ea⟩ := q.isRef
    split at e
    · rename_i ys e1; cases e
      obtain ⟨l, a', vs, ea', ⟨k, p⟩, r⟩ := R.list e1
      rw [ea] at ea'; cases ea'
      exact ⟨l, a, _, vs, k, "list", rfl, .inl rfl, p, rfl, rfl, r⟩
    · cases e
  · cases e
theorem Hl : ∀ (is : List Int) (i : Int), is.foldl max i ∈ i :: is ∧ ∀ a ∈ i :: is, a ≤ is.foldl max i
  | [], i => ⟨by simp, by simp⟩
  | j :: is, i => by
    simp only [List.foldl_cons]
    obtain ⟨h1, h2⟩ := Hl is (max i j)
    refine ⟨?_, ?_⟩
    · rcases List.mem_cons.mp h1 with e | h1
      · rw [e]
        rcases Int.le_total i j with h | h
        · rw [Int.max_eq_right h]; simp
        · rw [Int.max_eq_left h]; simp
      · simp [h1]
    · intro a ha
      have hm := h2 (max i j) (by simp)
      rcases List.mem_cons.mp ha with rfl | ha
      · exact (Int.max_le.mp hm).1
      · rcases List.mem_cons.mp ha with rfl | ha
        · exact (Int.max_le.mp hm).2
        · exact h2 a (by simp [ha])
theorem A2r {x : AV} {i : Bool} (h : Y6 x = some i) : x = .bool i := by
  cases x with
  | bool j => cases h; rfl
  | _ => cases h
theorem Y9 {xs : List AV} {bs : List Bool} {vs : List Value} (e : Du xs = some bs) (q : VRs C μ h xs vs) : vs = bs.map .bool := by
  induction xs generalizing bs vs with
  | nil => cases e; cases q; rfl
  | cons x xs ih =>
    have e : ((Y6 x).bind fun i => (Du xs).map (i :: ·)) = some bs := e
    cases q with
    | cons a q =>
      cases h1 : Y6 x with
      | none => rw [h1] at e; cases e
      | some i =>
        cases h2 : Du xs with
        | none => rw [h1, h2] at e; cases e
        | some js =>
          rw [h1, h2] at e; cases e
          cases A2r h1
          cases a
          rw [ih h2 q]; rfl
theorem Yk {cs : List Bool} {i : Nat} {v : Value} (e : (cs.map Value.bool)[i]? = some v) : v = .bool (cs.getD i false) := by
  rw [List.getElem?_map] at e
  rw [List.getD_eq_getElem?_getD]
  cases h1 : cs[i]? with
  | none => rw [h1] at e; cases e
  | some c => rw [h1] at e; cases e; rfl
theorem Zu (cs : List Bool) : (List.range cs.length).all (fun i => cs.getD i false) = cs.all id := by
  rw [Bool.eq_iff_iff, List.all_eq_true, List.all_eq_true]
  constructor
  · intro q x hx
    obtain ⟨i, hi, rfl⟩ := List.mem_iff_getElem.mp hx
    have := q i (List.mem_range.mpr hi)
    simpa [List.getD_eq_getElem?_getD, hi] using this
  · intro q i hi
    have hi' := List.mem_range.mp hi
    have := q _ (List.getElem_mem hi')
    simpa [List.getD_eq_getElem?_getD, hi'] using this
theorem Mx {vs : List Value} {is : List Int} (q : IntsAre vs is) : VRs C μ h (is.map .int) vs := by
  induction q with
  | nil => exact .nil
  | cons n t _ ih => exact .cons (.int n t) ih
theorem Vz {a c : Int} {i : Nat} (hi : i < (c - a).toNat) : (B1 a c)[i]? = some (.int (a + i)) := by
  unfold B1
  rw [List.getElem?_map, List.getElem?_range hi]; rfl
theorem Fv {a c : Int} : (B1 a c).length = (c - a).toNat := by unfold B1; simp
theorem Dc {α : Type} {v : α} {H' : A0} {P : Prop} (e : (Res.bad : Res α) = .ok v H') : P := by cases e
structure Scr (C : Cx) (base : Bs) : Prop where
  scr : ∃ svs : List Value, base.g.IsList C.sa svs.toArray ∧ IntsAre svs C.sc ∧ C.sc.length ≤ lim
theorem Jt {h h' : Heap} {a : Addr} {items : Array Value} (x : h.IsList a items) (k : ∀ o, h.get? a = some o → h'.get? a = some o) : h'.IsList a items := let ⟨o, e, r⟩ := x; ⟨o, k o e, r⟩
theorem A80 {x v : AV} {u : Value} (G : Scr C base) (S : St C base b env Γ ρ μ H s) (hx : VR C μ s.heap x u) (e : prim strF C.sc .len [x] H = .ok v H')
    (k : B5 C base b env Γ ρ μ s v H' Q) : wpAny (model C.prog C.w) A (call (.builtin "len") [u]) Q E s := by
  by_cases hs : x = .scr
  · refine bC fun hno => ?_
    subst hs
    cases hx
    rw [A1z] at e
    cases e
    obtain ⟨svs, l, hi, hz⟩ := G.scr
    have l' : s.heap.IsList C.sa svs.toArray := Jt l fun _ => S.kg
    have hlen : svs.length = C.sc.length := hi.length
    refine hno ?_
    refine call_len_list l' ?_ (k _ _ μ .refl (S.tok _) ?_)
    · rw [List.size_toArray, hlen]
      have : C.sc.length < 2 ^ 63 := Nat.lt_of_le_of_lt hz (by decide)
      exact Int.ofNat_lt.mpr this
    · rw [List.size_toArray, hlen]; exact .int _ _
  · have e : (match items x H with | some xs => Res.ok (AV.int xs.length) H | none => .bad) = .ok v H' := by cases x <;> first | exact e | exact absurd rfl hs
    split at e
    · rename_i xs e1; cases e
      obtain ⟨hz, a, o, vs, j, T, rfl, hT, ho, hc, hd, q⟩ := Ku S.hp hx e1
      have hsz : ((List.toArray vs).size : Int) < 2 ^ 63 := by
        rw [List.size_toArray, ← q.length]
        have : xs.length < 2 ^ 63 := Nat.lt_of_le_of_lt hz (by decide)
        exact Int.ofNat_lt.mpr this
      rcases hT with rfl | rfl
      · refine call_len_list ⟨o, ho, hc, j, hd⟩ hsz (k _ _ μ .refl (S.tok _) ?_)
        rw [List.size_toArray, ← q.length]; exact .int _ _
      · refine PyProof.Rows.len_tuple ⟨o, ho, hc, j, hd⟩ hsz (k _ _ μ .refl (S.tok _) ?_)
        rw [List.size_toArray, ← q.length]; exact .int _ _
    · cases e
theorem A6k {x v : AV} {u : Value} (S : St C base b env Γ ρ μ H s) (hx : VR C μ s.heap x u) (e : prim strF C.sc .list [x] H = .ok v H')
    (k : B5 C base b env Γ ρ μ s v H' Q) : wpAny (model C.prog C.w) A (call (.type "list") [u]) Q E s := by
  rw [Rg] at e
  split at e
  · rename_i xs e1
    unfold B7 at e
    split at e
    · rename_i hz; cases e
      obtain ⟨_, a, o, vs, j, T, rfl, hT, ho, hc, hd, q⟩ := Ku S.hp hx e1
      refine call_list_seq a hT ho hc hd (fun h' c' g hl => ?_) ?_
      · exact B5.list S k (tk := s.toks) (fun e => g _ _ e) (Aw _) hl (q.keeps fun e => g _ _ e) hz
      · rw [List.size_toArray, ← q.length]; exact Er hz
    · cases e
  · cases e
theorem A5y {x y v : AV} {u w : Value} (S : St C base b env Γ ρ μ H s) (a : AOk base A n) (hq : base.q = false) (hx : VR C μ s.heap x u) (hy : VR C μ s.heap y w) (e : prim strF C.sc .min2 [x, y] H = .ok v H')
    (k : B5 C base b env Γ ρ μ s v H' Q) : wpAny (model C.prog C.w) A (call (.builtin "min") [u, w]) Q E s := by
  refine bC fun hno => ?_
  obtain ⟨m, nm, _⟩ := S.er.ns
  refine hno ?_
  refine Ce (K := fun p q => call (.builtin "min") [p, q]) Jj hx hy e fun i j t t' e => ?_
  refine min_two_N (a.handled hq) (fr0 nm) (Ui _ _) fun h' tk F N => ?_
  have hm : (if j < i then j else i) = min i j := by split <;> (first | exact (Int.min_eq_right (Int.le_of_lt (by assumption))).symm | exact (Int.min_eq_left (Int.not_lt.mp (by assumption))).symm)
  rw [hm]
  cases e
  exact B5.led S k nm F N (.int _ _)
theorem A6m {x y v : AV} {u w : Value} (S : St C base b env Γ ρ μ H s) (a : AOk base A n) (hq : base.q = false) (hx : VR C μ s.heap x u) (hy : VR C μ s.heap y w) (e : prim strF C.sc .max2 [x, y] H = .ok v H')
    (k : B5 C base b env Γ ρ μ s v H' Q) : wpAny (model C.prog C.w) A (call (.builtin "max") [u, w]) Q E s := by
  refine bC fun hno => ?_
  obtain ⟨m, nm, _⟩ := S.er.ns
  refine hno ?_
  refine Ce (K := fun p q => call (.builtin "max") [p, q]) Jj hx hy e fun i j t t' e => ?_
  refine max_two_N (a.handled hq) (fr0 nm) (Ui _ _) fun h' tk F N => ?_
  have hm : (if j > i then j else i) = max i j := by split <;> (first | exact (Int.max_eq_right (Int.le_of_lt (by assumption))).symm | exact (Int.max_eq_left (Int.not_lt.mp (by assumption))).symm)
  rw [hm]
  cases e
  exact B5.led S k nm F N (.int _ _)
end
end Mine
namespace Mine
open PySem PySem.Calls PyProof.Rows PySem.SeqAt
section
variable {C : Cx} {μ : List Addr} {h h' : Heap} {base : Bs} {env : Env} {Γ : List Str} {ρ : A8} {H H' : A0} {b : Nat} {s s' : Shared} {A : Around} {E : Value → Shared → Prop} {Q : Value → Shared → Prop} {n : Nat}
variable {strF : Bi}
theorem Ho {vs : List Value} {is : List Int} (h : IntsAre vs is) {i : Nat} {v : Value} (e : vs[i]? = some v) : ∃ t, v = .int (is.getD i 0) t := by
  induction h generalizing i with
  | nil => cases e
  | cons c t r ih => cases i with
    | zero => cases e; exact ⟨t, rfl⟩
    | succ i => exact ih e
inductive A77 (C : Cx) (μ : List Addr) (h : Heap) (x y : AV) (u : Value) : Prop
  | mk (a : Addr) (p r : Value) (e : u = .ref a) (t : h.IsTuple a #[p, r]) (v : VR C μ h x p) (w : VR C μ h y r) : A77 C μ h x y u
theorem Kw {x y : AV} {u : Value} (q : VR C μ h (.tup [x, y]) u) : A77 C μ h x y u := by
  cases q with
  | tup t _ l vs => obtain ⟨p, r, rfl, h1, h2⟩ := vs.two; exact ⟨_, p, r, rfl, t, h1, h2⟩
theorem A5j {i j : Int} {u : Value} (S : St C base b env Γ ρ μ H s) (a : AOk base A n) (hq : base.q = false) (hx : VR C μ s.heap (.tup [.int i, .int j]) u)
    (k : B5 C base b env Γ ρ μ s (.int (min i j)) H Q) : wpAny (model C.prog C.w) A (call (.builtin "min") [u]) Q E s := by
  obtain ⟨t, p, r, rfl, ht, hp, hr⟩ := Kw hx
  obtain ⟨t1, rfl⟩ := hp.isInt; obtain ⟨t2, rfl⟩ := hr.isInt
  have hlt : t < s.heap.objs.size := by obtain ⟨o, ho, _⟩ := ht; exact Heap.lt_size ho
  refine call_min_walk (wpAny_pyIter_tuple ht ?_)
  refine ⟨_, _, _, _, _, _, fun p q => decide ([i, j].getD p 0 < [i, j].getD q 0), rfl, Walks.tuple (A := A.in1) (a.handled hq) _ t (Nat.ne_of_lt hlt) #[.int i t1, .int j t2], ⟨⟨_, Heap.get?_push_size _ rfl, rfl, rfl⟩, ?_⟩, ?_, (by simp),
    CmpOf.ints_lt (fun k => [i, j].getD k 0) (fun m v e => Ho (vs := [.int i t1, .int j t2]) (.cons _ _ (.cons _ _ .nil)) (by simpa using e)), fun v h' tk hP hk => ?_⟩
  · exact IsTuple.stays ht fun _ e => Heap.get?_push_of_some _ e
  · intro d hd
    rw [size_push]
    simp at hd
    rcases hd with rfl | rfl
    · exact Nat.lt_succ_self _
    · exact Nat.lt_succ_of_lt hlt
  · have g : ∀ {a : Addr} {o : Obj}, s.heap.get? a = some o → h'.get? a = some o := fun {a o} e => hk a o (by simp; exact Nat.ne_of_lt (Heap.lt_size e)) (Heap.get?_push_of_some _ e)
    refine B5.grow S k g ?_
    simp [argBest] at hP
    split at hP
    · simp at hP; subst hP; have : min i j = j := by exact Int.min_eq_right (Int.le_of_lt (by assumption))
      rw [this]; exact .int _ _
    · simp at hP; subst hP; have : min i j = i := by exact Int.min_eq_left (Int.not_lt.mp (by assumption))
      rw [this]; exact .int _ _
theorem A5d {i j : Int} {u : Value} (S : St C base b env Γ ρ μ H s) (a : AOk base A n) (hq : base.q = false) (hx : VR C μ s.heap (.tup [.int i, .int j]) u)
    (k : B5 C base b env Γ ρ μ s (.int (max i j)) H Q) : wpAny (model C.prog C.w) A (call (.builtin "max") [u]) Q E s := by
  obtain ⟨t, p, r, rfl, ht, hp, hr⟩ := Kw hx
  obtain ⟨t1, rfl⟩ := hp.isInt; obtain ⟨t2, rfl⟩ := hr.isInt
  have hlt : t < s.heap.objs.size := by obtain ⟨o, ho, _⟩ := ht; exact Heap.lt_size ho
  refine call_max_walk (wpAny_pyIter_tuple ht ?_)
  refine ⟨_, _, _, _, _, _, fun p q => decide ([i, j].getD p 0 > [i, j].getD q 0), rfl, Walks.tuple (A := A.in1) (a.handled hq) _ t (Nat.ne_of_lt hlt) #[.int i t1, .int j t2], ⟨⟨_, Heap.get?_push_size _ rfl, rfl, rfl⟩, ?_⟩, ?_, (by simp),
    CmpOf.ints_gt (fun k => [i, j].getD k 0) (fun m v e => Ho (vs := [.int i t1, .int j t2]) (.cons _ _ (.cons _ _ .nil)) (by simpa using e)), fun v h' tk hP hk => ?_⟩
  · exact IsTuple.stays ht fun _ e => Heap.get?_push_of_some _ e
  · intro d hd
    rw [size_push]
    simp at hd
    rcases hd with rfl | rfl
    · exact Nat.lt_succ_self _
    · exact Nat.lt_succ_of_lt hlt
  · have g : ∀ {a : Addr} {o : Obj}, s.heap.get? a = some o → h'.get? a = some o := fun {a o} e => hk a o (by simp; exact Nat.ne_of_lt (Heap.lt_size e)) (Heap.get?_push_of_some _ e)
    refine B5.grow S k g ?_
    simp [argBest] at hP
    split at hP
    · simp at hP; subst hP; have : max i j = j := by exact Int.max_eq_right (Int.le_of_lt (by assumption))
      rw [this]; exact .int _ _
    · simp at hP; subst hP; have : max i j = i := by exact Int.max_eq_left (Int.not_lt.mp (by assumption))
      rw [this]; exact .int _ _
theorem Vt {ns : List Int} {M M' : Int} (h1 : M ∈ ns) (h2 : ∀ a ∈ ns, a ≤ M) (h3 : M' ∈ ns) (h4 : ∀ a ∈ ns, a ≤ M') : M = M' := by
  have := h2 _ h3; have := h4 _ h1; exact Int.le_antisymm this (by assumption)
theorem A6h {r : Nat} {xs : List AV} {i : Int} {is : List Int} {u : Value} (S : St C base b env Γ ρ μ H s) (a : AOk base A n) (hq : base.q = false) (hx : VR C μ s.heap (.ref r) u) (e1 : H[r]? = some (.list xs)) (e2 : Bc xs = some (i :: is))
    (k : B5 C base b env Γ ρ μ s (.int (is.foldl max i)) H Q) : wpAny (model C.prog C.w) A (call (.builtin "max") [u]) Q E s := by
  refine bC fun hno => ?_
  obtain ⟨c, rfl, ec⟩ := hx.isRef
  obtain ⟨_, a', vs, ea', p1, q1⟩ := S.hp.list e1
  rw [ec] at ea'; cases ea'
  obtain ⟨m, nm, _⟩ := S.er.ns
  refine hno ?_
  refine max_list_N (a.handled hq) (fr0 nm) (Ui _ _) (IsList.of_plain p1) (F7 e2 q1) (by simp) fun h' M t tk F N h1 h2 => ?_
  obtain ⟨h3, h4⟩ := Hl is i
  rw [Vt h1 h2 h3 h4]
  exact B5.led S k nm F N (.int _ _)
theorem A7q {r : Nat} {xs : List AV} {is : List Int} {u : Value} (S : St C base b env Γ ρ μ H s) (a : AOk base A n) (hq : base.q = false) (hx : VR C μ s.heap (.ref r) u) (e1 : H[r]? = some (.list xs)) (e2 : Bc xs = some is)
    (k : B5 C base b env Γ ρ μ s (.int is.sum) H Q) : wpAny (model C.prog C.w) A (call (.builtin "sum") [u]) Q E s := by
  refine bC fun hno => ?_
  obtain ⟨c, rfl, ec⟩ := hx.isRef
  obtain ⟨_, a', vs, ea', p1, q1⟩ := S.hp.list e1
  rw [ec] at ea'; cases ea'
  have hi := F7 e2 q1
  obtain ⟨zs, ez⟩ := hi.allInts.items
  have hl : s.heap.IsList c (intItems zs) := by rw [← ez]; exact IsList.of_plain p1
  refine hno ?_
  refine sum_intListG (a.handled hq) hl fun h' tk t' g => ?_
  have hns : is = zs.toList.map (·.1) := by rw [← hi.numsOf, ← nums_intItems, ← ez]
  have hsum : preSum (numAt zs) zs.size = is.sum := by
    rw [hns, preSum_eq, List.take_of_length_le (by simp)]
  rw [hsum]
  exact B5.grow S k (fun e => g _ _ e) (.int _ _)
theorem A8y {r : Nat} {xs : List AV} {cs : List Bool} {u : Value} (S : St C base b env Γ ρ μ H s) (a : AOk base A n) (hq : base.q = false) (hx : VR C μ s.heap (.ref r) u) (e1 : H[r]? = some (.list xs)) (e2 : Du xs = some cs)
    (k : B5 C base b env Γ ρ μ s (.bool (cs.all id)) H Q) : wpAny (model C.prog C.w) A (call (.builtin "all") [u]) Q E s := by
  refine bC fun hno => ?_
  obtain ⟨c, rfl, ec⟩ := hx.isRef
  obtain ⟨_, a', vs, ea', p1, q1⟩ := S.hp.list e1
  rw [ec] at ea'; cases ea'
  refine hno ?_
  cases Y9 e2 q1
  have hlt : c < s.heap.objs.size := by obtain ⟨_, ho⟩ := p1; exact Heap.lt_size ho
  refine call_all_walk (wpAny_pyIter_list (IsList.of_plain p1) ?_)
  refine ⟨_, _, _, _, _, _, fun i => cs.getD i false, rfl, Walks.list (A := A.in1) (a.handled hq) _ c (Nat.ne_of_lt hlt) (cs.map Value.bool).toArray, ⟨⟨_, Heap.get?_push_size _ rfl, rfl, rfl⟩, (IsList.of_plain p1).push _⟩, ?_, fun h' tk hk => ?_⟩
  · intro i v s Q E e q
    have := Yk (by simpa using e)
    subst this
    exact wpAny_truthy_bool q
  · have g : ∀ {a : Addr} {o : Obj}, s.heap.get? a = some o → h'.get? a = some o := fun {a o} e => hk a o (by simp; exact Nat.ne_of_lt (Heap.lt_size e)) (Heap.get?_push_of_some _ e)
    refine B5.grow S k g ?_
    rw [List.size_toArray, List.length_map, Zu]
    exact .bool _
theorem A8c {c : Bool} {u : Value} (S : St C base b env Γ ρ μ H s) (hx : VR C μ s.heap (.bool c) u) (k : B5 C base b env Γ ρ μ s (.int (if c then 1 else 0)) H Q) : wpAny (model C.prog C.w) A (call (.type "int") [u]) Q E s := by
  cases hx
  exact call_int_bool (k _ _ μ .refl (S.tok _) (.int _ _))
theorem Gp (x : Int) : ∀ l : List Int, (C9 x l).Perm (x :: l)
  | [] => List.Perm.refl _
  | y :: r => by
    unfold C9
    split
    · exact List.Perm.refl _
    · exact ((Gp x r).cons y).trans (List.Perm.swap x y r)
theorem J3 : ∀ l : List Int, (C7 l).Perm l
  | [] => List.Perm.refl _
  | x :: r => (Gp x _).trans ((J3 r).cons x)
theorem Hp (x : Int) : ∀ {l : List Int}, l.Pairwise (· ≤ ·) → (C9 x l).Pairwise (· ≤ ·)
  | [], _ => by simp [C9]
  | y :: r, q => by
    unfold C9
    split
    · rename_i hxy
      rw [List.pairwise_cons] at q ⊢
      refine ⟨fun z hz => ?_, by rw [List.pairwise_cons]; exact q⟩
      rcases List.mem_cons.mp hz with rfl | hz
      · exact hxy
      · exact Int.le_trans hxy (q.1 z hz)
    · rename_i hxy
      rw [List.pairwise_cons] at q ⊢
      refine ⟨fun z hz => ?_, Hp x q.2⟩
      have := (Gp x r).mem_iff.mp hz
      rcases List.mem_cons.mp this with rfl | hz
      · exact Int.le_of_lt (Ab0 hxy)
      · exact q.1 z hz
theorem K7 : ∀ l : List Int, (C7 l).Pairwise (· ≤ ·)
  | [] => .nil
  | x :: r => Hp x (K7 r)
theorem Ln : ∀ {a b : List Int}, a.Perm b → a.Pairwise (· ≤ ·) → b.Pairwise (· ≤ ·) → a = b
  | [], b, p, _, _ => (List.Perm.eq_nil p.symm).symm
  | x :: a, b, p, ha, hb => by
    cases b with
    | nil => exact absurd p.symm.length_eq (by simp)
    | cons y b =>
      have h1 := List.pairwise_cons.mp ha
      have h2 := List.pairwise_cons.mp hb
      have e : x = y := by
        have q1 : x ∈ y :: b := p.subset List.mem_cons_self
        have q2 : y ∈ x :: a := p.symm.subset List.mem_cons_self
        rcases List.mem_cons.mp q1 with q | q
        · exact q
        · rcases List.mem_cons.mp q2 with r | r
          · exact r.symm
          · have := h2.1 x q; have := h1.1 y r; exact Int.le_antisymm this (by assumption)
      subst e
      rw [Ln (List.Perm.cons_inv p) h1.2 h2.2]
theorem Zi {r : Nat} {xs : List AV} {is : List Int} {u : Value} (S : St C base b env Γ ρ μ H s) (hx : VR C μ s.heap (.ref r) u) (e1 : H[r]? = some (.list xs)) (e2 : Bc xs = some is) (h64 : xs.length < 64)
    (k : B5 C base b env Γ ρ μ s (.ref H.length) (H ++ [.list ((C7 is).map .int)]) Q) : wpAny (model C.prog C.w) A (call (.builtin "sorted") [u]) Q E s := by
  refine bC fun hno => ?_
  obtain ⟨c, rfl, ec⟩ := hx.isRef
  obtain ⟨hz, a', vs, ea', p1, q1⟩ := S.hp.list e1
  rw [ec] at ea'; cases ea'
  obtain ⟨m, nm, _⟩ := S.er.ns
  have hi := F7 e2 q1
  refine hno ?_
  refine sorted_N (fr0 nm) (Ui _ _) (IsList.of_plain p1) hi (by rw [← q1.length]; exact h64) fun h' vs' ns' e F N hI' hp hs' => ?_
  have hns : ns' = C7 is := Ln (hp.trans (J3 is).symm) hs' (K7 is)
  subst hns
  have hlen : ((C7 is).map AV.int).length ≤ lim := by
    rw [List.length_map, (J3 is).length_eq, ← hi.length, ← q1.length]; exact hz
  obtain ⟨S', X⟩ := S.ledger (l := [_]) (n := e) nm F N (by exact .head _) (Db (Nat.le_succ _)) (Mx hI') hlen
  exact k _ _ _ X S' (.ref (by rw [← S.hp.len]; simp))
theorem Rq {c : Int} {r : Addr} {t u v : Tok} (S : St C base b env Γ ρ μ H s) (a : AOk base A n) (hq : base.q = false) (hr : IsRange s.heap r 0 c 1 t u v) (hc : inR c = true)
    (k : B5 C base b env Γ ρ μ s (.ref H.length) (H ++ [.list (B1 0 c)]) Q) : wpAny (model C.prog C.w) A (call (.type "list") [.ref r]) Q E s := by
  have hc1 : -1000 ≤ c ∧ c ≤ 1000 := of_decide_eq_true hc
  have hsize : Builtin.Range.rangeSize 0 c 1 = ((c - 0).toNat : Int) := by
    unfold Builtin.Range.rangeSize
    simp
    split
    · exact (Int.max_eq_left (Int.le_of_lt (by assumption))).symm
    · exact (Int.max_eq_right (Int.not_lt.mp (by assumption))).symm
  refine call_list_range (a.handled hq) hr ?_ hsize (Nat.le_trans (oC0 hc1.2) (by decide)) fun h' tk acc' c' g hl hi => ?_
  · exact small_one (by decide) (by decide) (Int.le_trans (by decide) hc1.1) (Int.lt_of_le_of_lt hc1.2 (by decide))
  · have hv : VRs C μ h' (B1 0 c) acc'.toList := by
      refine VRs.of_get ?_ fun i x w e1 e2 => ?_
      · rw [Fv, Array.length_toList, hi.1]
      · have hi' : i < (c - 0).toNat := by rw [← Fv]; exact (List.getElem?_eq_some_iff.mp e1).1
        rw [Vz hi'] at e1
        cases e1
        obtain ⟨t', rfl⟩ := hi.2 i w (by simpa using e2)
        simp
        exact .int _ _
    refine B5.list (n := c') (vs := acc'.toList) S k (fun e => g _ _ e) (Aw _) (by simpa using hl) hv ?_
    rw [Fv]
    have : (c - 0).toNat ≤ 1000 := oC0 hc1.2
    exact Nat.le_trans this (by decide)
theorem A1i {x : AV} {r : Bool} {u : Value} (S : St C base b env Γ ρ μ H s) (hx : VR C μ s.heap x u) (e : N6 x = some r) (k : B5 C base b env Γ ρ μ s (.bool r) H Q) :
    wpAny (model C.prog C.w) A (call (.builtin "isinstance") [u, .type "int"]) Q E s := by
  have yes : r = true → Q (.bool true) s := fun hr => by subst hr; exact k _ _ μ .refl S (.bool _)
  have no : r = false → Q (.bool false) { s with toks := s.toks + 1 } := fun hr => by subst hr; exact k _ _ μ .refl (S.tok _) (.bool _)
  cases hx with
  | none => exact IsiPair.NoneType_int (no (Option.some.inj e).symm)
  | bool => exact IsiPair.bool_int (yes (Option.some.inj e).symm)
  | int => exact IsiPair.int_int (yes (Option.some.inj e).symm)
  | str => exact IsiPair.str_int (no (Option.some.inj e).symm)
  | tup t => obtain ⟨o, ho, hc, _⟩ := t; exact IsiPair.tuple_int ho hc (no (Option.some.inj e).symm)
  | ref ea =>
    obtain ⟨o, ho, ⟨_, hc⟩ | ⟨_, hc⟩⟩ := Rh S.hp ea
    · exact IsiPair.list_int ho hc (no (Option.some.inj e).symm)
    · exact IsiPair.dict_int ho hc (no (Option.some.inj e).symm)
  | scr => cases e
  | fn => cases e
  | exc => cases e
theorem Z5 {x : AV} {r : Bool} {u : Value} (S : St C base b env Γ ρ μ H s) (hx : VR C μ s.heap x u) (e : M3 x = some r) (k : B5 C base b env Γ ρ μ s (.bool r) H Q) :
    wpAny (model C.prog C.w) A (call (.builtin "isinstance") [u, .type "bool"]) Q E s := by
  have yes : r = true → Q (.bool true) s := fun hr => by subst hr; exact k _ _ μ .refl S (.bool _)
  have no : r = false → Q (.bool false) { s with toks := s.toks + 1 } := fun hr => by subst hr; exact k _ _ μ .refl (S.tok _) (.bool _)
  cases hx with
  | none => exact IsiPair.NoneType_bool (no (Option.some.inj e).symm)
  | bool => exact IsiPair.bool_bool (yes (Option.some.inj e).symm)
  | int => exact IsiPair.int_bool (no (Option.some.inj e).symm)
  | str => exact IsiPair.str_bool (no (Option.some.inj e).symm)
  | tup t => obtain ⟨o, ho, hc, _⟩ := t; exact IsiPair.tuple_bool ho hc (no (Option.some.inj e).symm)
  | ref ea =>
    obtain ⟨o, ho, ⟨_, hc⟩ | ⟨_, hc⟩⟩ := Rh S.hp ea
    · exact IsiPair.list_bool ho hc (no (Option.some.inj e).symm)
    · exact IsiPair.dict_bool ho hc (no (Option.some.inj e).symm)
  | scr => cases e
  | fn => cases e
  | exc => cases e
theorem W9 {x : AV} {r : Bool} {u : Value} (S : St C base b env Γ ρ μ H s) (hx : VR C μ s.heap x u) (e : K6 x = some r) (k : B5 C base b env Γ ρ μ s (.bool r) H Q) :
    wpAny (model C.prog C.w) A (call (.builtin "isinstance") [u, .type "tuple"]) Q E s := by
  have yes : r = true → Q (.bool true) s := fun hr => by subst hr; exact k _ _ μ .refl S (.bool _)
  have no : r = false → Q (.bool false) { s with toks := s.toks + 1 } := fun hr => by subst hr; exact k _ _ μ .refl (S.tok _) (.bool _)
  cases hx with
  | none => exact IsiPair.NoneType_tuple (no (Option.some.inj e).symm)
  | bool => exact IsiPair.bool_tuple (no (Option.some.inj e).symm)
  | int => exact IsiPair.int_tuple (no (Option.some.inj e).symm)
  | str => exact IsiPair.str_tuple (no (Option.some.inj e).symm)
  | tup t => obtain ⟨o, ho, hc, _⟩ := t; exact IsiPair.tuple_tuple ho hc (yes (Option.some.inj e).symm)
  | ref ea =>
    obtain ⟨o, ho, ⟨_, hc⟩ | ⟨_, hc⟩⟩ := Rh S.hp ea
    · exact IsiPair.list_tuple ho hc (no (Option.some.inj e).symm)
    · exact IsiPair.dict_tuple ho hc (no (Option.some.inj e).symm)
  | scr => cases e
  | fn => cases e
  | exc => cases e
theorem Zn {x : AV} {r : Bool} {u : Value} (S : St C base b env Γ ρ μ H s) (hx : VR C μ s.heap x u) (e : Gm x H = some r) (k : B5 C base b env Γ ρ μ s (.bool r) H Q) :
    wpAny (model C.prog C.w) A (call (.builtin "isinstance") [u, .type "list"]) Q E s := by
  have yes : r = true → Q (.bool true) s := fun hr => by subst hr; exact k _ _ μ .refl S (.bool _)
  have no : r = false → Q (.bool false) { s with toks := s.toks + 1 } := fun hr => by subst hr; exact k _ _ μ .refl (S.tok _) (.bool _)
  cases hx with
  | none => exact IsiPair.NoneType_list (no (Option.some.inj e).symm)
  | bool => exact IsiPair.bool_list (no (Option.some.inj e).symm)
  | int => exact IsiPair.int_list (no (Option.some.inj e).symm)
  | str => exact IsiPair.str_list (no (Option.some.inj e).symm)
  | tup t => obtain ⟨o, ho, hc, _⟩ := t; exact IsiPair.tuple_list ho hc (no (Option.some.inj e).symm)
  | ref ea =>
    obtain ⟨o, ho, ⟨⟨xs, e1⟩, hc⟩ | ⟨e1, hc⟩⟩ := Rh S.hp ea
    · rw [Vj, e1] at e; exact IsiPair.list_list ho hc (yes (Option.some.inj e).symm)
    · rw [Vj, e1] at e; exact IsiPair.dict_list ho hc (no (Option.some.inj e).symm)
  | scr => cases e
  | fn => cases e
  | exc => cases e
end
end Mine
namespace Mine
open PySem PySem.Calls PyProof.Rows PySem.SeqAt
noncomputable def Cr : List (Str × Value) := [("len", .builtin "len"), ("range", .type "range"), ("list", .type "list"), ("tuple", .type "tuple"), ("sorted", .builtin "sorted"), ("set", .type "set"), ("min", .builtin "min"), ("max", .builtin "max"),
  ("sum", .builtin "sum"), ("all", .builtin "all"), ("isinstance", .builtin "isinstance"), ("int", .type "int"), ("bool", .type "bool"), ("str", .type "str"), ("zip", .type "zip"), ("ValueError", .type "ValueError")]
inductive A54 (T : Tab) (base : Heap) (a : Addr) (f : FnI) : Prop
  | mk (o : Obj) (fd : FuncData) (body : List Stmt) (h1 : base.get? a = some o) (h2 : o.data = .func fd) (h3 : fd.body = .stmts body) (h4 : fd.globals = mainGlobals) (h5 : fd.closure = []) (h6 : fd.defaults = .none) (h7 : fd.builtins = builtinsNs)
    (h8 : base.CodeRec fd.code fd.qualname) (h9 : Wr T f fd.params body fd.scope = true) : A54 T base a f
structure Gnd (C : Cx) (T : Tab) (base : Bs) : Prop where
  q : base.q = T.q
  okc : T.q = false → ∀ k, T.okc k = true
  scr : Scr C base
  g : base.g.Ns mainGlobals C.mg
  b : base.g.Ns builtinsNs C.mb
  bi : ∀ {x : Str} {v : Value}, Cr.lookup x = some v → C.mg x = none ∧ C.mb x = some v
  fn : ∀ {k : Nat} {x : Str}, T.fns.lookup k = some x → C.mg x = some (.ref (C.fa k)) ∧ ∃ o fd, base.g.get? (C.fa k) = some o ∧ o.data = .func fd
  gint : ∀ {k : Nat} {x : Str} {i : Int}, T.gints.lookup k = some (x, i) → ∃ t, C.mg x = some (.int i t)
  exg : Tb C T base.g
  nolimit : base.g.NoLimit
  defs : ∀ {k : Nat} {f : FnI}, T.defs.lookup k = some f → T.okc k = true → A54 T base.g (C.fa k) f
  qdefs : ∀ {k : Nat} {f : FnI}, T.defs.lookup k = some f → T.qs.contains k = true → A54 T.quiet base.g (C.fa k) f
inductive A1c {α β : Type} (r : Res α) (f : α → A0 → Res β) (v : β) (H' : A0) : Prop
  | mk (a : α) (H1 : A0) (e1 : r = .ok a H1) (e2 : f a H1 = .ok v H') : A1c r f v H'
theorem Res.get_ok {α β : Type} {r : Res α} {f : α → A0 → Res β} {v : β} {H' : A0} (e : r.get f = .ok v H') : A1c r f v H' := by
  cases r with
  | ok a H1 => exact ⟨a, H1, rfl, e⟩
  | exc c H1 => cases e
  | bad => cases e
theorem Res.thn_ok {α β : Type} {r : Res α} {f : α → A0 → Res β} {v : β} {H' : A0} (e : r.thn f = .ok v H') : A1c r f v H' := by
  cases r with
  | ok a H1 => exact ⟨a, H1, rfl, e⟩
  | exc c H1 => cases e
  | bad => cases e
section
variable (C : Cx) (T : Tab) (n b : Nat) (Γ : List Str) (S : Scope)
structure Al (e : Expr) (d : A8 → A0 → Res AV) : Prop where
  ok : ∀ {base : Bs} {env : Env} {ρ : A8} {μ : List Addr} {H H' : A0} {s : Shared} {A : Around} {E : Value → Shared → Prop} {Q : Value → Shared → Prop} {v : AV},
    Gnd C T base → env.scope = S → St C base b env Γ ρ μ H s → AOk base A n → d ρ H = .ok v H' → B5 C base b env Γ ρ μ s v H' Q → wpAny (model C.prog C.w) A (eval e env) Q E s
structure Gz (e : Expr) (d : A8 → A0 → Res Bool) : Prop where
  ok : ∀ {base : Bs} {env : Env} {ρ : A8} {μ : List Addr} {H H' : A0} {s : Shared} {A : Around} {E : Value → Shared → Prop} {Q : Bool → Shared → Prop} {v : Bool},
    Gnd C T base → env.scope = S → St C base b env Γ ρ μ H s → AOk base A n → d ρ H = .ok v H' → (∀ s' μ', Ext env μ μ' s.heap s'.heap → St C base b env Γ ρ μ' H' s' → Q v s') →
    wpAny (model C.prog C.w) A (isTrue e env (eval e env)) Q E s
structure Ji (es : List Expr) (d : A8 → A0 → Res (List AV)) : Prop where
  ok : ∀ {base : Bs} {env : Env} {ρ : A8} {μ : List Addr} {H H' : A0} {s : Shared} {A : Around} {E : Value → Shared → Prop} {Q : List Value → Shared → Prop} {vs : List AV} {pos : Pos},
    Gnd C T base → env.scope = S → St C base b env Γ ρ μ H s → AOk base A n → d ρ H = .ok vs H' → (∀ us s' μ', Ext env μ μ' s.heap s'.heap → St C base b env Γ ρ μ' H' s' → VRs C μ' s'.heap vs us → Q us s') →
    wpAny (model C.prog C.w) A (spliced (backTo pos (starEach es env))) Q E s
end
theorem Ar {e : Expr} {r : List Expr} {env : Env} (h : Aq e = true) : starEach (e :: r) env = (false, eval e env) :: starEach r env := by
  cases e <;> first | rfl | cases h
section
variable {C : Cx} {T : Tab} {n b : Nat} {Γ : List Str} {S : Scope}
theorem Al.const {e : Expr} {d : A8 → A0 → Res AV} {v : AV} (hd : ∀ ρ H, d ρ H = .ok v H)
    (he : ∀ {env : Env} {A : Around} {E Q} {s : Shared} {μ : List Addr}, (∀ u tk, VR C μ s.heap v u → Q u { s with toks := tk }) → wpAny (model C.prog C.w) A (eval e env) Q E s) : Al C T n b Γ S e d := by
  refine ⟨?_⟩
  intro base env ρ μ H H' s A E Q v' G hS st a ed k
  rw [hd] at ed; cases ed
  exact he (μ := μ) fun u tk q => k u _ μ .refl (st.tok tk) q
theorem Al.cNone {k : Nat} {pos : Pos} {d : A8 → A0 → Res AV} (hd : ∀ ρ H, d ρ H = .ok .none H) : Al C T n b Γ S (.Constant .none k pos) d :=
  .const hd fun {_ _ _ _ s _} k => wpAny_Constant_none (k _ s.toks .none)
theorem Al.cBool {c : Bool} {k : Nat} {pos : Pos} {d : A8 → A0 → Res AV} (hd : ∀ ρ H, d ρ H = .ok (.bool c) H) : Al C T n b Γ S (.Constant (.bool c) k pos) d :=
  .const hd fun {_ _ _ _ s _} k => wpAny_Constant_bool (k _ s.toks (.bool _))
theorem Al.cInt {c : Int} {k : Nat} {pos : Pos} {d : A8 → A0 → Res AV} (hd : ∀ ρ H, d ρ H = .ok (.int c) H) : Al C T n b Γ S (.Constant (.int c) k pos) d :=
  .const hd fun {_ _ _ _ s _} k => wpAny_Constant_int (k _ _ (.int _ _))
theorem R1 {S : Scope} {x : Str} (h : Rv S x = true) : (Bd S x = some .local ∨ Bd S x = some .cell ∨ Bd S x = some .free) ∧ (x == ("__debug__" : Str)) = false ∧ (x == ("__classdict__" : Str)) = false := by
  unfold Rv at h
  simp only [Bool.and_eq_true, Bool.or_eq_true, beq_iff_eq, Bool.not_eq_true'] at h
  obtain ⟨⟨(h1 | h1) | h1, h2⟩, h3⟩ := h
  · exact ⟨.inl h1, h2, h3⟩
  · exact ⟨.inr (.inl h1), h2, h3⟩
  · exact ⟨.inr (.inr h1), h2, h3⟩
theorem Al.var {x : Str} {pos : Pos} {i : Nat} {d : A8 → A0 → Res AV} (hs : slot Γ x = some i) (hk : Rv S x = true)
    (hd : ∀ ρ H, d ρ H = (match ρ[i]? with | some (some v) => .ok v H | _ => .bad)) : Al C T n b Γ S (.Name x pos) d := by
  refine ⟨?_⟩
  intro base env ρ μ H H' s A E Q v G hS st a ed k
  rw [hd] at ed
  split at ed
  · rename_i w ew; cases ed
    refine bC fun hno => ?_
    obtain ⟨hk, h1, h2⟩ := R1 hk
    refine hno ?_
    refine wpAny_Name ?_ h1
    rw [← hS] at hk
    rcases hk with hk | hk | hk
    · refine bC fun hno => ?_
      obtain ⟨m, nm, q⟩ := st.er.ns
      obtain ⟨u, eu, vu⟩ := q hs hk ew
      refine hno ?_
      exact wpAny_loadName_local st.er.kind hk nm eu (k u s μ .refl st vu)
    · refine bC fun hno => ?_
      obtain ⟨c, o, ec, hc, q⟩ := st.er.cells (.inl hk)
      obtain ⟨u, rfl, vu⟩ := q hs ew
      refine hno ?_
      exact wpAny_loadName_cell st.er.kind hk ec hc (k u s μ .refl st vu)
    · refine bC fun hno => ?_
      obtain ⟨c, o, ec, hc, q⟩ := st.er.cells (.inr hk)
      obtain ⟨u, rfl, vu⟩ := q hs ew
      refine hno ?_
      exact wpAny_loadName_free st.er.kind hk ec hc (k u s μ .refl st vu) h2
  · cases ed
theorem Kg {S : Scope} {x : Str} (h : Ao S x = true) : Bd S x = some .globalImplicit ∧ (x == ("__debug__" : Str)) = false := by
  unfold Ao at h
  simp only [Bool.and_eq_true, beq_iff_eq, Bool.not_eq_true'] at h
  exact h
section
variable {base : Bs} {env : Env} {ρ : A8} {μ : List Addr} {H H' : A0} {s : Shared} {A : Around} {E : Value → Shared → Prop} {Q : Value → Shared → Prop}
theorem Gn {x : Str} {pos : Pos} {u : Value} (G : Gnd C T base) (hS : env.scope = S) (st : St C base b env Γ ρ μ H s) (hg : Ao S x = true) (hx : C.mg x = some u) (k : Q u s) : wpAny (model C.prog C.w) A (eval (.Name x pos) env) Q E s := by
  obtain ⟨h1, h2⟩ := Kg hg
  rw [← hS] at h1
  refine Name_function_global st.er.kind h1 (loadGlobal_global (mg := C.mg) ?_ hx k) h2
  rw [st.er.globals]; exact G.g.keeps fun _ _ => st.kg
theorem Bm {x : Str} {pos : Pos} {u : Value} (G : Gnd C T base) (hS : env.scope = S) (st : St C base b env Γ ρ μ H s) (hg : Ao S x = true) (hx : Cr.lookup x = some u) (k : Q u s) : wpAny (model C.prog C.w) A (eval (.Name x pos) env) Q E s := by
  refine bC fun hno => ?_
  obtain ⟨h1, h2⟩ := Kg hg
  obtain ⟨h3, h4⟩ := G.bi hx
  rw [← hS] at h1
  refine hno ?_
  refine Name_function_global st.er.kind h1 (loadGlobal_builtin (mg := C.mg) (mb := C.mb) ?_ h3 ?_ h4 k) h2
  · rw [st.er.globals]; exact G.g.keeps fun _ _ => st.kg
  · rw [st.er.builtins]; exact G.b.keeps fun _ _ => st.kg
end
theorem Al.gint {x : Str} {pos : Pos} {k : Nat} {i : Int} {d : A8 → A0 → Res AV} (hx : T.gints.lookup k = some (x, i)) (hg : Ao S x = true) (hd : ∀ ρ H, d ρ H = .ok (.int i) H) : Al C T n b Γ S (.Name x pos) d := by
  refine ⟨?_⟩
  intro base env ρ μ H H' s A E Q v G hS st a ed q
  refine bC fun hno => ?_
  rw [hd] at ed; cases ed
  obtain ⟨t, e⟩ := G.gint hx
  refine hno ?_
  exact Gn G hS st hg e (q _ _ μ .refl st (.int i t))
theorem Qz {l r : Expr} {d1 d2 : A8 → A0 → Res AV} (h1 : Al C T n b Γ S l d1) (h2 : Al C T n b Γ S r d2)
    {base : Bs} {env : Env} {ρ : A8} {μ : List Addr} {H H1 H2 : A0} {s : Shared} {A : Around} {E : Value → Shared → Prop} {Q : Value → Value → Shared → Prop} {v w : AV}
    (G : Gnd C T base) (hS : env.scope = S) (st : St C base b env Γ ρ μ H s) (a : AOk base A n) (e1 : d1 ρ H = .ok v H1) (e2 : d2 ρ H1 = .ok w H2)
    (k : ∀ p q s' μ', Ext env μ μ' s.heap s'.heap → St C base b env Γ ρ μ' H2 s' → VR C μ' s'.heap v p → VR C μ' s'.heap w q → Q p q s') :
    wpAny (model C.prog C.w) A (eval l env) (fun p s₁ => wpAny (model C.prog C.w) A (eval r env) (fun q s₂ => Q p q s₂) E s₁) E s :=
  h1.ok G hS st a e1 fun p s1 μ1 X1 S1 V1 => h2.ok G hS S1 a e2 fun q s2 μ2 X2 S2 V2 => k p q s2 μ2 (X1.trans X2) S2 (V1.mono S1.hp S1.er X2) V2
theorem Al.bin {l r : Expr} {op : Operator} {pos : Pos} {d d1 d2 : A8 → A0 → Res AV} (h1 : Al C T n b Γ S l d1) (h2 : Al C T n b Γ S r d2)
    (hd : ∀ ρ H, d ρ H = (d1 ρ H).get fun v H => (d2 ρ H).get fun w H => Bg op v w H) : Al C T n b Γ S (.BinOp l op r pos) d := by
  refine ⟨?_⟩
  intro base env ρ μ H H' s A E Q v G hS st a ed k
  rw [hd] at ed
  obtain ⟨x, H1, e1, ed⟩ := Res.get_ok ed
  obtain ⟨y, H2, e2, ed⟩ := Res.get_ok ed
  refine wpAny_BinOp (Qz h1 h2 G hS st a e1 e2 fun p q s' μ' X S' V W => ?_)
  exact A2t S' V W ed fun u s'' μ'' X' S'' V' => k u s'' μ'' (X.trans X') S'' V'
theorem Al.neg {x : Expr} {pos : Pos} {d d1 : A8 → A0 → Res AV} (h1 : Al C T n b Γ S x d1) (hd : ∀ ρ H, d ρ H = (d1 ρ H).get fun v H => (match v with | .int i => .ok (.int (-i)) H | _ => .bad)) : Al C T n b Γ S (.UnaryOp .USub x pos) d := by
  refine ⟨?_⟩
  intro base env ρ μ H H' s A E Q v G hS st a ed k
  rw [hd] at ed
  obtain ⟨x, H1, e1, ed⟩ := Res.get_ok ed
  split at ed
  · cases ed
    refine wpAny_UnaryOp (h1.ok G hS st a e1 fun u s' μ' X S' V => ?_)
    obtain ⟨t, rfl⟩ := V.isInt
    exact PyProof.Rows.neg_int (k _ _ μ' X (S'.tok _) (.int _ _))
  · cases ed
theorem Al.not {x : Expr} {pos : Pos} {d d1 : A8 → A0 → Res AV} (h1 : Al C T n b Γ S x d1) (hd : ∀ ρ H, d ρ H = (d1 ρ H).get fun v H => (match v with | .bool i => .ok (.bool (!i)) H | _ => .bad)) : Al C T n b Γ S (.UnaryOp .Not x pos) d := by
  refine ⟨?_⟩
  intro base env ρ μ H H' s A E Q v G hS st a ed k
  rw [hd] at ed
  obtain ⟨x, H1, e1, ed⟩ := Res.get_ok ed
  split at ed
  · cases ed
    refine wpAny_UnaryOp (h1.ok G hS st a e1 fun u s' μ' X S' V => ?_)
    cases V
    refine wpAny_bind (wpAny_truthy_bool (wpAny_pure ?_))
    exact k _ _ μ' X S' (.bool _)
  · cases ed
theorem Al.ite {t x y : Expr} {pos : Pos} {d d1 d2 : A8 → A0 → Res AV} {dt : A8 → A0 → Res Bool} (ht : Gz C T n b Γ S t dt) (h1 : Al C T n b Γ S x d1) (h2 : Al C T n b Γ S y d2)
    (hd : ∀ ρ H, d ρ H = (dt ρ H).get fun t H => if t then d1 ρ H else d2 ρ H) : Al C T n b Γ S (.IfExp t x y pos) d := by
  refine ⟨?_⟩
  intro base env ρ μ H H' s A E Q v G hS st a ed k
  rw [hd] at ed
  obtain ⟨c, H1, e1, ed⟩ := Res.get_ok ed
  refine wpAny_IfExp (ht.ok G hS st a e1 fun s' μ' X S' => ?_)
  cases c with
  | true =>
    simp only [if_true] at ed ⊢
    exact h1.ok G hS S' a ed fun u s'' μ'' X' S'' V => k u s'' μ'' (X.trans X') S'' V
  | false =>
    simp only [Bool.false_eq_true, if_false] at ed ⊢
    exact h2.ok G hS S' a ed fun u s'' μ'' X' S'' V => k u s'' μ'' (X.trans X') S'' V
theorem Ji.nilE {d : A8 → A0 → Res (List AV)} (hd : ∀ ρ H, d ρ H = .ok [] H) : Ji C T n b Γ S [] d := by
  refine ⟨?_⟩
  intro base env ρ μ H H' s A E Q vs pos G hS st a ed k
  rw [hd] at ed; cases ed
  exact wpAny_pure (k _ _ μ .refl st .nil)
theorem Ji.consE {e : Expr} {es : List Expr} {d1 : A8 → A0 → Res AV} {d d2 : A8 → A0 → Res (List AV)} (hn : Aq e = true) (h1 : Al C T n b Γ S e d1) (h2 : Ji C T n b Γ S es d2)
    (hd : ∀ ρ H, d ρ H = (d1 ρ H).thn fun v H => (d2 ρ H).thn fun vs H => .ok (v :: vs) H) : Ji C T n b Γ S (e :: es) d := by
  refine ⟨?_⟩
  intro base env ρ μ H H' s A E Q vs pos G hS st a ed k
  refine bC fun hno => ?_
  rw [hd] at ed
  obtain ⟨x, H1, e1, ed⟩ := Res.thn_ok ed
  obtain ⟨y, H2, e2, ed⟩ := Res.thn_ok ed
  cases ed
  refine hno ?_
  refine wpAny_items_cons (h1.ok G hS st a e1 fun p s1 μ1 X1 S1 V1 => h2.ok G hS S1 a e2 fun q s2 μ2 X2 S2 V2 => ?_) (Ar hn)
  exact k _ s2 μ2 (X1.trans X2) S2 (.cons (V1.mono S1.hp S1.er X2) V2)
theorem Al.mkList {es : List Expr} {pos : Pos} {d : A8 → A0 → Res AV} {d1 : A8 → A0 → Res (List AV)} (h1 : Ji C T n b Γ S es d1) (hd : ∀ ρ H, d ρ H = (d1 ρ H).thn fun vs H => B7 vs H) : Al C T n b Γ S (.List es pos) d := by
  refine ⟨?_⟩
  intro base env ρ μ H H' s A E Q v G hS st a ed k
  rw [hd] at ed
  obtain ⟨vs, H1, e1, ed⟩ := Res.thn_ok ed
  unfold B7 at ed
  split at ed
  · rename_i hz; cases ed
    refine wpAny_List_spliced (h1.ok G hS st a e1 fun us s' μ' X S' V => ⟨?_, ?_⟩)
    · rw [← V.length]; exact Er hz
    · exact k _ _ _ (X.trans .newList) (S'.newList V hz) (.ref (by rw [← S'.hp.len]; simp))
  · cases ed
theorem Al.mkTuple {es : List Expr} {j : Nat} {pos : Pos} {d : A8 → A0 → Res AV} {d1 : A8 → A0 → Res (List AV)} (h1 : Ji C T n b Γ S es d1) (hd : ∀ ρ H, d ρ H = (d1 ρ H).get fun vs H => Ot vs H) : Al C T n b Γ S (.Tuple es j pos) d := by
  refine ⟨?_⟩
  intro base env ρ μ H H' s A E Q v G hS st a ed k
  rw [hd] at ed
  obtain ⟨vs, H1, e1, ed⟩ := Res.get_ok ed
  unfold Ot at ed
  split at ed
  · rename_i hz; cases ed
    refine wpAny_Tuple_spliced (h1.ok G hS st a e1 fun us s' μ' X S' V => ⟨?_, ?_⟩)
    · rw [← V.length]; exact Er hz
    · have g : ∀ {a : Addr} {o : Obj}, s'.heap.get? a = some o → (s'.heap.push { cls := .type "tuple", data := .seq us.toArray }).get? a = some o := fun e => Heap.get?_push_of_some _ e
      exact k _ _ μ' (X.trans (Ext.grow g)) (S'.push _) (.tup ⟨_, Heap.get?_push_size _ rfl, rfl, _, rfl⟩ (S'.notZ (Aw _)) hz (V.keeps g))
  · cases ed
theorem Gh {op : CmpOp} {e : Expr} (h : C3 e = true) : behindInMarks op e = false := by
  cases e <;> first | rfl | cases h
theorem Al.cmp {l r : Expr} {op : CmpOp} {pos : Pos} {d d1 d2 : A8 → A0 → Res AV} (hr : C3 r = true) (h1 : Al C T n b Γ S l d1) (h2 : Al C T n b Γ S r d2)
    (hd : ∀ ρ H, d ρ H = (d1 ρ H).get fun v H => (d2 ρ H).get fun w H => (match B4 op v w H with | some r => .ok (.bool r) H | none => .bad)) : Al C T n b Γ S (.Compare l [op] [r] pos) d := by
  refine ⟨?_⟩
  intro base env ρ μ H H' s A E Q v G hS st a ed k
  rw [hd] at ed
  obtain ⟨x, H1, e1, ed⟩ := Res.get_ok ed
  obtain ⟨y, H2, e2, ed⟩ := Res.get_ok ed
  split at ed
  · rename_i r er; cases ed
    refine wpAny_Compare1 (Qz h1 h2 G hS st a e1 e2 fun p q s' μ' X S' V W => ?_) (Gh hr)
    exact He S' V W er a (k _ _ μ' X S' (.bool _))
  · cases ed
theorem Gz.cmp {l r : Expr} {op : CmpOp} {pos : Pos} {d1 d2 : A8 → A0 → Res AV} {d : A8 → A0 → Res Bool} (hr : C3 r = true) (h1 : Al C T n b Γ S l d1) (h2 : Al C T n b Γ S r d2)
    (hd : ∀ ρ H, d ρ H = (d1 ρ H).get fun v H => (d2 ρ H).get fun w H => (match B4 op v w H with | some r => .ok r H | none => .bad)) : Gz C T n b Γ S (.Compare l [op] [r] pos) d := by
  refine ⟨?_⟩
  intro base env ρ μ H H' s A E Q v G hS st a ed k
  rw [hd] at ed
  obtain ⟨x, H1, e1, ed⟩ := Res.get_ok ed
  obtain ⟨y, H2, e2, ed⟩ := Res.get_ok ed
  split at ed
  · rename_i r er; cases ed
    refine wpAny_isTrue_Compare1 (Qz h1 h2 G hS st a e1 e2 fun p q s' μ' X S' V W => ?_) (Gh hr)
    exact He S' V W er a (wpAny_truthy_bool (k _ μ' X S'))
  · cases ed
theorem Al.cmp2 {l r1 r2 : Expr} {o1 o2 : CmpOp} {pos : Pos} {d d1 d2 d3 : A8 → A0 → Res AV} (hr : C3 r2 = true) (h1 : Al C T n b Γ S l d1) (h2 : Al C T n b Γ S r1 d2) (h3 : Al C T n b Γ S r2 d3)
    (hd : ∀ ρ H, d ρ H = (d1 ρ H).get fun v H => (d2 ρ H).get fun w H => (match B4 o1 v w H with
      | some true => (d3 ρ H).get fun u H => (match B4 o2 w u H with | some r => .ok (.bool r) H | none => .bad)
      | some false => .ok (.bool false) H
      | none => .bad)) : Al C T n b Γ S (.Compare l [o1, o2] [r1, r2] pos) d := by
  refine ⟨?_⟩
  intro base env ρ μ H H' s A E Q v G hS st a ed k
  rw [hd] at ed
  obtain ⟨x, H1, e1, ed⟩ := Res.get_ok ed
  obtain ⟨y, H2, e2, ed⟩ := Res.get_ok ed
  rw [arm_eval_Compare]
  refine wpAny_bind (h1.ok G hS st a e1 fun p s1 μ1 X1 S1 V1 => ?_)
  simp only [evalEach, markedEach, markedBehindIn, Gh hr]
  refine wpAny_bind (m := holding [p] (eval r1 env)) (wpAny_holding (h2.ok G hS S1 a e2 fun q s2 μ2 X2 S2 V2 => wpAny_bind (wpAny_standAt (wpAny_bind (wpAny_holding ?_)))))
  have V1' := V1.mono S1.hp S1.er X2
  split at ed
  · rename_i er
    refine He S2 V1' V2 er a (wpAny_bind (wpAny_release (wpAny_bind (wpAny_holding (wpAny_truthy_bool ?_)))))
    simp only [if_true]
    obtain ⟨z, H3, e3, ed⟩ := Res.get_ok ed
    refine wpAny_bind (m := holding [q] (eval r2 env)) (wpAny_holding (h3.ok G hS S2 a e3 fun u s3 μ3 X3 S3 V3 => wpAny_bind (wpAny_standAt (wpAny_operating ?_))))
    split at ed
    · rename_i r er'; cases ed
      exact He S3 (V2.mono S2.hp S2.er X3) V3 er' a (k _ _ μ3 ((X1.trans X2).trans X3) S3 (.bool _))
    · cases ed
  · rename_i er; cases ed
    refine He S2 V1' V2 er a (wpAny_bind (wpAny_release (wpAny_bind (wpAny_holding (wpAny_truthy_bool ?_)))))
    simp only [Bool.false_eq_true, if_false]
    exact wpAny_pure (k _ _ μ2 (X1.trans X2) S2 (.bool _))
  · cases ed
end
end Mine
namespace Mine
open PySem PySem.Calls PyProof.Rows PySem.SeqAt
section
variable (C : Cx) (T : Tab) (n b : Nat) (Γ : List Str) (S : Scope)
structure Na (op : BoolOp) (es : List Expr) (d : A8 → A0 → Res AV) : Prop where
  ok : ∀ {base : Bs} {env : Env} {ρ : A8} {μ : List Addr} {H H' : A0} {s : Shared} {A : Around} {E : Value → Shared → Prop} {Q : Value → Shared → Prop} {v : AV} {pos : Pos},
    Gnd C T base → env.scope = S → St C base b env Γ ρ μ H s → AOk base A n → d ρ H = .ok v H' → B5 C base b env Γ ρ μ s v H' Q → wpAny (model C.prog C.w) A (boolOp pos op (evalEach es env)) Q E s
structure Ky (op : BoolOp) (es : List Expr) (d : A8 → A0 → Res Bool) : Prop where
  ok : ∀ {base : Bs} {env : Env} {ρ : A8} {μ : List Addr} {H H' : A0} {s : Shared} {A : Around} {E : Value → Shared → Prop} {Q : Bool → Shared → Prop} {v : Bool},
    Gnd C T base → env.scope = S → St C base b env Γ ρ μ H s → AOk base A n → d ρ H = .ok v H' → (∀ s' μ', Ext env μ μ' s.heap s'.heap → St C base b env Γ ρ μ' H' s' → Q v s') →
    wpAny (model C.prog C.w) A (allTrue op es env) Q E s
end
section
variable {C : Cx} {T : Tab} {n b : Nat} {Γ : List Str} {S : Scope}
theorem Gz.ofEv {e : Expr} {d : A8 → A0 → Res Bool} {d1 : A8 → A0 → Res AV} (he : ∀ env whole, isTrue e env whole = (do let v ← whole; standAt e.pos; holding [v] (truthy v))) (h : Al C T n b Γ S e d1)
    (hd : ∀ ρ H, d ρ H = (d1 ρ H).get fun v H => (match v with | .bool t => .ok t H | _ => .bad)) : Gz C T n b Γ S e d := by
  refine ⟨?_⟩
  intro base env ρ μ H H' s A E Q v G hS st a ed k
  rw [hd] at ed
  obtain ⟨x, H1, e1, ed⟩ := Res.get_ok ed
  split at ed
  · cases ed
    refine wpAny_isTrue_value (h.ok G hS st a e1 fun u s' μ' X S' V => ?_) (he _ _)
    cases V
    exact wpAny_truthy_bool (k _ _ X S')
  · cases ed
theorem Gz.not {x : Expr} {pos : Pos} {d d1 : A8 → A0 → Res Bool} (h : Gz C T n b Γ S x d1) (hd : ∀ ρ H, d ρ H = (d1 ρ H).get fun v H => .ok (!v) H) : Gz C T n b Γ S (.UnaryOp .Not x pos) d := by
  refine ⟨?_⟩
  intro base env ρ μ H H' s A E Q v G hS st a ed k
  refine bC fun hno => ?_
  rw [hd] at ed
  obtain ⟨x, H1, e1, ed⟩ := Res.get_ok ed
  cases ed
  refine hno ?_
  exact wpAny_isTrue_Not (h.ok G hS st a e1 fun s' μ' X S' => k _ _ X S')
theorem Na.one {op : BoolOp} {e : Expr} {d d1 : A8 → A0 → Res AV} (h : Al C T n b Γ S e d1) (hd : ∀ ρ H, d ρ H = d1 ρ H) : Na C T n b Γ S op [e] d := by
  refine ⟨?_⟩
  intro base env ρ μ H H' s A E Q v pos G hS st a ed k
  rw [hd] at ed
  exact h.ok G hS st a ed k
theorem Na.andE {e e' : Expr} {es : List Expr} {d d1 d2 : A8 → A0 → Res AV} (h : Al C T n b Γ S e d1) (h2 : Na C T n b Γ S .And (e' :: es) d2)
    (hd : ∀ ρ H, d ρ H = (d1 ρ H).get fun v H => (match v with
      | .bool false => .ok (.bool false) H
      | .bool true => d2 ρ H
      | _ => .bad)) : Na C T n b Γ S .And (e :: e' :: es) d := by
  refine ⟨?_⟩
  intro base env ρ μ H H' s A E Q v pos G hS st a ed k
  rw [hd] at ed
  obtain ⟨x, H1, e1, ed⟩ := Res.get_ok ed
  show wpAny _ _ (boolOp pos .And (eval e env :: eval e' env :: evalEach es env)) Q E s
  · refine wpAny_bind (m := eval e env) (h.ok G hS st a e1 fun u s' μ' X S' V => wpAny_bind (wpAny_standAt (wpAny_bind (wpAny_holding ?_))))
    split at ed
    · cases ed; cases V
      exact wpAny_truthy_bool (wpAny_pure (k _ _ μ' X S' (.bool _)))
    · cases V
      refine wpAny_truthy_bool ?_
      exact h2.ok (pos := pos) G hS S' a ed fun u s'' μ'' X' S'' V => k u s'' μ'' (X.trans X') S'' V
    · cases ed
theorem Na.orE {e e' : Expr} {es : List Expr} {d d1 d2 : A8 → A0 → Res AV} (h : Al C T n b Γ S e d1) (h2 : Na C T n b Γ S .Or (e' :: es) d2)
    (hd : ∀ ρ H, d ρ H = (d1 ρ H).get fun v H => (match v with
      | .bool true => .ok (.bool true) H
      | .bool false => d2 ρ H
      | _ => .bad)) : Na C T n b Γ S .Or (e :: e' :: es) d := by
  refine ⟨?_⟩
  intro base env ρ μ H H' s A E Q v pos G hS st a ed k
  rw [hd] at ed
  obtain ⟨x, H1, e1, ed⟩ := Res.get_ok ed
  show wpAny _ _ (boolOp pos .Or (eval e env :: eval e' env :: evalEach es env)) Q E s
  · refine wpAny_bind (m := eval e env) (h.ok G hS st a e1 fun u s' μ' X S' V => wpAny_bind (wpAny_standAt (wpAny_bind (wpAny_holding ?_))))
    split at ed
    · cases ed; cases V
      exact wpAny_truthy_bool (wpAny_pure (k _ _ μ' X S' (.bool _)))
    · cases V
      refine wpAny_truthy_bool ?_
      exact h2.ok (pos := pos) G hS S' a ed fun u s'' μ'' X' S'' V => k u s'' μ'' (X.trans X') S'' V
    · cases ed
theorem Al.boolOp {op : BoolOp} {es : List Expr} {pos : Pos} {d : A8 → A0 → Res AV} (h : Na C T n b Γ S op es d) : Al C T n b Γ S (.BoolOp op es pos) d := by
  refine ⟨?_⟩
  intro base env ρ μ H H' s A E Q v G hS st a ed k
  rw [arm_eval_BoolOp]
  exact h.ok G hS st a ed k
theorem Ky.nilA {d : A8 → A0 → Res Bool} (hd : ∀ ρ H, d ρ H = .ok true H) : Ky C T n b Γ S .And [] d := by
  refine ⟨?_⟩
  intro base env ρ μ H H' s A E Q v G hS st a ed k
  rw [hd] at ed; cases ed
  exact wpAny_allTrue_And_nil (k _ μ .refl st)
theorem Ky.nilO {d : A8 → A0 → Res Bool} (hd : ∀ ρ H, d ρ H = .ok false H) : Ky C T n b Γ S .Or [] d := by
  refine ⟨?_⟩
  intro base env ρ μ H H' s A E Q v G hS st a ed k
  rw [hd] at ed; cases ed
  exact wpAny_allTrue_Or_nil (k _ μ .refl st)
theorem Ky.andE {e : Expr} {es : List Expr} {d d1 d2 : A8 → A0 → Res Bool} (h : Gz C T n b Γ S e d1) (h2 : Ky C T n b Γ S .And es d2) (hd : ∀ ρ H, d ρ H = (d1 ρ H).get fun v H => if v then d2 ρ H else .ok false H) :
    Ky C T n b Γ S .And (e :: es) d := by
  refine ⟨?_⟩
  intro base env ρ μ H H' s A E Q v G hS st a ed k
  rw [hd] at ed
  obtain ⟨c, H1, e1, ed⟩ := Res.get_ok ed
  refine wpAny_allTrue_And_cons (h.ok G hS st a e1 fun s' μ' X S' => ?_)
  cases c with
  | true => simp only [if_true] at ed ⊢; exact h2.ok G hS S' a ed fun s'' μ'' X' S'' => k s'' μ'' (X.trans X') S''
  | false => simp only [Bool.false_eq_true, if_false] at ed ⊢; cases ed; exact k _ _ X S'
theorem Ky.orE {e : Expr} {es : List Expr} {d d1 d2 : A8 → A0 → Res Bool} (h : Gz C T n b Γ S e d1) (h2 : Ky C T n b Γ S .Or es d2) (hd : ∀ ρ H, d ρ H = (d1 ρ H).get fun v H => if v then .ok true H else d2 ρ H) :
    Ky C T n b Γ S .Or (e :: es) d := by
  refine ⟨?_⟩
  intro base env ρ μ H H' s A E Q v G hS st a ed k
  rw [hd] at ed
  obtain ⟨c, H1, e1, ed⟩ := Res.get_ok ed
  refine wpAny_allTrue_Or_cons (h.ok G hS st a e1 fun s' μ' X S' => ?_)
  cases c with
  | true => simp only [if_true] at ed ⊢; cases ed; exact k _ _ X S'
  | false => simp only [Bool.false_eq_true, if_false] at ed ⊢; exact h2.ok G hS S' a ed fun s'' μ'' X' S'' => k s'' μ'' (X.trans X') S''
theorem Gz.boolOp {op : BoolOp} {es : List Expr} {pos : Pos} {d : A8 → A0 → Res Bool} (h : Ky C T n b Γ S op es d) : Gz C T n b Γ S (.BoolOp op es pos) d := by
  refine ⟨?_⟩
  intro base env ρ μ H H' s A E Q v G hS st a ed k
  exact wpAny_isTrue_BoolOp (h.ok G hS st a ed k)
theorem A6d {n : Nat} {k : Int} {j : Nat} (h : at? n k = some j) : j < n ∧ ((0 ≤ k ∧ k < n ∧ j = k.toNat) ∨ (k < 0 ∧ -(n : Int) ≤ k ∧ j = (k + n).toNat)) := by
  unfold at? at h
  split at h
  · rename_i h1; cases h; exact ⟨by exact Aak h1.1 h1.2, .inl ⟨h1.1, h1.2, rfl⟩⟩
  · split at h
    · rename_i h1; cases h; exact ⟨(Int.toNat_lt (oB3 h1).1).mpr (oB3 h1).2, .inr ⟨h1.1, h1.2, rfl⟩⟩
    · cases h
theorem E3 {slice : Expr} {a : Addr} {k : Int} {t : Tok} (hn : O5 slice = true) : subscripted slice false (.ref a) (.int k t) = operate [.ref a, .int k t] (getItem (.ref a) (.int k t)) := by
  cases slice <;> first | rfl | cases hn
theorem U4 {n j : Nat} {k : Int} (hj : j < n) (h : (0 ≤ k ∧ k < n ∧ j = k.toNat) ∨ (k < 0 ∧ -(n : Int) ≤ k ∧ j = (k + n).toNat)) : seqIndex? k n = some j := by
  unfold seqIndex?
  rcases h with ⟨h1, h2, rfl⟩ | ⟨h1, h2, rfl⟩
  · have : ¬ k < 0 := by exact T7 h1
    simp only [this, if_false]
    rw [if_pos (by simp; exact And.intro h1 h2)]
  · simp only [h1, if_true]
    rw [if_pos (by simp; exact oB3 ⟨h1, h2⟩)]
theorem Al.idx {v i : Expr} {pos : Pos} {d d1 d2 : A8 → A0 → Res AV} (hn : O5 i = true) (h1 : Al C T n b Γ S v d1) (h2 : Al C T n b Γ S i d2)
    (hd : ∀ ρ H, d ρ H = (d1 ρ H).get fun v H => (d2 ρ H).get fun w H => Bx C.sc v w H) : Al C T n b Γ S (.Subscript v i pos) d := by
  refine ⟨?_⟩
  intro base env ρ μ H H' s A E Q v' G hS st a ed k
  rw [hd] at ed
  obtain ⟨x, H1, e1, ed⟩ := Res.get_ok ed
  obtain ⟨y, H2, e2, ed⟩ := Res.get_ok ed
  refine Subscript_ (Qz h1 h2 G hS st a e1 e2 fun p q s' μ' X S' V W => ?_)
  unfold Bx at ed
  split at ed
  · rename_i k'
    obtain ⟨t, rfl⟩ := W.isInt
    split at ed
    · split at ed
      · rename_i hk; cases ed; cases V
        refine bC fun hno => ?_
        obtain ⟨svs, l, hi, hz⟩ := G.scr.scr
        have l' : s'.heap.IsList C.sa svs.toArray := Jt l fun _ => S'.kg
        have hlen : svs.length = C.sc.length := hi.length
        have hlt : k'.toNat < svs.length := by exact Nat.lt_of_lt_of_le ((Int.toNat_lt hk.1).mpr hk.2) (Nat.le_of_eq hlen.symm)
        obtain ⟨t', et⟩ := Ho hi (List.getElem?_eq_getElem hlt)
        have hfit : C.sc.length < 2 ^ 63 := Nat.lt_of_le_of_lt hz (by decide)
        refine hno ?_
        refine tail_any l'.typeIs slot_list_getitem.lookup (wpAny_getItem_list l' hk.1 (A1f hk.2 hfit) (x := .int (C.sc.getD k'.toNat 0) t') ?_ (k _ _ μ' X S' (.int _ _))) (E3 hn)
        rw [List.getElem?_toArray, List.getElem?_eq_getElem hlt, et]
      · cases ed
    · split at ed
      · rename_i xs ex
        split at ed
        · rename_i j ej
          split at ed
          · rename_i z ez; cases ed
            obtain ⟨hz, a', o, vs, c, Ty, rfl, hT, ho, hc, hd', q⟩ := Ku S'.hp V ex
            obtain ⟨u, eu, vu⟩ := q.get ez
            have hlim : xs.length < 2 ^ 63 := Nat.lt_of_le_of_lt hz (by decide)
            have hl := q.length
            obtain ⟨hj, hcase⟩ := A6d ej
            rcases hT with rfl | rfl
            · have hl' : s'.heap.IsList a' (List.toArray vs) := ⟨o, ho, hc, c, hd'⟩
              refine tail_any hl'.typeIs slot_list_getitem.lookup ?_ (E3 hn)
              rcases hcase with ⟨h3, h4, rfl⟩ | ⟨h3, h4, rfl⟩
              · exact wpAny_getItem_list hl' h3 (A1f h4 hlim) (by simpa using eu) (k _ _ μ' X S' vu)
              · exact wpAny_getItem_list_neg hl' h3 (by simp; exact hl ▸ h4) (oB1 hlim h4) (by simpa [← hl] using eu) (k _ _ μ' X S' vu)
            · have hl' : IsTup s'.heap a' (List.toArray vs) := ⟨o, ho, hc, c, hd'⟩
              refine item_tupleT hl' (oB2 hlim hcase).1 (oB2 hlim hcase).2 (j := j) ?_ eu (k _ _ μ' X S' vu) (E3 hn)
              rw [← hl]
              exact U4 hj hcase
          · cases ed
        · cases ed
      · cases ed
  · cases ed
end
end Mine
namespace Mine
open PySem PySem.Calls PyProof.Rows PySem.SeqAt
section
variable (C : Cx) (T : Tab) (n b : Nat) (Γ : List Str) (S : Scope)
structure Wb (o : Option Expr) (d : A8 → A0 → Res (Option Int)) : Prop where
  ok : ∀ {base : Bs} {env : Env} {ρ : A8} {μ : List Addr} {H H' : A0} {s : Shared} {A : Around} {E : Value → Shared → Prop} {Q : Value → Shared → Prop} {v : Option Int},
    Gnd C T base → env.scope = S → St C base b env Γ ρ μ H s → AOk base A n → d ρ H = .ok v H' → (∀ u s' μ', Ext env μ μ' s.heap s'.heap → St C base b env Γ ρ μ' H' s' → IsPart u v → Q u s') → wpAny (model C.prog C.w) A (evalPart o env) Q E s
end
section
variable {C : Cx} {T : Tab} {n b : Nat} {Γ : List Str} {S : Scope}
theorem Wb.no {d : A8 → A0 → Res (Option Int)} (hd : ∀ ρ H, d ρ H = .ok none H) : Wb C T n b Γ S none d := by
  refine ⟨?_⟩
  intro base env ρ μ H H' s A E Q v G hS st a ed k
  rw [hd] at ed; cases ed
  exact wpAny_evalPart_none (k _ _ μ .refl st .none)
theorem Wb.yes {e : Expr} {d : A8 → A0 → Res (Option Int)} {d1 : A8 → A0 → Res AV} (h : Al C T n b Γ S e d1) (hd : ∀ ρ H, d ρ H = (d1 ρ H).get fun v H => (match v with | .int i => .ok (some i) H | _ => .bad)) : Wb C T n b Γ S (some e) d := by
  refine ⟨?_⟩
  intro base env ρ μ H H' s A E Q v G hS st a ed k
  rw [hd] at ed
  obtain ⟨x, H1, e1, ed⟩ := Res.get_ok ed
  split at ed
  · cases ed
    refine wpAny_evalPart_some (h.ok G hS st a e1 fun u s' μ' X S' V => ?_)
    obtain ⟨t, rfl⟩ := V.isInt
    exact k _ _ μ' X S' (.int _ _)
  · cases ed
theorem Mn (n : Nat) (i : Int) : clipAt n i = cutAt n i := rfl
theorem A21 {xs : List AV} {vs : List Value} {μ : List Addr} {h : Heap} (q : VRs C μ h xs vs) (lo hi : Option Int) : VRs C μ h (cut xs lo hi) (slicePick vs.toArray lo hi none).toList := by
  rw [slicePick_plain]
  have hl := q.length
  have e1 : (lo.elim 0 (clipAt vs.toArray.size)) = (match lo with | some i => cutAt xs.length i | none => 0) := by
    cases lo <;> simp [Mn, hl]
  have e2 : (hi.elim vs.toArray.size (clipAt vs.toArray.size)) = (match hi with | some i => cutAt xs.length i | none => xs.length) := by
    cases hi <;> simp [Mn, hl]
  rw [e1, e2]
  unfold cut
  simp only [← List.drop_take]
  exact (q.take _).drop _
theorem Al.slice {v : Expr} {lo hi : Option Expr} {p pos : Pos} {d d1 : A8 → A0 → Res AV} {dl dh : A8 → A0 → Res (Option Int)} (h1 : Al C T n b Γ S v d1) (hl : Wb C T n b Γ S lo dl) (hh : Wb C T n b Γ S hi dh)
    (hd : ∀ ρ H, d ρ H = (d1 ρ H).get fun v H => (dl ρ H).get fun l H => (dh ρ H).get fun h H => (match v with
      | .ref r => (match H[r]? with
        | some (.list xs) => B7 (cut xs l h) H
        | _ => .bad)
      | _ => .bad)) : Al C T n b Γ S (.Subscript v (.Slice lo hi none p) pos) d := by
  refine ⟨?_⟩
  intro base env ρ μ H H' s A E Q v' G hS st a ed k
  refine bC fun hno => ?_
  rw [hd] at ed
  obtain ⟨x, H1, e1, ed⟩ := Res.get_ok ed
  obtain ⟨l, H2, e2, ed⟩ := Res.get_ok ed
  obtain ⟨h, H3, e3, ed⟩ := Res.get_ok ed
  refine hno ?_
  refine Subscript_ (h1.ok G hS st a e1 fun q s1 μ1 X1 S1 V1 => wpAny_Slice (hl.ok G hS S1 a e2 fun vl s2 μ2 X2 S2 P2 => hh.ok G hS S2 a e3 fun vh s3 μ3 X3 S3 P3 => wpAny_evalPart_none ?_))
  split at ed
  · rename_i r
    split at ed
    · rename_i xs ex
      unfold B7 at ed
      split at ed
      · rename_i hz; cases ed
        refine bC fun hno => ?_
        obtain ⟨c, rfl, ec⟩ := ((V1.mono S1.hp S1.er X2).mono S2.hp S2.er X3).isRef
        obtain ⟨hz', a', vs, ea', p1, q1⟩ := S3.hp.list ex
        rw [ec] at ea'; cases ea'
        have S4 := S3.push { cls := .type "slice", data := .fields #[vl, vh, .none] }
        have X4 : Ext env μ3 μ3 s3.heap (s3.heap.push { cls := .type "slice", data := .fields #[vl, vh, .none] }) := Ext.push _
        have p4 : (s3.heap.push { cls := .type "slice", data := .fields #[vl, vh, .none] }).IsList c vs.toArray := (IsList.of_plain p1).push _
        refine hno ?_
        refine tail_any (ops := [.ref s3.heap.objs.size, .ref c]) p4.typeIs slot_list_getitem.lookup ?_ rfl
        refine wpAny_getItem_list_slice (s := { s3 with heap := _ }) p4 ⟨_, Heap.get?_push_size _ rfl, rfl, rfl⟩ P2 P3 .none (by intro e; cases e) ?_ (by rw [List.size_toArray, ← q1.length]; exact Er hz')
        have q4 : VRs C μ3 (s3.heap.push { cls := .type "slice", data := .fields #[vl, vh, .none] }) (cut xs l h) (slicePick vs.toArray l h none).toList := A21 (q1.keeps fun e => Heap.get?_push_of_some _ e) l h
        have S5 := S4.newList q4 hz
        simp only [Array.toArray_toList] at S5
        exact k _ _ _ ((((X1.trans X2).trans X3).trans X4).trans .newList) S5 (.ref (by rw [← S3.hp.len]; simp))
      · cases ed
    · cases ed
  · cases ed
theorem A2u {v : AV} {H : A0} (h : isL v H = true) : ∃ r xs, v = .ref r ∧ H[r]? = some (.list xs) := by
  unfold isL at h
  split at h
  · split at h
    · exact ⟨_, _, rfl, by assumption⟩
    · cases h
  · cases h
theorem Pz (vs : List Value) (x : Value) : vs.toArray.push x = (vs ++ [x]).toArray := by simp
theorem Al.append {o y : Expr} {ap pos : Pos} {d d1 d2 : A8 → A0 → Res AV} (hb : ∀ env, attributeBase o "append" env (eval o env) = eval o env) (hy : Aq y = true) (hline : (ap.endLine == pos.line) = true)
    (h1 : Al C T n b Γ S o d1) (h2 : Al C T n b Γ S y d2)
    (hd : ∀ ρ H, d ρ H = (d1 ρ H).get fun v H => if isL v H then (d2 ρ H).get fun w H => De b v w H else .bad) : Al C T n b Γ S (.Call (.Attribute o "append" ap) [y] [] pos) d := by
  refine ⟨?_⟩
  intro base env ρ μ H H' s A E Q v' G hS st a ed k
  refine bC fun hno => ?_
  rw [hd] at ed
  obtain ⟨x, H1, e1, ed⟩ := Res.get_ok ed
  refine hno ?_
  split at ed
  · rename_i hL
    refine bC fun hno => ?_
    obtain ⟨z, H2, e2, ed⟩ := Res.get_ok ed
    have htrees : backTo pos (starEach [y] env) = [(false, eval y env)] := by rw [Ar hy]; rfl
    refine hno ?_
    refine wpAny_Call_append (hb env) (by rw [htrees]; rfl) hline htrees (h1.ok G hS st a e1 fun p s1 μ1 X1 S1 V1 => ?_)
    refine bC fun hno => ?_
    obtain ⟨r, ys, rfl, ey⟩ := A2u hL
    obtain ⟨c, rfl, ec⟩ := V1.isRef
    obtain ⟨_, a', ws, ea', ⟨j, p1⟩, _⟩ := S1.hp.list ey
    rw [ec] at ea'; cases ea'
    refine hno ?_
    refine ⟨c, _, rfl, ⟨_, _, p1, rfl, rfl, rfl⟩, h2.ok G hS S1 a e2 fun q s2 μ2 X2 S2 V2 => ?_⟩
    unfold De at ed
    simp only at ed
    split at ed
    · rename_i xs ex
      split at ed
      · rename_i hc; cases ed
        refine bC fun hno => ?_
        have ec2 := Bq X2.pre ec
        obtain ⟨hz', a', vs, ea', p1, q1⟩ := S2.hp.list ex
        rw [ec2] at ea'; cases ea'
        refine hno ?_
        refine wpAny_list_append_plain p1 (fun h' pl hs => ?_) (by rw [List.size_toArray, ← q1.length]; exact Er hz')
        refine bC fun hno => ?_
        rw [Pz] at pl
        obtain ⟨S3, X3⟩ := S2.turn ex ec2 hc.1 pl hs (q1.append (.cons V2 .nil)) (by simp; exact hc.2)
        refine hno ?_
        exact k _ _ _ ((X1.trans X2).trans X3) S3 .none
      · cases ed
    · cases ed
  · cases ed
end
end Mine
namespace Mine
open PySem PySem.Calls PyProof.Rows PySem.SeqAt
structure Df (C : Cx) (T : Tab) (n : Nat) (cf : Nat → List AV → A0 → Res AV) : Prop where
  ok : ∀ {k : Nat} {base : Bs} {b : Nat} {env : Env} {Γ : List Str} {ρ : A8} {μ : List Addr} {H H' : A0} {s : Shared} {A : Around} {E : Value → Shared → Prop} {Q : Value → Shared → Prop} {vs : List AV} {us : List Value} {v : AV},
    T.okc k = true → Gnd C T base → St C base b env Γ ρ μ H s → AOk base A n → VRs C μ s.heap vs us → cf k vs H = .ok v H' → B5 C base b env Γ ρ μ s v H' Q → wpAny (model C.prog C.w) A (call (.ref (C.fa k)) us) Q E s
  ex : ∀ {k : Nat} {base : Bs} {b : Nat} {env : Env} {Γ : List Str} {ρ : A8} {μ : List Addr} {H H' : A0} {s : Shared} {A : Around} {E : Value → Shared → Prop} {Q : Value → Shared → Prop} {vs : List AV} {us : List Value} {c : Nat},
    T.okc k = true → Gnd C T base → St C base b env Γ ρ μ H s → AOk base A n → VRs C μ s.heap vs us → cf k vs H = .exc c H' → J0 C base b env Γ ρ μ s c H' E → wpAny (model C.prog C.w) A (call (.ref (C.fa k)) us) Q E s
section
variable (C : Cx) (T : Tab) (n b : Nat) (Γ : List Str) (S : Scope)
structure XOk (e : Expr) (d : A8 → A0 → Res AV) : Prop where
  ok : ∀ {base : Bs} {env : Env} {ρ : A8} {μ : List Addr} {H H' : A0} {s : Shared} {A : Around} {E : Value → Shared → Prop} {Q : Value → Shared → Prop} {c : Nat},
    Gnd C T base → env.scope = S → St C base b env Γ ρ μ H s → AOk base A n → d ρ H = .exc c H' → J0 C base b env Γ ρ μ s c H' E → wpAny (model C.prog C.w) A (eval e env) Q E s
end
theorem Res.get_exc {α β : Type} {r : Res α} {f : α → A0 → Res β} {c : Nat} {H' : A0} (e : r.get f = .exc c H') : ∃ a H1, r = .ok a H1 ∧ f a H1 = .exc c H' := by
  cases r with
  | ok a H1 => exact ⟨a, H1, rfl, e⟩
  | exc c H1 => cases e
  | bad => cases e
section
variable {C : Cx} {T : Tab} {n b : Nat} {Γ : List Str} {S : Scope} {cf : Nat → List AV → A0 → Res AV} {strF : Bi}
variable {base : Bs} {env : Env} {ρ : A8} {μ : List Addr} {H H' : A0} {s : Shared} {A : Around} {E : Value → Shared → Prop} {Q : Value → Shared → Prop}
theorem Cz : ∀ {es : List Expr} {pos : Pos}, es.all Aq = true → (backTo pos (starEach es env)).any (·.1) = false
  | [], _, _ => rfl
  | e :: r, pos, h => by
    simp only [List.all_cons, Bool.and_eq_true] at h
    rw [Ar h.1]
    show (false || (backTo pos (starEach r env)).any (·.1)) = false
    rw [Cz h.2]; rfl
theorem Ch {e : Expr} {r : List Expr} {f : Value} {pos : Pos} {Q : Args → Shared → Prop} (hn : Aq e = true) (h : wpAny (model C.prog C.w) A (spliced (backTo pos (starEach (e :: r) env))) (fun us s' => Q ⟨us, []⟩ s') E s) :
    wpAny (model C.prog C.w) A (evalArgs f true (backTo pos (starEach (e :: r) env)) []) Q E s := by
  rw [Ar hn] at h ⊢
  exact evalArgs_plain h
theorem Al.userCall {x : Str} {e : Expr} {r : List Expr} {k : Nat} {np pos : Pos} {d : A8 → A0 → Res AV} {d1 : A8 → A0 → Res (List AV)} (hcf : Df C T n cf) (ho : T.okc k = true) (hx : T.fns.lookup k = some x) (hg : Ao S x = true)
    (hn : (e :: r).all Aq = true) (h1 : Ji C T n b Γ S (e :: r) d1) (hd : ∀ ρ H, d ρ H = (d1 ρ H).get fun vs H => cf k vs H) : Al C T n b Γ S (.Call (.Name x np) (e :: r) [] pos) d := by
  refine ⟨?_⟩
  intro base env ρ μ H H' s A E Q v' G hS st a ed q
  refine bC fun hno => ?_
  rw [hd] at ed
  obtain ⟨vs, H1, e1, ed⟩ := Res.get_ok ed
  obtain ⟨hx1, o, fd, ho', hfd⟩ := G.fn hx
  refine hno ?_
  refine wpAny_Call_ofName (Gn G hS st hg hx1 ?_)
  show wpAny _ _ (callWith pos (.ref (C.fa k)) [] (backTo pos (starEach (e :: r) env)) []) _ _ _
  have hne : Aq e = true := by simp only [List.all_cons, Bool.and_eq_true] at hn; exact hn.1
  refine callWith_function (Ch hne (h1.ok G hS st a e1 fun us s' μ' X S' V => ⟨⟨S'.kg ho', hfd⟩, ?_⟩))
  exact hcf.ok ho G S' a V ed fun u s'' μ'' X' S'' V' => q u s'' μ'' (X.trans X') S'' V'
theorem J0.after {c : Nat} {μ1 : List Addr} {s1 : Shared} (X : Ext env μ μ1 s.heap s1.heap) (q : J0 C base b env Γ ρ μ s c H' E) : J0 C base b env Γ ρ μ1 s1 c H' E :=
  fun u s' μ' X' S' ek x => q u s' μ' (X.trans X') S' ek (x.back X.live)
theorem XOk.userCall {x : Str} {e : Expr} {r : List Expr} {k : Nat} {np pos : Pos} {d : A8 → A0 → Res AV} {d1 : A8 → A0 → Res (List AV)} (hcf : Df C T n cf) (ho : T.okc k = true) (hx : T.fns.lookup k = some x) (hg : Ao S x = true)
    (hn : (e :: r).all Aq = true) (h1 : Ji C T n b Γ S (e :: r) d1) (hd : ∀ ρ H, d ρ H = (d1 ρ H).get fun vs H => cf k vs H) : XOk C T n b Γ S (.Call (.Name x np) (e :: r) [] pos) d := by
  refine ⟨?_⟩
  intro base env ρ μ H H' s A E Q c G hS st a ed q
  refine bC fun hno => ?_
  rw [hd] at ed
  obtain ⟨vs, H1, e1, ed⟩ := Res.get_exc ed
  obtain ⟨hx1, o, fd, ho', hfd⟩ := G.fn hx
  refine hno ?_
  refine wpAny_Call_ofName (Gn G hS st hg hx1 ?_)
  show wpAny _ _ (callWith pos (.ref (C.fa k)) [] (backTo pos (starEach (e :: r) env)) []) _ _ _
  have hne : Aq e = true := by simp only [List.all_cons, Bool.and_eq_true] at hn; exact hn.1
  refine callWith_function (Ch hne (h1.ok G hS st a e1 fun us s' μ' X S' V => ⟨⟨S'.kg ho', hfd⟩, ?_⟩))
  exact hcf.ex ho G S' a V ed (q.after X)
theorem Al.callB {x : Str} {id : String} {e : Expr} {r : List Expr} {np pos : Pos} {d : A8 → A0 → Res AV} {d1 : A8 → A0 → Res (List AV)} {f : List AV → A0 → Res AV} (hx : Cr.lookup x = some (.builtin id)) (hg : Ao S x = true)
    (hn : (e :: r).all Aq = true) (h1 : Ji C T n b Γ S (e :: r) d1) (hd : ∀ ρ H, d ρ H = (d1 ρ H).get f)
    (hc : ∀ {base : Bs} {env : Env} {ρ : A8} {μ : List Addr} {H H' : A0} {s : Shared} {A : Around} {E : Value → Shared → Prop} {Q : Value → Shared → Prop} {vs : List AV} {us : List Value} {v : AV},
      Gnd C T base → St C base b env Γ ρ μ H s → AOk base A n → VRs C μ s.heap vs us → f vs H = .ok v H' → B5 C base b env Γ ρ μ s v H' Q → wpAny (model C.prog C.w) A (call (.builtin id) us) Q E s) :
    Al C T n b Γ S (.Call (.Name x np) (e :: r) [] pos) d := by
  refine ⟨?_⟩
  intro base env ρ μ H H' s A E Q v' G hS st a ed q
  rw [hd] at ed
  obtain ⟨vs, H1, e1, ed⟩ := Res.get_ok ed
  refine wpAny_Call_ofName (Bm G hS st hg hx ?_)
  have hne : Aq e = true := by simp only [List.all_cons, Bool.and_eq_true] at hn; exact hn.1
  refine callWith_builtin (Cz hn) (Ch hne (h1.ok G hS st a e1 fun us s' μ' X S' V => ?_))
  exact hc G S' a V ed fun u s'' μ'' X' S'' V' => q u s'' μ'' (X.trans X') S'' V'
theorem Al.callT {x : Str} {Ty : String} {e : Expr} {r : List Expr} {np pos : Pos} {d : A8 → A0 → Res AV} {d1 : A8 → A0 → Res (List AV)} {f : List AV → A0 → Res AV} (hx : Cr.lookup x = some (.type Ty)) (hg : Ao S x = true)
    (hn : (e :: r).all Aq = true) (h1 : Ji C T n b Γ S (e :: r) d1) (hd : ∀ ρ H, d ρ H = (d1 ρ H).get f)
    (hc : ∀ {base : Bs} {env : Env} {ρ : A8} {μ : List Addr} {H H' : A0} {s : Shared} {A : Around} {E : Value → Shared → Prop} {Q : Value → Shared → Prop} {vs : List AV} {us : List Value} {v : AV},
      Gnd C T base → St C base b env Γ ρ μ H s → AOk base A n → VRs C μ s.heap vs us → f vs H = .ok v H' → B5 C base b env Γ ρ μ s v H' Q → wpAny (model C.prog C.w) A (call (.type Ty) us) Q E s) :
    Al C T n b Γ S (.Call (.Name x np) (e :: r) [] pos) d := by
  refine ⟨?_⟩
  intro base env ρ μ H H' s A E Q v' G hS st a ed q
  rw [hd] at ed
  obtain ⟨vs, H1, e1, ed⟩ := Res.get_ok ed
  refine wpAny_Call_ofName (Bm G hS st hg hx ?_)
  have hne : Aq e = true := by simp only [List.all_cons, Bool.and_eq_true] at hn; exact hn.1
  refine PySem.callWith_type (Cz hn) (Ch hne (h1.ok G hS st a e1 fun us s' μ' X S' V => ?_))
  exact hc G S' a V ed fun u s'' μ'' X' S'' V' => q u s'' μ'' (X.trans X') S'' V'
theorem Al.callI {f g : Str} {Ty : String} {x : Expr} {np gp pos : Pos} {d d1 : A8 → A0 → Res AV} {fv : AV → A0 → Res AV} (hf : Cr.lookup f = some (.builtin "isinstance")) (hg : Ao S f = true)
    (hgn : Cr.lookup g = some (.type Ty)) (hgg : Ao S g = true) (hn : Aq x = true) (h1 : Al C T n b Γ S x d1) (hd : ∀ ρ H, d ρ H = (d1 ρ H).get fv)
    (hc : ∀ {base : Bs} {env : Env} {ρ : A8} {μ : List Addr} {H H' : A0} {s : Shared} {A : Around} {E : Value → Shared → Prop} {Q : Value → Shared → Prop} {w : AV} {u : Value} {v : AV},
      Gnd C T base → St C base b env Γ ρ μ H s → VR C μ s.heap w u → fv w H = .ok v H' → B5 C base b env Γ ρ μ s v H' Q → wpAny (model C.prog C.w) A (call (.builtin "isinstance") [u, .type Ty]) Q E s) :
    Al C T n b Γ S (.Call (.Name f np) [x, .Name g gp] [] pos) d := by
  refine ⟨?_⟩
  intro base env ρ μ H H' s A E Q v' G hS st a ed q
  rw [hd] at ed
  obtain ⟨w, H1, e1, ed⟩ := Res.get_ok ed
  refine wpAny_Call_ofName (Bm G hS st hg hf ?_)
  have hall : ([x, .Name g gp] : List Expr).all Aq = true := by simp only [List.all_cons, hn]; rfl
  refine callWith_builtin (Cz hall) (Ch hn (wpAny_items_cons (h1.ok G hS st a e1 fun u s' μ' X S' V => ?_) (Ar hn)))
  refine wpAny_items_cons (Bm G hS S' hgg hgn (wpAny_items_nil ?_)) (Ar rfl)
  exact hc G S' V ed fun u s'' μ'' X' S'' V' => q u s'' μ'' (X.trans X') S'' V'
theorem Al.callX {f g : Str} {x : Expr} {np gp pos : Pos} {d d1 : A8 → A0 → Res AV} {fv : AV → A0 → Res AV} (hf : Cr.lookup f = some (.builtin "isinstance")) (hg : Ao S f = true)
    (hgg : Ao S g = true) (hn : Aq x = true) (h1 : Al C T n b Γ S x d1) (hd : ∀ ρ H, d ρ H = (d1 ρ H).get fv)
    (hc : ∀ {base : Bs} {env : Env} {ρ : A8} {μ : List Addr} {H H' : A0} {s : Shared} {A : Around} {E : Value → Shared → Prop} {Q : Value → Shared → Prop} {w : AV} {u : Value} {v : AV},
      Gnd C T base → St C base b env Γ ρ μ H s → VR C μ s.heap w u → fv w H = .ok v H' → B5 C base b env Γ ρ μ s v H' Q → ∃ cl, C.mg g = some cl ∧ wpAny (model C.prog C.w) A (call (.builtin "isinstance") [u, cl]) Q E s) :
    Al C T n b Γ S (.Call (.Name f np) [x, .Name g gp] [] pos) d := by
  refine ⟨?_⟩
  intro base env ρ μ H H' s A E Q v' G hS st a ed q
  rw [hd] at ed
  obtain ⟨w, H1, e1, ed⟩ := Res.get_ok ed
  refine wpAny_Call_ofName (Bm G hS st hg hf ?_)
  have hall : ([x, .Name g gp] : List Expr).all Aq = true := by simp only [List.all_cons, hn]; rfl
  refine callWith_builtin (Cz hall) (Ch hn (wpAny_items_cons (h1.ok G hS st a e1 fun u s' μ' X S' V => ?_) (Ar hn)))
  refine bC fun hno => ?_
  obtain ⟨cl, ecl, hw⟩ := hc (A := A) (E := E) (Q := Q) G S' V ed fun u s'' μ'' X' S'' V' => q u s'' μ'' (X.trans X') S'' V'
  refine hno ?_
  exact wpAny_items_cons (Gn G hS S' hgg ecl (wpAny_items_nil hw)) (Ar rfl)
end
end Mine
namespace Mine
open PySem PySem.Calls PyProof.Rows PySem.SeqAt
abbrev Cx.withZ (C : Cx) (z : Addr → Prop) : Cx := { C with z := z }
section
variable {C : Cx} {μ μ' : List Addr} {h h' : Heap} {base : Bs} {env : Env} {Γ : List Str} {ρ : A8} {H H' : A0} {b : Nat} {s s' : Shared} {z : Addr → Prop} {P : Addr → Prop}
theorem VR.mapZ (p : μ <+: μ') (st : ∀ {a : Addr} {o : Obj}, h.get? a = some o → ¬ C.z a → (∃ its, h.IsTuple a its) ∨ (∃ vs, o.data = .fields vs) → h'.get? a = some o) (hz : ∀ {a : Addr} {o : Obj}, h.get? a = some o → ¬ C.z a → ¬ z a)
    {x : AV} {v : Value} (q : VR C μ h x v) : VR (C.withZ z) μ' h' x v :=
  @VR.rec C μ h (fun x v _ => VR (C.withZ z) μ' h' x v) (fun xs vs _ => VRs (C.withZ z) μ' h' xs vs) .none .bool .int .str (fun t nz l _ ih => .tup (IsTuple.stays t fun _ e => st e nz (.inl ⟨_, t⟩)) (let ⟨_, e, _⟩ := t; hz e nz) l ih) (fun e => .ref (Bq p e)) .scr .fn
    (fun hk e nz hc hd => .exc hk (st e nz (.inr hd)) (hz e nz) hc hd) .nil (fun _ _ a r => .cons a r) x v q
theorem VRs.mapZ (p : μ <+: μ') (st : ∀ {a : Addr} {o : Obj}, h.get? a = some o → ¬ C.z a → (∃ its, h.IsTuple a its) ∨ (∃ vs, o.data = .fields vs) → h'.get? a = some o) (hz : ∀ {a : Addr} {o : Obj}, h.get? a = some o → ¬ C.z a → ¬ z a)
    {xs : List AV} {vs : List Value} (q : VRs C μ h xs vs) : VRs (C.withZ z) μ' h' xs vs := by
  induction xs generalizing vs with
  | nil => cases q; exact .nil
  | cons x xs ih => cases q with
    | cons a r => exact .cons (VR.mapZ p st hz a) (ih r)
theorem En.mapZ (N : En C μ h env Γ ρ) (hL : ∀ m, h.Ns env.locals m → h'.Ns env.locals m)
    (hc : ∀ (x : Str) (c : Addr) (o : Obj), env.cells.lookup x = some c → h.get? c = some o → h'.get? c = some o) (hv : ∀ {x : AV} {v : Value}, VR C μ h x v → VR (C.withZ z) μ' h' x v) : En (C.withZ z) μ' h' env Γ ρ where
  kind := N.kind
  ns := by
    obtain ⟨m, n, q⟩ := N.ns
    exact ⟨m, hL m n, fun e k r => let ⟨u, e', v⟩ := q e k r; ⟨u, e', hv v⟩⟩
  cells := fun k => by
    refine bC fun hno => ?_
    obtain ⟨c, o, e, ⟨ob, eb, db⟩, q⟩ := N.cells k
    refine hno ?_
    exact ⟨c, o, e, ⟨ob, hc _ c ob e eb, db⟩, fun e r => let ⟨u, e', v⟩ := q e r; ⟨u, e', hv v⟩⟩
  cell := fun e => let ⟨o, ob, eb, db⟩ := N.cell e; ⟨o, ob, hc _ _ ob e eb, db⟩
  inj := N.inj
  globals := N.globals
  builtins := N.builtins
theorem St.mapZ (S : St C base b env Γ ρ μ H s) (J : Addr → Prop) (k : ∀ {a : Addr} {o : Obj}, ¬ J a → s.heap.get? a = some o → s'.heap.get? a = some o) (hJo : ∀ {a : Addr}, J a → ¬ Own μ env a) (hJb : ∀ {a : Addr}, J a → base.get? a = none)
    (hJz : ∀ {a : Addr}, J a → C.z a ∨ s.heap.get? a = none) (hz : ∀ {a : Addr} {o : Obj}, s.heap.get? a = some o → ¬ C.z a → ¬ z a) (hl : ∀ {a : Addr}, z a → ∃ o, s'.heap.get? a = some o) (hg : s'.gens = s.gens) (ho : s'.os = s.os) :
    St (C.withZ z) base b env Γ ρ μ H s' := by
  have st : ∀ {a : Addr} {o : Obj}, s.heap.get? a = some o → ¬ C.z a → (∃ its, s.heap.IsTuple a its) ∨ (∃ vs, o.data = .fields vs) → s'.heap.get? a = some o := fun {a o} e nz _ =>
    k (fun j => by rcases hJz j with q | q; exact nz q; rw [q] at e; cases e) e
  have mono : ∀ {x : AV} {v : Value}, VR C μ s.heap x v → VR (C.withZ z) μ s'.heap x v := fun q => VR.mapZ List.prefix_rfl st hz q
  have monos : ∀ {x : List AV} {v : List Value}, VRs C μ s.heap x v → VRs (C.withZ z) μ s'.heap x v := fun q => VRs.mapZ List.prefix_rfl st hz q
  refine ⟨?_, ⟨S.hp.len, S.hp.nd, ?_, ?_⟩, S.er.mapZ ?_ ?_ mono, S.fresh, S.noloc, S.lm, S.nocell, hg.trans S.gens, ho.trans S.os, hl, FF.map (fun {L o} e n nz => ⟨o, k (fun j => by rcases hJz j with q | q; exact nz q; rw [q] at e; cases e) e, n, hz e nz⟩) S.ff⟩
  · intro c o e
    exact (S.keep c o e).map id (k (fun j => by rw [hJb j] at e; cases e))
  · intro i xs e
    obtain ⟨l, c, ws, e', ⟨n, p⟩, q⟩ := S.hp.list e
    exact ⟨l, c, ws, e', ⟨n, k (fun j => hJo j (.inl (M5 e'))) p⟩, monos q⟩
  · intro i e
    refine bC fun hno => ?_
    obtain ⟨c, n, e', p⟩ := S.hp.dict e
    refine hno ?_
    exact ⟨c, n, e', k (fun j => hJo j (.inl (M5 e'))) p⟩
  · intro m n
    exact n.at fun o e => k (fun j => hJo j (.inr (.inl rfl))) e
  · intro x c o e1 e2
    exact k (fun j => hJo j (.inr (.inr ⟨x, e1⟩))) e2
theorem Ext.but {J : Addr → Prop} (X : Ext env μ μ' h h') {h'' : Heap} (hJ : ∀ {a : Addr}, J a → h.get? a = none) (k : ∀ {a : Addr} {o : Obj}, ¬ J a → h'.get? a = some o → h''.get? a = some o) : Ext env μ μ' h h'' where
  pre := X.pre
  stay := fun {a o} e n => (X.stay e n).map id (k (fun j => by rw [hJ j] at e; cases e))
  new := X.new
  live := ⟨fun {a o} e => by
    obtain ⟨o', e', n⟩ := X.live.go e
    exact ⟨o', k (fun j => by rw [hJ j] at e; cases e) e', n⟩⟩
theorem Tb.toZ {T : Tab} {g : Heap} (G : Tb C T g) : Tb (C.withZ z) T g := ⟨G.cls, G.inj, G.has0, G.eo, G.sm⟩
theorem Gnd.toZ {T : Tab} (G : Gnd C T base) : Gnd (C.withZ z) T base := ⟨G.q, G.okc, ⟨G.scr.scr⟩, G.g, G.b, G.bi, G.fn, G.gint, G.exg.toZ, G.nolimit, G.defs, G.qdefs⟩
abbrev Cx.plus (C : Cx) (J : Addr → Prop) : Cx := C.withZ fun a => C.z a ∨ J a
structure I0 (C : Cx) (base : Bs) (it : Value) (J : Addr → Prop) (ws : List (Nat × List AV)) (nm : Bool) (R : List AV → List Addr → Heap → Prop) (M : List AV → Value → List Addr → Heap → Prop) : Prop where
  frame : ∀ {μ μ' : List Addr} {h h' : Heap} {l : List AV}, R l μ h → μ <+: μ' → (∀ {a : Addr} {o : Obj}, h.get? a = some o → (∃ its, h.IsTuple a its) ∨ (∃ vs, o.data = .fields vs) → h'.get? a = some o) → R l μ' h'
  off : ∀ {env : Env} {b : Nat} {Γ : List Str} {ρ : A8} {μ : List Addr} {H : A0} {s : Shared} {l : List AV}, St C base b env Γ ρ μ H s → R l μ s.heap → ∀ {a : Addr}, J a → ¬ Own μ env a
  live : ∀ {μ : List Addr} {h : Heap} {l : List AV}, R l μ h → ∀ {a : Addr}, J a → ∃ o, h.get? a = some o
  self : ∀ {μ : List Addr} {s : Shared} {l : List AV} {A : Around} {E : Value → Shared → Prop} {Q : Value → Shared → Prop}, R l μ s.heap → Q it s → wpAny (model C.prog C.w) A (pyIter it) Q E s
  liveM : ∀ {μ : List Addr} {h : Heap} {l : List AV} {u : Value}, M l u μ h → ∀ {a : Addr}, J a → ∃ o, h.get? a = some o
  item : ∀ {env : Env} {b : Nat} {Γ : List Str} {ρ : A8} {μ : List Addr} {H : A0} {s : Shared} {A : Around} {E : Value → Shared → Prop} {Q : Option Value → Shared → Prop} {v : AV} {l : List AV} {n : Nat},
    St C base b env Γ ρ μ H s → AOk base A n → (∀ {a : Addr}, J a → C.z a) → (∀ w ∈ ws, H[w.1]? = some (.list w.2)) → R (v :: l) μ s.heap →
    (∀ u h' tk, (∀ {a : Addr} {o : Obj}, ¬ J a → s.heap.get? a = some o → h'.get? a = some o) → VR C μ h' v u → M l u μ h' → Q (some u) { s with heap := h', toks := tk }) →
    wpAny (model C.prog C.w) A (pyNext it) Q E s
  plain : nm = true → ∀ {μ : List Addr} {h : Heap} {l : List AV} {u : Value}, M l u μ h → R l μ h
  own : ∀ {μ : List Addr} {s : Shared} {l : List AV} {a : Addr} {A : Around} {E : Value → Shared → Prop} {Q : Unit → Shared → Prop} {elts : List Expr} {x1 : Nat} {pos : Pos}, M l (.ref a) μ s.heap →
    (∀ h', (∀ {a : Addr} {o : Obj}, ¬ J a → s.heap.get? a = some o → h'.get? a = some o) → R l μ h' → Q () { s with heap := h' }) → wpAny (model C.prog C.w) A (letOwnedTupleGo (.Tuple elts x1 pos) it (.ref a)) Q E s
  done : ∀ {env : Env} {b : Nat} {Γ : List Str} {ρ : A8} {μ : List Addr} {H : A0} {s : Shared} {A : Around} {E : Value → Shared → Prop} {Q : Option Value → Shared → Prop} {n : Nat},
    St C base b env Γ ρ μ H s → AOk base A n → (∀ {a : Addr}, J a → C.z a) → (∀ w ∈ ws, H[w.1]? = some (.list w.2)) → R [] μ s.heap →
    (∀ h' tk, (∀ {a : Addr} {o : Obj}, ¬ J a → s.heap.get? a = some o → h'.get? a = some o) → Q none { s with heap := h', toks := tk }) → wpAny (model C.prog C.w) A (pyNext it) Q E s
theorem Uc {a : Addr} {its : Array Value} {o : Obj} (t : h.IsTuple a its) (e : h.get? a = some o) : ND o := by
  obtain ⟨o', e', _, n, d⟩ := t
  rw [e] at e'; cases e'
  intro _ _ q; rw [d] at q; cases q
theorem I0.frameX {it : Value} {J : Addr → Prop} {ws : List (Nat × List AV)} {nm : Bool} {R : List AV → List Addr → Heap → Prop} {M : List AV → Value → List Addr → Heap → Prop} {l : List AV} (W : I0 C base it J ws nm R M)
    {env' : Env} {Γ : List Str} (S : St C base b env' Γ ρ μ H s) (r : R l μ s.heap) (X : Ext env' μ μ' s.heap s'.heap) : R l μ' s'.heap :=
  W.frame r X.pre fun {a o} e k => by
    rcases k with ⟨its, t⟩ | ⟨vs, d⟩
    · exact (X.stay e (Co S.hp S.er t)).ex (Uc t e)
    · exact (X.stay e (B9 S.hp S.er e d)).ex fun _ _ q => by rw [d] at q; cases q
theorem Nt {elts : List Expr} {x1 : Nat} {pos : Pos} {I a : Addr} {Ty : String} {o : Obj} {vs : Array Value} {A : Around} {E : Value → Shared → Prop} {Q : Unit → Shared → Prop} (ho : s.heap.get? I = some o) (hc : o.cls = .type Ty) (hd : o.data = .fields vs)
    (hn : (["enumerate", "zip", "dict_itemiterator", "dict_reverseitemiterator", "odict_iterator", "itertools.zip_longest", "itertools.pairwise"].contains Ty) = false) (hQ : Q () s) :
    wpAny (model C.prog C.w) A (letOwnedTupleGo (.Tuple elts x1 pos) (.ref I) (.ref a)) Q E s := by
  unfold letOwnedTupleGo
  refine wpAny_bind (wpAny_load ho ?_)
  rw [hc, hd]
  simp only [hn, Bool.false_and]
  exact wpAny_pure hQ
theorem VR.butJ {J : Addr → Prop} (hJ : ∀ {a : Addr}, J a → C.z a) (k : ∀ {a : Addr} {o : Obj}, ¬ J a → h.get? a = some o → h'.get? a = some o) {x : AV} {v : Value} (q : VR C μ h x v) : VR C μ h' x v :=
  VR.mapZ (z := C.z) List.prefix_rfl (fun e nz _ => k (fun j => nz (hJ j)) e) (fun _ nz => nz) q
theorem VRs.butJ {J : Addr → Prop} (hJ : ∀ {a : Addr}, J a → C.z a) (k : ∀ {a : Addr} {o : Obj}, ¬ J a → h.get? a = some o → h'.get? a = some o) {x : List AV} {v : List Value} (q : VRs C μ h x v) : VRs C μ h' x v :=
  VRs.mapZ (z := C.z) List.prefix_rfl (fun e nz _ => k (fun j => nz (hJ j)) e) (fun _ nz => nz) q
theorem VRs.dropCons {xs l : List AV} {v : AV} {i : Nat} (e : xs.drop i = v :: l) : xs[i]? = some v ∧ xs.drop (i + 1) = l := by
  have h1 : xs[i]? = some v := by
    have : (xs.drop i)[0]? = some v := by rw [e]; rfl
    simpa using this
  refine ⟨h1, ?_⟩
  have : (xs.drop i).drop 1 = l := by rw [e]; rfl
  simpa [List.drop_drop, Nat.add_comm] using this
theorem I0.list (hq : base.q = false) {I a : Addr} {r : Nat} {xs : List AV} (hne : a ≠ I) : I0 C base (.ref I) (· = I) [(r, xs)] true
    (fun l μ h => ∃ i, h.IsListIter I a i ∧ μ[r]? = some a ∧ xs.drop i = l ∧ i ≤ xs.length) (fun l _ μ h => ∃ i, h.IsListIter I a i ∧ μ[r]? = some a ∧ xs.drop i = l ∧ i ≤ xs.length) where
  frame := fun {μ μ' h h' l} R p st => by
    refine bC fun hno => ?_
    obtain ⟨i, ⟨o, ho, hc, hd⟩, ea, e, hi⟩ := R
    refine hno ?_
    exact ⟨i, ⟨o, st ho (.inr ⟨_, hd⟩), hc, hd⟩, Bq p ea, e, hi⟩
  off := fun {env b Γ ρ μ H s l} S R {a'} j => by
    refine bC fun hno => ?_
    subst j
    obtain ⟨i, ⟨o, ho, hc, hd⟩, _⟩ := R
    refine hno ?_
    exact B9 S.hp S.er ho hd
  live := fun {μ h l} R {a'} j => by subst j; obtain ⟨i, ⟨o, ho, _⟩, _⟩ := R; exact ⟨o, ho⟩
  self := fun {μ s l A E Q} R k => by obtain ⟨i, hit, _⟩ := R; exact wpAny_pyIter_listiter hit k
  liveM := fun {μ h l u} R {a'} j => by subst j; obtain ⟨i, ⟨o, ho, _⟩, _⟩ := R; exact ⟨o, ho⟩
  item := fun {env b Γ ρ μ H s A E Q v l n} S a' hJ hw R k => by
    refine bC fun hno => ?_
    obtain ⟨i, hit, ea, e, hi⟩ := R
    have eH := hw _ (List.mem_singleton.mpr rfl)
    obtain ⟨_, a2, vs, ea2, p, q⟩ := S.hp.list eH
    rw [ea] at ea2; cases ea2
    obtain ⟨ex, el⟩ := VRs.dropCons e
    obtain ⟨u, eu, vu⟩ := q.get ex
    refine hno ?_
    refine wpAny_pyNext_list_item hit (IsList.of_plain p) (by simpa using eu) fun h' hit' hs => ?_
    have kk : ∀ {a : Addr} {o : Obj}, ¬ (a = I) → s.heap.get? a = some o → h'.get? a = some o := fun n e => (hs.2 _ n).trans e
    exact k u h' s.toks kk (vu.butJ hJ kk) ⟨i + 1, hit', ea, el, (List.getElem?_eq_some_iff.mp ex).1⟩
  plain := fun _ {μ h l u} R => R
  own := fun {μ s l a' A E Q elts x1 pos} R k => by
    refine bC fun hno => ?_
    obtain ⟨i, ⟨o, ho, hc, hd⟩, r⟩ := R
    refine hno ?_
    exact Nt ho hc hd (by decide) (k s.heap (fun _ e => e) ⟨i, ⟨o, ho, hc, hd⟩, r⟩)
  done := fun {env b Γ ρ μ H s A E Q n} S a' hJ hw R k => by
    refine bC fun hno => ?_
    obtain ⟨i, hit, ea, e, hi⟩ := R
    have eH := hw _ (List.mem_singleton.mpr rfl)
    obtain ⟨_, a2, vs, ea2, p, q⟩ := S.hp.list eH
    rw [ea] at ea2; cases ea2
    have hlen : i = xs.length := by
      have := congrArg List.length e
      simp at this; exact Nat.le_antisymm hi (Nat.le_of_sub_eq_zero this)
    refine hno ?_
    refine wpAny_pyNext_list_end (a'.handled hq) hit (IsList.of_plain p) (by simp [← q.length, hlen]) fun h' he => ?_
    exact k h' s.toks fun n e => he _ _ n e
theorem Jg {a c : Int} (h : c ≤ a) : B1 a c = [] := by unfold B1; rw [show (c - a).toNat = 0 by exact Int.toNat_eq_zero.mpr (Int.sub_nonpos_of_le h)]; rfl
theorem I0.range (hq : base.q = false) {I : Addr} : I0 C base (.ref I) (· = I) [] true
    (fun l μ h => ∃ x left, IsRangeIter h I x left 1 ∧ B1 x (x + left) = l) (fun l _ μ h => ∃ x left, IsRangeIter h I x left 1 ∧ B1 x (x + left) = l) where
  frame := fun {μ μ' h h' l} R p st => by
    refine bC fun hno => ?_
    obtain ⟨x, left, ho, e⟩ := R
    refine hno ?_
    exact ⟨x, left, st ho (.inr ⟨_, rfl⟩), e⟩
  off := fun {env b Γ ρ μ H s l} S R {a'} j => by
    refine bC fun hno => ?_
    subst j
    obtain ⟨x, left, ho, e⟩ := R
    refine hno ?_
    exact B9 S.hp S.er ho rfl
  live := fun {μ h l} R {a'} j => by subst j; obtain ⟨x, left, ho, _⟩ := R; exact ⟨_, ho⟩
  self := fun {μ s l A E Q} R k => by obtain ⟨x, left, hit, _⟩ := R; exact wpAny_pyIter_rangeiter hit k
  liveM := fun {μ h l u} R {a'} j => by subst j; obtain ⟨x, left, ho, _⟩ := R; exact ⟨_, ho⟩
  item := fun {env b Γ ρ μ H s A E Q v l n} S a' hJ hw R k => by
    refine bC fun hno => ?_
    obtain ⟨x, left, ho, e⟩ := R
    have hlt : 0 < left := by
      rcases Int.lt_or_le 0 left with h | h
      · exact h
      · rw [Jg (by (first | lia | omega))] at e; cases e
    rw [Hu (by exact Int.lt_add_of_pos_right _ hlt)] at e
    cases e
    refine hno ?_
    refine wpAny_pyNext_range_item ho hlt fun h' hit' hs => ?_
    have kk : ∀ {a : Addr} {o : Obj}, ¬ (a = I) → s.heap.get? a = some o → h'.get? a = some o := fun n e => (hs.2 _ n).trans e
    refine k _ h' _ kk (.int _ _) ⟨x + 1, left - 1, hit', ?_⟩
    rw [show x + 1 + (left - 1) = x + left by (first | lia | omega)]
  plain := fun _ {μ h l u} R => R
  own := fun {μ s l a' A E Q elts x1 pos} R k => by
    refine bC fun hno => ?_
    obtain ⟨x, left, ho, e⟩ := R
    refine hno ?_
    exact Nt ho rfl rfl (by decide) (k s.heap (fun _ e => e) ⟨x, left, ho, e⟩)
  done := fun {env b Γ ρ μ H s A E Q n} S a' hJ hw R k => by
    refine bC fun hno => ?_
    obtain ⟨x, left, ho, e⟩ := R
    have hge : left ≤ 0 := by
      rcases Int.lt_or_le 0 left with h | h
      · rw [Hu (by exact Int.lt_add_of_pos_right _ h)] at e; cases e
      · exact h
    refine hno ?_
    refine wpAny_pyNext_range_end (a'.handled hq) ho hge fun h' he => ?_
    exact k h' s.toks fun n e => he _ _ n e
end
end Mine
namespace Mine
open PySem PySem.Calls PyProof.Rows PySem.SeqAt
section
variable (C : Cx) (T : Tab) (n b : Nat) (Γ : List Str) (S : Scope)
structure Gx (nm : Bool) (e : Expr) (d : A8 → A0 → Res (List AV × List (Nat × List AV))) : Prop where
  ok : ∀ {base : Bs} {env : Env} {ρ : A8} {μ : List Addr} {H H' : A0} {s : Shared} {A : Around} {E : Value → Shared → Prop} {Q : Value → Shared → Prop} {p : List AV × List (Nat × List AV)},
    Gnd C T base → env.scope = S → St C base b env Γ ρ μ H s → AOk base A n → d ρ H = .ok p H' →
    (∀ (it : Value) (s' : Shared) (μ' : List Addr) (J : Addr → Prop) (R : List AV → List Addr → Heap → Prop) (M : List AV → Value → List Addr → Heap → Prop), Ext env μ μ' s.heap s'.heap → (∀ {a : Addr}, J a → s.heap.get? a = none) →
      (∀ {a : Addr}, J a → base.get? a = none) → St (C.plus J) base b env Γ ρ μ' H' s' → I0 (C.plus J) base it J p.2 nm R M → R p.1 μ' s'.heap → (∀ w ∈ p.2, H'[w.1]? = some (.list w.2)) → Q it s') →
    wpAny (model C.prog C.w) A (eval e env) (fun x s₁ => wpAny (model C.prog C.w) A (pyIter x) Q E s₁) E s
end
section
variable {C : Cx} {T : Tab} {n b : Nat} {Γ : List Str} {S : Scope} {nm : Bool}
variable {base : Bs} {env : Env} {ρ : A8} {μ : List Addr} {H H' : A0} {s : Shared} {A : Around} {E : Value → Shared → Prop} {Q : Value → Shared → Prop}
theorem Sd (S : St C base b env Γ ρ μ H s) {a : Addr} (h : s.heap.get? a = none) : ¬ Own μ env a := by
  rintro (q | q | ⟨x, q⟩)
  · obtain ⟨o, e⟩ := S.hp.live q; rw [h] at e; cases e
  · subst q; obtain ⟨m, ⟨o, _, _, ho, _⟩, _⟩ := S.er.ns; rw [h] at ho; cases ho
  · obtain ⟨_, o, ho, _⟩ := S.er.cell q; rw [h] at ho; cases ho
theorem St.shut (S : St C base b env Γ ρ μ H s) (o : Obj) (hf : o.isFreed = false) : St (C.plus (· = s.heap.objs.size)) base b env Γ ρ μ H { s with heap := s.heap.push o } := by
  refine S.mapZ (· = s.heap.objs.size) (s' := { s with heap := s.heap.push o }) (fun _ e => Heap.get?_push_of_some _ e) (fun j => ?_) (fun j => ?_) (fun j => .inr ?_) (fun {a o'} e nz => ?_) (fun {a} z => ?_) rfl rfl
  · subst j; exact Sd S (Aw _)
  · subst j; exact Bl S (Aw _)
  · subst j; exact Aw _
  · rintro (q | q)
    · exact nz q
    · subst q; rw [Aw] at e; cases e
  · rcases z with q | q
    · obtain ⟨o', e⟩ := S.zl q; exact ⟨o', Heap.get?_push_of_some _ e⟩
    · subst q; exact ⟨o, Heap.get?_push_size _ hf⟩
theorem Gx.of (hq : T.q = false) {e : Expr} {d : A8 → A0 → Res (List AV × List (Nat × List AV))} {d1 : A8 → A0 → Res AV} (h : Al C T n b Γ S e d1)
    (hd : ∀ ρ H, d ρ H = (d1 ρ H).get fun v H => (match v with
      | .ref r => (match H[r]? with | some (.list xs) => .ok (xs, [(r, xs)]) H | _ => .bad)
      | _ => .bad)) : Gx C T n b Γ S true e d := by
  refine ⟨?_⟩
  intro base env ρ μ H H' s A E Q p G hS st a ed k
  rw [hd] at ed
  obtain ⟨x, H1, e1, ed⟩ := Res.get_ok ed
  refine h.ok G hS st a e1 fun u s' μ' X S' V => ?_
  split at ed
  · split at ed
    · rename_i r _ xs ex; cases ed
      obtain ⟨c, rfl, ec⟩ := V.isRef
      obtain ⟨_, a', vs, ea', p1, q1⟩ := S'.hp.list ex
      rw [ec] at ea'; cases ea'
      have hlt : c ≠ s'.heap.objs.size := fun e => by obtain ⟨_, ho⟩ := p1; rw [e, Aw] at ho; cases ho
      refine wpAny_pyIter_list (IsList.of_plain p1) ?_
      refine k _ _ μ' (· = s'.heap.objs.size) _ _ (X.trans (Ext.push _)) (fun j => ?_) (fun j => ?_) (S'.shut _ rfl) (I0.list (G.q.trans hq) (r := r) (xs := xs) hlt) ⟨0, ⟨_, Heap.get?_push_size _ rfl, rfl, rfl⟩, ec, rfl, Nat.zero_le _⟩ ?_
      · subst j
        cases e : s.heap.get? s'.heap.objs.size with
        | none => rfl
        | some o => obtain ⟨o', e', _⟩ := X.live.go e; rw [Aw] at e'; cases e'
      · subst j; exact Bl S' (Aw _)
      · intro w hw; simp at hw; subst hw; exact ex
    · cases ed
  · cases ed
theorem Un {i : Int} (h : inR i = true) : -1000 ≤ i ∧ i ≤ 1000 := of_decide_eq_true h
theorem Up (hq : base.q = false) {r : Addr} {x y : Int} {t u v : Tok} {ws : List (Nat × List AV)} {s0 : Shared} {μ0 : List Addr} (st : St C base b env Γ ρ μ H s) (hr : IsRange s.heap r x y 1 t u v) (hx : inR x = true) (hy : inR y = true) (X : Ext env μ0 μ s0.heap s.heap)
    (k : ∀ (it : Value) (s' : Shared) (μ' : List Addr) (J : Addr → Prop) (R : List AV → List Addr → Heap → Prop) (M : List AV → Value → List Addr → Heap → Prop), Ext env μ0 μ' s0.heap s'.heap → (∀ {a : Addr}, J a → s0.heap.get? a = none) →
      (∀ {a : Addr}, J a → base.get? a = none) → St (C.plus J) base b env Γ ρ μ' H s' → I0 (C.plus J) base it J [] true R M → R (B1 x y) μ' s'.heap → (∀ w ∈ ([] : List (Nat × List AV)), H[w.1]? = some (.list w.2)) → Q it s') :
    wpAny (model C.prog C.w) A (pyIter (.ref r)) Q E s := by
  have hx' := Un hx
  have hy' := Un hy
  refine wpAny_pyIter_range hr (small_one (Int.le_trans (by decide) hx'.1) (Int.lt_of_le_of_lt hx'.2 (by decide)) (Int.le_trans (by decide) hy'.1) (Int.lt_of_le_of_lt hy'.2 (by decide))) ?_
  refine k _ _ μ (· = s.heap.objs.size) _ _ (X.trans (Ext.push _)) (fun j => ?_) (fun j => ?_) (st.shut _ rfl) (I0.range hq) ⟨x, Builtin.Range.rangeSize x y 1, Heap.get?_push_size _ rfl, ?_⟩ (by simp)
  · subst j
    cases e : s0.heap.get? s.heap.objs.size with
    | none => rfl
    | some o => obtain ⟨o', e', _⟩ := X.live.go e; rw [Aw] at e'; cases e'
  · subst j; exact Bl st (Aw _)
  · rw [rangeSize_one]
    split
    · rw [show x + (y - x) = y by exact (Int.add_comm _ _).trans (Int.sub_add_cancel _ _)]
    · rw [Jg (by exact A9j (Int.add_zero _) (Int.le_refl _)), Jg (by exact Aby (by assumption))]
theorem Gx.range1 (hq : T.q = false) {f : Str} {e : Expr} {np pos : Pos} {d : A8 → A0 → Res (List AV × List (Nat × List AV))} {d1 : A8 → A0 → Res AV} (hf : Cr.lookup f = some (.type "range")) (hg : Ao S f = true) (hn : Aq e = true) (h : Al C T n b Γ S e d1)
    (hd : ∀ ρ H, d ρ H = (d1 ρ H).get fun v H => (match v with | .int k => if inR k then .ok (B1 0 k, []) H else .bad | _ => .bad)) : Gx C T n b Γ S true (.Call (.Name f np) [e] [] pos) d := by
  refine ⟨?_⟩
  intro base env ρ μ H H' s A E Q p G hS st a ed k
  rw [hd] at ed
  obtain ⟨x, H1, e1, ed⟩ := Res.get_ok ed
  split at ed
  · rename_i j _
    split at ed
    · rename_i hr; cases ed
      refine wpAny_Call_ofName (Bm G hS st hg hf ?_)
      refine PySem.callWith_type (Cz (by simp only [List.all_cons, hn]; rfl)) (Ch hn (wpAny_items_cons (h.ok G hS st a e1 fun u s' μ' X S' V => wpAny_items_nil ?_) (Ar hn)))
      obtain ⟨t, rfl⟩ := V.isInt
      refine call_range_1 ?_
      exact Up (G.q.trans hq) (ws := []) ((S'.tok (s'.toks + 1 + 1)).push _) (IsRange.new _ _ _ _ _ _ _) (by decide) hr (X.trans (Ext.push _)) fun it s'' μ'' J R M X2 h1 h2 h3 h4 h5 h6 => k it s'' μ'' J R M X2 h1 h2 h3 h4 h5 h6
    · cases ed
  · cases ed
theorem Gx.range2 (hq : T.q = false) {f : Str} {e1 e2 : Expr} {np pos : Pos} {d : A8 → A0 → Res (List AV × List (Nat × List AV))} {d1 d2 : A8 → A0 → Res AV} (hf : Cr.lookup f = some (.type "range")) (hg : Ao S f = true) (hn1 : Aq e1 = true) (hn2 : Aq e2 = true)
    (h1 : Al C T n b Γ S e1 d1) (h2 : Al C T n b Γ S e2 d2)
    (hd : ∀ ρ H, d ρ H = (d1 ρ H).get fun v H => (d2 ρ H).get fun w H => (match v, w with | .int j, .int k => if inR j ∧ inR k then .ok (B1 j k, []) H else .bad | _, _ => .bad)) : Gx C T n b Γ S true (.Call (.Name f np) [e1, e2] [] pos) d := by
  refine ⟨?_⟩
  intro base env ρ μ H H' s A E Q p G hS st a ed k
  refine bC fun hno => ?_
  rw [hd] at ed
  obtain ⟨x, H1, ex, ed⟩ := Res.get_ok ed
  obtain ⟨y, H2, ey, ed⟩ := Res.get_ok ed
  refine hno ?_
  split at ed
  · rename_i i j
    split at ed
    · rename_i hr; cases ed
      refine wpAny_Call_ofName (Bm G hS st hg hf ?_)
      refine PySem.callWith_type (Cz (by simp only [List.all_cons, hn1, hn2]; rfl)) (Ch hn1 (wpAny_items_cons (h1.ok G hS st a ex fun u s1 μ1 X1 S1 V1 =>
        wpAny_items_cons (h2.ok G hS S1 a ey fun w s' μ' X S' V => wpAny_items_nil ?_) (Ar hn2)) (Ar hn1)))
      obtain ⟨t, rfl⟩ := V1.isInt
      obtain ⟨t', rfl⟩ := V.isInt
      refine call_range_2 ?_
      exact Up (G.q.trans hq) (ws := []) ((S'.tok (s'.toks + 1)).push _) (IsRange.new _ _ _ _ _ _ _) hr.1 hr.2 ((X1.trans X).trans (Ext.push _)) fun it s'' μ'' J R M X2 h1 h2 h3 h4 h5 h6 => k it s'' μ'' J R M X2 h1 h2 h3 h4 h5 h6
    · cases ed
  · cases ed
end
end Mine
namespace Mine
open PySem PySem.Calls PyProof.Rows PySem.SeqAt
theorem Tv : ∀ {xs ys : List AV} {k : Nat} {v : AV}, (Fz xs ys)[k]? = some v → ∃ x y, v = .tup [x, y] ∧ xs[k]? = some x ∧ ys[k]? = some y
  | [], _, k, v, e => by simp [Fz] at e
  | _ :: _, [], k, v, e => by simp [Fz] at e
  | x :: xs, y :: ys, 0, v, e => by simp [Fz] at e; exact ⟨x, y, e.symm, rfl, rfl⟩
  | x :: xs, y :: ys, k + 1, v, e => by simp [Fz] at e; obtain ⟨a, b, h1, h2, h3⟩ := Tv e; exact ⟨a, b, h1, by simpa using h2, by simpa using h3⟩
theorem Mo : ∀ {xs ys : List AV}, (Fz xs ys).length = min xs.length ys.length
  | [], ys => by simp [Fz]
  | _ :: _, [] => by simp [Fz]
  | x :: xs, y :: ys => by simp only [Fz, List.length_cons, Mo]; exact (Nat.add_min_add_right _ _ _).symm
section
variable {C : Cx} {μ μ' : List Addr} {h h' : Heap} {base : Bs} {env : Env} {Γ : List Str} {ρ : A8} {H H' : A0} {b : Nat} {s s' : Shared}
theorem Gf {T : Addr} {a b : Value} (p : IsPair h T a b) : h.IsTuple T #[a, b] := ⟨_, p, rfl, 0, rfl⟩
inductive ZR (z TI TO i1 i2 l1 l2 : Addr) (r q : Nat) (xs ys : List AV) (f : Value) (l : List AV) (μ : List Addr) (h : Heap) : Prop
  | mk (k : Nat) (a b : Value) (hz : IsZip h z TI TO f) (hTI : IsPair h TI (.ref i1) (.ref i2)) (hTO : IsPair h TO a b) (h1 : h.IsListIter i1 l1 k) (h2 : h.IsListIter i2 l2 k) (e1 : μ[r]? = some l1) (e2 : μ[q]? = some l2)
    (el : (Fz xs ys).drop k = l) (hk : k ≤ (Fz xs ys).length) : ZR z TI TO i1 i2 l1 l2 r q xs ys f l μ h
inductive ZM (z TI TO i1 i2 l1 l2 : Addr) (r q : Nat) (xs ys : List AV) (l : List AV) (u : Value) (μ : List Addr) (h : Heap) : Prop
  | mk (T : Addr) (eu : u = .ref T) (R : ZR z TI TO i1 i2 l1 l2 r q xs ys (rawInt T) l μ h) : ZM z TI TO i1 i2 l1 l2 r q xs ys l u μ h
noncomputable def ZJ (z TO i1 i2 : Addr) (a : Addr) : Prop := a = z ∨ a = TO ∨ a = i1 ∨ a = i2
theorem ZR.live {z TI TO i1 i2 l1 l2 : Addr} {r q : Nat} {xs ys l : List AV} {f : Value} (R : ZR z TI TO i1 i2 l1 l2 r q xs ys f l μ h) {a : Addr} (j : ZJ z TO i1 i2 a) : ∃ o, h.get? a = some o := by
  refine bC fun hno => ?_
  obtain ⟨k, x, y, hz, hTI, hTO, ⟨o1, h1, _⟩, ⟨o2, h2, _⟩, _⟩ := R
  refine hno ?_
  rcases j with rfl | rfl | rfl | rfl
  · exact ⟨_, hz⟩
  · exact ⟨_, hTO⟩
  · exact ⟨_, h1⟩
  · exact ⟨_, h2⟩
theorem I0.zip (hq : base.q = false) {z TI TO i1 i2 l1 l2 : Addr} {r q : Nat} {xs ys : List AV} (D : ZipApart z TI TO i1 i2 l1 l2) : I0 C base (.ref z) (ZJ z TO i1 i2) [(r, xs), (q, ys)] false
    (ZR z TI TO i1 i2 l1 l2 r q xs ys .none) (ZM z TI TO i1 i2 l1 l2 r q xs ys) where
  frame := fun {μ μ' h h' l} R p st => by
    refine bC fun hno => ?_
    obtain ⟨k, x, y, hz, hTI, hTO, ⟨o1, h1, c1, d1⟩, ⟨o2, h2, c2, d2⟩, e1, e2, el, hk⟩ := R
    refine hno ?_
    exact ⟨k, x, y, st hz (.inr ⟨_, rfl⟩), st hTI (.inl ⟨_, Gf hTI⟩), st hTO (.inl ⟨_, Gf hTO⟩), ⟨o1, st h1 (.inr ⟨_, d1⟩), c1, d1⟩, ⟨o2, st h2 (.inr ⟨_, d2⟩), c2, d2⟩, Bq p e1, Bq p e2, el, hk⟩
  off := fun {env b Γ ρ μ H s l} S R {a'} j => by
    refine bC fun hno => ?_
    obtain ⟨k, x, y, hz, hTI, hTO, ⟨o1, h1, c1, d1⟩, ⟨o2, h2, c2, d2⟩, _⟩ := R
    refine hno ?_
    rcases j with rfl | rfl | rfl | rfl
    · exact B9 S.hp S.er hz rfl
    · exact Co S.hp S.er (Gf hTO)
    · exact B9 S.hp S.er h1 d1
    · exact B9 S.hp S.er h2 d2
  live := fun {μ h l} R {a'} j => R.live j
  self := fun {μ s l A E Q} R k => by obtain ⟨_, _, _, hz, _⟩ := R; exact wpAny_pyIter_zip hz k
  liveM := fun {μ h l u} R {a'} j => by obtain ⟨T, _, R⟩ := R; exact R.live j
  item := fun {env b Γ ρ μ H s A E Q v l n} S a' hJ hw R k => by
    refine bC fun hno => ?_
    obtain ⟨i, x, y, hz, hTI, hTO, h1, h2, e1, e2, el, hi⟩ := R
    have eH1 := hw (r, xs) (by simp)
    have eH2 := hw (q, ys) (by simp)
    obtain ⟨_, a1, vs1, ea1, p1, q1⟩ := S.hp.list eH1
    obtain ⟨_, a2, vs2, ea2, p2, q2⟩ := S.hp.list eH2
    have ea1 : μ[r]? = some a1 := ea1
    have ea2 : μ[q]? = some a2 := ea2
    rw [e1] at ea1; cases ea1
    rw [e2] at ea2; cases ea2
    obtain ⟨ex, el'⟩ := VRs.dropCons el
    obtain ⟨xa, ya, rfl, g1, g2⟩ := Tv ex
    obtain ⟨u1, eu1, vu1⟩ := q1.get g1
    obtain ⟨u2, eu2, vu2⟩ := q2.get g2
    refine hno ?_
    refine wpAny_pyNext_zip_item D hz hTI hTO h1 h2 (IsList.of_plain p1) (IsList.of_plain p2) (by simpa using eu1) (by simpa using eu2) fun h' hz' hTO' h1' h2' hT hsz hk => ?_
    have kk : ∀ {a : Addr} {o : Obj}, ¬ ZJ z TO i1 i2 a → s.heap.get? a = some o → h'.get? a = some o := fun {a o} n e => hk a o (fun q => n (.inl q)) (fun q => n (.inr (.inl q))) (fun q => n (.inr (.inr (.inl q)))) (fun q => n (.inr (.inr (.inr q)))) e
    have nTI : ¬ ZJ z TO i1 i2 TI := by rintro (e | e | e | e); exact D.TIz e; exact D.TITO e; exact D.TIi1 e; exact D.TIi2 e
    exact k _ h' s.toks kk (.tup (items := [u1, u2]) (Gf hT) (S.notZ (Aw _)) (by show 2 ≤ lim; decide) (.cons (vu1.butJ hJ kk) (.cons (vu2.butJ hJ kk) .nil)))
      ⟨_, rfl, i + 1, u1, u2, hz', kk nTI hTI, hTO', h1', h2', e1, e2, el', (List.getElem?_eq_some_iff.mp ex).1⟩
  plain := fun e => by cases e
  own := fun {μ s l a' A E Q elts x1 pos} R k => by
    refine bC fun hno => ?_
    obtain ⟨T, eu, i, x, y, hz, hTI, hTO, ⟨o1, h1, c1, d1⟩, ⟨o2, h2, c2, d2⟩, e1, e2, el, hi⟩ := R
    cases eu
    refine hno ?_
    refine wpAny_letOwnedTupleGo_zip hz fun h' hz' hs' => k h' (fun nj e => (hs'.2 _ fun e' => nj (.inl e')).trans e) ?_
    exact ⟨i, x, y, hz', (hs'.2 _ D.TIz).trans hTI, (hs'.2 _ D.TOz).trans hTO, ⟨o1, (hs'.2 _ D.i1z).trans h1, c1, d1⟩, ⟨o2, (hs'.2 _ D.i2z).trans h2, c2, d2⟩, e1, e2, el, hi⟩
  done := fun {env b Γ ρ μ H s A E Q n} S a' hJ hw R k => by
    refine bC fun hno => ?_
    obtain ⟨i, x, y, hz, hTI, hTO, h1, h2, e1, e2, el, hi⟩ := R
    have eH1 := hw (r, xs) (by simp)
    have eH2 := hw (q, ys) (by simp)
    obtain ⟨_, a1, vs1, ea1, p1, q1⟩ := S.hp.list eH1
    obtain ⟨_, a2, vs2, ea2, p2, q2⟩ := S.hp.list eH2
    have ea1 : μ[r]? = some a1 := ea1
    have ea2 : μ[q]? = some a2 := ea2
    rw [e1] at ea1; cases ea1
    rw [e2] at ea2; cases ea2
    have hlen : i = min xs.length ys.length := by
      have := congrArg List.length el
      rw [List.length_drop, List.length_nil, Mo] at this
      rw [Mo] at hi
      exact Nat.le_antisymm hi (Nat.le_of_sub_eq_zero this)
    refine hno ?_
    refine wpAny_pyNext_zip_end (a'.handled hq) D hz hTI hTO h1 h2 (IsList.of_plain p1) (IsList.of_plain p2) ?_ fun h' hk => ?_
    · by_cases hm : xs.length ≤ ys.length
      · left; simp [← q1.length]; exact Nat.le_of_eq ((Nat.min_eq_left hm).symm.trans hlen.symm)
      · right; simp [← q2.length]; exact Nat.le_of_eq ((Nat.min_eq_right (Nat.le_of_lt (oGt hm))).symm.trans hlen.symm)
    · exact k h' s.toks fun {a o} n e => hk a o (fun q => n (.inl q)) (fun q => n (.inr (.inl q))) (fun q => n (.inr (.inr (.inl q)))) (fun q => n (.inr (.inr (.inr q)))) e
end
end Mine
namespace Mine
open PySem PySem.Calls PyProof.Rows PySem.SeqAt
theorem Zs {n c1 c2 : Nat} (h1 : c1 < n) (h2 : c2 < n) : ZipApart (n + 4) (n + 2) (n + 3) n (n + 1) c1 c2 := by
  have k : ∀ {a b : Nat}, (a < b ∨ b < a) → a ≠ b := fun h e => by exact h.elim (fun q => Nat.ne_of_lt q e) fun q => Nat.ne_of_gt q e
  constructor <;> exact k (by first | exact .inl h1 | exact .inl h2 | exact .inl (Nat.lt_of_lt_of_le h1 (Nat.le_add_right _ _)) | exact .inl (Nat.lt_of_lt_of_le h2 (Nat.le_add_right _ _)) | exact .inl (Nat.lt_add_of_pos_right (by decide)) | exact .inr (Nat.lt_add_of_pos_right (by decide)) | exact .inl (Nat.add_lt_add_left (by decide) n) | exact .inr (Nat.add_lt_add_left (by decide) n))
section
variable {C : Cx} {T : Tab} {n b : Nat} {Γ : List Str} {S : Scope} {nm : Bool}
theorem Gx.zip (hq : T.q = false) {f : Str} {e1 e2 : Expr} {np pos : Pos} {d : A8 → A0 → Res (List AV × List (Nat × List AV))} {d1 d2 : A8 → A0 → Res AV} (hf : Cr.lookup f = some (.type "zip")) (hg : Ao S f = true) (hn1 : Aq e1 = true) (hn2 : Aq e2 = true)
    (h1 : Al C T n b Γ S e1 d1) (h2 : Al C T n b Γ S e2 d2)
    (hd : ∀ ρ H, d ρ H = (d1 ρ H).get fun v H => (d2 ρ H).get fun w H => (match v, w with
      | .ref r, .ref q => (match H[r]?, H[q]? with
        | some (.list xs), some (.list ys) => .ok (Fz xs ys, [(r, xs), (q, ys)]) H
        | _, _ => .bad)
      | _, _ => .bad)) : Gx C T n b Γ S false (.Call (.Name f np) [e1, e2] [] pos) d := by
  refine ⟨?_⟩
  intro base env ρ μ H H' s A E Q p G hS st a ed k
  refine bC fun hno => ?_
  rw [hd] at ed
  obtain ⟨x, H1, ex, ed⟩ := Res.get_ok ed
  obtain ⟨y, H2, ey, ed⟩ := Res.get_ok ed
  refine hno ?_
  cases x with
  | ref r =>
    cases y with
    | ref q =>
      have ed : (match H2[r]?, H2[q]? with | some (.list xs), some (.list ys) => Res.ok (Fz xs ys, [(r, xs), (q, ys)]) H2 | _, _ => .bad) = .ok p H' := ed
      split at ed
      · rename_i xs ys er eq
        cases ed
        refine wpAny_Call_ofName (Bm G hS st hg hf ?_)
        refine PySem.callWith_type (Cz (by simp only [List.all_cons, hn1, hn2]; rfl)) (Ch hn1 (wpAny_items_cons (h1.ok G hS st a ex fun u s1 μ1 X1 S1 V1 =>
          wpAny_items_cons (h2.ok G hS S1 a ey fun w s' μ' X S' V => wpAny_items_nil ?_) (Ar hn2)) (Ar hn1)))
        refine bC fun hno => ?_
        have V1' := V1.mono S1.hp S1.er X
        obtain ⟨c1, rfl, ec1⟩ := V1'.isRef
        obtain ⟨c2, rfl, ec2⟩ := V.isRef
        obtain ⟨_, a1, vs1, ea1, p1, q1⟩ := S'.hp.list er
        obtain ⟨_, a2, vs2, ea2, p2, q2⟩ := S'.hp.list eq
        rw [ec1] at ea1; cases ea1
        rw [ec2] at ea2; cases ea2
        have lt1 : c1 < s'.heap.objs.size := by obtain ⟨_, e⟩ := p1; exact Heap.lt_size e
        have lt2 : c2 < s'.heap.objs.size := by obtain ⟨_, e⟩ := p2; exact Heap.lt_size e
        refine hno ?_
        refine call_zip_2 (IsList.of_plain p1) (IsList.of_plain p2) fun h' hz hTI hTO hi1 hi2 hsz hk => ?_
        have kk : ∀ {a : Addr} {o : Obj}, s'.heap.get? a = some o → h'.get? a = some o := fun {a o} e => hk a o e
        have D : ZipApart (s'.heap.objs.size + 4) (s'.heap.objs.size + 2) (s'.heap.objs.size + 3) s'.heap.objs.size (s'.heap.objs.size + 1) c1 c2 := Zs lt1 lt2
        have Rz : ZR (s'.heap.objs.size + 4) (s'.heap.objs.size + 2) (s'.heap.objs.size + 3) s'.heap.objs.size (s'.heap.objs.size + 1) c1 c2 r q xs ys .none (Fz xs ys) μ' h' := ⟨0, _, _, hz, hTI, hTO, hi1, hi2, ec1, ec2, rfl, Nat.zero_le _⟩
        have hge : ∀ {c : Addr}, ZJ (s'.heap.objs.size + 4) (s'.heap.objs.size + 3) s'.heap.objs.size (s'.heap.objs.size + 1) c → s'.heap.get? c = none := fun {c} j => Db (by
          rcases j with e | e | e | e <;> (subst e; first | exact Nat.le_add_right _ _ | exact Nat.le_refl _))
        have SZ : St (C.plus (ZJ (s'.heap.objs.size + 4) (s'.heap.objs.size + 3) s'.heap.objs.size (s'.heap.objs.size + 1))) base b env Γ ρ μ' H' { s' with heap := h' } := by
          refine S'.mapZ (fun _ => False) (s' := { s' with heap := h' }) (fun _ e => kk e) (fun j => j.elim) (fun j => j.elim) (fun j => j.elim) (fun {a o} e nz => ?_) (fun {a} z => ?_) rfl rfl
          · rintro (q | q)
            · exact nz q
            · rw [hge q] at e; cases e
          · rcases z with q | q
            · obtain ⟨o, e⟩ := S'.zl q; exact ⟨o, kk e⟩
            · exact Rz.live q
        refine wpAny_pyIter_zip hz ?_
        refine k _ _ μ' _ _ _ ((X1.trans X).trans (Ext.grow kk)) (fun j => ?_) (fun j => Bl S' (hge j)) SZ (I0.zip (G.q.trans hq) D) Rz ?_
        · rename_i a'
          cases e : s.heap.get? a' with
          | none => rfl
          | some o => obtain ⟨o', e', _⟩ := (X1.trans X).live.go e; rw [hge j] at e'; cases e'
        · intro w hw
          rcases List.mem_cons.mp hw with e | e
          · subst e; exact er
          · rw [List.mem_singleton.mp e]; exact eq
      · cases ed
    | _ => exact Dc ed
  | _ => exact Dc ed
end
end Mine
namespace Mine
open PySem PySem.Calls PyProof.Rows PySem.SeqAt
noncomputable def Ez (C : Cx) (base : Bs) (b : Nat) (env : Env) (Γ : List Str) (μ : List Addr) (s : Shared) (r : SR) (Q : Flow → Shared → Prop) (E : Value → Shared → Prop) : Prop := match r with
  | .next ρ' H' => ∀ s' μ', Ext env μ μ' s.heap s'.heap → St C base b env Γ ρ' μ' H' s' → Q .next s'
  | .ret v H' => ∀ u s' μ', Ext env μ μ' s.heap s'.heap → St C base b env Γ [] μ' H' s' → VR C μ' s'.heap v u → Q (.ret u) s'
  | .exc c H' => J0 C base b env Γ [] μ s c H' E
  | .bad => False
section
variable (C : Cx) (T : Tab) (n b : Nat) (Γ : List Str) (S : Scope)
structure Fn (base : Bs) (env : Env) (S : Scope) : Prop where
  sc : env.scope = S
  top : A5t base env
structure SOk (st : Stmt) (d : A8 → A0 → SR) : Prop where
  ok : ∀ {base : Bs} {env : Env} {ρ : A8} {μ : List Addr} {H : A0} {s : Shared} {A : Around} {E : Value → Shared → Prop} {Q : Flow → Shared → Prop},
    Gnd C T base → Fn base env S → St C base b env Γ ρ μ H s → AOk base A n → Ez C base b env Γ μ s (d ρ H) Q E → wpAny (model C.prog C.w) A (exec st env) Q E s
structure F8 (ss : List Stmt) (d : A8 → A0 → SR) : Prop where
  ok : ∀ {base : Bs} {env : Env} {ρ : A8} {μ : List Addr} {H : A0} {s : Shared} {A : Around} {E : Value → Shared → Prop} {Q : Flow → Shared → Prop},
    Gnd C T base → Fn base env S → St C base b env Γ ρ μ H s → AOk base A n → Ez C base b env Γ μ s (d ρ H) Q E → wpAny (model C.prog C.w) A (execs ss env) Q E s
end
section
variable {C : Cx} {T : Tab} {n b : Nat} {Γ : List Str} {S : Scope} {nm : Bool}
variable {base : Bs} {env : Env} {ρ : A8} {μ μ' : List Addr} {H H' : A0} {s s' : Shared} {A : Around} {E : Value → Shared → Prop} {Q : Flow → Shared → Prop}
theorem En.forget {h : Heap} (N : En C μ h env Γ ρ) : En C μ h env Γ [] where
  kind := N.kind
  ns := let ⟨m, nm, _⟩ := N.ns; ⟨m, nm, fun _ _ e => by simp at e⟩
  cells := fun k => let ⟨c, o, e, hc, _⟩ := N.cells k; ⟨c, o, e, hc, fun _ e => by simp at e⟩
  cell := N.cell
  inj := N.inj
  globals := N.globals
  builtins := N.builtins
theorem St.forget (S : St C base b env Γ ρ μ H s) : St C base b env Γ [] μ H s := ⟨S.keep, S.hp, S.er.forget, S.fresh, S.noloc, S.lm, S.nocell, S.gens, S.os, S.zl, S.ff⟩
theorem Ez.trans {r : SR} (X : Ext env μ μ' s.heap s'.heap) (k : Ez C base b env Γ μ s r Q E) : Ez C base b env Γ μ' s' r Q E := by
  cases r with
  | next ρ' H' => exact fun s'' μ'' X' S' => k s'' μ'' (X.trans X') S'
  | ret v H' => exact fun u s'' μ'' X' S' V => k u s'' μ'' (X.trans X') S' V
  | exc c H' => exact J0.after X k
  | bad => exact k
theorem F8.nilS {d : A8 → A0 → SR} (hd : ∀ ρ H, d ρ H = .next ρ H) : F8 C T n b Γ S [] d := by
  refine ⟨?_⟩
  intro base env ρ μ H s A E Q G hS st a k
  rw [hd] at k
  exact wpAny_execs_nil (k _ _ .refl st)
theorem F8.badS {ss : List Stmt} {d : A8 → A0 → SR} (hd : ∀ ρ H, d ρ H = .bad) : F8 C T n b Γ S ss d := by
  refine ⟨?_⟩
  intro base env ρ μ H s A E Q G hS st a k
  rw [hd] at k
  exact k.elim
theorem F8.consS {st : Stmt} {ss : List Stmt} {d d1 d2 : A8 → A0 → SR} (h1 : SOk C T n b Γ S st d1) (h2 : F8 C T n b Γ S ss d2)
    (hd : ∀ ρ H, d ρ H = (match d1 ρ H with | .next ρ H => d2 ρ H | r => r)) : F8 C T n b Γ S (st :: ss) d := by
  refine ⟨?_⟩
  intro base env ρ μ H s A E Q G hS st a k
  rw [hd] at k
  refine wpAny_execs_cons (h1.ok G hS st a ?_)
  cases e : d1 ρ H with
  | next ρ' H' => rw [e] at k; exact fun s' μ' X S' => h2.ok G hS S' a (k.trans X)
  | ret v H' => rw [e] at k; exact fun u s' μ' X S' V => k u s' μ' X S' V
  | exc c H' => rw [e] at k; exact k
  | bad => rw [e] at k; exact k
theorem P6 {v t : Expr} {l : Nat} (h : Ec v = true) : swapsWith v (some t) l env = pure false := by
  cases v <;> first | rfl | cases h
theorem SOk.assignN {x : Str} {i : Nat} {v : Expr} {px pos : Pos} {d : A8 → A0 → SR} {d1 : A8 → A0 → Res AV} (hx : slot Γ x = some i) (hk : B2 S x = true) (hv : Ec v = true) (h : Al C T n b Γ S v d1)
    (hd : ∀ ρ H, d ρ H = (match d1 ρ H with | .ok v H => .next (ρ.set i (some v)) H | _ => .bad)) : SOk C T n b Γ S (.Assign [.Name x px] v pos) d := by
  refine ⟨?_⟩
  intro base env ρ μ H s A E Q G hS st a k
  rw [hd] at k
  cases e : d1 ρ H with
  | ok w H1 =>
    rw [e] at k
    refine wpAny_Assign_Name (h.ok G hS.sc st a e fun u s' μ' X S' V => ?_) (P6 hv)
    have hk' : env.kindOf x = some .local ∨ env.kindOf x = some .cell := by
      unfold B2 at hk; rw [← hS.sc] at hk
      simpa [Bd, Env.kindOf] using hk
    exact S'.bind hx hk' V fun s'' S'' X' => k s'' μ' (X.trans X') S''
  | exc c H1 => rw [e] at k; exact k.elim
  | bad => rw [e] at k; exact k.elim
theorem SOk.ite {t : Expr} {body els : List Stmt} {pos : Pos} {d d1 d2 : A8 → A0 → SR} {dt : A8 → A0 → Res Bool} (ht : Gz C T n b Γ S t dt) (h1 : F8 C T n b Γ S body d1) (h2 : F8 C T n b Γ S els d2)
    (hd : ∀ ρ H, d ρ H = (match dt ρ H with | .ok true H => d1 ρ H | .ok false H => d2 ρ H | _ => .bad)) : SOk C T n b Γ S (.If t body els pos) d := by
  refine ⟨?_⟩
  intro base env ρ μ H s A E Q G hS st a k
  rw [hd] at k
  cases e : dt ρ H with
  | ok c H1 =>
    rw [e] at k
    refine wpAny_If (ht.ok G hS.sc st a e fun s' μ' X S' => ?_)
    cases c with
    | true => simp only [if_true]; exact h1.ok G hS S' a (Ez.trans X k)
    | false => simp only [Bool.false_eq_true, if_false]; exact h2.ok G hS S' a (Ez.trans X k)
  | exc c H1 => rw [e] at k; exact k.elim
  | bad => rw [e] at k; exact k.elim
theorem SOk.ret {v : Expr} {pos : Pos} {d : A8 → A0 → SR} {d1 : A8 → A0 → Res AV} {r : Bool} (h : Al C T n b Γ S v d1) (hx : r = true → XOk C T n b Γ S v d1) (hd : ∀ ρ H, d ρ H = (match d1 ρ H with | .ok v H => .ret v H | .exc c H => Sn r c H | .bad => .bad)) : SOk C T n b Γ S (.Return (some v) pos) d := by
  refine ⟨?_⟩
  intro base env ρ μ H s A E Q G hS st a k
  rw [hd] at k
  cases e : d1 ρ H with
  | ok w H1 => rw [e] at k; exact wpAny_Return_some (h.ok G hS.sc st a e fun u s' μ' X S' V => k u s' μ' X S'.forget V)
  | exc c H1 =>
    rw [e] at k
    cases r with
    | true => exact wpAny_Return_some ((hx rfl).ok G hS.sc st a e fun u s' μ' X S' ek x => k u s' μ' X S'.forget ek x)
    | false => exact k.elim
  | bad => rw [e] at k; exact k.elim
theorem SOk.expr {v : Expr} {pos : Pos} {d : A8 → A0 → SR} {d1 : A8 → A0 → Res AV} {r : Bool} (hv : Ec v = true) (h : Al C T n b Γ S v d1) (hx : r = true → XOk C T n b Γ S v d1) (hd : ∀ ρ H, d ρ H = (match d1 ρ H with | .ok _ H => .next ρ H | .exc c H => Sn r c H | .bad => .bad)) : SOk C T n b Γ S (.Expr v pos) d := by
  refine ⟨?_⟩
  intro base env ρ μ H s A E Q G hS st a k
  rw [hd] at k
  cases e : d1 ρ H with
  | ok w H1 =>
    rw [e] at k
    refine wpAny_Expr_any (h.ok G hS.sc st a e fun u s' μ' X S' V => k s' μ' X S') ?_ ?_
    · unfold interactive; rw [st.er.kind]; rfl
    · cases v <;> first | rfl | cases hv
  | exc c H1 =>
    rw [e] at k
    cases r with
    | true =>
      refine wpAny_Expr_any ((hx rfl).ok G hS.sc st a e fun u s' μ' X S' ek x => k u s' μ' X S'.forget ek x) ?_ ?_
      · unfold interactive; rw [st.er.kind]; rfl
      · cases v <;> first | rfl | cases hv
    | false => exact k.elim
  | bad => rw [e] at k; exact k.elim
theorem SOk.whl {t : Expr} {body : List Stmt} {pos : Pos} {m : Nat} {d db : A8 → A0 → SR} {dt : A8 → A0 → Res Bool} (ht : Gz C T n b Γ S t dt) (hb : F8 C T n b Γ S body db)
    (hd : ∀ ρ H, d ρ H = Gj dt db m ρ H) : SOk C T n b Γ S (.While t body [] pos) d := by
  refine ⟨?_⟩
  intro base env ρ μ H s A E Q G hS st a k
  rw [hd] at k
  refine wpAny_While (codeAny_whileLoop (fun j s' => ∃ ρ' μ' H', St C base b env Γ ρ' μ' H' s' ∧ Ext env μ μ' s.heap s'.heap ∧ Ez C base b env Γ μ s (Gj dt db j ρ' H') Q E) ?_ m ⟨ρ, μ, H, st, .refl, k⟩)
  rintro j s1 ⟨ρ1, μ1, H1, S1, X1, k1⟩
  cases j with
  | zero => exact k1.elim
  | succ j =>
    unfold Gj at k1
    cases e : dt ρ1 H1 with
    | ok c H2 =>
      rw [e] at k1
      refine ht.ok G hS.sc S1 a e fun s2 μ2 X2 S2 => ?_
      cases c with
      | false =>
        simp only [Bool.false_eq_true, if_false]
        exact wpAny_execs_nil (k1 s2 μ2 (X1.trans X2) S2)
      | true =>
        simp only [if_true]
        refine hb.ok G hS S2 a ?_
        cases e' : db ρ1 H2 with
        | next ρ3 H3 => simp only [e'] at k1; exact fun s3 μ3 X3 S3 => ⟨j, Nat.lt_succ_self _, ρ3, μ3, H3, S3, (X1.trans X2).trans X3, k1⟩
        | ret v H3 => simp only [e'] at k1; exact fun u s3 μ3 X3 S3 V => k1 u s3 μ3 ((X1.trans X2).trans X3) S3 V
        | exc c H3 => simp only [e'] at k1; exact fun u s3 μ3 X3 S3 ek x => Xf hS.top a st S3 ((X1.trans X2).trans X3) (x.back (X1.trans X2).live) fun s4 S4 X4 x4 => k1 u s4 μ3 X4 S4 ek x4
        | bad => simp only [e'] at k1; exact k1.elim
    | exc c H2 => rw [e] at k1; exact k1.elim
    | bad => rw [e] at k1; exact k1.elim
end
end Mine
namespace Mine
open PySem PySem.Calls PyProof.Rows PySem.SeqAt
section
variable {prog : Program} {w : World} {A : Around} {E : Value → Shared → Prop} {h : Heap} {g : Array GenState} {d : Drawn} {t : Nat} {os : OsState} {a : Addr} {o : Obj}
variable {nm q : Str} {C N : Addr} {bs bm : List Value} {hdct : Bool} {sn : List Str} {sub : List Value} {ab : Bool} {col : Option Bool} {dd : Option Addr} {k0 k1 k2 k3 k5 : Option Value} {newId : String} {mN : Str → Option Value}
theorem A7w : mroOf (.type "ValueError") = pure Ei := F.attrBase_ValueError.mro
theorem A4a : typeLookup (.type "ValueError") "__class__" = pure (some (.builtin "object.__class__")) := by rw [typeLookup_type, builtinLookup_eq_fast]; kernel_rfl
theorem Ql {tl : List Value} {Q : Option Value → Shared → Prop} {M : Model} (T : E7 h tl) (hC : h.get? C = some (excClassObj nm q C N bs tl hdct sn sub ab col dd k0 k1 k2 k3 k5 newId)) (hN : h.Ns N mN) (hcl : mN "__class__" = none)
    (hq : Q (some (.builtin "object.__class__")) ⟨h, g, d, t, os⟩) : wpAny M A (typeLookup (.ref C) "__class__") Q E ⟨h, g, d, t, os⟩ := by
  have hrest : lookupAlong Ei "__class__" = pure (some (.builtin "object.__class__")) := by
    have := A4a
    rw [typeLookup_eq, A7w] at this; exact this
  rw [typeLookup_eq]
  refine wpAny_bind (wpAny_mroOf_exc hC ?_)
  rw [lookupAlong_cons]
  refine wpAny_bind (wpAny_classOwn_exc hC hN ?_)
  rw [hcl]
  cases T with
  | base => show wpAny M A (lookupAlong Ei "__class__") Q E _; rw [hrest]; exact wpAny_pure hq
  | own x e =>
    obtain ⟨N', nm', q', bs', hdct', sn', sub', ab', col', dd', k0', k1', k2', k3', k5', mN', hC', hN', hq', hcl'⟩ := x
    subst e
    show wpAny M A (lookupAlong (_ :: Ei) "__class__") Q E _
    rw [lookupAlong_cons]
    refine wpAny_bind (wpAny_classOwn_exc hC' hN' ?_)
    rw [hcl']
    show wpAny M A (lookupAlong Ei "__class__") Q E _
    rw [hrest]; exact wpAny_pure hq
theorem Pb {tl : List Value} {R : Result → Shared → Prop} (T : E7 h tl) (hC : h.get? C = some (excClassObj nm q C N bs tl hdct sn sub ab col dd k0 k1 k2 k3 k5 newId)) (hx : h.get? a = some o) (hc : o.cls = .ref C) (hq : R (.ok (.ret (.ref C))) ⟨h, g, d, t, os⟩) :
    codeAny (model prog w) A (.call (.builtin "getset_descriptor.__get__") ⟨[.builtin "object.__class__", .ref a, .ref C], []⟩) R ⟨h, g, d, t, os⟩ := by
  have hT5 : (⟨h, g, d, t, os⟩ : Shared).TypeIs (.builtin "object.__class__") "getset_descriptor" := F.typeOf_object_class
  have hob : Ei.contains (.type "object") = true := by unfold Ei; decide +kernel
  have hcB : (Value.ref C :: tl).contains (.type (".".intercalate ("object.__class__".cutAt '.').dropLast)) = true := by
    rw [F.owner_object_class, List.contains_cons, T.tailQ.tail.hasType hob]; rfl
  refine codeAny_call_builtin F.slot_gs_get.plain F.entry_gs_get (F.slot_gs_get.check _ _ _ _ _ _ _ _ hT5 (F.args_gs_get _ _ _) ?_)
  repeat (any_goals (first | assumption | (with_reducible refine wpAny_loadPart_at hx ?_; rw [hc]) | (with_reducible refine wpAny_isSubtype_exc hC ?_; rw [hcB]) | wp_step))
  refine ⟨Code.quiet_builtin _ (by decide +kernel), codeAny_builtin F.entry_object_class ?_⟩
  repeat (any_goals (first | assumption | (with_reducible refine wpAny_loadPart_at hx ?_; rw [hc]) | wp_step))
theorem Lx {tl : List Value} {tk : Tok} {Q : Fin → Shared → Prop} (T : E7 h tl) (hC : h.get? C = some (excClassObj nm q C N bs tl hdct sn sub ab col dd k0 k1 k2 k3 k5 newId)) (hN : h.Ns N mN) (hcl : mN "__class__" = none)
    (hx : h.get? a = some o) (hc : o.cls = .ref C) (hq : Q (.done (.ret (.ref C))) ⟨h, g, d, t, os⟩) :
    wpAny (model prog w) A (Builtin.«object.__getattribute__» ⟨[.ref a, .str "__class__" tk], []⟩) Q E ⟨h, g, d, t, os⟩ := by
  have hT5 : (⟨h, g, d, t, os⟩ : Shared).TypeIs (.builtin "object.__class__") "getset_descriptor" := F.typeOf_object_class
  have f5 := F.typeOf_object_class
  have f6 := F.slot_gs_get.lookup
  have f7 := F.slot_gs_set.lookup
  repeat (any_goals (first | assumption | (with_reducible refine wpAny_loadPart_at hx ?_; rw [hc]) | with_reducible refine Ql T hC hN hcl ?_ | wp_step))
  refine Pb T hC hx hc ?_
  repeat (any_goals (first | assumption | wp_step))
theorem R5 {tl : List Value} {tk : Tok} {Q : Value → Shared → Prop} (T : E7 h tl) (hC : h.get? C = some (excClassObj nm q C N bs tl hdct sn sub ab col dd k0 k1 k2 k3 k5 newId)) (hN : h.Ns N mN) (hmN : ∀ n ∈ quietNames, mN n = none) (hcl : mN "__class__" = none)
    (hx : h.get? a = some o) (hc : o.cls = .ref C) (hq : Q (.ref C) ⟨h, g, d, t, os⟩) : wpAny (model prog w) A (getAttrBy (.ref a) (.str "__class__" tk) false) Q E ⟨h, g, d, t, os⟩ := by
  have FB := F.attrBase_ValueError
  have f3 := FB.ga.bind (.ref a)
  have hx2 : (Value.builtin "BaseException.__getattribute__" == Value.builtin "object.__getattribute__") = false := by decide +kernel
  have hx1 : (onTheHeap (Value.ref C) && Value.builtin "BaseException.__getattribute__" == Value.builtin "object.__getattribute__") = false := by rw [hx2]; rfl
  have hm1 : ("__getattribute__" : Str) ∈ quietNames := .tail _ (.head _)
  have hm2 : ("__getattr__" : Str) ∈ quietNames := .tail _ (.tail _ (.head _))
  repeat (any_goals (first | assumption | (with_reducible refine wpAny_loadPart_at hx ?_; rw [hc]) | with_reducible refine wpAny_typeLookup_tailQ hm1 hC hN hmN T.tailQ FB.mro FB.ga.lookup ?_ | with_reducible refine wpAny_typeLookup_tailQ hm2 hC hN hmN T.tailQ FB.mro FB.noGetattr ?_ | wp_step))
  refine codeAny_call_builtin FB.ga.plain F.entry_bexc_ga (wpAny_check_ga_own FB hC T.tailQ hx hc (Lx T hC hN hcl hx hc ?_))
  repeat (any_goals (first | assumption | wp_step))
theorem Mj {tl : List Value} {Q : Option Value → Shared → Prop} (T : E7 h tl) (hC : h.get? C = some (excClassObj nm q C N bs tl hdct sn sub ab col dd k0 k1 k2 k3 k5 newId)) (hN : h.Ns N mN) (hmN : ∀ n ∈ quietNames, mN n = none) (hcl : mN "__class__" = none)
    (hx : h.get? a = some o) (hc : o.cls = .ref C) (hq : Q (some (.ref C)) ⟨h, g, d, t + 1, os⟩) : wpAny (model prog w) A (getAttr? (.ref a) "__class__") Q E ⟨h, g, d, t, os⟩ := by
  unfold getAttr? getAttrBy?
  repeat (any_goals (first | assumption | with_reducible apply R5 T hC hN hmN hcl hx hc | wp_step))
end
end Mine
namespace Mine
open PySem PySem.Calls PyProof.Rows PySem.SeqAt
section
variable {prog : Program} {w : World} {A : Around} {E : Value → Shared → Prop} {h : Heap} {g : Array GenState} {d : Drawn} {t : Nat} {os : OsState} {a : Addr} {o : Obj}
variable {nm q : Str} {C N : Addr} {bs bm : List Value} {hdct : Bool} {sn : List Str} {sub : List Value} {ab : Bool} {col : Option Bool} {dd : Option Addr} {k0 k1 k2 k3 k5 : Option Value} {newId : String} {mN : Str → Option Value}
variable {nm' q' : Str} {C' N' : Addr} {bs' bm' : List Value} {hdct' : Bool} {sn' : List Str} {sub' : List Value} {ab' : Bool} {col' : Option Bool} {dd' : Option Addr} {k0' k1' k2' k3' k5' : Option Value} {newId' : String}
theorem A4b {dep : Int} {tk : Tok} {Q : Fin → Shared → Prop} (hx : h.get? a = some o) (hc : o.cls = .ref C) (hq : Q (.done (.ret (.bool true))) ⟨h, g, d, t, os⟩) :
    wpAny (model prog w) A (Builtin.«isinstance.nested» ⟨[.ref a, .ref C, .int dep tk], []⟩) Q E ⟨h, g, d, t, os⟩ := by
  have hs : (Value.ref C == Value.ref C) = true := beq_self_eq_true _
  repeat (any_goals (first | assumption | (with_reducible refine wpAny_loadPart_at hx ?_; rw [hc]) | wp_step))
theorem A5p {tl : List Value} {dep : Int} {tk : Tok} {Q : Fin → Shared → Prop} (hC : h.get? C = some (excClassObj nm q C N bs tl hdct sn sub ab col dd k0 k1 k2 k3 k5 newId)) (hX : h.get? C' = some (excClassObj nm' q' C' N' bs' bm' hdct' sn' sub' ab' col' dd' k0' k1' k2' k3' k5' newId'))
    (hx : h.get? a = some o) (hc : o.cls = .ref C) (hne : (Value.ref C == Value.ref C') = false) (hin : (Value.ref C :: tl).contains (.ref C') = true) (hq : Q (.done (.ret (.bool true))) ⟨h, g, d, t, os⟩) :
    wpAny (model prog w) A (Builtin.«isinstance.nested» ⟨[.ref a, .ref C', .int dep tk], []⟩) Q E ⟨h, g, d, t, os⟩ := by
  repeat (any_goals (first | assumption | (with_reducible refine wpAny_loadPart_at hx ?_; rw [hc]) | with_reducible refine wpAny_loadPart_at hX ?_ | (with_reducible refine wpAny_isSubtype_exc hC ?_; rw [hin]) | wp_step))
theorem A6b {tl : List Value} {dep : Int} {tk : Tok} {Q : Fin → Shared → Prop} (T : E7 h tl) (hC : h.get? C = some (excClassObj nm q C N bs tl hdct sn sub ab col dd k0 k1 k2 k3 k5 newId)) (hN : h.Ns N mN) (hmN : ∀ n ∈ quietNames, mN n = none) (hcl : mN "__class__" = none)
    (hX : h.get? C' = some (excClassObj nm' q' C' N' bs' bm' hdct' sn' sub' ab' col' dd' k0' k1' k2' k3' k5' newId'))
    (hx : h.get? a = some o) (hc : o.cls = .ref C) (hne : (Value.ref C == Value.ref C') = false) (hin : (Value.ref C :: tl).contains (.ref C') = false) (hq : Q (.done (.ret (.bool false))) ⟨h, g, d, t + 1, os⟩) :
    wpAny (model prog w) A (Builtin.«isinstance.nested» ⟨[.ref a, .ref C', .int dep tk], []⟩) Q E ⟨h, g, d, t, os⟩ := by
  repeat (any_goals (first | assumption | (with_reducible refine wpAny_loadPart_at hx ?_; rw [hc]) | with_reducible refine wpAny_loadPart_at hX ?_ | with_reducible refine wpAny_loadPart_at hC ?_ | (with_reducible refine wpAny_isSubtype_exc hC ?_; rw [hin]) | with_reducible apply Mj T hC hN hmN hcl hx hc | wp_step))
theorem A84 {tl : List Value} {dep : Int} {tk : Tok} {Q : Fin → Shared → Prop} (T : E7 h tl) (hC : h.get? C = some (excClassObj nm q C N bs tl hdct sn sub ab col dd k0 k1 k2 k3 k5 newId))
    (hx : h.get? a = some o) (hc : o.cls = .ref C) (hq : Q (.done (.ret (.bool true))) ⟨h, g, d, t, os⟩) :
    wpAny (model prog w) A (Builtin.«isinstance.nested» ⟨[.ref a, .type "ValueError", .int dep tk], []⟩) Q E ⟨h, g, d, t, os⟩ := by
  have hne : (Value.ref C == Value.type "ValueError") = false := by rfl
  have hob : Ei.contains (.type "ValueError") = true := by unfold Ei; decide +kernel
  have hin : (Value.ref C :: tl).contains (.type "ValueError") = true := by rw [List.contains_cons, T.tailQ.tail.hasType hob]; rfl
  have hty : typeOf (.type "ValueError") = pure (.type "type") := by first | rfl | kernel_rfl
  repeat (any_goals (first | assumption | (with_reducible refine wpAny_loadPart_at hx ?_; rw [hc]) | (with_reducible refine wpAny_isSubtype_exc hC ?_; rw [hin]) | wp_step))
end
end Mine
namespace Mine
open PySem PySem.Calls PyProof.Rows PySem.SeqAt
section
variable {C : Cx} {T : Tab} {n b : Nat} {Γ : List Str} {S : Scope} {strF : Bi}
variable {base : Bs} {env : Env} {ρ : A8} {μ : List Addr} {H H' : A0} {s : Shared} {A : Around} {E : Value → Shared → Prop} {Q : Value → Shared → Prop}
theorem Ri {d c : Nat} {x y : Str} {Cd Cc : Addr} {tl : List Value} {g : Heap} (G : Tb C T g) (hd : T.excs.lookup d = some x) (hc : T.excs.lookup c = some y) (ed : C.ea d = .ref Cd) (ec : C.ea c = .ref Cc) (et : tl = (if d = 0 then Ei else C.ea 0 :: Ei)) :
    (Value.ref Cd :: tl).contains (.ref Cc) = (decide (d = c) || decide (c = 0)) := by
  have h0 : Ei.contains (.ref Cc) = false := rfl
  obtain ⟨z, hz⟩ := G.has0 hd
  have ne : ∀ {k : Nat} {v : Str} {Ck : Addr}, T.excs.lookup k = some v → C.ea k = .ref Ck → ((Value.ref Cc == Value.ref Ck) = decide (k = c)) := fun {k v Ck} hk ek => by
    by_cases q : k = c
    · subst q; rw [ec] at ek; cases ek; simp
    · rw [decide_eq_false q]
      refine Bool.eq_false_iff.mpr fun e => q ?_
      have := beq_iff_eq.mp e
      exact G.inj hk hc (by rw [ek, ec, this])
  rw [List.contains_cons, ne hd ed, et]
  by_cases q : d = 0
  · rw [if_pos q, h0, Bool.or_false]
    subst q
    by_cases q : 0 = c
    · simp [q]
    · rw [decide_eq_false q, decide_eq_false fun e => q e.symm]; rfl
  · rw [if_neg q]
    obtain ⟨C0, _, _, e0, _⟩ := G.cls hz
    rw [e0, List.contains_cons, ne hz e0, h0, Bool.or_false]
    congr 1
    by_cases q : c = 0
    · subst q; rfl
    · rw [decide_eq_false q, decide_eq_false fun e => q e.symm]
theorem A06 {c d : Nat} {y : Str} {u v : Value} (G : Gnd C T base) (st : St C base b env Γ ρ μ H s) (V : VR C μ s.heap (.exc d) u) (hc : T.excs.lookup c = some y) (ev : C.mg y = some v) (k : B5 C base b env Γ ρ μ s (.bool (decide (d = c) || decide (c = 0))) H Q) :
    wpAny (model C.prog C.w) A (call (.builtin "isinstance") [u, v]) Q E s := by
  cases V with
  | exc ek ho nz hcls hd =>
    rename_i a o
    refine bC fun hno => ?_
    obtain ⟨x, hx⟩ := G.exg.eo.mp ek
    obtain ⟨Cd, tl, _, ed, XD, TD, et⟩ := G.exg.cls hx
    obtain ⟨Cc, tlc, ec', ec, XC, _, _⟩ := G.exg.cls hc
    rw [ev] at ec'; cases ec'
    have hm := Ri G.exg hx hc ed ec et
    have kg : ∀ b o, base.g.get? b = some o → s.heap.get? b = some o := fun _ _ => st.kg
    have fin : ∀ tk, Q (.bool (decide (d = c) || decide (c = 0))) { s with toks := tk } := fun tk => k _ _ μ .refl (st.tok tk) (.bool _)
    rw [ed] at hcls
    refine hno ?_
    refine call_isinstance (S := fun _ R s' => s' = s ∧ ∀ tk, R (.ok (.ret (.bool (decide (d = c) || decide (c = 0))))) { s with toks := tk }) (fun _ _ _ _ s' hs => ?_) ⟨rfl, fin⟩
    obtain ⟨rfl, hs⟩ := hs
    refine isinstance_outer ?_ (by intro q; cases q)
    obtain ⟨N, nm, q, bs, hdct, sn, sub, ab, col, dd, k0, k1, k2, k3, k5, mN, hC, hN, hq, hcl⟩ := XD.keeps kg
    obtain ⟨N', nm', q', bs', hdct', sn', sub', ab', col', dd', k0', k1', k2', k3', k5', mN', hC', hN', hq', hcl'⟩ := XC.keeps kg
    have TK := TD.keeps kg
    obtain ⟨h, g, dr, t, os⟩ := s'
    by_cases e : d = c
    · subst e
      rw [ed] at ec; cases ec
      refine A4b ho hcls ?_
      have := hs t
      simpa using this
    · have hne : (Value.ref Cd == Value.ref Cc) = false := Bool.eq_false_iff.mpr fun q => e (G.exg.inj hx hc (by rw [ed, ec, beq_iff_eq.mp q]))
      cases hb : (decide (d = c) || decide (c = 0)) with
      | true =>
        rw [hb] at hm hs
        exact A5p hC hC' ho hcls hne hm (hs t)
      | false =>
        rw [hb] at hm hs
        exact A6b TK hC hN hq hcl hC' ho hcls hne hm (hs (t + 1))
theorem A5n {d : Nat} {u : Value} (G : Gnd C T base) (st : St C base b env Γ ρ μ H s) (V : VR C μ s.heap (.exc d) u) (k : B5 C base b env Γ ρ μ s (.bool true) H Q) :
    wpAny (model C.prog C.w) A (call (.builtin "isinstance") [u, .type "ValueError"]) Q E s := by
  cases V with
  | exc ek ho nz hcls hd =>
    rename_i a o
    obtain ⟨x, hx⟩ := G.exg.eo.mp ek
    obtain ⟨Cd, tl, _, ed, XD, TD, et⟩ := G.exg.cls hx
    have kg : ∀ b o, base.g.get? b = some o → s.heap.get? b = some o := fun _ _ => st.kg
    rw [ed] at hcls
    refine call_isinstance (S := fun _ R s' => s' = s ∧ R (.ok (.ret (.bool true))) s) (fun _ _ _ _ s' hs => ?_) ⟨rfl, k _ _ μ .refl st (.bool _)⟩
    obtain ⟨rfl, hs⟩ := hs
    refine isinstance_outer ?_ (by intro q; cases q)
    obtain ⟨N, nm, q, bs, hdct, sn, sub, ab, col, dd, k0, k1, k2, k3, k5, mN, hC, hN, hq, hcl⟩ := XD.keeps kg
    obtain ⟨h, g, dr, t, os⟩ := s'
    exact A84 (TD.keeps kg) hC ho hcls hs
end
end Mine
namespace Mine
open PySem PySem.Calls PyProof.Rows PySem.SeqAt
section
variable {C : Cx} {T : Tab} {n b : Nat} {Γ : List Str} {S : Scope} {strF : Bi}
variable {base : Bs} {env : Env} {ρ : A8} {μ : List Addr} {H H' : A0} {s : Shared} {A : Around} {E : Value → Shared → Prop} {Q : Flow → Shared → Prop}
theorem SOk.raise (hq : T.q = false) {c : Nat} {x : Str} {m : Str} {kk : Nat} {np p1 cpos pos : Pos} {d : A8 → A0 → SR} (hx : T.excs.lookup c = some x) (hg : Ao S x = true) (hd : ∀ ρ H, d ρ H = .exc c H) :
    SOk C T n b Γ S (.Raise (some (.Call (.Name x np) [.Constant (.str m) kk p1] [] cpos)) none pos) d := by
  refine ⟨?_⟩
  intro base env ρ μ H s A E Q G hS st a k
  refine bC fun hno => ?_
  rw [hd] at k
  obtain ⟨Ck, tl, em, ek, X, TD, _⟩ := G.exg.cls hx
  obtain ⟨N, nm, q, bs, hdct, sn, sub, ab, col, dd, k0, k1, k2, k3, k5, mN, hC, hN, hni, hcl⟩ := X
  have kg : ∀ b o, base.g.get? b = some o → s.heap.get? b = some o := fun _ _ => st.kg
  have hbase : tl.contains (.type "BaseException") = true := TD.tailQ.tail.hasType (F.excBase_ValueError.hasBase)
  refine hno ?_
  refine wpAny_Raise_call_subT (C := Ck) (nm := nm) (q := q) (N := N) (bs := bs) (bm := tl) (hdct := hdct) (sn := sn) (sub := sub) (ab := ab) (col := col) (dd := dd) (k0 := k0) (k1 := k1) (k2 := k2) (k3 := k3) (k5 := k5)
    F.excBase_ValueError (mN := mN) hbase (a.handled (G.q.trans hq)) rfl (hni _ (.head _)) (Gn G hS.sc st hg em ⟨rfl, Ch rfl ?_⟩)
  refine wpAny_items_cons (wpAny_Constant_str (wpAny_items_nil ?_)) (Ar rfl)
  refine ⟨rfl, by show 1 ≤ sizeLine; decide, kg _ _ hC, hN.keeps kg, (TD.keeps kg).tailQ.tail, fun h' e M => ?_⟩
  refine bC fun hno => ?_
  have kk : ∀ {a : Addr} {o : Obj}, s.heap.get? a = some o → h'.get? a = some o := fun {a o} e => M.keeps a o e
  obtain ⟨t, ho, _, _⟩ := M.there
  refine hno ?_
  exact k _ _ μ (Ext.grow kk) (st.forget.grow kk rfl rfl) (G.exg.eo.mpr ⟨x, hx⟩) (.new e _ _ rfl rfl ho M.new ek.symm rfl rfl)
end
end Mine
namespace Mine
open PySem PySem.Calls PyProof.Rows PySem.SeqAt
section
variable {M : Model} {A : Around} {E : Value → Shared → Prop} {h : Heap} {g : Array GenState} {d : Drawn} {t : Nat} {os : OsState} {e : Addr} {oe : Obj}
variable {nm q : Str} {C N : Addr} {bs bm : List Value} {hdct : Bool} {sn : List Str} {sub : List Value} {ab : Bool} {col : Option Bool} {dd : Option Addr} {k0 k1 k2 k3 k5 : Option Value} {newId : String} {mN : Str → Option Value}
variable {nm' q' : Str} {C' N' : Addr} {bs' bm' : List Value} {hdct' : Bool} {sn' : List Str} {sub' : List Value} {ab' : Bool} {col' : Option Bool} {dd' : Option Addr} {k0' k1' k2' k3' k5' : Option Value} {newId' : String}
theorem Ke {Q : Bool → Shared → Prop} (hC : h.get? C = some (excClassObj nm q C N bs bm hdct sn sub ab col dd k0 k1 k2 k3 k5 newId)) (hC' : h.get? C' = some (excClassObj nm' q' C' N' bs' bm' hdct' sn' sub' ab' col' dd' k0' k1' k2' k3' k5' newId'))
    (he : h.get? e = some oe) (hcls : oe.cls = .ref C) (hbase : bm'.contains (.type "BaseException") = true) (hin : (Value.ref C :: bm).contains (.ref C') = true)
    (hq : Q true ⟨h, g, d, t, os⟩) : wpAny M A (excMatches (.ref e) (.ref C')) Q E ⟨h, g, d, t, os⟩ := by
  have hcB : (Value.ref C' :: bm').contains (.type "BaseException") = true := by rw [List.contains_cons, hbase, Bool.or_true]
  have f := tc_notTuple
  unfold excMatches
  repeat (first | (with_reducible refine wpAny_loadPart_at he ?_; rw [hcls]) | with_reducible refine wpAny_loadPart_at hC' ?_ | (with_reducible refine wpAny_isSubtype_exc hC' ?_; rw [hcB]) | (with_reducible refine wpAny_isSubtype_exc hC ?_; rw [hin]) | wp_step)
  exact hq
end
section
variable {C : Cx} {T : Tab} {n b : Nat} {Γ : List Str} {S : Scope} {strF : Bi}
variable {base : Bs} {env : Env} {ρ : A8} {μ μ1 : List Addr} {H H' H1 : A0} {s s' s1 : Shared} {A : Around} {E : Value → Shared → Prop} {Q : Flow → Shared → Prop}
theorem St.re {B' : Bs} (S : St C base b env Γ ρ μ H s) (h1 : B'.h = base.h) (h2 : B'.g = base.g) (h3 : B'.fs = base.fs) : St C B' b env Γ ρ μ H s := by
  obtain ⟨h, g, fs, q, gb⟩ := base
  obtain ⟨h', g', fs', q', gb'⟩ := B'
  cases h1; cases h2; cases h3
  exact ⟨S.keep, S.hp, S.er, S.fresh, S.noloc, S.lm, S.nocell, S.gens, S.os, S.zl, S.ff⟩
noncomputable abbrev Bs.hush (B : Bs) : Bs := ⟨B.h, B.g, B.fs, true, B.gb⟩
theorem Gnd.hush (G : Gnd C T base) : Gnd C T.quiet base.hush :=
  ⟨rfl, (fun e => by cases e), ⟨G.scr.scr⟩, G.g, G.b, G.bi, G.fn, G.gint, ⟨G.exg.cls, G.exg.inj, G.exg.has0, G.exg.eo, G.exg.sm⟩, G.nolimit, G.qdefs, G.qdefs⟩
theorem AOk.hush (a : AOk base A n) {v : Value} : AOk base.hush (A.mark (some v)) n := ⟨a.depth, a.units, (fun e => by cases e), a.frames, a.guards⟩
theorem Fn.hush (F : Fn base env S) : Fn base.hush env S := ⟨F.sc, let ⟨o, L, hf, e⟩ := F.top; ⟨o, L, hf, e⟩⟩
theorem St.gone (S : St C base b env Γ ρ μ H s) {m' : Str → Option Value} (n' : s'.heap.Ns env.locals m') (hs : Heap.SameBut env.locals s.heap s'.heap) (hg : s'.gens = s.gens) (ho : s'.os = s.os) :
    St C base b env Γ [] μ H s' ∧ Ext env μ μ s.heap s'.heap := by
  have k : ∀ {a : Addr} {o : Obj}, s.heap.get? a = some o → ¬ (a = env.locals) → s'.heap.get? a = some o := fun e q => (hs.2 _ q).trans e
  exact S.but (.inr (.inl rfl)) S.lm S.noloc k (A3e n' k) hg ho fun _ => ⟨S.er.kind, ⟨m', n', fun _ _ e => by simp at e⟩, fun kx => let ⟨c, o, e, ⟨ob, eb, db⟩, _⟩ := S.er.cells kx; ⟨c, o, e, ⟨ob, k eb (S.er.cellne e), db⟩, fun _ e => by simp at e⟩,
    fun e => let ⟨o, ob, eb, db⟩ := S.er.cell e; ⟨o, ob, k eb (S.er.cellne e), db⟩, S.er.inj, S.er.globals, S.er.builtins⟩
theorem Z9 {c k i : Nat} {x nm : Str} {xp hpos : Pos} {b₀ : Stmt} {suite : List Stmt} {dh : A8 → A0 → SR} {u : Value} (hx : T.excs.lookup c = some x) (hg : Ao S x = true) (hi : slot Γ nm = some i) (hl : Bd S nm = some .local) (hh : F8 C T.quiet n b Γ S (b₀ :: suite) dh)
    (G : Gnd C T base) (hS : Fn base env S) (st : St C base b env Γ ρ μ H s) (a : AOk base A n) (S1 : St C base b env Γ ρ μ1 H1 s1) (X1 : Ext env μ μ1 s.heap s1.heap) (ek : C.eo k) (x1 : XR (C.ea k) false u s.heap s1.heap) (hm : k = c ∨ c = 0)
    (q : Ez C base b env Γ μ s (Fc (dh (ρ.set i (some (.exc k))) H1)) Q E) :
    wpAny (model C.prog C.w) A (noteFrame u env) (fun _ s₂ => wpAny (model C.prog C.w) A (setFlight u none) (fun _ s₃ => wpAny (model C.prog C.w) A (handleBy u env [.ExceptHandler (some (.Name x xp)) (some nm) (b₀ :: suite) hpos]) Q E s₃) E s₂) E s1 := by
  refine Jn hS.top a st S1 X1 x1 fun s2 S2 X2 x2 => G1 st S2 X2 x2 fun s3 S3 X3 x3 => ?_
  refine bC fun hno => ?_
  obtain ⟨y, hy⟩ := G.exg.eo.mp ek
  obtain ⟨Cd, tl, _, ed, XD, TD, et⟩ := G.exg.cls hy
  obtain ⟨Cc, tlc, em, ec, XC, TC, _⟩ := G.exg.cls hx
  have hin := Ri G.exg hy hx ed ec et
  have ht : (decide (k = c) || decide (c = 0)) = true := by rcases hm with q | q <;> simp [q]
  rw [ht] at hin
  have kg : ∀ b o, base.g.get? b = some o → s3.heap.get? b = some o := fun _ _ => S3.kg
  have hk : env.kindOf nm = some .local := by rw [← hS.sc] at hl; exact hl
  obtain ⟨e, eu⟩ : ∃ e, u = .ref e := by cases x3 with
    | new a o vs e hp ho hn hc hd h1 => exact ⟨a, e⟩
    | on a o vs T' oT ts e => exact ⟨a, e⟩
  subst eu
  refine hno ?_
  refine wpAny_handleBy_cons (codeAny_handlers_test (Gn G hS.sc S3 hg em ?_)) (by intro q; cases q)
  have go : ∀ {s : Shared} {Q : Bool → Shared → Prop} {E : Value → Shared → Prop} {h0 : Heap} {p : Bool}, (∀ b o, base.g.get? b = some o → s.heap.get? b = some o) → XR (C.ea k) p (.ref e) h0 s.heap → Q true s → wpAny (model C.prog C.w) (A.mark (some (.ref e))) (excMatches (.ref e) (.ref Cc)) Q E s := by
    intro s Q E h0 p kg x hQ
    obtain ⟨N, nm, q, bs, hdct, sn, sub, ab, col, dd, k0, k1, k2, k3, k5, mN, hC, hN, hq, hcl⟩ := XD.keeps kg
    obtain ⟨N', nm', q', bs', hdct', sn', sub', ab', col', dd', k0', k1', k2', k3', k5', mN', hC', hN', hq', hcl'⟩ := XC.keeps kg
    obtain ⟨h, g, dr, t, os⟩ := s
    have hbase : tlc.contains (.type "BaseException") = true := TC.tailQ.tail.hasType (F.excBase_ValueError.hasBase)
    cases x with
    | new a o vs e hp ho hn hc hd h1 => cases e; exact Ke hC hC' ho (hc.trans ed) hbase hin hQ
    | on a o vs T' oT ts e ho hn hc => cases e; exact Ke hC hC' ho (hc.trans ed) hbase hin hQ
  refine go kg x3 ?_
  refine codeAny_handlers_suite_as (G1 st S3 X3 x3 fun s4 S4 X4 x4 => ?_)
  have V : VR C μ1 s4.heap (.exc k) (.ref e) := by
    cases x4 with
    | new a o vs e hp => cases hp
    | on a o vs T' oT ts e ho hn hc hd => cases e; exact .exc ek ho (st.notZ hn) hc ⟨_, hd⟩
  refine S4.bind hi (.inl hk) V fun s5 S5 X5 => ?_
  refine hh.ok G.hush hS.hush (S5.re rfl rfl rfl) a.hush ?_
  cases ed : dh (ρ.set i (some (.exc k))) H1 with
  | ret v H2 =>
    rw [ed] at q
    intro w s6 μ6 X6 S6 V6
    obtain ⟨m, nn, _⟩ := S6.er.ns
    refine wpAny_nameGoes hk nn (by rw [S6.er.kind]; rfl) fun h' m' n' hs => ?_
    obtain ⟨S7, X7⟩ := (S6.re (B' := base) rfl rfl rfl).gone (s' := { s6 with heap := h', toks := s6.toks + 1 }) n' hs rfl rfl
    exact q w _ μ6 (((X4.trans X5).trans X6).trans X7) S7 (V6.mono S6.hp S6.er X7)
  | next ρ2 H2 => rw [ed] at q; exact q.elim
  | exc c2 H2 => rw [ed] at q; exact q.elim
  | bad => rw [ed] at q; exact q.elim
theorem Zp {c k : Nat} {x : Str} {xp hpos : Pos} {b₀ : Stmt} {suite : List Stmt} {dh : A8 → A0 → SR} {u : Value} (hx : T.excs.lookup c = some x) (hg : Ao S x = true) (hh : F8 C T.quiet n b Γ S (b₀ :: suite) dh)
    (G : Gnd C T base) (hS : Fn base env S) (st : St C base b env Γ ρ μ H s) (a : AOk base A n) (S1 : St C base b env Γ ρ μ1 H1 s1) (X1 : Ext env μ μ1 s.heap s1.heap) (ek : C.eo k) (x1 : XR (C.ea k) false u s.heap s1.heap) (hm : k = c ∨ c = 0)
    (q : Ez C base b env Γ μ s (Fc (dh ρ H1)) Q E) :
    wpAny (model C.prog C.w) A (noteFrame u env) (fun _ s₂ => wpAny (model C.prog C.w) A (setFlight u none) (fun _ s₃ => wpAny (model C.prog C.w) A (handleBy u env [.ExceptHandler (some (.Name x xp)) none (b₀ :: suite) hpos]) Q E s₃) E s₂) E s1 := by
  refine Jn hS.top a st S1 X1 x1 fun s2 S2 X2 x2 => G1 st S2 X2 x2 fun s3 S3 X3 x3 => ?_
  refine bC fun hno => ?_
  obtain ⟨y, hy⟩ := G.exg.eo.mp ek
  obtain ⟨Cd, tl, _, ed, XD, TD, et⟩ := G.exg.cls hy
  obtain ⟨Cc, tlc, em, ec, XC, TC, _⟩ := G.exg.cls hx
  have hin := Ri G.exg hy hx ed ec et
  have ht : (decide (k = c) || decide (c = 0)) = true := by rcases hm with q | q <;> simp [q]
  rw [ht] at hin
  have kg : ∀ b o, base.g.get? b = some o → s3.heap.get? b = some o := fun _ _ => S3.kg
  obtain ⟨e, eu⟩ : ∃ e, u = .ref e := by cases x3 with
    | new a o vs e hp ho hn hc hd h1 => exact ⟨a, e⟩
    | on a o vs T' oT ts e => exact ⟨a, e⟩
  subst eu
  refine hno ?_
  refine wpAny_handleBy_cons (codeAny_handlers_test (Gn G hS.sc S3 hg em ?_)) (by intro q; cases q)
  have go : ∀ {s : Shared} {Q : Bool → Shared → Prop} {E : Value → Shared → Prop} {h0 : Heap} {p : Bool}, (∀ b o, base.g.get? b = some o → s.heap.get? b = some o) → XR (C.ea k) p (.ref e) h0 s.heap → Q true s → wpAny (model C.prog C.w) (A.mark (some (.ref e))) (excMatches (.ref e) (.ref Cc)) Q E s := by
    intro s Q E h0 p kg x hQ
    obtain ⟨N, nm, q, bs, hdct, sn, sub, ab, col, dd, k0, k1, k2, k3, k5, mN, hC, hN, hq, hcl⟩ := XD.keeps kg
    obtain ⟨N', nm', q', bs', hdct', sn', sub', ab', col', dd', k0', k1', k2', k3', k5', mN', hC', hN', hq', hcl'⟩ := XC.keeps kg
    obtain ⟨h, g, dr, t, os⟩ := s
    have hbase : tlc.contains (.type "BaseException") = true := TC.tailQ.tail.hasType (F.excBase_ValueError.hasBase)
    cases x with
    | new a o vs e hp ho hn hc hd h1 => cases e; exact Ke hC hC' ho (hc.trans ed) hbase hin hQ
    | on a o vs T' oT ts e ho hn hc => cases e; exact Ke hC hC' ho (hc.trans ed) hbase hin hQ
  refine go kg x3 ?_
  refine codeAny_handlers_suite (G1 st S3 X3 x3 fun s4 S4 X4 x4 => ?_)
  refine hh.ok G.hush hS.hush (S4.re rfl rfl rfl) a.hush ?_
  cases ed : dh ρ H1 with
  | ret v H2 =>
    rw [ed] at q
    intro w s6 μ6 X6 S6 V6
    exact q w _ μ6 (X4.trans X6) (S6.re (B' := base) rfl rfl rfl) V6
  | next ρ2 H2 => rw [ed] at q; exact q.elim
  | exc c2 H2 => rw [ed] at q; exact q.elim
  | bad => rw [ed] at q; exact q.elim
noncomputable def N9 (c : Nat) (i : Option Nat) (dh : A8 → A0 → SR) (r : Bool) (ρ : A8) (d : Nat) (H : A0) : SR := if r = true ∧ (d = c ∨ c = 0) then (match i with | some j => Fc (dh (ρ.set j (some (.exc d))) H) | none => Fc (dh ρ H)) else .bad
theorem Zj {c k : Nat} {i : Option Nat} {dh : A8 → A0 → SR} {ρ : A8} {H : A0} : N9 c i dh false ρ k H = .bad := if_neg fun q => by cases q.1
inductive HdR (T : Tab) (Γ : List Str) (S : Scope) (c : Nat) (i : Option Nat) (body : List Stmt) (h : ExceptHandler) : Prop
  | as (x nm : Str) (xp pos : Pos) (b₀ : Stmt) (ss : List Stmt) (j : Nat) (hx : T.excs.lookup c = some x) (hg : Ao S x = true) (e : i = some j) (hj : slot Γ nm = some j) (hl : Bd S nm = some .local) (eb : body = b₀ :: ss) (eh : h = .ExceptHandler (some (.Name x xp)) (some nm) body pos) : HdR T Γ S c i body h
  | no (x : Str) (xp pos : Pos) (b₀ : Stmt) (ss : List Stmt) (hx : T.excs.lookup c = some x) (hg : Ao S x = true) (e : i = none) (eb : body = b₀ :: ss) (eh : h = .ExceptHandler (some (.Name x xp)) none body pos) : HdR T Γ S c i body h
theorem Yt {c k : Nat} {i : Option Nat} {body : List Stmt} {hd : ExceptHandler} {dh : A8 → A0 → SR} {u : Value} {r : Bool} (R : HdR T Γ S c i body hd) (hh : F8 C T.quiet n b Γ S body dh)
    (G : Gnd C T base) (hS : Fn base env S) (st : St C base b env Γ ρ μ H s) (a : AOk base A n) (S1 : St C base b env Γ ρ μ1 H1 s1) (X1 : Ext env μ μ1 s.heap s1.heap) (ek : C.eo k) (x1 : XR (C.ea k) false u s.heap s1.heap)
    (q : Ez C base b env Γ μ s (N9 c i dh r ρ k H1) Q E) :
    wpAny (model C.prog C.w) A (noteFrame u env) (fun _ s₂ => wpAny (model C.prog C.w) A (setFlight u none) (fun _ s₃ => wpAny (model C.prog C.w) A (handleBy u env [hd]) Q E s₃) E s₂) E s1 := by
  unfold N9 at q
  by_cases hm : r = true ∧ (k = c ∨ c = 0)
  · rw [if_pos hm] at q
    cases R with
    | as x nm xp pos b₀ ss j hx hg e hj hl eb eh =>
      subst e; subst eb; subst eh
      exact Z9 hx hg hj hl hh G hS st a S1 X1 ek x1 hm.2 q
    | no x xp pos b₀ ss hx hg e eb eh =>
      subst e; subst eb; subst eh
      exact Zp hx hg hh G hS st a S1 X1 ek x1 hm.2 q
  · rw [if_neg hm] at q; exact q.elim
theorem SOk.tryExpr {v : Expr} {p1 pos : Pos} {c : Nat} {i : Option Nat} {body : List Stmt} {hd : ExceptHandler} {r : Bool} {d dh : A8 → A0 → SR} {d1 : A8 → A0 → Res AV} (R : HdR T Γ S c i body hd) (hv : Ec v = true) (h : Al C T n b Γ S v d1) (hx : r = true → XOk C T n b Γ S v d1) (hh : F8 C T.quiet n b Γ S body dh)
    (hd' : ∀ ρ H, d ρ H = (match d1 ρ H with | .ok _ H => .next ρ H | .exc k H => N9 c i dh r ρ k H | .bad => .bad)) : SOk C T n b Γ S (.Try [.Expr v p1] [hd] [] [] pos) d := by
  refine ⟨?_⟩
  intro base env ρ μ H s A E Q G hS st a k
  rw [hd'] at k
  refine wpAny_Try_except (wpAny_execs_cons ?_)
  have hi : interactive env = false := by unfold interactive; rw [st.er.kind]; rfl
  cases e : d1 ρ H with
  | ok w H1 =>
    rw [e] at k
    refine wpAny_Expr_any (h.ok G hS.sc st a e fun u s' μ' X S' V => wpAny_execs_nil (wpAny_execs_nil (k s' μ' X S'))) hi ?_
    cases v <;> first | rfl | cases hv
  | exc c1 H1 =>
    rw [e] at k
    cases r with
    | true =>
      refine wpAny_Expr_any ((hx rfl).ok G hS.sc st a e fun u s' μ' X S' ek x => Yt R hh G hS st a S' X ek x k) hi ?_
      cases v <;> first | rfl | cases hv
    | false =>
      have k : Ez C base b env Γ μ s (N9 c i dh false ρ c1 H1) Q E := k
      rw [Zj] at k; exact k.elim
  | bad => rw [e] at k; exact k.elim
end
end Mine
namespace Mine
open PySem PySem.Calls PyProof.Rows PySem.SeqAt
section
variable {C : Cx} {T : Tab} {n b : Nat} {Γ : List Str} {S : Scope} {nm : Bool} {J : Addr → Prop}
variable {base : Bs} {env : Env} {ρ : A8} {μ μ' : List Addr} {H H' : A0} {s s' : Shared} {A : Around} {E : Value → Shared → Prop} {Q : Flow → Shared → Prop}
theorem V4 {r : Nat} {xs : List AV} (h : G0 H r xs = true) : H[r]? = some (.list xs) := by
  unfold G0 at h
  split at h
  · rename_i ys e
    rw [e]
    have : ys = xs := @of_decide_eq_true _ (Classical.propDecidable _) h
    rw [this]
  · cases h
theorem Vl {ws : List (Nat × List AV)} (h : ws.all (fun w => G0 H w.1 w.2) = true) : ∀ w ∈ ws, H[w.1]? = some (.list w.2) := fun w hw => V4 (List.all_eq_true.mp h w hw)
theorem St.stepJ (S1 : St (C.plus J) base b env Γ ρ μ H s) {h' : Heap} {tk : Nat} (kk : ∀ {a : Addr} {o : Obj}, ¬ J a → s.heap.get? a = some o → h'.get? a = some o) (off : ∀ {a : Addr}, J a → ¬ Own μ env a) (hJb : ∀ {a : Addr}, J a → base.get? a = none)
    (live : ∀ {a : Addr}, J a → ∃ o, h'.get? a = some o) : St (C.plus J) base b env Γ ρ μ H { s with heap := h', toks := tk } :=
  S1.mapZ J (z := (C.plus J).z) (s' := { s with heap := h', toks := tk }) kk off hJb (fun j => .inl (.inr j)) (fun _ nz => nz) (fun {a} z => by
    by_cases hj : J a
    · exact live hj
    · obtain ⟨o, e⟩ := S1.zl z; exact ⟨o, kk hj e⟩) rfl rfl
theorem St.leaveJ (S1 : St (C.plus J) base b env Γ ρ μ H s) {h' : Heap} {tk : Nat} (kk : ∀ {a : Addr} {o : Obj}, ¬ J a → s.heap.get? a = some o → h'.get? a = some o) (off : ∀ {a : Addr}, J a → ¬ Own μ env a) (hJb : ∀ {a : Addr}, J a → base.get? a = none)
    (hzJ : ∀ {a : Addr}, C.z a → ¬ J a) : St C base b env Γ ρ μ H { s with heap := h', toks := tk } :=
  S1.mapZ J (z := C.z) (s' := { s with heap := h', toks := tk }) kk off hJb (fun j => .inl (.inr j)) (fun _ nz z => nz (.inl z)) (fun {a} z => by
    obtain ⟨o, e⟩ := S1.zl (a := a) (.inl z); exact ⟨o, kk (hzJ z) e⟩) rfl rfl
theorem St.openJ (S1 : St (C.plus J) base b env Γ ρ μ H s) : St C base b env Γ ρ μ H s :=
  S1.mapZ (fun _ => False) (z := C.z) (fun _ e => e) (fun j => j.elim) (fun j => j.elim) (fun j => j.elim) (fun _ nz z => nz (.inl z)) (fun {a} z => S1.zl (a := a) (.inl z)) rfl rfl
theorem VR.openJ {h : Heap} {v : AV} {u : Value} (q : VR (C.plus J) μ h v u) : VR C μ h v u := VR.mapZ (C := C.plus J) (z := C.z) List.prefix_rfl (fun e _ _ => e) (fun _ nz z => nz (.inl z)) q
theorem zJ {h : Heap} (S0 : St C base b env Γ ρ μ H s) (hJ0 : ∀ {a : Addr}, J a → s.heap.get? a = none) : ∀ {a : Addr}, C.z a → ¬ J a := fun z j => by
  obtain ⟨o, e⟩ := S0.zl z
  rw [hJ0 j] at e; cases e
theorem Cg {e : Expr} (h : C3 e = true) : ∀ x, foldedSetIterable e env x = pure x := by
  intro x; cases e <;> first | rfl | cases h
theorem Hh {x : Str} (hS : env.scope = S) (hk : B2 S x = true) : env.kindOf x = some .local ∨ env.kindOf x = some .cell := by
  unfold B2 at hk; rw [← hS] at hk
  simpa [Bd, Env.kindOf] using hk
theorem Po {ws : List (Nat × List AV)} {step : AV → A8 → A0 → SR} {v : AV} {l : List AV} : Ed ws step (v :: l) ρ H = (match step v ρ H with
    | .next ρ' H' => if ws.all (fun w => G0 H' w.1 w.2) then Ed ws step l ρ' H' else .bad
    | r => r) := rfl
theorem Wf {body : List Stmt} {db : A8 → A0 → SR} (hb : ∀ z, F8 (C.withZ z) T n b Γ S body db) {ws : List (Nat × List AV)} {step : AV → A8 → A0 → SR} {v : AV} {l : List AV} {ρ1 ρ2 : A8} {H1 : A0} {it : Value} {R : List AV → List Addr → Heap → Prop} {M : List AV → Value → List Addr → Heap → Prop}
    {μ1 : List Addr} {s2 : Shared} {Q' : Flow → Shared → Prop}
    (G : Gnd C T base) (hS : Fn base env S) (a : AOk base A n) {ρ0 : A8} {H0 : A0} (st0 : St C base b env Γ ρ0 μ H0 s) (W : I0 (C.plus J) base it J ws nm R M) (S2 : St (C.plus J) base b env Γ ρ2 μ1 H1 s2) (r2 : R l μ1 s2.heap) (X2 : Ext env μ μ1 s.heap s2.heap)
    (hstep : step v ρ1 H1 = db ρ2 H1) (k : Ez C base b env Γ μ s (Ed ws step (v :: l) ρ1 H1) Q E)
    (kn : ∀ s3 ρ3 μ3 H3, St (C.plus J) base b env Γ ρ3 μ3 H3 s3 → R l μ3 s3.heap → (∀ w ∈ ws, H3[w.1]? = some (.list w.2)) → Ext env μ μ3 s.heap s3.heap → Ez C base b env Γ μ s (Ed ws step l ρ3 H3) Q E → Q' .next s3)
    (kr : ∀ u s3, Q (.ret u) s3 → Q' (.ret u) s3) : wpAny (model C.prog C.w) A (execs body env) Q' (notedBy (model C.prog C.w) A env fun e s' => cameBackBy (model C.prog C.w) A env E e s') s2 := by
  rw [Po, hstep] at k
  refine (hb _).ok (C := C.plus J) G.toZ hS S2 a ?_
  cases e : db ρ2 H1 with
  | next ρ3 H3 =>
    rw [e] at k
    simp only at k
    split at k
    · rename_i hst
      exact fun s3 μ3 X3 S3 => kn s3 ρ3 μ3 H3 S3 (W.frameX S2 r2 X3) (Vl hst) (X2.trans X3) k
    · exact k.elim
  | ret w H3 => rw [e] at k; exact fun u s3 μ3 X3 S3 V => kr u s3 (k u s3 μ3 (X2.trans X3) S3.openJ V.openJ)
  | exc c H3 => rw [e] at k; exact fun u s3 μ3 X3 S3 ek x => Xf hS.top a st0 S3.openJ (X2.trans X3) (XR.back X2.live x) fun s4 S4 X4 x4 => k u s4 μ3 X4 S4 ek x4
  | bad => rw [e] at k; exact k.elim
inductive FI (C C' : Cx) (base : Bs) (b : Nat) (env : Env) (Γ : List Str) (μ : List Addr) (s : Shared) (ws : List (Nat × List AV)) (R : List AV → List Addr → Heap → Prop) (step : AV → A8 → A0 → SR) (Q : Flow → Shared → Prop) (E : Value → Shared → Prop) (m : Nat) (s1 : Shared) : Prop
  | mk (l : List AV) (ρ1 : A8) (μ1 : List Addr) (H1 : A0) (hl : l.length = m) (S1 : St C' base b env Γ ρ1 μ1 H1 s1) (r1 : R l μ1 s1.heap) (hw : ∀ w ∈ ws, H1[w.1]? = some (.list w.2)) (X1 : Ext env μ μ1 s.heap s1.heap) (k1 : Ez C base b env Γ μ s (Ed ws step l ρ1 H1) Q E) : FI C C' base b env Γ μ s ws R step Q E m s1
theorem SOk.for1 {x : Str} {i : Nat} {iter : Expr} {body : List Stmt} {px pos : Pos} {d db : A8 → A0 → SR} {di : A8 → A0 → Res (List AV × List (Nat × List AV))} (hx : slot Γ x = some i) (hk : B2 S x = true) (hset : C3 iter = true)
    (hi : Gx C T n b Γ S true iter di) (hb : ∀ z, F8 (C.withZ z) T n b Γ S body db)
    (hd : ∀ ρ H, d ρ H = (match di ρ H with | .ok p H => Ed p.2 (fun v ρ H => db (ρ.set i (some v)) H) p.1 ρ H | _ => .bad)) : SOk C T n b Γ S (.For (.Name x px) iter body [] pos) d := by
  refine ⟨?_⟩
  intro base env ρ μ H s A E Q G hS st a k
  rw [hd] at k
  cases e : di ρ H with
  | ok p H0 =>
    rw [e] at k
    refine wpAny_For (hi.ok G hS.sc st a e fun it s' μ' J R M X hJ0 hJb S' W r0 hw => ?_) (Cg hset)
    refine codeAny_forLoop_any (FI C (C.plus J) base b env Γ μ s p.2 R (fun v ρ H => db (ρ.set i (some v)) H) Q E) ?_ p.1.length ⟨p.1, ρ, μ', H0, rfl, S', r0, hw, X, k⟩
    rintro m s1 ⟨l, ρ1, μ1, H1, rfl, S1, r1, hw1, X1, k1⟩
    cases l with
    | nil =>
      refine W.done S1 a (fun j => .inr j) hw1 r1 fun h' tk kk => ?_
      exact wpAny_execs_nil (k1 _ μ1 (X1.but hJ0 kk) (S1.leaveJ kk (W.off S1 r1) hJb (zJ (h := s.heap) st hJ0)))
    | cons v l =>
      refine W.item S1 a (fun j => .inr j) hw1 r1 fun u h' tk kk V m => ?_
      refine wpAny_pure ?_
      have S2 := S1.stepJ (tk := tk) kk (W.off S1 r1) hJb (W.liveM m)
      have X2 : Ext env μ μ1 s.heap h' := X1.but hJ0 kk
      refine wpAny_assign_Name (S2.bind hx (Hh hS.sc hk) V fun s3 S3 X3 => ?_)
      refine Wf hb G hS a st W S3 (W.frameX S2 (W.plain rfl m) X3) (X2.trans X3) rfl k1 (fun s4 ρ4 μ4 H4 S4 r4 hw4 X4 k4 => ?_) (fun u s3 q => q)
      exact ⟨l.length, Nat.lt_succ_self _, ⟨l, ρ4, μ4, H4, rfl, S4, r4, hw4, X4, k4⟩⟩
  | exc c H0 => rw [e] at k; exact k.elim
  | bad => rw [e] at k; exact k.elim
theorem Nf {M : Model} {x y : Str} {i j : Nat} {px py tp : Pos} {x1 : Nat} {t : Addr} {p q : Value} {v w : AV} {Q : Unit → Shared → Prop} (hq : base.q = false) (hS : env.scope = S) (a : AOk base A n) (st : St C base b env Γ ρ μ H s) (hx : slot Γ x = some i) (hkx : B2 S x = true) (hy : slot Γ y = some j) (hky : B2 S y = true)
    (ht : s.heap.IsTuple t #[p, q]) (V : VR C μ s.heap v p) (W : VR C μ s.heap w q)
    (k : ∀ s', St C base b env Γ ((ρ.set i (some v)).set j (some w)) μ H s' → Ext env μ μ s.heap s'.heap → Q () s') : wpAny (model C.prog C.w) A (assign (.Tuple [.Name x px, .Name y py] x1 tp) env (.ref t)) Q E s := by
  refine wpAny_assign_Tuple (a.handled hq) ht rfl rfl fun h' he => ?_
  have kk : ∀ {a : Addr} {o : Obj}, s.heap.get? a = some o → h'.get? a = some o := fun {a o} e => he _ _ (fun e' => by rw [e', Aw] at e; cases e) e
  have S1 := st.grow (s' := { s with heap := h' }) kk rfl rfl
  refine wpAny_assignInOrder_more (wpAny_assign_Name (S1.bind hx (Hh hS hkx) (V.keeps kk) fun s2 S2 X2 => ?_))
  have W2 : VR C μ s2.heap w q := (W.keeps kk).mono S1.hp S1.er X2
  refine wpAny_assignInOrder_more (wpAny_assign_Name (S2.bind hy (Hh hS hky) W2 fun s3 S3 X3 => wpAny_assignInOrder_none (k s3 S3 ((Ext.grow kk).trans (X2.trans X3)))))
theorem SOk.for2 (hq : T.q = false) {x y : Str} {i j : Nat} {iter : Expr} {body : List Stmt} {px py tp pos : Pos} {x1 : Nat} {d db : A8 → A0 → SR} {di : A8 → A0 → Res (List AV × List (Nat × List AV))} (hx : slot Γ x = some i) (hk : B2 S x = true) (hy : slot Γ y = some j) (hky : B2 S y = true) (hset : C3 iter = true)
    (hi : Gx C T n b Γ S nm iter di) (hb : ∀ z, F8 (C.withZ z) T n b Γ S body db)
    (hd : ∀ ρ H, d ρ H = (match di ρ H with | .ok p H => Ed p.2 (fun v ρ H => L8 (fun x y => db ((ρ.set i (some x)).set j (some y)) H) v) p.1 ρ H | _ => .bad)) : SOk C T n b Γ S (.For (.Tuple [.Name x px, .Name y py] x1 tp) iter body [] pos) d := by
  refine ⟨?_⟩
  intro base env ρ μ H s A E Q G hS st a k
  rw [hd] at k
  cases e : di ρ H with
  | ok p H0 =>
    rw [e] at k
    refine wpAny_For (hi.ok G hS.sc st a e fun it s' μ' J R M X hJ0 hJb S' W r0 hw => ?_) (Cg hset)
    refine codeAny_forLoop_any (FI C (C.plus J) base b env Γ μ s p.2 R (fun v ρ H => L8 (fun x y => db ((ρ.set i (some x)).set j (some y)) H) v) Q E) ?_ p.1.length ⟨p.1, ρ, μ', H0, rfl, S', r0, hw, X, k⟩
    rintro m s1 ⟨l, ρ1, μ1, H1, rfl, S1, r1, hw1, X1, k1⟩
    cases l with
    | nil =>
      refine W.done S1 a (fun j => .inr j) hw1 r1 fun h' tk kk => ?_
      exact wpAny_execs_nil (k1 _ μ1 (X1.but hJ0 kk) (S1.leaveJ kk (W.off S1 r1) hJb (zJ (h := s.heap) st hJ0)))
    | cons v l =>
      have hv : ∃ v1 v2, v = .tup [v1, v2] := by
        rw [Po] at k1
        by_cases hp : ∃ v1 v2, v = .tup [v1, v2]
        · exact hp
        · have : L8 (fun x y => db ((ρ1.set i (some x)).set j (some y)) H1) v = .bad := by
            unfold L8
            split
            · exact absurd ⟨_, _, rfl⟩ hp
            · rfl
          rw [this] at k1
          exact k1.elim
      obtain ⟨v1, v2, rfl⟩ := hv
      refine W.item S1 a (fun j => .inr j) hw1 r1 fun u h' tk kk V m => ?_
      obtain ⟨t, p1, p2, rfl, ht, V1, V2⟩ := Kw V
      refine W.own (s := { s1 with heap := h', toks := tk }) m fun h'' kk' r2 => ?_
      refine bC fun hno => ?_
      have kk2 : ∀ {a : Addr} {o : Obj}, ¬ J a → s1.heap.get? a = some o → h''.get? a = some o := fun nj e => kk' nj (kk nj e)
      have S2 := S1.stepJ (tk := tk) kk2 (W.off S1 r1) hJb (W.live r2)
      have X2 : Ext env μ μ1 s.heap h'' := X1.but hJ0 kk2
      have V' : VR (C.plus J) μ1 h'' (.tup [v1, v2]) (.ref t) := VR.butJ (C := C.plus J) (J := J) (fun j => .inr j) kk' V
      obtain ⟨t', q1, q2, et, ht', W1, W2⟩ := Kw V'
      cases et
      refine hno ?_
      refine Nf (M := model C.prog C.w) (C := C.plus J) (G.q.trans hq) hS.sc a S2 hx hk hy hky ht' W1 W2 fun s3 S3 X3 => ?_
      refine Wf hb G hS a st W S3 (W.frameX S2 r2 X3) (X2.trans X3) rfl k1 (fun s4 ρ4 μ4 H4 S4 r4 hw4 X4 k4 => ?_) (fun u s3 q => q)
      exact ⟨l.length, Nat.lt_succ_self _, ⟨l, ρ4, μ4, H4, rfl, S4, r4, hw4, X4, k4⟩⟩
  | exc c H0 => rw [e] at k; exact k.elim
  | bad => rw [e] at k; exact k.elim
end
end Mine
namespace Mine
open PySem PySem.Calls PyProof.Rows PySem.SeqAt
section
variable {C : Cx} {T : Tab} {n b : Nat} {Γ : List Str} {S : Scope} {nm : Bool}
variable {base : Bs} {env : Env} {ρ : A8} {μ μ' : List Addr} {H H' : A0} {s s' : Shared} {A : Around} {E : Value → Shared → Prop} {Q : Flow → Shared → Prop}
theorem P7 {prog : Program} {w : World} {l : Addr} {items : Array Value} {k : Int} {t : Tok} {v : Value} {Q : Unit → Shared → Prop} (hl : s.heap.PlainList l items) (h0 : 0 ≤ k) (hfit : k < 2 ^ 63) (hn : k < items.size)
    (hQ : ∀ h', h'.PlainList l (items.setIfInBounds k.toNat v) → Heap.SameBut l s.heap h' → Q () { s with heap := h' }) : wpAny (model prog w) A (setItem (.ref l) (.int k t) v) Q E s := by
  obtain ⟨ne, ho⟩ := hl
  have hT : s.TypeIs (.ref l) "list" := ⟨_, ho, rfl⟩
  unfold setItem
  try with_reducible refine wpAny_holding ?_
  first | refine wpAny_bind (wpAny_pure ?_) | skip
  refine wpAny_bind (wpAny_sequenceKey hT (by decide) ?_)
  refine wpAny_bind (wpAny_callSpecial?_slot (name := Str.ofString "__setitem__") hT slot_list_setitem
    (wpAny_call_entry slot_list_setitem hT entry_list_setitem ?_ (args_list_setitem _ _ _)))
  show wpAny _ _ (Builtin.List.listSubscript? (.int k t) >>= _) _ _ s
  refine wpAny_bind (wpAny_listSubscript_int (fitsIndex_of h0 hfit) ?_)
  clear hfit
  obtain ⟨j, rfl⟩ := Int.eq_ofNat_of_zero_le h0
  have hj : j < items.size := by exact Sr hn
  have hx' : items[j]? = some items[j] := Array.getElem?_eq_getElem hj
  show wpAny _ _ ((seqItemAt l j >>= fun r => pure (r.map (j, ·))) >>= _) _ _ s
  refine wpAny_bind (wpAny_bind (wpAny_seqItemAt ho rfl (wpAny_pure ?_)))
  rw [hx']
  show wpAny _ _ (setSeqItemAt l j v >>= _) _ _ s
  have hfin : (s.heap.update l (Obj.mapSeq (·.setIfInBounds j v))).PlainList l (items.setIfInBounds j v) := by
    refine ⟨_, Heap.get?_update_self _ ho rfl⟩
  refine wpAny_bind (wpAny_setSeqItemAt ho rfl ?_)
  first
    | exact wpAny_bind (wpAny_pure (wpAny_pure ⟨.none, rfl, wpAny_pure (hQ _ hfin (Heap.SameBut.update ..))⟩))
    | exact wpAny_pure ⟨.none, rfl, wpAny_pure (hQ _ hfin (Heap.SameBut.update ..))⟩
theorem A2f (vs : List Value) (j : Nat) (x : Value) : vs.toArray.setIfInBounds j x = (vs.set j x).toArray := by simp
theorem A3f {v k x : AV} {p q u : Value} {Q : Unit → Shared → Prop} (st : St C base b env Γ ρ μ H s) (V : VR C μ s.heap v p) (K : VR C μ s.heap k q) (X : VR C μ s.heap x u) (e : Gv b v k x H = .ok () H')
    (kk : ∀ s', St C base b env Γ ρ μ H' s' → Ext env μ μ s.heap s'.heap → Q () s') : wpAny (model C.prog C.w) A (setItem p q u) Q E s := by
  unfold Gv at e
  split at e
  · rename_i r k'
    split at e
    · rename_i xs ex
      split at e
      · rename_i hc; cases e
        obtain ⟨c, rfl, ec⟩ := V.isRef
        obtain ⟨t, rfl⟩ := K.isInt
        obtain ⟨hz, a', vs, ea', p1, q1⟩ := st.hp.list ex
        rw [ec] at ea'; cases ea'
        have hlim : xs.length < 2 ^ 63 := Nat.lt_of_le_of_lt hz (by decide)
        refine P7 p1 hc.2.1 (A1f hc.2.2 hlim) (by rw [List.size_toArray, ← q1.length]; exact hc.2.2) fun h' pl hs => ?_
        rw [A2f] at pl
        obtain ⟨S', X'⟩ := st.turn ex ec hc.1 pl hs (q1.set k'.toNat X) (by simpa using hz)
        exact kk _ S' X'
      · cases e
    · cases e
  · cases e
theorem Zt {v o i : Expr} {p : Pos} {l : Nat} : swapsWith v (some (.Subscript o i p)) l env = pure false := by
  cases v <;> rfl
theorem SOk.setIdx {o i v : Expr} {sp pos : Pos} {d : A8 → A0 → SR} {dv d1 d2 : A8 → A0 → Res AV} (hv : Al C T n b Γ S v dv) (h1 : Al C T n b Γ S o d1) (h2 : Al C T n b Γ S i d2)
    (hd : ∀ ρ H, d ρ H = (match (dv ρ H).get fun x H => (d1 ρ H).get fun v H => (d2 ρ H).get fun k H => Gv b v k x H with
      | .ok _ H => .next ρ H
      | _ => .bad)) : SOk C T n b Γ S (.Assign [.Subscript o i sp] v pos) d := by
  refine ⟨?_⟩
  intro base env ρ μ H s A E Q G hS st a k
  rw [hd] at k
  split at k
  · rename_i w H' e
    refine bC fun hno => ?_
    obtain ⟨x, H1, e1, e⟩ := Res.get_ok e
    obtain ⟨y, H2, e2, e⟩ := Res.get_ok e
    obtain ⟨z, H3, e3, e⟩ := Res.get_ok e
    refine hno ?_
    refine wpAny_Assign_Subscript (hv.ok G hS.sc st a e1 fun u s1 μ1 X1 S1 V1 => h1.ok G hS.sc S1 a e2 fun p s2 μ2 X2 S2 V2 => h2.ok G hS.sc S2 a e3 fun q s3 μ3 X3 S3 V3 => ?_) Zt
    exact A3f S3 (V2.mono S2.hp S2.er X3) V3 ((V1.mono S1.hp S1.er X2).mono S2.hp S2.er X3) e fun s4 S4 X4 => k s4 μ3 (((X1.trans X2).trans X3).trans X4) S4
  · exact k.elim
theorem Sx (hS : env.scope = S) (a : AOk base A n) : ∀ (is : List Nat) (ts : List Expr) (vs : List AV) (us : List Value) {ρ ρ' : A8} {μ : List Addr} {s : Shared} {Q : Unit → Shared → Prop}, O3 Γ S is ts = true → St C base b env Γ ρ μ H s → VRs C μ s.heap vs us → Eg is vs ρ = some ρ' →
    (∀ s', St C base b env Γ ρ' μ H s' → Ext env μ μ s.heap s'.heap → Q () s') → wpAny (model C.prog C.w) A (assignInOrder ((assignEach ts env).map (·.2)) us) Q E s
  | [], ts, vs, us, ρ, ρ', μ, s, Q, hc, st, V, e, k => by
    cases D0 hc
    cases V with
      | nil => cases Option.some.inj e; exact wpAny_assignInOrder_none (k _ st .refl)
      | cons _ _ => cases e
  | i :: is, ts, vs, us, ρ, ρ', μ, s, Q, hc, st, V, e, k => by
    obtain ⟨⟨_, r⟩, hy, g1⟩ := Af hc
    obtain ⟨⟨x, px⟩, hx, g2⟩ := Af g1
    obtain ⟨h1, g3⟩ := A9 g2
    obtain ⟨h2, g4⟩ := A9 g3
    cases Bu hx
    cases Tp hy
    · cases V with
      | nil => cases e
      | cons V1 V2 =>
        show wpAny _ _ (assignInOrder ((assign (.Name x px) env) :: ((assignEach r env).map (·.2))) (_ :: _)) Q E s
        refine wpAny_assignInOrder_more (wpAny_assign_Name (st.bind (Ba h1) (Hh hS h2) V1 fun s2 S2 X2 => ?_))
        exact Sx hS a is r _ _ g4 S2 (V2.mono st.hp st.er X2) e fun s3 S3 X3 => k s3 S3 (X2.trans X3)
theorem Lr : ∀ {is : List Nat} {ts : List Expr}, O3 Γ S is ts = true → (assignEach ts env).length = is.length ∧ (assignEach ts env).findIdx? (·.1) = none
  | [], ts, hc => by
    cases D0 hc
    exact ⟨rfl, rfl⟩
  | i :: is, ts, hc => by
    obtain ⟨⟨_, r⟩, hy, g1⟩ := Af hc
    obtain ⟨⟨x, px⟩, hx, g2⟩ := Af g1
    cases Bu hx
    cases Tp hy
    · obtain ⟨h1, h2⟩ := Lr (A9 (A9 g2).2).2
      refine ⟨by show (_ :: assignEach r env).length = _; simp [h1], ?_⟩
      show List.findIdx? (·.1) ((false, _) :: assignEach r env) = none
      rw [List.findIdx?_cons, h2]; rfl
theorem Ld : ∀ {is : List Nat} {vs : List AV} {ρ ρ' : A8}, Eg is vs ρ = some ρ' → vs.length = is.length
  | [], [], _, _, _ => rfl
  | [], _ :: _, _, _, e => by cases e
  | _ :: _, [], _, _, e => by cases e
  | i :: is, v :: vs, _, _, e => congrArg (· + 1) (Ld (is := is) (vs := vs) e)
theorem SOk.assignT (hq : T.q = false) {is : List Nat} {ts : List Expr} {x1 : Nat} {v : Expr} {tp pos : Pos} {d : A8 → A0 → SR} {d1 : A8 → A0 → Res AV} (hc : O3 Γ S is ts = true) (hv : Mg v = true) (h : Al C T n b Γ S v d1)
    (hd : ∀ ρ H, d ρ H = (match d1 ρ H with
      | .ok v H => (match v with
        | .tup vs => (match Eg is vs ρ with | some ρ' => .next ρ' H | none => .bad)
        | _ => .bad)
      | _ => .bad)) : SOk C T n b Γ S (.Assign [.Tuple ts x1 tp] v pos) d := by
  refine ⟨?_⟩
  intro base env ρ μ H s A E Q G hS st a k
  rw [hd] at k
  split at k
  · rename_i w H1 e
    split at k
    · rename_i vs
      split at k
      · rename_i ρ' eρ
        refine wpAny_Assign_stores (h.ok G hS.sc st a e fun u s1 μ1 X1 S1 V1 => ?_) ?_ ?_
        · cases V1 with
          | tup t nz l q =>
            rename_i t' items
            obtain ⟨h1, h2⟩ := Lr (env := env) hc
            show wpAny _ _ (assign (.Tuple ts x1 tp) env (.ref t')) _ _ _
            refine wpAny_assign_Tuple (a.handled (G.q.trans hq)) t (by rw [h1, List.size_toArray, ← q.length, Ld eρ]) h2 fun h' he => ?_
            have kk : ∀ {a : Addr} {o : Obj}, s1.heap.get? a = some o → h'.get? a = some o := fun {a o} e => he _ _ (fun e' => by rw [e', Aw] at e; cases e) e
            refine Sx hS.sc a is ts vs items hc (S1.grow (s' := { s1 with heap := h' }) kk rfl rfl) (q.keeps kk) eρ fun s2 S2 X2 => ?_
            exact k s2 μ1 ((X1.trans (Ext.grow kk)).trans X2) S2
        · cases v <;> first | rfl | cases hv
        · cases v <;> first | rfl | cases hv
      · exact k.elim
    · exact k.elim
  · exact k.elim
end
end Mine
namespace Mine
open PySem PySem.Calls PyProof.Rows PySem.SeqAt
section
variable {C : Cx} {T : Tab} {n b : Nat} {Γ : List Str} {S : Scope} {nm : Bool} {J : Addr → Prop}
variable {base : Bs} {env cenv : Env} {ρ : A8} {μ μ' : List Addr} {H H' : A0} {s s' : Shared} {A : Around} {E : Value → Shared → Prop} {Q : Flow → Shared → Prop}
theorem Om {h : Heap} {D : Addr} {its : Array Value} (p : h.PlainList D its) {ts : Array Value} : ¬ h.IsTuple D ts := by
  obtain ⟨n, p⟩ := p
  rintro ⟨o, ho, hc, _⟩
  rw [p] at ho; cases ho; simp at hc
theorem Lz {h : Heap} {D : Addr} {its : Array Value} (p : h.PlainList D its) {o : Obj} {vs : Array Value} (e : h.get? D = some o) : o.data ≠ .fields vs := by
  obtain ⟨n, p⟩ := p
  rw [p] at e; cases e; intro e; cases e
theorem Lb {h : Heap} {D : Addr} {m : Str → Option Value} (p : h.Ns D m) {ts : Array Value} : ¬ h.IsTuple D ts := by
  obtain ⟨o', es, ep, ho', hd, _⟩ := p
  rintro ⟨o, ho, _, _, hd'⟩
  rw [ho'] at ho; cases ho; rw [hd] at hd'; cases hd'
theorem Km {h : Heap} {D : Addr} {m : Str → Option Value} (p : h.Ns D m) {o : Obj} {vs : Array Value} (e : h.get? D = some o) : o.data ≠ .fields vs := by
  obtain ⟨o', es, ep, ho', hd, _⟩ := p
  rw [ho'] at e; cases e; rw [hd]; intro e; cases e
theorem St.other (S : St C base b env Γ ρ μ H s) {D : Addr} {h' : Heap} {tk : Nat} (ht : ∀ {ts : Array Value}, ¬ s.heap.IsTuple D ts) (hf : ∀ {o : Obj} {vs : Array Value}, s.heap.get? D = some o → o.data ≠ .fields vs)
    (hO : ¬ Own μ env D) (hb : base.get? D = none) (hs : Heap.SameBut D s.heap h') (hl : C.z D → ∃ o, h'.get? D = some o) (hfd : D ∉ base.fs.filterMap (·.frame)) : St C base b env Γ ρ μ H { s with heap := h', toks := tk } := by
  have st : ∀ {c : Addr} {o : Obj}, s.heap.get? c = some o → ¬ (c = D) → h'.get? c = some o := fun e n => (hs.2 _ n).trans e
  have ht' : ∀ {c : Addr} {items : Array Value}, s.heap.IsTuple c items → ¬ (c = D) := fun t e => by subst e; exact ht t
  have hf' : ∀ {c : Addr} {o : Obj} {vs : Array Value}, s.heap.get? c = some o → o.data = .fields vs → ¬ (c = D) := fun e d e' => by subst e'; exact hf e d
  have mono : ∀ {x : AV} {v : Value}, VR C μ s.heap x v → VR C μ h' x v := fun q => VR.mono' (P := (· = D)) List.prefix_rfl (fun e n => .same (st e n)) ht' hf' q
  have monos : ∀ {x : List AV} {v : List Value}, VRs C μ s.heap x v → VRs C μ h' x v := fun q => VRs.mono' (P := (· = D)) List.prefix_rfl (fun e n => .same (st e n)) ht' hf' q
  have ff : FF C.z h' base.g base.fs := FF.but st S.ff hfd
  refine ⟨?_, ⟨S.hp.len, S.hp.nd, ?_, ?_⟩, S.er.mono ?_ ?_ mono, S.fresh, S.noloc, S.lm, S.nocell, S.gens, S.os, ?_, ff⟩
  · intro c o e
    exact (S.keep c o e).map id fun e1 => st e1 fun e' => by subst e'; rw [hb] at e; cases e
  · intro i xs e
    obtain ⟨l, c, ws, e', ⟨n, p⟩, q⟩ := S.hp.list e
    exact ⟨l, c, ws, e', ⟨n, st p fun e'' => hO (.inl (e'' ▸ M5 e'))⟩, monos q⟩
  · intro i e
    refine bC fun hno => ?_
    obtain ⟨c, n, e', p⟩ := S.hp.dict e
    refine hno ?_
    exact ⟨c, n, e', st p fun e'' => hO (.inl (e'' ▸ M5 e'))⟩
  · intro m n
    exact n.at fun o e => st e fun e' => hO (.inr (.inl e'.symm))
  · intro x c o e1 e2
    exact st e2 fun e' => hO (.inr (.inr ⟨x, e' ▸ e1⟩))
  · intro a z
    refine bC fun hno => ?_
    obtain ⟨o, e⟩ := S.zl z
    refine hno ?_
    by_cases hc : a = D
    · subst hc; exact hl z
    · exact ⟨o, st e hc⟩
theorem VRs.other {h h' : Heap} {D : Addr} (ht : ∀ {ts : Array Value}, ¬ h.IsTuple D ts) (hf : ∀ {o : Obj} {vs : Array Value}, h.get? D = some o → o.data ≠ .fields vs) (hs : Heap.SameBut D h h') {x : List AV} {v : List Value} (q : VRs C μ h x v) : VRs C μ h' x v :=
  VRs.mono' (P := (· = D)) List.prefix_rfl (fun e n => .same ((hs.2 _ n).trans e)) (fun t e => by subst e; exact ht t) (fun e d e' => by subst e'; exact hf e d) q
theorem VR.other {h h' : Heap} {D : Addr} (ht : ∀ {ts : Array Value}, ¬ h.IsTuple D ts) (hf : ∀ {o : Obj} {vs : Array Value}, h.get? D = some o → o.data ≠ .fields vs) (hs : Heap.SameBut D h h') {x : AV} {v : Value} (q : VR C μ h x v) : VR C μ h' x v :=
  VR.mono' (P := (· = D)) List.prefix_rfl (fun e n => .same ((hs.2 _ n).trans e)) (fun t e => by subst e; exact ht t) (fun e d e' => by subst e'; exact hf e d) q
structure A4s (env cenv : Env) (xs : List Str) (h : Heap) : Prop where
  newL : h.get? cenv.locals = none
  cells : ∀ {y : Str} {c : Addr}, cenv.cells.lookup y = some c → h.get? c = none ∨ (env.cells.lookup y = some c ∧ (cenv.kindOf y = some .cell ∨ cenv.kindOf y = some .free) ∧ y ∉ xs)
theorem Hq {xs Γ : List Str} {y : Str} : slot (xs ++ Γ) y = (slot xs y).or ((slot Γ y).map (· + xs.length)) := by
  unfold slot; rw [List.findIdx?_append]
theorem Vy {xs : List Str} {y : Str} (hy : y ∉ xs) : slot xs y = none := by
  unfold slot; rw [List.findIdx?_eq_none_iff]
  intro x hx
  cases e : x == y with
  | false => rfl
  | true => exact absurd (eq_of_beq e ▸ hx) hy
theorem A5a {xs : List Str} {y : Str} (hy : y ∈ xs) : ∃ j, slot xs y = some j ∧ j < xs.length := by
  unfold slot
  cases e : List.findIdx? (fun x => x == y) xs with
  | none => rw [List.findIdx?_eq_none_iff] at e; have := e y hy; simp at this
  | some j => rw [List.findIdx?_eq_some_iff_getElem] at e; exact ⟨j, rfl, e.1⟩
theorem L2 {xs Γ : List Str} {y : Str} (hy : y ∉ xs) : slot (xs ++ Γ) y = (slot Γ y).map (· + xs.length) := by
  rw [Hq, Vy hy]; simp
structure E2 (J : Addr → Prop) (env : Env) (μ μ' : List Addr) (h h' : Heap) : Prop where
  pre : μ <+: μ'
  stay : ∀ {a : Addr} {o : Obj}, h.get? a = some o → ¬ Own μ env a → ¬ J a → Kp True a o h'
  new : ∀ {a : Addr}, a ∈ μ' → a ∉ μ → h.get? a = none
  live : ∀ {a : Addr} {o : Obj}, h.get? a = some o → ¬ J a → ∃ o', h'.get? a = some o' ∧ (DT o → DT o')
theorem E2.grow {h h' : Heap} (k : ∀ {a : Addr} {o : Obj}, h.get? a = some o → h'.get? a = some o) : E2 J env μ μ h h' := ⟨List.prefix_rfl, fun e _ _ => .same (k e), fun p q => absurd p q, fun e _ => ⟨_, k e, id⟩⟩
theorem E2.trans {h h' h'' : Heap} {μ'' : List Addr} (off : ∀ {a : Addr}, J a → a ∉ μ'') (x : E2 J env μ μ' h h') (y : Ext env μ' μ'' h' h'') : E2 J env μ μ'' h h'' := by
  refine ⟨x.pre.trans y.pre, fun {a o} e ho nj => (x.stay e ho nj).trans fun e' => y.stay e' ?_, fun {a} hm hn => ?_, fun e nj => let ⟨_, e', d⟩ := x.live e nj; let ⟨o, e2, d2⟩ := y.live.go e'; ⟨o, e2, fun q => d2 (d q)⟩⟩
  · rintro (q | q | q)
    · by_cases hq : a ∈ μ
      · exact ho (.inl hq)
      · rw [x.new q hq] at e; cases e
    · exact ho (.inr (.inl q))
    · exact ho (.inr (.inr q))
  · by_cases hq : a ∈ μ'
    · exact x.new hq hn
    · cases e : h.get? a with
      | none => rfl
      | some o =>
        by_cases hj : J a
        · exact absurd hm (off hj)
        · obtain ⟨o', e', _⟩ := x.live e hj; rw [y.new hm hq] at e'; cases e'
theorem E2.step {h h' h'' : Heap} (x : E2 J env μ μ' h h') (k : ∀ {a : Addr} {o : Obj}, ¬ J a → h'.get? a = some o → h''.get? a = some o) : E2 J env μ μ' h h'' :=
  ⟨x.pre, fun e ho nj => (x.stay e ho nj).map id (k nj), x.new, fun e nj => let ⟨o, e', d⟩ := x.live e nj; ⟨o, k nj e', d⟩⟩
theorem E2.after {h0 h h' : Heap} {μ0 : List Addr} (x : Ext env μ0 μ h0 h) (y : E2 J env μ μ' h h') (hJ : ∀ {a : Addr}, J a → h0.get? a = none) : Ext env μ0 μ' h0 h' := by
  have nj : ∀ {a : Addr} {o : Obj}, h0.get? a = some o → ¬ J a := fun e j => by rw [hJ j] at e; cases e
  refine ⟨x.pre.trans y.pre, fun {a o} e ho => (x.stay e ho).trans fun e' => y.stay e' ?_ (nj e), fun {a} hm hn => ?_, ⟨fun e => let ⟨_, e', d⟩ := x.live.go e; let ⟨o, e2, d2⟩ := y.live e' (nj e); ⟨o, e2, fun q => d2 (d q)⟩⟩⟩
  · rintro (q | q | q)
    · by_cases hq : a ∈ μ0
      · exact ho (.inl hq)
      · rw [x.new q hq] at e; cases e
    · exact ho (.inr (.inl q))
    · exact ho (.inr (.inr q))
  · by_cases hq : a ∈ μ
    · exact x.new hq hn
    · cases e : h0.get? a with
      | none => rfl
      | some o => obtain ⟨o', e', _⟩ := x.live.go e; rw [y.new hm hq] at e'; cases e'
theorem St.leave {xs : List Str} {vals : A8} (S0 : St C base b env Γ ρ μ H s) (N : A4s env cenv xs s.heap) (hv : vals.length = xs.length) (S1 : St C base b cenv (xs ++ Γ) (vals ++ ρ) μ' H' s') (X : E2 J cenv μ μ' s.heap s'.heap)
    (hJz : ∀ {a : Addr}, J a → C.z a) (hJo : ∀ {a : Addr}, J a → ¬ Own μ env a) : St C base b env Γ ρ μ' H' s' ∧ E2 J env μ μ' s.heap s'.heap := by
  refine bC fun hno => ?_
  have own : ∀ {a : Addr} {o : Obj}, s.heap.get? a = some o → ¬ Own μ env a → ¬ Own μ cenv a := by
    rintro a o e hn (q | q | ⟨y, q⟩)
    · exact hn (.inl q)
    · subst q; rw [N.newL] at e; cases e
    · rcases N.cells q with q' | ⟨q', _⟩
      · rw [q'] at e; cases e
      · exact hn (.inr (.inr ⟨y, q'⟩))
  have X' : E2 J env μ μ' s.heap s'.heap := ⟨X.pre, fun e hn nj => X.stay e (own e hn) nj, X.new, X.live⟩
  have mono : ∀ {x : AV} {v : Value}, VR C μ s.heap x v → VR C μ' s'.heap x v := fun q => VR.mapZ (z := C.z) X.pre (fun e nz k => by
    rcases k with ⟨its, t⟩ | ⟨vs, d⟩
    · exact (X'.stay e (Co S0.hp S0.er t) fun j => nz (hJz j)).ex (Uc t e)
    · exact (X'.stay e (B9 S0.hp S0.er e d) fun j => nz (hJz j)).ex fun _ _ q => by rw [d] at q; cases q) (fun _ nz => nz) q
  obtain ⟨m, nn, q⟩ := S0.er.ns
  have hL : ∀ {o : Obj}, s.heap.get? env.locals = some o → Kp True env.locals o s'.heap := fun {o} e => by
    refine X.stay e ?_ (fun j => hJo j (.inr (.inl rfl)))
    rintro (q | q | ⟨y, q⟩)
    · exact S0.lm q
    · rw [q, N.newL] at e; cases e
    · rcases N.cells q with q' | ⟨q', _⟩
      · rw [q'] at e; cases e
      · obtain ⟨_, o1, h1, d1⟩ := S0.er.cell q'
        obtain ⟨o2, _, _, h2, d2, _⟩ := nn
        rw [h1] at h2; cases h2; rw [d1] at d2; cases d2
  have hc : ∀ {y : Str} {c : Addr} {o : Obj}, env.cells.lookup y = some c → cenv.cells.lookup y ≠ some c → s.heap.get? c = some o → s'.heap.get? c = some o := fun {y c o} e1 ne e => by
    refine (X.stay e ?_ (fun j => hJo j (.inr (.inr ⟨y, e1⟩)))).ex (by obtain ⟨_, o1, h1, d1⟩ := S0.er.cell e1; rw [e] at h1; cases h1; intro _ _ q; rw [d1] at q; cases q)
    rintro (q | q | ⟨z, q⟩)
    · obtain ⟨_, o1, h1, d1⟩ := S0.er.cell e1
      obtain ⟨i, hi⟩ := Xx q
      obtain ⟨ob, eb⟩ := S0.hp.get hi
      cases ob with
      | list xs => obtain ⟨_, a', _, ea, ⟨_, p⟩, _⟩ := S0.hp.list eb; rw [hi] at ea; cases ea; rw [p] at h1; cases h1; cases d1
      | dict => obtain ⟨a', _, ea, p⟩ := S0.hp.dict eb; rw [hi] at ea; cases ea; rw [p] at h1; cases h1; cases d1
    · rw [q] at e; rw [N.newL] at e; cases e
    · rcases N.cells q with q' | ⟨q', _⟩
      · rw [q'] at e; cases e
      · have := S0.er.inj q' e1; subst this; exact ne q
  refine hno ?_
  refine ⟨⟨S1.keep, S1.hp, ⟨S0.er.kind, ⟨m, Kp.ns nn hL, fun e1 e2 e3 => let ⟨u, e4, v⟩ := q e1 e2 e3; ⟨u, e4, mono v⟩⟩, ?_, ?_, S0.er.inj, S0.er.globals, S0.er.builtins⟩, S1.fresh, S0.noloc, ?_, S0.nocell, S1.gens, S1.os, S1.zl, S1.ff⟩, X'⟩
  · intro y ky
    refine bC fun hno => ?_
    obtain ⟨c, o, e, hcell, qv⟩ := S0.er.cells ky
    refine hno ?_
    by_cases hin : cenv.cells.lookup y = some c
    · obtain ⟨ob, eb, _⟩ := id hcell
      rcases N.cells hin with q' | ⟨_, kc, hy⟩
      · rw [q'] at eb; cases eb
      · refine bC fun hno => ?_
        obtain ⟨c2, o2, e2, hcell2, qv2⟩ := S1.er.cells kc
        rw [hin] at e2; cases e2
        refine hno ?_
        refine ⟨c, o2, e, hcell2, fun {i v} e1 e3 => qv2 (i := i + xs.length) (v := v) (by rw [L2 hy, e1]; rfl) ?_⟩
        rw [List.getElem?_append_right (by exact Aap (Nat.le_of_eq hv)), hv, Nat.add_sub_cancel]; exact e3
    · obtain ⟨ob, eb, db⟩ := hcell
      exact ⟨c, o, e, ⟨ob, hc e hin eb, db⟩, fun e1 e2 => let ⟨u, e3, v⟩ := qv e1 e2; ⟨u, e3, mono v⟩⟩
  · intro y c e
    by_cases hin : cenv.cells.lookup y = some c
    · exact S1.er.cell hin
    · obtain ⟨o, ob, eb, db⟩ := S0.er.cell e
      exact ⟨o, ob, hc e hin eb, db⟩
  · intro q
    by_cases hq : env.locals ∈ μ
    · exact S0.lm hq
    · obtain ⟨o, _, _, ho, _⟩ := nn
      rw [X.new q hq] at ho; cases ho
end
noncomputable def Dj (env : Env) : List (Str × NameKind) → List (Str × Addr) → List (Str × Addr)
  | [], acc => acc
  | (x, k) :: r, acc => if k == .free then Dj env r ((x, (env.cells.lookup x).getD 0) :: acc) else Dj env r acc
theorem I3 {env : Env} (f : Str × NameKind → List (Str × Addr) → Sem (ForInStep (List (Str × Addr))))
    (hf : ∀ x k cs, f (x, k) cs = if k == .free then (do let a ← cellOf env x; pure (.yield ((x, a) :: cs))) else pure (.yield cs)) :
    ∀ (names : List (Str × NameKind)) (acc : List (Str × Addr)), (∀ p ∈ names, p.2 = .free → ∃ c, env.cells.lookup p.1 = some c) → forIn names acc f = pure (Dj env names acc)
  | [], acc, _ => by rw [List.forIn_nil]; rfl
  | (x, k) :: r, acc, h => by
    rw [List.forIn_cons, hf]
    unfold Dj
    by_cases hk : (k == .free) = true
    · rw [if_pos hk, if_pos hk]
      obtain ⟨c, hc⟩ := h (x, k) List.mem_cons_self (eq_of_beq hk)
      have : cellOf env x = pure c := by unfold cellOf; rw [hc]
      rw [this, hc, pure_bind, pure_bind]
      exact I3 f hf r _ fun p hp => h p (List.mem_cons_of_mem _ hp)
    · rw [if_neg hk, if_neg hk, pure_bind]
      exact I3 f hf r _ fun p hp => h p (List.mem_cons_of_mem _ hp)
theorem Pc {env : Env} {scope : Scope} (h : ∀ p ∈ scope.names, p.2 = .free → ∃ c, env.cells.lookup p.1 = some c) : closureFor scope env = pure (Dj env scope.names []) := by
  simp only [closureFor]
  rw [I3 _ (fun x k cs => by cases hk : k == NameKind.free <;> simp [hk]) scope.names [] h]
  rfl
theorem Ef {env : Env} : ∀ (names : List (Str × NameKind)) (acc : List (Str × Addr)) {y : Str} {c : Addr}, (Dj env names acc).lookup y = some c →
    ((y, .free) ∈ names ∧ (env.cells.lookup y).getD 0 = c) ∨ acc.lookup y = some c
  | [], acc, y, c, h => .inr h
  | (x, k) :: r, acc, y, c, h => by
    unfold Dj at h
    split at h
    · rename_i hk
      have hk' : k = .free := eq_of_beq hk
      subst hk'
      rcases Ef r _ h with ⟨q, e⟩ | q
      · exact .inl ⟨List.mem_cons_of_mem _ q, e⟩
      · rw [List.lookup_cons] at q
        cases e : y == x with
        | true => rw [e] at q; cases q; rw [eq_of_beq e]; exact .inl ⟨List.mem_cons_self, rfl⟩
        | false => rw [e] at q; exact .inr q
    · rcases Ef r _ h with ⟨q, e⟩ | q
      · exact .inl ⟨List.mem_cons_of_mem _ q, e⟩
      · exact .inr q
theorem Jk {env : Env} : ∀ (names : List (Str × NameKind)) (acc : List (Str × Addr)) {y : Str}, (y, .free) ∈ names ∨ (∃ c, acc.lookup y = some c) → ∃ c, (Dj env names acc).lookup y = some c
  | [], acc, y, h => by
    rcases h with h | h
    · cases h
    · exact h
  | (x, k) :: r, acc, y, h => by
    unfold Dj
    split
    · rename_i hk
      refine Jk r _ ?_
      by_cases hyx : y = x
      · subst hyx; exact .inr ⟨(env.cells.lookup y).getD 0, by rw [List.lookup_cons]; simp⟩
      · rcases h with h | ⟨c, h⟩
        · rcases List.mem_cons.mp h with h | h
          · cases h; exact absurd rfl hyx
          · exact .inl h
        · refine .inr ⟨c, ?_⟩
          rw [List.lookup_cons, show (y == x) = false by simpa using hyx]; exact h
    · rename_i hk
      refine Jk r _ ?_
      rcases h with h | h
      · rcases List.mem_cons.mp h with h | h
        · cases h; exact absurd rfl hk
        · exact .inl h
      · exact .inr h
theorem Fj : ∀ (names : List (Str × NameKind)) (k : Nat) (acc cl : List (Str × Addr)), cellsFrom k names (acc ++ cl) = cellsFrom k names acc ++ cl
  | [], _, _, _ => rfl
  | (x, kd) :: r, k, acc, cl => by
    unfold cellsFrom
    split
    · exact Fj r (k + 1) ((x, k) :: acc) cl
    · exact Fj r k acc cl
theorem Fi : ∀ (names : List (Str × NameKind)) (k : Nat) (acc : List (Str × Addr)) {y : Str} {c : Addr}, (cellsFrom k names acc).lookup y = some c → (y, .cell) ∈ names ∨ acc.lookup y = some c
  | [], _, _, _, _, h => .inr h
  | (x, kd) :: r, k, acc, y, c, h => by
    unfold cellsFrom at h
    split at h
    · rename_i hk
      have hk' : kd = .cell := eq_of_beq hk
      subst hk'
      rcases Fi r _ _ h with q | q
      · exact .inl (List.mem_cons_of_mem _ q)
      · rw [List.lookup_cons] at q
        cases e : y == x with
        | true => rw [eq_of_beq e]; exact .inl List.mem_cons_self
        | false => rw [e] at q; exact .inr q
    · rcases Fi r _ _ h with q | q
      · exact .inl (List.mem_cons_of_mem _ q)
      · exact .inr q
theorem Cn : ∀ (names : List (Str × NameKind)) (k : Nat) (acc : List (Str × Addr)) {y : Str}, (y, .cell) ∈ names ∨ (∃ c, acc.lookup y = some c) → ∃ c, (cellsFrom k names acc).lookup y = some c
  | [], _, acc, y, h => by
    rcases h with h | h
    · cases h
    · exact h
  | (x, kd) :: r, k, acc, y, h => by
    unfold cellsFrom
    split
    · rename_i hk
      refine Cn r _ _ ?_
      by_cases hyx : y = x
      · subst hyx; exact .inr ⟨k, by rw [List.lookup_cons]; simp⟩
      · rcases h with h | ⟨c, h⟩
        · rcases List.mem_cons.mp h with h | h
          · cases h; exact absurd rfl hyx
          · exact .inl h
        · refine .inr ⟨c, ?_⟩
          rw [List.lookup_cons, show (y == x) = false by simpa using hyx]; exact h
    · rename_i hk
      refine Cn r _ _ ?_
      rcases h with h | h
      · rcases List.mem_cons.mp h with h | h
        · cases h; exact absurd rfl hk
        · exact .inl h
      · exact .inr h
theorem Gi {S : Scope} {scope : Scope} {y : Str} : (Cq scope S).names.lookup y = (scope.names.lookup y).map fun k => if (k == .free && S.kind == .function && Bd S y == some .cell) then .cell else k := by
  have : ∀ (l : List (Str × NameKind)), (l.map fun (n, k) => if (k == .free && S.kind == .function && Bd S n == some .cell) then (n, NameKind.cell) else (n, k)).lookup y = (l.lookup y).map fun k => if (k == .free && S.kind == .function && Bd S y == some .cell) then .cell else k := by
    intro l
    induction l with
    | nil => rfl
    | cons p r ih =>
      obtain ⟨x, k⟩ := p
      rw [List.map_cons, List.lookup_cons]
      cases e : y == x with
      | true =>
        have e' := eq_of_beq e; subst e'
        by_cases hc : (k == NameKind.free && S.kind == .function && Bd S y == some .cell) = true
        · simp only [hc, if_true, List.lookup_cons, beq_self_eq_true, Option.map_some]
        · simp only [hc, Bool.false_eq_true, if_false, List.lookup_cons, beq_self_eq_true, Option.map_some]
      | false =>
        by_cases hc : (k == NameKind.free && S.kind == .function && Bd S x == some .cell) = true
        · simp only [hc, if_true, List.lookup_cons, e]; exact ih
        · simp only [hc, Bool.false_eq_true, if_false, List.lookup_cons, e]; exact ih
  exact this scope.names
end Mine
namespace Mine
open PySem PySem.Calls PyProof.Rows PySem.SeqAt
noncomputable def K8 (scope : Scope) (L : Addr) (env : Env) : Env :=
  { newEnv scope L env.globals (cellsFrom (L + 1) scope.names (Dj env scope.names [])) env.qual none .none (some env) builtinsNs with scope := Cq scope env.scope }
structure Js (scope S : Scope) (Γ xs : List Str) : Prop where
  kind : scope.kind = .function
  loc : ∀ x ∈ scope.names, x.2 = .local → scope.names.lookup x.1 = some .local
  cell : ∀ x ∈ scope.names, x.2 = .cell → scope.names.lookup x.1 = some .cell
  free : ∀ x ∈ scope.names, x.2 = .free → scope.names.lookup x.1 = some .free ∧ (Bd S x.1 = some .cell ∨ Bd S x.1 = some .free)
  own : ∀ x ∈ scope.names, (x.2 = .local ∨ x.2 = .cell) → x.1 ∈ xs ∨ slot Γ x.1 = none
  tgt : ∀ x ∈ xs, B2 scope x = true
section
variable {C : Cx} {T : Tab} {n b : Nat} {Γ : List Str} {S : Scope} {nm : Bool} {J : Addr → Prop}
variable {base : Bs} {env cenv : Env} {ρ : A8} {μ μ' : List Addr} {H H' : A0} {s s' : Shared} {A : Around} {E : Value → Shared → Prop}
variable {scope : Scope} {xs : List Str} {M : Model}
theorem A63 {Q : Env → Shared → Prop}
    (hQ : ∀ h', (∀ {a : Addr} {o : Obj}, s.heap.get? a = some o → h'.get? a = some o) → h'.Ns s.heap.objs.size (fun _ => none) → CellsOk h' (s.heap.objs.size + 1) (cellsFrom (s.heap.objs.size + 1) scope.names []) →
      Q (newEnv scope s.heap.objs.size env.globals (cellsFrom (s.heap.objs.size + 1) scope.names (Dj env scope.names [])) env.qual none .none (some env) builtinsNs) { s with heap := h' }) :
    wpAny M A (newFunctionEnv scope env.globals (Dj env scope.names []) [] env.qual none .none (some env)) Q E s := by
  simp only [newFunctionEnv, Option.isSome_some, if_true]
  refine wpAny_bind (wpAny_alloc ?_)
  refine wpAny_bind (wpAny_layCells _ (fun name kind cells => by cases hkc : kind == NameKind.cell <;> simp) _ _ _ _ ?_)
  have ok := cellsFrom_ok scope.names (s.heap.push { cls := .type "dict", data := .dict #[] }) (s.heap.objs.size + 1) [] ⟨fun _ _ hm => (nomatch hm), List.Pairwise.nil⟩ (by rw [Heap.size_push]; exact Nat.le_refl _)
  rw [Heap.size_push] at ok
  rw [show ({ s with heap := s.heap.push { cls := .type "dict", data := .dict #[] } } : Shared).heap.objs.size = s.heap.objs.size + 1 from Heap.size_push ..]
  rw [List.forIn_nil]
  refine wpAny_bind (wpAny_pure (wpAny_pure ?_))
  exact hQ _ (fun e => pushCells_keeps _ _ _ _ (Heap.get?_push_of_some _ e)) ((Heap.Ns.new s.heap (.type "dict")).keeps (pushCells_keeps _ _)) ok
theorem Je (hs : Js scope env.scope Γ xs) {y : Str} {k : NameKind} (e : (K8 scope n env).kindOf y = some k) :
    (k = .local ∧ scope.names.lookup y = some .local) ∨ (k = .cell ∧ scope.names.lookup y = some .cell) ∨ ((k = .cell ∨ k = .free) ∧ scope.names.lookup y = some .free) ∨ (k ≠ .local ∧ k ≠ .cell ∧ k ≠ .free) := by
  have e' : (Cq scope env.scope).names.lookup y = some k := e
  rw [Gi] at e'
  cases q : scope.names.lookup y with
  | none => rw [q] at e'; cases e'
  | some k0 =>
    rw [q] at e'
    simp only [Option.map_some, Option.some.injEq] at e'
    split at e'
    · rename_i hc
      simp only [Bool.and_eq_true, beq_iff_eq] at hc
      rw [hc.1.1]; exact .inr (.inr (.inl ⟨.inl e'.symm, rfl⟩))
    · subst e'
      cases k0 <;> simp
theorem Ys (hs : Js scope env.scope Γ xs) {y : Str} (e : scope.names.lookup y = some .free) : (K8 scope n env).kindOf y = some .cell ∨ (K8 scope n env).kindOf y = some .free := by
  have : (K8 scope n env).kindOf y = (Cq scope env.scope).names.lookup y := rfl
  rw [this, Gi, e]
  simp only [Option.map_some]
  split
  · exact .inl rfl
  · exact .inr rfl
theorem Oa (hs : Js scope S Γ xs) {y : Str} (e : scope.names.lookup y = some .free) : y ∉ xs := fun hy => by
  have := hs.tgt y hy
  unfold B2 Bd at this
  rw [e] at this; cases this
theorem Sl (hs : Js scope S Γ xs) {y : Str} {i : Nat} {v : AV} (hm : ∃ k, (y, k) ∈ scope.names ∧ (k = NameKind.local ∨ k = NameKind.cell)) (e : slot (xs ++ Γ) y = some i) (e' : (List.replicate xs.length (none : Option AV) ++ ρ)[i]? = some (some v)) : False := by
  obtain ⟨k, hm, hk⟩ := hm
  by_cases hy : y ∈ xs
  · obtain ⟨j, ej, hj⟩ := A5a hy
    rw [Hq, ej] at e
    simp only [Option.some_or, Option.some.injEq] at e
    subst e
    rw [List.getElem?_append_left (by simpa using hj)] at e'
    simp [hj] at e'
  · rcases hs.own _ hm hk with q | q
    · exact hy q
    · rw [L2 hy] at e
      have q' : slot Γ y = none := q
      rw [q'] at e; cases e
theorem Mq {α : Type} : ∀ (l1 l2 : List (Str × α)) (y : Str), (l1 ++ l2).lookup y = (l1.lookup y).or (l2.lookup y)
  | [], l2, y => by simp
  | (x, c) :: r, l2, y => by
    simp only [List.cons_append, List.lookup_cons]
    cases y == x with
    | true => simp
    | false => exact Mq r l2 y
theorem St.enter (st : St C base b env Γ ρ μ H s) (hs : Js scope env.scope Γ xs) {h' : Heap} {L : Addr} (hL : s.heap.objs.size ≤ L) (kk : ∀ {a : Addr} {o : Obj}, s.heap.get? a = some o → h'.get? a = some o)
    (nn : h'.Ns L (fun _ => none)) (cs : CellsOk h' (L + 1) (cellsFrom (L + 1) scope.names [])) :
    St C base b (K8 scope L env) (xs ++ Γ) (List.replicate xs.length none ++ ρ) μ H { s with heap := h' } ∧ A4s env (K8 scope L env) xs s.heap := by
  have hcl : ∀ y, (K8 scope L env).cells.lookup y = ((cellsFrom (L + 1) scope.names []).lookup y).or ((Dj env scope.names []).lookup y) := fun y => by
    show (cellsFrom (L + 1) scope.names (Dj env scope.names [])).lookup y = _
    rw [← Mq, ← Fj]; rfl
  have hcases : ∀ {y : Str} {c : Addr}, (K8 scope L env).cells.lookup y = some c → ((cellsFrom (L + 1) scope.names []).lookup y = some c) ∨ (env.cells.lookup y = some c ∧ (y, .free) ∈ scope.names) := by
    intro y c e
    rw [hcl, Option.or_eq_some_iff] at e
    rcases e with e | ⟨_, e⟩
    · exact .inl e
    · rcases Ef _ _ e with ⟨q, e'⟩ | q
      · obtain ⟨c', o', ec, _⟩ := st.er.cells (x := y) (hs.free _ q rfl).2
        rw [ec] at e'
        cases e'
        exact .inr ⟨ec, q⟩
      · cases q
  have hown : ∀ {y : Str} {c : Addr}, (cellsFrom (L + 1) scope.names []).lookup y = some c → h'.IsCell c none ∧ L + 1 ≤ c := fun e => cs.empty _ _ (mem_of_lookup e)
  have hlt : ∀ {y : Str} {c : Addr}, env.cells.lookup y = some c → c < s.heap.objs.size := fun e => by
    obtain ⟨_, o, eo, _⟩ := st.er.cell e; exact Heap.lt_size eo
  refine ⟨⟨fun a o e => (st.keep a o e).map id kk, st.hp.keeps kk, ⟨hs.kind, ⟨_, nn, ?_⟩, ?_, ?_, ?_, st.er.globals, st.er.builtins⟩, st.fresh, Bl st (Db hL), Gk st (Db hL), ?_, st.gens, st.os, fun z => let ⟨o, e⟩ := st.zl z; ⟨o, kk e⟩, (Lv.grow kk).ff st.ff⟩, ⟨Db hL, ?_⟩⟩
  · intro y i v e1 e2 e3
    exfalso
    rcases Je hs e2 with ⟨_, q⟩ | ⟨q, _⟩ | ⟨q, _⟩ | ⟨q, _⟩
    · exact Sl hs ⟨_, mem_of_lookup q, .inl rfl⟩ e1 e3
    · cases q
    · rcases q with q | q <;> cases q
    · exact q rfl
  · intro y ky
    have : scope.names.lookup y = some .cell ∨ scope.names.lookup y = some .free := by
      rcases ky with ky | ky
      · rcases Je hs ky with ⟨q, _⟩ | ⟨_, q⟩ | ⟨_, q⟩ | ⟨_, q, _⟩
        · cases q
        · exact .inl q
        · exact .inr q
        · exact absurd rfl q
      · rcases Je hs ky with ⟨q, _⟩ | ⟨q, _⟩ | ⟨_, q⟩ | ⟨_, _, q⟩
        · cases q
        · cases q
        · exact .inr q
        · exact absurd rfl q
    rcases this with q | q
    · obtain ⟨c, e⟩ := Cn scope.names (L + 1) [] (.inl (mem_of_lookup q))
      refine ⟨c, none, by rw [hcl, e]; rfl, (hown e).1, fun e1 e2 => (Sl hs ⟨_, mem_of_lookup q, .inr rfl⟩ e1 e2).elim⟩
    · have hm := mem_of_lookup q
      obtain ⟨c, o, ec, hcell, qv⟩ := st.er.cells (x := y) (hs.free _ hm rfl).2
      have hno : (cellsFrom (L + 1) scope.names []).lookup y = none := by
        cases e : (cellsFrom (L + 1) scope.names []).lookup y with
        | none => rfl
        | some c' =>
          rcases Fi _ _ _ e with q' | q'
          · have := hs.cell _ q' rfl; rw [q] at this; cases this
          · cases q'
      obtain ⟨c', e'⟩ := Jk (env := env) scope.names [] (.inl hm)
      have : c' = c := by
        rcases Ef _ _ e' with ⟨_, q'⟩ | q'
        · rw [ec] at q'; exact q'.symm
        · cases q'
      subst this
      obtain ⟨ob, eb, db⟩ := hcell
      refine ⟨c', o, by rw [hcl, hno, e']; rfl, ⟨ob, kk eb, db⟩, fun {i v} e1 e2 => ?_⟩
      have hy := Oa hs q
      rw [L2 hy] at e1
      cases ei : slot Γ y with
      | none => rw [ei] at e1; cases e1
      | some j =>
        refine bC fun hno => ?_
        rw [ei] at e1
        cases e1
        rw [List.getElem?_append_right (by simp), List.length_replicate, Nat.add_sub_cancel] at e2
        obtain ⟨u, e3, v3⟩ := qv ei e2
        refine hno ?_
        exact ⟨u, e3, v3.keeps kk⟩
  · intro y c e
    rcases hcases e with e | ⟨e, _⟩
    · exact ⟨_, (hown e).1⟩
    · obtain ⟨o, ob, eb, db⟩ := st.er.cell e; exact ⟨o, ob, kk eb, db⟩
  · intro y z c e1 e2
    rcases hcases e1 with e1 | ⟨e1, _⟩ <;> rcases hcases e2 with e2 | ⟨e2, _⟩
    · exact name_of_addr cs.apart (mem_of_lookup e1) (mem_of_lookup e2)
    · exact absurd (Nat.lt_of_lt_of_le (hlt e2) (Nat.le_trans hL (Nat.le_of_succ_le (hown e1).2))) (Nat.lt_irrefl _)
    · exact absurd (Nat.lt_of_lt_of_le (hlt e1) (Nat.le_trans hL (Nat.le_of_succ_le (hown e2).2))) (Nat.lt_irrefl _)
    · exact st.er.inj e1 e2
  · intro y c e
    rcases hcases e with e | ⟨e, _⟩
    · exact Bl st (Db (Nat.le_trans hL (Nat.le_of_succ_le (hown e).2)))
    · exact st.nocell e
  · intro y c e
    rcases hcases e with e | ⟨e, q⟩
    · exact .inl (Db (Nat.le_trans hL (Nat.le_of_succ_le (hown e).2)))
    · have := (hs.free _ q rfl).1
      exact .inr ⟨e, Ys hs this, Oa hs this⟩
end
end Mine
namespace Mine
open PySem PySem.Calls PyProof.Rows PySem.SeqAt
section
variable (C : Cx) (T : Tab) (n b : Nat) (Γ : List Str) (S : Scope)
structure U5 (ifs : List Expr) (d : A8 → A0 → Res Bool) : Prop where
  ok : ∀ {base : Bs} {env : Env} {ρ : A8} {μ : List Addr} {H H' : A0} {s : Shared} {A : Around} {E : Value → Shared → Prop} {Q : Bool → Shared → Prop} {v : Bool},
    Gnd C T base → env.scope = S → St C base b env Γ ρ μ H s → AOk base A n → d ρ H = .ok v H' → (∀ s' μ', Ext env μ μ' s.heap s'.heap → St C base b env Γ ρ μ' H' s' → Q v s') →
    wpAny (model C.prog C.w) A (forIn ifs true fun c r => if r = true then do let ok ← isTrue c env (eval c env); pure (ForInStep.yield ok) else pure (ForInStep.yield r)) Q E s
end
section
variable {C : Cx} {T : Tab} {n b : Nat} {Γ : List Str} {S : Scope} {nm : Bool} {J : Addr → Prop}
variable {base : Bs} {env cenv : Env} {ρ : A8} {μ μ' : List Addr} {H H' : A0} {s s' : Shared} {A : Around} {E : Value → Shared → Prop}
variable {scope : Scope} {xs : List Str} {M : Model}
theorem U5.nil {d : A8 → A0 → Res Bool} (hd : ∀ ρ H, d ρ H = .ok true H) : U5 C T n b Γ S [] d := by
  refine ⟨?_⟩
  intro base env ρ μ H H' s A E Q v G hS st a ed k
  rw [hd] at ed; cases ed
  exact wpAny_tests_nil (k s μ .refl st)
theorem U5.one {c : Expr} {d : A8 → A0 → Res Bool} (h : Gz C T n b Γ S c d) : U5 C T n b Γ S [c] d := by
  refine ⟨?_⟩
  intro base env ρ μ H H' s A E Q v G hS st a ed k
  exact wpAny_tests_one (h.ok G hS st a ed k)
theorem U0 (st : St C base b env Γ ρ μ H s) {D : Addr} {its : Array Value} (hD : D ∉ μ) (p : s.heap.PlainList D its) (X : Ext env μ μ' s.heap s'.heap) : s'.heap.PlainList D its ∧ D ∉ μ' := by
  obtain ⟨k, e⟩ := id p
  refine ⟨⟨k, (X.stay e ?_).ex (fun _ _ q => by cases q)⟩, fun q => ?_⟩
  · rintro (q | q | ⟨y, q⟩)
    · exact hD q
    · obtain ⟨m, nn, _⟩ := st.er.ns; exact PlainList.not_ns p (q ▸ nn)
    · obtain ⟨o, hc⟩ := st.er.cell q; exact PlainList.not_cell p hc
  · rw [X.new q hD] at e; cases e
theorem Qu (st : St C base b env Γ ρ μ H s) {D : Addr} {its : Array Value} (hD : D ∉ μ) (p : s.heap.PlainList D its) : ¬ Own μ env D := by
  rintro (q | q | ⟨y, q⟩)
  · exact hD q
  · obtain ⟨m, nn, _⟩ := st.er.ns; exact PlainList.not_ns p (q ▸ nn)
  · obtain ⟨o, hc⟩ := st.er.cell q; exact PlainList.not_cell p hc
inductive CI (C : Cx) (J : Addr → Prop) (base : Bs) (b : Nat) (env cenv : Env) (xs Γ : List Str) (ρ : A8) (D : Addr) (ws : List (Nat × List AV)) (R : List AV → List Addr → Heap → Prop) (μ2 : List Addr) (h2 : Heap) (step : AV → A0 → Res (Option AV)) (total : List AV) (Hf : A0) (m : Nat) (s1 : Shared) : Prop
  | mk (l : List AV) (vals : A8) (done : List AV) (items : List Value) (μ1 : List Addr) (H1 : A0) (hl : List.length l = m) (hv : List.length vals = xs.length) (S1 : St C base b cenv (xs ++ Γ) (vals ++ ρ) μ1 H1 s1) (r1 : R l μ1 s1.heap) (hw : ∀ w ∈ ws, H1[w.1]? = some (.list w.2)) (X1 : E2 J cenv μ2 μ1 h2 s1.heap) (hD : D ∉ μ1)
    (p1 : s1.heap.PlainList D (List.toArray items)) (q1 : VRs C μ1 s1.heap done items) (r : List AV) (er : Bh ws step l H1 = .ok r Hf) (et : done ++ r = total) : CI C J base b env cenv xs Γ ρ D ws R μ2 h2 step total Hf m s1
structure U1 (C : Cx) (base : Bs) (b : Nat) (env : Env) (Γ : List Str) (ρ : A8) (μ : List Addr) (h : Heap) (total : List AV) (Hf : A0) (D L : Addr) (s1 : Shared) : Prop where
  ex : ∃ μ1, St C base b env Γ ρ (μ1 ++ [D]) (Hf ++ [.list total]) s1 ∧ Ext env μ (μ1 ++ [D]) h s1.heap ∧ VR C (μ1 ++ [D]) s1.heap (.ref Hf.length) (.ref D) ∧ ¬ Own (μ1 ++ [D]) env L
  ns : ∃ m, s1.heap.Ns L m
  base : base.get? L = none
  new : h.get? L = none
theorem A0h {it : Value} {ws : List (Nat × List AV)} {R : List AV → List Addr → Heap → Prop} {MM : List AV → Value → List Addr → Heap → Prop} {D : Addr} {total : List AV} {items : List Value} {vals : A8} {μ1 μ2 : List Addr} {s1 s2 : Shared} {H2 Hf : A0}
    (st : St C base b env Γ ρ μ H s) (X0 : Ext env μ μ2 s.heap s2.heap) (st2 : St (C.plus J) base b env Γ ρ μ2 H2 s2) (N : A4s env cenv xs s2.heap) (hJ0 : ∀ {a : Addr}, J a → s.heap.get? a = none) (hJb : ∀ {a : Addr}, J a → base.get? a = none)
    (W : I0 (C.plus J) base it J ws nm R MM) (hD2 : s2.heap.get? D = none) (hJD : ¬ J D) (hJo : ∀ {a : Addr}, J a → ¬ Own μ2 env a)
    (hv : vals.length = xs.length) (S1 : St (C.plus J) base b cenv (xs ++ Γ) (vals ++ ρ) μ1 Hf s1) (r1 : R [] μ1 s1.heap) (X : E2 J cenv μ2 μ1 s2.heap s1.heap) (hD : D ∉ μ1) (p : s1.heap.PlainList D items.toArray) (q : VRs (C.plus J) μ1 s1.heap total items) (hz : total.length ≤ lim)
    {h' : Heap} {tk : Nat} (kk : ∀ {a : Addr} {o : Obj}, ¬ J a → s1.heap.get? a = some o → h'.get? a = some o) :
    U1 C base b env Γ ρ μ s.heap total Hf D cenv.locals { s1 with heap := h', toks := tk } := by
  refine bC fun hno => ?_
  obtain ⟨S1', X'⟩ := st2.leave N hv S1 X (fun j => .inr j) hJo
  have X1 := E2.after X0 X' hJ0
  have off : ∀ {a : Addr}, J a → ¬ Own μ1 cenv a := W.off S1 r1
  have offE : ∀ {a : Addr}, J a → ¬ Own μ1 env a := W.off S1' r1
  have S3 := S1'.leaveJ (tk := tk) kk offE hJb (zJ (h := s.heap) st hJ0)
  have X3 : Ext env μ μ1 s.heap h' := X1.but hJ0 kk
  obtain ⟨k, p'⟩ := id p
  have p3 : h'.PlainList D items.toArray := ⟨k, kk hJD p'⟩
  have q3 : VRs C μ1 h' total items := VRs.mapZ (C := C.plus J) (z := C.z) List.prefix_rfl (fun e nz _ => kk (fun j => nz (.inr j)) e) (fun _ nz z => nz (.inl z)) q
  have sD : s.heap.get? D = none := by
    cases e : s.heap.get? D with
    | none => rfl
    | some o => obtain ⟨o', e', _⟩ := X0.live.go e; rw [hD2] at e'; cases e'
  obtain ⟨m, nn, _⟩ := S1.er.ns
  have nn3 : h'.Ns cenv.locals m := nn.at fun o e => kk (fun j => off j (.inr (.inl rfl))) e
  have newL : s.heap.get? cenv.locals = none := by
    cases e : s.heap.get? cenv.locals with
    | none => rfl
    | some o => obtain ⟨o', e', _⟩ := X0.live.go e; rw [N.newL] at e'; cases e'
  refine hno ?_
  refine ⟨⟨μ1, S3.track p3 q3 hD (Bl st2 hD2) hz, X3.trackX sD, .ref (by rw [← S3.hp.len]; simp), ?_⟩, ⟨m, nn3⟩, S1.noloc, newL⟩
  rintro (e | e | ⟨y, e⟩)
  · rcases List.mem_append.mp e with e | e
    · exact S1.lm e
    · simp at e; exact PlainList.not_ns p (e ▸ nn)
  · obtain ⟨m', ⟨o, _, _, ho, _⟩, _⟩ := st2.er.ns
    rw [← e, N.newL] at ho; cases ho
  · obtain ⟨_, o, ho, _⟩ := st2.er.cell e
    rw [N.newL] at ho; cases ho
theorem N3 {ws : List (Nat × List AV)} {step : AV → A0 → Res (Option AV)} {v : AV} {l r : List AV} {Hf : A0} (e : Bh ws step (v :: l) H = .ok r Hf) :
    ∃ o H1 r', step v H = .ok o H1 ∧ ws.all (fun w => G0 H1 w.1 w.2) = true ∧ Bh ws step l H1 = .ok r' Hf ∧ r = Wx o r' := by
  unfold Bh at e
  obtain ⟨o, H1, e1, e⟩ := Res.get_ok e
  split at e
  · rename_i hs
    refine bC fun hno => ?_
    obtain ⟨r', H2, e2, e⟩ := Res.get_ok e
    cases e
    refine hno ?_
    exact ⟨o, H1, r', e1, hs, e2, rfl⟩
  · cases e
theorem CI.skip {ws : List (Nat × List AV)} {R : List AV → List Addr → Heap → Prop} {D : Addr} {μ2 : List Addr} {h2 : Heap} {step : AV → A0 → Res (Option AV)} {total done l r : List AV} {Hf H1 : A0} {vals : A8} {items : List Value} {μ1 : List Addr} {s1 : Shared}
    (hv : vals.length = xs.length) (S1 : St C base b cenv (xs ++ Γ) (vals ++ ρ) μ1 H1 s1) (r1 : R l μ1 s1.heap) (hw : ws.all (fun w => G0 H1 w.1 w.2) = true) (X : E2 J cenv μ2 μ1 h2 s1.heap) (hD : D ∉ μ1) (p : s1.heap.PlainList D items.toArray) (q : VRs C μ1 s1.heap done items)
    (e : Bh ws step l H1 = .ok r Hf) (et : done ++ r = total) : CI C J base b env cenv xs Γ ρ D ws R μ2 h2 step total Hf l.length s1 :=
  ⟨l, vals, done, items, μ1, H1, rfl, hv, S1, r1, Vl hw, X, hD, p, q, r, e, et⟩
theorem CI.keep {it : Value} {ws : List (Nat × List AV)} {R : List AV → List Addr → Heap → Prop} {MM : List AV → Value → List Addr → Heap → Prop} {D : Addr} {μ2 : List Addr} {h2 : Heap} {step : AV → A0 → Res (Option AV)} {total done l r : List AV} {Hf H1 : A0} {vals : A8} {items : List Value} {μ1 : List Addr} {s1 : Shared} {x : AV} {u : Value}
    (W : I0 C base it J ws nm R MM) (hD2 : h2.get? D = none) (hbD : base.get? D = none) (hz : total.length ≤ lim)
    (hv : vals.length = xs.length) (S1 : St C base b cenv (xs ++ Γ) (vals ++ ρ) μ1 H1 s1) (r1 : R l μ1 s1.heap) (hw : ws.all (fun w => G0 H1 w.1 w.2) = true) (X : E2 J cenv μ2 μ1 h2 s1.heap) (hD : D ∉ μ1) (p : s1.heap.PlainList D items.toArray) (q : VRs C μ1 s1.heap done items) (V : VR C μ1 s1.heap x u)
    (e : Bh ws step l H1 = .ok r Hf) (et : done ++ (x :: r) = total) : wpAny (model C.prog C.w) A (call (.builtin "list.append") [.ref D, u]) (fun _ s5 => ∃ m, m < (l.length + 1) ∧ CI C J base b env cenv xs Γ ρ D ws R μ2 h2 step total Hf m s5) E s1 := by
  have hsz : items.toArray.size ≤ sizeLine := by
    rw [List.size_toArray, ← q.length]
    refine Er (Nat.le_trans ?_ hz)
    rw [← et]; simp
  refine wpAny_list_append_plain p (fun h5 pl hs => ⟨l.length, Nat.lt_succ_self _, ?_⟩) hsz
  rw [Pz] at pl
  have ht : ∀ {ts : Array Value}, ¬ s1.heap.IsTuple D ts := Om p
  have hf : ∀ {o : Obj} {vs : Array Value}, s1.heap.get? D = some o → o.data ≠ .fields vs := Lz p
  have st : ∀ {c : Addr} {o : Obj}, c ≠ D → s1.heap.get? c = some o → h5.get? c = some o := fun n e => (hs.2 _ n).trans e
  refine ⟨l, vals, done ++ [x], items ++ [u], μ1, H1, rfl, hv, S1.other (tk := s1.toks) ht hf (Qu S1 hD p) hbD hs (fun _ => let ⟨k, e⟩ := pl; ⟨_, e⟩) (let ⟨k, e⟩ := p; S1.ff.off e fun _ _ q => by cases q), ?_, Vl hw, ?_, hD, pl, ?_, r, e, by simpa using et⟩
  · refine W.frame r1 List.prefix_rfl fun {a o} e k => st (fun e' => ?_) e
    subst e'
    rcases k with ⟨its, t⟩ | ⟨vs, d⟩
    · exact ht t
    · exact hf e d
  · have nD : ∀ {a : Addr} {o : Obj}, h2.get? a = some o → a ≠ D := fun e e' => by rw [e', hD2] at e; cases e
    exact ⟨X.pre, fun e n j => (X.stay e n j).map id (st (nD e)), X.new, fun e j => let ⟨o, e', d⟩ := X.live e j; ⟨o, st (nD e) e', d⟩⟩
  · exact (q.other ht hf hs).append (.cons (V.other ht hf hs) .nil)
theorem Yr {prog : Program} {w : World} {A : Around} {elt target iter : Expr} {scope : Scope} {pos : Pos} {it acc : Value} {env : Env} {R : Result → Shared → Prop} (I : Nat → Shared → Prop)
    (step : ∀ m s, I m s → wpAny (model prog w) A (pyNext it) (fun r s1 => match r with
      | none => R (.ok .next) s1
      | some v => wpAny (model prog w) A (letOwnedTupleGo target it v) (fun _ s2 => wpAny (model prog w) A (assign target env v) (fun _ s3 => wpAny (model prog w) A (eval elt env) (fun x s4 =>
          wpAny (model prog w) A (call (.builtin "list.append") [acc, x]) (fun _ s5 => ∃ k, k < m ∧ I k s5) (notedBy (model prog w) A env fun e s' => R (.error e) s') s4)
          (notedBy (model prog w) A env fun e s' => R (.error e) s') s3) (notedBy (model prog w) A env fun e s' => R (.error e) s') s2) (notedBy (model prog w) A env fun e s' => R (.error e) s') s1) (notedBy (model prog w) A env fun e s' => R (.error e) s') s)
    (m : Nat) {s : Shared} (h : I m s) : codeAny (model prog w) A (.compLoop (.ListComp elt [⟨target, iter, [], 0⟩] scope pos) 0 it acc env) R s := by
  apply codeAny_loop rfl I _ m h
  intro m s hI
  change wpAny _ A ((compTurn (.ListComp elt [⟨target, iter, [], 0⟩] scope pos) 0 it acc env).onRaise (fun x => do noteFrame x env; theTreesLotGoes x)) _ _ s
  apply wpAny_noted
  rw [compTurn_list1]
  apply wpAny_bind
  apply wpAny_standAt
  apply wpAny_bind
  refine wpAny_mono (step m s hI) ?_ (fun _ _ q => q)
  rintro (_ | v) s1 h1
  · exact wpAny_pure h1
  · refine wpAny_bind (wpAny_mono h1 ?_ (fun _ _ q => q))
    intro _ s2 h2
    refine wpAny_bind (wpAny_mono h2 ?_ (fun _ _ q => q))
    intro _ s3 h3
    refine wpAny_bind (wpAny_bind (wpAny_mono h3 ?_ (fun _ _ q => q)))
    intro x s4 h4
    refine wpAny_bind (wpAny_mono h4 ?_ (fun _ _ q => q))
    intro _ s5 h5
    exact wpAny_pure (wpAny_pure ⟨rfl, h5⟩)
inductive A05 (C : Cx) (base : Bs) (b : Nat) (env : Env) (Γ : List Str) (ρ : A8) (μ : List Addr) (s : Shared) (scope : Scope) (xs : List Str) (nm : Bool) (p : List AV × List (Nat × List AV)) (H0 : A0) (it : Value) (D L : Addr) (cenv : Env) (J : Addr → Prop) (R : List AV → List Addr → Heap → Prop) (MM : List AV → Value → List Addr → Heap → Prop) (μ2 : List Addr) (s2 : Shared) (h4 : Heap) : Prop
  | mk (X0 : Ext env μ μ2 s.heap s2.heap) (hJ0 : ∀ {a : Addr}, J a → s.heap.get? a = none) (hJb : ∀ {a : Addr}, J a → base.get? a = none) (S2 : St (C.plus J) base b env Γ ρ μ2 H0 s2) (W : I0 (C.plus J) base it J p.2 nm R MM) (r0 : R p.1 μ2 s2.heap)
      (hw : ∀ w ∈ p.2, H0[w.1]? = some (.list w.2)) (kk : ∀ {a : Addr} {o : Obj}, s2.heap.get? a = some o → h4.get? a = some o) (pl4 : h4.PlainList D ([] : List Value).toArray) (hD2 : s2.heap.get? D = none)
      (S4 : St (C.plus J) base b cenv (xs ++ Γ) (List.replicate xs.length none ++ ρ) μ2 H0 { s2 with heap := h4 }) (N4 : A4s env cenv xs s2.heap) (hcs : cenv.scope = Cq scope env.scope) (hcl : cenv.locals = L)
      (hst : ∀ z ∈ xs, B2 (Cq scope env.scope) z = true) : A05 C base b env Γ ρ μ s scope xs nm p H0 it D L cenv J R MM μ2 s2 h4
theorem Oi {xs : List Str} {nm : Bool} {iter cx : Expr} {di : A8 → A0 → Res (List AV × List (Nat × List AV))} {p : List AV × List (Nat × List AV)} {H0 : A0} {RR : Value → Addr → Result → Shared → Prop}
    (hs : Js scope S Γ xs) (hi : Gx C T n b Γ S nm iter di) (G : Gnd C T base) (hS : env.scope = S) (st : St C base b env Γ ρ μ H s) (a : AOk base A n) (e0 : di ρ H = .ok p H0)
    (k : ∀ it D L cenv J R MM μ2 s2 h4, A05 C base b env Γ ρ μ s scope xs nm p H0 it D L cenv J R MM μ2 s2 h4 → codeAny (model C.prog C.w) A (.compStart cx 0 it (.ref D) cenv) (RR (.ref D) L) { s2 with heap := h4 }) :
    wpAny (model C.prog C.w) A (eval iter env) (fun x' s₁ => wpAny (model C.prog C.w) A (pyIter x') (fun it s₂ => wpAny (model C.prog C.w) A (newList []) (fun acc s₃ =>
      wpAny (model C.prog C.w) A (newFunctionEnv scope env.globals (Dj env scope.names []) [] env.qual none .none (some env)) (fun cenv s₄ =>
        codeAny (model C.prog C.w) A (.compStart cx 0 it acc { cenv with scope := relabel scope env }) (RR acc cenv.locals) s₄) E s₃) E s₂) E s₁) E s := by
  refine hi.ok G hS st a e0 fun it s2 μ2 J R MM X0 hJ0 hJb S2 W r0 hw => ?_
  refine wpAny_newObj_type (A63 fun h4 kk4 nn4 cs4 => ?_)
  dsimp only at nn4 cs4 ⊢
  refine bC fun hno => ?_
  subst hS
  have kk24 : ∀ {a : Addr} {o : Obj}, s2.heap.get? a = some o → h4.get? a = some o := fun e => kk4 (Heap.get?_push_of_some _ e)
  obtain ⟨S4, N4⟩ := S2.enter hs (h' := h4) (by rw [Heap.size_push]; exact Nat.le_succ _) kk24 nn4 cs4
  refine hno ?_
  refine k it _ _ (K8 scope _ env) J R MM μ2 s2 h4 ⟨X0, hJ0, hJb, S2, W, r0, hw, kk24, ⟨_, kk4 (Heap.get?_push_size _ rfl)⟩, Aw _, S4, N4, rfl, rfl, fun z hz => ?_⟩
  have := hs.tgt z hz
  unfold B2 Bd at this ⊢
  rw [Gi]
  simp only [Bool.or_eq_true, beq_iff_eq] at this
  rcases this with q | q <;> rw [q] <;> simp
theorem U6 {xs : List Str} {nm : Bool} {p : List AV × List (Nat × List AV)} {H0 H1 Hf : A0} {it : Value} {D L : Addr} {cenv : Env} {J : Addr → Prop} {R : List AV → List Addr → Heap → Prop} {MM : List AV → Value → List Addr → Heap → Prop} {μ1 μ2 : List Addr} {s1 s2 : Shared} {h4 : Heap} {vals : List (Option AV)} {vs done r : List AV} {items : List Value} {stp : AV → A0 → Res (Option AV)} {RR : Value → Addr → Result → Shared → Prop} {Q : Option Value → Shared → Prop}
    (Z : A05 C base b env Γ ρ μ s scope xs nm p H0 it D L cenv J R MM μ2 s2 h4) (st : St C base b env Γ ρ μ H s) (a : AOk base A n) (hz : vs.length ≤ lim) (k : ∀ D L s', U1 C base b env Γ ρ μ s.heap vs Hf D L s' → RR (.ref D) L (.ok .next) s')
    (hv : vals.length = xs.length) (S1 : St (C.plus J) base b cenv (xs ++ Γ) (vals ++ ρ) μ1 H1 s1) (r1 : R [] μ1 s1.heap) (hw1 : ∀ w ∈ p.2, H1[w.1]? = some (.list w.2)) (X1 : E2 J cenv μ2 μ1 s2.heap s1.heap) (hD1 : D ∉ μ1) (p1 : s1.heap.PlainList D items.toArray) (q1 : VRs (C.plus J) μ1 s1.heap done items)
    (er : Bh p.2 stp [] H1 = .ok r Hf) (et : done ++ r = vs) (hQ : ∀ s', RR (.ref D) L (.ok .next) s' → Q none s') : wpAny (model C.prog C.w) A (pyNext it) Q E s1 := by
  refine bC fun hno => ?_
  obtain ⟨X0, hJ0, hJb, S2, W, r0, hw, kk24, pl4, hD2, S4, N4, hcs, hcl, hst⟩ := Z
  have hJD : ¬ J D := fun j => by obtain ⟨o, e⟩ := W.live r0 j; rw [hD2] at e; cases e
  have er' : r = [] ∧ Hf = H1 := by unfold Bh at er; cases er; exact ⟨rfl, rfl⟩
  obtain ⟨rfl, rfl⟩ := er'
  rw [List.append_nil] at et
  subst et
  refine hno ?_
  refine W.done S1 a (fun j => .inr j) hw1 r1 fun h' tk kk => hQ _ ?_
  have := A0h st X0 S2 N4 hJ0 hJb W hD2 hJD (W.off S2 r0) hv S1 r1 X1 hD1 p1 q1 hz (tk := tk) kk
  rw [hcl] at this
  exact k D L _ this
theorem Sp {x : Str} {px pos : Pos} {iter elt : Expr} {ifs : List Expr} {di : A8 → A0 → Res (List AV × List (Nat × List AV))} {dc : A8 → A0 → Res Bool} {de : A8 → A0 → Res AV} {vs : List AV} {Hf : A0} {RR : Value → Addr → Result → Shared → Prop}
    (hs : Js scope S Γ [x]) (hi : Gx C T n b Γ S true iter di) (hc : ∀ z, U5 (C.withZ z) T n b (x :: Γ) (Cq scope S) ifs dc) (he : ∀ z, Al (C.withZ z) T n b (x :: Γ) (Cq scope S) elt de)
    (G : Gnd C T base) (hS : env.scope = S) (st : St C base b env Γ ρ μ H s) (a : AOk base A n)
    (ed : ((di ρ H).get fun p H => Bh p.2 (fun v H => (dc (some v :: ρ) H).get fun t H => if t then (de (some v :: ρ) H).get fun x H => .ok (some x) H else .ok none H) p.1 H) = .ok vs Hf) (hz : vs.length ≤ lim)
    (k : ∀ D L s', U1 C base b env Γ ρ μ s.heap vs Hf D L s' → RR (.ref D) L (.ok .next) s') :
    wpAny (model C.prog C.w) A (eval iter env) (fun x' s₁ => wpAny (model C.prog C.w) A (pyIter x') (fun it s₂ => wpAny (model C.prog C.w) A (newList []) (fun acc s₃ =>
      wpAny (model C.prog C.w) A (newFunctionEnv scope env.globals (Dj env scope.names []) [] env.qual none .none (some env)) (fun cenv s₄ =>
        codeAny (model C.prog C.w) A (.compStart (.ListComp elt [⟨.Name x px, iter, ifs, 0⟩] scope pos) 0 it acc { cenv with scope := relabel scope env }) (RR acc cenv.locals) s₄) E s₃) E s₂) E s₁) E s := by
  refine bC fun hno => ?_
  obtain ⟨p, H0, e0, ed⟩ := Res.get_ok ed
  obtain ⟨f, hf⟩ : ∃ f : AV → A0 → Res (Option AV), (fun (v : AV) (H : A0) => (dc (some v :: ρ) H).get fun t H => if t then (de (some v :: ρ) H).get fun x H => .ok (some x) H else .ok none H) = f := ⟨_, rfl⟩
  rw [hf] at ed
  refine hno ?_
  refine Oi hs hi G hS st a e0 fun it D L cenv J R MM μ2 s2 h4 Z => ?_
  subst hS
  obtain ⟨X0, hJ0, hJb, S2, W, r0, hw, kk24, pl4, hD2, S4, N4, hcs, hcl, hsk⟩ := id Z
  have hJD : ¬ J D := fun j => by obtain ⟨o, e⟩ := W.live r0 j; rw [hD2] at e; cases e
  have hbD : base.get? D = none := Bl S2 hD2
  have hDm : D ∉ μ2 := Gk S2 hD2
  have hx0 : slot ([x] ++ Γ) x = some 0 := by
    rw [Hq]; unfold slot; simp
  have hkx : cenv.kindOf x = some .local ∨ cenv.kindOf x = some .cell := by
    have := hsk x (List.mem_singleton.mpr rfl)
    rw [← hcs] at this
    unfold B2 Bd at this
    simp only [Bool.or_eq_true, beq_iff_eq] at this
    exact this
  have r4 : R p.1 μ2 h4 := W.frame r0 List.prefix_rfl fun e _ => kk24 e
  have loop : ∀ s₃ : Shared, s₃ = { s2 with heap := h4 } → codeAny (model C.prog C.w) A (.compLoop (.ListComp elt [⟨.Name x px, iter, ifs, 0⟩] scope pos) 0 it (.ref D) cenv) (RR (.ref D) L) s₃ := by
    rintro s₃ rfl
    have i0 : CI (C.plus J) J base b env cenv [x] Γ ρ D p.2 R μ2 s2.heap f vs Hf p.1.length { s2 with heap := h4 } := ⟨p.1, _, [], [], μ2, H0, rfl, rfl, S4, r4, hw, E2.grow kk24, hDm, pl4, .nil, vs, ed, rfl⟩
    obtain ⟨I, hI⟩ : ∃ I, CI (C.plus J) J base b env cenv [x] Γ ρ D p.2 R μ2 s2.heap f vs Hf = I := ⟨_, rfl⟩
    rw [hI] at i0
    refine codeAny_compLoop_tests I ?_ p.1.length i0
    intro m s1 hi
    rw [← hI] at hi
    obtain ⟨l, vals, done, items, μ1, H1, rfl, hv, S1, r1, hw1, X1, hD1, p1, q1, r, er, et⟩ := hi
    cases l with
    | nil =>
      exact U6 Z st a hz k hv S1 r1 hw1 X1 hD1 p1 q1 er et fun _ q => q
    | cons v l =>
      obtain ⟨o, H2, r', es, hst, er2, rfl⟩ := N3 er
      refine W.item S1 a (fun j => .inr j) hw1 r1 fun u h' tk kk V m => ?_
      have S5 := S1.stepJ (tk := tk) kk (W.off S1 r1) hJb (W.liveM m)
      have k5 := W.plain rfl m
      obtain ⟨i0, p1'⟩ := id p1
      have p5 : h'.PlainList D items.toArray := ⟨i0, kk hJD p1'⟩
      have q5 : VRs (C.plus J) μ1 h' done items := VRs.butJ (C := C.plus J) (J := J) (fun j => .inr j) kk q1
      have X5 : E2 J cenv μ2 μ1 s2.heap h' := X1.step kk
      refine wpAny_assign_Name (S5.bind hx0 hkx V fun s6 S6 X6 => ?_)
      obtain ⟨o0, rfl⟩ := List.length_eq_one_iff.mp hv
      have S6' : St (C.plus J) base b cenv (x :: Γ) (some v :: ρ) μ1 H1 s6 := S6
      rw [← hf] at es
      obtain ⟨t, H3, e3, es⟩ := Res.get_ok es
      refine (hc _).ok (C := C.plus J) G.toZ hcs S6' a e3 fun s7 μ7 X7 S7 => ?_
      obtain ⟨p6, d6⟩ := U0 S5 hD1 p5 X6
      obtain ⟨p7, d7⟩ := U0 S6 d6 p6 X7
      have q7 := (q5.mono S5.hp S5.er X6).mono S6.hp S6.er X7
      have r7 := W.frameX S6 (W.frameX S5 k5 X6) X7
      have off7 : ∀ {a : Addr}, J a → ¬ Own μ7 cenv a := W.off S7 r7
      have X67 : E2 J cenv μ2 μ7 s2.heap s7.heap := X5.trans (fun j q => off7 j (.inl q)) (X6.trans X7)
      cases t with
      | false =>
        simp only [Bool.false_eq_true, if_false] at es ⊢
        cases es
        exact ⟨l.length, Nat.lt_succ_self _, hI ▸ CI.skip (vals := [some v]) rfl S7 r7 hst X67 d7 p7 q7 er2 et⟩
      | true =>
        simp only [if_true] at es ⊢
        obtain ⟨y, H4, e4, es⟩ := Res.get_ok es
        cases es
        refine (he _).ok (C := C.plus J) G.toZ hcs S7 a e4 fun u8 s8 μ8 X8 S8 V8 => ?_
        obtain ⟨p8, d8⟩ := U0 S7 d7 p7 X8
        have r8 := W.frameX S7 r7 X8
        have off8 : ∀ {a : Addr}, J a → ¬ Own μ8 cenv a := W.off S8 r8
        rw [← hI]
        exact CI.keep (C := C.plus J) W hD2 hbD hz (vals := [some v]) rfl S8 r8 hst (X67.trans (fun j q => off8 j (.inl q)) X8) d8 p8 (q7.mono S7.hp S7.er X8) V8 er2 et
  refine codeAny_compStart_list (loop _ rfl) (W.self (s := { s2 with heap := h4 }) r4 (loop _ rfl))
theorem A7t {α : Type} {l : List α} (h : l.length = 2) : ∃ a b, l = [a, b] := by
  cases l with
  | nil => cases h
  | cons a l => obtain ⟨b, rfl⟩ := List.length_eq_one_iff.mp (Nat.succ.inj h); exact ⟨a, b, rfl⟩
theorem T9 (hq : T.q = false) {x y : Str} {px py tp pos : Pos} {x1 : Nat} {iter elt : Expr} {di : A8 → A0 → Res (List AV × List (Nat × List AV))} {de : A8 → A0 → Res AV} {vs : List AV} {Hf : A0} {RR : Value → Addr → Result → Shared → Prop}
    (hs : Js scope S Γ [x, y]) (hxy : (x == y) = false) (hi : Gx C T n b Γ S nm iter di) (he : ∀ z, Al (C.withZ z) T n b (x :: y :: Γ) (Cq scope S) elt de)
    (G : Gnd C T base) (hS : env.scope = S) (st : St C base b env Γ ρ μ H s) (a : AOk base A n)
    (ed : ((di ρ H).get fun p H => Bh p.2 (fun v H => Hz (fun x y => (de (some x :: some y :: ρ) H).get fun x H => .ok (some x) H) v) p.1 H) = .ok vs Hf) (hz : vs.length ≤ lim)
    (k : ∀ D L s', U1 C base b env Γ ρ μ s.heap vs Hf D L s' → RR (.ref D) L (.ok .next) s') :
    wpAny (model C.prog C.w) A (eval iter env) (fun x' s₁ => wpAny (model C.prog C.w) A (pyIter x') (fun it s₂ => wpAny (model C.prog C.w) A (newList []) (fun acc s₃ =>
      wpAny (model C.prog C.w) A (newFunctionEnv scope env.globals (Dj env scope.names []) [] env.qual none .none (some env)) (fun cenv s₄ =>
        codeAny (model C.prog C.w) A (.compStart (.ListComp elt [⟨.Tuple [.Name x px, .Name y py] x1 tp, iter, [], 0⟩] scope pos) 0 it acc { cenv with scope := relabel scope env }) (RR acc cenv.locals) s₄) E s₃) E s₂) E s₁) E s := by
  refine bC fun hno => ?_
  obtain ⟨p, H0, e0, ed⟩ := Res.get_ok ed
  obtain ⟨f, hf⟩ : ∃ f : AV → A0 → Res (Option AV), (fun (v : AV) (H : A0) => Hz (fun x y => (de (some x :: some y :: ρ) H).get fun x H => .ok (some x) H) v) = f := ⟨_, rfl⟩
  rw [hf] at ed
  refine hno ?_
  refine Oi hs hi G hS st a e0 fun it D L cenv J R MM μ2 s2 h4 Z => ?_
  subst hS
  obtain ⟨X0, hJ0, hJb, S2, W, r0, hw, kk24, pl4, hD2, S4, N4, hcs, hcl, hsk⟩ := id Z
  have hJD : ¬ J D := fun j => by obtain ⟨o, e⟩ := W.live r0 j; rw [hD2] at e; cases e
  have hbD : base.get? D = none := Bl S2 hD2
  have hDm : D ∉ μ2 := Gk S2 hD2
  have hx0 : slot ([x, y] ++ Γ) x = some 0 := by
    rw [Hq]; unfold slot; simp [List.findIdx?_cons]
  have hy0 : slot ([x, y] ++ Γ) y = some 1 := by
    rw [Hq]; unfold slot; simp [List.findIdx?_cons, hxy]
  have r4 : R p.1 μ2 h4 := W.frame r0 List.prefix_rfl fun e _ => kk24 e
  have loop : ∀ s₃ : Shared, s₃ = { s2 with heap := h4 } → codeAny (model C.prog C.w) A (.compLoop (.ListComp elt [⟨.Tuple [.Name x px, .Name y py] x1 tp, iter, [], 0⟩] scope pos) 0 it (.ref D) cenv) (RR (.ref D) L) s₃ := by
    rintro s₃ rfl
    have i0 : CI (C.plus J) J base b env cenv [x, y] Γ ρ D p.2 R μ2 s2.heap f vs Hf p.1.length { s2 with heap := h4 } := ⟨p.1, _, [], [], μ2, H0, rfl, rfl, S4, r4, hw, E2.grow kk24, hDm, pl4, .nil, vs, ed, rfl⟩
    obtain ⟨I, hI⟩ : ∃ I, CI (C.plus J) J base b env cenv [x, y] Γ ρ D p.2 R μ2 s2.heap f vs Hf = I := ⟨_, rfl⟩
    rw [hI] at i0
    refine Yr I ?_ p.1.length i0
    intro m s1 hi
    rw [← hI] at hi
    obtain ⟨l, vals, done, items, μ1, H1, rfl, hv, S1, r1, hw1, X1, hD1, p1, q1, r, er, et⟩ := hi
    cases l with
    | nil =>
      exact U6 Z st a hz k hv S1 r1 hw1 X1 hD1 p1 q1 er et fun _ q => q
    | cons v l =>
      obtain ⟨o, H2, r', es, hst, er2, rfl⟩ := N3 er
      rw [← hf] at es
      have es : Hz (fun x y => (de (some x :: some y :: ρ) H1).get fun x H => .ok (some x) H) v = .ok o H2 := es
      obtain ⟨v1, v2, rfl⟩ : ∃ v1 v2, v = .tup [v1, v2] := by
        unfold Hz at es
        split at es
        · exact ⟨_, _, rfl⟩
        · cases es
      refine W.item S1 a (fun j => .inr j) hw1 r1 fun u h' tk kk V m => ?_
      obtain ⟨t, p1', p2', rfl, ht, V1, V2⟩ := Kw V
      refine W.own (s := { s1 with heap := h', toks := tk }) m fun h'' kk' r2 => ?_
      have kk2 : ∀ {a : Addr} {o : Obj}, ¬ J a → s1.heap.get? a = some o → h''.get? a = some o := fun nj e => kk' nj (kk nj e)
      have S5 := S1.stepJ (tk := tk) kk2 (W.off S1 r1) hJb (W.live r2)
      obtain ⟨i0, p1''⟩ := id p1
      have p5 : h''.PlainList D items.toArray := ⟨i0, kk2 hJD p1''⟩
      have q5 : VRs (C.plus J) μ1 h'' done items := VRs.butJ (C := C.plus J) (J := J) (fun j => .inr j) kk2 q1
      have X5 : E2 J cenv μ2 μ1 s2.heap h'' := X1.step kk2
      have V' : VR (C.plus J) μ1 h'' (.tup [v1, v2]) (.ref t) := VR.butJ (C := C.plus J) (J := J) (fun j => .inr j) kk' V
      obtain ⟨t', q1', q2', et', ht', W1, W2⟩ := Kw V'
      cases et'
      refine Nf (M := model C.prog C.w) (C := C.plus J) (S := Cq scope env.scope) (G.q.trans hq) hcs a S5 hx0 (hsk x (by simp)) hy0 (hsk y (by simp)) ht' W1 W2 fun s6 S6 X6 => ?_
      obtain ⟨o0, o1, rfl⟩ := A7t hv
      have S6' : St (C.plus J) base b cenv (x :: y :: Γ) (some v1 :: some v2 :: ρ) μ1 H1 s6 := S6
      obtain ⟨p6, d6⟩ := U0 S5 hD1 p5 X6
      have q6 := q5.mono S5.hp S5.er X6
      have r6 := W.frameX S5 r2 X6
      have off6 : ∀ {a : Addr}, J a → ¬ Own μ1 cenv a := W.off S6 r6
      have X66 : E2 J cenv μ2 μ1 s2.heap s6.heap := X5.trans (fun j q => off6 j (.inl q)) X6
      simp only [Hz] at es
      obtain ⟨y', H4, e4, es⟩ := Res.get_ok es
      cases es
      refine (he _).ok (C := C.plus J) G.toZ hcs S6' a e4 fun u8 s8 μ8 X8 S8 V8 => ?_
      obtain ⟨p8, d8⟩ := U0 S6' d6 p6 X8
      have r8 := W.frameX S6' r6 X8
      have off8 : ∀ {a : Addr}, J a → ¬ Own μ8 cenv a := W.off S8 r8
      rw [← hI]
      exact CI.keep (C := C.plus J) W hD2 hbD hz (vals := [some v1, some v2]) rfl S8 r8 hst (X66.trans (fun j q => off8 j (.inl q)) X8) d8 p8 (q6.mono S6'.hp S6'.er X8) V8 er2 et
  refine codeAny_compStart_list (loop _ rfl) (W.self (s := { s2 with heap := h4 }) r4 (loop _ rfl))
theorem U1.value {vs : List AV} {Hf : A0} {Q : Value → Shared → Prop} {D L : Addr} {s1 : Shared} (h : U1 C base b env Γ ρ μ s.heap vs Hf D L s1) (st : St C base b env Γ ρ μ H s) (k : B5 C base b env Γ ρ μ s (.ref Hf.length) (Hf ++ [.list vs]) Q) :
    compPost (model C.prog C.w) A E none Q (.ref D) L (.ok .next) s1 := by
  refine bC fun hno => ?_
  obtain ⟨⟨μ1, S1, X1, V1, hO⟩, ⟨m, nn⟩, hb, hnew⟩ := h
  refine hno ?_
  refine ⟨m, nn, fun h' hs => ?_⟩
  have ht : ∀ {ts : Array Value}, ¬ s1.heap.IsTuple L ts := Lb nn
  have hf : ∀ {o : Obj} {vs : Array Value}, s1.heap.get? L = some o → o.data ≠ .fields vs := Km nn
  refine k _ _ (μ1 ++ [D]) (X1.but (J := (· = L)) (fun j => by subst j; exact hnew) fun n e => (hs.2 _ n).trans e) (S1.other (tk := s1.toks) ht hf hO hb hs (fun z => by obtain ⟨o, e⟩ := st.zl z; rw [hnew] at e; cases e) (st.ff.fresh hnew)) (V1.other ht hf hs)
theorem U1.use {vs : List AV} {Hf : A0} {Q : Value → Shared → Prop} {D L : Addr} {s1 : Shared} {y : Str} {i : Nat} {py : Pos} (hy : slot Γ y = some i) (hk : env.kindOf y = some .local ∨ env.kindOf y = some .cell) (h : U1 C base b env Γ ρ μ s.heap vs Hf D L s1) (st : St C base b env Γ ρ μ H s)
    (k : ∀ s' μ', Ext env μ μ' s.heap s'.heap → St C base b env Γ (ρ.set i (some (.ref Hf.length))) μ' (Hf ++ [.list vs]) s' → Q .none s') :
    compPost (model C.prog C.w) A E (some (assign (.Name y py) env)) Q (.ref D) L (.ok .next) s1 := by
  refine bC fun hno => ?_
  obtain ⟨⟨μ1, S1, X1, V1, hO⟩, ⟨m, nn⟩, hb, hnew⟩ := h
  refine hno ?_
  refine wpAny_assign_Name (S1.bind hy hk V1 fun s2 S2 X2 => ?_)
  have nn2 : s2.heap.Ns L m := Kp.ns nn fun e => X2.stay e hO
  refine ⟨m, nn2, fun h' hs => ?_⟩
  have ht : ∀ {ts : Array Value}, ¬ s2.heap.IsTuple L ts := Lb nn2
  have hf : ∀ {o : Obj} {vs : Array Value}, s2.heap.get? L = some o → o.data ≠ .fields vs := Km nn2
  refine k _ (μ1 ++ [D]) ((X1.trans X2).but (J := (· = L)) (fun j => by subst j; exact hnew) fun n e => (hs.2 _ n).trans e) (S2.other (tk := s2.toks) ht hf hO hb hs (fun z => by obtain ⟨o, e⟩ := st.zl z; rw [hnew] at e; cases e) (st.ff.fresh hnew))
theorem Re (hs : Js scope env.scope Γ xs) (st : St C base b env Γ ρ μ H s) : closureFor scope env = pure (Dj env scope.names []) :=
  Pc fun p hp e => by
    obtain ⟨c, o, ec, _⟩ := st.er.cells (hs.free p hp e).2
    exact ⟨c, ec⟩
theorem Al.comp1 {x : Str} {px pos : Pos} {iter elt : Expr} {ifs : List Expr} {d : A8 → A0 → Res AV} {di : A8 → A0 → Res (List AV × List (Nat × List AV))} {dc : A8 → A0 → Res Bool} {de : A8 → A0 → Res AV}
    (hs : Js scope S Γ [x]) (hset : C3 iter = true) (hi : Gx C T n b Γ S true iter di) (hc : ∀ z, U5 (C.withZ z) T n b (x :: Γ) (Cq scope S) ifs dc) (he : ∀ z, Al (C.withZ z) T n b (x :: Γ) (Cq scope S) elt de)
    (hd : ∀ ρ H, d ρ H = (di ρ H).get fun p H => (Bh p.2 (fun v H => (dc (some v :: ρ) H).get fun t H => if t then (de (some v :: ρ) H).get fun x H => .ok (some x) H else .ok none H) p.1 H).get fun vs H => B7 vs H) :
    Al C T n b Γ S (.ListComp elt [⟨.Name x px, iter, ifs, 0⟩] scope pos) d := by
  refine ⟨?_⟩
  intro base env ρ μ H H' s A E Q v' G hS st a ed k
  refine bC fun hno => ?_
  rw [hd] at ed
  obtain ⟨p, H1, e1, ed⟩ := Res.get_ok ed
  obtain ⟨vs, H2, e2, ed⟩ := Res.get_ok ed
  obtain ⟨hz, rfl, rfl⟩ := Dx ed
  refine hno ?_
  rw [eval_ListComp]
  subst hS
  refine wpAny_comprehension_free (use := none) rfl (Cg hset) (Re hs st) hs.kind hs.loc ?_
  refine Sp (RR := compPost (model C.prog C.w) A E none Q) hs hi hc he G rfl st a (vs := vs) (Hf := H2) (by rw [e1]; exact e2) hz fun D L s' h => h.value st k
theorem Al.comp2 (hq : T.q = false) {x y : Str} {px py tp pos : Pos} {x1 : Nat} {iter elt : Expr} {d : A8 → A0 → Res AV} {di : A8 → A0 → Res (List AV × List (Nat × List AV))} {de : A8 → A0 → Res AV}
    (hs : Js scope S Γ [x, y]) (hxy : (x == y) = false) (hset : C3 iter = true) (hi : Gx C T n b Γ S nm iter di) (he : ∀ z, Al (C.withZ z) T n b (x :: y :: Γ) (Cq scope S) elt de)
    (hd : ∀ ρ H, d ρ H = (di ρ H).get fun p H => (Bh p.2 (fun v H => Hz (fun x y => (de (some x :: some y :: ρ) H).get fun x H => .ok (some x) H) v) p.1 H).get fun vs H => B7 vs H) :
    Al C T n b Γ S (.ListComp elt [⟨.Tuple [.Name x px, .Name y py] x1 tp, iter, [], 0⟩] scope pos) d := by
  refine ⟨?_⟩
  intro base env ρ μ H H' s A E Q v' G hS st a ed k
  refine bC fun hno => ?_
  rw [hd] at ed
  obtain ⟨p, H1, e1, ed⟩ := Res.get_ok ed
  obtain ⟨vs, H2, e2, ed⟩ := Res.get_ok ed
  obtain ⟨hz, rfl, rfl⟩ := Dx ed
  refine hno ?_
  rw [eval_ListComp]
  subst hS
  refine wpAny_comprehension_free (use := none) rfl (Cg hset) (Re hs st) hs.kind hs.loc ?_
  refine T9 (RR := compPost (model C.prog C.w) A E none Q) hq hs hxy hi he G rfl st a (vs := vs) (Hf := H2) (by rw [e1]; exact e2) hz fun D L s' h => h.value st k
theorem Lj {elt : Expr} {gens : List Comprehension} {scope : Scope} {pos py : Pos} {y : Str} {l : Nat} : swapsWith (.ListComp elt gens scope pos) (some (.Name y py)) l env = pure true ∨ swapsWith (.ListComp elt gens scope pos) (some (.Name y py)) l env = pure false := by
  unfold swapsWith
  simp only
  generalize hb : (env.blockKind == .function && env.kindOf y == some .local && py.line == (Expr.ListComp elt gens scope pos).pos.line && !(scope.names.any fun (n, k) => n == y && (k == .local || k == .cell))) = t
  cases t
  · exact .inr rfl
  · exact .inl rfl
theorem SOk.assignC1 {y : Str} {i : Nat} {py spos : Pos} {x : Str} {px pos : Pos} {iter elt : Expr} {ifs : List Expr} {d : A8 → A0 → SR} {d1 : A8 → A0 → Res AV} {di : A8 → A0 → Res (List AV × List (Nat × List AV))} {dc : A8 → A0 → Res Bool} {de : A8 → A0 → Res AV}
    (hy : slot Γ y = some i) (hk : B2 S y = true)
    (hs : Js scope S Γ [x]) (hset : C3 iter = true) (hi : Gx C T n b Γ S true iter di) (hc : ∀ z, U5 (C.withZ z) T n b (x :: Γ) (Cq scope S) ifs dc) (he : ∀ z, Al (C.withZ z) T n b (x :: Γ) (Cq scope S) elt de)
    (hd1 : ∀ ρ H, d1 ρ H = (di ρ H).get fun p H => (Bh p.2 (fun v H => (dc (some v :: ρ) H).get fun t H => if t then (de (some v :: ρ) H).get fun x H => .ok (some x) H else .ok none H) p.1 H).get fun vs H => B7 vs H)
    (hd : ∀ ρ H, d ρ H = (match d1 ρ H with | .ok v H => .next (ρ.set i (some v)) H | _ => .bad)) :
    SOk C T n b Γ S (.Assign [.Name y py] (.ListComp elt [⟨.Name x px, iter, ifs, 0⟩] scope pos) spos) d := by
  refine ⟨?_⟩
  intro base env ρ μ H s A E Q G hS st a k
  rw [hd] at k
  cases ed : d1 ρ H with
  | ok v H1 =>
    rw [ed] at k
    rcases Lj (env := env) (elt := elt) (gens := [⟨.Name x px, iter, ifs, 0⟩]) (scope := scope) (pos := pos) (py := py) (y := y) (l := spos.line) with hsw | hsw
    · rw [exec_Assign_Name_used _ _ _ _ hsw]
      refine wpAny_bind (wpAny_standAt (wpAny_bind ?_))
      show wpAny _ A (do let _ ← comprehension (.ListComp elt [⟨.Name x px, iter, ifs, 0⟩] scope pos) scope env _ (newList []) false (eval iter env) (some (assign (.Name y py) env))) _ _ s
      refine bC fun hno => ?_
      rw [hd1] at ed
      obtain ⟨p, H2, e1, ed⟩ := Res.get_ok ed
      obtain ⟨vs, H3, e2, ed⟩ := Res.get_ok ed
      obtain ⟨hz, rfl, rfl⟩ := Dx ed
      obtain ⟨hS, hF⟩ := hS
      subst hS
      refine hno ?_
      refine wpAny_bind (wpAny_mono (wpAny_comprehension_free (use := some (assign (.Name y py) env)) (Q := fun _ s' => Q .next s') rfl (Cg hset) (Re hs st) hs.kind hs.loc ?_) (fun _ s' hq => wpAny_pure (wpAny_pure hq)) fun _ _ e => e)
      exact Sp (RR := compPost (model C.prog C.w) A E (some (assign (.Name y py) env)) fun _ s' => Q .next s') hs hi hc he G rfl st a (vs := vs) (Hf := H3) (by rw [e1]; exact e2) hz fun D L s' h => h.use hy (Hh rfl hk) st fun s'' μ'' X S' => k s'' μ'' X S'
    · refine wpAny_Assign_Name ((Al.comp1 hs hset hi hc he hd1).ok G hS.sc st a ed fun u s' μ' X S' V => ?_) hsw
      exact S'.bind hy (Hh hS.sc hk) V fun s'' S'' X' => k s'' μ' (X.trans X') S''
  | exc c H1 => rw [ed] at k; exact k.elim
  | bad => rw [ed] at k; exact k.elim
theorem SOk.assignC2 (hq : T.q = false) {y0 : Str} {i : Nat} {py0 spos : Pos} {x y : Str} {px py tp pos : Pos} {x1 : Nat} {iter elt : Expr} {d : A8 → A0 → SR} {d1 : A8 → A0 → Res AV} {di : A8 → A0 → Res (List AV × List (Nat × List AV))} {de : A8 → A0 → Res AV}
    (hy : slot Γ y0 = some i) (hk : B2 S y0 = true)
    (hs : Js scope S Γ [x, y]) (hxy : (x == y) = false) (hset : C3 iter = true) (hi : Gx C T n b Γ S nm iter di) (he : ∀ z, Al (C.withZ z) T n b (x :: y :: Γ) (Cq scope S) elt de)
    (hd1 : ∀ ρ H, d1 ρ H = (di ρ H).get fun p H => (Bh p.2 (fun v H => Hz (fun x y => (de (some x :: some y :: ρ) H).get fun x H => .ok (some x) H) v) p.1 H).get fun vs H => B7 vs H)
    (hd : ∀ ρ H, d ρ H = (match d1 ρ H with | .ok v H => .next (ρ.set i (some v)) H | _ => .bad)) :
    SOk C T n b Γ S (.Assign [.Name y0 py0] (.ListComp elt [⟨.Tuple [.Name x px, .Name y py] x1 tp, iter, [], 0⟩] scope pos) spos) d := by
  refine ⟨?_⟩
  intro base env ρ μ H s A E Q G hS st a k
  rw [hd] at k
  cases ed : d1 ρ H with
  | ok v H1 =>
    rw [ed] at k
    rcases Lj (env := env) (elt := elt) (gens := [⟨.Tuple [.Name x px, .Name y py] x1 tp, iter, [], 0⟩]) (scope := scope) (pos := pos) (py := py0) (y := y0) (l := spos.line) with hsw | hsw
    · rw [exec_Assign_Name_used _ _ _ _ hsw]
      refine wpAny_bind (wpAny_standAt (wpAny_bind ?_))
      show wpAny _ A (do let _ ← comprehension (.ListComp elt [⟨.Tuple [.Name x px, .Name y py] x1 tp, iter, [], 0⟩] scope pos) scope env _ (newList []) false (eval iter env) (some (assign (.Name y0 py0) env))) _ _ s
      refine bC fun hno => ?_
      rw [hd1] at ed
      obtain ⟨p, H2, e1, ed⟩ := Res.get_ok ed
      obtain ⟨vs, H3, e2, ed⟩ := Res.get_ok ed
      obtain ⟨hz, rfl, rfl⟩ := Dx ed
      obtain ⟨hS, hF⟩ := hS
      subst hS
      refine hno ?_
      refine wpAny_bind (wpAny_mono (wpAny_comprehension_free (use := some (assign (.Name y0 py0) env)) (Q := fun _ s' => Q .next s') rfl (Cg hset) (Re hs st) hs.kind hs.loc ?_) (fun _ s' hq => wpAny_pure (wpAny_pure hq)) fun _ _ e => e)
      exact T9 (RR := compPost (model C.prog C.w) A E (some (assign (.Name y0 py0) env)) fun _ s' => Q .next s') hq hs hxy hi he G rfl st a (vs := vs) (Hf := H3) (by rw [e1]; exact e2) hz fun D L s' h => h.use hy (Hh rfl hk) st fun s'' μ'' X S' => k s'' μ'' X S'
    · refine wpAny_Assign_Name ((Al.comp2 hq hs hxy hset hi he hd1).ok G hS.sc st a ed fun u s' μ' X S' V => ?_) hsw
      exact S'.bind hy (Hh hS.sc hk) V fun s'' S'' X' => k s'' μ' (X.trans X') S''
  | exc c H1 => rw [ed] at k; exact k.elim
  | bad => rw [ed] at k; exact k.elim
end
end Mine
namespace Mine
open PySem PySem.Calls PyProof.Rows
theorem Gw : ∀ {names : List Str} {us : List Value}, names.length = us.length → ∀ {n : Str}, n ∈ names → ((names.zip us).lookup n).isSome = true
  | [], _, _, _, h => by cases h
  | x :: r, [], e, _, _ => by cases e
  | x :: r, u :: us, e, n, h => by
    simp only [List.zip_cons_cons, List.lookup_cons]
    cases q : n == x with
    | true => rfl
    | false =>
      rcases List.mem_cons.mp h with h | h
      · subst h; simp at q
      · exact Gw (by simpa using e) h
theorem Fb {f : List (Str × Value)} : ∀ {names : List Str} {us : List Value}, names.length = us.length → (∀ n v, (n, v) ∈ names.zip us → f.lookup n = some v) → names.filterMap (fun n => (f.lookup n).map (n, ·)) = names.zip us
  | [], _, _, _ => rfl
  | x :: r, [], e, _ => by cases e
  | x :: r, u :: us, e, h => by
    have h1 := h x u (by simp)
    rw [List.filterMap_cons, h1]
    simp only [Option.map_some, List.zip_cons_cons]
    rw [Fb (by simpa using e) fun n v q => h n v (by simp [q])]
theorem Ha : ∀ {names : List Str} {us : List Value}, names.length = us.length → names.Nodup → ∀ {n : Str} {v : Value}, (n, v) ∈ names.zip us → (names.zip us).lookup n = some v
  | [], _, _, _, _, _, h => by simp at h
  | x :: r, [], e, _, _, _, _ => by cases e
  | x :: r, u :: us, e, nd, n, v, h => by
    simp only [List.zip_cons_cons, List.lookup_cons, List.mem_cons] at h ⊢
    rcases h with h | h
    · cases h; simp
    · have hn : n ∈ r := (List.of_mem_zip h).1
      have : n ≠ x := fun q => (List.nodup_cons.mp nd).1 (q ▸ hn)
      rw [show (n == x) = false by simpa using this]
      exact Ha (by simpa using e) (List.nodup_cons.mp nd).2 h
theorem P8 {names : List Str} {us : List Value} (e : names.length = us.length) (nd : names.Nodup) : names.filterMap (fun n => ((names.zip us).lookup n).map (n, ·)) = names.zip us :=
  Fb e fun n v h => Ha e nd h
theorem P5 {fd : FuncData} {us : List Value} (h1 : fd.params.posonlyargs = []) (h2 : fd.params.vararg = none) (h3 : fd.params.kwonlyargs = []) (h4 : fd.params.kwarg = none) (h5 : fd.defaults = .none)
    (hg : ¬ (us.length > (fd.params.args.map Arg.arg).length)) (hm : ∀ k, ((fd.params.args.map Arg.arg).take k).filter (fun n => (((fd.params.args.map Arg.arg).zip us).lookup n).isNone) = []) {R : List (Str × Value)} (hz : (fd.params.args.map Arg.arg ++ []).filterMap (fun n => (((fd.params.args.map Arg.arg).zip us).lookup n).map (n, ·)) = R) : bindArgs fd ⟨us, []⟩ = pure R := by
  rcases fd with ⟨nm, qn, ⟨po, as, va, ko, kd, kw, df⟩, bd, sc, gl, cl, dfl, kwd, dc, pm, an, cd, ct, bi⟩
  dsimp only at h1 h2 h3 h4 h5 hg hm hz
  subst h1 h2 h3 h4 h5 hz
  have nz : ∀ c : Bool, c = false → ¬ (c = true) := fun c h => by rw [h]; decide
  refine (if_neg (c := ((decide (us.length > (as.map Arg.arg).length) && true) = true)) (nz _ (by rw [decide_eq_false hg]; rfl))).trans ?_
  have hd : ∀ {α : Type} (k : Nat), (#[] : Array α).toList.drop k = [] := fun k => List.drop_nil
  refine (if_neg (nz _ (Bool.not_eq_eq_eq_not.mpr (by exact congrArg List.isEmpty (hm _))))).trans ?_
  dsimp only
  erw [hd]
  rw [List.zip_nil_right]
  rfl
theorem Md {fd : FuncData} {us : List Value} (h1 : fd.params.posonlyargs = []) (h2 : fd.params.vararg = none) (h3 : fd.params.kwonlyargs = []) (h4 : fd.params.kwarg = none) (h5 : fd.defaults = .none)
    (hl : fd.params.args.length = us.length) (hn : (fd.params.args.map (·.arg)).Nodup) : bindArgs fd ⟨us, []⟩ = pure ((fd.params.args.map (·.arg)).zip us) := by
  have hl' : (fd.params.args.map (·.arg)).length = us.length := by simpa using hl
  have hm : ∀ k, ((fd.params.args.map (·.arg)).take k).filter (fun n => (((fd.params.args.map (·.arg)).zip us).lookup n).isNone) = [] := fun k => by
    rw [List.filter_eq_nil_iff]
    intro n hn' e
    have := Gw hl' (List.mem_of_mem_take hn')
    rw [Option.isNone_iff_eq_none] at e
    rw [e] at this; cases this
  exact P5 h1 h2 h3 h4 h5 (fun q => Nat.lt_irrefl _ (hl' ▸ q)) hm (by rw [List.append_nil]; exact P8 hl' hn)
theorem Lf {kf : Str → Option NameKind} {x : Str} : ∀ {binds : List (Str × Value)} {m : Str → Option Value}, x ∉ binds.map (·.1) → bindL kf binds m x = m x
  | [], m, _ => rfl
  | (n, v) :: r, m, h => by
    simp only [List.map_cons, List.mem_cons, not_or] at h
    unfold bindL
    rw [Lf h.2]
    split
    · exact if_neg h.1
    · rfl
theorem Pq {kf : Str → Option NameKind} {x : Str} {u : Value} (hk : kf x = some .local) : ∀ {binds : List (Str × Value)} {m : Str → Option Value}, (binds.map (·.1)).Nodup → (x, u) ∈ binds → bindL kf binds m x = some u
  | [], m, _, h => by cases h
  | (n, v) :: r, m, nd, h => by
    simp only [List.map_cons, List.nodup_cons] at nd
    unfold bindL
    rcases List.mem_cons.mp h with h | h
    · cases h
      rw [Lf nd.1, if_pos hk]; exact if_pos rfl
    · exact Pq hk nd.2 h
theorem L9 {kf : Str → Option NameKind} {x : Str} : ∀ {binds : List (Str × Value)} {m : Str → Option Value}, x ∉ binds.map (·.1) → bindC kf binds m x = m x
  | [], m, _ => rfl
  | (n, v) :: r, m, h => by
    simp only [List.map_cons, List.mem_cons, not_or] at h
    unfold bindC
    rw [L9 h.2]
    split
    · rfl
    · exact if_neg h.1
theorem Qa {kf : Str → Option NameKind} {x : Str} {u : Value} (hk : kf x ≠ some .local) : ∀ {binds : List (Str × Value)} {m : Str → Option Value}, (binds.map (·.1)).Nodup → (x, u) ∈ binds → bindC kf binds m x = some u
  | [], m, _, h => by cases h
  | (n, v) :: r, m, nd, h => by
    simp only [List.map_cons, List.nodup_cons] at nd
    unfold bindC
    rcases List.mem_cons.mp h with h | h
    · cases h
      rw [L9 nd.1, if_neg hk]; exact if_pos rfl
    · exact Qa hk nd.2 h
theorem A11 {C : Cx} {μ : List Addr} {H : A0} {h : Heap} (hp : Ci C μ H h) {a : Addr} (ha : h.get? a = none) : a ∉ μ := fun q => by
  obtain ⟨o, e⟩ := hp.live q; rw [ha] at e; cases e
section
variable {C : Cx} {T : Tab} {n b : Nat} {Γ : List Str} {S : Scope} {J : Addr → Prop}
variable {base : Bs} {env cenv : Env} {ρ : A8} {μ μ' : List Addr} {H H' : A0} {s s' : Shared} {A : Around} {E : Value → Shared → Prop}
structure Aau (T : Tab) (f : FnI) (params : Arguments) (body : List Stmt) (S : Scope) : Prop where
  posonly : params.posonlyargs = []
  vararg : params.vararg = none
  kwonly : params.kwonlyargs = []
  kwarg : params.kwarg = none
  np : params.args.length = f.np
  take : (Ff S).take f.np = params.args.map (·.arg)
  nv : (Ff S).length = f.nv
  nd : (S.names.map (·.1)).Nodup
  kind : S.kind = .function
  gen : S.isGenerator = false
  co : S.isCoroutine = false
  free : ∀ x ∈ S.names, x.2 ≠ .free
  body : Fg T (Ff S) S f.body body = true
theorem A3x {f : FnI} {params : Arguments} {body : List Stmt} (h : Wr T f params body S = true) : Aau T f params body S := by
  refine bC fun hno => ?_
  unfold Wr at h
  simp only [Bool.and_eq_true, beq_iff_eq, List.isEmpty_iff, Option.isNone_iff_eq_none, decide_eq_true_eq, Bool.not_eq_true', List.all_eq_true, bne_iff_ne] at h
  obtain ⟨⟨⟨⟨⟨⟨⟨⟨⟨⟨⟨⟨⟨⟨h1, h2⟩, h3⟩, h4⟩, h5⟩, h6⟩, h7⟩, h8⟩, h9⟩, h10⟩, h11⟩, h12⟩, h13⟩, h14⟩, h15⟩ := h
  refine hno ?_
  exact ⟨h1, h2, h3, h5, h7, h8, h9, h10, h11, h12, h13, h14, h15⟩
theorem Qb (nd : (S.names.map (·.1)).Nodup) : (Ff S).Nodup := by
  unfold Ff
  exact List.Nodup.sublist (List.Sublist.map _ List.filter_sublist) nd
theorem Pg : ∀ {l : List (Str × NameKind)}, (l.map (·.1)).Nodup → ∀ {x : Str} {k : NameKind}, (x, k) ∈ l → l.lookup x = some k
  | [], _, _, _, h => by cases h
  | (y, j) :: r, nd, x, k, h => by
    simp only [List.map_cons, List.nodup_cons] at nd
    rw [List.lookup_cons]
    rcases List.mem_cons.mp h with h | h
    · cases h; simp
    · have : x ≠ y := fun e => nd.1 (e ▸ List.mem_map_of_mem (f := (·.1)) h)
      rw [show (x == y) = false by simpa using this]
      exact Pg nd.2 h
theorem A4p {fd : FuncData} {a : Addr} {f : FnI} {body : List Stmt} {vs : List AV} {us : List Value} (hp : Ci C μ H s.heap) (hg : s.gens = #[]) (ho : s.os = C.os) (zl : ∀ {a : Addr}, C.z a → ∃ o, s.heap.get? a = some o)
    {g : Heap} {fs : List Env} {q : Bool} (gb : ∀ a o, g.get? a = some o → s.heap.get? a = some o) (ff : FF C.z s.heap g fs) (K : Aau T f fd.params body fd.scope) (gl : fd.globals = mainGlobals) (bu : fd.builtins = builtinsNs) (V : VRs C μ s.heap vs us) (hv : vs.length = f.np)
    (x : InCallC s (callEnvC fd s.heap.objs.size a).locals (bindL (callEnvC fd s.heap.objs.size a).kindOf ((fd.params.args.map (·.arg)).zip us) fun _ => none) (callEnvC fd s.heap.objs.size a).cells
        (bindC (callEnvC fd s.heap.objs.size a).kindOf ((fd.params.args.map (·.arg)).zip us) fun _ => none) s') :
    St C ⟨s.heap, g, callEnvC fd s.heap.objs.size a :: fs, q, gb⟩ H.length (callEnvC fd s.heap.objs.size a) (Ff fd.scope) (vs.map some ++ List.replicate (f.nv - f.np) none) μ H s' := by
  refine bC fun hno => ?_
  obtain ⟨⟨⟨h1, tk, rfl⟩, nn, kp, fr⟩, hcell, apart, above⟩ := x
  have kk : ∀ {a : Addr} {o : Obj}, s.heap.get? a = some o → h1.get? a = some o := fun {a o} e => kp a o e
  have hul : us.length = f.np := by rw [← V.length, hv]
  have hkl : (fd.params.args.map (·.arg)).length = us.length := by rw [List.length_map, K.np, hul]
  have gnd := Qb K.nd
  have pnd : (fd.params.args.map (·.arg)).Nodup := by rw [← K.take]; exact gnd.sublist (List.take_sublist _ _)
  have bnd : (((fd.params.args.map (·.arg)).zip us).map (·.1)).Nodup := by rw [List.map_fst_zip (by exact Nat.le_of_eq hkl)]; exact pnd
  have val : ∀ {x : Str} {i : Nat} {v : AV}, slot (Ff fd.scope) x = some i → (vs.map some ++ List.replicate (f.nv - f.np) none)[i]? = some (some v) → ∃ u, (x, u) ∈ (fd.params.args.map (·.arg)).zip us ∧ VR C μ h1 v u := by
    intro x i v e1 e2
    have hi : i < vs.length := by
      by_cases hi : i < vs.length
      · exact hi
      · rw [List.getElem?_append_right (by simpa using Nat.not_lt.mp hi), List.getElem?_replicate] at e2
        split at e2 <;> cases e2
    rw [List.getElem?_append_left (by simpa using hi), List.getElem?_map] at e2
    have ev : vs[i]? = some v := by
      cases q : vs[i]? with
      | none => rw [q] at e2; cases e2
      | some w => rw [q] at e2; cases e2; rfl
    obtain ⟨u, eu, vu⟩ := V.get ev
    refine ⟨u, ?_, vu.keeps kk⟩
    have ex := Rt e1
    have ex' : (fd.params.args.map (·.arg))[i]? = some x := by
      rw [← K.take, List.getElem?_take, if_pos (by exact Iv hi hv)]; exact ex
    rw [List.mem_iff_getElem?]
    exact ⟨i, by rw [List.getElem?_zip_eq_some]; exact ⟨ex', eu⟩⟩
  have ff' : FF C.z h1 g (callEnvC fd s.heap.objs.size a :: fs) := by
    obtain ⟨o, es, ep, eo, hd, _⟩ := id nn
    refine ⟨by rw [show (callEnvC fd s.heap.objs.size a).scope.kind = .function from K.kind]; decide, ⟨_, o, rfl, ?_, eo, ⟨es, ep, hd⟩, fun z => ?_⟩, (Lv.grow kk).ff ff⟩
    · cases q : g.get? s.heap.objs.size with
      | none => rfl
      | some o' => have := gb _ _ q; rw [Aw] at this; cases this
    · obtain ⟨o', e'⟩ := zl z
      rw [show s.heap.get? s.heap.objs.size = none from Aw _] at e'; cases e'
  refine hno ?_
  refine ⟨fun a o e => .same (kp a o e), hp.keeps kk, ⟨K.kind, ⟨_, nn, ?_⟩, ?_, ?_, ?_, gl, bu⟩, ?_, Db fr, A11 hp (Db fr), ?_, hg, ho, fun z => let ⟨o, e⟩ := zl z; ⟨o, kk e⟩, ff'⟩
  · intro x i v e1 e2 e3
    obtain ⟨u, hm, vu⟩ := val e1 e3
    exact ⟨u, Pq e2 bnd hm, vu⟩
  · intro x hk
    have hk' : fd.scope.names.lookup x = some .cell := by
      rcases hk with hk | hk
      · exact hk
      · exact absurd rfl (K.free _ (mem_of_lookup (show fd.scope.names.lookup x = some .free from hk)))
    obtain ⟨c, ec⟩ := Cn fd.scope.names (s.heap.objs.size + 1) [] (.inl (mem_of_lookup hk'))
    refine ⟨c, _, ec, hcell x c ec, fun {i v} e1 e2 => ?_⟩
    obtain ⟨u, hm, vu⟩ := val e1 e2
    refine ⟨u, Qa (fun e => ?_) bnd hm, vu⟩
    have e' : fd.scope.names.lookup x = some .local := e
    rw [hk'] at e'; cases e'
  · intro x c e
    exact ⟨_, hcell x c e⟩
  · intro x y c e1 e2
    exact name_of_addr apart (mem_of_lookup e1) (mem_of_lookup e2)
  · intro i a' hi e
    have := (List.getElem?_eq_some_iff.mp e).1
    rw [hp.len] at this; (first | lia | omega)
  · intro x c e
    exact Db (Nat.le_of_lt (above x c (mem_of_lookup e)))
end
end Mine
namespace Mine
open PySem PySem.Calls PyProof.Rows PySem.SeqAt
end Mine
namespace Mine
noncomputable def Jp (strF : Bi) : Prop := True
end Mine
namespace Mine
open PySem PySem.Calls PyProof.Rows PySem.SeqAt
section
variable {C : Cx} {T : Tab} {n b : Nat} {Γ : List Str} {S : Scope} {J : Addr → Prop} {strF : Bi}
variable {h : Heap} {base : Bs} {env cenv : Env} {ρ : A8} {μ μ' : List Addr} {H H' : A0} {s s' : Shared} {A : Around} {E : Value → Shared → Prop}
theorem Gnd.re {B B' : Bs} (G : Gnd C T B) (hg : B'.g = B.g) (hq : B'.q = B.q) : Gnd C T B' := by
  obtain ⟨h, g, fs, q, gb⟩ := B
  obtain ⟨h', g', fs', q', gb'⟩ := B'
  cases hg; cases hq
  exact ⟨G.q, G.okc, ⟨G.scr.scr⟩, G.g, G.b, G.bi, G.fn, G.gint, G.exg, G.nolimit, G.defs, G.qdefs⟩
theorem AOk.deeper {B : Bs} {h' : Heap} {gb : ∀ a o, B.g.get? a = some o → h'.get? a = some o} (a : AOk B A (n + 1)) : AOk ⟨h', B.g, env :: B.fs, B.q, gb⟩ (A.deeper env) n :=
  ⟨by have := a.depth; show A.depth + 1 + n + 60 < _; exact Nat.lt_of_le_of_lt (Nat.le_of_eq (congrArg (· + 60) (Nat.add_right_comm _ _ _))) this, by have := a.units; show A.units + 3 + 4 * n + 400 < _; exact Nat.lt_of_le_of_lt (Nat.add_le_add_right (Nat.le_trans (Nat.le_of_eq (Nat.add_assoc _ _ _)) (Nat.add_le_add_left (Nat.le_trans (Nat.le_of_eq (Nat.add_comm 3 _)) (Nat.le_succ _)) _)) 400) this, a.handled, Around.frames_deeper a.frames, a.guards⟩
structure Za (C : Cx) (T : Tab) (n : Nat) (strF : Bi) (cf : Nat → List AV → A0 → Res AV) : Prop where
  any : ∀ (b : Nat) {ps : PSs} {Γ : List Str} {S : Scope} {body : List Stmt}, Fg T Γ S ps body = true → F8 C T n b Γ S body (Ai strF cf C.sc b ps)
theorem Za.ok {cf : Nat → List AV → A0 → Res AV} (B : Za C T n strF cf) {f : FnI} {body : List Stmt} {S : Scope} (b : Nat) (h : Fg T (Ff S) S f.body body = true) : F8 C T n b (Ff S) S body (Ai strF cf C.sc b f.body) := B.any b h
structure Ret (C : Cx) (g : Heap) (fs : List Env) (μ : List Addr) (H : A0) (s : Shared) (H' : A0) (s' : Shared) (μ' : List Addr) : Prop where
  kp : ∀ a o, s.heap.get? a = some o → Kp (g.get? a = none) a o s'.heap
  pre : μ <+: μ'
  new : ∀ {a : Addr}, a ∈ μ' → a ∉ μ → s.heap.get? a = none
  fr : ∀ {i : Nat} {a : Addr}, H.length ≤ i → μ'[i]? = some a → s.heap.get? a = none
  hp : Ci C μ' H' s'.heap
  gens : s'.gens = #[]
  os : s'.os = C.os
  zl : ∀ {a : Addr}, C.z a → ∃ o, s'.heap.get? a = some o
  ff : FF C.z s'.heap g fs
noncomputable def A6t (C : Cx) (g : Heap) (fs : List Env) (μ : List Addr) (H : A0) (s : Shared) (r : Res AV) (Q E : Value → Shared → Prop) : Prop := match r with
  | .ok v H' => ∀ u s' μ', Ret C g fs μ H s H' s' μ' → VR C μ' s'.heap v u → Q u s'
  | .exc c H' => ∀ u s' μ', Ret C g fs μ H s H' s' μ' → C.eo c → XR (C.ea c) false u s.heap s'.heap → E u s'
  | .bad => False
theorem To {k : Nat} {vs : List AV} {us : List Value} {Q : Value → Shared → Prop} (B : Za C T n strF (Ah strF (fun k => T.defs.lookup k) C.sc n)) (ok : T.okc k = true) (hb : base.h = s.heap) (G : Gnd C T base) (hp : Ci C μ H s.heap) (hg : s.gens = #[]) (ho : s.os = C.os) (zl : ∀ {a : Addr}, C.z a → ∃ o, s.heap.get? a = some o)
    (ff : FF C.z s.heap base.g base.fs) (a : AOk base A (n + 1)) (V : VRs C μ s.heap vs us) (q : A6t C base.g base.fs μ H s (Ah strF (fun k => T.defs.lookup k) C.sc (n + 1) k vs H) Q E) :
    wpAny (model C.prog C.w) A (call (.ref (C.fa k)) us) Q E s := by
  have gb : ∀ a o, base.g.get? a = some o → s.heap.get? a = some o := fun a o e => hb ▸ base.gb a o e
  unfold Ah at q
  split at q
  · exact q.elim
  · rename_i f ef
    split at q
    · rename_i hl
      obtain ⟨o, fd, body, h1, h2, h3, h4, h5, h6, h7, h8, h9⟩ := G.defs ef ok
      have K := A3x h9
      have hul : us.length = f.np := by rw [← V.length, hl]
      have hkl : fd.params.args.length = us.length := by rw [K.np, hul]
      have pnd : (fd.params.args.map (·.arg)).Nodup := by rw [← K.take]; exact (Qb K.nd).sublist (List.take_sublist _ _)
      refine wpAny_call (codeAny_call_cells (binds := (fd.params.args.map (·.arg)).zip us) (by have := a.depth; exact Nat.lt_of_le_of_lt (Nat.le_trans (Nat.le_add_right _ _) (Nat.le_add_right _ _)) this) (gb _ _ h1) h2 (G.nolimit.keeps gb) (h8.keeps gb) h3 (Md K.posonly K.vararg K.kwonly K.kwarg h6 hkl pnd) h5 ?_ (fun s1 x => ?_) K.co K.gen K.kind)
      · intro y hy
        refine bC fun hno => ?_
        have hm : y.1 ∈ fd.params.args.map (·.arg) := (List.of_mem_zip (a := y.1) (b := y.2) hy).1
        rw [← K.take] at hm
        have hm' := List.mem_of_mem_take hm
        unfold Ff at hm'
        obtain ⟨p, hp', e'⟩ := List.mem_map.mp hm'
        obtain ⟨hp1, hp2⟩ := List.mem_filter.mp hp'
        have hlk := Pg K.nd (x := p.1) (k := p.2) hp1
        rw [e'] at hlk
        simp only [Bool.or_eq_true, beq_iff_eq] at hp2
        refine hno ?_
        rcases hp2 with q1 | q1
        · rw [q1] at hlk; exact .inl hlk
        · rw [q1] at hlk
          refine .inr ⟨hlk, ?_⟩
          obtain ⟨c, ec⟩ := Cn fd.scope.names (s.heap.objs.size + 1) [] (.inl (mem_of_lookup hlk))
          rw [ec]; rfl
      · have st := A4p (a := C.fa k) (q := base.q) hp hg ho zl gb ff K h4 h7 V hl x
        have G' : Gnd C T ⟨s.heap, base.g, callEnvC fd s.heap.objs.size (C.fa k) :: base.fs, base.q, gb⟩ := G.re rfl rfl
        have F : Fn ⟨s.heap, base.g, callEnvC fd s.heap.objs.size (C.fa k) :: base.fs, base.q, gb⟩ (callEnvC fd s.heap.objs.size (C.fa k)) fd.scope := ⟨rfl, ⟨base.fs, _, rfl, rfl⟩⟩
        have a' := a.deeper (env := callEnvC fd s.heap.objs.size (C.fa k)) (gb := gb)
        refine (B.ok H.length K.body).ok G' F st a' ?_
        have lv1 : Lv s.heap s1.heap := ⟨fun e => by
          cases st.keep _ _ e with
          | same e' => exact ⟨_, e', id⟩
          | slot _ _ sl e' => exact ⟨_, e', fun ⟨es, ep, d⟩ => ⟨es, ep, d⟩⟩⟩
        have ret : ∀ {ρ' : A8} {s2 : Shared} {μ2 : List Addr} {H2 : A0}, St C ⟨s.heap, base.g, callEnvC fd s.heap.objs.size (C.fa k) :: base.fs, base.q, gb⟩ H.length (callEnvC fd s.heap.objs.size (C.fa k)) (Ff fd.scope) ρ' μ2 H2 s2 →
            Ext (callEnvC fd s.heap.objs.size (C.fa k)) μ μ2 s1.heap s2.heap → Ret C base.g base.fs μ H s H2 s2 μ2 := by
          intro ρ' s2 μ2 H2 S2 X2
          refine ⟨S2.keep, X2.pre, fun {a'} hm hn => ?_, S2.fresh, S2.hp, S2.gens, S2.os, S2.zl, S2.ff.2.2⟩
          have := X2.new hm hn
          cases e' : s.heap.get? a' with
          | none => rfl
          | some o => obtain ⟨o', e2, _⟩ := lv1.go e'; rw [this] at e2; cases e2
        cases ed : Ai strF (Ah strF (fun k => T.defs.lookup k) C.sc n) C.sc H.length f.body (List.map some vs ++ List.replicate (f.nv - f.np) none) H with
        | next ρ2 H2 =>
          rw [ed] at q
          exact fun s2 μ2 X2 S2 => q _ s2 μ2 (ret S2 X2) .none
        | ret w H2 =>
          rw [ed] at q
          exact fun u s2 μ2 X2 S2 V2 => q u s2 μ2 (ret S2 X2) V2
        | exc c H2 =>
          rw [ed] at q
          intro u s2 μ2 X2 S2 ek x2
          unfold leaving
          refine wpAny_bind (Jn F.top a' st S2 X2 x2 fun s3 S3 X3 x3 => ?_)
          exact G1 st S3 X3 x3 fun s4 S4 X4 x4 => q u s4 μ2 (ret S4 X4) ek (x4.weak.back lv1)
        | bad => rw [ed] at q; exact q.elim
    · exact q.elim
theorem Ret.ext {s' : Shared} {g : Heap} {fs : List Env} (R : Ret C g fs μ H s H' s' μ') : Ext env μ μ' s.heap s'.heap := by
  refine ⟨R.pre, fun e _ => (R.kp _ _ e).map (fun _ => trivial) id, R.new, ⟨fun e => ?_⟩⟩
  cases R.kp _ _ e with
  | same e' => exact ⟨_, e', id⟩
  | slot _ _ sl e' => exact ⟨_, e', fun ⟨es, ep, d⟩ => ⟨es, ep, d⟩⟩
theorem Ret.st {s' : Shared} (st : St C base b env Γ ρ μ H s) (R : Ret C base.g base.fs μ H s H' s' μ') : St C base b env Γ ρ μ' H' s' := by
  have mono : ∀ {x : AV} {v : Value}, VR C μ s.heap x v → VR C μ' s'.heap x v := fun q => VR.mono' (P := fun _ => False) R.pre (fun e _ => (R.kp _ _ e).map (fun _ => trivial) id) (fun _ => id) (fun _ _ => id) q
  refine ⟨fun a o e => (st.keep a o e).trans fun e' => R.kp a _ e', R.hp, st.er.mono (fun _ n => Kp.ns n fun e => R.kp _ _ e) (fun x c o ec e => ?_) mono, ?_, st.noloc, ?_, st.nocell, R.gens, R.os, R.zl, R.ff⟩
  · refine bC fun hno => ?_
    obtain ⟨v, ob, eb, db⟩ := st.er.cell ec
    rw [e] at eb; cases eb
    refine hno ?_
    exact (R.kp _ _ e).ex fun _ _ q => by rw [db] at q; cases q
  · intro i a' hi e'
    by_cases hl : i < μ.length
    · obtain ⟨t, rfl⟩ := R.pre
      rw [List.getElem?_append_left hl] at e'
      exact st.fresh hi e'
    · exact Bl st (R.fr (by rw [← st.hp.len]; exact oGe hl) e')
  · intro hm
    by_cases hq : env.locals ∈ μ
    · exact st.lm hq
    · obtain ⟨m, ⟨o, _, _, ho2, _⟩, _⟩ := st.er.ns
      rw [R.new hm hq] at ho2; cases ho2
theorem Df.step (B : Za C T n strF (Ah strF (fun k => T.defs.lookup k) C.sc n)) : Df C T (n + 1) (Ah strF (fun k => T.defs.lookup k) C.sc (n + 1)) := by
  have go : ∀ {k : Nat} {base : Bs} {b : Nat} {env : Env} {Γ : List Str} {ρ : A8} {μ : List Addr} {H : A0} {s : Shared} {A : Around} {E : Value → Shared → Prop} {Q : Value → Shared → Prop} {vs : List AV} {us : List Value},
      T.okc k = true → Gnd C T base → St C base b env Γ ρ μ H s → AOk base A (n + 1) → VRs C μ s.heap vs us → A6t C base.g base.fs μ H s (Ah strF (fun k => T.defs.lookup k) C.sc (n + 1) k vs H) Q E → wpAny (model C.prog C.w) A (call (.ref (C.fa k)) us) Q E s := by
    intro k base b env Γ ρ μ H s A E Q vs us ok G st a V q
    refine To (base := ⟨s.heap, base.g, base.fs, base.q, fun _ _ => st.kg⟩) B ok rfl (G.re rfl rfl) st.hp st.gens st.os st.zl st.ff ⟨a.depth, a.units, a.handled, a.frames, a.guards⟩ V q
  refine ⟨?_, ?_⟩
  · intro k base b env Γ ρ μ H H' s A E Q vs us v ok G st a V e q
    refine go ok G st a V ?_
    rw [e]
    exact fun u s' μ' R V' => q u s' μ' R.ext (R.st st) V'
  · intro k base b env Γ ρ μ H H' s A E Q vs us c ok G st a V e q
    refine go ok G st a V ?_
    rw [e]
    exact fun u s' μ' R ek x => q u s' μ' R.ext (R.st st) ek x
theorem Df.zero : Df C T 0 (Ah strF (fun k => T.defs.lookup k) C.sc 0) := by
  refine ⟨?_, ?_⟩
  · intro k base b env Γ ρ μ H H' s A E Q vs us v ok G st a V e q
    cases e
  · intro k base b env Γ ρ μ H H' s A E Q vs us c ok G st a V e q
    cases e
end
end Mine
namespace Mine
open PySem PySem.Calls PyProof.Rows PySem.SeqAt
section
variable {C : Cx} {T : Tab} {n b : Nat} {Γ : List Str} {S : Scope} {cf : Nat → List AV → A0 → Res AV} {strF : Bi}
theorem Wy {α : Type} {r : Res AV} {f : List AV → A0 → Res α} : ((r.thn fun v H => (Res.ok ([] : List AV) H).thn fun vs H => .ok (v :: vs) H).get f) = r.get fun w H => f [w] H := by
  cases r <;> rfl
theorem Tq {x : AV} {p : Int × Int} (h : Mt x = some p) : x = .tup [.int p.1, .int p.2] := by
  cases x with
  | tup vs =>
    cases vs with
    | nil => cases h
    | cons x r => cases r with
      | nil => cases h
      | cons y r => cases r with
        | cons _ _ => cases h
        | nil =>
          have h : ((Cj x).bind fun i => (Cj y).map fun j => (i, j)) = some p := h
          cases h1 : Cj x with
          | none => rw [h1] at h; cases h
          | some i =>
            cases h2 : Cj y with
            | none => rw [h1, h2] at h; cases h
            | some j => rw [h1, h2] at h; cases h; rw [Jr h1, Jr h2]
  | _ => cases h
theorem A1e {p : D9} {x y v : AV} {H H' : A0} (e : A70 p x y H = .ok v H') : p = .min2 ∨ p = .max2 := by
  cases p with
  | min2 => exact .inl rfl
  | max2 => exact .inr rfl
  | _ => cases e
theorem E0 {p : D9} {sc : List Int} {vs : List AV} {H H' : A0} {v : AV} (hp : p ≠ .min2 ∧ p ≠ .max2) (e : prim strF sc p vs H = .ok v H') : ∃ x, vs = [x] := by
  cases vs with
  | nil => cases e
  | cons x r => cases r with
    | nil => exact ⟨x, rfl⟩
    | cons y r => cases r with
      | nil => exact ((A1e e).elim hp.1 hp.2).elim
      | cons _ _ => cases e
theorem Tn {p : D9} {sc : List Int} {vs : List AV} {H H' : A0} {v : AV} (hp : p = .min2 ∨ p = .max2) (e : prim strF sc p vs H = .ok v H') : ∃ x y, vs = [x, y] := by
  cases vs with
  | nil => cases e
  | cons x r => cases r with
    | nil => rcases hp with rfl | rfl <;> cases e
    | cons y r => cases r with
      | nil => exact ⟨x, y, rfl⟩
      | cons _ _ => cases e
theorem Ii {o : Option Bool} {H H' : A0} {v : AV} (e : Fm o H = .ok v H') : ∃ t, o = some t ∧ v = .bool t ∧ H' = H := by
  unfold Fm at e
  split at e
  · cases e; exact ⟨_, rfl, rfl, rfl⟩
  · cases e
theorem Lm {base : Bs} (hsf : Jp strF) (hq : base.q = false) {p : D9} {f : Str} {env : Env} {ρ : A8} {μ : List Addr} {H H' : A0} {s : Shared} {A : Around} {E : Value → Shared → Prop} {Q : Value → Shared → Prop} {vs : List AV} {us : List Value} {v : AV} {fv : Value}
    (hf : F1 p = some f) (hb : Cr.lookup f = some fv) (ok : J2 p = true) (G : Gnd C T base) (st : St C base b env Γ ρ μ H s) (a : AOk base A n) (V : VRs C μ s.heap vs us) (e : prim strF C.sc p vs H = .ok v H') (k : B5 C base b env Γ ρ μ s v H' Q) :
    wpAny (model C.prog C.w) A (call fv us) Q E s := by
  cases p with
  | len =>
    cases hf; cases hb
    refine bC fun hno => ?_
    obtain ⟨x, rfl⟩ := E0 (by simp) e
    obtain ⟨u, rfl, V1⟩ := V.one
    refine hno ?_
    exact A80 G.scr st V1 e k
  | list =>
    cases hf; cases hb
    refine bC fun hno => ?_
    obtain ⟨x, rfl⟩ := E0 (by simp) e
    obtain ⟨u, rfl, V1⟩ := V.one
    refine hno ?_
    exact A6k st V1 e k
  | tuple => cases ok
  | sorted =>
    cases hf; cases hb
    refine bC fun hno => ?_
    obtain ⟨x, rfl⟩ := E0 (by simp) e
    obtain ⟨u, rfl, V1⟩ := V.one
    refine hno ?_
    cases x with
    | ref r =>
      rw [K0] at e
      split at e
      · rename_i xs ex
        split at e
        · rename_i h64
          split at e
          · rename_i is ei
            refine bC fun hno => ?_
            obtain ⟨_, rfl, rfl⟩ := Dx e
            refine hno ?_
            exact Zi st V1 ex ei h64 k
          · cases e
        · cases e
      · cases e
    | _ => exact Dc (v := v) (H' := H') e
  | min2 =>
    cases hf; cases hb
    refine bC fun hno => ?_
    obtain ⟨x, y, rfl⟩ := Tn (.inl rfl) e
    obtain ⟨u, w, rfl, V1, V2⟩ := V.two
    refine hno ?_
    exact A5y st a hq V1 V2 e k
  | max2 =>
    cases hf; cases hb
    refine bC fun hno => ?_
    obtain ⟨x, y, rfl⟩ := Tn (.inr rfl) e
    obtain ⟨u, w, rfl, V1, V2⟩ := V.two
    refine hno ?_
    exact A6m st a hq V1 V2 e k
  | min1 =>
    cases hf; cases hb
    refine bC fun hno => ?_
    obtain ⟨x, rfl⟩ := E0 (by simp) e
    obtain ⟨u, rfl, V1⟩ := V.one
    have e : (match Mt x with | some p => Res.ok (AV.int (min p.1 p.2)) H | none => .bad) = .ok v H' := e
    refine hno ?_
    cases q : Mt x with
    | none => rw [q] at e; cases e
    | some p => rw [q] at e; cases e; cases Tq q; exact A5j st a hq V1 k
  | max1 =>
    cases hf; cases hb
    refine bC fun hno => ?_
    obtain ⟨x, rfl⟩ := E0 (by simp) e
    obtain ⟨u, rfl, V1⟩ := V.one
    unfold prim A7e at e
    dsimp only at e
    refine hno ?_
    cases q : Mt x with
    | some p => rw [q] at e; cases e; cases Tq q; exact A5d st a hq V1 k
    | none =>
      rw [q] at e
      cases x with
      | ref r =>
        dsimp only at e
        split at e
        · rename_i xs ex
          split at e
          · rename_i i is ei
            cases e
            exact A6h st a hq V1 ex ei k
          · cases e
        · cases e
      | _ => cases e
  | sum =>
    cases hf; cases hb
    refine bC fun hno => ?_
    obtain ⟨x, rfl⟩ := E0 (by simp) e
    obtain ⟨u, rfl, V1⟩ := V.one
    refine hno ?_
    cases x with
    | ref r =>
      rw [A7c] at e
      split at e
      · rename_i xs ex
        split at e
        · rename_i is ei
          cases e
          exact A7q st a hq V1 ex ei k
        · cases e
      · cases e
    | _ => exact Dc (v := v) (H' := H') e
  | all =>
    cases hf; cases hb
    refine bC fun hno => ?_
    obtain ⟨x, rfl⟩ := E0 (by simp) e
    obtain ⟨u, rfl, V1⟩ := V.one
    refine hno ?_
    cases x with
    | ref r =>
      rw [A0z] at e
      split at e
      · rename_i xs ex
        split at e
        · rename_i is ei
          cases e
          exact A8y st a hq V1 ex ei k
        · cases e
      · cases e
    | _ => exact Dc (v := v) (H' := H') e
  | int =>
    cases hf; cases hb
    refine bC fun hno => ?_
    obtain ⟨x, rfl⟩ := E0 (by simp) e
    obtain ⟨u, rfl, V1⟩ := V.one
    refine hno ?_
    cases x with
    | bool c =>
      have e : Res.ok (AV.int (if c then 1 else 0)) H = .ok v H' := e
      cases e; exact A8c st V1 k
    | _ => exact Dc (v := v) (H' := H') e
  | sortedP => cases ok
  | listRange => cases hf
  | sortedSet => cases hf
  | isInt => cases hf
  | isBool => cases hf
  | isList => cases hf
  | isTuple => cases hf
  | isExc c => cases hf
  | isValueError => cases hf
theorem A5u {p : D9} {f : Str} (h : F1 p = some f) : (∃ id, Cr.lookup f = some (.builtin id)) ∨ (∃ ty, Cr.lookup f = some (.type ty)) := by
  cases p <;> cases h <;> first | exact .inl ⟨_, rfl⟩ | exact .inr ⟨_, rfl⟩
theorem Al.primCall (hsf : Jp strF) (hq : T.q = false) {p : D9} {f : Str} {e : Expr} {r : List Expr} {np pos : Pos} {d : A8 → A0 → Res AV} {d1 : A8 → A0 → Res (List AV)} (hf : F1 p = some f) (ok : J2 p = true) (hg : Ao S f = true) (hn : (e :: r).all Aq = true)
    (h1 : Ji C T n b Γ S (e :: r) d1) (hd : ∀ ρ H, d ρ H = (d1 ρ H).get fun vs H => prim strF C.sc p vs H) : Al C T n b Γ S (.Call (.Name f np) (e :: r) [] pos) d := by
  rcases A5u hf with ⟨id, hb⟩ | ⟨ty, hb⟩
  · exact .callB hb hg hn h1 hd fun G st a V e k => Lm hsf (G.q.trans hq) hf hb ok G st a V e k
  · exact .callT hb hg hn h1 hd fun G st a V e k => Lm hsf (G.q.trans hq) hf hb ok G st a V e k
theorem Al.isCall {p : D9} {f g : Str} {x : Expr} {np gp pos : Pos} {d d1 : A8 → A0 → Res AV} (hp : Jb T p = some g) (ok : J2 p = true) (hf : f = ("isinstance" : Str)) (hg : Ao S f = true) (hgg : Ao S g = true) (hn : Aq x = true)
    (h1 : Al C T n b Γ S x d1) (hd : ∀ ρ H, d ρ H = (d1 ρ H).get fun w H => prim strF C.sc p [w] H) : Al C T n b Γ S (.Call (.Name f np) [x, .Name g gp] [] pos) d := by
  subst hf
  cases p with
  | isInt =>
    cases hp
    refine .callI (Ty := "int") rfl hg rfl hgg hn h1 hd fun G st V e k => ?_
    refine bC fun hno => ?_
    obtain ⟨t, e', rfl, rfl⟩ := Ii e
    refine hno ?_
    exact A1i st V e' k
  | isBool =>
    cases hp
    refine .callI (Ty := "bool") rfl hg rfl hgg hn h1 hd fun G st V e k => ?_
    refine bC fun hno => ?_
    obtain ⟨t, e', rfl, rfl⟩ := Ii e
    refine hno ?_
    exact Z5 st V e' k
  | isList =>
    cases hp
    refine .callI (Ty := "list") rfl hg rfl hgg hn h1 hd fun G st V e k => ?_
    refine bC fun hno => ?_
    obtain ⟨t, e', rfl, rfl⟩ := Ii e
    refine hno ?_
    exact Zn st V e' k
  | isTuple =>
    cases hp
    refine .callI (Ty := "tuple") rfl hg rfl hgg hn h1 hd fun G st V e k => ?_
    refine bC fun hno => ?_
    obtain ⟨t, e', rfl, rfl⟩ := Ii e
    refine hno ?_
    exact W9 st V e' k
  | isValueError =>
    cases hp
    refine .callI (Ty := "ValueError") rfl hg rfl hgg hn h1 hd fun {_ _ _ _ _ _ _ _ _ _ w _ _} G st V e k => ?_
    cases w with
    | exc c =>
      have e : Res.ok (AV.bool true) _ = .ok _ _ := e
      cases e; exact A5n G st V k
    | _ => exact Dc e
  | isExc c =>
    refine .callX rfl hg hgg hn h1 hd fun {_ _ _ _ _ _ _ _ _ _ w _ _} G st V e k => ?_
    refine bC fun hno => ?_
    have hp : T.excs.lookup c = some g := hp
    obtain ⟨Cc, _, em, _⟩ := G.exg.cls hp
    refine hno ?_
    refine ⟨_, em, ?_⟩
    cases w with
    | exc d =>
      have e : Res.ok (AV.bool (decide (d = c) || decide (c = 0))) _ = .ok _ _ := e
      cases e; exact A06 G st V hp em k
    | _ => exact Dc e
  | _ => cases hp
theorem Al.listRange (hq : T.q = false) {f g : Str} {x : Expr} {np gp p2 pos : Pos} {d d1 : A8 → A0 → Res AV} (hf : f = ("list" : Str)) (hg : g = ("range" : Str)) (hgf : Ao S f = true) (hgg : Ao S g = true) (hn : Aq x = true) (h1 : Al C T n b Γ S x d1)
    (hd : ∀ ρ H, d ρ H = (d1 ρ H).get fun w H => prim strF C.sc .listRange [w] H) : Al C T n b Γ S (.Call (.Name f np) [.Call (.Name g gp) [x] [] p2] [] pos) d := by
  subst hf; subst hg
  refine ⟨?_⟩
  intro base env ρ μ H H' s A E Q v' G hS st a ed k
  rw [hd] at ed
  obtain ⟨w, H1, e1, ed⟩ := Res.get_ok ed
  cases w with
  | int c =>
    rw [O9] at ed
    split at ed
    · rename_i hr
      refine bC fun hno => ?_
      obtain ⟨_, rfl, rfl⟩ := Dx ed
      refine hno ?_
      refine wpAny_Call_ofName (Bm G hS st hgf rfl ?_)
      refine PySem.callWith_type (Cz rfl) (Ch rfl (wpAny_items_cons ?_ (Ar rfl)))
      refine wpAny_Call_ofName (Bm G hS st hgg rfl ?_)
      refine PySem.callWith_type (Cz (by simp only [List.all_cons, hn]; rfl)) (Ch hn (wpAny_items_cons (h1.ok G hS st a e1 fun u s' μ' X S' V => wpAny_items_nil ?_) (Ar hn)))
      obtain ⟨t, rfl⟩ := V.isInt
      refine call_range_1 ?_
      refine wpAny_items_nil ?_
      refine Rq ((S'.tok (s'.toks + 1 + 1)).push _) a (G.q.trans hq) (IsRange.new _ _ _ _ _ _ _) hr fun u2 s2 μ2 X2 S2 V2 => k u2 s2 μ2 ((X.trans (Ext.push _)).trans X2) S2 V2
    · cases ed
  | _ => exact Dc (v := v') (H' := H') ed
end
end Mine
namespace Mine
open PySem PySem.Calls PyProof.Rows PySem.SeqAt
theorem O8 {xs : Array Nat} {j : Nat} : ∀ (fuel lo hi : Nat), hi - lo < fuel + 1 → lo ≤ hi → hi ≤ xs.size → (∀ i, i < lo → xs.getD i 0 < j) → (∀ i, hi ≤ i → i < xs.size → j ≤ xs.getD i 0) → xs.toList.Pairwise (· < ·) →
    (∀ i, i < SetTable.below.go xs j fuel lo hi → xs.getD i 0 < j) ∧ (∀ i, SetTable.below.go xs j fuel lo hi ≤ i → i < xs.size → j ≤ xs.getD i 0) ∧ SetTable.below.go xs j fuel lo hi ≤ xs.size
  | 0, lo, hi, h1, h2, h3, ha, hb, hp => by
    have : lo = hi := by exact Nat.le_antisymm h2 (Nat.le_of_sub_eq_zero (Nat.lt_one_iff.mp h1))
    subst this
    exact ⟨ha, hb, h3⟩
  | fuel + 1, lo, hi, h1, h2, h3, ha, hb, hp => by
    unfold SetTable.below.go
    by_cases h : lo < hi
    · rw [if_pos h]
      dsimp only
      have hm : (lo + hi) / 2 < hi := (Nat.div_lt_iff_lt_mul (by decide)).mpr (Nat.lt_of_lt_of_le (Nat.add_lt_add_right h hi) (Nat.le_of_eq (Nat.mul_two hi).symm))
      have hm2 : lo ≤ (lo + hi) / 2 := (Nat.le_div_iff_mul_le (by decide)).mpr (Nat.le_trans (Nat.le_of_eq (Nat.mul_two lo)) (Nat.add_le_add_left h2 lo))
      generalize (lo + hi) / 2 = mid at hm hm2
      have hms : mid < xs.size := by exact Nat.lt_of_lt_of_le hm h3
      have hg : ∀ d, xs.getD mid d = xs[mid] := fun d => by simp [Array.getD, hms]
      have mono : ∀ i k, i < k → k < xs.size → xs.getD i 0 < xs.getD k 0 := fun i k hik hk => by
        have := List.pairwise_iff_getElem.mp hp i k (by simpa using (by exact Ew hik hk : i < xs.size)) (by simpa using hk) hik
        have e1 : xs.getD i 0 = xs[i] := by simp [Array.getD, show i < xs.size by exact Ew hik hk]
        have e2 : xs.getD k 0 = xs[k] := by simp [Array.getD, hk]
        rw [e1, e2]; simpa using this
      by_cases q : xs.getD mid j < j
      · rw [if_pos q]
        rw [hg] at q
        refine O8 fuel (mid + 1) hi (Abv h1 hm2) (by exact hm) h3 (fun i hi' => ?_) hb hp
        by_cases e : i = mid
        · rw [e, hg]; exact q
        · have := mono i mid (by exact Lk hi' e) hms; rw [hg] at this; exact Ew this q
      · rw [if_neg q]
        rw [hg] at q
        refine O8 fuel lo mid (Abh h1 hm) hm2 (by exact Nat.le_of_lt hms) ha (fun i hi' his => ?_) hp
        by_cases e : i = mid
        · rw [e, hg]; exact oGe q
        · have := mono mid i (by exact Iy hi' e) his; rw [hg] at this; exact Nat.le_of_lt (Nat.lt_of_lt_of_le (oGt q) this)
    · rw [if_neg h]
      have : lo = hi := by exact Abz h2 h
      subst this
      exact ⟨ha, hb, h3⟩
theorem Mz {xs : Array Nat} (j : Nat) (hp : xs.toList.Pairwise (· < ·)) : (∀ i, i < SetTable.below xs j → xs.getD i 0 < j) ∧ (∀ i, SetTable.below xs j ≤ i → i < xs.size → j ≤ xs.getD i 0) ∧ SetTable.below xs j ≤ xs.size :=
  O8 xs.size 0 xs.size (by exact Nat.le_refl _) (Nat.zero_le _) (Nat.le_refl _) (fun i h => absurd h (Nat.not_lt_zero _)) (fun i h1 h2 => by exact absurd h2 (Nat.not_lt_of_le h1)) hp
theorem P1 {α : Type} (xs : Array α) (p : Nat) (x : α) : (SetTable.insertAt xs p x).toList = xs.toList.take p ++ x :: xs.toList.drop p := by
  unfold SetTable.insertAt
  rw [Array.toList_append, Array.toList_push, Array.toList_extract, Array.toList_extract, List.append_assoc]
  simp only [List.extract, List.drop_zero, Nat.sub_zero, List.singleton_append]
  congr 2
  rw [List.take_of_length_le]
  rw [List.length_drop, Array.length_toList]; exact Nat.le_refl _
theorem Qr {xs : Array Nat} {j : Nat} (hp : xs.toList.Pairwise (· < ·)) (hn : xs[SetTable.below xs j]? ≠ some j) : (SetTable.insertAt xs (SetTable.below xs j) j).toList.Pairwise (· < ·) := by
  obtain ⟨b1, b2, b3⟩ := Mz j hp
  generalize SetTable.below xs j = p at hn b1 b2 b3
  rw [P1]
  have hget : ∀ i, i < xs.size → xs.getD i 0 = xs.toList.getD i 0 := fun i hi => by simp [Array.getD, hi]
  refine List.pairwise_append.mpr ⟨hp.sublist (List.take_sublist ..), List.pairwise_cons.mpr ⟨fun y hy => ?_, hp.sublist (List.drop_sublist ..)⟩, fun x hx y hy => ?_⟩
  · obtain ⟨i, hi⟩ := List.mem_iff_getElem?.mp hy
    rw [List.getElem?_drop] at hi
    have hlt : p + i < xs.size := by have := (List.getElem?_eq_some_iff.mp hi).1; simpa using this
    have hy' : xs.getD (p + i) 0 = y := by rw [hget _ hlt, List.getD_eq_getElem?_getD, hi]; rfl
    have h1 := b2 (p + i) (by exact Nat.le_add_right _ _) hlt
    rw [hy'] at h1
    by_cases e : j = y
    · exfalso
      cases i with
      | zero =>
        apply hn
        rw [← Array.getElem?_toList, ← Nat.add_zero p, hi, e]
      | succ i =>
        have hlt2 : p < xs.size := by exact Nat.lt_of_le_of_lt (Nat.le_add_right _ _) hlt
        have h2 := b2 p (Nat.le_refl _) hlt2
        have := List.pairwise_iff_getElem.mp hp p (p + (i + 1)) (by simpa using hlt2) (by simpa using hlt) (by exact Nat.lt_succ_of_le (Nat.le_add_right _ _))
        have e1 : xs.getD p 0 = xs.toList[p]'(by simpa using hlt2) := by rw [hget _ hlt2, List.getD_eq_getElem?_getD, List.getElem?_eq_getElem (by simpa using hlt2)]; rfl
        have e2 : y = xs.toList[p + (i + 1)]'(by simpa using hlt) := (List.getElem?_eq_some_iff.mp hi).2.symm
        rw [e1] at h2
        rw [← e2] at this
        exact Nat.ne_of_lt (Nat.lt_of_le_of_lt h2 this) e
    · exact Nat.lt_of_le_of_ne h1 e
  · have hxp : x < j := by
      obtain ⟨i, hi⟩ := List.mem_iff_getElem?.mp hx
      have hip : i < p := by
        have := (List.getElem?_eq_some_iff.mp hi).1
        rw [List.length_take] at this; exact Nat.lt_of_lt_of_le this (Nat.min_le_left _ _)
      rw [List.getElem?_take_of_lt hip] at hi
      have his : i < xs.size := by exact Nat.lt_of_lt_of_le hip b3
      have := b1 i hip
      rw [hget _ his, List.getD_eq_getElem?_getD, hi] at this
      exact this
    rcases List.mem_cons.mp hy with rfl | hy
    · exact hxp
    · obtain ⟨i, hi⟩ := List.mem_iff_getElem?.mp hy
      rw [List.getElem?_drop] at hi
      have hlt : p + i < xs.size := by have := (List.getElem?_eq_some_iff.mp hi).1; simpa using this
      have hy' : xs.getD (p + i) 0 = y := by rw [hget _ hlt, List.getD_eq_getElem?_getD, hi]; rfl
      have h1 := b2 (p + i) (by exact Nat.le_add_right _ _) hlt
      exact Nat.lt_of_lt_of_le hxp (Aa0 h1 hy')
noncomputable def Kf (t : SetTable) (j : Nat) : Prop := t.place[SetTable.below t.place j]? ≠ some j
theorem Ko {t : SetTable} {j : Nat} (h : ∀ i, t.slot j ≠ .live i) : Kf t j := fun e => by
  refine h (SetTable.below t.place j) ?_
  unfold SetTable.slot
  dsimp only
  rw [e]
  simp
theorem Iw (t : SetTable) (p : SetTable.Probe) : (t.advance p).dummy = p.dummy := by
  unfold SetTable.advance
  split <;> rfl
theorem Og {t : SetTable} {f : Nat → Int} {h : Int} {j : Nat} {d : Option Nat} : ∀ (fuel : Nat) (p : SetTable.Probe), (∀ x, p.dummy = some x → Kf t x) → SetTable.probe.go t f h fuel p = some (.empty j d) → Kf t j ∧ ∀ x, d = some x → Kf t x
  | 0, p, hp, e => by cases e
  | fuel + 1, p, hp, e => by
    unfold SetTable.probe.go at e
    cases hs : t.slot p.j with
    | empty =>
      rw [hs] at e
      cases e
      exact ⟨Ko fun i e => (by rw [hs] at e; cases e), hp⟩
    | dummy =>
      rw [hs] at e
      refine Og fuel _ (fun x hx => ?_) e
      rw [Iw] at hx
      cases hx
      exact Ko fun i e => by rw [hs] at e; cases e
    | live i =>
      rw [hs] at e
      dsimp only at e
      split at e
      · cases e
      · exact Og fuel _ (fun x hx => by rw [Iw] at hx; exact hp x hx) e
theorem Qt {t : SetTable} {h : Int} {slot : Nat} {b : Bool} (e : t.freeSlot h = some (slot, b)) : Kf t slot := by
  unfold SetTable.freeSlot at e
  split at e
  · rename_i j d hp
    cases e
    have := Og _ _ (fun x hx => by cases hx) hp
    cases d with
    | none => exact this.1
    | some x => exact this.2 x rfl
  · cases e
structure G6 (led : Bool) (t : SetTable) : Prop where
  led : t.led = led
  ris : t.place.toList.Pairwise (· < ·)
theorem U8 (n : Nat) : (Array.range n).toList.Pairwise (· < ·) := by rw [Array.toList_range]; exact List.pairwise_lt_range
theorem G6.standIn {led : Bool} {t : SetTable} (h : G6 led t) (n : Nat) : G6 led (t.standIn n) := ⟨h.led, U8 n⟩
theorem G6.layNew {led : Bool} {t : SetTable} (h : G6 led t) (es : Array (Int × Value)) (k : Int) (x : Value) : G6 led (PySem.layNew t es k x).2.1 := by
  unfold PySem.layNew
  split
  · rename_i slot b hf
    dsimp only
    have hn := Qt hf
    have h' : G6 led (t.put slot).1 := ⟨h.led, Qr h.ris hn⟩
    unfold SetTable.orStandIn
    split
    · exact h'
    · exact h'.standIn _
  · exact h.standIn _
theorem No : ∀ (l : List Nat) (f : Nat → Option Nat), l.Pairwise (· < ·) → ((l.filterMap fun j => (f j).map (j, ·)).map (·.1)).Pairwise (· < ·)
  | [], f, _ => .nil
  | x :: l, f, h => by
    obtain ⟨h1, h2⟩ := List.pairwise_cons.mp h
    have ih := No l f h2
    rw [List.filterMap_cons]
    cases f x with
    | none => exact ih
    | some y =>
      refine List.pairwise_cons.mpr ⟨fun z hz => ?_, ih⟩
      obtain ⟨p, hp, rfl⟩ := List.mem_map.mp hz
      obtain ⟨j, hj, e⟩ := List.mem_filterMap.mp hp
      cases q : f j with
      | none => rw [q] at e; cases e
      | some u => rw [q] at e; cases e; exact h1 j hj
theorem G6.laid {led plain : Bool} {mask finger moves : Nat} {hs : Array Int} {t : SetTable} {o : Array Nat} (e : SetTable.laid mask finger moves led plain hs = some (t, o)) : G6 led t := by
  unfold SetTable.laid at e
  cases q : SetTable.layClean mask hs with
  | none => rw [q] at e; cases e
  | some owner =>
    rw [q] at e
    cases e
    exact ⟨rfl, by show (List.toArray _).toList.Pairwise _; rw [List.toList_toArray]; exact No _ _ List.pairwise_lt_range⟩
theorem G6.relay {led : Bool} {t : SetTable} (h : G6 led t) (es : Array (Int × Value)) (n : Nat) : G6 led (relayAll t es n).2.1 := by
  unfold relayAll
  split
  · rename_i t' order hr
    dsimp only
    split
    · have := G6.laid (led := t.led) hr
      rw [h.led] at this
      exact this
    · exact h.standIn _
  · exact h.standIn _
end Mine
namespace Mine
open PySem PySem.Calls PyProof.Rows PySem.SeqAt
noncomputable def Lh : Value → Int
  | .int i _ => i
  | _ => 0
inductive Gy (h : Heap) (a : Addr) (led : Bool) (l : List Int) : Prop
  | mk (o : Obj) (es : Array (Int × Value)) (ep : Nat) (t : SetTable) (ho : h.get? a = some o) (hex : o.ExactSet) (hd : o.data = .set es ep t) (hel : ∀ e ∈ es.toList, ∃ i tk, e = (hashInt i, Value.int i tk))
    (hp : (es.toList.map fun e => Lh e.2).Perm l) (hb : es.size < scanBound) (hf : t.fits es.size = true) (ht : G6 led t) : Gy h a led l
noncomputable def dd (l : List Int) (k : Int) : List Int := if k ∈ l then l else l ++ [k]
theorem A2z {l : List Int} (h : l.Nodup) (k : Int) : (dd l k).Nodup := by
  unfold dd
  split
  · exact h
  · rename_i q
    exact List.nodup_append.mpr ⟨h, by simp, fun a ha b hb e => q (by simp at hb; rw [← hb, ← e]; exact ha)⟩
theorem A92 {l : List Int} {k x : Int} : x ∈ dd l k ↔ x ∈ l ∨ x = k := by
  unfold dd
  split
  · rename_i q
    exact ⟨.inl, fun h => h.elim id fun e => e ▸ q⟩
  · simp
theorem Yw (l : List Int) (k : Int) : (dd l k).length ≤ l.length + 1 := by
  unfold dd
  split
  · exact Nat.le_add_right _ _
  · simp
section
variable {prog : Program} {w : World} {A : Around} {E : Value → Shared → Prop} {s : Shared} {a : Addr} {led : Bool} {l : List Int}
theorem A1d {es : List (Int × Value)} (h : ∀ e ∈ es, ∃ i tk, e = (hashInt i, Value.int i tk)) : ElemsOf (intKind prog w) es := fun e he => by
  obtain ⟨i, tk, rfl⟩ := h e he
  exact ⟨⟨i, intKind_is prog w i tk, rfl⟩, rfl⟩
theorem Gy.stored {h : Heap} {o : Obj} {es : Array (Int × Value)} {ep : Nat} {t : SetTable} (ho : h.get? a = some o) (hex : o.ExactSet) (hd : o.data = .set es ep t) {es' : Array (Int × Value)} {t' : SetTable}
    (hel : ∀ e ∈ es'.toList, ∃ i tk, e = (hashInt i, Value.int i tk)) (hp : (es'.toList.map fun e => Lh e.2).Perm l) (hb : es'.size < scanBound) (hf : t'.fits es'.size = true) (ht : G6 led t') :
    (h.update a (Obj.putSet es' t')).get? a = some { o with data := .set es' (ep + 1) t' } ∧ Gy (h.update a (Obj.putSet es' t')) a led l := by
  have hg : (h.update a (Obj.putSet es' t')).get? a = some { o with data := .set es' (ep + 1) t' } := by
    have := Heap.get?_update_self (Obj.putSet es' t') ho (by rw [putSet_of es' t' hd]; rfl)
    rw [putSet_of es' t' hd] at this; exact this
  exact ⟨hg, _, es', ep + 1, t', hg, hex, rfl, hel, hp, hb, hf, ht⟩
theorem A4i {k : Int} {tk : Tok} {Q : Bool → Shared → Prop} (S : Gy s.heap a led l) (hroom : l.length + 1 < scanBound) (h : ∀ b h', Heap.SameBut a s.heap h' → Gy h' a led (dd l k) → Q b { s with heap := h' }) :
    wpAny (model prog w) A (setAddHashed a (.int k tk) (hashInt k)) Q E s := by
  obtain ⟨o, es, ep, t, ho, hex, hd, hel, hp, hb, hf, ht⟩ := S
  have hsz : es.size = l.length := by rw [← Array.length_toList, ← hp.length_eq, List.length_map]
  have hel' : ElemsOf (intKind prog w) es.toList := A1d hel
  unfold setAddHashed setAddHashedIn
  refine wpAny_holding (wpAny_bind (wpAny_setState_of ho hd hf ?_))
  dsimp only
  rw [byScan_of (x := .int k tk) rfl hb hel']
  simp only [↓reduceIte]
  unfold setAddByScan
  refine wpAny_bind ?_
  refine wpAny_bind (wpAny_rule ?_)
  refine wpAny_bind (wpAny_setScan_of (knd := intKind prog w) (k := k) (intKind_is prog w k tk) ho hd hf hel' ?_)
  have isk : ∀ {e : Int × Value}, e ∈ es.toList → ((intKind prog w).is k e.2 = true ↔ Lh e.2 = k) := fun {e} he => by
    obtain ⟨i, tk, rfl⟩ := hel e he
    show ((i == k) = true) ↔ i = k
    exact beq_iff_eq
  cases hr : List.findIdx? (fun e => (intKind prog w).is k e.2) es.toList with
  | some j =>
    dsimp only
    obtain ⟨hj, hpj, _⟩ := List.findIdx?_eq_some_iff_getElem.mp hr
    have hk : k ∈ l := hp.mem_iff.mp (List.mem_map.mpr ⟨_, List.getElem_mem hj, (isk (List.getElem_mem hj)).mp hpj⟩)
    have e : s = { s with heap := s.heap } := by cases s; rfl
    have := h false s.heap (Heap.SameBut.refl a s.heap) ⟨o, es, ep, t, ho, hex, hd, hel, by unfold dd; rw [if_pos hk]; exact hp, hb, hf, ht⟩
    exact wpAny_pure (wpAny_pure this)
  | none =>
    dsimp only
    have hk : k ∉ l := fun hm => by
      obtain ⟨e, he, q⟩ := List.mem_map.mp (hp.mem_iff.mpr hm)
      have := List.findIdx?_eq_none_iff.mp hr e he
      rw [(isk he).mpr q] at this
      cases this
    have hgw : ∀ (b : Bool) {s₁ : Shared} {Q' : Unit → Shared → Prop}, Q' () s₁ → wpAny (model prog w) A (match b with | true => rule "set.scan.the-table-gave-way" | false => pure ()) Q' E s₁ :=
      fun b s₁ Q' hq => by cases b <;> first | exact wpAny_pure hq | exact wpAny_rule hq
    have hperm := layNew_perm t es (hashInt k) (.int k tk)
    have hfits := layNew_fits t es (hashInt k) (.int k tk)
    have htab := ht.layNew es (hashInt k) (.int k tk)
    generalize hL : layNew t es (hashInt k) (.int k tk) = L at hperm hfits htab ⊢
    obtain ⟨es1, t1, wasDummy, gave⟩ := L
    dsimp only at hperm hfits htab ⊢
    rw [Array.toList_push] at hperm
    have hel1 : ∀ e ∈ es1.toList, ∃ i tk, e = (hashInt i, Value.int i tk) := fun e he => by
      rcases List.mem_append.mp (hperm.mem_iff.mp he) with he | he
      · exact hel e he
      · cases List.mem_singleton.mp he; exact ⟨k, tk, rfl⟩
    have hp1 : (es1.toList.map fun e => Lh e.2).Perm (dd l k) := by
      unfold dd
      rw [if_neg hk]
      refine (hperm.map _).trans ?_
      rw [List.map_append]
      exact hp.append_right _
    have hsz1 : es1.size = l.length + 1 := by rw [← Array.length_toList, hperm.length_eq, List.length_append, Array.length_toList, hsz]; rfl
    have hb1 : es1.size < scanBound := by rw [hsz1]; exact hroom
    refine wpAny_bind (hgw _ ?_)
    have tail : ∀ t2 : SetTable, t2.fits es1.size = true → G6 led t2 → wpAny (model prog w) A (do
        storeSet a es1 t2
        if (!wasDummy && t2.tooFull) = true then do
            (match (relayAll t2 es1 (SetTable.grown es1.size)).2.2 with | true => rule "set.scan.the-table-gave-way" | false => pure ())
            storeSet a (relayAll t2 es1 (SetTable.grown es1.size)).1 (relayAll t2 es1 (SetTable.grown es1.size)).2.1
            pure (some true)
          else pure (some true)) (fun r s' => ∃ h', r = some true ∧ s' = { s with heap := h' } ∧ Heap.SameBut a s.heap h' ∧ Gy h' a led (dd l k)) E s := by
      intro t2 hf2 ht2
      refine wpAny_bind (wpAny_storeSet_of ho hd ?_ (fits_of_scanBound hb1))
      obtain ⟨ho1, hS1⟩ := Gy.stored (led := led) (l := dd l k) ho hex hd hel1 hp1 hb1 hf2 ht2
      have hsb1 := Heap.SameBut.update s.heap a (Obj.putSet es1 t2)
      split
      · have hp2 := relayAll_perm t2 es1 (SetTable.grown es1.size)
        have hf3 := relayAll_fits t2 es1 (SetTable.grown es1.size)
        have ht3 := ht2.relay es1 (SetTable.grown es1.size)
        generalize hRl : relayAll t2 es1 (SetTable.grown es1.size) = Rl at hp2 hf3 ht3 ⊢
        obtain ⟨es2, t3, gave2⟩ := Rl
        dsimp only at hp2 hf3 ht3 ⊢
        have hb2 : es2.size < scanBound := by rw [← Array.length_toList, hp2.length_eq, Array.length_toList]; exact hb1
        refine wpAny_bind (hgw _ ?_)
        refine wpAny_bind (wpAny_storeSet_of ho1 rfl ?_ (fits_of_scanBound hb2))
        obtain ⟨_, hS2⟩ := Gy.stored (led := led) (l := dd l k) ho1 hex rfl (fun e he => hel1 e (hp2.mem_iff.mp he)) ((hp2.map _).trans hp1) hb2 hf3 ht3
        exact wpAny_pure ⟨_, rfl, rfl, hsb1.trans (Heap.SameBut.update _ a _), hS2⟩
      · exact wpAny_pure ⟨_, rfl, rfl, hsb1, hS1⟩
    have fin : ∀ (r : Option Bool) (s' : Shared), (∃ h', r = some true ∧ s' = { s with heap := h' } ∧ Heap.SameBut a s.heap h' ∧ Gy h' a led (dd l k)) → wpAny (model prog w) A (match r with | some added => pure added | none => setAddHashedIn a (.int k tk) (hashInt k) 99999) Q E s' := by
      rintro r s' ⟨h', rfl, rfl, hsb, hS⟩
      exact wpAny_pure (h true h' hsb hS)
    split
    · refine wpAny_bind ?_
      rw [hashByValue_scannable 8 (x := .int k tk) rfl]
      refine wpAny_pure ?_
      exact wpAny_mono (tail t1 hfits htab) (fun r s' q => fin r s' q) fun _ _ q => q
    · refine wpAny_bind ?_
      refine wpAny_pure ?_
      exact wpAny_mono (tail t1 hfits htab) (fun r s' q => fin r s' q) fun _ _ q => q
end
end Mine
namespace Mine
open PySem PySem.Calls PyProof.Rows PySem.SeqAt
noncomputable def ddL (val : Nat → Int) (i : Nat) : List Int := ((List.range i).map val).foldl dd []
theorem K5 (val : Nat → Int) (i : Nat) : ddL val (i + 1) = dd (ddL val i) (val i) := by unfold ddL; rw [List.range_succ, List.map_append, List.foldl_append]; rfl
theorem J4 (val : Nat → Int) : ∀ i, (ddL val i).length ≤ i
  | 0 => Nat.le_refl _
  | i + 1 => by rw [K5]; exact Nat.le_trans (Yw _ _) (Nat.succ_le_succ (J4 val i))
theorem Q1 (val : Nat → Int) : ∀ i, (ddL val i).Nodup
  | 0 => .nil
  | i + 1 => by rw [K5]; exact A2z (Q1 val i) _
theorem Xa (val : Nat → Int) (x : Int) : ∀ i, x ∈ ddL val i ↔ ∃ j, j < i ∧ val j = x
  | 0 => ⟨fun h => (by cases h), fun ⟨j, h, _⟩ => absurd h (Nat.not_lt_zero _)⟩
  | i + 1 => by
    rw [K5, A92, Xa val x i]
    constructor
    · rintro (⟨j, h, e⟩ | e)
      · exact ⟨j, Nat.lt_succ_of_lt h, e⟩
      · exact ⟨i, Nat.lt_succ_self _, e.symm⟩
    · rintro ⟨j, h, e⟩
      by_cases q : j = i
      · exact .inr (by rw [← e, q])
      · exact .inl ⟨j, by exact Lk h q, e⟩
section
variable {prog : Program} {w : World} {A : Around} {R : Result → Shared → Prop} {I : Addr} {fp wr : List Addr} {G : Array GenState → Array GenState → Prop} {n : Nat} {P : Nat → Value → Prop} {St : Nat → Shared → Prop} {led : Bool}
theorem Gy.at {h h' : Heap} {a : Addr} {l : List Int} (S : Gy h a led l) (e : ∀ o, h.get? a = some o → h'.get? a = some o) : Gy h' a led l := by
  obtain ⟨o, es, ep, t, ho, r1, r2, r3, r4, r5, r6, r7⟩ := S
  exact ⟨o, es, ep, t, e o ho, r1, r2, r3, r4, r5, r6, r7⟩
theorem A40 (W : WalksS prog w A.in1 I fp wr G n P St) (S : Addr) (hSf : S ∉ fp) (val : Nat → Int) (hval : ∀ i v, P i v → ∃ t, v = .int (val i) t) (hb : n + 1 < scanBound) :
    ∀ (k i : Nat) (s : Shared), n - i = k → i ≤ n → St i s → Gy s.heap S led (ddL val i) → (∀ s', Moved (S :: wr) G s s' → Gy s'.heap S led (ddL val n) → R (.ok (.ret .none)) s') →
      codeAny (model prog w) A (.builtin "set.update.loop" ⟨[.ref S, .ref I], []⟩) R s := by
  have hSw : S ∉ wr := fun h => hSf (W.sub _ h)
  have hsub : ∀ b ∈ wr, b ∈ S :: wr := fun b hb => List.mem_cons_of_mem _ hb
  intro k
  induction k with
  | zero =>
    intro i s hk hi hst hS hR
    have hin : i = n := by exact Nat.le_antisymm hi (Nat.le_of_sub_eq_zero hk)
    subst hin
    refine codeAny_builtin F.entry_set_update_loop ?_
    rw [Around.under_plainId F.plain_set_update_loop _]
    show wpAny _ A.in1 (pyNext (.ref I) >>= _) _ _ s
    refine wpAny_bind (W.done s _ _ hst fun s' hm => ?_)
    show wpAny _ A.in1 (ret Value.none) _ _ s'
    exact wpAny_pure (hR s' (hm.mono hsub) (hS.at fun o e => hm.heap S _ hSw e))
  | succ k ih =>
    intro i s hk hi hst hS hR
    have hlt : i < n := by exact Nat.lt_of_sub_eq_succ hk
    refine codeAny_builtin F.entry_set_update_loop ?_
    rw [Around.under_plainId F.plain_set_update_loop _]
    show wpAny _ A.in1 (pyNext (.ref I) >>= _) _ _ s
    refine wpAny_bind (W.item i s _ _ hlt hst fun v s' hP hst' hm => ?_)
    obtain ⟨t, rfl⟩ := hval i v hP
    have hS' := hS.at (h' := s'.heap) fun o e => hm.heap S _ hSw e
    show wpAny _ A.in1 (holding [Value.int (val i) t] (setAdd S (.int (val i) t)) >>= _) _ _ s'
    refine wpAny_bind (wpAny_holding ?_)
    unfold setAdd
    refine wpAny_holding ?_
    refine wpAny_bind ((intKind prog w).pyHash (k := val i) (intKind_is _ _ _ _) ?_)
    have hroom : (ddL val i).length + 1 < scanBound := by have := J4 val i; exact Nat.lt_trans (Nat.succ_lt_succ (Nat.lt_of_le_of_lt this hlt)) hb
    refine A4i (s := { s' with toks := s'.toks + 1 }) hS' hroom fun b h' hsb hS2 => ?_
    rw [← K5] at hS2
    refine wpAny_pure ⟨plainId_quiet F.plain_set_update_loop _, ih (i + 1) _ (by exact congrArg (· - 1) hk) hlt (W.frame _ s' _ _ hst' (Nat.le_succ _) fun b hb o e => ?_) hS2 fun s'' hm'' hS'' => ?_⟩
    · rw [hsb.2 b (fun h : b = S => hSf (by rw [← h]; exact hb))]; exact e
    · refine hR s'' (Moved.trans W.gtrans ((hm.mono hsub).then_heap (Nat.le_succ _) fun b o hb e => ?_) hm'') hS''
      rw [hsb.2 b (fun h : b = S => hb (by rw [h]; exact List.mem_cons_self))]; exact e
end
noncomputable def C6 (w : World) : Bool := w.params.followText "set-order"
section
variable {prog : Program} {w : World} {A : Around} {E : Value → Shared → Prop} {s : Shared}
theorem Il {Q : Bool → Shared → Prop} (h : Q (C6 w) s) : wpAny (model prog w) A setsByText Q E s := by
  unfold setsByText
  exact wpAny_bind (wpAny_askSetting (wpAny_pure h))
noncomputable def Cw (w : World) : Obj := { cls := .type "set", dict := none, data := .set #[] 0 (.fresh 0 0 (!C6 w)) }
theorem A33 (a : Value) {Q₁ : Value → Shared → Prop} (h : Q₁ (.ref s.heap.objs.size) { s with heap := s.heap.push (Cw w) }) : codeAny (model prog w) A (.call (.builtin "set.__new__") ⟨[.type "set", a], []⟩) (wants Q₁ E) s := by
  refine codeAny_of_tree ?_
  show wpAny _ A.in1 (do checkBuiltinCall "set.__new__" ⟨[.type "set", a], []⟩; again (.builtin "set.__new__" ⟨[.type "set", a], []⟩)) _ _ s
  refine wpAny_bind (wpAny_of_eq (PySem.F.newCall_set_1 a) (wpAny_pure ⟨plainId_quiet F.plain_set_new _, codeAny_builtin F.entry_set_new ?_⟩))
  rw [Around.under_plainId F.plain_set_new _]
  unfold Builtin.«set.__new__» Builtin.Frozenset.newClass
  have hsub := sub_set_self
  obtain ⟨hp, g, d, tk, os⟩ := s
  dsimp only
  wp_walk
  refine wpAny_askSetting (wpAny_pure ?_)
  dsimp only
  simp only [newObj]
  refine wpAny_bind (wpAny_alloc (wpAny_pure ?_))
  exact wpAny_pure h
end
end Mine
namespace Mine
open PySem PySem.Calls PyProof.Rows PySem.SeqAt
section
variable {prog : Program} {w : World} {A : Around} {E : Value → Shared → Prop} {s : Shared}
theorem Vw {h : Heap} {a : Addr} (e : h.get? a = some (Cw w)) : Gy h a (!C6 w) [] :=
  ⟨_, #[], 0, _, e, ⟨rfl, rfl, rfl⟩, rfl, fun e he => (by simp at he), .refl _, by decide, rfl, ⟨rfl, .nil⟩⟩
theorem Z6 {l : Addr} {items : Array Value} {ns : List Int} {Q : Value → Shared → Prop} (hh : A.handled = none) (hl : s.heap.IsList l items) (hi : IntsAre items.toList ns) (hb : items.size + 1 < scanBound)
    (h : ∀ (h' : Heap) (tk : Nat), Gy h' s.heap.objs.size (!C6 w) (ddL (fun i => ns.getD i 0) items.size) → (∀ b o, s.heap.get? b = some o → h'.get? b = some o) → Q (.ref s.heap.objs.size) { s with heap := h', toks := tk }) :
    wpAny (model prog w) A (call (.type "set") [.ref l]) Q E s := by
  obtain ⟨c, tl, hmro⟩ := F.called_set.mro
  have hmade := F.called_set.made
  have hsub := F.called_set.sub
  refine wpAny_call (codeAny_of_tree ?_)
  show wpAny _ _ (callAny (.type "set") _) _ _ _
  refine wpAny_pure ⟨Code.quiet_builtin _ (by decide +kernel), codeAny_builtin F.entry_type_call ?_⟩
  rw [Around.under_plain (weight_type_call_type "set" [.ref l] []) rfl]
  have h1 := F.called_set.notType
  have h2 := F.called_set.canCreate
  have hct := PySem.F.typeCall_set_1 (.ref l)
  repeat (any_goals (first | assumption | wp_step))
  refine codeAny_mono (A33 (.ref l) (E := E) (Q₁ := fun obj s₁ => obj = .ref s.heap.objs.size ∧ s₁ = { s with heap := s.heap.push (Cw w) }) ⟨rfl, rfl⟩) fun r s₁ hr => ?_
  cases r with
  | error e => exact hr
  | ok fl =>
    cases fl with
    | ret obj =>
      obtain ⟨rfl, rfl⟩ := hr
      have hS : (s.heap.push (Cw w)).get? s.heap.objs.size = some (Cw w) := Heap.get?_push_size _ rfl
      have hT : Shared.TypeIs { s with heap := s.heap.push (Cw w) } (.ref s.heap.objs.size) "set" := ⟨_, hS, rfl⟩
      have hli := F.called_set.init.lookup
      have hbi := F.called_set.init.bind (.ref s.heap.objs.size)
      repeat (any_goals (first | assumption | wp_step))
      refine codeAny_mono (codeAny_call_builtin (R := wants (fun r s₂ => r = .none ∧ ∃ h' tk, s₂ = { s with heap := h', toks := tk } ∧ Gy h' s.heap.objs.size (!C6 w) (ddL (fun i => ns.getD i 0) items.size) ∧
          (∀ b o, s.heap.get? b = some o → h'.get? b = some o)) E) F.called_set.init.plain F.entry_set_init (check_set_init_1 hT ?_)) fun r₂ s₂ hr₂ => ?_
      · obtain ⟨ol, hol, hcl, nl, hdl⟩ := hl
        obtain ⟨ocls, odict, odata, oslots⟩ := ol
        simp only at hcl hdl
        subst hcl; subst hdl
        have hol' : (s.heap.push (Cw w)).get? l = some { cls := .type "list", dict := odict, data := .seq items nl, slots := oslots } := Heap.get?_push_of_some _ hol
        have hsls := PySem.F.sub_list_set
        have hslf := PySem.F.sub_list_frozenset
        have hne : (Value.type "list" == Value.type "dict") = false := by decide
        have hl1 : (s.heap.push (Cw w)).IsList l items := ⟨_, hol', rfl, nl, rfl⟩
        unfold Builtin.«set.__init__» noKeywords Builtin.Frozenset.updateFrom
        generalize hPI : pyIter = PI
        wp_walk
        subst hPI
        refine wpAny_pyIter_list hl1 ?_
        refine wpAny_bind (wpAny_runValue ?_)
        have hlS : l < s.heap.objs.size := Heap.lt_size hol
        have hh3 : A.in1.in1.in1.handled = none := by simp [hh]
        have hneI : l ≠ (s.heap.push (Cw w)).objs.size := by
          rw [Heap.size_push]; exact Nat.ne_of_lt (Nat.lt_succ_of_lt hlS)
        have hSf : s.heap.objs.size ∉ [(s.heap.push (Cw w)).objs.size, l] := by
          rw [Heap.size_push]; simp only [List.mem_cons, List.not_mem_nil, or_false, not_or]
          exact ⟨Nat.ne_of_lt (Nat.lt_succ_self _), Nat.ne_of_gt hlS⟩
        have hval : ∀ (i : Nat) (v : Value), items[i]? = some v → ∃ t, v = .int ((fun i => ns.getD i 0) i) t := fun i v hv =>
          IntsAre.int_at hi i v (by rw [Array.getElem?_toList]; exact hv)
        refine A40 (led := !C6 w) ((Walks.list hh3 _ l hneI items).toS) s.heap.objs.size hSf (fun i => ns.getD i 0) hval hb (items.size - 0) 0 _ (by exact rfl) (Nat.zero_le _)
          ⟨⟨_, Heap.get?_push_size _ rfl, rfl, rfl⟩, (hl1.push _)⟩ (Vw (Heap.get?_push_of_some _ hS)) ?_
        intro s' hm hS'
        obtain ⟨h', g', d', tk', os'⟩ := s'
        have eg : g' = s.gens := hm.gens
        have ed : d' = s.drawn := hm.drawn
        have eo : os' = s.os := hm.os
        subst eg; subst ed; subst eo
        show wpAny _ _ _ _ _ _
        refine wpAny_pure ?_
        show wpAny _ _ (ret Value.none) _ _ _
        refine wpAny_pure ⟨rfl, h', tk', rfl, hS', fun b o e => ?_⟩
        have hb := Heap.lt_size e
        refine hm.heap b o ?_ (Heap.get?_push_of_some _ (Heap.get?_push_of_some _ e))
        simp only [List.mem_cons, List.not_mem_nil, or_false, not_or]
        exact ⟨Nat.ne_of_lt hb, by rw [Heap.size_push]; exact Nat.ne_of_lt (Nat.lt_succ_of_lt hb)⟩
      · cases r₂ with
        | error e => exact hr₂
        | ok fl₂ =>
          cases fl₂ with
          | ret r =>
            obtain ⟨rfl, h', tk, rfl, hS', hk'⟩ := hr₂
            repeat (any_goals (first | assumption | wp_step))
            exact h _ _ hS' hk'
          | next => exact hr₂.elim
          | brk => exact hr₂.elim
          | cont => exact hr₂.elim
    | next => exact hr.elim
    | brk => exact hr.elim
    | cont => exact hr.elim
end
end Mine
namespace Mine
open PySem PySem.Calls PyProof.Rows PySem.SeqAt
theorem Jl {α : Type} : ∀ {l : List α} {i : Nat} (h : i < l.length), (l[i] :: l.eraseIdx i).Perm l
  | x :: l, 0, h => .refl _
  | x :: l, i + 1, h => by
    rw [List.eraseIdx_cons_succ, List.getElem_cons_succ]
    exact (List.Perm.swap ..).trans (List.Perm.cons _ (Jl (by simpa using h)))
theorem Xm {α : Type} (next : Nat → Nat) : ∀ (fuel k : Nat) (left : List α) (out : Array α), left.length ≤ fuel → (pickOrder.go next fuel k left out).toList.Perm (out.toList ++ left)
  | 0, k, left, out, h => by
    have : left = [] := List.length_eq_zero_iff.mp (Nat.le_zero.mp h)
    subst this
    unfold pickOrder.go; simp
  | fuel + 1, k, left, out, h => by
    unfold pickOrder.go
    cases e : left[next k % left.length]? with
    | none =>
      have : left = [] := by
        cases left with
        | nil => rfl
        | cons x l => rw [List.getElem?_eq_none_iff] at e; exact absurd (Nat.mod_lt (next k) (by simp)) (Nat.not_lt.mpr e)
      subst this
      simp
    | some x =>
      dsimp only
      have hlt := (List.getElem?_eq_some_iff.mp e).1
      have hlen : (left.eraseIdx (next k % left.length)).length ≤ fuel := by rw [List.length_eraseIdx_of_lt hlt]; exact Aav h
      refine (Xm next fuel (k + 1) _ (out.push x) hlen).trans ?_
      rw [Array.toList_push, List.append_assoc]
      refine List.Perm.append_left _ ?_
      have hx : left[next k % left.length] = x := (List.getElem?_eq_some_iff.mp e).2
      have := Jl hlt
      rw [hx] at this
      exact this
theorem Kz {α : Type} (next : Nat → Nat) (xs : Array α) : (pickOrder next xs).toList.Perm xs.toList := by
  unfold pickOrder
  refine (Xm next xs.size 0 xs.toList #[] (by simp)).trans ?_
  simp
section
variable {prog : Program} {w : World} {A : Around} {E : Value → Shared → Prop} {s : Shared}
theorem Yq {src : Source} {n : Nat} {Q : Nat → Shared → Prop} (hn : n ≠ 0) (h : ∀ i d, i < n → Q i { s with drawn := d }) : wpAny (model prog w) A (choose src n) Q E s := fun Γ p _ =>
  ⟨hn, h _ _ (Nat.mod_lt _ (Nat.pos_of_ne_zero hn))⟩
theorem Y0 {α : Type} : ∀ (n : Nat) (xs : List α) {s : Shared} {Q : List α → Shared → Prop}, xs.length ≤ n → (∀ l d, l.Perm xs → Q l { s with drawn := d }) → wpAny (model prog w) A (drawOrder n xs) Q E s
  | 0, xs, s, Q, h, k => by
    have : xs = [] := List.length_eq_zero_iff.mp (Nat.le_zero.mp h)
    subst this
    exact wpAny_pure (k [] s.drawn (.refl _))
  | n + 1, [], s, Q, h, k => wpAny_pure (k [] s.drawn (.refl _))
  | n + 1, x :: xs, s, Q, h, k => by
    unfold drawOrder
    refine wpAny_bind (Yq (by simp) fun i d hi => ?_)
    rw [List.getElem?_eq_getElem hi]
    dsimp only
    have hlen : ((x :: xs).eraseIdx i).length ≤ n := by rw [List.length_eraseIdx_of_lt hi]; simp at h ⊢; exact h
    refine wpAny_bind (Y0 n _ hlen fun l d' hl => ?_)
    exact wpAny_pure (k _ d' ((List.Perm.cons _ hl).trans (Jl hi)))
end
noncomputable def Fs (t : SetTable) (i : Nat) : Nat := if i = 0 then 0 else t.place.getD (i - 1) 0 + 1
theorem Rb {t : SetTable} {i : Nat} (hp : t.place.toList.Pairwise (· < ·)) (hi : i ≤ t.place.size) : SetTable.below t.place (Fs t i) = i := by
  obtain ⟨b1, b2, b3⟩ := Mz (Fs t i) hp
  have mono : ∀ i k, i < k → k < t.place.size → t.place.getD i 0 < t.place.getD k 0 := fun i k hik hk => by
    have := List.pairwise_iff_getElem.mp hp i k (by simpa using (by exact Ew hik hk : i < t.place.size)) (by simpa using hk) hik
    have e1 : t.place.getD i 0 = t.place[i] := by simp [Array.getD, show i < t.place.size by exact Ew hik hk]
    have e2 : t.place.getD k 0 = t.place[k] := by simp [Array.getD, hk]
    rw [e1, e2]; simpa using this
  generalize SetTable.below t.place (Fs t i) = r at b1 b2 b3
  unfold Fs at b1 b2
  by_cases h0 : i = 0
  · subst h0
    simp only [if_true] at b1 b2
    cases r with
    | zero => rfl
    | succ r => exact absurd (b1 0 (by exact Nat.succ_pos _)) (Nat.not_lt_zero _)
  · simp only [h0, if_false] at b1 b2
    rcases Nat.lt_trichotomy r i with h | h | h
    · have h1 := b2 r (Nat.le_refl _) (by exact Nat.lt_of_lt_of_le h hi)
      by_cases q : r = i - 1
      · rw [q] at h1; exact absurd h1 (Nat.lt_irrefl _)
      · have := mono r (i - 1) (by exact Nat.lt_of_le_of_ne (Nat.le_sub_of_add_le h) q) (by exact Nat.lt_of_lt_of_le (Nat.sub_lt (Hi h) Nat.one_pos) hi); exact absurd this (Nat.not_lt_of_le (Nat.le_of_lt h1))
    · exact h
    · have h1 := b1 i h
      have := mono (i - 1) i (by exact Nat.le_of_eq (A6r h0)) (by exact Nat.lt_of_lt_of_le h b3)
      exact absurd this (Nat.not_lt_of_le (Nat.le_of_lt_succ h1))
noncomputable def G7 (first : Value) (i : Nat) (S n ep : Nat) : Obj := { cls := .type "set_iterator", dict := none, data := .fields #[first, .int i 0, .ref S, .int n 0, .int ep 0], slots := #[] }
noncomputable def Fk (ps : List Nat) : Obj := { cls := .type "tuple", data := .seq (ps.map fun (i : Nat) => Value.int i 0).toArray 0 }
inductive SW (w : World) (S I tp : Addr) (es : Array (Int × Value)) (ep : Nat) (t : SetTable) (r : List (Int × Value)) (i : Nat) (h : Heap) : Prop
  | text (hb : C6 w = true) (hr : r = (pickOrder (w.params.setOrder S ep) es).toList) (e : h.get? I = some (G7 (.int 0 0) i S es.size ep)) : SW w S I tp es ep t r i h
  | plain (hb : C6 w = false) (hd : (!t.plain && decide (es.size > 1)) = false) (hr : r = es.toList) (e : h.get? I = some (G7 (.int (Fs t i) 0) i S es.size ep)) : SW w S I tp es ep t r i h
  | drawn (ps : List Nat) (hp : ps.Perm (List.range es.size)) (hr : r = ps.map fun p => es.getD p (0, .none)) (e : h.get? I = some (G7 (.ref tp) i S es.size ep)) (et : h.get? tp = some (Fk ps)) : SW w S I tp es ep t r i h
theorem SW.perm {w : World} {S I tp : Addr} {es : Array (Int × Value)} {ep : Nat} {t : SetTable} {r : List (Int × Value)} {i : Nat} {h : Heap} (x : SW w S I tp es ep t r i h) : r.Perm es.toList := by
  cases x with
  | text hb hr e => rw [hr]; exact Kz _ _
  | plain hb hd hr e => rw [hr]
  | drawn ps hp hr e et =>
    rw [hr]
    refine (hp.map _).trans (List.Perm.of_eq ?_)
    refine List.ext_getElem? fun i => ?_
    rw [List.getElem?_map]
    by_cases hi : i < es.size
    · rw [List.getElem?_range hi, Array.getElem?_toList, Array.getElem?_eq_getElem hi]
      simp [Array.getD, hi]
    · rw [List.getElem?_eq_none (by simpa using hi), List.getElem?_eq_none (by simpa using hi)]; rfl
end Mine
namespace Mine
open PySem PySem.Calls PyProof.Rows PySem.SeqAt
theorem Nm : entryFor table "set.__iter__" = some Builtin.«frozenset.__iter__» := entryFor_alias (id' := "frozenset.__iter__") (by kernel_rfl) rfl (by decide +kernel) (by kernel_rfl)
theorem Ca : Slot "set_iterator" "__next__" "set_iterator.__next__" :=
  .of (owner := "set_iterator") (n := "__next__") (by rw [typeLookup_type, builtinLookup_eq_fast]; kernel_rfl) (by decide +kernel) (by decide +kernel) (by decide +kernel)
    (by first | exact .inl (by decide +kernel) | exact .inr (by decide +kernel)) (by rw [isSubtype_type]; kernel_rfl)
theorem Iz : entryFor table "set_iterator.__next__" = some Builtin.«set_iterator.__next__» := entryFor_of_tree (by kernel_rfl)
theorem Kc (a : Value) : argsOk "set_iterator.__next__" ⟨[a], []⟩ := by unfold argsOk; kernel_rfl
theorem Kh : Slot "set_iterator" "__iter__" "set_iterator.__iter__" :=
  .of (owner := "set_iterator") (n := "__iter__") (by rw [typeLookup_type, builtinLookup_eq_fast]; kernel_rfl) (by decide +kernel) (by decide +kernel) (by decide +kernel)
    (by first | exact .inl (by decide +kernel) | exact .inr (by decide +kernel)) (by rw [isSubtype_type]; kernel_rfl)
theorem Pd : entryFor table "set_iterator.__iter__" = some Builtin.«dict_keyiterator.__iter__» := entryFor_alias (id' := "dict_keyiterator.__iter__") (by kernel_rfl) rfl (by decide +kernel) (by kernel_rfl)
theorem Rf (a : Value) : argsOk "set_iterator.__iter__" ⟨[a], []⟩ := by unfold argsOk; kernel_rfl
section
variable {prog : Program} {w : World} {A : Around} {E : Value → Shared → Prop} {s : Shared} {S I tp : Addr} {es : Array (Int × Value)} {ep : Nat} {t : SetTable} {o : Obj} {r : List (Int × Value)} {i : Nat}
theorem A3n {Q : Bool → Shared → Prop} (ho : s.heap.get? S = some o) (hd : o.data = .set es ep t) (hf : t.fits es.size = true) (h : Q (!C6 w && (!t.plain && decide (es.size > 1))) s) : wpAny (model prog w) A (setDrawn S) Q E s := by
  unfold setDrawn
  exact wpAny_bind (wpAny_setState_of ho hd hf (wpAny_bind (Il (wpAny_pure h))))
theorem A3a {Q : Value → Shared → Prop} (ho : s.heap.get? S = some o) (hex : o.ExactSet) (hd : o.data = .set es ep t) (hf : t.fits es.size = true) (hsz : es.size < scanBound)
    (h : ∀ I tp r s', s.heap.get? I = none → (tp = S ∨ s.heap.get? tp = none ∧ tp ≠ I) → SW w S I tp es ep t r 0 s'.heap → (∀ b ob, s.heap.get? b = some ob → s'.heap.get? b = some ob) → s'.gens = s.gens → s'.os = s.os → Q (.ref I) s') :
    wpAny (model prog w) A (pyIter (.ref S)) Q E s := by
  have hT : s.TypeIs (.ref S) "set" := ⟨o, ho, hex.1⟩
  refine wpAny_pyIter_slot hT F.slot_set_iter (wpAny_call_entry F.slot_set_iter hT Nm ?_ (F.args_set_iter_1 _))
  unfold Builtin.«frozenset.__iter__»
  refine wpAny_bind (wpAny_pure ?_)
  refine wpAny_bind ?_
  refine wpAny_bind (wpAny_setEntries_of ho hd hf (wpAny_pure ?_))
  refine wpAny_bind (A3n ho hd hf ?_)
  have none_new : ∀ {hp : Heap}, hp.get? hp.objs.size = none := fun {hp} => by
    cases e : hp.get? hp.objs.size with
    | none => rfl
    | some ob => exact absurd (Heap.lt_size e) (Nat.lt_irrefl _)
  cases hc : (!C6 w && (!t.plain && decide (es.size > 1))) with
  | false =>
    simp only [Bool.false_eq_true, if_false]
    refine wpAny_bind (wpAny_pure ?_)
    refine wpAny_bind (wpAny_setEpoch_of ho hd hf ?_)
    refine wpAny_bind (wpAny_newObj_type (wpAny_pure ⟨_, rfl, "set_iterator", _, ⟨_, Heap.get?_push_size _ rfl, rfl⟩, Ca.lookup, ?_⟩))
    have hg : (s.heap.push (G7 (.int 0 0) 0 S es.size ep)).get? s.heap.objs.size = some (G7 (.int 0 0) 0 S es.size ep) := Heap.get?_push_size _ rfl
    by_cases hb : C6 w = true
    · exact h _ S _ _ none_new (.inl rfl) (.text hb rfl hg) (fun b ob e => Heap.get?_push_of_some _ e) rfl rfl
    · have hb' : C6 w = false := by simpa using hb
      rw [hb'] at hc
      exact h _ S _ _ none_new (.inl rfl) (.plain hb' (by simpa using hc) rfl hg) (fun b ob e => Heap.get?_push_of_some _ e) rfl rfl
  | true =>
    simp only [if_true]
    refine wpAny_bind (Y0 _ _ (by simp) fun ps d hps => ?_)
    have hpl : ps.length = es.size := by rw [hps.length_eq, List.length_range]
    refine wpAny_bind (wpAny_newTuple (Q := _) ?_ (by rw [List.length_map, hpl]; exact fits_of_scanBound hsz))
    have ho' : ({ s with drawn := d, heap := s.heap.push { cls := .type "tuple", data := .seq (ps.map fun (i : Nat) => rawInt i).toArray 0 } } : Shared).heap.get? S = some o := Heap.get?_push_of_some _ ho
    refine wpAny_bind (wpAny_setEpoch_of ho' hd hf ?_)
    refine wpAny_bind (wpAny_newObj_type (wpAny_pure ⟨_, rfl, "set_iterator", _, ⟨_, Heap.get?_push_size _ rfl, rfl⟩, Ca.lookup, ?_⟩))
    have ht : (s.heap.push (Fk ps)).get? s.heap.objs.size = some (Fk ps) := Heap.get?_push_size _ rfl
    have hsz' : (s.heap.push (Fk ps)).objs.size = s.heap.objs.size + 1 := Heap.size_push ..
    have hg : ((s.heap.push (Fk ps)).push (G7 (.ref s.heap.objs.size) 0 S es.size ep)).get? (s.heap.push (Fk ps)).objs.size = some (G7 (.ref s.heap.objs.size) 0 S es.size ep) := Heap.get?_push_size _ rfl
    refine h (s.heap.push (Fk ps)).objs.size s.heap.objs.size _ _ ?_ (.inr ⟨none_new, by rw [hsz']; exact Nat.ne_of_lt (Nat.lt_succ_self _)⟩) (.drawn ps hps rfl hg (Heap.get?_push_of_some _ ht)) (fun b ob e => Heap.get?_push_of_some _ (Heap.get?_push_of_some _ e)) rfl rfl
    cases e : s.heap.get? (s.heap.push (Fk ps)).objs.size with
    | none => rfl
    | some ob => exact absurd (Heap.lt_size e) (by rw [hsz']; exact Nat.not_lt.mpr (Nat.le_succ _))
end
end Mine
namespace Mine
open PySem PySem.Calls PyProof.Rows PySem.SeqAt
section
variable {prog : Program} {w : World} {A : Around} {E : Value → Shared → Prop} {s : Shared} {S I tp : Addr} {es : Array (Int × Value)} {ep : Nat} {t : SetTable} {o : Obj} {r : List (Int × Value)} {i : Nat}
theorem Xb {h : Heap} {first first' x : Value} {k : Nat} (e : h.get? I = some (G7 first i S k ep)) {Q : PySem.Fin → Shared → Prop} {s : Shared} (hs : s.heap = h) (kQ : ∀ h', Heap.SameBut I h h' → h'.get? I = some (G7 first' (i + 1) S k ep) → Q (.done (.ret x)) { s with heap := h' }) :
    wpAny (model prog w) A (do setField (.ref I) 0 first'; setField (.ref I) 1 (rawInt ((i : Int) + 1)); ret x) Q E s := by
  subst hs
  refine wpAny_bind (wpAny_setField_rec e (by simp) fun h1 e1 s1 => ?_)
  refine wpAny_bind (wpAny_setField_rec e1 (by simp) fun h2 e2 s2 => ?_)
  exact wpAny_pure (kQ h2 (s1.trans s2) (by rw [e2]; rfl))
theorem A12 {h : Heap} {first x : Value} {k : Nat} (e : h.get? I = some (G7 first i S k ep)) {Q : PySem.Fin → Shared → Prop} {s : Shared} (hs : s.heap = h) (kQ : ∀ h', Heap.SameBut I h h' → h'.get? I = some (G7 first (i + 1) S k ep) → Q (.done (.ret x)) { s with heap := h' }) :
    wpAny (model prog w) A (do setField (.ref I) 1 (rawInt ((i : Int) + 1)); ret x) Q E s := by
  subst hs
  refine wpAny_bind (wpAny_setField_rec e (by simp) fun h2 e2 s2 => ?_)
  exact wpAny_pure (kQ h2 s2 (by rw [e2]; rfl))
theorem R3 {Q : Option Value → Shared → Prop} {h : Heap} {first : Value} {k : Nat} (hh : A.handled = none) (e : h.get? I = some (G7 first i S k ep)) {s : Shared} (hs : s.heap = h) {Q' : PySem.Fin → Shared → Prop} (kQ : ∀ h', Heap.ExtBut I h h' → Q none { s with heap := h' }) :
    wpAny (model prog w) A.in1 (do setField (.ref I) 2 .none; raiseNew (← newExc (.type "StopIteration") [])) Q' (fun e s' => wpAny (model prog w) A (do let b ← isInstance e (.type "StopIteration"); if b = true then pure none else throw e) Q E s') s := by
  subst hs
  refine wpAny_bind (wpAny_setField_rec e (by simp) fun h1 e1 s1 => ?_)
  refine wpAny_bind ?_
  simp only [newExc, newTuple]
  refine wpAny_bind (wpAny_newObj_type ?_ (by size_fits))
  refine wpAny_bind (m := firstArgMember _ _) (wpAny_of_eq (a := Value.none) (by first | rfl | (simp only [firstArgMember]; rfl)) ?_)
  refine wpAny_newObj_type ?_ (by size_fits)
  simp only [raiseNew]
  refine wpAny_bind (wpAny_handled ?_)
  rw [show A.in1.handled = none from hh]
  refine wpAny_bind (wpAny_pure (wpAny_throw ?_))
  refine wpAny_bind (wpAny_isInstance (T := "StopIteration") (b := true) ⟨_, Heap.get?_push_size _ rfl, rfl⟩ isSubtype_stop ?_)
  exact wpAny_pure (kQ _ ((s1.extBut.push _).push _))
theorem Qh {Q : Option (Value × Nat) → Shared → Prop} {slot : Nat} (ho : s.heap.get? S = some o) (hd : o.data = .set es ep t) (hf : t.fits es.size = true) (hb : C6 w = true)
    (h : Q (((pickOrder (w.params.setOrder S ep) es)[i]?).map fun e => (e.2, slot)) s) : wpAny (model prog w) A (setNext S slot i ep) Q E s := by
  unfold setNext
  refine wpAny_bind (wpAny_setState_of ho hd hf ?_)
  dsimp only
  refine wpAny_bind (Il ?_)
  rw [hb, if_pos rfl]
  simp only [bne_self_eq_false, Bool.false_eq_true, if_false]
  unfold setWalk
  refine wpAny_bind (wpAny_bind (wpAny_setState_of ho hd hf ?_))
  dsimp only
  refine wpAny_bind (Il ?_)
  rw [hb, if_pos rfl]
  exact wpAny_bind (wpAny_askSetting (wpAny_pure (wpAny_pure h)))
theorem Nu {Q : Option (Value × Nat) → Shared → Prop} (ho : s.heap.get? S = some o) (hd : o.data = .set es ep t) (hf : t.fits es.size = true) (hb : C6 w = false) (hl : t.led = !C6 w) (hp : (!t.plain && decide (es.size > 1)) = false) (hr : t.place.toList.Pairwise (· < ·)) (hi : i ≤ es.size)
    (h : Q (if i < es.size then some ((es.getD i (0, .none)).2, Fs t (i + 1)) else none) s) : wpAny (model prog w) A (setNext S (Fs t i) i ep) Q E s := by
  have hps : t.place.size = es.size := by
    unfold SetTable.fits at hf
    exact beq_iff_eq.mp (Bool.and_eq_true _ _ ▸ hf : _ ∧ _).1
  unfold setNext
  refine wpAny_bind (wpAny_setState_of ho hd hf ?_)
  dsimp only
  refine wpAny_bind (Il ?_)
  rw [hb, if_neg (by decide)]
  show wpAny _ _ (if (!t.plain && decide (es.size > 1)) = true then _ else _) _ _ _
  rw [hp, if_neg (by decide)]
  have hled : (!t.led && !es.isEmpty) = false := by rw [hl, hb]; rfl
  refine wpAny_bind ?_
  show wpAny _ _ (if (!t.led && !es.isEmpty) = true then _ else _) _ _ _
  rw [hled, if_neg (by decide)]
  refine wpAny_pure (wpAny_pure ?_)
  rw [Rb hr (by exact Aa0 hi (Eq.symm hps))]
  by_cases hlt : i < es.size
  · rw [if_pos hlt] at h
    have hlt' : i < t.place.size := by exact Iv hlt (Eq.symm hps)
    rw [Array.getElem?_eq_getElem hlt, Array.getElem?_eq_getElem hlt']
    have e1 : es.getD i (0, .none) = es[i] := by simp [Array.getD, hlt]
    have e2 : Fs t (i + 1) = t.place[i] + 1 := by unfold Fs; rw [if_neg (by exact Nat.succ_ne_zero _), Nat.add_sub_cancel]; simp [Array.getD, hlt']
    rw [e1, e2] at h
    exact h
  · rw [if_neg hlt] at h
    rw [Array.getElem?_eq_none (by exact oGe hlt)]
    exact h
theorem SW.itObj_at {h : Heap} (x : SW w S I tp es ep t r i h) : ∃ first, h.get? I = some (G7 first i S es.size ep) := by
  cases x with
  | text hb hr e => exact ⟨_, e⟩
  | plain hb hd hr e => exact ⟨_, e⟩
  | drawn ps hp hr e et => exact ⟨_, e⟩
theorem A0p {q : Array (Int × Value)} (hl : q.size = es.size) (hi : i < es.size) : q[i]? = some (q.toList.getD i (0, .none)) := by
  rw [Array.getElem?_eq_getElem (by exact Iv hi (Eq.symm hl)), List.getD_eq_getElem?_getD, Array.getElem?_toList, Array.getElem?_eq_getElem (by exact Iv hi (Eq.symm hl))]; rfl
theorem Yh {Q : Option Value → Shared → Prop} (ho : s.heap.get? S = some o) (hd : o.data = .set es ep t) (hf : t.fits es.size = true) (ht : G6 (!C6 w) t) (hi : i < es.size) (htp : tp ≠ I) (x : SW w S I tp es ep t r i s.heap)
    (h : ∀ h', Heap.SameBut I s.heap h' → SW w S I tp es ep t r (i + 1) h' → Q (some (r.getD i (0, .none)).2) { s with heap := h' }) : wpAny (model prog w) A (pyNext (.ref I)) Q E s := by
  obtain ⟨first, e0⟩ := x.itObj_at
  have hT : s.TypeIs (.ref I) "set_iterator" := ⟨_, e0, rfl⟩
  unfold pyNext
  refine wpAny_bind (wpAny_attempt (wpAny_callSpecial?_slot (name := Str.ofString "__next__") hT Ca (wpAny_call_entry Ca hT Iz ?_ (Kc _))))
  unfold Builtin.«set_iterator.__next__»
  refine wpAny_bind (wpAny_pure ?_)
  cases x with
  | text hb hr e =>
    refine wpAny_bind (wpAny_fieldsOf e rfl ?_)
    dsimp only
    refine wpAny_bind (wpAny_setEntries_of ho hd hf ?_)
    rw [if_neg (by simp)]
    refine wpAny_bind (Qh (slot := 0) ho hd hf hb ?_)
    have hl : (pickOrder (w.params.setOrder S ep) es).size = es.size := by rw [← Array.length_toList, (Kz _ _).length_eq, Array.length_toList]
    simp only [Int.toNat_natCast, A0p hl hi, ← hr, Option.map_some]
    exact Xb (first' := rawInt (0 : Nat)) e rfl fun h' sb e' => ⟨_, rfl, wpAny_pure (h h' sb (.text hb hr e'))⟩
  | plain hb hd' hr e =>
    refine wpAny_bind (wpAny_fieldsOf e rfl ?_)
    dsimp only
    refine wpAny_bind (wpAny_setEntries_of ho hd hf ?_)
    rw [if_neg (by simp)]
    simp only [Int.toNat_natCast]
    refine wpAny_bind (Nu ho hd hf hb ht.led hd' ht.ris (Nat.le_of_lt hi) ?_)
    rw [if_pos hi]
    have er : r.getD i (0, .none) = es.getD i (0, .none) := by rw [hr, List.getD_eq_getElem?_getD, Array.getElem?_toList]; simp [Array.getD, hi]
    rw [er] at h
    exact Xb (first' := rawInt (Fs t (i + 1) : Nat)) e rfl fun h' sb e' => ⟨_, rfl, wpAny_pure (h h' sb (.plain hb hd' hr e'))⟩
  | drawn ps hp hr e et =>
    have hpl : ps.length = es.size := by rw [hp.length_eq, List.length_range]
    have hip : i < ps.length := by exact Iv hi (Eq.symm hpl)
    have hpi : ps[i] < es.size := List.mem_range.mp (hp.mem_iff.mp (List.getElem_mem hip))
    refine wpAny_bind (wpAny_fieldsOf e rfl ?_)
    dsimp only
    refine wpAny_bind (wpAny_setEntries_of ho hd hf ?_)
    rw [if_neg (by simp)]
    simp only [Int.toNat_natCast]
    refine wpAny_bind ?_
    unfold seqItems?
    refine wpAny_bind (wpAny_load et (wpAny_pure ?_))
    have eg : ((ps.map fun (i : Nat) => Value.int i 0).toArray)[i]? = some (.int (ps[i] : Nat) 0) := by rw [List.getElem?_toArray, List.getElem?_map, List.getElem?_eq_getElem hip]; rfl
    dsimp only [Fk]
    rw [eg]
    dsimp only
    refine wpAny_bind ?_
    unfold setNextDrawn
    refine wpAny_bind (wpAny_setState_of ho hd hf ?_)
    simp only [bne_self_eq_false, Bool.false_eq_true, if_false, Int.toNat_natCast, Array.getElem?_eq_getElem hpi]
    refine wpAny_pure ?_
    have er : r.getD i (0, .none) = es[ps[i]] := by rw [hr, List.getD_eq_getElem?_getD, List.getElem?_map, List.getElem?_eq_getElem hip]; simp [Array.getD, hpi]
    rw [er] at h
    exact A12 e rfl fun h' sb e' => ⟨_, rfl, wpAny_pure (h h' sb (.drawn ps hp hr e' ((sb.2 _ htp).trans et)))⟩
theorem A1x {Q : Option Value → Shared → Prop} (hh : A.handled = none) (ho : s.heap.get? S = some o) (hd : o.data = .set es ep t) (hf : t.fits es.size = true) (ht : G6 (!C6 w) t) (x : SW w S I tp es ep t r es.size s.heap)
    (h : ∀ h', Heap.ExtBut I s.heap h' → Q none { s with heap := h' }) : wpAny (model prog w) A (pyNext (.ref I)) Q E s := by
  obtain ⟨first, e0⟩ := x.itObj_at
  have hT : s.TypeIs (.ref I) "set_iterator" := ⟨_, e0, rfl⟩
  unfold pyNext
  refine wpAny_bind (wpAny_attempt (wpAny_callSpecial?_slot (name := Str.ofString "__next__") hT Ca (wpAny_call_entry Ca hT Iz ?_ (Kc _))))
  unfold Builtin.«set_iterator.__next__»
  refine wpAny_bind (wpAny_pure ?_)
  cases x with
  | text hb hr e =>
    refine wpAny_bind (wpAny_fieldsOf e rfl ?_)
    dsimp only
    refine wpAny_bind (wpAny_setEntries_of ho hd hf ?_)
    rw [if_neg (by simp)]
    refine wpAny_bind (Qh (slot := 0) ho hd hf hb ?_)
    have hl : (pickOrder (w.params.setOrder S ep) es).size = es.size := by rw [← Array.length_toList, (Kz _ _).length_eq, Array.length_toList]
    simp only [Int.toNat_natCast, Array.getElem?_eq_none (Nat.le_of_eq hl), Option.map_none]
    exact R3 hh e rfl h
  | plain hb hd' hr e =>
    refine wpAny_bind (wpAny_fieldsOf e rfl ?_)
    dsimp only
    refine wpAny_bind (wpAny_setEntries_of ho hd hf ?_)
    rw [if_neg (by simp)]
    simp only [Int.toNat_natCast]
    refine wpAny_bind (Nu ho hd hf hb ht.led hd' ht.ris (Nat.le_refl _) ?_)
    rw [if_neg (Nat.lt_irrefl _)]
    exact R3 hh e rfl h
  | drawn ps hp hr e et =>
    have hpl : ps.length = es.size := by rw [hp.length_eq, List.length_range]
    refine wpAny_bind (wpAny_fieldsOf e rfl ?_)
    dsimp only
    refine wpAny_bind (wpAny_setEntries_of ho hd hf ?_)
    rw [if_neg (by simp)]
    simp only [Int.toNat_natCast]
    refine wpAny_bind ?_
    unfold seqItems?
    refine wpAny_bind (wpAny_load et (wpAny_pure ?_))
    have eg : ((ps.map fun (i : Nat) => Value.int i 0).toArray)[es.size]? = none := by rw [List.getElem?_toArray, List.getElem?_eq_none (by rw [List.length_map]; exact Nat.le_of_eq hpl)]
    dsimp only [Fk]
    rw [eg]
    dsimp only
    refine wpAny_bind (wpAny_setField_rec e (by simp) fun h1 e1 s1 => ?_)
    exact R3 (first := rawInt 0) (h := h1) hh e1 rfl fun h' x' => h h' fun b ob hb hob => x' b ob hb (s1.extBut b ob hb hob)
end
end Mine
namespace Mine
open PySem PySem.Calls PyProof.Rows PySem.SeqAt
section
variable {prog : Program} {w : World} {A : Around} {E : Value → Shared → Prop} {s : Shared} {S I tp : Addr} {es : Array (Int × Value)} {ep : Nat} {t : SetTable} {o : Obj} {r : List (Int × Value)} {i : Nat}
theorem SW.at {h h' : Heap} (x : SW w S I tp es ep t r i h) (kI : ∀ ob, h.get? I = some ob → h'.get? I = some ob) (kt : ∀ ob, h.get? tp = some ob → h'.get? tp = some ob) : SW w S I tp es ep t r i h' := by
  cases x with
  | text hb hr e => exact .text hb hr (kI _ e)
  | plain hb hd hr e => exact .plain hb hd hr (kI _ e)
  | drawn ps hp hr e et => exact .drawn ps hp hr (kI _ e) (kt _ et)
theorem Z2 (hh : A.handled = none) (hd : o.data = .set es ep t) (hf : t.fits es.size = true) (ht : G6 (!C6 w) t) (hSI : S ≠ I) (htp : tp ≠ I) :
    Walks prog w A I [I, S, tp] [I] es.size (fun i v => v = (r.getD i (0, .none)).2) (fun i h => SW w S I tp es ep t r i h ∧ h.get? S = some o) where
  sub := fun b hb => by simp at hb; simp [hb]
  frame := fun i h h' st hk => ⟨st.1.at (fun ob e => hk I (by simp) ob e) (fun ob e => hk tp (by simp) ob e), hk S (by simp) o st.2⟩
  item := fun i s Q E hi st hQ => Yh st.2 hd hf ht hi htp st.1 fun h' sb x' => hQ _ h' s.toks rfl ⟨x', (sb.2 _ hSI).trans st.2⟩ fun b ob hb e => (sb.2 b fun q => hb (by simp [q])).trans e
  done := fun s Q E st hQ => A1x hh st.2 hd hf ht st.1 fun h' x' => hQ h' s.toks fun b ob hb e => x' b ob (fun q => hb (by simp [q])) e
  self := fun i s Q E st hQ => by
    obtain ⟨first, e⟩ := st.1.itObj_at
    have hT : s.TypeIs (.ref I) "set_iterator" := ⟨_, e, rfl⟩
    refine wpAny_pyIter_slot hT Kh (wpAny_call_entry Kh hT Pd ?_ (Rf _))
    show wpAny _ _ (ret (.ref I)) _ _ s
    exact wpAny_pure ⟨_, rfl, "set_iterator", _, hT, Ca.lookup, hQ⟩
theorem U7 {Q : List Value → Shared → Prop} (hh : A.handled = none) (ho : s.heap.get? S = some o) (hex : o.ExactSet) (hd : o.data = .set es ep t) (hf : t.fits es.size = true) (hsz : es.size < scanBound) (ht : G6 (!C6 w) t)
    (h : ∀ vs s', vs.Perm (es.toList.map (·.2)) → (∀ b ob, s.heap.get? b = some ob → s'.heap.get? b = some ob) → s'.gens = s.gens → s'.os = s.os → Q vs s') : wpAny (model prog w) A (collect (.ref S)) Q E s := by
  have hT0 : s.TypeIs (.ref S) "set" := ⟨o, ho, hex.1⟩
  have hlt : S < s.heap.objs.size := Heap.lt_size ho
  unfold collect
  refine wpAny_bind (wpAny_runValue (codeAny_builtin F.entry_proto_collect ?_))
  rw [Around.under_plainId F.plain_proto_collect _]
  show wpAny _ A.in1 (newList [] >>= fun l => again (.builtin "list.__iadd__" ⟨[l, .ref S], []⟩)) _ _ s
  refine wpAny_bind (wpAny_newObj_type ?_)
  refine wpAny_pure ⟨plainId_quiet F.plain_list_iadd _, codeAny_builtin F.entry_list_iadd ?_⟩
  rw [Around.under_plainId F.plain_list_iadd _]
  show wpAny _ A.in1 (Builtin.List.listExtendWith (.ref s.heap.objs.size) (.ref S) (.ref s.heap.objs.size)) _ _ _
  unfold Builtin.List.listExtendWith
  have ho1 : (s.heap.push { cls := .type "list", data := .seq ([] : List Value).toArray }).get? S = some o := Heap.get?_push_of_some _ ho
  have hT1 : Shared.TypeIs { s with heap := s.heap.push { cls := .type "list", data := .seq ([] : List Value).toArray } } (.ref S) "set" := ⟨o, ho1, hex.1⟩
  refine wpAny_bind (wpAny_typeOf hT1 ?_)
  have h1 : Builtin.List.listSameRef (.ref s.heap.objs.size) (.ref S) = false := by simp [Builtin.List.listSameRef, Nat.ne_of_gt hlt]
  have h2 : (Value.type "set" == Value.type "list") = false := by decide
  have h3 : (Value.type "set" == Value.type "tuple") = false := by decide
  simp only [h1, h2, h3, Bool.or_false, Bool.false_eq_true, if_false]
  refine wpAny_bind (A3a ho1 hex hd hf hsz fun I tp r s2 hI htp x k2 hg2 ho2 => ?_)
  have hoS2 := k2 _ _ ho1
  have hT2 : s2.TypeIs (.ref S) "set" := ⟨o, hoS2, hex.1⟩
  have hL : (s.heap.push { cls := .type "list", data := .seq ([] : List Value).toArray }).get? s.heap.objs.size = some { cls := .type "list", data := .seq ([] : List Value).toArray } := Heap.get?_push_size _ rfl
  have hSI : S ≠ I := fun e => by rw [← e, ho1] at hI; cases hI
  have hLI : s.heap.objs.size ≠ I := fun e => by rw [← e, hL] at hI; cases hI
  have htI : tp ≠ I := by
    rcases htp with rfl | ⟨_, q⟩
    · exact hSI
    · exact q
  have hLt : s.heap.objs.size ≠ tp := by
    rcases htp with rfl | ⟨q, _⟩
    · exact Nat.ne_of_gt hlt
    · exact fun e => by rw [← e, hL] at q; cases q
  refine wpAny_bind (wpAny_holding ?_)
  unfold Builtin.List.listLengthHint
  refine wpAny_bind (wpAny_specialOf hT2 F.slot_set_len.lookup ?_)
  dsimp only
  rw [show splitId "set.__len__" = some ("set", "__len__") by kernel_rfl]
  dsimp only
  refine wpAny_bind (wpAny_isInstance hT2 sub_set_self ?_)
  simp only [Bool.not_true, Bool.false_eq_true, if_false]
  rw [if_pos]
  rotate_left
  · kernel_rfl
  refine wpAny_bind (wpAny_typeOf hT2 ?_)
  dsimp only
  refine wpAny_pure ?_
  rw [if_pos]
  rotate_left
  · kernel_rfl
  refine wpAny_bind (wpAny_rule ?_)
  have hS1 := k2 _ _ hL
  refine wpAny_bind ?_
  show wpAny _ A.in1 (updateSeq s.heap.objs.size (·.push .none) >>= fun _ => updateSeq s.heap.objs.size (·.pop)) _ _ _
  refine wpAny_bind (wpAny_updateSeq hS1 rfl ?_)
  have hS2 := Heap.get?_update_self (Obj.mapSeq (·.push Value.none)) hS1 rfl
  refine wpAny_updateSeq hS2 rfl ?_
  have hS3 := Heap.get?_update_self (Obj.mapSeq (·.pop)) hS2 rfl
  have oth : ∀ b ob, b ≠ s.heap.objs.size → s2.heap.get? b = some ob → ((s2.heap.update s.heap.objs.size (Obj.mapSeq (·.push Value.none))).update s.heap.objs.size (Obj.mapSeq (·.pop))).get? b = some ob :=
    fun b ob hb e => (Heap.get?_update_other _ _ (Ne.symm hb)).trans ((Heap.get?_update_other _ _ (Ne.symm hb)).trans e)
  have W := (Z2 (prog := prog) (A := A.in1) (r := r) (o := o) (by simpa using hh) hd hf ht hSI htI).toS
  refine wpAny_pure ⟨plainId_quiet F.plain_extend_loop _, codeAny_extend_loopS W (fits_of_scanBound hsz) s.heap.objs.size (by simp [hLI, Nat.ne_of_gt hlt, hLt]) _ es.size 0 _ _ _ rfl (Nat.zero_le _)
    ⟨x.at (fun ob e => oth _ _ (Ne.symm hLI) e) (fun ob e => oth _ _ (Ne.symm hLt) e), oth _ _ (Nat.ne_of_lt hlt) hoS2⟩ hS3 (ItemsOf.nil _) fun s' acc' c' hm hS' hacc => ?_⟩
  show wpAny _ A (load s.heap.objs.size >>= _) _ _ s'
  refine wpAny_bind (wpAny_load hS' ?_)
  have hrl : r.length = es.size := by rw [x.perm.length_eq, Array.length_toList]
  have hacc' : acc'.toList = r.map (·.2) := by
    refine List.ext_getElem? fun j => ?_
    rw [Array.getElem?_toList, List.getElem?_map]
    by_cases hj : j < es.size
    · have hj' : j < acc'.size := by rw [hacc.1]; exact hj
      rw [Array.getElem?_eq_getElem hj', hacc.2 j _ (Array.getElem?_eq_getElem hj'), List.getD_eq_getElem?_getD, List.getElem?_eq_getElem (by exact Iv hj (Eq.symm hrl))]; rfl
    · rw [Array.getElem?_eq_none (by rw [hacc.1]; exact oGe hj), List.getElem?_eq_none (by exact A0j hrl (oGe hj))]; rfl
  have keep : ∀ b ob, s.heap.get? b = some ob → s'.heap.get? b = some ob := fun b ob e => by
    have hb := Heap.lt_size e
    have e1 : (s.heap.push { cls := .type "list", data := .seq ([] : List Value).toArray }).get? b = some ob := Heap.get?_push_of_some _ e
    refine hm.heap b ob (fun q => ?_) (oth _ _ (Nat.ne_of_lt hb) (k2 _ _ e1))
    simp only [List.mem_cons, List.not_mem_nil, or_false] at q
    rcases q with q | q
    · exact absurd q (Nat.ne_of_lt hb)
    · rw [q, hI] at e1; cases e1
  exact wpAny_pure (h _ s' (by rw [hacc']; exact x.perm.map _) keep (hm.gens.trans hg2) (hm.os.trans ho2))
end
end Mine
namespace Mine
open PySem PySem.Calls PyProof.Rows PySem.SeqAt
section
variable {prog : Program} {w : World} {A : Around} {E : Value → Shared → Prop} {s : Shared} {a : Addr} {l : List Int}
theorem Sz : ∀ (vs : List Value), (∀ v ∈ vs, ∃ i t, v = Value.int i t) → IntsAre vs (vs.map Lh)
  | [], _ => .nil
  | v :: vs, h => by
    obtain ⟨i, t, rfl⟩ := h v List.mem_cons_self
    exact .cons i t (Sz vs fun v hv => h v (List.mem_cons_of_mem _ hv))
inductive A7g (s : Shared) (l : List Int) (v : Value) (s' : Shared) : Prop
  | mk (D : Addr) (out : Array Value) (ns : List Int) (k : Nat) (hv : v = .ref D) (hD : s.heap.get? D = none) (hl : s'.heap.get? D = some (seqObj "list" out k)) (hi : IntsAre out.toList ns) (hp : ns.Perm l) (hs : ns.Pairwise (· ≤ ·))
    (kp : ∀ b ob, s.heap.get? b = some ob → s'.heap.get? b = some ob) (hg : s'.gens = s.gens) (ho : s'.os = s.os) : A7g s l v s'
theorem Uy {Q : Value → Shared → Prop} (hh : A.handled = none) (S : Gy s.heap a (!C6 w) l) (hl : l.length < 64) (h : ∀ v s', A7g s l v s' → Q v s') : wpAny (model prog w) A (call (.builtin "sorted") [.ref a]) Q E s := by
  obtain ⟨o, es, ep, t, ho, hex, hd, hel, hp, hb, hf, ht⟩ := S
  refine Calls.call_function_entry kind_sorted plain_sorted entry_sorted (args_sorted1 _) ?_
  unfold Builtin.«sorted»
  refine wpAny_bind (m := checkCount "sorted" 1 1 _) (wpAny_pure ?_)
  refine wpAny_bind (U7 (by simpa using hh) ho hex hd hf hb ht fun vs s1 hvs k1 hg1 ho1 => ?_)
  have hlen : vs.length = l.length := by rw [hvs.length_eq, List.length_map, ← hp.length_eq, List.length_map]
  have hI : IntsAre vs (vs.map Lh) := Sz vs fun v hv => by
    obtain ⟨e, he, rfl⟩ := List.mem_map.mp (hvs.mem_iff.mp hv)
    obtain ⟨i, tk, rfl⟩ := hel e he
    exact ⟨i, tk, rfl⟩
  have hpl : (vs.map Lh).Perm l := by
    refine (hvs.map Lh).trans ?_
    rw [List.map_map]
    exact hp
  refine wpAny_bind (wpAny_newList ?_ (by rw [hlen, sizeLine_eq]; exact Nat.le_trans (Nat.le_of_lt hl) (by decide)))
  have hoL : (s1.heap.push (seqObj "list" vs.toArray 0)).get? s1.heap.objs.size = some (seqObj "list" vs.toArray 0) := Heap.get?_push_size _ rfl
  show wpAny _ _ _ _ _ { s1 with heap := s1.heap.push (seqObj "list" vs.toArray 0) }
  refine wpAny_bind (wpAny_holding (wpAny_call_entry slot_list_sort ⟨_, hoL, rfl⟩ entry_list_sort (list_sort_tree hoL hI (by exact Nv hlen hl) fun out ns' a1 a2 a3 => ⟨_, rfl, ?_⟩) (args_list_sort _)))
  obtain ⟨k, hk⟩ := sortedHeap_at (out := out) hoL
  have keep : ∀ b ob, s.heap.get? b = some ob → (sortedHeap (s1.heap.push (seqObj "list" vs.toArray 0)) s1.heap.objs.size vs out).get? b = some ob := fun b ob e => by
    have e1 := k1 b ob e
    have hlt := Heap.lt_size e1
    rw [sortedHeap_old (Nat.ne_of_lt hlt) (by rw [Heap.size_push]; exact Nat.lt_succ_of_lt hlt)]
    exact Heap.get?_push_of_some _ e1
  refine wpAny_pure ⟨_, rfl, h _ _ ⟨_, out, ns', k, rfl, ?_, hk, a1, a2.trans hpl, a3, keep, hg1, ho1⟩⟩
  cases e : s.heap.get? s1.heap.objs.size with
  | none => rfl
  | some ob => exact absurd (Heap.lt_size (k1 _ _ e)) (Nat.lt_irrefl _)
end
end Mine
namespace Mine
open PySem PySem.Calls PyProof.Rows PySem.SeqAt
theorem R6 {l : List Int} (h1 : l.Pairwise (· ≤ ·)) (h2 : l.Nodup) : l.Pairwise (· < ·) := (h1.and h2).imp fun q => by exact Int.lt_iff_le_and_ne.mpr q
theorem Zb {is ns : List Int} {n : Nat} (hn : n = is.length) (hp : ns.Perm (ddL (fun i => is.getD i 0) n)) (hs : ns.Pairwise (· ≤ ·)) : ns = B6 (C7 is) := by
  obtain ⟨d1, d2⟩ := J1 (Oe is)
  refine Hm (R6 hs (hp.nodup_iff.mpr (Q1 _ _))) d1 fun x => ?_
  rw [hp.mem_iff, Xa, d2, Ks]
  subst hn
  constructor
  · rintro ⟨j, hj, rfl⟩
    rw [List.getD_eq_getElem?_getD, List.getElem?_eq_getElem hj]
    exact List.getElem_mem ..
  · intro h
    obtain ⟨j, hj⟩ := List.mem_iff_getElem?.mp h
    exact ⟨j, (List.getElem?_eq_some_iff.mp hj).1, by rw [List.getD_eq_getElem?_getD, hj]; rfl⟩
section
variable {C : Cx} {T : Tab} {n b : Nat} {Γ : List Str} {S : Scope} {strF : Bi}
theorem Al.sset (hq : T.q = false) {f g : Str} {x : Expr} {np gp p2 pos : Pos} {d d1 : A8 → A0 → Res AV} (hf : f = ("sorted" : Str)) (hg : g = ("set" : Str)) (hgf : Ao S f = true) (hgg : Ao S g = true) (hn : Aq x = true) (h1 : Al C T n b Γ S x d1)
    (hd : ∀ ρ H, d ρ H = (d1 ρ H).get fun w H => prim strF C.sc .sortedSet [w] H) : Al C T n b Γ S (.Call (.Name f np) [.Call (.Name g gp) [x] [] p2] [] pos) d := by
  subst hf; subst hg
  refine ⟨?_⟩
  intro base env ρ μ H H' s A E Q v' G hS st a ed k
  rw [hd] at ed
  obtain ⟨w, H1, e1, ed⟩ := Res.get_ok ed
  cases w with
  | ref r =>
    have ed : (match H1[r]? with
      | some (.list xs) => if xs.length < 64 then (match Bc xs with
          | some is => B7 ((B6 (C7 is)).map .int) H1
          | none => .bad) else .bad
      | _ => .bad) = .ok v' H' := ed
    split at ed
    · rename_i xs ex
      split at ed
      · rename_i h64
        split at ed
        · rename_i is ei
          refine bC fun hno => ?_
          obtain ⟨hz, rfl, rfl⟩ := Dx ed
          refine hno ?_
          refine wpAny_Call_ofName (Bm G hS st hgf rfl ?_)
          refine callWith_builtin (Cz rfl) (Ch rfl (wpAny_items_cons ?_ (Ar rfl)))
          refine wpAny_Call_ofName (Bm G hS st hgg rfl ?_)
          refine PySem.callWith_type (Cz (by simp only [List.all_cons, hn]; rfl)) (Ch hn (wpAny_items_cons (h1.ok G hS st a e1 fun u s' μ' X S' V => wpAny_items_nil ?_) (Ar hn)))
          refine bC fun hno => ?_
          obtain ⟨c, rfl, ec⟩ := V.isRef
          obtain ⟨hzx, a', vs, ea', p1, q1⟩ := S'.hp.list ex
          rw [ec] at ea'; cases ea'
          have hi := F7 ei q1
          have hvl : vs.length < 64 := by rw [← q1.length]; exact h64
          have hil : vs.length = is.length := hi.length
          refine hno ?_
          refine Z6 (a.handled (G.q.trans hq)) (IsList.of_plain p1) hi (by rw [List.size_toArray]; exact Nat.lt_trans (Nat.succ_lt_succ hvl) (by decide)) fun h2 tk2 SI k2 => ?_
          refine wpAny_items_nil ?_
          rw [List.size_toArray] at SI
          refine Uy (s := { s' with heap := h2, toks := tk2 }) (a.handled (G.q.trans hq)) SI (Nat.lt_of_le_of_lt (J4 _ _) hvl) fun v2 s2 R => ?_
          obtain ⟨D, out, ns, kk, rfl, hD, hl, hi2, hp2, hs2, kp, hg2, ho2⟩ := R
          have hns := Zb hil hp2 hs2
          subst hns
          have keep : ∀ {b : Addr} {ob : Obj}, s'.heap.get? b = some ob → s2.heap.get? b = some ob := fun e => kp _ _ (k2 _ _ e)
          have hD' : s'.heap.get? D = none := by
            cases e : s'.heap.get? D with
            | none => rfl
            | some ob => rw [show ({ s' with heap := h2, toks := tk2 } : Shared).heap = h2 from rfl, k2 _ _ e] at hD; cases hD
          have S2 := S'.grow (s' := s2) keep hg2 ho2
          have T2 := S2.track (a := D) (vs := out.toList) ⟨kk, by simpa using hl⟩ (Mx hi2) (Gk S' hD') (Bl S' hD') hz
          exact k _ _ _ (X.trans ((Ext.grow keep).trackX hD')) T2 (.ref (by rw [← S'.hp.len]; simp))
        · cases ed
      · cases ed
    · cases ed
  | _ => exact Dc (v := v') (H' := H') ed
end
end Mine
namespace Mine
open PySem PySem.Calls PyProof.Rows PySem.SeqAt
theorem Gc {scope S : Scope} {Γ xs : List Str} (h : I8 scope S Γ xs = true) : Js scope S Γ xs := by
  unfold I8 at h
  simp only [Bool.and_eq_true, beq_iff_eq, List.all_eq_true] at h
  obtain ⟨⟨h1, h2⟩, h3⟩ := h
  refine ⟨h1, fun x hx e => ?_, fun x hx e => ?_, fun x hx e => ?_, fun x hx e => ?_, h3⟩
  · have := (h2 x hx).1.1.1; rw [e] at this; simpa using this
  · have := (h2 x hx).1.1.2; rw [e] at this; simpa using this
  · have := (h2 x hx).1.2; rw [e] at this; simpa using this
  · have := (h2 x hx).2
    rcases e with e | e <;> rw [e] at this <;> simp at this <;> rcases this with q | q
    · exact .inl q
    · exact .inr q
    · exact .inl q
    · exact .inr q
theorem Rj {o : Expr} {m : Str} (h : Qi o = true) : ∀ env, attributeBase o m env (eval o env) = eval o env := by
  cases o <;> first | (intro env; rfl) | cases h
theorem M8 {α β γ : Type} {r : Res α} {f : α → A0 → Res β} {g : β → A0 → Res γ} : (r.get f).get g = r.get fun v H => (f v H).get g := by
  cases r <;> rfl
inductive Y5 (T : Tab) (Γ : List Str) (S : Scope) (es : PEs) : D9 → Expr → Prop
  | lr {f : Str} {np : Pos} {g : Str} {gp : Pos} {args : List Expr} {p2 pos : Pos} : f = ("list" : Str) → Ao S f = true → g = ("range" : Str) → Ao S g = true → Bv T Γ S es args = true → Y5 T Γ S es .listRange (.Call (.Name f np) [.Call (.Name g gp) args [] p2] [] pos)
  | fn {p : D9} {f : Str} {np : Pos} {args : List Expr} {pos : Pos} : J2 p = true → Ao S f = true → F1 p = some f → Bv T Γ S es args = true → Y5 T Γ S es p (.Call (.Name f np) args [] pos)
  | ty {p : D9} {f : Str} {np : Pos} {a : Expr} {g : Str} {gp pos : Pos} : J2 p = true → Ao S f = true → f = ("isinstance" : Str) → Jb T p = some g → Ao S g = true → Bv T Γ S es [a] = true → Y5 T Γ S es p (.Call (.Name f np) [a, .Name g gp] [] pos)
theorem Oh {T : Tab} {Γ : List Str} {S : Scope} {p : D9} {es : PEs} {e : Expr} (h : B3 T Γ S (.prim p es) e = true) : Y5 T Γ S es p e := by
  obtain ⟨_, h⟩ := A9 h
  obtain ⟨f, np, args, pos, rfl, hk⟩ := Cf h
  clear h
  have h := hk
  have h : cond (A6n p)
      (opt (Ge args) fun a => Dg a fun g as => f == ("list" : Str) && (Ao S f && (g == ("range" : Str) && (Ao S g && Bv T Γ S es as))))
      (J2 p && (Ao S f && (match Jb T p with
        | some t => f == ("isinstance" : Str) && opt (Nq args) fun a => opt (Ep a.2) fun g => t == g.1 && (Ao S g.1 && Bv T Γ S es [a.1])
        | none => F1 p == some f && Bv T Γ S es args))) = true := h
  cases hp : A6n p with
  | true =>
    rw [hp] at h
    obtain ⟨a, ha, h⟩ := Af h
    obtain ⟨g, gp, as, p2, rfl, hk⟩ := Cf h
    clear h
    have h := hk
    obtain ⟨h1, h⟩ := A9 h
    obtain ⟨h2, h⟩ := A9 h
    obtain ⟨h3, h⟩ := A9 h
    obtain ⟨h4, h5⟩ := A9 h
    have q : args = _ := C4 ha
    subst q
    cases A4f hp
    exact .lr (Ba h1) h2 (Ba h3) h4 h5
  | false =>
    refine bC fun hno => ?_
    rw [hp] at h
    obtain ⟨h1, h⟩ := A9 h
    obtain ⟨h2, h⟩ := A9 h
    refine hno ?_
    cases q : Jb T p with
    | none =>
      refine bC fun hno => ?_
      rw [q] at h
      obtain ⟨h3, h4⟩ := A9 h
      refine hno ?_
      exact .fn h1 h2 (Ba h3) h4
    | some t =>
      refine bC fun hno => ?_
      rw [q] at h
      obtain ⟨h3, h⟩ := A9 h
      obtain ⟨a, ha, h⟩ := Af h
      obtain ⟨g, hg, h⟩ := Af h
      obtain ⟨h4, h⟩ := A9 h
      obtain ⟨h5, h6⟩ := A9 h
      have q2 : args = _ := Gq ha
      subst q2
      refine hno ?_
      rw [Bu hg]
      exact .ty h1 h2 (Ba h3) (by rw [q, Ba h4]) h5 h6
section
variable {C : Cx} {T : Tab} {n : Nat} {cf : Nat → List AV → A0 → Res AV} {strF : Bi}
theorem Gz.bad {C : Cx} {b : Nat} {Γ : List Str} {S : Scope} {e : Expr} {d : A8 → A0 → Res Bool} (hd : ∀ ρ H, d ρ H = .bad) : Gz C T n b Γ S e d := by
  refine ⟨?_⟩
  intro base env ρ μ H H' s A E Q v G hS st a ed k
  rw [hd] at ed; cases ed
theorem Dq {a : Bool} (h : (!a) = true) : a = false := by
  cases a
  · rfl
  · cases h
inductive A7h (T : Tab) (Γ : List Str) (S : Scope) (a : PE) (as : PEs) (vs : List Expr) : Prop
  | mk (e : Expr) (r : List Expr) (he : vs = e :: r) (h1 : Aq e = true) (h2 : B3 T Γ S a e = true) (h3 : Bv T Γ S as r = true) : A7h T Γ S a as vs
theorem B8 {Γ : List Str} {S : Scope} {a : PE} {as : PEs} {vs : List Expr} (h : Bv T Γ S (.cons a as) vs = true) : A7h T Γ S a as vs := by
  cases vs with
  | nil => cases h
  | cons e r =>
    obtain ⟨h1, h⟩ := A9 h
    obtain ⟨h2, h3⟩ := A9 h
    exact ⟨e, r, rfl, h1, h2, h3⟩
theorem Dr {Γ : List Str} {S : Scope} {vs : List Expr} (h : Bv T Γ S .nil vs = true) : vs = [] := D0 h
theorem D5 {Γ : List Str} {S : Scope} : ∀ (es : PEs) (vs : List Expr), Bv T Γ S es vs = true → vs.all Aq = true
  | .nil, vs, h => by rw [Dr h]; rfl
  | .cons a as, vs, h => by
    obtain ⟨e, r, rfl, h1, h2, h3⟩ := B8 h
    rw [List.all_cons, h1, D5 as r h3]; rfl
theorem J7 {Γ : List Str} {S : Scope} {es : PEs} {vs : List Expr} (h : Bv T Γ S es vs = true) (hs : Tz es = true) : ∃ e r, vs = e :: r := by
  cases es with
  | nil => cases hs
  | cons a as => obtain ⟨e, r, rfl, _⟩ := B8 h; exact ⟨e, r, rfl⟩
theorem Wu {Γ : List Str} {S : Scope} {op : CmpOp} {a b : PE} {e : Expr} (h : B3 T Γ S (.cmp op a b) e = true) : ∃ l r p, e = .Compare l [op] [r] p ∧ C3 r = true ∧ B3 T Γ S a l = true ∧ B3 T Γ S b r = true := by
  refine bC fun hno => ?_
  obtain ⟨x, hx, h⟩ := Af h
  obtain ⟨o, ho, h⟩ := Af h
  obtain ⟨r, hr, h⟩ := Af h
  obtain ⟨h1, h⟩ := A9 h
  obtain ⟨h2, h⟩ := A9 h
  obtain ⟨h3, h4⟩ := A9 h
  refine hno ?_
  exact ⟨_, _, _, by rw [Xq hx, C4 ho, C4 hr, Ba h1], h2, h3, h4⟩
theorem A3b {Γ : List Str} {S : Scope} {o1 o2 : CmpOp} {a b c : PE} {e : Expr} (h : B3 T Γ S (.cmp2 o1 o2 a b c) e = true) : ∃ l r1 r2 p, e = .Compare l [o1, o2] [r1, r2] p ∧ C3 r2 = true ∧ B3 T Γ S a l = true ∧ B3 T Γ S b r1 = true ∧ B3 T Γ S c r2 = true := by
  refine bC fun hno => ?_
  obtain ⟨x, hx, h⟩ := Af h
  obtain ⟨o, ho, h⟩ := Af h
  obtain ⟨r, hr, h⟩ := Af h
  obtain ⟨h1, h⟩ := A9 h
  obtain ⟨h2, h⟩ := A9 h
  obtain ⟨h3, h⟩ := A9 h
  obtain ⟨h4, h⟩ := A9 h
  obtain ⟨h5, h6⟩ := A9 h
  refine hno ?_
  exact ⟨_, _, _, _, by rw [Xq hx, Gq ho, Gq hr, Ba h1, Ba h2], h3, h4, h5, h6⟩
theorem Ju {Γ : List Str} {S : Scope} {o : BoolOp} {es : PEs} {e : Expr} (h : (opt (Wj e) fun x => o == x.1 && Bv T Γ S es x.2.1) = true) : ∃ vs p, e = .BoolOp o vs p ∧ Bv T Γ S es vs = true := by
  refine bC fun hno => ?_
  obtain ⟨x, hx, h⟩ := Af h
  obtain ⟨h1, h2⟩ := A9 h
  refine hno ?_
  exact ⟨_, _, by rw [A22 hx, Ba h1], h2⟩
theorem Vh {Γ : List Str} {S : Scope} {o : UnaryOp} {a : PE} {e : Expr} (h : (opt (dUn e) fun x => o == x.1 && B3 T Γ S a x.2.1) = true) : ∃ v p, e = .UnaryOp o v p ∧ B3 T Γ S a v = true := by
  refine bC fun hno => ?_
  obtain ⟨x, hx, h⟩ := Af h
  obtain ⟨h1, h2⟩ := A9 h
  refine hno ?_
  exact ⟨_, _, by rw [A7r hx, Ba h1], h2⟩
inductive A3k (T : Tab) (Γ : List Str) (S : Scope) (k : Nat) (es : PEs) (e : Expr) : Prop
  | mk (f : Str) (np : Pos) (e' : Expr) (r : List Expr) (pos : Pos) (he : e = .Call (.Name f np) (e' :: r) [] pos) (h1 : T.fns.lookup k = some f) (h2 : Ao S f = true) (h3 : Bv T Γ S es (e' :: r) = true) : A3k T Γ S k es e
theorem Ov {Γ : List Str} {S : Scope} {k : Nat} {es : PEs} {e : Expr} (h : B3 T Γ S (.call k es) e = true) : A3k T Γ S k es e := by
  refine bC fun hno => ?_
  obtain ⟨_, h⟩ := A9 h
  obtain ⟨f, np, args, pos, rfl, hk⟩ := Cf h
  clear h
  have h := hk
  obtain ⟨h1, h⟩ := A9 h
  obtain ⟨h2, h⟩ := A9 h
  obtain ⟨h3, h4⟩ := A9 h
  obtain ⟨e', r, rfl⟩ := J7 h4 h3
  refine hno ?_
  exact ⟨_, _, _, _, _, rfl, Ba h1, h2, h4⟩
inductive A49 (T : Tab) (Γ : List Str) (S : Scope) (el : PE) (it : It) (c : PEo) : Expr → Prop
  | mk {el' : Expr} {x : Str} {px : Pos} {iter : Expr} {ifs : List Expr} {scope : Scope} {p : Pos} : I8 scope S Γ [x] = true → Ru it = true → C3 iter = true → Vi T Γ S it iter = true → A7p T (x :: Γ) (Cq scope S) c ifs = true → B3 T (x :: Γ) (Cq scope S) el el' = true → A49 T Γ S el it c (.ListComp el' [⟨.Name x px, iter, ifs, 0⟩] scope p)
inductive A3r (T : Tab) (Γ : List Str) (S : Scope) (el : PE) (it : It) : Expr → Prop
  | mk {el' : Expr} {x : Str} {px : Pos} {y : Str} {py : Pos} {k : Nat} {tp : Pos} {iter : Expr} {scope : Scope} {p : Pos} : I8 scope S Γ [x, y] = true → (x == y) = false → C3 iter = true → Vi T Γ S it iter = true → B3 T (x :: y :: Γ) (Cq scope S) el el' = true → A3r T Γ S el it (.ListComp el' [⟨.Tuple [.Name x px, .Name y py] k tp, iter, [], 0⟩] scope p)
theorem Px {Γ : List Str} {S : Scope} {el : PE} {it : It} {c : PEo} {e : Expr} (h : B3 T Γ S (.comp1 el it c) e = true) : A49 T Γ S el it c e := by
  refine bC fun hno => ?_
  obtain ⟨_, h⟩ := A9 h
  obtain ⟨x, hx, h⟩ := Af h
  obtain ⟨g, hg, h⟩ := Af h
  obtain ⟨v, hv, h⟩ := Af h
  obtain ⟨h1, h⟩ := A9 h
  obtain ⟨h2, h⟩ := A9 h
  obtain ⟨h3, h⟩ := A9 h
  obtain ⟨h4, h⟩ := A9 h
  obtain ⟨h5, h⟩ := A9 h
  obtain ⟨h6, h7⟩ := A9 h
  have e1 : e = .ListComp x.1 [⟨.Name v.1 v.2, g.iter, g.ifs, 0⟩] x.2.2.1 x.2.2.2 := by
    rw [← Bu hv, ← Ba h1]
    exact (Ti hx).trans (by rw [C4 hg]; cases g; rfl)
  refine hno ?_
  rw [e1]
  exact .mk h2 h3 h4 h5 h6 h7
theorem Pv {Γ : List Str} {S : Scope} {el : PE} {it : It} {e : Expr} (h : B3 T Γ S (.comp2 el it) e = true) : A3r T Γ S el it e := by
  refine bC fun hno => ?_
  obtain ⟨_, h⟩ := A9 h
  obtain ⟨x, hx, h⟩ := Af h
  obtain ⟨g, hg, h⟩ := Af h
  obtain ⟨ts, hts, h⟩ := Af h
  obtain ⟨t, ht, h⟩ := Af h
  obtain ⟨v, hv, h⟩ := Af h
  obtain ⟨w, hw, h⟩ := Af h
  obtain ⟨h1, h⟩ := A9 h
  obtain ⟨h0, h⟩ := A9 h
  obtain ⟨h2, h⟩ := A9 h
  obtain ⟨h3, h⟩ := A9 h
  obtain ⟨h4, h⟩ := A9 h
  obtain ⟨h5, h6⟩ := A9 h
  have e1 : e = .ListComp x.1 [⟨.Tuple [.Name v.1 v.2, .Name w.1 w.2] ts.2.1 ts.2.2, g.iter, [], 0⟩] x.2.2.1 x.2.2.2 := by
    rw [← Bu hv, ← Bu hw, ← Gq ht, ← M2 hts, ← Ba h1, ← D0 h0]
    exact (Ti hx).trans (by rw [C4 hg]; cases g; rfl)
  refine hno ?_
  rw [e1]
  exact .mk h2 (Dq h3) h4 h5 h6
theorem L3 {Γ : List Str} {S : Scope} {p : D9} {es : PEs} {e : Expr} (h : B3 T Γ S (.prim p es) e = true) (env : Env) (whole : _) : isTrue e env whole = (do let v ← whole; standAt e.pos; holding [v] (truthy v)) := by
  obtain ⟨_, h⟩ := A9 h
  obtain ⟨f, np, args, pos, rfl, _⟩ := Cf h
  rfl
theorem O2 {p : D9} {f : Str} (hq : (!T.q || (Jb T p).isSome) = true) (h : F1 p = some f) : T.q = false := by
  cases e : T.q with
  | false => rfl
  | true => rw [e] at hq; cases p <;> first | cases h; done | cases hq
theorem A6w {b : Nat} {Γ : List Str} {S : Scope} {p : D9} {e : Expr} {z : Addr → Prop} (h : B3 T Γ S (.prim p .nil) e = true) : Al (C.withZ z) T n b Γ S e (Aa strF cf C.sc b (.prim p .nil)) := by
  refine ⟨?_⟩
  intro base env ρ μ H H' s A E Q v' G hS st a ed k
  cases p <;> exact Dc (v := v') (H' := H') ed
theorem A6z (hsf : Jp strF) {b : Nat} {Γ : List Str} {S : Scope} {p : D9} {e : Expr} {z : Addr → Prop} {x y : PE} {r : PEs} (h : B3 T Γ S (.prim p (.cons x (.cons y r))) e = true) (es : ∀ vs, Bv T Γ S (.cons x (.cons y r)) vs = true → Ji (C.withZ z) T n b Γ S vs (Br strF cf C.sc b (.cons x (.cons y r)))) :
    Al (C.withZ z) T n b Γ S e (Aa strF cf C.sc b (.prim p (.cons x (.cons y r)))) := by
  rcases Oh h with ⟨h1, h2, h3, h4, h5⟩ | ⟨h1, h2, h3, h4⟩ | ⟨h1, h2, h3, h4, h5, h6⟩
  · refine ⟨?_⟩
    intro base env ρ μ H H' s A E Q v' G hS st a ed k
    refine bC fun hno => ?_
    obtain ⟨vs, H1, e1, ed⟩ := Res.get_ok ed
    obtain ⟨v1, H2, e2, e1⟩ := Res.thn_ok e1
    obtain ⟨vs2, H3, e3, e1⟩ := Res.thn_ok e1
    obtain ⟨v3, H4, e4, e3⟩ := Res.thn_ok e3
    obtain ⟨vs4, H5, e5, e3⟩ := Res.thn_ok e3
    refine hno ?_
    cases e3; cases e1
    cases vs4 <;> exact Dc (v := v') (H' := H') ed
  · obtain ⟨e', r', rfl⟩ := J7 h4 rfl
    exact .primCall (strF := strF) hsf (O2 (A9 h).1 h3) h3 h1 h2 (D5 _ _ h4) (es _ h4) fun ρ H => rfl
  · obtain ⟨_, _, q, g1, g2, g3⟩ := B8 h6
    cases q
    obtain ⟨_, _, q, _⟩ := B8 g3
    cases q
theorem A6y (hsf : Jp strF) {b : Nat} {Γ : List Str} {S : Scope} {p : D9} {e : Expr} {z : Addr → Prop} {x : PE} (h : B3 T Γ S (.prim p (.cons x .nil)) e = true) (ev : ∀ e, B3 T Γ S x e = true → Al (C.withZ z) T n b Γ S e (Aa strF cf C.sc b x)) (es : ∀ vs, Bv T Γ S (.cons x .nil) vs = true → Ji (C.withZ z) T n b Γ S vs (Br strF cf C.sc b (.cons x .nil))) :
    Al (C.withZ z) T n b Γ S e (Aa strF cf C.sc b (.prim p (.cons x .nil))) := by
  rcases Oh h with ⟨h1, h2, h3, h4, h5⟩ | ⟨h1, h2, h3, h4⟩ | ⟨h1, h2, h3, h4, h5, h6⟩
  · obtain ⟨a, r, rfl, g1, g2, g3⟩ := B8 h5
    cases Dr g3
    exact .listRange (strF := strF) (by have hq := (A9 h).1; cases e : T.q with | false => rfl | true => rw [e] at hq; cases hq) h1 h3 h2 h4 g1 (ev _ g2) fun ρ H => Wy
  · obtain ⟨e', r', rfl⟩ := J7 h4 rfl
    exact .primCall (strF := strF) hsf (O2 (A9 h).1 h3) h3 h1 h2 (D5 _ _ h4) (es _ h4) fun ρ H => rfl
  · refine bC fun hno => ?_
    obtain ⟨_, _, q, g1, g2, g3⟩ := B8 h6
    cases q
    refine hno ?_
    exact .isCall (strF := strF) h4 h1 h3 h2 h5 g1 (ev _ g2) fun ρ H => Wy
variable (hok : T.q = false → ∀ k, T.okc k = true) (hcf : ∀ z, Df (C.withZ z) T n cf) (hfn : (∀ k, ∃ x, T.fns.lookup k = some x ∨ ∀ vs H, cf k vs H = .bad) ∧ Jp strF)
include hok hcf hfn
mutual
theorem evD (b : Nat) : ∀ (pe : PE) (Γ : List Str) (S : Scope) (e : Expr), B3 T Γ S pe e = true → ∀ z, Al (C.withZ z) T n b Γ S e (Aa strF cf C.sc b pe)
  | .none, Γ, S, e, h, z => by
    refine bC fun hno => ?_
    obtain ⟨c, hc, h⟩ := Af h
    obtain ⟨d, hd, _⟩ := Af h
    refine hno ?_
    rw [Ir hc, A31 hd]
    exact .cNone fun ρ H => rfl
  | .bool v, Γ, S, e, h, z => by
    refine bC fun hno => ?_
    obtain ⟨c, hc, h⟩ := Af h
    obtain ⟨d, hd, h⟩ := Af h
    refine hno ?_
    rw [Ir hc, A1s hd, ← Ba h]
    exact .cBool fun ρ H => rfl
  | .int i, Γ, S, e, h, z => by
    refine bC fun hno => ?_
    obtain ⟨c, hc, h⟩ := Af h
    obtain ⟨d, hd, h⟩ := Af h
    refine hno ?_
    rw [Ir hc, A5q hd, ← Ba h]
    exact .cInt fun ρ H => rfl
  | .str x, Γ, S, e, h, z => by cases h
  | .var i, Γ, S, e, h, z => by
    refine bC fun hno => ?_
    obtain ⟨x, hx, h⟩ := Af h
    obtain ⟨h1, h2⟩ := A9 h
    refine hno ?_
    rw [Bu hx]
    exact .var (Ba h1) h2 fun ρ H => rfl
  | .gint k i, Γ, S, e, h, z => by
    refine bC fun hno => ?_
    obtain ⟨x, hx, h⟩ := Af h
    obtain ⟨h1, h2⟩ := A9 h
    refine hno ?_
    rw [Bu hx]
    exact .gint (Ba h1) h2 fun ρ H => rfl
  | .bin op x y, Γ, S, e, h, z => by
    refine bC fun hno => ?_
    obtain ⟨w, hw, h⟩ := Af h
    obtain ⟨h1, h⟩ := A9 h
    obtain ⟨h2, h3⟩ := A9 h
    refine hno ?_
    rw [A4x hw, ← Ba h1]
    exact .bin (evD b x Γ S _ h2 z) (evD b y Γ S _ h3 z) fun ρ H => rfl
  | .neg x, Γ, S, e, h, z => by
    refine bC fun hno => ?_
    obtain ⟨v, p, rfl, h⟩ := Vh h
    refine hno ?_
    exact .neg (evD b x Γ S _ h z) fun ρ H => rfl
  | .not x, Γ, S, e, h, z => by
    refine bC fun hno => ?_
    obtain ⟨v, p, rfl, h⟩ := Vh h
    refine hno ?_
    exact .not (evD b x Γ S _ h z) fun ρ H => rfl
  | .cmp op x y, Γ, S, e, h, z => by
    refine bC fun hno => ?_
    obtain ⟨l, r, p, rfl, h1, h2, h3⟩ := Wu h
    refine hno ?_
    exact .cmp h1 (evD b x Γ S _ h2 z) (evD b y Γ S _ h3 z) fun ρ H => rfl
  | .cmp2 o1 o2 x y w, Γ, S, e, h, z => by
    refine bC fun hno => ?_
    obtain ⟨l, r1, r2, p, rfl, h3, h4, h5, h6⟩ := A3b h
    refine hno ?_
    exact .cmp2 h3 (evD b x Γ S _ h4 z) (evD b y Γ S _ h5 z) (evD b w Γ S _ h6 z) fun ρ H => rfl
  | .and es, Γ, S, e, h, z => by
    refine bC fun hno => ?_
    obtain ⟨vs, p, rfl, h⟩ := Ju h
    refine hno ?_
    exact .boolOp (A99 b es Γ S _ h z)
  | .or es, Γ, S, e, h, z => by
    refine bC fun hno => ?_
    obtain ⟨vs, p, rfl, h⟩ := Ju h
    refine hno ?_
    exact .boolOp (orD b es Γ S _ h z)
  | .ite c x y, Γ, S, e, h, z => by
    refine bC fun hno => ?_
    obtain ⟨w, hw, h⟩ := Af h
    obtain ⟨h1, h⟩ := A9 h
    obtain ⟨h2, h3⟩ := A9 h
    refine hno ?_
    rw [A59 hw]
    exact .ite (trD b c Γ S _ h1 z) (evD b x Γ S _ h2 z) (evD b y Γ S _ h3 z) fun ρ H => rfl
  | .call k es, Γ, S, e, h, z => by
    refine bC fun hno => ?_
    have ho := (A9 h).1
    obtain ⟨f, np, e', r, pos, rfl, h1, h2, h4⟩ := Ov h
    refine hno ?_
    exact .userCall (hcf z) ho h1 h2 (D5 es _ h4) (esD b es Γ S _ h4 z) fun ρ H => rfl
  | .prim p .nil, Γ, S, e, h, z => A6w h
  | .prim p (.cons x .nil), Γ, S, e, h, z => A6y hfn.2 h (fun e h => evD b x Γ S e h z) (fun vs h => esD b (.cons x .nil) Γ S vs h z)
  | .prim p (.cons x (.cons y r)), Γ, S, e, h, z => A6z hfn.2 h (fun vs h => esD b (.cons x (.cons y r)) Γ S vs h z)
  | .idx x i, Γ, S, e, h, z => by
    refine bC fun hno => ?_
    obtain ⟨w, hw, h⟩ := Af h
    obtain ⟨h1, h⟩ := A9 h
    obtain ⟨h2, h3⟩ := A9 h
    refine hno ?_
    rw [R0 hw]
    exact .idx h1 (evD b x Γ S _ h2 z) (evD b i Γ S _ h3 z) fun ρ H => rfl
  | .slice x lo hi, Γ, S, e, h, z => by
    refine bC fun hno => ?_
    obtain ⟨w, hw, h⟩ := Af h
    obtain ⟨y, hy, h⟩ := Af h
    obtain ⟨h1, h⟩ := A9 h
    obtain ⟨h2, h⟩ := A9 h
    obtain ⟨h3, h4⟩ := A9 h
    refine hno ?_
    rw [R0 hw, A87 hy, Option.isNone_iff_eq_none.mp h1]
    exact .slice (evD b x Γ S _ h2 z) (Aad b lo Γ S _ h3 z) (Aad b hi Γ S _ h4 z) fun ρ H => rfl
  | .list es, Γ, S, e, h, z => by
    refine bC fun hno => ?_
    obtain ⟨w, hw, h⟩ := Af h
    refine hno ?_
    rw [A3o hw]
    exact .mkList (esD b es Γ S _ h z) fun ρ H => rfl
  | .tuple es, Γ, S, e, h, z => by
    refine bC fun hno => ?_
    obtain ⟨w, hw, h⟩ := Af h
    refine hno ?_
    rw [M2 hw]
    exact .mkTuple (esD b es Γ S _ h z) fun ρ H => rfl
  | .dict, Γ, S, e, h, z => by cases h
  | .comp1 el it c, Γ, S, e, h, z => by
    refine bC fun hno => ?_
    have hq := Dq (A9 h).1
    obtain ⟨h1, h2, h3, h4, h5, h6⟩ := Px h
    refine hno ?_
    exact .comp1 (Gc h1) h3 (by have := itD b hq it Γ S _ h4 z; rwa [h2] at this) (fun z' => coD b c _ _ _ h5 z') (fun z' => evD b el _ _ _ h6 z') fun ρ H => rfl
  | .comp2 el it, Γ, S, e, h, z => by
    refine bC fun hno => ?_
    have hq := Dq (A9 h).1
    obtain ⟨h1, h2, h3, h4, h6⟩ := Pv h
    refine hno ?_
    exact .comp2 hq (Gc h1) h2 h3 (itD b hq it Γ S _ h4 z) (fun z' => evD b el _ _ _ h6 z') fun ρ H => rfl
  | .append x y, Γ, S, e, h, z => by
    refine bC fun hno => ?_
    obtain ⟨f, as, p, rfl, hk⟩ := Tw h
    clear h
    have h := hk
    obtain ⟨t, ht, h⟩ := Af h
    obtain ⟨v, hv, h⟩ := Af h
    obtain ⟨h1, h⟩ := A9 h
    obtain ⟨h2, h⟩ := A9 h
    obtain ⟨h3, h⟩ := A9 h
    obtain ⟨h4, h⟩ := A9 h
    obtain ⟨h5, h6⟩ := A9 h
    have q1 : f = _ := A2y ht
    have q2 : as = _ := C4 hv
    subst q1; subst q2
    refine hno ?_
    rw [Ba h1]
    exact .append (Rj h3) h4 h2 (evD b x Γ S _ h5 z) (evD b y Γ S _ h6 z) fun ρ H => rfl
  | .sset x, Γ, S, e, h, z => by
    refine bC fun hno => ?_
    obtain ⟨hq, h⟩ := A9 h
    have hq := Dq hq
    obtain ⟨f, np, args, pos, rfl, h⟩ := Cf h
    obtain ⟨y, hy, h⟩ := Af h
    obtain ⟨g, gp, as, p2, rfl, h⟩ := Cf h
    obtain ⟨x', hx, h⟩ := Af h
    obtain ⟨h1, h⟩ := A9 h
    obtain ⟨h2, h⟩ := A9 h
    obtain ⟨h3, h⟩ := A9 h
    obtain ⟨h4, h⟩ := A9 h
    obtain ⟨h5, h6⟩ := A9 h
    have q : args = _ := C4 hy
    subst q
    have q2 : as = _ := C4 hx
    subst q2
    refine hno ?_
    exact .sset hq (strF := strF) (Ba h1) (Ba h3) h2 h4 h5 (evD b x Γ S _ h6 z) fun ρ H => rfl
theorem trD (b : Nat) : ∀ (pe : PE) (Γ : List Str) (S : Scope) (e : Expr), B3 T Γ S pe e = true → ∀ z, Gz (C.withZ z) T n b Γ S e (Bp strF cf C.sc b pe)
  | .not x, Γ, S, e, h, z => by
    obtain ⟨v, p, rfl, h⟩ := Vh h
    exact .not (trD b x Γ S _ h z) fun ρ H => rfl
  | .cmp op x y, Γ, S, e, h, z => by
    refine bC fun hno => ?_
    obtain ⟨l, r, p, rfl, h1, h2, h3⟩ := Wu h
    refine hno ?_
    exact .cmp h1 (evD b x Γ S _ h2 z) (evD b y Γ S _ h3 z) fun ρ H => rfl
  | .cmp2 _ _ _ _ _, Γ, S, e, h, z => .bad fun ρ H => rfl
  | .and es, Γ, S, e, h, z => by
    obtain ⟨vs, p, rfl, h⟩ := Ju h
    exact .boolOp (A9s b es Γ S _ h z)
  | .or es, Γ, S, e, h, z => by
    obtain ⟨vs, p, rfl, h⟩ := Ju h
    exact .boolOp (orT b es Γ S _ h z)
  | .var i, Γ, S, e, h, z => by
    obtain ⟨x, hx, h⟩ := Af h
    obtain ⟨h1, h2⟩ := A9 h
    rw [Bu hx]
    refine .ofEv (fun _ _ => rfl) (Al.var (d := Aa strF cf C.sc b (.var i)) (Ba h1) h2 fun ρ H => rfl) fun ρ H => ?_
    show (match ρ[i]? with | some (some (.bool v)) => Res.ok v H | _ => .bad) = (match ρ[i]? with | some (some v) => Res.ok v H | _ => Res.bad).get _
    cases e1 : ρ[i]? with
    | none => rfl
    | some o => cases o with
      | none => rfl
      | some v => cases v <;> rfl
  | .call k es, Γ, S, e, h, z => by
    have ho := (A9 h).1
    obtain ⟨f, np, e', r, pos, rfl, h1, h2, h4⟩ := Ov h
    exact .ofEv (fun _ _ => rfl) (Al.userCall (d := Aa strF cf C.sc b (.call k es)) (hcf z) ho h1 h2 (D5 es _ h4) (esD b es Γ S _ h4 z) fun ρ H => rfl) fun ρ H => M8.symm
  | .prim p .nil, Γ, S, e, h, z => .ofEv (L3 h) (A6w h) fun ρ H => M8.symm
  | .prim p (.cons x .nil), Γ, S, e, h, z => .ofEv (L3 h) (A6y hfn.2 h (fun e h => evD b x Γ S e h z) (fun vs h => esD b (.cons x .nil) Γ S vs h z)) fun ρ H => M8.symm
  | .prim p (.cons x (.cons y r)), Γ, S, e, h, z => .ofEv (L3 h) (A6z hfn.2 h (fun vs h => esD b (.cons x (.cons y r)) Γ S vs h z)) fun ρ H => M8.symm
  | .none, Γ, S, e, h, z => .bad fun ρ H => rfl
  | .bool v, Γ, S, e, h, z => .bad fun ρ H => rfl
  | .int v, Γ, S, e, h, z => .bad fun ρ H => rfl
  | .str v, Γ, S, e, h, z => .bad fun ρ H => rfl
  | .gint k v, Γ, S, e, h, z => .bad fun ρ H => rfl
  | .bin _ _ _, Γ, S, e, h, z => .bad fun ρ H => rfl
  | .neg _, Γ, S, e, h, z => .bad fun ρ H => rfl
  | .ite _ _ _, Γ, S, e, h, z => .bad fun ρ H => rfl
  | .idx _ _, Γ, S, e, h, z => .bad fun ρ H => rfl
  | .sset _, Γ, S, e, h, z => .bad fun ρ H => rfl
  | .slice _ _ _, Γ, S, e, h, z => .bad fun ρ H => rfl
  | .list _, Γ, S, e, h, z => .bad fun ρ H => rfl
  | .tuple _, Γ, S, e, h, z => .bad fun ρ H => rfl
  | .dict, Γ, S, e, h, z => by cases h
  | .comp1 _ _ _, Γ, S, e, h, z => .bad fun ρ H => rfl
  | .comp2 _ _, Γ, S, e, h, z => .bad fun ρ H => rfl
  | .append _ _, Γ, S, e, h, z => .bad fun ρ H => rfl
theorem A99 (b : Nat) : ∀ (es : PEs) (Γ : List Str) (S : Scope) (vs : List Expr), Bv T Γ S es vs = true → ∀ z, Na (C.withZ z) T n b Γ S .And vs (Eo strF cf C.sc b es)
  | .nil, Γ, S, vs, h, z => ⟨fun _ _ _ _ ed _ => Dc ed⟩
  | .cons x .nil, Γ, S, vs, h, z => by
    obtain ⟨e, r, rfl, h1, h2, h3⟩ := B8 h
    cases Dr h3
    exact .one (evD b x Γ S _ h2 z) fun ρ H => rfl
  | .cons x (.cons y es), Γ, S, vs, h, z => by
    obtain ⟨e, r, rfl, h1, h2, h3⟩ := B8 h
    obtain ⟨e', r', q, _⟩ := B8 h3
    rw [q] at h3 ⊢
    exact .andE (evD b x Γ S _ h2 z) (A99 b (.cons y es) Γ S _ h3 z) fun ρ H => rfl
theorem orD (b : Nat) : ∀ (es : PEs) (Γ : List Str) (S : Scope) (vs : List Expr), Bv T Γ S es vs = true → ∀ z, Na (C.withZ z) T n b Γ S .Or vs (Xg strF cf C.sc b es)
  | .nil, Γ, S, vs, h, z => ⟨fun _ _ _ _ ed _ => Dc ed⟩
  | .cons x .nil, Γ, S, vs, h, z => by
    obtain ⟨e, r, rfl, h1, h2, h3⟩ := B8 h
    cases Dr h3
    exact .one (evD b x Γ S _ h2 z) fun ρ H => rfl
  | .cons x (.cons y es), Γ, S, vs, h, z => by
    obtain ⟨e, r, rfl, h1, h2, h3⟩ := B8 h
    obtain ⟨e', r', q, _⟩ := B8 h3
    rw [q] at h3 ⊢
    exact .orE (evD b x Γ S _ h2 z) (orD b (.cons y es) Γ S _ h3 z) fun ρ H => rfl
theorem A9s (b : Nat) : ∀ (es : PEs) (Γ : List Str) (S : Scope) (vs : List Expr), Bv T Γ S es vs = true → ∀ z, Ky (C.withZ z) T n b Γ S .And vs (Da strF cf C.sc b es)
  | .nil, Γ, S, vs, h, z => by cases Dr h; exact .nilA fun ρ H => rfl
  | .cons x es, Γ, S, vs, h, z => by
    obtain ⟨e, r, rfl, h1, h2, h3⟩ := B8 h
    exact .andE (trD b x Γ S _ h2 z) (A9s b es Γ S _ h3 z) fun ρ H => rfl
theorem orT (b : Nat) : ∀ (es : PEs) (Γ : List Str) (S : Scope) (vs : List Expr), Bv T Γ S es vs = true → ∀ z, Ky (C.withZ z) T n b Γ S .Or vs (Ex strF cf C.sc b es)
  | .nil, Γ, S, vs, h, z => by cases Dr h; exact .nilO fun ρ H => rfl
  | .cons x es, Γ, S, vs, h, z => by
    obtain ⟨e, r, rfl, h1, h2, h3⟩ := B8 h
    exact .orE (trD b x Γ S _ h2 z) (orT b es Γ S _ h3 z) fun ρ H => rfl
theorem esD (b : Nat) : ∀ (es : PEs) (Γ : List Str) (S : Scope) (vs : List Expr), Bv T Γ S es vs = true → ∀ z, Ji (C.withZ z) T n b Γ S vs (Br strF cf C.sc b es)
  | .nil, Γ, S, vs, h, z => by cases Dr h; exact .nilE fun ρ H => rfl
  | .cons x es, Γ, S, vs, h, z => by
    obtain ⟨e, r, rfl, h1, h2, h3⟩ := B8 h
    exact .consE h1 (evD b x Γ S _ h2 z) (esD b es Γ S _ h3 z) fun ρ H => rfl
theorem Aad (b : Nat) : ∀ (o : PEo) (Γ : List Str) (S : Scope) (v : Option Expr), A8w T Γ S o v = true → ∀ z, Wb (C.withZ z) T n b Γ S v (Ly strF cf C.sc b o)
  | .none, Γ, S, v, h, z => by
    cases Option.isNone_iff_eq_none.mp h
    exact .no fun ρ H => rfl
  | .some x, Γ, S, v, h, z => by
    obtain ⟨e, rfl, h⟩ := Af h
    exact .yes (evD b x Γ S _ h z) fun ρ H => rfl
theorem coD (b : Nat) : ∀ (o : PEo) (Γ : List Str) (S : Scope) (vs : List Expr), A7p T Γ S o vs = true → ∀ z, U5 (C.withZ z) T n b Γ S vs (Mm strF cf C.sc b o)
  | .none, Γ, S, v, h, z => by
    cases D0 h
    exact .nil fun ρ H => rfl
  | .some x, Γ, S, v, h, z => by
    obtain ⟨e, he, h⟩ := Af h
    rw [C4 he]
    exact .one (trD b x Γ S _ h z)
theorem itD (b : Nat) (hq : T.q = false) : ∀ (it : It) (Γ : List Str) (S : Scope) (e : Expr), Vi T Γ S it e = true → ∀ z, Gx (C.withZ z) T n b Γ S (Ru it) e (Dy strF cf C.sc b it)
  | .of x, Γ, S, e, h, z => .of hq (evD b x Γ S _ h z) fun ρ H => rfl
  | .range1 x, Γ, S, e, h, z => by
    refine bC fun hno => ?_
    have h : Dg e (fun f args => opt (Ge args) fun x' => f == ("range" : Str) && (Ao S f && (Aq x' && B3 T Γ S x x'))) = true := h
    obtain ⟨f, np, args, pos, rfl, hk⟩ := Cf h
    clear h
    have h := hk
    obtain ⟨a, ha, h⟩ := Af h
    obtain ⟨h1, h⟩ := A9 h
    obtain ⟨h2, h⟩ := A9 h
    obtain ⟨h3, h4⟩ := A9 h
    refine hno ?_
    rw [C4 ha]
    exact .range1 hq (by rw [Ba h1]; rfl) h2 h3 (evD b x Γ S _ h4 z) fun ρ H => rfl
  | .range2 x y, Γ, S, e, h, z => by
    refine bC fun hno => ?_
    have h : Dg e (fun f args => opt (Nq args) fun x' => f == ("range" : Str) && (Ao S f && (Aq x'.1 && (Aq x'.2 && (B3 T Γ S x x'.1 && B3 T Γ S y x'.2))))) = true := h
    obtain ⟨f, np, args, pos, rfl, hk⟩ := Cf h
    clear h
    have h := hk
    obtain ⟨a, ha, h⟩ := Af h
    obtain ⟨h1, h⟩ := A9 h
    obtain ⟨h2, h⟩ := A9 h
    obtain ⟨h3, h⟩ := A9 h
    obtain ⟨h4, h⟩ := A9 h
    obtain ⟨h5, h6⟩ := A9 h
    refine hno ?_
    rw [Gq ha]
    exact .range2 hq (by rw [Ba h1]; rfl) h2 h3 h4 (evD b x Γ S _ h5 z) (evD b y Γ S _ h6 z) fun ρ H => rfl
  | .zip x y, Γ, S, e, h, z => by
    refine bC fun hno => ?_
    have h : Dg e (fun f args => opt (Nq args) fun x' => f == ("zip" : Str) && (Ao S f && (Aq x'.1 && (Aq x'.2 && (B3 T Γ S x x'.1 && B3 T Γ S y x'.2))))) = true := h
    obtain ⟨f, np, args, pos, rfl, hk⟩ := Cf h
    clear h
    have h := hk
    obtain ⟨a, ha, h⟩ := Af h
    obtain ⟨h1, h⟩ := A9 h
    obtain ⟨h2, h⟩ := A9 h
    obtain ⟨h3, h⟩ := A9 h
    obtain ⟨h4, h⟩ := A9 h
    obtain ⟨h5, h6⟩ := A9 h
    refine hno ?_
    rw [Gq ha]
    exact .zip hq (by rw [Ba h1]; rfl) h2 h3 h4 (evD b x Γ S _ h5 z) (evD b y Γ S _ h6 z) fun ρ H => rfl
end
end
end Mine
namespace Mine
open PySem PySem.Calls PyProof.Rows PySem.SeqAt
section
variable {C : Cx} {T : Tab} {n : Nat} {cf : Nat → List AV → A0 → Res AV} {strF : Bi}
variable (hok : T.q = false → ∀ k, T.okc k = true) (hcf : ∀ z, Df (C.withZ z) T n cf) (hfn : (∀ k, ∃ x, T.fns.lookup k = some x ∨ ∀ vs H, cf k vs H = .bad) ∧ Jp strF)
include hok hcf hfn
theorem A5s (b : Nat) {i : Nat} {e : PE} {x : Str} {px pos : Pos} {v : Expr} {Γ : List Str} {S : Scope} (h1 : slot Γ x = some i) (h2 : B2 S x = true) (h3 : (S9 e || Ec v) = true)
    (h4 : B3 T Γ S e v = true) (z : Addr → Prop) : SOk (C.withZ z) T n b Γ S (.Assign [.Name x px] v pos) (Fy strF cf C.sc b (.assign i e)) := by
  by_cases hc : S9 e = true
  · cases e with
    | comp1 el it c =>
      have hq := Dq (A9 h4).1
      obtain ⟨g1, g2, g3, g4, g5, g6⟩ := Px h4
      exact .assignC1 (C := C.withZ z) (d1 := Aa strF cf C.sc b (.comp1 el it c)) h1 h2 (Gc g1) g3 (by have := itD (strF := strF) hok hcf hfn b hq it Γ S _ g4 z; rwa [g2] at this) (fun z' => coD hok hcf hfn b c _ _ _ g5 z') (fun z' => evD hok hcf hfn b el _ _ _ g6 z')
        (fun ρ H => rfl) fun ρ H => rfl
    | comp2 el it =>
      have hq := Dq (A9 h4).1
      obtain ⟨g1, g2, g3, g4, g6⟩ := Pv h4
      exact .assignC2 hq (C := C.withZ z) (d1 := Aa strF cf C.sc b (.comp2 el it)) h1 h2 (Gc g1) g2 g3 (itD (strF := strF) hok hcf hfn b hq it Γ S _ g4 z) (fun z' => evD hok hcf hfn b el _ _ _ g6 z')
        (fun ρ H => rfl) fun ρ H => rfl
    | _ => cases hc
  · rw [Bool.not_eq_true] at hc
    rw [hc] at h3
    exact .assignN h1 h2 h3 (evD (strF := strF) hok hcf hfn b _ Γ S _ h4 z) fun ρ H => rfl
theorem xD (b : Nat) : ∀ (pe : PE) (Γ : List Str) (S : Scope) (e : Expr), B3 T Γ S pe e = true → Ki pe = true → ∀ z, XOk (C.withZ z) T n b Γ S e (Aa strF cf C.sc b pe) := by
  intro pe Γ S e h hr z
  cases pe with
  | call k es =>
    have ho := (A9 h).1
    obtain ⟨f, np, e', r, pos, rfl, h1, h2, h4⟩ := Ov h
    exact .userCall (hcf z) ho h1 h2 (D5 es _ h4) (esD hok hcf hfn b es Γ S _ h4 z) fun ρ H => rfl
  | _ => cases hr
theorem A4t {Γ : List Str} {S : Scope} {c : Nat} {i : Option Nat} {hd : ExceptHandler} (h : Aao T Γ S c i hd = true) : HdR T Γ S c i (Th hd) hd := by
  obtain ⟨t, ht, h⟩ := Af h
  obtain ⟨x, hx, h⟩ := Af h
  obtain ⟨h1, h⟩ := A9 h
  obtain ⟨h2, h⟩ := A9 h
  obtain ⟨h3, h4⟩ := A9 h
  have e := A9b hd
  rw [ht, Bu hx] at e
  cases eb : Th hd with
  | nil => rw [eb] at h3; cases h3
  | cons b₀ ss =>
    cases i with
    | none =>
      have h4 : (dH hd).2.1.isNone = true := h4
      rw [Option.isNone_iff_eq_none.mp h4, eb] at e
      exact .no _ _ _ b₀ ss (Ba h1) h2 rfl rfl e
    | some j =>
      obtain ⟨nm, hn, h4⟩ := Af h4
      obtain ⟨h5, h6⟩ := A9 h4
      rw [hn, eb] at e
      exact .as _ nm _ _ b₀ ss j (Ba h1) h2 rfl (Ba h5) (Ba h6) rfl e
variable (hqq : T.q = false → ∀ b ps Γ S ss, Fg T.quiet Γ S ps ss = true → ∀ z, F8 (C.withZ z) T.quiet n b Γ S ss (Ai strF cf C.sc b ps))
include hqq
mutual
theorem stD (b : Nat) : ∀ (ps : PS) (Γ : List Str) (S : Scope) (st : Stmt), A9u T Γ S ps st = true → ∀ z, SOk (C.withZ z) T n b Γ S st (Fy strF cf C.sc b ps)
  | .assign i e, Γ, S, st, h, z => by
    refine bC fun hno => ?_
    obtain ⟨x, hx, h⟩ := Af h
    obtain ⟨t, ht, h⟩ := Af h
    obtain ⟨v, hv, h⟩ := Af h
    obtain ⟨h1, h⟩ := A9 h
    obtain ⟨h2, h⟩ := A9 h
    obtain ⟨h3, h4⟩ := A9 h
    refine hno ?_
    rw [R9 hx, C4 ht, Bu hv]
    exact A5s hok hcf hfn b (Ba h1) h2 h3 h4 z
  | .assigns is e, Γ, S, st, h, z => by
    refine bC fun hno => ?_
    obtain ⟨hq, h⟩ := A9 h
    have hq := Dq hq
    obtain ⟨x, hx, h⟩ := Af h
    obtain ⟨t, ht, h⟩ := Af h
    obtain ⟨ts, hts, h⟩ := Af h
    obtain ⟨h1, h⟩ := A9 h
    obtain ⟨h2, h⟩ := A9 h
    obtain ⟨h3, h4⟩ := A9 h
    refine hno ?_
    rw [R9 hx, C4 ht, M2 hts]
    exact .assignT hq h2 h1 (evD hok hcf hfn b e Γ S _ h4 z) fun ρ H => rfl
  | .setIdx x i e, Γ, S, st, h, z => by
    refine bC fun hno => ?_
    obtain ⟨y, hy, h⟩ := Af h
    obtain ⟨t, ht, h⟩ := Af h
    obtain ⟨w, hw, h⟩ := Af h
    obtain ⟨h1, h⟩ := A9 h
    obtain ⟨h2, h3⟩ := A9 h
    refine hno ?_
    rw [R9 hy, C4 ht, R0 hw]
    exact .setIdx (evD hok hcf hfn b e Γ S _ h3 z) (evD hok hcf hfn b x Γ S _ h1 z) (evD hok hcf hfn b i Γ S _ h2 z) fun ρ H => rfl
  | .ite c t e, Γ, S, st, h, z => by
    refine bC fun hno => ?_
    obtain ⟨x, hx, h⟩ := Af h
    obtain ⟨h1, h⟩ := A9 h
    obtain ⟨h2, h3⟩ := A9 h
    refine hno ?_
    rw [A7v hx]
    exact .ite (trD hok hcf hfn b c Γ S _ h1 z) (ssD b t Γ S _ h2 z) (ssD b e Γ S _ h3 z) fun ρ H => rfl
  | .for1 i it body, Γ, S, st, h, z => by
    refine bC fun hno => ?_
    obtain ⟨hq, h⟩ := A9 h
    have hq := Dq hq
    obtain ⟨x, hx, h⟩ := Af h
    obtain ⟨v, hv, h⟩ := Af h
    obtain ⟨h0, h⟩ := A9 h
    obtain ⟨h1, h⟩ := A9 h
    obtain ⟨h2, h⟩ := A9 h
    obtain ⟨h3, h⟩ := A9 h
    obtain ⟨h4, h⟩ := A9 h
    obtain ⟨h5, h6⟩ := A9 h
    refine hno ?_
    rw [Xi hx, Bu hv, D0 h0]
    exact .for1 (Ba h1) h2 h4 (by have := itD (strF := strF) hok hcf hfn b hq it Γ S _ h5 z; rwa [h3] at this) (fun z' => ssD b body Γ S _ h6 z') fun ρ H => rfl
  | .for2 i j it body, Γ, S, st, h, z => by
    refine bC fun hno => ?_
    obtain ⟨hq, h⟩ := A9 h
    have hq := Dq hq
    obtain ⟨x, hx, h⟩ := Af h
    obtain ⟨ts, hts, h⟩ := Af h
    obtain ⟨t, ht, h⟩ := Af h
    obtain ⟨v, hv, h⟩ := Af h
    obtain ⟨w, hw, h⟩ := Af h
    obtain ⟨h0, h⟩ := A9 h
    obtain ⟨h1, h⟩ := A9 h
    obtain ⟨h2, h⟩ := A9 h
    obtain ⟨h3, h⟩ := A9 h
    obtain ⟨h4, h⟩ := A9 h
    obtain ⟨h5, h⟩ := A9 h
    obtain ⟨h6, h7⟩ := A9 h
    refine hno ?_
    rw [Xi hx, M2 hts, Gq ht, Bu hv, Bu hw, D0 h0]
    exact .for2 hq (Ba h1) h2 (Ba h3) h4 h5 (itD (strF := strF) hok hcf hfn b hq it Γ S _ h6 z) (fun z' => ssD b body Γ S _ h7 z') fun ρ H => rfl
  | .whl c body, Γ, S, st, h, z => by
    refine bC fun hno => ?_
    obtain ⟨x, hx, h⟩ := Af h
    obtain ⟨h0, h⟩ := A9 h
    obtain ⟨h1, h2⟩ := A9 h
    refine hno ?_
    rw [A8a hx, D0 h0]
    exact .whl (trD hok hcf hfn b c Γ S _ h1 z) (ssD b body Γ S _ h2 z) fun ρ H => rfl
  | .ret e, Γ, S, st, h, z => by
    refine bC fun hno => ?_
    obtain ⟨x, hx, h⟩ := Af h
    obtain ⟨v, hv, h⟩ := Af h
    refine hno ?_
    rw [A4n hx, hv]
    exact .ret (evD hok hcf hfn b e Γ S _ h z) (fun hr => xD hok hcf hfn b e Γ S _ h hr z) fun ρ H => rfl
  | .expr e, Γ, S, st, h, z => by
    refine bC fun hno => ?_
    obtain ⟨x, hx, h⟩ := Af h
    obtain ⟨h1, h2⟩ := A9 h
    refine hno ?_
    rw [A03 hx]
    exact .expr h1 (evD hok hcf hfn b e Γ S _ h2 z) (fun hr => xD hok hcf hfn b e Γ S _ h2 hr z) fun ρ H => rfl
  | .raise c m, Γ, S, st, h, z => by
    refine bC fun hno => ?_
    obtain ⟨hq, h⟩ := A9 h
    have hq := Dq hq
    obtain ⟨x, hx, h⟩ := Af h
    obtain ⟨h0, h⟩ := A9 h
    obtain ⟨v, hv, h⟩ := Af h
    obtain ⟨f, np, args, pos, hvv, hk⟩ := Cf h
    clear h
    have h := hk
    obtain ⟨y, hy, h⟩ := Af h
    obtain ⟨w, hw, h⟩ := Af h
    obtain ⟨u, hu, h⟩ := Af h
    obtain ⟨h1, h⟩ := A9 h
    obtain ⟨h2, h3⟩ := A9 h
    refine hno ?_
    rw [Yg hx, Option.isNone_iff_eq_none.mp h0, hv, hvv, C4 hy, Ir hw, A5g hu]
    exact .raise hq (Ba h1) h2 fun ρ H => rfl
  | .tryExpr e c i hh, Γ, S, st, h, z => by
    refine bC fun hno => ?_
    obtain ⟨hq, h⟩ := A9 h
    have hq := Dq hq
    obtain ⟨x, hx, h⟩ := Af h
    obtain ⟨h0, h⟩ := A9 h
    obtain ⟨h0', h⟩ := A9 h
    obtain ⟨st1, hst, h⟩ := Af h
    obtain ⟨v, hv, h⟩ := Af h
    obtain ⟨hd, hhd, h⟩ := Af h
    obtain ⟨h4, h⟩ := A9 h
    obtain ⟨h1, h⟩ := A9 h
    obtain ⟨h2, h3⟩ := A9 h
    refine hno ?_
    rw [A5h hx, D0 h0, D0 h0', C4 hst, C4 hhd, A03 hv]
    exact .tryExpr (A4t hok hcf hfn h2) h4 (evD hok hcf hfn b e Γ S _ h1 z) (fun hr => xD hok hcf hfn b e Γ S _ h1 hr z) (hqq hq b hh Γ S _ h3 z) fun ρ H => rfl
theorem ssD (b : Nat) : ∀ (ps : PSs) (Γ : List Str) (S : Scope) (ss : List Stmt), Fg T Γ S ps ss = true → ∀ z, F8 (C.withZ z) T n b Γ S ss (Ai strF cf C.sc b ps)
  | .nil, Γ, S, ss, h, z => by cases D0 h; exact .nilS fun ρ H => rfl
  | .any, Γ, S, ss, h, z => .badS fun ρ H => rfl
  | .cons s ss, Γ, S, [], h, z => by cases h
  | .cons s ss, Γ, S, st :: r, h, z => by
    obtain ⟨h1, h2⟩ := A9 h
    exact .consS (stD b s Γ S _ h1 z) (ssD b ss Γ S _ h2 z) fun ρ H => rfl
end
end
section
variable {C : Cx} {T : Tab} {strF : Bi}
theorem Y7 (hsf : Jp strF) (hok : T.q = false → ∀ k, T.okc k = true) (hd : ∀ k f, T.defs.lookup k = some f → ∃ x, T.fns.lookup k = some x)
    (hqq : T.q = false → ∀ n b ps Γ S ss, Fg T.quiet Γ S ps ss = true → ∀ z, F8 (C.withZ z) T.quiet n b Γ S ss (Ai strF (Ah strF (fun k => T.defs.lookup k) C.sc n) C.sc b ps)) :
    ∀ n, (∀ z, Df (C.withZ z) T n (Ah strF (fun k => T.defs.lookup k) C.sc n)) ∧ ∀ z, Za (C.withZ z) T n strF (Ah strF (fun k => T.defs.lookup k) C.sc n) := by
  have hfn : ∀ n k, ∃ x, T.fns.lookup k = some x ∨ ∀ vs H, Ah strF (fun k => T.defs.lookup k) C.sc n k vs H = .bad := by
    intro n k
    cases e : T.defs.lookup k with
    | none =>
      refine ⟨"", .inr fun vs H => ?_⟩
      cases n with
      | zero => rfl
      | succ n => unfold Ah; simp only [e]
    | some f => obtain ⟨x, hx⟩ := hd k f e; exact ⟨x, .inl hx⟩
  intro n
  induction n with
  | zero =>
    have h : ∀ z, Df (C.withZ z) T 0 (Ah strF (fun k => T.defs.lookup k) C.sc 0) := fun z => Df.zero (C := C.withZ z)
    exact ⟨h, fun z => ⟨fun b {ps Γ S body} hb => ssD hok h ⟨hfn 0, hsf⟩ (fun q => hqq q 0) b _ _ _ _ hb z⟩⟩
  | succ n ih =>
    have h : ∀ z, Df (C.withZ z) T (n + 1) (Ah strF (fun k => T.defs.lookup k) C.sc (n + 1)) := fun z => Df.step (C := C.withZ z) (ih.2 z)
    exact ⟨h, fun z => ⟨fun b {ps Γ S body} hb => ssD hok h ⟨hfn (n + 1), hsf⟩ (fun q => hqq q (n + 1)) b _ _ _ _ hb z⟩⟩
theorem Abe (hsf : Jp strF) (hok : T.q = false → ∀ k, T.okc k = true) (hd : ∀ k f, T.defs.lookup k = some f → ∃ x, T.fns.lookup k = some x) :
    ∀ n, (∀ z, Df (C.withZ z) T n (Ah strF (fun k => T.defs.lookup k) C.sc n)) ∧ ∀ z, Za (C.withZ z) T n strF (Ah strF (fun k => T.defs.lookup k) C.sc n) :=
  Y7 hsf hok hd fun _ n b ps Γ S ss h z => ((Y7 (T := T.quiet) (C := C) (strF := strF) hsf (fun q => by cases q) hd (fun q => by cases q) n).2 z).any b h
end
end Mine
namespace Mine
open PySem PySem.W PySem.Calls PyProof.Rows PySem.SeqAt
noncomputable def A0e (p : Program) (x : Str) (i : Int) : Bool := match valOf p x with
  | some (.int j) => i == j
  | _ => false
noncomputable def A8e (p : Program) (loose : List Str) (x : Str) : Bool := !(startupNames.contains x) && (!(loose.contains x) && (!(((recsOf p).map (·.name)).contains x) && (!(((litsOf p).map (·.1)).contains x) && !(((clssOf p loose).map (·.name)).contains x))))
noncomputable def Tm (p : Program) (T : Tab) (q : Nat × FnI) : Bool := match T.fns.lookup q.1 with
  | some x => (recsOf p).any fun d => d.name == x && Wr T q.2 d.params d.body d.scope
  | none => false
noncomputable def Y4 (p : Program) (loose : List Str) (T : Tab) : Bool :=
  T.fns.all (fun q => (recsOf p).any fun d => d.name == q.2) && (T.defs.all (Tm p T) && (T.gints.all (fun q => A0e p q.2.1 q.2.2) && ((T.defs.all fun q => !T.qs.contains q.1 || Tm p T.quiet q) && Cr.all fun q => A8e p loose q.1)))
theorem C8 {α : Type} : ∀ {l : List (Nat × α)} {n : Nat} {c : α}, l.lookup n = some c → (n, c) ∈ l
  | (k, v) :: r, n, c, h => by
    rw [List.lookup_cons] at h
    cases hb : n == k with
    | true => rw [hb] at h; cases h; rw [beq_iff_eq.mp hb]; exact List.mem_cons_self
    | false => rw [hb] at h; exact List.mem_cons_of_mem _ (C8 h)
theorem A6c : ∀ p ∈ Cr, bootBuiltins p.1 = some p.2 ∧ p.1 ≠ "__name__" := by
  intro p hp
  simp only [Cr, List.mem_cons, List.not_mem_nil, or_false] at hp
  rcases hp with rfl | rfl | rfl | rfl | rfl | rfl | rfl | rfl | rfl | rfl | rfl | rfl | rfl | rfl | rfl | rfl <;> exact ⟨by rfl, by decide⟩
noncomputable def Ja (prog : Program) (w : World) (sa : Addr) (sc : List Int) (T : Tab) (os : OsState) (mg mb : Str → Option Value) : Cx :=
  { prog, w, sa, sc, os, mg, mb, z := fun _ => False, fa := fun k => (match T.fns.lookup k with | some x => (match mg x with | some (.ref a) => a | _ => 0) | none => 0), ea := fun k => (match T.excs.lookup k with | some x => (mg x).getD .none | none => .none), eo := fun k => ∃ x, T.excs.lookup k = some x }
theorem Ob {x : Str} {l : List Str} (h : (!(l.contains x)) = true) : x ∉ l := fun m => by
  have := List.contains_iff_mem.mpr m
  rw [Dq h] at this; cases this
theorem A8m {prog : Program} {w : World} {sa : Addr} {sc : List Int} {T : Tab} {os : OsState} {mean : ExcName → Option Value} {mg mb : Str → Option Value} {h : Heap} {p : Program} {loose : List Str} {svs : List Value} (TR : Top p loose mean mg mb h) (hK : Y4 p loose T = true)
    (hL : h.IsList sa svs.toArray) (hI : IntsAre svs sc) (hlen : sc.length ≤ lim) (hTq : T.q = false) (hok : ∀ k, T.okc k = true) (exg : Tb (Ja prog w sa sc T os mg mb) T h) : Gnd (Ja prog w sa sc T os mg mb) T ⟨h, h, [], false, fun _ _ e => e⟩ := by
  refine bC fun hno => ?_
  obtain ⟨h1, hK⟩ := A9 hK
  obtain ⟨h2, hK⟩ := A9 hK
  obtain ⟨h3, hK⟩ := A9 hK
  obtain ⟨h4, h5⟩ := A9 hK
  have hrec : ∀ {d : DefRec}, d ∈ recsOf p → ∀ {k : Nat}, T.fns.lookup k = some d.name → ∃ o pm code doc, mg d.name = some (.ref ((Ja prog w sa sc T os mg mb).fa k)) ∧ h.get? ((Ja prog w sa sc T os mg mb).fa k) = some o ∧ o.data = .func (docDef d.name d.params d.body d.scope pm code doc) ∧ h.CodeRec code d.name := by
    intro d hd k e
    obtain ⟨a, o, pm, code, doc, q1, q2, q3, q4⟩ := TR.fn d hd
    have : (Ja prog w sa sc T os mg mb).fa k = a := by simp only [Ja, e, q1]
    rw [this]
    exact ⟨o, pm, code, doc, q1, q2, q3, q4⟩
  have hdef : ∀ {T' : Tab} {k : Nat} {f : FnI}, Tm p T' (k, f) = true → T'.fns = T.fns → A54 T' h ((Ja prog w sa sc T os mg mb).fa k) f := by
    intro T' k f q ef
    unfold Tm at q
    rw [ef] at q
    cases ex : T.fns.lookup k with
    | none => simp only [ex] at q; cases q
    | some x =>
      simp only [ex] at q
      obtain ⟨d, hd, q⟩ := List.any_eq_true.mp q
      obtain ⟨e1, e2⟩ := A9 q
      cases Ba e1
      obtain ⟨o, pm, code, doc, q1, q2, q3, q4⟩ := hrec hd ex
      exact ⟨o, _, d.body, q2, q3, rfl, rfl, rfl, rfl, rfl, q4, e2⟩
  refine hno ?_
  refine ⟨hTq.symm, fun _ => hok, ⟨⟨svs, hL, hI, hlen⟩⟩, TR.g, TR.b, ?_, ?_, ?_, exg, TR.nolimit, ?_, ?_⟩
  · intro x v e
    have hm := mem_of_lookup e
    obtain ⟨b1, b2⟩ := A6c _ hm
    refine ⟨?_, (TR.builtins x b2).trans b1⟩
    have q := List.all_eq_true.mp h5 _ hm
    obtain ⟨q1, q⟩ := A9 q
    obtain ⟨q2, q⟩ := A9 q
    obtain ⟨q3, q⟩ := A9 q
    obtain ⟨q4, q5⟩ := A9 q
    exact TR.free x (Ob q1) (Ob q2) (Ob q3) (Ob q4) (Ob q5)
  · intro k x e
    obtain ⟨d, hd, q⟩ := List.any_eq_true.mp (List.all_eq_true.mp h1 _ (C8 e))
    cases Ba q
    refine bC fun hno => ?_
    obtain ⟨o, pm, code, doc, q1, q2, q3, q4⟩ := hrec hd e
    refine hno ?_
    exact ⟨q1, o, _, q2, q3⟩
  · intro k x i e
    have q := List.all_eq_true.mp h3 _ (C8 e)
    unfold A0e at q
    split at q
    · rename_i j ej
      refine bC fun hno => ?_
      obtain ⟨v, q1, q2⟩ := TR.const x _ ej
      have := q2 h
      cases this
      have e' : i = j := Ba q
      refine hno ?_
      rw [e']
      exact ⟨_, q1⟩
    · cases q
  · intro k f e _
    exact hdef (List.all_eq_true.mp h2 _ (C8 e)) rfl
  · intro k f e hq
    have q := List.all_eq_true.mp h4 _ (C8 e)
    simp only [hq, Bool.not_true, Bool.false_or] at q
    exact hdef (T' := T.quiet) q rfl
theorem A0t {p : Program} {loose : List Str} {T : Tab} (hK : Y4 p loose T = true) : ∀ k f, T.defs.lookup k = some f → ∃ x, T.fns.lookup k = some x := by
  refine bC fun hno => ?_
  obtain ⟨_, hK⟩ := A9 hK
  obtain ⟨h2, _⟩ := A9 hK
  refine hno ?_
  intro k f e
  have q := List.all_eq_true.mp h2 _ (C8 e)
  unfold Tm at q
  cases ex : T.fns.lookup k with
  | none => simp only [ex] at q; cases q
  | some x => exact ⟨x, rfl⟩
theorem A2g {prog : Program} {w : World} {sa fa : Addr} {sc : List Int} {T : Tab} {mean' : ExcName → Option Value} {mg mb : Str → Option Value} {s : Shared} {p : Program} {loose : List Str} {svs : List Value} {strF : Bi} {N klaw : Nat} {x : Str} {H' : A0} {A : Around}
    {c : ClaimW} {cl : Str → Option Addr} {mean : ExcName → Option Value} {args : List WData}
    (hsf : Jp strF) (TR : Top p loose mean' mg mb s.heap) (hK : Y4 p loose T = true) (hL : s.heap.IsList sa svs.toArray) (hI : IntsAre svs sc) (hlen : sc.length ≤ 63) (hg : s.gens = #[]) (hTq : T.q = false) (hok : ∀ k, T.okc k = true) (exg : Tb (Ja prog w sa sc T s.os mg mb) T s.heap) (a : AOk ⟨s.heap, s.heap, [], false, fun _ _ e => e⟩ A (N + 1)) (hx : T.fns.lookup klaw = some x) (hmg : mg x = some (.ref fa))
    (ev : Ah strF (fun k => T.defs.lookup k) sc (N + 1) klaw [.scr] [] = .ok (.bool true) H') (hn : ∀ cls, c.raises args cls = false) (hp : c.post args (.bool true) args = true) :
    wpAny (model prog w) A (call (.ref fa) [.ref sa] []) (fun v s' => GoodW c cl mean args s (.ok (.ret v)) s') (fun e s' => GoodW c cl mean args s (.error e) s') s := by
  have G := A8m (prog := prog) (w := w) (os := s.os) TR hK hL hI (Nat.le_trans hlen (by decide)) hTq hok exg
  have hfa : fa = (Ja prog w sa sc T s.os mg mb).fa klaw := by
    have := (G.fn hx).1
    have hmg' : (Ja prog w sa sc T s.os mg mb).mg x = some (.ref fa) := hmg
    rw [hmg'] at this
    cases this; rfl
  rw [hfa]
  have B := (Abe (C := Ja prog w sa sc T s.os mg mb) (T := T) (strF := strF) hsf (fun _ => hok) (A0t hK) N).2 (fun _ => False)
  refine To (C := Ja prog w sa sc T s.os mg mb) (base := ⟨s.heap, s.heap, [], false, fun _ _ e => e⟩) (μ := []) (H := []) B (hok _) rfl G ⟨rfl, .nil, fun e => by simp at e, fun e => by simp at e⟩ hg rfl (fun z => z.elim) trivial a (.cons .scr .nil) ?_
  rw [show Ah strF (fun k => T.defs.lookup k) (Ja prog w sa sc T s.os mg mb).sc (N + 1) klaw [.scr] [] = .ok (.bool true) H' from ev]
  intro u s' μ' R V
  cases V
  refine ⟨.inl ⟨.bool true, _, [], rfl, hn, .bool true, hp, fun _ => ⟨.nil, by simp⟩⟩, fun b o e => ?_, R.os, R.gens⟩
  cases R.kp b o e with
  | same e' => exact e'
  | slot hz _ _ _ => rw [e] at hz; cases hz
end Mine
namespace Mine
open PySem PySem.W PySem.Calls PyProof.Rows PySem.SeqAt
noncomputable def A7z (h : Heap) (name : Str) : Bool := match h.clsAt mainGlobals name with
  | some (_, _, cd) => (h.nsMap cd.ns "__class__").isNone
  | none => false
noncomputable def Id (l : List (Nat × Str)) (k : Nat) : List Str := if k = 0 then [] else (match l.lookup 0 with | some x => [x] | none => [])
noncomputable def A2e (h : Heap) : Bool := (h.get? sysModules).isSome
theorem A8f {h : Heap} (e : A2e h = true) : SmF h := let ⟨o, ho⟩ := Option.isSome_iff_exists.mp e; ⟨o, ho⟩
noncomputable def Xn (l : List (Nat × Str)) (h : Heap) : Bool :=
  ((l.lookup 0).isSome && (h.isNs mainGlobals && A2e h)) && (l.all (fun p => h.ownExcOk p.2 (Id l p.1) [.type "ValueError", .type "Exception", .type "BaseException", .type "object"] "ValueError.__new__" && (h.quietOk p.2 && A7z h p.2)) &&
    l.all fun p => l.all fun q => p.1 == q.1 || !(h.nsMap mainGlobals p.2 == h.nsMap mainGlobals q.2))
noncomputable def Ab8 (l : List (Nat × Str)) (m : Str → Option Value) (k : Nat) : Value := match l.lookup k with | some x => (m x).getD .none | none => .none
structure Jy (l : List (Nat × Str)) (m : Str → Option Value) (h : Heap) : Prop where
  cls : ∀ {k : Nat} {x : Str}, l.lookup k = some x → ∃ Ck tl, m x = some (.ref Ck) ∧ Sb h Ck tl ∧ E7 h tl ∧ tl = (if k = 0 then Ei else Ab8 l m 0 :: Ei)
  inj : ∀ {k j : Nat} {x y : Str}, l.lookup k = some x → l.lookup j = some y → m x = m y → k = j
  sm : SmF h
theorem A5r {h : Heap} {name : Str} {chain : List Str} (x : h.ownExcOk name chain Ei "ValueError.__new__" = true) (y : h.quietOk name = true) (z : A7z h name = true) :
    ∃ C, h.nsMap mainGlobals name = some (.ref C) ∧ Sb h C ((chain.map fun n => (h.nsMap mainGlobals n).getD .none) ++ Ei) := by
  refine bC fun hno => ?_
  obtain ⟨C, N, nm, q, bs, hdct, sn, sub, ab, col, dd, k0, k1, k2, k3, k5, hb, hC, hN, hq⟩ := Heap.ownExcQ_of_ok x y
  refine hno ?_
  refine ⟨C, hb, N, nm, q, bs, hdct, sn, sub, ab, col, dd, k0, k1, k2, k3, k5, _, hC, hN, hq, ?_⟩
  unfold A7z at z
  cases hf : h.clsAt mainGlobals name with
  | none => rw [hf] at z; cases z
  | some w =>
    refine bC fun hno => ?_
    obtain ⟨C', o', cd'⟩ := w
    rw [hf] at z
    obtain ⟨hn', ho', hd'⟩ := Heap.clsAt_spec hf
    rw [hb] at hn'
    obtain rfl : C = C' := by injection hn' with q1; injection q1
    rw [hC] at ho'
    obtain rfl := Option.some.inj ho'
    obtain rfl : _ = cd' := by injection hd'
    refine hno ?_
    exact Option.isNone_iff_eq_none.mp z
theorem Vr {l : List (Nat × Str)} {h : Heap} (e : Xn l h = true) : ∃ m, h.Ns mainGlobals m ∧ Jy l m h := by
  refine bC fun hno => ?_
  obtain ⟨e1, e⟩ := A9 e
  obtain ⟨e0, e1⟩ := A9 e1
  obtain ⟨e1, es⟩ := A9 e1
  obtain ⟨x0, e0⟩ := Option.isSome_iff_exists.mp e0
  obtain ⟨e2, e3⟩ := A9 e
  refine hno ?_
  refine ⟨h.nsMap mainGlobals, .of_isNs e1, ?_⟩
  have one : ∀ {k : Nat} {x : Str}, l.lookup k = some x → ∃ C, h.nsMap mainGlobals x = some (.ref C) ∧ Sb h C (((Id l k).map fun n => (h.nsMap mainGlobals n).getD .none) ++ Ei) := fun {k x} q => by
    obtain ⟨q1, q2⟩ := A9 (List.all_eq_true.mp e2 _ (C8 q))
    obtain ⟨q2, q3⟩ := A9 q2
    exact A5r q1 q2 q3
  refine ⟨fun {k x} q => ?_, fun {k j x y} q r s => ?_, A8f es⟩
  · refine bC fun hno => ?_
    obtain ⟨C, em, X⟩ := one q
    refine hno ?_
    refine ⟨C, _, em, X, ?_, ?_⟩
    · by_cases hk : k = 0
      · unfold Id; rw [if_pos hk]; exact .base
      · unfold Id
        rw [if_neg hk, e0]
        refine bC fun hno => ?_
        obtain ⟨C0, em0, X0⟩ := one e0
        unfold Id at X0
        rw [if_pos rfl] at X0
        refine hno ?_
        refine .own X0 ?_
        show [(h.nsMap mainGlobals x0).getD .none] ++ Ei = _
        rw [em0]; rfl
    · unfold Id Ab8
      by_cases hk : k = 0
      · rw [if_pos hk, if_pos hk]; rfl
      · rw [if_neg hk, if_neg hk, e0]; rfl
  · have q1 := List.all_eq_true.mp (List.all_eq_true.mp e3 _ (C8 q)) _ (C8 r)
    rcases Bool.or_eq_true_iff.mp q1 with q2 | q2
    · exact Ba q2
    · have := Dq q2
      rw [show (h.nsMap mainGlobals (k, x).2 == h.nsMap mainGlobals (j, y).2) = true from beq_iff_eq.mpr s] at this
      cases this
theorem Jy.keeps {l : List (Nat × Str)} {m : Str → Option Value} {h h' : Heap} (x : Jy l m h) (k : ∀ b o, h.get? b = some o → h'.get? b = some o) : Jy l m h' :=
  ⟨fun q => let ⟨C, tl, e1, e2, e3, e4⟩ := x.cls q; ⟨C, tl, e1, e2.keeps k, e3.keeps k, e4⟩, x.inj, let ⟨o, h1⟩ := x.sm; ⟨o, k _ _ h1⟩⟩
noncomputable def Fe (l : List (Nat × Str)) : Hook :=
  ⟨Bool, fun s => Xn l s.heap, fun _ => true, fun _ h => ∃ m, h.Ns mainGlobals m ∧ Jy l m h, fun _ _ e => Vr e, fun _ _ _ x k => let ⟨m, n, y⟩ := x; ⟨m, n.keeps k, y.keeps k⟩⟩
theorem A89 {prog : Program} {w w' : World} {sa : Addr} {sc : List Int} {T : Tab} {os : OsState} {mg mb : Str → Option Value} {h : Heap} (g : h.Ns mainGlobals mg) (Y : (Fe T.excs).says w' h) (h0 : ∃ y, T.excs.lookup 0 = some y) : Tb (Ja prog w sa sc T os mg mb) T h := by
  refine bC fun hno => ?_
  obtain ⟨m, n, y⟩ := Y
  refine hno ?_
  cases A29 n g
  have ea : ∀ {k : Nat} {x : Str} {Ck : Addr}, T.excs.lookup k = some x → mg x = some (.ref Ck) → (Ja prog w sa sc T os mg mb).ea k = .ref Ck := fun {k x Ck} e1 e2 => by
    show (match T.excs.lookup k with | some x => (mg x).getD .none | none => .none) = _
    rw [e1]; show (mg x).getD .none = _; rw [e2]; rfl
  refine ⟨fun {k x} e => ?_, fun {k j x z} e1 e2 e3 => ?_, fun _ => h0, Iff.rfl, y.sm⟩
  · refine bC fun hno => ?_
    obtain ⟨C, tl, e1, e2, e3, e4⟩ := y.cls e
    refine hno ?_
    exact ⟨C, tl, e1, ea e e1, e2, e3, e4⟩
  · refine bC fun hno => ?_
    obtain ⟨C, _, q1, _⟩ := y.cls e1
    obtain ⟨C', _, q2, _⟩ := y.cls e2
    rw [ea e1 q1, ea e2 q2] at e3
    refine hno ?_
    exact y.inj e1 e2 (by rw [q1, q2, e3])
end Mine
namespace Mine
open PySem
noncomputable def tab : Tab := { fns := [(0, Str.ofString "is_among"), (1, Str.ofString "need_net"), (2, Str.ofString "labels_of"), (14, Str.ofString "left_out"), (16, Str.ofString "place_behind"), (17, Str.ofString "drawn"), (19, Str.ofString "first_row_for"), (20, Str.ofString "worth_of"), (21, Str.ofString "table_by"), (23, Str.ofString "tally_of"), (24, Str.ofString "tally"), (25, Str.ofString "is_hanging_of"), (27, Str.ofString "grown"), (28, Str.ofString "all_hangings"), (29, Str.ofString "tally_with"), (30, Str.ofString "hanging_of"), (31, Str.ofString "number_of"), (32, Str.ofString "share_of"), (33, Str.ofString "standing"), (5, Str.ofString "_law_cell_at"), (6, Str.ofString "_law_mixed"), (7, Str.ofString "_law_tree"), (8, Str.ofString "_law_net"), (9, Str.ofString "_law_whole"), (10, Str.ofString "_law_reached"), (54, Str.ofString "_law_is_hanging"), (85, Str.ofString "_law_good"), (86, Str.ofString "_law_all_good"), (87, Str.ofString "_law_shares_good"), (88, Str.ofString "_law_numbers_good"), (89, Str.ofString "law")], excs := [(0, Str.ofString "NetError"), (1, Str.ofString "BadNet"), (4, Str.ofString "BadHanging"), (5, Str.ofString "BadNumber"), (6, Str.ofString "TooMany")], gints := [(0, Str.ofString "MOST_PLACES", 7), (1, Str.ofString "MOST_TIES", 16)], defs := [(0, Ue), (1, A2v), (2, Vx), (5, P9), (6, Qn), (7, A58), (8, A5l), (9, A34), (10, Sw), (14, Pi), (16, Pr), (17, Ta), (19, La), (20, Mr), (21, Os), (23, Ul), (24, A3y), (25, Wn), (27, A07), (28, A76), (29, A2q), (30, A15), (31, A2m), (32, A0l), (33, A0d), (54, Wi), (85, A0u), (86, A7f), (87, A7a), (88, A7m), (89, A6s)], qs := [] }
noncomputable abbrev P (k : Nat) : Option FnI := tab.defs.lookup k
end Mine
noncomputable def Mine.vw : PySem.Program := PySem.W.view PySem.Challenge.pw_uf040038_15 [1, 2, 3, 4, 5, 7, 8, 9, 10, 11, 12, 13, 14, 16, 17, 19, 20, 21, 23, 24, 25, 27, 28, 29, 31, 32, 34, 35, 36, 37, 38, 39, 40, 41, 42, 43, 44, 45]
open PySem PySem.W PyProof.Rows
set_option maxHeartbeats 8000000
theorem Mine.said0 : PySem.Challenge.rw_uf040038_15.wellSaid = true := by kernel_rfl
theorem Mine.left0 : LeftO PySem.Challenge.pw_uf040038_15 Mine.vw [] (fun s => xlAt Mine.vw [] s && recOk (RowW.records (OpenRow.toRowW PySem.Challenge.rw_uf040038_15.row)) s) (Hook.obs (Mine.Fe [(0, Str.ofString "NetError"), (1, Str.ofString "BadNet"), (4, Str.ofString "BadHanging"), (5, Str.ofString "BadNumber"), (6, Str.ofString "TooMany")])) (Hook.val (Mine.Fe [(0, Str.ofString "NetError"), (1, Str.ofString "BadNet"), (4, Str.ofString "BadHanging"), (5, Str.ofString "BadNumber"), (6, Str.ofString "TooMany")])) 6000 := by
  intro w; kernel_rfl
theorem Mine.row0 : Mine.Y4 Mine.vw [] Mine.tab = true := by kernel_rfl
set_option maxHeartbeats 8000000 in
theorem PySem.Challenge.cw_uf040038_15_holds : PySem.Challenge.rw_uf040038_15.Holds := by
  w_on
  refine holds_law Mine.said0 fun said => ?_
  refine holds_open (q := Mine.vw) (loose := []) (Xt := fun s => xlAt Mine.vw [] s && recOk (RowW.records (OpenRow.toRowW PySem.Challenge.rw_uf040038_15.row)) s) (XP := XL Mine.vw []) (Yf := Hook.obs (Mine.Fe [(0, Str.ofString "NetError"), (1, Str.ofString "BadNet"), (4, Str.ofString "BadHanging"), (5, Str.ofString "BadNumber"), (6, Str.ofString "TooMany")])) (Ya := Hook.val (Mine.Fe [(0, Str.ofString "NetError"), (1, Str.ofString "BadNet"), (4, Str.ofString "BadHanging"), (5, Str.ofString "BadNumber"), (6, Str.ofString "TooMany")])) (YP := Hook.says (Mine.Fe [(0, Str.ofString "NetError"), (1, Str.ofString "BadNet"), (4, Str.ofString "BadHanging"), (5, Str.ofString "BadNumber"), (6, Str.ofString "TooMany")])) (N := 6000) Mine.left0 (Hook.of (Mine.Fe [(0, Str.ofString "NetError"), (1, Str.ofString "BadNet"), (4, Str.ofString "BadHanging"), (5, Str.ofString "BadNumber"), (6, Str.ofString "TooMany")])) (Hook.keeps (Mine.Fe [(0, Str.ofString "NetError"), (1, Str.ofString "BadNet"), (4, Str.ofString "BadHanging"), (5, Str.ofString "BadNumber"), (6, Str.ofString "TooMany")])) (fun s e => xl_of s (Bool.and_eq_true_iff.mp e).1) XL.keeps (by rfl) (by rfl) (by rfl) (fun s e => recFacts_of (Bool.and_eq_true_iff.mp e).2) (by rfl) said (by decide +kernel) ⟨rfl, rfl, rfl, rfl, rfl, by decide +kernel⟩ ?hw ?hc
  case hw => w_witness2
  intro w s₀ s₁ mg mb G Y fa o pm cd doc dV kV ho hd hcd hD hmg hg args vals as hpre hlay hrd hwl hlo
  have TR := G.T
  wrow_args hpre hlay hrd hwl hlo
  rename_i sc hs hlay0 hL1 hr1 hl2 a4 a3 sa svs a0 hL ra w1 r0 hI hr hc hc2
  obtain ⟨v, H', ev, hv⟩ := Mine.Res.sat_ex (Mine.A9o (strF := fun _ => none) (sc := sc) (P := Mine.P) (m := 34) ⟨⟨⟨rfl, rfl, rfl, rfl, rfl, rfl, rfl, rfl, rfl⟩, rfl, rfl, rfl, rfl, rfl⟩, rfl, rfl, rfl, rfl, rfl, rfl, rfl, rfl, rfl, rfl, rfl, rfl, rfl, rfl, rfl, rfl, rfl⟩)
  subst hv
  exact wpAny_mono (Mine.A2g trivial (T := Mine.tab) (x := Str.ofString "law") TR Mine.row0 hL hI (by (first | lia | omega)) hg rfl (fun _ => rfl) (Mine.A89 (T := Mine.tab) TR.g Y ⟨_, rfl⟩) ⟨by decide, by decide, fun _ => rfl, rfl, rfl⟩ rfl hmg ev (fun _ => rfl) (by kernel_rfl)) (fun v s' g => GoodW.toG g) (fun e s' g => GoodW.toG g)

