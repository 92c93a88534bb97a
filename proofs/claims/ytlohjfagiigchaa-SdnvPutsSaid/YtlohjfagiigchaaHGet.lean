/- sdnv.Get answers the number that bytes begin with, and how many bytes it has, or why there is none. -/
import Derived.Test.YtlohjfagiigchaaPx0
import Derived.Test.YtlohjfagiigchaaHOwn
import Derived.ScopeJumps
import Derived.WalkMore
namespace Go.Proofs.Ytlohjfagiigchaa.P
open Go.RowKit Go.Proofs.YtlohjfagiigchaaW.PrintWords Go.Proofs.YtlohjfagiigchaaW.PrintLast Go.Proofs.YtlohjfagiigchaaW.PrintMore
set_option linter.unusedVariables false
set_option linter.unusedSimpArgs false
def sdnv_Get.l0 : Nat → List Int → Int → Int → Option (Int × Int × Int)
  | 0, _, _, _ => none
  | k + 1, l, n, at_ => if at_ = (l.length : Int) then some (0, 0, 7) else if n / 144115188075855872 > 0 then some (0, 0, 3) else if 0 ≤ at_ then (if at_ < (l.length : Int) then (if rd l at_ ≥ 128 then sdnv_Get.l0 k l (Go.bits .or .u64 (IntKind.u64.wrap (n * 128)) (IntKind.u64.wrap (Go.bits .andNot .u8 (rd l at_) 128))) (wrap64 (at_ + 1)) else some (Go.bits .or .u64 (IntKind.u64.wrap (n * 128)) (IntKind.u64.wrap (Go.bits .andNot .u8 (rd l at_) 128)), wrap64 (at_ + 1), 0)) else none) else none
def sdnv_Get.f (k : Nat) (l : List Int) : Option (Int × Int × Int) := if 0 < l.length ∧ rd l 0 = 128 then some (0, 0, 180) else sdnv_Get.l0 k l 0 0
theorem sdnv_Get.mono_l : ∀ k l n a, LeO (sdnv_Get.l0 k l n a) (sdnv_Get.l0 (k + 1) l n a)
  | 0, _, _, _ => fun r h => by simp [sdnv_Get.l0] at h
  | k + 1, l, n, a => by
    unfold sdnv_Get.l0
    exact LeO.ite (LeO.refl _) (LeO.ite (LeO.refl _) (LeO.ite (LeO.ite (LeO.ite (sdnv_Get.mono_l k _ _ _) (LeO.refl _)) (LeO.refl _)) (LeO.refl _)))
theorem sdnv_Get.mono : ∀ l k, LeO (sdnv_Get.f k l) (sdnv_Get.f (k + 1) l) := by
  intro l k
  unfold sdnv_Get.f
  exact LeO.ite (LeO.refl _) (sdnv_Get.mono_l _ _ _ _)
/-- What holds at the label. -/
def GetJ (A0 : Option Addr) (c0 : Nat) (l0 : List Int) (r1 r2 r3 : Int) (w : World) (a' : Act) (w' : World) : Prop := w' = w ∧ ∃ (kq : Nat) (n : Int) (m : Nat) (u7 u8 u9 u10 u11 u12 u13 u14 u15 u16 u17 u18 u19 u20 u21 u22 u23 u24 u25 u26 u27 u28 u29 u30 u31 u32 u33 u34 u35 u36 u37 u38 u39 : Value), a' = { tmps := #[.slice A0 l0.length c0, undef, .int .u64 0, .int .i64 0, .int .i64 0, .int .u64 n, .int .i64 (m : Int), u7, u8, u9, u10, u11, u12, u13, u14, u15, u16, u17, u18, u19, u20, u21, u22, u23, u24, u25, u26, u27, u28, u29, u30, u31, u32, u33, u34, u35, u36, u37, u38, u39], defers := [] } ∧ Aside0 (sdnv_Get.l0 kq l0 n (m : Int) = some (r1, r2, r3)) ∧ m ≤ l0.length
def GetM (l0 : List Int) (a' : Act) (w' : World) : Nat := l0.length + 1 - (intOf (a'.tmps.getD 6 undef)).toNat
set_option maxHeartbeats 8000000 in
set_option maxRecDepth 100000 in
theorem sdnv_Get.calls (k : Nat) (A0 : Option Addr) (c0 : Nat) (l0 : List Int) (r1 : Int) (r2 : Int) (r3 : Int) (w : World) (hr0 : Kd.C (Kd.int .u8) w A0 l0.length l0) (hc0 : l0.length ≤ c0) (h : sdnv_Get.f k l0 = some (r1, r2, r3)) :
    Calls Try.prog 12 #[.slice A0 l0.length c0] w fun e w' => e = .returned (.tuple #[.int .u64 r1, .int .i64 r2, .int .i64 r3]) ∧ Drawn0 w w' := by
  unfold sdnv_Get.f at h
  have HR0 := Aside0.mk hr0
  have HC0 := Aside0.mk hc0
  clear hc0
  by_cases c1 : 0 < l0.length ∧ rd l0 0 = 128
  · rw [if_pos c1] at h
    obtain ⟨rfl, rfl, rfl⟩ : r1 = 0 ∧ r2 = 0 ∧ r3 = 180 := by simpa [eq_comm] using h
    obtain ⟨c2, c3⟩ := c1
    obtain ⟨ad, rfl, hcell⟩ := Kd.at_int hr0 0 (by omega) (by omega)
    have hcell0 : w.cell? ad = some (.int .u8 (rd l0 0)) := by simpa [Addr.add] using hcell
    clear hcell
    have c2b : decide (0 < l0.length) = true := decide_eq_true c2
    have c2i : decide ((0 : Int) < (l0.length : Int)) = true := decide_eq_true (by omega)
    have c3b : (rd l0 0 == 128) = true := beq_iff_eq.mpr c3
    have c2p : 0 < l0.length := c2
    clear h c3 c2 hr0
    go_enter Try.func12, Try.ntmps12
    go_wp2
    go_step3
    go_wp2
    try rw [Exit.noGoto_ret]
    go_ret3
    exact ⟨rfl, Drawn0.refl _⟩
  · rw [if_neg c1] at h
    have HH := Aside0.mk h
    have hmax := hr0.2.1
    clear h hr0
    have hfirst : ((decide (0 < l0.length)) = false) ∨ ((decide (0 < l0.length)) = true ∧ (rd l0 0 == 128) = false) := by
      by_cases c2 : 0 < l0.length
      · exact .inr ⟨decide_eq_true c2, beq_eq_false_iff_ne.mpr (fun h => c1 ⟨c2, h⟩)⟩
      · exact .inl (decide_eq_false c2)
    clear c1
    go_enter Try.func12, Try.ntmps12
    go_wp2
    refine wp_scope_once 0 (GetJ A0 c0 l0 r1 r2 r3 w) (GetM l0) rfl ?_ ?_
    · rintro a' w' ⟨rfl, kq, n, m, u7, u8, u9, u10, u11, u12, u13, u14, u15, u16, u17, u18, u19, u20, u21, u22, u23, u24, u25, u26, u27, u28, u29, u30, u31, u32, u33, u34, u35, u36, u37, u38, u39, rfl, HA, hm⟩
      have HF := Aside0.mk hfirst
      clear hfirst HH
      cases kq with
      | zero => exact absurd HA.out (by simp [sdnv_Get.l0])
      | succ kq =>
        have H := HA.out
        clear HA
        simp only [sdnv_Get.l0] at H
        by_cases d1 : (m : Int) = (l0.length : Int)
        · rw [if_pos d1] at H
          obtain ⟨rfl, rfl, rfl⟩ : r1 = 0 ∧ r2 = 0 ∧ r3 = 7 := by simpa [eq_comm] using H
          have d1b : ((m : Int) == (l0.length : Int)) = true := beq_iff_eq.mpr d1
          have d1n : (m == l0.length) = true := beq_iff_eq.mpr (by omega)
          clear H d1
          go_wp2
          simp only [Exit.jump]
          go_ret3
          exact ⟨rfl, Drawn0.refl _⟩
        · rw [if_neg d1] at H
          have d1b : ((m : Int) == (l0.length : Int)) = false := beq_eq_false_iff_ne.mpr d1
          have d1n : (m == l0.length) = false := beq_eq_false_iff_ne.mpr (by omega)
          by_cases d2 : n / 144115188075855872 > 0
          · rw [if_pos d2] at H
            obtain ⟨rfl, rfl, rfl⟩ : r1 = 0 ∧ r2 = 0 ∧ r3 = 3 := by simpa [eq_comm] using H
            have d2b : decide (0 < n / 144115188075855872) = true := decide_eq_true d2
            clear H d1 d2
            go_wp2
            simp only [Exit.jump]
            go_ret3
            exact ⟨rfl, Drawn0.refl _⟩
          · rw [if_neg d2, if_pos (by omega), if_pos (by omega)] at H
            have d2b : decide (0 < n / 144115188075855872) = false := decide_eq_false d2
            obtain ⟨ad, rfl, hcell⟩ := Kd.at_int HR0.out (m : Int) (by omega) (by omega)
            rw [Int.toNat_natCast] at hcell
            have hlt : m < l0.length := by omega
            have hw1 : wrap64 ((m : Int) + 1) = ((m + 1 : Nat) : Int) := by unfold wrap64; omega
            rw [hw1] at H
            have HW1 := Aside0.mk hw1
            clear d1 d2 hw1
            by_cases d3 : rd l0 (m : Int) ≥ 128
            · rw [if_pos d3] at H
              have d3b : decide (128 ≤ rd l0 (m : Int)) = true := decide_eq_true d3
              have H' := Aside0.mk H
              clear H d3
              go_wp2
              go_step3
              exact ⟨rfl, ⟨rfl, kq, _, m + 1, _, _, _, _, _, _, _, _, _, _, _, _, _, _, _, _, _, _, _, _, _, _, _, _, _, _, _, _, _, _, _, _, _, rfl, H', by omega⟩, by simp [GetM, intOf]; omega⟩
            · rw [if_neg d3] at H
              have d3b : decide (128 ≤ rd l0 (m : Int)) = false := decide_eq_false d3
              obtain ⟨rfl, rfl, rfl⟩ : _ ∧ _ ∧ r3 = 0 := by simpa [eq_comm] using H
              clear H d3
              go_wp2
              simp only [Exit.jump]
              go_ret3
              exact ⟨rfl, Drawn0.refl _⟩
    · intro hpass
      rcases hfirst with hf | ⟨hf, hf2⟩
      · go_wp2
        go_step3
        rename_i K hK
        exact hK _ _ (hpass _ _ ⟨rfl, k, 0, 0, _, _, _, _, _, _, _, _, _, _, _, _, _, _, _, _, _, _, _, _, _, _, _, _, _, _, _, _, _, _, _, _, _, rfl, HH, by omega⟩)
      · obtain ⟨ad, rfl, hcell⟩ := Kd.at_int HR0.out 0 (by omega) (by have := of_decide_eq_true hf; omega)
        have hcell0 : w.cell? ad = some (.int .u8 (rd l0 0)) := by simpa [Addr.add] using hcell
        have hf3 : decide ((0 : Int) < (l0.length : Int)) = true := decide_eq_true (by have := of_decide_eq_true hf; omega)
        have hf4 : 0 < l0.length := of_decide_eq_true hf
        clear hcell
        go_wp2
        go_step3
        rename_i K hK
        exact hK _ _ (hpass _ _ ⟨rfl, k, 0, 0, _, _, _, _, _, _, _, _, _, _, _, _, _, _, _, _, _, _, _, _, _, _, _, _, _, _, _, _, _, _, _, _, _, rfl, HH, by omega⟩)
end Go.Proofs.Ytlohjfagiigchaa.P
