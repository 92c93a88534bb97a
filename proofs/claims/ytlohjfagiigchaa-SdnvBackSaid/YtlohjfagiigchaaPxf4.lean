/- For each Go function told here: the plain function of what it answers, and that the translated program's call answers just that, wherever the plain function answers at all. Written by a program of this session, out of the translation. -/
import Derived.Test.YtlohjfagiigchaaPx0
import Derived.Test.YtlohjfagiigchaaPxf10
import Derived.Test.YtlohjfagiigchaaPxf16
import Derived.Test.YtlohjfagiigchaaHGet
import Derived.Test.YtlohjfagiigchaaHPut
namespace Go.Proofs.Ytlohjfagiigchaa.P
open Go.RowKit Go.Proofs.YtlohjfagiigchaaW.PrintWords Go.Proofs.YtlohjfagiigchaaW.PrintLast Go.Proofs.YtlohjfagiigchaaW.PrintMore
attribute [local go_sem] max2_int min2_int max_two min_two max_three min_three max_four min_four   -- for this text's walks alone
set_option linter.unusedVariables false
set_option linter.unusedSimpArgs false

/-! ### heliographlaw08_SdnvBack: function 4 -/
mutual
def heliographlaw08_SdnvBack.j0 : Nat → List Int → Bool → Option (Bool)
  | 0, _, _ => none
  | k + 1, x5, x58 => if x58 = true then (some false) else (heliographlaw08_SdnvBack.l0 k x5 (x5.length : Int) 0)
def heliographlaw08_SdnvBack.l0 : Nat → List Int → Int → Int → Option (Bool)
  | 0, _, _, _ => none
  | k + 1, x5, x60, x61 => if x61 < x60 then (if 0 ≤ x61 then (if x61 ≤ (x5.length : Int) then ((sdnv_Get.f k (x5.take (x61 : Int).toNat)).bind fun bt174 => (if bt174.2.2 = 7 then (heliographlaw08_SdnvBack.l0 k x5 x60 (wrap64 (x61 + 1))) else (some false))) else (none)) else (none)) else (some true)
end
def heliographlaw08_SdnvBack.f (k : Nat) (a0 : Int) (l1 : List Int) : Option (Bool) := (heliographlaw08_wakes.f k).bind fun t149 => (if t149 = true then (if 0 ≤ (mn (l1.length : Int) 100) then (if (mn (l1.length : Int) 100) ≤ (l1.length : Int) then ((some (l1.take ((mn (l1.length : Int) 100) : Int).toNat : List Int)).bind fun y150 => ((sdnv_Put.f k ([] : List Int) a0).bind fun t154 => ((some (([] : List Int) : List Int)).bind fun y157 => (if y157.length + t154.length < 140737488355328 then ((some (y157 ++ t154 : List Int)).bind fun y160 => (if y160.length + y150.length < 140737488355328 then ((sdnv_Get.f k (y160 ++ y150)).bind fun bt166 => (if bt166.1 = a0 then (if bt166.2.1 = (t154.length : Int) then (if bt166.2.2 = 0 then ((sdnv_Size.f k a0).bind fun t169 => (if bt166.2.1 = t169 then (if bt166.2.1 < 1 then (heliographlaw08_SdnvBack.j0 k t154 true) else (heliographlaw08_SdnvBack.j0 k t154 (decide (bt166.2.1 > 10)))) else (heliographlaw08_SdnvBack.j0 k t154 true))) else (heliographlaw08_SdnvBack.j0 k t154 true)) else (heliographlaw08_SdnvBack.j0 k t154 true)) else (heliographlaw08_SdnvBack.j0 k t154 true))) else (none))) else (none))))) else (none)) else (none)) else (some false))
theorem heliographlaw08_SdnvBack.mono_l : ∀ k, (∀ y0 y1, LeO (heliographlaw08_SdnvBack.j0 k y0 y1) (heliographlaw08_SdnvBack.j0 (k + 1) y0 y1)) ∧ (∀ y0 y1 y2, LeO (heliographlaw08_SdnvBack.l0 k y0 y1 y2) (heliographlaw08_SdnvBack.l0 (k + 1) y0 y1 y2))
  | 0 => ⟨fun _ _ r h => by simp [heliographlaw08_SdnvBack.j0] at h, fun _ _ _ r h => by simp [heliographlaw08_SdnvBack.l0] at h⟩
  | k + 1 => by
    obtain ⟨ih0, ih1⟩ := heliographlaw08_SdnvBack.mono_l k
    refine ⟨?_, ?_⟩
    · intro y0 y1
      unfold heliographlaw08_SdnvBack.j0
      repeat' first
      | (with_reducible exact ih0 _ _)
      | (with_reducible exact ih1 _ _ _)
      | (with_reducible exact heliographlaw08_wakes.mono _)
      | (with_reducible exact sdnv_Get.mono _ _)
      | (with_reducible exact sdnv_Put.mono _ _ _)
      | (with_reducible exact sdnv_Size.mono _ _)
      | (with_reducible exact LeO.refl _)
      | (with_reducible exact LeO.none _)
      | (with_reducible refine LeO.ite ?_ ?_)
      | (with_reducible refine LeO.bind ?_ (fun _ => ?_))
      | exact ih0 _ _
      | exact ih1 _ _ _
      | exact heliographlaw08_wakes.mono _
      | exact sdnv_Get.mono _ _
      | exact sdnv_Put.mono _ _ _
      | exact sdnv_Size.mono _ _
      | exact LeO.none _
      | refine LeO.ite ?_ ?_
      | refine LeO.bind ?_ (fun _ => ?_)
    · intro y0 y1 y2
      unfold heliographlaw08_SdnvBack.l0
      repeat' first
      | (with_reducible exact ih0 _ _)
      | (with_reducible exact ih1 _ _ _)
      | (with_reducible exact heliographlaw08_wakes.mono _)
      | (with_reducible exact sdnv_Get.mono _ _)
      | (with_reducible exact sdnv_Put.mono _ _ _)
      | (with_reducible exact sdnv_Size.mono _ _)
      | (with_reducible exact LeO.refl _)
      | (with_reducible exact LeO.none _)
      | (with_reducible refine LeO.ite ?_ ?_)
      | (with_reducible refine LeO.bind ?_ (fun _ => ?_))
      | exact ih0 _ _
      | exact ih1 _ _ _
      | exact heliographlaw08_wakes.mono _
      | exact sdnv_Get.mono _ _
      | exact sdnv_Put.mono _ _ _
      | exact sdnv_Size.mono _ _
      | exact LeO.none _
      | refine LeO.ite ?_ ?_
      | refine LeO.bind ?_ (fun _ => ?_)
theorem heliographlaw08_SdnvBack.mono : ∀ a0 a1 k, LeO (heliographlaw08_SdnvBack.f k a0 a1) (heliographlaw08_SdnvBack.f (k + 1) a0 a1) := by
  intro a0 a1 k
  obtain ⟨ih0, ih1⟩ := heliographlaw08_SdnvBack.mono_l k
  unfold heliographlaw08_SdnvBack.f
  repeat' first
      | (with_reducible exact ih0 _ _)
      | (with_reducible exact ih1 _ _ _)
      | (with_reducible exact heliographlaw08_wakes.mono _)
      | (with_reducible exact sdnv_Get.mono _ _)
      | (with_reducible exact sdnv_Put.mono _ _ _)
      | (with_reducible exact sdnv_Size.mono _ _)
      | (with_reducible exact LeO.refl _)
      | (with_reducible exact LeO.none _)
      | (with_reducible refine LeO.ite ?_ ?_)
      | (with_reducible refine LeO.bind ?_ (fun _ => ?_))
      | exact ih0 _ _
      | exact ih1 _ _ _
      | exact heliographlaw08_wakes.mono _
      | exact sdnv_Get.mono _ _
      | exact sdnv_Put.mono _ _ _
      | exact sdnv_Size.mono _ _
      | exact LeO.none _
      | refine LeO.ite ?_ ?_
      | refine LeO.bind ?_ (fun _ => ?_)
set_option maxHeartbeats 8000000 in
set_option maxRecDepth 100000 in
theorem heliographlaw08_SdnvBack.calls (k : Nat) (a0 : Int) (A1 : Option Addr) (c1 : Nat) (l1 : List Int) (r : Bool) (w : World) (hr1 : Kd.C (Kd.int .u8) w A1 l1.length l1) (hc1 : l1.length ≤ c1) (h : heliographlaw08_SdnvBack.f k a0 l1 = some r) :
    Calls Try.prog 4 #[.int .u64 a0, .slice A1 l1.length c1] w fun e w' => e = .returned (.bool r) ∧ Below w.heap.size w w' := by
  have HR1 := Aside0.mk hr1
  have HC1 := Aside0.mk hc1
  clear hr1 hc1
  have HB := Aside0.mk (Below.refl w.heap.size w)
  have H : ((heliographlaw08_wakes.f k).bind fun t149 => (if t149 = true then (if 0 ≤ (mn (l1.length : Int) 100) then (if (mn (l1.length : Int) 100) ≤ (l1.length : Int) then ((some (l1.take ((mn (l1.length : Int) 100) : Int).toNat : List Int)).bind fun y150 => ((sdnv_Put.f k ([] : List Int) a0).bind fun t154 => ((some (([] : List Int) : List Int)).bind fun y157 => (if y157.length + t154.length < 140737488355328 then ((some (y157 ++ t154 : List Int)).bind fun y160 => (if y160.length + y150.length < 140737488355328 then ((sdnv_Get.f k (y160 ++ y150)).bind fun bt166 => (if bt166.1 = a0 then (if bt166.2.1 = (t154.length : Int) then (if bt166.2.2 = 0 then ((sdnv_Size.f k a0).bind fun t169 => (if bt166.2.1 = t169 then (if bt166.2.1 < 1 then (heliographlaw08_SdnvBack.j0 k t154 true) else (heliographlaw08_SdnvBack.j0 k t154 (decide (bt166.2.1 > 10)))) else (heliographlaw08_SdnvBack.j0 k t154 true))) else (heliographlaw08_SdnvBack.j0 k t154 true)) else (heliographlaw08_SdnvBack.j0 k t154 true)) else (heliographlaw08_SdnvBack.j0 k t154 true))) else (none))) else (none))))) else (none)) else (none)) else (some false))) = some r := h
  clear h
  replace H := Option.bind_eq_some_iff.mp H
  obtain ⟨t149, A30, H⟩ := H
  replace H : (if t149 = true then (if 0 ≤ (mn (l1.length : Int) 100) then (if (mn (l1.length : Int) 100) ≤ (l1.length : Int) then ((some (l1.take ((mn (l1.length : Int) 100) : Int).toNat : List Int)).bind fun y150 => ((sdnv_Put.f k ([] : List Int) a0).bind fun t154 => ((some (([] : List Int) : List Int)).bind fun y157 => (if y157.length + t154.length < 140737488355328 then ((some (y157 ++ t154 : List Int)).bind fun y160 => (if y160.length + y150.length < 140737488355328 then ((sdnv_Get.f k (y160 ++ y150)).bind fun bt166 => (if bt166.1 = a0 then (if bt166.2.1 = (t154.length : Int) then (if bt166.2.2 = 0 then ((sdnv_Size.f k a0).bind fun t169 => (if bt166.2.1 = t169 then (if bt166.2.1 < 1 then (heliographlaw08_SdnvBack.j0 k t154 true) else (heliographlaw08_SdnvBack.j0 k t154 (decide (bt166.2.1 > 10)))) else (heliographlaw08_SdnvBack.j0 k t154 true))) else (heliographlaw08_SdnvBack.j0 k t154 true)) else (heliographlaw08_SdnvBack.j0 k t154 true)) else (heliographlaw08_SdnvBack.j0 k t154 true))) else (none))) else (none))))) else (none)) else (none)) else (some false)) = some r := H
  have A3 := Aside0.mk A30
  clear A30
  by_cases c4 : t149 = true
  · subst c4
    have H1 : (if 0 ≤ (mn (l1.length : Int) 100) then (if (mn (l1.length : Int) 100) ≤ (l1.length : Int) then ((some (l1.take ((mn (l1.length : Int) 100) : Int).toNat : List Int)).bind fun y150 => ((sdnv_Put.f k ([] : List Int) a0).bind fun t154 => ((some (([] : List Int) : List Int)).bind fun y157 => (if y157.length + t154.length < 140737488355328 then ((some (y157 ++ t154 : List Int)).bind fun y160 => (if y160.length + y150.length < 140737488355328 then ((sdnv_Get.f k (y160 ++ y150)).bind fun bt166 => (if bt166.1 = a0 then (if bt166.2.1 = (t154.length : Int) then (if bt166.2.2 = 0 then ((sdnv_Size.f k a0).bind fun t169 => (if bt166.2.1 = t169 then (if bt166.2.1 < 1 then (heliographlaw08_SdnvBack.j0 k t154 true) else (heliographlaw08_SdnvBack.j0 k t154 (decide (bt166.2.1 > 10)))) else (heliographlaw08_SdnvBack.j0 k t154 true))) else (heliographlaw08_SdnvBack.j0 k t154 true)) else (heliographlaw08_SdnvBack.j0 k t154 true)) else (heliographlaw08_SdnvBack.j0 k t154 true))) else (none))) else (none))))) else (none)) else (none)) = some r := by rw [if_pos rfl] at H; exact H
    clear H
    have H := H1
    clear H1
    obtain ⟨ji5, hji5⟩ : ∃ j_ : Int, (mn (l1.length : Int) 100) = j_ := ⟨_, rfl⟩
    replace H : (if 0 ≤ (ji5) then (if (ji5) ≤ (l1.length : Int) then ((some (l1.take ((ji5) : Int).toNat : List Int)).bind fun y150 => ((sdnv_Put.f k ([] : List Int) a0).bind fun t154 => ((some (([] : List Int) : List Int)).bind fun y157 => (if y157.length + t154.length < 140737488355328 then ((some (y157 ++ t154 : List Int)).bind fun y160 => (if y160.length + y150.length < 140737488355328 then ((sdnv_Get.f k (y160 ++ y150)).bind fun bt166 => (if bt166.1 = a0 then (if bt166.2.1 = (t154.length : Int) then (if bt166.2.2 = 0 then ((sdnv_Size.f k a0).bind fun t169 => (if bt166.2.1 = t169 then (if bt166.2.1 < 1 then (heliographlaw08_SdnvBack.j0 k t154 true) else (heliographlaw08_SdnvBack.j0 k t154 (decide (bt166.2.1 > 10)))) else (heliographlaw08_SdnvBack.j0 k t154 true))) else (heliographlaw08_SdnvBack.j0 k t154 true)) else (heliographlaw08_SdnvBack.j0 k t154 true)) else (heliographlaw08_SdnvBack.j0 k t154 true))) else (none))) else (none))))) else (none)) else (none)) = some r := by first | (rw [hji5] at H; exact H) | (simp only [hji5] at H ⊢; exact H)
    (try rw [hji5] at A3)
    (try (have hji5h : ji5 ≤ 100 := by (rw [← hji5]; unfold mn; (repeat' split) <;> omega)))
    (try (have hji5g : ji5 ≤ 64 := by omega))
    (try (have hji5l : 0 ≤ ji5 := by (rw [← hji5]; unfold mn; (repeat' split) <;> omega)))
    (try (have hji5m : 0 ≤ ji5 := by omega))
    have hji5_ : (if 100 < (l1.length : Int) then 100 else (l1.length : Int)) = ji5 := hji5
    by_cases c6 : 0 ≤ (ji5)
    · rw [if_pos c6] at H
      have c6b0 := eq_true c6
      have c6b1 : decide (0 ≤ (ji5)) = true := decide_eq_true c6
      clear c6
      by_cases c7 : (ji5) ≤ (l1.length : Int)
      · rw [if_pos c7] at H
        have c7b0 := eq_true c7
        have c7b1 : decide ((ji5) ≤ (l1.length : Int)) = true := decide_eq_true c7
        clear c7
        obtain ⟨y150, hy150⟩ : ∃ y_ : List Int, y_ = (l1.take ((ji5) : Int).toNat) := ⟨_, rfl⟩
        replace H : ((sdnv_Put.f k ([] : List Int) a0).bind fun t154 => ((some (([] : List Int) : List Int)).bind fun y157 => (if y157.length + t154.length < 140737488355328 then ((some (y157 ++ t154 : List Int)).bind fun y160 => (if y160.length + y150.length < 140737488355328 then ((sdnv_Get.f k (y160 ++ y150)).bind fun bt166 => (if bt166.1 = a0 then (if bt166.2.1 = (t154.length : Int) then (if bt166.2.2 = 0 then ((sdnv_Size.f k a0).bind fun t169 => (if bt166.2.1 = t169 then (if bt166.2.1 < 1 then (heliographlaw08_SdnvBack.j0 k t154 true) else (heliographlaw08_SdnvBack.j0 k t154 (decide (bt166.2.1 > 10)))) else (heliographlaw08_SdnvBack.j0 k t154 true))) else (heliographlaw08_SdnvBack.j0 k t154 true)) else (heliographlaw08_SdnvBack.j0 k t154 true)) else (heliographlaw08_SdnvBack.j0 k t154 true))) else (none))) else (none)))) = some r := by first | (rw [hy150]; with_reducible exact H) | (have H2_ := (Option.bind_some _ _).symm.trans H; rw [hy150]; with_reducible exact H2_) | (have H2_ := (Option.bind_some _ _).symm.trans H; with_reducible exact H2_) | with_reducible exact H | (rw [hy150]; exact H) | exact H
        have Ny150 := Aside0.mk hy150
        clear hy150
        replace H := Option.bind_eq_some_iff.mp H
        obtain ⟨t154, A80, H⟩ := H
        replace H : ((some (([] : List Int) : List Int)).bind fun y157 => (if y157.length + t154.length < 140737488355328 then ((some (y157 ++ t154 : List Int)).bind fun y160 => (if y160.length + y150.length < 140737488355328 then ((sdnv_Get.f k (y160 ++ y150)).bind fun bt166 => (if bt166.1 = a0 then (if bt166.2.1 = (t154.length : Int) then (if bt166.2.2 = 0 then ((sdnv_Size.f k a0).bind fun t169 => (if bt166.2.1 = t169 then (if bt166.2.1 < 1 then (heliographlaw08_SdnvBack.j0 k t154 true) else (heliographlaw08_SdnvBack.j0 k t154 (decide (bt166.2.1 > 10)))) else (heliographlaw08_SdnvBack.j0 k t154 true))) else (heliographlaw08_SdnvBack.j0 k t154 true)) else (heliographlaw08_SdnvBack.j0 k t154 true)) else (heliographlaw08_SdnvBack.j0 k t154 true))) else (none))) else (none))) = some r := H
        have A8 := Aside0.mk A80
        clear A80
        obtain ⟨y157, hy157⟩ : ∃ y_ : List Int, y_ = (([] : List Int)) := ⟨_, rfl⟩
        replace H : (if y157.length + t154.length < 140737488355328 then ((some (y157 ++ t154 : List Int)).bind fun y160 => (if y160.length + y150.length < 140737488355328 then ((sdnv_Get.f k (y160 ++ y150)).bind fun bt166 => (if bt166.1 = a0 then (if bt166.2.1 = (t154.length : Int) then (if bt166.2.2 = 0 then ((sdnv_Size.f k a0).bind fun t169 => (if bt166.2.1 = t169 then (if bt166.2.1 < 1 then (heliographlaw08_SdnvBack.j0 k t154 true) else (heliographlaw08_SdnvBack.j0 k t154 (decide (bt166.2.1 > 10)))) else (heliographlaw08_SdnvBack.j0 k t154 true))) else (heliographlaw08_SdnvBack.j0 k t154 true)) else (heliographlaw08_SdnvBack.j0 k t154 true)) else (heliographlaw08_SdnvBack.j0 k t154 true))) else (none))) else (none)) = some r := by first | (rw [hy157]; with_reducible exact H) | (have H2_ := (Option.bind_some _ _).symm.trans H; rw [hy157]; with_reducible exact H2_) | (have H2_ := (Option.bind_some _ _).symm.trans H; with_reducible exact H2_) | with_reducible exact H | (rw [hy157]; exact H) | exact H
        have Ny157 := Aside0.mk hy157
        clear hy157
        by_cases c9 : y157.length + t154.length < 140737488355328
        · rw [if_pos c9] at H
          have LMc9 := Aside0.mk c9
          clear c9
          obtain ⟨y160, hy160⟩ : ∃ y_ : List Int, y_ = (y157 ++ t154) := ⟨_, rfl⟩
          replace H : (if y160.length + y150.length < 140737488355328 then ((sdnv_Get.f k (y160 ++ y150)).bind fun bt166 => (if bt166.1 = a0 then (if bt166.2.1 = (t154.length : Int) then (if bt166.2.2 = 0 then ((sdnv_Size.f k a0).bind fun t169 => (if bt166.2.1 = t169 then (if bt166.2.1 < 1 then (heliographlaw08_SdnvBack.j0 k t154 true) else (heliographlaw08_SdnvBack.j0 k t154 (decide (bt166.2.1 > 10)))) else (heliographlaw08_SdnvBack.j0 k t154 true))) else (heliographlaw08_SdnvBack.j0 k t154 true)) else (heliographlaw08_SdnvBack.j0 k t154 true)) else (heliographlaw08_SdnvBack.j0 k t154 true))) else (none)) = some r := by first | (rw [hy160]; with_reducible exact H) | (have H2_ := (Option.bind_some _ _).symm.trans H; rw [hy160]; with_reducible exact H2_) | (have H2_ := (Option.bind_some _ _).symm.trans H; with_reducible exact H2_) | with_reducible exact H | (rw [hy160]; exact H) | exact H
          have Ny160 := Aside0.mk hy160
          clear hy160
          by_cases c10 : y160.length + y150.length < 140737488355328
          · rw [if_pos c10] at H
            have LMc10 := Aside0.mk c10
            clear c10
            obtain ⟨y163, hy163⟩ : ∃ y_ : List Int, y_ = (y160 ++ y150) := ⟨_, rfl⟩
            replace H : ((sdnv_Get.f k y163).bind fun bt166 => (if bt166.1 = a0 then (if bt166.2.1 = (t154.length : Int) then (if bt166.2.2 = 0 then ((sdnv_Size.f k a0).bind fun t169 => (if bt166.2.1 = t169 then (if bt166.2.1 < 1 then (heliographlaw08_SdnvBack.j0 k t154 true) else (heliographlaw08_SdnvBack.j0 k t154 (decide (bt166.2.1 > 10)))) else (heliographlaw08_SdnvBack.j0 k t154 true))) else (heliographlaw08_SdnvBack.j0 k t154 true)) else (heliographlaw08_SdnvBack.j0 k t154 true)) else (heliographlaw08_SdnvBack.j0 k t154 true))) = some r := by first | (rw [hy163]; with_reducible exact H) | (have H2_ := (Option.bind_some _ _).symm.trans H; rw [hy163]; with_reducible exact H2_) | (have H2_ := (Option.bind_some _ _).symm.trans H; with_reducible exact H2_) | with_reducible exact H | (rw [hy163]; exact H) | exact H
            have Ny163 := Aside0.mk hy163
            clear hy163
            replace H := Option.bind_eq_some_iff.mp H
            obtain ⟨⟨t166, t167, t168⟩, A110, H⟩ := H
            replace H : (if t166 = a0 then (if t167 = (t154.length : Int) then (if t168 = 0 then ((sdnv_Size.f k a0).bind fun t169 => (if t167 = t169 then (if t167 < 1 then (heliographlaw08_SdnvBack.j0 k t154 true) else (heliographlaw08_SdnvBack.j0 k t154 (decide (t167 > 10)))) else (heliographlaw08_SdnvBack.j0 k t154 true))) else (heliographlaw08_SdnvBack.j0 k t154 true)) else (heliographlaw08_SdnvBack.j0 k t154 true)) else (heliographlaw08_SdnvBack.j0 k t154 true)) = some r := H
            have A11 := Aside0.mk A110
            clear A110
            have HC12 := Aside0.mk H
            clear H
            go_enter Try.func4, Try.ntmps4
            go_upto_region 6 with (first | ((with_reducible refine gate_callee (f := 10) rfl ?_); refine goesL_ (some 13) rfl rfl Try.func10 (by kernel_rfl) rfl #[] rfl (by (try simp only [List.map_toArray, List.map_cons, List.map_nil]); first | done | rfl | (simp only [List.length_drop, List.length_take]; rfl)) ?_; (with_reducible refine (heliographlaw08_wakes.calls k  true _ A3.out).mono ?_); rintro e w13 ⟨rfl, hb⟩; refine ⟨_, rfl, ?_⟩; have n0_ := Aside0.mk (below_step (by repeat (first | (with_reducible first | exact HB.out | apply below_alloc | apply pw_below_drewN | apply below_drew1) | exact HB.out)) hb); clear HB; have HB := n0_; clear n0_; (try clear hb); (try clear hb2); (try clear hk); (try clear hi); have q14 : ((ji5) : Int) ≤ ((l1.length : Int) : Int) := of_decide_eq_true (by first | (with_reducible assumption) | assumption); obtain ⟨i014, hi014, _, hsz14, _⟩ := info_parts info5; have hroom14 : l1.length ≤ c1 := HC1.out; have hC14 : Kd.C (Kd.int .u8) _ A1 l1.length l1 := HR1.out; have hcut14 := cut_to (P := Try.prog) 24 5 .i64 Try.underlying24 hi014 A1 l1.length c1 (ji5) (of_decide_eq_true (by first | (with_reducible assumption) | assumption)) q14 hroom14; have hr14 := Kd.C_take (m := ((ji5) : Int).toNat) hC14 (by omega); have hy14 : y150.length = ((ji5) : Int).toNat := (by rw [Ny150.out, List.length_take]; omega); rw [← Ny150.out] at hr14; rw [← hy14] at hcut14; have HR153 := Aside0.mk hr14; have HC153 := Aside0.mk (show y150.length ≤ c1 from by omega); clear hr14 hC14 hroom14 hi014 hsz14; have KY14 := Aside0.mk hy14; clear hy14; replace q14 := eq_true q14) | ((with_reducible refine gate_callee (f := 15) rfl ?_); refine goesL_ (some 21) rfl rfl Try.func15 (by kernel_rfl) rfl #[.slice none 0 0, .int .u64 a0] rfl (by (try simp only [List.map_toArray, List.map_cons, List.map_nil]); first | done | rfl | (simp only [List.length_drop, List.length_take]; rfl)) ?_; (refine (sdnv_Put.calls k _ _ ([] : List Int) a0 t154 _ ?side1 ?side2 A8.out).mono ?_); (case side1 => exact Kd.C_nil _ _); (case side2 => exact Nat.le_refl _); rintro e w15 ⟨v155, rfl, ho0, hb⟩; refine ⟨_, rfl, ?_⟩; have n0_ := Aside0.mk (Kd.R_lower ho0 (below_size (by repeat (first | (with_reducible first | exact HB.out | apply below_alloc | apply pw_below_drewN | apply below_drew1) | exact HB.out)))); have n1_ := Aside0.mk (below_step (by repeat (first | (with_reducible first | exact HB.out | apply below_alloc | apply pw_below_drewN | apply below_drew1) | exact HB.out)) hb); clear HB; have HO156 := n0_; have HB := n1_; clear n0_ n1_; (try clear hb); (try clear hb2); (try clear hk); (try clear hi); (try clear ho0)) | ((with_reducible refine gate_dst (N := 23) rfl ?_); (try (refine gate_guard (by rfl) ?_; dsimp only)); refine Kd.R_lit (Kd.int .u8) _ 5 ?hg (N := 23) ?hd (xs := ([] : List Int)) (inner := []) (ok := fun _ => True) (okp := fun _ => True) ?hr ?hp (fun _ hk => hk) trivial (Below.refl _ _) (Nat.le_refl _) (by simp) ?_; (case hd => rfl); (case hg => rfl); (case hr => first | (go_simp; done) | (go_simp; rfl)); (case hp => exact (Reps.none _ _)); intro v158 w16 ho17 hb hg_ hnew_; clear hg_ hnew_; (first | rw [← Ny157.out] at ho17 | (simp only [Int.reduceToNat] at ho17; rw [← Ny157.out] at ho17)); have n0_ := Aside0.mk (Kd.R_elder' (by (with_reducible repeat (first | apply Kd.R_alloc | apply Kd.R_drewN | apply Kd.R_drew)); exact HO156.out) (Kd.R_base ho17) hb); have n1_ := Aside0.mk (Kd.R_lower (Kd.R_new' ho17 (Kd.R_lt (by (with_reducible repeat (first | apply Kd.R_alloc | apply Kd.R_drewN | apply Kd.R_drew)); exact HO156.out))) (below_size (by repeat (first | (with_reducible first | exact HB.out | apply below_alloc | apply pw_below_drewN | apply below_drew1) | exact HB.out)))); have n2_ := Aside0.mk (below_step (by repeat (first | (with_reducible first | exact HB.out | apply below_alloc | apply pw_below_drewN | apply below_drew1) | exact HB.out)) hb); clear HO156; clear HB; have HO156 := n0_; have HO159 := n1_; have HB := n2_; clear n0_ n1_ n2_; clear hb ho17; obtain ⟨Ao19, co19, eo19⟩ := Kd.R_slice HO156.out; subst eo19) | ((with_reducible refine gate_builtin (b := .append) (xs := #[.tmp 23, .tmp 24]) rfl ?_); (try (refine gate_guard (by rfl) ?_; dsimp only)); at_builtin; refine Kd.R_append_rows (Kd.int .u8) (w0 := w) w.heap.size rfl (.tmp 23) (.tmp 24) 24 5 (.int .u8 0) 1 rfl Try.underlying24 info5 rfl (by decide) (by omega) v158 y157 t154 _ _ _ (fun k_ => some k_ ≠ (.slice Ao19 t154.length co19 : Value).ownBlock) (fun _ => False) rfl rfl ?aO ?aR (fun _ _ h => h) (fun _ h => h.elim) ?aF ?aB ?aS ?aL ?_; (case aR => repeat (first | exact (Kd.R_reads' HO156.out).2.2 | (with_reducible refine Kd.C_alloc ?_ _) | (with_reducible refine Kd.C_drewN ?_ _) | (with_reducible refine Kd.C_drew ?_))); (case aB => exact (by repeat (first | (with_reducible first | exact HB.out | apply below_alloc | apply pw_below_drewN | apply below_drew1) | exact HB.out))); (case aF => exact (fun k_ hk => Kd.fresh' (Kd.R_lt (by (with_reducible repeat (first | apply Kd.R_alloc | apply Kd.R_drewN | apply Kd.R_drew)); exact HO156.out)) k_ hk)); (case aO => exact (by (with_reducible repeat (first | apply Kd.R_alloc | apply Kd.R_drewN | apply Kd.R_drew)); exact Kd.R_mono HO159.out (fun _ hk => hk.2))); (case aS => exact (below_size (by repeat (first | (with_reducible first | exact HB.out | apply below_alloc | apply pw_below_drewN | apply below_drew1) | exact HB.out)))); (case aL => have := LMc9.out; omega); intro v161 w18 ho hb hg hat; rw [← Ny160.out] at ho; have n0_ := Aside0.mk (Kd.R_after (ok := (fun _ => True)) (by (with_reducible repeat (first | apply Kd.R_alloc | apply Kd.R_drewN | apply Kd.R_drew)); exact HO156.out) hg hat); have n1_ := Aside0.mk (hb); have n2_ := Aside0.mk (ho); clear HO156; clear HB; clear HO159; have HO156 := n0_; have HB := n1_; have HO162 := n2_; clear n0_ n1_ n2_; clear ho hb hg hat) | ((with_reducible refine gate_builtin (b := .append) (xs := #[.tmp 25, .tmp 26]) rfl ?_); (try (refine gate_guard (by rfl) ?_; dsimp only)); at_builtin; refine Kd.R_append_rows (Kd.int .u8) (w0 := w) w.heap.size rfl (.tmp 25) (.tmp 26) 24 5 (.int .u8 0) 1 rfl Try.underlying24 info5 rfl (by decide) (by omega) v161 y160 y150 _ _ _ (fun k_ => some k_ ≠ (.slice Ao19 t154.length co19 : Value).ownBlock) (fun _ => False) rfl rfl ?aO ?aR (fun _ _ h => h) (fun _ h => h.elim) ?aF ?aB ?aS ?aL ?_; (case aR => repeat (first | exact (Kd.C_below HR153.out HB.out) | (with_reducible refine Kd.C_alloc ?_ _) | (with_reducible refine Kd.C_drewN ?_ _) | (with_reducible refine Kd.C_drew ?_))); (case aB => exact (by repeat (first | (with_reducible first | exact HB.out | apply below_alloc | apply pw_below_drewN | apply below_drew1) | exact HB.out))); (case aF => exact (fun k_ hk => Kd.fresh' (Kd.R_lt (by (with_reducible repeat (first | apply Kd.R_alloc | apply Kd.R_drewN | apply Kd.R_drew)); exact HO156.out)) k_ hk)); (case aO => exact (by (with_reducible repeat (first | apply Kd.R_alloc | apply Kd.R_drewN | apply Kd.R_drew)); exact HO162.out)); (case aS => exact (below_size (by repeat (first | (with_reducible first | exact HB.out | apply below_alloc | apply pw_below_drewN | apply below_drew1) | exact HB.out)))); (case aL => have := LMc10.out; omega); intro v164 w20 ho hb hg hat; rw [← Ny163.out] at ho; have n0_ := Aside0.mk (Kd.R_after (ok := (fun _ => True)) (by (with_reducible repeat (first | apply Kd.R_alloc | apply Kd.R_drewN | apply Kd.R_drew)); exact HO156.out) hg hat); have n1_ := Aside0.mk (hb); have n2_ := Aside0.mk (ho); clear HO156; clear HB; clear HO162; have HO156 := n0_; have HB := n1_; have HO165 := n2_; clear n0_ n1_ n2_; clear ho hb hg hat; obtain ⟨Ao21, co21, eo21⟩ := Kd.R_slice HO165.out; subst eo21) | ((with_reducible refine gate_callee (f := 12) rfl ?_); refine goesL_ (some 28) rfl rfl Try.func12 (by kernel_rfl) rfl #[.slice Ao21 y163.length co21] rfl (by (try simp only [List.map_toArray, List.map_cons, List.map_nil]); first | done | rfl | (simp only [List.length_drop, List.length_take]; rfl)) ?_; (with_reducible refine (sdnv_Get.calls k _ _ y163 t166 t167 t168 _ ?side1 ?side2 A11.out).mono ?_); (case side1 => repeat (first | exact (Kd.R_reads' HO165.out).2.2 | (with_reducible refine Kd.C_alloc ?_ _) | (with_reducible refine Kd.C_drewN ?_ _) | (with_reducible refine Kd.C_drew ?_))); (case side2 => exact (Kd.R_reads' HO165.out).2.1); rintro e w' ⟨rfl, ⟨nd, rfl⟩⟩; refine ⟨_, rfl, ?_⟩))
            (try simp only [Act.put, List.setIfInBounds_toArray, List.set_cons_zero, List.set_cons_succ])
            go_cut [58] (fun v58 wc => ∃ (kq : Nat) (x58_11 : Bool), v58 = .bool x58_11 ∧ Aside0 (heliographlaw08_SdnvBack.j0 kq t154 x58_11 = some r) ∧ Aside0 (kq ≤ k) ∧ Aside0 (Kd.R (Kd.int .u8) 5 wc w.heap.size (fun _ => True) (.slice Ao19 t154.length co19) t154) ∧ Aside0 (Below w.heap.size w wc))
            case first =>
              have H := HC12.out
              clear HC12
              by_cases c22 : t166 = a0
              · rw [if_pos c22] at H
                have c22b0 : (t166 == a0) = true := beq_iff_eq.mpr c22
                have c22b1 : (t166 != a0) = false := bne_eq_false_iff_eq.mpr c22
                clear c22
                (first | rw [c22b0] | (simp only [i64_w, i32_w]; rw [c22b0]) | skip)
                by_cases c23 : t167 = (t154.length : Int)
                · rw [if_pos c23] at H
                  have c23b0 : (t167 == (t154.length : Int)) = true := beq_iff_eq.mpr c23
                  have c23b1 : (t167 != (t154.length : Int)) = false := bne_eq_false_iff_eq.mpr c23
                  clear c23
                  by_cases c24 : t168 = 0
                  · rw [if_pos c24] at H
                    have c24b0 : (t168 == 0) = true := beq_iff_eq.mpr c24
                    have c24b1 : (t168 != 0) = false := bne_eq_false_iff_eq.mpr c24
                    clear c24
                    replace H := Option.bind_eq_some_iff.mp H
                    obtain ⟨t169, A250, H⟩ := H
                    replace H : (if t167 = t169 then (if t167 < 1 then (heliographlaw08_SdnvBack.j0 k t154 true) else (heliographlaw08_SdnvBack.j0 k t154 (decide (t167 > 10)))) else (heliographlaw08_SdnvBack.j0 k t154 true)) = some r := H
                    have A25 := Aside0.mk A250
                    clear A250
                    by_cases c26 : t167 = t169
                    · rw [if_pos c26] at H
                      have c26b0 : (t167 == t169) = true := beq_iff_eq.mpr c26
                      have c26b1 : (t167 != t169) = false := bne_eq_false_iff_eq.mpr c26
                      clear c26
                      by_cases c27 : t167 < 1
                      · rw [if_pos c27] at H
                        have c27b0 : decide (t167 < 1) = true := decide_eq_true c27
                        clear c27
                        have H' := Aside0.mk H
                        clear H
                        go_wp2_with (first | (go_at_call 16; (with_reducible refine (sdnv_Size.calls k a0 t169 _ A25.out).mono ?_); rintro e w28 ⟨rfl, hb⟩; have n0_ := Aside0.mk (Kd.R_below (by (with_reducible repeat (first | apply Kd.R_alloc | apply Kd.R_drewN | apply Kd.R_drew)); exact HO156.out) hb); have n1_ := Aside0.mk (Kd.R_below (by (with_reducible repeat (first | apply Kd.R_alloc | apply Kd.R_drewN | apply Kd.R_drew)); exact HO165.out) hb); have n2_ := Aside0.mk (below_step (by repeat (first | (with_reducible first | exact HB.out | apply below_alloc | apply pw_below_drewN | apply below_drew1) | exact HB.out)) hb); clear HO156; clear HO165; clear HB; have HO156 := n0_; have HO165 := n1_; have HB := n2_; clear n0_ n1_ n2_; (try clear hb); (try clear hb2); (try clear hk); (try clear hi)))
                        go_meet
                        case rel => exact ⟨_, (true), (by first | rfl | (simp; done) | (simp [*]; done)), H', ⟨by first | omega | exact Nat.le_refl _⟩, ⟨by (with_reducible repeat (first | apply Kd.R_alloc | apply Kd.R_drewN | apply Kd.R_drew)); exact Kd.R_mono HO156.out (fun _ hk => trivial)⟩, ⟨by repeat (first | (with_reducible first | exact HB.out | apply below_alloc | apply pw_below_drewN | apply below_drew1) | exact HB.out)⟩⟩
                      · rw [if_neg c27] at H
                        have c27b0 : decide (t167 < 1) = false := decide_eq_false c27
                        clear c27
                        have H' := Aside0.mk H
                        clear H
                        go_wp2_with (first | (go_at_call 16; (with_reducible refine (sdnv_Size.calls k a0 t169 _ A25.out).mono ?_); rintro e w29 ⟨rfl, hb⟩; have n0_ := Aside0.mk (Kd.R_below (by (with_reducible repeat (first | apply Kd.R_alloc | apply Kd.R_drewN | apply Kd.R_drew)); exact HO156.out) hb); have n1_ := Aside0.mk (Kd.R_below (by (with_reducible repeat (first | apply Kd.R_alloc | apply Kd.R_drewN | apply Kd.R_drew)); exact HO165.out) hb); have n2_ := Aside0.mk (below_step (by repeat (first | (with_reducible first | exact HB.out | apply below_alloc | apply pw_below_drewN | apply below_drew1) | exact HB.out)) hb); clear HO156; clear HO165; clear HB; have HO156 := n0_; have HO165 := n1_; have HB := n2_; clear n0_ n1_ n2_; (try clear hb); (try clear hb2); (try clear hk); (try clear hi)))
                        go_meet
                        case rel => exact ⟨_, (decide (t167 > 10)), (by first | rfl | (simp; done) | (simp [*]; done)), H', ⟨by first | omega | exact Nat.le_refl _⟩, ⟨by (with_reducible repeat (first | apply Kd.R_alloc | apply Kd.R_drewN | apply Kd.R_drew)); exact Kd.R_mono HO156.out (fun _ hk => trivial)⟩, ⟨by repeat (first | (with_reducible first | exact HB.out | apply below_alloc | apply pw_below_drewN | apply below_drew1) | exact HB.out)⟩⟩
                    · rw [if_neg c26] at H
                      have c26b0 : (t167 == t169) = false := beq_eq_false_iff_ne.mpr c26
                      have c26b1 : (t167 != t169) = true := bne_iff_ne.mpr c26
                      have H' := Aside0.mk H
                      clear H
                      go_wp2_with (first | (go_at_call 16; (with_reducible refine (sdnv_Size.calls k a0 t169 _ A25.out).mono ?_); rintro e w30 ⟨rfl, hb⟩; have n0_ := Aside0.mk (Kd.R_below (by (with_reducible repeat (first | apply Kd.R_alloc | apply Kd.R_drewN | apply Kd.R_drew)); exact HO156.out) hb); have n1_ := Aside0.mk (Kd.R_below (by (with_reducible repeat (first | apply Kd.R_alloc | apply Kd.R_drewN | apply Kd.R_drew)); exact HO165.out) hb); have n2_ := Aside0.mk (below_step (by repeat (first | (with_reducible first | exact HB.out | apply below_alloc | apply pw_below_drewN | apply below_drew1) | exact HB.out)) hb); clear HO156; clear HO165; clear HB; have HO156 := n0_; have HO165 := n1_; have HB := n2_; clear n0_ n1_ n2_; (try clear hb); (try clear hb2); (try clear hk); (try clear hi)))
                      go_meet
                      case rel => exact ⟨_, (true), (by first | rfl | (simp; done) | (simp [*]; done)), H', ⟨by first | omega | exact Nat.le_refl _⟩, ⟨by (with_reducible repeat (first | apply Kd.R_alloc | apply Kd.R_drewN | apply Kd.R_drew)); exact Kd.R_mono HO156.out (fun _ hk => trivial)⟩, ⟨by repeat (first | (with_reducible first | exact HB.out | apply below_alloc | apply pw_below_drewN | apply below_drew1) | exact HB.out)⟩⟩
                  · rw [if_neg c24] at H
                    have c24b0 : (t168 == 0) = false := beq_eq_false_iff_ne.mpr c24
                    have c24b1 : (t168 != 0) = true := bne_iff_ne.mpr c24
                    have H' := Aside0.mk H
                    clear H
                    go_wp2
                    go_meet
                    case rel => exact ⟨_, (true), (by first | rfl | (simp; done) | (simp [*]; done)), H', ⟨by first | omega | exact Nat.le_refl _⟩, ⟨by (with_reducible repeat (first | apply Kd.R_alloc | apply Kd.R_drewN | apply Kd.R_drew)); exact Kd.R_mono HO156.out (fun _ hk => trivial)⟩, ⟨by repeat (first | (with_reducible first | exact HB.out | apply below_alloc | apply pw_below_drewN | apply below_drew1) | exact HB.out)⟩⟩
                · rw [if_neg c23] at H
                  have c23b0 : (t167 == (t154.length : Int)) = false := beq_eq_false_iff_ne.mpr c23
                  have c23b1 : (t167 != (t154.length : Int)) = true := bne_iff_ne.mpr c23
                  have H' := Aside0.mk H
                  clear H
                  go_wp2
                  go_meet
                  case rel => exact ⟨_, (true), (by first | rfl | (simp; done) | (simp [*]; done)), H', ⟨by first | omega | exact Nat.le_refl _⟩, ⟨by (with_reducible repeat (first | apply Kd.R_alloc | apply Kd.R_drewN | apply Kd.R_drew)); exact Kd.R_mono HO156.out (fun _ hk => trivial)⟩, ⟨by repeat (first | (with_reducible first | exact HB.out | apply below_alloc | apply pw_below_drewN | apply below_drew1) | exact HB.out)⟩⟩
              · rw [if_neg c22] at H
                have c22b0 : (t166 == a0) = false := beq_eq_false_iff_ne.mpr c22
                have c22b1 : (t166 != a0) = true := bne_iff_ne.mpr c22
                (first | rw [c22b0] | (simp only [i64_w, i32_w]; rw [c22b0]) | skip)
                have H' := Aside0.mk H
                clear H
                go_wp2
                go_meet
                case rel => exact ⟨_, (true), (by first | rfl | (simp; done) | (simp [*]; done)), H', ⟨by first | omega | exact Nat.le_refl _⟩, ⟨by (with_reducible repeat (first | apply Kd.R_alloc | apply Kd.R_drewN | apply Kd.R_drew)); exact Kd.R_mono HO156.out (fun _ hk => trivial)⟩, ⟨by repeat (first | (with_reducible first | exact HB.out | apply below_alloc | apply pw_below_drewN | apply below_drew1) | exact HB.out)⟩⟩
            case rest =>
              clear HC12
              try clear c1
              try clear q1
              try clear c2
              try clear p2
              try clear c4
              try clear c6
              try clear c6b0
              try clear c6b1
              try clear c7
              try clear c7b0
              try clear c7b1
              try clear c9
              try clear c10
              try clear c12
              try clear q14
              try clear c15
              try clear c22
              try clear c22b0
              try clear c22b1
              try clear c23
              try clear c23b0
              try clear c23b1
              try clear c24
              try clear c24b0
              try clear c24b1
              try clear c26
              try clear c26b0
              try clear c26b1
              try clear c27
              try clear c27b0
              try clear q14
              obtain ⟨kq, x58_11, rfl, HA, HJ11, HO_5, HB⟩ := hcut
              cases kq with
              | zero => exact absurd HA.out (by simp [heliographlaw08_SdnvBack.j0])
              | succ kj11 =>
                have H := HA.out
                clear HA
                simp only [heliographlaw08_SdnvBack.j0] at H
                by_cases c31 : x58_11 = true
                · subst c31
                  have H1 : (some false) = some r := by rw [if_pos rfl] at H; exact H
                  clear H
                  have H := H1
                  clear H1
                  obtain rfl := Option.some.inj H
                  go_wp2
                  go_ret
                  exact ⟨by first | rfl | (simp [errW_none, errW_some] <;> rfl) | (simp only [← hji5]; first | rfl | (simp [errW_none, errW_some] <;> rfl)) | (simp [*, errW_none, errW_some] <;> rfl), by repeat (first | (with_reducible first | exact HB.out | apply below_alloc | apply pw_below_drewN | apply below_drew1) | exact HB.out)⟩
                · replace c31 := Bool.eq_false_iff.mpr c31
                  subst c31
                  have H1 : (heliographlaw08_SdnvBack.l0 kj11 t154 (t154.length : Int) 0) = some r := by rw [if_neg (show ¬ (false = true) by decide)] at H; exact H
                  clear H
                  have H := H1
                  clear H1
                  have H' := Aside0.mk H
                  clear H
                  go_wp2
                  go_loopg [61] kj11 (fun kq v61 w' => ∃ (x61_2 : Int), v61 = .int .i64 x61_2 ∧ Aside0 (heliographlaw08_SdnvBack.l0 kq t154 (t154.length : Int) x61_2 = some r) ∧ Aside0 (kq ≤ kj11) ∧ Aside0 (Kd.R (Kd.int .u8) 5 w' w.heap.size (fun _ => True) (.slice Ao19 t154.length co19) t154) ∧ Aside0 (Below w.heap.size w w'))
                  case atStart => exact ⟨(0), (by first | rfl | (simp; done) | (simp [*]; done)), H', ⟨Nat.le_refl _⟩, ⟨by (with_reducible repeat (first | apply Kd.R_alloc | apply Kd.R_drewN | apply Kd.R_drew)); exact HO_5.out⟩, ⟨by repeat (first | (with_reducible first | exact HB.out | apply below_alloc | apply pw_below_drewN | apply below_drew1) | exact HB.out)⟩⟩
                  case round =>
                    clear H'
                    try clear c1
                    try clear q1
                    try clear c2
                    try clear p2
                    try clear c3
                    try clear c4
                    try clear c6
                    try clear c6b0
                    try clear c6b1
                    try clear c7
                    try clear c7b0
                    try clear c7b1
                    try clear c9
                    try clear c10
                    try clear c12
                    try clear q14
                    try clear c15
                    try clear c22
                    try clear c22b0
                    try clear c22b1
                    try clear c23
                    try clear c23b0
                    try clear c23b1
                    try clear c24
                    try clear c24b0
                    try clear c24b1
                    try clear c26
                    try clear c26b0
                    try clear c26b1
                    try clear c27
                    try clear c27b0
                    try clear c31
                    try clear p2
                    try clear q1
                    try clear q14
                    obtain ⟨x61_2, rfl, HA, HK2, HO_5, HB⟩ := hrel
                    cases gk with
                    | zero => exact absurd HA.out (by simp [heliographlaw08_SdnvBack.l0])
                    | succ k2 =>
                      have H := HA.out
                      clear HA
                      simp only [heliographlaw08_SdnvBack.l0] at H
                      by_cases c32 : x61_2 < (t154.length : Int)
                      · rw [if_pos c32] at H
                        have c32b0 : decide (x61_2 < (t154.length : Int)) = true := decide_eq_true c32
                        clear c32
                        by_cases c33 : 0 ≤ x61_2
                        · rw [if_pos c33] at H
                          have c33b0 := eq_true c33
                          have c33b1 : decide (0 ≤ x61_2) = true := decide_eq_true c33
                          clear c33
                          by_cases c34 : x61_2 ≤ (t154.length : Int)
                          · rw [if_pos c34] at H
                            have c34b0 := eq_true c34
                            have c34b1 : decide (x61_2 ≤ (t154.length : Int)) = true := decide_eq_true c34
                            clear c34
                            obtain ⟨y170, hy170⟩ : ∃ y_ : List Int, y_ = (t154.take (x61_2 : Int).toNat) := ⟨_, rfl⟩
                            replace H : ((sdnv_Get.f k2 y170).bind fun bt174 => (if bt174.2.2 = 7 then (heliographlaw08_SdnvBack.l0 k2 t154 (t154.length : Int) (wrap64 (x61_2 + 1))) else (some false))) = some r := by first | (rw [hy170]; with_reducible exact H) | (have H2_ := (Option.bind_some _ _).symm.trans H; rw [hy170]; with_reducible exact H2_) | (have H2_ := (Option.bind_some _ _).symm.trans H; with_reducible exact H2_) | with_reducible exact H | (rw [hy170]; exact H) | exact H
                            have Ny170 := Aside0.mk hy170
                            clear hy170
                            replace H := Option.bind_eq_some_iff.mp H
                            obtain ⟨⟨t174, t175, t176⟩, A350, H⟩ := H
                            replace H : (if t176 = 7 then (heliographlaw08_SdnvBack.l0 k2 t154 (t154.length : Int) (wrap64 (x61_2 + 1))) else (some false)) = some r := H
                            have A35 := Aside0.mk A350
                            clear A350
                            by_cases c36 : t176 = 7
                            · rw [if_pos c36] at H
                              have c36b0 : (t176 == 7) = true := beq_iff_eq.mpr c36
                              have c36b1 : (t176 != 7) = false := bne_eq_false_iff_eq.mpr c36
                              clear c36
                              have H' := Aside0.mk H
                              clear H
                              have q37 : (x61_2 : Int) ≤ ((t154.length : Int) : Int) := of_decide_eq_true (by first | (with_reducible assumption) | assumption)
                              obtain ⟨i037, hi037, _, hsz37, _⟩ := info_parts info5
                              have hroom37 : t154.length ≤ co19 := (Kd.R_reads' HO_5.out).2.1
                              have hC37 : Kd.C (Kd.int .u8) _ Ao19 t154.length t154 := (Kd.R_reads' HO_5.out).2.2
                              have hcut37 := cut_to (P := Try.prog) 24 5 .i64 Try.underlying24 hi037 Ao19 t154.length co19 x61_2 (of_decide_eq_true (by first | (with_reducible assumption) | assumption)) q37 hroom37
                              have hr37 := Kd.C_take (m := (x61_2 : Int).toNat) hC37 (by omega)
                              have hy37 : y170.length = (x61_2 : Int).toNat := (by rw [Ny170.out, List.length_take]; omega)
                              rw [← Ny170.out] at hr37
                              rw [← hy37] at hcut37
                              have HR173 := Aside0.mk hr37
                              have HC173 := Aside0.mk (show y170.length ≤ co19 from by omega)
                              clear hr37 hC37 hroom37 hi037 hsz37
                              have KY37 := Aside0.mk hy37
                              clear hy37
                              have KL37 := Aside0.mk (show (x61_2 : Int).toNat ≤ t154.length from by omega)
                              replace q37 := eq_true q37
                              go_wp2_with (first | ((with_reducible refine gate_callee (f := 12) rfl ?_); refine goesL_ (some 68) rfl rfl Try.func12 (by kernel_rfl) rfl #[.slice Ao19 y170.length co19] rfl (by (try simp only [List.map_toArray, List.map_cons, List.map_nil]); first | done | rfl | (simp only [List.length_drop, List.length_take]; rfl)) ?_; (with_reducible refine (sdnv_Get.calls k2 _ _ y170 t174 t175 t176 _ ?side1 ?side2 A35.out).mono ?_); (case side1 => repeat (first | exact (by repeat (first | (with_reducible exact HR173.out) | (with_reducible refine Kd.C_alloc ?_ _) | (with_reducible refine Kd.C_drewN ?_ _) | (with_reducible refine Kd.C_drew ?_) | exact HR173.out)) | (with_reducible refine Kd.C_alloc ?_ _) | (with_reducible refine Kd.C_drewN ?_ _) | (with_reducible refine Kd.C_drew ?_))); (case side2 => exact HC173.out); rintro e w' ⟨rfl, ⟨nd, rfl⟩⟩; refine ⟨_, rfl, ?_⟩))
                              go_roundg k2
                              case measure => have := HJ11.out; have := HK2.out; omega
                              case rel => exact ⟨(wrap64 (x61_2 + 1)), (by first | rfl | (simp; done) | (simp [*]; done)), H', ⟨by have := HJ11.out; have := HK2.out; omega⟩, ⟨by (with_reducible repeat (first | apply Kd.R_alloc | apply Kd.R_drewN | apply Kd.R_drew)); exact HO_5.out⟩, ⟨by repeat (first | (with_reducible first | exact HB.out | apply below_alloc | apply pw_below_drewN | apply below_drew1) | exact HB.out)⟩⟩
                            · rw [if_neg c36] at H
                              have c36b0 : (t176 == 7) = false := beq_eq_false_iff_ne.mpr c36
                              have c36b1 : (t176 != 7) = true := bne_iff_ne.mpr c36
                              obtain rfl := Option.some.inj H
                              have q38 : (x61_2 : Int) ≤ ((t154.length : Int) : Int) := of_decide_eq_true (by first | (with_reducible assumption) | assumption)
                              obtain ⟨i038, hi038, _, hsz38, _⟩ := info_parts info5
                              have hroom38 : t154.length ≤ co19 := (Kd.R_reads' HO_5.out).2.1
                              have hC38 : Kd.C (Kd.int .u8) _ Ao19 t154.length t154 := (Kd.R_reads' HO_5.out).2.2
                              have hcut38 := cut_to (P := Try.prog) 24 5 .i64 Try.underlying24 hi038 Ao19 t154.length co19 x61_2 (of_decide_eq_true (by first | (with_reducible assumption) | assumption)) q38 hroom38
                              have hr38 := Kd.C_take (m := (x61_2 : Int).toNat) hC38 (by omega)
                              have hy38 : y170.length = (x61_2 : Int).toNat := (by rw [Ny170.out, List.length_take]; omega)
                              rw [← Ny170.out] at hr38
                              rw [← hy38] at hcut38
                              have HR173 := Aside0.mk hr38
                              have HC173 := Aside0.mk (show y170.length ≤ co19 from by omega)
                              clear hr38 hC38 hroom38 hi038 hsz38
                              have KY38 := Aside0.mk hy38
                              clear hy38
                              have KL38 := Aside0.mk (show (x61_2 : Int).toNat ≤ t154.length from by omega)
                              replace q38 := eq_true q38
                              go_wp2_with (first | ((with_reducible refine gate_callee (f := 12) rfl ?_); refine goesL_ (some 68) rfl rfl Try.func12 (by kernel_rfl) rfl #[.slice Ao19 y170.length co19] rfl (by (try simp only [List.map_toArray, List.map_cons, List.map_nil]); first | done | rfl | (simp only [List.length_drop, List.length_take]; rfl)) ?_; (with_reducible refine (sdnv_Get.calls k2 _ _ y170 t174 t175 t176 _ ?side1 ?side2 A35.out).mono ?_); (case side1 => repeat (first | exact (by repeat (first | (with_reducible exact HR173.out) | (with_reducible refine Kd.C_alloc ?_ _) | (with_reducible refine Kd.C_drewN ?_ _) | (with_reducible refine Kd.C_drew ?_) | exact HR173.out)) | (with_reducible refine Kd.C_alloc ?_ _) | (with_reducible refine Kd.C_drewN ?_ _) | (with_reducible refine Kd.C_drew ?_))); (case side2 => exact HC173.out); rintro e w' ⟨rfl, ⟨nd, rfl⟩⟩; refine ⟨_, rfl, ?_⟩))
                              go_ret
                              exact ⟨by first | rfl | (simp [errW_none, errW_some] <;> rfl) | (simp only [← hji5]; first | rfl | (simp [errW_none, errW_some] <;> rfl)) | (simp [*, errW_none, errW_some] <;> rfl), by repeat (first | (with_reducible first | exact HB.out | apply below_alloc | apply pw_below_drewN | apply below_drew1) | exact HB.out)⟩
                          · rw [if_neg c34] at H
                            exact absurd H (by simp)
                        · rw [if_neg c33] at H
                          exact absurd H (by simp)
                      · rw [if_neg c32] at H
                        have c32b0 : decide (x61_2 < (t154.length : Int)) = false := decide_eq_false c32
                        clear c32
                        obtain rfl := Option.some.inj H
                        go_wp2
                        go_ret
                        exact ⟨by first | rfl | (simp [errW_none, errW_some] <;> rfl) | (simp only [← hji5]; first | rfl | (simp [errW_none, errW_some] <;> rfl)) | (simp [*, errW_none, errW_some] <;> rfl), by repeat (first | (with_reducible first | exact HB.out | apply below_alloc | apply pw_below_drewN | apply below_drew1) | exact HB.out)⟩
          · rw [if_neg c10] at H
            exact absurd H (by simp)
        · rw [if_neg c9] at H
          exact absurd H (by simp)
      · rw [if_neg c7] at H
        exact absurd H (by simp)
    · rw [if_neg c6] at H
      exact absurd H (by simp)
  · replace c4 := Bool.eq_false_iff.mpr c4
    subst c4
    have H1 : (some false) = some r := by rw [if_neg (show ¬ (false = true) by decide)] at H; exact H
    clear H
    have H := H1
    clear H1
    obtain rfl := Option.some.inj H
    go_enter Try.func4, Try.ntmps4
    go_wp2_with (first | ((with_reducible refine gate_callee (f := 10) rfl ?_); refine goesL_ (some 13) rfl rfl Try.func10 (by kernel_rfl) rfl #[] rfl (by (try simp only [List.map_toArray, List.map_cons, List.map_nil]); first | done | rfl | (simp only [List.length_drop, List.length_take]; rfl)) ?_; (with_reducible refine (heliographlaw08_wakes.calls k  false _ A3.out).mono ?_); rintro e w39 ⟨rfl, hb⟩; refine ⟨_, rfl, ?_⟩; have n0_ := Aside0.mk (below_step (by repeat (first | (with_reducible first | exact HB.out | apply below_alloc | apply pw_below_drewN | apply below_drew1) | exact HB.out)) hb); clear HB; have HB := n0_; clear n0_; (try clear hb); (try clear hb2); (try clear hk); (try clear hi)))
    go_ret
    exact ⟨by first | rfl | (simp [errW_none, errW_some] <;> rfl) | (simp [*, errW_none, errW_some] <;> rfl), by repeat (first | (with_reducible first | exact HB.out | apply below_alloc | apply pw_below_drewN | apply below_drew1) | exact HB.out)⟩

/-- THE ONE PURE STATEMENT of heliographlaw08_SdnvBack: yours. -/
def heliographlaw08_SdnvBack.Pure : Prop := ∀ (a0 : Int) (l1 : List Int), (Lit.int .u64 a0).wf = true → l1.length ≤ maxLen → l1.length * 1 ≤ 140737488351232 → (∀ x ∈ l1, (Lit.int .u8 x).wf = true) → ∃ k, heliographlaw08_SdnvBack.f k a0 l1 = some true
theorem heliographlaw08_SdnvBack.walk (P : heliographlaw08_SdnvBack.Pure) (a0 : Int) (a1 : Option Addr) (len1 cap1 : Nat) (z1 : List Int) (w : World) (w0 : (Lit.int .u64 a0).wf = true) (w1 : (a1 = none ∧ len1 = 0 ∧ cap1 = 0 ∧ z1 = []) ∨ ∃ x, a1 = some x ∧ len1 ≤ cap1 ∧ cap1 ≤ maxLen ∧ z1.length = cap1 ∧ (∀ i, i < z1.length → w.cell? (x.add i) = some (.int .u8 (z1.getD i 0))) ∧ ∀ n ∈ z1, (Lit.int .u8 n).wf = true) (y1 : len1 * 1 ≤ 140737488351232) :
    Calls Try.prog 4 #[.int .u64 a0, .slice a1 len1 cap1] w fun e w' => e = .returned (.bool true) ∧ Below w.heap.size w w' := by
  obtain ⟨l1, rfl, hr1, hm1, hw1, hc1⟩ := ReadsInt.ofRowC w1
  obtain ⟨k, h⟩ := P a0 l1 w0 hm1 y1 hw1
  refine (heliographlaw08_SdnvBack.calls k a0 _ _ l1 true w (Kd.C_of_reads (d := (0 : Int)) (h1 := fun _ => rfl) hr1) hc1 h).mono ?_
  rintro e w' ⟨rfl, hd⟩
  exact ⟨rfl, hd⟩

end Go.Proofs.Ytlohjfagiigchaa.P
