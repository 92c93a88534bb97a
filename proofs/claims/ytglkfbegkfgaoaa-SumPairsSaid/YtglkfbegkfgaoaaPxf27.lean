/- For each Go function told here: the plain function of what it answers, and that the translated program's call answers just that, wherever the plain function answers at all. Written by a program of this session, out of the translation. -/
import Derived.Test.YtglkfbegkfgaoaaPx0
import Derived.Test.YtglkfbegkfgaoaaPxf14
import Derived.Test.YtglkfbegkfgaoaaPxf16
namespace Go.Proofs.Ytglkfbegkfgaoaa.P
open Go.RowKit Go.Proofs.YtglkfbegkfgaoaaW.PrintWords Go.Proofs.YtglkfbegkfgaoaaW.PrintLast Go.Proofs.YtglkfbegkfgaoaaW.PrintMore
attribute [local go_sem] max2_int min2_int max_two min_two max_three min_three max_four min_four   -- for this text's walks alone
set_option linter.unusedVariables false
set_option linter.unusedSimpArgs false

/-! ### heliographref03_Opens: function 27 -/
def heliographref03_Opens.f (k : Nat) (l0 : List Int) (a1 : Int) : Option (Bool) := if (wrap64 ((l0.length : Int) - (wrap64 (Int.tdiv a1 8)))) ≥ 0 then (if 0 ≤ (wrap64 ((l0.length : Int) - (wrap64 (Int.tdiv a1 8)))) then (if (wrap64 ((l0.length : Int) - (wrap64 (Int.tdiv a1 8)))) ≤ (l0.length : Int) then ((heliographref03_Seal.f k (l0.take ((wrap64 ((l0.length : Int) - (wrap64 (Int.tdiv a1 8)))) : Int).toNat) a1).bind fun t167 => ((heliographref01_Same.f k t167 l0).bind fun t170 => (some t170))) else (none)) else (none)) else (some false)
theorem heliographref03_Opens.mono : ∀ a0 a1 k, LeO (heliographref03_Opens.f k a0 a1) (heliographref03_Opens.f (k + 1) a0 a1) := by
  intro a0 a1 k
  unfold heliographref03_Opens.f
  repeat' first
      | (with_reducible exact heliographref01_Same.mono _ _ _)
      | (with_reducible exact heliographref03_Seal.mono _ _ _)
      | (with_reducible exact LeO.refl _)
      | (with_reducible exact LeO.none _)
      | (with_reducible refine LeO.ite ?_ ?_)
      | (with_reducible refine LeO.bind ?_ (fun _ => ?_))
      | exact heliographref01_Same.mono _ _ _
      | exact heliographref03_Seal.mono _ _ _
      | exact LeO.none _
      | refine LeO.ite ?_ ?_
      | refine LeO.bind ?_ (fun _ => ?_)
set_option maxHeartbeats 8000000 in
set_option maxRecDepth 100000 in
theorem heliographref03_Opens.calls (k : Nat) (A0 : Option Addr) (c0 : Nat) (l0 : List Int) (a1 : Int) (r : Bool) (w : World) (hr0 : Kd.C (Kd.int .u8) w A0 l0.length l0) (hc0 : l0.length ≤ c0) (h : heliographref03_Opens.f k l0 a1 = some r) :
    Calls Try.prog 27 #[.slice A0 l0.length c0, .int .i64 a1] w fun e w' => e = .returned (.bool r) ∧ Below w.heap.size w w' := by
  have HR0 := Aside0.mk hr0
  have HC0 := Aside0.mk hc0
  clear hr0 hc0
  have HB := Aside0.mk (Below.refl w.heap.size w)
  have H : (if (wrap64 ((l0.length : Int) - (wrap64 (Int.tdiv a1 8)))) ≥ 0 then (if 0 ≤ (wrap64 ((l0.length : Int) - (wrap64 (Int.tdiv a1 8)))) then (if (wrap64 ((l0.length : Int) - (wrap64 (Int.tdiv a1 8)))) ≤ (l0.length : Int) then ((heliographref03_Seal.f k (l0.take ((wrap64 ((l0.length : Int) - (wrap64 (Int.tdiv a1 8)))) : Int).toNat) a1).bind fun t167 => ((heliographref01_Same.f k t167 l0).bind fun t170 => (some t170))) else (none)) else (none)) else (some false)) = some r := h
  clear h
  by_cases c3 : (wrap64 ((l0.length : Int) - (wrap64 (Int.tdiv a1 8)))) ≥ 0
  · rw [if_pos c3] at H
    have c3b0 : decide (0 ≤ (wrap64 ((l0.length : Int) - (wrap64 (Int.tdiv a1 8))))) = true := decide_eq_true c3
    clear c3
    obtain ⟨ji4, hji4⟩ : ∃ j_ : Int, (wrap64 ((l0.length : Int) - (wrap64 (Int.tdiv a1 8)))) = j_ := ⟨_, rfl⟩
    replace H : (if 0 ≤ (ji4) then (if (ji4) ≤ (l0.length : Int) then ((heliographref03_Seal.f k (l0.take ((ji4) : Int).toNat) a1).bind fun t167 => ((heliographref01_Same.f k t167 l0).bind fun t170 => (some t170))) else (none)) else (none)) = some r := by first | (rw [hji4] at H; exact H) | (simp only [hji4] at H ⊢; exact H)
    (try rw [hji4] at c3b0)
    have hji4w : (IntKind.i64.wrap ((l0.length : Int) - (wrap64 (Int.tdiv a1 8)))) = ji4 := (i64_w _).trans hji4
    by_cases c5 : 0 ≤ (ji4)
    · rw [if_pos c5] at H
      have c5b0 := eq_true c5
      have c5b1 : decide (0 ≤ (ji4)) = true := decide_eq_true c5
      clear c5
      by_cases c6 : (ji4) ≤ (l0.length : Int)
      · rw [if_pos c6] at H
        have c6b0 := eq_true c6
        have c6b1 : decide ((ji4) ≤ (l0.length : Int)) = true := decide_eq_true c6
        clear c6
        replace H := Option.bind_eq_some_iff.mp H
        obtain ⟨t167, A70, H⟩ := H
        replace H : ((heliographref01_Same.f k t167 l0).bind fun t170 => (some t170)) = some r := H
        have A7 := Aside0.mk A70
        clear A70
        replace H := Option.bind_eq_some_iff.mp H
        obtain ⟨t170, A80, H⟩ := H
        replace H : (some t170) = some r := H
        have A8 := Aside0.mk A80
        clear A80
        obtain rfl := Option.some.inj H
        obtain ⟨i09, hi09, _, hsz9, _⟩ := info_parts info5
        obtain ⟨hcut9, hA9, hC9⟩ := print_take_of (P := Try.prog) (Value.int .u8) 0 22 5 .i64 Try.underlying22 hi09 hsz9 A0 c0 l0 (ji4) (of_decide_eq_true (by first | (with_reducible assumption) | assumption)) (of_decide_eq_true (by first | (with_reducible assumption) | assumption)) HC0.out
        have HR166 := Aside0.mk (Kd.C_of_reads (h1 := fun _ => rfl) (hA9 _ (Kd.reads_of_C HR0.out)))
        have HC166 := Aside0.mk hC9
        clear hA9 hC9 hi09 hsz9
        go_enter Try.func27, Try.ntmps27
        go_wp2_with (first | (go_at_call 16; refine calls_of_args (args' := #[.slice A0 (l0.take ((ji4) : Int).toNat).length c0, .int .i64 a1]) (by first | (rw [show (l0.take ((ji4) : Int).toNat).length = ((ji4) : Int).toNat from (by rw [List.length_take]; have z_ : (ji4) ≤ (l0.length : Int) := of_decide_eq_true (by first | (with_reducible assumption) | assumption); omega)] <;> rfl) | rfl) ?_; (with_reducible refine (heliographref03_Seal.calls k _ _ (l0.take ((ji4) : Int).toNat) a1 t167 _ ?side1 ?side2 A7.out).mono ?_); (case side1 => repeat (first | exact HR166.out | (with_reducible refine Kd.C_alloc ?_ _) | (with_reducible refine Kd.C_drewN ?_ _) | (with_reducible refine Kd.C_drew ?_))); (case side2 => exact HC166.out); rintro e w10 ⟨v168, rfl, ho0, hb⟩; have n0_ := Aside0.mk (Kd.R_lower ho0 (below_size (by repeat (first | (with_reducible first | exact HB.out | apply below_alloc | apply pw_below_drewN | apply below_drew1) | exact HB.out)))); have n1_ := Aside0.mk (below_step (by repeat (first | (with_reducible first | exact HB.out | apply below_alloc | apply pw_below_drewN | apply below_drew1) | exact HB.out)) hb); clear HB; have HO169 := n0_; have HB := n1_; clear n0_ n1_; (try clear hb); (try clear hb2); (try clear hk); (try clear hi); (try clear ho0); obtain ⟨Ao11, co11, eo11⟩ := Kd.R_slice HO169.out; subst eo11) | (go_at_call 14; (with_reducible refine (heliographref01_Same.calls k _ _ t167 _ _ l0 t170 _ ?side1 ?side2 ?side3 ?side4 A8.out).mono ?_); (case side1 => repeat (first | exact (Kd.R_reads' HO169.out).2.2 | (with_reducible refine Kd.C_alloc ?_ _) | (with_reducible refine Kd.C_drewN ?_ _) | (with_reducible refine Kd.C_drew ?_))); (case side2 => exact (Kd.R_reads' HO169.out).2.1); (case side3 => repeat (first | exact (Kd.C_below HR0.out HB.out) | (with_reducible refine Kd.C_alloc ?_ _) | (with_reducible refine Kd.C_drewN ?_ _) | (with_reducible refine Kd.C_drew ?_))); (case side4 => exact HC0.out); rintro e w' ⟨rfl, ⟨nd, rfl⟩⟩))
        go_ret
        exact ⟨by first | rfl | (simp [errW_none, errW_some] <;> rfl) | (simp only [← hji4]; first | rfl | (simp [errW_none, errW_some] <;> rfl)) | (simp [*, errW_none, errW_some] <;> rfl), by repeat (first | (with_reducible first | exact HB.out | apply below_alloc | apply pw_below_drewN | apply below_drew1) | exact HB.out)⟩
      · rw [if_neg c6] at H
        exact absurd H (by simp)
    · rw [if_neg c5] at H
      exact absurd H (by simp)
  · rw [if_neg c3] at H
    have c3b0 : decide (0 ≤ (wrap64 ((l0.length : Int) - (wrap64 (Int.tdiv a1 8))))) = false := decide_eq_false c3
    clear c3
    obtain rfl := Option.some.inj H
    go_enter Try.func27, Try.ntmps27
    go_wp2
    go_ret
    exact ⟨by first | rfl | (simp [errW_none, errW_some] <;> rfl) | (simp [*, errW_none, errW_some] <;> rfl), by repeat (first | (with_reducible first | exact HB.out | apply below_alloc | apply pw_below_drewN | apply below_drew1) | exact HB.out)⟩

end Go.Proofs.Ytglkfbegkfgaoaa.P
