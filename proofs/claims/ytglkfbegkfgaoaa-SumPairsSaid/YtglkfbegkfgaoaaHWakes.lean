/- The layer's first question of itself: both sums of the bytes of "123456789". -/
import Derived.Test.YtglkfbegkfgaoaaPxf10
import Derived.Test.YtglkfbegkfgaoaaPxf12
import Derived.Lib.SmallJoins
namespace Go.Proofs.Ytglkfbegkfgaoaa.P
open Go.RowKit Go.Proofs.YtglkfbegkfgaoaaW.PrintWords Go.Proofs.YtglkfbegkfgaoaaW.PrintLast Go.Proofs.YtglkfbegkfgaoaaW.PrintMore
set_option linter.unusedVariables false
set_option linter.unusedSimpArgs false
def nine : List Int := [49, 50, 51, 52, 53, 54, 55, 56, 57]
def heliographlaw03_wakes.f (k : Nat) : Option (Bool) := (sum_Sum16.f k nine).bind fun t108 => (if t108 = 36974 then ((sum_Sum32.f k nine).bind fun t109 => (some (t109 == 3808858755))) else (some false))
theorem heliographlaw03_wakes.mono : ∀ k, LeO (heliographlaw03_wakes.f k) (heliographlaw03_wakes.f (k + 1)) := by
  intro k
  unfold heliographlaw03_wakes.f
  exact LeO.bind (sum_Sum16.mono _ _) fun _ => LeO.ite (LeO.bind (sum_Sum32.mono _ _) fun _ => LeO.refl _) (LeO.refl _)
def nineW (w : World) : World := w.alloc (.cells #[.int .u8 49, .int .u8 50, .int .u8 51, .int .u8 52, .int .u8 53, .int .u8 54, .int .u8 55, .int .u8 56, .int .u8 57] 5 (9, 10))
theorem nine_reads (w : World) : Kd.C (Kd.int .u8) (nineW w) (some ⟨w.heap.size, 0, none⟩) nine.length nine := by
  refine Kd.C_of_reads (d := (0 : Int)) (h1 := fun _ => rfl) ⟨rfl, by decide, fun _ => ⟨_, rfl, fun j hj => ?_⟩⟩
  rw [show (⟨w.heap.size, 0, none⟩ : Addr).add j = ⟨w.heap.size, j, none⟩ from add_plain _ _]
  show (w.alloc _).cell? _ = _
  rw [World.cell?_alloc_mark w _ _ _ j]
  have hj' : j < 9 := hj
  rcases j with _ | _ | _ | _ | _ | _ | _ | _ | _ | j
  all_goals first | rfl | omega
set_option maxHeartbeats 8000000 in
set_option maxRecDepth 100000 in
theorem heliographlaw03_wakes.calls (k : Nat) (r : Bool) (w : World) (h : heliographlaw03_wakes.f k = some r) :
    Calls Try.prog 9 #[] w fun e w' => e = .returned (.bool r) ∧ Below w.heap.size w w' := by
  unfold heliographlaw03_wakes.f at h
  obtain ⟨t1, h1, h⟩ := Option.bind_eq_some_iff.mp h
  have H1 := Aside0.mk h1
  have HR := Aside0.mk (nine_reads w)
  have HB := Aside0.mk (show Below w.heap.size w (nineW w) from below_alloc (Below.refl _ _) _)
  have hcv : (convert 22 22 (.slice (some ⟨w.heap.size, 0, none⟩) 9 9)).run Try.prog (w.alloc (.cells #[.int .u8 49, .int .u8 50, .int .u8 51, .int .u8 52, .int .u8 53, .int .u8 54, .int .u8 55, .int .u8 56, .int .u8 57] 5)) = .ok (.slice (some ⟨w.heap.size, 0, none⟩) 9 9) (nineW w) := Lib.run_convert_bytes_const w 22 5 #[.int .u8 49, .int .u8 50, .int .u8 51, .int .u8 52, .int .u8 53, .int .u8 54, .int .u8 55, .int .u8 56, .int .u8 57] 9 9 Try.underlying22 Try.underlying5
  clear h1
  by_cases c : t1 = 36974
  · rw [if_pos c] at h
    obtain ⟨t2, h2, h⟩ := Option.bind_eq_some_iff.mp h
    obtain rfl := Option.some.inj h
    have H2 := Aside0.mk h2
    have cb : (t1 == 36974) = true := beq_iff_eq.mpr c
    clear h2 h c
    go_enter Try.func9, Try.ntmps9
    go_wp2_with (first
      | (go_at_call 10; refine (sum_Sum16.calls k _ _ nine t1 _ HR.out (by decide) H1.out).mono ?_; rintro e w' ⟨rfl, ⟨nd, rfl⟩⟩)
      | (go_at_call 12; refine (sum_Sum32.calls k _ _ nine t2 _ (Kd.C_drewN HR.out nd) (by decide) H2.out).mono ?_; rintro e w' ⟨rfl, ⟨nd2, rfl⟩⟩))
    go_ret
    exact ⟨rfl, pw_below_drewN HB.out _⟩
  · rw [if_neg c] at h
    obtain rfl := Option.some.inj h
    have cb : (t1 == 36974) = false := beq_eq_false_iff_ne.mpr c
    clear h c
    go_enter Try.func9, Try.ntmps9
    go_wp2_with (first
      | (go_at_call 10; refine (sum_Sum16.calls k _ _ nine t1 _ HR.out (by decide) H1.out).mono ?_; rintro e w' ⟨rfl, ⟨nd, rfl⟩⟩))
    go_ret
    exact ⟨rfl, pw_below_drewN HB.out nd⟩
end Go.Proofs.Ytglkfbegkfgaoaa.P
