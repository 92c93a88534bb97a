/- The document's own answers, as the printed functions give them: numbers to the base 128; bytes with one behind them. -/
import Derived.Test.YtlohjfagiigchaaPxf13
import Derived.Test.YtlohjfagiigchaaPxf11
import Derived.Test.YtlohjfagiigchaaHSdnv
namespace Go.Proofs.Ytlohjfagiigchaa.P
open Go.RowKit Go.Proofs.YtlohjfagiigchaaW.PrintWords Go.Proofs.YtlohjfagiigchaaW.PrintLast Go.Proofs.YtlohjfagiigchaaW.PrintMore
set_option linter.unusedVariables false
set_option linter.unusedSimpArgs false
theorem own_at {l : List Int} (h : l.length < 1000000000) : heliographlaw08_own.f l = some l := by
  unfold heliographlaw08_own.f
  have hw : wrap64 ((l.length : Int) + 2) = ((l.length + 2 : Nat) : Int) := by unfold wrap64; omega
  rw [hw, if_pos (by omega), if_pos (by omega)]
  simp only [Option.bind_some, List.replicate_zero, List.nil_append, List.length_nil, Nat.zero_add, List.length_append, List.length_singleton]
  rw [if_pos (by omega), if_pos (by omega), if_pos (by omega), if_pos (by omega), Int.toNat_natCast, List.take_left]
theorem refget_l0 {l : List Int} (hb : Bytes l) (hl : l.length < 140737488355328) : ∀ (m i n : Nat), m + i = l.length → n < 2 ^ 64 → Ev (fun k => heliographref08_Get.l0 k (n : Int) l (l.length : Int) (i : Int)) (getS n i (l.drop i))
  | 0, i, n, hi, hn => Ev.one fun k => by
    show heliographref08_Get.l0 (k + 1) _ _ _ _ = _
    simp only [heliographref08_Get.l0]
    rw [if_neg (by omega), List.drop_eq_nil_of_le (by omega)]
    rfl
  | m + 1, i, n, hi, hn => by
    have hlt : i < l.length := by omega
    rw [List.drop_eq_getElem_cons hlt]
    obtain ⟨b0, b1⟩ := hb l[i] (List.getElem_mem hlt)
    have e1 : IntKind.u64.wrap (Int.tmod l[i] 128) = ((l[i].toNat % 128 : Nat) : Int) := by
      rw [show l[i] = ((l[i].toNat : Nat) : Int) by omega, show Int.tmod ((l[i].toNat : Nat) : Int) 128 = ((l[i].toNat % 128 : Nat) : Int) from rfl, Int.toNat_natCast]
      exact wrap_u64 _ (by omega) (by omega)
    have e2 : IntKind.u64.wrap (18446744073709551615 - ((l[i].toNat % 128 : Nat) : Int)) = ((18446744073709551615 - l[i].toNat % 128 : Nat) : Int) := by
      rw [wrap_u64 _ (by omega) (by omega)]; omega
    have e3 : IntKind.u64.wrap (Int.tdiv ((18446744073709551615 - l[i].toNat % 128 : Nat) : Int) 128) = (((18446744073709551615 - l[i].toNat % 128) / 128 : Nat) : Int) := by
      rw [show Int.tdiv ((18446744073709551615 - l[i].toNat % 128 : Nat) : Int) 128 = (((18446744073709551615 - l[i].toNat % 128) / 128 : Nat) : Int) from rfl]
      exact wrap_u64 _ (by omega) (by omega)
    simp only [getS]
    by_cases h1 : n ≥ 144115188075855872
    · rw [if_pos h1]
      refine Ev.one fun k => ?_
      show heliographref08_Get.l0 (k + 1) _ _ _ _ = _
      simp only [heliographref08_Get.l0]
      rw [if_pos (by omega), if_pos (by omega), if_pos (by omega), rd_at hlt, e1, e2, e3, if_pos (by omega)]
    · rw [if_neg h1]
      have e4 : IntKind.u64.wrap (IntKind.u64.wrap ((n : Int) * 128) + ((l[i].toNat % 128 : Nat) : Int)) = ((n * 128 + l[i].toNat % 128 : Nat) : Int) := by
        rw [wrap_u64 ((n : Int) * 128) (by omega) (by omega), wrap_u64 _ (by omega) (by omega)]; omega
      by_cases h2 : l[i] ≥ 128
      · rw [if_pos h2]
        refine Ev.step (f := fun k => heliographref08_Get.l0 k ((n * 128 + (l[i] % 128).toNat : Nat) : Int) l (l.length : Int) ((i + 1 : Nat) : Int)) (fun k => ?_) (refget_l0 hb hl m (i + 1) (n * 128 + (l[i] % 128).toNat) (by omega) (by omega))
        simp only [heliographref08_Get.l0]
        rw [if_pos (by omega), if_pos (by omega), if_pos (by omega), rd_at hlt, e1, e2, e3, if_neg (by omega), if_neg (by omega), e4, w64_succ (by omega), show (l[i] % 128).toNat = l[i].toNat % 128 by omega]
      · rw [if_neg h2]
        refine Ev.one fun k => ?_
        show heliographref08_Get.l0 (k + 1) _ _ _ _ = _
        simp only [heliographref08_Get.l0]
        rw [if_pos (by omega), if_pos (by omega), if_pos (by omega), rd_at hlt, e1, e2, e3, if_neg (by omega), if_pos (by omega), e4, w64_succ (by omega), show l[i].toNat % 128 = l[i].toNat by omega]
theorem refget_ev {l : List Int} (hb : Bytes l) (hl : l.length < 140737488355328) : Ev (fun k => heliographref08_Get.f k l) (gets l) := by
  have main : ∀ b : Bool, b = decide (l.head? = some 128) → Ev (fun k => heliographref08_Get.j0 k l b) (gets l) := by
    intro b hbb
    unfold gets
    by_cases h : l.head? = some 128
    · rw [if_pos h, hbb, decide_eq_true h]
      exact Ev.one fun k => by
        show heliographref08_Get.j0 (k + 1) _ _ = _
        rw [heliographref08_Get.j0, if_pos rfl]
    · rw [if_neg h, hbb, decide_eq_false h]
      have := refget_l0 hb hl l.length 0 0 (by omega) (by decide)
      rw [List.drop_zero] at this
      exact Ev.step (fun k => by rw [heliographref08_Get.j0, if_neg (by decide)]; rfl) this
  unfold heliographref08_Get.f
  cases l with
  | nil => exact Ev.neg (by simp) (main false (by simp))
  | cons c cs =>
    refine Ev.pos (by simp) (Ev.pos (by simp) (main _ ?_))
    rw [Bool.eq_iff_iff]
    simp [rd]
end Go.Proofs.Ytlohjfagiigchaa.P
