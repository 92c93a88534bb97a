/- What was put is got. -/
import Derived.Test.YtlohjfagiigchaaPxf4
import Derived.Test.YtlohjfagiigchaaHSdnv
namespace Go.Proofs.Ytlohjfagiigchaa.Pure
open Go.RowKit Go.Proofs.YtlohjfagiigchaaW.PrintWords Go.Proofs.YtlohjfagiigchaaW.PrintLast Go.Proofs.YtlohjfagiigchaaW.PrintMore Go.Proofs.Ytlohjfagiigchaa.P
set_option linter.unusedVariables false
set_option linter.unusedSimpArgs false
theorem back_l0 {n : Nat} (hn : n < 2 ^ 64) : ∀ (m i : Nat), m + i = sz n → Ev (fun k => heliographlaw08_SdnvBack.l0 k (pl n (sz n)) (sz n : Int) (i : Int)) true
  | 0, i, h => Ev.one fun k => by
    show heliographlaw08_SdnvBack.l0 (k + 1) _ _ _ = _
    simp only [heliographlaw08_SdnvBack.l0]
    rw [if_neg (by omega)]
  | m + 1, i, h => by
    have hle := sz_le n
    have hg := get_ev (l := (pl n (sz n)).take i) ((pl_bytes n _).take i) (by rw [List.length_take, pl_length]; omega)
    rw [gets_short hn (by omega)] at hg
    refine Ev.step (f := fun k => (sdnv_Get.f k ((pl n (sz n)).take i)).bind fun b => if b.2.2 = 7 then heliographlaw08_SdnvBack.l0 k (pl n (sz n)) (sz n : Int) ((i + 1 : Nat) : Int) else some false) (fun k => ?_) (Ev.bind hg ?_)
    · simp only [heliographlaw08_SdnvBack.l0]
      rw [if_pos (by omega), if_pos (by omega), if_pos (by rw [pl_length]; omega), Int.toNat_natCast, w64_succ (by omega)]
    · simp only [if_true]
      exact back_l0 hn m (i + 1) (by omega)
theorem SdnvBack : heliographlaw08_SdnvBack.Pure := by
  intro a l hw hl1 hl2 hlw
  obtain ⟨n, rfl, hn⟩ := u64_wf hw
  have hb := bytes_wf hlw
  apply Ev.rounds
  unfold heliographlaw08_SdnvBack.f
  refine Ev.bind wakes_ev ?_
  simp only [if_true]
  obtain ⟨q, hq, hq2⟩ : ∃ q : Nat, mn (l.length : Int) 100 = (q : Int) ∧ q ≤ 100 ∧ q ≤ l.length := ⟨min l.length 100, by unfold mn; split <;> omega, by omega, by omega⟩
  have hle := sz_le n
  have hp := sz_pos n
  rw [hq]
  have h1 := put_ev (l := []) hn (by decide)
  rw [List.nil_append] at h1
  have hlen : (l.take (q : Int).toNat).length ≤ 100 := by rw [List.length_take, Int.toNat_natCast]; omega
  have h2 := get_ev (l := pl n (sz n) ++ l.take (q : Int).toNat) ((pl_bytes n _).append (hb.take _)) (by rw [List.length_append, pl_length]; omega)
  rw [gets_pl hn] at h2
  refine Ev.pos (by omega) (Ev.pos (by omega) (Ev.som (Ev.bind h1 (Ev.som (Ev.pos (by rw [pl_length]; simp; omega) (Ev.som (Ev.pos (by rw [List.nil_append, pl_length]; omega) (Ev.bind h2 (Ev.pos rfl (Ev.pos (by rw [pl_length]) (Ev.pos rfl (Ev.bind (size_ev hn) (Ev.pos rfl (Ev.neg (by show ¬ ((sz n : Int) < 1); omega) ?_))))))))))))))
  show Ev (fun k => heliographlaw08_SdnvBack.j0 k (pl n (sz n)) (decide ((sz n : Int) > 10))) true
  rw [decide_eq_false (by omega)]
  refine Ev.step (f := fun k => heliographlaw08_SdnvBack.l0 k (pl n (sz n)) (sz n : Int) ((0 : Nat) : Int)) (fun k => ?_) (back_l0 hn (sz n) 0 rfl)
  simp only [heliographlaw08_SdnvBack.j0]
  rw [pl_length]
  rfl
end Go.Proofs.Ytlohjfagiigchaa.Pure
