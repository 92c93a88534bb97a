/- Numbers in a row are got in a row. -/
import Derived.Test.YtlohjfagiigchaaPxf9
import Derived.Test.YtlohjfagiigchaaHRow
namespace Go.Proofs.Ytlohjfagiigchaa.Pure
open Go.RowKit Go.Proofs.YtlohjfagiigchaaW.PrintWords Go.Proofs.YtlohjfagiigchaaW.PrintLast Go.Proofs.YtlohjfagiigchaaW.PrintMore Go.Proofs.Ytlohjfagiigchaa.P
set_option linter.unusedVariables false
set_option linter.unusedSimpArgs false
theorem many_l0 {l : List Int} (hl : l.length < 1000) : ∀ (m i : Nat), m + i = l.length → Ev (fun k => heliographlaw08_SdnvMany.l0 k l l (l.length : Int) (i : Int)) true
  | 0, i, h => Ev.one fun k => by
    show heliographlaw08_SdnvMany.l0 (k + 1) _ _ _ _ = _
    simp only [heliographlaw08_SdnvMany.l0]
    rw [if_neg (by omega)]
  | m + 1, i, h => by
    refine Ev.step (f := fun k => heliographlaw08_SdnvMany.l0 k l l (l.length : Int) ((i + 1 : Nat) : Int)) (fun k => ?_) (many_l0 hl m (i + 1) (by omega))
    simp only [heliographlaw08_SdnvMany.l0]
    rw [if_pos (by omega), if_pos (by omega), if_pos (by omega), if_pos (by omega), if_pos trivial, w64_succ (by omega)]
theorem SdnvMany : heliographlaw08_SdnvMany.Pure := by
  intro l0 l1 _ _ hw0 _ _ hw1
  obtain ⟨l, rfl, h64⟩ := ofN_wf hw0
  have hb := bytes_wf hw1
  apply Ev.rounds
  unfold heliographlaw08_SdnvMany.f
  refine Ev.bind wakes_ev ?_
  simp only [if_true]
  obtain ⟨q, hq, hq2⟩ : ∃ q : Nat, mn ((ofN l).length : Int) 200 = (q : Int) ∧ q ≤ 200 ∧ q ≤ (ofN l).length := ⟨min (ofN l).length 200, by unfold mn; split <;> omega, by omega, by omega⟩
  obtain ⟨p, hp, hp2⟩ : ∃ p : Nat, mn (l1.length : Int) 50 = (p : Int) ∧ p ≤ 50 ∧ p ≤ l1.length := ⟨min l1.length 50, by unfold mn; split <;> omega, by omega, by omega⟩
  rw [hq, hp]
  have hx : (ofN l).take (q : Int).toNat = ofN (l.take q) := by simp [ofN]
  have hxl : (l.take q).length = q := by rw [List.length_take]; rw [ofN_length] at hq2; omega
  have h64' : ∀ n ∈ l.take q, n < 2 ^ 64 := fun n hn => h64 n (List.mem_of_mem_take hn)
  have hyl : (l1.take (p : Int).toNat).length = p := by rw [List.length_take]; omega
  have hyb := hb.take (p : Int).toNat
  rw [hx]
  generalize l1.take (p : Int).toNat = y at hyl hyb
  generalize l.take q = x at hxl h64'
  have hr := rowb_length x
  have h1 := row_ev (l := x) (by omega) h64'
  have h2 := rows_ev (b := rowb x ++ y) ((rowb_bytes x).append hyb) (by rw [List.length_append]; omega) (x.length : Int)
  rw [rows_back (by omega) h64'] at h2
  refine Ev.pos (by omega) (Ev.pos (by omega) (Ev.som (Ev.pos (by omega) (Ev.pos (by omega) (Ev.som (Ev.bind h1 (Ev.som (Ev.pos (by simp; omega) (Ev.som (Ev.pos (by simp; omega) ?_))))))))))
  rw [ofN_length]
  refine Ev.bind h2 (Ev.pos rfl (Ev.pos rfl ?_))
  show Ev (fun k => heliographlaw08_SdnvMany.j0 k (ofN x) (ofN x) (((ofN x).length : Int) != (x.length : Int))) true
  have hlen := ofN_length x
  have := many_l0 (l := ofN x) (by omega) (ofN x).length 0 rfl
  refine Ev.step (fun k => ?_) this
  rw [heliographlaw08_SdnvMany.j0, if_neg (by simp [hlen])]
  rfl
end Go.Proofs.Ytlohjfagiigchaa.Pure
