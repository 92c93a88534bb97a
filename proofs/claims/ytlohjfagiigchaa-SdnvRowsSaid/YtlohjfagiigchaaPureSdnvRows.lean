/- Which numbers any bytes begin with. -/
import Derived.Test.YtlohjfagiigchaaPxf8
import Derived.Test.YtlohjfagiigchaaPxf21
import Derived.Test.YtlohjfagiigchaaHRef
import Derived.Test.YtlohjfagiigchaaHRow
namespace Go.Proofs.Ytlohjfagiigchaa.Pure
open Go.RowKit Go.Proofs.YtlohjfagiigchaaW.PrintWords Go.Proofs.YtlohjfagiigchaaW.PrintLast Go.Proofs.YtlohjfagiigchaaW.PrintMore Go.Proofs.Ytlohjfagiigchaa.P
set_option linter.unusedVariables false
set_option linter.unusedSimpArgs false
theorem refrows_l0 {b : List Int} (hb : Bytes b) (hl : b.length < 140737488355328) (N : Nat) (hN : N ≤ 65536) : ∀ (m at_ : Nat) (acc : List Int), m + acc.length = N → at_ ≤ b.length → Ev (fun k => heliographref08_Rows.l0 k b (N : Int) acc (at_ : Int)) (rowsS m acc at_ (b.drop at_))
  | 0, at_, acc, h, ha => Ev.one fun k => by
    show heliographref08_Rows.l0 (k + 1) _ _ _ _ = _
    simp only [heliographref08_Rows.l0]
    rw [if_neg (by omega), rowsS]
  | m + 1, at_, acc, h, ha => by
    have hbd := hb.drop at_
    have hg := refget_ev (l := b.drop at_) hbd (by rw [List.length_drop]; omega)
    rw [rowsS]
    refine Ev.step (f := fun k => (heliographref08_Get.f k (b.drop at_)).bind fun t => if t.2.2 = 0 then heliographref08_Rows.l0 k b (N : Int) (acc ++ [t.1]) (wrap64 ((at_ : Int) + t.2.1)) else some ([], 0, t.2.2)) (fun k => ?_) (Ev.bind hg ?_)
    · simp only [heliographref08_Rows.l0]
      rw [if_pos (by omega), if_pos (by omega), if_pos (by omega), Int.toNat_natCast]
      simp only [show acc.length < 17592186044416 by omega, if_true]
    · by_cases h0 : (gets (b.drop at_)).2.2 = 0
      · refine Ev.pos h0 ?_
        rw [if_pos h0]
        obtain ⟨j, e, hj, hj0⟩ := gets_len hbd h0
        rw [List.length_drop] at hj
        rw [e, Int.toNat_natCast, List.drop_drop, show wrap64 ((at_ : Int) + (j : Int)) = ((at_ + j : Nat) : Int) by unfold wrap64; omega]
        exact refrows_l0 hb hl N hN m (at_ + j) _ (by simp; omega) (by omega)
      · refine Ev.neg h0 ?_
        rw [if_neg h0]
        exact Ev.now _
theorem refrows_ev {b : List Int} (hb : Bytes b) (hl : b.length < 140737488355328) (n : Int) : Ev (fun k => heliographref08_Rows.f k b n) (rows b n) := by
  unfold heliographref08_Rows.f rows
  by_cases h1 : n < 0
  · refine Ev.pos h1 (Ev.one fun k => ?_)
    show heliographref08_Rows.j0 (k + 1) _ _ _ = _
    rw [if_pos (.inl h1), heliographref08_Rows.j0, if_pos rfl]
  · refine Ev.neg h1 ?_
    by_cases h2 : n > 65536
    · rw [decide_eq_true h2, if_pos (.inr h2)]
      exact Ev.one fun k => by
        show heliographref08_Rows.j0 (k + 1) _ _ _ = _
        rw [heliographref08_Rows.j0, if_pos rfl]
    · rw [decide_eq_false h2, if_neg (by omega)]
      obtain ⟨N, rfl⟩ := Int.eq_ofNat_of_zero_le (show 0 ≤ n by omega)
      rw [Int.toNat_natCast]
      have := refrows_l0 hb hl N (by omega) N 0 [] rfl (by omega)
      rw [List.drop_zero] at this
      refine Ev.step (fun k => ?_) this
      simp only [heliographref08_Rows.j0]
      rfl
theorem rowsS_len : ∀ (m : Nat) (acc : List Int) (at_ : Nat) (b : List Int), (rowsS m acc at_ b).1.length ≤ m + acc.length
  | 0, acc, at_, b => by simp [rowsS]
  | m + 1, acc, at_, b => by
    rw [rowsS]
    split
    · have := rowsS_len m (acc ++ [(gets b).1]) (at_ + (gets b).2.1.toNat) (b.drop (gets b).2.1.toNat)
      simp at this
      omega
    · simp
theorem rows_len (b : List Int) (n : Int) : (rows b n).1.length ≤ 65536 := by
  unfold rows
  split
  · simp
  · have := rowsS_len n.toNat [] 0 b
    simp at this
    omega
section
variable {b : List Int} {n : Int} {l want : List Int} {x y : Int}
theorem rowsl1 (rnd : Int) (hl : want.length ≤ 65536) (K : Ev (fun k => heliographlaw08_SdnvRows.l0 k b n l want x y (wrap64 (rnd + 1))) true) : ∀ (m i : Nat) (got : List Int), m + i = want.length → got.length = want.length → got.drop i = want.drop i → Ev (fun k => heliographlaw08_SdnvRows.l1 k b n l want x y rnd got (want.length : Int) (i : Int)) true
  | 0, i, got, h, hg, he => by
    refine Ev.step (fun k => ?_) K
    simp only [heliographlaw08_SdnvRows.l1]
    rw [if_neg (by omega)]
  | m + 1, i, got, h, hg, he => by
    have hi : i < want.length := by omega
    have hi2 : i < got.length := by omega
    rw [List.drop_eq_getElem_cons hi, List.drop_eq_getElem_cons hi2] at he
    injection he with e1 e2
    refine Ev.step (fun k => ?_) (rowsl1 rnd hl K m (i + 1) (got.set i 9) (by omega) (by simpa using hg) (by rw [List.drop_set_of_lt (by omega), e2]))
    simp only [heliographlaw08_SdnvRows.l1]
    rw [if_pos (by omega), if_pos (by omega), if_pos (by omega), if_pos (by omega), rd_at hi, rd_at hi2, if_pos e1, Int.toNat_natCast, w64_succ (by omega)]
end
theorem rowsl0 {b : List Int} {n : Int} (hb : Bytes b) (hl : b.length < 140737488355328) : ∀ (m : Nat) (i : Int), (m : Int) + i = 2 → 0 ≤ i → Ev (fun k => heliographlaw08_SdnvRows.l0 k b n b (rows b n).1 (rows b n).2.1 (rows b n).2.2 i) true
  | 0, i, h, _ => Ev.one fun k => by
    show heliographlaw08_SdnvRows.l0 (k + 1) _ _ _ _ _ _ _ = _
    simp only [heliographlaw08_SdnvRows.l0]
    rw [if_neg (by omega)]
  | m + 1, i, h, h0 => by
    have hlen := rows_len b n
    refine Ev.step (fun k => by rw [heliographlaw08_SdnvRows.l0]) (Ev.pos (by omega) (Ev.bind (rows_ev hb hl n) (Ev.pos rfl (Ev.pos rfl (Ev.pos rfl (Ev.eq (equal_at hb hb) ?_))))))
    rw [decide_eq_true rfl]
    have hw : wrap64 (i + 1) = i + 1 := by unfold wrap64; omega
    have := rowsl1 (b := b) (n := n) (l := b) (want := (rows b n).1) (x := (rows b n).2.1) (y := (rows b n).2.2) i hlen (by rw [hw]; exact rowsl0 hb hl m (i + 1) (by omega) (by omega)) (rows b n).1.length 0 (rows b n).1 (by omega) rfl rfl
    refine Ev.step (fun k => ?_) this
    simp only [heliographlaw08_SdnvRows.j1]
    rfl
theorem SdnvRows : heliographlaw08_SdnvRows.Pure := by
  intro l n hl1 hl2 hlw hnw
  have hb := bytes_wf hlw
  apply Ev.rounds
  unfold heliographlaw08_SdnvRows.f
  refine Ev.bind wakes_ev (Ev.pos rfl ?_)
  obtain ⟨q, hq, hq2⟩ : ∃ q : Nat, mn (l.length : Int) 70000 = (q : Int) ∧ q ≤ 70000 ∧ q ≤ l.length := ⟨min l.length 70000, by unfold mn; split <;> omega, by omega, by omega⟩
  rw [hq]
  have hx := hb.take (q : Int).toNat
  have hxl : (l.take (q : Int).toNat).length = q := by rw [List.length_take]; omega
  generalize l.take (q : Int).toNat = x at hx hxl
  refine Ev.pos (by omega) (Ev.pos (by omega) (Ev.som (Ev.eq (own_at (by omega)) (Ev.bind (refrows_ev hx (by omega) n) ?_))))
  exact rowsl0 hx (by omega) 2 0 rfl (by omega)
end Go.Proofs.Ytlohjfagiigchaa.Pure
