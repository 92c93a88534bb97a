/- The plain law of SegmentCut: what is turned within four bytes is told. -/
import Derived.Test.YthjefcamonmjpaaVStmtSegmentCut
import Derived.Test.YthjefcamonmjpaaVPDec
import Derived.Test.YthjefcamonmjpaaVPShort
namespace Go.Proofs.YthjefcamonmjpaaV
open Go Go.RowKit Go.Proofs.Ythjefcamonmjpaa Go.Proofs.Ythjefcamonmjpaa.Crc
set_option linter.unusedVariables false
set_option linter.unusedSimpArgs false
theorem mulpow_xor (k x y : Nat) : 2 ^ k * (x ^^^ y) = 2 ^ k * x ^^^ 2 ^ k * y := by
  have h : ∀ z, 2 ^ k * z = z <<< k := fun z => by rw [Nat.shiftLeft_eq, Nat.mul_comm]
  rw [h, h, h, Nat.shiftLeft_xor_distrib]
/-- Bytes side by side are turned. -/
theorem cut_l3 (k : Nat) (x2 : Int) (x : List Int) (L j e : Nat) (hL : L < 100000) (he : e = min L (j + 4)) (hj : j < L) : ∀ (d i n : Nat) (y : List Int), i + d = e → d < n → Bytes y → y.length = L →
    ∃ (y' : List Int) (m : Nat) (i' : Int), f6_ai10brrzii_l3 k n x2 (j : Int) (i : Int) x y = some (.o1 x2 (j : Int) i' false x y') ∧ Bytes y' ∧ y'.length = L ∧ m < 2 ^ (8 * d) ∧ val (toN y') = val (toN y) ^^^ (2 ^ (8 * i) * m)
  | 0, i, n, y, hi, hn, hb, hl => by
    obtain ⟨n, rfl⟩ : ∃ j, n = j + 1 := ⟨n - 1, by omega⟩
    have hw : IntKind.i64.wrap ((j : Int) + 4) = (j : Int) + 4 := wrap_i64 (by omega) (by omega)
    have hlt : ¬ ((i : Int) < (if ((y.length : Nat) : Int) < (j : Int) + 4 then ((y.length : Nat) : Int) else (j : Int) + 4)) := by split <;> omega
    refine ⟨y, 0, (i : Int), ?_, hb, hl, by simp, by simp⟩
    simp only [f6_ai10brrzii_l3, f6_ai10brrzii_l3_b, hw, decide_eq_false hlt, cond_false, Option.bind_some]
  | d + 1, i, n, y, hi, hn, hb, hl => by
    obtain ⟨n, rfl⟩ : ∃ j, n = j + 1 := ⟨n - 1, by omega⟩
    have hw : IntKind.i64.wrap ((j : Int) + 4) = (j : Int) + 4 := wrap_i64 (by omega) (by omega)
    have hw1 : IntKind.i64.wrap ((i : Int) + 1) = ((i + 1 : Nat) : Int) := by rw [wrap_i64 (by omega) (by omega)]; rfl
    have hlt : ((i : Int) < (if ((y.length : Nat) : Int) < (j : Int) + 4 then ((y.length : Nat) : Int) else (j : Int) + 4)) := by split <;> omega
    have h1 : i < y.length := by omega
    have g1 : y[i]? = some y[i] := List.getElem?_eq_getElem h1
    have hm := hb y[i] (List.getElem_mem h1)
    obtain ⟨c, hc⟩ := Int.eq_ofNat_of_zero_le hm.1
    have hc2 : c < 256 := by omega
    obtain ⟨q, hq, hq2⟩ : ∃ q : Nat, IntKind.u8.wrap (x2 + IntKind.u8.wrap (i : Int)) = (q : Int) ∧ q < 256 := by
      rw [IntKind.wrap_u8]
      generalize x2 + IntKind.u8.wrap (i : Int) = z
      exact ⟨(z % 256).toNat, by omega, by omega⟩
    have hx := xor_lt256 hc2 hq2
    have hb2 : Bytes (y.set i ((c ^^^ q : Nat) : Int)) := by
      intro z hz
      rcases List.mem_or_eq_of_mem_set hz with hz | rfl
      · exact hb z hz
      · omega
    obtain ⟨y', m, i', e1, e2, e3, e4, e5⟩ := cut_l3 k x2 x L j e hL he hj d (i + 1) n (y.set i ((c ^^^ q : Nat) : Int)) (by omega) (by omega) hb2 (by rw [List.length_set]; exact hl)
    have hi2 : i < (toN y).length := by rw [toN_length]; exact h1
    have hv := val_set q hq2 (toN y) i hi2 (toN_lt hb)
    have hg : (toN y)[i] = c := by simp [toN, hc]
    rw [hg] at hv
    refine ⟨y', q + 256 * m, i', ?_, e2, e3, ?_, ?_⟩
    · rw [← e1]
      simp only [f6_ai10brrzii_l3, f6_ai10brrzii_l3_b, hw, decide_eq_true hlt, cond_true, f6_ai10brrzii_l3_j1, ifE_pos (show (0 : Int) ≤ i by omega), ifE_pos (show (i : Int) < (y.length : Int) by omega), Int.toNat_natCast, g1, hc, Int.ofNat_eq_natCast, Option.bind_some, hq, xor8 hc2 hq2, f6_ai10brrzii_l3_j2, hw1]
    · rw [show 8 * (d + 1) = 8 * d + 8 by omega, Nat.pow_add, show (2 : Nat) ^ 8 = 256 from rfl]
      omega
    · rw [e5, toN_set, hv, Nat.xor_assoc, add_xor hq2, mulpow_xor, show 8 * (i + 1) = 8 * i + 8 by omega, Nat.pow_add, Nat.mul_assoc]
theorem pureSegmentCut : StmtSegmentCut := by
  intro s x1 x2 hs hx1 hx2
  refine Evn.get (p := fun k => _) ?_
  have cut : (List.take (s.Data.take 300).length (s.Data.take 300 ++ [7])) = s.Data.take 300 := by rw [List.take_left']; rfl
  have cut' : (List.take (s.Claims.take 40).length (s.Claims.take 40 ++ [T45.mk 77 0])) = s.Claims.take 40 := by rw [List.take_left']; rfl
  have hd : Bytes (shortT s).Data := fun x hx => wf_u8 (hs.2.2.2.2.2.2.2.2.2.2.2.1.2.2 x (List.mem_of_mem_take hx))
  have hw : Wf (shortT s) := ⟨wf_u32 hs.2.2.1, wf_u32 hs.2.2.2.1, wf_u32 hs.2.2.2.2.1, wf_i64 hs.2.2.2.2.2.2.1, hd, fun c hc => by
    have := hs.2.2.2.2.2.2.2.2.2.2.2.2.2.2 c (List.mem_of_mem_take hc)
    exact ⟨wf_i64 this.1, wf_i64 this.2⟩⟩
  have b1 : (shortT s).Data.length ≤ 300 := by simp only [shortT, List.length_take]; omega
  have b2 : (shortT s).Claims.length ≤ 40 := by simp only [shortT, List.length_take]; omega
  have q1 := short_sp s
  refine Evn.up ((Evn.ge 90000).and q1 |>.mono fun k ⟨hk, h1⟩ => ?_)
  have hr : roomy = 70368744177664 := rfl
  obtain ⟨h2, hg⟩ := enc_at (shortT s) k (by omega) hd (by omega) (by omega)
  simp only [shortT] at h2
  simp only [f6_ai10brrzii, f6_ai10brrzii_e, f7_, ifE_pos (show 100 ≤ k by omega), Option.bind_some, Bool.not_true, cond_false, f6_ai10brrzii_j1, h1, List.drop_zero, cut, cut', List.length_append, Nat.zero_add]
  rw [ifE_pos (by omega), ifE_pos (by omega)]
  change Option.bind _ _ = _
  have e26 : ({ s with Data := s.Data.take 300, Claims := s.Claims.take 40 } : T26) = shortT s := rfl
  simp only [h2, Option.bind_some, e26]
  by_cases hc : chkT (shortT s) = 0
  · have hdec := dec_fwd (shortT s) hw hc k (by omega) (by omega) (by omega) hg
    simp only [hc, if_true, show ((0 : Int) != 0) = false from rfl, cond_false]
    obtain ⟨b, hbe⟩ : ∃ b, b = bodyB (shortT s) := ⟨_, rfl⟩
    rw [← hbe] at hdec hg ⊢
    obtain ⟨hb, hb3, hb4⟩ := hg
    obtain ⟨n, hn, hn2⟩ := u64_nat x1
    have hL := sealB_length b
    have hsb := sealB_bytes hb
    obtain ⟨j, hj⟩ : ∃ j, j = n % (b.length + 4) := ⟨_, rfl⟩
    have hj2 : j < b.length + 4 := by rw [hj]; exact Nat.mod_lt _ (by omega)
    have w1 : IntKind.u64.wrap ((sealB b).length : Int) = ((b.length + 4 : Nat) : Int) := by rw [wrap_u64 (by omega) (by omega)]; omega
    have w3 : Int.tmod (n : Int) ((b.length + 4 : Nat) : Int) = (j : Int) := by rw [hj]; exact Int.ofNat_tmod n _
    have w4 : IntKind.i64.wrap (j : Int) = (j : Int) := wrap_i64 (by omega) (by omega)
    have hmin : j + (min (b.length + 4) (j + 4) - j) = min (b.length + 4) (j + 4) := by omega
    obtain ⟨y, m, i', e1, e2, e3, e4, e5⟩ := cut_l3 k x2 (sealB b) (b.length + 4) j (min (b.length + 4) (j + 4)) (by omega) rfl hj2 (min (b.length + 4) (j + 4) - j) j k (sealB b) hmin (by omega) hsb hL
    have hm32 : m < 2 ^ 32 := Nat.lt_of_lt_of_le e4 (Nat.pow_le_pow_right (by decide) (by omega))
    obtain ⟨k', rfl⟩ : ∃ m, k = m + 10 := ⟨k - 10, by omega⟩
    simp only [f6_ai10brrzii_j2, w1, hn, w3, w4]
    rw [ifE_pos (by omega)]
    simp only [f17_r, ifE_pos (show (sealB b).length * 1 ≤ roomy by omega), Option.bind_some, e1, f6_ai10brrzii_j4]
    by_cases hm0 : m = 0
    · subst hm0
      have hy : y = sealB b := by
        refine toN_inj e2 hsb (val_inj _ _ (toN_lt e2) (toN_lt hsb) (by rw [toN_length, toN_length, e3, hL]) ?_)
        rw [e5, Nat.mul_zero, Nat.xor_zero]
      subst hy
      obtain ⟨o, o1, o2⟩ := hdec
      simp only [o1, Option.bind_some]
      cases o with
      | o0 y0 y1 y2 y3 y4 y5 y6 y7 y8 y9 y10 y11 y12 y13 =>
        simp only [R13_r.val, Prod.mk.injEq] at o2
        simp [f16_rr, f16_rr_e, o2.2]
      | o1 y0 y1 y2 y3 y4 y5 y6 y7 y8 y9 y10 y11 y12 y13 =>
        simp only [R13_r.val, Prod.mk.injEq] at o2
        simp [f16_rr, f16_rr_e, o2.2]
    · have hop := opens_turned hb e2 e3 e5 (burst good32 (8 * j) m _ hm32 hm0 (by omega))
      have ho := open32_at (k' + 9) y e2 (by omega) (by omega)
      have h7 : ¬ ((y.length : Int) < 7) := by omega
      simp only [f13_r, f13_r_e, decide_eq_false h7, cond_false, f13_r_j1, ho, hop, Option.bind_some, show ((130 : Int) != 0) = true from rfl, cond_true, f16_rr, f16_rr_e, show ((130 : Int) == 130) = true from rfl, show ((130 : Int) == 0) = false from rfl]
      cases ((strOf (sealB b)).toList == (strOf y).toList) <;> rfl
  · have e0 : (chkT (shortT s) != 0) = true := by simpa using hc
    simp only [e0, cond_true, if_neg hc]
    rfl
end Go.Proofs.YthjefcamonmjpaaV
