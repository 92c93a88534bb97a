/- The plain law of SegmentBits: one turned bit is told by the sum. -/
import Derived.Test.YthjefcamonmjpaaVStmtSegmentBits
import Derived.Test.YthjefcamonmjpaaVPEnc
import Derived.Test.YthjefcamonmjpaaVPShort
namespace Go.Proofs.YthjefcamonmjpaaV
open Go Go.RowKit Go.Proofs.Ythjefcamonmjpaa Go.Proofs.Ythjefcamonmjpaa.Crc
set_option linter.unusedVariables false
theorem zero_same (k : Nat) : f9_ai10brrzai10bnnz (k + 8) 0 0 0 0 0 0 0 0 0 0 false [] [] 0 0 0 0 0 0 0 0 0 0 false = some (.o0 true) := rfl
theorem bit_turned {b : List Int} (hb : Bytes b) (j : Nat) (hj : j < 8 * (b.length + 4)) : ∃ (c : Nat), c < 256 ∧ (sealB b)[j / 8]? = some (c : Int) ∧
    ∃ out, out = (sealB b).set (j / 8) ((c ^^^ 2 ^ (7 - j % 8) : Nat) : Int) ∧ Bytes out ∧ out.length = b.length + 4 ∧ opensB out = .o0 [] 130 := by
  have hlen := sealB_length b
  have hq : j / 8 < (sealB b).length := by omega
  have hsb := sealB_bytes hb
  have hm := hsb _ (List.getElem_mem hq)
  obtain ⟨c, hc⟩ := Int.eq_ofNat_of_zero_le hm.1
  have hc2 : c < 256 := by omega
  have hp : 2 ^ (7 - j % 8) < 256 := Nat.lt_of_lt_of_le (Nat.pow_lt_pow_right (by decide) (show 7 - j % 8 < 8 by omega)) (by decide : 2 ^ 8 ≤ 256)
  have hx := xor_lt256 hc2 hp
  refine ⟨c, hc2, by rw [List.getElem?_eq_getElem hq, hc], _, rfl, ?_, by rw [List.length_set]; omega, ?_⟩
  · intro z hz
    rcases List.mem_or_eq_of_mem_set hz with hz | rfl
    · exact hsb z hz
    · omega
  · have hq2 : j / 8 < (toN (sealB b)).length := by rw [toN_length]; exact hq
    have hv := val_set (2 ^ (7 - j % 8)) hp (toN (sealB b)) (j / 8) hq2 (toN_lt hsb)
    have hg : (toN (sealB b))[j / 8] = c := by simp [toN, hc]
    rw [hg] at hv
    refine opens_turned hb ?_ (by rw [List.length_set]; omega) (v := 2 ^ (8 * (j / 8)) * 2 ^ (7 - j % 8)) (by rw [toN_set, hv]) ?_
    · intro z hz
      rcases List.mem_or_eq_of_mem_set hz with hz | rfl
      · exact hsb z hz
      · omega
    · exact burst good32 (8 * (j / 8)) (2 ^ (7 - j % 8)) _ (Nat.lt_of_lt_of_le hp (by decide)) (Nat.pos_iff_ne_zero.1 (Nat.two_pow_pos _)) (by omega)
theorem pureSegmentBits : StmtSegmentBits := by
  intro s x1 hs hx1
  refine Evn.get (p := fun k => _) ?_
  have cut : (List.take (s.Data.take 300).length (s.Data.take 300 ++ [7])) = s.Data.take 300 := by rw [List.take_left']; rfl
  have cut' : (List.take (s.Claims.take 40).length (s.Claims.take 40 ++ [T45.mk 77 0])) = s.Claims.take 40 := by rw [List.take_left']; rfl
  have hd : Bytes (shortT s).Data := fun x hx => wf_u8 (hs.2.2.2.2.2.2.2.2.2.2.2.1.2.2 x (List.mem_of_mem_take hx))
  have b1 : (shortT s).Data.length ≤ 300 := by simp only [shortT, List.length_take]; omega
  have b2 : (shortT s).Claims.length ≤ 40 := by simp only [shortT, List.length_take]; omega
  have q1 := short_sp s
  have q2 := enc_sp (shortT s) b1 hd b2
  refine Evn.up ((Evn.ge 30000).and (q1.and q2) |>.mono fun k ⟨hk, h1, h2⟩ => ?_)
  simp only [shortT] at h2
  simp only [f4_ai10brrzi, f4_ai10brrzi_e, f7_, ifE_pos (show 100 ≤ k by omega), Option.bind_some, Bool.not_true, cond_false, f4_ai10brrzi_j1, h1, List.drop_zero, cut, cut', List.length_append, Nat.zero_add]
  rw [ifE_pos (by omega), ifE_pos (by omega)]
  rcases h2 with ⟨c, hc, h2⟩ | ⟨b, h2, hb, hb3, hb4⟩
  · have e0 : (c != 0) = true := by simpa using hc
    simp only [h2, Option.bind_some, e0, cond_true]
    rfl
  · have e0 : ((0 : Int) != 0) = false := rfl
    have hr : roomy = 70368744177664 := rfl
    obtain ⟨n, hn, hn2⟩ := u64_nat x1
    have hL := sealB_length b
    obtain ⟨j, hj⟩ : ∃ j, j = n % (8 * (b.length + 4)) := ⟨_, rfl⟩
    have hj2 : j < 8 * (b.length + 4) := by rw [hj]; exact Nat.mod_lt _ (by omega)
    obtain ⟨c, hc, hget, out, hout, ho1, ho2, ho3⟩ := bit_turned hb j hj2
    have w1 : IntKind.i64.wrap ((8 : Int) * ((sealB b).length : Int)) = ((8 * (b.length + 4) : Nat) : Int) := by rw [wrap_i64 (by omega) (by omega)]; omega
    have w2 : IntKind.u64.wrap ((8 * (b.length + 4) : Nat) : Int) = ((8 * (b.length + 4) : Nat) : Int) := wrap_u64 (by omega) (by omega)
    have w3 : Int.tmod (n : Int) ((8 * (b.length + 4) : Nat) : Int) = (j : Int) := by rw [hj]; exact Int.ofNat_tmod n _
    have w4 : IntKind.i64.wrap (j : Int) = (j : Int) := wrap_i64 (by omega) (by omega)
    have w5 : IntKind.i64.wrap (Int.tdiv (j : Int) 8) = ((j / 8 : Nat) : Int) := by
      rw [show Int.tdiv (j : Int) 8 = ((j / 8 : Nat) : Int) from rfl]
      exact wrap_i64 (by omega) (by omega)
    have w6 : Int.tmod (j : Int) 8 = ((j % 8 : Nat) : Int) := Int.ofNat_tmod j 8
    have w7 : ∀ r : Fin 8, Int.fdiv (128 : Int) (2 ^ (min r.val (IntKind.bits .u8))) = ((2 ^ (7 - r.val) : Nat) : Int) := by decide +kernel
    have w8 := w7 ⟨j % 8, by omega⟩
    simp only at w8
    have hp : 2 ^ (7 - j % 8) < 256 := Nat.lt_of_lt_of_le (Nat.pow_lt_pow_right (by decide) (show 7 - j % 8 < 8 by omega)) (by decide : 2 ^ 8 ≤ 256)
    have ho := open32_at k out ho1 (by omega) (by omega)
    simp only [h2, Option.bind_some, e0, cond_false, f4_ai10brrzi_j2, w1, w2, hn, w3, w4, w5, w6, Int.toNat_natCast, w8, hget]
    rw [ifE_pos (by omega), ifE_pos (by omega), ifE_pos (by omega)]
    rw [ifE_pos (by omega)]
    rw [xor8 hc hp, ← hout]
    obtain ⟨k, rfl⟩ : ∃ m, k = m + 10 := ⟨k - 10, by omega⟩
    have ho := open32_at (k + 9) out ho1 (by omega) (by omega)
    have h7 : ¬ ((out.length : Int) < 7) := by omega
    simp only [f13_r, f13_r_e, decide_eq_false h7, cond_false, f13_r_j1, ho, ho3, Option.bind_some, show ((130 : Int) != 0) = true from rfl, cond_true, show ((130 : Int) == 130) = true from rfl, zero_same (k + 2)]
end Go.Proofs.YthjefcamonmjpaaV
