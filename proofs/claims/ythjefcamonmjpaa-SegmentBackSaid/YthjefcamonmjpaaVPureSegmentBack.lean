/- The plain law of SegmentBack: encoded and decoded again; decoded and encoded again. -/
import Derived.Test.YthjefcamonmjpaaVStmtSegmentBack
import Derived.Test.YthjefcamonmjpaaVPLen
import Derived.Test.YthjefcamonmjpaaVPShort
namespace Go.Proofs.YthjefcamonmjpaaV
open Go Go.RowKit Go.Proofs.Ythjefcamonmjpaa
set_option linter.unusedVariables false
set_option linter.unusedSimpArgs false
theorem zero_same (k : Nat) : f9_ai10brrzai10bnnz (k + 8) 0 0 0 0 0 0 0 0 0 0 false [] [] 0 0 0 0 0 0 0 0 0 0 false = some (.o0 true) := rfl
theorem back_j2 (k : Nat) (hk : 80000 ≤ k) (l : List Int) (x : Bool) (hb : Bytes l) (hl : l.length ≤ 700) : f5_ai10brrzr_j2 k l x = some (.o0 true) := by
  obtain ⟨o, h1, h2⟩ := dec_back l hb hl k (by omega)
  obtain ⟨k, rfl⟩ : ∃ j, k = j + 10 := ⟨k - 10, by omega⟩
  simp only [f5_ai10brrzr_j2, h1, Option.bind_some]
  rcases h2 with ⟨a1, a2, a3, a4, a5, a6⟩ | ⟨a1, a2⟩
  · cases o with
    | o0 y0 y1 y2 y3 y4 y5 y6 y7 y8 y9 y10 y11 y12 y13 =>
      simp only [R13_r.val] at a1 a2 a3 a4 a5 a6
      obtain ⟨e1, e2⟩ := enc_at ⟨y0, y1, y2, y3, y4, y5, y6, y7, y8, y9, y10, y11, y13⟩ (k + 10) a4 a3 a5 (by omega)
      have e3 := chk_at ⟨y0, y1, y2, y3, y4, y5, y6, y7, y8, y9, y10, y11, y13⟩ (k + 10) a4 a5 (by omega)
      simp only [a2, if_true, a6] at e1 e3
      subst a1
      simp only [show ((0 : Int) != 0) = false from rfl, cond_false, f5_ai10brrzr_j3, e1, Option.bind_some, show ((0 : Int) == 0) = true from rfl, cond_true, f16_rr, f16_rr_e, beq_self_eq_true, e3]
    | o1 y0 y1 y2 y3 y4 y5 y6 y7 y8 y9 y10 y11 y12 y13 =>
      simp only [R13_r.val] at a1 a2 a3 a4 a5 a6
      obtain ⟨e1, e2⟩ := enc_at ⟨y0, y1, y2, y3, y4, y5, y6, y7, y8, y9, y10, y12, y13⟩ (k + 10) a4 a3 a5 (by omega)
      have e3 := chk_at ⟨y0, y1, y2, y3, y4, y5, y6, y7, y8, y9, y10, y12, y13⟩ (k + 10) a4 a5 (by omega)
      simp only [a2, if_true, a6] at e1 e3
      subst a1
      simp only [show ((0 : Int) != 0) = false from rfl, cond_false, f5_ai10brrzr_j4, e1, Option.bind_some, show ((0 : Int) == 0) = true from rfl, cond_true, f16_rr, f16_rr_e, beq_self_eq_true, e3]
  · have zs := zero_same (k + 2)
    cases o with
    | o0 y0 y1 y2 y3 y4 y5 y6 y7 y8 y9 y10 y11 y12 y13 =>
      simp only [R13_r.val, zeroT, T26.mk.injEq] at a1 a2
      obtain ⟨rfl, rfl, rfl, rfl, rfl, rfl, rfl, rfl, rfl, rfl, rfl, rfl, rfl⟩ := a1
      have hz : (y12 != 0) = true := by rcases a2 with rfl | rfl | rfl <;> rfl
      simp only [hz, cond_true, zs, Option.bind_some]
      rcases a2 with rfl | rfl | rfl <;> rfl
    | o1 y0 y1 y2 y3 y4 y5 y6 y7 y8 y9 y10 y11 y12 y13 =>
      simp only [R13_r.val, zeroT, T26.mk.injEq] at a1 a2
      obtain ⟨rfl, rfl, rfl, rfl, rfl, rfl, rfl, rfl, rfl, rfl, rfl, rfl, rfl⟩ := a1
      have hz : (y11 != 0) = true := by rcases a2 with rfl | rfl | rfl <;> rfl
      simp only [hz, cond_true, zs, Option.bind_some]
      rcases a2 with rfl | rfl | rfl <;> rfl
theorem pureSegmentBack : StmtSegmentBack := by
  intro s l hs hl
  refine Evn.get (p := fun k => _) ?_
  have cut : (List.take (s.Data.take 300).length (s.Data.take 300 ++ [7])) = s.Data.take 300 := by rw [List.take_left']; rfl
  have cut' : (List.take (s.Claims.take 40).length (s.Claims.take 40 ++ [T45.mk 77 0])) = s.Claims.take 40 := by rw [List.take_left']; rfl
  have hd : Bytes (shortT s).Data := fun x hx => wf_u8 (hs.2.2.2.2.2.2.2.2.2.2.2.1.2.2 x (List.mem_of_mem_take hx))
  have hw : Wf (shortT s) := ⟨wf_u32 hs.2.2.1, wf_u32 hs.2.2.2.1, wf_u32 hs.2.2.2.2.1, wf_i64 hs.2.2.2.2.2.2.1, hd, fun c hc => by
    have := hs.2.2.2.2.2.2.2.2.2.2.2.2.2.2 c (List.mem_of_mem_take hc)
    exact ⟨wf_i64 this.1, wf_i64 this.2⟩⟩
  have b1 : (shortT s).Data.length ≤ 300 := by simp only [shortT, List.length_take]; omega
  have b2 : (shortT s).Claims.length ≤ 40 := by simp only [shortT, List.length_take]; omega
  have q1 := short_sp s
  have hlb : Bytes l := fun x hx => wf_u8 (hl.2.2 x hx)
  refine Evn.up ((Evn.ge 90000).and q1 |>.mono fun k ⟨hk, h1⟩ => ?_)
  have hr : roomy = 70368744177664 := rfl
  obtain ⟨h2, hg⟩ := enc_at (shortT s) k (by omega) hd (by omega) (by omega)
  have h3 := chk_at (shortT s) k (by omega) (by omega) (by omega)
  have h4 := same_at (shortT s) k (by omega) (by omega) (by omega)
  have h14 : f14_ai10brrz k s.Kind s.Source s.Session s.Serial s.Checks s.Offset s.Total s.Lower s.Upper s.Reason s.Check (s.Data.take 300) (s.Claims.take 40) = some (.o0 (((if chkT (shortT s) = 0 then sealB (bodyB (shortT s)) else []).length : Nat) : Int)) := by
    obtain ⟨k, rfl⟩ : ∃ j, k = j + 1 := ⟨k - 1, by omega⟩
    obtain ⟨h2, _⟩ := enc_at (shortT s) k (by omega) hd (by omega) (by omega)
    simp only [shortT] at h2
    simp only [f14_ai10brrz, f14_ai10brrz_e, h2, Option.bind_some]
    rfl
  obtain ⟨n, hn⟩ : ∃ n, n = min 700 l.length := ⟨_, rfl⟩
  have hmin : (if (700 : Int) < (l.length : Int) then (700 : Int) else (l.length : Int)) = (n : Int) := by split <;> omega
  have hj2 : ∀ x, f5_ai10brrzr_j2 k (l.take n) x = some (.o0 true) := fun x => back_j2 k (by omega) _ x (bytes_take hlb _) (by rw [List.length_take]; omega)
  have hj5 : ∀ x, f5_ai10brrzr_j5 k (l.take n) x = some (.o0 true) := hj2
  simp only [shortT] at h2 h3 h4
  have e26 : ({ s with Data := s.Data.take 300, Claims := s.Claims.take 40 } : T26) = shortT s := rfl
  simp only [e26] at h2 h3
  simp only [f5_ai10brrzr, f5_ai10brrzr_e, f7_, ifE_pos (show 100 ≤ k by omega), Option.bind_some, Bool.not_true, cond_false, f5_ai10brrzr_j1, h1, List.drop_zero, cut, cut', List.length_append, Nat.zero_add, hmin, Int.toNat_natCast]
  rw [ifE_pos (by omega), ifE_pos (by omega), ifE_pos (by omega), ifE_pos (by omega)]
  simp only [h2, h3, h14, Option.bind_some]
  by_cases hc : chkT (shortT s) = 0
  · have hlen := body_le (shortT s) hw hc
    have h130 : ¬ (((sealB (bodyB (shortT s))).length : Int) > 130) := by omega
    obtain ⟨o, o1, o2⟩ := dec_fwd (shortT s) hw hc k (by omega) (by omega) (by omega) hg
    simp only [hc, if_true, show ((0 : Int) == 0) = true from rfl, cond_true, o1, Option.bind_some]
    cases o with
    | o0 y0 y1 y2 y3 y4 y5 y6 y7 y8 y9 y10 y11 y12 y13 =>
      simp only [R13_r.val, Prod.mk.injEq] at o2
      obtain ⟨o2, rfl⟩ := o2
      obtain ⟨b, hb1, hb2⟩ := h4 y0 y1 y2 y3 y4 y5 y6 y7 y8 y9 y10 y11 y13
      have hbt : b = true := hb2.2 (by rw [o2]; rfl)
      subst hbt
      simp only [show ((0 : Int) != 0) = false from rfl, cond_false, hb1, Option.bind_some, Bool.not_true, decide_eq_false h130, bne_self_eq_false, hj2]
    | o1 y0 y1 y2 y3 y4 y5 y6 y7 y8 y9 y10 y11 y12 y13 =>
      simp only [R13_r.val, Prod.mk.injEq] at o2
      obtain ⟨o2, rfl⟩ := o2
      obtain ⟨b, hb1, hb2⟩ := h4 y0 y1 y2 y3 y4 y5 y6 y7 y8 y9 y10 y12 y13
      have hbt : b = true := hb2.2 (by rw [o2]; rfl)
      subst hbt
      simp only [show ((0 : Int) != 0) = false from rfl, cond_false, hb1, Option.bind_some, Bool.not_true, decide_eq_false h130, bne_self_eq_false, hj2]
  · have hc2 : chkT (shortT s) = 200 := by
      unfold chkT at hc ⊢
      cases h : (okT (shortT s) && eqT (shortT s) (onlyT (shortT s)))
      · rfl
      · rw [h] at hc; exact absurd rfl hc
    simp only [hc2, show ((200 : Int) == 0) = false from rfl, cond_false, bne_self_eq_false, hj5]
end Go.Proofs.YthjefcamonmjpaaV
