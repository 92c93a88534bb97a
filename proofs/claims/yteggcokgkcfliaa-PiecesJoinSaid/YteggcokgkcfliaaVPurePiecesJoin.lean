/- The plain law of PiecesJoin. -/
import Derived.Test.YteggcokgkcfliaaVStmtPiecesJoin
import Derived.Test.YteggcokgkcfliaaVPJoin
namespace Go.Proofs.YteggcokgkcfliaaV
open Go Go.RowKit
set_option linter.unusedVariables false
set_option linter.unusedSimpArgs false
theorem fit_one {b : Bun} (h : GT25 b) : Fit (oneB b) := ⟨(wf_u32 h.2.2.1).1, oneB_len b, fun x hx => wf_u8 (h.2.2.2.2.2.2.2.2.2.2.2.2 x (List.mem_of_mem_take hx))⟩
theorem pjoin_l8 (k : Nat) (M : List Cl) (hM : M.length ≤ 100000) : ∀ (d i n : Nat), i + d = M.length → d < n → f6_r_l8 k n M.length i M M = some (.o2 M.length M.length false M M) := by
  intro d
  induction d with
  | zero =>
    intro i n hid hn
    obtain ⟨n, rfl⟩ : ∃ m, n = m + 1 := ⟨n - 1, by omega⟩
    have e3 : i = M.length := by omega
    subst e3
    simp only [f6_r_l8, f6_r_l8_b, decide_eq_false (Int.lt_irrefl _), cond_false, Option.bind_some]
  | succ d ih =>
    intro i n hid hn
    obtain ⟨n, rfl⟩ : ∃ m, n = m + 1 := ⟨n - 1, by omega⟩
    have h1 : i < M.length := by omega
    have g1 : M[i]? = some M[i] := List.getElem?_eq_getElem h1
    have ih' := ih (i + 1) n (by omega) (by omega)
    simp only [f6_r_l8, f6_r_l8_b, f6_r_l8_j1, f6_r_l8_j2, decide_eq_true (show (i : Int) < (M.length : Int) by omega), cond_true, cond_false, ifE_pos (show (0 : Int) ≤ i by omega), ifE_pos (show (i : Int) < (M.length : Int) by omega), Int.toNat_natCast, g1, Option.bind_some, beq_self_eq_true, Bool.and_self, Bool.not_true, i_next h1 (by omega), ih']
theorem pjoin_l11 (k : Nat) (L : List Bun) (c : Bun) (len : Nat) (hl : len ≤ 100000) : ∀ (d i n : Nat) (v : List Int), i + d = len → d < n → v.length = len →
    ∃ v', f6_r_l11 k n len i L L c.Source c.Dest c.Seq c.Created c.Lifetime c.HopLimit c.Hops c.Priority c.Offset c.Total v = some (.o1 len len false L L c.Source c.Dest c.Seq c.Created c.Lifetime c.HopLimit c.Hops c.Priority c.Offset c.Total v') := by
  intro d
  induction d with
  | zero =>
    intro i n v hid hn hv
    obtain ⟨n, rfl⟩ : ∃ m, n = m + 1 := ⟨n - 1, by omega⟩
    have e3 : i = len := by omega
    subst e3
    exact ⟨v, by simp only [f6_r_l11, f6_r_l11_b, decide_eq_false (Int.lt_irrefl _), cond_false, Option.bind_some]⟩
  | succ d ih =>
    intro i n v hid hn hv
    obtain ⟨n, rfl⟩ : ∃ m, n = m + 1 := ⟨n - 1, by omega⟩
    have h1 : i < v.length := by omega
    have g1 : v[i]? = some v[i] := List.getElem?_eq_getElem h1
    obtain ⟨x, hx⟩ : ∃ x, x = (IntKind.u8.wrap ((BitVec.ofInt (IntKind.bits .u8) v[i] ^^^ BitVec.ofInt (IntKind.bits .u8) (238 : Int)).toNat : Nat)) := ⟨_, rfl⟩
    obtain ⟨v', ih'⟩ := ih (i + 1) n (v.set i x) (by omega) (by omega) (by simpa using hv)
    refine ⟨v', ?_⟩
    simp only [f6_r_l11, f6_r_l11_b, f6_r_l11_j1, f6_r_l11_j2, decide_eq_true (show (i : Int) < (len : Int) by omega), cond_true, ifE_pos (show (0 : Int) ≤ i by omega), ifE_pos (show (i : Int) < (v.length : Int) by omega), Int.toNat_natCast, g1, Option.bind_some, ← hx, i_next (show i < len by omega) (by omega), ih']
theorem purePiecesJoin : StmtPiecesJoin := by
  intro l hl
  have hlen : l.length * 104 ≤ 140737488351232 := hl.2.1
  obtain ⟨K, hK⟩ : ∃ K, K = l.length + 3000 := ⟨_, rfl⟩
  refine ⟨K + 1, ?_⟩
  obtain ⟨L, hLd⟩ : ∃ L, L = fewL l := ⟨_, rfl⟩
  have hL : L.length ≤ 12 := by rw [hLd, fewL, List.length_map, List.length_take]; omega
  have fL : ∀ b ∈ L, Fit b := by
    intro b hb
    rw [hLd, fewL] at hb
    obtain ⟨c, hc, rfl⟩ := List.mem_map.1 hb
    exact fit_one (hl.2.2 c (List.mem_of_mem_take hc))
  have s1 : f21_r K l = some (.o0 L) := by rw [few_at K l (by omega) (by omega), hLd]
  have s2 : f21_r K L = some (.o0 L) := by rw [few_at K L (by omega) (by omega), hLd, fewL_idem]
  have s3 := join_at K (by omega) L (by omega) fL
  have s4 := rjoin_at K (by omega) L (by omega) fL
  have s5 := miss_at K (by omega) L (by omega) fL
  have s6 := lsame_at K L L (by omega) fL (by omega) (by omega)
  have s7 := rall_at K (by omega) L (by omega) fL
  rw [decide_eq_true rfl] at s6
  have s8 : f15_ai10rzai10rz K 0 0 0 0 0 0 0 0 0 0 [] 0 0 0 0 0 0 0 0 0 0 [] = some (.o0 true) := by
    have := rsame_at K ⟨0, 0, 0, 0, 0, 0, 0, 0, 0, 0, []⟩ ⟨0, 0, 0, 0, 0, 0, 0, 0, 0, 0, []⟩ (by simp) (by simp; omega)
    rw [decide_eq_true rfl] at this
    exact this
  have j5 : ∀ b e m, (chkL L = true → e = 0 ∧ m = gapsF (hasF L)) → (chkL L = false → e = 280 ∧ m = []) → f6_r_j5 K e b L m = some (.o0 true) := by
    intro b e m h1 h2
    simp only [f6_r_j5, s7, Option.bind_some]
    cases hc : chkL L with
    | false =>
      obtain ⟨rfl, rfl⟩ := h2 hc
      rfl
    | true =>
      obtain ⟨rfl, rfl⟩ := h1 hc
      have hg := hasF_len hc
      have hg2 := gapsS_len (hasF L) 0 none
      have l8 := pjoin_l8 K (gapsF (hasF L)) (by unfold gapsF; omega) (gapsF (hasF L)).length 0 K (by omega) (by unfold gapsF; omega)
      have e0 : ((0 : Nat) : Int) = 0 := rfl
      rw [e0] at l8
      simp only [Bool.not_true, cond_false, f6_r_j6, rmiss_at K (by omega) L (by omega) hc, Option.bind_some, bne_self_eq_false, f6_r_j7, l8, f6_r_j9]
  have fin : ∀ e m, f23_r K L = some (.o0 e m) → f6_r_j5 K e false L m = some (.o0 true) := by
    intro e m hm
    rw [s5] at hm
    refine j5 false e m (fun hc => ?_) (fun hc => ?_)
    · rw [hc, cond_true] at hm; cases hm; exact ⟨rfl, rfl⟩
    · rw [hc, cond_false] at hm; cases hm; exact ⟨rfl, rfl⟩
  obtain ⟨me, mm, hm⟩ : ∃ e m, f23_r K L = some (.o0 e m) := by
    rw [s5]
    cases chkL L with
    | true => exact ⟨_, _, rfl⟩
    | false => exact ⟨_, _, rfl⟩
  have hfin := fin me mm hm
  have j2 : ∀ b, f6_r_j2 K b L L 0 0 0 0 0 0 0 0 0 0 [] = some (.o0 true) := by
    intro b
    obtain ⟨K', hK'⟩ : ∃ m, K = m + 1 := ⟨K - 1, by omega⟩
    have l3 : f6_r_l3 K K ((List.length ([] : List Int)) : Int) 0 L L 0 0 0 0 0 0 0 0 0 0 [] = some (.o0 ((List.length ([] : List Int)) : Int) 0 false L L 0 0 0 0 0 0 0 0 0 0 []) := by
      rw [hK']
      simp only [f6_r_l3, f6_r_l3_b, List.length_nil, show decide ((0 : Int) < ((0 : Nat) : Int)) = false from rfl, cond_false, Option.bind_some]
    simp only [f6_r_j2, l3, Option.bind_some, f6_r_j4, hm, s6, Bool.not_true, cond_false, hfin]
  have j10 : ∀ b (c : Bun), c.Payload.length ≤ 1000 → f6_r_j10 K b L L c.Source c.Dest c.Seq c.Created c.Lifetime c.HopLimit c.Hops c.Priority c.Offset c.Total c.Payload = some (.o0 true) := by
    intro b c hc
    obtain ⟨v', q⟩ := pjoin_l11 K L c c.Payload.length (by omega) c.Payload.length 0 K c.Payload (by omega) (by omega) rfl
    have e0 : ((0 : Nat) : Int) = 0 := rfl
    rw [e0] at q
    simp only [f6_r_j10, q, Option.bind_some, f6_r_j12, hm, s6, Bool.not_true, cond_false, hfin]
  simp only [f6_r, f6_r_e, f9_, ifE_pos (show 100 ≤ K by omega), Option.bind_some, Bool.not_true, cond_false, f6_r_j1, s1, s2, s3, s4]
  cases hc : chkL L with
  | false => simp only [cond_false, Option.bind_some, bne_self_eq_false, s8, Bool.not_true, j2]
  | true =>
    cases hg : decide (((gapsF (hasF L)).length : Int) > 0) with
    | true => simp only [cond_true, Option.bind_some, bne_self_eq_false, s8, Bool.not_true, cond_false, j2]
    | false =>
      have hb : (joinB L).Payload.length ≤ 400 := joinB_len hc
      have s9 := rsame_at K (joinB L) (joinB L) (by omega) (by omega)
      rw [decide_eq_true rfl] at s9
      simp only [cond_true, cond_false, Option.bind_some, bne_self_eq_false, s9, Bool.not_true, j10 _ (joinB L) (by omega)]
end Go.Proofs.YteggcokgkcfliaaV
