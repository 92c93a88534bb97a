/- sdnv.Put answers a new row: the bytes that it was handed, and behind them the number's digits, the highest first. -/
import Derived.Test.YtlohjfagiigchaaPxf16
import Derived.Test.YtlohjfagiigchaaHOwn
namespace Go.Proofs.Ytlohjfagiigchaa.P
open Go.RowKit Go.Proofs.YtlohjfagiigchaaW.PrintWords Go.Proofs.YtlohjfagiigchaaW.PrintLast Go.Proofs.YtlohjfagiigchaaW.PrintMore
set_option linter.unusedVariables false
set_option linter.unusedSimpArgs false
theorem hinfo_u8 : (Try.prog.info? 5).map (fun i => (i.zero, i.size, i.bytes)) = some (some (.int .u8 0), 1, 1) := by kernel_rfl
/-- The i-th digit's byte. -/
def pbyte (n : Int) (i : Nat) : Int := if 0 < i then Go.bits .or .u8 (Go.bits .andNot .u8 ((n / 2 ^ (7 * i)) % 256) 128) 128 else Go.bits .andNot .u8 ((n / 2 ^ (7 * i)) % 256) 128
/-- The digits from the i-th down. -/
def putl (n : Int) : Nat → List Int
  | 0 => []
  | i + 1 => pbyte n i :: putl n i
theorem putl_length (n : Int) : ∀ i, (putl n i).length = i
  | 0 => rfl
  | i + 1 => by simp [putl, putl_length n i]
theorem putl_step (n : Int) : ∀ m j, j < m → (putl n m).take (m - j) = (putl n m).take (m - (j + 1)) ++ [pbyte n j]
  | 0, j, h => by omega
  | m + 1, j, h => by
    rw [putl, show m + 1 - j = (m - j) + 1 by omega, List.take_succ_cons]
    by_cases hj : j = m
    · subst hj
      simp
    · rw [show m + 1 - (j + 1) = (m - (j + 1)) + 1 by omega, List.take_succ_cons, List.cons_append, putl_step n m j (by omega)]
def sdnv_Put.f (k : Nat) (l0 : List Int) (a1 : Int) : Option (List Int) := (sdnv_Size.f k a1).bind fun s => if 0 ≤ s ∧ s ≤ 10 ∧ l0.length + 10 < 140737488355328 then some (l0 ++ putl a1 s.toNat) else none
theorem sdnv_Put.mono : ∀ a0 a1 k, LeO (sdnv_Put.f k a0 a1) (sdnv_Put.f (k + 1) a0 a1) := by
  intro a0 a1 k
  unfold sdnv_Put.f
  exact LeO.bind (sdnv_Size.mono _ _) fun _ => LeO.refl _
set_option maxHeartbeats 8000000 in
set_option maxRecDepth 100000 in
theorem sdnv_Put.calls (k : Nat) (A0 : Option Addr) (c0 : Nat) (l0 : List Int) (a1 : Int) (r : List Int) (w : World) (hr0 : Kd.C (Kd.int .u8) w A0 l0.length l0) (hc0 : l0.length ≤ c0) (h : sdnv_Put.f k l0 a1 = some r) :
    Calls Try.prog 15 #[.slice A0 l0.length c0, .int .u64 a1] w fun e w' => ∃ v0_ : Value, e = .returned (v0_) ∧ Kd.R (Kd.int .u8) 5 w' w.heap.size (fun _ => True) v0_ r ∧ Below w.heap.size w w' := by
  unfold sdnv_Put.f at h
  obtain ⟨s, h1, h⟩ := Option.bind_eq_some_iff.mp h
  by_cases c1 : 0 ≤ s ∧ s ≤ 10 ∧ l0.length + 10 < 140737488355328
  · rw [if_pos c1] at h
    obtain rfl := Option.some.inj h
    clear h
    obtain ⟨hs0, hs1, hlen⟩ := c1
    obtain ⟨m, rfl⟩ := Int.eq_ofNat_of_zero_le hs0
    rw [Int.toNat_natCast]
    have HR0 := Aside0.mk hr0
    have HC0 := Aside0.mk hc0
    have H1 := Aside0.mk h1
    have HL := Aside0.mk hlen
    have HM := Aside0.mk (show m ≤ 10 by omega)
    clear hr0 hc0 h1 hs0
    go_enter Try.func15, Try.ntmps15
    go_wp2_with (first
      | (go_at_call 16; refine (sdnv_Size.calls k a1 _ w H1.out).mono ?_; rintro e w1 ⟨rfl, hb⟩; have HB := Aside0.mk hb; clear hb)
      | ((with_reducible refine gate_dst (N := 17) rfl ?_); refine Kd.R_make2 (Kd.int .u8) _ 5 rfl (N := 17) rfl 24 _ _ rfl (l0.length : Int) ((l0.length : Int) + (m : Int)) rfl rfl Try.underlying24 (.int .u8 0) 1 hinfo_u8 rfl (by decide) (by omega) 0 (ok := fun _ => True) (okp := fun _ => True) rfl (fun _ hk => hk) trivial (by omega) (by omega) (by have := HL.out; have := HM.out; omega) HB.out HB.out.size ?_; intro v17 w2 ho hb hg hb2; have HO := Aside0.mk ho; have HB2 := Aside0.mk hb; obtain ⟨b0, hb0, _⟩ := hb2; obtain ⟨g17, cap17, rfl⟩ := Kd.R_formB ho ⟨b0, hb0⟩; clear ho hb hg hb0)
      | ((with_reducible refine gate_dst (N := 20) rfl ?_); refine Kd.R_copy_at 0 _ rfl (.tmp 18) (.tmp 19) 24 5 rfl Try.underlying24 (by kernel_rfl) (List.replicate (l0.length : Int).toNat 0) l0 A0 (some ⟨g17, 0, none⟩) l0.length c0 l0.length cap17 0 (fun _ => True) rfl rfl (fun _ => rfl) (by simp) HO.out (Kd.C_below HR0.out HB2.out) HB2.out ?_; intro w3 ho3 hb3 hg3; rw [show splice (List.replicate (l0.length : Int).toNat 0) 0 (l0.take l0.length) = l0 by simp [splice]] at ho3; have HO3 := Aside0.mk (show Kd.R (Kd.int .u8) 5 w3 w.heap.size (fun _ => True) (.slice (some ⟨g17, 0, none⟩) l0.length cap17) l0 by rw [List.length_replicate, Int.toNat_natCast] at ho3; exact ho3); have HB3 := Aside0.mk hb3; clear ho3 hb3 hg3))
    go_loopw [6, 7] (fun v6 v7 wr => ∃ j : Nat, j ≤ m ∧ v7 = .int .i64 ((j : Int) - 1) ∧ Aside0 (Kd.R (Kd.int .u8) 5 wr w.heap.size (fun _ => True) v6 (l0 ++ (putl a1 m).take (m - j))) ∧ Aside0 (Below w.heap.size w wr)) (fun _ v7 _ => (intOf v7 + 1).toNat)
    case atStart =>
      refine ⟨m, Nat.le_refl _, rfl, ?_⟩
      rw [Nat.sub_self, List.take_zero, List.append_nil]
      exact ⟨HO3, HB3⟩
    case round =>
      obtain ⟨j, hj, rfl, HO4, HB4⟩ := hrel
      cases j with
      | zero =>
        have hc : decide ((0 : Int) ≤ ((0 : Nat) : Int) - 1) = false := by decide
        rw [Nat.sub_zero, List.take_of_length_le (by rw [putl_length]; omega)] at HO4
        go_wp2
        go_ret
        exact ⟨_, rfl, HO4.out, HB4.out⟩
      | succ j =>
        have hj2 : ((j + 1 : Nat) : Int) - 1 = (j : Int) := by omega
        rw [hj2]
        have hj9 : j ≤ 9 := by have := HM.out; omega
        have hnext : l0 ++ (putl a1 m).take (m - j) = l0 ++ (putl a1 m).take (m - (j + 1)) ++ [pbyte a1 j] := by rw [List.append_assoc, putl_step a1 m j (by omega)]
        have HN := Aside0.mk hnext
        clear hnext
        by_cases hp : 0 < j
        · have hpb : Aside0 (pbyte a1 j = Go.bits .or .u8 (Go.bits .andNot .u8 ((a1 / 2 ^ (7 * j)) % 256) 128) 128) := ⟨by unfold pbyte; rw [if_pos hp]⟩
          go_wp2_with ((with_reducible refine gate_builtin (b := .append) (xs := #[.tmp 37, .tmp 39]) rfl ?_); at_builtin; refine Kd.R_append (Kd.int .u8) (w0 := w) w.heap.size rfl (.tmp 37) (.tmp 39) 24 5 (.int .u8 0) 1 rfl Try.underlying24 hinfo_u8 rfl (by decide) (by omega) u6 (l0 ++ (putl a1 m).take (m - (j + 1))) (Go.bits .or .u8 (Go.bits .andNot .u8 ((a1 / 2 ^ (7 * j)) % 256) 128) 128) [.int .u8 (Go.bits .or .u8 (Go.bits .andNot .u8 ((a1 / 2 ^ (7 * j)) % 256) 128) 128)] (fun _ => True) (fun _ => False) rfl rfl ?aP (fun _ hk => hk.elim) ?aF ?aO ?aB ?aS ?aL ?_; (case aP => exact rfl); (case aB => exact HB4.out); (case aF => exact (fun _ _ => trivial)); (case aO => exact HO4.out); (case aS => exact (below_size HB4.out)); (case aL => rw [List.length_append, List.length_take, putl_length]; have := HL.out; have := HM.out; omega); intro v40 w5 ho hb hg hat; have HO5 := Aside0.mk ho; have HB5 := Aside0.mk hb; clear ho hb hg hat)
          go_roundw
          case rel => exact ⟨j, by omega, by go_num, ⟨by rw [HN.out, hpb.out]; exact HO5.out⟩, HB5⟩
          case measure => simp [intOf]
        · obtain rfl : j = 0 := by omega
          have hpb : Aside0 (pbyte a1 0 = Go.bits .andNot .u8 (a1 % 256) 128) := ⟨by unfold pbyte; rw [if_neg (by omega)]; simp⟩
          go_wp2_with ((with_reducible refine gate_builtin (b := .append) (xs := #[.tmp 37, .tmp 39]) rfl ?_); at_builtin; refine Kd.R_append (Kd.int .u8) (w0 := w) w.heap.size rfl (.tmp 37) (.tmp 39) 24 5 (.int .u8 0) 1 rfl Try.underlying24 hinfo_u8 rfl (by decide) (by omega) u6 (l0 ++ (putl a1 m).take (m - (0 + 1))) (Go.bits .andNot .u8 (a1 % 256) 128) [.int .u8 (Go.bits .andNot .u8 (a1 % 256) 128)] (fun _ => True) (fun _ => False) rfl rfl ?aP (fun _ hk => hk.elim) ?aF ?aO ?aB ?aS ?aL ?_; (case aP => exact rfl); (case aB => exact HB4.out); (case aF => exact (fun _ _ => trivial)); (case aO => exact HO4.out); (case aS => exact (below_size HB4.out)); (case aL => rw [List.length_append, List.length_take, putl_length]; have := HL.out; have := HM.out; omega); intro v40 w5 ho hb hg hat; have HO5 := Aside0.mk ho; have HB5 := Aside0.mk hb; clear ho hb hg hat)
          go_roundw
          case rel => exact ⟨0, by omega, by go_num, ⟨by rw [HN.out, hpb.out]; exact HO5.out⟩, HB5⟩
          case measure => simp [intOf]
  · rw [if_neg c1] at h
    exact absurd h (by simp)
end Go.Proofs.Ytlohjfagiigchaa.P
