/- What the statements' bit turner answers: the row whose number is turned by a mask's bits from one place on; and what opening such a row tells. -/
import Derived.Test.YtglkfbegkfgaoaaPxf21
import Derived.Test.YtglkfbegkfgaoaaHSeal
namespace Go.Proofs.Ytglkfbegkfgaoaa.P
open Go.RowKit Go.Proofs.YtglkfbegkfgaoaaW.PrintWords Go.Proofs.YtglkfbegkfgaoaaW.PrintLast Go.Proofs.YtglkfbegkfgaoaaW.PrintMore Go.Proofs.Ytglkfbegkfgaoaa.Crc
set_option linter.unusedVariables false
set_option linter.unusedSimpArgs false

theorem mul256_xor (x y : Nat) : 256 * (x ^^^ y) = 256 * x ^^^ 256 * y := by
  have h : ∀ z, 256 * z = z <<< 8 := fun z => by rw [Nat.shiftLeft_eq]; omega
  rw [h, h, h, Nat.shiftLeft_xor_distrib]
theorem xor_lt256 {a b : Nat} (ha : a < 256) (hb : b < 256) : a ^^^ b < 256 := Nat.xor_lt_two_pow (n := 8) ha hb
theorem pow_lt256 {b : Nat} (hb : b < 8) : 2 ^ b < 256 := Nat.lt_of_lt_of_le (Nat.pow_lt_pow_right (by decide) hb) (by decide : 2 ^ 8 ≤ 256)
/-- One bit of a row is turned. -/
theorem val_set (b : Nat) (hb : b < 8) : ∀ (l : List Nat) (q : Nat) (h : q < l.length), (∀ c ∈ l, c < 256) → val (l.set q (l[q] ^^^ 2 ^ b)) = val l ^^^ 2 ^ (8 * q + b)
  | [], q, h, _ => by simp at h
  | c :: l, 0, _, hl => by
    have hc := hl c (List.mem_cons_self ..)
    simp only [List.set_cons_zero, List.getElem_cons_zero, val]
    rw [add_xor hc, add_xor (xor_lt256 hc (pow_lt256 hb)), Nat.mul_zero, Nat.zero_add, Nat.xor_assoc, Nat.xor_assoc, Nat.xor_comm (2 ^ b)]
  | c :: l, q + 1, h, hl => by
    have hc := hl c (List.mem_cons_self ..)
    have hq : q < l.length := by simpa using h
    simp only [List.set_cons_succ, List.getElem_cons_succ, val]
    rw [val_set b hb l q hq (fun x hx => hl x (List.mem_cons_of_mem _ hx)), add_xor hc, add_xor hc, mul256_xor, Nat.xor_assoc]
    congr 2
    rw [show 8 * (q + 1) + b = 8 + (8 * q + b) by omega]
    exact (Nat.pow_add 2 8 _).symm
theorem mulpow_xor (k x y : Nat) : 2 ^ k * (x ^^^ y) = 2 ^ k * x ^^^ 2 ^ k * y := by
  have h : ∀ z, 2 ^ k * z = z <<< k := fun z => by rw [Nat.shiftLeft_eq, Nat.mul_comm]
  rw [h, h, h, Nat.shiftLeft_xor_distrib]
/-- The bits that are turned: d of the mask's from the i-th on, as far as the row goes. -/
def msk (mask k0 L : Nat) : Nat → Nat → Nat
  | 0, _ => 0
  | d + 1, i => (if mask.testBit i = true ∧ k0 + i < L then 2 ^ i else 0) ^^^ msk mask k0 L d (i + 1)
theorem msk_bit (mask k0 L : Nat) : ∀ d i j, (msk mask k0 L d i).testBit j = decide (i ≤ j ∧ j < i + d ∧ mask.testBit j = true ∧ k0 + j < L)
  | 0, i, j => by
    simp only [msk, Nat.zero_testBit]
    symm
    rw [decide_eq_false_iff_not]
    omega
  | d + 1, i, j => by
    rw [msk, Nat.testBit_xor, msk_bit mask k0 L d (i + 1) j]
    by_cases hij : i = j
    · subst hij
      rw [show decide (i + 1 ≤ i ∧ i < i + 1 + d ∧ mask.testBit i = true ∧ k0 + i < L) = false by rw [decide_eq_false_iff_not]; omega, Bool.xor_false]
      by_cases h : mask.testBit i = true ∧ k0 + i < L
      · rw [if_pos h, Nat.testBit_two_pow_self]
        symm
        rw [decide_eq_true_iff]
        exact ⟨Nat.le_refl _, by omega, h⟩
      · rw [if_neg h, Nat.zero_testBit]
        symm
        rw [decide_eq_false_iff_not]
        exact fun h2 => h h2.2.2
    · have hne : ∀ (c : Prop) [Decidable c], (if c then 2 ^ i else 0).testBit j = false := by
        intro c _
        split
        · exact Nat.testBit_two_pow_of_ne hij
        · exact Nat.zero_testBit j
      rw [hne, Bool.false_xor, decide_eq_decide]
      constructor
      · intro ⟨a, b, c⟩
        exact ⟨by omega, by omega, c⟩
      · intro ⟨a, b, c⟩
        exact ⟨by omega, by omega, c⟩
theorem msk_lt (mask k0 L d : Nat) : msk mask k0 L d 0 < 2 ^ d := by
  apply Nat.lt_pow_two_of_testBit
  intro j hj
  rw [msk_bit, decide_eq_false_iff_not]
  omega
theorem msk_head {mask k0 L d i : Nat} (h : mask.testBit i = true ∧ k0 + i < L) : msk mask k0 L (d + 1) i ≠ 0 := by
  intro h0
  have := msk_bit mask k0 L (d + 1) i i
  rw [h0, Nat.zero_testBit] at this
  have h2 := (decide_eq_false_iff_not.1 this.symm)
  exact h2 ⟨Nat.le_refl _, by omega, h⟩
theorem shr64 (x i : Nat) (hi : i < 64) : shr .u64 (x : Int) (i : Int) = ((x / 2 ^ i : Nat) : Int) := by
  unfold shr
  rw [Int.toNat_natCast, show min i IntKind.u64.bits = i from Nat.min_eq_left (by show i ≤ 64; omega)]
  simp
theorem bit_iff (x i : Nat) (hx : x < 2 ^ 64) (hi : i < 64) : Go.bits .and .u64 (shr .u64 (x : Int) (i : Int)) 1 = 1 ↔ x.testBit i = true := by
  have h2 : x / 2 ^ i < 2 ^ 64 := Nat.lt_of_le_of_lt (Nat.div_le_self _ _) hx
  rw [shr64 x i hi, and1 .u64 _ h2 (by decide) wrap_u64, Nat.testBit_eq_decide_div_mod_eq, decide_eq_true_iff]
  generalize x / 2 ^ i = y
  omega
theorem shl8 (b : Nat) (hb : b < 8) : shl .u8 1 (b : Int) = ((2 ^ b : Nat) : Int) := by
  unfold shl
  rw [Int.toNat_natCast, show min b IntKind.u8.bits = b from Nat.min_eq_left (by show b ≤ 8; omega)]
  have := pow_lt256 hb
  rw [Int.one_mul, show (2 : Int) ^ b = ((2 ^ b : Nat) : Int) by simp, IntKind.wrap_u8]
  generalize 2 ^ b = y at this ⊢
  omega
theorem wrap_u8' (n : Int) (h0 : 0 ≤ n) (h : n < 2 ^ 8) : IntKind.u8.wrap n = n := by rw [IntKind.wrap_u8]; omega
theorem xor8 {a b : Nat} (ha : a < 256) (hb : b < 256) : Go.bits .xor .u8 (a : Int) (b : Int) = ((a ^^^ b : Nat) : Int) := xor_nat .u8 a b ha hb wrap_u8'
theorem toN_set (l : List Int) (q : Nat) (v : Nat) : toN (l.set q (v : Int)) = (toN l).set q v := by simp [toN, List.map_set]

/-- A row that is another one with bits turned. -/
def Turned (l out : List Int) (v : Nat) : Prop := Bytes out ∧ out.length = l.length ∧ val (toN out) = val (toN l) ^^^ v
theorem turned_l0 {l : List Int} (hl : l.length < 1000000) {mask k0 : Nat} (hm : mask < 2 ^ 64) (hk : k0 < 8 * l.length) {N : Nat} (hN : N ≤ 64) : ∀ (d i : Nat) (out : List Int) (any : Bool), d + i = N → Bytes out → out.length = l.length →
    ∃ out', Turned out out' (2 ^ k0 * msk mask k0 (8 * l.length) d i) ∧ Ev (fun k => heliographlaw03_turned.l0 k l (mask : Int) out (k0 : Int) any (N : Int) (i : Int)) (out', any || decide (msk mask k0 (8 * l.length) d i ≠ 0))
  | 0, i, out, any, h, hb, hlen => by
    refine ⟨out, ⟨hb, rfl, by simp [msk]⟩, 1, fun k hk => ?_⟩
    obtain ⟨k, rfl⟩ : ∃ m, k = m + 1 := ⟨k - 1, by omega⟩
    simp only [heliographlaw03_turned.l0]
    rw [if_neg (by omega)]
    simp [msk]
  | d + 1, i, out, any, h, hb, hlen => by
    have hki : wrap64 ((k0 : Int) + (i : Int)) = ((k0 + i : Nat) : Int) := by unfold wrap64; omega
    have hL : wrap64 (8 * (l.length : Int)) = ((8 * l.length : Nat) : Int) := by unfold wrap64; omega
    have hi1 : wrap64 ((i : Int) + 1) = ((i + 1 : Nat) : Int) := by unfold wrap64; omega
    by_cases c : mask.testBit i = true ∧ k0 + i < 8 * l.length
    · obtain ⟨c1, c2⟩ := c
      have hq : (k0 + i) / 8 < out.length := by omega
      have hbt : (k0 + i) % 8 < 8 := by omega
      have hq2 : (k0 + i) / 8 < (toN out).length := by rw [toN_length]; exact hq
      obtain ⟨v, hv, hr, hd⟩ := rd_lt hb hq
      have hval : (toN out)[(k0 + i) / 8] = v := by
        rw [List.drop_eq_getElem_cons hq2] at hd
        exact (List.cons.inj hd).1
      have hx := xor_lt256 hv (pow_lt256 hbt)
      have hb2 : Bytes (out.set ((k0 + i) / 8) ((v ^^^ 2 ^ ((k0 + i) % 8) : Nat) : Int)) := by
        intro z hz
        rcases List.mem_or_eq_of_mem_set hz with hz | rfl
        · exact hb z hz
        · omega
      obtain ⟨out', ⟨t1, t2, t3⟩, he⟩ := turned_l0 hl hm hk hN d (i + 1) (out.set ((k0 + i) / 8) ((v ^^^ 2 ^ ((k0 + i) % 8) : Nat) : Int)) true (by omega) hb2 (by rw [List.length_set]; exact hlen)
      refine ⟨out', ⟨t1, by rw [t2, List.length_set], ?_⟩, ?_⟩
      · have hs := val_set ((k0 + i) % 8) hbt (toN out) ((k0 + i) / 8) hq2 (toN_lt hb)
        rw [hval] at hs
        rw [t3, toN_set, hs, Nat.xor_assoc, msk, if_pos ⟨c1, c2⟩]
        congr 1
        rw [show 8 * ((k0 + i) / 8) + (k0 + i) % 8 = k0 + i by omega, mulpow_xor, ← Nat.pow_add]
      · rw [decide_eq_true (msk_head ⟨c1, c2⟩), Bool.or_true]
        rw [Bool.true_or] at he
        refine Ev.step (fun k => ?_) he
        simp only [heliographlaw03_turned.l0]
        rw [if_pos (by omega), if_pos (by omega), if_pos ((bit_iff mask i hm (by omega)).2 c1), hki, hL, if_pos (by omega), show Int.tdiv ((k0 + i : Nat) : Int) 8 = (((k0 + i) / 8 : Nat) : Int) from rfl, wrap64_id (by omega) (by omega), if_pos (by omega), if_pos (by omega), show Int.tmod ((k0 + i : Nat) : Int) 8 = (((k0 + i) % 8 : Nat) : Int) from Int.ofNat_tmod _ 8, if_pos (by omega), Int.toNat_natCast, hr, shl8 _ hbt, xor8 hv (pow_lt256 hbt), hi1]
    · obtain ⟨out', ht, he⟩ := turned_l0 hl hm hk hN d (i + 1) out any (by omega) hb hlen
      have hz : msk mask k0 (8 * l.length) (d + 1) i = msk mask k0 (8 * l.length) d (i + 1) := by rw [msk, if_neg c, Nat.zero_xor]
      rw [hz]
      refine ⟨out', ht, Ev.step (fun k => ?_) he⟩
      simp only [heliographlaw03_turned.l0]
      rw [if_pos (by omega), if_pos (by omega), hki, hL, hi1]
      by_cases c1 : mask.testBit i = true
      · rw [if_pos ((bit_iff mask i hm (by omega)).2 c1), if_neg (by have : ¬ k0 + i < 8 * l.length := fun h => c ⟨c1, h⟩; omega)]
      · rw [if_neg (fun h => c1 ((bit_iff mask i hm (by omega)).1 h))]
theorem turned_ev {l : List Int} (hb : Bytes l) (hl : l.length < 1000000) (hl0 : 0 < l.length) {mask : Nat} (hm : mask < 2 ^ 64) {N : Nat} (hN : N ≤ 64) (at_ : Int) (hat : at_ < 9223372036854775808) :
    ∃ (k0 : Nat) (out : List Int), k0 = (mx at_ 0).toNat % (8 * l.length) ∧ Turned l out (2 ^ k0 * msk mask k0 (8 * l.length) N 0) ∧ Ev (fun k => heliographlaw03_turned.f k l at_ (mask : Int) (N : Int)) (out, decide (msk mask k0 (8 * l.length) N 0 ≠ 0)) := by
  have hmx : 0 ≤ mx at_ 0 := by unfold mx; split <;> omega
  obtain ⟨out, ht, he⟩ := turned_l0 (l := l) hl hm (k0 := (mx at_ 0).toNat % (8 * l.length)) (Nat.mod_lt _ (by omega)) hN N 0 l false (by omega) hb rfl
  refine ⟨_, out, rfl, ht, ?_⟩
  unfold heliographlaw03_turned.f
  have hL : wrap64 (8 * (l.length : Int)) = ((8 * l.length : Nat) : Int) := by unfold wrap64; omega
  refine Ev.bind (Ev.now _) ?_
  rw [Bool.false_or] at he
  simp only [hL, List.nil_append, List.length_nil, Nat.zero_add, if_pos (show l.length < 140737488355328 by omega), if_neg (show ¬ ((8 * l.length : Nat) : Int) = 0 by omega)]
  have hk0 : mx at_ 0 % ((8 * l.length : Nat) : Int) = (((mx at_ 0).toNat % (8 * l.length) : Nat) : Int) := by
    rw [Int.natCast_emod, Int.toNat_of_nonneg hmx]
  rw [hk0]
  exact he
/-- Opening a sealed row of which bits were turned. -/
theorem opens_turned {n p : Nat} (hn : 0 < n) (g : Crc.Good (8 * n) p) {l out : List Int} (hb : Bytes l) {v : Nat} (ht : Turned (P.sealed n p l) out v) (hz : v ≠ 0 → ticks p (8 * (l.length + n)) v ≠ 0) : ((opens n p out).2 == 130) = decide (v ≠ 0) := by
  obtain ⟨t1, t2, t3⟩ := ht
  rw [sealed_length] at t2
  have hlen : ¬ out.length < n := by omega
  unfold opens
  rw [if_neg hlen]
  have hsp : out = out.take (out.length - n) ++ out.drop (out.length - n) := (List.take_append_drop _ _).symm
  have hiff := turned_iff n hn g (toN l) (toN (out.take (out.length - n))) (toN (out.drop (out.length - n))) (toN_lt hb) (toN_lt (bytes_take t1 _)) (toN_lt (bytes_drop t1 _)) (by rw [toN_length, List.length_drop]; omega) (by rw [toN_length, toN_length, List.length_take]; omega)
  rw [← toN_append, List.take_append_drop, toN_length, t3, toN_sealed, ← Nat.xor_assoc, Nat.xor_self, Nat.zero_xor] at hiff
  have hiff2 : P.sealed n p (out.take (out.length - n)) = out ↔ ticks p (8 * (l.length + n)) v = 0 := by
    rw [← hiff, ← toN_sealed]
    exact ⟨fun h => by rw [h], fun h => toN_inj (sealed_bytes n p (bytes_take t1 _)) t1 h⟩
  by_cases hv : v = 0
  · subst hv
    rw [if_pos (hiff2.2 (ticks_zero p _))]
    simp
  · rw [if_neg (fun h => hz hv (hiff2.1 h))]
    simp [hv]
end Go.Proofs.Ytglkfbegkfgaoaa.P
