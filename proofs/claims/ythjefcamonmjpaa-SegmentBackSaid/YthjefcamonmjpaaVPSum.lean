/- What the printed functions of the sums answer: the register's sum; sealed and opened bytes. -/
import Derived.Test.YthjefcamonmjpaaVPEq
import Derived.Test.YthjefcamonmjpaaHCrc
namespace Go.Proofs.YthjefcamonmjpaaV
open Go Go.Proofs.Ythjefcamonmjpaa Go.Proofs.Ythjefcamonmjpaa.Crc
set_option linter.unusedVariables false
set_option linter.unusedSimpArgs false
/-- Bytes as natural numbers. -/
def toN (l : List Int) : List Nat := l.map Int.toNat
def Bytes (l : List Int) : Prop := ∀ x ∈ l, 0 ≤ x ∧ x < 256
theorem toN_lt {l : List Int} (h : Bytes l) : ∀ c ∈ toN l, c < 256 := by
  intro c hc
  obtain ⟨x, hx, rfl⟩ := List.mem_map.1 hc
  have := h x hx
  omega
theorem toN_length (l : List Int) : (toN l).length = l.length := by simp [toN]
theorem toN_inj {a b : List Int} (ha : Bytes a) (hb : Bytes b) (h : toN a = toN b) : a = b := by
  induction a generalizing b with
  | nil => cases b <;> simp_all [toN]
  | cons x a ih =>
    cases b with
    | nil => simp [toN] at h
    | cons y b =>
      simp only [toN, List.map_cons, List.cons.injEq] at h
      have h1 := ha x (List.mem_cons_self ..)
      have h2 := hb y (List.mem_cons_self ..)
      rw [ih (fun z hz => ha z (List.mem_cons_of_mem _ hz)) (fun z hz => hb z (List.mem_cons_of_mem _ hz)) h.2, show x = y by omega]
theorem xor32 {a b : Nat} (ha : a < 4294967296) (hb : b < 4294967296) : IntKind.u32.wrap ((BitVec.ofInt (IntKind.bits .u32) (a : Int) ^^^ BitVec.ofInt (IntKind.bits .u32) (b : Int)).toNat : Nat) = ((a ^^^ b : Nat) : Int) := by
  have ha' : a % 2 ^ IntKind.bits .u32 = a := Nat.mod_eq_of_lt ha
  have hb' : b % 2 ^ IntKind.bits .u32 = b := Nat.mod_eq_of_lt hb
  simp only [BitVec.ofInt_natCast, BitVec.toNat_xor, BitVec.toNat_ofNat, ha', hb']
  have h := Nat.xor_lt_two_pow (n := 32) ha hb
  generalize a ^^^ b = y at h ⊢
  exact wrap_u32 (by omega) (by omega)
theorem xor8 {a b : Nat} (ha : a < 256) (hb : b < 256) : IntKind.u8.wrap ((BitVec.ofInt (IntKind.bits .u8) (a : Int) ^^^ BitVec.ofInt (IntKind.bits .u8) (b : Int)).toNat : Nat) = ((a ^^^ b : Nat) : Int) := by
  have ha' : a % 2 ^ IntKind.bits .u8 = a := Nat.mod_eq_of_lt ha
  have hb' : b % 2 ^ IntKind.bits .u8 = b := Nat.mod_eq_of_lt hb
  simp only [BitVec.ofInt_natCast, BitVec.toNat_xor, BitVec.toNat_ofNat, ha', hb']
  have h := Nat.xor_lt_two_pow (n := 8) ha hb
  generalize a ^^^ b = y at h ⊢
  exact wrap_u8 (by omega) (by omega)
theorem and1_32 {a : Nat} (ha : a < 4294967296) : IntKind.u32.wrap ((BitVec.ofInt (IntKind.bits .u32) (a : Int) &&& BitVec.ofInt (IntKind.bits .u32) (1 : Int)).toNat : Nat) = ((a % 2 : Nat) : Int) := by
  have ha' : a % 2 ^ IntKind.bits .u32 = a := Nat.mod_eq_of_lt ha
  rw [show (1 : Int) = ((1 : Nat) : Int) from rfl]
  simp only [BitVec.ofInt_natCast, BitVec.toNat_and, BitVec.toNat_ofNat, ha', show (1 : Nat) % 2 ^ IntKind.bits .u32 = 1 from by decide, Nat.and_one_is_mod]
  exact wrap_u32 (by omega) (by omega)
theorem half32 (s : Nat) : Int.fdiv (s : Int) (2 ^ (min 1 (IntKind.bits .u32))) = ((s / 2 : Nat) : Int) := by
  rw [show (2 : Int) ^ (min 1 (IntKind.bits .u32)) = ((2 : Nat) : Int) from rfl, Int.fdiv_eq_ediv_of_nonneg _ (by omega)]
  rfl
theorem good_tick32 {s : Nat} (h : s < 4294967296) : tick P32 s < 4294967296 := tick_lt good32 h
theorem sum_l2 (k : Nat) (l : List Int) (x12 x13 : Int) : ∀ (d s n : Nat), d ≤ 8 → d < n → s < 4294967296 →
    f36_ri_l1_l2 k n 2197175160 (s : Int) l x12 x13 ((8 - d : Nat) : Int) = some (.o1 2197175160 ((ticks P32 d s : Nat) : Int) l x12 x13 8 false)
  | 0, s, n, _, hn, hs => by
    obtain ⟨n, rfl⟩ : ∃ m, n = m + 1 := ⟨n - 1, by omega⟩
    have hlt : ¬ (((8 - 0 : Nat) : Int) < 8) := by omega
    simp only [f36_ri_l1_l2, f36_ri_l1_l2_b, decide_eq_false hlt, cond_false, Option.bind_some, ticks]
    rfl
  | d + 1, s, n, hd, hn, hs => by
    obtain ⟨n, rfl⟩ : ∃ m, n = m + 1 := ⟨n - 1, by omega⟩
    have hlt : (((8 - (d + 1) : Nat) : Int) < 8) := by omega
    have hw : IntKind.i64.wrap (((8 - (d + 1) : Nat) : Int) + 1) = ((8 - d : Nat) : Int) := by rw [wrap_i64 (by omega) (by omega)]; omega
    have ih := sum_l2 k l x12 x13 d (tick P32 s) n (by omega) (by omega) (good_tick32 hs)
    simp only [ticks]
    rw [← ih]
    by_cases h2 : s % 2 = 1
    · have e : (((s % 2 : Nat) : Int) == 1) = true := by rw [h2]; rfl
      have ht : tick P32 s = s / 2 ^^^ P32 := by unfold tick; rw [if_pos h2]
      simp only [f36_ri_l1_l2, f36_ri_l1_l2_b, decide_eq_true hlt, cond_true, f36_ri_l1_l2_j1, f36_ri_l1_l2_j2, and1_32 hs, e, half32, show (2197175160 : Int) = ((P32 : Nat) : Int) from rfl, xor32 (show s / 2 < 4294967296 by omega) (show P32 < 4294967296 by decide), hw, ht, Option.bind_some]
    · have e : (((s % 2 : Nat) : Int) == 1) = false := by rw [beq_eq_false_iff_ne]; omega
      have ht : tick P32 s = s / 2 := by unfold tick; rw [if_neg h2]
      simp only [f36_ri_l1_l2, f36_ri_l1_l2_b, decide_eq_true hlt, cond_true, cond_false, f36_ri_l1_l2_j1, f36_ri_l1_l2_j3, and1_32 hs, e, half32, hw, ht, Option.bind_some]
theorem sum_l1 (k : Nat) (hk : 8 < k) (l : List Int) (hb : Bytes l) (hl : l.length < 4611686018427387904) : ∀ (d i s n : Nat), i + d = l.length → d < n → s < 4294967296 →
    f36_ri_l1 k n 2197175160 (s : Int) l (l.length : Int) (i : Int) = some (.o1 2197175160 ((reg P32 s ((toN l).drop i) : Nat) : Int) l (l.length : Int) (l.length : Int) false)
  | 0, i, s, n, hi, hn, hs => by
    obtain ⟨n, rfl⟩ : ∃ m, n = m + 1 := ⟨n - 1, by omega⟩
    have hlt : ¬ ((i : Int) < (l.length : Int)) := by omega
    have hz : (toN l).drop i = [] := by rw [List.drop_eq_nil_iff, toN_length]; omega
    obtain rfl : i = l.length := by omega
    simp only [f36_ri_l1, f36_ri_l1_b, decide_eq_false hlt, cond_false, Option.bind_some, hz, reg_nil]
  | d + 1, i, s, n, hi, hn, hs => by
    obtain ⟨n, rfl⟩ : ∃ m, n = m + 1 := ⟨n - 1, by omega⟩
    have hlt : ((i : Int) < (l.length : Int)) := by omega
    have h1 : i < l.length := by omega
    have hm := hb l[i] (List.getElem_mem h1)
    have g1 : l[i]? = some l[i] := List.getElem?_eq_getElem h1
    obtain ⟨c, hc⟩ := Int.eq_ofNat_of_zero_le hm.1
    have hc2 : c < 256 := by omega
    have hd : (toN l).drop i = c :: (toN l).drop (i + 1) := by
      have h2 : i < (toN l).length := by rw [toN_length]; exact h1
      rw [List.drop_eq_getElem_cons h2]
      simp [toN, hc]
    have hx : s ^^^ c < 4294967296 := Nat.xor_lt_two_pow (n := 32) hs (by omega)
    have hw : IntKind.i64.wrap ((i : Int) + 1) = ((i + 1 : Nat) : Int) := by rw [wrap_i64 (by omega) (by omega)]; rfl
    have hw2 : IntKind.u32.wrap (c : Int) = (c : Int) := wrap_u32 (by omega) (by omega)
    have ih := sum_l1 k hk l hb hl d (i + 1) (byte P32 s c) n (by omega) (by omega) (ticks_lt good32 8 hx)
    have q := sum_l2 k l (l.length : Int) (i : Int) 8 (s ^^^ c) k (by omega) hk hx
    rw [show ((8 - 8 : Nat) : Int) = 0 from rfl] at q
    rw [hd, reg_cons, ← ih]
    simp only [f36_ri_l1, f36_ri_l1_b, f36_ri_l1_j1, decide_eq_true hlt, cond_true, ifE_pos (show (0 : Int) ≤ i by omega), Int.toNat_natCast, g1, Option.bind_some, hc, hw2, xor32 hs (show c < 4294967296 by omega), Int.ofNat_eq_natCast, q, f36_ri_l1_j3, hw]
    rfl
theorem sum32_at (k : Nat) (l : List Int) (hb : Bytes l) (hl : l.length < 4611686018427387904) (hk : l.length + 13 ≤ k) : f31_r k l = some (.o0 ((Crc.sum 32 P32 (toN l) : Nat) : Int)) := by
  obtain ⟨k, rfl⟩ : ∃ j, k = j + 2 := ⟨k - 2, by omega⟩
  have q := sum_l1 k (by omega) l hb hl l.length 0 4294967295 k (by omega) (by omega) (by omega)
  rw [List.drop_zero] at q
  have hr : reg P32 4294967295 (toN l) < 4294967296 := reg_lt good32 (by decide) (toN l) (by decide) (toN_lt hb)
  simp only [f31_r, f31_r_e, f36_ri, f36_ri_e, show flipI .u32 (IntKind.u32.wrap 0) = ((4294967295 : Nat) : Int) from by decide +kernel]
  rw [show ((0 : Nat) : Int) = 0 from rfl] at q
  rw [q]
  simp only [Option.bind_some, f36_ri_j2]
  congr 2
  unfold flipI
  rw [show (if IntKind.signed .u32 = true then (-1 : Int) else IntKind.max .u32) = ((4294967295 : Nat) : Int) from by decide +kernel, xor32 (by decide) hr, Nat.xor_comm]
  rfl
theorem sum32_sp (l : List Int) (hb : Bytes l) (hl : l.length < 4611686018427387904) : Evn fun k => f31_r k l = some (.o0 ((Crc.sum 32 P32 (toN l) : Nat) : Int)) := Evn.of (l.length + 13) fun k hk => sum32_at k l hb hl hk
def ofN (l : List Nat) : List Int := l.map fun (c : Nat) => (c : Int)
theorem toN_ofN (l : List Nat) : toN (ofN l) = l := by simp [toN, ofN, Function.comp_def]
theorem toN_append (a b : List Int) : toN (a ++ b) = toN a ++ toN b := by simp [toN]
theorem bytes_ofN {l : List Nat} (h : ∀ c ∈ l, c < 256) : Bytes (ofN l) := by
  intro x hx
  obtain ⟨c, hc, rfl⟩ := List.mem_map.1 hx
  have := h c hc
  omega
theorem bytes_append {a b : List Int} (ha : Bytes a) (hb : Bytes b) : Bytes (a ++ b) := fun x hx => (List.mem_append.1 hx).elim (ha x) (hb x)
theorem bytes_take {a : List Int} (ha : Bytes a) (n : Nat) : Bytes (a.take n) := fun x hx => ha x (List.mem_of_mem_take hx)
theorem bytes_drop {a : List Int} (ha : Bytes a) (n : Nat) : Bytes (a.drop n) := fun x hx => ha x (List.mem_of_mem_drop hx)
/-- Bytes, sealed: four bytes of the sum. -/
def sealB (l : List Int) : List Int := l ++ ofN (le 4 (Crc.sum 32 P32 (toN l)))
theorem sealB_length (l : List Int) : (sealB l).length = l.length + 4 := by simp [sealB, ofN, le_length]
theorem sealB_bytes {l : List Int} (h : Bytes l) : Bytes (sealB l) := bytes_append h (bytes_ofN (le_lt _ _))
theorem toN_sealB (l : List Int) : toN (sealB l) = Crc.sealed 4 P32 (toN l) := by simp [sealB, Crc.sealed, toN_append, toN_ofN]
theorem seal_l1 (k x : Nat) (hx : x < 4294967296) : ∀ (d i n : Nat) (b : List Int), i + d = 4 → d < n → b.length + d ≤ roomy →
    f30_rii_l1 k n (x : Int) 4 (i : Int) b = some (.o1 (x : Int) 4 4 false (b ++ ofN (le d (x / 2 ^ (8 * i)))))
  | 0, i, n, b, hi, hn, _ => by
    obtain ⟨n, rfl⟩ : ∃ m, n = m + 1 := ⟨n - 1, by omega⟩
    obtain rfl : i = 4 := by omega
    simp [f30_rii_l1, f30_rii_l1_b, le, ofN]
  | d + 1, i, n, b, hi, hn, hb => by
    obtain ⟨n, rfl⟩ : ∃ m, n = m + 1 := ⟨n - 1, by omega⟩
    have hlt : ((i : Int) < 4) := by omega
    have hw : IntKind.i64.wrap ((i : Int) + 1) = ((i + 1 : Nat) : Int) := by rw [wrap_i64 (by omega) (by omega)]; rfl
    have hw8 : IntKind.i64.wrap ((8 : Int) * (i : Int)) = ((8 * i : Nat) : Int) := by rw [wrap_i64 (by omega) (by omega)]; omega
    have hsh : IntKind.u8.wrap (Int.fdiv (x : Int) (2 ^ (min (8 * i) (IntKind.bits .u32)))) = ((x / 2 ^ (8 * i) % 256 : Nat) : Int) := by
      rw [show min (8 * i) (IntKind.bits .u32) = 8 * i from Nat.min_eq_left (by show 8 * i ≤ 32; omega), show (2 : Int) ^ (8 * i) = ((2 ^ (8 * i) : Nat) : Int) by simp, Int.fdiv_eq_ediv_of_nonneg _ (Int.natCast_nonneg _), IntKind.wrap_u8]
      rw [← Int.natCast_ediv]
      generalize x / 2 ^ (8 * i) = y
      omega
    have ih := seal_l1 k x hx d (i + 1) n (b ++ [((x / 2 ^ (8 * i) % 256 : Nat) : Int)]) (by omega) (by omega) (by simp; omega)
    rw [List.append_assoc, List.singleton_append] at ih
    have e : le (d + 1) (x / 2 ^ (8 * i)) = (x / 2 ^ (8 * i) % 256) :: le d (x / 2 ^ (8 * (i + 1))) := by
      rw [show x / 2 ^ (8 * (i + 1)) = x / 2 ^ (8 * i) / 256 by rw [Nat.div_div_eq_div_mul, show 8 * (i + 1) = 8 * i + 8 by omega, Nat.pow_add]]
      rfl
    rw [e, show ofN ((x / 2 ^ (8 * i) % 256) :: le d (x / 2 ^ (8 * (i + 1)))) = ((x / 2 ^ (8 * i) % 256 : Nat) : Int) :: ofN (le d (x / 2 ^ (8 * (i + 1)))) from rfl, ← ih]
    have hneg : ¬ (((8 * i : Nat) : Int) < 0) := by omega
    simp only [f30_rii_l1, f30_rii_l1_b, f30_rii_l1_j1, f30_rii_l1_j2, decide_eq_true hlt, cond_true, hw8, ifE_pos hneg, ifE_pos (show b.length + 1 ≤ roomy by omega), Option.bind_some, hw, Int.toNat_natCast, hsh]
theorem seal32_at (k : Nat) (l : List Int) (hb : Bytes l) (hl : l.length + 4 ≤ roomy) (hk : l.length + 20 ≤ k) : f23_r k l = some (.o0 (sealB l)) := by
  have hr : roomy = 70368744177664 := rfl
  obtain ⟨k, rfl⟩ : ∃ j, k = j + 3 := ⟨k - 3, by omega⟩
  have h1 := sum32_at (k + 2) l hb (by omega) (by omega)
  have hs := sum_lt good32 (by decide) (toN l) (toN_lt hb)
  have q := seal_l1 (k + 1) _ hs 4 0 (k + 1) l (by omega) (by omega) hl
  rw [Nat.mul_zero, Nat.pow_zero, Nat.div_one, show ((0 : Nat) : Int) = 0 from rfl] at q
  simp only [f23_r, f23_r_e, h1, Option.bind_some, f30_rii, f30_rii_e, f34_r, ifE_pos (show l.length * 1 ≤ roomy by omega), q, f30_rii_j2]
  rfl
theorem seal32_sp (l : List Int) (hb : Bytes l) (hl : l.length + 4 ≤ roomy) : Evn fun k => f23_r k l = some (.o0 (sealB l)) := Evn.of (l.length + 20) fun k hk => seal32_at k l hb hl hk
/-- What opening bytes answers. -/
def opensB (l : List Int) : R24_r :=
  if l.length < 4 then .o0 [] 7 else if sealB (l.take (l.length - 4)) = l then .o1 0 (l.take (l.length - 4)) else .o0 [] 130
theorem eqB_at (k : Nat) (l1 l2 : List Int) (hb : l1.length < 4611686018427387904) (hk : l1.length + 2 ≤ k) : f20_rr k l1 l2 = some (.o0 (decide (l1 = l2))) := by
  obtain ⟨k, rfl⟩ : ∃ j, k = j + 1 := ⟨k - 1, by omega⟩
  by_cases hl : l1.length = l2.length
  · have := eqB_loop l1 l2 hb hl k l1.length 0 k (by omega) (by omega)
    simp only [List.drop_zero] at this
    have hl' : ((l1.length : Int) != (l2.length : Int)) = false := by simp; omega
    simp only [f20_rr, f20_rr_e, hl', cond_false, f20_rr_j1]
    rw [show ((0 : Nat) : Int) = 0 from rfl] at this
    rw [this]
    by_cases he : l1 = l2
    · simp [he, f20_rr_j3]
    · simp [he]
  · have hl' : ((l1.length : Int) != (l2.length : Int)) = true := by simp; omega
    have he : l1 ≠ l2 := fun h => hl (by rw [h])
    simp [f20_rr, f20_rr_e, hl', he]
theorem open32_at (k : Nat) (l : List Int) (hb : Bytes l) (hl : l.length ≤ roomy) (hk : l.length + 30 ≤ k) : f24_r k l = some (opensB l) := by
  have hr : roomy = 70368744177664 := rfl
  by_cases c : l.length < 4
  · obtain ⟨k, rfl⟩ : ∃ j, k = j + 2 := ⟨k - 2, by omega⟩
    have hlt : ((l.length : Int) < 4) := by omega
    simp only [f24_r, f24_r_e, f32_rif23, f32_rif23_e, decide_eq_true hlt, cond_true, Option.bind_some, opensB, if_pos c]
  · obtain ⟨k, rfl⟩ : ∃ j, k = j + 3 := ⟨k - 3, by omega⟩
    have h1 := seal32_at (k + 1) (l.take (l.length - 4)) (bytes_take hb _) (by rw [List.length_take]; omega) (by rw [List.length_take]; omega)
    have h2 := eqB_at (k + 1) (sealB (l.take (l.length - 4))) l (by rw [sealB_length, List.length_take]; omega) (by rw [sealB_length, List.length_take]; omega)
    have hlt : ¬ ((l.length : Int) < 4) := by omega
    have hw : IntKind.i64.wrap ((l.length : Int) - 4) = ((l.length - 4 : Nat) : Int) := by rw [wrap_i64 (by omega) (by omega)]; omega
    simp only [f24_r, f24_r_e, f32_rif23, f32_rif23_e, decide_eq_false hlt, cond_false, f32_rif23_j1, hw, ifE_pos (show (0 : Int) ≤ ((l.length - 4 : Nat) : Int) by omega), Int.toNat_natCast, ifE_pos (show l.length - 4 ≤ l.length by omega), h1, h2, Option.bind_some, opensB, if_neg c]
    by_cases e : sealB (l.take (l.length - 4)) = l
    · simp only [e, decide_true, Bool.not_true, cond_false, f32_rif23_j2, ifE_pos (show (0 : Int) ≤ ((l.length - 4 : Nat) : Int) by omega), Int.toNat_natCast, ifE_pos (show l.length - 4 ≤ l.length by omega), f34_r, ifE_pos (show (l.take (l.length - 4)).length * 1 ≤ roomy by rw [List.length_take]; omega), Option.bind_some, if_true]
    · simp only [e, decide_false, Bool.not_false, cond_true, Option.bind_some, if_false]
end Go.Proofs.YthjefcamonmjpaaV
