/- What the printed functions of the layer's sums answer: the register's sums of chapter 3. -/
import Derived.Test.YtglkfbegkfgaoaaPxf10
import Derived.Test.YtglkfbegkfgaoaaPxf12
import Derived.Test.YtglkfbegkfgaoaaPxf11
import Derived.Test.YtglkfbegkfgaoaaHCrc
namespace Go.Proofs.Ytglkfbegkfgaoaa.P
open Go.RowKit Go.Proofs.YtglkfbegkfgaoaaW.PrintWords Go.Proofs.YtglkfbegkfgaoaaW.PrintLast Go.Proofs.YtglkfbegkfgaoaaW.PrintMore Go.Proofs.Ytglkfbegkfgaoaa.Crc
set_option linter.unusedVariables false
set_option linter.unusedSimpArgs false

/-- Bytes as natural numbers. -/
def toN (l : List Int) : List Nat := l.map Int.toNat
def Bytes (l : List Int) : Prop := ∀ x ∈ l, 0 ≤ x ∧ x < 256
theorem bytes_wf {l : List Int} (h : ∀ x ∈ l, (Lit.int .u8 x).wf = true) : Bytes l := by
  intro x hx
  have := h x hx
  simp [Lit.wf, IntKind.max, IntKind.min, IntKind.signed, IntKind.bits] at this
  omega
theorem toN_lt {l : List Int} (h : Bytes l) : ∀ c ∈ toN l, c < 256 := by
  intro c hc
  obtain ⟨x, hx, rfl⟩ := List.mem_map.1 hc
  have := h x hx
  omega
theorem toN_length (l : List Int) : (toN l).length = l.length := by simp [toN]
theorem toN_inj {a b : List Int} (ha : Bytes a) (hb : Bytes b) (h : toN a = toN b) : a = b := by
  induction a generalizing b with
  | nil => cases b <;> simp_all [toN]
  | cons x a ih =>
    cases b with
    | nil => simp [toN] at h
    | cons y b =>
      simp only [toN, List.map_cons, List.cons.injEq] at h
      have h1 := ha x (List.mem_cons_self ..)
      have h2 := hb y (List.mem_cons_self ..)
      rw [ih (fun z hz => ha z (List.mem_cons_of_mem _ hz)) (fun z hz => hb z (List.mem_cons_of_mem _ hz)) h.2, show x = y by omega]
theorem xor_nat (k : IntKind) (a b : Nat) (ha : a < 2 ^ k.bits) (hb : b < 2 ^ k.bits) (hk : ∀ n : Int, 0 ≤ n → n < 2 ^ k.bits → k.wrap n = n) : Go.bits .xor k (a : Int) (b : Int) = ((a ^^^ b : Nat) : Int) := by
  have ha' : a % 2 ^ k.bits = a := Nat.mod_eq_of_lt ha
  have hb' : b % 2 ^ k.bits = b := Nat.mod_eq_of_lt hb
  simp only [Go.bits, BitVec.ofInt_natCast, BitVec.toNat_xor, BitVec.toNat_ofNat, ha', hb']
  exact hk _ (Int.natCast_nonneg _) (by exact_mod_cast Nat.xor_lt_two_pow ha hb)
theorem wrap_u16 (n : Int) (h0 : 0 ≤ n) (h : n < 2 ^ 16) : IntKind.u16.wrap n = n := by simp [IntKind.wrap, IntKind.bits, IntKind.signed]; omega
theorem wrap_u32 (n : Int) (h0 : 0 ≤ n) (h : n < 2 ^ 32) : IntKind.u32.wrap n = n := by simp [IntKind.wrap, IntKind.bits, IntKind.signed]; omega
theorem wrap_u64 (n : Int) (h0 : 0 ≤ n) (h : n < 2 ^ 64) : IntKind.u64.wrap n = n := by simp [IntKind.wrap, IntKind.bits, IntKind.signed]; omega
theorem xor16 {a b : Nat} (ha : a < 65536) (hb : b < 65536) : Go.bits .xor .u16 (a : Int) (b : Int) = ((a ^^^ b : Nat) : Int) := xor_nat .u16 a b ha hb wrap_u16
theorem xor32 {a b : Nat} (ha : a < 4294967296) (hb : b < 4294967296) : Go.bits .xor .u32 (a : Int) (b : Int) = ((a ^^^ b : Nat) : Int) := xor_nat .u32 a b ha hb wrap_u32
theorem xor64 {a b : Nat} (ha : a < 18446744073709551616) (hb : b < 18446744073709551616) : Go.bits .xor .u64 (a : Int) (b : Int) = ((a ^^^ b : Nat) : Int) := xor_nat .u64 a b ha hb wrap_u64
theorem and1 (k : IntKind) (a : Nat) (ha : a < 2 ^ k.bits) (h1 : 1 < 2 ^ k.bits) (hk : ∀ n : Int, 0 ≤ n → n < 2 ^ k.bits → k.wrap n = n) : Go.bits .and k (a : Int) 1 = ((a % 2 : Nat) : Int) := by
  have h := (bits_nat k k.bits (Nat.le_refl _) hk a 1 ha h1).1
  rw [show ((1 : Nat) : Int) = 1 from rfl] at h
  rw [h, Nat.and_one_is_mod]
theorem wrap64_id {x : Int} (h : -9223372036854775808 ≤ x) (h2 : x < 9223372036854775808) : wrap64 x = x := by unfold wrap64; omega
theorem rd_lt {l : List Int} (hb : Bytes l) {i : Nat} (h : i < l.length) : ∃ c : Nat, c < 256 ∧ rd l (i : Int) = (c : Int) ∧ (toN l).drop i = c :: (toN l).drop (i + 1) := by
  have hm := hb l[i] (List.getElem_mem h)
  refine ⟨l[i].toNat, by omega, ?_, ?_⟩
  · simp [rd, List.getElem?_eq_getElem h]; omega
  · have h2 : i < (toN l).length := by rw [toN_length]; exact h
    rw [List.drop_eq_getElem_cons h2]
    simp [toN]

theorem good_tick16 {s : Nat} (h : s < 65536) : tick P16 s < 65536 := tick_lt good16 h
theorem good_tick32 {s : Nat} (h : s < 4294967296) : tick P32 s < 4294967296 := tick_lt good32 h

section sum16
variable {l : List Int} {r : Int}
theorem s16_l1 (x12 x13 : Int) : ∀ (n s : Nat), n ≤ 8 → s < 65536 → Ev (fun k => sum_sum_uint16.l0 k 33800 (ticks P16 n s : Nat) l x12 (wrap64 (x13 + 1))) r → Ev (fun k => sum_sum_uint16.l1 k 33800 (s : Nat) l x12 x13 (8 - n)) r
  | 0, s, _, _, h => Ev.step (fun k => by simp only [sum_sum_uint16.l1]; rw [if_neg (by omega)]; rfl) h
  | n + 1, s, hn, hs, h => by
    refine Ev.step (f := fun k => sum_sum_uint16.l1 k 33800 (tick P16 s : Nat) l x12 x13 (8 - n)) (fun k => ?_) (s16_l1 x12 x13 n (tick P16 s) (by omega) (good_tick16 hs) h)
    simp only [sum_sum_uint16.l1]
    rw [if_pos (by omega), and1 .u16 s hs (by decide) wrap_u16, show wrap64 (8 - ((n + 1 : Nat) : Int) + 1) = 8 - (n : Int) by unfold wrap64; omega, show ((s : Int) / 2) = ((s / 2 : Nat) : Int) by omega]
    unfold tick
    by_cases h2 : s % 2 = 1
    · rw [if_pos (by omega), if_pos h2, show (33800 : Int) = ((P16 : Nat) : Int) from rfl, xor16 (by omega) (by decide)]
    · rw [if_neg (by omega), if_neg h2]
theorem s16_l0 (hb : Bytes l) (hl : l.length < 9223372036854775807) : ∀ (n i s : Nat), n + i = l.length → s < 65536 → Ev (fun k => sum_sum_uint16.l0 k 33800 (s : Nat) l (l.length : Int) (i : Int)) ((65535 ^^^ reg P16 s ((toN l).drop i) : Nat) : Int)
  | 0, i, s, hi, hs => by
    have hz : (toN l).drop i = [] := by rw [List.drop_eq_nil_iff, toN_length]; omega
    refine ⟨1, fun k hk => ?_⟩
    obtain ⟨k, rfl⟩ : ∃ m, k = m + 1 := ⟨k - 1, by omega⟩
    simp only [sum_sum_uint16.l0]
    rw [if_neg (by omega), hz, reg_nil, show (65535 : Int) = ((65535 : Nat) : Int) from rfl, xor16 (by decide) hs]
  | n + 1, i, s, hi, hs => by
    obtain ⟨c, hc, hr, hd⟩ := rd_lt hb (i := i) (by omega)
    rw [hd, reg_cons]
    have hx : s ^^^ c < 65536 := Nat.xor_lt_two_pow (n := 16) hs (by omega)
    refine Ev.step (f := fun k => sum_sum_uint16.l1 k 33800 ((s ^^^ c : Nat) : Int) l (l.length : Int) (i : Int) (8 - (8 : Nat))) (fun k => ?_) (s16_l1 _ _ 8 (s ^^^ c) (by omega) hx ?_)
    · simp only [sum_sum_uint16.l0]
      rw [if_pos (by omega), if_pos (by omega), if_pos (by omega), hr, wrap_u16 _ (by omega) (by omega), xor16 hs (by omega)]
      rfl
    · rw [show wrap64 ((i : Int) + 1) = ((i + 1 : Nat) : Int) by unfold wrap64; omega]
      exact s16_l0 hb hl n (i + 1) _ (by omega) (ticks_lt good16 8 hx)
end sum16
theorem sum16_ev {l : List Int} (hb : Bytes l) (hl : l.length < 9223372036854775807) : Ev (fun k => sum_Sum16.f k l) ((Crc.sum 16 P16 (toN l) : Nat) : Int) := by
  have h := s16_l0 hb hl l.length 0 65535 (by omega) (by omega)
  rw [List.drop_zero, Nat.xor_comm] at h
  refine Ev.bind (f := fun _ t => some t) ?_ (Ev.now _)
  unfold sum_sum_uint16.f
  rw [show Go.bits .xor .u16 65535 0 = ((65535 : Nat) : Int) from by decide +kernel]
  exact h
section sum32
variable {l : List Int} {r : Int}
theorem s32_l1 (x12 x13 : Int) : ∀ (n s : Nat), n ≤ 8 → s < 4294967296 → Ev (fun k => sum_sum_uint32.l0 k 2197175160 (ticks P32 n s : Nat) l x12 (wrap64 (x13 + 1))) r → Ev (fun k => sum_sum_uint32.l1 k 2197175160 (s : Nat) l x12 x13 (8 - n)) r
  | 0, s, _, _, h => Ev.step (fun k => by simp only [sum_sum_uint32.l1]; rw [if_neg (by omega)]; rfl) h
  | n + 1, s, hn, hs, h => by
    refine Ev.step (f := fun k => sum_sum_uint32.l1 k 2197175160 (tick P32 s : Nat) l x12 x13 (8 - n)) (fun k => ?_) (s32_l1 x12 x13 n (tick P32 s) (by omega) (good_tick32 hs) h)
    simp only [sum_sum_uint32.l1]
    rw [if_pos (by omega), and1 .u32 s hs (by decide) wrap_u32, show wrap64 (8 - ((n + 1 : Nat) : Int) + 1) = 8 - (n : Int) by unfold wrap64; omega, show ((s : Int) / 2) = ((s / 2 : Nat) : Int) by omega]
    unfold tick
    by_cases h2 : s % 2 = 1
    · rw [if_pos (by omega), if_pos h2, show (2197175160 : Int) = ((P32 : Nat) : Int) from rfl, xor32 (by omega) (by decide)]
    · rw [if_neg (by omega), if_neg h2]
theorem s32_l0 (hb : Bytes l) (hl : l.length < 9223372036854775807) : ∀ (n i s : Nat), n + i = l.length → s < 4294967296 → Ev (fun k => sum_sum_uint32.l0 k 2197175160 (s : Nat) l (l.length : Int) (i : Int)) ((4294967295 ^^^ reg P32 s ((toN l).drop i) : Nat) : Int)
  | 0, i, s, hi, hs => by
    have hz : (toN l).drop i = [] := by rw [List.drop_eq_nil_iff, toN_length]; omega
    refine ⟨1, fun k hk => ?_⟩
    obtain ⟨k, rfl⟩ : ∃ m, k = m + 1 := ⟨k - 1, by omega⟩
    simp only [sum_sum_uint32.l0]
    rw [if_neg (by omega), hz, reg_nil, show (4294967295 : Int) = ((4294967295 : Nat) : Int) from rfl, xor32 (by decide) hs]
  | n + 1, i, s, hi, hs => by
    obtain ⟨c, hc, hr, hd⟩ := rd_lt hb (i := i) (by omega)
    rw [hd, reg_cons]
    have hx : s ^^^ c < 4294967296 := Nat.xor_lt_two_pow (n := 32) hs (by omega)
    refine Ev.step (f := fun k => sum_sum_uint32.l1 k 2197175160 ((s ^^^ c : Nat) : Int) l (l.length : Int) (i : Int) (8 - (8 : Nat))) (fun k => ?_) (s32_l1 _ _ 8 (s ^^^ c) (by omega) hx ?_)
    · simp only [sum_sum_uint32.l0]
      rw [if_pos (by omega), if_pos (by omega), if_pos (by omega), hr, show (c : Int) % 4294967296 = (c : Int) by omega, xor32 hs (by omega)]
      rfl
    · rw [show wrap64 ((i : Int) + 1) = ((i + 1 : Nat) : Int) by unfold wrap64; omega]
      exact s32_l0 hb hl n (i + 1) _ (by omega) (ticks_lt good32 8 hx)
end sum32
theorem sum32_ev {l : List Int} (hb : Bytes l) (hl : l.length < 9223372036854775807) : Ev (fun k => sum_Sum32.f k l) ((Crc.sum 32 P32 (toN l) : Nat) : Int) := by
  have h := s32_l0 hb hl l.length 0 4294967295 (by omega) (by omega)
  rw [List.drop_zero, Nat.xor_comm] at h
  refine Ev.bind (f := fun _ t => some t) ?_ (Ev.now _)
  unfold sum_sum_uint32.f
  rw [show Go.bits .xor .u32 4294967295 0 = ((4294967295 : Nat) : Int) from by decide +kernel]
  exact h

section refsum
variable {l : List Int} {r : Int} {w p : Nat}
theorem ref_l1 (g : Crc.Good w p) (hw : w ≤ 32) (all : Int) (i : Int) : ∀ (n s : Nat), n ≤ 8 → s < 2 ^ w → Ev (fun k => heliographref03_Sum.l0 k l all p (ticks p n s : Nat) (wrap64 (i + 1))) r → Ev (fun k => heliographref03_Sum.l1 k l all p (s : Nat) i (8 - n)) r
  | 0, s, _, _, h => Ev.step (fun k => by simp only [heliographref03_Sum.l1]; rw [if_neg (by omega)]; rfl) h
  | n + 1, s, hn, hs, h => by
    have h32 : 2 ^ w ≤ 2 ^ 32 := Nat.pow_le_pow_right (by decide) hw
    have hp := g.hi
    refine Ev.step (f := fun k => heliographref03_Sum.l1 k l all p (tick p s : Nat) i (8 - n)) (fun k => ?_) (ref_l1 g hw all i n (tick p s) (by omega) (tick_lt g hs) h)
    simp only [heliographref03_Sum.l1]
    rw [if_pos (by omega), show wrap64 (8 - ((n + 1 : Nat) : Int) + 1) = 8 - (n : Int) by unfold wrap64; omega, show Int.tmod (s : Int) 2 = ((s % 2 : Nat) : Int) from Int.ofNat_tmod s 2]
    unfold tick
    by_cases h2 : s % 2 = 1
    · rw [if_pos (by omega), if_pos h2, wrap_u64 ((s : Int) - 1) (by omega) (by omega), show ((s : Int) - 1) = ((s - 1 : Nat) : Int) by omega, show Int.tdiv ((s - 1 : Nat) : Int) 2 = (((s - 1) / 2 : Nat) : Int) from rfl, wrap_u64 _ (by omega) (by omega), xor64 (by omega) (by omega), show (s - 1) / 2 = s / 2 by omega]
    · rw [if_neg (by omega), if_neg h2, show Int.tdiv ((s : Nat) : Int) 2 = ((s / 2 : Nat) : Int) from rfl, wrap_u64 _ (by omega) (by omega)]
theorem ref_l0 (g : Crc.Good w p) (hw : w ≤ 32) (hw8 : 8 ≤ w) (all : Nat) (hall : all < 2 ^ w) (hb : Bytes l) (hl : l.length < 9223372036854775807) : ∀ (n i s : Nat), n + i = l.length → s < 2 ^ w → Ev (fun k => heliographref03_Sum.l0 k l all p (s : Nat) (i : Int)) ((reg p s ((toN l).drop i) ^^^ all : Nat) : Int)
  | 0, i, s, hi, hs => by
    have h32 : 2 ^ w ≤ 2 ^ 32 := Nat.pow_le_pow_right (by decide) hw
    have hz : (toN l).drop i = [] := by rw [List.drop_eq_nil_iff, toN_length]; omega
    refine ⟨1, fun k hk => ?_⟩
    obtain ⟨k, rfl⟩ : ∃ m, k = m + 1 := ⟨k - 1, by omega⟩
    simp only [heliographref03_Sum.l0]
    rw [if_neg (by omega), hz, reg_nil, xor64 (by omega) (by omega)]
  | n + 1, i, s, hi, hs => by
    have h32 : 2 ^ w ≤ 2 ^ 32 := Nat.pow_le_pow_right (by decide) hw
    have h8 : 2 ^ 8 ≤ 2 ^ w := Nat.pow_le_pow_right (by decide) hw8
    obtain ⟨c, hc, hr, hd⟩ := rd_lt hb (i := i) (by omega)
    rw [hd, reg_cons]
    have hx : s ^^^ c < 2 ^ w := Nat.xor_lt_two_pow hs (by omega)
    refine Ev.step (f := fun k => heliographref03_Sum.l1 k l all p ((s ^^^ c : Nat) : Int) (i : Int) (8 - (8 : Nat))) (fun k => ?_) (ref_l1 g hw _ _ 8 (s ^^^ c) (by omega) hx ?_)
    · simp only [heliographref03_Sum.l0]
      rw [if_pos (by omega), if_pos (by omega), hr, wrap_u64 _ (by omega) (by omega), xor64 (by omega) (by omega)]
      rfl
    · rw [show wrap64 ((i : Int) + 1) = ((i + 1 : Nat) : Int) by unfold wrap64; omega]
      exact ref_l0 g hw hw8 all hall hb hl n (i + 1) _ (by omega) (ticks_lt g 8 hx)
end refsum
theorem refsum16_ev {l : List Int} (hb : Bytes l) (hl : l.length < 9223372036854775807) : Ev (fun k => heliographref03_Sum.f k l 16) ((Crc.sum 16 P16 (toN l) : Nat) : Int) := by
  have h := ref_l0 good16 (by decide) (by decide) 65535 (by decide) hb hl l.length 0 65535 (by omega) (by decide)
  refine Ev.step (f := fun k => heliographref03_Sum.l0 k l 65535 33800 65535 0) (fun k => ?_) h
  simp only [heliographref03_Sum.f, heliographref03_Sum.j0]
  rfl
theorem refsum32_ev {l : List Int} (hb : Bytes l) (hl : l.length < 9223372036854775807) : Ev (fun k => heliographref03_Sum.f k l 32) ((Crc.sum 32 P32 (toN l) : Nat) : Int) := by
  have h := ref_l0 good32 (by decide) (by decide) 4294967295 (by decide) hb hl l.length 0 4294967295 (by omega) (by decide)
  refine Ev.step (f := fun k => heliographref03_Sum.l0 k l 4294967295 2197175160 4294967295 0) (fun k => ?_) h
  simp only [heliographref03_Sum.f, heliographref03_Sum.j0]
  rfl
end Go.Proofs.Ytglkfbegkfgaoaa.P
