/- The two checksums over lists of numbers below 256, as a register that ticks bit by bit; what is not told is just what the register brings to zero. -/
namespace Go.Proofs.Ythjefcamonmjpaa.Crc

/-- One tick of the register. -/
def tick (p s : Nat) : Nat := if s % 2 = 1 then (s / 2) ^^^ p else s / 2
def ticks (p : Nat) : Nat → Nat → Nat
  | 0, s => s
  | n + 1, s => ticks p n (tick p s)
/-- A byte goes through the register. -/
def byte (p s c : Nat) : Nat := ticks p 8 (s ^^^ c)
/-- Bytes go through the register. -/
def reg (p s : Nat) (l : List Nat) : Nat := l.foldl (byte p) s
theorem reg_nil (p s : Nat) : reg p s [] = s := rfl
theorem reg_cons (p s c : Nat) (l : List Nat) : reg p s (c :: l) = reg p (byte p s c) l := rfl
/-- A row of bytes as one number, the lowest first. -/
def val : List Nat → Nat
  | [] => 0
  | c :: l => c + 256 * val l
/-- The n bytes of a number, the lowest first. -/
def le : Nat → Nat → List Nat
  | 0, _ => []
  | n + 1, x => x % 256 :: le n (x / 256)

theorem xor_div2 (a b : Nat) : (a ^^^ b) / 2 = (a / 2) ^^^ (b / 2) := by
  have := Nat.shiftRight_xor_distrib (a := a) (b := b) (i := 1)
  simpa [Nat.shiftRight_eq_div_pow] using this
theorem xor_mod2 (a b : Nat) : (a ^^^ b) % 2 = (a % 2 + b % 2) % 2 := by
  have h := Nat.testBit_xor a b 0
  have ha := Nat.mod_two_eq_zero_or_one a
  have hb := Nat.mod_two_eq_zero_or_one b
  have hc := Nat.mod_two_eq_zero_or_one (a ^^^ b)
  simp only [Nat.testBit_zero] at h
  rcases ha with ha | ha <;> rcases hb with hb | hb <;> rcases hc with hc | hc <;> simp_all

theorem tick_xor (p a b : Nat) : tick p (a ^^^ b) = tick p a ^^^ tick p b := by
  unfold tick
  have h := xor_mod2 a b
  have hd := xor_div2 a b
  have ha := Nat.mod_two_eq_zero_or_one a
  have hb := Nat.mod_two_eq_zero_or_one b
  rcases ha with ha | ha <;> rcases hb with hb | hb
  · rw [if_neg (by omega), if_neg (by omega), if_neg (by omega), hd]
  · rw [if_pos (by omega), if_neg (by omega), if_pos (by omega), hd, Nat.xor_assoc]
  · rw [if_pos (by omega), if_pos (by omega), if_neg (by omega), hd, Nat.xor_assoc, Nat.xor_assoc, Nat.xor_comm p]
  · rw [if_neg (by omega), if_pos (by omega), if_pos (by omega), hd]
    have : a / 2 ^^^ p ^^^ (b / 2 ^^^ p) = (a / 2 ^^^ b / 2) ^^^ (p ^^^ p) := by
      rw [Nat.xor_assoc, Nat.xor_comm p (b / 2 ^^^ p), Nat.xor_assoc (b / 2), ← Nat.xor_assoc]
    rw [this, Nat.xor_self, Nat.xor_zero]
theorem ticks_xor (p : Nat) : ∀ n a b, ticks p n (a ^^^ b) = ticks p n a ^^^ ticks p n b
  | 0, _, _ => rfl
  | n + 1, a, b => by simp only [ticks, tick_xor, ticks_xor p n]
theorem ticks_zero (p : Nat) : ∀ n, ticks p n 0 = 0
  | 0 => rfl
  | n + 1 => by simp only [ticks]; exact ticks_zero p n
theorem ticks_add (p : Nat) : ∀ m n s, ticks p (m + n) s = ticks p n (ticks p m s)
  | 0, n, s => by simp [ticks]
  | m + 1, n, s => by rw [show m + 1 + n = (m + n) + 1 by omega]; simp only [ticks]; exact ticks_add p m n _
/-- What stands that high just comes down. -/
theorem ticks_shift (p : Nat) : ∀ n x, ticks p n (2 ^ n * x) = x
  | 0, x => by simp [ticks]
  | n + 1, x => by
    simp only [ticks]
    have : tick p (2 ^ (n + 1) * x) = 2 ^ n * x := by
      unfold tick
      rw [Nat.pow_succ, Nat.mul_right_comm, if_neg (by omega)]
      omega
    rw [this]
    exact ticks_shift p n x

theorem add_xor {c x : Nat} (h : c < 256) : c + 256 * x = c ^^^ (256 * x) := by
  have : 256 * x = x <<< 8 := by rw [Nat.shiftLeft_eq]; omega
  rw [this]
  apply Nat.eq_of_testBit_eq
  intro i
  rw [Nat.testBit_xor, Nat.testBit_shiftLeft]
  rw [show c + x <<< 8 = 2 ^ 8 * x + c by rw [Nat.shiftLeft_eq]; omega, Nat.testBit_two_pow_mul_add x (by simpa using h)]
  by_cases hi : i < 8
  · rw [if_pos hi]
    simp [show ¬ 8 ≤ i by omega]
  · rw [if_neg hi]
    have hc : c.testBit i = false := Nat.testBit_lt_two_pow (Nat.lt_of_lt_of_le h (by
      have : 2 ^ 8 ≤ 2 ^ i := Nat.pow_le_pow_right (by decide) (by omega)
      omega))
    simp [hc, show 8 ≤ i by omega]

/-- The register behind bytes is the ticks of what they are as one number. -/
theorem reg_val (p : Nat) (l : List Nat) : ∀ (r : Nat), (∀ c ∈ l, c < 256) → reg p r l = ticks p (8 * l.length) (r ^^^ val l) := by
  induction l with
  | nil => intro r _; simp [reg_nil, val, ticks]
  | cons c l ih =>
    intro r h
    have hc : c < 256 := h c (List.mem_cons_self ..)
    rw [reg_cons, val, ih _ (fun x hx => h x (List.mem_cons_of_mem _ hx)), List.length_cons, show 8 * (l.length + 1) = 8 + 8 * l.length by omega, ticks_add, add_xor hc, ← Nat.xor_assoc, ticks_xor p 8 (r ^^^ c)]
    unfold byte
    have h8 : ticks p 8 (256 * val l) = val l := ticks_shift p 8 (val l)
    rw [h8]

/-- A constant whose highest bit is its w-th. -/
structure Good (w p : Nat) : Prop where
  pos : 0 < w
  lo : 2 ^ (w - 1) ≤ p
  hi : p < 2 ^ w
variable {w p : Nat}
theorem tick_lt (g : Good w p) {s : Nat} (h : s < 2 ^ w) : tick p s < 2 ^ w := by
  unfold tick
  have h2 : s / 2 < 2 ^ w := by omega
  split
  · exact Nat.xor_lt_two_pow h2 g.hi
  · exact h2
theorem ticks_lt (g : Good w p) : ∀ (n : Nat) {s : Nat}, s < 2 ^ w → ticks p n s < 2 ^ w
  | 0, _, h => h
  | n + 1, _, h => ticks_lt g n (tick_lt g h)
theorem tick_eq_zero (g : Good w p) {s : Nat} (h : s < 2 ^ w) (hz : tick p s = 0) : s = 0 := by
  unfold tick at hz
  have hp := g.pos
  have hw : 2 ^ w = 2 * 2 ^ (w - 1) := by rw [← Nat.pow_succ']; congr 1; omega
  split at hz
  · exfalso
    have hlt : s / 2 < 2 ^ (w - 1) := by omega
    have he : s / 2 = p := by
      have := congrArg (· ^^^ p) hz
      simpa [Nat.xor_assoc] using this
    have := g.lo
    omega
  · omega
theorem ticks_eq_zero (g : Good w p) : ∀ (n : Nat) {s : Nat}, s < 2 ^ w → ticks p n s = 0 → s = 0
  | 0, _, _, hz => hz
  | n + 1, _, h, hz => tick_eq_zero g h (ticks_eq_zero g n (tick_lt g h) hz)
theorem xor_eq_zero {a b : Nat} (h : a ^^^ b = 0) : a = b := by
  have := congrArg (· ^^^ b) h
  simpa [Nat.xor_assoc] using this
theorem ticks_inj (g : Good w p) (n : Nat) {a b : Nat} (ha : a < 2 ^ w) (hb : b < 2 ^ w) (h : ticks p n a = ticks p n b) : a = b := by
  apply xor_eq_zero
  apply ticks_eq_zero g n (Nat.xor_lt_two_pow ha hb)
  rw [ticks_xor, h, Nat.xor_self]
theorem reg_lt (g : Good w p) (hw : 8 ≤ w) (l : List Nat) : ∀ {r : Nat}, r < 2 ^ w → (∀ c ∈ l, c < 256) → reg p r l < 2 ^ w := by
  induction l with
  | nil => intro r hr _; exact hr
  | cons c l ih =>
    intro r hr h
    rw [reg_cons]
    refine ih (ticks_lt g 8 (Nat.xor_lt_two_pow hr ?_)) (fun x hx => h x (List.mem_cons_of_mem _ hx))
    have h1 := h c (List.mem_cons_self ..)
    have : 2 ^ 8 ≤ 2 ^ w := Nat.pow_le_pow_right (by decide) hw
    omega

theorem val_append : ∀ (a b : List Nat), val (a ++ b) = val a + 2 ^ (8 * a.length) * val b
  | [], b => by simp [val]
  | c :: a, b => by
    simp only [List.cons_append, val, val_append a b, List.length_cons]
    rw [show 8 * (a.length + 1) = 8 * a.length + 8 by omega, Nat.pow_add, Nat.mul_add, ← Nat.add_assoc]
    congr 1
    rw [show (2 : Nat) ^ 8 = 256 by rfl, Nat.mul_comm (2 ^ (8 * a.length)) 256, Nat.mul_assoc]
theorem val_lt : ∀ (l : List Nat), (∀ c ∈ l, c < 256) → val l < 2 ^ (8 * l.length)
  | [], _ => by simp [val]
  | c :: l, h => by
    have h1 := h c (List.mem_cons_self ..)
    have h2 := val_lt l (fun x hx => h x (List.mem_cons_of_mem _ hx))
    simp only [val, List.length_cons]
    rw [show 8 * (l.length + 1) = 8 * l.length + 8 by omega, Nat.pow_add, show (2 : Nat) ^ 8 = 256 by rfl]
    omega
theorem val_inj : ∀ (a b : List Nat), (∀ c ∈ a, c < 256) → (∀ c ∈ b, c < 256) → a.length = b.length → val a = val b → a = b
  | [], [], _, _, _, _ => rfl
  | [], _ :: _, _, _, h, _ => by simp at h
  | _ :: _, [], _, _, h, _ => by simp at h
  | c :: a, d :: b, ha, hb, hl, hv => by
    have h1 := ha c (List.mem_cons_self ..)
    have h2 := hb d (List.mem_cons_self ..)
    simp only [val] at hv
    have hcd : c = d := by omega
    have hv2 : val a = val b := by omega
    rw [hcd, val_inj a b (fun x hx => ha x (List.mem_cons_of_mem _ hx)) (fun x hx => hb x (List.mem_cons_of_mem _ hx)) (by simpa using hl) hv2]
theorem le_length : ∀ n x, (le n x).length = n
  | 0, _ => rfl
  | n + 1, x => by simp [le, le_length n]
theorem le_lt : ∀ n x, ∀ c ∈ le n x, c < 256
  | 0, _, c, h => by simp [le] at h
  | n + 1, x, c, h => by
    simp only [le, List.mem_cons] at h
    rcases h with rfl | h
    · omega
    · exact le_lt n _ c h
theorem val_le : ∀ n x, x < 2 ^ (8 * n) → val (le n x) = x
  | 0, x, h => by simp [val, le] at h ⊢; omega
  | n + 1, x, h => by
    simp only [le, val]
    rw [val_le n (x / 256)]
    · omega
    · rw [show 8 * (n + 1) = 8 * n + 8 by omega, Nat.pow_add, show (2 : Nat) ^ 8 = 256 by rfl] at h
      exact Nat.div_lt_of_lt_mul (by omega)

/-- The sum of w bits. -/
def sum (w p : Nat) (l : List Nat) : Nat := reg p (2 ^ w - 1) l ^^^ (2 ^ w - 1)
/-- Bytes with their sum behind them: n bytes of it. -/
def sealed (n p : Nat) (l : List Nat) : List Nat := l ++ le n (sum (8 * n) p l)
theorem sum_lt (g : Good w p) (hw : 8 ≤ w) (l : List Nat) (h : ∀ c ∈ l, c < 256) : sum w p l < 2 ^ w := by
  have hp : 0 < 2 ^ w := Nat.two_pow_pos w
  exact Nat.xor_lt_two_pow (reg_lt g hw l (by omega) h) (by omega)
theorem seal_length (n p : Nat) (l : List Nat) : (sealed n p l).length = l.length + n := by simp [sealed, le_length]
theorem seal_byte (n p : Nat) (l : List Nat) (h : ∀ c ∈ l, c < 256) : ∀ c ∈ sealed n p l, c < 256 := by
  intro c hc
  rcases List.mem_append.1 hc with hc | hc
  · exact h c hc
  · exact le_lt _ _ c hc
theorem reg_append (p : Nat) (a b : List Nat) (r : Nat) : reg p r (a ++ b) = reg p (reg p r a) b := List.foldl_append ..
/-- When bytes are as they were sealed: the register is at one constant. -/
theorem sealed_iff (n : Nat) (hn : 0 < n) (g : Good (8 * n) p) (d s : List Nat) (hd : ∀ c ∈ d, c < 256) (hs : ∀ c ∈ s, c < 256) (hl : s.length = n) :
    sealed n p d = d ++ s ↔ reg p (2 ^ (8 * n) - 1) (d ++ s) = ticks p (8 * n) (2 ^ (8 * n) - 1) := by
  have hp : 0 < 2 ^ (8 * n) := Nat.two_pow_pos _
  have hr := reg_lt g (by omega) d (r := 2 ^ (8 * n) - 1) (by omega) hd
  have hv := val_lt s hs
  rw [hl] at hv
  have hle := sum_lt g (by omega) d hd
  rw [reg_append, reg_val p s _ hs, hl]
  unfold sealed
  rw [List.append_cancel_left_eq]
  unfold sum at hle ⊢
  generalize reg p (2 ^ (8 * n) - 1) d = R at *
  constructor
  · intro h
    have h2 : val (le n (R ^^^ (2 ^ (8 * n) - 1))) = val s := by rw [h]
    rw [val_le n _ hle] at h2
    rw [← h2]
    congr 1
    rw [← Nat.xor_assoc, Nat.xor_self, Nat.zero_xor]
  · intro h
    have h2 := ticks_inj g (8 * n) (Nat.xor_lt_two_pow hr hv) (by omega) h
    apply val_inj _ _ (le_lt _ _) hs (by rw [le_length, hl])
    rw [val_le n _ hle]
    rw [← h2, ← Nat.xor_assoc, Nat.xor_self, Nat.zero_xor]
/-- Bytes that are sealed, turned by some bits: they are still sealed just where the register brings what was turned to zero. -/
theorem turned_iff (n : Nat) (hn : 0 < n) (g : Good (8 * n) p) (b d s : List Nat) (hb : ∀ c ∈ b, c < 256) (hd : ∀ c ∈ d, c < 256) (hs : ∀ c ∈ s, c < 256) (hl : s.length = n) (hlen : d.length = b.length) :
    sealed n p d = d ++ s ↔ ticks p (8 * (b.length + n)) (val (sealed n p b) ^^^ val (d ++ s)) = 0 := by
  rw [sealed_iff n hn g d s hd hs hl]
  have h0 := (sealed_iff n hn g b (le n (sum (8 * n) p b)) hb (le_lt _ _) (le_length _ _)).1 rfl
  have hds : ∀ c ∈ d ++ s, c < 256 := fun c hc => (List.mem_append.1 hc).elim (hd c) (hs c)
  have hbs : ∀ c ∈ sealed n p b, c < 256 := seal_byte n p b hb
  rw [show b ++ le n (sum (8 * n) p b) = sealed n p b from rfl, reg_val p _ _ hbs, seal_length] at h0
  rw [reg_val p _ _ hds, List.length_append, hl, hlen, ← h0, ticks_xor, ticks_xor, ticks_xor]
  constructor
  · intro h
    have h2 : ticks p (8 * (b.length + n)) (val (d ++ s)) = ticks p (8 * (b.length + n)) (val (sealed n p b)) := by
      have := congrArg (fun x => ticks p (8 * (b.length + n)) (2 ^ (8 * n) - 1) ^^^ x) h
      simpa [← Nat.xor_assoc] using this
    rw [h2, Nat.xor_self]
  · intro h
    rw [xor_eq_zero h]
/-- What was turned within w bits side by side is told. -/
theorem burst (g : Good w p) (q m M : Nat) (hm : m < 2 ^ w) (hm0 : m ≠ 0) (hq : q ≤ M) : ticks p M (2 ^ q * m) ≠ 0 := by
  intro h
  rw [show M = q + (M - q) by omega, ticks_add, ticks_shift] at h
  exact hm0 (ticks_eq_zero g _ hm h)
/-- Two bits are told where the register, begun at 1, is not at 1 again. -/
theorem pair (g : Good w p) (q d M : Nat) (hd : ticks p d 1 ≠ 1) (hq : q + d ≤ M) : ticks p M (2 ^ q * (1 ^^^ 2 ^ d)) ≠ 0 := by
  intro h
  have hp := g.pos
  have h1 : 1 < 2 ^ w := Nat.one_lt_two_pow (by omega)
  have hs := ticks_lt g d h1
  rw [show M = q + (d + (M - q - d)) by omega, ticks_add, ticks_shift, ticks_add, ticks_xor, show ticks p d (2 ^ d) = 1 by simpa using ticks_shift p d 1] at h
  have := ticks_eq_zero g _ (Nat.xor_lt_two_pow hs h1) h
  exact hd (xor_eq_zero this)
def P16 : Nat := 0x8408
def P32 : Nat := 0x82F63B78
theorem good16 : Good 16 P16 := ⟨by decide, by decide, by decide⟩
theorem good32 : Good 32 P32 := ⟨by decide, by decide, by decide⟩
theorem apart16 : ∀ d, d < 64 → 0 < d → ticks P16 d 1 ≠ 1 := by decide +kernel
theorem apart32 : ∀ d, d < 64 → 0 < d → ticks P32 d 1 ≠ 1 := by decide +kernel
end Go.Proofs.Ythjefcamonmjpaa.Crc
