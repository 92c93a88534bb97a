/- Numbers to the base 128: what the printed functions of the layer answer. -/
import Derived.Test.YtlohjfagiigchaaHEv
import Derived.Test.YtlohjfagiigchaaHPut
import Derived.Test.YtlohjfagiigchaaHGet
import Derived.Test.YtlohjfagiigchaaPxf14
import Derived.Test.YtlohjfagiigchaaPxf10
namespace Go.Proofs.Ytlohjfagiigchaa.P
open Go.RowKit Go.Proofs.YtlohjfagiigchaaW.PrintWords Go.Proofs.YtlohjfagiigchaaW.PrintLast Go.Proofs.YtlohjfagiigchaaW.PrintMore
set_option linter.unusedVariables false
set_option maxRecDepth 100000
set_option linter.unusedSimpArgs false
def Bytes (l : List Int) : Prop := ∀ x ∈ l, 0 ≤ x ∧ x < 256
theorem bytes_wf {l : List Int} (h : ∀ x ∈ l, (Lit.int .u8 x).wf = true) : Bytes l := by
  intro x hx
  have := h x hx
  simp [Lit.wf, IntKind.max, IntKind.min, IntKind.signed, IntKind.bits] at this
  omega
theorem u64_wf {x : Int} (h : (Lit.int .u64 x).wf = true) : ∃ n : Nat, x = n ∧ n < 2 ^ 64 := by
  simp [Lit.wf, IntKind.max, IntKind.min, IntKind.signed, IntKind.bits] at h
  exact ⟨x.toNat, by omega, by omega⟩
theorem Bytes.append {a b : List Int} (ha : Bytes a) (hb : Bytes b) : Bytes (a ++ b) := by
  intro x hx
  rcases List.mem_append.1 hx with h | h
  · exact ha x h
  · exact hb x h
theorem Bytes.take {a : List Int} (ha : Bytes a) (n : Nat) : Bytes (a.take n) := fun x hx => ha x (List.mem_of_mem_take hx)
theorem Bytes.drop {a : List Int} (ha : Bytes a) (n : Nat) : Bytes (a.drop n) := fun x hx => ha x (List.mem_of_mem_drop hx)
theorem Bytes.tail {c : Int} {a : List Int} (ha : Bytes (c :: a)) : Bytes a := fun x hx => ha x (List.mem_cons_of_mem _ hx)
theorem wrap_u64 (n : Int) (h0 : 0 ≤ n) (h : n < 2 ^ 64) : IntKind.u64.wrap n = n := by simp [IntKind.wrap, IntKind.bits, IntKind.signed]; omega
theorem rd_at {l : List Int} {i : Nat} (h : i < l.length) : rd l (i : Int) = l[i] := by simp [rd, List.getElem?_eq_getElem h]
theorem w64_succ {i : Nat} (h : i < 9223372036854775807) : wrap64 ((i : Int) + 1) = ((i + 1 : Nat) : Int) := by unfold wrap64; omega
theorem wrap64_id {x : Int} (h : -9223372036854775808 ≤ x) (h2 : x < 9223372036854775808) : wrap64 x = x := by unfold wrap64; omega
theorem u8s_inj : ∀ {a b : List Int}, Bytes a → Bytes b → (a.map fun n => UInt8.ofNat n.toNat) = (b.map fun n => UInt8.ofNat n.toNat) → a = b
  | [], [], _, _, _ => rfl
  | [], _ :: _, _, _, h => by simp at h
  | _ :: _, [], _, _, h => by simp at h
  | x :: a, y :: b, ha, hb, h => by
    simp only [List.map_cons, List.cons.injEq] at h
    have h1 := ha x (List.mem_cons_self ..)
    have h2 := hb y (List.mem_cons_self ..)
    have h3 := congrArg UInt8.toNat h.1
    simp at h3
    rw [u8s_inj ha.tail hb.tail h.2, show x = y by omega]
theorem equal_at {a b : List Int} (ha : Bytes a) (hb : Bytes b) : bytes_Equal.f a b = some (decide (a = b)) := by
  unfold bytes_Equal.f
  rw [ByteArray.toList_eq, ByteArray.toList_eq, strOfNums_data, strOfNums_data]
  congr 1
  rw [Bool.eq_iff_iff]
  simp only [beq_iff_eq, decide_eq_true_eq]
  exact ⟨fun h => u8s_inj ha hb h, fun h => by rw [h]⟩

def szf : Nat → Nat → Nat
  | 0, _ => 1
  | f + 1, n => if n < 128 then 1 else szf f (n / 128) + 1
/-- How many digits a number has. -/
def sz (n : Nat) : Nat := szf 9 n
theorem szf_pos : ∀ f n, 1 ≤ szf f n
  | 0, _ => Nat.le_refl _
  | f + 1, n => by unfold szf; split <;> omega
theorem szf_le : ∀ f n, szf f n ≤ f + 1
  | 0, _ => Nat.le_refl _
  | f + 1, n => by have := szf_le f (n / 128); unfold szf; split <;> omega
theorem szf_lt : ∀ f n, n < 128 ^ (f + 1) → n < 128 ^ szf f n
  | 0, n, h => h
  | f + 1, n, h => by
    unfold szf
    split
    · simpa using (by assumption)
    · have := szf_lt f (n / 128) (by rw [Nat.pow_succ] at h; exact Nat.div_lt_of_lt_mul (by omega))
      rw [Nat.pow_succ]
      omega
theorem szf_ge : ∀ f n, szf f n = 1 ∨ 128 ^ (szf f n - 1) ≤ n
  | 0, _ => .inl rfl
  | f + 1, n => by
    unfold szf
    split
    · exact .inl rfl
    · right
      have hp := szf_pos f (n / 128)
      rcases szf_ge f (n / 128) with h | h
      · rw [h]; simp; omega
      · have h1 : szf f (n / 128) + 1 - 1 = (szf f (n / 128) - 1) + 1 := by omega
        rw [h1, Nat.pow_succ]
        omega
theorem sz_pos (n : Nat) : 1 ≤ sz n := szf_pos 9 n
theorem sz_le (n : Nat) : sz n ≤ 10 := szf_le 9 n
theorem sz_lt {n : Nat} (h : n < 2 ^ 64) : n < 128 ^ sz n := szf_lt 9 n (by omega)
theorem sz_ge (n : Nat) : sz n = 1 ∨ 128 ^ (sz n - 1) ≤ n := szf_ge 9 n
theorem sz_of {n m : Nat} (hn : n < 2 ^ 64) (h1 : 1 ≤ m) (h2 : n < 128 ^ m) (h3 : m = 1 ∨ 128 ^ (m - 1) ≤ n) : m = sz n := by
  have p := sz_pos n
  have l := sz_lt hn
  rcases Nat.lt_trichotomy m (sz n) with h | h | h
  · rcases sz_ge n with e | e
    · omega
    · have := Nat.pow_le_pow_right (n := 128) (by decide) (show m ≤ sz n - 1 by omega)
      omega
  · exact h
  · rcases h3 with e | e
    · omega
    · have := Nat.pow_le_pow_right (n := 128) (by decide) (show sz n ≤ m - 1 by omega)
      omega

def lenTab : ByteArray := ⟨#[0, 1, 2, 2, 3, 3, 3, 3, 4, 4, 4, 4, 4, 4, 4, 4, 5, 5, 5, 5, 5, 5, 5, 5, 5, 5, 5, 5, 5, 5, 5, 5, 6, 6, 6, 6, 6, 6, 6, 6, 6, 6, 6, 6, 6, 6, 6, 6, 6, 6, 6, 6, 6, 6, 6, 6, 6, 6, 6, 6, 6, 6, 6, 6, 7, 7, 7, 7, 7, 7, 7, 7, 7, 7, 7, 7, 7, 7, 7, 7, 7, 7, 7, 7, 7, 7, 7, 7, 7, 7, 7, 7, 7, 7, 7, 7, 7, 7, 7, 7, 7, 7, 7, 7, 7, 7, 7, 7, 7, 7, 7, 7, 7, 7, 7, 7, 7, 7, 7, 7, 7, 7, 7, 7, 7, 7, 7, 7, 8, 8, 8, 8, 8, 8, 8, 8, 8, 8, 8, 8, 8, 8, 8, 8, 8, 8, 8, 8, 8, 8, 8, 8, 8, 8, 8, 8, 8, 8, 8, 8, 8, 8, 8, 8, 8, 8, 8, 8, 8, 8, 8, 8, 8, 8, 8, 8, 8, 8, 8, 8, 8, 8, 8, 8, 8, 8, 8, 8, 8, 8, 8, 8, 8, 8, 8, 8, 8, 8, 8, 8, 8, 8, 8, 8, 8, 8, 8, 8, 8, 8, 8, 8, 8, 8, 8, 8, 8, 8, 8, 8, 8, 8, 8, 8, 8, 8, 8, 8, 8, 8, 8, 8, 8, 8, 8, 8, 8, 8, 8, 8, 8, 8, 8, 8, 8, 8, 8, 8, 8, 8, 8, 8, 8, 8, 8, 8]⟩
theorem tab_ok : ∀ i : Fin 256, 0 ≤ bt lenTab (i.val : Int) ∧ bt lenTab (i.val : Int) ≤ 8 ∧ i.val < 2 ^ (bt lenTab (i.val : Int)).toNat ∧ ((bt lenTab (i.val : Int)).toNat = 0 ∨ 2 ^ ((bt lenTab (i.val : Int)).toNat - 1) ≤ i.val) := by decide +kernel
theorem tab_at {y : Nat} (h : y < 256) : ∃ b : Nat, bt lenTab (y : Int) = (b : Int) ∧ b ≤ 8 ∧ y < 2 ^ b ∧ (b = 0 ∨ 2 ^ (b - 1) ≤ y) := by
  obtain ⟨h0, h1, h2, h3⟩ := tab_ok ⟨y, h⟩
  generalize hb : bt lenTab ((⟨y, h⟩ : Fin 256).val : Int) = b at h0 h1 h2 h3
  have hb' : bt lenTab (y : Int) = b := hb
  exact ⟨b.toNat, by omega, by omega, h2, h3⟩
theorem j0_eq (k : Nat) (x0 x2 : Int) : bits_Len64.j0 (k + 1) x0 x2 = if x0 ≥ 65536 then (if (x0 / 65536) ≥ 256 then (if 0 ≤ (((x0 / 65536) / 256) % 256) then (if (((x0 / 65536) / 256) % 256) < 256 then (some (wrap64 ((wrap64 ((wrap64 (x2 + 16)) + 8)) + (wrap64 (bt lenTab (((x0 / 65536) / 256) % 256)))))) else (none)) else (none)) else (if 0 ≤ ((x0 / 65536) % 256) then (if ((x0 / 65536) % 256) < 256 then (some (wrap64 ((wrap64 (x2 + 16)) + (wrap64 (bt lenTab ((x0 / 65536) % 256)))))) else (none)) else (none))) else (if x0 ≥ 256 then (if 0 ≤ ((x0 / 256) % 256) then (if ((x0 / 256) % 256) < 256 then (some (wrap64 ((wrap64 (x2 + 8)) + (wrap64 (bt lenTab ((x0 / 256) % 256)))))) else (none)) else (none)) else (if 0 ≤ ((x0) % 256) then (if ((x0) % 256) < 256 then (some (wrap64 (x2 + (wrap64 (bt lenTab ((x0) % 256)))))) else (none)) else (none))) := rfl
theorem shifted {s x y b : Nat} (h : y = x / 2 ^ s) (h1 : y < 2 ^ b) (h2 : b = 0 ∨ 2 ^ (b - 1) ≤ y) (h3 : s = 0 ∨ 0 < y) : x < 2 ^ (s + b) ∧ (s + b = 0 ∨ 2 ^ (s + b - 1) ≤ x) := by
  subst h
  have hp : 0 < 2 ^ s := Nat.pow_pos (by decide)
  refine ⟨?_, ?_⟩
  · rw [Nat.pow_add, Nat.mul_comm]
    exact (Nat.div_lt_iff_lt_mul hp).1 h1
  · rcases h2 with h2 | h2
    · subst h2
      rcases h3 with h3 | h3
      · left; omega
      · have : x / 2 ^ s < 1 := by simpa using h1
        omega
    · rcases Nat.eq_zero_or_pos b with h0 | h0
      · subst h0
        have : x / 2 ^ s < 1 := by simpa using h1
        rcases h3 with h3 | h3
        · left; omega
        · omega
      · right
        rw [show s + b - 1 = (b - 1) + s by omega, Nat.pow_add]
        exact (Nat.le_div_iff_mul_le hp).1 h2
theorem wsum2 {c s u b : Nat} (hc : c ≤ 64) (hs : s ≤ 64) (hu : u ≤ 64) (hb : b ≤ 64) : wrap64 ((wrap64 ((wrap64 ((c : Int) + (s : Int))) + (u : Int))) + (wrap64 (b : Int))) = ((c + (s + u + b) : Nat) : Int) := by unfold wrap64; omega
theorem wsum1 {c s b : Nat} (hc : c ≤ 64) (hs : s ≤ 64) (hb : b ≤ 64) : wrap64 ((wrap64 ((c : Int) + (s : Int))) + (wrap64 (b : Int))) = ((c + (s + b) : Nat) : Int) := by unfold wrap64; omega
theorem wsum0 {c b : Nat} (hc : c ≤ 64) (hb : b ≤ 64) : wrap64 ((c : Int) + (wrap64 (b : Int))) = ((c + b : Nat) : Int) := by unfold wrap64; omega
theorem len_a {x c b k : Nat} (h1 : 65536 ≤ x) (h2 : 256 ≤ x / 65536) (hx : x < 4294967296) (hc : c ≤ 32) (hb : b ≤ 8) (e : bt lenTab ((x / 65536 / 256 : Nat) : Int) = (b : Int)) : bits_Len64.j0 (k + 1) (x : Int) (c : Int) = some ((c + (24 + b) : Nat) : Int) := by
  rw [j0_eq, if_pos (by omega), if_pos (by omega), if_pos (by omega), if_pos (by omega), show ((x : Int) / 65536 / 256) % 256 = ((x / 65536 / 256 : Nat) : Int) by omega, e]
  exact congrArg some (wsum2 (s := 16) (u := 8) (by omega) (by omega) (by omega) (by omega))
theorem len_b {x c b k : Nat} (h1 : 65536 ≤ x) (h2 : ¬ 256 ≤ x / 65536) (hx : x < 4294967296) (hc : c ≤ 32) (hb : b ≤ 8) (e : bt lenTab ((x / 65536 : Nat) : Int) = (b : Int)) : bits_Len64.j0 (k + 1) (x : Int) (c : Int) = some ((c + (16 + b) : Nat) : Int) := by
  rw [j0_eq, if_pos (by omega), if_neg (by omega), if_pos (by omega), if_pos (by omega), show ((x : Int) / 65536) % 256 = ((x / 65536 : Nat) : Int) by omega, e]
  exact congrArg some (wsum1 (s := 16) (by omega) (by omega) (by omega))
theorem len_c {x c b k : Nat} (h1 : ¬ 65536 ≤ x) (h2 : 256 ≤ x) (hc : c ≤ 32) (hb : b ≤ 8) (e : bt lenTab ((x / 256 : Nat) : Int) = (b : Int)) : bits_Len64.j0 (k + 1) (x : Int) (c : Int) = some ((c + (8 + b) : Nat) : Int) := by
  rw [j0_eq, if_neg (by omega), if_pos (by omega), if_pos (by omega), if_pos (by omega), show ((x : Int) / 256) % 256 = ((x / 256 : Nat) : Int) by omega, e]
  exact congrArg some (wsum1 (s := 8) (by omega) (by omega) (by omega))
theorem len_d {x c b k : Nat} (h1 : ¬ 65536 ≤ x) (h2 : ¬ 256 ≤ x) (hc : c ≤ 32) (hb : b ≤ 8) (e : bt lenTab (x : Int) = (b : Int)) : bits_Len64.j0 (k + 1) (x : Int) (c : Int) = some ((c + b : Nat) : Int) := by
  rw [j0_eq, if_neg (by omega), if_neg (by omega), if_pos (by omega), if_pos (by omega), show (x : Int) % 256 = (x : Int) by omega, e]
  exact congrArg some (wsum0 (by omega) (by omega))
theorem len_j0 {x c : Nat} (hx : x < 4294967296) (hc : c ≤ 32) : ∃ b : Nat, b ≤ 32 ∧ Ev (fun k => bits_Len64.j0 k (x : Int) (c : Int)) ((c + b : Nat) : Int) ∧ x < 2 ^ b ∧ (b = 0 ∨ 2 ^ (b - 1) ≤ x) := by
  by_cases h1 : 65536 ≤ x
  · by_cases h2 : 256 ≤ x / 65536
    · obtain ⟨b, e, hb, l1, l2⟩ := tab_at (y := x / 65536 / 256) (by omega)
      exact ⟨24 + b, by omega, Ev.one fun k => len_a h1 h2 hx hc hb e, shifted (s := 24) (y := x / 65536 / 256) (Nat.div_div_eq_div_mul ..) l1 l2 (by omega)⟩
    · obtain ⟨b, e, hb, l1, l2⟩ := tab_at (y := x / 65536) (by omega)
      exact ⟨16 + b, by omega, Ev.one fun k => len_b h1 h2 hx hc hb e, shifted (s := 16) (y := x / 65536) rfl l1 l2 (by omega)⟩
  · by_cases h2 : 256 ≤ x
    · obtain ⟨b, e, hb, l1, l2⟩ := tab_at (y := x / 256) (by omega)
      exact ⟨8 + b, by omega, Ev.one fun k => len_c h1 h2 hc hb e, shifted (s := 8) (y := x / 256) rfl l1 l2 (by omega)⟩
    · obtain ⟨b, e, hb, l1, l2⟩ := tab_at (y := x) (by omega)
      exact ⟨b, by omega, Ev.one fun k => len_d h1 h2 hc hb e, l1, l2⟩
theorem len_ev {n : Nat} (hn : n < 2 ^ 64) : ∃ b : Nat, b ≤ 64 ∧ Ev (fun k => bits_Len64.f k (n : Int)) (b : Int) ∧ n < 2 ^ b ∧ (b = 0 ∨ 2 ^ (b - 1) ≤ n) := by
  by_cases h : 4294967296 ≤ n
  · obtain ⟨b, hb, e, l1, l2⟩ := len_j0 (x := n / 4294967296) (c := 32) (by omega) (by omega)
    refine ⟨32 + b, by omega, Ev.congr (fun k => ?_) e, shifted (s := 32) (by omega) l1 l2 (by omega)⟩
    unfold bits_Len64.f
    rw [if_pos (by omega)]
    rfl
  · obtain ⟨b, hb, e, l1, l2⟩ := len_j0 (x := n) (c := 0) (by omega) (by omega)
    rw [Nat.zero_add] at e
    refine ⟨b, by omega, Ev.congr (fun k => ?_) e, l1, l2⟩
    unfold bits_Len64.f
    rw [if_neg (by omega)]
    rfl
theorem size_ev {n : Nat} (hn : n < 2 ^ 64) : Ev (fun k => sdnv_Size.f k (n : Int)) (sz n : Int) := by
  obtain ⟨b, hb, e, l1, l2⟩ := len_ev hn
  refine Ev.bind (f := fun _ t => some (mx (wrap64 (Int.tdiv (wrap64 ((wrap64 (t + 7)) - 1)) 7)) 1)) e ?_
  have hs : max ((b + 6) / 7) 1 = sz n := by
    refine sz_of hn (by omega) ?_ ?_
    · refine Nat.lt_of_lt_of_le l1 ?_
      rw [show (128 : Nat) = 2 ^ 7 by rfl, ← Nat.pow_mul]
      exact Nat.pow_le_pow_right (by decide) (by omega)
    · by_cases h : b ≤ 7
      · left; omega
      · right
        rcases l2 with l2 | l2
        · omega
        · refine Nat.le_trans ?_ l2
          rw [show (128 : Nat) = 2 ^ 7 by rfl, ← Nat.pow_mul]
          exact Nat.pow_le_pow_right (by decide) (by omega)
  have : mx (wrap64 (Int.tdiv (wrap64 ((wrap64 ((b : Int) + 7)) - 1)) 7)) 1 = (sz n : Int) := by
    rw [← hs, show wrap64 ((wrap64 ((b : Int) + 7)) - 1) = ((b + 6 : Nat) : Int) by unfold wrap64; omega, show Int.tdiv ((b + 6 : Nat) : Int) 7 = (((b + 6) / 7 : Nat) : Int) from rfl]
    unfold mx wrap64
    split <;> omega
  rw [← this]
  exact Ev.now _

theorem andn : ∀ c : Fin 256, Go.bits .andNot .u8 (c.val : Int) 128 = ((c.val % 128 : Nat) : Int) := by decide +kernel
theorem or7 : ∀ c : Fin 128, Go.bits .or .u8 (c.val : Int) 128 = ((c.val + 128 : Nat) : Int) := by decide +kernel
theorem or64 {n d : Nat} (hn : n < 144115188075855872) (hd : d < 128) : Go.bits .or .u64 ((n * 128 : Nat) : Int) (d : Int) = ((n * 128 + d : Nat) : Int) := by
  have e : n * 128 ||| d = n * 128 + d := by
    have := Nat.shiftLeft_add_eq_or_of_lt (i := 7) (b := d) (by omega) n
    rw [Nat.shiftLeft_eq] at this
    exact this.symm
  have h1 : (n * 128) % 2 ^ IntKind.u64.bits = n * 128 := Nat.mod_eq_of_lt (by simp only [IntKind.bits]; omega)
  have h2 : d % 2 ^ IntKind.u64.bits = d := Nat.mod_eq_of_lt (by simp only [IntKind.bits]; omega)
  simp only [Go.bits, BitVec.ofInt_natCast, BitVec.toNat_or, BitVec.toNat_ofNat, h1, h2, e]
  exact wrap_u64 _ (by omega) (by omega)

/-- A number's lowest digits, the highest of them first. -/
def pl (n : Nat) : Nat → List Int
  | 0 => []
  | i + 1 => ((n / 128 ^ i % 128 + (if 0 < i then 128 else 0) : Nat) : Int) :: pl n i
theorem pbyte_eq (n i : Nat) : pbyte (n : Int) i = ((n / 128 ^ i % 128 + (if 0 < i then 128 else 0) : Nat) : Int) := by
  have h : ((n : Int) / 2 ^ (7 * i)) % 256 = ((n / 128 ^ i % 256 : Nat) : Int) := by
    rw [show (128 : Nat) = 2 ^ 7 by rfl, ← Nat.pow_mul]
    simp
  have h2 := andn ⟨n / 128 ^ i % 256, by omega⟩
  simp only [] at h2
  have h3 := or7 ⟨n / 128 ^ i % 256 % 128, by omega⟩
  simp only [] at h3
  unfold pbyte
  rw [h, h2]
  split
  · rw [h3]; congr 1; omega
  · congr 1; omega
theorem putl_eq (n : Nat) : ∀ m, putl (n : Int) m = pl n m
  | 0 => rfl
  | m + 1 => by rw [putl, pl, pbyte_eq, putl_eq n m]
theorem pl_length (n : Nat) : ∀ m, (pl n m).length = m
  | 0 => rfl
  | m + 1 => by simp [pl, pl_length n m]
theorem pl_bytes (n : Nat) : ∀ m, Bytes (pl n m)
  | 0 => by intro x hx; simp [pl] at hx
  | m + 1 => by
    intro x hx
    rcases List.mem_cons.1 hx with h | h
    · subst h
      split <;> omega
    · exact pl_bytes n m x h
theorem put_ev {l : List Int} {n : Nat} (hn : n < 2 ^ 64) (hl : l.length + 10 < 140737488355328) : Ev (fun k => sdnv_Put.f k l (n : Int)) (l ++ pl n (sz n)) := by
  refine Ev.bind (f := fun _ s => if 0 ≤ s ∧ s ≤ 10 ∧ l.length + 10 < 140737488355328 then some (l ++ putl (n : Int) s.toNat) else none) (size_ev hn) ?_
  have := sz_le n
  rw [if_pos ⟨by omega, by omega, hl⟩, Int.toNat_natCast, putl_eq]
  exact Ev.now _

def getS : Nat → Nat → List Int → Int × Int × Int
  | _, _, [] => (0, 0, 7)
  | acc, at_, c :: cs => if acc ≥ 144115188075855872 then (0, 0, 3) else if c ≥ 128 then getS (acc * 128 + (c % 128).toNat) (at_ + 1) cs else (((acc * 128 + c.toNat : Nat) : Int), ((at_ + 1 : Nat) : Int), 0)
/-- What a row of bytes begins with. -/
def gets (l : List Int) : Int × Int × Int := if l.head? = some 128 then (0, 0, 180) else getS 0 0 l
theorem get_l0 {l : List Int} (hb : Bytes l) (hl : l.length < 140737488355328) : ∀ (m i n : Nat), m + i = l.length → n < 2 ^ 64 → Ev (fun k => sdnv_Get.l0 k l (n : Int) (i : Int)) (getS n i (l.drop i))
  | 0, i, n, hi, hn => by
    refine ⟨1, fun k hk => ?_⟩
    obtain ⟨k, rfl⟩ : ∃ m, k = m + 1 := ⟨k - 1, by omega⟩
    simp only [sdnv_Get.l0]
    rw [if_pos (by omega), List.drop_eq_nil_of_le (by omega)]
    rfl
  | m + 1, i, n, hi, hn => by
    have hlt : i < l.length := by omega
    rw [List.drop_eq_getElem_cons hlt]
    simp only [getS]
    by_cases h1 : n ≥ 144115188075855872
    · rw [if_pos h1]
      refine ⟨1, fun k hk => ?_⟩
      obtain ⟨k, rfl⟩ : ∃ m, k = m + 1 := ⟨k - 1, by omega⟩
      simp only [sdnv_Get.l0]
      rw [if_neg (by omega), if_pos (by omega)]
    · rw [if_neg h1]
      obtain ⟨b0, b1⟩ := hb l[i] (List.getElem_mem hlt)
      have ea := andn ⟨l[i].toNat, by omega⟩
      simp only [] at ea
      rw [show ((l[i].toNat : Nat) : Int) = l[i] by omega] at ea
      have eo := or64 (n := n) (d := l[i].toNat % 128) (by omega) (by omega)
      by_cases h2 : l[i] ≥ 128
      · rw [if_pos h2]
        refine Ev.step (f := fun k => sdnv_Get.l0 k l ((n * 128 + (l[i] % 128).toNat : Nat) : Int) ((i + 1 : Nat) : Int)) (fun k => ?_) (get_l0 hb hl m (i + 1) (n * 128 + (l[i] % 128).toNat) (by omega) (by omega))
        simp only [sdnv_Get.l0]
        rw [if_neg (by omega), if_neg (by omega), if_pos (by omega), if_pos (by omega), rd_at hlt, if_pos h2, ea, wrap_u64 _ (by omega) (by omega), wrap_u64 _ (by omega) (by omega), show ((n : Int) * 128) = ((n * 128 : Nat) : Int) by omega, eo, w64_succ (by omega), show (l[i] % 128).toNat = l[i].toNat % 128 by omega]
      · rw [if_neg h2]
        refine ⟨1, fun k hk => ?_⟩
        obtain ⟨k, rfl⟩ : ∃ m, k = m + 1 := ⟨k - 1, by omega⟩
        simp only [sdnv_Get.l0]
        rw [if_neg (by omega), if_neg (by omega), if_pos (by omega), if_pos (by omega), rd_at hlt, if_neg h2, ea, wrap_u64 _ (by omega) (by omega), wrap_u64 _ (by omega) (by omega), show ((n : Int) * 128) = ((n * 128 : Nat) : Int) by omega, eo, w64_succ (by omega), show l[i].toNat % 128 = l[i].toNat by omega]
theorem get_ev {l : List Int} (hb : Bytes l) (hl : l.length < 140737488355328) : Ev (fun k => sdnv_Get.f k l) (gets l) := by
  unfold sdnv_Get.f gets
  cases l with
  | nil =>
    simp only [List.length_nil, Nat.lt_irrefl, false_and, if_false, List.head?_nil]
    exact get_l0 hb hl 0 0 0 rfl (by decide)
  | cons c cs =>
    by_cases h : c = 128
    · subst h
      simp only [List.head?_cons, if_true]
      refine ⟨0, fun k _ => ?_⟩
      exact if_pos ⟨by simp, by simp [rd]⟩
    · rw [List.head?_cons, if_neg (by simpa using h)]
      refine Ev.congr (fun k => ?_) (get_l0 hb hl (cs.length + 1) 0 0 (by simp) (by decide))
      rw [if_neg (by simp [rd]; exact h)]
      rfl

theorem getS_pl (n : Nat) (rest : List Int) : ∀ m acc i, acc * 128 ^ (m + 1) + n % 128 ^ (m + 1) < 2 ^ 64 → getS acc i (pl n (m + 1) ++ rest) = (((acc * 128 ^ (m + 1) + n % 128 ^ (m + 1) : Nat) : Int), ((i + (m + 1) : Nat) : Int), 0)
  | 0, acc, i, h => by
    simp only [pl, List.cons_append, List.nil_append, getS, Nat.pow_zero, Nat.div_one, Nat.lt_irrefl, if_false, Nat.add_zero]
    simp only [Nat.zero_add, Nat.pow_one] at h ⊢
    rw [if_neg (by omega), if_neg (by omega), Int.toNat_natCast]
  | m + 1, acc, i, h => by
    have hq : n % 128 ^ (m + 1 + 1) = n / 128 ^ (m + 1) % 128 * 128 ^ (m + 1) + n % 128 ^ (m + 1) := by
      have := Nat.mod_mul (x := n) (a := 128 ^ (m + 1)) (b := 128)
      rw [Nat.pow_succ 128 (m + 1), this, Nat.mul_comm (128 ^ (m + 1))]
      omega
    have hk : acc * 128 ^ (m + 1 + 1) + n % 128 ^ (m + 1 + 1) = (acc * 128 + n / 128 ^ (m + 1) % 128) * 128 ^ (m + 1) + n % 128 ^ (m + 1) := by
      rw [hq, Nat.pow_succ 128 (m + 1), Nat.add_mul, ← Nat.mul_assoc, Nat.mul_right_comm acc]
      omega
    have hacc : acc < 144115188075855872 := by
      rcases Nat.lt_or_ge acc 144115188075855872 with g | g
      · exact g
      · exfalso
        have h1 : 128 ^ 1 ≤ 128 ^ (m + 1 + 1) := Nat.pow_le_pow_right (by decide) (by omega)
        have := Nat.mul_le_mul g h1
        omega
    rw [pl, List.cons_append]
    unfold getS
    rw [if_neg (by omega), if_pos (by rw [if_pos (by omega)]; omega), if_pos (by omega), hk]
    rw [show ((((n / 128 ^ (m + 1) % 128 + 128 : Nat) : Int)) % 128).toNat = n / 128 ^ (m + 1) % 128 by omega]
    rw [getS_pl n rest m _ _ (by omega), show i + 1 + (m + 1) = i + (m + 1 + 1) by omega]
theorem getS_short (n : Nat) : ∀ m j acc i, j < m → acc * 128 ^ m + n % 128 ^ m < 2 ^ 64 → getS acc i ((pl n m).take j) = (0, 0, 7)
  | 0, j, acc, i, h, _ => by omega
  | m + 1, 0, acc, i, h, _ => by simp [getS]
  | m + 1, j + 1, acc, i, h, hb => by
    obtain ⟨m, rfl⟩ : ∃ q, m = q + 1 := ⟨m - 1, by omega⟩
    have hq : n % 128 ^ (m + 1 + 1) = n / 128 ^ (m + 1) % 128 * 128 ^ (m + 1) + n % 128 ^ (m + 1) := by
      have := Nat.mod_mul (x := n) (a := 128 ^ (m + 1)) (b := 128)
      rw [Nat.pow_succ 128 (m + 1), this, Nat.mul_comm (128 ^ (m + 1))]
      omega
    have hk : acc * 128 ^ (m + 1 + 1) + n % 128 ^ (m + 1 + 1) = (acc * 128 + n / 128 ^ (m + 1) % 128) * 128 ^ (m + 1) + n % 128 ^ (m + 1) := by
      rw [hq, Nat.pow_succ 128 (m + 1), Nat.add_mul, ← Nat.mul_assoc, Nat.mul_right_comm acc]
      omega
    have hacc : acc < 144115188075855872 := by
      rcases Nat.lt_or_ge acc 144115188075855872 with g | g
      · exact g
      · exfalso
        have h1 : 128 ^ 1 ≤ 128 ^ (m + 1 + 1) := Nat.pow_le_pow_right (by decide) (by omega)
        have := Nat.mul_le_mul g h1
        omega
    rw [pl, List.take_succ_cons]
    unfold getS
    rw [if_neg (by omega), if_pos (by rw [if_pos (by omega)]; omega), if_pos (by omega)]
    rw [show ((((n / 128 ^ (m + 1) % 128 + 128 : Nat) : Int)) % 128).toNat = n / 128 ^ (m + 1) % 128 by omega]
    exact getS_short n (m + 1) j _ _ (by omega) (by omega)
theorem getS_back : ∀ (l : List Int) (acc i : Nat) (r1 r2 : Int), Bytes l → getS acc i l = (r1, r2, 0) → ∃ j n : Nat, 0 < j ∧ j ≤ l.length ∧ r1 = (n : Int) ∧ r2 = ((i + j : Nat) : Int) ∧ l.take j = pl n j ∧ n / 128 ^ j = acc ∧ n < 2 ^ 64
  | [], acc, i, r1, r2, _, h => by simp [getS] at h
  | c :: cs, acc, i, r1, r2, hb, h => by
    obtain ⟨b0, b1⟩ := hb c (List.mem_cons_self ..)
    simp only [getS] at h
    by_cases h1 : acc ≥ 144115188075855872
    · rw [if_pos h1] at h; simp at h
    · rw [if_neg h1] at h
      by_cases h2 : c ≥ 128
      · rw [if_pos h2] at h
        obtain ⟨j, n, j0, j1, e1, e2, e3, e4, e5⟩ := getS_back cs _ _ _ _ hb.tail h
        refine ⟨j + 1, n, by omega, by simp; omega, e1, by rw [e2]; omega, ?_, ?_, e5⟩
        · rw [List.take_succ_cons, pl, e3, e4, if_pos j0]
          congr 1
          omega
        · rw [Nat.pow_succ, ← Nat.div_div_eq_div_mul, e4]
          omega
      · rw [if_neg h2] at h
        simp only [Prod.mk.injEq] at h
        refine ⟨1, acc * 128 + c.toNat, by decide, by simp, h.1.symm, by rw [← h.2.1], ?_, by simp; omega, by omega⟩
        simp only [List.take_succ_cons, List.take_zero, pl]
        congr 1
        simp
        omega
theorem getS_err : ∀ (l : List Int) (acc i : Nat), (getS acc i l).2.2 = 0 ∨ getS acc i l = (0, 0, 3) ∨ getS acc i l = (0, 0, 7)
  | [], _, _ => .inr (.inr rfl)
  | c :: cs, acc, i => by
    simp only [getS]
    split
    · simp
    · split
      · exact getS_err cs _ _
      · simp
theorem pl_head (n m : Nat) (hn : n < 2 ^ 64) (hm : m = sz n) (rest : List Int) : (pl n m ++ rest).head? ≠ some 128 := by
  have hp := sz_pos n
  have hl := sz_lt hn
  have hg := sz_ge n
  rw [← hm] at hp hl hg
  obtain ⟨q, rfl⟩ : ∃ q, m = q + 1 := ⟨m - 1, by omega⟩
  simp only [pl, List.cons_append, List.head?_cons]
  intro h
  injection h with h
  rcases hg with hg | hg
  · obtain rfl : q = 0 := by omega
    simp at h
    omega
  · simp only [Nat.add_sub_cancel] at hg
    have h1 : 1 ≤ n / 128 ^ q := (Nat.le_div_iff_mul_le (Nat.pow_pos (by decide))).2 (by omega)
    have h2 : n / 128 ^ q < 128 := by rw [Nat.pow_succ] at hl; exact Nat.div_lt_of_lt_mul hl
    split at h <;> omega
/-- What was put is got. -/
theorem gets_pl {n : Nat} (hn : n < 2 ^ 64) (rest : List Int) : gets (pl n (sz n) ++ rest) = ((n : Int), (sz n : Int), 0) := by
  unfold gets
  rw [if_neg (pl_head n _ hn rfl rest)]
  have hp := sz_pos n
  have hl := sz_lt hn
  obtain ⟨q, hq⟩ : ∃ q, sz n = q + 1 := ⟨sz n - 1, by omega⟩
  rw [hq] at hl ⊢
  rw [getS_pl n rest q 0 0 (by rw [Nat.mod_eq_of_lt hl]; omega), Nat.mod_eq_of_lt hl]
  simp
theorem gets_short {n j : Nat} (hn : n < 2 ^ 64) (hj : j < sz n) : gets ((pl n (sz n)).take j) = (0, 0, 7) := by
  have hl := sz_lt hn
  have h1 : getS 0 0 ((pl n (sz n)).take j) = (0, 0, 7) := getS_short n (sz n) j 0 0 hj (by rw [Nat.mod_eq_of_lt hl]; omega)
  have h2 := pl_head n _ hn rfl []
  rw [List.append_nil] at h2
  unfold gets
  rw [if_neg, h1]
  rw [List.head?_take]
  split
  · simp
  · exact h2
/-- What is got, put, is the bytes that it had. -/
theorem gets_back {l : List Int} (hb : Bytes l) {r1 r2 : Int} (h : gets l = (r1, r2, 0)) : ∃ n : Nat, n < 2 ^ 64 ∧ r1 = (n : Int) ∧ r2 = (sz n : Int) ∧ sz n ≤ l.length ∧ l.take (sz n) = pl n (sz n) := by
  unfold gets at h
  by_cases hh : l.head? = some 128
  · rw [if_pos hh] at h; simp at h
  · rw [if_neg hh] at h
    obtain ⟨j, n, j0, j1, e1, e2, e3, e4, e5⟩ := getS_back l 0 0 r1 r2 hb h
    have hlt : n < 128 ^ j := by
      rcases Nat.lt_or_ge n (128 ^ j) with g | g
      · exact g
      · have := (Nat.le_div_iff_mul_le (Nat.pow_pos (n := j) (show 0 < 128 by decide))).2 (show 1 * 128 ^ j ≤ n by omega)
        omega
    have hj : j = sz n := by
      refine sz_of e5 (by omega) hlt ?_
      by_cases h1 : j = 1
      · exact .inl h1
      · right
        obtain ⟨q, rfl⟩ : ∃ q, j = q + 1 := ⟨j - 1, by omega⟩
        simp only [Nat.add_sub_cancel]
        rcases Nat.lt_or_ge n (128 ^ q) with g | g
        · exfalso
          apply hh
          cases l with
          | nil => simp at j1
          | cons c cs =>
            rw [List.take_succ_cons, pl, Nat.div_eq_of_lt g, if_pos (by omega)] at e3
            injection e3 with e3 _
            rw [List.head?_cons, e3]
            rfl
        · exact g
    refine ⟨n, e5, e1, ?_⟩
    rw [← hj]
    exact ⟨by rw [e2]; omega, j1, e3⟩
theorem gets_err (l : List Int) (h : (gets l).2.2 ≠ 0) : gets l = (0, 0, 3) ∨ gets l = (0, 0, 7) ∨ gets l = (0, 0, 180) := by
  unfold gets at h ⊢
  by_cases hh : l.head? = some 128
  · rw [if_pos hh]; simp
  · rw [if_neg hh] at h ⊢
    rcases getS_err l 0 0 with g | g | g
    · exact absurd g h
    · exact .inl g
    · exact .inr (.inl g)
theorem wakes_ev : Ev (fun k => heliographlaw08_wakes.f k) true := by
  unfold heliographlaw08_wakes.f
  have h1 := get_ev (l := [130, 44, 5]) (by intro x hx; simp at hx; omega) (by decide)
  rw [show gets [130, 44, 5] = (300, 2, 0) by decide +kernel] at h1
  have h2 := put_ev (l := [7]) (n := 300) (by decide) (by decide)
  rw [show [7] ++ pl 300 (sz 300) = [7, 130, 44] by decide +kernel] at h2
  have h3 := size_ev (n := 18446744073709551615) (by decide)
  rw [show ((sz 18446744073709551615 : Nat) : Int) = 10 by decide +kernel] at h3
  refine Ev.bind h1 (Ev.bind h2 ?_)
  rw [show bytes_Equal.f [7, 130, 44] [7, 130, 44] = some true by decide +kernel]
  simp only [Option.bind_some, if_true]
  exact Ev.bind (f := fun _ t => some (t == 10)) h3 (Ev.now _)
end Go.Proofs.Ytlohjfagiigchaa.P
