/- All of a bundle's pieces, put together. -/
import Derived.Test.YteggcokgkcfliaaVPCutP
namespace Go.Proofs.YteggcokgkcfliaaV
open Go
set_option linter.unusedVariables false
set_option linter.unusedSimpArgs false
theorem whole_at (k : Nat) (hk : 1 ≤ k) (b : Bun) : f19_ai10rz k b.Source b.Dest b.Seq b.Created b.Lifetime b.HopLimit b.Hops b.Priority b.Offset b.Total b.Payload = some (.o0 ((b.Payload.length : Int) == b.Total)) := by
  obtain ⟨k, rfl⟩ : ∃ z, k = z + 1 := ⟨k - 1, by omega⟩
  simp only [f19_ai10rz, f19_ai10rz_e]
theorem covers.mono {b : Bun} {l M : List Bun} (h : ∀ p ∈ l, p ∈ M) {q : Nat} (hc : covers b l q) : covers b M q := by
  obtain ⟨o, m, h1, h2⟩ := hc
  exact ⟨o, m, h _ h1, h2⟩
theorem join_pieces (k : Nat) (hk : 2010 ≤ k) {b : Bun} {M : List Bun} (hb : okP b) (fb : Fit b) (h : Pc b M) (hne : M ≠ []) (hl : M.length ≤ 1000) (hc : ∀ q, q < b.Payload.length → covers b M q) :
    ((b.Payload.length : Int) = b.Total → f18_r k M = some (.o1 b.Source b.Dest b.Seq b.Created b.Lifetime b.HopLimit b.Hops b.Priority b.Offset b.Total 0 b.Payload)) ∧ ((b.Payload.length : Int) ≠ b.Total → f18_r k M = some (.o0 0 0 0 0 0 0 0 0 0 0 [] 4)) := by
  have hch := Pc.chk hb h hne
  have q := join_at k (by omega) M hl (Pc.fit fb h)
  rw [hch, cond_true] at q
  constructor
  · intro hw
    obtain ⟨g1, g2⟩ := join_whole hb h hne hc hw
    rw [g1, g2] at q
    exact q
  · intro hw
    have g := join_part hb h hne hw
    have gl : ((gapsF (hasF M)).length : Int) > 0 := by have := List.length_pos_iff.2 g; omega
    rw [decide_eq_true gl, cond_true] at q
    exact q
theorem u64_nn (n : Int) : 0 ≤ IntKind.u64.wrap n := by simp [IntKind.wrap, IntKind.signed, IntKind.bits]; omega
theorem umod {x : Int} {l : Nat} (h0 : 0 < l) (hl : l ≤ 1000) : ∃ z : Nat, z < l ∧ IntKind.i64.wrap (Int.tmod (IntKind.u64.wrap x) (IntKind.u64.wrap (l : Int))) = z := by
  have h1 : IntKind.u64.wrap (l : Int) = l := wrap_u64 (by omega) (by omega)
  have h2 := u64_nn x
  rw [h1, Int.tmod_eq_emod_of_nonneg h2]
  have h3 := Int.emod_nonneg (IntKind.u64.wrap x) (show (l : Int) ≠ 0 by omega)
  have h4 := Int.emod_lt_of_pos (IntKind.u64.wrap x) (show (0 : Int) < (l : Int) by omega)
  refine ⟨(IntKind.u64.wrap x % (l : Int)).toNat, by omega, ?_⟩
  rw [wrap_i64 (by omega) (by omega)]
  omega
end Go.Proofs.YteggcokgkcfliaaV
