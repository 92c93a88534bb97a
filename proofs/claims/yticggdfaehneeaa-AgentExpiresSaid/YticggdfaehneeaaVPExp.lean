/- Agents held against each other; pieces that have expired go. -/
import Derived.Test.YticggdfaehneeaaVPMake
namespace Go.Proofs.YticggdfaehneeaaV
open Go
set_option linter.unusedVariables false
set_option linter.unusedSimpArgs false
theorem drop_eq_iff {α : Type} {a b : List α} {i : Nat} (h1 : i < a.length) (h2 : i < b.length) : a.drop i = b.drop i ↔ a[i] = b[i] ∧ a.drop (i + 1) = b.drop (i + 1) := by
 rw [List.drop_eq_getElem_cons h1,List.drop_eq_getElem_cons h2,List.cons.injEq]
theorem eqf_l (k : Nat) (a b : List Bun) (hl : a.length ≤ 1000) (h : a.length = b.length) (hp : ∀ x ∈ a,x.Payload.length ≤ 3000) (hk : 3100 ≤ k) : ∀ (d i n : Nat),i + d = a.length → d < n →
  f40_rrf41_l2 k n b a a.length i = if a.drop i = b.drop i then some (.o2 b a a.length a.length false) else some (.o0 false) := by
 intro d
 induction d with
 | zero =>
  intro i n hi hq
  obtain ⟨n,rfl⟩ : ∃ m,n = m + 1 := ⟨n - 1,by omega⟩
  have e3 : i = a.length := by omega
  subst e3
  rw [List.drop_length,h,List.drop_length,if_pos rfl]
  simp only [f40_rrf41_l2,f40_rrf41_l2_b,decide_eq_false (Int.lt_irrefl _),cond_false,Option.bind_some]
 | succ d ih =>
  intro i n hi hq
  obtain ⟨n,rfl⟩ : ∃ m,n = m + 1 := ⟨n - 1,by omega⟩
  have h1 : i < a.length := by omega
  have h2 : i < b.length := by omega
  have g1 : a[i]? = some a[i] := List.getElem?_eq_getElem h1
  have g2 : b[i]? = some b[i] := List.getElem?_eq_getElem h2
  have hlt : ((i : Int) < (a.length : Int)) := by omega
  have hw := nextN h1 (by omega)
  have hs := same_at k a[i] b[i] (by have := hp a[i] (List.getElem_mem h1); omega) (by have := hp a[i] (List.getElem_mem h1); omega)
  have ih' := ih (i + 1) n (by omega) (by omega)
  simp only [f40_rrf41_l2,f40_rrf41_l2_b,f40_rrf41_l2_j1,f40_rrf41_l2_j2,decide_eq_true hlt,cond_true,ifE_pos (show (0 : Int) ≤ i by omega),Int.toNat_natCast,g1,g2,Option.bind_some,hs,hw]
  by_cases he : a[i] = b[i]
  ·have hd : (a.drop i = b.drop i) = (a.drop (i + 1) = b.drop (i + 1)) := propext ((drop_eq_iff h1 h2).trans ⟨fun h => h.2,fun h => ⟨he,h⟩⟩)
   simp only [decide_eq_true he,Bool.not_true,cond_false,Option.bind_some,ih',hd]
  ·have hd : ¬ (a.drop i = b.drop i) := fun h => he ((drop_eq_iff h1 h2).1 h).1
   simp only [decide_eq_false he,Bool.not_false,cond_true,Option.bind_some,if_neg hd]
theorem eqf_at (k : Nat) (hk : 4200 ≤ k) (a b : List Bun) (hl : a.length ≤ 1000) (hp : ∀ x ∈ a,x.Payload.length ≤ 3000) : f40_rrf41 k a b = some (.o0 (decide (a = b))) := by
 obtain ⟨k,rfl⟩ : ∃ m,k = m + 1 := ⟨k - 1,by omega⟩
 by_cases h : a.length = b.length
 ·have hL := eqf_l k a b hl h hp (by omega) a.length 0 k (by omega) (by omega)
  rw [List.drop_zero,List.drop_zero,Int.natCast_zero] at hL
  have hb : ((a.length : Int) != (b.length : Int)) = false := by simp [h]
  simp only [f40_rrf41,f40_rrf41_e,f40_rrf41_j1,hb,cond_false,hL]
  by_cases he : a = b
  ·simp only [if_pos he,decide_eq_true he,Option.bind_some,f40_rrf41_j3]
  ·simp only [if_neg he,decide_eq_false he,Option.bind_some]
 ·have hb : ((a.length : Int) != (b.length : Int)) = true := by simpa using fun h' => h (Int.ofNat.inj h')
  have he : a ≠ b := fun e => h (by rw [e])
  simp only [f40_rrf41,f40_rrf41_e,hb,cond_true,decide_eq_false he]
theorem lsm_l (k : Nat) (a b : List Bun) (hl : a.length ≤ 1000) (h : a.length = b.length) (hp : ∀ x ∈ a,x.Payload.length ≤ 3000) (hk : 3100 ≤ k) : ∀ (d i n : Nat),i + d = a.length → d < n →
  f31_rr_l2 k n a b i = if a.drop i = b.drop i then some (.o2 a b a.length false) else some (.o0 false) := by
 intro d
 induction d with
 | zero =>
  intro i n hi hq
  obtain ⟨n,rfl⟩ : ∃ m,n = m + 1 := ⟨n - 1,by omega⟩
  have e3 : i = a.length := by omega
  subst e3
  rw [List.drop_length,h,List.drop_length,if_pos rfl,← h]
  simp only [f31_rr_l2,f31_rr_l2_b,decide_eq_false (Int.lt_irrefl _),cond_false,Option.bind_some]
 | succ d ih =>
  intro i n hi hq
  obtain ⟨n,rfl⟩ : ∃ m,n = m + 1 := ⟨n - 1,by omega⟩
  have h1 : i < a.length := by omega
  have h2 : i < b.length := by omega
  have g1 : a[i]? = some a[i] := List.getElem?_eq_getElem h1
  have g2 : b[i]? = some b[i] := List.getElem?_eq_getElem h2
  have hlt : ((i : Int) < (a.length : Int)) := by omega
  have hw := nextN h1 (by omega)
  have hs := rsame_at k a[i] b[i] (by have := hp a[i] (List.getElem_mem h1); omega) (by have := hp a[i] (List.getElem_mem h1); omega)
  have ih' := ih (i + 1) n (by omega) (by omega)
  simp only [f31_rr_l2,f31_rr_l2_b,f31_rr_l2_j1,f31_rr_l2_j2,decide_eq_true hlt,cond_true,ifE_pos (show (0 : Int) ≤ i by omega),Int.toNat_natCast,g1,g2,Option.bind_some,hs,hw]
  by_cases he : a[i] = b[i]
  ·have hd : (a.drop i = b.drop i) = (a.drop (i + 1) = b.drop (i + 1)) := propext ((drop_eq_iff h1 h2).trans ⟨fun h => h.2,fun h => ⟨he,h⟩⟩)
   simp only [decide_eq_true he,Bool.not_true,cond_false,Option.bind_some,ih',hd]
  ·have hd : ¬ (a.drop i = b.drop i) := fun h => he ((drop_eq_iff h1 h2).1 h).1
   simp only [decide_eq_false he,Bool.not_false,cond_true,Option.bind_some,if_neg hd]
theorem lsm_at (k : Nat) (hk : 4200 ≤ k) (a b : List Bun) (hl : a.length ≤ 1000) (hp : ∀ x ∈ a,x.Payload.length ≤ 3000) : f31_rr k a b = some (.o0 (decide (a = b))) := by
 obtain ⟨k,rfl⟩ : ∃ m,k = m + 1 := ⟨k - 1,by omega⟩
 by_cases h : a.length = b.length
 ·have hL := lsm_l k a b hl h hp (by omega) a.length 0 k (by omega) (by omega)
  rw [List.drop_zero,List.drop_zero,Int.natCast_zero] at hL
  have hb : ((a.length : Int) != (b.length : Int)) = false := by simp [h]
  simp only [f31_rr,f31_rr_e,f31_rr_j1,hb,cond_false,hL]
  by_cases he : a = b
  ·simp only [if_pos he,decide_eq_true he,Option.bind_some,f31_rr_j3]
  ·simp only [if_neg he,decide_eq_false he,Option.bind_some]
 ·have hb : ((a.length : Int) != (b.length : Int)) = true := by simpa using fun h' => h (Int.ofNat.inj h')
  have he : a ≠ b := fun e => h (by rw [e])
  simp only [f31_rr,f31_rr_e,hb,cond_true,decide_eq_false he]
theorem seqs_l (k : Nat) (a b : List Sn) (hl : a.length ≤ 1000) (h : a.length = b.length) : ∀ (d i n : Nat),i + d = a.length → d < n →
  f39_rr_l2 k n a b a.length i = if a.drop i = b.drop i then some (.o2 a b a.length a.length false) else some (.o0 false) := by
 intro d
 induction d with
 | zero =>
  intro i n hi hq
  obtain ⟨n,rfl⟩ : ∃ m,n = m + 1 := ⟨n - 1,by omega⟩
  have e3 : i = a.length := by omega
  subst e3
  rw [List.drop_length,h,List.drop_length,if_pos rfl]
  simp only [f39_rr_l2,f39_rr_l2_b,decide_eq_false (Int.lt_irrefl _),cond_false,Option.bind_some]
 | succ d ih =>
  intro i n hi hq
  obtain ⟨n,rfl⟩ : ∃ m,n = m + 1 := ⟨n - 1,by omega⟩
  have h1 : i < a.length := by omega
  have h2 : i < b.length := by omega
  have g1 : a[i]? = some a[i] := List.getElem?_eq_getElem h1
  have g2 : b[i]? = some b[i] := List.getElem?_eq_getElem h2
  have hlt : ((i : Int) < (a.length : Int)) := by omega
  have hw := nextN h1 (by omega)
  have ih' := ih (i + 1) n (by omega) (by omega)
  have hE : eqS a[i] b[i] = decide (a[i] = b[i]) := by rw [Bool.eq_iff_iff,eqS_iff,decide_eq_true_iff]
  unfold eqS at hE
  simp only [f39_rr_l2,f39_rr_l2_b,f39_rr_l2_j1,f39_rr_l2_j2,decide_eq_true hlt,cond_true,ifE_pos (show (0 : Int) ≤ i by omega),Int.toNat_natCast,g1,g2,Option.bind_some,hE,hw]
  by_cases he : a[i] = b[i]
  ·have hd : (a.drop i = b.drop i) = (a.drop (i + 1) = b.drop (i + 1)) := propext ((drop_eq_iff h1 h2).trans ⟨fun h => h.2,fun h => ⟨he,h⟩⟩)
   simp only [decide_eq_true he,Bool.not_true,cond_false,Option.bind_some,ih',hd]
  ·have hd : ¬ (a.drop i = b.drop i) := fun h => he ((drop_eq_iff h1 h2).1 h).1
   simp only [decide_eq_false he,Bool.not_false,cond_true,Option.bind_some,if_neg hd]
theorem seqs_at (k : Nat) (hk : 1002 ≤ k) (a b : List Sn) (hl : a.length ≤ 1000) : f39_rr k a b = some (.o0 (decide (a = b))) := by
 obtain ⟨k,rfl⟩ : ∃ m,k = m + 1 := ⟨k - 1,by omega⟩
 by_cases h : a.length = b.length
 ·have hL := seqs_l k a b hl h a.length 0 k (by omega) (by omega)
  rw [List.drop_zero,List.drop_zero,Int.natCast_zero] at hL
  have hb : ((a.length : Int) != (b.length : Int)) = false := by simp [h]
  simp only [f39_rr,f39_rr_e,f39_rr_j1,hb,cond_false,hL]
  by_cases he : a = b
  ·simp only [if_pos he,decide_eq_true he,Option.bind_some,f39_rr_j3]
  ·simp only [if_neg he,decide_eq_false he,Option.bind_some]
 ·have hb : ((a.length : Int) != (b.length : Int)) = true := by simpa using fun h' => h (Int.ofNat.inj h')
  have he : a ≠ b := fun e => h (by rw [e])
  simp only [f39_rr,f39_rr_e,hb,cond_true,decide_eq_false he]
theorem asm_l (k : Nat) (nd nx nd' nx' : Int) (a b : List Sn) (P P' : List Bun) (hl : a.length ≤ 1000) (h : a.length = b.length) : ∀ (d i n : Nat),i + d = a.length → d < n →
  f15_aiirrzaiirrz_l2 k n i nd nx a P nd' nx' b P' = if a.drop i = b.drop i then some (.o2 a.length false nd nx a P nd' nx' b P') else some (.o0 false) := by
 intro d
 induction d with
 | zero =>
  intro i n hi hq
  obtain ⟨n,rfl⟩ : ∃ m,n = m + 1 := ⟨n - 1,by omega⟩
  have e3 : i = a.length := by omega
  subst e3
  rw [List.drop_length,h,List.drop_length,if_pos rfl,← h]
  simp only [f15_aiirrzaiirrz_l2,f15_aiirrzaiirrz_l2_b,decide_eq_false (Int.lt_irrefl _),cond_false,Option.bind_some]
 | succ d ih =>
  intro i n hi hq
  obtain ⟨n,rfl⟩ : ∃ m,n = m + 1 := ⟨n - 1,by omega⟩
  have h1 : i < a.length := by omega
  have h2 : i < b.length := by omega
  have g1 : a[i]? = some a[i] := List.getElem?_eq_getElem h1
  have g2 : b[i]? = some b[i] := List.getElem?_eq_getElem h2
  have hlt : ((i : Int) < (a.length : Int)) := by omega
  have hw := nextN h1 (by omega)
  have ih' := ih (i + 1) n (by omega) (by omega)
  have hE : eqS a[i] b[i] = decide (a[i] = b[i]) := by rw [Bool.eq_iff_iff,eqS_iff,decide_eq_true_iff]
  unfold eqS at hE
  simp only [f15_aiirrzaiirrz_l2,f15_aiirrzaiirrz_l2_b,f15_aiirrzaiirrz_l2_j1,f15_aiirrzaiirrz_l2_j2,decide_eq_true hlt,cond_true,ifE_pos (show (0 : Int) ≤ i by omega),Int.toNat_natCast,g1,g2,Option.bind_some,hE,hw]
  by_cases he : a[i] = b[i]
  ·have hd : (a.drop i = b.drop i) = (a.drop (i + 1) = b.drop (i + 1)) := propext ((drop_eq_iff h1 h2).trans ⟨fun h => h.2,fun h => ⟨he,h⟩⟩)
   simp only [decide_eq_true he,Bool.not_true,cond_false,Option.bind_some,ih',hd]
  ·have hd : ¬ (a.drop i = b.drop i) := fun h => he ((drop_eq_iff h1 h2).1 h).1
   simp only [decide_eq_false he,Bool.not_false,cond_true,Option.bind_some,if_neg hd]
def sameAg (nd nx : Int) (S : List Sn) (P : List Bun) (nd' nx' : Int) (S' : List Sn) (P' : List Bun) : Bool := (nd == nd') && ((nx == nx') && (decide (S = S') && decide (P = P')))
theorem asm_at (k : Nat) (hk : 5000 ≤ k) (nd nx nd' nx' : Int) (S S' : List Sn) (P P' : List Bun) (hS : S.length ≤ 300) (hP : P.length ≤ 60) (hp : ∀ b ∈ P,b.Payload.length ≤ 3000) : f15_aiirrzaiirrz k nd nx S P nd' nx' S' P' = some (.o0 (sameAg nd nx S P nd' nx' S' P')) := by
 obtain ⟨k,rfl⟩ : ∃ m,k = m + 1 := ⟨k - 1,by omega⟩
 have hls := lsm_at k (by omega) P P' (by omega) hp
 simp only [f15_aiirrzaiirrz,f15_aiirrzaiirrz_e,sameAg]
 by_cases c1 : nd = nd'
 case neg => simp only [show (nd != nd') = true by simpa using c1,show (nd == nd') = false by simpa using c1,cond_true,Bool.false_and]
 by_cases c2 : nx = nx'
 case neg => simp only [show (nd != nd') = false by simpa using c1,show (nd == nd') = true by simpa using c1,show (nx != nx') = true by simpa using c2,show (nx == nx') = false by simpa using c2,cond_true,cond_false,Bool.false_and,Bool.true_and]
 by_cases h : S.length = S'.length
 case neg =>
  have hb : ((S.length : Int) != (S'.length : Int)) = true := by simpa using fun h' => h (Int.ofNat.inj h')
  have he : S ≠ S' := fun e => h (by rw [e])
  simp only [show (nd != nd') = false by simpa using c1,show (nd == nd') = true by simpa using c1,show (nx != nx') = false by simpa using c2,show (nx == nx') = true by simpa using c2,cond_true,cond_false,Bool.false_and,Bool.true_and,hb,decide_eq_false he]
 have hb : ((S.length : Int) != (S'.length : Int)) = false := by simp [h]
 have hL := asm_l k nd nx nd' nx' S S' P P' (by omega) h S.length 0 k (by omega) (by omega)
 rw [List.drop_zero,List.drop_zero,Int.natCast_zero] at hL
 simp only [show (nd != nd') = false by simpa using c1,show (nd == nd') = true by simpa using c1,show (nx != nx') = false by simpa using c2,show (nx == nx') = true by simpa using c2,cond_false,Bool.true_and,hb,hls,Option.bind_some]
 by_cases hPe : P = P'
 ·simp only [decide_eq_true hPe,Bool.not_true,cond_false,Bool.and_true,f15_aiirrzaiirrz_j1,hL]
  by_cases hSe : S = S'
  ·simp only [if_pos hSe,decide_eq_true hSe,Option.bind_some,f15_aiirrzaiirrz_j3]
  ·simp only [if_neg hSe,decide_eq_false hSe,Option.bind_some]
 ·simp only [decide_eq_false hPe,Bool.not_false,cond_true,Bool.and_false]
theorem psame_at (k : Nat) (hk : 5000 ≤ k) (nd nx nd' nx' : Int) (S S' : List Sn) (P P' : List Bun) (hS : S.length ≤ 300) (hP : P.length ≤ 60) (hp : ∀ b ∈ P,b.Payload.length ≤ 3000) : f21_aiirrzaiirrz k nd nx S P nd' nx' S' P' = some (.o0 (sameAg nd nx S P nd' nx' S' P')) := by
 obtain ⟨k,rfl⟩ : ∃ m,k = m + 1 := ⟨k - 1,by omega⟩
 simp only [f21_aiirrzaiirrz,f21_aiirrzaiirrz_e,seqs_at k (by omega) S S' (by omega),eqf_at k (by omega) P P' (by omega) hp,Option.bind_some,sameAg]
 cases (nd == nd')
 ·simp only [cond_false,Bool.false_and]
 cases (nx == nx')
 ·simp only [cond_true,cond_false,Bool.true_and,Bool.false_and]
 cases decide (S = S')
 ·simp only [cond_true,cond_false,Bool.true_and,Bool.false_and]
 ·simp only [cond_true,Bool.true_and]
def expB (now : Int) (b : Bun) : Bool := decide (okP b) && decide (now ≥ IntKind.i64.wrap (b.Created + b.Lifetime))
theorem exp_at (k : Nat) (hk : 4 ≤ k) (now : Int) (b : Bun) : f43_ai10rzp_bi k b.Source b.Dest b.Seq b.Created b.Lifetime b.HopLimit b.Hops b.Priority b.Offset b.Total b.Payload now = some (.o0 (expB now b) now) := by
 obtain ⟨k,rfl⟩ : ∃ m,k = m + 2 := ⟨k - 2,by omega⟩
 have hc := chk_at k (by omega) b
 simp only [f43_ai10rzp_bi,f43_ai10rzp_bi_e,f44_ai10rzi,f44_ai10rzi_e,hc,Option.bind_some,expB]
 by_cases h : okP b
 ·simp only [if_pos h,decide_eq_true h,beq_self_eq_true,cond_true,Option.bind_some,Bool.true_and]
 ·simp only [if_neg h,decide_eq_false h,show ((190 : Int) == 0) = false from rfl,cond_false,Option.bind_some,Bool.false_and]
theorem idxf_l (k : Nat) (hk : 10 ≤ k) (now : Int) (P : List Bun) (hP : P.length ≤ 1000) : ∀ (d i n : Nat),i + d = P.length → d < n →
  (∃ j : Nat,∃ h : j < P.length,i ≤ j ∧ expB now P[j] = true ∧ (∀ m (hm : m < P.length),i ≤ m → m < j → expB now P[m] = false) ∧ f61_rF43p_bi_l1 k n P P.length i now = some (.o0 j now)) ∨
  ((∀ m (hm : m < P.length),i ≤ m → expB now P[m] = false) ∧ f61_rF43p_bi_l1 k n P P.length i now = some (.o2 P P.length P.length false now)) := by
 intro d
 induction d with
 | zero =>
  intro i n hi hq
  obtain ⟨n,rfl⟩ : ∃ m,n = m + 1 := ⟨n - 1,by omega⟩
  have e3 : i = P.length := by omega
  subst e3
  right
  refine ⟨fun m hm h => by omega,?_⟩
  simp only [f61_rF43p_bi_l1,f61_rF43p_bi_l1_b,decide_eq_false (Int.lt_irrefl _),cond_false,Option.bind_some]
 | succ d ih =>
  intro i n hi hq
  obtain ⟨n,rfl⟩ : ∃ m,n = m + 1 := ⟨n - 1,by omega⟩
  have h1 : i < P.length := by omega
  have g1 : P[i]? = some P[i] := List.getElem?_eq_getElem h1
  have hlt : ((i : Int) < (P.length : Int)) := by omega
  have hw := nextN h1 (by omega)
  have he := exp_at k (by omega) now P[i]
  cases hx : expB now P[i]
  ·rw [hx] at he
   have e : f61_rF43p_bi_l1 k (n + 1) P P.length i now = f61_rF43p_bi_l1 k n P P.length ((i + 1 : Nat) : Int) now := by
    simp only [f61_rF43p_bi_l1,f61_rF43p_bi_l1_b,f61_rF43p_bi_l1_j1,f61_rF43p_bi_l1_j2,decide_eq_true hlt,cond_true,cond_false,ifE_pos (show (0 : Int) ≤ i by omega),Int.toNat_natCast,g1,Option.bind_some,he,hw]
   rw [e]
   rcases ih (i + 1) n (by omega) (by omega) with ⟨j,hj,a1,a2,a3,a4⟩ | ⟨a1,a2⟩
   ·refine .inl ⟨j,hj,by omega,a2,fun m hm h2 h3 => ?_,a4⟩
    by_cases hmi : m = i
    ·subst hmi; exact hx
    ·exact a3 m hm (by omega) h3
   ·refine .inr ⟨fun m hm h2 => ?_,a2⟩
    by_cases hmi : m = i
    ·subst hmi; exact hx
    ·exact a1 m hm (by omega)
  ·rw [hx] at he
   refine .inl ⟨i,h1,Nat.le_refl _,hx,fun m hm h2 h3 => by omega,?_⟩
   simp only [f61_rF43p_bi_l1,f61_rF43p_bi_l1_b,f61_rF43p_bi_l1_j1,decide_eq_true hlt,cond_true,ifE_pos (show (0 : Int) ≤ i by omega),Int.toNat_natCast,g1,Option.bind_some,he]
def keptB (now : Int) (P : List Bun) : List Bun := P.filter fun b => !expB now b
theorem kept_take {now : Int} {P : List Bun} {j : Nat} (h : j < P.length) : keptB now (P.take (j + 1)) = keptB now (P.take j) ++ (cond (expB now P[j]) [] [P[j]]) := by
 rw [List.take_add_one,List.getElem?_eq_getElem h,keptB,List.filter_append]
 congr 1
 simp only [Option.toList_some,List.filter_cons,List.filter_nil]
 cases expB now P[j] <;> rfl
theorem kept_len (now : Int) (P : List Bun) : (keptB now P).length ≤ P.length := List.length_filter_le ..
theorem del_l (k : Nat) (hk : 10 ≤ k) (now : Int) (P : List Bun) (hP : P.length ≤ 1000) : ∀ (d i j n : Nat) (E : List Bun),j + d = P.length → d < n → i < j → E.length = P.length → E.take i = keptB now (P.take j) → E.drop j = P.drop j →
  ∃ i' E',i' ≤ P.length ∧ E'.length = P.length ∧ E'.take i' = keptB now P ∧ f42_oF43p_wbi_l2 k n i j E now = some (.o1 i' P.length false E' now) := by
 intro d
 induction d with
 | zero =>
  intro i j n E hj hq hij hE h1 h2
  obtain ⟨n,rfl⟩ : ∃ m,n = m + 1 := ⟨n - 1,by omega⟩
  have e3 : j = P.length := by omega
  subst e3
  rw [List.take_length] at h1
  refine ⟨i,E,by omega,hE,h1,?_⟩
  simp only [f42_oF43p_wbi_l2,f42_oF43p_wbi_l2_b,hE,decide_eq_false (Int.lt_irrefl _),cond_false,Option.bind_some]
 | succ d ih =>
  intro i j n E hj hq hij hE h1 h2
  obtain ⟨n,rfl⟩ : ∃ m,n = m + 1 := ⟨n - 1,by omega⟩
  have hjP : j < P.length := by omega
  have hjE : j < E.length := by omega
  have hiE : i < E.length := by omega
  have h2' := h2
  rw [List.drop_eq_getElem_cons hjE,List.drop_eq_getElem_cons hjP,List.cons.injEq] at h2'
  obtain ⟨hEj,h2n⟩ := h2'
  have g1 : E[j]? = some P[j] := by rw [List.getElem?_eq_getElem hjE,hEj]
  have g2 : E[i]? = some E[i] := List.getElem?_eq_getElem hiE
  have hlt : ((j : Int) < (E.length : Int)) := by omega
  have hlti : ((i : Int) < (E.length : Int)) := by omega
  have hw := nextN hjP (by omega)
  have hwi := nextN (show i < P.length by omega) (by omega)
  have he := exp_at k (by omega) now P[j]
  have hk' := kept_take (now := now) hjP
  cases hx : expB now P[j]
  ·rw [hx] at he hk'
   have hset : (E.set i P[j]).take (i + 1) = keptB now (P.take (j + 1)) := by
    rw [hk',← h1,List.take_add_one,List.getElem?_set_self hiE,List.take_set_of_le (Nat.le_refl i)]
    rfl
   have hdrop : (E.set i P[j]).drop (j + 1) = P.drop (j + 1) := by
    rw [List.drop_set_of_lt (by omega)]
    exact h2n
   obtain ⟨i',E',a1,a2,a3,a4⟩ := ih (i + 1) (j + 1) n (E.set i P[j]) (by omega) (by omega) (by omega) (by rw [List.length_set]; exact hE) hset hdrop
   refine ⟨i',E',a1,a2,a3,?_⟩
   rw [← a4]
   simp only [f42_oF43p_wbi_l2,f42_oF43p_wbi_l2_b,f42_oF43p_wbi_l2_j1,f42_oF43p_wbi_l2_j2,decide_eq_true hlt,cond_true,ifE_pos (show (0 : Int) ≤ j by omega),ifE_pos hlt,Int.toNat_natCast,g1,g2,Option.bind_some,he,Bool.not_false,ifE_pos (show (0 : Int) ≤ i by omega),ifE_pos hlti,hw,hwi]
  ·rw [hx] at he hk'
   simp only [cond_true,List.append_nil] at hk'
   obtain ⟨i',E',a1,a2,a3,a4⟩ := ih i (j + 1) n E (by omega) (by omega) (by omega) hE (by rw [hk']; exact h1) h2n
   refine ⟨i',E',a1,a2,a3,?_⟩
   rw [← a4]
   simp only [f42_oF43p_wbi_l2,f42_oF43p_wbi_l2_b,f42_oF43p_wbi_l2_j1,f42_oF43p_wbi_l2_j3,decide_eq_true hlt,cond_true,cond_false,ifE_pos (show (0 : Int) ≤ j by omega),ifE_pos hlt,Int.toNat_natCast,g1,Option.bind_some,he,Bool.not_true,hw]
theorem del_at (k : Nat) (hk : 2000 ≤ k) (now : Int) (P : List Bun) (hP : P.length ≤ 1000) :
  (keptB now P = P ∧ f42_oF43p_wbi k P now = some (.o0 P now)) ∨ (∃ n E,n ≤ E.length ∧ E.take n = keptB now P ∧ f42_oF43p_wbi k P now = some (.o1 0 n E now)) := by
 obtain ⟨k,rfl⟩ : ∃ m,k = m + 2 := ⟨k - 2,by omega⟩
 have hi := idxf_l k (by omega) now P hP P.length 0 k (by omega) (by omega)
 rw [Int.natCast_zero] at hi
 rcases hi with ⟨j,hj,_,a2,a3,a4⟩ | ⟨a1,a2⟩
 ·right
  have hx : f61_rF43p_bi (k + 1) P now = some (.o0 j now) := by simp only [f61_rF43p_bi,f61_rF43p_bi_e,a4,Option.bind_some]
  have hne : ((j : Int) == (-1)) = false := by rw [beq_eq_false_iff_ne]; omega
  have hw := nextN hj (by omega)
  have h0 : keptB now (P.take j) = P.take j := by
   refine List.filter_eq_self.2 fun b hb => ?_
   obtain ⟨m,hm,rfl⟩ := List.mem_iff_getElem.1 hb
   rw [List.length_take] at hm
   rw [List.getElem_take,a3 m (by omega) (by omega) (by omega)]
   rfl
  have h1 := kept_take (now := now) hj
  rw [a2,cond_true,List.append_nil,h0] at h1
  obtain ⟨i',E',b1,b2,b3,b4⟩ := del_l (k + 1) (by omega) now P hP (P.length - (j + 1)) j (j + 1) (k + 1) P (by omega) (by omega) (by omega) rfl h1.symm rfl
  have hr : i' + (E'.length - i') ≤ E'.length := by omega
  have hlen : i' ≤ (E'.take i' ++ (List.replicate (E'.length - i') (T39.mk 0 0 0 0 0 0 0 0 0 0 []) ++ E'.drop (i' + (E'.length - i')))).length := by
   simp only [List.length_append,List.length_take]; omega
  refine ⟨i',_,hlen,?_,?_⟩
  ·rw [List.take_append_of_le_length (by rw [List.length_take]; omega),List.take_take,Nat.min_self,b3]
  ·simp only [f42_oF43p_wbi,f42_oF43p_wbi_e,hx,Option.bind_some,hne,cond_false,f42_oF43p_wbi_j1,hw,b4,f42_oF43p_wbi_j3,ifE_pos (show (0 : Int) ≤ i' by omega),Int.toNat_natCast,ifE_pos (show i' ≤ E'.length by omega),ifE_pos hr,ifE_pos hlen]
 ·left
  have hx : f61_rF43p_bi (k + 1) P now = some (.o0 (-1) now) := by simp only [f61_rF43p_bi,f61_rF43p_bi_e,a2,Option.bind_some,f61_rF43p_bi_j2]
  refine ⟨?_,by simp only [f42_oF43p_wbi,f42_oF43p_wbi_e,hx,Option.bind_some,beq_self_eq_true,cond_true]⟩
  refine List.filter_eq_self.2 fun b hb => ?_
  obtain ⟨m,hm,rfl⟩ := List.mem_iff_getElem.1 hb
  rw [a1 m hm (by omega)]
  rfl
theorem new_at (k : Nat) (hk : 4 ≤ k) (n : Int) : f16_i k n = some (cond (decide (1 ≤ n ∧ n ≤ 6)) (.o0 n 1 [] [] 0) (.o0 0 0 [] [] 2)) := by
 obtain ⟨k,rfl⟩ : ∃ m,k = m + 1 := ⟨k - 1,by omega⟩
 simp only [f16_i,f16_i_e,awithin_at k (by omega) n 1 6,Option.bind_some]
 cases decide (1 ≤ n ∧ n ≤ 6)
 ·simp only [Bool.not_false,cond_true,cond_false]
 ·simp only [Bool.not_true,cond_true,cond_false,f16_i_j1]
end Go.Proofs.YticggdfaehneeaaV