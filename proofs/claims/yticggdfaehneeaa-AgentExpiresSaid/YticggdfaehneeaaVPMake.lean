/- Agents in memory of their own; what is too much to go through. -/
import Derived.Test.YticggdfaehneeaaVPAgent
namespace Go.Proofs.YticggdfaehneeaaV
open Go
set_option linter.unusedVariables false
set_option linter.unusedSimpArgs false
theorem large_l (k : Nat) (P : List Bun) (hP : P.length ≤ 1000) : ∀ (d i n : Nat),i + d = P.length → d < n →
  f8_aiirrzn_l2 k n P.length i P = some (cond ((P.drop i).any fun b => decide ((b.Payload.length : Int) > 3000)) (.o0 true) (.o2 P.length P.length false P)) := by
 intro d
 induction d with
 | zero =>
  intro i n hi hq
  obtain ⟨n,rfl⟩ : ∃ m,n = m + 1 := ⟨n - 1,by omega⟩
  have e3 : i = P.length := by omega
  subst e3
  simp [f8_aiirrzn_l2,f8_aiirrzn_l2_b]
 | succ d ih =>
  intro i n hi hq
  obtain ⟨n,rfl⟩ : ∃ m,n = m + 1 := ⟨n - 1,by omega⟩
  have h1 : i < P.length := by omega
  have g1 : P[i]? = some P[i] := List.getElem?_eq_getElem h1
  have hlt : ((i : Int) < (P.length : Int)) := by omega
  have hw := nextN h1 (by omega)
  have ih' := ih (i + 1) n (by omega) (by omega)
  rw [List.drop_eq_getElem_cons h1,List.any_cons]
  simp only [f8_aiirrzn_l2,f8_aiirrzn_l2_b,f8_aiirrzn_l2_j1,decide_eq_true hlt,cond_true,ifE_pos (show (0 : Int) ≤ i by omega),ifE_pos hlt,Int.toNat_natCast,g1,Option.bind_some]
  cases decide ((P[i].Payload.length : Int) > 3000)
  ·simp only [cond_false,f8_aiirrzn_l2_j2,Option.bind_some,hw,ih',Bool.false_or]
  ·simp only [cond_true,Option.bind_some,Bool.true_or]
def bigB (S : List Sn) (P : List Bun) : Bool := decide ((S.length : Int) > 300) || (decide ((P.length : Int) > 60) || P.any fun b => decide ((b.Payload.length : Int) > 3000))
theorem large_at (k : Nat) (hk : 100 ≤ k) (nd nx : Int) (S : List Sn) (P : List Bun) : f8_aiirrzn k nd nx S P = some (.o0 (bigB S P)) := by
 obtain ⟨k,rfl⟩ : ∃ m,k = m + 1 := ⟨k - 1,by omega⟩
 simp only [f8_aiirrzn,f8_aiirrzn_e,bigB]
 cases decide ((S.length : Int) > 300)
 case true => simp only [cond_true,Bool.true_or]
 by_cases h : (P.length : Int) > 60
 ·simp only [decide_eq_true h,cond_true,cond_false,Bool.true_or,Bool.false_or]
 have r1 : P.length * 104 ≤ roomy := by unfold roomy; omega
 have r2 : (P.length + ([] : List Bun).length) * 104 ≤ roomy := by unfold roomy; simp; omega
 have hl := large_l k P (by omega) P.length 0 k (by omega) (by omega)
 rw [List.drop_zero,Int.natCast_zero] at hl
 simp only [decide_eq_false h,cond_false,Bool.false_or,f8_aiirrzn_j1,ifE_pos r1,ifE_pos r2,List.append_nil,hl]
 cases P.any fun b => decide ((b.Payload.length : Int) > 3000)
 ·simp only [cond_false,Option.bind_some,f8_aiirrzn_j3]
 ·simp only [cond_true,Option.bind_some]
theorem copied_l (k : Nat) (P : List Bun) (hP : P.length ≤ 1000) (hp : ∀ b ∈ P,b.Payload.length ≤ 3000) (a b : Int) (c : List Bun) (d1 : List Sn) (e f : Int) (g : List Sn) (j : List Bun) : ∀ (d i n : Nat) (acc : List Bun),i + d = P.length → d < n → acc.length ≤ i →
  f10_aiirrz_l1 k n P P.length i a b c d1 e f g j acc = some (.o1 P P.length P.length false a b c d1 e f g j (acc ++ P.drop i)) := by
 intro d
 induction d with
 | zero =>
  intro i n acc hi hq _
  obtain ⟨n,rfl⟩ : ∃ m,n = m + 1 := ⟨n - 1,by omega⟩
  have e3 : i = P.length := by omega
  subst e3
  simp [f10_aiirrz_l1,f10_aiirrz_l1_b]
 | succ d ih =>
  intro i n acc hi hq ha
  obtain ⟨n,rfl⟩ : ∃ m,n = m + 1 := ⟨n - 1,by omega⟩
  have h1 : i < P.length := by omega
  have g1 : P[i]? = some P[i] := List.getElem?_eq_getElem h1
  have hlt : ((i : Int) < (P.length : Int)) := by omega
  have hw := nextN h1 (by omega)
  have h3 := hp P[i] (List.getElem_mem h1)
  have r1 : P[i].Payload.length ≤ roomy := by unfold roomy; omega
  have r2 : (acc.length + 1) * 104 ≤ roomy := by unfold roomy; omega
  have ih' := ih (i + 1) n (acc ++ [P[i]]) (by omega) (by omega) (by rw [List.length_append]; simp; omega)
  rw [List.append_assoc,List.singleton_append,← List.drop_eq_getElem_cons h1] at ih'
  simp only [f10_aiirrz_l1,f10_aiirrz_l1_b,f10_aiirrz_l1_j1,f10_aiirrz_l1_j2,decide_eq_true hlt,cond_true,ifE_pos (show (0 : Int) ≤ i by omega),Int.toNat_natCast,g1,Option.bind_some,ifE_pos r1,ifE_pos r2,hw,ih']
theorem copied_at (k : Nat) (hk : 400 ≤ k) (nd nx : Int) (S : List Sn) (P : List Bun) (hS : S.length ≤ 300) (hP : P.length ≤ 60) (hp : ∀ b ∈ P,b.Payload.length ≤ 3000) : f10_aiirrz k nd nx S P = some (.o0 nd nx S P) := by
 obtain ⟨k,rfl⟩ : ∃ m,k = m + 1 := ⟨k - 1,by omega⟩
 have r1 : S.length * 32 ≤ roomy := by unfold roomy; omega
 have h := copied_l k P (by omega) hp nd nx P S 0 0 [] [] P.length 0 k [] (by omega) (by omega) (by simp)
 rw [List.drop_zero,Int.natCast_zero,List.nil_append] at h
 simp only [f10_aiirrz,f10_aiirrz_e,ifE_pos r1,h,Option.bind_some,f10_aiirrz_j2]
theorem own_l (k : Nat) (hk : 1 ≤ k) (P : List Bun) (hP : P.length ≤ 1000) (hp : ∀ b ∈ P,b.Payload.length ≤ 3000) (a b : Int) (d1 : List Sn) (e f : Int) (g : List Sn) (j : List Bun) : ∀ (d i n : Nat) (acc : List Bun),i + d = P.length → d < n → acc.length ≤ i →
  f26_aiirrz_l1 k n P P.length i a b d1 acc e f g j = some (.o1 P P.length P.length false a b d1 (acc ++ P.drop i) e f g j) := by
 obtain ⟨k,rfl⟩ : ∃ m,k = m + 1 := ⟨k - 1,by omega⟩
 intro d
 induction d with
 | zero =>
  intro i n acc hi hq _
  obtain ⟨n,rfl⟩ : ∃ m,n = m + 1 := ⟨n - 1,by omega⟩
  have e3 : i = P.length := by omega
  subst e3
  simp [f26_aiirrz_l1,f26_aiirrz_l1_b]
 | succ d ih =>
  intro i n acc hi hq ha
  obtain ⟨n,rfl⟩ : ∃ m,n = m + 1 := ⟨n - 1,by omega⟩
  have h1 : i < P.length := by omega
  have g1 : P[i]? = some P[i] := List.getElem?_eq_getElem h1
  have hlt : ((i : Int) < (P.length : Int)) := by omega
  have hw := nextN h1 (by omega)
  have h3 := hp P[i] (List.getElem_mem h1)
  have r1 : P[i].Payload.length * 1 ≤ roomy := by unfold roomy; omega
  have r2 : (acc.length + 1) * 104 ≤ roomy := by unfold roomy; omega
  have ih' := ih (i + 1) n (acc ++ [P[i]]) (by omega) (by omega) (by rw [List.length_append]; simp; omega)
  rw [List.append_assoc,List.singleton_append,← List.drop_eq_getElem_cons h1] at ih'
  simp only [f26_aiirrz_l1,f26_aiirrz_l1_b,f26_aiirrz_l1_j1,f26_aiirrz_l1_j2,f49_r,decide_eq_true hlt,cond_true,ifE_pos (show (0 : Int) ≤ i by omega),Int.toNat_natCast,g1,Option.bind_some,ifE_pos r1,ifE_pos r2,hw,ih']
theorem own_at (k : Nat) (hk : 400 ≤ k) (nd nx : Int) (S : List Sn) (P : List Bun) (hS : S.length ≤ 300) (hP : P.length ≤ 60) (hp : ∀ b ∈ P,b.Payload.length ≤ 3000) : f26_aiirrz k nd nx S P = some (.o0 nd nx S P) := by
 obtain ⟨k,rfl⟩ : ∃ m,k = m + 2 := ⟨k - 2,by omega⟩
 have r1 : S.length * 32 ≤ roomy := by unfold roomy; omega
 have h := own_l (k + 1) (by omega) P (by omega) hp nd nx S 0 0 [] [] P.length 0 (k + 1) [] (by omega) (by omega) (by simp)
 rw [List.drop_zero,Int.natCast_zero,List.nil_append] at h
 simp only [f26_aiirrz,f26_aiirrz_e,f48_r,ifE_pos r1,Option.bind_some,h,f26_aiirrz_j2]
theorem lsame_l (k : Nat) (P : List Bun) (hP : P.length ≤ 1000) (hp : ∀ b ∈ P,b.Payload.length ≤ 3000) (hk : 3100 ≤ k) : ∀ (d i n : Nat),i + d = P.length → d < n → f31_rr_l2 k n P P i = some (.o2 P P P.length false) := by
 intro d
 induction d with
 | zero =>
  intro i n hi hq
  obtain ⟨n,rfl⟩ : ∃ m,n = m + 1 := ⟨n - 1,by omega⟩
  have e3 : i = P.length := by omega
  subst e3
  simp [f31_rr_l2,f31_rr_l2_b]
 | succ d ih =>
  intro i n hi hq
  obtain ⟨n,rfl⟩ : ∃ m,n = m + 1 := ⟨n - 1,by omega⟩
  have h1 : i < P.length := by omega
  have g1 : P[i]? = some P[i] := List.getElem?_eq_getElem h1
  have hlt : ((i : Int) < (P.length : Int)) := by omega
  have hw := nextN h1 (by omega)
  have h3 := hp P[i] (List.getElem_mem h1)
  have hs := rsame_at k P[i] P[i] (by omega) (by omega)
  rw [decide_eq_true rfl] at hs
  simp only [f31_rr_l2,f31_rr_l2_b,f31_rr_l2_j1,f31_rr_l2_j2,decide_eq_true hlt,cond_true,ifE_pos (show (0 : Int) ≤ i by omega),Int.toNat_natCast,g1,Option.bind_some,hs,Bool.not_true,cond_false,hw,ih (i + 1) n (by omega) (by omega)]
theorem lsame_at (k : Nat) (hk : 4200 ≤ k) (P : List Bun) (hP : P.length ≤ 1000) (hp : ∀ b ∈ P,b.Payload.length ≤ 3000) : f31_rr k P P = some (.o0 true) := by
 obtain ⟨k,rfl⟩ : ∃ m,k = m + 1 := ⟨k - 1,by omega⟩
 have h := lsame_l k P hP hp (by omega) P.length 0 k (by omega) (by omega)
 rw [Int.natCast_zero] at h
 simp only [f31_rr,f31_rr_e,bne_self_eq_false,cond_false,f31_rr_j1,h,Option.bind_some,f31_rr_j3]
theorem asame_l (k : Nat) (nd nx nd' nx' : Int) (S : List Sn) (P P' : List Bun) (hS : S.length ≤ 1000) : ∀ (d i n : Nat),i + d = S.length → d < n → f15_aiirrzaiirrz_l2 k n i nd nx S P nd' nx' S P' = some (.o2 S.length false nd nx S P nd' nx' S P') := by
 intro d
 induction d with
 | zero =>
  intro i n hi hq
  obtain ⟨n,rfl⟩ : ∃ m,n = m + 1 := ⟨n - 1,by omega⟩
  have e3 : i = S.length := by omega
  subst e3
  simp [f15_aiirrzaiirrz_l2,f15_aiirrzaiirrz_l2_b]
 | succ d ih =>
  intro i n hi hq
  obtain ⟨n,rfl⟩ : ∃ m,n = m + 1 := ⟨n - 1,by omega⟩
  have h1 : i < S.length := by omega
  have g1 : S[i]? = some S[i] := List.getElem?_eq_getElem h1
  have hlt : ((i : Int) < (S.length : Int)) := by omega
  have hw := nextN h1 (by omega)
  simp only [f15_aiirrzaiirrz_l2,f15_aiirrzaiirrz_l2_b,f15_aiirrzaiirrz_l2_j1,f15_aiirrzaiirrz_l2_j2,decide_eq_true hlt,cond_true,ifE_pos (show (0 : Int) ≤ i by omega),Int.toNat_natCast,g1,Option.bind_some,beq_self_eq_true,Bool.and_true,Bool.not_true,cond_false,hw,ih (i + 1) n (by omega) (by omega)]
theorem asame_at (k : Nat) (hk : 5000 ≤ k) (nd nx : Int) (S : List Sn) (P : List Bun) (hS : S.length ≤ 300) (hP : P.length ≤ 60) (hp : ∀ b ∈ P,b.Payload.length ≤ 3000) : f15_aiirrzaiirrz k nd nx S P nd nx S P = some (.o0 true) := by
 obtain ⟨k,rfl⟩ : ∃ m,k = m + 1 := ⟨k - 1,by omega⟩
 have h := asame_l k nd nx nd nx S P P (by omega) S.length 0 k (by omega) (by omega)
 rw [Int.natCast_zero] at h
 simp only [f15_aiirrzaiirrz,f15_aiirrzaiirrz_e,bne_self_eq_false,cond_false,lsame_at k (by omega) P (by omega) hp,Option.bind_some,Bool.not_true,f15_aiirrzaiirrz_j1,h,f15_aiirrzaiirrz_j3]
theorem none_at (k : Nat) (hk : 5000 ≤ k) (e w : Int) : f12_aiirrzii k 0 0 [] [] e w = some (.o0 (e == w)) := by
 obtain ⟨k,rfl⟩ : ∃ m,k = m + 3 := ⟨k - 3,by omega⟩
 have h1 : f31_rr (k + 1) [] [] = some (.o0 true) := lsame_at (k + 1) (by omega) [] (by simp) (fun b hb => by cases hb)
 have h2 : f15_aiirrzaiinnz_l2 (k + 1) (k + 1) 0 0 0 [] [] 0 0 [] [] = some (.o2 0 false 0 0 [] [] 0 0 [] []) := by simp [f15_aiirrzaiinnz_l2,f15_aiirrzaiinnz_l2_b]
 have h3 : f15_aiirrzaiinnz (k + 2) 0 0 [] [] 0 0 = some (.o0 true) := by
  simp only [f15_aiirrzaiinnz,f15_aiirrzaiinnz_e,bne_self_eq_false,cond_false,List.length_nil,Int.natCast_zero,h1,Option.bind_some,Bool.not_true,f15_aiirrzaiinnz_j1,h2,f15_aiirrzaiinnz_j3]
 simp only [f12_aiirrzii,f12_aiirrzii_e,h3,Option.bind_some,cond_true]
end Go.Proofs.YticggdfaehneeaaV