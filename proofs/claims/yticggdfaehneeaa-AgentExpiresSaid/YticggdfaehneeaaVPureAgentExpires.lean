/- The plain law of AgentExpires. -/
import Derived.Test.YticggdfaehneeaaVStmtAgentExpires
import Derived.Test.YticggdfaehneeaaVPExp
namespace Go.Proofs.YticggdfaehneeaaV
open Go Go.RowKit
set_option linter.unusedVariables false
set_option linter.unusedSimpArgs false
theorem expire_at (k : Nat) (hk : 6000 ≤ k) (nd nx : Int) (S : List Sn) (P : List Bun) (fP : ∀ b ∈ P,Fit b) (hS : S.length ≤ 300) (hP : P.length ≤ 60) (now : Int) :
  (okA nd nx S P = false ∧ f22_aiirrzi k nd nx S P now = some (.o0 0 0 [] 290 [])) ∨ (okA nd nx S P = true ∧ ((¬ (0 ≤ now ∧ now ≤ 1048576) ∧ f22_aiirrzi k nd nx S P now = some (.o0 0 0 [] 2 [])) ∨ ((0 ≤ now ∧ now ≤ 1048576) ∧
   ((keptB now P = P ∧ f22_aiirrzi k nd nx S P now = some (.o1 nd nx 0 S P)) ∨ ∃ n E,n ≤ E.length ∧ E.take n = keptB now P ∧ f22_aiirrzi k nd nx S P now = some (.o2 nd nx 0 n 0 S E))))) := by
 obtain ⟨k,rfl⟩ : ∃ m,k = m + 1 := ⟨k - 1,by omega⟩
 have hc := achk_at k (by omega) nd nx S P fP
 have w := awithin_at k (by omega) now 0 1048576
 have ho := own_at k (by omega) nd nx S P hS hP (fun b hb => (fP b hb).2.1)
 cases hok : okA nd nx S P
 ·rw [hok] at hc
  left
  refine ⟨rfl,?_⟩
  simp only [f22_aiirrzi,f22_aiirrzi_e,hc,Option.bind_some,cond_false,show ((290 : Int) != 0) = true from rfl,cond_true]
 ·rw [hok] at hc
  right
  refine ⟨rfl,?_⟩
  by_cases hn : 0 ≤ now ∧ now ≤ 1048576
  ·right
   refine ⟨hn,?_⟩
   rcases del_at k (by omega) now P (by omega) with ⟨d1,d2⟩ | ⟨n,E,d1,d2,d3⟩
   ·left
    refine ⟨d1,?_⟩
    simp only [f22_aiirrzi,f22_aiirrzi_e,hc,Option.bind_some,cond_true,bne_self_eq_false,cond_false,f22_aiirrzi_j1,w,decide_eq_true hn,Bool.not_true,f22_aiirrzi_j2,ho,d2]
   ·right
    refine ⟨n,E,d1,d2,?_⟩
    simp only [f22_aiirrzi,f22_aiirrzi_e,hc,Option.bind_some,cond_true,bne_self_eq_false,cond_false,f22_aiirrzi_j1,w,decide_eq_true hn,Bool.not_true,f22_aiirrzi_j2,ho,d3]
  ·left
   refine ⟨hn,?_⟩
   simp only [f22_aiirrzi,f22_aiirrzi_e,hc,Option.bind_some,cond_true,bne_self_eq_false,cond_false,f22_aiirrzi_j1,w,decide_eq_false hn,Bool.not_false]
def lateB (now : Int) (b : Bun) : Bool := decide (now < IntKind.i64.wrap (b.Created + b.Lifetime))
theorem late_kept {now : Int} {P : List Bun} (oP : ∀ b ∈ P,okP b) : P.filter (lateB now) = keptB now P := by
 unfold keptB
 refine List.filter_congr fun b hb => ?_
 unfold lateB expB
 rw [decide_eq_true (oP b hb),Bool.true_and]
 by_cases h : now < IntKind.i64.wrap (b.Created + b.Lifetime)
 ·rw [decide_eq_true h,decide_eq_false (by omega)]; rfl
 ·rw [decide_eq_false h,decide_eq_true (by omega)]; rfl
theorem filter_next {now : Int} {P : List Bun} {i : Nat} (h : i < P.length) : (P.drop i).filter (lateB now) = cond (lateB now P[i]) (P[i] :: (P.drop (i + 1)).filter (lateB now)) ((P.drop (i + 1)).filter (lateB now)) := by
 rw [List.drop_eq_getElem_cons h,List.filter_cons]
 cases lateB now P[i] <;> rfl
theorem law_l9 (k : Nat) (now : Int) (P : List Bun) (hP : P.length ≤ 1000) (e nd nx nd' nx' : Int) (S S' : List Sn) (C : List Bun) : ∀ (d i n : Nat) (acc : List Bun),i + d = P.length → d < n → acc.length ≤ i →
  f6_aiirrzaiirrzi_l9 k n now e P P.length i nd nx S C nd' nx' S' acc = some (.o2 now e P P.length P.length false nd nx S C nd' nx' S' (acc ++ (P.drop i).filter (lateB now))) := by
 intro d
 induction d with
 | zero =>
  intro i n acc hi hq _
  obtain ⟨n,rfl⟩ : ∃ m,n = m + 1 := ⟨n - 1,by omega⟩
  have e3 : i = P.length := by omega
  subst e3
  rw [List.drop_length,List.filter_nil,List.append_nil]
  simp only [f6_aiirrzaiirrzi_l9,f6_aiirrzaiirrzi_l9_b,decide_eq_false (Int.lt_irrefl _),cond_false,Option.bind_some]
 | succ d ih =>
  intro i n acc hi hq ha
  obtain ⟨n,rfl⟩ : ∃ m,n = m + 1 := ⟨n - 1,by omega⟩
  have h1 : i < P.length := by omega
  have g1 : P[i]? = some P[i] := List.getElem?_eq_getElem h1
  have hlt : ((i : Int) < (P.length : Int)) := by omega
  have hw := nextN h1 (by omega)
  have hr : (acc.length + 1) * 104 ≤ roomy := by unfold roomy; omega
  have ih1 := ih (i + 1) n acc (by omega) (by omega) (by omega)
  have ih2 := ih (i + 1) n (acc ++ [P[i]]) (by omega) (by omega) (by rw [List.length_append]; simp; omega)
  rw [List.append_assoc,List.singleton_append] at ih2
  rw [filter_next h1]
  cases hx : lateB now P[i]
  ·have hx' := hx
   unfold lateB at hx'
   simp only [f6_aiirrzaiirrzi_l9,f6_aiirrzaiirrzi_l9_b,f6_aiirrzaiirrzi_l9_j1,f6_aiirrzaiirrzi_l9_j3,decide_eq_true hlt,cond_true,cond_false,ifE_pos (show (0 : Int) ≤ i by omega),Int.toNat_natCast,g1,Option.bind_some,hx',hw,ih1]
  ·have hx' := hx
   unfold lateB at hx'
   simp only [f6_aiirrzaiirrzi_l9,f6_aiirrzaiirrzi_l9_b,f6_aiirrzaiirrzi_l9_j1,f6_aiirrzaiirrzi_l9_j2,decide_eq_true hlt,cond_true,ifE_pos (show (0 : Int) ≤ i by omega),Int.toNat_natCast,g1,Option.bind_some,hx',ifE_pos hr,hw,ih2]
theorem law_l12 (k : Nat) (now : Int) (P : List Bun) (hP : P.length ≤ 1000) (e nd nx nd' nx' : Int) (p q : Nat) (S S' : List Sn) (C : List Bun) : ∀ (d i n : Nat) (acc : List Bun),i + d = P.length → d < n → acc.length ≤ i →
  f6_aiirrzaiirrzi_l12 k n now e P P.length i nd nx p q S C nd' nx' S' acc = some (.o2 now e P P.length P.length false nd nx p q S C nd' nx' S' (acc ++ (P.drop i).filter (lateB now))) := by
 intro d
 induction d with
 | zero =>
  intro i n acc hi hq _
  obtain ⟨n,rfl⟩ : ∃ m,n = m + 1 := ⟨n - 1,by omega⟩
  have e3 : i = P.length := by omega
  subst e3
  rw [List.drop_length,List.filter_nil,List.append_nil]
  simp only [f6_aiirrzaiirrzi_l12,f6_aiirrzaiirrzi_l12_b,decide_eq_false (Int.lt_irrefl _),cond_false,Option.bind_some]
 | succ d ih =>
  intro i n acc hi hq ha
  obtain ⟨n,rfl⟩ : ∃ m,n = m + 1 := ⟨n - 1,by omega⟩
  have h1 : i < P.length := by omega
  have g1 : P[i]? = some P[i] := List.getElem?_eq_getElem h1
  have hlt : ((i : Int) < (P.length : Int)) := by omega
  have hw := nextN h1 (by omega)
  have hr : (acc.length + 1) * 104 ≤ roomy := by unfold roomy; omega
  have ih1 := ih (i + 1) n acc (by omega) (by omega) (by omega)
  have ih2 := ih (i + 1) n (acc ++ [P[i]]) (by omega) (by omega) (by rw [List.length_append]; simp; omega)
  rw [List.append_assoc,List.singleton_append] at ih2
  rw [filter_next h1]
  cases hx : lateB now P[i]
  ·have hx' := hx
   unfold lateB at hx'
   simp only [f6_aiirrzaiirrzi_l12,f6_aiirrzaiirrzi_l12_b,f6_aiirrzaiirrzi_l12_j1,f6_aiirrzaiirrzi_l12_j3,decide_eq_true hlt,cond_true,cond_false,ifE_pos (show (0 : Int) ≤ i by omega),Int.toNat_natCast,g1,Option.bind_some,hx',hw,ih1]
  ·have hx' := hx
   unfold lateB at hx'
   simp only [f6_aiirrzaiirrzi_l12,f6_aiirrzaiirrzi_l12_b,f6_aiirrzaiirrzi_l12_j1,f6_aiirrzaiirrzi_l12_j2,decide_eq_true hlt,cond_true,ifE_pos (show (0 : Int) ≤ i by omega),Int.toNat_natCast,g1,Option.bind_some,hx',ifE_pos hr,hw,ih2]
theorem end_j4 (k : Nat) (hk : 8000 ≤ k) (nd nx : Int) (S : List Sn) (P : List Bun) (fP : ∀ b ∈ P,Fit b) (hS : S.length ≤ 300) (hP : P.length ≤ 60) (now : Int) : f6_aiirrzaiirrzi_j4 k now false nd nx S P = some (.o0 true) := by
 have hpl : ∀ b ∈ P,b.Payload.length ≤ 3000 := fun b hb => (fP b hb).2.1
 have hcp := copied_at k (by omega) nd nx S P hS hP hpl
 have hri := aright_at k (by omega) nd nx S P fP
 have hno : ∀ e : Int,f12_aiirrzii k 0 0 [] [] e e = some (.o0 true) := fun e => by rw [none_at k (by omega),beq_self_eq_true]
 rcases expire_at k (by omega) nd nx S P fP hS hP now with ⟨h1,h2⟩ | ⟨h1,⟨h2,h3⟩ | ⟨hn,h⟩⟩
 ·rw [h1] at hri
  simp only [f6_aiirrzaiirrzi_j4,hcp,Option.bind_some,h2,hri,Bool.not_false,cond_true,hno]
 ·rw [h1] at hri
  by_cases c1 : now < 0
  ·simp only [f6_aiirrzaiirrzi_j4,hcp,Option.bind_some,h3,hri,Bool.not_true,cond_false,decide_eq_true c1,cond_true,hno]
  ·simp only [f6_aiirrzaiirrzi_j4,hcp,Option.bind_some,h3,hri,Bool.not_true,cond_false,decide_eq_false c1,decide_eq_true (show now > 1048576 by omega),cond_true,hno]
 ·rw [h1] at hri
  have oP : ∀ b ∈ P,okP b := fun b hb => by
   unfold okA at h1
   simp only [Bool.and_eq_true] at h1
   have := List.all_eq_true.1 h1.2.2.2.2.2 b hb
   unfold AB at this
   simp only [Bool.and_eq_true,decide_eq_true_iff] at this
   exact this.1.1
  have c1 := decide_eq_false (show ¬ now < 0 by omega)
  have c2 := decide_eq_false (show ¬ now > 1048576 by omega)
  have hkl : (keptB now P).length ≤ 60 := Nat.le_trans (kept_len now P) hP
  have hkp : ∀ b ∈ keptB now P,b.Payload.length ≤ 3000 := fun b hb => hpl b (List.mem_filter.1 hb).1
  have hsm := asame_at k (by omega) nd nx S (keptB now P) hS hkl hkp
  rcases h with ⟨d1,d2⟩ | ⟨n,E,d1,d2,d3⟩
  ·have hl := law_l9 k now P (by omega) 0 nd nx nd nx S S P P.length 0 k [] (by omega) (by omega) (by simp)
   rw [List.drop_zero,Int.natCast_zero,List.nil_append,late_kept oP] at hl
   rw [d1] at hl hsm
   simp only [f6_aiirrzaiirrzi_j4,hcp,Option.bind_some,d2,hri,Bool.not_true,cond_false,c1,c2,f6_aiirrzaiirrzi_j8,hl,f6_aiirrzaiirrzi_j10,beq_self_eq_true,cond_true,hsm]
  ·have hl := law_l12 k now P (by omega) 0 nd nx nd nx 0 n S S E P.length 0 k [] (by omega) (by omega) (by simp)
   rw [List.drop_zero,Int.natCast_zero,List.nil_append,late_kept oP] at hl
   simp only [f6_aiirrzaiirrzi_j4,hcp,Option.bind_some,d3,hri,Bool.not_true,cond_false,c1,c2,f6_aiirrzaiirrzi_j11,hl,f6_aiirrzaiirrzi_j13,beq_self_eq_true,cond_true,Nat.zero_add,ifE_pos d1,List.drop_zero,d2,hsm]
theorem end_j14 (k : Nat) (hk : 8000 ≤ k) (nd nx : Int) (S : List Sn) (P : List Bun) (fP : ∀ b ∈ P,Fit b) (hS : S.length ≤ 300) (hP : P.length ≤ 60) (now : Int) : f6_aiirrzaiirrzi_j14 k now false nd nx S P = some (.o0 true) := by
 have hpl : ∀ b ∈ P,b.Payload.length ≤ 3000 := fun b hb => (fP b hb).2.1
 have hcp := copied_at k (by omega) nd nx S P hS hP hpl
 have hri := aright_at k (by omega) nd nx S P fP
 have hno : ∀ e : Int,f12_aiirrzii k 0 0 [] [] e e = some (.o0 true) := fun e => by rw [none_at k (by omega),beq_self_eq_true]
 rcases expire_at k (by omega) nd nx S P fP hS hP now with ⟨h1,h2⟩ | ⟨h1,⟨h2,h3⟩ | ⟨hn,h⟩⟩
 ·rw [h1] at hri
  simp only [f6_aiirrzaiirrzi_j14,hcp,Option.bind_some,h2,hri,Bool.not_false,cond_true,hno]
 ·rw [h1] at hri
  by_cases c1 : now < 0
  ·simp only [f6_aiirrzaiirrzi_j14,hcp,Option.bind_some,h3,hri,Bool.not_true,cond_false,decide_eq_true c1,cond_true,hno]
  ·simp only [f6_aiirrzaiirrzi_j14,hcp,Option.bind_some,h3,hri,Bool.not_true,cond_false,decide_eq_false c1,decide_eq_true (show now > 1048576 by omega),cond_true,hno]
 ·rw [h1] at hri
  have oP : ∀ b ∈ P,okP b := fun b hb => by
   unfold okA at h1
   simp only [Bool.and_eq_true] at h1
   have := List.all_eq_true.1 h1.2.2.2.2.2 b hb
   unfold AB at this
   simp only [Bool.and_eq_true,decide_eq_true_iff] at this
   exact this.1.1
  have c1 := decide_eq_false (show ¬ now < 0 by omega)
  have c2 := decide_eq_false (show ¬ now > 1048576 by omega)
  have hkl : (keptB now P).length ≤ 60 := Nat.le_trans (kept_len now P) hP
  have hkp : ∀ b ∈ keptB now P,b.Payload.length ≤ 3000 := fun b hb => hpl b (List.mem_filter.1 hb).1
  have hsm := asame_at k (by omega) nd nx S (keptB now P) hS hkl hkp
  rcases h with ⟨d1,d2⟩ | ⟨n,E,d1,d2,d3⟩
  ·have hl := law_l9 k now P (by omega) 0 nd nx nd nx S S P P.length 0 k [] (by omega) (by omega) (by simp)
   rw [List.drop_zero,Int.natCast_zero,List.nil_append,late_kept oP] at hl
   rw [d1] at hl hsm
   simp only [f6_aiirrzaiirrzi_j14,hcp,Option.bind_some,d2,hri,Bool.not_true,cond_false,c1,c2,f6_aiirrzaiirrzi_j8,hl,f6_aiirrzaiirrzi_j10,beq_self_eq_true,cond_true,hsm]
  ·have hl := law_l12 k now P (by omega) 0 nd nx nd nx 0 n S S E P.length 0 k [] (by omega) (by omega) (by simp)
   rw [List.drop_zero,Int.natCast_zero,List.nil_append,late_kept oP] at hl
   simp only [f6_aiirrzaiirrzi_j14,hcp,Option.bind_some,d3,hri,Bool.not_true,cond_false,c1,c2,f6_aiirrzaiirrzi_j11,hl,f6_aiirrzaiirrzi_j13,beq_self_eq_true,cond_true,Nat.zero_add,ifE_pos d1,List.drop_zero,d2,hsm]
theorem newsame_at (k : Nat) (hk : 6000 ≤ k) (now : Int) : f15_aiirrzaiinnz k now 1 [] [] now 1 = some (.o0 true) := by
 obtain ⟨k,rfl⟩ : ∃ m,k = m + 2 := ⟨k - 2,by omega⟩
 have h1 : f31_rr (k + 1) [] [] = some (.o0 true) := lsame_at (k + 1) (by omega) [] (by simp) (fun b hb => by cases hb)
 have h2 : f15_aiirrzaiinnz_l2 (k + 1) (k + 1) 0 now 1 [] [] now 1 [] [] = some (.o2 0 false now 1 [] [] now 1 [] []) := by simp [f15_aiirrzaiinnz_l2,f15_aiirrzaiinnz_l2_b]
 simp only [f15_aiirrzaiinnz,f15_aiirrzaiinnz_e,bne_self_eq_false,cond_false,List.length_nil,Int.natCast_zero,h1,Option.bind_some,Bool.not_true,f15_aiirrzaiinnz_j1,h2,f15_aiirrzaiinnz_j3]
theorem pureAgentExpires : StmtAgentExpires := by
 intro a b now ga gb gn
 refine ⟨60001,?_⟩
 obtain ⟨_,_,_,_,_,gP⟩ := ga
 obtain ⟨nd,nx,S,P⟩ := a
 obtain ⟨nd',nx',S',P'⟩ := b
 simp only at gP ⊢
 have e7 : f7_ 60000 = some (.o0 true) := by simp only [f7_]; exact ifE_pos (by omega)
 have big1 := large_at 60000 (by omega) nd nx S P
 have big2 := large_at 60000 (by omega) nd' nx' S' P'
 cases hb1 : bigB S P
 case true =>
  rw [hb1] at big1
  simp only [f6_aiirrzaiirrzi,f6_aiirrzaiirrzi_e,f6_aiirrzaiirrzi_j1,e7,Option.bind_some,Bool.not_true,cond_false,big1,cond_true]
 rw [hb1] at big1
 cases hb2 : bigB S' P'
 case true =>
  rw [hb2] at big2
  simp only [f6_aiirrzaiirrzi,f6_aiirrzaiirrzi_e,f6_aiirrzaiirrzi_j1,e7,Option.bind_some,Bool.not_true,cond_false,big1,big2,cond_true]
 rw [hb2] at big2
 unfold bigB at hb1
 simp only [Bool.or_eq_false_iff,decide_eq_false_iff_not] at hb1
 obtain ⟨b1,b2,b3⟩ := hb1
 have hS : S.length ≤ 300 := by omega
 have hP : P.length ≤ 60 := by omega
 have hpl : ∀ b ∈ P,b.Payload.length ≤ 3000 := fun b hb => by
  have := List.any_eq_false.1 b3 b hb
  simp only [decide_eq_true_eq] at this
  omega
 have fP : ∀ b ∈ P,Fit b := fun b hb => by
  obtain ⟨_,_,gs,_,_,_,_,_,_,_,_,_,gp⟩ := gP b hb
  exact ⟨(wf_u32 gs).1,hpl b hb,fun x hx => wf_u8 (gp x hx)⟩
 have s1 := psame_at 60000 (by omega) nd nx nd' nx' S S' P P' hS hP hpl
 have s2 := asm_at 60000 (by omega) nd nx nd' nx' S S' P P' hS hP hpl
 have s3 := psame_at 60000 (by omega) nd nx nd nx S S P P hS hP hpl
 have s4 : sameAg nd nx S P nd nx S P = true := by unfold sameAg; simp
 rw [s4] at s3
 have hcp := copied_at 60000 (by omega) nd nx S P hS hP hpl
 have hnew := new_at 60000 (by omega) now
 have hno : ∀ e : Int,f12_aiirrzii 60000 0 0 [] [] e e = some (.o0 true) := fun e => by rw [none_at 60000 (by omega),beq_self_eq_true]
 have hne := newsame_at 60000 (by omega) now
 have f4 := end_j4 60000 (by omega) nd nx S P fP hS hP now
 have f14 := end_j14 60000 (by omega) nd nx S P fP hS hP now
 have hbe : ∀ x : Bool,(x == x) = true := fun x => by cases x <;> rfl
 by_cases c : 1 ≤ now ∧ now ≤ 6
 ·rw [decide_eq_true c,cond_true] at hnew
  simp only [f6_aiirrzaiirrzi,f6_aiirrzaiirrzi_e,f6_aiirrzaiirrzi_j1,f6_aiirrzaiirrzi_j2,f6_aiirrzaiirrzi_j3,e7,Option.bind_some,Bool.not_true,cond_false,big1,big2,s1,s2,hbe,hcp,s3,hnew,decide_eq_false (show ¬ now < 1 by omega),decide_eq_false (show ¬ now > 6 by omega),bne_self_eq_false,hne,f14]
 ·rw [decide_eq_false c,cond_false] at hnew
  by_cases c1 : now < 1
  ·simp only [f6_aiirrzaiirrzi,f6_aiirrzaiirrzi_e,f6_aiirrzaiirrzi_j1,f6_aiirrzaiirrzi_j2,f6_aiirrzaiirrzi_j3,e7,Option.bind_some,Bool.not_true,cond_false,big1,big2,s1,s2,hbe,hcp,s3,hnew,decide_eq_true c1,cond_true,hno,f4]
  ·simp only [f6_aiirrzaiirrzi,f6_aiirrzaiirrzi_e,f6_aiirrzaiirrzi_j1,f6_aiirrzaiirrzi_j2,f6_aiirrzaiirrzi_j3,e7,Option.bind_some,Bool.not_true,cond_false,big1,big2,s1,s2,hbe,hcp,s3,hnew,decide_eq_false c1,decide_eq_true (show now > 6 by omega),cond_true,hno,f4]
end Go.Proofs.YticggdfaehneeaaV