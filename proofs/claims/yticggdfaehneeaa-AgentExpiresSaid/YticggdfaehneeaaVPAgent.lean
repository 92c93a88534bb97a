/- Which agents may be: the program's answer and the document's. -/
import Derived.Test.YticggdfaehneeaaVPWhl
namespace Go.Proofs.YticggdfaehneeaaV
open Go
set_option linter.unusedVariables false
set_option linter.unusedSimpArgs false
def ofB (P : List Bun) (s q : Int) : List Bun := P.filter fun x => (x.Source == s) && (x.Seq == q)
theorem ofB_len (P : List Bun) (s q : Int) : (ofB P s q).length ≤ P.length := List.length_filter_le ..
theorem ofB_cons (x : Bun) (P : List Bun) (s q : Int) : ofB (x :: P) s q = cond ((x.Source == s) && (x.Seq == q)) (x :: ofB P s q) (ofB P s q) := by
 unfold ofB; rw [List.filter_cons]; cases (x.Source == s) && (x.Seq == q) <;> rfl
theorem of_l (k : Nat) (hk : 1 ≤ k) (P : List Bun) (s q : Int) (hP : P.length ≤ 1000) : ∀ (d i n : Nat) (acc : List Bun),i + d = P.length → d < n → acc.length ≤ i →
  f36_aiirrzaiiz_l1 k n P P.length i s q acc = some (.o2 P P.length P.length false s q (acc ++ ofB (P.drop i) s q)) := by
 obtain ⟨k,rfl⟩ : ∃ m,k = m + 1 := ⟨k - 1,by omega⟩
 intro d
 induction d with
 | zero =>
  intro i n acc hi hq _
  obtain ⟨n,rfl⟩ : ∃ m,n = m + 1 := ⟨n - 1,by omega⟩
  have e3 : i = P.length := by omega
  subst e3
  simp [f36_aiirrzaiiz_l1,f36_aiirrzaiiz_l1_b,ofB]
 | succ d ih =>
  intro i n acc hi hq ha
  obtain ⟨n,rfl⟩ : ∃ m,n = m + 1 := ⟨n - 1,by omega⟩
  have h1 : i < P.length := by omega
  have g1 : P[i]? = some P[i] := List.getElem?_eq_getElem h1
  have hlt : ((i : Int) < (P.length : Int)) := by omega
  have hw := nextN h1 (by omega)
  have hr : (acc.length + 1) * 104 ≤ roomy := by unfold roomy; omega
  rw [List.drop_eq_getElem_cons h1,ofB_cons]
  cases hc : (P[i].Source == s) && (P[i].Seq == q)
  ·have ih' := ih (i + 1) n acc (by omega) (by omega) (by omega)
   simp only [f36_aiirrzaiiz_l1,f36_aiirrzaiiz_l1_b,f36_aiirrzaiiz_l1_j1,f36_aiirrzaiiz_l1_j3,f37_ai10rz,f37_ai10rz_e,decide_eq_true hlt,cond_true,cond_false,ifE_pos (show (0 : Int) ≤ i by omega),Int.toNat_natCast,g1,Option.bind_some,hc,hw,ih']
  ·have ih' := ih (i + 1) n (acc ++ [P[i]]) (by omega) (by omega) (by rw [List.length_append]; simp; omega)
   rw [List.append_assoc,List.singleton_append] at ih'
   simp only [f36_aiirrzaiiz_l1,f36_aiirrzaiiz_l1_b,f36_aiirrzaiiz_l1_j1,f36_aiirrzaiiz_l1_j2,f37_ai10rz,f37_ai10rz_e,decide_eq_true hlt,cond_true,ifE_pos (show (0 : Int) ≤ i by omega),ifE_pos hr,Int.toNat_natCast,g1,Option.bind_some,hc,hw,ih']
theorem of_at (k : Nat) (nd nx : Int) (S : List Sn) (P : List Bun) (s q : Int) (hP : P.length ≤ 1000) (hk : P.length + 3 ≤ k) : f36_aiirrzaiiz k nd nx S P s q = some (.o0 (ofB P s q)) := by
 obtain ⟨k,rfl⟩ : ∃ m,k = m + 1 := ⟨k - 1,by omega⟩
 have h := of_l k (by omega) P s q hP P.length 0 k [] (by omega) (by omega) (by simp)
 rw [List.drop_zero,Int.natCast_zero,List.nil_append] at h
 simp only [f36_aiirrzaiiz,f36_aiirrzaiiz_e,h,Option.bind_some,f36_aiirrzaiiz_j2]
theorem rof_l (k : Nat) (P : List Bun) (b : Bun) (hP : P.length ≤ 1000) : ∀ (d i n : Nat) (acc : List Bun),i + d = P.length → d < n → acc.length ≤ i →
  f29_rai10rz_l1 k n P i b.Source b.Dest b.Seq b.Created b.Lifetime b.HopLimit b.Hops b.Priority b.Offset b.Total b.Payload acc = some (.o2 P P.length false b.Source b.Dest b.Seq b.Created b.Lifetime b.HopLimit b.Hops b.Priority b.Offset b.Total b.Payload (acc ++ ofB (P.drop i) b.Source b.Seq)) := by
 intro d
 induction d with
 | zero =>
  intro i n acc hi hq _
  obtain ⟨n,rfl⟩ : ∃ m,n = m + 1 := ⟨n - 1,by omega⟩
  have e3 : i = P.length := by omega
  subst e3
  simp [f29_rai10rz_l1,f29_rai10rz_l1_b,ofB]
 | succ d ih =>
  intro i n acc hi hq ha
  obtain ⟨n,rfl⟩ : ∃ m,n = m + 1 := ⟨n - 1,by omega⟩
  have h1 : i < P.length := by omega
  have g1 : P[i]? = some P[i] := List.getElem?_eq_getElem h1
  have hlt : ((i : Int) < (P.length : Int)) := by omega
  have hw := nextN h1 (by omega)
  have hr : (acc.length + 1) * 104 ≤ roomy := by unfold roomy; omega
  have ih1 := ih (i + 1) n acc (by omega) (by omega) (by omega)
  have ih2 := ih (i + 1) n (acc ++ [P[i]]) (by omega) (by omega) (by rw [List.length_append]; simp; omega)
  rw [List.append_assoc,List.singleton_append] at ih2
  rw [List.drop_eq_getElem_cons h1,ofB_cons]
  cases hc : (P[i].Source == b.Source)
  ·simp only [f29_rai10rz_l1,f29_rai10rz_l1_b,f29_rai10rz_l1_j1,f29_rai10rz_l1_j3,decide_eq_true hlt,cond_true,cond_false,ifE_pos (show (0 : Int) ≤ i by omega),Int.toNat_natCast,g1,Option.bind_some,hc,hw,ih1,Bool.false_and]
  ·cases hc2 : (P[i].Seq == b.Seq)
   ·simp only [f29_rai10rz_l1,f29_rai10rz_l1_b,f29_rai10rz_l1_j1,f29_rai10rz_l1_j3,decide_eq_true hlt,cond_true,cond_false,ifE_pos (show (0 : Int) ≤ i by omega),Int.toNat_natCast,g1,Option.bind_some,hc,hc2,hw,ih1,Bool.true_and]
   ·simp only [f29_rai10rz_l1,f29_rai10rz_l1_b,f29_rai10rz_l1_j1,f29_rai10rz_l1_j2,decide_eq_true hlt,cond_true,ifE_pos (show (0 : Int) ≤ i by omega),ifE_pos hr,Int.toNat_natCast,g1,Option.bind_some,hc,hc2,hw,ih2,Bool.true_and]
theorem rof_at (k : Nat) (P : List Bun) (b : Bun) (hP : P.length ≤ 1000) (hk : P.length + 3 ≤ k) : f29_rai10rz k P b.Source b.Dest b.Seq b.Created b.Lifetime b.HopLimit b.Hops b.Priority b.Offset b.Total b.Payload = some (.o0 (ofB P b.Source b.Seq)) := by
 obtain ⟨k,rfl⟩ : ∃ m,k = m + 1 := ⟨k - 1,by omega⟩
 have h := rof_l k P b hP P.length 0 k [] (by omega) (by omega) (by simp)
 rw [List.drop_zero,Int.natCast_zero,List.nil_append] at h
 simp only [f29_rai10rz,f29_rai10rz_e,h,Option.bind_some,f29_rai10rz_j2]
def AB (nd : Int) (b : Bun) : Bool := decide (okP b) && (!(b.Dest != nd) && !((b.Payload.length : Int) == b.Total))
noncomputable def MB (P : List Bun) (b : Bun) : Bool := chkL (ofB P b.Source b.Seq) && !(((gapsF (hasF (ofB P b.Source b.Seq))).length : Int) == 0)
noncomputable def WB (P : List Bun) (b : Bun) : Bool := chkL (ofB P b.Source b.Seq) && !((((hasF (ofB P b.Source b.Seq)).count true : Nat) : Int) == b.Total)
theorem MB_WB {P : List Bun} {b : Bun} (hb : b ∈ P) : WB P b = MB P b := by
 unfold WB MB
 cases hc : chkL (ofB P b.Source b.Seq)
 ·rfl
 ·have hm : b ∈ ofB P b.Source b.Seq := by unfold ofB; rw [List.mem_filter]; exact ⟨hb,by simp⟩
  have := gaps_count hc hm
  rw [Bool.true_and,Bool.true_and]
  congr 1
  rw [Bool.eq_iff_iff,beq_iff_eq,beq_iff_eq,this]
  constructor
  ·intro e; rw [e]; rfl
  ·intro e; exact List.length_eq_zero_iff.1 (by omega)
theorem cpart_l (k : Nat) (hk : 5000 ≤ k) (nd nx : Int) (S : List Sn) (P : List Bun) (hP : P.length ≤ 100) (fP : ∀ b ∈ P,Fit b) : ∀ (d i n : Nat),i + d = P.length → d < n →
  f19_aiirrz_l4 k n P P.length i nd nx S P = some (cond ((P.drop i).all fun b => AB nd b && MB P b) (.o2 P P.length P.length false nd nx S P) (.o0 290)) := by
 intro d
 induction d with
 | zero =>
  intro i n hi hq
  obtain ⟨n,rfl⟩ : ∃ m,n = m + 1 := ⟨n - 1,by omega⟩
  have e3 : i = P.length := by omega
  subst e3
  simp [f19_aiirrz_l4,f19_aiirrz_l4_b]
 | succ d ih =>
  intro i n hi hq
  obtain ⟨n,rfl⟩ : ∃ m,n = m + 1 := ⟨n - 1,by omega⟩
  have h1 : i < P.length := by omega
  have g1 : P[i]? = some P[i] := List.getElem?_eq_getElem h1
  have hlt : ((i : Int) < (P.length : Int)) := by omega
  have hw := nextN h1 (by omega)
  have ih' := ih (i + 1) n (by omega) (by omega)
  have hc := chk_at k (by omega) P[i]
  have ho := of_at k nd nx S P P[i].Source P[i].Seq (by omega) (by omega)
  have hm := miss_at k (by omega) (ofB P P[i].Source P[i].Seq) (by have := ofB_len P P[i].Source P[i].Seq; omega) (fun b hb => fP b (List.mem_filter.1 hb).1)
  have hid : f37_ai10rz k P[i].Source P[i].Dest P[i].Seq P[i].Created P[i].Lifetime P[i].HopLimit P[i].Hops P[i].Priority P[i].Offset P[i].Total P[i].Payload = some (.o0 P[i].Source P[i].Seq) := by
   obtain ⟨k,rfl⟩ : ∃ m,k = m + 1 := ⟨k - 1,by omega⟩
   simp only [f37_ai10rz,f37_ai10rz_e]
  have hwh : f34_ai10rz k P[i].Source P[i].Dest P[i].Seq P[i].Created P[i].Lifetime P[i].HopLimit P[i].Hops P[i].Priority P[i].Offset P[i].Total P[i].Payload = some (.o0 ((P[i].Payload.length : Int) == P[i].Total)) := by
   obtain ⟨k,rfl⟩ : ∃ m,k = m + 1 := ⟨k - 1,by omega⟩
   simp only [f34_ai10rz,f34_ai10rz_e]
  rw [List.drop_eq_getElem_cons h1,List.all_cons]
  simp only [f19_aiirrz_l4,f19_aiirrz_l4_b,f19_aiirrz_l4_j1,decide_eq_true hlt,cond_true,ifE_pos (show (0 : Int) ≤ i by omega),Int.toNat_natCast,g1,Option.bind_some,hc,hwh]
  unfold AB
  by_cases hok : okP P[i]
  case neg => rw [if_neg hok,decide_eq_false hok]; simp only [show ((190 : Int) != 0) = true from rfl,cond_true,Option.bind_some,Bool.false_and,cond_false]
  rw [if_pos hok,decide_eq_true hok]
  simp only [bne_self_eq_false,cond_false,Bool.true_and]
  cases (P[i].Dest != nd)
  case true => simp only [cond_true,Bool.not_true,Bool.false_and,cond_false,Option.bind_some]
  cases ((P[i].Payload.length : Int) == P[i].Total)
  case true => simp only [cond_true,cond_false,Bool.not_false,Bool.not_true,Bool.true_and,Bool.false_and,Option.bind_some]
  simp only [cond_false,Bool.not_false,Bool.true_and,f19_aiirrz_l4_j2,hid,ho,hm,Option.bind_some,MB]
  cases chkL (ofB P P[i].Source P[i].Seq)
  ·simp only [cond_false,show ((280 : Int) != 0) = true from rfl,cond_true,Option.bind_some,Bool.false_and]
  ·simp only [cond_true,bne_self_eq_false,cond_false,Bool.true_and]
   cases (((gapsF (hasF (ofB P P[i].Source P[i].Seq))).length : Int) == 0)
   ·simp only [cond_false,Bool.not_false,Bool.true_and,f19_aiirrz_l4_j3,Option.bind_some,hw,ih',AB,MB]
   ·simp only [cond_true,Bool.not_true,Bool.false_and,cond_false,Option.bind_some]
theorem rpartA_l (k : Nat) (hk : 5000 ≤ k) (nd nx : Int) (S : List Sn) (P : List Bun) (hP : P.length ≤ 100) (fP : ∀ b ∈ P,Fit b) : ∀ (d i n : Nat),i + d = P.length → d < n →
  f11_aiirrz_l4 k n i nd nx S P = some (cond ((P.drop i).all (AB nd)) (.o2 P.length false nd nx S P) (.o0 false)) := by
 intro d
 induction d with
 | zero =>
  intro i n hi hq
  obtain ⟨n,rfl⟩ : ∃ m,n = m + 1 := ⟨n - 1,by omega⟩
  have e3 : i = P.length := by omega
  subst e3
  simp [f11_aiirrz_l4,f11_aiirrz_l4_b]
 | succ d ih =>
  intro i n hi hq
  obtain ⟨n,rfl⟩ : ∃ m,n = m + 1 := ⟨n - 1,by omega⟩
  have h1 : i < P.length := by omega
  have g1 : P[i]? = some P[i] := List.getElem?_eq_getElem h1
  have hlt : ((i : Int) < (P.length : Int)) := by omega
  have hw := nextN h1 (by omega)
  have ih' := ih (i + 1) n (by omega) (by omega)
  have hr := right_at k (by omega) P[i] (fP _ (List.getElem_mem h1)).1
  rw [List.drop_eq_getElem_cons h1,List.all_cons]
  simp only [f11_aiirrz_l4,f11_aiirrz_l4_b,f11_aiirrz_l4_j1,decide_eq_true hlt,cond_true,ifE_pos (show (0 : Int) ≤ i by omega),Int.toNat_natCast,g1,Option.bind_some,hr]
  have ha : AB nd P[i] = (decide (okP P[i]) && (!(P[i].Dest != nd) && !((P[i].Payload.length : Int) == P[i].Total))) := rfl
  rw [ha]
  cases decide (okP P[i])
  ·simp only [Bool.not_false,cond_true,Option.bind_some,Bool.false_and,cond_false]
  cases (P[i].Dest != nd)
  case true => simp only [Bool.not_true,cond_true,cond_false,Bool.false_and,Bool.and_false,Option.bind_some]
  cases ((P[i].Payload.length : Int) == P[i].Total)
  case true => simp only [cond_true,cond_false,Bool.not_false,Bool.not_true,Bool.true_and,Bool.false_and,Option.bind_some]
  simp only [cond_false,Bool.not_true,Bool.not_false,Bool.true_and,f11_aiirrz_l4_j2,Option.bind_some,hw,ih']
theorem rpartB_l (k : Nat) (hk : 5000 ≤ k) (nd nx : Int) (S : List Sn) (P : List Bun) (hP : P.length ≤ 100) (fP : ∀ b ∈ P,Fit b) (oP : ∀ b ∈ P,okP b) : ∀ (d i n : Nat),i + d = P.length → d < n →
  f11_aiirrz_l6 k n i nd nx S P = some (cond ((P.drop i).all (WB P)) (.o2 P.length false nd nx S P) (.o0 false)) := by
 intro d
 induction d with
 | zero =>
  intro i n hi hq
  obtain ⟨n,rfl⟩ : ∃ m,n = m + 1 := ⟨n - 1,by omega⟩
  have e3 : i = P.length := by omega
  subst e3
  simp [f11_aiirrz_l6,f11_aiirrz_l6_b]
 | succ d ih =>
  intro i n hi hq
  obtain ⟨n,rfl⟩ : ∃ m,n = m + 1 := ⟨n - 1,by omega⟩
  have h1 : i < P.length := by omega
  have g1 : P[i]? = some P[i] := List.getElem?_eq_getElem h1
  have hlt : ((i : Int) < (P.length : Int)) := by omega
  have hw := nextN h1 (by omega)
  have ih' := ih (i + 1) n (by omega) (by omega)
  have ho := rof_at k P P[i] (by omega) (by omega)
  have hm : P[i] ∈ ofB P P[i].Source P[i].Seq := by unfold ofB; rw [List.mem_filter]; exact ⟨List.getElem_mem h1,by simp⟩
  obtain ⟨c,r,hcr⟩ := List.exists_cons_of_ne_nil (List.ne_nil_of_mem hm)
  have hin : ∀ b ∈ c :: r,b ∈ P := fun b hb => by rw [← hcr] at hb; exact (List.mem_filter.1 hb).1
  have hW := rwhole_at k (by omega) c r (by rw [← hcr]; have := ofB_len P P[i].Source P[i].Seq; omega) (fun b hb => (fP b (hin b hb)).1) (oP c (hin c (by simp)))
  rw [whole_chkL (oP c (hin c (by simp))),← hcr] at hW
  have hwb : WB P P[i] = (chkL (ofB P P[i].Source P[i].Seq) && !((((hasF (ofB P P[i].Source P[i].Seq)).count true : Nat) : Int) == P[i].Total)) := rfl
  rw [List.drop_eq_getElem_cons h1,List.all_cons,hwb]
  simp only [f11_aiirrz_l6,f11_aiirrz_l6_b,f11_aiirrz_l6_j1,decide_eq_true hlt,cond_true,ifE_pos (show (0 : Int) ≤ i by omega),Int.toNat_natCast,g1,Option.bind_some,ho,hW]
  cases chkL (ofB P P[i].Source P[i].Seq)
  ·simp only [cond_false,Bool.not_false,cond_true,Option.bind_some,Bool.false_and]
  simp only [cond_true,Bool.not_true,cond_false,Bool.true_and]
  cases ((((hasF (ofB P P[i].Source P[i].Seq)).count true : Nat) : Int) == P[i].Total)
  ·simp only [cond_false,Bool.not_false,Bool.true_and,f11_aiirrz_l6_j2,Option.bind_some,hw,ih']
  ·simp only [cond_true,Bool.not_true,Bool.false_and,cond_false,Option.bind_some]
noncomputable def okA (nd nx : Int) (S : List Sn) (P : List Bun) : Bool :=
 decide (1 ≤ nd ∧ nd ≤ 6) && (!(nx == 0) && (!decide ((S.length : Int) > 64) && (!decide ((P.length : Int) > 7) && (seenF S S.length 0 && P.all fun b => AB nd b && MB P b))))
theorem achk_at (k : Nat) (hk : 5002 ≤ k) (nd nx : Int) (S : List Sn) (P : List Bun) (fP : ∀ b ∈ P,Fit b) : f19_aiirrz k nd nx S P = some (.o0 (cond (okA nd nx S P) 0 290)) := by
 obtain ⟨k,rfl⟩ : ∃ m,k = m + 1 := ⟨k - 1,by omega⟩
 have w := awithin_at k (by omega) nd 1 6
 simp only [f19_aiirrz,f19_aiirrz_e,w,Option.bind_some,okA]
 cases decide (1 ≤ nd ∧ nd ≤ 6)
 ·simp only [Bool.not_false,cond_true,Bool.false_and,cond_false]
 cases (nx == 0)
 case true => simp only [Bool.not_true,cond_true,cond_false,Bool.false_and,Bool.and_false]
 by_cases h1 : (S.length : Int) > 64
 ·simp only [decide_eq_true h1,Bool.not_true,cond_true,cond_false,Bool.false_and,Bool.and_false]
 by_cases h2 : (P.length : Int) > 7
 ·simp only [decide_eq_false h1,decide_eq_true h2,Bool.not_true,cond_true,cond_false,Bool.false_and,Bool.and_false]
 have hs := cseen_l k (by omega) nd nx S P (by omega) S.length 0 k (by omega) (by omega)
 have hp := cpart_l k (by omega) nd nx S P (by omega) fP P.length 0 k (by omega) (by omega)
 rw [Int.natCast_zero] at hs hp
 rw [List.drop_zero] at hp
 simp only [decide_eq_false h1,decide_eq_false h2,Bool.not_true,Bool.not_false,cond_false,Bool.true_and,f19_aiirrz_j1,hs]
 cases seenF S S.length 0
 ·simp only [cond_false,Option.bind_some,Bool.false_and]
 simp only [cond_true,Option.bind_some,Bool.true_and,f19_aiirrz_j3,hp]
 cases P.all fun b => AB nd b && MB P b
 ·simp only [cond_false,Option.bind_some]
 ·simp only [cond_true,Option.bind_some,f19_aiirrz_j5]
theorem aright_at (k : Nat) (hk : 5002 ≤ k) (nd nx : Int) (S : List Sn) (P : List Bun) (fP : ∀ b ∈ P,Fit b) : f11_aiirrz k nd nx S P = some (.o0 (okA nd nx S P)) := by
 obtain ⟨k,rfl⟩ : ∃ m,k = m + 1 := ⟨k - 1,by omega⟩
 simp only [f11_aiirrz,f11_aiirrz_e,okA]
 by_cases h0 : nd < 1
 ·rw [decide_eq_true h0,cond_true,decide_eq_false (by omega),Bool.false_and]
 by_cases h0' : nd > 6
 ·rw [decide_eq_false h0,cond_false,decide_eq_true h0',cond_true,decide_eq_false (by omega),Bool.false_and]
 rw [decide_eq_false h0,cond_false,decide_eq_false h0',cond_false,decide_eq_true (show 1 ≤ nd ∧ nd ≤ 6 by omega),Bool.true_and]
 cases (nx == 0)
 case true => simp only [Bool.not_true,cond_true,Bool.false_and]
 by_cases h1 : (S.length : Int) > 64
 ·simp only [decide_eq_true h1,Bool.not_true,cond_true,cond_false,Bool.false_and,Bool.and_false]
 by_cases h2 : (P.length : Int) > 7
 ·simp only [decide_eq_false h1,decide_eq_true h2,Bool.not_true,cond_true,cond_false,Bool.false_and,Bool.and_false]
 have hs := rseen_l k (by omega) nd nx S P (by omega) S.length 0 k (by omega) (by omega)
 have hp := rpartA_l k (by omega) nd nx S P (by omega) fP P.length 0 k (by omega) (by omega)
 rw [Int.natCast_zero] at hs hp
 rw [List.drop_zero] at hp
 simp only [decide_eq_false h1,decide_eq_false h2,Bool.not_false,cond_false,Bool.true_and,f11_aiirrz_j1,hs]
 cases seenF S S.length 0
 ·simp only [cond_false,Option.bind_some,Bool.false_and]
 simp only [cond_true,Option.bind_some,Bool.true_and,f11_aiirrz_j3,hp]
 have hsplit : (P.all fun b => AB nd b && MB P b) = (P.all (AB nd) && P.all (WB P)) := by
  rw [Bool.eq_iff_iff,Bool.and_eq_true,List.all_eq_true,List.all_eq_true,List.all_eq_true]
  constructor
  ·intro h
   exact ⟨fun b hb => (Bool.and_eq_true _ _ ▸ h b hb).1,fun b hb => by rw [MB_WB hb]; exact (Bool.and_eq_true _ _ ▸ h b hb).2⟩
  ·rintro ⟨h1,h2⟩ b hb
   rw [Bool.and_eq_true,← MB_WB hb]
   exact ⟨h1 b hb,h2 b hb⟩
 rw [hsplit]
 cases hA : P.all (AB nd)
 ·simp only [cond_false,Option.bind_some,Bool.false_and]
 have oP : ∀ b ∈ P,okP b := fun b hb => by
  have := List.all_eq_true.1 hA b hb
  unfold AB at this
  rw [Bool.and_eq_true,decide_eq_true_iff] at this
  exact this.1
 have hb := rpartB_l k (by omega) nd nx S P (by omega) fP oP P.length 0 k (by omega) (by omega)
 rw [Int.natCast_zero,List.drop_zero] at hb
 simp only [cond_true,Option.bind_some,Bool.true_and,f11_aiirrz_j5,hb]
 cases P.all (WB P)
 ·simp only [cond_false,Option.bind_some]
 ·simp only [cond_true,Option.bind_some,f11_aiirrz_j7]
end Go.Proofs.YticggdfaehneeaaV