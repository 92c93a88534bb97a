/- Which agents may be: the program's answer and the document's. -/
import Derived.Test.YticggdfaehneeaaVPCut
import Derived.Test.YticggdfaehneeaaVPSeen
namespace Go.Proofs.YticggdfaehneeaaV
open Go
set_option linter.unusedVariables false
set_option linter.unusedSimpArgs false
def ofB (P:List Bun) (s q:Int):List Bun:=P.filter fun x=>(x.Source==s)&&(x.Seq==q)
theorem ofB_len (P:List Bun) (s q:Int):(ofB P s q).length≤P.length:=List.length_filter_le ..
theorem ofB_cons (x:Bun) (P:List Bun) (s q:Int):ofB (x::P) s q=cond ((x.Source==s)&&(x.Seq==q)) (x::ofB P s q) (ofB P s q):=by
 unfold ofB;rw [List.filter_cons];cases (x.Source==s)&&(x.Seq==q)<;>rfl
theorem of_l (k:Nat) (hk:1≤k) (P:List Bun) (s q:Int) (hP:P.length≤1000):∀ (d i n:Nat) (acc:List Bun),i+d=P.length→d<n→acc.length≤i →
 f36b_l1 k n P P.length i s q acc=some (.o2 P P.length P.length false s q (acc++ofB (P.drop i) s q)):=by
 obtain ⟨k,rfl⟩:∃ m,k=m+1:=⟨k - 1,by omega⟩
 intro d
 induction d with
 | zero =>
  intro i n acc hi hq _
  obtain ⟨n,rfl⟩:∃ m,n=m+1:=⟨n - 1,by omega⟩
  have e3:i=P.length:=by omega
  subst e3
  simp [f36b_l1,f36b_l1_b,ofB]
 | succ d ih =>
  intro i n acc hi hq ha
  obtain ⟨n,rfl⟩:∃ m,n=m+1:=⟨n - 1,by omega⟩
  have h1:i<P.length:=by omega
  have g1:P[i]?=some P[i]:=List.getElem?_eq_getElem h1
  have hlt:((i:Int)<(P.length:Int)):=by omega
  have hw:=nextN h1 (by omega)
  have hr:(acc.length+1) * 104≤roomy:=by unfold roomy;omega
  rw [List.drop_eq_getElem_cons h1,ofB_cons]
  cases hc:(P[i].Source==s)&&(P[i].Seq==q)
  ·have ih':=ih (i+1) n acc (by omega) (by omega) (by omega)
   simp only [f36b_l1,f36b_l1_b,f36b_l1_j1,f36b_l1_j3,f37,f37_e,decide_eq_true hlt,cond_true,cond_false,ifE_pos (show (0:Int)≤i by omega),Int.toNat_natCast,g1,Option.bind_some,hc,hw,ih']
  ·have ih':=ih (i+1) n (acc++[P[i]]) (by omega) (by omega) (by rw [List.length_append];simp;omega)
   rw [List.append_assoc,List.singleton_append] at ih'
   simp only [f36b_l1,f36b_l1_b,f36b_l1_j1,f36b_l1_j2,f37,f37_e,decide_eq_true hlt,cond_true,ifE_pos (show (0:Int)≤i by omega),ifE_pos hr,Int.toNat_natCast,g1,Option.bind_some,hc,hw,ih']
theorem of_at (k:Nat) (nd nx:Int) (S:List Sn) (P:List Bun) (s q:Int) (hP:P.length≤1000) (hk:P.length+3≤k):f36b k nd nx S P s q=some (.o0 (ofB P s q)):=by
 obtain ⟨k,rfl⟩:∃ m,k=m+1:=⟨k - 1,by omega⟩
 have h:=of_l k (by omega) P s q hP P.length 0 k [] (by omega) (by omega) (by simp)
 rw [List.drop_zero,Int.natCast_zero,List.nil_append] at h
 simp only [f36b,f36b_e,h,Option.bind_some,f36b_j2]
def AB (nd:Int) (b:Bun):Bool:=decide (okP b)&&(!(b.Dest != nd) && !((b.Payload.length:Int)==b.Total))
noncomputable def MB (P:List Bun) (b:Bun):Bool:=chkL (ofB P b.Source b.Seq) && !(((gapsF (hasF (ofB P b.Source b.Seq))).length:Int)==0)
theorem cpart_l (k:Nat) (hk:5000≤k) (nd nx:Int) (S:List Sn) (P:List Bun) (hP:P.length≤100) (fP:∀ b∈P,Fit b):∀ (d i n:Nat),i+d=P.length→d<n →
 f19_l4 k n P P.length i nd nx S P=some (cond ((P.drop i).all fun b=>AB nd b&&MB P b) (.o2 P P.length P.length false nd nx S P) (.o0 290)):=by
 intro d
 induction d with
 | zero =>
  intro i n hi hq
  obtain ⟨n,rfl⟩:∃ m,n=m+1:=⟨n - 1,by omega⟩
  have e3:i=P.length:=by omega
  subst e3
  simp [f19_l4,f19_l4_b]
 | succ d ih =>
  intro i n hi hq
  obtain ⟨n,rfl⟩:∃ m,n=m+1:=⟨n - 1,by omega⟩
  have h1:i<P.length:=by omega
  have g1:P[i]?=some P[i]:=List.getElem?_eq_getElem h1
  have hlt:((i:Int)<(P.length:Int)):=by omega
  have hw:=nextN h1 (by omega)
  have ih':=ih (i+1) n (by omega) (by omega)
  have hc:=chk_at k (by omega) P[i]
  have ho:=of_at k nd nx S P P[i].Source P[i].Seq (by omega) (by omega)
  have hm:=miss_at k (by omega) (ofB P P[i].Source P[i].Seq) (by have:=ofB_len P P[i].Source P[i].Seq;omega) (fun b hb=>fP b (List.mem_filter.1 hb).1)
  have hid:f37 k P[i].Source P[i].Dest P[i].Seq P[i].Created P[i].Lifetime P[i].HopLimit P[i].Hops P[i].Priority P[i].Offset P[i].Total P[i].Payload=some (.o0 P[i].Source P[i].Seq):=by
   obtain ⟨k,rfl⟩:∃ m,k=m+1:=⟨k - 1,by omega⟩
   simp only [f37,f37_e]
  have hwh:f34 k P[i].Source P[i].Dest P[i].Seq P[i].Created P[i].Lifetime P[i].HopLimit P[i].Hops P[i].Priority P[i].Offset P[i].Total P[i].Payload=some (.o0 ((P[i].Payload.length:Int)==P[i].Total)):=by
   obtain ⟨k,rfl⟩:∃ m,k=m+1:=⟨k - 1,by omega⟩
   simp only [f34,f34_e]
  rw [List.drop_eq_getElem_cons h1,List.all_cons]
  simp only [f19_l4,f19_l4_b,f19_l4_j1,decide_eq_true hlt,cond_true,ifE_pos (show (0:Int)≤i by omega),Int.toNat_natCast,g1,Option.bind_some,hc,hwh]
  unfold AB
  by_cases hok:okP P[i]
  case neg=>rw [if_neg hok,decide_eq_false hok];simp only [show ((190:Int) != 0)=true from rfl,cond_true,Option.bind_some,Bool.false_and,cond_false]
  rw [if_pos hok,decide_eq_true hok]
  simp only [bne_self_eq_false,cond_false,Bool.true_and]
  cases (P[i].Dest != nd)
  case true=>simp only [cond_true,Bool.not_true,Bool.false_and,cond_false,Option.bind_some]
  cases ((P[i].Payload.length:Int)==P[i].Total)
  case true=>simp only [cond_true,cond_false,Bool.not_false,Bool.not_true,Bool.true_and,Bool.false_and,Option.bind_some]
  simp only [cond_false,Bool.not_false,Bool.true_and,f19_l4_j2,hid,ho,hm,Option.bind_some,MB]
  cases chkL (ofB P P[i].Source P[i].Seq)
  ·simp only [cond_false,show ((280:Int) != 0)=true from rfl,cond_true,Option.bind_some,Bool.false_and]
  ·simp only [cond_true,bne_self_eq_false,cond_false,Bool.true_and]
   cases (((gapsF (hasF (ofB P P[i].Source P[i].Seq))).length:Int)==0)
   ·simp only [cond_false,Bool.not_false,Bool.true_and,f19_l4_j3,Option.bind_some,hw,ih',AB,MB]
   ·simp only [cond_true,Bool.not_true,Bool.false_and,cond_false,Option.bind_some]
noncomputable def okA (nd nx:Int) (S:List Sn) (P:List Bun):Bool :=
 decide (1≤nd∧nd≤6)&&(!(nx==0)&&(!decide ((S.length:Int)>64)&&(!decide ((P.length:Int)>7)&&(seenF S S.length 0&&P.all fun b=>AB nd b&&MB P b))))
theorem achk_at (k:Nat) (hk:5002≤k) (nd nx:Int) (S:List Sn) (P:List Bun) (fP:∀ b∈P,Fit b):f19 k nd nx S P=some (.o0 (cond (okA nd nx S P) 0 290)):=by
 obtain ⟨k,rfl⟩:∃ m,k=m+1:=⟨k - 1,by omega⟩
 have w:=awithin_at k (by omega) nd 1 6
 simp only [f19,f19_e,w,Option.bind_some,okA]
 cases decide (1≤nd∧nd≤6)
 ·simp only [Bool.not_false,cond_true,Bool.false_and,cond_false]
 cases (nx==0)
 case true=>simp only [Bool.not_true,cond_true,cond_false,Bool.false_and,Bool.and_false]
 by_cases h1:(S.length:Int)>64
 ·simp only [decide_eq_true h1,Bool.not_true,cond_true,cond_false,Bool.false_and,Bool.and_false]
 by_cases h2:(P.length:Int)>7
 ·simp only [decide_eq_false h1,decide_eq_true h2,Bool.not_true,cond_true,cond_false,Bool.false_and,Bool.and_false]
 have hs:=cseen_l k (by omega) nd nx S P (by omega) S.length 0 k (by omega) (by omega)
 have hp:=cpart_l k (by omega) nd nx S P (by omega) fP P.length 0 k (by omega) (by omega)
 rw [Int.natCast_zero] at hs hp
 rw [List.drop_zero] at hp
 simp only [decide_eq_false h1,decide_eq_false h2,Bool.not_true,Bool.not_false,cond_false,Bool.true_and,f19_j1,hs]
 cases seenF S S.length 0
 ·simp only [cond_false,Option.bind_some,Bool.false_and]
 simp only [cond_true,Option.bind_some,Bool.true_and,f19_j3,hp]
 cases P.all fun b=>AB nd b&&MB P b
 ·simp only [cond_false,Option.bind_some]
 ·simp only [cond_true,Option.bind_some,f19_j5]
end Go.Proofs.YticggdfaehneeaaV