/- Which rows of bytes there are not: the program's answer and the document's. -/
import Derived.Test.YticggdfaehneeaaVPTog
namespace Go.Proofs.YticggdfaehneeaaV
open Go
set_option linter.unusedVariables false
set_option linter.unusedSimpArgs false
abbrev Cl:=T104
def gapsS:List Bool→Nat→Option Nat→List Cl
 | [],i,none=>[]
 | [],i,some s=>[⟨s,(i:Int) - s⟩]
 | true::r,i,none=>gapsS r (i+1) none
 | true::r,i,some s=>⟨s,(i:Int) - s⟩::gapsS r (i+1) none
 | false::r,i,none=>gapsS r (i+1) (some i)
 | false::r,i,some s=>gapsS r (i+1) (some s)
def gapsF (h:List Bool):List Cl:=gapsS h 0 none
theorem gapsS_len:∀ (h:List Bool) (i:Nat) (o:Option Nat),(gapsS h i o).length≤h.length+1
 | [],i,none=>by simp [gapsS]
 | [],i,some s=>by simp [gapsS]
 | true::r,i,none=>by have:=gapsS_len r (i+1) none;simp only [gapsS,List.length_cons];omega
 | true::r,i,some s=>by have:=gapsS_len r (i+1) none;simp only [gapsS,List.length_cons];omega
 | false::r,i,none=>by have:=gapsS_len r (i+1) (some i);simp only [gapsS,List.length_cons];omega
 | false::r,i,some s=>by have:=gapsS_len r (i+1) (some s);simp only [gapsS,List.length_cons];omega
theorem i_next {i n:Nat} (h:i<n) (hn:n<4611686018427387904):IntKind.i64.wrap ((i:Int)+1)=((i+1:Nat):Int):=by rw [wrap_i64 (by omega) (by omega)];rfl
theorem gaps_skip (k:Nat) (h:List Bool) (acc:List Cl) (hl:h.length≤100000):∀ (d i n:Nat),i+d=h.length→d<n →
 ∃ j:Nat,f59_s1_l1_l1 k n h i acc=some (.o1 h j false acc)∧i≤j∧j≤h.length∧gapsS (h.drop i) i none=gapsS (h.drop j) j none∧(j<h.length→h[j]?=some false):=by
 intro d
 induction d with
 | zero =>
  intro i n hid hn
  obtain ⟨n,rfl⟩:∃ m,n=m+1:=⟨n - 1,by omega⟩
  refine ⟨i,?_,Nat.le_refl _,by omega,rfl,fun h=>by omega⟩
  simp only [f59_s1_l1_l1,f59_s1_l1_l1_b,decide_eq_false (show ¬((i:Int)<(h.length:Int)) by omega),cond_false,Option.bind_some]
 | succ d ih =>
  intro i n hid hn
  obtain ⟨n,rfl⟩:∃ m,n=m+1:=⟨n - 1,by omega⟩
  have h1:i<h.length:=by omega
  have g1:h[i]?=some h[i]:=List.getElem?_eq_getElem h1
  obtain ⟨j,q1,q2,q3,q4,q5⟩:=ih (i+1) n (by omega) (by omega)
  cases hb:h[i] with
  | true =>
   refine ⟨j,?_,by omega,q3,?_,q5⟩
   ·simp only [f59_s1_l1_l1,f59_s1_l1_l1_b,f59_s1_l1_l1_j1,decide_eq_true (show ((i:Int)<(h.length:Int)) by omega),cond_true,ifE_pos (show (0:Int)≤i by omega),Int.toNat_natCast,g1,hb,Option.bind_some,i_next h1 (by omega),q1]
   ·rw [List.drop_eq_getElem_cons h1,hb,gapsS,q4]
  | false =>
   refine ⟨i,?_,Nat.le_refl _,by omega,rfl,fun _=>by rw [g1,hb]⟩
   simp only [f59_s1_l1_l1,f59_s1_l1_l1_b,f59_s1_l1_l1_j1,decide_eq_true (show ((i:Int)<(h.length:Int)) by omega),cond_true,cond_false,ifE_pos (show (0:Int)≤i by omega),Int.toNat_natCast,g1,hb,Option.bind_some]
theorem gaps_run (k:Nat) (h:List Bool) (acc:List Cl) (s:Nat) (hl:h.length≤100000):∀ (d i n:Nat),i+d=h.length→d<n →
 ∃ j:Nat,f59_s1_l1_l4 k n h i acc s 0=some (.o1 h j false acc s 0)∧i≤j∧j≤h.length∧gapsS (h.drop i) i (some s)=⟨s,(j:Int) - s⟩::gapsS (h.drop j) j none∧(h[i]?=some false→i<j):=by
 intro d
 induction d with
 | zero =>
  intro i n hid hn
  obtain ⟨n,rfl⟩:∃ m,n=m+1:=⟨n - 1,by omega⟩
  have e1:h.drop i=[]:=List.drop_eq_nil_of_le (by omega)
  refine ⟨i,?_,Nat.le_refl _,by omega,by rw [e1];rfl,fun h1=>by rw [List.getElem?_eq_none (by omega)] at h1;cases h1⟩
  simp only [f59_s1_l1_l4,f59_s1_l1_l4_b,decide_eq_false (show ¬((i:Int)<(h.length:Int)) by omega),cond_false,Option.bind_some]
 | succ d ih =>
  intro i n hid hn
  obtain ⟨n,rfl⟩:∃ m,n=m+1:=⟨n - 1,by omega⟩
  have h1:i<h.length:=by omega
  have g1:h[i]?=some h[i]:=List.getElem?_eq_getElem h1
  obtain ⟨j,q1,q2,q3,q4,q5⟩:=ih (i+1) n (by omega) (by omega)
  cases hb:h[i] with
  | false =>
   refine ⟨j,?_,by omega,q3,?_,fun _=>by omega⟩
   ·simp only [f59_s1_l1_l4,f59_s1_l1_l4_b,f59_s1_l1_l4_j1,decide_eq_true (show ((i:Int)<(h.length:Int)) by omega),cond_true,ifE_pos (show (0:Int)≤i by omega),Int.toNat_natCast,g1,hb,Bool.not_false,Option.bind_some,i_next h1 (by omega),q1]
   ·rw [List.drop_eq_getElem_cons h1,hb,gapsS,q4]
  | true =>
   refine ⟨i,?_,Nat.le_refl _,by omega,?_,fun h2=>by rw [g1,hb] at h2;cases h2⟩
   ·simp only [f59_s1_l1_l4,f59_s1_l1_l4_b,f59_s1_l1_l4_j1,decide_eq_true (show ((i:Int)<(h.length:Int)) by omega),cond_true,cond_false,ifE_pos (show (0:Int)≤i by omega),Int.toNat_natCast,g1,hb,Bool.not_true,Option.bind_some]
   ·rw [List.drop_eq_getElem_cons h1,hb,gapsS,gapsS]
theorem gaps_l (k:Nat) (h:List Bool) (hl:h.length≤100000) (hk:h.length+2≤k):∀ (d i n:Nat) (acc:List Cl),h.length≤i+d→i≤h.length→d<n→acc.length≤i →
 ∃ j:Nat,f59_s1_l1 k n h i acc=some (.o0 h j true (acc++gapsS (h.drop i) i none)):=by
 intro d
 induction d with
 | zero =>
  intro i n acc hid hi hn ha
  obtain ⟨n,rfl⟩:∃ m,n=m+1:=⟨n - 1,by omega⟩
  obtain ⟨j,q1,q2,q3,q4,q5⟩:=gaps_skip k h acc hl (h.length - i) i k (by omega) (by omega)
  have hj:j=h.length:=by omega
  have e1:h.drop i=[]:=List.drop_eq_nil_of_le (by omega)
  refine ⟨j,?_⟩
  have hb:((j:Int)==(h.length:Int))=true:=by rw [beq_iff_eq];omega
  simp only [f59_s1_l1,f59_s1_l1_b,q1,Option.bind_some,f59_s1_l1_j2,hb,cond_true,e1,gapsS,List.append_nil]
 | succ d ih =>
  intro i n acc hid hi hn ha
  obtain ⟨n,rfl⟩:∃ m,n=m+1:=⟨n - 1,by omega⟩
  obtain ⟨j,q1,q2,q3,q4,q5⟩:=gaps_skip k h acc hl (h.length - i) i k (by omega) (by omega)
  rw [q4]
  by_cases hj:j=h.length
  ·have e1:h.drop j=[]:=List.drop_eq_nil_of_le (by omega)
   refine ⟨j,?_⟩
   have hb:((j:Int)==(h.length:Int))=true:=by rw [beq_iff_eq];omega
   simp only [f59_s1_l1,f59_s1_l1_b,q1,Option.bind_some,f59_s1_l1_j2,hb,cond_true,e1,gapsS,List.append_nil]
  ·have hj1:j<h.length:=by omega
   have g1:h[j]?=some h[j]:=List.getElem?_eq_getElem hj1
   have g2:h[j]=false:=by have:=q5 hj1;rw [g1] at this;exact Option.some.inj this
   obtain ⟨m,r1,r2,r3,r4,r5⟩:=gaps_run k h acc j hl (h.length - j) j k (by omega) (by omega)
   have hm:j<m:=r5 (q5 hj1)
   have e2:gapsS (h.drop j) j none=⟨j,(m:Int) - j⟩::gapsS (h.drop m) m none:=by
    rw [←r4,List.drop_eq_getElem_cons hj1,g2,gapsS,gapsS]
   obtain ⟨z,hz⟩:=ih m n (acc++[⟨j,(m:Int) - j⟩]) (by omega) (by omega) (by omega) (by simp;omega)
   refine ⟨z,?_⟩
   have hb:((j:Int)==(h.length:Int))=false:=by rw [beq_eq_false_iff_ne];omega
   have h16:(acc.length+1) * 16≤1700000:=by omega
   have hr:(acc.length+1) * 16≤roomy:=Nat.le_trans h16 (by decide)
   have hw:IntKind.i64.wrap ((m:Int) - j)=(m:Int) - j:=wrap_i64 (by omega) (by omega)
   simp only [f59_s1_l1,f59_s1_l1_b,q1,Option.bind_some,f59_s1_l1_j2,hb,cond_false,f59_s1_l1_j3,r1,f59_s1_l1_j5,ifE_pos hr,hw,hz]
   rw [e2]
   simp only [List.append_assoc,List.cons_append,List.nil_append]
theorem gaps_at (k:Nat) (h:List Bool) (hl:h.length≤100000) (hk:h.length+3≤k):f59 k h=some (.o0 (gapsF h)):=by
 obtain ⟨k,rfl⟩:∃ m,k=m+1:=⟨k - 1,by omega⟩
 obtain ⟨j,hj⟩:=gaps_l k h hl (by omega) h.length 0 k [] (by omega) (by omega) (by omega) (by simp)
 have e0:((0:Nat):Int)=0:=rfl
 rw [e0] at hj
 simp only [f59,f59_e,f59_s1,f59_s1_b,hj,Option.bind_some,f59_s1_j2,List.nil_append,List.drop_zero,gapsF]
end Go.Proofs.YticggdfaehneeaaV