/- Bundles: which may be,when two are the same. -/
import Derived.Test.YtbnnmplkbpgcaaaDoorVPWords
import Derived.Test.YtbnnmplkbpgcaaaDoorVP16
namespace Go.Proofs.YtbnnmplkbpgcaaaDoorV
open Go
set_option linter.unusedVariables false
set_option linter.unusedSimpArgs false
structure Bun where
 Source:Int
 Dest:Int
 Seq:Int
 Created:Int
 Lifetime:Int
 HopLimit:Int
 Hops:Int
 Priority:Int
 Offset:Int
 Total:Int
 Payload:List Int
 deriving DecidableEq
def okP (b:Bun):Prop:=1≤b.Source∧b.Source≤6∧1≤b.Dest∧b.Dest≤6∧b.Seq>0∧0≤b.Created∧b.Created≤1048576∧1≤b.Lifetime∧b.Lifetime≤1048576∧1≤b.HopLimit∧b.HopLimit≤16∧0≤b.Hops∧b.Hops≤b.HopLimit∧0≤b.Priority∧b.Priority≤2∧1≤b.Total∧b.Total≤400∧1≤(b.Payload.length:Int)∧(b.Payload.length:Int)≤b.Total∧0≤b.Offset∧b.Offset≤b.Total - (b.Payload.length:Int)
instance (b:Bun):Decidable (okP b):=by unfold okP;infer_instance
theorem within_at (k:Nat) (hk:1≤k) (x a b:Int):f38 k x a b=some (.o0 (decide (a≤x∧x≤b))):=by
 obtain ⟨k,rfl⟩:∃ m,k=m+1:=⟨k - 1,by omega⟩
 simp only [f38,f38_e]
 by_cases h:a≤x
 ·simp [h]
 ·simp [h]
theorem chk_at (k:Nat) (hk:2≤k) (b:Bun):f16 k b.Source b.Dest b.Seq b.Created b.Lifetime b.HopLimit b.Hops b.Priority b.Offset b.Total b.Payload=some (.o0 (if okP b then 0 else 190)):=by
 obtain ⟨k,rfl⟩:∃ m,k=m+1:=⟨k - 1,by omega⟩
 simp only [f16,f16_e,within_at k (by omega),Option.bind_some]
 by_cases q0:1≤b.Source∧b.Source≤6
 case neg=>simp only [decide_eq_false q0,cond_false];rw [if_neg (by unfold okP;omega)]
 simp only [decide_eq_true q0,cond_true]
 by_cases q1:1≤b.Dest∧b.Dest≤6
 case neg=>simp only [decide_eq_false q1,cond_false];rw [if_neg (by unfold okP;omega)]
 simp only [decide_eq_true q1,cond_true]
 by_cases q2:b.Seq>0
 case neg=>simp only [decide_eq_false q2,cond_false];rw [if_neg (by unfold okP;omega)]
 simp only [decide_eq_true q2,cond_true]
 by_cases q3:0≤b.Created∧b.Created≤1048576
 case neg=>simp only [decide_eq_false q3,cond_false];rw [if_neg (by unfold okP;omega)]
 simp only [decide_eq_true q3,cond_true]
 by_cases q4:1≤b.Lifetime∧b.Lifetime≤1048576
 case neg=>simp only [decide_eq_false q4,cond_false];rw [if_neg (by unfold okP;omega)]
 simp only [decide_eq_true q4,cond_true]
 by_cases q5:1≤b.HopLimit∧b.HopLimit≤16
 case neg=>simp only [decide_eq_false q5,cond_false];rw [if_neg (by unfold okP;omega)]
 simp only [decide_eq_true q5,cond_true]
 by_cases q6:0≤b.Hops∧b.Hops≤b.HopLimit
 case neg=>simp only [decide_eq_false q6,cond_false];rw [if_neg (by unfold okP;omega)]
 simp only [decide_eq_true q6,cond_true]
 by_cases q7:0≤b.Priority∧b.Priority≤2
 case neg=>simp only [decide_eq_false q7,cond_false];rw [if_neg (by unfold okP;omega)]
 simp only [decide_eq_true q7,cond_true]
 by_cases q8:1≤b.Total∧b.Total≤400
 case neg=>simp only [decide_eq_false q8,cond_false];rw [if_neg (by unfold okP;omega)]
 simp only [decide_eq_true q8,cond_true]
 by_cases q9:1≤(b.Payload.length:Int)∧(b.Payload.length:Int)≤b.Total
 case neg=>simp only [decide_eq_false q9,cond_false];rw [if_neg (by unfold okP;omega)]
 simp only [decide_eq_true q9,cond_true]
 rw [wrap_i64 (by omega) (by omega)]
 by_cases q11:0≤b.Offset∧b.Offset≤b.Total - (b.Payload.length:Int)
 case neg=>simp only [decide_eq_false q11,Bool.not_false,cond_true];rw [if_neg (by unfold okP;omega)]
 simp only [decide_eq_true q11,Bool.not_true,cond_false,f16_j1]
 rw [if_pos (by unfold okP;omega)]
theorem right_at (k:Nat) (hk:1≤k) (b:Bun) (hs:0≤b.Seq):f15 k b.Source b.Dest b.Seq b.Created b.Lifetime b.HopLimit b.Hops b.Priority b.Offset b.Total b.Payload=some (.o0 (decide (okP b))):=by
 obtain ⟨k,rfl⟩:∃ m,k=m+1:=⟨k - 1,by omega⟩
 unfold f15
 simp only [f15_e,f15_j1,f15_j2]
 by_cases q0:b.Source<1
 ·rw [decide_eq_true q0,cond_true,decide_eq_false (by unfold okP;omega)]
 rw [decide_eq_false q0,cond_false]
 by_cases q1:b.Source>6
 ·rw [decide_eq_true q1,cond_true,decide_eq_false (by unfold okP;omega)]
 rw [decide_eq_false q1,cond_false]
 by_cases q2:b.Dest<1
 ·rw [decide_eq_true q2,cond_true,decide_eq_false (by unfold okP;omega)]
 rw [decide_eq_false q2,cond_false]
 by_cases q3:b.Dest>6
 ·rw [decide_eq_true q3,cond_true,decide_eq_false (by unfold okP;omega)]
 rw [decide_eq_false q3,cond_false]
 by_cases q4:b.Seq=0
 ·rw [show (b.Seq==0)=true by simpa using q4,cond_true,decide_eq_false (by unfold okP;omega)]
 rw [show (b.Seq==0)=false by simpa using q4,cond_false]
 by_cases q5:b.Created<0
 ·rw [decide_eq_true q5,cond_true,decide_eq_false (by unfold okP;omega)]
 rw [decide_eq_false q5,cond_false]
 by_cases q6:b.Created>1048576
 ·rw [decide_eq_true q6,cond_true,decide_eq_false (by unfold okP;omega)]
 rw [decide_eq_false q6,cond_false]
 by_cases q7:b.Lifetime<1
 ·rw [decide_eq_true q7,cond_true,decide_eq_false (by unfold okP;omega)]
 rw [decide_eq_false q7,cond_false]
 by_cases q8:b.Lifetime>1048576
 ·rw [decide_eq_true q8,cond_true,decide_eq_false (by unfold okP;omega)]
 rw [decide_eq_false q8,cond_false]
 by_cases q9:b.HopLimit<1
 ·rw [decide_eq_true q9,cond_true,decide_eq_false (by unfold okP;omega)]
 rw [decide_eq_false q9,cond_false]
 by_cases q10:b.HopLimit>16
 ·rw [decide_eq_true q10,cond_true,decide_eq_false (by unfold okP;omega)]
 rw [decide_eq_false q10,cond_false]
 by_cases q11:b.Hops<0
 ·rw [decide_eq_true q11,cond_true,decide_eq_false (by unfold okP;omega)]
 rw [decide_eq_false q11,cond_false]
 by_cases q12:b.Hops>b.HopLimit
 ·rw [decide_eq_true q12,cond_true,decide_eq_false (by unfold okP;omega)]
 rw [decide_eq_false q12,cond_false]
 by_cases q13:b.Priority<0
 ·rw [decide_eq_true q13,cond_true,decide_eq_false (by unfold okP;omega)]
 rw [decide_eq_false q13,cond_false]
 by_cases q14:b.Priority>2
 ·rw [decide_eq_true q14,cond_true,decide_eq_false (by unfold okP;omega)]
 rw [decide_eq_false q14,cond_false]
 by_cases q15:b.Total<1
 ·rw [decide_eq_true q15,cond_true,decide_eq_false (by unfold okP;omega)]
 rw [decide_eq_false q15,cond_false]
 by_cases q16:b.Total>400
 ·rw [decide_eq_true q16,cond_true,decide_eq_false (by unfold okP;omega)]
 rw [decide_eq_false q16,cond_false]
 by_cases q20:(b.Payload.length:Int)≥1
 case neg=>rw [decide_eq_false q20,cond_false,decide_eq_false (by unfold okP;omega)]
 rw [decide_eq_true q20,cond_true]
 by_cases q21:(b.Payload.length:Int)≤b.Total
 case neg=>rw [decide_eq_false q21,cond_false,decide_eq_false (by unfold okP;omega)]
 rw [decide_eq_true q21,cond_true]
 by_cases q22:b.Offset≥0
 case neg=>rw [decide_eq_false q22,cond_false,decide_eq_false (by unfold okP;omega)]
 rw [decide_eq_true q22,cond_true,wrap_i64 (by omega) (by omega)]
 by_cases q23:b.Offset≤b.Total - (b.Payload.length:Int)
 ·rw [decide_eq_true q23,decide_eq_true (by unfold okP;omega)]
 ·rw [decide_eq_false q23,decide_eq_false (by unfold okP;omega)]
theorem seq_loop (l1 l2:List Int) (hb:l1.length<4611686018427387904) (h:l1.length=l2.length) (k:Nat):∀ (d i n:Nat),i+d=l1.length→d<n →
 f43_l2 k n l1 l2 l1.length i=if l1.drop i=l2.drop i then some (.o2 l1 l2 l1.length l1.length false) else some (.o0 false):=by
 intro d
 induction d with
 | zero =>
  intro i n hid hn
  obtain ⟨n,rfl⟩:∃ m,n=m+1:=⟨n - 1,by omega⟩
  have e1:l1.drop i=[]:=List.drop_eq_nil_of_le (by omega)
  have e2:l2.drop i=[]:=List.drop_eq_nil_of_le (by omega)
  have e3:i=l1.length:=by omega
  subst e3
  simp [f43_l2,f43_l2_b,e2]
 | succ d ih =>
  intro i n hid hn
  obtain ⟨n,rfl⟩:∃ m,n=m+1:=⟨n - 1,by omega⟩
  have h1:i<l1.length:=by omega
  have h2:i<l2.length:=by omega
  have g1:l1[i]?=some l1[i]:=List.getElem?_eq_getElem h1
  have g2:l2[i]?=some l2[i]:=List.getElem?_eq_getElem h2
  have hlt:((i:Int)<(l1.length:Int)):=by omega
  have hw:IntKind.i64.wrap ((i:Int)+1)=((i+1:Nat):Int):=by rw [wrap_i64 (by omega) (by omega)];rfl
  have ih':=ih (i+1) n (by omega) (by omega)
  rw [List.drop_eq_getElem_cons h1,List.drop_eq_getElem_cons h2]
  by_cases he:l1[i]=l2[i]
  ·simp only [f43_l2,f43_l2_b,f43_l2_j1,f43_l2_j2,decide_eq_true hlt,cond_true,ifE_pos (show (0:Int)≤i by omega),Int.toNat_natCast,g1,g2,Option.bind_some,he,bne_self_eq_false,cond_false,hw,ih',List.cons.injEq,true_and]
  ·have hne:(l1[i] != l2[i])=true:=by simpa using he
   simp only [f43_l2,f43_l2_b,f43_l2_j1,f43_l2_j2,decide_eq_true hlt,cond_true,ifE_pos (show (0:Int)≤i by omega),Int.toNat_natCast,g1,g2,Option.bind_some,hne,List.cons.injEq,he,false_and,if_false]
theorem seq_at (l1 l2:List Int) (hb:l1.length<4611686018427387904) (k:Nat) (hk:l1.length+2≤k):f43 k l1 l2=some (.o0 (decide (l1=l2))):=by
 obtain ⟨k,rfl⟩:∃ m,k=m+1:=⟨k - 1,by omega⟩
 by_cases h:l1.length=l2.length
 ·have q:=seq_loop l1 l2 hb h k l1.length 0 k (by omega) (by omega)
  simp only [List.drop_zero,Int.natCast_zero] at q
  have hl:(((l1.length:Int)) != (l2.length:Int))=false:=by rw [h];simp
  by_cases he:l1=l2
  ·rw [if_pos he] at q
   simp only [f43,f43_e,f43_j1,f43_j3,hl,cond_false,q,Option.bind_some,decide_eq_true he]
  ·rw [if_neg he] at q
   simp only [f43,f43_e,f43_j1,f43_j3,hl,cond_false,q,Option.bind_some,decide_eq_false he]
 ·have hl:(((l1.length:Int)) != (l2.length:Int))=true:=by simp;omega
  have he:¬l1=l2:=fun e=>h (by rw [e])
  simp only [f43,f43_e,hl,cond_true,decide_eq_false he]
theorem rsb_loop (l1 l2:List Int) (hb:l1.length<4611686018427387904) (h:l1.length=l2.length) (k:Nat):∀ (d i n:Nat),i+d=l1.length→d<n →
 f19_l2 k n l1 l2 i=if l1.drop i=l2.drop i then some (.o2 l1 l2 l1.length false) else some (.o0 false):=by
 intro d
 induction d with
 | zero =>
  intro i n hid hn
  obtain ⟨n,rfl⟩:∃ m,n=m+1:=⟨n - 1,by omega⟩
  have e1:l1.drop i=[]:=List.drop_eq_nil_of_le (by omega)
  have e2:l2.drop i=[]:=List.drop_eq_nil_of_le (by omega)
  have e3:i=l1.length:=by omega
  subst e3
  simp [f19_l2,f19_l2_b,e2]
 | succ d ih =>
  intro i n hid hn
  obtain ⟨n,rfl⟩:∃ m,n=m+1:=⟨n - 1,by omega⟩
  have h1:i<l1.length:=by omega
  have h2:i<l2.length:=by omega
  have g1:l1[i]?=some l1[i]:=List.getElem?_eq_getElem h1
  have g2:l2[i]?=some l2[i]:=List.getElem?_eq_getElem h2
  have hlt:((i:Int)<(l1.length:Int)):=by omega
  have hw:IntKind.i64.wrap ((i:Int)+1)=((i+1:Nat):Int):=by rw [wrap_i64 (by omega) (by omega)];rfl
  have ih':=ih (i+1) n (by omega) (by omega)
  rw [List.drop_eq_getElem_cons h1,List.drop_eq_getElem_cons h2]
  by_cases he:l1[i]=l2[i]
  ·simp only [f19_l2,f19_l2_b,f19_l2_j1,f19_l2_j2,decide_eq_true hlt,cond_true,ifE_pos (show (0:Int)≤i by omega),Int.toNat_natCast,g1,g2,Option.bind_some,he,bne_self_eq_false,cond_false,hw,ih',List.cons.injEq,true_and]
  ·have hne:(l1[i] != l2[i])=true:=by simpa using he
   simp only [f19_l2,f19_l2_b,f19_l2_j1,f19_l2_j2,decide_eq_true hlt,cond_true,ifE_pos (show (0:Int)≤i by omega),Int.toNat_natCast,g1,g2,Option.bind_some,hne,List.cons.injEq,he,false_and,if_false]
theorem rsb_at (l1 l2:List Int) (hb:l1.length<4611686018427387904) (k:Nat) (hk:l1.length+2≤k):f19 k l1 l2=some (.o0 (decide (l1=l2))):=by
 obtain ⟨k,rfl⟩:∃ m,k=m+1:=⟨k - 1,by omega⟩
 by_cases h:l1.length=l2.length
 ·have q:=rsb_loop l1 l2 hb h k l1.length 0 k (by omega) (by omega)
  simp only [List.drop_zero,Int.natCast_zero] at q
  have hl:(((l1.length:Int)) != (l2.length:Int))=false:=by rw [h];simp
  by_cases he:l1=l2
  ·rw [if_pos he] at q
   simp only [f19,f19_e,f19_j1,f19_j3,hl,cond_false,q,Option.bind_some,decide_eq_true he]
  ·rw [if_neg he] at q
   simp only [f19,f19_e,f19_j1,f19_j3,hl,cond_false,q,Option.bind_some,decide_eq_false he]
 ·have hl:(((l1.length:Int)) != (l2.length:Int))=true:=by simp;omega
  have he:¬l1=l2:=fun e=>h (by rw [e])
  simp only [f19,f19_e,hl,cond_true,decide_eq_false he]
def metaB (a b:Bun):Bool:=(a.Source==b.Source)&&((a.Dest==b.Dest)&&((a.Created==b.Created)&&((a.Lifetime==b.Lifetime)&&((a.HopLimit==b.HopLimit)&&((a.Hops==b.Hops)&&((a.Priority==b.Priority)&&((a.Offset==b.Offset)&&((a.Total==b.Total)&&(a.Seq==b.Seq)))))))))
theorem Bun.ext' (a b:Bun):(decide (a.Payload=b.Payload)&&metaB a b)=decide (a=b):=by
 rw [Bool.eq_iff_iff,decide_eq_true_iff]
 unfold metaB
 cases a;cases b
 simp only [Bool.and_eq_true,decide_eq_true_eq,beq_iff_eq]
 constructor
 ·rintro ⟨rfl,rfl,rfl,rfl,rfl,rfl,rfl,rfl,rfl,rfl,rfl⟩;rfl
 ·intro h;cases h;simp
theorem rsame_at (k:Nat) (a b:Bun) (hl:a.Payload.length<4611686018427387904) (hk:a.Payload.length+4≤k):f12 k a.Source a.Dest a.Seq a.Created a.Lifetime a.HopLimit a.Hops a.Priority a.Offset a.Total a.Payload b.Source b.Dest b.Seq b.Created b.Lifetime b.HopLimit b.Hops b.Priority b.Offset b.Total b.Payload=some (.o0 (decide (a=b))):=by
 obtain ⟨k,rfl⟩:∃ m,k=m+1:=⟨k - 1,by omega⟩
 rw [←Bun.ext']
 simp only [f12,f12_e,rsb_at a.Payload b.Payload hl k (by omega),Option.bind_some,metaB]
 cases a.Source==b.Source<;>cases a.Dest==b.Dest<;>simp only [cond_true,cond_false,Bool.true_and,Bool.false_and,Bool.and_false]
 cases a.Seq==b.Seq<;>cases a.Created==b.Created<;>simp only [cond_true,cond_false,Bool.true_and,Bool.false_and,Bool.and_false,Bool.and_true]
 cases a.Lifetime==b.Lifetime<;>cases a.HopLimit==b.HopLimit<;>simp only [cond_true,cond_false,Bool.true_and,Bool.false_and,Bool.and_false,Bool.and_true]
 cases a.Hops==b.Hops<;>cases a.Priority==b.Priority<;>simp only [cond_true,cond_false,Bool.true_and,Bool.false_and,Bool.and_false,Bool.and_true]
 cases a.Offset==b.Offset<;>cases a.Total==b.Total<;>simp only [cond_true,cond_false,Bool.true_and,Bool.false_and,Bool.and_false,Bool.and_true]
end Go.Proofs.YtbnnmplkbpgcaaaDoorV