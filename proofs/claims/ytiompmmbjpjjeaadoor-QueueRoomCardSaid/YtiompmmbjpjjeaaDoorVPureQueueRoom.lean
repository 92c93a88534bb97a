/- The plain law of QueueRoom. -/
import Derived.Test.YtiompmmbjpjjeaaDoorVStmtQueueRoom
import Derived.Test.YtiompmmbjpjjeaaDoorVPQue
namespace Go.Proofs.YtiompmmbjpjjeaaDoorV
open Go Go.RowKit
set_option linter.unusedVariables false
set_option linter.unusedSimpArgs false
theorem same_l4 (k:Nat) (A B:List Gg) (hA:A.length≤1000) (h:∀ i (h:i<A.length),B[i]?=some A[i]) (a b:List Ky) (c:List Int) (a' b':List Ky) (c':List Int):∀ (d i n:Nat),i+d=A.length→d<n →
 f4_l4 k n A.length i A a b c B a' b' c'=some (.o2 A.length A.length false A a b c B a' b' c'):=by
 intro d
 induction d with
 | zero =>
  intro i n hi hn
  obtain ⟨n,rfl⟩:∃ m,n=m+1:=⟨n - 1,by omega⟩
  have e:i=A.length:=by omega
  subst e
  simp only [f4_l4,f4_l4_b,decide_eq_false (Int.lt_irrefl _),cond_false,Option.bind_some]
 | succ d ih =>
  intro i n hi hn
  obtain ⟨n,rfl⟩:∃ m,n=m+1:=⟨n - 1,by omega⟩
  have h1:i<A.length:=by omega
  have g1:A[i]?=some A[i]:=List.getElem?_eq_getElem h1
  have g2:=h i h1
  have hB:i<B.length:=(List.getElem?_eq_some_iff.1 g2).1
  have ih':=ih (i+1) n (by omega) (by omega)
  simp only [f4_l4,f4_l4_b,f4_l4_j1,f4_l4_j2,decide_eq_true (show (i:Int)<(A.length:Int) by omega),cond_true,ifE_pos (show (0:Int)≤(i:Int) by omega),ifE_pos (show (i:Int)<(A.length:Int) by omega),ifE_pos (show (i:Int)<(B.length:Int) by omega),Int.toNat_natCast,g1,g2,Option.bind_some,beq_self_eq_true,Bool.and_self,Bool.not_true,cond_false,w1 (show i<4611686018427387904 by omega),ih']
theorem met_l (k:Nat) (W:List Ky) (g:Gg) (hW:W.length≤1000) (x y:Nat) (a b:Int) (A:List Gg) (T:List Ky) (c:List Int) (B:List Gg):∀ (d i n:Nat) (met:Bool),i+d=W.length→d<n →
 f4_l6_l2 k n met x y a b W.length i A W T c g.Key_Source g.Key_Seq g.Key_Offset g.To g.Contact B=some (.o1 (met||(W.drop i).any (fun z=>(z.Source==g.Key_Source)&&((z.Seq==g.Key_Seq)&&(z.Offset==g.Key_Offset)))) x y a b W.length W.length false A W T c g.Key_Source g.Key_Seq g.Key_Offset g.To g.Contact B):=by
 intro d
 induction d with
 | zero =>
  intro i n met hi hn
  obtain ⟨n,rfl⟩:∃ m,n=m+1:=⟨n - 1,by omega⟩
  have e:i=W.length:=by omega
  subst e
  simp only [f4_l6_l2,f4_l6_l2_b,decide_eq_false (Int.lt_irrefl _),cond_false,Option.bind_some,List.drop_length,List.any_nil,Bool.or_false]
 | succ d ih =>
  intro i n met hi hn
  obtain ⟨n,rfl⟩:∃ m,n=m+1:=⟨n - 1,by omega⟩
  have h1:i<W.length:=by omega
  have g1:W[i]?=some W[i]:=List.getElem?_eq_getElem h1
  rw [List.drop_eq_getElem_cons h1,List.any_cons]
  cases met
  ·have ih':=ih (i+1) n ((W[i].Source==g.Key_Source)&&((W[i].Seq==g.Key_Seq)&&(W[i].Offset==g.Key_Offset))) (by omega) (by omega)
   simp only [f4_l6_l2,f4_l6_l2_b,f4_l6_l2_j1,f4_l6_l2_j2,decide_eq_true (show (i:Int)<(W.length:Int) by omega),cond_true,cond_false,ifE_pos (show (0:Int)≤(i:Int) by omega),ifE_pos (show (i:Int)<(W.length:Int) by omega),Int.toNat_natCast,g1,Option.bind_some,w1 (show i<4611686018427387904 by omega),ih',Bool.false_or]
  ·have ih':=ih (i+1) n true (by omega) (by omega)
   simp only [f4_l6_l2,f4_l6_l2_b,f4_l6_l2_j1,f4_l6_l2_j2,decide_eq_true (show (i:Int)<(W.length:Int) by omega),cond_true,ifE_pos (show (0:Int)≤(i:Int) by omega),ifE_pos (show (i:Int)<(W.length:Int) by omega),Int.toNat_natCast,g1,Option.bind_some,w1 (show i<4611686018427387904 by omega),ih',Bool.true_or]
theorem more_l6 (k:Nat) (hk:1100≤k) (x y:Nat) (A:List Gg) (W T:List Ky) (c:List Int) (B:List Gg) (hW:W.length≤1000) (hB:x+y≤B.length) (hy:y≤1000) (h:∀ i,i<y→∀ g,B[x+i]?=some g→keyG g∈W):∀ (d i n:Nat),i+d=y→d<n →
 f4_l6 k n x y y i A W T c B=some (.o2 x y y y false A W T c B):=by
 intro d
 induction d with
 | zero =>
  intro i n hi hn
  obtain ⟨n,rfl⟩:∃ m,n=m+1:=⟨n - 1,by omega⟩
  have e:i=y:=by omega
  subst e
  simp only [f4_l6,f4_l6_b,decide_eq_false (Int.lt_irrefl _),cond_false,Option.bind_some]
 | succ d ih =>
  intro i n hi hn
  obtain ⟨n,rfl⟩:∃ m,n=m+1:=⟨n - 1,by omega⟩
  have h1:x+i<B.length:=by omega
  have g1:B[x+i]?=some B[x+i]:=List.getElem?_eq_getElem h1
  have hm:=h i (by omega) _ g1
  have ha:(W.any (fun z=>(z.Source==B[x+i].Key_Source)&&((z.Seq==B[x+i].Key_Seq)&&(z.Offset==B[x+i].Key_Offset))))=true:=List.any_eq_true.2 ⟨_,hm,by simp [keyG]⟩
  have hl:=met_l k W B[x+i] hW x y y i A T c B W.length 0 k false (by omega) (by omega)
  rw [Int.natCast_zero,List.drop_zero,Bool.false_or,ha] at hl
  have ih':=ih (i+1) n (by omega) (by omega)
  simp only [f4_l6,f4_l6_b,f4_l6_j1,f4_l6_j3,f4_l6_j4,decide_eq_true (show (i:Int)<(y:Int) by omega),cond_true,cond_false,ifE_pos (show (0:Int)≤(i:Int) by omega),ifE_pos (show (i:Int)<(y:Int) by omega),Int.toNat_natCast,g1,Option.bind_some,hl,Bool.not_true,w1 (show i<4611686018427387904 by omega),ih']
theorem end_j2 (k:Nat) (hk:10000≤k) (node N:Int) (C:List Ct) (l:List Int) (now:Int) (busy:List Ky) (L:List Bun) (m:Nat) (room:Int) (r0:0≤room) (r8:room<8) (z z':Qq) (hz':f11 k node N C l now busy (room+1) L=some (.o0 0 z'.G z'.W z'.T z'.xl)) (f:Few m 40 z) (f':Few m 40 z') (r:Rr room z z') :
 f4_j2 k false node N now room C l busy L z.G z.W z.T z.xl=some (.o0 true):=by
 obtain ⟨f1,f2,f3,f4,f5⟩:=f
 obtain ⟨g1,g2,g3,g4,g5⟩:=f'
 have hw:IntKind.i64.wrap (room+(1:Int))=room+1:=wrap_i64 (by omega) (by omega)
 have hT:=r.T
 have hsum:z'.G.length+z'.W.length=z.G.length+z.W.length∧z.G.length≤z'.G.length∧z'.G.length≤z.G.length+1:=by
  rcases r.div with ⟨a1,a2,a3⟩ | ⟨g,a1,a2,a3,a4⟩
  ·rw [a1,a2];omega
  ·rw [a1];simp;omega
 have hpre:∀ i (h:i<z.G.length),z'.G[i]?=some z.G[i]:=fun i h=>by
  rcases r.div with ⟨a1,a2,a3⟩ | ⟨g,a1,a2,a3,a4⟩
  ·rw [←a1,List.getElem?_eq_getElem h]
  ·rw [a1,List.getElem?_append_left h,List.getElem?_eq_getElem h]
 have hmore:∀ i,i<z'.G.length - z.G.length→∀ g,z'.G[z.G.length+i]?=some g→keyG g∈z.W:=fun i h g' hg=>by
  rcases r.div with ⟨a1,a2,a3⟩ | ⟨g,a1,a2,a3,a4⟩
  ·rw [←a1] at h;omega
  ·rw [a1] at h hg
   have:i=0:=by simp at h;omega
   subst this
   rw [Nat.add_zero,List.getElem?_append_right (Nat.le_refl _),Nat.sub_self,List.getElem?_cons_zero,Option.some.injEq] at hg
   subst hg;exact a3
 have l4:=same_l4 k z.G z'.G (by omega) hpre z.W z.T z.xl z'.W z'.T z'.xl z.G.length 0 k (by omega) (by omega)
 have l6:=more_l6 k (by omega) z.G.length (z'.G.length - z.G.length) z.G z.W z.T z.xl z'.G (by omega) (by omega) (by omega) hmore (z'.G.length - z.G.length) 0 k (by omega) (by omega)
 rw [Int.natCast_zero] at l4 l6
 have c1:decide ((z'.G.length:Int)>IntKind.i64.wrap ((z.G.length:Int)+(1:Int)))=false:=by rw [w1 (by omega)];exact decide_eq_false (by omega)
 have c2:decide ((z'.G.length:Int)<(z.G.length:Int))=false:=decide_eq_false (by omega)
 have c3:(IntKind.i64.wrap ((z'.G.length:Int)+(z'.W.length:Int)) != IntKind.i64.wrap ((z.G.length:Int)+(z.W.length:Int)))=false:=by rw [wN (by omega),wN (by omega),hsum.1,bne_self_eq_false]
 have c4:((z.T.length:Int) != (z'.T.length:Int))=false:=by rw [hT,bne_self_eq_false]
 simp only [f4_j2,hw,hz',Option.bind_some,bne_self_eq_false,cond_false,c1,c2,c3,c4,f4_j3,l4,f4_j5,ifE_pos (show (0:Int)≤(z.G.length:Int) by omega),Int.toNat_natCast,ifE_pos hsum.2.1,l6,f4_j7]
theorem pureQueueRoom:StmtQueueRoom:=by
 intro s c gs gc
 refine ⟨60001,?_⟩
 obtain ⟨node,N,C,l,now,busy,room⟩:=s
 obtain ⟨L⟩:=c
 have hL:L.length<4611686018427387904:=by
  obtain ⟨_,h,_⟩:=gc
  have h':L.length * 104≤140737488351232:=h
  omega
 simp only
 have e7:f8 60000=some (.o0 true):=by simp only [f8];exact ifE_pos (by omega)
 obtain ⟨C',l',b',hC,hl,hb,hs⟩:=short_at 60000 (by omega) node N now room C l busy
 obtain ⟨L',hL',hp,hk⟩:=kept_at 60000 (by omega) L hL
 rcases choose_two 60000 (by omega) node N C' l' now b' L' (by omega) (by omega) (by omega) (by omega) hp room with ⟨e,he,h⟩ | ⟨h8,x0,x1,x2,x3,x4,h⟩ | ⟨r0,r8,z,z',h1,h2,f1,f2,r⟩
 ·simp only [f4,f4_e,e7,Option.bind_some,Bool.not_true,cond_false,f4_j1,hs,hk,h,he,cond_true]
 ·cases hx:(x0 != 0)
  ·simp only [f4,f4_e,e7,Option.bind_some,Bool.not_true,cond_false,f4_j1,hs,hk,h,hx,show (room==8)=true by simpa using h8,cond_true]
  ·simp only [f4,f4_e,e7,Option.bind_some,Bool.not_true,cond_false,f4_j1,hs,hk,h,hx,cond_true]
 ·have he:=end_j2 60000 (by omega) node N C' l' now b' L' C'.length room r0 r8 z z' h2 f1 f2 r
  simp only [f4,f4_e,e7,Option.bind_some,Bool.not_true,cond_false,f4_j1,hs,hk,h1,bne_self_eq_false,show (room==8)=false by rw [beq_eq_false_iff_ne];omega,he]
end Go.Proofs.YtiompmmbjpjjeaaDoorV