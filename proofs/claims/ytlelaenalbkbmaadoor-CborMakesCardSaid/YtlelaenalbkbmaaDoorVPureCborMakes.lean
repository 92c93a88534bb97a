/- The plain law of CborMakes. -/
import Derived.Test.YtlelaenalbkbmaaDoorVStmtCborMakes
import Derived.Test.YtlelaenalbkbmaaDoorVPMk
namespace Go.Proofs.YtlelaenalbkbmaaDoorV
open Go Go.RowKit
set_option linter.unusedVariables false
set_option linter.unusedSimpArgs false
theorem built_small {B:Nat} {l:List T49} (hl:∀ f∈l,FOk B f):(nodes (builtT l)).length≤107:=by
 obtain ⟨a1,a2,a3,a4⟩:=bfold_fit (B:=B) (l.take 100) [[]] (fun f hf=>hl f (List.mem_of_mem_take hf)) (fun y hy z hz=>by simp at hy;subst hy;simp [nodesL] at hz) (by simp) (by simp)
 have hlen:(l.take 100).length≤100:=by rw [List.length_take];omega
 have hc:cnt [([]:List It)]=0:=by simp [cnt,nodesL]
 obtain ⟨b1,b2⟩:=bdown_fit (B:=B) ((bfold (l.take 100) [[]]).length - 1) _ (by omega) a1
 unfold builtT
 generalize bdown (bfold (l.take 100) [[]])=X at b1 b2
 have gen:(nodes (⟨4,0,[],X⟩:It)).length≤107:=by rw [nodes_eq,List.length_cons];show (nodesL X).length+1≤107;omega
 match X,b1,b2,gen with
 | [y],b1,b2,_=>rw [nodesL_one] at b1 b2;show (nodes y).length≤107;omega
 | [],_,_,gen=>exact gen
 | _::_::_,_,_,gen=>exact gen
def Both (k:Nat) (p q:It):Prop:=∃ b,SameA k p q b∧RSame k p q b
theorem mk_in (k:Nat) (x58 x59:Int) (h0 h01:Int) (h02:List Int) (h03:List It) (h1 h11:Int) (h12:List It) (h2:List Int) (h3 h31:Int) (h32:List Int) (h33:List It) (h4 h41:Int) (h42:List Int) (h5:List It) (p:It) (h7 Q:List It) (hQ:Q.length=4) (hb:∀ q∈Q,Both k p q):∀ (d i n:Nat),i+d=4→d<n →
 f4_l4_l2 k n x58 x59 4 i h0 h01 h02 h03 h1 h11 h12 h2 h3 h31 h32 h33 h4 h41 h42 h5 p.Kind p.Num p.Bytes p.Items h7 Q=some (.o2 x58 x59 4 4 false h0 h01 h02 h03 h1 h11 h12 h2 h3 h31 h32 h33 h4 h41 h42 h5 p.Kind p.Num p.Bytes p.Items h7 Q):=by
 intro d
 induction d with
 | zero =>
  intro i n hi hn
  obtain ⟨n,rfl⟩:∃ m,n=m+1:=⟨n - 1,by omega⟩
  have e:i=4:=by omega
  subst e
  simp only [f4_l4_l2,f4_l4_l2_b,decide_eq_false (show ¬(((4:Nat):Int)<4) by omega),cond_false,Option.bind_some]
  rfl
 | succ d ih =>
  intro i n hi hn
  obtain ⟨n,rfl⟩:∃ m,n=m+1:=⟨n - 1,by omega⟩
  have h1:i<Q.length:=by omega
  have g1:Q[i]?=some Q[i]:=List.getElem?_eq_getElem h1
  obtain ⟨b,s1,s2⟩:=hb Q[i] (List.getElem_mem h1)
  have s1:f11 k p.Kind p.Num p.Bytes p.Items Q[i].Kind Q[i].Num Q[i].Bytes Q[i].Items=some (.o0 b):=s1
  have s2:f19d k p.Kind p.Num p.Bytes p.Items Q[i].Kind Q[i].Num Q[i].Bytes Q[i].Items=some (.o0 b):=s2
  have ih':=ih (i+1) n (by omega) (by omega)
  simp only [f4_l4_l2,f4_l4_l2_b,decide_eq_true (show (i:Int)<4 by omega),cond_true,f4_l4_l2_j1,ifE_pos (show (0:Int)≤(i:Int) by omega),ifE_pos (show (i:Int)<(Q.length:Int) by omega),Int.toNat_natCast,g1,Option.bind_some,s1,s2,beq_self_eq_true,Bool.not_true,cond_false,f4_l4_l2_j2,nextN h1 (by omega),ih']
theorem mk_out (k:Nat) (hk:5≤k) (h0 h01:Int) (h02:List Int) (h03:List It) (h1 h11:Int) (h12:List It) (h2:List Int) (h3 h31:Int) (h32:List Int) (h33:List It) (h4 h41:Int) (h42:List Int) (h5:List It) (P:List It) (hP:P.length=4) (hb:∀ p∈P,∀ q∈([⟨h0,h01,h02,h03⟩,⟨h1,h11,h2,h12⟩,⟨h3,h31,h32,h33⟩,⟨h4,h41,h42,h5⟩]:List It),Both k p q):∀ (d i n:Nat),i+d=4→d<n →
 f4_l4 k n 4 i h0 h01 h02 h03 h1 h11 h12 h2 h3 h31 h32 h33 h4 h41 h42 h5 P=some (.o2 4 4 false h0 h01 h02 h03 h1 h11 h12 h2 h3 h31 h32 h33 h4 h41 h42 h5 P):=by
 intro d
 induction d with
 | zero =>
  intro i n hi hn
  obtain ⟨n,rfl⟩:∃ m,n=m+1:=⟨n - 1,by omega⟩
  have e:i=4:=by omega
  subst e
  simp only [f4_l4,f4_l4_b,decide_eq_false (show ¬(((4:Nat):Int)<4) by omega),cond_false,Option.bind_some]
  rfl
 | succ d ih =>
  intro i n hi hn
  obtain ⟨n,rfl⟩:∃ m,n=m+1:=⟨n - 1,by omega⟩
  have hl:i<P.length:=by omega
  have g1:P[i]?=some P[i]:=List.getElem?_eq_getElem hl
  have hin:=mk_in k 4 i h0 h01 h02 h03 h1 h11 h12 h2 h3 h31 h32 h33 h4 h41 h42 h5 P[i] P [⟨h0,h01,h02,h03⟩,⟨h1,h11,h2,h12⟩,⟨h3,h31,h32,h33⟩,⟨h4,h41,h42,h5⟩] rfl (hb P[i] (List.getElem_mem hl)) 4 0 k rfl (by omega)
  rw [Int.natCast_zero] at hin
  have ih':=ih (i+1) n (by omega) (by omega)
  simp only [f4_l4,f4_l4_b,decide_eq_true (show (i:Int)<4 by omega),cond_true,f4_l4_j1,ifE_pos (show (0:Int)≤(i:Int) by omega),ifE_pos (show (i:Int)<(P.length:Int) by omega),Int.toNat_natCast,g1,Option.bind_some,hin,f4_l4_j3,nextN hl (by omega),ih']
theorem nrz_loop (k:Nat) (a b c d:Int) (e f:List Int) (X:List It) (hX:X.length≤1000) (hq:∀ x∈X,RSame k x x true):∀ (m i n:Nat),i+m=X.length→m<n →
 f19b_l2 k n i a b e X c d f X=some (.o2 X.length false a b e X c d f X):=by
 intro m
 induction m with
 | zero =>
  intro i n hi hn
  obtain ⟨n,rfl⟩:∃ m,n=m+1:=⟨n - 1,by omega⟩
  have e:i=X.length:=by omega
  subst e
  simp only [f19b_l2,f19b_l2_b,decide_eq_false (Int.lt_irrefl _),cond_false,Option.bind_some]
 | succ m ih =>
  intro i n hi hn
  obtain ⟨n,rfl⟩:∃ m,n=m+1:=⟨n - 1,by omega⟩
  have h1:i<X.length:=by omega
  have g1:X[i]?=some X[i]:=List.getElem?_eq_getElem h1
  have s:=hq X[i] (List.getElem_mem h1)
  have s:f19d k X[i].Kind X[i].Num X[i].Bytes X[i].Items X[i].Kind X[i].Num X[i].Bytes X[i].Items=some (.o0 true):=s
  have ih':=ih (i+1) n (by omega) (by omega)
  simp only [f19b_l2,f19b_l2_b,decide_eq_true (show (i:Int)<(X.length:Int) by omega),cond_true,f19b_l2_j1,ifE_pos (show (0:Int)≤(i:Int) by omega),Int.toNat_natCast,g1,Option.bind_some,s,Bool.not_true,cond_false,f19b_l2_j2,nextN h1 (by omega),ih']
theorem pureCborMakes:StmtCborMakes:=by
 intro n b l gn gb gl
 have bl:bnd l≤140737488351232:=bnd_bound fun f hf=>by have:=(gl.2.2 f hf).1.2.2.1.2.1;omega
 have bb:b.length≤140737488351232:=by have:=gb.2.1;omega
 have hn:=wf_u64 gn
 have hbb:∀ c∈b,0≤c∧c<256:=fun c hc=>wf_u8 (gb.2.2 c hc)
 generalize hB:max (bnd l) b.length=B at *
 have fo:∀ f∈l,FOk B f:=fun f hf=>flat_ok (gl.2.2 f hf).1.2.1 (gl.2.2 f hf).1.2.2.1.2.2 (by have:=bnd_le hf;omega)
 have fz:=built_fit fo
 have sz:=built_small fo
 refine ⟨B+3001,?_⟩
 have e0:f8 (B+3000)=some (.o0 true):=by simp only [f8];exact ifE_pos (by omega)
 have b1:=built_at (B+3000) (by omega) l
 generalize builtT l=z at fz sz b1
 by_cases ht:(b.length:Int)>50000
 ·simp only [f4,f4_e,f4_j1,e0,Option.bind_some,Bool.not_true,cond_false,decide_eq_true ht,cond_true]
 have one:∀ x:It,x.Items=[]→Wf B x→Fit B x:=fun x hi hw=>by
  have e:nodes x=[x]:=by rw [nodes_eq,hi];simp [nodesL]
  exact ⟨by rw [e];simp,fun y hy=>by rw [e] at hy;simp at hy;subst hy;exact hw⟩
 have fx:Fit B (⟨1,n,[],[]⟩:It):=one _ rfl ⟨hn,by simp,by simp⟩
 have fy:Fit B (⟨2,0,b,[]⟩:It):=one _ rfl ⟨by simp,hbb,by show b.length≤B;omega⟩
 have fw:Fit B (⟨4,0,[],[⟨1,n,[],[]⟩,⟨2,0,b,[]⟩,z]⟩:It):=by
  have e:nodesL [(⟨1,n,[],[]⟩:It),⟨2,0,b,[]⟩,z]=nodes (⟨1,n,[],[]⟩:It)++(nodes (⟨2,0,b,[]⟩:It)++nodes z):=by simp [nodesL]
  refine ⟨?_,list_wf fun u hu => ?_⟩
  ·rw [nodes_eq,List.length_cons]
   show (nodesL [(⟨1,n,[],[]⟩:It),⟨2,0,b,[]⟩,z]).length+1≤120
   rw [e,List.length_append,List.length_append,nodes_eq,nodes_eq]
   simp only [nodesL,List.length_cons,List.length_nil]
   omega
  ·rw [e] at hu
   rcases List.mem_append.1 hu with h | h
   ·exact fx.2 u h
   ·rcases List.mem_append.1 h with h | h
    ·exact fy.2 u h
    ·exact fz.2 u h
 have ez:(T28.mk z.Kind z.Num z.Bytes z.Items:It)=z:=by cases z;rfl
 have all:∀ p∈[(⟨1,n,[],[]⟩:It),⟨2,0,b,[]⟩,z,⟨4,0,[],[⟨1,n,[],[]⟩,⟨2,0,b,[]⟩,z]⟩],Fit B p:=fun p hp=>by
  simp only [List.mem_cons,List.not_mem_nil,or_false] at hp
  rcases hp with rfl | rfl | rfl | rfl<;>assumption
 have both:∀ k,B+2000≤k→∀ p∈[(⟨1,n,[],[]⟩:It),⟨2,0,b,[]⟩,z,⟨4,0,[],[⟨1,n,[],[]⟩,⟨2,0,b,[]⟩,z]⟩],∀ q∈[(⟨1,n,[],[]⟩:It),⟨2,0,b,[]⟩,z,⟨4,0,[],[⟨1,n,[],[]⟩,⟨2,0,b,[]⟩,z]⟩],Both k p q:=fun k hk p hp q hq=>by
  obtain ⟨u,u1,u2⟩:=same_at B (by omega) 120 p q (all p hp).1 (all p hp) (all q hq) k (by omega)
  obtain ⟨v,v1,v2⟩:=r7_at B (by omega) 120 p q (all p hp).1 (all p hp) (all q hq) k (by omega)
  have e:v=u:=by rw [Bool.eq_iff_iff,u2,v2]
  exact ⟨u,u1,e▸v1⟩
 have refl7:∀ k,B+2000≤k→∀ p∈[(⟨1,n,[],[]⟩:It),⟨2,0,b,[]⟩,z],RSame k p p true:=fun k hk p hp=>by
  have hp':Fit B p:=all p (by simp only [List.mem_cons,List.not_mem_nil,or_false] at hp ⊢;rcases hp with h | h | h<;>simp [h])
  obtain ⟨v,v1,v2⟩:=r7_at B (by omega) 120 p p hp'.1 hp' hp' k (by omega)
  obtain rfl:v=true:=v2.2 rfl
  exact v1
 have c16:f16 (B+3000) n=some (.o0 1 n [] []):=by simp only [f16,f16_e]
 have c17:f17 (B+3000) b=some (.o0 2 0 [] b):=by
  have:=clone_at (B+2999) (by omega) b bb
  simp only [f17,f17_e,this,Option.bind_some]
 have c18:=list_at (B+3000) (by omega) [(⟨1,n,[],[]⟩:It),⟨2,0,b,[]⟩,z] (by simp) fun y hy=>own_at B (by omega) 120 y (by exact (all y (by simp only [List.mem_cons,List.not_mem_nil,or_false] at hy ⊢;rcases hy with h | h | h<;>simp [h])).1) (all y (by simp only [List.mem_cons,List.not_mem_nil,or_false] at hy ⊢;rcases hy with h | h | h<;>simp [h])) (B+3000 - 1) (by omega)
 have q1:∀ k,B+100≤k→f19a (k+2) 1 n [] [] 1 n=some (.o0 true):=fun k hk=>by
  have:=r1_at (k+1) [] [] (by simp<;>omega) (by simp<;>omega)
  simp only [f19a,f19a_e,bne_self_eq_false,cond_false,this,decide_true,Option.bind_some,Bool.not_true,List.length_nil,Int.natCast_zero,f19a_j1,f19a_l2,f19a_l2_b,decide_eq_false (Int.lt_irrefl _),f19a_j3]
 have q2:∀ k,B+100≤k→f19c (k+2) 2 0 b [] 2 0 b=some (.o0 true):=fun k hk=>by
  have:=r1_at (k+1) b b (by omega) (by omega)
  simp only [f19c,f19c_e,bne_self_eq_false,cond_false,this,decide_true,Option.bind_some,Bool.not_true,List.length_nil,Int.natCast_zero,f19c_j1,f19c_l2,f19c_l2_b,decide_eq_false (Int.lt_irrefl _),f19c_j3]
 have q3:f19b (B+3000) 4 0 [] [(⟨1,n,[],[]⟩:It),⟨2,0,b,[]⟩,z] 4 0 [(⟨1,n,[],[]⟩:It),⟨2,0,b,[]⟩,z]=some (.o0 true):=by
  have:=r1_at (B+2999) [] [] (by simp) (by simp)
  have lp:=nrz_loop (B+2999) 4 0 4 0 [] [] [(⟨1,n,[],[]⟩:It),⟨2,0,b,[]⟩,z] (by simp) (fun x hx=>refl7 (B+2999) (by omega) x hx) 3 0 (B+2999) rfl (by omega)
  rw [Int.natCast_zero] at lp
  simp only [f19b,f19b_e,bne_self_eq_false,cond_false,this,decide_true,Option.bind_some,Bool.not_true,f19b_j1,lp,f19b_j3]
 have q4:=mk_out (B+3000) (by omega) 1 n [] [] 2 0 [] b z.Kind z.Num z.Bytes z.Items 4 0 [] [(⟨1,n,[],[]⟩:It),⟨2,0,b,[]⟩,z] [(⟨1,n,[],[]⟩:It),⟨2,0,b,[]⟩,z,⟨4,0,[],[⟨1,n,[],[]⟩,⟨2,0,b,[]⟩,z]⟩] rfl (fun p hp q hq=>both (B+3000) (by omega) p hp q (by rw [ez] at hq;exact hq)) 4 0 (B+3000) rfl (by omega)
 rw [Int.natCast_zero] at q4
 simp only [f4,f4_e,f4_j1,f4_j2,f4_j3,f4_j5,e0,b1,Option.bind_some,Bool.not_true,cond_false,decide_eq_false ht,c16,c17,ez,c18,q1 (B+2998) (by omega),q2 (B+2998) (by omega),q3,q4]
end Go.Proofs.YtlelaenalbkbmaaDoorV