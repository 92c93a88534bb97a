/- What the program's functions answer: plain functions,and that the interpreter answers what they do. Written by a program of this session,out of the translation. -/
import Derived.Test.YtiompmmbjpjjeaaDoorVPC
namespace Go.Proofs.YtiompmmbjpjjeaaDoorV
open Go
set_option linter.unusedVariables false
set_option linter.unusedSimpArgs false
set_option maxRecDepth 8000
set_option maxHeartbeats 4000000
-- f8: f8 heliograph/heliographlaw20.wakes
inductive R8 where
 | o0 (y:Bool)
noncomputable def R8.st:R8→V×List O×List O
 | .o0 y=>(jT y,[],[])
noncomputable def f8 (k:Nat):Option R8:=ifE (200≤k) (some (.o0 true))
theorem f8_ok (k r) (a:f8 k=some r):CV k 8 [] []=some r.st:=by
 obtain ⟨h,a⟩:=ifE_some.1 a
 cases a
 exact callV_le h wakes
-- f9: f9 heliograph/heliographlaw20.short
inductive R9 where
 | o0 (y a b c:Int) (d:List T54) (e:List Int) (f:List T44)
noncomputable def R9.st:R9→V×List O×List O
 | .o0 y a b c d e f=>(.agg [jI y,jI a,.own 2000000,.own 2000001,jI b,.own 2000002,jI c],[],[.row true 6 54 (rowsOf encT54 d),.row true 1 3 (rowsOf (encI .i64) e),.row true 3 44 (rowsOf encT44 f)])
noncomputable def f9_e (k:Nat) (g d:Int) (a:List T54) (b:List Int) (e:Int) (c:List T44) (f:Int):Option R9 :=
 ifE ((0:Int)≤(if (30:Int)<((List.length a):Int) then 30 else ((List.length a):Int))) (
  ifE ((Int.toNat ((if (30:Int)<((List.length a):Int) then 30 else ((List.length a):Int))))≤(List.length a)) (
   ifE ((List.length ((List.take ((Int.toNat ((if (30:Int)<((List.length a):Int) then 30 else ((List.length a):Int))))) a))) * 48≤roomy) (
    ifE ((0:Int)≤(if (30:Int)<((List.length b):Int) then 30 else ((List.length b):Int))) (
     ifE ((Int.toNat ((if (30:Int)<((List.length b):Int) then 30 else ((List.length b):Int))))≤(List.length b)) (
      ifE ((List.length ((List.take ((Int.toNat ((if (30:Int)<((List.length b):Int) then 30 else ((List.length b):Int))))) b))) * 8≤roomy) (
       ifE ((0:Int)≤(if (40:Int)<((List.length c):Int) then 40 else ((List.length c):Int))) (
        ifE ((Int.toNat ((if (40:Int)<((List.length c):Int) then 40 else ((List.length c):Int))))≤(List.length c)) (
         ifE ((List.length ((List.take ((Int.toNat ((if (40:Int)<((List.length c):Int) then 40 else ((List.length c):Int))))) c))) * 24≤roomy) (
          some (.o0 g d e f ((List.take ((Int.toNat ((if (30:Int)<((List.length a):Int) then 30 else ((List.length a):Int))))) a)) ((List.take ((Int.toNat ((if (30:Int)<((List.length b):Int) then 30 else ((List.length b):Int))))) b)) ((List.take ((Int.toNat ((if (40:Int)<((List.length c):Int) then 40 else ((List.length c):Int))))) c))))))))))))
theorem f9_e_ok (k h b c d e f g r) (a:f9_e k h b c d e f g=some r):finK Tryd.prog Tryd.f9 0 (EX 9 k (nav B9 []) (⟨37,[(0,.agg [jI h,jI b,.sl 6 (rowsOf encT54 c),.sl 1 (rowsOf (encI .i64) d),jI e,.sl 3 (rowsOf encT44 f),jI g])],[]⟩:St))=some r.st:=by
 unfold f9_e at a
 obtain ⟨i,a⟩:=ifE_some.1 a
 obtain ⟨j,a⟩:=ifE_some.1 a
 obtain ⟨l,a⟩:=ifE_some.1 a
 obtain ⟨m,a⟩:=ifE_some.1 a
 obtain ⟨o,a⟩:=ifE_some.1 a
 obtain ⟨p,a⟩:=ifE_some.1 a
 obtain ⟨q,a⟩:=ifE_some.1 a
 obtain ⟨s,a⟩:=ifE_some.1 a
 obtain ⟨t,a⟩:=ifE_some.1 a
 cases a
 simp only [W,simprocAttr,xk B9 [] .sq rfl,rg B9 [1] 0 false rfl,hr_9_0,t_28,sr 9 1 B9 [2] rfl rfl rfl,buildSliceV,fillRows,sm_54,t_22,t_54,fieldAddrV,t_24,minmaxV,minmaxGo,sliceV,bound,appendV,content,sr 9 2 B9 [2,2] rfl rfl rfl,sm_3,t_25,t_3,sr 9 3 B9 [2,2,2] rfl rfl rfl,sm_44,t_26,t_44,sr 9 4 B9 [2,2,2,2] rfl rfl rfl,xk B9 [2,2,2,2,2] .rt rfl,fin9,R9.st,i,j,l,m,o,p,q,s,t]
noncomputable def f9 (k:Nat) (g a:Int) (b:List T54) (c:List Int) (d:Int) (e:List T44) (f:Int):Option R9:=match k with | 0=>none | k+1=>f9_e k g a b c d e f
theorem f9_ok (k h a b d e f g r) (i:f9 k h a b d e f g=some r):CV k 9 [.agg [jI h,jI a,.sl 6 (rowsOf encT54 b),.sl 1 (rowsOf (encI .i64) d),jI e,.sl 3 (rowsOf encT44 f),jI g]] []=some r.st:=by
 cases k with
 | zero=>cases i
 | succ k =>
  unfold CV
  rw [ev_call (F:=Tryd.f9) (c:=(nav B9 [])) rfl Tryd.func9 rfl rfl rfl rfl]
  exact f9_e_ok k h a b d e f g r i
-- f10: f10 heliograph/heliographlaw20.kept
inductive R10 where
 | o0 (y:List T47)
noncomputable def R10.st:R10→V×List O×List O
 | .o0 y=>(.agg [.own 2000000],[],[.row true 11 47 (rowsOf encT47 y)])
inductive R10_l1 where
 | o0 (y:List T47) (a b:Int) (c:Bool) (d e:List T47) (o p q s f g h i j l:Int) (m:List Int)
 | o1 (y:List T47) (a b:Int) (c d:List T47)
 | o2 (y:List T47) (a b:Int) (c:Bool) (d e:List T47)
noncomputable def R10_l1.st:R10_l1→Out×St
 | .o0 y a b c d e o p q s f g h i j l m=>(.exit 0,(⟨33,[(2,.ptr 30000 0),(3,.own 30002),(5,.ptr 5 0),(7,.sl 11 (rowsOf encT47 y)),(8,jI a),(9,jI b),(15,jT c)],[(30000,.box 31 [.own 30001]),(30001,.row true 11 47 (rowsOf encT47 d)),(30002,.row true 11 47 (rowsOf encT47 e)),(5,.box 47 [jI o,jI p,jU q,jI s,jI f,jI g,jI h,jI i,jI j,jI l,jB m])]⟩:St))
 | .o1 y a b c d=>(.norm,(⟨33,[(2,.ptr 30000 0),(3,.own 29),(7,.sl 11 (rowsOf encT47 y)),(8,jI a),(9,jI b)],[(30000,.box 31 [.own 30001]),(30001,.row true 11 47 (rowsOf encT47 c)),(29,.row true 11 47 (rowsOf encT47 d))]⟩:St))
 | .o2 y a b c d e=>(.exit 0,(⟨33,[(2,.ptr 30000 0),(3,.own 30002),(7,.sl 11 (rowsOf encT47 y)),(8,jI a),(9,jI b),(10,jT c)],[(30000,.box 31 [.own 30001]),(30001,.row true 11 47 (rowsOf encT47 d)),(30002,.row true 11 47 (rowsOf encT47 e))]⟩:St))
noncomputable def f10_l1_j3 (k:Nat) (c:List T47) (d e:Int) (a b:List T47):Option R10_l1 :=
 some (.o1 c d (IntKind.i64.wrap (e+(1:Int))) a b)
theorem f10_l1_j3_ok (k c d e a b r) (f:f10_l1_j3 k c d e a b=some r):EX 10 k (nav B10 [2,2,2,1,2,2,1,2,2]) (⟨33,[(2,.ptr 30000 0),(3,.own 29),(7,.sl 11 (rowsOf encT47 c)),(8,jI d),(9,jI e)],[(30000,.box 31 [.own 30001]),(30001,.row true 11 47 (rowsOf encT47 a)),(29,.row true 11 47 (rowsOf encT47 b))]⟩:St)=some r.st:=by
 unfold f10_l1_j3 at f
 cases f
 simp only [W,simprocAttr,rg B10 [2,2,2,1,2,2,1,2,2] 8 false rfl,hr 10 8 rfl,R10_l1.st]
noncomputable def f10_l1_j2 (k:Nat) (o:List T47) (p q:Int) (s:Bool) (m b:List T47) (t c d e f g h i j l:Int) (a:List Int):Option R10_l1 :=
 ifE ((0:Int)≤(if (500:Int)<((List.length a):Int) then 500 else ((List.length a):Int))) (
  ifE ((Int.toNat ((if (500:Int)<((List.length a):Int) then 500 else ((List.length a):Int))))≤(List.length a)) (
   ifE ((List.length ((List.take ((Int.toNat ((if (500:Int)<((List.length a):Int) then 500 else ((List.length a):Int))))) a)))≤roomy) (
    ifE (((List.length b)+1) * 104≤roomy) (
     f10_l1_j3 k o p q m ((b++([(T47.mk t c d e f g h i j l ((List.take ((Int.toNat ((if (500:Int)<((List.length a):Int) then 500 else ((List.length a):Int))))) a)))]:List T47)))))))
theorem f10_l1_j2_ok (k s t u q m o p b c d e f g h i j a r) (l:f10_l1_j2 k s t u q m o p b c d e f g h i j a=some r):SQ 10 k (nav B10 [2,2,2,1,2,2,1,2,2]) (blockK 1 (EX 10 k (nav B10 [2,2,2,1,2,2,1,2,2,1,2,2]) (⟨33,[(2,.ptr 30000 0),(3,.own 30002),(5,.ptr 5 0),(7,.sl 11 (rowsOf encT47 s)),(8,jI t),(9,jI u),(15,jT q)],[(30000,.box 31 [.own 30001]),(30001,.row true 11 47 (rowsOf encT47 m)),(30002,.row true 11 47 (rowsOf encT47 o)),(5,.box 47 [jI p,jI b,jU c,jI d,jI e,jI f,jI g,jI h,jI i,jI j,jB a])]⟩:St)))=some r.st:=by
 unfold f10_l1_j2 at l
 obtain ⟨v,l⟩:=ifE_some.1 l
 obtain ⟨w,l⟩:=ifE_some.1 l
 obtain ⟨x,l⟩:=ifE_some.1 l
 have y:[[jI p,jI b,jU c,jI d,jI e,jI f,jI g,jI h,jI i,jI j,.sl 1 (rowsOf (encI .u8) (List.take ((Int.toNat ((if (500:Int)<((List.length a):Int) then 500 else ((List.length a):Int))))) a))]]=rowsOf encT47 ([(T47.mk p b c d e f g h i j ((List.take ((Int.toNat ((if (500:Int)<((List.length a):Int) then 500 else ((List.length a):Int))))) a)))]:List T47):=rfl
 have z:List.map (tell [0,0,0,0,0,0,0,0,0,0,1]) (rowsOf encT47 ([(T47.mk p b c d e f g h i j ((List.take ((Int.toNat ((if (500:Int)<((List.length a):Int) then 500 else ((List.length a):Int))))) a)))]:List T47))=rowsOf encT47 ([(T47.mk p b c d e f g h i j ((List.take ((Int.toNat ((if (500:Int)<((List.length a):Int) then 500 else ((List.length a):Int))))) a)))]:List T47):=rfl
 obtain ⟨n,l⟩:=ifE_some.1 l
 have hJ:=f10_l1_j3_ok k s t u m ((o++([(T47.mk p b c d e f g h i j ((List.take ((Int.toNat ((if (500:Int)<((List.length a):Int) then 500 else ((List.length a):Int))))) a)))]:List T47))) _ l
 simp only [W,simprocAttr,sr 10 6 B10 [2,2,2,1,2,2,1,2,2,1,2,2] rfl rfl rfl,buildSliceV,fillRows,sm_5,t_45,t_5,fieldAddrV,t_47,minmaxV,minmaxGo,sliceV,bound,appendV,content,rg B10 [2,2,2,2,1,2,2,1,2,2,1,2,2] 7 false rfl,hr 10 7 rfl,sm_47,t_29,v,w,x,y,z,n]
 try simp only [NM,EE] at hJ
 exact hJ
noncomputable def f10_l1_j1 (k:Nat) (e:List T47) (f b:Int) (g:Bool) (c d:List T47):Option R10_l1 :=
 ifE ((0:Int)≤b) (
  Option.bind (e[(Int.toNat b)]?) fun a =>
   cond ((b==35))
    (some (.o0 e f b true c d a.Source a.Dest a.Seq a.Created a.Lifetime a.HopLimit a.Hops a.Priority a.Offset a.Total a.Payload))
    (f10_l1_j2 k e f b false c d a.Source a.Dest a.Seq a.Created a.Lifetime a.HopLimit a.Hops a.Priority a.Offset a.Total a.Payload))
theorem f10_l1_j1_ok (k f g h e c d r) (b:f10_l1_j1 k f g h e c d=some r):EX 10 k (nav B10 [2,2,1,2,2,1,2,2]) (⟨33,[(2,.ptr 30000 0),(3,.own 30002),(7,.sl 11 (rowsOf encT47 f)),(8,jI g),(9,jI h),(10,jT e)],[(30000,.box 31 [.own 30001]),(30001,.row true 11 47 (rowsOf encT47 c)),(30002,.row true 11 47 (rowsOf encT47 d))]⟩:St)=some r.st:=by
 unfold f10_l1_j1 at b
 obtain ⟨i,b⟩:=ifE_some.1 b
 obtain ⟨a,j,b⟩:=bs b
 simp only [W,simprocAttr,xk B10 [2,2,1,2,2,1,2,2] .sq rfl,xk B10 [1,2,2,1,2,2,1,2,2] (.bk 1) rfl,sr 10 4 B10 [2,1,2,2,1,2,2,1,2,2] rfl rfl rfl,indexAddrV,t_29,t_47,encT47_eq,xk B10 [2,2,1,2,2,1,2,2,1,2,2] .sq rfl,sr 10 5 B10 [1,2,2,1,2,2,1,2,2,1,2,2] rfl rfl rfl,xk B10 [2,1,2,2,1,2,2,1,2,2,1,2,2] (.cd 15) rfl,i,j]
 rcases cond_some b with ⟨l,b⟩ | ⟨l,b⟩
 ·cases b
  simp only [W,simprocAttr,xk B10 [2,2,1,2,2,1,2,2,1,2,2,1,2,2] (.ex 0) rfl,R10_l1.st,i,j,l]
 ·have hJ:=f10_l1_j2_ok k f g h false c d a.Source a.Dest a.Seq a.Created a.Lifetime a.HopLimit a.Hops a.Priority a.Offset a.Total a.Payload _ b
  simp only [W,simprocAttr,xk B10 [3,2,1,2,2,1,2,2,1,2,2,1,2,2] .sk rfl,i,j,l]
  try simp only [NM,EE] at hJ
  exact hJ
noncomputable def f10_l1_b (k:Nat) (e:List T47) (c d:Int) (a b:List T47):Option R10_l1 :=
 cond ((decide (d<c)))
  (f10_l1_j1 k e c d true a b)
  (some (.o2 e c d false a b))
theorem f10_l1_b_ok (k d e f a b r) (c:f10_l1_b k d e f a b=some r):EX 10 k (nav B10 [1,2,2,1,2,2]) (⟨33,[(2,.ptr 30000 0),(3,.own 30002),(7,.sl 11 (rowsOf encT47 d)),(8,jI e),(9,jI f)],[(30000,.box 31 [.own 30001]),(30001,.row true 11 47 (rowsOf encT47 a)),(30002,.row true 11 47 (rowsOf encT47 b))]⟩:St)=some r.st:=by
 unfold f10_l1_b at c
 simp only [W,simprocAttr,sr 10 3 B10 [1,2,2,1,2,2] rfl rfl rfl,xk B10 [2,1,2,2,1,2,2] .sq rfl,xk B10 [1,2,1,2,2,1,2,2] (.cd 10) rfl]
 rcases cond_some c with ⟨g,c⟩ | ⟨g,c⟩
 ·have hJ:=f10_l1_j1_ok k d e f true a b _ c
  simp only [W,simprocAttr,xk B10 [2,1,2,1,2,2,1,2,2] .sk rfl,g]
  try simp only [NM,EE] at hJ
  exact hJ
 ·cases c
  simp only [W,simprocAttr,xk B10 [3,1,2,1,2,2,1,2,2] (.ex 0) rfl,R10_l1.st,g]
noncomputable def f10_l1 (k:Nat):Nat→(List T47)→Int→Int→(List T47)→(List T47)→Option R10_l1
 | 0,_,_,_,_,_=>none
 | n+1,w,x,z,p,q=>Option.bind (f10_l1_b k w x z p q) fun o =>
  match o with
  | .o0 y a b c d e s t u v f g h i j l m=>some (.o0 y a b c d e s t u v f g h i j l m)
  | .o1 y a b c d=>f10_l1 k n y a b c d
  | .o2 y a b c d e=>some (.o2 y a b c d e)
theorem f10_l1_ok (k n:Nat):∀ (i:List T47) (j l:Int) (a b:List T47) (r:R10_l1) (c:f10_l1 k n i j l a b=some r) (σ:St) (hσ:headR (hints.head 10 3) (hints.canon 10 3) σ=some (⟨33,[(2,.ptr 30000 0),(3,.own 30002),(7,.sl 11 (rowsOf encT47 i)),(8,jI j),(9,jI l)],[(30000,.box 31 [.own 30001]),(30001,.row true 11 47 (rowsOf encT47 a)),(30002,.row true 11 47 (rowsOf encT47 b))]⟩:St)),LP 10 k (nav B10 [1,2,2,1,2,2]) n σ=some r.st:=by
 induction n with
 | zero=>intro i j l a b r c;cases c
 | succ n p =>
  intro i j l a b r c σ hσ
  rw [f10_l1] at c
  obtain ⟨o,h,c⟩:=Option.bind_eq_some_iff.1 c
  have hB:=f10_l1_b_ok k i j l a b o h
  unfold LP at p ⊢
  unfold EX at hB
  rw [loopK_succ,show firstReg (nav B10 [1,2,2,1,2,2])=3 from rfl,hσ,headK_some,hB]
  cases o with
  | o0 y d e f g m z aa ab ac q s t u v w x=>cases c;rfl
  | o1 y d e f g =>
   refine p y d e f g r c _ ?_
   simp only [W,simprocAttr,hh_10_3,hc_10_3]
  | o2 y d e f g m=>cases c;rfl
noncomputable def f10_j2 (k:Nat) (p:List T47) (q s:Int) (m:Bool) (o a:List T47) (t c d e f g h i j l:Int) (b:List Int):Option R10 :=
 some (.o0 a)
theorem f10_j2_ok (k p q s l m o t b c d e f g h i j a r) (u:f10_j2 k p q s l m o t b c d e f g h i j a=some r):finK Tryd.prog Tryd.f10 0 (EX 10 k (nav B10 [2,2,2]) (⟨33,[(2,.ptr 30000 0),(3,.own 30002),(5,.ptr 5 0),(7,.sl 11 (rowsOf encT47 p)),(8,jI q),(9,jI s),(15,jT l)],[(30000,.box 31 [.own 30001]),(30001,.row true 11 47 (rowsOf encT47 m)),(30002,.row true 11 47 (rowsOf encT47 o)),(5,.box 47 [jI t,jI b,jU c,jI d,jI e,jI f,jI g,jI h,jI i,jI j,jB a])]⟩:St))=some r.st:=by
 unfold f10_j2 at u
 cases u
 simp only [W,simprocAttr,sr 10 9 B10 [2,2,2] rfl rfl rfl,bl_31,t_31,xk B10 [2,2,2,2] .rt rfl,fin10,R10.st]
noncomputable def f10_j3 (k:Nat) (d:List T47) (e f:Int) (b:Bool) (c a:List T47):Option R10 :=
 some (.o0 a)
theorem f10_j3_ok (k d e f a b c r) (g:f10_j3 k d e f a b c=some r):finK Tryd.prog Tryd.f10 0 (EX 10 k (nav B10 [2,2,2]) (⟨33,[(2,.ptr 30000 0),(3,.own 30002),(7,.sl 11 (rowsOf encT47 d)),(8,jI e),(9,jI f),(10,jT a)],[(30000,.box 31 [.own 30001]),(30001,.row true 11 47 (rowsOf encT47 b)),(30002,.row true 11 47 (rowsOf encT47 c))]⟩:St))=some r.st:=by
 unfold f10_j3 at g
 cases g
 simp only [W,simprocAttr,sr 10 9 B10 [2,2,2] rfl rfl rfl,bl_31,t_31,xk B10 [2,2,2,2] .rt rfl,fin10,R10.st]
noncomputable def f10_e (k:Nat) (u:List T47):Option R10 :=
 Option.bind (f10_l1 k k u ((List.length u):Int) 0 [] []) fun o1 =>
  match o1 with
  | .o0 v w x y z r a b c d e f g h i j l =>
   f10_j2 k v w x y z r a b c d e f g h i j l
  | .o1 _ _ _ _ _ =>
   none
  | .o2 m o p q s t =>
   f10_j3 k m o p q s t
theorem f10_e_ok (k c r) (a:f10_e k c=some r):finK Tryd.prog Tryd.f10 0 (EX 10 k (nav B10 []) (⟨33,[(0,.agg [.sl 11 (rowsOf encT47 c)])],[]⟩:St))=some r.st:=by
 unfold f10_e at a
 obtain ⟨o1,x,a⟩:=bs a
 have b:=f10_l1_ok k k c ((List.length c):Int) 0 [] [] _ x
 simp only [W,simprocAttr,xk B10 [] .sq rfl,rg B10 [1] 0 false rfl,hr_10_0,t_31,xk B10 [2] .sq rfl,rg B10 [1,2] 1 false rfl,hr_10_1,xk B10 [2,2] .sq rfl,sr 10 2 B10 [1,2,2] rfl rfl rfl,fieldAddrV,t_29,xk B10 [2,1,2,2] (.bk 0) rfl,xk B10 [2,2,1,2,2] .lp rfl,hh_10_3,hc_10_3]
 (try simp only [NM,EE] at b)
 rw [b _ (by simp only [W,simprocAttr,hh_10_3,hc_10_3])]
 clear b
 cases o1 with
 | o0 y z n v7 v8 v9 d e f g h i j l m o p =>
  (try dsimp only at a)
  have hJ:=f10_j2_ok k y z n v7 v8 v9 d e f g h i j l m o p _ a
  simp only [W,simprocAttr,R10_l1.st]
  try simp only [NM,EE] at hJ
  exact hJ
 | o1 _ _ _ _ _ =>
  (try dsimp only at a)
  cases a
 | o2 q s t u v w =>
  (try dsimp only at a)
  have hJ:=f10_j3_ok k q s t u v w _ a
  simp only [W,simprocAttr,R10_l1.st]
  try simp only [NM,EE] at hJ
  exact hJ
noncomputable def f10 (k:Nat) (a:List T47):Option R10:=match k with | 0=>none | k+1=>f10_e k a
theorem f10_ok (k a r) (b:f10 k a=some r):CV k 10 [.agg [.sl 11 (rowsOf encT47 a)]] []=some r.st:=by
 cases k with
 | zero=>cases b
 | succ k =>
  unfold CV
  rw [ev_call (F:=Tryd.f10) (c:=(nav B10 [])) rfl Tryd.func10 rfl rfl rfl rfl]
  exact f10_e_ok k a r b
-- f36: f36 heliograph/plan.within
inductive R36 where
 | o0 (y:Bool)
noncomputable def R36.st:R36→V×List O×List O
 | .o0 y=>(jT y,[],[])
noncomputable def f36_e (k:Nat) (a b c:Int):Option R36 :=
 cond ((decide (a≥b)))
  (some (.o0 (decide (a≤c))))
  (some (.o0 false))
theorem f36_e_ok (k c d e r) (a:f36_e k c d e=some r):finK Tryd.prog Tryd.f36 0 (EX 36 k (nav B36 []) (⟨15,[(0,jI c),(1,jI d),(2,jI e)],[]⟩:St))=some r.st:=by
 unfold f36_e at a
 simp only [W,simprocAttr,sr 36 0 B36 [] rfl rfl rfl,sr 36 1 B36 [2] rfl rfl rfl]
 rcases cond_some a with ⟨b,a⟩ | ⟨b,a⟩
 ·cases a
  simp only [W,simprocAttr,xk B36 [2,2] .rt rfl,fin36,R36.st,b]
 ·cases a
  simp only [W,simprocAttr,xk B36 [2,2] .rt rfl,fin36,R36.st,b]
noncomputable def f36 (k:Nat) (a b c:Int):Option R36:=match k with | 0=>none | k+1=>f36_e k a b c
theorem f36_ok (k a b d r) (e:f36 k a b d=some r):CV k 36 [jI a,jI b,jI d] []=some r.st:=by
 cases k with
 | zero=>cases e
 | succ k =>
  unfold CV
  rw [ev_call (F:=Tryd.f36) (c:=(nav B36 [])) rfl Tryd.func36 rfl rfl rfl rfl]
  exact f36_e_ok k a b d r e
end Go.Proofs.YtiompmmbjpjjeaaDoorV