/- What the program's functions answer: plain functions,and that the interpreter answers what they do. Written by a program of this session,out of the translation. -/
import Derived.Test.YtiompmmbjpjjeaaDoorVP13
namespace Go.Proofs.YtiompmmbjpjjeaaDoorV
open Go
set_option linter.unusedVariables false
set_option linter.unusedSimpArgs false
set_option maxRecDepth 8000
set_option maxHeartbeats 4000000
-- f38: f38 (heliograph/plan.search).arrives
inductive R38 where
 | o0 (y:Int) (a:Bool)
noncomputable def R38.st:R38→V×List O×List O
 | .o0 y a=>(V.tup [jI y,jT a],[],[])
inductive R38_s1_l1_l1 where
 | o0 (y a b c:Int) (d:List T54) (e:List Int) (f:Int) (g:List Int) (h i:List Bool)
 | o1 (y a b:Int) (c:Bool) (d:Int) (e:List T54) (f:List Int) (g:Int) (h:List Int) (i j:List Bool)
noncomputable def R38_s1_l1_l1.st:R38_s1_l1_l1→Out×St
 | .o0 y a b c d e f g h i=>(.norm,(⟨99,[(2,jI y),(4,.ptr 30000 0),(10,.ptr 30001 0),(11,.ptr 30002 0),(12,.ptr 30003 0),(13,jI a),(14,jI b)],[(30000,.box 85 [jI c,.sl 6 (rowsOf encT54 d),.sl 1 (rowsOf (encI .i64) e),jI f]),(30001,.box 107 (arrC (cI .i64) g)),(30002,.box 108 (arrC cB h)),(30003,.box 108 (arrC cB i))]⟩:St))
 | .o1 y a b c d e f g h i j=>(.exit 2,(⟨99,[(2,jI y),(4,.ptr 30000 0),(10,.ptr 30001 0),(11,.ptr 30002 0),(12,.ptr 30003 0),(13,jI a),(14,jI b),(27,jT c)],[(30000,.box 85 [jI d,.sl 6 (rowsOf encT54 e),.sl 1 (rowsOf (encI .i64) f),jI g]),(30001,.box 107 (arrC (cI .i64) h)),(30002,.box 108 (arrC cB i)),(30003,.box 108 (arrC cB j))]⟩:St))
noncomputable def f38_s1_l1_l1_j2 (k:Nat) (j d e f:Int) (a:List T54) (b:List Int) (c:Int) (g:List Int) (h i:List Bool):Option R38_s1_l1_l1 :=
 some (R38_s1_l1_l1.o0 j d (IntKind.i64.wrap (e+(1:Int))) f a b c g h i)
theorem f38_s1_l1_l1_j2_ok (k j d e f a b c g h i r) (l:f38_s1_l1_l1_j2 k j d e f a b c g h i=some r):EX 38 k (nav B38 [2,2,1,2,2,1,2,2,1,2,1,2,2,2,2,1,2]) (⟨99,[(2,jI j),(4,.ptr 30000 0),(10,.ptr 30001 0),(11,.ptr 30002 0),(12,.ptr 30003 0),(13,jI d),(14,jI e)],[(30000,.box 85 [jI f,.sl 6 (rowsOf encT54 a),.sl 1 (rowsOf (encI .i64) b),jI c]),(30001,.box 107 (arrC (cI .i64) g)),(30002,.box 108 (arrC cB h)),(30003,.box 108 (arrC cB i))]⟩:St)=some r.st:=by
 unfold f38_s1_l1_l1_j2 at l
 cases l
 simp only [W,simprocAttr,rg B38 [2,2,1,2,2,1,2,2,1,2,1,2,2,2,2,1,2] 7 false rfl,hr 38 7 rfl,R38_s1_l1_l1.st]
noncomputable def f38_s1_l1_l1_j3 (k:Nat) (j d e:Int) (l:Bool) (f:Int) (a:List T54) (b:List Int) (c:Int) (g:List Int) (h i:List Bool):Option R38_s1_l1_l1 :=
 some (R38_s1_l1_l1.o0 j d (IntKind.i64.wrap (e+(1:Int))) f a b c g h i)
theorem f38_s1_l1_l1_j3_ok (k l d e f g a b c h i j r) (m:f38_s1_l1_l1_j3 k l d e f g a b c h i j=some r):EX 38 k (nav B38 [2,2,1,2,2,1,2,2,1,2,1,2,2,2,2,1,2]) (⟨99,[(2,jI l),(4,.ptr 30000 0),(10,.ptr 30001 0),(11,.ptr 30002 0),(12,.ptr 30003 0),(13,jI d),(14,jI e),(51,jT f)],[(30000,.box 85 [jI g,.sl 6 (rowsOf encT54 a),.sl 1 (rowsOf (encI .i64) b),jI c]),(30001,.box 107 (arrC (cI .i64) h)),(30002,.box 108 (arrC cB i)),(30003,.box 108 (arrC cB j))]⟩:St)=some r.st:=by
 unfold f38_s1_l1_l1_j3 at m
 cases m
 simp only [W,simprocAttr,rg B38 [2,2,1,2,2,1,2,2,1,2,1,2,2,2,2,1,2] 7 false rfl,hr 38 7 rfl,R38_s1_l1_l1.st]
noncomputable def f38_s1_l1_l1_j1 (k:Nat) (j e a:Int) (o:Bool) (i:Int) (b:List T54) (c:List Int) (d:Int) (f:List Int) (g h:List Bool):Option R38_s1_l1_l1 :=
 ifE ((0:Int)≤a) (
  ifE (a<7) (
   Option.bind (List.head? (List.drop (Int.toNat a) g)) fun p =>
    cond (p)
     (
      Option.bind (List.head? (List.drop (Int.toNat a) h)) fun q =>
       cond ((!q))
        (
         cond ((e==0))
          (f38_s1_l1_l1_j2 k j a a i b c d f g h)
          (
           Option.bind (List.head? (List.drop (Int.toNat a) f)) fun l =>
            ifE ((0:Int)≤e) (
             ifE (e<7) (
              Option.bind (List.head? (List.drop (Int.toNat e) f)) fun m =>
               cond ((decide (l<m)))
                (f38_s1_l1_l1_j2 k j a a i b c d f g h)
                (f38_s1_l1_l1_j3 k j e a false i b c d f g h)))))
        (f38_s1_l1_l1_j3 k j e a false i b c d f g h))
     (f38_s1_l1_l1_j3 k j e a false i b c d f g h)))
theorem f38_s1_l1_l1_j1_ok (k q j e z f b c d g h i r) (a:f38_s1_l1_l1_j1 k q j e z f b c d g h i=some r):EX 38 k (nav B38 [2,1,2,2,1,2,2,1,2,1,2,2,2,2,1,2]) (⟨99,[(2,jI q),(4,.ptr 30000 0),(10,.ptr 30001 0),(11,.ptr 30002 0),(12,.ptr 30003 0),(13,jI j),(14,jI e),(27,jT z)],[(30000,.box 85 [jI f,.sl 6 (rowsOf encT54 b),.sl 1 (rowsOf (encI .i64) c),jI d]),(30001,.box 107 (arrC (cI .i64) g)),(30002,.box 108 (arrC cB h)),(30003,.box 108 (arrC cB i))]⟩:St)=some r.st:=by
 unfold f38_s1_l1_l1_j1 at a
 obtain ⟨l,a⟩:=ifE_some.1 a
 obtain ⟨m,a⟩:=ifE_some.1 a
 obtain ⟨v3,o,a⟩:=bs a
 simp (disch:=first|decide|apply K;kernel_rfl) only [W,simprocAttr,xk B38 [2,1,2,2,1,2,2,1,2,1,2,2,2,2,1,2] .sq rfl,xk B38 [1,2,1,2,2,1,2,2,1,2,1,2,2,2,2,1,2] (.bk 3) rfl,xk B38 [2,1,2,1,2,2,1,2,2,1,2,1,2,2,2,2,1,2] .sq rfl,rg B38 [1,2,1,2,1,2,2,1,2,2,1,2,1,2,2,2,2,1,2] 8 true rfl,hr 38 8 rfl,indexAddrV,t_108,t_4,l,m,o]
 rcases cond_some a with ⟨p,a⟩ | ⟨p,a⟩
 ·obtain ⟨v6,x,a⟩:=bs a
  simp (disch:=first|decide|apply K;kernel_rfl) only [W,simprocAttr,indexAddrV,t_108,t_4,l,m,o,p,x]
  rcases cond_some a with ⟨y,a⟩ | ⟨y,a⟩
  ·rcases cond_some a with ⟨n,a⟩ | ⟨n,a⟩
   ·have hJ:=f38_s1_l1_l1_j2_ok k q e e f b c d g h i _ a
    simp (disch:=first|decide|apply K;kernel_rfl) only [W,simprocAttr,xk B38 [2,2,1,2,1,2,2,1,2,2,1,2,1,2,2,2,2,1,2] (.cd 51) rfl,rg B38 [2,2,2,1,2,1,2,2,1,2,2,1,2,1,2,2,2,2,1,2] 9 false rfl,hr 38 9 rfl,l,m,o,p,x,y,n]
    try simp only [NM,EE] at hJ
    exact hJ
   ·obtain ⟨aa,s,a⟩:=bs a
    obtain ⟨t,a⟩:=ifE_some.1 a
    obtain ⟨u,a⟩:=ifE_some.1 a
    obtain ⟨ab,v,a⟩:=bs a
    simp (disch:=first|decide|apply K;kernel_rfl) only [W,simprocAttr,indexAddrV,t_107,t_3,xk B38 [2,2,1,2,1,2,2,1,2,2,1,2,1,2,2,2,2,1,2] (.cd 51) rfl,l,m,o,p,x,y,n,s,t,u,v]
    rcases cond_some a with ⟨w,a⟩ | ⟨w,a⟩
    ·have hJ:=f38_s1_l1_l1_j2_ok k q e e f b c d g h i _ a
     simp (disch:=first|decide|apply K;kernel_rfl) only [W,simprocAttr,rg B38 [2,2,2,1,2,1,2,2,1,2,2,1,2,1,2,2,2,2,1,2] 9 false rfl,hr 38 9 rfl,l,m,o,p,x,y,n,s,t,u,v,w]
     try simp only [NM,EE] at hJ
     exact hJ
    ·have hJ:=f38_s1_l1_l1_j3_ok k q j e false f b c d g h i _ a
     simp (disch:=first|decide|apply K;kernel_rfl) only [W,simprocAttr,xk B38 [3,2,2,1,2,1,2,2,1,2,2,1,2,1,2,2,2,2,1,2] .sk rfl,l,m,o,p,x,y,n,s,t,u,v,w]
     try simp only [NM,EE] at hJ
     exact hJ
  ·have hJ:=f38_s1_l1_l1_j3_ok k q j e false f b c d g h i _ a
   simp (disch:=first|decide|apply K;kernel_rfl) only [W,simprocAttr,xk B38 [2,2,1,2,1,2,2,1,2,2,1,2,1,2,2,2,2,1,2] (.cd 51) rfl,xk B38 [3,2,2,1,2,1,2,2,1,2,2,1,2,1,2,2,2,2,1,2] .sk rfl,l,m,o,p,x,y]
   try simp only [NM,EE] at hJ
   exact hJ
 ·have hJ:=f38_s1_l1_l1_j3_ok k q j e false f b c d g h i _ a
  simp (disch:=first|decide|apply K;kernel_rfl) only [W,simprocAttr,xk B38 [2,2,1,2,1,2,2,1,2,2,1,2,1,2,2,2,2,1,2] (.cd 51) rfl,xk B38 [3,2,2,1,2,1,2,2,1,2,2,1,2,1,2,2,2,2,1,2] .sk rfl,l,m,o,p]
  try simp only [NM,EE] at hJ
  exact hJ
noncomputable def f38_s1_l1_l1_b (k:Nat) (j f d e:Int) (a:List T54) (b:List Int) (c:Int) (g:List Int) (h i:List Bool):Option R38_s1_l1_l1 :=
 cond ((decide (d≤e)))
  (f38_s1_l1_l1_j1 k j f d true e a b c g h i)
  (some (R38_s1_l1_l1.o1 j f d false e a b c g h i))
theorem f38_s1_l1_l1_b_ok (k l d e f a b c g h i r) (j:f38_s1_l1_l1_b k l d e f a b c g h i=some r):EX 38 k (nav B38 [1,2,2,1,2,2,1,2,1,2,2,2,2,1,2]) (⟨99,[(2,jI l),(4,.ptr 30000 0),(10,.ptr 30001 0),(11,.ptr 30002 0),(12,.ptr 30003 0),(13,jI d),(14,jI e)],[(30000,.box 85 [jI f,.sl 6 (rowsOf encT54 a),.sl 1 (rowsOf (encI .i64) b),jI c]),(30001,.box 107 (arrC (cI .i64) g)),(30002,.box 108 (arrC cB h)),(30003,.box 108 (arrC cB i))]⟩:St)=some r.st:=by
 unfold f38_s1_l1_l1_b at j
 simp only [W,simprocAttr,xk B38 [1,2,2,1,2,2,1,2,1,2,2,2,2,1,2] .sq rfl,sr 38 6 B38 [1,1,2,2,1,2,2,1,2,1,2,2,2,2,1,2] rfl rfl rfl,fieldAddrV,t_85,t_24,t_3,xk B38 [2,1,1,2,2,1,2,2,1,2,1,2,2,2,2,1,2] (.cd 27) rfl]
 rcases cond_some j with ⟨m,j⟩ | ⟨m,j⟩
 ·have hJ:=f38_s1_l1_l1_j1_ok k l d e true f a b c g h i _ j
  simp only [W,simprocAttr,xk B38 [2,2,1,1,2,2,1,2,2,1,2,1,2,2,2,2,1,2] .sk rfl,m]
  try simp only [NM,EE] at hJ
  exact hJ
 ·cases j
  simp only [W,simprocAttr,xk B38 [3,2,1,1,2,2,1,2,2,1,2,1,2,2,2,2,1,2] (.ex 2) rfl,R38_s1_l1_l1.st,m]
noncomputable def f38_s1_l1_l1 (k:Nat):Nat→Int→Int→Int→Int→(List T54)→(List Int)→Int→(List Int)→(List Bool)→(List Bool)→Option R38_s1_l1_l1
 | 0,_,_,_,_,_,_,_,_,_,_=>none
 | n+1,x,q,s,t,a,b,c,u,v,w=>Option.bind (f38_s1_l1_l1_b k x q s t a b c u v w) fun o =>
  match o with
  | .o0 y d e f g h i j l m=>f38_s1_l1_l1 k n y d e f g h i j l m
  | .o1 y d e f g h i j l m p=>some (.o1 y d e f g h i j l m p)
theorem f38_s1_l1_l1_ok (k n:Nat):∀ (m d e f:Int) (a:List T54) (b:List Int) (c:Int) (g:List Int) (i j:List Bool) (r:R38_s1_l1_l1) (l:f38_s1_l1_l1 k n m d e f a b c g i j=some r) (σ:St) (hσ:headR (hints.head 38 6) (hints.canon 38 6) σ=some (⟨99,[(2,jI m),(4,.ptr 30000 0),(10,.ptr 30001 0),(11,.ptr 30002 0),(12,.ptr 30003 0),(13,jI d),(14,jI e)],[(30000,.box 85 [jI f,.sl 6 (rowsOf encT54 a),.sl 1 (rowsOf (encI .i64) b),jI c]),(30001,.box 107 (arrC (cI .i64) g)),(30002,.box 108 (arrC cB i)),(30003,.box 108 (arrC cB j))]⟩:St)),LP 38 k (nav B38 [1,2,2,1,2,2,1,2,1,2,2,2,2,1,2]) n σ=some r.st:=by
 induction n with
 | zero=>intro m d e f a b c g i j r l;cases l
 | succ n ih =>
  intro m d e f a b c g i j r l σ hσ
  rw [f38_s1_l1_l1] at l
  obtain ⟨o,h,l⟩:=Option.bind_eq_some_iff.1 l
  have hB:=f38_s1_l1_l1_b_ok k m d e f a b c g i j o h
  unfold LP at ih ⊢
  unfold EX at hB
  rw [loopK_succ,show firstReg (nav B38 [1,2,2,1,2,2,1,2,1,2,2,2,2,1,2])=6 from rfl,hσ,headK_some,hB]
  cases o with
  | o0 y p q s t u v w x z =>
   refine ih y p q s t u v w x z r l _ ?_
   simp only [W,simprocAttr,hh_38_6,hc_38_6]
  | o1 y p q s t u v w x z ab=>cases l;rfl
inductive R38_s1_l1 where
 | o0 (y a:Int) (b:Bool) (c:Int) (d:List T54) (e:List Int) (f:Int) (g:List Int) (h i:List Bool)
 | o1 (y a:Int) (b:List T54) (c:List Int) (d:Int) (e:List Int) (f g:List Bool)
noncomputable def R38_s1_l1.st:R38_s1_l1→Out×St
 | .o0 y a b c d e f g h i=>(.exit 0,(⟨99,[(2,jI y),(4,.ptr 30000 0),(10,.ptr 30001 0),(11,.ptr 30002 0),(12,.ptr 30003 0),(13,jI a),(59,jT b)],[(30000,.box 85 [jI c,.sl 6 (rowsOf encT54 d),.sl 1 (rowsOf (encI .i64) e),jI f]),(30001,.box 107 (arrC (cI .i64) g)),(30002,.box 108 (arrC cB h)),(30003,.box 108 (arrC cB i))]⟩:St))
 | .o1 y a b c d e f g=>(.norm,(⟨99,[(2,jI y),(4,.ptr 30000 0),(10,.ptr 30001 0),(11,.ptr 30002 0),(12,.ptr 30003 0)],[(30000,.box 85 [jI a,.sl 6 (rowsOf encT54 b),.sl 1 (rowsOf (encI .i64) c),jI d]),(30001,.box 107 (arrC (cI .i64) e)),(30002,.box 108 (arrC cB f)),(30003,.box 108 (arrC cB g))]⟩:St))
noncomputable def f38_s1_l1_j3 (k:Nat) (w a:Int) (x:Bool) (f:Int) (b:List T54) (c:List Int) (d:Int) (g:List Int) (h e:List Bool):Option R38_s1_l1 :=
 ifE ((0:Int)≤a) (
  ifE (a<7) (
   ifE (((Int.toNat a)+1)≤(List.length e)) (
    Option.bind (List.head? (List.drop (Int.toNat a) g)) fun y =>
     Option.bind (f37 k f b c d a y) fun o6 =>
      match o6 with
      | .o0 z i j l m o =>
       Option.bind (f55a k f b c d g h z i j l m o) fun o15 =>
        match o15 with
        | .o0 p q s t u v r n aa ab ac ad =>
         some (R38_s1_l1.o1 w p q s t u v (((List.take (Int.toNat a) e)++(true::(List.drop ((Int.toNat a)+1) e))))))))
theorem f38_s1_l1_j3_ok (k v g j e a b c h i l r) (d:f38_s1_l1_j3 k v g j e a b c h i l=some r):blockK 1 (EX 38 k (nav B38 [2,2,2,2,1,2,1,2,2,2,2,1,2]) (⟨99,[(2,jI v),(4,.ptr 30000 0),(10,.ptr 30001 0),(11,.ptr 30002 0),(12,.ptr 30003 0),(13,jI g),(59,jT j)],[(30000,.box 85 [jI e,.sl 6 (rowsOf encT54 a),.sl 1 (rowsOf (encI .i64) b),jI c]),(30001,.box 107 (arrC (cI .i64) h)),(30002,.box 108 (arrC cB i)),(30003,.box 108 (arrC cB l))]⟩:St))=some r.st:=by
 unfold f38_s1_l1_j3 at d
 obtain ⟨w,d⟩:=ifE_some.1 d
 obtain ⟨x,d⟩:=ifE_some.1 d
 obtain ⟨y,d⟩:=ifE_some.1 d
 obtain ⟨z,n,d⟩:=bs d
 obtain ⟨o6,h7,d⟩:=bs d
 have m:=f37_ok k e a b c g z _ h7
 cases o6 with
 | o0 v9 o p q s t =>
  (try dsimp only at d)
  (try simp only [NM,EE,R37.st] at m)
  obtain ⟨o15,u,d⟩:=bs d
  have f:=f55a_ok k e a b c h i v9 o p q s t _ u
  cases o15 with
  | o0 ac ad ae af ag ah ai aj ak al am an =>
   (try dsimp only at d)
   (try simp only [NM,EE,R55a.st] at f)
   cases d
   simp (disch:=first|decide|apply K;kernel_rfl) only [W,simprocAttr,sr 38 11 B38 [2,2,2,2,1,2,1,2,2,2,2,1,2] rfl rfl rfl,indexAddrV,t_108,t_4,xk B38 [2,2,2,2,2,1,2,1,2,2,2,2,1,2] .sq rfl,rg B38 [1,2,2,2,2,2,1,2,1,2,2,2,2,1,2] 12 true rfl,hr 38 12 rfl,t_85,t_107,t_3,callStep,CL,gv,List.contains,xk B38 [2,2,2,2,2,2,1,2,1,2,2,2,2,1,2] (.bk 4) rfl,xk B38 [2,2,2,2,2,2,2,1,2,1,2,2,2,2,1,2] (.rf (.tmp 67) [68,69] 15) rfl,hh_38_1000015,hk_38_1000015,R38_s1_l1.st,w,x,y,n,m,f]
noncomputable def f38_s1_l1_j2 (k:Nat) (i d j:Int) (l:Bool) (e:Int) (a:List T54) (b:List Int) (c:Int) (f:List Int) (g h:List Bool):Option R38_s1_l1 :=
 cond ((d==0))
  (some (R38_s1_l1.o0 i d true e a b c f g h))
  (
   cond ((d==i))
    (some (R38_s1_l1.o0 i d true e a b c f g h))
    (f38_s1_l1_j3 k i d false e a b c f g h))
theorem f38_s1_l1_j2_ok (k o e j l f a b c g h i r) (d:f38_s1_l1_j2 k o e j l f a b c g h i=some r):blockK 1 (EX 38 k (nav B38 [2,2,2,1,2,1,2,2,2,2,1,2]) (⟨99,[(2,jI o),(4,.ptr 30000 0),(10,.ptr 30001 0),(11,.ptr 30002 0),(12,.ptr 30003 0),(13,jI e),(14,jI j),(27,jT l)],[(30000,.box 85 [jI f,.sl 6 (rowsOf encT54 a),.sl 1 (rowsOf (encI .i64) b),jI c]),(30001,.box 107 (arrC (cI .i64) g)),(30002,.box 108 (arrC cB h)),(30003,.box 108 (arrC cB i))]⟩:St))=some r.st:=by
 unfold f38_s1_l1_j2 at d
 simp only [W,simprocAttr,xk B38 [2,2,2,1,2,1,2,2,2,2,1,2] .sq rfl,sr 38 10 B38 [1,2,2,2,1,2,1,2,2,2,2,1,2] rfl rfl rfl]
 rcases cond_some d with ⟨m,d⟩ | ⟨m,d⟩
 ·cases d
  simp only [W,simprocAttr,xk B38 [2,1,2,2,2,1,2,1,2,2,2,2,1,2] (.cd 59) rfl,xk B38 [2,2,1,2,2,2,1,2,1,2,2,2,2,1,2] (.ex 0) rfl,R38_s1_l1.st,m]
 ·simp only [W,simprocAttr,xk B38 [2,1,2,2,2,1,2,1,2,2,2,2,1,2] (.cd 59) rfl,m]
  rcases cond_some d with ⟨p,d⟩ | ⟨p,d⟩
  ·cases d
   simp only [W,simprocAttr,xk B38 [2,2,1,2,2,2,1,2,1,2,2,2,2,1,2] (.ex 0) rfl,R38_s1_l1.st,m,p]
  ·have hJ:=f38_s1_l1_j3_ok k o e false f a b c g h i _ d
   simp only [W,simprocAttr,xk B38 [3,2,1,2,2,2,1,2,1,2,2,2,2,1,2] .sk rfl,m,p]
   try simp only [NM,EE] at hJ
   exact hJ
noncomputable def f38_s1_l1_b (k:Nat) (o d:Int) (a:List T54) (b:List Int) (c:Int) (e:List Int) (f g:List Bool):Option R38_s1_l1 :=
 Option.bind (f38_s1_l1_l1 k k o 0 1 d a b c e f g) fun o1 =>
  match o1 with
  | .o0 _ _ _ _ _ _ _ _ _ _ =>
   none
  | .o1 p q s t u v h i j l m =>
   f38_s1_l1_j2 k p q s t u v h i j l m
theorem f38_s1_l1_b_ok (k j d a b c e f g r) (h:f38_s1_l1_b k j d a b c e f g=some r):EX 38 k (nav B38 [1,2,1,2,2,2,2,1,2]) (⟨99,[(2,jI j),(4,.ptr 30000 0),(10,.ptr 30001 0),(11,.ptr 30002 0),(12,.ptr 30003 0)],[(30000,.box 85 [jI d,.sl 6 (rowsOf encT54 a),.sl 1 (rowsOf (encI .i64) b),jI c]),(30001,.box 107 (arrC (cI .i64) e)),(30002,.box 108 (arrC cB f)),(30003,.box 108 (arrC cB g))]⟩:St)=some r.st:=by
 unfold f38_s1_l1_b at h
 obtain ⟨o1,s,h⟩:=bs h
 have i:=f38_s1_l1_l1_ok k k j 0 1 d a b c e f g _ s
 simp only [W,simprocAttr,xk B38 [1,2,1,2,2,2,2,1,2] (.bk 1) rfl,sr 38 4 B38 [2,1,2,1,2,2,2,2,1,2] rfl rfl rfl,xk B38 [2,2,1,2,1,2,2,2,2,1,2] .sq rfl,sr 38 5 B38 [1,2,2,1,2,1,2,2,2,2,1,2] rfl rfl rfl,xk B38 [2,1,2,2,1,2,1,2,2,2,2,1,2] (.bk 2) rfl,xk B38 [2,2,1,2,2,1,2,1,2,2,2,2,1,2] .lp rfl,hh_38_6,hc_38_6]
 (try simp only [NM,EE] at i)
 rw [i _ (by simp only [W,simprocAttr,hh_38_6,hc_38_6])]
 clear i
 cases o1 with
 | o0 _ _ _ _ _ _ _ _ _ _ =>
  (try dsimp only at h)
  cases h
 | o1 t u v w x y l m o p q =>
  (try dsimp only at h)
  have hJ:=f38_s1_l1_j2_ok k t u v w x y l m o p q _ h
  simp only [W,simprocAttr,R38_s1_l1_l1.st]
  try simp only [NM,EE] at hJ
  exact hJ
noncomputable def f38_s1_l1 (k:Nat):Nat→Int→Int→(List T54)→(List Int)→Int→(List Int)→(List Bool)→(List Bool)→Option R38_s1_l1
 | 0,_,_,_,_,_,_,_,_=>none
 | n+1,u,l,a,b,c,m,p,q=>Option.bind (f38_s1_l1_b k u l a b c m p q) fun o =>
  match o with
  | .o0 y d e f g h i j s t=>some (.o0 y d e f g h i j s t)
  | .o1 y d e f g h i j=>f38_s1_l1 k n y d e f g h i j
theorem f38_s1_l1_ok (k n:Nat):∀ (j d:Int) (a:List T54) (b:List Int) (c:Int) (e:List Int) (f g:List Bool) (r:R38_s1_l1) (i:f38_s1_l1 k n j d a b c e f g=some r) (σ:St) (hσ:headR (hints.head 38 4) (hints.canon 38 4) σ=some (⟨99,[(2,jI j),(4,.ptr 30000 0),(10,.ptr 30001 0),(11,.ptr 30002 0),(12,.ptr 30003 0)],[(30000,.box 85 [jI d,.sl 6 (rowsOf encT54 a),.sl 1 (rowsOf (encI .i64) b),jI c]),(30001,.box 107 (arrC (cI .i64) e)),(30002,.box 108 (arrC cB f)),(30003,.box 108 (arrC cB g))]⟩:St)),LP 38 k (nav B38 [1,2,1,2,2,2,2,1,2]) n σ=some r.st:=by
 induction n with
 | zero=>intro j d a b c e f g r i;cases i
 | succ n v =>
  intro j d a b c e f g r i σ hσ
  rw [f38_s1_l1] at i
  obtain ⟨o,h,i⟩:=Option.bind_eq_some_iff.1 i
  have hB:=f38_s1_l1_b_ok k j d a b c e f g o h
  unfold LP at v ⊢
  unfold EX at hB
  rw [loopK_succ,show firstReg (nav B38 [1,2,1,2,2,2,2,1,2])=4 from rfl,hσ,headK_some,hB]
  cases o with
  | o0 y l m p q s t u w x=>cases i;rfl
  | o1 y l m p q s t u =>
   refine v y l m p q s t u r i _ ?_
   simp only [W,simprocAttr,hh_38_4,hc_38_4]
inductive R38_s1 where
 | o0 (y:Int) (a:Bool)
noncomputable def R38_s1.st:R38_s1→Out×St
 | .o0 y a=>(.ret,(⟨99,[(8,jI y),(9,jT a)],[]⟩:St))
noncomputable def f38_s1_j2 (k:Nat) (a g:Int) (h:Bool) (i:Int) (b:List T54) (c:List Int) (d:Int) (e:List Int) (f j:List Bool):Option R38_s1 :=
 ifE ((0:Int)≤a) (
  ifE (a<7) (
   Option.bind (List.head? (List.drop (Int.toNat a) e)) fun l =>
    Option.bind (List.head? (List.drop (Int.toNat a) f)) fun m =>
     some (R38_s1.o0 l m)))
theorem f38_s1_j2_ok (k l e f g a b c h i j r) (d:f38_s1_j2 k l e f g a b c h i j=some r):EX 38 k (nav B38 [2,2,2,2,2,1,2]) (⟨99,[(2,jI l),(4,.ptr 30000 0),(10,.ptr 30001 0),(11,.ptr 30002 0),(12,.ptr 30003 0),(13,jI e),(59,jT f)],[(30000,.box 85 [jI g,.sl 6 (rowsOf encT54 a),.sl 1 (rowsOf (encI .i64) b),jI c]),(30001,.box 107 (arrC (cI .i64) h)),(30002,.box 108 (arrC cB i)),(30003,.box 108 (arrC cB j))]⟩:St)=some r.st:=by
 unfold f38_s1_j2 at d
 obtain ⟨m,d⟩:=ifE_some.1 d
 obtain ⟨o,d⟩:=ifE_some.1 d
 obtain ⟨s,p,d⟩:=bs d
 obtain ⟨t,q,d⟩:=bs d
 cases d
 simp (disch:=first|decide|apply K;kernel_rfl) only [W,simprocAttr,xk B38 [2,2,2,2,2,1,2] .sq rfl,rg B38 [1,2,2,2,2,2,1,2] 18 true rfl,hr 38 18 rfl,indexAddrV,t_107,t_3,t_108,t_4,xk B38 [2,2,2,2,2,2,1,2] .rt rfl,R38_s1.st,m,o,p,q]
noncomputable def f38_s1_b (k:Nat) (a q s t:Int) (b:List T54) (c:List Int) (d:Int):Option R38_s1 :=
 ifE ((0:Int)≤a) (
  ifE (a<7) (
   ifE (((Int.toNat a)+1)≤7) (
    Option.bind (f38_s1_l1 k k q t b c d (((List.take (Int.toNat a) (List.replicate 7 (0:Int)))++(s::(List.drop ((Int.toNat a)+1) (List.replicate 7 (0:Int)))))) (((List.take (Int.toNat a) (List.replicate 7 (false:Bool)))++(true::(List.drop ((Int.toNat a)+1) (List.replicate 7 (false:Bool)))))) (List.replicate 7 (false:Bool))) fun o7 =>
     match o7 with
     | .o0 e f g h i j l m o p =>
      f38_s1_j2 k e f g h i j l m o p
     | .o1 _ _ _ _ _ _ _ _ =>
      none)))
theorem f38_s1_b_ok (k f g h i b c d r) (a:f38_s1_b k f g h i b c d=some r):EX 38 k (nav B38 [1,2]) (⟨99,[(1,jI f),(2,jI g),(3,jI h),(4,.ptr 4 0)],[(4,.box 85 [jI i,.sl 6 (rowsOf encT54 b),.sl 1 (rowsOf (encI .i64) c),jI d])]⟩:St)=some r.st:=by
 unfold f38_s1_b at a
 have j:[jI 0,jI 0,jI 0,jI 0,jI 0,jI 0,jI 0]=arrC (cI .i64) (List.replicate 7 (0:Int)):=rfl
 have l:[jT false,jT false,jT false,jT false,jT false,jT false,jT false]=arrC cB (List.replicate 7 (false:Bool)):=rfl
 have m:[jT false,jT false,jT false,jT false,jT false,jT false,jT false]=arrC cB (List.replicate 7 (false:Bool)):=rfl
 obtain ⟨o,a⟩:=ifE_some.1 a
 obtain ⟨p,a⟩:=ifE_some.1 a
 obtain ⟨q,a⟩:=ifE_some.1 a
 obtain ⟨o7,h8,a⟩:=bs a
 have e:=f38_s1_l1_ok k k g i b c d (((List.take (Int.toNat f) (List.replicate 7 (0:Int)))++(h::(List.drop ((Int.toNat f)+1) (List.replicate 7 (0:Int)))))) (((List.take (Int.toNat f) (List.replicate 7 (false:Bool)))++(true::(List.drop ((Int.toNat f)+1) (List.replicate 7 (false:Bool)))))) (List.replicate 7 (false:Bool)) _ h8
 simp only [W,simprocAttr,sr 38 1 B38 [1,2] rfl rfl rfl,t_107,sr 38 2 B38 [2,1,2] rfl rfl rfl,t_108,sr 38 3 B38 [2,2,1,2] rfl rfl rfl,indexAddrV,t_3,t_4,xk B38 [2,2,2,1,2] .sq rfl,xk B38 [1,2,2,2,1,2] (.lb 0) rfl,xk B38 [2,2,2,2,1,2] .sq rfl,xk B38 [1,2,2,2,2,1,2] (.bk 0) rfl,xk B38 [2,1,2,2,2,2,1,2] .lp rfl,hh_38_4,hc_38_4,j,l,m,o,p,q]
 (try simp only [NM,EE] at e)
 rw [e _ (by simp only [W,simprocAttr,hh_38_4,hc_38_4,j,l,m,o,p,q])]
 clear e
 cases o7 with
 | o0 s t u v w x y z n aa =>
  (try dsimp only at a)
  have hJ:=f38_s1_j2_ok k s t u v w x y z n aa _ a
  simp only [W,simprocAttr,R38_s1_l1.st,j,l,m,o,p,q]
  try simp only [NM,EE] at hJ
  exact hJ
 | o1 _ _ _ _ _ _ _ _ =>
  (try dsimp only at a)
  cases a
noncomputable def f38_s1 (k:Nat) (e f g h:Int) (a:List T54) (b:List Int) (c:Int):Option R38_s1:=Option.bind (f38_s1_b k e f g h a b c) fun o =>
 match o with
 | .o0 y d=>some (.o0 y d)
theorem f38_s1_ok (k e f g i a b c r) (d:f38_s1 k e f g i a b c=some r):EX 38 k (nav B38 [2]) (⟨99,[(1,jI e),(2,jI f),(3,jI g),(4,.ptr 4 0)],[(4,.box 85 [jI i,.sl 6 (rowsOf encT54 a),.sl 1 (rowsOf (encI .i64) b),jI c])]⟩:St)=some r.st:=by
 unfold f38_s1 at d
 obtain ⟨o,h,d⟩:=Option.bind_eq_some_iff.1 d
 unfold EX
 rw [show (nav B38 [2])=Code.scope (nav B38 [1,2]) from rfl,ev_scope,(show exec _ _ _ _ _ _ _ _=_ from f38_s1_b_ok k e f g i a b c o h)]
 cases o with
 | o0 y j=>cases d;simp only [R38_s1.st,jumpsK_norm,jumpsK_ret,jumpsK_exit]
noncomputable def f38_e (k:Nat) (d:Int) (a:List T54) (b:List Int) (c e f g:Int):Option R38 :=
 Option.bind (f38_s1 k e f g d a b c) fun o1 =>
  match o1 with
  | .o0 h i =>
   some (.o0 h i)
theorem f38_e_ok (k f a b c g h i r) (d:f38_e k f a b c g h i=some r):finK Tryd.prog Tryd.f38 0 (EX 38 k (nav B38 []) (⟨99,[(0,.agg [jI f,.sl 6 (rowsOf encT54 a),.sl 1 (rowsOf (encI .i64) b),jI c]),(1,jI g),(2,jI h),(3,jI i)],[]⟩:St))=some r.st:=by
 unfold f38_e at d
 simp only [W,simprocAttr,sr 38 0 B38 [] rfl rfl rfl]
 obtain ⟨o1,j,d⟩:=bs d
 have e:=f38_s1_ok k g h i f a b c _ j
 cases o1 with
 | o0 l m =>
  (try dsimp only at d)
  (try simp only [NM,EE,R38_s1.st] at e)
  cases d
  simp only [W,simprocAttr,R38_s1.st,fin38,R38.st,e]
noncomputable def f38 (k:Nat) (d:Int) (a:List T54) (b:List Int) (c e f g:Int):Option R38:=match k with | 0=>none | k+1=>f38_e k d a b c e f g
theorem f38_ok (k e a b d f g h r) (i:f38 k e a b d f g h=some r):CV k 38 [.agg [jI e,.sl 6 (rowsOf encT54 a),.sl 1 (rowsOf (encI .i64) b),jI d],jI f,jI g,jI h] []=some r.st:=by
 cases k with
 | zero=>cases i
 | succ k =>
  unfold CV
  rw [ev_call (F:=Tryd.f38) (c:=(nav B38 [])) rfl Tryd.func38 rfl rfl rfl rfl]
  exact f38_e_ok k e a b d f g h r i
-- f999999999b: f14 heliograph/plan.Route
inductive R999999999b where
 | o0 (y:Int) (a:List T54) (b c:Int) (d:List T54) (e:List Int) (f g h:Int)
noncomputable def R999999999b.st:R999999999b→V×List O×List O
 | .o0 y a b c d e f g h=>(jT true,[O.lp 14 105 [(6,.ptr 1000001 0),(9,.ptr 1000002 0),(16,.ptr 1000003 0),(17,.ptr 1000004 0),(18,.ptr 1000005 0)] [74,75] (nav B14 [3,2,2,1,2,2,2,2,2]) (nav B14 [4,2,2,1,2,2,2,2,2]) 0 .norm,.box 24 [jI y,.sl 6 (rowsOf encT54 a)],.box 3 [jI b],.box 85 [jI c,.sl 6 (rowsOf encT54 d),.sl 1 (rowsOf (encI .i64) e),jI f],.box 3 [jI g],.box 3 [jI h]],[])
noncomputable def f999999999b_e (k:Nat) (g m h:Int) (a:List T54) (e f:Int) (b:List T54) (c:List Int) (d i j:Int):Option R999999999b :=
 ifE ((0:Int)≤g) (
  Option.bind (a[(Int.toNat g)]?) fun o =>
   Option.bind (f38 k f b c d o.To e m) fun o4 =>
    match o4 with
    | .o0 l p =>
     cond (p)
      (
       cond ((decide (i<0)))
        (some (.o0 h a e f b c d g l))
        (
         cond ((decide (l<j)))
          (some (.o0 h a e f b c d g l))
          (some (.o0 h a e f b c d i j))))
      (some (.o0 h a e f b c d i j)))
theorem f999999999b_e_ok (k q m s g o p c d e t u r) (a:f999999999b_e k q m s g o p c d e t u=some r):roundB 1000000 6 (roundA Tryd.prog (callV Tryd.prog ctx hints k) hints 14 k 1000000 (nav B14 [4,2,2,1,2,2,2,2,2]) (EX 14 k (nav B14 [3,2,2,1,2,2,2,2,2]) (⟨105,[(75,jI m),(74,jI q),(6,.ptr 1000001 0),(9,.ptr 1000002 0),(16,.ptr 1000003 0),(17,.ptr 1000004 0),(18,.ptr 1000005 0)],[(1000000,O.lp 14 105 [(6,.ptr 1000001 0),(9,.ptr 1000002 0),(16,.ptr 1000003 0),(17,.ptr 1000004 0),(18,.ptr 1000005 0)] [74,75] (nav B14 [3,2,2,1,2,2,2,2,2]) (nav B14 [4,2,2,1,2,2,2,2,2]) 0 .norm),(1000001,.box 24 [jI s,.sl 6 (rowsOf encT54 g)]),(1000002,.box 3 [jI o]),(1000003,.box 85 [jI p,.sl 6 (rowsOf encT54 c),.sl 1 (rowsOf (encI .i64) d),jI e]),(1000004,.box 3 [jI t]),(1000005,.box 3 [jI u])]⟩:St)))=some r.st:=by
 unfold f999999999b_e at a
 obtain ⟨h,a⟩:=ifE_some.1 a
 obtain ⟨v,i,a⟩:=bs a
 obtain ⟨o4,w,a⟩:=bs a
 have b:=f38_ok k p c d e v.To o m _ w
 cases o4 with
 | o0 x y =>
  (try dsimp only at a)
  (try simp only [NM,EE,R38.st] at b)
  simp (disch:=first|decide|apply K;kernel_rfl) only [W,simprocAttr,sr 14 9 B14 [3,2,2,1,2,2,2,2,2] rfl rfl rfl,rg B14 [2,3,2,2,1,2,2,2,2,2] 10 false rfl,hr 14 10 rfl,xk B14 [4,2,2,1,2,2,2,2,2] (.bk 1) rfl,xk B14 [2,4,2,2,1,2,2,2,2,2] .sq rfl,rg B14 [1,2,4,2,2,1,2,2,2,2,2] 11 true rfl,hr 14 11 rfl,t_85,fieldAddrV,t_24,t_22,indexAddrV,t_54,encT54_eq,t_3,callStep,CL,gv,List.contains,sr 14 12 B14 [2,2,4,2,2,1,2,2,2,2,2] rfl rfl rfl,h,i,b]
  rcases cond_some a with ⟨j,a⟩ | ⟨j,a⟩
  ·simp (disch:=first|decide|apply K;kernel_rfl) only [W,simprocAttr,t_3,h,i,b,j]
   rcases cond_some a with ⟨f,a⟩ | ⟨f,a⟩
   ·cases a
    simp (disch:=first|decide|apply K;kernel_rfl) only [W,simprocAttr,xk B14 [2,2,2,4,2,2,1,2,2,2,2,2] (.cd 98) rfl,rg B14 [2,2,2,2,4,2,2,1,2,2,2,2,2] 13 false rfl,hr 14 13 rfl,t_3,R999999999b.st,h,i,b,j,f]
   ·simp (disch:=first|decide|apply K;kernel_rfl) only [W,simprocAttr,t_3,xk B14 [2,2,2,4,2,2,1,2,2,2,2,2] (.cd 98) rfl,h,i,b,j,f]
    rcases cond_some a with ⟨l,a⟩ | ⟨l,a⟩
    ·cases a
     simp (disch:=first|decide|apply K;kernel_rfl) only [W,simprocAttr,rg B14 [2,2,2,2,4,2,2,1,2,2,2,2,2] 13 false rfl,hr 14 13 rfl,t_3,R999999999b.st,h,i,b,j,f,l]
    ·cases a
     simp (disch:=first|decide|apply K;kernel_rfl) only [W,simprocAttr,xk B14 [3,2,2,2,4,2,2,1,2,2,2,2,2] .sk rfl,R999999999b.st,h,i,b,j,f,l]
  ·cases a
   simp (disch:=first|decide|apply K;kernel_rfl) only [W,simprocAttr,xk B14 [2,2,2,4,2,2,1,2,2,2,2,2] (.cd 98) rfl,xk B14 [3,2,2,2,4,2,2,1,2,2,2,2,2] .sk rfl,R999999999b.st,h,i,b,j]
noncomputable def f999999999b (k:Nat) (e f g:Int) (a:List T54) (h i:Int) (b:List T54) (c:List Int) (d j l:Int):Option R999999999b:=match k with | 0=>none | k+1=>f999999999b_e k e f g a h i b c d j l
theorem f999999999b_ok (k g h i c j l d e f m o r) (p:f999999999b k g h i c j l d e f m o=some r):CV k 999999999 [jI g,jI h,V.yld 1000000] [O.lp 14 105 [(6,.ptr 1000001 0),(9,.ptr 1000002 0),(16,.ptr 1000003 0),(17,.ptr 1000004 0),(18,.ptr 1000005 0)] [74,75] (nav B14 [3,2,2,1,2,2,2,2,2]) (nav B14 [4,2,2,1,2,2,2,2,2]) 0 .norm,.box 24 [jI i,.sl 6 (rowsOf encT54 c)],.box 3 [jI j],.box 85 [jI l,.sl 6 (rowsOf encT54 d),.sl 1 (rowsOf (encI .i64) e),jI f],.box 3 [jI m],.box 3 [jI o]]=some r.st:=by
 cases k with
 | zero=>cases p
 | succ k =>
  unfold CV
  rw [ev_round (id:=1000000) (fn:=14) (n:=105) (ps:=[74,75]) (a:=(nav B14 [3,2,2,1,2,2,2,2,2])) (b:=(nav B14 [4,2,2,1,2,2,2,2,2])) rfl rfl rfl rfl rfl (by kernel_rfl) (by kernel_rfl)]
  exact f999999999b_e_ok k g h i c j l d e f m o r p
end Go.Proofs.YtiompmmbjpjjeaaDoorV