/- What the program's functions answer: plain functions,and that the interpreter answers what they do. Written by a program of this session,out of the translation. -/
import Derived.Test.YticggdfaehneeaaVP5
namespace Go.Proofs.YticggdfaehneeaaV
open Go
set_option linter.unusedVariables false
set_option linter.unusedSimpArgs false
set_option maxRecDepth 8000
set_option maxHeartbeats 4000000
-- f19: f19 heliograph/agent.Check
inductive R19 where
 | o0 (y:Int)
noncomputable def R19.st:R19→V×List O×List O
 | .o0 y=>((jI y),[],[])
inductive R19_l2 where
 | o0 (y:Int)
 | o1 (y:List T65) (a b c d:Int) (e:List T65) (f:List T39)
 | o2 (y:List T65) (a b:Int) (c:Bool) (d e:Int) (f:List T65) (g:List T39)
noncomputable def R19_l2.st:R19_l2→Out×St
 | .o0 y=>(.ret,(⟨112,[(2,jI y)],[]⟩:St))
 | .o1 y a b c d e f=>(.norm,(⟨112,[(1,.ptr 30000 0),(31,.sl 4 (rowsOf encT65 y)),(32,jI a),(33,jI b)],[(30000,.box 26 [jI c,jU d,.sl 4 (rowsOf encT65 e),.sl 11 (rowsOf encT39 f)])]⟩:St))
 | .o2 y a b c d e f g=>(.exit 0,(⟨112,[(1,.ptr 30000 0),(31,.sl 4 (rowsOf encT65 y)),(32,jI a),(33,jI b),(34,.p (.bool c))],[(30000,.box 26 [jI d,jU e,.sl 4 (rowsOf encT65 f),.sl 11 (rowsOf encT39 g)])]⟩:St))
noncomputable def f19_l2_j2 (k:Nat) (d:List T65) (e f:Int) (h:Bool) (g a:Int) (b:List T65) (c:List T39):Option R19_l2 :=
 some (.o1 d e (IntKind.i64.wrap (f+(1:Int))) g a b c)
theorem f19_l2_j2_ok (k d e f g h a b c r) (i:f19_l2_j2 k d e f g h a b c=some r):EX 19 k (nav B19 [2,2,2,1,2,2,1,2,2]) (⟨112,[(1,.ptr 30000 0),(31,.sl 4 (rowsOf encT65 d)),(32,jI e),(33,jI f),(73,.p (.bool g))],[(30000,.box 26 [jI h,jU a,.sl 4 (rowsOf encT65 b),.sl 11 (rowsOf encT39 c)])]⟩:St)=some r.st:=by
 unfold f19_l2_j2 at i
 cases i
 simp (disch:=first|apply D;decide|apply K;kernel_rfl) only [E,EE,↓reduceIte,simprocAttr,rg B19 [2,2,2,1,2,2,1,2,2] 8 false rfl,hr 19 8 rfl,R19_l2.st]
noncomputable def f19_l2_j1 (k:Nat) (f:List T65) (g b:Int) (m:Bool) (h d:Int) (a:List T65) (e:List T39):Option R19_l2 :=
 ifE ((0:Int)≤b) (
  Option.bind (f[(Int.toNat b)]?) fun c =>
   Option.bind (f23 k c.Key_Source 1 6) fun o4 =>
    match o4 with
    | .o0 o =>
     cond ((!o))
      (some (.o0 290))
      (
       cond ((c.Key_Seq==0))
        (some (.o0 290))
        (
         Option.bind (f23 k c.Key_Offset 0 400) fun o10 =>
          match o10 with
          | .o0 i =>
           cond ((!i))
            (some (.o0 290))
            (
             Option.bind (f23 k c.N 1 (IntKind.i64.wrap ((400:Int) - c.Key_Offset))) fun o15 =>
              match o15 with
              | .o0 j =>
               cond ((!j))
                (some (.o0 290))
                (
                 Option.bind (f33 k a c.Key_Source c.Key_Seq c.Key_Offset c.N) fun o20 =>
                  match o20 with
                  | .o0 l =>
                   cond ((l != b))
                    (some (.o0 290))
                    (f19_l2_j2 k f g b false h d a e))))))
theorem f19_l2_j1_ok (k s t u x v f e g r) (a:f19_l2_j1 k s t u x v f e g=some r):EX 19 k (nav B19 [2,2,1,2,2,1,2,2]) (⟨112,[(1,.ptr 30000 0),(31,.sl 4 (rowsOf encT65 s)),(32,jI t),(33,jI u),(34,.p (.bool x))],[(30000,.box 26 [jI v,jU f,.sl 4 (rowsOf encT65 e),.sl 11 (rowsOf encT39 g)])]⟩:St)=some r.st:=by
 unfold f19_l2_j1 at a
 obtain ⟨j,a⟩:=ifE_some.1 a
 obtain ⟨q,l,a⟩:=bs a
 obtain ⟨o4,h5,a⟩:=bs a
 have c:=f23_ok k q.Key_Source 1 6 _ h5
 cases o4 with
 | o0 v7 =>
  (try dsimp only at a)
  (try simp only [NM,EE,R23.st] at c)
  simp (disch:=first|apply D;decide|apply K;kernel_rfl) only [E,EE,↓reduceIte,simprocAttr,xk B19 [2,2,1,2,2,1,2,2] .sq rfl,xk B19 [1,2,2,1,2,2,1,2,2] (.bk 1) rfl,xk B19 [2,1,2,2,1,2,2,1,2,2] .sq rfl,rg B19 [1,2,1,2,2,1,2,2,1,2,2] 5 false rfl,hr 19 5 rfl,indexAddrV,t_23,t_65,encT65_eq,xk B19 [2,2,1,2,2,1,2,2,1,2,2] .sq rfl,rg B19 [1,2,2,1,2,2,1,2,2,1,2,2] 6 false rfl,hr 19 6 rfl,fieldAddrV,t_63,t_3,callStep,CL,gv,List.contains,j,l,c]
  rcases cond_some a with ⟨m,a⟩ | ⟨m,a⟩
  ·cases a
   simp (disch:=first|apply D;decide|apply K;kernel_rfl) only [E,EE,↓reduceIte,simprocAttr,xk B19 [2,2,2,1,2,2,1,2,2,1,2,2] (.cd 73) rfl,xk B19 [2,2,2,2,1,2,2,1,2,2,1,2,2] .sq rfl,rg B19 [1,2,2,2,2,1,2,2,1,2,2,1,2,2] 7 false rfl,hr 19 7 rfl,xk B19 [2,2,2,2,2,1,2,2,1,2,2,1,2,2] .rt rfl,R19_l2.st,j,l,c,m]
  ·simp (disch:=first|apply D;decide|apply K;kernel_rfl) only [E,EE,↓reduceIte,simprocAttr,fieldAddrV,t_65,t_63,t_22,j,l,c,m]
   rcases cond_some a with ⟨p,a⟩ | ⟨p,a⟩
   ·cases a
    simp (disch:=first|apply D;decide|apply K;kernel_rfl) only [E,EE,↓reduceIte,simprocAttr,xk B19 [2,2,2,1,2,2,1,2,2,1,2,2] (.cd 73) rfl,xk B19 [2,2,2,2,1,2,2,1,2,2,1,2,2] .sq rfl,rg B19 [1,2,2,2,2,1,2,2,1,2,2,1,2,2] 7 false rfl,hr 19 7 rfl,xk B19 [2,2,2,2,2,1,2,2,1,2,2,1,2,2] .rt rfl,R19_l2.st,j,l,c,m,p]
   ·obtain ⟨o10,y,a⟩:=bs a
    have b:=f23_ok k q.Key_Offset 0 400 _ y
    cases o10 with
    | o0 ab =>
     (try dsimp only at a)
     (try simp only [NM,EE,R23.st] at b)
     simp (disch:=first|apply D;decide|apply K;kernel_rfl) only [E,EE,↓reduceIte,simprocAttr,fieldAddrV,t_65,t_63,t_3,callStep,CL,gv,List.contains,j,l,c,m,p,b]
     rcases cond_some a with ⟨h,a⟩ | ⟨h,a⟩
     ·cases a
      simp (disch:=first|apply D;decide|apply K;kernel_rfl) only [E,EE,↓reduceIte,simprocAttr,xk B19 [2,2,2,1,2,2,1,2,2,1,2,2] (.cd 73) rfl,xk B19 [2,2,2,2,1,2,2,1,2,2,1,2,2] .sq rfl,rg B19 [1,2,2,2,2,1,2,2,1,2,2,1,2,2] 7 false rfl,hr 19 7 rfl,xk B19 [2,2,2,2,2,1,2,2,1,2,2,1,2,2] .rt rfl,R19_l2.st,j,l,c,m,p,b,h]
     ·obtain ⟨o15,z,a⟩:=bs a
      have d:=f23_ok k q.N 1 (IntKind.i64.wrap ((400:Int) - q.Key_Offset)) _ z
      cases o15 with
      | o0 ac =>
       (try dsimp only at a)
       (try simp only [NM,EE,R23.st] at d)
       simp (disch:=first|apply D;decide|apply K;kernel_rfl) only [E,EE,↓reduceIte,simprocAttr,fieldAddrV,t_65,t_3,t_63,callStep,CL,gv,List.contains,j,l,c,m,p,b,h,d]
       rcases cond_some a with ⟨o,a⟩ | ⟨o,a⟩
       ·cases a
        simp (disch:=first|apply D;decide|apply K;kernel_rfl) only [E,EE,↓reduceIte,simprocAttr,xk B19 [2,2,2,1,2,2,1,2,2,1,2,2] (.cd 73) rfl,xk B19 [2,2,2,2,1,2,2,1,2,2,1,2,2] .sq rfl,rg B19 [1,2,2,2,2,1,2,2,1,2,2,1,2,2] 7 false rfl,hr 19 7 rfl,xk B19 [2,2,2,2,2,1,2,2,1,2,2,1,2,2] .rt rfl,R19_l2.st,j,l,c,m,p,b,h,d,o]
       ·obtain ⟨o20,n,a⟩:=bs a
        have i:=f33_ok k e q.Key_Source q.Key_Seq q.Key_Offset q.N _ n
        cases o20 with
        | o0 ad =>
         (try dsimp only at a)
         (try simp only [NM,EE,R33.st] at i)
         simp (disch:=first|apply D;decide|apply K;kernel_rfl) only [E,EE,↓reduceIte,simprocAttr,fieldAddrV,t_26,t_23,t_65,callStep,CL,gv,List.contains,xk B19 [2,2,2,1,2,2,1,2,2,1,2,2] (.cd 73) rfl,j,l,c,m,p,b,h,d,o,i]
         rcases cond_some a with ⟨w,a⟩ | ⟨w,a⟩
         ·cases a
          simp (disch:=first|apply D;decide|apply K;kernel_rfl) only [E,EE,↓reduceIte,simprocAttr,xk B19 [2,2,2,2,1,2,2,1,2,2,1,2,2] .sq rfl,rg B19 [1,2,2,2,2,1,2,2,1,2,2,1,2,2] 7 false rfl,hr 19 7 rfl,xk B19 [2,2,2,2,2,1,2,2,1,2,2,1,2,2] .rt rfl,R19_l2.st,j,l,c,m,p,b,h,d,o,i,w]
         ·have hJ:=f19_l2_j2_ok k s t u false v f e g _ a
          simp (disch:=first|apply D;decide|apply K;kernel_rfl) only [E,EE,↓reduceIte,simprocAttr,xk B19 [3,2,2,2,1,2,2,1,2,2,1,2,2] .sk rfl,j,l,c,m,p,b,h,d,o,i,w]
          try simp only [NM,EE] at hJ
          exact hJ
noncomputable def f19_l2_b (k:Nat) (f:List T65) (d e g a:Int) (b:List T65) (c:List T39):Option R19_l2 :=
 cond ((decide (e<d)))
  (f19_l2_j1 k f d e true g a b c)
  (some (.o2 f d e false g a b c))
theorem f19_l2_b_ok (k d e f g a b c r) (h:f19_l2_b k d e f g a b c=some r):EX 19 k (nav B19 [1,2,2,1,2,2]) (⟨112,[(1,.ptr 30000 0),(31,.sl 4 (rowsOf encT65 d)),(32,jI e),(33,jI f)],[(30000,.box 26 [jI g,jU a,.sl 4 (rowsOf encT65 b),.sl 11 (rowsOf encT39 c)])]⟩:St)=some r.st:=by
 unfold f19_l2_b at h
 simp (disch:=first|apply D;decide|apply K;kernel_rfl) only [E,EE,↓reduceIte,simprocAttr,xk B19 [1,2,2,1,2,2] .sq rfl,rg B19 [1,1,2,2,1,2,2] 4 false rfl,hr 19 4 rfl,xk B19 [2,1,2,2,1,2,2] .sq rfl,xk B19 [1,2,1,2,2,1,2,2] (.cd 34) rfl]
 rcases cond_some h with ⟨i,h⟩ | ⟨i,h⟩
 ·have hJ:=f19_l2_j1_ok k d e f true g a b c _ h
  simp (disch:=first|apply D;decide|apply K;kernel_rfl) only [E,EE,↓reduceIte,simprocAttr,xk B19 [2,1,2,1,2,2,1,2,2] .sk rfl,i]
  try simp only [NM,EE] at hJ
  exact hJ
 ·cases h
  simp (disch:=first|apply D;decide|apply K;kernel_rfl) only [E,EE,↓reduceIte,simprocAttr,xk B19 [3,1,2,1,2,2,1,2,2] (.ex 0) rfl,R19_l2.st,i]
noncomputable def f19_l2 (k:Nat):Nat→(List T65)→Int→Int→Int→Int→(List T65)→(List T39)→Option R19_l2
 | 0,_,_,_,_,_,_,_=>none
 | n+1,j,l,m,p,a,b,c=>Option.bind (f19_l2_b k j l m p a b c) fun o =>
  match o with
  | .o0 y=>some (.o0 y)
  | .o1 y d e f g h i=>f19_l2 k n y d e f g h i
  | .o2 y d e f g h i q=>some (.o2 y d e f g h i q)
theorem f19_l2_ok (k n:Nat):∀ (d:List T65) (e f g a:Int) (b:List T65) (c:List T39) (r:R19_l2) (i:f19_l2 k n d e f g a b c=some r) (σ:St) (hσ:headR (hints.head 19 4) (hints.canon 19 4) σ=some (⟨112,[(1,.ptr 30000 0),(31,.sl 4 (rowsOf encT65 d)),(32,jI e),(33,jI f)],[(30000,.box 26 [jI g,jU a,.sl 4 (rowsOf encT65 b),.sl 11 (rowsOf encT39 c)])]⟩:St)),LP 19 k (nav B19 [1,2,2,1,2,2]) n σ=some r.st:=by
 induction n with
 | zero=>intro d e f g a b c r i;cases i
 | succ n t =>
  intro d e f g a b c r i σ hσ
  rw [f19_l2] at i
  obtain ⟨o,h,i⟩:=Option.bind_eq_some_iff.1 i
  have hB:=f19_l2_b_ok k d e f g a b c o h
  unfold LP at t ⊢
  unfold EX at hB
  rw [loopK_succ,show firstReg (nav B19 [1,2,2,1,2,2])=4 from rfl,hσ,headK_some,hB]
  cases o with
  | o0 y=>cases i;rfl
  | o1 y j l m p q s =>
   refine t y j l m p q s r i _ ?_
   simp (disch:=first|apply D;decide|apply K;kernel_rfl) only [E,EE,↓reduceIte,simprocAttr,hh_19_4,hc_19_4]
  | o2 y j l m p q s u=>cases i;rfl
inductive R19_l4 where
 | o0 (y:Int)
 | o1 (y:List T39) (a b c d:Int) (e:List T65) (f:List T39)
 | o2 (y:List T39) (a b:Int) (c:Bool) (d e:Int) (f:List T65) (g:List T39)
noncomputable def R19_l4.st:R19_l4→Out×St
 | .o0 y=>(.ret,(⟨112,[(2,jI y)],[]⟩:St))
 | .o1 y a b c d e f=>(.norm,(⟨112,[(1,.ptr 30000 0),(76,.sl 11 (rowsOf encT39 y)),(77,jI a),(78,jI b)],[(30000,.box 26 [jI c,jU d,.sl 4 (rowsOf encT65 e),.sl 11 (rowsOf encT39 f)])]⟩:St))
 | .o2 y a b c d e f g=>(.exit 2,(⟨112,[(1,.ptr 30000 0),(76,.sl 11 (rowsOf encT39 y)),(77,jI a),(78,jI b),(79,.p (.bool c))],[(30000,.box 26 [jI d,jU e,.sl 4 (rowsOf encT65 f),.sl 11 (rowsOf encT39 g)])]⟩:St))
noncomputable def f19_l4_j3 (k:Nat) (d:List T39) (e f:Int) (h:Bool) (g a:Int) (b:List T65) (c:List T39):Option R19_l4 :=
 some (.o1 d e (IntKind.i64.wrap (f+(1:Int))) g a b c)
theorem f19_l4_j3_ok (k e f g d h a b c r) (i:f19_l4_j3 k e f g d h a b c=some r):EX 19 k (nav B19 [2,2,2,1,2,2,1,2,2,2]) (⟨112,[(1,.ptr 30000 0),(76,.sl 11 (rowsOf encT39 e)),(77,jI f),(78,jI g),(110,.p (.bool d))],[(30000,.box 26 [jI h,jU a,.sl 4 (rowsOf encT65 b),.sl 11 (rowsOf encT39 c)])]⟩:St)=some r.st:=by
 unfold f19_l4_j3 at i
 cases i
 simp (disch:=first|apply D;decide|apply K;kernel_rfl) only [E,EE,↓reduceIte,simprocAttr,rg B19 [2,2,2,1,2,2,1,2,2,2] 17 false rfl,hr 19 17 rfl,R19_l4.st]
noncomputable def f19_l4_j2 (k:Nat) (q:List T39) (s t:Int) (w:Bool) (e a:Int) (b:List T65) (c:List T39) (x f g h i j l m o p:Int) (d:List Int):Option R19_l4 :=
 Option.bind (f37 k x f g h i j l m o p d) fun o1 =>
  match o1 with
  | .o0 y z =>
   Option.bind (f36b k e a b c y z) fun o6 =>
    match o6 with
    | .o0 r =>
     Option.bind (f35 k r) fun o10 =>
      match o10 with
      | .o0 u v =>
       cond ((u != 0))
        (some (.o0 290))
        (
         cond ((((List.length v):Int)==0))
          (some (.o0 290))
          (f19_l4_j3 k q s t false e a b c))
theorem f19_l4_j2_ok (k w x y n v b c d m6 i j l m o p q s t f r) (e:f19_l4_j2 k w x y n v b c d m6 i j l m o p q s t f=some r):SQ 19 k (nav B19 [2,2,2,1,2,2,1,2,2,2]) (blockK 3 (EX 19 k (nav B19 [2,2,2,1,2,2,1,2,2,1,2,2,2]) (⟨112,[(1,.ptr 30000 0),(6,.ptr 6 0),(76,.sl 11 (rowsOf encT39 w)),(77,jI x),(78,jI y),(95,.p (.bool n))],[(30000,.box 26 [jI v,jU b,.sl 4 (rowsOf encT65 c),.sl 11 (rowsOf encT39 d)]),(6,.box 39 [jI m6,jI i,jU j,jI l,jI m,jI o,jI p,jI q,jI s,jI t,.sl 1 (rowsOf (encI .u8) f)])]⟩:St)))=some r.st:=by
 unfold f19_l4_j2 at e
 obtain ⟨o1,h2,e⟩:=bs e
 have g:=f37_ok k m6 i j l m o p q s t f _ h2
 cases o1 with
 | o0 v4 v5 =>
  (try dsimp only at e)
  (try simp only [NM,EE,R37.st] at g)
  obtain ⟨o6,h7,e⟩:=bs e
  have h:=f36b_ok k v b c d v4 v5 _ h7
  cases o6 with
  | o0 v9 =>
   (try dsimp only at e)
   (try simp only [NM,EE,R36b.st] at h)
   obtain ⟨o10,ab,e⟩:=bs e
   have a:=f35_ok k v9 _ ab
   cases o10 with
   | o0 ah ai =>
    (try dsimp only at e)
    (try simp only [NM,EE,R35.st] at a)
    simp (disch:=first|apply D;decide|apply K;kernel_rfl) only [E,EE,↓reduceIte,simprocAttr,xk B19 [2,2,2,1,2,2,1,2,2,1,2,2,2] .sq rfl,rg B19 [1,2,2,2,1,2,2,1,2,2,1,2,2,2] 14 true rfl,hr 19 14 rfl,t_26,t_39,callStep,CL,gv,List.contains,xk B19 [2,2,2,2,1,2,2,1,2,2,1,2,2,2] .sq rfl,rg B19 [1,2,2,2,2,1,2,2,1,2,2,1,2,2,2] 15 false rfl,hr 19 15 rfl,g,h,a]
    rcases cond_some e with ⟨u,e⟩ | ⟨u,e⟩
    ·cases e
     simp (disch:=first|apply D;decide|apply K;kernel_rfl) only [E,EE,↓reduceIte,simprocAttr,xk B19 [2,2,2,2,2,1,2,2,1,2,2,1,2,2,2] (.cd 110) rfl,xk B19 [2,2,2,2,2,2,1,2,2,1,2,2,1,2,2,2] .sq rfl,rg B19 [1,2,2,2,2,2,2,1,2,2,1,2,2,1,2,2,2] 16 false rfl,hr 19 16 rfl,xk B19 [2,2,2,2,2,2,2,1,2,2,1,2,2,1,2,2,2] .rt rfl,R19_l4.st,g,h,a,u]
    ·simp (disch:=first|apply D;decide|apply K;kernel_rfl) only [E,EE,↓reduceIte,simprocAttr,t_74,xk B19 [2,2,2,2,2,1,2,2,1,2,2,1,2,2,2] (.cd 110) rfl,g,h,a,u]
     rcases cond_some e with ⟨z,e⟩ | ⟨z,e⟩
     ·cases e
      simp (disch:=first|apply D;decide|apply K;kernel_rfl) only [E,EE,↓reduceIte,simprocAttr,xk B19 [2,2,2,2,2,2,1,2,2,1,2,2,1,2,2,2] .sq rfl,rg B19 [1,2,2,2,2,2,2,1,2,2,1,2,2,1,2,2,2] 16 false rfl,hr 19 16 rfl,xk B19 [2,2,2,2,2,2,2,1,2,2,1,2,2,1,2,2,2] .rt rfl,R19_l4.st,g,h,a,u,z]
     ·have hJ:=f19_l4_j3_ok k w x y false v b c d _ e
      simp (disch:=first|apply D;decide|apply K;kernel_rfl) only [E,EE,↓reduceIte,simprocAttr,xk B19 [3,2,2,2,2,2,1,2,2,1,2,2,1,2,2,2] .sk rfl,g,h,a,u,z]
      try simp only [NM,EE] at hJ
      exact hJ
noncomputable def f19_l4_j1 (k:Nat) (f:List T39) (h b:Int) (j:Bool) (g c:Int) (d:List T65) (e:List T39):Option R19_l4 :=
 ifE ((0:Int)≤b) (
  Option.bind (f[(Int.toNat b)]?) fun a =>
   Option.bind (f24 k a.Source a.Dest a.Seq a.Created a.Lifetime a.HopLimit a.Hops a.Priority a.Offset a.Total a.Payload) fun o4 =>
    match o4 with
    | .o0 l =>
     cond ((l != 0))
      (some (.o0 290))
      (
       cond ((a.Dest != g))
        (some (.o0 290))
        (
         Option.bind (f34 k a.Source a.Dest a.Seq a.Created a.Lifetime a.HopLimit a.Hops a.Priority a.Offset a.Total a.Payload) fun o10 =>
          match o10 with
          | .o0 i =>
           cond (i)
            (some (.o0 290))
            (f19_l4_j2 k f h b false g c d e a.Source a.Dest a.Seq a.Created a.Lifetime a.HopLimit a.Hops a.Priority a.Offset a.Total a.Payload))))
theorem f19_l4_j1_ok (k h i j s l d e f r) (b:f19_l4_j1 k h i j s l d e f=some r):EX 19 k (nav B19 [2,2,1,2,2,1,2,2,2]) (⟨112,[(1,.ptr 30000 0),(76,.sl 11 (rowsOf encT39 h)),(77,jI i),(78,jI j),(79,.p (.bool s))],[(30000,.box 26 [jI l,jU d,.sl 4 (rowsOf encT65 e),.sl 11 (rowsOf encT39 f)])]⟩:St)=some r.st:=by
 unfold f19_l4_j1 at b
 obtain ⟨m,b⟩:=ifE_some.1 b
 obtain ⟨a,o,b⟩:=bs b
 obtain ⟨o4,v,b⟩:=bs b
 have c:=f24_ok k a.Source a.Dest a.Seq a.Created a.Lifetime a.HopLimit a.Hops a.Priority a.Offset a.Total a.Payload _ v
 cases o4 with
 | o0 x =>
  (try dsimp only at b)
  (try simp only [NM,EE,R24.st] at c)
  simp (disch:=first|apply D;decide|apply K;kernel_rfl) only [E,EE,↓reduceIte,simprocAttr,xk B19 [2,2,1,2,2,1,2,2,2] .sq rfl,xk B19 [1,2,2,1,2,2,1,2,2,2] (.bk 3) rfl,xk B19 [2,1,2,2,1,2,2,1,2,2,2] .sq rfl,rg B19 [1,2,1,2,2,1,2,2,1,2,2,2] 11 false rfl,hr 19 11 rfl,indexAddrV,t_24,t_39,encT39_eq,xk B19 [2,2,1,2,2,1,2,2,1,2,2,2] .sq rfl,xk B19 [1,2,2,1,2,2,1,2,2,1,2,2,2] .sq rfl,rg B19 [1,1,2,2,1,2,2,1,2,2,1,2,2,2] 12 false rfl,hr 19 12 rfl,callStep,CL,gv,List.contains,m,o,c]
  rcases cond_some b with ⟨p,b⟩ | ⟨p,b⟩
  ·cases b
   simp (disch:=first|apply D;decide|apply K;kernel_rfl) only [E,EE,↓reduceIte,simprocAttr,xk B19 [2,1,2,2,1,2,2,1,2,2,1,2,2,2] (.cd 95) rfl,xk B19 [2,2,1,2,2,1,2,2,1,2,2,1,2,2,2] .sq rfl,rg B19 [1,2,2,1,2,2,1,2,2,1,2,2,1,2,2,2] 13 false rfl,hr 19 13 rfl,xk B19 [2,2,2,1,2,2,1,2,2,1,2,2,1,2,2,2] .rt rfl,R19_l4.st,m,o,c,p]
  ·simp (disch:=first|apply D;decide|apply K;kernel_rfl) only [E,EE,↓reduceIte,simprocAttr,fieldAddrV,t_39,t_3,t_26,m,o,c,p]
   rcases cond_some b with ⟨t,b⟩ | ⟨t,b⟩
   ·cases b
    simp (disch:=first|apply D;decide|apply K;kernel_rfl) only [E,EE,↓reduceIte,simprocAttr,xk B19 [2,1,2,2,1,2,2,1,2,2,1,2,2,2] (.cd 95) rfl,xk B19 [2,2,1,2,2,1,2,2,1,2,2,1,2,2,2] .sq rfl,rg B19 [1,2,2,1,2,2,1,2,2,1,2,2,1,2,2,2] 13 false rfl,hr 19 13 rfl,xk B19 [2,2,2,1,2,2,1,2,2,1,2,2,1,2,2,2] .rt rfl,R19_l4.st,m,o,c,p,t]
   ·obtain ⟨o10,u,b⟩:=bs b
    have g:=f34_ok k a.Source a.Dest a.Seq a.Created a.Lifetime a.HopLimit a.Hops a.Priority a.Offset a.Total a.Payload _ u
    cases o10 with
    | o0 w =>
     (try dsimp only at b)
     (try simp only [NM,EE,R34.st] at g)
     simp (disch:=first|apply D;decide|apply K;kernel_rfl) only [E,EE,↓reduceIte,simprocAttr,t_39,callStep,CL,gv,List.contains,xk B19 [2,1,2,2,1,2,2,1,2,2,1,2,2,2] (.cd 95) rfl,m,o,c,p,t,g]
     rcases cond_some b with ⟨q,b⟩ | ⟨q,b⟩
     ·cases b
      simp (disch:=first|apply D;decide|apply K;kernel_rfl) only [E,EE,↓reduceIte,simprocAttr,xk B19 [2,2,1,2,2,1,2,2,1,2,2,1,2,2,2] .sq rfl,rg B19 [1,2,2,1,2,2,1,2,2,1,2,2,1,2,2,2] 13 false rfl,hr 19 13 rfl,xk B19 [2,2,2,1,2,2,1,2,2,1,2,2,1,2,2,2] .rt rfl,R19_l4.st,m,o,c,p,t,g,q]
     ·have hJ:=f19_l4_j2_ok k h i j false l d e f a.Source a.Dest a.Seq a.Created a.Lifetime a.HopLimit a.Hops a.Priority a.Offset a.Total a.Payload _ b
      simp (disch:=first|apply D;decide|apply K;kernel_rfl) only [E,EE,↓reduceIte,simprocAttr,xk B19 [3,2,1,2,2,1,2,2,1,2,2,1,2,2,2] .sk rfl,m,o,c,p,t,g,q]
      try simp only [NM,EE] at hJ
      exact hJ
noncomputable def f19_l4_b (k:Nat) (f:List T39) (d e g a:Int) (b:List T65) (c:List T39):Option R19_l4 :=
 cond ((decide (e<d)))
  (f19_l4_j1 k f d e true g a b c)
  (some (.o2 f d e false g a b c))
theorem f19_l4_b_ok (k d e f g a b c r) (h:f19_l4_b k d e f g a b c=some r):EX 19 k (nav B19 [1,2,2,1,2,2,2]) (⟨112,[(1,.ptr 30000 0),(76,.sl 11 (rowsOf encT39 d)),(77,jI e),(78,jI f)],[(30000,.box 26 [jI g,jU a,.sl 4 (rowsOf encT65 b),.sl 11 (rowsOf encT39 c)])]⟩:St)=some r.st:=by
 unfold f19_l4_b at h
 simp (disch:=first|apply D;decide|apply K;kernel_rfl) only [E,EE,↓reduceIte,simprocAttr,xk B19 [1,2,2,1,2,2,2] .sq rfl,rg B19 [1,1,2,2,1,2,2,2] 10 false rfl,hr 19 10 rfl,xk B19 [2,1,2,2,1,2,2,2] .sq rfl,xk B19 [1,2,1,2,2,1,2,2,2] (.cd 79) rfl]
 rcases cond_some h with ⟨i,h⟩ | ⟨i,h⟩
 ·have hJ:=f19_l4_j1_ok k d e f true g a b c _ h
  simp (disch:=first|apply D;decide|apply K;kernel_rfl) only [E,EE,↓reduceIte,simprocAttr,xk B19 [2,1,2,1,2,2,1,2,2,2] .sk rfl,i]
  try simp only [NM,EE] at hJ
  exact hJ
 ·cases h
  simp (disch:=first|apply D;decide|apply K;kernel_rfl) only [E,EE,↓reduceIte,simprocAttr,xk B19 [3,1,2,1,2,2,1,2,2,2] (.ex 2) rfl,R19_l4.st,i]
noncomputable def f19_l4 (k:Nat):Nat→(List T39)→Int→Int→Int→Int→(List T65)→(List T39)→Option R19_l4
 | 0,_,_,_,_,_,_,_=>none
 | n+1,j,l,m,p,a,b,c=>Option.bind (f19_l4_b k j l m p a b c) fun o =>
  match o with
  | .o0 y=>some (.o0 y)
  | .o1 y d e f g h i=>f19_l4 k n y d e f g h i
  | .o2 y d e f g h i q=>some (.o2 y d e f g h i q)
theorem f19_l4_ok (k n:Nat):∀ (d:List T39) (e f g a:Int) (b:List T65) (c:List T39) (r:R19_l4) (i:f19_l4 k n d e f g a b c=some r) (σ:St) (hσ:headR (hints.head 19 10) (hints.canon 19 10) σ=some (⟨112,[(1,.ptr 30000 0),(76,.sl 11 (rowsOf encT39 d)),(77,jI e),(78,jI f)],[(30000,.box 26 [jI g,jU a,.sl 4 (rowsOf encT65 b),.sl 11 (rowsOf encT39 c)])]⟩:St)),LP 19 k (nav B19 [1,2,2,1,2,2,2]) n σ=some r.st:=by
 induction n with
 | zero=>intro d e f g a b c r i;cases i
 | succ n t =>
  intro d e f g a b c r i σ hσ
  rw [f19_l4] at i
  obtain ⟨o,h,i⟩:=Option.bind_eq_some_iff.1 i
  have hB:=f19_l4_b_ok k d e f g a b c o h
  unfold LP at t ⊢
  unfold EX at hB
  rw [loopK_succ,show firstReg (nav B19 [1,2,2,1,2,2,2])=10 from rfl,hσ,headK_some,hB]
  cases o with
  | o0 y=>cases i;rfl
  | o1 y j l m p q s =>
   refine t y j l m p q s r i _ ?_
   simp (disch:=first|apply D;decide|apply K;kernel_rfl) only [E,EE,↓reduceIte,simprocAttr,hh_19_10,hc_19_10]
  | o2 y j l m p q s u=>cases i;rfl
noncomputable def f19_j5 (k:Nat) (d:List T39) (e f:Int) (g:Bool) (h a:Int) (b:List T65) (c:List T39):Option R19 :=
 some (.o0 0)
theorem f19_j5_ok (k d e f g h a b c r) (i:f19_j5 k d e f g h a b c=some r):finK Try.prog Try.f19 0 (EX 19 k (nav B19 [2,2,2,2]) (⟨112,[(1,.ptr 30000 0),(76,.sl 11 (rowsOf encT39 d)),(77,jI e),(78,jI f),(79,.p (.bool g))],[(30000,.box 26 [jI h,jU a,.sl 4 (rowsOf encT65 b),.sl 11 (rowsOf encT39 c)])]⟩:St))=some r.st:=by
 unfold f19_j5 at i
 cases i
 simp (disch:=first|apply D;decide|apply K;kernel_rfl) only [E,EE,↓reduceIte,simprocAttr,xk B19 [2,2,2,2] .sq rfl,rg B19 [1,2,2,2,2] 18 false rfl,hr 19 18 rfl,xk B19 [2,2,2,2,2] .rt rfl,fin19,R19.st]
noncomputable def f19_j3 (k:Nat) (h:List T65) (i j:Int) (l:Bool) (d b:Int) (c:List T65) (a:List T39):Option R19 :=
 Option.bind (f19_l4 k k a ((List.length a):Int) 0 d b c a) fun o1 =>
  match o1 with
  | .o0 m =>
   some (.o0 m)
  | .o1 _ _ _ _ _ _ _ =>
   none
  | .o2 o p q s t e f g =>
   f19_j5 k o p q s t e f g
theorem f19_j3_ok (k g h i j e b c a r) (d:f19_j3 k g h i j e b c a=some r):finK Try.prog Try.f19 0 (EX 19 k (nav B19 [2,2,2]) (⟨112,[(1,.ptr 30000 0),(31,.sl 4 (rowsOf encT65 g)),(32,jI h),(33,jI i),(34,.p (.bool j))],[(30000,.box 26 [jI e,jU b,.sl 4 (rowsOf encT65 c),.sl 11 (rowsOf encT39 a)])]⟩:St))=some r.st:=by
 unfold f19_j3 at d
 obtain ⟨o1,p,d⟩:=bs d
 have f:=f19_l4_ok k k a ((List.length a):Int) 0 e b c a _ p
 simp (disch:=first|apply D;decide|apply K;kernel_rfl) only [E,EE,↓reduceIte,simprocAttr,xk B19 [2,2,2] .sq rfl,xk B19 [1,2,2,2] .sq rfl,rg B19 [1,1,2,2,2] 9 false rfl,hr 19 9 rfl,fieldAddrV,t_26,t_24,xk B19 [2,1,2,2,2] (.bk 2) rfl,xk B19 [2,2,1,2,2,2] .lp rfl,hh_19_10,hc_19_10]
 (try simp only [NM,EE] at f)
 rw [f _ (by simp (disch:=first|apply D;decide|apply K;kernel_rfl) only [E,EE,↓reduceIte,simprocAttr,hh_19_10,hc_19_10])]
 clear f
 cases o1 with
 | o0 w =>
  (try dsimp only at d)
  cases d
  simp (disch:=first|apply D;decide|apply K;kernel_rfl) only [E,EE,↓reduceIte,simprocAttr,R19_l4.st,fin19,R19.st]
 | o1 _ _ _ _ _ _ _ =>
  (try dsimp only at d)
  cases d
 | o2 q s t u v l m o =>
  (try dsimp only at d)
  have hJ:=f19_j5_ok k q s t u v l m o _ d
  simp (disch:=first|apply D;decide|apply K;kernel_rfl) only [E,EE,↓reduceIte,simprocAttr,R19_l4.st]
  try simp only [NM,EE] at hJ
  exact hJ
noncomputable def f19_j1 (k:Nat) (g:Bool) (h b:Int) (a:List T65) (c:List T39):Option R19 :=
 Option.bind (f19_l2 k k a ((List.length a):Int) 0 h b a c) fun o1 =>
  match o1 with
  | .o0 i =>
   some (.o0 i)
  | .o1 _ _ _ _ _ _ _ =>
   none
  | .o2 j l m o p d e f =>
   f19_j3 k j l m o p d e f
theorem f19_j1_ok (k f g b a c r) (d:f19_j1 k f g b a c=some r):finK Try.prog Try.f19 0 (EX 19 k (nav B19 [2,2]) (⟨112,[(1,.ptr 1 0),(29,.p (.bool f))],[(1,.box 26 [jI g,jU b,.sl 4 (rowsOf encT65 a),.sl 11 (rowsOf encT39 c)])]⟩:St))=some r.st:=by
 unfold f19_j1 at d
 obtain ⟨o1,l,d⟩:=bs d
 have e:=f19_l2_ok k k a ((List.length a):Int) 0 g b a c _ l
 simp (disch:=first|apply D;decide|apply K;kernel_rfl) only [E,EE,↓reduceIte,simprocAttr,xk B19 [2,2] .sq rfl,xk B19 [1,2,2] .sq rfl,rg B19 [1,1,2,2] 3 false rfl,hr 19 3 rfl,fieldAddrV,t_26,t_23,xk B19 [2,1,2,2] (.bk 0) rfl,xk B19 [2,2,1,2,2] .lp rfl,hh_19_4,hc_19_4]
 (try simp only [NM,EE] at e)
 rw [e _ (by simp (disch:=first|apply D;decide|apply K;kernel_rfl) only [E,EE,↓reduceIte,simprocAttr,hh_19_4,hc_19_4])]
 clear e
 cases o1 with
 | o0 t =>
  (try dsimp only at d)
  cases d
  simp (disch:=first|apply D;decide|apply K;kernel_rfl) only [E,EE,↓reduceIte,simprocAttr,R19_l2.st,fin19,R19.st]
 | o1 _ _ _ _ _ _ _ =>
  (try dsimp only at d)
  cases d
 | o2 m o p q s h i j =>
  (try dsimp only at d)
  have hJ:=f19_j3_ok k m o p q s h i j _ d
  simp (disch:=first|apply D;decide|apply K;kernel_rfl) only [E,EE,↓reduceIte,simprocAttr,R19_l2.st]
  try simp only [NM,EE] at hJ
  exact hJ
noncomputable def f19_e (k:Nat) (d a:Int) (b:List T65) (c:List T39):Option R19 :=
 Option.bind (f23 k d 1 6) fun o1 =>
  match o1 with
  | .o0 e =>
   cond ((!e))
    (some (.o0 290))
    (
     cond ((a==0))
      (some (.o0 290))
      (
       cond ((decide (((List.length b):Int)>64)))
        (some (.o0 290))
        (
         cond ((decide (((List.length c):Int)>7)))
          (some (.o0 290))
          (f19_j1 k false d a b c))))
theorem f19_e_ok (k i c d e r) (a:f19_e k i c d e=some r):finK Try.prog Try.f19 0 (EX 19 k (nav B19 []) (⟨112,[(0,.agg [jI i,jU c,.sl 4 (rowsOf encT65 d),.sl 11 (rowsOf encT39 e)])],[]⟩:St))=some r.st:=by
 unfold f19_e at a
 obtain ⟨o1,l,a⟩:=bs a
 have b:=f23_ok k i 1 6 _ l
 cases o1 with
 | o0 m =>
  (try dsimp only at a)
  (try simp only [NM,EE,R23.st] at b)
  simp (disch:=first|apply D;decide|apply K;kernel_rfl) only [E,EE,↓reduceIte,simprocAttr,xk B19 [] .sq rfl,rg B19 [1] 0 false rfl,hr 19 0 rfl,xk B19 [2] .sq rfl,xk B19 [1,2] .sq rfl,rg B19 [1,1,2] 1 false rfl,hr 19 1 rfl,fieldAddrV,t_26,t_3,callStep,CL,gv,List.contains,b]
  rcases cond_some a with ⟨f,a⟩ | ⟨f,a⟩
  ·cases a
   simp (disch:=first|apply D;decide|apply K;kernel_rfl) only [E,EE,↓reduceIte,simprocAttr,xk B19 [2,1,2] (.cd 29) rfl,xk B19 [2,2,1,2] .sq rfl,rg B19 [1,2,2,1,2] 2 false rfl,hr 19 2 rfl,xk B19 [2,2,2,1,2] .rt rfl,fin19,R19.st,b,f]
  ·simp (disch:=first|apply D;decide|apply K;kernel_rfl) only [E,EE,↓reduceIte,simprocAttr,fieldAddrV,t_26,t_22,b,f]
   rcases cond_some a with ⟨g,a⟩ | ⟨g,a⟩
   ·cases a
    simp (disch:=first|apply D;decide|apply K;kernel_rfl) only [E,EE,↓reduceIte,simprocAttr,xk B19 [2,1,2] (.cd 29) rfl,xk B19 [2,2,1,2] .sq rfl,rg B19 [1,2,2,1,2] 2 false rfl,hr 19 2 rfl,xk B19 [2,2,2,1,2] .rt rfl,fin19,R19.st,b,f,g]
   ·simp (disch:=first|apply D;decide|apply K;kernel_rfl) only [E,EE,↓reduceIte,simprocAttr,fieldAddrV,t_26,t_23,b,f,g]
    rcases cond_some a with ⟨h,a⟩ | ⟨h,a⟩
    ·cases a
     simp (disch:=first|apply D;decide|apply K;kernel_rfl) only [E,EE,↓reduceIte,simprocAttr,xk B19 [2,1,2] (.cd 29) rfl,xk B19 [2,2,1,2] .sq rfl,rg B19 [1,2,2,1,2] 2 false rfl,hr 19 2 rfl,xk B19 [2,2,2,1,2] .rt rfl,fin19,R19.st,b,f,g,h]
    ·simp (disch:=first|apply D;decide|apply K;kernel_rfl) only [E,EE,↓reduceIte,simprocAttr,fieldAddrV,t_26,t_24,xk B19 [2,1,2] (.cd 29) rfl,b,f,g,h]
     rcases cond_some a with ⟨j,a⟩ | ⟨j,a⟩
     ·cases a
      simp (disch:=first|apply D;decide|apply K;kernel_rfl) only [E,EE,↓reduceIte,simprocAttr,xk B19 [2,2,1,2] .sq rfl,rg B19 [1,2,2,1,2] 2 false rfl,hr 19 2 rfl,xk B19 [2,2,2,1,2] .rt rfl,fin19,R19.st,b,f,g,h,j]
     ·have hJ:=f19_j1_ok k false i c d e _ a
      simp (disch:=first|apply D;decide|apply K;kernel_rfl) only [E,EE,↓reduceIte,simprocAttr,xk B19 [3,2,1,2] .sk rfl,b,f,g,h,j]
      try simp only [NM,EE] at hJ
      exact hJ
noncomputable def f19 (k:Nat) (d a:Int) (b:List T65) (c:List T39):Option R19:=match k with | 0=>none | k+1=>f19_e k d a b c
theorem f19_ok (k e a b d r) (f:f19 k e a b d=some r):CV k 19 [.agg [jI e,jU a,.sl 4 (rowsOf encT65 b),.sl 11 (rowsOf encT39 d)]] []=some r.st:=by
 cases k with
 | zero=>cases f
 | succ k =>
  unfold CV
  rw [ev_call (F:=Try.f19) (c:=(nav B19 [])) rfl Try.func19 rfl rfl rfl rfl]
  exact f19_e_ok k e a b d r f
-- f46: f46 heliograph/pieces.parts
inductive R46 where
 | o0 (y:List Int) (a:Int)
noncomputable def R46.st:R46→V×List O×List O
 | .o0 y a=>(V.fn 62 [.ptr 2000000 0,.ptr 2000001 0],[],[.box 29 [.sl 1 (rowsOf (encI .u8) y)],.box 3 [jI a]])
noncomputable def f46_e (k:Nat) (a:List Int) (b:Int):Option R46 :=
 some (.o0 a b)
theorem f46_e_ok (k a b r) (c:f46_e k a b=some r):finK Try.prog Try.f46 0 (EX 46 k (nav B46 []) (⟨6,[(0,.sl 1 (rowsOf (encI .u8) a)),(1,jI b)],[]⟩:St))=some r.st:=by
 unfold f46_e at c
 cases c
 simp (disch:=first|apply D;decide|apply K;kernel_rfl) only [E,EE,↓reduceIte,simprocAttr,xk B46 [] .sq rfl,rg B46 [1] 0 false rfl,hr 46 0 rfl,xk B46 [2] .sq rfl,rg B46 [1,2] 1 false rfl,hr 46 1 rfl,xk B46 [2,2] .rt rfl,fin46,R46.st]
noncomputable def f46 (k:Nat) (a:List Int) (b:Int):Option R46:=match k with | 0=>none | k+1=>f46_e k a b
theorem f46_ok (k a b r) (d:f46 k a b=some r):CV k 46 [.sl 1 (rowsOf (encI .u8) a),jI b] []=some r.st:=by
 cases k with
 | zero=>cases d
 | succ k =>
  unfold CV
  rw [ev_call (F:=Try.f46) (c:=(nav B46 [])) rfl Try.func46 rfl rfl rfl rfl]
  exact f46_e_ok k a b r d
-- f47: f47 bytes.Clone
inductive R47 where
 | o0 (y:List Int)
noncomputable def R47.st:R47→V×List O×List O
 | .o0 y=>(.own 2000000,[],[.row true 1 5 (rowsOf (encI .u8) y)])
noncomputable def f47 (k:Nat) (a:List Int):Option R47:=match k with | 0=>none | _+1=>ifE (a.length * 1≤roomy) (some (.o0 a))
theorem f47_ok (k b r) (a:f47 k b=some r):CV k 47 [.sl 1 (rowsOf (encI .u8) b)] []=some r.st:=by
 cases k with
 | zero=>cases a
 | succ k =>
  obtain ⟨h,a⟩:=ifE_some.1 a
  cases a
  have h':((rowsOf (encI .u8) b)).length * 1≤roomy:=by rw [rowsOf_length];exact h
  unfold CV
  rw [ev_ctx (show ctx 47=some (cloneS 1 5 1) from rfl) rfl]
  simp only [cloneS,h',and_self,if_true];rfl
-- f999999999: f25 heliograph/pieces.Cut
inductive R999999999 where
 | o0 (y c d e f g h i j l:Int) (a:List Int) (b:List T39)
noncomputable def R999999999.st:R999999999→V×List O×List O
 | .o0 y c d e f g h i j l a b=>(.p (.bool true),[O.lp 25 37 [(2,.ptr 1000001 0),(6,.ptr 1000002 0)] [21,22] (nav B25 [3,2,2,1,2,2,2]) (nav B25 [4,2,2,1,2,2,2]) 0 .norm,.box 39 [jI y,jI c,jU d,jI e,jI f,jI g,jI h,jI i,jI j,jI l,.sl 1 (rowsOf (encI .u8) a)],.box 24 [.own 2000000],.dead],[.row true 11 39 (rowsOf encT39 b)])
noncomputable def f999999999_e (k:Nat) (o:Int) (p:List Int) (l a b c d e f g h i:Int) (j:List Int) (m:List T39):Option R999999999 :=
 Option.bind (f47 k p) fun o1 =>
  match o1 with
  | .o0 q =>
   ifE (((List.length m)+1) * 104≤roomy) (
    some (.o0 l a b c d e f g h i j (m++([(T39.mk l a b c d e f g (IntKind.i64.wrap (h+o)) i q)]:List T39))))
theorem f999999999_e_ok (k m s o a b c d e f g h i j t r) (l:f999999999_e k m s o a b c d e f g h i j t=some r):roundB 1000000 4 (roundA Try.prog (callV Try.prog ctx hints k) hints 25 k 1000000 (nav B25 [4,2,2,1,2,2,2]) (EX 25 k (nav B25 [3,2,2,1,2,2,2]) (⟨37,[(22,.sl 1 (rowsOf (encI .u8) s)),(21,jI m),(2,.ptr 1000001 0),(6,.ptr 1000002 0)],[(1000000,O.lp 25 37 [(2,.ptr 1000001 0),(6,.ptr 1000002 0)] [21,22] (nav B25 [3,2,2,1,2,2,2]) (nav B25 [4,2,2,1,2,2,2]) 0 .norm),(1000001,.box 39 [jI o,jI a,jU b,jI c,jI d,jI e,jI f,jI g,jI h,jI i,.sl 1 (rowsOf (encI .u8) j)]),(1000002,.box 24 [.own 1000003]),(1000003,.row true 11 39 (rowsOf encT39 t))]⟩:St)))=some r.st:=by
 unfold f999999999_e at l
 obtain ⟨o1,u,l⟩:=bs l
 have p:=f47_ok k s _ u
 cases o1 with
 | o0 q =>
  (try dsimp only at l)
  (try simp only [NM,EE,R47.st] at p)
  have v:[[jI o,jI a,jU b,jI c,jI d,jI e,jI f,jI g,(jI (IntKind.i64.wrap (h+m))),jI i,.sl 1 (rowsOf (encI .u8) q)]]=rowsOf encT39 ([(T39.mk o a b c d e f g (IntKind.i64.wrap (h+m)) i q)]:List T39):=rfl
  have w:List.map (tell [0,0,0,0,0,0,0,0,0,0,1]) (rowsOf encT39 ([(T39.mk o a b c d e f g (IntKind.i64.wrap (h+m)) i q)]:List T39))=rowsOf encT39 ([(T39.mk o a b c d e f g (IntKind.i64.wrap (h+m)) i q)]:List T39):=rfl
  obtain ⟨x,l⟩:=ifE_some.1 l
  cases l
  simp (disch:=first|apply D;decide|apply K;kernel_rfl) only [E,EE,↓reduceIte,simprocAttr,xk B25 [3,2,2,1,2,2,2] .sq rfl,rg B25 [1,3,2,2,1,2,2,2] 7 false rfl,hr 25 7 rfl,rg B25 [2,3,2,2,1,2,2,2] 8 false rfl,hr 25 8 rfl,xk B25 [4,2,2,1,2,2,2] (.bk 2) rfl,xk B25 [2,4,2,2,1,2,2,2] .sq rfl,rg B25 [1,2,4,2,2,1,2,2,2] 9 false rfl,hr 25 9 rfl,t_39,xk B25 [2,2,4,2,2,1,2,2,2] .sq rfl,rg B25 [1,2,2,4,2,2,1,2,2,2] 10 false rfl,hr 25 10 rfl,fieldAddrV,t_3,xk B25 [2,2,2,4,2,2,1,2,2,2] .sq rfl,rg B25 [1,2,2,2,4,2,2,1,2,2,2] 11 false rfl,hr 25 11 rfl,callStep,CL,gv,List.contains,t_29,rg B25 [2,2,2,2,4,2,2,1,2,2,2] 12 false rfl,hr 25 12 rfl,t_24,buildSliceV,fillRows,sm_39,appendV,content,R999999999.st,p,v,w,x]
noncomputable def f999999999 (k:Nat) (l:Int) (m:List Int) (o b c d e f g h i j:Int) (a:List Int) (p:List T39):Option R999999999:=match k with | 0=>none | k+1=>f999999999_e k l m o b c d e f g h i j a p
theorem f999999999_ok (k o p q d e f g h i j l m c s r) (t:f999999999 k o p q d e f g h i j l m c s=some r):CV k 999999999 [jI o,.sl 1 (rowsOf (encI .u8) p),V.yld 1000000] [O.lp 25 37 [(2,.ptr 1000001 0),(6,.ptr 1000002 0)] [21,22] (nav B25 [3,2,2,1,2,2,2]) (nav B25 [4,2,2,1,2,2,2]) 0 .norm,.box 39 [jI q,jI d,jU e,jI f,jI g,jI h,jI i,jI j,jI l,jI m,.sl 1 (rowsOf (encI .u8) c)],.box 24 [.own 1000003],.row true 11 39 (rowsOf encT39 s)]=some r.st:=by
 cases k with
 | zero=>cases t
 | succ k =>
  unfold CV
  rw [ev_round (id:=1000000) (fn:=25) (n:=37) (ps:=[21,22]) (a:=(nav B25 [3,2,2,1,2,2,2])) (b:=(nav B25 [4,2,2,1,2,2,2])) rfl rfl rfl rfl rfl (by kernel_rfl) (by kernel_rfl)]
  exact f999999999_e_ok k o p q d e f g h i j l m c s r t
end Go.Proofs.YticggdfaehneeaaV