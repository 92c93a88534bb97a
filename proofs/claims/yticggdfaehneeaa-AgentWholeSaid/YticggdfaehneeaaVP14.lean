/- What the program's functions answer: plain functions,and that the interpreter answers what they do. Written by a program of this session,out of the translation. -/
import Derived.Test.YticggdfaehneeaaVP13
namespace Go.Proofs.YticggdfaehneeaaV
open Go
set_option linter.unusedVariables false
set_option linter.unusedSimpArgs false
set_option maxRecDepth 8000
set_option maxHeartbeats 4000000
-- f4: f4 heliograph/heliographlaw19.AgentWhole
inductive R4 where
 | o0 (y:Bool)
noncomputable def R4.st:R4→V×List O×List O
 | .o0 y=>(.p (.bool y),[],[])
inductive R4_l4 where
 | o0 (y:Int) (a:List Int) (b c:Int) (d:Bool) (e f:Int) (g:List T65) (h i:List T39) (j:Int) (l:List Int)
 | o1 (y:Bool)
 | o2 (y:List Int) (a b c d:Int) (e:List T65) (f g:List T39) (h:Int) (i:List Int)
 | o3 (y:List Int) (a b:Int) (c:Bool) (d e:Int) (f:List T65) (g h:List T39) (i:Int) (j:List Int)
noncomputable def R4_l4.st:R4_l4→Out×St
 | .o0 y a b c d e f g h i j l=>(.exit 0,(⟨103,[(10,.ptr 30000 0),(13,.ptr 30001 0),(15,.ptr 30002 0),(16,V.fn 17 [.ptr 30000 0,.ptr 30001 0,.ptr 30002 0,.ptr 30003 0]),(18,jI y),(67,.sl 1 (rowsOf (encI .i64) a)),(68,jI b),(69,jI c),(75,.p (.bool d))],[(30000,.box 26 [jI e,jU f,.sl 4 (rowsOf encT65 g),.sl 11 (rowsOf encT39 h)]),(30001,.box 24 [.sl 11 (rowsOf encT39 i)]),(30002,.box 3 [jI j]),(30003,.box 29 [.sl 1 (rowsOf (encI .u8) l)])]⟩:St))
 | .o1 y=>(.ret,(⟨103,[(6,.p (.bool y))],[]⟩:St))
 | .o2 y a b c d e f g h i=>(.norm,(⟨103,[(10,.ptr 30000 0),(13,.ptr 30001 0),(15,.ptr 30002 0),(16,V.fn 17 [.ptr 30000 0,.ptr 30001 0,.ptr 30002 0,.ptr 30003 0]),(67,.sl 1 (rowsOf (encI .i64) y)),(68,jI a),(69,jI b)],[(30000,.box 26 [jI c,jU d,.sl 4 (rowsOf encT65 e),.sl 11 (rowsOf encT39 f)]),(30001,.box 24 [.sl 11 (rowsOf encT39 g)]),(30002,.box 3 [jI h]),(30003,.box 29 [.sl 1 (rowsOf (encI .u8) i)])]⟩:St))
 | .o3 y a b c d e f g h i j=>(.exit 0,(⟨103,[(10,.ptr 30000 0),(13,.ptr 30001 0),(15,.ptr 30002 0),(16,V.fn 17 [.ptr 30000 0,.ptr 30001 0,.ptr 30002 0,.ptr 30003 0]),(67,.sl 1 (rowsOf (encI .i64) y)),(68,jI a),(69,jI b),(70,.p (.bool c))],[(30000,.box 26 [jI d,jU e,.sl 4 (rowsOf encT65 f),.sl 11 (rowsOf encT39 g)]),(30001,.box 24 [.sl 11 (rowsOf encT39 h)]),(30002,.box 3 [jI i]),(30003,.box 29 [.sl 1 (rowsOf (encI .u8) j)])]⟩:St))
noncomputable def f4_l4_j3 (k:Nat) (d:List Int) (e f:Int) (l:Bool) (g a:Int) (b:List T65) (c h:List T39) (i:Int) (j:List Int):Option R4_l4 :=
 some (.o2 d e (IntKind.i64.wrap (f+(1:Int))) g a b c h i j)
theorem f4_l4_j3_ok (k d e f g h a b c i j l r) (m:f4_l4_j3 k d e f g h a b c i j l=some r):EX 4 k (nav B4 [2,2,2,1,2,2,1,2,2,2,2,2,2,2,2,2,2]) (⟨103,[(10,.ptr 30000 0),(13,.ptr 30001 0),(15,.ptr 30002 0),(16,V.fn 17 [.ptr 30000 0,.ptr 30001 0,.ptr 30002 0,.ptr 30003 0]),(67,.sl 1 (rowsOf (encI .i64) d)),(68,jI e),(69,jI f),(83,.p (.bool g))],[(30000,.box 26 [jI h,jU a,.sl 4 (rowsOf encT65 b),.sl 11 (rowsOf encT39 c)]),(30001,.box 24 [.sl 11 (rowsOf encT39 i)]),(30002,.box 3 [jI j]),(30003,.box 29 [.sl 1 (rowsOf (encI .u8) l)])]⟩:St)=some r.st:=by
 unfold f4_l4_j3 at m
 cases m
 simp (disch:=first|apply D;decide|apply K;kernel_rfl) only [E,EE,↓reduceIte,simprocAttr,rg B4 [2,2,2,1,2,2,1,2,2,2,2,2,2,2,2,2,2] 19 false rfl,hr 4 19 rfl,R4_l4.st]
noncomputable def f4_l4_j2 (k:Nat) (e:Int) (f:List Int) (g h:Int) (q:Bool) (i a:Int) (b:List T65) (c d:List T39) (j:Int) (l:List Int):Option R4_l4 :=
 ifE (¬((List.length d):Int)=0) (
  Option.bind (f17b k ((Int.tmod (if (0:Int)>e then 0 else e) ((List.length d):Int))) i a b c d j l) fun o2 =>
   match o2 with
   | .o0 s t u v w m o p =>
    cond ((!s))
     (some (.o1 false))
     (f4_l4_j3 k f g h false t u v w m o p))
theorem f4_l4_j2_ok (k e h i j q l a b c f m o r) (d:f4_l4_j2 k e h i j q l a b c f m o=some r):SQ 4 k (nav B4 [2,2,2,1,2,2,1,2,2,2,2,2,2,2,2,2,2]) (blockK 1 (EX 4 k (nav B4 [2,2,2,1,2,2,1,2,2,1,2,2,2,2,2,2,2,2,2,2]) (⟨103,[(10,.ptr 30000 0),(13,.ptr 30001 0),(15,.ptr 30002 0),(16,V.fn 17 [.ptr 30000 0,.ptr 30001 0,.ptr 30002 0,.ptr 30003 0]),(18,jI e),(67,.sl 1 (rowsOf (encI .i64) h)),(68,jI i),(69,jI j),(75,.p (.bool q))],[(30000,.box 26 [jI l,jU a,.sl 4 (rowsOf encT65 b),.sl 11 (rowsOf encT39 c)]),(30001,.box 24 [.sl 11 (rowsOf encT39 f)]),(30002,.box 3 [jI m]),(30003,.box 29 [.sl 1 (rowsOf (encI .u8) o)])]⟩:St)))=some r.st:=by
 unfold f4_l4_j2 at d
 obtain ⟨s,d⟩:=ifE_some.1 d
 obtain ⟨o2,w,d⟩:=bs d
 have g:=f17b_ok k ((Int.tmod (if (0:Int)>e then 0 else e) ((List.length f):Int))) l a b c f m o _ w
 cases o2 with
 | o0 v5 x y z n t u v =>
  (try dsimp only at d)
  (try simp only [NM,EE,R17b.st] at g)
  simp (disch:=first|apply D;decide|apply K;kernel_rfl) only [E,EE,↓reduceIte,simprocAttr,xk B4 [2,2,2,1,2,2,1,2,2,1,2,2,2,2,2,2,2,2,2,2] .sq rfl,rg B4 [1,2,2,2,1,2,2,1,2,2,1,2,2,2,2,2,2,2,2,2,2] 17 false rfl,hr 4 17 rfl,minmaxV,minmaxGo,t_24,callStep,CL,gv,List.contains,xk B4 [2,2,2,2,1,2,2,1,2,2,1,2,2,2,2,2,2,2,2,2,2] (.cd 83) rfl,s,g]
  rcases cond_some d with ⟨p,d⟩ | ⟨p,d⟩
  ·cases d
   simp (disch:=first|apply D;decide|apply K;kernel_rfl) only [E,EE,↓reduceIte,simprocAttr,xk B4 [2,2,2,2,2,1,2,2,1,2,2,1,2,2,2,2,2,2,2,2,2,2] .sq rfl,rg B4 [1,2,2,2,2,2,1,2,2,1,2,2,1,2,2,2,2,2,2,2,2,2,2] 18 false rfl,hr 4 18 rfl,xk B4 [2,2,2,2,2,2,1,2,2,1,2,2,1,2,2,2,2,2,2,2,2,2,2] .rt rfl,R4_l4.st,s,g,p]
  ·have hJ:=f4_l4_j3_ok k h i j false x y z n t u v _ d
   simp (disch:=first|apply D;decide|apply K;kernel_rfl) only [E,EE,↓reduceIte,simprocAttr,xk B4 [3,2,2,2,2,1,2,2,1,2,2,1,2,2,2,2,2,2,2,2,2,2] .sk rfl,s,g,p]
   try simp only [NM,EE] at hJ
   exact hJ
noncomputable def f4_l4_j1 (k:Nat) (e:List Int) (f a:Int) (m:Bool) (g b:Int) (c:List T65) (d h:List T39) (i:Int) (j:List Int):Option R4_l4 :=
 ifE ((0:Int)≤a) (
  Option.bind (e[(Int.toNat a)]?) fun l =>
   cond ((a==30))
    (some (.o0 l e f a true g b c d h i j))
    (f4_l4_j2 k l e f a false g b c d h i j))
theorem f4_l4_j1_ok (k e f g m h a b c i j l r) (d:f4_l4_j1 k e f g m h a b c i j l=some r):EX 4 k (nav B4 [2,2,1,2,2,1,2,2,2,2,2,2,2,2,2,2]) (⟨103,[(10,.ptr 30000 0),(13,.ptr 30001 0),(15,.ptr 30002 0),(16,V.fn 17 [.ptr 30000 0,.ptr 30001 0,.ptr 30002 0,.ptr 30003 0]),(67,.sl 1 (rowsOf (encI .i64) e)),(68,jI f),(69,jI g),(70,.p (.bool m))],[(30000,.box 26 [jI h,jU a,.sl 4 (rowsOf encT65 b),.sl 11 (rowsOf encT39 c)]),(30001,.box 24 [.sl 11 (rowsOf encT39 i)]),(30002,.box 3 [jI j]),(30003,.box 29 [.sl 1 (rowsOf (encI .u8) l)])]⟩:St)=some r.st:=by
 unfold f4_l4_j1 at d
 obtain ⟨o,d⟩:=ifE_some.1 d
 obtain ⟨s,p,d⟩:=bs d
 simp (disch:=first|apply D;decide|apply K;kernel_rfl) only [E,EE,↓reduceIte,simprocAttr,xk B4 [2,2,1,2,2,1,2,2,2,2,2,2,2,2,2,2] .sq rfl,xk B4 [1,2,2,1,2,2,1,2,2,2,2,2,2,2,2,2,2] (.bk 1) rfl,xk B4 [2,1,2,2,1,2,2,1,2,2,2,2,2,2,2,2,2,2] .sq rfl,rg B4 [1,2,1,2,2,1,2,2,1,2,2,2,2,2,2,2,2,2,2] 15 false rfl,hr 4 15 rfl,indexAddrV,t_44,t_3,encI_eq,xk B4 [2,2,1,2,2,1,2,2,1,2,2,2,2,2,2,2,2,2,2] .sq rfl,xk B4 [1,2,2,1,2,2,1,2,2,1,2,2,2,2,2,2,2,2,2,2] .sq rfl,rg B4 [1,1,2,2,1,2,2,1,2,2,1,2,2,2,2,2,2,2,2,2,2] 16 false rfl,hr 4 16 rfl,xk B4 [2,1,2,2,1,2,2,1,2,2,1,2,2,2,2,2,2,2,2,2,2] (.cd 75) rfl,o,p]
 rcases cond_some d with ⟨q,d⟩ | ⟨q,d⟩
 ·cases d
  simp (disch:=first|apply D;decide|apply K;kernel_rfl) only [E,EE,↓reduceIte,simprocAttr,xk B4 [2,2,1,2,2,1,2,2,1,2,2,1,2,2,2,2,2,2,2,2,2,2] (.ex 0) rfl,R4_l4.st,o,p,q]
 ·have hJ:=f4_l4_j2_ok k s e f g false h a b c i j l _ d
  simp (disch:=first|apply D;decide|apply K;kernel_rfl) only [E,EE,↓reduceIte,simprocAttr,xk B4 [3,2,1,2,2,1,2,2,1,2,2,1,2,2,2,2,2,2,2,2,2,2] .sk rfl,o,p,q]
  try simp only [NM,EE] at hJ
  exact hJ
noncomputable def f4_l4_b (k:Nat) (f:List Int) (d e g a:Int) (b:List T65) (c h:List T39) (i:Int) (j:List Int):Option R4_l4 :=
 cond ((decide (e<d)))
  (f4_l4_j1 k f d e true g a b c h i j)
  (some (.o3 f d e false g a b c h i j))
theorem f4_l4_b_ok (k d e f g a b c h i j r) (l:f4_l4_b k d e f g a b c h i j=some r):EX 4 k (nav B4 [1,2,2,1,2,2,2,2,2,2,2,2,2,2]) (⟨103,[(10,.ptr 30000 0),(13,.ptr 30001 0),(15,.ptr 30002 0),(16,V.fn 17 [.ptr 30000 0,.ptr 30001 0,.ptr 30002 0,.ptr 30003 0]),(67,.sl 1 (rowsOf (encI .i64) d)),(68,jI e),(69,jI f)],[(30000,.box 26 [jI g,jU a,.sl 4 (rowsOf encT65 b),.sl 11 (rowsOf encT39 c)]),(30001,.box 24 [.sl 11 (rowsOf encT39 h)]),(30002,.box 3 [jI i]),(30003,.box 29 [.sl 1 (rowsOf (encI .u8) j)])]⟩:St)=some r.st:=by
 unfold f4_l4_b at l
 simp (disch:=first|apply D;decide|apply K;kernel_rfl) only [E,EE,↓reduceIte,simprocAttr,xk B4 [1,2,2,1,2,2,2,2,2,2,2,2,2,2] .sq rfl,rg B4 [1,1,2,2,1,2,2,2,2,2,2,2,2,2,2] 14 false rfl,hr 4 14 rfl,xk B4 [2,1,2,2,1,2,2,2,2,2,2,2,2,2,2] .sq rfl,xk B4 [1,2,1,2,2,1,2,2,2,2,2,2,2,2,2,2] (.cd 70) rfl]
 rcases cond_some l with ⟨m,l⟩ | ⟨m,l⟩
 ·have hJ:=f4_l4_j1_ok k d e f true g a b c h i j _ l
  simp (disch:=first|apply D;decide|apply K;kernel_rfl) only [E,EE,↓reduceIte,simprocAttr,xk B4 [2,1,2,1,2,2,1,2,2,2,2,2,2,2,2,2,2] .sk rfl,m]
  try simp only [NM,EE] at hJ
  exact hJ
 ·cases l
  simp (disch:=first|apply D;decide|apply K;kernel_rfl) only [E,EE,↓reduceIte,simprocAttr,xk B4 [3,1,2,1,2,2,1,2,2,2,2,2,2,2,2,2,2] (.ex 0) rfl,R4_l4.st,m]
noncomputable def f4_l4 (k:Nat):Nat→(List Int)→Int→Int→Int→Int→(List T65)→(List T39)→(List T39)→Int→(List Int)→Option R4_l4
 | 0,_,_,_,_,_,_,_,_,_,_=>none
 | n+1,s,t,u,v,l,m,p,w,x,z=>Option.bind (f4_l4_b k s t u v l m p w x z) fun o =>
  match o with
  | .o0 y a b c d e f g h i j q=>some (.o0 y a b c d e f g h i j q)
  | .o1 y=>some (.o1 y)
  | .o2 y a b c d e f g h i=>f4_l4 k n y a b c d e f g h i
  | .o3 y a b c d e f g h i j=>some (.o3 y a b c d e f g h i j)
theorem f4_l4_ok (k n:Nat):∀ (d:List Int) (e f g a:Int) (b:List T65) (c i:List T39) (j:Int) (l:List Int) (r:R4_l4) (m:f4_l4 k n d e f g a b c i j l=some r) (σ:St) (hσ:headR (hints.head 4 14) (hints.canon 4 14) σ=some (⟨103,[(10,.ptr 30000 0),(13,.ptr 30001 0),(15,.ptr 30002 0),(16,V.fn 17 [.ptr 30000 0,.ptr 30001 0,.ptr 30002 0,.ptr 30003 0]),(67,.sl 1 (rowsOf (encI .i64) d)),(68,jI e),(69,jI f)],[(30000,.box 26 [jI g,jU a,.sl 4 (rowsOf encT65 b),.sl 11 (rowsOf encT39 c)]),(30001,.box 24 [.sl 11 (rowsOf encT39 i)]),(30002,.box 3 [jI j]),(30003,.box 29 [.sl 1 (rowsOf (encI .u8) l)])]⟩:St)),LP 4 k (nav B4 [1,2,2,1,2,2,2,2,2,2,2,2,2,2]) n σ=some r.st:=by
 induction n with
 | zero=>intro d e f g a b c i j l r m;cases m
 | succ n ih =>
  intro d e f g a b c i j l r m σ hσ
  rw [f4_l4] at m
  obtain ⟨o,h,m⟩:=Option.bind_eq_some_iff.1 m
  have hB:=f4_l4_b_ok k d e f g a b c i j l o h
  unfold LP at ih ⊢
  unfold EX at hB
  rw [loopK_succ,show firstReg (nav B4 [1,2,2,1,2,2,2,2,2,2,2,2,2,2])=14 from rfl,hσ,headK_some,hB]
  cases o with
  | o0 y p q s t u v w x z aa ac=>cases m;rfl
  | o1 y=>cases m;rfl
  | o2 y p q s t u v w x z =>
   refine ih y p q s t u v w x z r m _ ?_
   simp (disch:=first|apply D;decide|apply K;kernel_rfl) only [E,EE,↓reduceIte,simprocAttr,hh_4_14,hc_4_14]
  | o3 y p q s t u v w x z aa=>cases m;rfl
inductive R4_l6 where
 | o0 (y:Bool)
 | o1 (y a b c:Int) (d:List T65) (e:List T39) (f:Int) (g:List T39) (h:List Int)
 | o2 (y a:Int) (b:Bool) (c d:Int) (e:List T65) (f:List T39) (g:Int) (h:List T39) (i:List Int)
noncomputable def R4_l6.st:R4_l6→Out×St
 | .o0 y=>(.ret,(⟨103,[(6,.p (.bool y))],[]⟩:St))
 | .o1 y a b c d e f g h=>(.norm,(⟨103,[(10,.ptr 30000 0),(15,.ptr 30001 0),(16,V.fn 17 [.ptr 30000 0,.ptr 30002 0,.ptr 30001 0,.ptr 30003 0]),(86,jI y),(87,jI a)],[(30000,.box 26 [jI b,jU c,.sl 4 (rowsOf encT65 d),.sl 11 (rowsOf encT39 e)]),(30001,.box 3 [jI f]),(30002,.box 24 [.sl 11 (rowsOf encT39 g)]),(30003,.box 29 [.sl 1 (rowsOf (encI .u8) h)])]⟩:St))
 | .o2 y a b c d e f g h i=>(.exit 2,(⟨103,[(10,.ptr 30000 0),(15,.ptr 30001 0),(16,V.fn 17 [.ptr 30000 0,.ptr 30002 0,.ptr 30001 0,.ptr 30003 0]),(86,jI y),(87,jI a),(88,.p (.bool b))],[(30000,.box 26 [jI c,jU d,.sl 4 (rowsOf encT65 e),.sl 11 (rowsOf encT39 f)]),(30001,.box 3 [jI g]),(30002,.box 24 [.sl 11 (rowsOf encT39 h)]),(30003,.box 29 [.sl 1 (rowsOf (encI .u8) i)])]⟩:St))
noncomputable def f4_l6_j2 (k:Nat) (d e:Int) (j:Bool) (f a:Int) (b:List T65) (c:List T39) (g:Int) (h:List T39) (i:List Int):Option R4_l6 :=
 some (.o1 d (IntKind.i64.wrap (e+(1:Int))) f a b c g h i)
theorem f4_l6_j2_ok (k d e f g a b c h i j r) (l:f4_l6_j2 k d e f g a b c h i j=some r):EX 4 k (nav B4 [2,2,2,1,2,2,1,2,2,2,2,2,2,2,2,2,2,2]) (⟨103,[(10,.ptr 30000 0),(15,.ptr 30001 0),(16,V.fn 17 [.ptr 30000 0,.ptr 30002 0,.ptr 30001 0,.ptr 30003 0]),(86,jI d),(87,jI e),(93,.p (.bool f))],[(30000,.box 26 [jI g,jU a,.sl 4 (rowsOf encT65 b),.sl 11 (rowsOf encT39 c)]),(30001,.box 3 [jI h]),(30002,.box 24 [.sl 11 (rowsOf encT39 i)]),(30003,.box 29 [.sl 1 (rowsOf (encI .u8) j)])]⟩:St)=some r.st:=by
 unfold f4_l6_j2 at l
 cases l
 simp (disch:=first|apply D;decide|apply K;kernel_rfl) only [E,EE,↓reduceIte,simprocAttr,rg B4 [2,2,2,1,2,2,1,2,2,2,2,2,2,2,2,2,2,2] 25 false rfl,hr 4 25 rfl,R4_l6.st]
noncomputable def f4_l6_j1 (k:Nat) (e d:Int) (m:Bool) (f a:Int) (b:List T65) (c:List T39) (g:Int) (h:List T39) (i:List Int):Option R4_l6 :=
 Option.bind (f17b k d f a b c h g i) fun o1 =>
  match o1 with
  | .o0 o p q s t u j l =>
   cond ((!o))
    (some (.o0 false))
    (f4_l6_j2 k e d false p q s t j u l)
theorem f4_l6_j1_ok (k g d o h a b c i j l r) (e:f4_l6_j1 k g d o h a b c i j l=some r):EX 4 k (nav B4 [2,2,1,2,2,1,2,2,2,2,2,2,2,2,2,2,2]) (⟨103,[(10,.ptr 30000 0),(15,.ptr 30001 0),(16,V.fn 17 [.ptr 30000 0,.ptr 30002 0,.ptr 30001 0,.ptr 30003 0]),(86,jI g),(87,jI d),(88,.p (.bool o))],[(30000,.box 26 [jI h,jU a,.sl 4 (rowsOf encT65 b),.sl 11 (rowsOf encT39 c)]),(30001,.box 3 [jI i]),(30002,.box 24 [.sl 11 (rowsOf encT39 j)]),(30003,.box 29 [.sl 1 (rowsOf (encI .u8) l)])]⟩:St)=some r.st:=by
 unfold f4_l6_j1 at e
 obtain ⟨o1,s,e⟩:=bs e
 have f:=f17b_ok k d h a b c j i l _ s
 cases o1 with
 | o0 y t u v w x p q =>
  (try dsimp only at e)
  (try simp only [NM,EE,R17b.st] at f)
  simp (disch:=first|apply D;decide|apply K;kernel_rfl) only [E,EE,↓reduceIte,simprocAttr,xk B4 [2,2,1,2,2,1,2,2,2,2,2,2,2,2,2,2,2] .sq rfl,xk B4 [1,2,2,1,2,2,1,2,2,2,2,2,2,2,2,2,2,2] (.bk 3) rfl,xk B4 [2,1,2,2,1,2,2,1,2,2,2,2,2,2,2,2,2,2,2] .sq rfl,rg B4 [1,2,1,2,2,1,2,2,1,2,2,2,2,2,2,2,2,2,2,2] 22 false rfl,hr 4 22 rfl,xk B4 [2,2,1,2,2,1,2,2,1,2,2,2,2,2,2,2,2,2,2,2] .sq rfl,rg B4 [1,2,2,1,2,2,1,2,2,1,2,2,2,2,2,2,2,2,2,2,2] 23 false rfl,hr 4 23 rfl,callStep,CL,gv,List.contains,xk B4 [2,2,2,1,2,2,1,2,2,1,2,2,2,2,2,2,2,2,2,2,2] (.cd 93) rfl,f]
  rcases cond_some e with ⟨m,e⟩ | ⟨m,e⟩
  ·cases e
   simp (disch:=first|apply D;decide|apply K;kernel_rfl) only [E,EE,↓reduceIte,simprocAttr,xk B4 [2,2,2,2,1,2,2,1,2,2,1,2,2,2,2,2,2,2,2,2,2,2] .sq rfl,rg B4 [1,2,2,2,2,1,2,2,1,2,2,1,2,2,2,2,2,2,2,2,2,2,2] 24 false rfl,hr 4 24 rfl,xk B4 [2,2,2,2,2,1,2,2,1,2,2,1,2,2,2,2,2,2,2,2,2,2,2] .rt rfl,R4_l6.st,f,m]
  ·have hJ:=f4_l6_j2_ok k g d false t u v w p x q _ e
   simp (disch:=first|apply D;decide|apply K;kernel_rfl) only [E,EE,↓reduceIte,simprocAttr,xk B4 [3,2,2,2,1,2,2,1,2,2,1,2,2,2,2,2,2,2,2,2,2,2] .sk rfl,f,m]
   try simp only [NM,EE] at hJ
   exact hJ
noncomputable def f4_l6_b (k:Nat) (d e f a:Int) (b:List T65) (c:List T39) (g:Int) (h:List T39) (i:List Int):Option R4_l6 :=
 cond ((decide (e<d)))
  (f4_l6_j1 k d e true f a b c g h i)
  (some (.o2 d e false f a b c g h i))
theorem f4_l6_b_ok (k d e f a b c g h i r) (j:f4_l6_b k d e f a b c g h i=some r):EX 4 k (nav B4 [1,2,2,1,2,2,2,2,2,2,2,2,2,2,2]) (⟨103,[(10,.ptr 30000 0),(15,.ptr 30001 0),(16,V.fn 17 [.ptr 30000 0,.ptr 30002 0,.ptr 30001 0,.ptr 30003 0]),(86,jI d),(87,jI e)],[(30000,.box 26 [jI f,jU a,.sl 4 (rowsOf encT65 b),.sl 11 (rowsOf encT39 c)]),(30001,.box 3 [jI g]),(30002,.box 24 [.sl 11 (rowsOf encT39 h)]),(30003,.box 29 [.sl 1 (rowsOf (encI .u8) i)])]⟩:St)=some r.st:=by
 unfold f4_l6_b at j
 simp (disch:=first|apply D;decide|apply K;kernel_rfl) only [E,EE,↓reduceIte,simprocAttr,xk B4 [1,2,2,1,2,2,2,2,2,2,2,2,2,2,2] .sq rfl,rg B4 [1,1,2,2,1,2,2,2,2,2,2,2,2,2,2,2] 21 false rfl,hr 4 21 rfl,xk B4 [2,1,2,2,1,2,2,2,2,2,2,2,2,2,2,2] .sq rfl,xk B4 [1,2,1,2,2,1,2,2,2,2,2,2,2,2,2,2,2] (.cd 88) rfl]
 rcases cond_some j with ⟨l,j⟩ | ⟨l,j⟩
 ·have hJ:=f4_l6_j1_ok k d e true f a b c g h i _ j
  simp (disch:=first|apply D;decide|apply K;kernel_rfl) only [E,EE,↓reduceIte,simprocAttr,xk B4 [2,1,2,1,2,2,1,2,2,2,2,2,2,2,2,2,2,2] .sk rfl,l]
  try simp only [NM,EE] at hJ
  exact hJ
 ·cases j
  simp (disch:=first|apply D;decide|apply K;kernel_rfl) only [E,EE,↓reduceIte,simprocAttr,xk B4 [3,1,2,1,2,2,1,2,2,2,2,2,2,2,2,2,2,2] (.ex 2) rfl,R4_l6.st,l]
noncomputable def f4_l6 (k:Nat):Nat→Int→Int→Int→Int→(List T65)→(List T39)→Int→(List T39)→(List Int)→Option R4_l6
 | 0,_,_,_,_,_,_,_,_,_=>none
 | n+1,m,p,q,a,b,c,s,t,u=>Option.bind (f4_l6_b k m p q a b c s t u) fun o =>
  match o with
  | .o0 y=>some (.o0 y)
  | .o1 y d e f g h i j l=>f4_l6 k n y d e f g h i j l
  | .o2 y d e f g h i j l v=>some (.o2 y d e f g h i j l v)
theorem f4_l6_ok (k n:Nat):∀ (d e f a:Int) (b:List T65) (c:List T39) (g:Int) (i:List T39) (j:List Int) (r:R4_l6) (l:f4_l6 k n d e f a b c g i j=some r) (σ:St) (hσ:headR (hints.head 4 21) (hints.canon 4 21) σ=some (⟨103,[(10,.ptr 30000 0),(15,.ptr 30001 0),(16,V.fn 17 [.ptr 30000 0,.ptr 30002 0,.ptr 30001 0,.ptr 30003 0]),(86,jI d),(87,jI e)],[(30000,.box 26 [jI f,jU a,.sl 4 (rowsOf encT65 b),.sl 11 (rowsOf encT39 c)]),(30001,.box 3 [jI g]),(30002,.box 24 [.sl 11 (rowsOf encT39 i)]),(30003,.box 29 [.sl 1 (rowsOf (encI .u8) j)])]⟩:St)),LP 4 k (nav B4 [1,2,2,1,2,2,2,2,2,2,2,2,2,2,2]) n σ=some r.st:=by
 induction n with
 | zero=>intro d e f a b c g i j r l;cases l
 | succ n x =>
  intro d e f a b c g i j r l σ hσ
  rw [f4_l6] at l
  obtain ⟨o,h,l⟩:=Option.bind_eq_some_iff.1 l
  have hB:=f4_l6_b_ok k d e f a b c g i j o h
  unfold LP at x ⊢
  unfold EX at hB
  rw [loopK_succ,show firstReg (nav B4 [1,2,2,1,2,2,2,2,2,2,2,2,2,2,2])=21 from rfl,hσ,headK_some,hB]
  cases o with
  | o0 y=>cases l;rfl
  | o1 y m p q s t u v w =>
   refine x y m p q s t u v w r l _ ?_
   simp (disch:=first|apply D;decide|apply K;kernel_rfl) only [E,EE,↓reduceIte,simprocAttr,hh_4_21,hc_4_21]
  | o2 y m p q s t u v w z=>cases l;rfl
noncomputable def f4_j7 (k:Nat) (e f:Int) (g:Bool) (h b:Int) (c:List T65) (a:List T39) (d:Int) (i:List T39) (j:List Int):Option R4 :=
 cond ((d==1))
  (some (.o0 (((List.length a):Int)==0)))
  (some (.o0 false))
theorem f4_j7_ok (k e f g h a b c i j l r) (d:f4_j7 k e f g h a b c i j l=some r):finK Try.prog Try.f4 0 (EX 4 k (nav B4 [2,2,2,2,2,2,2,2,2,2,2,2]) (⟨103,[(10,.ptr 30000 0),(15,.ptr 30001 0),(16,V.fn 17 [.ptr 30000 0,.ptr 30002 0,.ptr 30001 0,.ptr 30003 0]),(86,jI e),(87,jI f),(88,.p (.bool g))],[(30000,.box 26 [jI h,jU a,.sl 4 (rowsOf encT65 b),.sl 11 (rowsOf encT39 c)]),(30001,.box 3 [jI i]),(30002,.box 24 [.sl 11 (rowsOf encT39 j)]),(30003,.box 29 [.sl 1 (rowsOf (encI .u8) l)])]⟩:St))=some r.st:=by
 unfold f4_j7 at d
 simp (disch:=first|apply D;decide|apply K;kernel_rfl) only [E,EE,↓reduceIte,simprocAttr,xk B4 [2,2,2,2,2,2,2,2,2,2,2,2] .sq rfl,rg B4 [1,2,2,2,2,2,2,2,2,2,2,2,2] 26 false rfl,hr 4 26 rfl,t_3]
 rcases cond_some d with ⟨m,d⟩ | ⟨m,d⟩
 ·cases d
  simp (disch:=first|apply D;decide|apply K;kernel_rfl) only [E,EE,↓reduceIte,simprocAttr,fieldAddrV,t_26,t_24,xk B4 [2,2,2,2,2,2,2,2,2,2,2,2,2] .rt rfl,fin4,R4.st,m]
 ·cases d
  simp (disch:=first|apply D;decide|apply K;kernel_rfl) only [E,EE,↓reduceIte,simprocAttr,xk B4 [2,2,2,2,2,2,2,2,2,2,2,2,2] .rt rfl,fin4,R4.st,m]
noncomputable def f4_j5 (k:Nat) (o:Int) (p:List Int) (q s:Int) (t:Bool) (e a:Int) (b:List T65) (c d:List T39) (f:Int) (g:List Int):Option R4 :=
 Option.bind (f4_l6 k k ((List.length d):Int) 0 e a b c f d g) fun o1 =>
  match o1 with
  | .o0 u =>
   some (.o0 u)
  | .o1 _ _ _ _ _ _ _ _ _ =>
   none
  | .o2 v w x y z h i j l m =>
   f4_j7 k v w x y z h i j l m
theorem f4_j5_ok (k j l m o p f a b c d g h r) (e:f4_j5 k j l m o p f a b c d g h=some r):finK Try.prog Try.f4 0 (EX 4 k (nav B4 [2,2,2,2,2,2,2,2,2,2,2]) (⟨103,[(10,.ptr 30000 0),(13,.ptr 30001 0),(15,.ptr 30002 0),(16,V.fn 17 [.ptr 30000 0,.ptr 30001 0,.ptr 30002 0,.ptr 30003 0]),(18,jI j),(67,.sl 1 (rowsOf (encI .i64) l)),(68,jI m),(69,jI o),(75,.p (.bool p))],[(30000,.box 26 [jI f,jU a,.sl 4 (rowsOf encT65 b),.sl 11 (rowsOf encT39 c)]),(30001,.box 24 [.sl 11 (rowsOf encT39 d)]),(30002,.box 3 [jI g]),(30003,.box 29 [.sl 1 (rowsOf (encI .u8) h)])]⟩:St))=some r.st:=by
 unfold f4_j5 at e
 obtain ⟨o1,w,e⟩:=bs e
 have i:=f4_l6_ok k k ((List.length d):Int) 0 f a b c g d h _ w
 simp (disch:=first|apply D;decide|apply K;kernel_rfl) only [E,EE,↓reduceIte,simprocAttr,xk B4 [2,2,2,2,2,2,2,2,2,2,2] .sq rfl,xk B4 [1,2,2,2,2,2,2,2,2,2,2,2] .sq rfl,rg B4 [1,1,2,2,2,2,2,2,2,2,2,2,2] 20 false rfl,hr 4 20 rfl,t_24,xk B4 [2,1,2,2,2,2,2,2,2,2,2,2,2] (.bk 2) rfl,xk B4 [2,2,1,2,2,2,2,2,2,2,2,2,2,2] .lp rfl,hh_4_21,hc_4_21]
 (try simp only [NM,EE] at i)
 rw [i _ (by simp (disch:=first|apply D;decide|apply K;kernel_rfl) only [E,EE,↓reduceIte,simprocAttr,hh_4_21,hc_4_21])]
 clear i
 cases o1 with
 | o0 v4 =>
  (try dsimp only at e)
  cases e
  simp (disch:=first|apply D;decide|apply K;kernel_rfl) only [E,EE,↓reduceIte,simprocAttr,R4_l6.st,fin4,R4.st]
 | o1 _ _ _ _ _ _ _ _ _ =>
  (try dsimp only at e)
  cases e
 | o2 x y z n v9 q s t u v =>
  (try dsimp only at e)
  have hJ:=f4_j7_ok k x y z n v9 q s t u v _ e
  simp (disch:=first|apply D;decide|apply K;kernel_rfl) only [E,EE,↓reduceIte,simprocAttr,R4_l6.st]
  try simp only [NM,EE] at hJ
  exact hJ
noncomputable def f4_j8 (k:Nat) (o:List Int) (p q:Int) (s:Bool) (e a:Int) (b:List T65) (c d:List T39) (f:Int) (g:List Int):Option R4 :=
 Option.bind (f4_l6 k k ((List.length d):Int) 0 e a b c f d g) fun o1 =>
  match o1 with
  | .o0 t =>
   some (.o0 t)
  | .o1 _ _ _ _ _ _ _ _ _ =>
   none
  | .o2 u v w x y h i j l m =>
   f4_j7 k u v w x y h i j l m
theorem f4_j8_ok (k j l m o f a b c d g h r) (e:f4_j8 k j l m o f a b c d g h=some r):finK Try.prog Try.f4 0 (EX 4 k (nav B4 [2,2,2,2,2,2,2,2,2,2,2]) (⟨103,[(10,.ptr 30000 0),(13,.ptr 30001 0),(15,.ptr 30002 0),(16,V.fn 17 [.ptr 30000 0,.ptr 30001 0,.ptr 30002 0,.ptr 30003 0]),(67,.sl 1 (rowsOf (encI .i64) j)),(68,jI l),(69,jI m),(70,.p (.bool o))],[(30000,.box 26 [jI f,jU a,.sl 4 (rowsOf encT65 b),.sl 11 (rowsOf encT39 c)]),(30001,.box 24 [.sl 11 (rowsOf encT39 d)]),(30002,.box 3 [jI g]),(30003,.box 29 [.sl 1 (rowsOf (encI .u8) h)])]⟩:St))=some r.st:=by
 unfold f4_j8 at e
 obtain ⟨o1,v,e⟩:=bs e
 have i:=f4_l6_ok k k ((List.length d):Int) 0 f a b c g d h _ v
 simp (disch:=first|apply D;decide|apply K;kernel_rfl) only [E,EE,↓reduceIte,simprocAttr,xk B4 [2,2,2,2,2,2,2,2,2,2,2] .sq rfl,xk B4 [1,2,2,2,2,2,2,2,2,2,2,2] .sq rfl,rg B4 [1,1,2,2,2,2,2,2,2,2,2,2,2] 20 false rfl,hr 4 20 rfl,t_24,xk B4 [2,1,2,2,2,2,2,2,2,2,2,2,2] (.bk 2) rfl,xk B4 [2,2,1,2,2,2,2,2,2,2,2,2,2,2] .lp rfl,hh_4_21,hc_4_21]
 (try simp only [NM,EE] at i)
 rw [i _ (by simp (disch:=first|apply D;decide|apply K;kernel_rfl) only [E,EE,↓reduceIte,simprocAttr,hh_4_21,hc_4_21])]
 clear i
 cases o1 with
 | o0 v4 =>
  (try dsimp only at e)
  cases e
  simp (disch:=first|apply D;decide|apply K;kernel_rfl) only [E,EE,↓reduceIte,simprocAttr,R4_l6.st,fin4,R4.st]
 | o1 _ _ _ _ _ _ _ _ _ =>
  (try dsimp only at e)
  cases e
 | o2 w x y z n p q s t u =>
  (try dsimp only at e)
  have hJ:=f4_j7_ok k w x y z n p q s t u _ e
  simp (disch:=first|apply D;decide|apply K;kernel_rfl) only [E,EE,↓reduceIte,simprocAttr,R4_l6.st]
  try simp only [NM,EE] at hJ
  exact hJ
noncomputable def f4_j3 (k:Nat) (r:List Int) (n:Bool) (m3:List Int) (d a:Int) (b:List T65) (c e:List T39):Option R4 :=
 Option.bind (f4_l4 k k r ((List.length r):Int) 0 d a b c e 0 m3) fun o1 =>
  match o1 with
  | .o0 v4 v5 v6 v7 v8 v9 f g h i j l =>
   f4_j5 k v4 v5 v6 v7 v8 v9 f g h i j l
  | .o1 m =>
   some (.o0 m)
  | .o2 _ _ _ _ _ _ _ _ _ _ =>
   none
  | .o3 o p q s t u v w x y z =>
   f4_j8 k o p q s t u v w x y z
theorem f4_j3_ok (k i h j e a b c f r) (d:f4_j3 k i h j e a b c f=some r):finK Try.prog Try.f4 0 (EX 4 k (nav B4 [2,2,2,2,2,2,2,2]) (⟨103,[(2,.sl 1 (rowsOf (encI .i64) i)),(3,.ptr 3 0),(10,.ptr 10 0),(13,.ptr 13 0),(65,.p (.bool h))],[(3,.box 29 [.sl 1 (rowsOf (encI .u8) j)]),(10,.box 26 [jI e,jU a,.sl 4 (rowsOf encT65 b),.sl 11 (rowsOf encT39 c)]),(13,.box 24 [.sl 11 (rowsOf encT39 f)])]⟩:St))=some r.st:=by
 unfold f4_j3 at d
 obtain ⟨o1,h2,d⟩:=bs d
 have g:=f4_l4_ok k k i ((List.length i):Int) 0 e a b c f 0 j _ h2
 simp (disch:=first|apply D;decide|apply K;kernel_rfl) only [E,EE,↓reduceIte,simprocAttr,xk B4 [2,2,2,2,2,2,2,2] .sq rfl,rg B4 [1,2,2,2,2,2,2,2,2] 11 false rfl,hr 4 11 rfl,t_3,xk B4 [2,2,2,2,2,2,2,2,2] .sq rfl,rg B4 [1,2,2,2,2,2,2,2,2,2] 12 false rfl,hr 4 12 rfl,xk B4 [2,2,2,2,2,2,2,2,2,2] .sq rfl,xk B4 [1,2,2,2,2,2,2,2,2,2,2] .sq rfl,rg B4 [1,1,2,2,2,2,2,2,2,2,2,2] 13 false rfl,hr 4 13 rfl,t_44,xk B4 [2,1,2,2,2,2,2,2,2,2,2,2] (.bk 0) rfl,xk B4 [2,2,1,2,2,2,2,2,2,2,2,2,2] .lp rfl,hh_4_14,hc_4_14]
 (try simp only [NM,EE] at g)
 rw [g _ (by simp (disch:=first|apply D;decide|apply K;kernel_rfl) only [E,EE,↓reduceIte,simprocAttr,hh_4_14,hc_4_14])]
 clear g
 cases o1 with
 | o0 v4 v5 v6 v7 v8 v9 l m o p q s =>
  (try dsimp only at d)
  have hJ:=f4_j5_ok k v4 v5 v6 v7 v8 v9 l m o p q s _ d
  simp (disch:=first|apply D;decide|apply K;kernel_rfl) only [E,EE,↓reduceIte,simprocAttr,R4_l4.st]
  try simp only [NM,EE] at hJ
  exact hJ
 | o1 ak =>
  (try dsimp only at d)
  cases d
  simp (disch:=first|apply D;decide|apply K;kernel_rfl) only [E,EE,↓reduceIte,simprocAttr,R4_l4.st,fin4,R4.st]
 | o2 _ _ _ _ _ _ _ _ _ _ =>
  (try dsimp only at d)
  cases d
 | o3 t u v w x y z n aa ab ac =>
  (try dsimp only at d)
  have hJ:=f4_j8_ok k t u v w x y z n aa ab ac _ d
  simp (disch:=first|apply D;decide|apply K;kernel_rfl) only [E,EE,↓reduceIte,simprocAttr,R4_l4.st]
  try simp only [NM,EE] at hJ
  exact hJ
inductive R4_l10 where
 | o0 (y:Int) (a:List Int) (b c:Int) (d:Bool) (e f:Int) (g:List T65) (h i:List T39) (j:Int) (l:List Int)
 | o1 (y:Bool)
 | o2 (y:List Int) (a b c d:Int) (e:List T65) (f g:List T39) (h:Int) (i:List Int)
 | o3 (y:List Int) (a b:Int) (c:Bool) (d e:Int) (f:List T65) (g h:List T39) (i:Int) (j:List Int)
noncomputable def R4_l10.st:R4_l10→Out×St
 | .o0 y a b c d e f g h i j l=>(.exit 0,(⟨103,[(10,.ptr 30000 0),(13,.ptr 30001 0),(15,.ptr 30003 0),(16,V.fn 17 [.ptr 30000 0,.ptr 30001 0,.ptr 30003 0,.ptr 30004 0]),(18,jI y),(67,.sl 1 (rowsOf (encI .i64) a)),(68,jI b),(69,jI c),(75,.p (.bool d))],[(30000,.box 26 [jI e,jU f,.sl 4 (rowsOf encT65 g),.sl 11 (rowsOf encT39 h)]),(30001,.box 24 [.own 30002]),(30002,.row true 11 39 (rowsOf encT39 i)),(30003,.box 3 [jI j]),(30004,.box 29 [.sl 1 (rowsOf (encI .u8) l)])]⟩:St))
 | .o1 y=>(.ret,(⟨103,[(6,.p (.bool y))],[]⟩:St))
 | .o2 y a b c d e f g h i=>(.norm,(⟨103,[(10,.ptr 30000 0),(13,.ptr 30001 0),(15,.ptr 30003 0),(16,V.fn 17 [.ptr 30000 0,.ptr 30001 0,.ptr 30003 0,.ptr 30004 0]),(67,.sl 1 (rowsOf (encI .i64) y)),(68,jI a),(69,jI b)],[(30000,.box 26 [jI c,jU d,.sl 4 (rowsOf encT65 e),.sl 11 (rowsOf encT39 f)]),(30001,.box 24 [.own 30002]),(30002,.row true 11 39 (rowsOf encT39 g)),(30003,.box 3 [jI h]),(30004,.box 29 [.sl 1 (rowsOf (encI .u8) i)])]⟩:St))
 | .o3 y a b c d e f g h i j=>(.exit 0,(⟨103,[(10,.ptr 30000 0),(13,.ptr 30001 0),(15,.ptr 30003 0),(16,V.fn 17 [.ptr 30000 0,.ptr 30001 0,.ptr 30003 0,.ptr 30004 0]),(67,.sl 1 (rowsOf (encI .i64) y)),(68,jI a),(69,jI b),(70,.p (.bool c))],[(30000,.box 26 [jI d,jU e,.sl 4 (rowsOf encT65 f),.sl 11 (rowsOf encT39 g)]),(30001,.box 24 [.own 30002]),(30002,.row true 11 39 (rowsOf encT39 h)),(30003,.box 3 [jI i]),(30004,.box 29 [.sl 1 (rowsOf (encI .u8) j)])]⟩:St))
noncomputable def f4_l10_j3 (k:Nat) (d:List Int) (e f:Int) (l:Bool) (g a:Int) (b:List T65) (c h:List T39) (i:Int) (j:List Int):Option R4_l10 :=
 some (.o2 d e (IntKind.i64.wrap (f+(1:Int))) g a b c h i j)
theorem f4_l10_j3_ok (k d e f g h a b c i j l r) (m:f4_l10_j3 k d e f g h a b c i j l=some r):EX 4 k (nav B4 [2,2,2,1,2,2,1,2,2,2,2,2,2,2,2,2,2]) (⟨103,[(10,.ptr 30000 0),(13,.ptr 30001 0),(15,.ptr 30003 0),(16,V.fn 17 [.ptr 30000 0,.ptr 30001 0,.ptr 30003 0,.ptr 30004 0]),(67,.sl 1 (rowsOf (encI .i64) d)),(68,jI e),(69,jI f),(83,.p (.bool g))],[(30000,.box 26 [jI h,jU a,.sl 4 (rowsOf encT65 b),.sl 11 (rowsOf encT39 c)]),(30001,.box 24 [.own 30002]),(30002,.row true 11 39 (rowsOf encT39 i)),(30003,.box 3 [jI j]),(30004,.box 29 [.sl 1 (rowsOf (encI .u8) l)])]⟩:St)=some r.st:=by
 unfold f4_l10_j3 at m
 cases m
 simp (disch:=first|apply D;decide|apply K;kernel_rfl) only [E,EE,↓reduceIte,simprocAttr,rg B4 [2,2,2,1,2,2,1,2,2,2,2,2,2,2,2,2,2] 19 false rfl,hr 4 19 rfl,R4_l10.st]
noncomputable def f4_l10_j2 (k:Nat) (e:Int) (f:List Int) (g h:Int) (q:Bool) (i a:Int) (b:List T65) (c d:List T39) (j:Int) (l:List Int):Option R4_l10 :=
 ifE (¬((List.length d):Int)=0) (
  Option.bind (f17a k ((Int.tmod (if (0:Int)>e then 0 else e) ((List.length d):Int))) i a b c d j l) fun o2 =>
   match o2 with
   | .o0 s t u v w m o p =>
    cond ((!s))
     (some (.o1 false))
     (f4_l10_j3 k f g h false t u v w m o p))
theorem f4_l10_j2_ok (k e h i j q l a b c f m o r) (d:f4_l10_j2 k e h i j q l a b c f m o=some r):SQ 4 k (nav B4 [2,2,2,1,2,2,1,2,2,2,2,2,2,2,2,2,2]) (blockK 1 (EX 4 k (nav B4 [2,2,2,1,2,2,1,2,2,1,2,2,2,2,2,2,2,2,2,2]) (⟨103,[(10,.ptr 30000 0),(13,.ptr 30001 0),(15,.ptr 30003 0),(16,V.fn 17 [.ptr 30000 0,.ptr 30001 0,.ptr 30003 0,.ptr 30004 0]),(18,jI e),(67,.sl 1 (rowsOf (encI .i64) h)),(68,jI i),(69,jI j),(75,.p (.bool q))],[(30000,.box 26 [jI l,jU a,.sl 4 (rowsOf encT65 b),.sl 11 (rowsOf encT39 c)]),(30001,.box 24 [.own 30002]),(30002,.row true 11 39 (rowsOf encT39 f)),(30003,.box 3 [jI m]),(30004,.box 29 [.sl 1 (rowsOf (encI .u8) o)])]⟩:St)))=some r.st:=by
 unfold f4_l10_j2 at d
 obtain ⟨s,d⟩:=ifE_some.1 d
 obtain ⟨o2,w,d⟩:=bs d
 have g:=f17a_ok k ((Int.tmod (if (0:Int)>e then 0 else e) ((List.length f):Int))) l a b c f m o _ w
 cases o2 with
 | o0 v5 x y z n t u v =>
  (try dsimp only at d)
  (try simp only [NM,EE,R17a.st] at g)
  simp (disch:=first|apply D;decide|apply K;kernel_rfl) only [E,EE,↓reduceIte,simprocAttr,xk B4 [2,2,2,1,2,2,1,2,2,1,2,2,2,2,2,2,2,2,2,2] .sq rfl,rg B4 [1,2,2,2,1,2,2,1,2,2,1,2,2,2,2,2,2,2,2,2,2] 17 false rfl,hr 4 17 rfl,minmaxV,minmaxGo,t_24,callStep,CL,gv,List.contains,xk B4 [2,2,2,2,1,2,2,1,2,2,1,2,2,2,2,2,2,2,2,2,2] (.cd 83) rfl,s,g]
  rcases cond_some d with ⟨p,d⟩ | ⟨p,d⟩
  ·cases d
   simp (disch:=first|apply D;decide|apply K;kernel_rfl) only [E,EE,↓reduceIte,simprocAttr,xk B4 [2,2,2,2,2,1,2,2,1,2,2,1,2,2,2,2,2,2,2,2,2,2] .sq rfl,rg B4 [1,2,2,2,2,2,1,2,2,1,2,2,1,2,2,2,2,2,2,2,2,2,2] 18 false rfl,hr 4 18 rfl,xk B4 [2,2,2,2,2,2,1,2,2,1,2,2,1,2,2,2,2,2,2,2,2,2,2] .rt rfl,R4_l10.st,s,g,p]
  ·have hJ:=f4_l10_j3_ok k h i j false x y z n t u v _ d
   simp (disch:=first|apply D;decide|apply K;kernel_rfl) only [E,EE,↓reduceIte,simprocAttr,xk B4 [3,2,2,2,2,1,2,2,1,2,2,1,2,2,2,2,2,2,2,2,2,2] .sk rfl,s,g,p]
   try simp only [NM,EE] at hJ
   exact hJ
noncomputable def f4_l10_j1 (k:Nat) (e:List Int) (f a:Int) (m:Bool) (g b:Int) (c:List T65) (d h:List T39) (i:Int) (j:List Int):Option R4_l10 :=
 ifE ((0:Int)≤a) (
  Option.bind (e[(Int.toNat a)]?) fun l =>
   cond ((a==30))
    (some (.o0 l e f a true g b c d h i j))
    (f4_l10_j2 k l e f a false g b c d h i j))
theorem f4_l10_j1_ok (k e f g m h a b c i j l r) (d:f4_l10_j1 k e f g m h a b c i j l=some r):EX 4 k (nav B4 [2,2,1,2,2,1,2,2,2,2,2,2,2,2,2,2]) (⟨103,[(10,.ptr 30000 0),(13,.ptr 30001 0),(15,.ptr 30003 0),(16,V.fn 17 [.ptr 30000 0,.ptr 30001 0,.ptr 30003 0,.ptr 30004 0]),(67,.sl 1 (rowsOf (encI .i64) e)),(68,jI f),(69,jI g),(70,.p (.bool m))],[(30000,.box 26 [jI h,jU a,.sl 4 (rowsOf encT65 b),.sl 11 (rowsOf encT39 c)]),(30001,.box 24 [.own 30002]),(30002,.row true 11 39 (rowsOf encT39 i)),(30003,.box 3 [jI j]),(30004,.box 29 [.sl 1 (rowsOf (encI .u8) l)])]⟩:St)=some r.st:=by
 unfold f4_l10_j1 at d
 obtain ⟨o,d⟩:=ifE_some.1 d
 obtain ⟨s,p,d⟩:=bs d
 simp (disch:=first|apply D;decide|apply K;kernel_rfl) only [E,EE,↓reduceIte,simprocAttr,xk B4 [2,2,1,2,2,1,2,2,2,2,2,2,2,2,2,2] .sq rfl,xk B4 [1,2,2,1,2,2,1,2,2,2,2,2,2,2,2,2,2] (.bk 1) rfl,xk B4 [2,1,2,2,1,2,2,1,2,2,2,2,2,2,2,2,2,2] .sq rfl,rg B4 [1,2,1,2,2,1,2,2,1,2,2,2,2,2,2,2,2,2,2] 15 false rfl,hr 4 15 rfl,indexAddrV,t_44,t_3,encI_eq,xk B4 [2,2,1,2,2,1,2,2,1,2,2,2,2,2,2,2,2,2,2] .sq rfl,xk B4 [1,2,2,1,2,2,1,2,2,1,2,2,2,2,2,2,2,2,2,2] .sq rfl,rg B4 [1,1,2,2,1,2,2,1,2,2,1,2,2,2,2,2,2,2,2,2,2] 16 false rfl,hr 4 16 rfl,xk B4 [2,1,2,2,1,2,2,1,2,2,1,2,2,2,2,2,2,2,2,2,2] (.cd 75) rfl,o,p]
 rcases cond_some d with ⟨q,d⟩ | ⟨q,d⟩
 ·cases d
  simp (disch:=first|apply D;decide|apply K;kernel_rfl) only [E,EE,↓reduceIte,simprocAttr,xk B4 [2,2,1,2,2,1,2,2,1,2,2,1,2,2,2,2,2,2,2,2,2,2] (.ex 0) rfl,R4_l10.st,o,p,q]
 ·have hJ:=f4_l10_j2_ok k s e f g false h a b c i j l _ d
  simp (disch:=first|apply D;decide|apply K;kernel_rfl) only [E,EE,↓reduceIte,simprocAttr,xk B4 [3,2,1,2,2,1,2,2,1,2,2,1,2,2,2,2,2,2,2,2,2,2] .sk rfl,o,p,q]
  try simp only [NM,EE] at hJ
  exact hJ
noncomputable def f4_l10_b (k:Nat) (f:List Int) (d e g a:Int) (b:List T65) (c h:List T39) (i:Int) (j:List Int):Option R4_l10 :=
 cond ((decide (e<d)))
  (f4_l10_j1 k f d e true g a b c h i j)
  (some (.o3 f d e false g a b c h i j))
theorem f4_l10_b_ok (k d e f g a b c h i j r) (l:f4_l10_b k d e f g a b c h i j=some r):EX 4 k (nav B4 [1,2,2,1,2,2,2,2,2,2,2,2,2,2]) (⟨103,[(10,.ptr 30000 0),(13,.ptr 30001 0),(15,.ptr 30003 0),(16,V.fn 17 [.ptr 30000 0,.ptr 30001 0,.ptr 30003 0,.ptr 30004 0]),(67,.sl 1 (rowsOf (encI .i64) d)),(68,jI e),(69,jI f)],[(30000,.box 26 [jI g,jU a,.sl 4 (rowsOf encT65 b),.sl 11 (rowsOf encT39 c)]),(30001,.box 24 [.own 30002]),(30002,.row true 11 39 (rowsOf encT39 h)),(30003,.box 3 [jI i]),(30004,.box 29 [.sl 1 (rowsOf (encI .u8) j)])]⟩:St)=some r.st:=by
 unfold f4_l10_b at l
 simp (disch:=first|apply D;decide|apply K;kernel_rfl) only [E,EE,↓reduceIte,simprocAttr,xk B4 [1,2,2,1,2,2,2,2,2,2,2,2,2,2] .sq rfl,rg B4 [1,1,2,2,1,2,2,2,2,2,2,2,2,2,2] 14 false rfl,hr 4 14 rfl,xk B4 [2,1,2,2,1,2,2,2,2,2,2,2,2,2,2] .sq rfl,xk B4 [1,2,1,2,2,1,2,2,2,2,2,2,2,2,2,2] (.cd 70) rfl]
 rcases cond_some l with ⟨m,l⟩ | ⟨m,l⟩
 ·have hJ:=f4_l10_j1_ok k d e f true g a b c h i j _ l
  simp (disch:=first|apply D;decide|apply K;kernel_rfl) only [E,EE,↓reduceIte,simprocAttr,xk B4 [2,1,2,1,2,2,1,2,2,2,2,2,2,2,2,2,2] .sk rfl,m]
  try simp only [NM,EE] at hJ
  exact hJ
 ·cases l
  simp (disch:=first|apply D;decide|apply K;kernel_rfl) only [E,EE,↓reduceIte,simprocAttr,xk B4 [3,1,2,1,2,2,1,2,2,2,2,2,2,2,2,2,2] (.ex 0) rfl,R4_l10.st,m]
noncomputable def f4_l10 (k:Nat):Nat→(List Int)→Int→Int→Int→Int→(List T65)→(List T39)→(List T39)→Int→(List Int)→Option R4_l10
 | 0,_,_,_,_,_,_,_,_,_,_=>none
 | n+1,s,t,u,v,l,m,p,w,x,z=>Option.bind (f4_l10_b k s t u v l m p w x z) fun o =>
  match o with
  | .o0 y a b c d e f g h i j q=>some (.o0 y a b c d e f g h i j q)
  | .o1 y=>some (.o1 y)
  | .o2 y a b c d e f g h i=>f4_l10 k n y a b c d e f g h i
  | .o3 y a b c d e f g h i j=>some (.o3 y a b c d e f g h i j)
theorem f4_l10_ok (k n:Nat):∀ (d:List Int) (e f g a:Int) (b:List T65) (c i:List T39) (j:Int) (l:List Int) (r:R4_l10) (m:f4_l10 k n d e f g a b c i j l=some r) (σ:St) (hσ:headR (hints.head 4 14) (hints.canon 4 14) σ=some (⟨103,[(10,.ptr 30000 0),(13,.ptr 30001 0),(15,.ptr 30003 0),(16,V.fn 17 [.ptr 30000 0,.ptr 30001 0,.ptr 30003 0,.ptr 30004 0]),(67,.sl 1 (rowsOf (encI .i64) d)),(68,jI e),(69,jI f)],[(30000,.box 26 [jI g,jU a,.sl 4 (rowsOf encT65 b),.sl 11 (rowsOf encT39 c)]),(30001,.box 24 [.own 30002]),(30002,.row true 11 39 (rowsOf encT39 i)),(30003,.box 3 [jI j]),(30004,.box 29 [.sl 1 (rowsOf (encI .u8) l)])]⟩:St)),LP 4 k (nav B4 [1,2,2,1,2,2,2,2,2,2,2,2,2,2]) n σ=some r.st:=by
 induction n with
 | zero=>intro d e f g a b c i j l r m;cases m
 | succ n ih =>
  intro d e f g a b c i j l r m σ hσ
  rw [f4_l10] at m
  obtain ⟨o,h,m⟩:=Option.bind_eq_some_iff.1 m
  have hB:=f4_l10_b_ok k d e f g a b c i j l o h
  unfold LP at ih ⊢
  unfold EX at hB
  rw [loopK_succ,show firstReg (nav B4 [1,2,2,1,2,2,2,2,2,2,2,2,2,2])=14 from rfl,hσ,headK_some,hB]
  cases o with
  | o0 y p q s t u v w x z aa ac=>cases m;rfl
  | o1 y=>cases m;rfl
  | o2 y p q s t u v w x z =>
   refine ih y p q s t u v w x z r m _ ?_
   simp (disch:=first|apply D;decide|apply K;kernel_rfl) only [E,EE,↓reduceIte,simprocAttr,hh_4_14,hc_4_14]
  | o3 y p q s t u v w x z aa=>cases m;rfl
inductive R4_l12 where
 | o0 (y:Bool)
 | o1 (y a b c:Int) (d:List T65) (e:List T39) (f:Int) (g:List T39) (h:List Int)
 | o2 (y a:Int) (b:Bool) (c d:Int) (e:List T65) (f:List T39) (g:Int) (h:List T39) (i:List Int)
noncomputable def R4_l12.st:R4_l12→Out×St
 | .o0 y=>(.ret,(⟨103,[(6,.p (.bool y))],[]⟩:St))
 | .o1 y a b c d e f g h=>(.norm,(⟨103,[(10,.ptr 30000 0),(15,.ptr 30001 0),(16,V.fn 17 [.ptr 30000 0,.ptr 30002 0,.ptr 30001 0,.ptr 30004 0]),(86,jI y),(87,jI a)],[(30000,.box 26 [jI b,jU c,.sl 4 (rowsOf encT65 d),.sl 11 (rowsOf encT39 e)]),(30001,.box 3 [jI f]),(30002,.box 24 [.own 30003]),(30003,.row true 11 39 (rowsOf encT39 g)),(30004,.box 29 [.sl 1 (rowsOf (encI .u8) h)])]⟩:St))
 | .o2 y a b c d e f g h i=>(.exit 2,(⟨103,[(10,.ptr 30000 0),(15,.ptr 30001 0),(16,V.fn 17 [.ptr 30000 0,.ptr 30002 0,.ptr 30001 0,.ptr 30004 0]),(86,jI y),(87,jI a),(88,.p (.bool b))],[(30000,.box 26 [jI c,jU d,.sl 4 (rowsOf encT65 e),.sl 11 (rowsOf encT39 f)]),(30001,.box 3 [jI g]),(30002,.box 24 [.own 30003]),(30003,.row true 11 39 (rowsOf encT39 h)),(30004,.box 29 [.sl 1 (rowsOf (encI .u8) i)])]⟩:St))
noncomputable def f4_l12_j2 (k:Nat) (d e:Int) (j:Bool) (f a:Int) (b:List T65) (c:List T39) (g:Int) (h:List T39) (i:List Int):Option R4_l12 :=
 some (.o1 d (IntKind.i64.wrap (e+(1:Int))) f a b c g h i)
theorem f4_l12_j2_ok (k d e f g a b c h i j r) (l:f4_l12_j2 k d e f g a b c h i j=some r):EX 4 k (nav B4 [2,2,2,1,2,2,1,2,2,2,2,2,2,2,2,2,2,2]) (⟨103,[(10,.ptr 30000 0),(15,.ptr 30001 0),(16,V.fn 17 [.ptr 30000 0,.ptr 30002 0,.ptr 30001 0,.ptr 30004 0]),(86,jI d),(87,jI e),(93,.p (.bool f))],[(30000,.box 26 [jI g,jU a,.sl 4 (rowsOf encT65 b),.sl 11 (rowsOf encT39 c)]),(30001,.box 3 [jI h]),(30002,.box 24 [.own 30003]),(30003,.row true 11 39 (rowsOf encT39 i)),(30004,.box 29 [.sl 1 (rowsOf (encI .u8) j)])]⟩:St)=some r.st:=by
 unfold f4_l12_j2 at l
 cases l
 simp (disch:=first|apply D;decide|apply K;kernel_rfl) only [E,EE,↓reduceIte,simprocAttr,rg B4 [2,2,2,1,2,2,1,2,2,2,2,2,2,2,2,2,2,2] 25 false rfl,hr 4 25 rfl,R4_l12.st]
noncomputable def f4_l12_j1 (k:Nat) (e d:Int) (m:Bool) (f a:Int) (b:List T65) (c:List T39) (g:Int) (h:List T39) (i:List Int):Option R4_l12 :=
 Option.bind (f17a k d f a b c h g i) fun o1 =>
  match o1 with
  | .o0 o p q s t u j l =>
   cond ((!o))
    (some (.o0 false))
    (f4_l12_j2 k e d false p q s t j u l)
theorem f4_l12_j1_ok (k g d o h a b c i j l r) (e:f4_l12_j1 k g d o h a b c i j l=some r):EX 4 k (nav B4 [2,2,1,2,2,1,2,2,2,2,2,2,2,2,2,2,2]) (⟨103,[(10,.ptr 30000 0),(15,.ptr 30001 0),(16,V.fn 17 [.ptr 30000 0,.ptr 30002 0,.ptr 30001 0,.ptr 30004 0]),(86,jI g),(87,jI d),(88,.p (.bool o))],[(30000,.box 26 [jI h,jU a,.sl 4 (rowsOf encT65 b),.sl 11 (rowsOf encT39 c)]),(30001,.box 3 [jI i]),(30002,.box 24 [.own 30003]),(30003,.row true 11 39 (rowsOf encT39 j)),(30004,.box 29 [.sl 1 (rowsOf (encI .u8) l)])]⟩:St)=some r.st:=by
 unfold f4_l12_j1 at e
 obtain ⟨o1,s,e⟩:=bs e
 have f:=f17a_ok k d h a b c j i l _ s
 cases o1 with
 | o0 y t u v w x p q =>
  (try dsimp only at e)
  (try simp only [NM,EE,R17a.st] at f)
  simp (disch:=first|apply D;decide|apply K;kernel_rfl) only [E,EE,↓reduceIte,simprocAttr,xk B4 [2,2,1,2,2,1,2,2,2,2,2,2,2,2,2,2,2] .sq rfl,xk B4 [1,2,2,1,2,2,1,2,2,2,2,2,2,2,2,2,2,2] (.bk 3) rfl,xk B4 [2,1,2,2,1,2,2,1,2,2,2,2,2,2,2,2,2,2,2] .sq rfl,rg B4 [1,2,1,2,2,1,2,2,1,2,2,2,2,2,2,2,2,2,2,2] 22 false rfl,hr 4 22 rfl,xk B4 [2,2,1,2,2,1,2,2,1,2,2,2,2,2,2,2,2,2,2,2] .sq rfl,rg B4 [1,2,2,1,2,2,1,2,2,1,2,2,2,2,2,2,2,2,2,2,2] 23 false rfl,hr 4 23 rfl,callStep,CL,gv,List.contains,xk B4 [2,2,2,1,2,2,1,2,2,1,2,2,2,2,2,2,2,2,2,2,2] (.cd 93) rfl,f]
  rcases cond_some e with ⟨m,e⟩ | ⟨m,e⟩
  ·cases e
   simp (disch:=first|apply D;decide|apply K;kernel_rfl) only [E,EE,↓reduceIte,simprocAttr,xk B4 [2,2,2,2,1,2,2,1,2,2,1,2,2,2,2,2,2,2,2,2,2,2] .sq rfl,rg B4 [1,2,2,2,2,1,2,2,1,2,2,1,2,2,2,2,2,2,2,2,2,2,2] 24 false rfl,hr 4 24 rfl,xk B4 [2,2,2,2,2,1,2,2,1,2,2,1,2,2,2,2,2,2,2,2,2,2,2] .rt rfl,R4_l12.st,f,m]
  ·have hJ:=f4_l12_j2_ok k g d false t u v w p x q _ e
   simp (disch:=first|apply D;decide|apply K;kernel_rfl) only [E,EE,↓reduceIte,simprocAttr,xk B4 [3,2,2,2,1,2,2,1,2,2,1,2,2,2,2,2,2,2,2,2,2,2] .sk rfl,f,m]
   try simp only [NM,EE] at hJ
   exact hJ
noncomputable def f4_l12_b (k:Nat) (d e f a:Int) (b:List T65) (c:List T39) (g:Int) (h:List T39) (i:List Int):Option R4_l12 :=
 cond ((decide (e<d)))
  (f4_l12_j1 k d e true f a b c g h i)
  (some (.o2 d e false f a b c g h i))
theorem f4_l12_b_ok (k d e f a b c g h i r) (j:f4_l12_b k d e f a b c g h i=some r):EX 4 k (nav B4 [1,2,2,1,2,2,2,2,2,2,2,2,2,2,2]) (⟨103,[(10,.ptr 30000 0),(15,.ptr 30001 0),(16,V.fn 17 [.ptr 30000 0,.ptr 30002 0,.ptr 30001 0,.ptr 30004 0]),(86,jI d),(87,jI e)],[(30000,.box 26 [jI f,jU a,.sl 4 (rowsOf encT65 b),.sl 11 (rowsOf encT39 c)]),(30001,.box 3 [jI g]),(30002,.box 24 [.own 30003]),(30003,.row true 11 39 (rowsOf encT39 h)),(30004,.box 29 [.sl 1 (rowsOf (encI .u8) i)])]⟩:St)=some r.st:=by
 unfold f4_l12_b at j
 simp (disch:=first|apply D;decide|apply K;kernel_rfl) only [E,EE,↓reduceIte,simprocAttr,xk B4 [1,2,2,1,2,2,2,2,2,2,2,2,2,2,2] .sq rfl,rg B4 [1,1,2,2,1,2,2,2,2,2,2,2,2,2,2,2] 21 false rfl,hr 4 21 rfl,xk B4 [2,1,2,2,1,2,2,2,2,2,2,2,2,2,2,2] .sq rfl,xk B4 [1,2,1,2,2,1,2,2,2,2,2,2,2,2,2,2,2] (.cd 88) rfl]
 rcases cond_some j with ⟨l,j⟩ | ⟨l,j⟩
 ·have hJ:=f4_l12_j1_ok k d e true f a b c g h i _ j
  simp (disch:=first|apply D;decide|apply K;kernel_rfl) only [E,EE,↓reduceIte,simprocAttr,xk B4 [2,1,2,1,2,2,1,2,2,2,2,2,2,2,2,2,2,2] .sk rfl,l]
  try simp only [NM,EE] at hJ
  exact hJ
 ·cases j
  simp (disch:=first|apply D;decide|apply K;kernel_rfl) only [E,EE,↓reduceIte,simprocAttr,xk B4 [3,1,2,1,2,2,1,2,2,2,2,2,2,2,2,2,2,2] (.ex 2) rfl,R4_l12.st,l]
noncomputable def f4_l12 (k:Nat):Nat→Int→Int→Int→Int→(List T65)→(List T39)→Int→(List T39)→(List Int)→Option R4_l12
 | 0,_,_,_,_,_,_,_,_,_=>none
 | n+1,m,p,q,a,b,c,s,t,u=>Option.bind (f4_l12_b k m p q a b c s t u) fun o =>
  match o with
  | .o0 y=>some (.o0 y)
  | .o1 y d e f g h i j l=>f4_l12 k n y d e f g h i j l
  | .o2 y d e f g h i j l v=>some (.o2 y d e f g h i j l v)
theorem f4_l12_ok (k n:Nat):∀ (d e f a:Int) (b:List T65) (c:List T39) (g:Int) (i:List T39) (j:List Int) (r:R4_l12) (l:f4_l12 k n d e f a b c g i j=some r) (σ:St) (hσ:headR (hints.head 4 21) (hints.canon 4 21) σ=some (⟨103,[(10,.ptr 30000 0),(15,.ptr 30001 0),(16,V.fn 17 [.ptr 30000 0,.ptr 30002 0,.ptr 30001 0,.ptr 30004 0]),(86,jI d),(87,jI e)],[(30000,.box 26 [jI f,jU a,.sl 4 (rowsOf encT65 b),.sl 11 (rowsOf encT39 c)]),(30001,.box 3 [jI g]),(30002,.box 24 [.own 30003]),(30003,.row true 11 39 (rowsOf encT39 i)),(30004,.box 29 [.sl 1 (rowsOf (encI .u8) j)])]⟩:St)),LP 4 k (nav B4 [1,2,2,1,2,2,2,2,2,2,2,2,2,2,2]) n σ=some r.st:=by
 induction n with
 | zero=>intro d e f a b c g i j r l;cases l
 | succ n x =>
  intro d e f a b c g i j r l σ hσ
  rw [f4_l12] at l
  obtain ⟨o,h,l⟩:=Option.bind_eq_some_iff.1 l
  have hB:=f4_l12_b_ok k d e f a b c g i j o h
  unfold LP at x ⊢
  unfold EX at hB
  rw [loopK_succ,show firstReg (nav B4 [1,2,2,1,2,2,2,2,2,2,2,2,2,2,2])=21 from rfl,hσ,headK_some,hB]
  cases o with
  | o0 y=>cases l;rfl
  | o1 y m p q s t u v w =>
   refine x y m p q s t u v w r l _ ?_
   simp (disch:=first|apply D;decide|apply K;kernel_rfl) only [E,EE,↓reduceIte,simprocAttr,hh_4_21,hc_4_21]
  | o2 y m p q s t u v w z=>cases l;rfl
noncomputable def f4_j13 (k:Nat) (e f:Int) (g:Bool) (h b:Int) (c:List T65) (a:List T39) (d:Int) (i:List T39) (j:List Int):Option R4 :=
 cond ((d==1))
  (some (.o0 (((List.length a):Int)==0)))
  (some (.o0 false))
theorem f4_j13_ok (k e f g h a b c i j l r) (d:f4_j13 k e f g h a b c i j l=some r):finK Try.prog Try.f4 0 (EX 4 k (nav B4 [2,2,2,2,2,2,2,2,2,2,2,2]) (⟨103,[(10,.ptr 30000 0),(15,.ptr 30001 0),(16,V.fn 17 [.ptr 30000 0,.ptr 30002 0,.ptr 30001 0,.ptr 30004 0]),(86,jI e),(87,jI f),(88,.p (.bool g))],[(30000,.box 26 [jI h,jU a,.sl 4 (rowsOf encT65 b),.sl 11 (rowsOf encT39 c)]),(30001,.box 3 [jI i]),(30002,.box 24 [.own 30003]),(30003,.row true 11 39 (rowsOf encT39 j)),(30004,.box 29 [.sl 1 (rowsOf (encI .u8) l)])]⟩:St))=some r.st:=by
 unfold f4_j13 at d
 simp (disch:=first|apply D;decide|apply K;kernel_rfl) only [E,EE,↓reduceIte,simprocAttr,xk B4 [2,2,2,2,2,2,2,2,2,2,2,2] .sq rfl,rg B4 [1,2,2,2,2,2,2,2,2,2,2,2,2] 26 false rfl,hr 4 26 rfl,t_3]
 rcases cond_some d with ⟨m,d⟩ | ⟨m,d⟩
 ·cases d
  simp (disch:=first|apply D;decide|apply K;kernel_rfl) only [E,EE,↓reduceIte,simprocAttr,fieldAddrV,t_26,t_24,xk B4 [2,2,2,2,2,2,2,2,2,2,2,2,2] .rt rfl,fin4,R4.st,m]
 ·cases d
  simp (disch:=first|apply D;decide|apply K;kernel_rfl) only [E,EE,↓reduceIte,simprocAttr,xk B4 [2,2,2,2,2,2,2,2,2,2,2,2,2] .rt rfl,fin4,R4.st,m]
noncomputable def f4_j11 (k:Nat) (o:Int) (p:List Int) (q s:Int) (t:Bool) (e a:Int) (b:List T65) (c d:List T39) (f:Int) (g:List Int):Option R4 :=
 Option.bind (f4_l12 k k ((List.length d):Int) 0 e a b c f d g) fun o1 =>
  match o1 with
  | .o0 u =>
   some (.o0 u)
  | .o1 _ _ _ _ _ _ _ _ _ =>
   none
  | .o2 v w x y z h i j l m =>
   f4_j13 k v w x y z h i j l m
theorem f4_j11_ok (k j l m o p f a b c d g h r) (e:f4_j11 k j l m o p f a b c d g h=some r):finK Try.prog Try.f4 0 (EX 4 k (nav B4 [2,2,2,2,2,2,2,2,2,2,2]) (⟨103,[(10,.ptr 30000 0),(13,.ptr 30001 0),(15,.ptr 30003 0),(16,V.fn 17 [.ptr 30000 0,.ptr 30001 0,.ptr 30003 0,.ptr 30004 0]),(18,jI j),(67,.sl 1 (rowsOf (encI .i64) l)),(68,jI m),(69,jI o),(75,.p (.bool p))],[(30000,.box 26 [jI f,jU a,.sl 4 (rowsOf encT65 b),.sl 11 (rowsOf encT39 c)]),(30001,.box 24 [.own 30002]),(30002,.row true 11 39 (rowsOf encT39 d)),(30003,.box 3 [jI g]),(30004,.box 29 [.sl 1 (rowsOf (encI .u8) h)])]⟩:St))=some r.st:=by
 unfold f4_j11 at e
 obtain ⟨o1,w,e⟩:=bs e
 have i:=f4_l12_ok k k ((List.length d):Int) 0 f a b c g d h _ w
 simp (disch:=first|apply D;decide|apply K;kernel_rfl) only [E,EE,↓reduceIte,simprocAttr,xk B4 [2,2,2,2,2,2,2,2,2,2,2] .sq rfl,xk B4 [1,2,2,2,2,2,2,2,2,2,2,2] .sq rfl,rg B4 [1,1,2,2,2,2,2,2,2,2,2,2,2] 20 false rfl,hr 4 20 rfl,t_24,xk B4 [2,1,2,2,2,2,2,2,2,2,2,2,2] (.bk 2) rfl,xk B4 [2,2,1,2,2,2,2,2,2,2,2,2,2,2] .lp rfl,hh_4_21,hc_4_21]
 (try simp only [NM,EE] at i)
 rw [i _ (by simp (disch:=first|apply D;decide|apply K;kernel_rfl) only [E,EE,↓reduceIte,simprocAttr,hh_4_21,hc_4_21])]
 clear i
 cases o1 with
 | o0 v4 =>
  (try dsimp only at e)
  cases e
  simp (disch:=first|apply D;decide|apply K;kernel_rfl) only [E,EE,↓reduceIte,simprocAttr,R4_l12.st,fin4,R4.st]
 | o1 _ _ _ _ _ _ _ _ _ =>
  (try dsimp only at e)
  cases e
 | o2 x y z n v9 q s t u v =>
  (try dsimp only at e)
  have hJ:=f4_j13_ok k x y z n v9 q s t u v _ e
  simp (disch:=first|apply D;decide|apply K;kernel_rfl) only [E,EE,↓reduceIte,simprocAttr,R4_l12.st]
  try simp only [NM,EE] at hJ
  exact hJ
noncomputable def f4_j14 (k:Nat) (o:List Int) (p q:Int) (s:Bool) (e a:Int) (b:List T65) (c d:List T39) (f:Int) (g:List Int):Option R4 :=
 Option.bind (f4_l12 k k ((List.length d):Int) 0 e a b c f d g) fun o1 =>
  match o1 with
  | .o0 t =>
   some (.o0 t)
  | .o1 _ _ _ _ _ _ _ _ _ =>
   none
  | .o2 u v w x y h i j l m =>
   f4_j13 k u v w x y h i j l m
theorem f4_j14_ok (k j l m o f a b c d g h r) (e:f4_j14 k j l m o f a b c d g h=some r):finK Try.prog Try.f4 0 (EX 4 k (nav B4 [2,2,2,2,2,2,2,2,2,2,2]) (⟨103,[(10,.ptr 30000 0),(13,.ptr 30001 0),(15,.ptr 30003 0),(16,V.fn 17 [.ptr 30000 0,.ptr 30001 0,.ptr 30003 0,.ptr 30004 0]),(67,.sl 1 (rowsOf (encI .i64) j)),(68,jI l),(69,jI m),(70,.p (.bool o))],[(30000,.box 26 [jI f,jU a,.sl 4 (rowsOf encT65 b),.sl 11 (rowsOf encT39 c)]),(30001,.box 24 [.own 30002]),(30002,.row true 11 39 (rowsOf encT39 d)),(30003,.box 3 [jI g]),(30004,.box 29 [.sl 1 (rowsOf (encI .u8) h)])]⟩:St))=some r.st:=by
 unfold f4_j14 at e
 obtain ⟨o1,v,e⟩:=bs e
 have i:=f4_l12_ok k k ((List.length d):Int) 0 f a b c g d h _ v
 simp (disch:=first|apply D;decide|apply K;kernel_rfl) only [E,EE,↓reduceIte,simprocAttr,xk B4 [2,2,2,2,2,2,2,2,2,2,2] .sq rfl,xk B4 [1,2,2,2,2,2,2,2,2,2,2,2] .sq rfl,rg B4 [1,1,2,2,2,2,2,2,2,2,2,2,2] 20 false rfl,hr 4 20 rfl,t_24,xk B4 [2,1,2,2,2,2,2,2,2,2,2,2,2] (.bk 2) rfl,xk B4 [2,2,1,2,2,2,2,2,2,2,2,2,2,2] .lp rfl,hh_4_21,hc_4_21]
 (try simp only [NM,EE] at i)
 rw [i _ (by simp (disch:=first|apply D;decide|apply K;kernel_rfl) only [E,EE,↓reduceIte,simprocAttr,hh_4_21,hc_4_21])]
 clear i
 cases o1 with
 | o0 v4 =>
  (try dsimp only at e)
  cases e
  simp (disch:=first|apply D;decide|apply K;kernel_rfl) only [E,EE,↓reduceIte,simprocAttr,R4_l12.st,fin4,R4.st]
 | o1 _ _ _ _ _ _ _ _ _ =>
  (try dsimp only at e)
  cases e
 | o2 w x y z n p q s t u =>
  (try dsimp only at e)
  have hJ:=f4_j13_ok k w x y z n p q s t u _ e
  simp (disch:=first|apply D;decide|apply K;kernel_rfl) only [E,EE,↓reduceIte,simprocAttr,R4_l12.st]
  try simp only [NM,EE] at hJ
  exact hJ
noncomputable def f4_j9 (k:Nat) (r:List Int) (n:Bool) (m3:List Int) (e b:Int) (c:List T65) (d a:List T39):Option R4 :=
 Option.bind (f4_l10 k k r ((List.length r):Int) 0 e b c d a 0 m3) fun o1 =>
  match o1 with
  | .o0 v4 v5 v6 v7 v8 v9 f g h i j l =>
   f4_j11 k v4 v5 v6 v7 v8 v9 f g h i j l
  | .o1 m =>
   some (.o0 m)
  | .o2 _ _ _ _ _ _ _ _ _ _ =>
   none
  | .o3 o p q s t u v w x y z =>
   f4_j14 k o p q s t u v w x y z
theorem f4_j9_ok (k i h j f b c d a r) (e:f4_j9 k i h j f b c d a=some r):finK Try.prog Try.f4 0 (EX 4 k (nav B4 [2,2,2,2,2,2,2,2]) (⟨103,[(2,.sl 1 (rowsOf (encI .i64) i)),(3,.ptr 3 0),(10,.ptr 10 0),(13,.ptr 13 0),(65,.p (.bool h))],[(3,.box 29 [.sl 1 (rowsOf (encI .u8) j)]),(10,.box 26 [jI f,jU b,.sl 4 (rowsOf encT65 c),.sl 11 (rowsOf encT39 d)]),(13,.box 24 [.own 20052]),(20052,.row true 11 39 (rowsOf encT39 a))]⟩:St))=some r.st:=by
 unfold f4_j9 at e
 obtain ⟨o1,h2,e⟩:=bs e
 have g:=f4_l10_ok k k i ((List.length i):Int) 0 f b c d a 0 j _ h2
 simp (disch:=first|apply D;decide|apply K;kernel_rfl) only [E,EE,↓reduceIte,simprocAttr,xk B4 [2,2,2,2,2,2,2,2] .sq rfl,rg B4 [1,2,2,2,2,2,2,2,2] 11 false rfl,hr 4 11 rfl,t_3,xk B4 [2,2,2,2,2,2,2,2,2] .sq rfl,rg B4 [1,2,2,2,2,2,2,2,2,2] 12 false rfl,hr 4 12 rfl,xk B4 [2,2,2,2,2,2,2,2,2,2] .sq rfl,xk B4 [1,2,2,2,2,2,2,2,2,2,2] .sq rfl,rg B4 [1,1,2,2,2,2,2,2,2,2,2,2] 13 false rfl,hr 4 13 rfl,t_44,xk B4 [2,1,2,2,2,2,2,2,2,2,2,2] (.bk 0) rfl,xk B4 [2,2,1,2,2,2,2,2,2,2,2,2,2] .lp rfl,hh_4_14,hc_4_14]
 (try simp only [NM,EE] at g)
 rw [g _ (by simp (disch:=first|apply D;decide|apply K;kernel_rfl) only [E,EE,↓reduceIte,simprocAttr,hh_4_14,hc_4_14])]
 clear g
 cases o1 with
 | o0 v4 v5 v6 v7 v8 v9 l m o p q s =>
  (try dsimp only at e)
  have hJ:=f4_j11_ok k v4 v5 v6 v7 v8 v9 l m o p q s _ e
  simp (disch:=first|apply D;decide|apply K;kernel_rfl) only [E,EE,↓reduceIte,simprocAttr,R4_l10.st]
  try simp only [NM,EE] at hJ
  exact hJ
 | o1 ak =>
  (try dsimp only at e)
  cases e
  simp (disch:=first|apply D;decide|apply K;kernel_rfl) only [E,EE,↓reduceIte,simprocAttr,R4_l10.st,fin4,R4.st]
 | o2 _ _ _ _ _ _ _ _ _ _ =>
  (try dsimp only at e)
  cases e
 | o3 t u v w x y z n aa ab ac =>
  (try dsimp only at e)
  have hJ:=f4_j14_ok k t u v w x y z n aa ab ac _ e
  simp (disch:=first|apply D;decide|apply K;kernel_rfl) only [E,EE,↓reduceIte,simprocAttr,R4_l10.st]
  try simp only [NM,EE] at hJ
  exact hJ
noncomputable def f4_j2 (k:Nat) (g:Int) (m:List Int) (p:Bool) (a:List Int):Option R4 :=
 Option.bind (f16 k 1) fun o1 =>
  match o1 with
  | .o0 q s t u o =>
   Option.bind (f16 k 2) fun o9 =>
    match o9 with
    | .o0 b c d e f =>
     Option.bind (f9 k q s t u 2 100 1 0 ((if (IntKind.i64.wrap (Int.tdiv (IntKind.i64.wrap (((List.length a):Int)+(6:Int))) (7:Int)))>(IntKind.i64.wrap ((1:Int)+(Int.tmod (if (0:Int)>g then 0 else g) (400:Int)))) then (IntKind.i64.wrap (Int.tdiv (IntKind.i64.wrap (((List.length a):Int)+(6:Int))) (7:Int))) else (IntKind.i64.wrap ((1:Int)+(Int.tmod (if (0:Int)>g then 0 else g) (400:Int)))))) a 0) fun o17 =>
      match o17 with
      | .o0 v w x h i y =>
       cond ((o != 0))
        (some (.o0 false))
        (
         cond ((f != 0))
          (some (.o0 false))
          (
           cond ((i != 0))
            (some (.o0 false))
            (f4_j3 k m false a b c d e h)))
      | .o1 z r j n aa l =>
       cond ((o != 0))
        (some (.o0 false))
        (
         cond ((f != 0))
          (some (.o0 false))
          (
           cond ((j != 0))
            (some (.o0 false))
            (f4_j9 k m false a b c d e l)))
theorem f4_j2_ok (k m u o i r) (c:f4_j2 k m u o i=some r):finK Try.prog Try.f4 0 (EX 4 k (nav B4 [2,2,2]) (⟨103,[(1,jI m),(2,.sl 1 (rowsOf (encI .i64) u)),(3,.ptr 3 0),(29,.p (.bool o))],[(3,.box 29 [.sl 1 (rowsOf (encI .u8) i)])]⟩:St))=some r.st:=by
 unfold f4_j2 at c
 obtain ⟨o1,z,c⟩:=bs c
 have d:=f16_ok k 1 _ z
 cases o1 with
 | o0 n v5 v6 v7 v8 =>
  (try dsimp only at c)
  (try simp only [NM,EE,R16.st] at d)
  obtain ⟨o9,v,c⟩:=bs c
  have a:=f16_ok k 2 _ v
  cases o9 with
  | o0 p q s t ad =>
   (try dsimp only at c)
   (try simp only [NM,EE,R16.st] at a)
   simp (disch:=first|apply D;decide|apply K;kernel_rfl) only [E,EE,↓reduceIte,simprocAttr,xk B4 [2,2,2] .sq rfl,rg B4 [1,2,2,2] 5 false rfl,hr 4 5 rfl,minmaxV,minmaxGo,t_29,bl_28,t_28,xk B4 [2,2,2,2] .sq rfl,rg B4 [1,2,2,2,2] 6 false rfl,hr 4 6 rfl,callStep,CL,gv,List.contains,t_26,xk B4 [2,2,2,2,2] .sq rfl,rg B4 [1,2,2,2,2,2] 7 false rfl,hr 4 7 rfl,xk B4 [2,2,2,2,2,2] .sq rfl,rg B4 [1,2,2,2,2,2,2] 8 false rfl,hr 4 8 rfl,d,a]
   obtain ⟨o17,w,c⟩:=bs c
   have b:=f9_ok k n v5 v6 v7 2 100 1 0 ((if (IntKind.i64.wrap (Int.tdiv (IntKind.i64.wrap (((List.length i):Int)+(6:Int))) (7:Int)))>(IntKind.i64.wrap ((1:Int)+(Int.tmod (if (0:Int)>m then 0 else m) (400:Int)))) then (IntKind.i64.wrap (Int.tdiv (IntKind.i64.wrap (((List.length i):Int)+(6:Int))) (7:Int))) else (IntKind.i64.wrap ((1:Int)+(Int.tmod (if (0:Int)>m then 0 else m) (400:Int)))))) i 0 _ w
   cases o17 with
   | o0 ae af ag x ah ai =>
    (try dsimp only at c)
    (try simp only [NM,EE,R9.st] at b)
    simp (disch:=first|apply D;decide|apply K;kernel_rfl) only [E,EE,↓reduceIte,simprocAttr,t_26,t_24,xk B4 [2,2,2,2,2,2,2] .sq rfl,xk B4 [1,2,2,2,2,2,2,2] .sq rfl,rg B4 [1,1,2,2,2,2,2,2,2] 9 false rfl,hr 4 9 rfl,d,a,b]
    rcases cond_some c with ⟨e,c⟩ | ⟨e,c⟩
    ·cases c
     simp (disch:=first|apply D;decide|apply K;kernel_rfl) only [E,EE,↓reduceIte,simprocAttr,xk B4 [2,1,2,2,2,2,2,2,2] (.cd 65) rfl,xk B4 [2,2,1,2,2,2,2,2,2,2] .sq rfl,rg B4 [1,2,2,1,2,2,2,2,2,2,2] 10 false rfl,hr 4 10 rfl,xk B4 [2,2,2,1,2,2,2,2,2,2,2] .rt rfl,fin4,R4.st,d,a,b,e]
    ·rcases cond_some c with ⟨g,c⟩ | ⟨g,c⟩
     ·cases c
      simp (disch:=first|apply D;decide|apply K;kernel_rfl) only [E,EE,↓reduceIte,simprocAttr,xk B4 [2,1,2,2,2,2,2,2,2] (.cd 65) rfl,xk B4 [2,2,1,2,2,2,2,2,2,2] .sq rfl,rg B4 [1,2,2,1,2,2,2,2,2,2,2] 10 false rfl,hr 4 10 rfl,xk B4 [2,2,2,1,2,2,2,2,2,2,2] .rt rfl,fin4,R4.st,d,a,b,e,g]
     ·simp (disch:=first|apply D;decide|apply K;kernel_rfl) only [E,EE,↓reduceIte,simprocAttr,xk B4 [2,1,2,2,2,2,2,2,2] (.cd 65) rfl,d,a,b,e,g]
      rcases cond_some c with ⟨j,c⟩ | ⟨j,c⟩
      ·cases c
       simp (disch:=first|apply D;decide|apply K;kernel_rfl) only [E,EE,↓reduceIte,simprocAttr,xk B4 [2,2,1,2,2,2,2,2,2,2] .sq rfl,rg B4 [1,2,2,1,2,2,2,2,2,2,2] 10 false rfl,hr 4 10 rfl,xk B4 [2,2,2,1,2,2,2,2,2,2,2] .rt rfl,fin4,R4.st,d,a,b,e,g,j]
      ·have hJ:=f4_j3_ok k u false i p q s t x _ c
       simp (disch:=first|apply D;decide|apply K;kernel_rfl) only [E,EE,↓reduceIte,simprocAttr,xk B4 [3,2,1,2,2,2,2,2,2,2] .sk rfl,d,a,b,e,g,j]
       try simp only [NM,EE] at hJ
       exact hJ
   | o1 aj ak al am an y =>
    (try dsimp only at c)
    (try simp only [NM,EE,R9.st] at b)
    simp (disch:=first|apply D;decide|apply K;kernel_rfl) only [E,EE,↓reduceIte,simprocAttr,t_26,t_24,xk B4 [2,2,2,2,2,2,2] .sq rfl,xk B4 [1,2,2,2,2,2,2,2] .sq rfl,rg B4 [1,1,2,2,2,2,2,2,2] 9 false rfl,hr 4 9 rfl,d,a,b]
    rcases cond_some c with ⟨f,c⟩ | ⟨f,c⟩
    ·cases c
     simp (disch:=first|apply D;decide|apply K;kernel_rfl) only [E,EE,↓reduceIte,simprocAttr,xk B4 [2,1,2,2,2,2,2,2,2] (.cd 65) rfl,xk B4 [2,2,1,2,2,2,2,2,2,2] .sq rfl,rg B4 [1,2,2,1,2,2,2,2,2,2,2] 10 false rfl,hr 4 10 rfl,xk B4 [2,2,2,1,2,2,2,2,2,2,2] .rt rfl,fin4,R4.st,d,a,b,f]
    ·rcases cond_some c with ⟨h,c⟩ | ⟨h,c⟩
     ·cases c
      simp (disch:=first|apply D;decide|apply K;kernel_rfl) only [E,EE,↓reduceIte,simprocAttr,xk B4 [2,1,2,2,2,2,2,2,2] (.cd 65) rfl,xk B4 [2,2,1,2,2,2,2,2,2,2] .sq rfl,rg B4 [1,2,2,1,2,2,2,2,2,2,2] 10 false rfl,hr 4 10 rfl,xk B4 [2,2,2,1,2,2,2,2,2,2,2] .rt rfl,fin4,R4.st,d,a,b,f,h]
     ·simp (disch:=first|apply D;decide|apply K;kernel_rfl) only [E,EE,↓reduceIte,simprocAttr,xk B4 [2,1,2,2,2,2,2,2,2] (.cd 65) rfl,d,a,b,f,h]
      rcases cond_some c with ⟨l,c⟩ | ⟨l,c⟩
      ·cases c
       simp (disch:=first|apply D;decide|apply K;kernel_rfl) only [E,EE,↓reduceIte,simprocAttr,xk B4 [2,2,1,2,2,2,2,2,2,2] .sq rfl,rg B4 [1,2,2,1,2,2,2,2,2,2,2] 10 false rfl,hr 4 10 rfl,xk B4 [2,2,2,1,2,2,2,2,2,2,2] .rt rfl,fin4,R4.st,d,a,b,f,h,l]
      ·have hJ:=f4_j9_ok k u false i p q s t y _ c
       simp (disch:=first|apply D;decide|apply K;kernel_rfl) only [E,EE,↓reduceIte,simprocAttr,xk B4 [3,2,1,2,2,2,2,2,2,2] .sk rfl,d,a,b,f,h,l]
       try simp only [NM,EE] at hJ
       exact hJ
noncomputable def f4_j1 (k:Nat) (b:Int) (c:List Int) (d:Bool) (a:List Int):Option R4 :=
 cond ((decide (((List.length a):Int)<1)))
  (some (.o0 true))
  (
   cond ((decide (((List.length a):Int)>400)))
    (some (.o0 true))
    (f4_j2 k b c false a))
theorem f4_j1_ok (k d e b f r) (a:f4_j1 k d e b f=some r):finK Try.prog Try.f4 0 (EX 4 k (nav B4 [2,2]) (⟨103,[(1,jI d),(2,.sl 1 (rowsOf (encI .i64) e)),(3,.ptr 3 0),(21,.p (.bool b))],[(3,.box 29 [.sl 1 (rowsOf (encI .u8) f)])]⟩:St))=some r.st:=by
 unfold f4_j1 at a
 simp (disch:=first|apply D;decide|apply K;kernel_rfl) only [E,EE,↓reduceIte,simprocAttr,xk B4 [2,2] .sq rfl,xk B4 [1,2,2] .sq rfl,rg B4 [1,1,2,2] 3 false rfl,hr 4 3 rfl,t_29]
 rcases cond_some a with ⟨c,a⟩ | ⟨c,a⟩
 ·cases a
  simp (disch:=first|apply D;decide|apply K;kernel_rfl) only [E,EE,↓reduceIte,simprocAttr,xk B4 [2,1,2,2] (.cd 29) rfl,xk B4 [2,2,1,2,2] .sq rfl,rg B4 [1,2,2,1,2,2] 4 false rfl,hr 4 4 rfl,xk B4 [2,2,2,1,2,2] .rt rfl,fin4,R4.st,c]
 ·simp (disch:=first|apply D;decide|apply K;kernel_rfl) only [E,EE,↓reduceIte,simprocAttr,t_29,xk B4 [2,1,2,2] (.cd 29) rfl,c]
  rcases cond_some a with ⟨g,a⟩ | ⟨g,a⟩
  ·cases a
   simp (disch:=first|apply D;decide|apply K;kernel_rfl) only [E,EE,↓reduceIte,simprocAttr,xk B4 [2,2,1,2,2] .sq rfl,rg B4 [1,2,2,1,2,2] 4 false rfl,hr 4 4 rfl,xk B4 [2,2,2,1,2,2] .rt rfl,fin4,R4.st,c,g]
  ·have hJ:=f4_j2_ok k d e false f _ a
   simp (disch:=first|apply D;decide|apply K;kernel_rfl) only [E,EE,↓reduceIte,simprocAttr,xk B4 [3,2,1,2,2] .sk rfl,c,g]
   try simp only [NM,EE] at hJ
   exact hJ
noncomputable def f4_e (k:Nat) (a:List Int) (b:Int) (c:List Int):Option R4 :=
 Option.bind (f7 k) fun o1 =>
  match o1 with
  | .o0 d =>
   cond ((!d))
    (some (.o0 false))
    (f4_j1 k b c false a)
theorem f4_e_ok (k c d e r) (a:f4_e k c d e=some r):finK Try.prog Try.f4 0 (EX 4 k (nav B4 []) (⟨103,[(0,.sl 1 (rowsOf (encI .u8) c)),(1,jI d),(2,.sl 1 (rowsOf (encI .i64) e))],[]⟩:St))=some r.st:=by
 unfold f4_e at a
 obtain ⟨o1,g,a⟩:=bs a
 have b:=f7_ok k _ g
 cases o1 with
 | o0 h =>
  (try dsimp only at a)
  (try simp only [NM,EE,R7.st] at b)
  simp (disch:=first|apply D;decide|apply K;kernel_rfl) only [E,EE,↓reduceIte,simprocAttr,xk B4 [] .sq rfl,rg B4 [1] 0 false rfl,hr 4 0 rfl,xk B4 [2] .sq rfl,xk B4 [1,2] .sq rfl,rg B4 [1,1,2] 1 false rfl,hr 4 1 rfl,callStep,CL,gv,List.contains,xk B4 [2,1,2] (.cd 21) rfl,b]
  rcases cond_some a with ⟨f,a⟩ | ⟨f,a⟩
  ·cases a
   simp (disch:=first|apply D;decide|apply K;kernel_rfl) only [E,EE,↓reduceIte,simprocAttr,xk B4 [2,2,1,2] .sq rfl,rg B4 [1,2,2,1,2] 2 false rfl,hr 4 2 rfl,xk B4 [2,2,2,1,2] .rt rfl,fin4,R4.st,b,f]
  ·have hJ:=f4_j1_ok k d e false c _ a
   simp (disch:=first|apply D;decide|apply K;kernel_rfl) only [E,EE,↓reduceIte,simprocAttr,xk B4 [3,2,1,2] .sk rfl,b,f]
   try simp only [NM,EE] at hJ
   exact hJ
noncomputable def f4 (k:Nat) (a:List Int) (b:Int) (c:List Int):Option R4:=match k with | 0=>none | k+1=>f4_e k a b c
theorem f4_ok (k a b d r) (e:f4 k a b d=some r):CV k 4 [.sl 1 (rowsOf (encI .u8) a),jI b,.sl 1 (rowsOf (encI .i64) d)] []=some r.st:=by
 cases k with
 | zero=>cases e
 | succ k =>
  unfold CV
  rw [ev_call (F:=Try.f4) (c:=(nav B4 [])) rfl Try.func4 rfl rfl rfl rfl]
  exact f4_e_ok k a b d r e
end Go.Proofs.YticggdfaehneeaaV