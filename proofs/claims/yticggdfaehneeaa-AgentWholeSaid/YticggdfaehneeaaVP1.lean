/- What the program's functions answer: plain functions,and that the interpreter answers what they do. Written by a program of this session,out of the translation. -/
import Derived.Test.YticggdfaehneeaaVPC
namespace Go.Proofs.YticggdfaehneeaaV
open Go
set_option linter.unusedVariables false
set_option linter.unusedSimpArgs false
set_option maxRecDepth 8000
set_option maxHeartbeats 4000000
-- f7: f7 heliograph/heliographlaw19.wakes
inductive R7 where
 | o0 (y:Bool)
noncomputable def R7.st:R7→V×List O×List O
 | .o0 y=>(.p (.bool y),[],[])
noncomputable def f7 (k:Nat):Option R7:=ifE (200≤k) (some (.o0 true))
theorem f7_ok (k r) (a:f7 k=some r):CV k 7 [] []=some r.st:=by
 obtain ⟨h,a⟩:=ifE_some.1 a
 cases a
 exact callV_le h wakes
-- f23: f23 heliograph/agent.within
inductive R23 where
 | o0 (y:Bool)
noncomputable def R23.st:R23→V×List O×List O
 | .o0 y=>(.p (.bool y),[],[])
noncomputable def f23_e (k:Nat) (a b c:Int):Option R23 :=
 cond ((decide (a≥b)))
  (some (.o0 (decide (a≤c))))
  (some (.o0 false))
theorem f23_e_ok (k c d e r) (a:f23_e k c d e=some r):finK Try.prog Try.f23 0 (EX 23 k (nav B23 []) (⟨15,[(0,jI c),(1,jI d),(2,jI e)],[]⟩:St))=some r.st:=by
 unfold f23_e at a
 simp (disch:=first|apply D;decide|apply K;kernel_rfl) only [E,EE,↓reduceIte,simprocAttr,xk B23 [] .sq rfl,rg B23 [1] 0 false rfl,hr 23 0 rfl,xk B23 [2] .sq rfl,rg B23 [1,2] 1 false rfl,hr 23 1 rfl]
 rcases cond_some a with ⟨b,a⟩ | ⟨b,a⟩
 ·cases a
  simp (disch:=first|apply D;decide|apply K;kernel_rfl) only [E,EE,↓reduceIte,simprocAttr,xk B23 [2,2] .rt rfl,fin23,R23.st,b]
 ·cases a
  simp (disch:=first|apply D;decide|apply K;kernel_rfl) only [E,EE,↓reduceIte,simprocAttr,xk B23 [2,2] .rt rfl,fin23,R23.st,b]
noncomputable def f23 (k:Nat) (a b c:Int):Option R23:=match k with | 0=>none | k+1=>f23_e k a b c
theorem f23_ok (k a b d r) (e:f23 k a b d=some r):CV k 23 [jI a,jI b,jI d] []=some r.st:=by
 cases k with
 | zero=>cases e
 | succ k =>
  unfold CV
  rw [ev_call (F:=Try.f23) (c:=(nav B23 [])) rfl Try.func23 rfl rfl rfl rfl]
  exact f23_e_ok k a b d r e
-- f16: f16 heliograph/agent.New
inductive R16 where
 | o0 (y a:Int) (b:List T65) (c:List T39) (d:Int)
noncomputable def R16.st:R16→V×List O×List O
 | .o0 y a b c d=>(V.tup [.agg [jI y,jU a,.sl 4 (rowsOf encT65 b),.sl 11 (rowsOf encT39 c)],jI d],[],[])
noncomputable def f16_j1 (k:Nat) (d:Int) (e:Bool) (f a:Int) (b:List T65) (c:List T39):Option R16 :=
 some (.o0 d 1 [] [] 0)
theorem f16_j1_ok (k d e f a b c r) (g:f16_j1 k d e f a b c=some r):finK Try.prog Try.f16 0 (EX 16 k (nav B16 [2,2]) (⟨10,[(0,jI d),(2,.ptr 2 0),(6,.p (.bool e))],[(2,.box 26 [jI f,jU a,.sl 4 (rowsOf encT65 b),.sl 11 (rowsOf encT39 c)])]⟩:St))=some r.st:=by
 unfold f16_j1 at g
 cases g
 simp (disch:=first|apply D;decide|apply K;kernel_rfl) only [E,EE,↓reduceIte,simprocAttr,xk B16 [2,2] .sq rfl,rg B16 [1,2,2] 3 false rfl,hr_16_3,bl_26,t_26,xk B16 [2,2,2] .rt rfl,fin16,R16.st]
noncomputable def f16_e (k:Nat) (a:Int):Option R16 :=
 Option.bind (f23 k a 1 6) fun o1 =>
  match o1 with
  | .o0 b =>
   cond ((!b))
    (some (.o0 0 0 [] [] 2))
    (f16_j1 k a false 0 0 [] [])
theorem f16_e_ok (k c r) (a:f16_e k c=some r):finK Try.prog Try.f16 0 (EX 16 k (nav B16 []) (⟨10,[(0,jI c)],[]⟩:St))=some r.st:=by
 unfold f16_e at a
 obtain ⟨o1,e,a⟩:=bs a
 have b:=f23_ok k c 1 6 _ e
 cases o1 with
 | o0 f =>
  (try dsimp only at a)
  (try simp only [NM,EE,R23.st] at b)
  simp (disch:=first|apply D;decide|apply K;kernel_rfl) only [E,EE,↓reduceIte,simprocAttr,xk B16 [] .sq rfl,rg B16 [1] 0 false rfl,hr_16_0,t_26,xk B16 [2] .sq rfl,xk B16 [1,2] .sq rfl,rg B16 [1,1,2] 1 false rfl,hr 16 1 rfl,callStep,CL,gv,List.contains,xk B16 [2,1,2] (.cd 6) rfl,b]
  rcases cond_some a with ⟨d,a⟩ | ⟨d,a⟩
  ·cases a
   simp (disch:=first|apply D;decide|apply K;kernel_rfl) only [E,EE,↓reduceIte,simprocAttr,xk B16 [2,2,1,2] .sq rfl,rg B16 [1,2,2,1,2] 2 false rfl,hr_16_2,bl_26,t_26,xk B16 [2,2,2,1,2] .rt rfl,fin16,R16.st,b,d]
  ·have hJ:=f16_j1_ok k c false 0 0 [] [] _ a
   simp (disch:=first|apply D;decide|apply K;kernel_rfl) only [E,EE,↓reduceIte,simprocAttr,xk B16 [3,2,1,2] .sk rfl,b,d]
   try simp only [NM,EE] at hJ
   exact hJ
noncomputable def f16 (k:Nat) (a:Int):Option R16:=match k with | 0=>none | k+1=>f16_e k a
theorem f16_ok (k a r) (b:f16 k a=some r):CV k 16 [jI a] []=some r.st:=by
 cases k with
 | zero=>cases b
 | succ k =>
  unfold CV
  rw [ev_call (F:=Try.f16) (c:=(nav B16 [])) rfl Try.func16 rfl rfl rfl rfl]
  exact f16_e_ok k a r b
-- f33: f33 slices.Index[[]heliograph/api.Seen,heliograph/api.Seen]
inductive R33 where
 | o0 (y:Int)
noncomputable def R33.st:R33→V×List O×List O
 | .o0 y=>((jI y),[],[])
inductive R33_l1 where
 | o0 (y:Int)
 | o1 (y:List T65) (a b c d e f:Int)
 | o2 (y:List T65) (a b:Int) (c:Bool) (d e f g:Int)
noncomputable def R33_l1.st:R33_l1→Out×St
 | .o0 y=>(.ret,(⟨19,[(4,jI y)],[]⟩:St))
 | .o1 y a b c d e f=>(.norm,(⟨19,[(0,.sl 4 (rowsOf encT65 y)),(3,.ptr 30000 0),(7,jI a),(8,jI b)],[(30000,.box 65 [jI c,jU d,jI e,jI f])]⟩:St))
 | .o2 y a b c d e f g=>(.exit 0,(⟨19,[(0,.sl 4 (rowsOf encT65 y)),(3,.ptr 30000 0),(7,jI a),(8,jI b),(9,.p (.bool c))],[(30000,.box 65 [jI d,jU e,jI f,jI g])]⟩:St))
noncomputable def f33_l1_j2 (k:Nat) (e:List T65) (i f g:Int) (h:Bool) (d a b c:Int):Option R33_l1 :=
 some (.o1 e f (IntKind.i64.wrap (g+(1:Int))) d a b c)
theorem f33_l1_j2_ok (k f g h i d e a b c r) (j:f33_l1_j2 k f g h i d e a b c=some r):EX 33 k (nav B33 [2,2,2,1,2,2,1,2]) (⟨19,[(0,.sl 4 (rowsOf encT65 f)),(3,.ptr 30000 0),(5,jI g),(7,jI h),(8,jI i),(16,.p (.bool d))],[(30000,.box 65 [jI e,jU a,jI b,jI c])]⟩:St)=some r.st:=by
 unfold f33_l1_j2 at j
 cases j
 simp (disch:=first|apply D;decide|apply K;kernel_rfl) only [E,EE,↓reduceIte,simprocAttr,rg B33 [2,2,2,1,2,2,1,2] 6 false rfl,hr 33 6 rfl,R33_l1.st]
noncomputable def f33_l1_j1 (k:Nat) (g:List T65) (h d:Int) (i:Bool) (e a b c:Int):Option R33_l1 :=
 ifE ((0:Int)≤d) (
  Option.bind (g[(Int.toNat d)]?) fun f =>
   cond ((((e==f.Key_Source)&&((a==f.Key_Seq)&&(b==f.Key_Offset)))&&(c==f.N)))
    (some (.o0 d))
    (f33_l1_j2 k g d h d false e a b c))
theorem f33_l1_j1_ok (k g h f m e a b c r) (d:f33_l1_j1 k g h f m e a b c=some r):EX 33 k (nav B33 [2,2,1,2,2,1,2]) (⟨19,[(0,.sl 4 (rowsOf encT65 g)),(3,.ptr 30000 0),(7,jI h),(8,jI f),(9,.p (.bool m))],[(30000,.box 65 [jI e,jU a,jI b,jI c])]⟩:St)=some r.st:=by
 unfold f33_l1_j1 at d
 obtain ⟨i,d⟩:=ifE_some.1 d
 obtain ⟨o,j,d⟩:=bs d
 simp (disch:=first|apply D;decide|apply K;kernel_rfl) only [E,EE,↓reduceIte,simprocAttr,xk B33 [2,2,1,2,2,1,2] .sq rfl,xk B33 [1,2,2,1,2,2,1,2] (.bk 1) rfl,xk B33 [2,1,2,2,1,2,2,1,2] .sq rfl,rg B33 [1,2,1,2,2,1,2,2,1,2] 3 false rfl,hr 33 3 rfl,xk B33 [2,2,1,2,2,1,2,2,1,2] .sq rfl,rg B33 [1,2,2,1,2,2,1,2,2,1,2] 4 true rfl,hr 33 4 rfl,t_65,indexAddrV,t_23,encT65_eq,ag_65,ag_63,t_63,t_3,t_22,xk B33 [2,2,2,1,2,2,1,2,2,1,2] (.cd 16) rfl,i,j]
 rcases cond_some d with ⟨l,d⟩ | ⟨l,d⟩
 ·cases d
  simp (disch:=first|apply D;decide|apply K;kernel_rfl) only [E,EE,↓reduceIte,simprocAttr,xk B33 [2,2,2,2,1,2,2,1,2,2,1,2] .sq rfl,rg B33 [1,2,2,2,2,1,2,2,1,2,2,1,2] 5 false rfl,hr 33 5 rfl,xk B33 [2,2,2,2,2,1,2,2,1,2,2,1,2] .rt rfl,R33_l1.st,i,j,l]
 ·have hJ:=f33_l1_j2_ok k g f h f false e a b c _ d
  simp (disch:=first|apply D;decide|apply K;kernel_rfl) only [E,EE,↓reduceIte,simprocAttr,xk B33 [3,2,2,2,1,2,2,1,2,2,1,2] .sk rfl,i,j,l]
  try simp only [NM,EE] at hJ
  exact hJ
noncomputable def f33_l1_b (k:Nat) (g:List T65) (e f d a b c:Int):Option R33_l1 :=
 cond ((decide (f<e)))
  (f33_l1_j1 k g e f true d a b c)
  (some (.o2 g e f false d a b c))
theorem f33_l1_b_ok (k f g h d a b c r) (e:f33_l1_b k f g h d a b c=some r):EX 33 k (nav B33 [1,2,2,1,2]) (⟨19,[(0,.sl 4 (rowsOf encT65 f)),(3,.ptr 30000 0),(7,jI g),(8,jI h)],[(30000,.box 65 [jI d,jU a,jI b,jI c])]⟩:St)=some r.st:=by
 unfold f33_l1_b at e
 simp (disch:=first|apply D;decide|apply K;kernel_rfl) only [E,EE,↓reduceIte,simprocAttr,xk B33 [1,2,2,1,2] .sq rfl,rg B33 [1,1,2,2,1,2] 2 false rfl,hr 33 2 rfl,xk B33 [2,1,2,2,1,2] .sq rfl,xk B33 [1,2,1,2,2,1,2] (.cd 9) rfl]
 rcases cond_some e with ⟨i,e⟩ | ⟨i,e⟩
 ·have hJ:=f33_l1_j1_ok k f g h true d a b c _ e
  simp (disch:=first|apply D;decide|apply K;kernel_rfl) only [E,EE,↓reduceIte,simprocAttr,xk B33 [2,1,2,1,2,2,1,2] .sk rfl,i]
  try simp only [NM,EE] at hJ
  exact hJ
 ·cases e
  simp (disch:=first|apply D;decide|apply K;kernel_rfl) only [E,EE,↓reduceIte,simprocAttr,xk B33 [3,1,2,1,2,2,1,2] (.ex 0) rfl,R33_l1.st,i]
noncomputable def f33_l1 (k:Nat):Nat→(List T65)→Int→Int→Int→Int→Int→Int→Option R33_l1
 | 0,_,_,_,_,_,_,_=>none
 | n+1,m,p,q,j,a,b,c=>Option.bind (f33_l1_b k m p q j a b c) fun o =>
  match o with
  | .o0 y=>some (.o0 y)
  | .o1 y d e f g h i=>f33_l1 k n y d e f g h i
  | .o2 y d e f g h i l=>some (.o2 y d e f g h i l)
theorem f33_l1_ok (k n:Nat):∀ (f:List T65) (g i d a b c:Int) (r:R33_l1) (e:f33_l1 k n f g i d a b c=some r) (σ:St) (hσ:headR (hints.head 33 2) (hints.canon 33 2) σ=some (⟨19,[(0,.sl 4 (rowsOf encT65 f)),(3,.ptr 30000 0),(7,jI g),(8,jI i)],[(30000,.box 65 [jI d,jU a,jI b,jI c])]⟩:St)),LP 33 k (nav B33 [1,2,2,1,2]) n σ=some r.st:=by
 induction n with
 | zero=>intro f g i d a b c r e;cases e
 | succ n t =>
  intro f g i d a b c r e σ hσ
  rw [f33_l1] at e
  obtain ⟨o,h,e⟩:=Option.bind_eq_some_iff.1 e
  have hB:=f33_l1_b_ok k f g i d a b c o h
  unfold LP at t ⊢
  unfold EX at hB
  rw [loopK_succ,show firstReg (nav B33 [1,2,2,1,2])=2 from rfl,hσ,headK_some,hB]
  cases o with
  | o0 y=>cases e;rfl
  | o1 y j l m p q s =>
   refine t y j l m p q s r e _ ?_
   simp (disch:=first|apply D;decide|apply K;kernel_rfl) only [E,EE,↓reduceIte,simprocAttr,hh_33_2,hc_33_2]
  | o2 y j l m p q s u=>cases e;rfl
noncomputable def f33_j2 (k:Nat) (e:List T65) (f g:Int) (h:Bool) (d a b c:Int):Option R33 :=
 some (.o0 (-1))
theorem f33_j2_ok (k e f g h d a b c r) (i:f33_j2 k e f g h d a b c=some r):finK Try.prog Try.f33 0 (EX 33 k (nav B33 [2,2]) (⟨19,[(0,.sl 4 (rowsOf encT65 e)),(3,.ptr 30000 0),(7,jI f),(8,jI g),(9,.p (.bool h))],[(30000,.box 65 [jI d,jU a,jI b,jI c])]⟩:St))=some r.st:=by
 unfold f33_j2 at i
 cases i
 simp (disch:=first|apply D;decide|apply K;kernel_rfl) only [E,EE,↓reduceIte,simprocAttr,xk B33 [2,2] .sq rfl,rg B33 [1,2,2] 7 false rfl,hr 33 7 rfl,xk B33 [2,2,2] .rt rfl,fin33,R33.st]
noncomputable def f33_e (k:Nat) (g:List T65) (h a b c:Int):Option R33 :=
 Option.bind (f33_l1 k k g ((List.length g):Int) 0 h a b c) fun o1 =>
  match o1 with
  | .o0 i =>
   some (.o0 i)
  | .o1 _ _ _ _ _ _ _ =>
   none
  | .o2 j l m o p d e f =>
   f33_j2 k j l m o p d e f
theorem f33_e_ok (k f g a b c r) (d:f33_e k f g a b c=some r):finK Try.prog Try.f33 0 (EX 33 k (nav B33 []) (⟨19,[(0,.sl 4 (rowsOf encT65 f)),(1,.agg [jI g,jU a,jI b,jI c])],[]⟩:St))=some r.st:=by
 unfold f33_e at d
 obtain ⟨o1,l,d⟩:=bs d
 have e:=f33_l1_ok k k f ((List.length f):Int) 0 g a b c _ l
 simp (disch:=first|apply D;decide|apply K;kernel_rfl) only [E,EE,↓reduceIte,simprocAttr,xk B33 [] .sq rfl,rg B33 [1] 0 false rfl,hr 33 0 rfl,xk B33 [2] .sq rfl,xk B33 [1,2] .sq rfl,rg B33 [1,1,2] 1 false rfl,hr 33 1 rfl,t_23,xk B33 [2,1,2] (.bk 0) rfl,xk B33 [2,2,1,2] .lp rfl,hh_33_2,hc_33_2]
 (try simp only [NM,EE] at e)
 rw [e _ (by simp (disch:=first|apply D;decide|apply K;kernel_rfl) only [E,EE,↓reduceIte,simprocAttr,hh_33_2,hc_33_2])]
 clear e
 cases o1 with
 | o0 t =>
  (try dsimp only at d)
  cases d
  simp (disch:=first|apply D;decide|apply K;kernel_rfl) only [E,EE,↓reduceIte,simprocAttr,R33_l1.st,fin33,R33.st]
 | o1 _ _ _ _ _ _ _ =>
  (try dsimp only at d)
  cases d
 | o2 m o p q s h i j =>
  (try dsimp only at d)
  have hJ:=f33_j2_ok k m o p q s h i j _ d
  simp (disch:=first|apply D;decide|apply K;kernel_rfl) only [E,EE,↓reduceIte,simprocAttr,R33_l1.st]
  try simp only [NM,EE] at hJ
  exact hJ
noncomputable def f33 (k:Nat) (d:List T65) (e a b c:Int):Option R33:=match k with | 0=>none | k+1=>f33_e k d e a b c
theorem f33_ok (k e f a b d r) (g:f33 k e f a b d=some r):CV k 33 [.sl 4 (rowsOf encT65 e),.agg [jI f,jU a,jI b,jI d]] []=some r.st:=by
 cases k with
 | zero=>cases g
 | succ k =>
  unfold CV
  rw [ev_call (F:=Try.f33) (c:=(nav B33 [])) rfl Try.func33 rfl rfl rfl rfl]
  exact f33_e_ok k e f a b d r g
-- f45: f45 heliograph/bundle.within
inductive R45 where
 | o0 (y:Bool)
noncomputable def R45.st:R45→V×List O×List O
 | .o0 y=>(.p (.bool y),[],[])
noncomputable def f45_e (k:Nat) (a b c:Int):Option R45 :=
 cond ((decide (a≥b)))
  (some (.o0 (decide (a≤c))))
  (some (.o0 false))
theorem f45_e_ok (k c d e r) (a:f45_e k c d e=some r):finK Try.prog Try.f45 0 (EX 45 k (nav B45 []) (⟨15,[(0,jI c),(1,jI d),(2,jI e)],[]⟩:St))=some r.st:=by
 unfold f45_e at a
 simp (disch:=first|apply D;decide|apply K;kernel_rfl) only [E,EE,↓reduceIte,simprocAttr,xk B45 [] .sq rfl,rg B45 [1] 0 false rfl,hr 45 0 rfl,xk B45 [2] .sq rfl,rg B45 [1,2] 1 false rfl,hr 45 1 rfl]
 rcases cond_some a with ⟨b,a⟩ | ⟨b,a⟩
 ·cases a
  simp (disch:=first|apply D;decide|apply K;kernel_rfl) only [E,EE,↓reduceIte,simprocAttr,xk B45 [2,2] .rt rfl,fin45,R45.st,b]
 ·cases a
  simp (disch:=first|apply D;decide|apply K;kernel_rfl) only [E,EE,↓reduceIte,simprocAttr,xk B45 [2,2] .rt rfl,fin45,R45.st,b]
noncomputable def f45 (k:Nat) (a b c:Int):Option R45:=match k with | 0=>none | k+1=>f45_e k a b c
theorem f45_ok (k a b d r) (e:f45 k a b d=some r):CV k 45 [jI a,jI b,jI d] []=some r.st:=by
 cases k with
 | zero=>cases e
 | succ k =>
  unfold CV
  rw [ev_call (F:=Try.f45) (c:=(nav B45 [])) rfl Try.func45 rfl rfl rfl rfl]
  exact f45_e_ok k a b d r e
-- f24: f24 heliograph/bundle.Check
inductive R24 where
 | o0 (y:Int)
noncomputable def R24.st:R24→V×List O×List O
 | .o0 y=>((jI y),[],[])
noncomputable def f24_j1 (k:Nat) (a:Bool):Option R24 :=
 some (.o0 0)
theorem f24_j1_ok (k a r) (b:f24_j1 k a=some r):finK Try.prog Try.f24 0 (EX 24 k (nav B24 [2,2,2,2,2,2]) (⟨73,[(72,.p (.bool a))],[]⟩:St))=some r.st:=by
 unfold f24_j1 at b
 cases b
 simp (disch:=first|apply D;decide|apply K;kernel_rfl) only [E,EE,↓reduceIte,simprocAttr,xk B24 [2,2,2,2,2,2] .sq rfl,rg B24 [1,2,2,2,2,2,2] 7 false rfl,hr 24 7 rfl,xk B24 [2,2,2,2,2,2,2] .rt rfl,fin24,R24.st]
noncomputable def f24_e (k:Nat) (v d e f g c h i j a:Int) (b:List Int):Option R24 :=
 Option.bind (f45 k v 1 6) fun o1 =>
  match o1 with
  | .o0 w =>
   cond (w)
    (
     Option.bind (f45 k d 1 6) fun o6 =>
      match o6 with
      | .o0 x =>
       cond (x)
        (
         cond ((decide (e>0)))
          (
           Option.bind (f45 k f 0 1048576) fun o12 =>
            match o12 with
            | .o0 l =>
             cond (l)
              (
               Option.bind (f45 k g 1 1048576) fun o17 =>
                match o17 with
                | .o0 m =>
                 cond (m)
                  (
                   Option.bind (f45 k c 1 16) fun o22 =>
                    match o22 with
                    | .o0 o =>
                     cond (o)
                      (
                       Option.bind (f45 k h 0 c) fun o27 =>
                        match o27 with
                        | .o0 p =>
                         cond (p)
                          (
                           Option.bind (f45 k i 0 2) fun o32 =>
                            match o32 with
                            | .o0 q =>
                             cond (q)
                              (
                               Option.bind (f45 k a 1 400) fun o37 =>
                                match o37 with
                                | .o0 s =>
                                 cond (s)
                                  (
                                   Option.bind (f45 k ((List.length b):Int) 1 a) fun o42 =>
                                    match o42 with
                                    | .o0 t =>
                                     cond (t)
                                      (
                                       Option.bind (f45 k j 0 (IntKind.i64.wrap (a - ((List.length b):Int)))) fun o47 =>
                                        match o47 with
                                        | .o0 u =>
                                         cond ((!u))
                                          (some (.o0 190))
                                          (f24_j1 k false))
                                      (some (.o0 190)))
                                  (some (.o0 190)))
                              (some (.o0 190)))
                          (some (.o0 190)))
                      (some (.o0 190)))
                  (some (.o0 190)))
              (some (.o0 190)))
          (some (.o0 190)))
        (some (.o0 190)))
    (some (.o0 190))
theorem f24_e_ok (k a0 n ag aa ab y ac ad ae w u r) (a:f24_e k a0 n ag aa ab y ac ad ae w u=some r):finK Try.prog Try.f24 0 (EX 24 k (nav B24 []) (⟨73,[(0,.agg [jI a0,jI n,jU ag,jI aa,jI ab,jI y,jI ac,jI ad,jI ae,jI w,.sl 1 (rowsOf (encI .u8) u)])],[]⟩:St))=some r.st:=by
 unfold f24_e at a
 obtain ⟨o1,h2,a⟩:=bs a
 have d:=f45_ok k a0 1 6 _ h2
 cases o1 with
 | o0 v4 =>
  (try dsimp only at a)
  (try simp only [NM,EE,R45.st] at d)
  simp (disch:=first|apply D;decide|apply K;kernel_rfl) only [E,EE,↓reduceIte,simprocAttr,xk B24 [] .sq rfl,rg B24 [1] 0 false rfl,hr 24 0 rfl,xk B24 [2] .sq rfl,rg B24 [1,2] 1 false rfl,hr 24 1 rfl,fieldAddrV,t_39,t_3,callStep,CL,gv,List.contains,d]
  rcases cond_some a with ⟨q,a⟩ | ⟨q,a⟩
  ·obtain ⟨o6,h7,a⟩:=bs a
   have e:=f45_ok k n 1 6 _ h7
   cases o6 with
   | o0 v9 =>
    (try dsimp only at a)
    (try simp only [NM,EE,R45.st] at e)
    simp (disch:=first|apply D;decide|apply K;kernel_rfl) only [E,EE,↓reduceIte,simprocAttr,fieldAddrV,t_39,t_3,callStep,CL,gv,List.contains,d,q,e]
    rcases cond_some a with ⟨g,a⟩ | ⟨g,a⟩
    ·simp (disch:=first|apply D;decide|apply K;kernel_rfl) only [E,EE,↓reduceIte,simprocAttr,fieldAddrV,t_39,t_22,xk B24 [2,2] .sq rfl,rg B24 [1,2,2] 2 false rfl,hr 24 2 rfl,d,q,e,g]
     rcases cond_some a with ⟨h,a⟩ | ⟨h,a⟩
     ·obtain ⟨o12,aj,a⟩:=bs a
      have b:=f45_ok k aa 0 1048576 _ aj
      cases o12 with
      | o0 av =>
       (try dsimp only at a)
       (try simp only [NM,EE,R45.st] at b)
       simp (disch:=first|apply D;decide|apply K;kernel_rfl) only [E,EE,↓reduceIte,simprocAttr,fieldAddrV,t_39,t_3,callStep,CL,gv,List.contains,d,q,e,g,h,b]
       rcases cond_some a with ⟨j,a⟩ | ⟨j,a⟩
       ·obtain ⟨o17,ak,a⟩:=bs a
        have c:=f45_ok k ab 1 1048576 _ ak
        cases o17 with
        | o0 aw =>
         (try dsimp only at a)
         (try simp only [NM,EE,R45.st] at c)
         simp (disch:=first|apply D;decide|apply K;kernel_rfl) only [E,EE,↓reduceIte,simprocAttr,fieldAddrV,t_39,t_3,callStep,CL,gv,List.contains,xk B24 [2,2,2] .sq rfl,rg B24 [1,2,2,2] 3 false rfl,hr 24 3 rfl,d,q,e,g,h,b,j,c]
         rcases cond_some a with ⟨m,a⟩ | ⟨m,a⟩
         ·obtain ⟨o22,al,a⟩:=bs a
          have f:=f45_ok k y 1 16 _ al
          cases o22 with
          | o0 ax =>
           (try dsimp only at a)
           (try simp only [NM,EE,R45.st] at f)
           simp (disch:=first|apply D;decide|apply K;kernel_rfl) only [E,EE,↓reduceIte,simprocAttr,fieldAddrV,t_39,t_3,callStep,CL,gv,List.contains,d,q,e,g,h,b,j,c,m,f]
           rcases cond_some a with ⟨o,a⟩ | ⟨o,a⟩
           ·obtain ⟨o27,am,a⟩:=bs a
            have i:=f45_ok k ac 0 y _ am
            cases o27 with
            | o0 ay =>
             (try dsimp only at a)
             (try simp only [NM,EE,R45.st] at i)
             simp (disch:=first|apply D;decide|apply K;kernel_rfl) only [E,EE,↓reduceIte,simprocAttr,fieldAddrV,t_39,t_3,callStep,CL,gv,List.contains,d,q,e,g,h,b,j,c,m,f,o,i]
             rcases cond_some a with ⟨s,a⟩ | ⟨s,a⟩
             ·obtain ⟨o32,an,a⟩:=bs a
              have l:=f45_ok k ad 0 2 _ an
              cases o32 with
              | o0 az =>
               (try dsimp only at a)
               (try simp only [NM,EE,R45.st] at l)
               simp (disch:=first|apply D;decide|apply K;kernel_rfl) only [E,EE,↓reduceIte,simprocAttr,fieldAddrV,t_39,t_3,callStep,CL,gv,List.contains,xk B24 [2,2,2,2] .sq rfl,rg B24 [1,2,2,2,2] 4 false rfl,hr 24 4 rfl,d,q,e,g,h,b,j,c,m,f,o,i,s,l]
               rcases cond_some a with ⟨v,a⟩ | ⟨v,a⟩
               ·obtain ⟨o37,ao,a⟩:=bs a
                have p:=f45_ok k w 1 400 _ ao
                cases o37 with
                | o0 a1 =>
                 (try dsimp only at a)
                 (try simp only [NM,EE,R45.st] at p)
                 simp (disch:=first|apply D;decide|apply K;kernel_rfl) only [E,EE,↓reduceIte,simprocAttr,fieldAddrV,t_39,t_3,callStep,CL,gv,List.contains,d,q,e,g,h,b,j,c,m,f,o,i,s,l,v,p]
                 rcases cond_some a with ⟨x,a⟩ | ⟨x,a⟩
                 ·obtain ⟨o42,ap,a⟩:=bs a
                  have t:=f45_ok k ((List.length u):Int) 1 w _ ap
                  cases o42 with
                  | o0 a2 =>
                   (try dsimp only at a)
                   (try simp only [NM,EE,R45.st] at t)
                   simp (disch:=first|apply D;decide|apply K;kernel_rfl) only [E,EE,↓reduceIte,simprocAttr,fieldAddrV,t_39,t_29,t_3,callStep,CL,gv,List.contains,d,q,e,g,h,b,j,c,m,f,o,i,s,l,v,p,x,t]
                   rcases cond_some a with ⟨af,a⟩ | ⟨af,a⟩
                   ·obtain ⟨o47,aq,a⟩:=bs a
                    have z:=f45_ok k ae 0 (IntKind.i64.wrap (w - ((List.length u):Int))) _ aq
                    cases o47 with
                    | o0 a3 =>
                     (try dsimp only at a)
                     (try simp only [NM,EE,R45.st] at z)
                     simp (disch:=first|apply D;decide|apply K;kernel_rfl) only [E,EE,↓reduceIte,simprocAttr,fieldAddrV,t_39,t_3,t_29,callStep,CL,gv,List.contains,xk B24 [2,2,2,2,2] .sq rfl,xk B24 [1,2,2,2,2,2] .sq rfl,rg B24 [1,1,2,2,2,2,2] 5 false rfl,hr 24 5 rfl,xk B24 [2,1,2,2,2,2,2] (.cd 72) rfl,d,q,e,g,h,b,j,c,m,f,o,i,s,l,v,p,x,t,af,z]
                     rcases cond_some a with ⟨ah,a⟩ | ⟨ah,a⟩
                     ·cases a
                      simp (disch:=first|apply D;decide|apply K;kernel_rfl) only [E,EE,↓reduceIte,simprocAttr,xk B24 [2,2,1,2,2,2,2,2] .sq rfl,rg B24 [1,2,2,1,2,2,2,2,2] 6 false rfl,hr 24 6 rfl,xk B24 [2,2,2,1,2,2,2,2,2] .rt rfl,fin24,R24.st,d,q,e,g,h,b,j,c,m,f,o,i,s,l,v,p,x,t,af,z,ah]
                     ·have hJ:=f24_j1_ok k false _ a
                      simp (disch:=first|apply D;decide|apply K;kernel_rfl) only [E,EE,↓reduceIte,simprocAttr,xk B24 [3,2,1,2,2,2,2,2] .sk rfl,d,q,e,g,h,b,j,c,m,f,o,i,s,l,v,p,x,t,af,z,ah]
                      try simp only [NM,EE] at hJ
                      exact hJ
                   ·cases a
                    simp (disch:=first|apply D;decide|apply K;kernel_rfl) only [E,EE,↓reduceIte,simprocAttr,xk B24 [2,2,2,2,2] .sq rfl,xk B24 [1,2,2,2,2,2] .sq rfl,rg B24 [1,1,2,2,2,2,2] 5 false rfl,hr 24 5 rfl,xk B24 [2,1,2,2,2,2,2] (.cd 72) rfl,xk B24 [2,2,1,2,2,2,2,2] .sq rfl,rg B24 [1,2,2,1,2,2,2,2,2] 6 false rfl,hr 24 6 rfl,xk B24 [2,2,2,1,2,2,2,2,2] .rt rfl,fin24,R24.st,d,q,e,g,h,b,j,c,m,f,o,i,s,l,v,p,x,t,af]
                 ·cases a
                  simp (disch:=first|apply D;decide|apply K;kernel_rfl) only [E,EE,↓reduceIte,simprocAttr,xk B24 [2,2,2,2,2] .sq rfl,xk B24 [1,2,2,2,2,2] .sq rfl,rg B24 [1,1,2,2,2,2,2] 5 false rfl,hr 24 5 rfl,xk B24 [2,1,2,2,2,2,2] (.cd 72) rfl,xk B24 [2,2,1,2,2,2,2,2] .sq rfl,rg B24 [1,2,2,1,2,2,2,2,2] 6 false rfl,hr 24 6 rfl,xk B24 [2,2,2,1,2,2,2,2,2] .rt rfl,fin24,R24.st,d,q,e,g,h,b,j,c,m,f,o,i,s,l,v,p,x]
               ·cases a
                simp (disch:=first|apply D;decide|apply K;kernel_rfl) only [E,EE,↓reduceIte,simprocAttr,xk B24 [2,2,2,2,2] .sq rfl,xk B24 [1,2,2,2,2,2] .sq rfl,rg B24 [1,1,2,2,2,2,2] 5 false rfl,hr 24 5 rfl,xk B24 [2,1,2,2,2,2,2] (.cd 72) rfl,xk B24 [2,2,1,2,2,2,2,2] .sq rfl,rg B24 [1,2,2,1,2,2,2,2,2] 6 false rfl,hr 24 6 rfl,xk B24 [2,2,2,1,2,2,2,2,2] .rt rfl,fin24,R24.st,d,q,e,g,h,b,j,c,m,f,o,i,s,l,v]
             ·cases a
              simp (disch:=first|apply D;decide|apply K;kernel_rfl) only [E,EE,↓reduceIte,simprocAttr,xk B24 [2,2,2,2] .sq rfl,rg B24 [1,2,2,2,2] 4 false rfl,hr 24 4 rfl,xk B24 [2,2,2,2,2] .sq rfl,xk B24 [1,2,2,2,2,2] .sq rfl,rg B24 [1,1,2,2,2,2,2] 5 false rfl,hr 24 5 rfl,xk B24 [2,1,2,2,2,2,2] (.cd 72) rfl,xk B24 [2,2,1,2,2,2,2,2] .sq rfl,rg B24 [1,2,2,1,2,2,2,2,2] 6 false rfl,hr 24 6 rfl,xk B24 [2,2,2,1,2,2,2,2,2] .rt rfl,fin24,R24.st,d,q,e,g,h,b,j,c,m,f,o,i,s]
           ·cases a
            simp (disch:=first|apply D;decide|apply K;kernel_rfl) only [E,EE,↓reduceIte,simprocAttr,xk B24 [2,2,2,2] .sq rfl,rg B24 [1,2,2,2,2] 4 false rfl,hr 24 4 rfl,xk B24 [2,2,2,2,2] .sq rfl,xk B24 [1,2,2,2,2,2] .sq rfl,rg B24 [1,1,2,2,2,2,2] 5 false rfl,hr 24 5 rfl,xk B24 [2,1,2,2,2,2,2] (.cd 72) rfl,xk B24 [2,2,1,2,2,2,2,2] .sq rfl,rg B24 [1,2,2,1,2,2,2,2,2] 6 false rfl,hr 24 6 rfl,xk B24 [2,2,2,1,2,2,2,2,2] .rt rfl,fin24,R24.st,d,q,e,g,h,b,j,c,m,f,o]
         ·cases a
          simp (disch:=first|apply D;decide|apply K;kernel_rfl) only [E,EE,↓reduceIte,simprocAttr,xk B24 [2,2,2,2] .sq rfl,rg B24 [1,2,2,2,2] 4 false rfl,hr 24 4 rfl,xk B24 [2,2,2,2,2] .sq rfl,xk B24 [1,2,2,2,2,2] .sq rfl,rg B24 [1,1,2,2,2,2,2] 5 false rfl,hr 24 5 rfl,xk B24 [2,1,2,2,2,2,2] (.cd 72) rfl,xk B24 [2,2,1,2,2,2,2,2] .sq rfl,rg B24 [1,2,2,1,2,2,2,2,2] 6 false rfl,hr 24 6 rfl,xk B24 [2,2,2,1,2,2,2,2,2] .rt rfl,fin24,R24.st,d,q,e,g,h,b,j,c,m]
       ·cases a
        simp (disch:=first|apply D;decide|apply K;kernel_rfl) only [E,EE,↓reduceIte,simprocAttr,xk B24 [2,2,2] .sq rfl,rg B24 [1,2,2,2] 3 false rfl,hr 24 3 rfl,xk B24 [2,2,2,2] .sq rfl,rg B24 [1,2,2,2,2] 4 false rfl,hr 24 4 rfl,xk B24 [2,2,2,2,2] .sq rfl,xk B24 [1,2,2,2,2,2] .sq rfl,rg B24 [1,1,2,2,2,2,2] 5 false rfl,hr 24 5 rfl,xk B24 [2,1,2,2,2,2,2] (.cd 72) rfl,xk B24 [2,2,1,2,2,2,2,2] .sq rfl,rg B24 [1,2,2,1,2,2,2,2,2] 6 false rfl,hr 24 6 rfl,xk B24 [2,2,2,1,2,2,2,2,2] .rt rfl,fin24,R24.st,d,q,e,g,h,b,j]
     ·cases a
      simp (disch:=first|apply D;decide|apply K;kernel_rfl) only [E,EE,↓reduceIte,simprocAttr,xk B24 [2,2,2] .sq rfl,rg B24 [1,2,2,2] 3 false rfl,hr 24 3 rfl,xk B24 [2,2,2,2] .sq rfl,rg B24 [1,2,2,2,2] 4 false rfl,hr 24 4 rfl,xk B24 [2,2,2,2,2] .sq rfl,xk B24 [1,2,2,2,2,2] .sq rfl,rg B24 [1,1,2,2,2,2,2] 5 false rfl,hr 24 5 rfl,xk B24 [2,1,2,2,2,2,2] (.cd 72) rfl,xk B24 [2,2,1,2,2,2,2,2] .sq rfl,rg B24 [1,2,2,1,2,2,2,2,2] 6 false rfl,hr 24 6 rfl,xk B24 [2,2,2,1,2,2,2,2,2] .rt rfl,fin24,R24.st,d,q,e,g,h]
    ·cases a
     simp (disch:=first|apply D;decide|apply K;kernel_rfl) only [E,EE,↓reduceIte,simprocAttr,xk B24 [2,2] .sq rfl,rg B24 [1,2,2] 2 false rfl,hr 24 2 rfl,xk B24 [2,2,2] .sq rfl,rg B24 [1,2,2,2] 3 false rfl,hr 24 3 rfl,xk B24 [2,2,2,2] .sq rfl,rg B24 [1,2,2,2,2] 4 false rfl,hr 24 4 rfl,xk B24 [2,2,2,2,2] .sq rfl,xk B24 [1,2,2,2,2,2] .sq rfl,rg B24 [1,1,2,2,2,2,2] 5 false rfl,hr 24 5 rfl,xk B24 [2,1,2,2,2,2,2] (.cd 72) rfl,xk B24 [2,2,1,2,2,2,2,2] .sq rfl,rg B24 [1,2,2,1,2,2,2,2,2] 6 false rfl,hr 24 6 rfl,xk B24 [2,2,2,1,2,2,2,2,2] .rt rfl,fin24,R24.st,d,q,e,g]
  ·cases a
   simp (disch:=first|apply D;decide|apply K;kernel_rfl) only [E,EE,↓reduceIte,simprocAttr,xk B24 [2,2] .sq rfl,rg B24 [1,2,2] 2 false rfl,hr 24 2 rfl,xk B24 [2,2,2] .sq rfl,rg B24 [1,2,2,2] 3 false rfl,hr 24 3 rfl,xk B24 [2,2,2,2] .sq rfl,rg B24 [1,2,2,2,2] 4 false rfl,hr 24 4 rfl,xk B24 [2,2,2,2,2] .sq rfl,xk B24 [1,2,2,2,2,2] .sq rfl,rg B24 [1,1,2,2,2,2,2] 5 false rfl,hr 24 5 rfl,xk B24 [2,1,2,2,2,2,2] (.cd 72) rfl,xk B24 [2,2,1,2,2,2,2,2] .sq rfl,rg B24 [1,2,2,1,2,2,2,2,2] 6 false rfl,hr 24 6 rfl,xk B24 [2,2,2,1,2,2,2,2,2] .rt rfl,fin24,R24.st,d,q]
noncomputable def f24 (k:Nat) (l b c d e f g h i j:Int) (a:List Int):Option R24:=match k with | 0=>none | k+1=>f24_e k l b c d e f g h i j a
theorem f24_ok (k m b d e f g h i j l a r) (o:f24 k m b d e f g h i j l a=some r):CV k 24 [.agg [jI m,jI b,jU d,jI e,jI f,jI g,jI h,jI i,jI j,jI l,.sl 1 (rowsOf (encI .u8) a)]] []=some r.st:=by
 cases k with
 | zero=>cases o
 | succ k =>
  unfold CV
  rw [ev_call (F:=Try.f24) (c:=(nav B24 [])) rfl Try.func24 rfl rfl rfl rfl]
  exact f24_e_ok k m b d e f g h i j l a r o
-- f34: f34 heliograph/bundle.Whole
inductive R34 where
 | o0 (y:Bool)
noncomputable def R34.st:R34→V×List O×List O
 | .o0 y=>(.p (.bool y),[],[])
noncomputable def f34_e (k:Nat) (l c d e f g h i j b:Int) (a:List Int):Option R34 :=
 some (.o0 (((List.length a):Int)==b))
theorem f34_e_ok (k l b c d e f g h i j a r) (m:f34_e k l b c d e f g h i j a=some r):finK Try.prog Try.f34 0 (EX 34 k (nav B34 []) (⟨9,[(0,.agg [jI l,jI b,jU c,jI d,jI e,jI f,jI g,jI h,jI i,jI j,.sl 1 (rowsOf (encI .u8) a)])],[]⟩:St))=some r.st:=by
 unfold f34_e at m
 cases m
 simp (disch:=first|apply D;decide|apply K;kernel_rfl) only [E,EE,↓reduceIte,simprocAttr,xk B34 [] .sq rfl,rg B34 [1] 0 false rfl,hr 34 0 rfl,xk B34 [2] .sq rfl,rg B34 [1,2] 1 false rfl,hr 34 1 rfl,fieldAddrV,t_39,t_29,t_3,xk B34 [2,2] .rt rfl,fin34,R34.st]
noncomputable def f34 (k:Nat) (l b c d e f g h i j:Int) (a:List Int):Option R34:=match k with | 0=>none | k+1=>f34_e k l b c d e f g h i j a
theorem f34_ok (k m b d e f g h i j l a r) (o:f34 k m b d e f g h i j l a=some r):CV k 34 [.agg [jI m,jI b,jU d,jI e,jI f,jI g,jI h,jI i,jI j,jI l,.sl 1 (rowsOf (encI .u8) a)]] []=some r.st:=by
 cases k with
 | zero=>cases o
 | succ k =>
  unfold CV
  rw [ev_call (F:=Try.f34) (c:=(nav B34 [])) rfl Try.func34 rfl rfl rfl rfl]
  exact f34_e_ok k m b d e f g h i j l a r o
-- f37: f37 heliograph/bundle.Id
inductive R37 where
 | o0 (y a:Int)
noncomputable def R37.st:R37→V×List O×List O
 | .o0 y a=>(.agg [jI y,jU a],[],[])
noncomputable def f37_e (k:Nat) (l c a d e f g h i j:Int) (b:List Int):Option R37 :=
 some (.o0 l a)
theorem f37_e_ok (k l b c d e f g h i j a r) (m:f37_e k l b c d e f g h i j a=some r):finK Try.prog Try.f37 0 (EX 37 k (nav B37 []) (⟨8,[(0,.agg [jI l,jI b,jU c,jI d,jI e,jI f,jI g,jI h,jI i,jI j,.sl 1 (rowsOf (encI .u8) a)])],[]⟩:St))=some r.st:=by
 unfold f37_e at m
 cases m
 simp (disch:=first|apply D;decide|apply K;kernel_rfl) only [E,EE,↓reduceIte,simprocAttr,xk B37 [] .sq rfl,rg B37 [1] 0 false rfl,hr 37 0 rfl,t_79,xk B37 [2] .sq rfl,rg B37 [1,2] 1 false rfl,hr 37 1 rfl,fieldAddrV,t_39,t_3,t_22,bl_79,xk B37 [2,2] .rt rfl,fin37,R37.st]
noncomputable def f37 (k:Nat) (l b c d e f g h i j:Int) (a:List Int):Option R37:=match k with | 0=>none | k+1=>f37_e k l b c d e f g h i j a
theorem f37_ok (k m b d e f g h i j l a r) (o:f37 k m b d e f g h i j l a=some r):CV k 37 [.agg [jI m,jI b,jU d,jI e,jI f,jI g,jI h,jI i,jI j,jI l,.sl 1 (rowsOf (encI .u8) a)]] []=some r.st:=by
 cases k with
 | zero=>cases o
 | succ k =>
  unfold CV
  rw [ev_call (F:=Try.f37) (c:=(nav B37 [])) rfl Try.func37 rfl rfl rfl rfl]
  exact f37_e_ok k m b d e f g h i j l a r o
-- f36b: f36 heliograph/agent.of
inductive R36b where
 | o0 (y:List T39)
noncomputable def R36b.st:R36b→V×List O×List O
 | .o0 y=>(.own 2000000,[],[.row true 11 39 (rowsOf encT39 y)])
inductive R36b_l1 where
 | o0 (y:List T39) (a b c d:Int) (e:List T39)
 | o1 (y:List T39) (a b c d:Int) (e:List T39)
 | o2 (y:List T39) (a b:Int) (c:Bool) (d e:Int) (f:List T39)
noncomputable def R36b_l1.st:R36b_l1→Out×St
 | .o0 y a b c d e=>(.norm,(⟨25,[(3,.ptr 30000 0),(5,.own 22),(9,.sl 11 (rowsOf encT39 y)),(10,jI a),(11,jI b)],[(30000,.box 79 [jI c,jU d]),(22,.row true 11 39 (rowsOf encT39 e))]⟩:St))
 | .o1 y a b c d e=>(.norm,(⟨25,[(3,.ptr 30000 0),(5,.own 30001),(9,.sl 11 (rowsOf encT39 y)),(10,jI a),(11,jI b)],[(30000,.box 79 [jI c,jU d]),(30001,.row true 11 39 (rowsOf encT39 e))]⟩:St))
 | .o2 y a b c d e f=>(.exit 0,(⟨25,[(3,.ptr 30000 0),(5,.own 30001),(9,.sl 11 (rowsOf encT39 y)),(10,jI a),(11,jI b),(12,.p (.bool c))],[(30000,.box 79 [jI d,jU e]),(30001,.row true 11 39 (rowsOf encT39 f))]⟩:St))
noncomputable def f36b_l1_j2 (k:Nat) (f:List T39) (b c d a:Int) (e:List T39):Option R36b_l1 :=
 some (.o0 f b (IntKind.i64.wrap (c+(1:Int))) d a e)
theorem f36b_l1_j2_ok (k f b c d a e r) (g:f36b_l1_j2 k f b c d a e=some r):EX 36 k (nav B36 [2,2,2,1,2,2,1,2,2]) (⟨25,[(3,.ptr 30000 0),(5,.own 22),(9,.sl 11 (rowsOf encT39 f)),(10,jI b),(11,jI c)],[(30000,.box 79 [jI d,jU a]),(22,.row true 11 39 (rowsOf encT39 e))]⟩:St)=some r.st:=by
 unfold f36b_l1_j2 at g
 cases g
 simp (disch:=first|apply D;decide|apply K;kernel_rfl) only [E,EE,↓reduceIte,simprocAttr,rg B36 [2,2,2,1,2,2,1,2,2] 7 false rfl,hr 36 7 rfl,R36b_l1.st]
noncomputable def f36b_l1_j3 (k:Nat) (s:List T39) (b c:Int) (t:Bool) (d a:Int) (e:List T39) (u g h i j l m o p q:Int) (f:List Int):Option R36b_l1 :=
 some (.o1 s b (IntKind.i64.wrap (c+(1:Int))) d a e)
theorem f36b_l1_j3_ok (k t m o p q a s u c d e f g h i j l b r) (v:f36b_l1_j3 k t m o p q a s u c d e f g h i j l b=some r):EX 36 k (nav B36 [2,2,2,1,2,2,1,2,2]) (⟨25,[(3,.ptr 30000 0),(5,.own 30001),(7,.ptr 7 0),(9,.sl 11 (rowsOf encT39 t)),(10,jI m),(11,jI o),(18,.p (.bool p))],[(30000,.box 79 [jI q,jU a]),(30001,.row true 11 39 (rowsOf encT39 s)),(7,.box 39 [jI u,jI c,jU d,jI e,jI f,jI g,jI h,jI i,jI j,jI l,.sl 1 (rowsOf (encI .u8) b)])]⟩:St)=some r.st:=by
 unfold f36b_l1_j3 at v
 cases v
 simp (disch:=first|apply D;decide|apply K;kernel_rfl) only [E,EE,↓reduceIte,simprocAttr,rg B36 [2,2,2,1,2,2,1,2,2] 7 false rfl,hr 36 7 rfl,R36b_l1.st]
noncomputable def f36b_l1_j1 (k:Nat) (g:List T39) (f c:Int) (h:Bool) (d b:Int) (e:List T39):Option R36b_l1 :=
 ifE ((0:Int)≤c) (
  Option.bind (g[(Int.toNat c)]?) fun a =>
   Option.bind (f37 k a.Source a.Dest a.Seq a.Created a.Lifetime a.HopLimit a.Hops a.Priority a.Offset a.Total a.Payload) fun o4 =>
    match o4 with
    | .o0 i j =>
     cond (((i==d)&&(j==b)))
      (
       ifE (((List.length e)+1) * 104≤roomy) (
        f36b_l1_j2 k g f c d b (e++([a]:List T39))))
      (f36b_l1_j3 k g f c false d b e a.Source a.Dest a.Seq a.Created a.Lifetime a.HopLimit a.Hops a.Priority a.Offset a.Total a.Payload))
theorem f36b_l1_j1_ok (k j d e i f b g r) (c:f36b_l1_j1 k j d e i f b g=some r):EX 36 k (nav B36 [2,2,1,2,2,1,2,2]) (⟨25,[(3,.ptr 30000 0),(5,.own 30001),(9,.sl 11 (rowsOf encT39 j)),(10,jI d),(11,jI e),(12,.p (.bool i))],[(30000,.box 79 [jI f,jU b]),(30001,.row true 11 39 (rowsOf encT39 g))]⟩:St)=some r.st:=by
 unfold f36b_l1_j1 at c
 obtain ⟨l,c⟩:=ifE_some.1 c
 obtain ⟨a,m,c⟩:=bs c
 obtain ⟨o4,t,c⟩:=bs c
 have h:=f37_ok k a.Source a.Dest a.Seq a.Created a.Lifetime a.HopLimit a.Hops a.Priority a.Offset a.Total a.Payload _ t
 cases o4 with
 | o0 u v =>
  (try dsimp only at c)
  (try simp only [NM,EE,R37.st] at h)
  simp (disch:=first|apply D;decide|apply K;kernel_rfl) only [E,EE,↓reduceIte,simprocAttr,xk B36 [2,2,1,2,2,1,2,2] .sq rfl,xk B36 [1,2,2,1,2,2,1,2,2] (.bk 1) rfl,xk B36 [2,1,2,2,1,2,2,1,2,2] .sq rfl,rg B36 [1,2,1,2,2,1,2,2,1,2,2] 4 false rfl,hr 36 4 rfl,indexAddrV,t_24,t_39,encT39_eq,xk B36 [2,2,1,2,2,1,2,2,1,2,2] .sq rfl,rg B36 [1,2,2,1,2,2,1,2,2,1,2,2] 5 true rfl,hr 36 5 rfl,callStep,CL,gv,List.contains,t_79,ag_79,t_3,t_22,xk B36 [2,2,2,1,2,2,1,2,2,1,2,2] (.cd 18) rfl,l,m,h]
  rcases cond_some c with ⟨o,c⟩ | ⟨o,c⟩
  ·have p:[[jI a.Source,jI a.Dest,jU a.Seq,jI a.Created,jI a.Lifetime,jI a.HopLimit,jI a.Hops,jI a.Priority,jI a.Offset,jI a.Total,.sl 1 (rowsOf (encI .u8) a.Payload)]]=rowsOf encT39 ([a]:List T39):=rfl
   have q:List.map (tell [0,0,0,0,0,0,0,0,0,0,1]) (rowsOf encT39 ([a]:List T39))=rowsOf encT39 ([a]:List T39):=rfl
   obtain ⟨s,c⟩:=ifE_some.1 c
   have hJ:=f36b_l1_j2_ok k j d e f b (g++([a]:List T39)) _ c
   simp (disch:=first|apply D;decide|apply K;kernel_rfl) only [E,EE,↓reduceIte,simprocAttr,rg B36 [2,2,2,2,1,2,2,1,2,2,1,2,2] 6 false rfl,hr 36 6 rfl,t_39,buildSliceV,fillRows,sm_39,t_24,appendV,content,l,m,h,o,p,q,s]
   try simp only [NM,EE] at hJ
   exact hJ
  ·have hJ:=f36b_l1_j3_ok k j d e false f b g a.Source a.Dest a.Seq a.Created a.Lifetime a.HopLimit a.Hops a.Priority a.Offset a.Total a.Payload _ c
   simp (disch:=first|apply D;decide|apply K;kernel_rfl) only [E,EE,↓reduceIte,simprocAttr,xk B36 [3,2,2,2,1,2,2,1,2,2,1,2,2] .sk rfl,l,m,h,o]
   try simp only [NM,EE] at hJ
   exact hJ
noncomputable def f36b_l1_b (k:Nat) (f:List T39) (b c d a:Int) (e:List T39):Option R36b_l1 :=
 cond ((decide (c<b)))
  (f36b_l1_j1 k f b c true d a e)
  (some (.o2 f b c false d a e))
theorem f36b_l1_b_ok (k g b c d a e r) (f:f36b_l1_b k g b c d a e=some r):EX 36 k (nav B36 [1,2,2,1,2,2]) (⟨25,[(3,.ptr 30000 0),(5,.own 30001),(9,.sl 11 (rowsOf encT39 g)),(10,jI b),(11,jI c)],[(30000,.box 79 [jI d,jU a]),(30001,.row true 11 39 (rowsOf encT39 e))]⟩:St)=some r.st:=by
 unfold f36b_l1_b at f
 simp (disch:=first|apply D;decide|apply K;kernel_rfl) only [E,EE,↓reduceIte,simprocAttr,xk B36 [1,2,2,1,2,2] .sq rfl,rg B36 [1,1,2,2,1,2,2] 3 false rfl,hr 36 3 rfl,xk B36 [2,1,2,2,1,2,2] .sq rfl,xk B36 [1,2,1,2,2,1,2,2] (.cd 12) rfl]
 rcases cond_some f with ⟨h,f⟩ | ⟨h,f⟩
 ·have hJ:=f36b_l1_j1_ok k g b c true d a e _ f
  simp (disch:=first|apply D;decide|apply K;kernel_rfl) only [E,EE,↓reduceIte,simprocAttr,xk B36 [2,1,2,1,2,2,1,2,2] .sk rfl,h]
  try simp only [NM,EE] at hJ
  exact hJ
 ·cases f
  simp (disch:=first|apply D;decide|apply K;kernel_rfl) only [E,EE,↓reduceIte,simprocAttr,xk B36 [3,1,2,1,2,2,1,2,2] (.ex 0) rfl,R36b_l1.st,h]
noncomputable def f36b_l1 (k:Nat):Nat→(List T39)→Int→Int→Int→Int→(List T39)→Option R36b_l1
 | 0,_,_,_,_,_,_=>none
 | n+1,m,g,h,i,f,j=>Option.bind (f36b_l1_b k m g h i f j) fun o =>
  match o with
  | .o0 y a b c d e=>f36b_l1 k n y a b c d e
  | .o1 y a b c d e=>f36b_l1 k n y a b c d e
  | .o2 y a b c d e l=>some (.o2 y a b c d e l)
theorem f36b_l1_ok (k n:Nat):∀ (p:List T39) (b c d a:Int) (e:List T39) (r:R36b_l1) (f:f36b_l1 k n p b c d a e=some r) (σ:St) (hσ:headR (hints.head 36 3) (hints.canon 36 3) σ=some (⟨25,[(3,.ptr 30000 0),(5,.own 30001),(9,.sl 11 (rowsOf encT39 p)),(10,jI b),(11,jI c)],[(30000,.box 79 [jI d,jU a]),(30001,.row true 11 39 (rowsOf encT39 e))]⟩:St)),LP 36 k (nav B36 [1,2,2,1,2,2]) n σ=some r.st:=by
 induction n with
 | zero=>intro p b c d a e r f;cases f
 | succ n q =>
  intro p b c d a e r f σ hσ
  rw [f36b_l1] at f
  obtain ⟨o,h,f⟩:=Option.bind_eq_some_iff.1 f
  have hB:=f36b_l1_b_ok k p b c d a e o h
  unfold LP at q ⊢
  unfold EX at hB
  rw [loopK_succ,show firstReg (nav B36 [1,2,2,1,2,2])=3 from rfl,hσ,headK_some,hB]
  cases o with
  | o0 y g i j l m =>
   refine q y g i j l m r f _ ?_
   simp (disch:=first|apply D;decide|apply K;kernel_rfl) only [E,EE,↓reduceIte,simprocAttr,hh_36_3,hc_36_3]
  | o1 y g i j l m =>
   refine q y g i j l m r f _ ?_
   simp (disch:=first|apply D;decide|apply K;kernel_rfl) only [E,EE,↓reduceIte,simprocAttr,hh_36_3,hc_36_3]
  | o2 y g i j l m s=>cases f;rfl
noncomputable def f36b_j2 (k:Nat) (g:List T39) (c d:Int) (e:Bool) (f a:Int) (b:List T39):Option R36b :=
 some (.o0 b)
theorem f36b_j2_ok (k g b c d e a f r) (h:f36b_j2 k g b c d e a f=some r):finK Try.prog Try.f36 0 (EX 36 k (nav B36 [2,2,2]) (⟨25,[(3,.ptr 30000 0),(5,.own 30001),(9,.sl 11 (rowsOf encT39 g)),(10,jI b),(11,jI c),(12,.p (.bool d))],[(30000,.box 79 [jI e,jU a]),(30001,.row true 11 39 (rowsOf encT39 f))]⟩:St))=some r.st:=by
 unfold f36b_j2 at h
 cases h
 simp (disch:=first|apply D;decide|apply K;kernel_rfl) only [E,EE,↓reduceIte,simprocAttr,xk B36 [2,2,2] .sq rfl,rg B36 [1,2,2,2] 8 false rfl,hr 36 8 rfl,xk B36 [2,2,2,2] .rt rfl,fin36,R36b.st]
noncomputable def f36b_e (k:Nat) (o d:Int) (e:List T65) (a:List T39) (f b:Int):Option R36b :=
 Option.bind (f36b_l1 k k a ((List.length a):Int) 0 f b []) fun o1 =>
  match o1 with
  | .o0 _ _ _ _ _ _ =>
   none
  | .o1 _ _ _ _ _ _ =>
   none
  | .o2 g h i j l m c =>
   f36b_j2 k g h i j l m c
theorem f36b_e_ok (k i d e a g b r) (c:f36b_e k i d e a g b=some r):finK Try.prog Try.f36 0 (EX 36 k (nav B36 []) (⟨25,[(0,.agg [jI i,jU d,.sl 4 (rowsOf encT65 e),.sl 11 (rowsOf encT39 a)]),(1,.agg [jI g,jU b])],[]⟩:St))=some r.st:=by
 unfold f36b_e at c
 obtain ⟨o1,j,c⟩:=bs c
 have f:=f36b_l1_ok k k a ((List.length a):Int) 0 g b [] _ j
 simp (disch:=first|apply D;decide|apply K;kernel_rfl) only [E,EE,↓reduceIte,simprocAttr,xk B36 [] .sq rfl,rg B36 [1] 0 false rfl,hr 36 0 rfl,xk B36 [2] .sq rfl,rg B36 [1,2] 1 false rfl,hr_36_1,xk B36 [2,2] .sq rfl,xk B36 [1,2,2] .sq rfl,rg B36 [1,1,2,2] 2 false rfl,hr 36 2 rfl,fieldAddrV,t_26,t_24,xk B36 [2,1,2,2] (.bk 0) rfl,xk B36 [2,2,1,2,2] .lp rfl,hh_36_3,hc_36_3]
 (try simp only [NM,EE] at f)
 rw [f _ (by simp (disch:=first|apply D;decide|apply K;kernel_rfl) only [E,EE,↓reduceIte,simprocAttr,hh_36_3,hc_36_3])]
 clear f
 cases o1 with
 | o0 _ _ _ _ _ _ =>
  (try dsimp only at c)
  cases c
 | o1 _ _ _ _ _ _ =>
  (try dsimp only at c)
  cases c
 | o2 l m o p q s h =>
  (try dsimp only at c)
  have hJ:=f36b_j2_ok k l m o p q s h _ c
  simp (disch:=first|apply D;decide|apply K;kernel_rfl) only [E,EE,↓reduceIte,simprocAttr,R36b_l1.st]
  try simp only [NM,EE] at hJ
  exact hJ
noncomputable def f36b (k:Nat) (e a:Int) (b:List T65) (c:List T39) (f d:Int):Option R36b:=match k with | 0=>none | k+1=>f36b_e k e a b c f d
theorem f36b_ok (k f a b d g e r) (h:f36b k f a b d g e=some r):CV k 36 [.agg [jI f,jU a,.sl 4 (rowsOf encT65 b),.sl 11 (rowsOf encT39 d)],.agg [jI g,jU e]] []=some r.st:=by
 cases k with
 | zero=>cases h
 | succ k =>
  unfold CV
  rw [ev_call (F:=Try.f36) (c:=(nav B36 [])) rfl Try.func36 rfl rfl rfl rfl]
  exact f36b_e_ok k f a b d g e r h
end Go.Proofs.YticggdfaehneeaaV