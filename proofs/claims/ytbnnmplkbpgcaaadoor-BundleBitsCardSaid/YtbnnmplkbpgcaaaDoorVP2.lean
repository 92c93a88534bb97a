/- What the program's functions answer: plain functions,and that the interpreter answers what they do. Written by a program of this session,out of the translation. -/
import Derived.Test.YtbnnmplkbpgcaaaDoorVP1
namespace Go.Proofs.YtbnnmplkbpgcaaaDoorV
open Go
set_option linter.unusedVariables false
set_option linter.unusedSimpArgs false
set_option maxRecDepth 8000
set_option maxHeartbeats 4000000
-- f32: f32 heliograph/bundle.numbers
inductive R32 where
 | o0 (y a:Int) (b:List Int) (c:List T50)
noncomputable def R32.st:R32→V×List O×List O
 | .o0 y a b c=>(.agg [jI y,.p (.int .u64 a),.sl 1 (rowsOf (encI .u8) b),.own 2000000],[],[.row true 4 50 (rowsOf encT50 c)])
inductive R32_l1 where
 | o0 (y:List Int) (a b c d:Int) (e:List Int) (f g:List T50)
 | o1 (y:List Int) (a b:Int) (c:Bool) (d e:Int) (f:List Int) (g h:List T50)
noncomputable def R32_l1.st:R32_l1→Out×St
 | .o0 y a b c d e f g=>(.norm,(⟨21,[(2,.ptr 30000 0),(3,.own 17),(6,.sl 1 (rowsOf (encI .i64) y)),(7,jI a),(8,jI b)],[(30000,.box 50 [jI c,.p (.int .u64 d),.sl 1 (rowsOf (encI .u8) e),.own 30001]),(30001,.row true 4 50 (rowsOf encT50 f)),(17,.row true 4 50 (rowsOf encT50 g))]⟩:St))
 | .o1 y a b c d e f g h=>(.exit 0,(⟨21,[(2,.ptr 30000 0),(3,.own 30002),(6,.sl 1 (rowsOf (encI .i64) y)),(7,jI a),(8,jI b),(9,.p (.bool c))],[(30000,.box 50 [jI d,.p (.int .u64 e),.sl 1 (rowsOf (encI .u8) f),.own 30001]),(30001,.row true 4 50 (rowsOf encT50 g)),(30002,.row true 4 50 (rowsOf encT50 h))]⟩:St))
noncomputable def f32_l1_j2 (k:Nat) (f:List Int) (g h c a:Int) (b:List Int) (d e:List T50):Option R32_l1 :=
 some (.o0 f g (IntKind.i64.wrap (h+(1:Int))) c a b d e)
theorem f32_l1_j2_ok (k f g h c a b d e r) (i:f32_l1_j2 k f g h c a b d e=some r):EX 32 k (nav B32 [2,2,2,1,2,2,1,2,2]) (⟨21,[(2,.ptr 30000 0),(3,.own 17),(6,.sl 1 (rowsOf (encI .i64) f)),(7,jI g),(8,jI h)],[(30000,.box 50 [jI c,.p (.int .u64 a),.sl 1 (rowsOf (encI .u8) b),.own 30001]),(30001,.row true 4 50 (rowsOf encT50 d)),(17,.row true 4 50 (rowsOf encT50 e))]⟩:St)=some r.st:=by
 unfold f32_l1_j2 at i
 cases i
 simp (disch:=first|apply D;decide|apply K;kernel_rfl) only [E,EE,↓reduceIte,simprocAttr,rg B32 [2,2,2,1,2,2,1,2,2] 6 false rfl,hr 32 6 rfl,R32_l1.st]
noncomputable def f32_l1_j1 (k:Nat) (h:List Int) (i d:Int) (p:Bool) (e a:Int) (b:List Int) (f c:List T50):Option R32_l1 :=
 ifE ((0:Int)≤d) (
  Option.bind (h[(Int.toNat d)]?) fun j =>
   Option.bind (f36 k (IntKind.u64.wrap j)) fun o4 =>
    match o4 with
    | .o0 l m o g =>
     ifE (((List.length c)+1) * 64≤roomy) (
      f32_l1_j2 k h i d e a b f (c++([(T50.mk l m o g)]:List T50))))
theorem f32_l1_j1_ok (k m o p u e a b f g r) (c:f32_l1_j1 k m o p u e a b f g=some r):EX 32 k (nav B32 [2,2,1,2,2,1,2,2]) (⟨21,[(2,.ptr 30000 0),(3,.own 30002),(6,.sl 1 (rowsOf (encI .i64) m)),(7,jI o),(8,jI p),(9,.p (.bool u))],[(30000,.box 50 [jI e,.p (.int .u64 a),.sl 1 (rowsOf (encI .u8) b),.own 30001]),(30001,.row true 4 50 (rowsOf encT50 f)),(30002,.row true 4 50 (rowsOf encT50 g))]⟩:St)=some r.st:=by
 unfold f32_l1_j1 at c
 obtain ⟨v,c⟩:=ifE_some.1 c
 obtain ⟨w,x,c⟩:=bs c
 obtain ⟨o4,y,c⟩:=bs c
 have h:=f36_ok k (IntKind.u64.wrap w) _ y
 cases o4 with
 | o0 i j l d =>
  (try dsimp only at c)
  (try simp only [NM,EE,R36.st] at h)
  have q:[[jI i,.p (.int .u64 j),.sl 1 (rowsOf (encI .u8) l),.sl 4 (rowsOf encT50 d)]]=rowsOf encT50 ([(T50.mk i j l d)]:List T50):=by first | rfl | simp only [rowsOf,List.map_cons,List.map_nil,encT50_eq]
  have s:List.map (tell [0,0,1,4]) (rowsOf encT50 ([(T50.mk i j l d)]:List T50))=rowsOf encT50 ([(T50.mk i j l d)]:List T50):=by first | rfl | simp only [rowsOf,List.map_cons,List.map_nil,encT50_eq]
  obtain ⟨t,c⟩:=ifE_some.1 c
  have hJ:=f32_l1_j2_ok k m o p e a b f (g++([(T50.mk i j l d)]:List T50)) _ c
  simp (disch:=first|apply D;decide|apply K;kernel_rfl) only [E,EE,↓reduceIte,simprocAttr,xk B32 [2,2,1,2,2,1,2,2] .sq rfl,xk B32 [1,2,2,1,2,2,1,2,2] (.bk 1) rfl,xk B32 [2,1,2,2,1,2,2,1,2,2] .sq rfl,rg B32 [1,2,1,2,2,1,2,2,1,2,2] 4 false rfl,hr 32 4 rfl,indexAddrV,t_66,t_3,encI_eq,rg B32 [2,2,1,2,2,1,2,2,1,2,2] 5 false rfl,hr 32 5 rfl,t_47,convV,callStep,CL,gv,List.contains,buildSliceV,fillRows,sm_50,t_48,t_50,appendV,content,v,x,h,q,s,t]
  try simp only [NM,EE] at hJ
  exact hJ
noncomputable def f32_l1_b (k:Nat) (h:List Int) (f g c a:Int) (b:List Int) (d e:List T50):Option R32_l1 :=
 cond ((decide (g<f)))
  (f32_l1_j1 k h f g true c a b d e)
  (some (.o1 h f g false c a b d e))
theorem f32_l1_b_ok (k g h i c a b d e r) (f:f32_l1_b k g h i c a b d e=some r):EX 32 k (nav B32 [1,2,2,1,2,2]) (⟨21,[(2,.ptr 30000 0),(3,.own 30002),(6,.sl 1 (rowsOf (encI .i64) g)),(7,jI h),(8,jI i)],[(30000,.box 50 [jI c,.p (.int .u64 a),.sl 1 (rowsOf (encI .u8) b),.own 30001]),(30001,.row true 4 50 (rowsOf encT50 d)),(30002,.row true 4 50 (rowsOf encT50 e))]⟩:St)=some r.st:=by
 unfold f32_l1_b at f
 simp (disch:=first|apply D;decide|apply K;kernel_rfl) only [E,EE,↓reduceIte,simprocAttr,xk B32 [1,2,2,1,2,2] .sq rfl,rg B32 [1,1,2,2,1,2,2] 3 false rfl,hr 32 3 rfl,xk B32 [2,1,2,2,1,2,2] .sq rfl,xk B32 [1,2,1,2,2,1,2,2] (.cd 9) rfl]
 rcases cond_some f with ⟨j,f⟩ | ⟨j,f⟩
 ·have hJ:=f32_l1_j1_ok k g h i true c a b d e _ f
  simp (disch:=first|apply D;decide|apply K;kernel_rfl) only [E,EE,↓reduceIte,simprocAttr,xk B32 [2,1,2,1,2,2,1,2,2] .sk rfl,j]
  try simp only [NM,EE] at hJ
  exact hJ
 ·cases f
  simp (disch:=first|apply D;decide|apply K;kernel_rfl) only [E,EE,↓reduceIte,simprocAttr,xk B32 [3,1,2,1,2,2,1,2,2] (.ex 0) rfl,R32_l1.st,j]
noncomputable def f32_l1 (k:Nat):Nat→(List Int)→Int→Int→Int→Int→(List Int)→(List T50)→(List T50)→Option R32_l1
 | 0,_,_,_,_,_,_,_,_=>none
 | n+1,q,s,t,j,a,b,l,m=>Option.bind (f32_l1_b k q s t j a b l m) fun o =>
  match o with
  | .o0 y c d e f g h i=>f32_l1 k n y c d e f g h i
  | .o1 y c d e f g h i p=>some (.o1 y c d e f g h i p)
theorem f32_l1_ok (k n:Nat):∀ (g:List Int) (i j c a:Int) (b:List Int) (d e:List T50) (r:R32_l1) (f:f32_l1 k n g i j c a b d e=some r) (σ:St) (hσ:headR (hints.head 32 3) (hints.canon 32 3) σ=some (⟨21,[(2,.ptr 30000 0),(3,.own 30002),(6,.sl 1 (rowsOf (encI .i64) g)),(7,jI i),(8,jI j)],[(30000,.box 50 [jI c,.p (.int .u64 a),.sl 1 (rowsOf (encI .u8) b),.own 30001]),(30001,.row true 4 50 (rowsOf encT50 d)),(30002,.row true 4 50 (rowsOf encT50 e))]⟩:St)),LP 32 k (nav B32 [1,2,2,1,2,2]) n σ=some r.st:=by
 induction n with
 | zero=>intro g i j c a b d e r f;cases f
 | succ n v =>
  intro g i j c a b d e r f σ hσ
  rw [f32_l1] at f
  obtain ⟨o,h,f⟩:=Option.bind_eq_some_iff.1 f
  have hB:=f32_l1_b_ok k g i j c a b d e o h
  unfold LP at v ⊢
  unfold EX at hB
  rw [loopK_succ,show firstReg (nav B32 [1,2,2,1,2,2])=3 from rfl,hσ,headK_some,hB]
  cases o with
  | o0 y l m p q s t u =>
   refine v y l m p q s t u r f _ ?_
   simp (disch:=first|apply D;decide|apply K;kernel_rfl) only [E,EE,↓reduceIte,simprocAttr,hh_32_3,hc_32_3]
  | o1 y l m p q s t u w=>cases f;rfl
noncomputable def f32_j2 (k:Nat) (j:List Int) (l m:Int) (o:Bool) (d a:Int) (b:List Int) (e c:List T50):Option R32 :=
 Option.bind (f33 k c) fun o1 =>
  match o1 with
  | .o0 f g h i =>
   some (.o0 f g h i)
theorem f32_j2_ok (k h i j l d a b e c r) (f:f32_j2 k h i j l d a b e c=some r):finK Tryd.prog Tryd.f32 0 (EX 32 k (nav B32 [2,2,2]) (⟨21,[(2,.ptr 30000 0),(3,.own 30002),(6,.sl 1 (rowsOf (encI .i64) h)),(7,jI i),(8,jI j),(9,.p (.bool l))],[(30000,.box 50 [jI d,.p (.int .u64 a),.sl 1 (rowsOf (encI .u8) b),.own 30001]),(30001,.row true 4 50 (rowsOf encT50 e)),(30002,.row true 4 50 (rowsOf encT50 c))]⟩:St))=some r.st:=by
 unfold f32_j2 at f
 obtain ⟨o1,m,f⟩:=bs f
 have g:=f33_ok k c _ m
 cases o1 with
 | o0 o p q s =>
  (try dsimp only at f)
  (try simp only [NM,EE,R33.st] at g)
  cases f
  simp (disch:=first|apply D;decide|apply K;kernel_rfl) only [E,EE,↓reduceIte,simprocAttr,xk B32 [2,2,2] .sq rfl,rg B32 [1,2,2,2] 7 false rfl,hr 32 7 rfl,callStep,CL,gv,List.contains,t_50,xk B32 [2,2,2,2] .rt rfl,fin32,R32.st,g]
noncomputable def f32_e (k:Nat) (d:List Int):Option R32 :=
 Option.bind (f32_l1 k k d ((List.length d):Int) 0 0 0 [] [] []) fun o1 =>
  match o1 with
  | .o0 _ _ _ _ _ _ _ _ =>
   none
  | .o1 e f g h i j a b c =>
   f32_j2 k e f g h i j a b c
theorem f32_e_ok (k c r) (a:f32_e k c=some r):finK Tryd.prog Tryd.f32 0 (EX 32 k (nav B32 []) (⟨21,[(0,.sl 1 (rowsOf (encI .i64) c))],[]⟩:St))=some r.st:=by
 unfold f32_e at a
 obtain ⟨o1,g,a⟩:=bs a
 have b:=f32_l1_ok k k c ((List.length c):Int) 0 0 0 [] [] [] _ g
 simp (disch:=first|apply D;decide|apply K;kernel_rfl) only [E,EE,↓reduceIte,simprocAttr,xk B32 [] .sq rfl,rg B32 [1] 0 false rfl,hr_32_0,t_50,xk B32 [2] .sq rfl,rg B32 [1,2] 1 false rfl,hr_32_1,xk B32 [2,2] .sq rfl,xk B32 [1,2,2] .sq rfl,rg B32 [1,1,2,2] 2 false rfl,hr 32 2 rfl,t_66,xk B32 [2,1,2,2] (.bk 0) rfl,xk B32 [2,2,1,2,2] .lp rfl,hh_32_3,hc_32_3]
 (try simp only [NM,EE] at b)
 rw [b _ (by simp (disch:=first|apply D;decide|apply K;kernel_rfl) only [E,EE,↓reduceIte,simprocAttr,hh_32_3,hc_32_3])]
 clear b
 cases o1 with
 | o0 _ _ _ _ _ _ _ _ =>
  (try dsimp only at a)
  cases a
 | o1 h i j l m o d e f =>
  (try dsimp only at a)
  have hJ:=f32_j2_ok k h i j l m o d e f _ a
  simp (disch:=first|apply D;decide|apply K;kernel_rfl) only [E,EE,↓reduceIte,simprocAttr,R32_l1.st]
  try simp only [NM,EE] at hJ
  exact hJ
noncomputable def f32 (k:Nat) (a:List Int):Option R32:=match k with | 0=>none | k+1=>f32_e k a
theorem f32_ok (k a r) (b:f32 k a=some r):CV k 32 [.sl 1 (rowsOf (encI .i64) a)] []=some r.st:=by
 cases k with
 | zero=>cases b
 | succ k =>
  unfold CV
  rw [ev_call (F:=Tryd.f32) (c:=(nav B32 [])) rfl Tryd.func32 rfl rfl rfl rfl]
  exact f32_e_ok k a r b
-- f72: f72 heliograph/cbor.plain
inductive R72 where
 | o0 (y:Bool)
noncomputable def R72.st:R72→V×List O×List O
 | .o0 y=>(.p (.bool y),[],[])
noncomputable def f72_j1 (k:Nat) (g a:Int) (b:List Int) (c:List T50) (h d:Int) (e:List Int) (f:List T50):Option R72 :=
 cond ((a==d))
  (
   cond ((((List.length b):Int)==((List.length e):Int)))
    (some (.o0 ((((List.length c):Int)==((List.length f):Int)))))
    (some (.o0 false)))
  (some (.o0 false))
theorem f72_j1_ok (k j b c d l e f g r) (a:f72_j1 k j b c d l e f g=some r):finK Tryd.prog Tryd.f72 0 (EX 72 k (nav B72 [2,2,2]) (⟨48,[(1,.ptr 1 0),(3,.ptr 3 0)],[(1,.box 50 [jI j,.p (.int .u64 b),.sl 1 (rowsOf (encI .u8) c),.sl 4 (rowsOf encT50 d)]),(3,.box 50 [jI l,.p (.int .u64 e),.sl 1 (rowsOf (encI .u8) f),.sl 4 (rowsOf encT50 g)])]⟩:St))=some r.st:=by
 unfold f72_j1 at a
 simp (disch:=first|apply D;decide|apply K;kernel_rfl) only [E,EE,↓reduceIte,simprocAttr,xk B72 [2,2,2] .sq rfl,rg B72 [1,2,2,2] 11 false rfl,hr 72 11 rfl,fieldAddrV,t_50,t_47]
 rcases cond_some a with ⟨h,a⟩ | ⟨h,a⟩
 ·simp (disch:=first|apply D;decide|apply K;kernel_rfl) only [E,EE,↓reduceIte,simprocAttr,fieldAddrV,t_50,t_22,h]
  rcases cond_some a with ⟨i,a⟩ | ⟨i,a⟩
  ·cases a
   simp (disch:=first|apply D;decide|apply K;kernel_rfl) only [E,EE,↓reduceIte,simprocAttr,fieldAddrV,t_50,t_48,xk B72 [2,2,2,2] .rt rfl,fin72,R72.st,h,i]
  ·cases a
   simp (disch:=first|apply D;decide|apply K;kernel_rfl) only [E,EE,↓reduceIte,simprocAttr,xk B72 [2,2,2,2] .rt rfl,fin72,R72.st,h,i]
 ·cases a
  simp (disch:=first|apply D;decide|apply K;kernel_rfl) only [E,EE,↓reduceIte,simprocAttr,xk B72 [2,2,2,2] .rt rfl,fin72,R72.st,h]
noncomputable def f72_j2 (k:Nat) (j:Int) (g:Bool) (h c:Int) (a:List Int) (b:List T50) (i d:Int) (e:List Int) (f:List T50):Option R72 :=
 cond (g)
  (f72_j1 k h c a b i d a f)
  (
   cond ((j==4))
    (f72_j1 k h c a b i d e b)
    (some (.o0 false)))
theorem f72_j2_ok (k o h j c a b l d e f r) (g:f72_j2 k o h j c a b l d e f=some r):finK Tryd.prog Tryd.f72 0 (SQ 72 k (nav B72 [2,2,2]) (blockK 0 (EX 72 k (nav B72 [2,3,2,2,2,1,2,2]) (⟨48,[(1,.ptr 1 0),(3,.ptr 3 0),(8,jI o),(14,.p (.bool h))],[(1,.box 50 [jI j,.p (.int .u64 c),.sl 1 (rowsOf (encI .u8) a),.sl 4 (rowsOf encT50 b)]),(3,.box 50 [jI l,.p (.int .u64 d),.sl 1 (rowsOf (encI .u8) e),.sl 4 (rowsOf encT50 f)])]⟩:St))))=some r.st:=by
 unfold f72_j2 at g
 simp (disch:=first|apply D;decide|apply K;kernel_rfl) only [E,EE,↓reduceIte,simprocAttr,xk B72 [2,3,2,2,2,1,2,2] (.cd 14) rfl]
 rcases cond_some g with ⟨i,g⟩ | ⟨i,g⟩
 ·have hJ:=f72_j1_ok k j c a b l d a f _ g
  simp (disch:=first|apply D;decide|apply K;kernel_rfl) only [E,EE,↓reduceIte,simprocAttr,rg B72 [2,2,3,2,2,2,1,2,2] 8 false rfl,hr 72 8 rfl,fieldAddrV,t_50,t_22,i]
  try simp only [NM,EE] at hJ
  exact hJ
 ·simp (disch:=first|apply D;decide|apply K;kernel_rfl) only [E,EE,↓reduceIte,simprocAttr,xk B72 [3,2,3,2,2,2,1,2,2] .sq rfl,rg B72 [1,3,2,3,2,2,2,1,2,2] 9 false rfl,hr 72 9 rfl,xk B72 [2,3,2,3,2,2,2,1,2,2] (.cd 20) rfl,i]
  rcases cond_some g with ⟨m,g⟩ | ⟨m,g⟩
  ·have hJ:=f72_j1_ok k j c a b l d e b _ g
   simp (disch:=first|apply D;decide|apply K;kernel_rfl) only [E,EE,↓reduceIte,simprocAttr,rg B72 [2,2,3,2,3,2,2,2,1,2,2] 10 false rfl,hr 72 10 rfl,fieldAddrV,t_50,t_48,i,m]
   try simp only [NM,EE] at hJ
   exact hJ
  ·cases g
   simp (disch:=first|apply D;decide|apply K;kernel_rfl) only [E,EE,↓reduceIte,simprocAttr,xk B72 [3,2,3,2,3,2,2,2,1,2,2] .sq rfl,rg B72 [1,3,2,3,2,3,2,2,2,1,2,2] 3 false rfl,hr 72 3 rfl,xk B72 [2,3,2,3,2,3,2,2,2,1,2,2] .rt rfl,fin72,R72.st,i,m]
noncomputable def f72_e (k:Nat) (b a:Int) (c:List Int) (d:List T50):Option R72 :=
 cond ((b==1))
  (f72_j1 k b a c d b a [] [])
  (
   cond ((b==2))
    (f72_j2 k b true b a c d b 0 [] [])
    (f72_j2 k b (b==3) b a c d b 0 [] []))
theorem f72_e_ok (k d a b c r) (e:f72_e k d a b c=some r):finK Tryd.prog Tryd.f72 0 (EX 72 k (nav B72 []) (⟨48,[(0,.agg [jI d,.p (.int .u64 a),.sl 1 (rowsOf (encI .u8) b),.sl 4 (rowsOf encT50 c)])],[]⟩:St))=some r.st:=by
 unfold f72_e at e
 simp (disch:=first|apply D;decide|apply K;kernel_rfl) only [E,EE,↓reduceIte,simprocAttr,xk B72 [] .sq rfl,rg B72 [1] 0 false rfl,hr 72 0 rfl,xk B72 [2] .sq rfl,rg B72 [1,2] 1 false rfl,hr_72_1,fieldAddrV,t_50,t_3,bl_50,xk B72 [2,2] .sq rfl,xk B72 [1,2,2] .sq rfl,rg B72 [1,1,2,2] 2 false rfl,hr 72 2 rfl,xk B72 [2,1,2,2] (.bk 0) rfl,xk B72 [2,2,1,2,2] .sq rfl,rg B72 [1,2,2,1,2,2] 4 false rfl,hr 72 4 rfl,xk B72 [2,2,2,1,2,2] (.cd 9) rfl]
 rcases cond_some e with ⟨f,e⟩ | ⟨f,e⟩
 ·have hJ:=f72_j1_ok k d a b c d a [] [] _ e
  simp (disch:=first|apply D;decide|apply K;kernel_rfl) only [E,EE,↓reduceIte,simprocAttr,rg B72 [2,2,2,2,1,2,2] 5 false rfl,hr 72 5 rfl,fieldAddrV,t_50,t_47,f]
  try simp only [NM,EE] at hJ
  exact hJ
 ·simp (disch:=first|apply D;decide|apply K;kernel_rfl) only [E,EE,↓reduceIte,simprocAttr,xk B72 [3,2,2,2,1,2,2] .sq rfl,xk B72 [1,3,2,2,2,1,2,2] .sq rfl,rg B72 [1,1,3,2,2,2,1,2,2] 6 false rfl,hr 72 6 rfl,xk B72 [2,1,3,2,2,2,1,2,2] (.cd 14) rfl,f]
  rcases cond_some e with ⟨g,e⟩ | ⟨g,e⟩
  ·have hJ:=f72_j2_ok k d true d a b c d 0 [] [] _ e
   simp (disch:=first|apply D;decide|apply K;kernel_rfl) only [E,EE,↓reduceIte,simprocAttr,xk B72 [2,2,1,3,2,2,2,1,2,2] .sk rfl,f,g]
   try simp only [NM,EE] at hJ
   exact hJ
  ·have hJ:=f72_j2_ok k d (d==3) d a b c d 0 [] [] _ e
   simp (disch:=first|apply D;decide|apply K;kernel_rfl) only [E,EE,↓reduceIte,simprocAttr,rg B72 [3,2,1,3,2,2,2,1,2,2] 7 false rfl,hr 72 7 rfl,f,g]
   try simp only [NM,EE] at hJ
   exact hJ
noncomputable def f72 (k:Nat) (d a:Int) (b:List Int) (c:List T50):Option R72:=match k with | 0=>none | k+1=>f72_e k d a b c
theorem f72_ok (k e a b d r) (f:f72 k e a b d=some r):CV k 72 [.agg [jI e,.p (.int .u64 a),.sl 1 (rowsOf (encI .u8) b),.sl 4 (rowsOf encT50 d)]] []=some r.st:=by
 cases k with
 | zero=>cases f
 | succ k =>
  unfold CV
  rw [ev_call (F:=Tryd.f72) (c:=(nav B72 [])) rfl Tryd.func72 rfl rfl rfl rfl]
  exact f72_e_ok k e a b d r f
-- f64: f64 unicode/utf8.word[[]byte]
inductive R64 where
 | o0 (y:Int)
noncomputable def R64.st:R64→V×List O×List O
 | .o0 y=>(.p (.int .u64 y),[],[])
noncomputable def f64_j1 (k:Nat) (a:List Int):Option R64 :=
 Option.bind (a[0]?) fun e =>
  Option.bind (a[1]?) fun f =>
   Option.bind (a[2]?) fun g =>
    Option.bind (a[3]?) fun h =>
     Option.bind (a[4]?) fun i =>
      Option.bind (a[5]?) fun b =>
       Option.bind (a[6]?) fun c =>
        Option.bind (a[7]?) fun d =>
         some (.o0 ((IntKind.u64.wrap ((BitVec.ofInt (IntKind.bits .u64) (IntKind.u64.wrap ((BitVec.ofInt (IntKind.bits .u64) (IntKind.u64.wrap ((BitVec.ofInt (IntKind.bits .u64) (IntKind.u64.wrap ((BitVec.ofInt (IntKind.bits .u64) (IntKind.u64.wrap ((BitVec.ofInt (IntKind.bits .u64) (IntKind.u64.wrap ((BitVec.ofInt (IntKind.bits .u64) (IntKind.u64.wrap ((BitVec.ofInt (IntKind.bits .u64) (IntKind.u64.wrap e) ||| BitVec.ofInt (IntKind.bits .u64) (IntKind.u64.wrap ((IntKind.u64.wrap f) * 2 ^ (min 8 (IntKind.bits .u64))))).toNat:Nat)) ||| BitVec.ofInt (IntKind.bits .u64) (IntKind.u64.wrap ((IntKind.u64.wrap g) * 2 ^ (min 16 (IntKind.bits .u64))))).toNat:Nat)) ||| BitVec.ofInt (IntKind.bits .u64) (IntKind.u64.wrap ((IntKind.u64.wrap h) * 2 ^ (min 24 (IntKind.bits .u64))))).toNat:Nat)) ||| BitVec.ofInt (IntKind.bits .u64) (IntKind.u64.wrap ((IntKind.u64.wrap i) * 2 ^ (min 32 (IntKind.bits .u64))))).toNat:Nat)) ||| BitVec.ofInt (IntKind.bits .u64) (IntKind.u64.wrap ((IntKind.u64.wrap b) * 2 ^ (min 40 (IntKind.bits .u64))))).toNat:Nat)) ||| BitVec.ofInt (IntKind.bits .u64) (IntKind.u64.wrap ((IntKind.u64.wrap c) * 2 ^ (min 48 (IntKind.bits .u64))))).toNat:Nat)) ||| BitVec.ofInt (IntKind.bits .u64) (IntKind.u64.wrap ((IntKind.u64.wrap d) * 2 ^ (min 56 (IntKind.bits .u64))))).toNat:Nat))))
theorem f64_j1_ok (k f r) (a:f64_j1 k f=some r):finK Tryd.prog Tryd.f64 0 (EX 64 k (nav B64 [2,2]) (⟨71,[(0,.sl 1 (rowsOf (encI .u8) f))],[]⟩:St))=some r.st:=by
 unfold f64_j1 at a
 obtain ⟨p,g,a⟩:=bs a
 obtain ⟨q,h,a⟩:=bs a
 obtain ⟨s,i,a⟩:=bs a
 obtain ⟨t,j,a⟩:=bs a
 obtain ⟨u,b,a⟩:=bs a
 obtain ⟨l,c,a⟩:=bs a
 obtain ⟨m,d,a⟩:=bs a
 obtain ⟨o,e,a⟩:=bs a
 cases a
 simp (disch:=first|apply D;decide|apply K;kernel_rfl) only [E,EE,↓reduceIte,simprocAttr,xk B64 [2,2] .sq rfl,rg B64 [1,2,2] 2 true rfl,hr 64 2 rfl,indexAddrV,t_22,t_5,encI_eq,t_47,convV,shiftV,xk B64 [2,2,2] .rt rfl,fin64,R64.st,g,h,i,j,b,c,d,e]
noncomputable def f64_e (k:Nat) (a:List Int):Option R64 :=
 f64_j1 k a
theorem f64_e_ok (k a r) (b:f64_e k a=some r):finK Tryd.prog Tryd.f64 0 (EX 64 k (nav B64 []) (⟨71,[(0,.sl 1 (rowsOf (encI .u8) a))],[]⟩:St))=some r.st:=by
 unfold f64_e at b
 have hJ:=f64_j1_ok k a _ b
 simp (disch:=first|apply D;decide|apply K;kernel_rfl) only [E,EE,↓reduceIte,simprocAttr,xk B64 [] .sq rfl,rg B64 [1] 0 false rfl,hr 64 0 rfl,xk B64 [2] .sq rfl,xk B64 [1,2] .cf rfl,xk B64 [3,1,2] .sk rfl]
 try simp only [NM,EE] at hJ
 exact hJ
noncomputable def f64 (k:Nat) (a:List Int):Option R64:=match k with | 0=>none | k+1=>f64_e k a
theorem f64_ok (k a r) (b:f64 k a=some r):CV k 64 [.sl 1 (rowsOf (encI .u8) a)] []=some r.st:=by
 cases k with
 | zero=>cases b
 | succ k =>
  unfold CV
  rw [ev_call (F:=Tryd.f64) (c:=(nav B64 [])) rfl Tryd.func64 rfl rfl rfl rfl]
  exact f64_e_ok k a r b
end Go.Proofs.YtbnnmplkbpgcaaaDoorV