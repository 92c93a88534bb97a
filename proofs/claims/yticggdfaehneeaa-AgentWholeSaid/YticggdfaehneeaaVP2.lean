/- What the program's functions answer: plain functions,and that the interpreter answers what they do. Written by a program of this session,out of the translation. -/
import Derived.Test.YticggdfaehneeaaVP1
namespace Go.Proofs.YticggdfaehneeaaV
open Go
set_option linter.unusedVariables false
set_option linter.unusedSimpArgs false
set_option maxRecDepth 8000
set_option maxHeartbeats 4000000
-- f38: f38 slices.Equal[[]byte,byte]
inductive R38 where
 | o0 (y:Bool)
noncomputable def R38.st:R38→V×List O×List O
 | .o0 y=>(.p (.bool y),[],[])
inductive R38_l2 where
 | o0 (y:Bool)
 | o1 (y a:List Int) (b c:Int)
 | o2 (y a:List Int) (b c:Int) (d:Bool)
noncomputable def R38_l2.st:R38_l2→Out×St
 | .o0 y=>(.ret,(⟨26,[(4,.p (.bool y))],[]⟩:St))
 | .o1 y a b c=>(.norm,(⟨26,[(0,.sl 1 (rowsOf (encI .u8) y)),(1,.sl 1 (rowsOf (encI .u8) a)),(12,jI b),(13,jI c)],[]⟩:St))
 | .o2 y a b c d=>(.exit 0,(⟨26,[(0,.sl 1 (rowsOf (encI .u8) y)),(1,.sl 1 (rowsOf (encI .u8) a)),(12,jI b),(13,jI c),(14,.p (.bool d))],[]⟩:St))
noncomputable def f38_l2_j2 (k:Nat) (c d:List Int) (a b:Int) (e:Bool):Option R38_l2 :=
 some (.o1 c d a (IntKind.i64.wrap (b+(1:Int))))
theorem f38_l2_j2_ok (k d e a b c r) (f:f38_l2_j2 k d e a b c=some r):EX 38 k (nav B38 [2,2,2,1,2,2,1,2,2]) (⟨26,[(0,.sl 1 (rowsOf (encI .u8) d)),(1,.sl 1 (rowsOf (encI .u8) e)),(12,jI a),(13,jI b),(24,.p (.bool c))],[]⟩:St)=some r.st:=by
 unfold f38_l2_j2 at f
 cases f
 simp (disch:=first|apply D;decide|apply K;kernel_rfl) only [E,EE,↓reduceIte,simprocAttr,rg B38 [2,2,2,1,2,2,1,2,2] 8 false rfl,hr 38 8 rfl,R38_l2.st]
noncomputable def f38_l2_j1 (k:Nat) (c d:List Int) (b a:Int) (e:Bool):Option R38_l2 :=
 ifE ((0:Int)≤a) (
  Option.bind (c[(Int.toNat a)]?) fun f =>
   Option.bind (d[(Int.toNat a)]?) fun g =>
    cond ((f != g))
     (some (.o0 false))
     (f38_l2_j2 k c d b a false))
theorem f38_l2_j1_ok (k e f b c d r) (a:f38_l2_j1 k e f b c d=some r):EX 38 k (nav B38 [2,2,1,2,2,1,2,2]) (⟨26,[(0,.sl 1 (rowsOf (encI .u8) e)),(1,.sl 1 (rowsOf (encI .u8) f)),(12,jI b),(13,jI c),(14,.p (.bool d))],[]⟩:St)=some r.st:=by
 unfold f38_l2_j1 at a
 obtain ⟨g,a⟩:=ifE_some.1 a
 obtain ⟨l,h,a⟩:=bs a
 obtain ⟨m,i,a⟩:=bs a
 simp (disch:=first|apply D;decide|apply K;kernel_rfl) only [E,EE,↓reduceIte,simprocAttr,xk B38 [2,2,1,2,2,1,2,2] .sq rfl,xk B38 [1,2,2,1,2,2,1,2,2] (.bk 1) rfl,xk B38 [2,1,2,2,1,2,2,1,2,2] .sq rfl,rg B38 [1,2,1,2,2,1,2,2,1,2,2] 5 false rfl,hr 38 5 rfl,xk B38 [2,2,1,2,2,1,2,2,1,2,2] .sq rfl,rg B38 [1,2,2,1,2,2,1,2,2,1,2,2] 6 true rfl,hr 38 6 rfl,indexAddrV,t_29,t_5,encI_eq,xk B38 [2,2,2,1,2,2,1,2,2,1,2,2] (.cd 24) rfl,g,h,i]
 rcases cond_some a with ⟨j,a⟩ | ⟨j,a⟩
 ·cases a
  simp (disch:=first|apply D;decide|apply K;kernel_rfl) only [E,EE,↓reduceIte,simprocAttr,xk B38 [2,2,2,2,1,2,2,1,2,2,1,2,2] .sq rfl,rg B38 [1,2,2,2,2,1,2,2,1,2,2,1,2,2] 7 false rfl,hr 38 7 rfl,xk B38 [2,2,2,2,2,1,2,2,1,2,2,1,2,2] .rt rfl,R38_l2.st,g,h,i,j]
 ·have hJ:=f38_l2_j2_ok k e f b c false _ a
  simp (disch:=first|apply D;decide|apply K;kernel_rfl) only [E,EE,↓reduceIte,simprocAttr,xk B38 [3,2,2,2,1,2,2,1,2,2,1,2,2] .sk rfl,g,h,i,j]
  try simp only [NM,EE] at hJ
  exact hJ
noncomputable def f38_l2_b (k:Nat) (c d:List Int) (a b:Int):Option R38_l2 :=
 cond ((decide (b<a)))
  (f38_l2_j1 k c d a b true)
  (some (.o2 c d a b false))
theorem f38_l2_b_ok (k d e a b r) (c:f38_l2_b k d e a b=some r):EX 38 k (nav B38 [1,2,2,1,2,2]) (⟨26,[(0,.sl 1 (rowsOf (encI .u8) d)),(1,.sl 1 (rowsOf (encI .u8) e)),(12,jI a),(13,jI b)],[]⟩:St)=some r.st:=by
 unfold f38_l2_b at c
 simp (disch:=first|apply D;decide|apply K;kernel_rfl) only [E,EE,↓reduceIte,simprocAttr,xk B38 [1,2,2,1,2,2] .sq rfl,rg B38 [1,1,2,2,1,2,2] 4 false rfl,hr 38 4 rfl,xk B38 [2,1,2,2,1,2,2] .sq rfl,xk B38 [1,2,1,2,2,1,2,2] (.cd 14) rfl]
 rcases cond_some c with ⟨f,c⟩ | ⟨f,c⟩
 ·have hJ:=f38_l2_j1_ok k d e a b true _ c
  simp (disch:=first|apply D;decide|apply K;kernel_rfl) only [E,EE,↓reduceIte,simprocAttr,xk B38 [2,1,2,1,2,2,1,2,2] .sk rfl,f]
  try simp only [NM,EE] at hJ
  exact hJ
 ·cases c
  simp (disch:=first|apply D;decide|apply K;kernel_rfl) only [E,EE,↓reduceIte,simprocAttr,xk B38 [3,1,2,1,2,2,1,2,2] (.ex 0) rfl,R38_l2.st,f]
noncomputable def f38_l2 (k:Nat):Nat→(List Int)→(List Int)→Int→Int→Option R38_l2
 | 0,_,_,_,_=>none
 | n+1,g,h,d,e=>Option.bind (f38_l2_b k g h d e) fun o =>
  match o with
  | .o0 y=>some (.o0 y)
  | .o1 y a b c=>f38_l2 k n y a b c
  | .o2 y a b c f=>some (.o2 y a b c f)
theorem f38_l2_ok (k n:Nat):∀ (d e:List Int) (a b:Int) (r:R38_l2) (c:f38_l2 k n d e a b=some r) (σ:St) (hσ:headR (hints.head 38 4) (hints.canon 38 4) σ=some (⟨26,[(0,.sl 1 (rowsOf (encI .u8) d)),(1,.sl 1 (rowsOf (encI .u8) e)),(12,jI a),(13,jI b)],[]⟩:St)),LP 38 k (nav B38 [1,2,2,1,2,2]) n σ=some r.st:=by
 induction n with
 | zero=>intro d e a b r c;cases c
 | succ n j =>
  intro d e a b r c σ hσ
  rw [f38_l2] at c
  obtain ⟨o,h,c⟩:=Option.bind_eq_some_iff.1 c
  have hB:=f38_l2_b_ok k d e a b o h
  unfold LP at j ⊢
  unfold EX at hB
  rw [loopK_succ,show firstReg (nav B38 [1,2,2,1,2,2])=4 from rfl,hσ,headK_some,hB]
  cases o with
  | o0 y=>cases c;rfl
  | o1 y f g i =>
   refine j y f g i r c _ ?_
   simp (disch:=first|apply D;decide|apply K;kernel_rfl) only [E,EE,↓reduceIte,simprocAttr,hh_38_4,hc_38_4]
  | o2 y f g i l=>cases c;rfl
noncomputable def f38_j3 (k:Nat) (d e:List Int) (a b:Int) (c:Bool):Option R38 :=
 some (.o0 true)
theorem f38_j3_ok (k d e a b c r) (f:f38_j3 k d e a b c=some r):finK Try.prog Try.f38 0 (EX 38 k (nav B38 [2,2,2]) (⟨26,[(0,.sl 1 (rowsOf (encI .u8) d)),(1,.sl 1 (rowsOf (encI .u8) e)),(12,jI a),(13,jI b),(14,.p (.bool c))],[]⟩:St))=some r.st:=by
 unfold f38_j3 at f
 cases f
 simp (disch:=first|apply D;decide|apply K;kernel_rfl) only [E,EE,↓reduceIte,simprocAttr,xk B38 [2,2,2] .sq rfl,rg B38 [1,2,2,2] 9 false rfl,hr 38 9 rfl,xk B38 [2,2,2,2] .rt rfl,fin38,R38.st]
noncomputable def f38_j1 (k:Nat) (a b:List Int) (c:Bool):Option R38 :=
 Option.bind (f38_l2 k k a b ((List.length a):Int) 0) fun o1 =>
  match o1 with
  | .o0 d =>
   some (.o0 d)
  | .o1 _ _ _ _ =>
   none
  | .o2 e f g h i =>
   f38_j3 k e f g h i
theorem f38_j1_ok (k d e c r) (a:f38_j1 k d e c=some r):finK Try.prog Try.f38 0 (EX 38 k (nav B38 [2,2]) (⟨26,[(0,.sl 1 (rowsOf (encI .u8) d)),(1,.sl 1 (rowsOf (encI .u8) e)),(10,.p (.bool c))],[]⟩:St))=some r.st:=by
 unfold f38_j1 at a
 obtain ⟨o1,f,a⟩:=bs a
 have b:=f38_l2_ok k k d e ((List.length d):Int) 0 _ f
 simp (disch:=first|apply D;decide|apply K;kernel_rfl) only [E,EE,↓reduceIte,simprocAttr,xk B38 [2,2] .sq rfl,xk B38 [1,2,2] .sq rfl,rg B38 [1,1,2,2] 3 false rfl,hr 38 3 rfl,t_29,xk B38 [2,1,2,2] (.bk 0) rfl,xk B38 [2,2,1,2,2] .lp rfl,hh_38_4,hc_38_4]
 (try simp only [NM,EE] at b)
 rw [b _ (by simp (disch:=first|apply D;decide|apply K;kernel_rfl) only [E,EE,↓reduceIte,simprocAttr,hh_38_4,hc_38_4])]
 clear b
 cases o1 with
 | o0 m =>
  (try dsimp only at a)
  cases a
  simp (disch:=first|apply D;decide|apply K;kernel_rfl) only [E,EE,↓reduceIte,simprocAttr,R38_l2.st,fin38,R38.st]
 | o1 _ _ _ _ =>
  (try dsimp only at a)
  cases a
 | o2 g h i j l =>
  (try dsimp only at a)
  have hJ:=f38_j3_ok k g h i j l _ a
  simp (disch:=first|apply D;decide|apply K;kernel_rfl) only [E,EE,↓reduceIte,simprocAttr,R38_l2.st]
  try simp only [NM,EE] at hJ
  exact hJ
noncomputable def f38_e (k:Nat) (a b:List Int):Option R38 :=
 cond ((((List.length a):Int) != ((List.length b):Int)))
  (some (.o0 false))
  (f38_j1 k a b false)
theorem f38_e_ok (k b c r) (a:f38_e k b c=some r):finK Try.prog Try.f38 0 (EX 38 k (nav B38 []) (⟨26,[(0,.sl 1 (rowsOf (encI .u8) b)),(1,.sl 1 (rowsOf (encI .u8) c))],[]⟩:St))=some r.st:=by
 unfold f38_e at a
 simp (disch:=first|apply D;decide|apply K;kernel_rfl) only [E,EE,↓reduceIte,simprocAttr,xk B38 [] .sq rfl,rg B38 [1] 0 false rfl,hr 38 0 rfl,xk B38 [2] .sq rfl,xk B38 [1,2] .sq rfl,rg B38 [1,1,2] 1 false rfl,hr 38 1 rfl,t_29,xk B38 [2,1,2] (.cd 10) rfl]
 rcases cond_some a with ⟨d,a⟩ | ⟨d,a⟩
 ·cases a
  simp (disch:=first|apply D;decide|apply K;kernel_rfl) only [E,EE,↓reduceIte,simprocAttr,xk B38 [2,2,1,2] .sq rfl,rg B38 [1,2,2,1,2] 2 false rfl,hr 38 2 rfl,xk B38 [2,2,2,1,2] .rt rfl,fin38,R38.st,d]
 ·have hJ:=f38_j1_ok k b c false _ a
  simp (disch:=first|apply D;decide|apply K;kernel_rfl) only [E,EE,↓reduceIte,simprocAttr,xk B38 [3,2,1,2] .sk rfl,d]
  try simp only [NM,EE] at hJ
  exact hJ
noncomputable def f38 (k:Nat) (a b:List Int):Option R38:=match k with | 0=>none | k+1=>f38_e k a b
theorem f38_ok (k a b r) (d:f38 k a b=some r):CV k 38 [.sl 1 (rowsOf (encI .u8) a),.sl 1 (rowsOf (encI .u8) b)] []=some r.st:=by
 cases k with
 | zero=>cases d
 | succ k =>
  unfold CV
  rw [ev_call (F:=Try.f38) (c:=(nav B38 [])) rfl Try.func38 rfl rfl rfl rfl]
  exact f38_e_ok k a b r d
-- f20: f20 heliograph/octet.Equal
inductive R20 where
 | o0 (y:Bool)
noncomputable def R20.st:R20→V×List O×List O
 | .o0 y=>(.p (.bool y),[],[])
noncomputable def f20_e (k:Nat) (a b:List Int):Option R20 :=
 Option.bind (f38 k a b) fun o1 =>
  match o1 with
  | .o0 c =>
   some (.o0 c)
theorem f20_e_ok (k c d r) (a:f20_e k c d=some r):finK Try.prog Try.f20 0 (EX 20 k (nav B20 []) (⟨8,[(0,.sl 1 (rowsOf (encI .u8) c)),(1,.sl 1 (rowsOf (encI .u8) d))],[]⟩:St))=some r.st:=by
 unfold f20_e at a
 obtain ⟨o1,e,a⟩:=bs a
 have b:=f38_ok k c d _ e
 cases o1 with
 | o0 f =>
  (try dsimp only at a)
  (try simp only [NM,EE,R38.st] at b)
  cases a
  simp (disch:=first|apply D;decide|apply K;kernel_rfl) only [E,EE,↓reduceIte,simprocAttr,xk B20 [] .sq rfl,rg B20 [1] 0 false rfl,hr 20 0 rfl,xk B20 [2] .sq rfl,rg B20 [1,2] 1 false rfl,hr 20 1 rfl,callStep,CL,gv,List.contains,xk B20 [2,2] .rt rfl,fin20,R20.st,b]
noncomputable def f20 (k:Nat) (a b:List Int):Option R20:=match k with | 0=>none | k+1=>f20_e k a b
theorem f20_ok (k a b r) (d:f20 k a b=some r):CV k 20 [.sl 1 (rowsOf (encI .u8) a),.sl 1 (rowsOf (encI .u8) b)] []=some r.st:=by
 cases k with
 | zero=>cases d
 | succ k =>
  unfold CV
  rw [ev_call (F:=Try.f20) (c:=(nav B20 [])) rfl Try.func20 rfl rfl rfl rfl]
  exact f20_e_ok k a b r d
-- f66: f66 heliograph/bundle.same$1
inductive R66 where
 | o0 (y a b c d e f g h i:Int)
noncomputable def R66.st:R66→V×List O×List O
 | .o0 y a b c d e f g h i=>(.agg [jI y,jI a,jI b,jI c,jI d,jI e,jI f,jI g,jI h,jU i],[],[])
noncomputable def f66_e (k:Nat) (l a b c d e f g h i:Int) (j:List Int):Option R66 :=
 some (.o0 l a c d e f g h i b)
theorem f66_e_ok (k l b c d e f g h i j a r) (m:f66_e k l b c d e f g h i j a=some r):finK Try.prog Try.f66 0 (EX 66 k (nav B66 []) (⟨24,[(0,.agg [jI l,jI b,jU c,jI d,jI e,jI f,jI g,jI h,jI i,jI j,.sl 1 (rowsOf (encI .u8) a)])],[]⟩:St))=some r.st:=by
 unfold f66_e at m
 cases m
 simp (disch:=first|apply D;decide|apply K;kernel_rfl) only [E,EE,↓reduceIte,simprocAttr,xk B66 [] .sq rfl,rg B66 [1] 0 false rfl,hr 66 0 rfl,t_106,xk B66 [2] .sq rfl,rg B66 [1,2] 1 false rfl,hr 66 1 rfl,fieldAddrV,t_39,t_3,t_22,bl_106,xk B66 [2,2] .rt rfl,fin66,R66.st]
noncomputable def f66 (k:Nat) (l b c d e f g h i j:Int) (a:List Int):Option R66:=match k with | 0=>none | k+1=>f66_e k l b c d e f g h i j a
theorem f66_ok (k m b d e f g h i j l a r) (o:f66 k m b d e f g h i j l a=some r):CV k 66 [.agg [jI m,jI b,jU d,jI e,jI f,jI g,jI h,jI i,jI j,jI l,.sl 1 (rowsOf (encI .u8) a)]] []=some r.st:=by
 cases k with
 | zero=>cases o
 | succ k =>
  unfold CV
  rw [ev_call (F:=Try.f66) (c:=(nav B66 [])) rfl Try.func66 rfl rfl rfl rfl]
  exact f66_e_ok k m b d e f g h i j l a r o
-- f60: f60 heliograph/bundle.same
inductive R60 where
 | o0 (y:Bool)
noncomputable def R60.st:R60→V×List O×List O
 | .o0 y=>(.p (.bool y),[],[])
noncomputable def f60_e (k:Nat) (a0 c d e f g h i j l:Int) (a:List Int) (a1 m o p q s t u v w:Int) (b:List Int):Option R60 :=
 Option.bind (f66 k a0 c d e f g h i j l a) fun o1 =>
  match o1 with
  | .o0 v4 v5 v6 v7 v8 v9 x y z r =>
   Option.bind (f66 k a1 m o p q s t u v w b) fun o14 =>
    match o14 with
    | .o0 n aa ab ac ad ae af ag ah ai =>
     some (.o0 (((v4==n)&&((v5==aa)&&((v6==ab)&&((v7==ac)&&((v8==ad)&&((v9==ae)&&((x==af)&&((y==ag)&&((z==ah)&&(r==ai))))))))))))
theorem f60_e_ok (k n c d e f g h i j l a a1 m o p q s t u v w b r) (x:f60_e k n c d e f g h i j l a a1 m o p q s t u v w b=some r):finK Try.prog Try.f60 0 (EX 60 k (nav B60 []) (⟨13,[(0,.agg [jI n,jI c,jU d,jI e,jI f,jI g,jI h,jI i,jI j,jI l,.sl 1 (rowsOf (encI .u8) a)]),(1,.agg [jI a1,jI m,jU o,jI p,jI q,jI s,jI t,jI u,jI v,jI w,.sl 1 (rowsOf (encI .u8) b)])],[]⟩:St))=some r.st:=by
 unfold f60_e at x
 obtain ⟨o1,h2,x⟩:=bs x
 have z:=f66_ok k n c d e f g h i j l a _ h2
 cases o1 with
 | o0 v4 v5 v6 v7 v8 v9 ad ae af ag =>
  (try dsimp only at x)
  (try simp only [NM,EE,R66.st] at z)
  obtain ⟨o14,ab,x⟩:=bs x
  have y:=f66_ok k a1 m o p q s t u v w b _ ab
  cases o14 with
  | o0 ah ai aj ak al am an ao ap aq =>
   (try dsimp only at x)
   (try simp only [NM,EE,R66.st] at y)
   cases x
   simp (disch:=first|apply D;decide|apply K;kernel_rfl) only [E,EE,↓reduceIte,simprocAttr,xk B60 [] .sq rfl,rg B60 [1] 0 false rfl,hr 60 0 rfl,xk B60 [2] .sq rfl,rg B60 [1,2] 1 false rfl,hr 60 1 rfl,xk B60 [2,2] .sq rfl,rg B60 [1,2,2] 2 true rfl,hr 60 2 rfl,t_39,callStep,CL,gv,List.contains,t_106,ag_106,t_3,t_22,xk B60 [2,2,2] .rt rfl,fin60,R60.st,z,y]
noncomputable def f60 (k:Nat) (x c d e f g h i j l:Int) (a:List Int) (y m o p q s t u v w:Int) (b:List Int):Option R60:=match k with | 0=>none | k+1=>f60_e k x c d e f g h i j l a y m o p q s t u v w b
theorem f60_ok (k y d e f g h i j l m a z o p q s t u v w x b r) (n:f60 k y d e f g h i j l m a z o p q s t u v w x b=some r):CV k 60 [.agg [jI y,jI d,jU e,jI f,jI g,jI h,jI i,jI j,jI l,jI m,.sl 1 (rowsOf (encI .u8) a)],.agg [jI z,jI o,jU p,jI q,jI s,jI t,jI u,jI v,jI w,jI x,.sl 1 (rowsOf (encI .u8) b)]] []=some r.st:=by
 cases k with
 | zero=>cases n
 | succ k =>
  unfold CV
  rw [ev_call (F:=Try.f60) (c:=(nav B60 [])) rfl Try.func60 rfl rfl rfl rfl]
  exact f60_e_ok k y d e f g h i j l m a z o p q s t u v w x b r n
-- f41: f41 heliograph/bundle.Same
inductive R41 where
 | o0 (y:Bool)
noncomputable def R41.st:R41→V×List O×List O
 | .o0 y=>(.p (.bool y),[],[])
noncomputable def f41_e (k:Nat) (x c d e f g h i j l:Int) (a:List Int) (y m o p q s t u v w:Int) (b:List Int):Option R41 :=
 Option.bind (f20 k a b) fun o1 =>
  match o1 with
  | .o0 z =>
   cond (z)
    (
     Option.bind (f60 k x c d e f g h i j l [] y m o p q s t u v w []) fun o6 =>
      match o6 with
      | .o0 r =>
       some (.o0 r))
    (some (.o0 false))
theorem f41_e_ok (k n d e f g h i j l m a a1 o p q s t u v w x b r) (c:f41_e k n d e f g h i j l m a a1 o p q s t u v w x b=some r):finK Try.prog Try.f41 0 (EX 41 k (nav B41 []) (⟨21,[(0,.agg [jI n,jI d,jU e,jI f,jI g,jI h,jI i,jI j,jI l,jI m,.sl 1 (rowsOf (encI .u8) a)]),(1,.agg [jI a1,jI o,jU p,jI q,jI s,jI t,jI u,jI v,jI w,jI x,.sl 1 (rowsOf (encI .u8) b)])],[]⟩:St))=some r.st:=by
 unfold f41_e at c
 obtain ⟨o1,h2,c⟩:=bs c
 have y:=f20_ok k a b _ h2
 cases o1 with
 | o0 v4 =>
  (try dsimp only at c)
  (try simp only [NM,EE,R20.st] at y)
  simp (disch:=first|apply D;decide|apply K;kernel_rfl) only [E,EE,↓reduceIte,simprocAttr,xk B41 [] .sq rfl,rg B41 [1] 0 false rfl,hr 41 0 rfl,xk B41 [2] .sq rfl,rg B41 [1,2] 1 true rfl,hr 41 1 rfl,t_39,xk B41 [2,2] .sq rfl,rg B41 [1,2,2] 2 false rfl,hr_41_2,fieldAddrV,t_29,xk B41 [2,2,2] .sq rfl,rg B41 [1,2,2,2] 3 false rfl,hr 41 3 rfl,callStep,CL,gv,List.contains,y]
  rcases cond_some c with ⟨h5,c⟩ | ⟨h5,c⟩
  ·obtain ⟨o6,h7,c⟩:=bs c
   have z:=f60_ok k n d e f g h i j l m [] a1 o p q s t u v w x [] _ h7
   cases o6 with
   | o0 v9 =>
    (try dsimp only at c)
    (try simp only [NM,EE,R60.st] at z)
    cases c
    simp (disch:=first|apply D;decide|apply K;kernel_rfl) only [E,EE,↓reduceIte,simprocAttr,t_39,callStep,CL,gv,List.contains,xk B41 [2,2,2,2] .rt rfl,fin41,R41.st,y,h5,z]
  ·cases c
   simp (disch:=first|apply D;decide|apply K;kernel_rfl) only [E,EE,↓reduceIte,simprocAttr,xk B41 [2,2,2,2] .rt rfl,fin41,R41.st,y,h5]
noncomputable def f41 (k:Nat) (x c d e f g h i j l:Int) (a:List Int) (y m o p q s t u v w:Int) (b:List Int):Option R41:=match k with | 0=>none | k+1=>f41_e k x c d e f g h i j l a y m o p q s t u v w b
theorem f41_ok (k y d e f g h i j l m a z o p q s t u v w x b r) (n:f41 k y d e f g h i j l m a z o p q s t u v w x b=some r):CV k 41 [.agg [jI y,jI d,jU e,jI f,jI g,jI h,jI i,jI j,jI l,jI m,.sl 1 (rowsOf (encI .u8) a)],.agg [jI z,jI o,jU p,jI q,jI s,jI t,jI u,jI v,jI w,jI x,.sl 1 (rowsOf (encI .u8) b)]] []=some r.st:=by
 cases k with
 | zero=>cases n
 | succ k =>
  unfold CV
  rw [ev_call (F:=Try.f41) (c:=(nav B41 [])) rfl Try.func41 rfl rfl rfl rfl]
  exact f41_e_ok k y d e f g h i j l m a z o p q s t u v w x b r n
-- f67: f67 bytes.Equal
inductive R67 where
 | o0 (y:Bool)
noncomputable def R67.st:R67→V×List O×List O
 | .o0 y=>(.p (.bool y),[],[])
noncomputable def f67_e (k:Nat) (a b:List Int):Option R67 :=
 some (.o0 (((strOf a).toList==(strOf b).toList)))
theorem f67_e_ok (k a b r) (c:f67_e k a b=some r):finK Try.prog Try.f67 0 (EX 67 k (nav B67 []) (⟨10,[(0,.sl 1 (rowsOf (encI .u8) a)),(1,.sl 1 (rowsOf (encI .u8) b))],[]⟩:St))=some r.st:=by
 unfold f67_e at c
 cases c
 simp (disch:=first|apply D;decide|apply K;kernel_rfl) only [E,EE,↓reduceIte,simprocAttr,xk B67 [] .sq rfl,rg B67 [1] 0 false rfl,hr 67 0 rfl,xk B67 [2] .sq rfl,rg B67 [1,2] 1 false rfl,hr 67 1 rfl,t_29,t_9,strV,content,strRows_map,t_5,xk B67 [2,2] .rt rfl,fin67,R67.st]
noncomputable def f67 (k:Nat) (a b:List Int):Option R67:=match k with | 0=>none | k+1=>f67_e k a b
theorem f67_ok (k a b r) (d:f67 k a b=some r):CV k 67 [.sl 1 (rowsOf (encI .u8) a),.sl 1 (rowsOf (encI .u8) b)] []=some r.st:=by
 cases k with
 | zero=>cases d
 | succ k =>
  unfold CV
  rw [ev_call (F:=Try.f67) (c:=(nav B67 [])) rfl Try.func67 rfl rfl rfl rfl]
  exact f67_e_ok k a b r d
end Go.Proofs.YticggdfaehneeaaV