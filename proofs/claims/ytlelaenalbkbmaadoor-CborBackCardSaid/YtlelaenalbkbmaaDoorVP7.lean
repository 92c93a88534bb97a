/- What the program's functions answer: plain functions,and that the interpreter answers what they do. Written by a program of this session,out of the translation. -/
import Derived.Test.YtlelaenalbkbmaaDoorVP6
namespace Go.Proofs.YtlelaenalbkbmaaDoorV
open Go
set_option linter.unusedVariables false
set_option linter.unusedSimpArgs false
set_option maxRecDepth 8000
set_option maxHeartbeats 4000000
-- f32: f32 (*heliograph/octet.Reader).Left
inductive R32 where
 | o0 (y:Int) (a:List Int) (b c:Int)
noncomputable def R32.st:R32→V×List O×List O
 | .o0 y a b c=>((jI y),[.box 68 [.sl 1 (rowsOf (encI .u8) a),jI b,jI c]],[])
noncomputable def f32_j1 (k:Nat) (d:Bool) (c:List Int) (a b:Int):Option R32 :=
 some (.o0 (IntKind.i64.wrap (((List.length c):Int) - a)) c a b)
theorem f32_j1_ok (k c d a b r) (e:f32_j1 k c d a b=some r):finK Tryd.prog Tryd.f32 1 (EX 32 k (nav B32 [2,2]) (⟨17,[(0,.ptr 1000000 0),(4,.p (.bool c))],[(1000000,.box 68 [.sl 1 (rowsOf (encI .u8) d),jI a,jI b])]⟩:St))=some r.st:=by
 unfold f32_j1 at e
 cases e
 simp (disch:=first|apply D;decide|apply K;kernel_rfl) only [E,EE,↓reduceIte,simprocAttr,xk B32 [2,2] .sq rfl,rg B32 [1,2,2] 3 true rfl,hr 32 3 rfl,fieldAddrV,t_68,t_66,t_25,t_3,xk B32 [2,2,2] .rt rfl,fin32,R32.st]
noncomputable def f32_e (k:Nat) (c:List Int) (a b:Int):Option R32 :=
 f32_j1 k false c a b
theorem f32_e_ok (k c a b r) (d:f32_e k c a b=some r):finK Tryd.prog Tryd.f32 1 (EX 32 k (nav B32 []) (⟨17,[(0,.ptr 1000000 0)],[(1000000,.box 68 [.sl 1 (rowsOf (encI .u8) c),jI a,jI b])]⟩:St))=some r.st:=by
 unfold f32_e at d
 have hJ:=f32_j1_ok k false c a b _ d
 simp (disch:=first|apply D;decide|apply K;kernel_rfl) only [E,EE,↓reduceIte,simprocAttr,xk B32 [] .sq rfl,rg B32 [1] 0 false rfl,hr 32 0 rfl,xk B32 [2] .sq rfl,xk B32 [1,2] .sq rfl,rg B32 [1,1,2] 1 false rfl,hr 32 1 rfl,t_57,isRef,isNilP,xk B32 [2,1,2] (.cd 4) rfl,xk B32 [3,2,1,2] .sk rfl]
 try simp only [NM,EE] at hJ
 exact hJ
noncomputable def f32 (k:Nat) (c:List Int) (a b:Int):Option R32:=match k with | 0=>none | k+1=>f32_e k c a b
theorem f32_ok (k d a b r) (e:f32 k d a b=some r):CV k 32 [.ptr 1000000 0] [.box 68 [.sl 1 (rowsOf (encI .u8) d),jI a,jI b]]=some r.st:=by
 cases k with
 | zero=>cases e
 | succ k =>
  unfold CV
  rw [ev_call (F:=Tryd.f32) (c:=(nav B32 [])) rfl Tryd.func32 rfl rfl rfl rfl]
  exact f32_e_ok k d a b r e
-- f20: f20 heliograph/cbor.Decode
inductive R20 where
 | o0 (y a:Int) (b:List Int) (c:List T28) (d e:Int)
noncomputable def R20.st:R20→V×List O×List O
 | .o0 y a b c d e=>(V.tup [.agg [jI y,.p (.int .u64 a),.sl 1 (rowsOf (encI .u8) b),.sl 4 (rowsOf encT28 c)],jI d,jI e],[],[])
noncomputable def f20_j1 (k:Nat) (i:List Int) (p:Int) (j:Bool) (q f:Int) (g:List Int) (h:List T28) (l:List Int) (a b m c:Int) (d:List Int) (e:List T28):Option R20 :=
 Option.bind (f32 k l a b) fun o1 =>
  match o1 with
  | .o0 o s t u =>
   some (.o0 m c d e (IntKind.i64.wrap (((List.length i):Int) - o)) 0)
theorem f20_j1_ok (k o p i q c d e m a b s f g h r) (j:f20_j1 k o p i q c d e m a b s f g h=some r):finK Tryd.prog Tryd.f20 0 (EX 20 k (nav B20 [2,2,2,2]) (⟨25,[(0,.sl 1 (rowsOf (encI .u8) o)),(2,.ptr 2 0),(5,.ptr 9 0),(6,.ptr 6 0),(7,jI p),(16,.p (.bool i))],[(2,.box 28 [jI q,.p (.int .u64 c),.sl 1 (rowsOf (encI .u8) d),.sl 4 (rowsOf encT28 e)]),(9,.box 68 [.sl 1 (rowsOf (encI .u8) m),jI a,jI b]),(6,.box 28 [jI s,.p (.int .u64 f),.sl 1 (rowsOf (encI .u8) g),.sl 4 (rowsOf encT28 h)])]⟩:St))=some r.st:=by
 unfold f20_j1 at j
 obtain ⟨o1,t,j⟩:=bs j
 have l:=f32_ok k m a b _ t
 cases o1 with
 | o0 u v w x =>
  (try dsimp only at j)
  (try simp only [NM,EE,R32.st] at l)
  cases j
  simp (disch:=first|apply D;decide|apply K;kernel_rfl) only [E,EE,↓reduceIte,simprocAttr,xk B20 [2,2,2,2] .sq rfl,rg B20 [1,2,2,2,2] 5 true rfl,hr 20 5 rfl,t_28,t_25,callStep,CL,gv,List.contains,xk B20 [2,2,2,2,2] .rt rfl,fin20,R20.st,l]
noncomputable def f20_e (k:Nat) (i:List Int):Option R20 :=
 Option.bind (f30 k i) fun o1 =>
  match o1 with
  | .o0 j l m =>
   Option.bind (f31 k 4 m j l) fun o7 =>
    match o7 with
    | .o0 b c d e a f g h =>
     cond ((a != 0))
      (some (.o0 0 0 [] [] 0 a))
      (f20_j1 k i a false 0 0 [] [] f g h b c d e)
theorem f20_e_ok (k e r) (a:f20_e k e=some r):finK Tryd.prog Tryd.f20 0 (EX 20 k (nav B20 []) (⟨25,[(0,.sl 1 (rowsOf (encI .u8) e))],[]⟩:St))=some r.st:=by
 unfold f20_e at a
 obtain ⟨o1,p,a⟩:=bs a
 have b:=f30_ok k e _ p
 cases o1 with
 | o0 q s t =>
  (try dsimp only at a)
  (try simp only [NM,EE,R30.st] at b)
  obtain ⟨o7,u,a⟩:=bs a
  have c:=f31_ok k 4 t q s _ u
  cases o7 with
  | o0 f g h i j l m o =>
   (try dsimp only at a)
   (try simp only [NM,EE,R31.st] at c)
   simp (disch:=first|apply D;decide|apply K;kernel_rfl) only [E,EE,↓reduceIte,simprocAttr,xk B20 [] .sq rfl,rg B20 [1] 0 false rfl,hr_20_0,t_28,xk B20 [2] .sq rfl,rg B20 [1,2] 1 false rfl,hr_20_1,callStep,CL,gv,List.contains,xk B20 [2,2] .sq rfl,rg B20 [1,2,2] 2 false rfl,hr 20 2 rfl,xk B20 [2,2,2] .sq rfl,xk B20 [1,2,2,2] .sq rfl,rg B20 [1,1,2,2,2] 3 false rfl,hr 20 3 rfl,xk B20 [2,1,2,2,2] (.cd 16) rfl,b,c]
   rcases cond_some a with ⟨d,a⟩ | ⟨d,a⟩
   ·cases a
    simp (disch:=first|apply D;decide|apply K;kernel_rfl) only [E,EE,↓reduceIte,simprocAttr,xk B20 [2,2,1,2,2,2] .sq rfl,rg B20 [1,2,2,1,2,2,2] 4 false rfl,hr_20_4,bl_28,t_28,xk B20 [2,2,2,1,2,2,2] .rt rfl,fin20,R20.st,b,c,d]
   ·have hJ:=f20_j1_ok k e j false 0 0 [] [] l m o f g h i _ a
    simp (disch:=first|apply D;decide|apply K;kernel_rfl) only [E,EE,↓reduceIte,simprocAttr,xk B20 [3,2,1,2,2,2] .sk rfl,b,c,d]
    try simp only [NM,EE] at hJ
    exact hJ
noncomputable def f20 (k:Nat) (a:List Int):Option R20:=match k with | 0=>none | k+1=>f20_e k a
theorem f20_ok (k a r) (b:f20 k a=some r):CV k 20 [.sl 1 (rowsOf (encI .u8) a)] []=some r.st:=by
 cases k with
 | zero=>cases b
 | succ k =>
  unfold CV
  rw [ev_call (F:=Tryd.f20) (c:=(nav B20 [])) rfl Tryd.func20 rfl rfl rfl rfl]
  exact f20_e_ok k a r b
-- f33: f33 slices.Equal[[]byte,byte]
inductive R33 where
 | o0 (y:Bool)
noncomputable def R33.st:R33→V×List O×List O
 | .o0 y=>(.p (.bool y),[],[])
inductive R33_l2 where
 | o0 (y:Bool)
 | o1 (y a:List Int) (b c:Int)
 | o2 (y a:List Int) (b c:Int) (d:Bool)
noncomputable def R33_l2.st:R33_l2→Out×St
 | .o0 y=>(.ret,(⟨26,[(4,.p (.bool y))],[]⟩:St))
 | .o1 y a b c=>(.norm,(⟨26,[(0,.sl 1 (rowsOf (encI .u8) y)),(1,.sl 1 (rowsOf (encI .u8) a)),(12,jI b),(13,jI c)],[]⟩:St))
 | .o2 y a b c d=>(.exit 0,(⟨26,[(0,.sl 1 (rowsOf (encI .u8) y)),(1,.sl 1 (rowsOf (encI .u8) a)),(12,jI b),(13,jI c),(14,.p (.bool d))],[]⟩:St))
noncomputable def f33_l2_j2 (k:Nat) (c d:List Int) (a b:Int) (e:Bool):Option R33_l2 :=
 some (.o1 c d a (IntKind.i64.wrap (b+(1:Int))))
theorem f33_l2_j2_ok (k d e a b c r) (f:f33_l2_j2 k d e a b c=some r):EX 33 k (nav B33 [2,2,2,1,2,2,1,2,2]) (⟨26,[(0,.sl 1 (rowsOf (encI .u8) d)),(1,.sl 1 (rowsOf (encI .u8) e)),(12,jI a),(13,jI b),(24,.p (.bool c))],[]⟩:St)=some r.st:=by
 unfold f33_l2_j2 at f
 cases f
 simp (disch:=first|apply D;decide|apply K;kernel_rfl) only [E,EE,↓reduceIte,simprocAttr,rg B33 [2,2,2,1,2,2,1,2,2] 8 false rfl,hr 33 8 rfl,R33_l2.st]
noncomputable def f33_l2_j1 (k:Nat) (c d:List Int) (b a:Int) (e:Bool):Option R33_l2 :=
 ifE ((0:Int)≤a) (
  Option.bind (c[(Int.toNat a)]?) fun f =>
   Option.bind (d[(Int.toNat a)]?) fun g =>
    cond ((f != g))
     (some (.o0 false))
     (f33_l2_j2 k c d b a false))
theorem f33_l2_j1_ok (k e f b c d r) (a:f33_l2_j1 k e f b c d=some r):EX 33 k (nav B33 [2,2,1,2,2,1,2,2]) (⟨26,[(0,.sl 1 (rowsOf (encI .u8) e)),(1,.sl 1 (rowsOf (encI .u8) f)),(12,jI b),(13,jI c),(14,.p (.bool d))],[]⟩:St)=some r.st:=by
 unfold f33_l2_j1 at a
 obtain ⟨g,a⟩:=ifE_some.1 a
 obtain ⟨l,h,a⟩:=bs a
 obtain ⟨m,i,a⟩:=bs a
 simp (disch:=first|apply D;decide|apply K;kernel_rfl) only [E,EE,↓reduceIte,simprocAttr,xk B33 [2,2,1,2,2,1,2,2] .sq rfl,xk B33 [1,2,2,1,2,2,1,2,2] (.bk 1) rfl,xk B33 [2,1,2,2,1,2,2,1,2,2] .sq rfl,rg B33 [1,2,1,2,2,1,2,2,1,2,2] 5 false rfl,hr 33 5 rfl,xk B33 [2,2,1,2,2,1,2,2,1,2,2] .sq rfl,rg B33 [1,2,2,1,2,2,1,2,2,1,2,2] 6 true rfl,hr 33 6 rfl,indexAddrV,t_25,t_5,encI_eq,xk B33 [2,2,2,1,2,2,1,2,2,1,2,2] (.cd 24) rfl,g,h,i]
 rcases cond_some a with ⟨j,a⟩ | ⟨j,a⟩
 ·cases a
  simp (disch:=first|apply D;decide|apply K;kernel_rfl) only [E,EE,↓reduceIte,simprocAttr,xk B33 [2,2,2,2,1,2,2,1,2,2,1,2,2] .sq rfl,rg B33 [1,2,2,2,2,1,2,2,1,2,2,1,2,2] 7 false rfl,hr 33 7 rfl,xk B33 [2,2,2,2,2,1,2,2,1,2,2,1,2,2] .rt rfl,R33_l2.st,g,h,i,j]
 ·have hJ:=f33_l2_j2_ok k e f b c false _ a
  simp (disch:=first|apply D;decide|apply K;kernel_rfl) only [E,EE,↓reduceIte,simprocAttr,xk B33 [3,2,2,2,1,2,2,1,2,2,1,2,2] .sk rfl,g,h,i,j]
  try simp only [NM,EE] at hJ
  exact hJ
noncomputable def f33_l2_b (k:Nat) (c d:List Int) (a b:Int):Option R33_l2 :=
 cond ((decide (b<a)))
  (f33_l2_j1 k c d a b true)
  (some (.o2 c d a b false))
theorem f33_l2_b_ok (k d e a b r) (c:f33_l2_b k d e a b=some r):EX 33 k (nav B33 [1,2,2,1,2,2]) (⟨26,[(0,.sl 1 (rowsOf (encI .u8) d)),(1,.sl 1 (rowsOf (encI .u8) e)),(12,jI a),(13,jI b)],[]⟩:St)=some r.st:=by
 unfold f33_l2_b at c
 simp (disch:=first|apply D;decide|apply K;kernel_rfl) only [E,EE,↓reduceIte,simprocAttr,xk B33 [1,2,2,1,2,2] .sq rfl,rg B33 [1,1,2,2,1,2,2] 4 false rfl,hr 33 4 rfl,xk B33 [2,1,2,2,1,2,2] .sq rfl,xk B33 [1,2,1,2,2,1,2,2] (.cd 14) rfl]
 rcases cond_some c with ⟨f,c⟩ | ⟨f,c⟩
 ·have hJ:=f33_l2_j1_ok k d e a b true _ c
  simp (disch:=first|apply D;decide|apply K;kernel_rfl) only [E,EE,↓reduceIte,simprocAttr,xk B33 [2,1,2,1,2,2,1,2,2] .sk rfl,f]
  try simp only [NM,EE] at hJ
  exact hJ
 ·cases c
  simp (disch:=first|apply D;decide|apply K;kernel_rfl) only [E,EE,↓reduceIte,simprocAttr,xk B33 [3,1,2,1,2,2,1,2,2] (.ex 0) rfl,R33_l2.st,f]
noncomputable def f33_l2 (k:Nat):Nat→(List Int)→(List Int)→Int→Int→Option R33_l2
 | 0,_,_,_,_=>none
 | n+1,g,h,d,e=>Option.bind (f33_l2_b k g h d e) fun o =>
  match o with
  | .o0 y=>some (.o0 y)
  | .o1 y a b c=>f33_l2 k n y a b c
  | .o2 y a b c f=>some (.o2 y a b c f)
theorem f33_l2_ok (k n:Nat):∀ (d e:List Int) (a b:Int) (r:R33_l2) (c:f33_l2 k n d e a b=some r) (σ:St) (hσ:headR (hints.head 33 4) (hints.canon 33 4) σ=some (⟨26,[(0,.sl 1 (rowsOf (encI .u8) d)),(1,.sl 1 (rowsOf (encI .u8) e)),(12,jI a),(13,jI b)],[]⟩:St)),LP 33 k (nav B33 [1,2,2,1,2,2]) n σ=some r.st:=by
 induction n with
 | zero=>intro d e a b r c;cases c
 | succ n j =>
  intro d e a b r c σ hσ
  rw [f33_l2] at c
  obtain ⟨o,h,c⟩:=Option.bind_eq_some_iff.1 c
  have hB:=f33_l2_b_ok k d e a b o h
  unfold LP at j ⊢
  unfold EX at hB
  rw [loopK_succ,show firstReg (nav B33 [1,2,2,1,2,2])=4 from rfl,hσ,headK_some,hB]
  cases o with
  | o0 y=>cases c;rfl
  | o1 y f g i =>
   refine j y f g i r c _ ?_
   simp (disch:=first|apply D;decide|apply K;kernel_rfl) only [E,EE,↓reduceIte,simprocAttr,hh_33_4,hc_33_4]
  | o2 y f g i l=>cases c;rfl
noncomputable def f33_j3 (k:Nat) (d e:List Int) (a b:Int) (c:Bool):Option R33 :=
 some (.o0 true)
theorem f33_j3_ok (k d e a b c r) (f:f33_j3 k d e a b c=some r):finK Tryd.prog Tryd.f33 0 (EX 33 k (nav B33 [2,2,2]) (⟨26,[(0,.sl 1 (rowsOf (encI .u8) d)),(1,.sl 1 (rowsOf (encI .u8) e)),(12,jI a),(13,jI b),(14,.p (.bool c))],[]⟩:St))=some r.st:=by
 unfold f33_j3 at f
 cases f
 simp (disch:=first|apply D;decide|apply K;kernel_rfl) only [E,EE,↓reduceIte,simprocAttr,xk B33 [2,2,2] .sq rfl,rg B33 [1,2,2,2] 9 false rfl,hr 33 9 rfl,xk B33 [2,2,2,2] .rt rfl,fin33,R33.st]
noncomputable def f33_j1 (k:Nat) (a b:List Int) (c:Bool):Option R33 :=
 Option.bind (f33_l2 k k a b ((List.length a):Int) 0) fun o1 =>
  match o1 with
  | .o0 d =>
   some (.o0 d)
  | .o1 _ _ _ _ =>
   none
  | .o2 e f g h i =>
   f33_j3 k e f g h i
theorem f33_j1_ok (k d e c r) (a:f33_j1 k d e c=some r):finK Tryd.prog Tryd.f33 0 (EX 33 k (nav B33 [2,2]) (⟨26,[(0,.sl 1 (rowsOf (encI .u8) d)),(1,.sl 1 (rowsOf (encI .u8) e)),(10,.p (.bool c))],[]⟩:St))=some r.st:=by
 unfold f33_j1 at a
 obtain ⟨o1,f,a⟩:=bs a
 have b:=f33_l2_ok k k d e ((List.length d):Int) 0 _ f
 simp (disch:=first|apply D;decide|apply K;kernel_rfl) only [E,EE,↓reduceIte,simprocAttr,xk B33 [2,2] .sq rfl,xk B33 [1,2,2] .sq rfl,rg B33 [1,1,2,2] 3 false rfl,hr 33 3 rfl,t_25,xk B33 [2,1,2,2] (.bk 0) rfl,xk B33 [2,2,1,2,2] .lp rfl,hh_33_4,hc_33_4]
 (try simp only [NM,EE] at b)
 rw [b _ (by simp (disch:=first|apply D;decide|apply K;kernel_rfl) only [E,EE,↓reduceIte,simprocAttr,hh_33_4,hc_33_4])]
 clear b
 cases o1 with
 | o0 m =>
  (try dsimp only at a)
  cases a
  simp (disch:=first|apply D;decide|apply K;kernel_rfl) only [E,EE,↓reduceIte,simprocAttr,R33_l2.st,fin33,R33.st]
 | o1 _ _ _ _ =>
  (try dsimp only at a)
  cases a
 | o2 g h i j l =>
  (try dsimp only at a)
  have hJ:=f33_j3_ok k g h i j l _ a
  simp (disch:=first|apply D;decide|apply K;kernel_rfl) only [E,EE,↓reduceIte,simprocAttr,R33_l2.st]
  try simp only [NM,EE] at hJ
  exact hJ
noncomputable def f33_e (k:Nat) (a b:List Int):Option R33 :=
 cond ((((List.length a):Int) != ((List.length b):Int)))
  (some (.o0 false))
  (f33_j1 k a b false)
theorem f33_e_ok (k b c r) (a:f33_e k b c=some r):finK Tryd.prog Tryd.f33 0 (EX 33 k (nav B33 []) (⟨26,[(0,.sl 1 (rowsOf (encI .u8) b)),(1,.sl 1 (rowsOf (encI .u8) c))],[]⟩:St))=some r.st:=by
 unfold f33_e at a
 simp (disch:=first|apply D;decide|apply K;kernel_rfl) only [E,EE,↓reduceIte,simprocAttr,xk B33 [] .sq rfl,rg B33 [1] 0 false rfl,hr 33 0 rfl,xk B33 [2] .sq rfl,xk B33 [1,2] .sq rfl,rg B33 [1,1,2] 1 false rfl,hr 33 1 rfl,t_25,xk B33 [2,1,2] (.cd 10) rfl]
 rcases cond_some a with ⟨d,a⟩ | ⟨d,a⟩
 ·cases a
  simp (disch:=first|apply D;decide|apply K;kernel_rfl) only [E,EE,↓reduceIte,simprocAttr,xk B33 [2,2,1,2] .sq rfl,rg B33 [1,2,2,1,2] 2 false rfl,hr 33 2 rfl,xk B33 [2,2,2,1,2] .rt rfl,fin33,R33.st,d]
 ·have hJ:=f33_j1_ok k b c false _ a
  simp (disch:=first|apply D;decide|apply K;kernel_rfl) only [E,EE,↓reduceIte,simprocAttr,xk B33 [3,2,1,2] .sk rfl,d]
  try simp only [NM,EE] at hJ
  exact hJ
noncomputable def f33 (k:Nat) (a b:List Int):Option R33:=match k with | 0=>none | k+1=>f33_e k a b
theorem f33_ok (k a b r) (d:f33 k a b=some r):CV k 33 [.sl 1 (rowsOf (encI .u8) a),.sl 1 (rowsOf (encI .u8) b)] []=some r.st:=by
 cases k with
 | zero=>cases d
 | succ k =>
  unfold CV
  rw [ev_call (F:=Tryd.f33) (c:=(nav B33 [])) rfl Tryd.func33 rfl rfl rfl rfl]
  exact f33_e_ok k a b r d
-- f21: f21 heliograph/octet.Equal
inductive R21 where
 | o0 (y:Bool)
noncomputable def R21.st:R21→V×List O×List O
 | .o0 y=>(.p (.bool y),[],[])
noncomputable def f21_e (k:Nat) (a b:List Int):Option R21 :=
 Option.bind (f33 k a b) fun o1 =>
  match o1 with
  | .o0 c =>
   some (.o0 c)
theorem f21_e_ok (k c d r) (a:f21_e k c d=some r):finK Tryd.prog Tryd.f21 0 (EX 21 k (nav B21 []) (⟨8,[(0,.sl 1 (rowsOf (encI .u8) c)),(1,.sl 1 (rowsOf (encI .u8) d))],[]⟩:St))=some r.st:=by
 unfold f21_e at a
 obtain ⟨o1,e,a⟩:=bs a
 have b:=f33_ok k c d _ e
 cases o1 with
 | o0 f =>
  (try dsimp only at a)
  (try simp only [NM,EE,R33.st] at b)
  cases a
  simp (disch:=first|apply D;decide|apply K;kernel_rfl) only [E,EE,↓reduceIte,simprocAttr,xk B21 [] .sq rfl,rg B21 [1] 0 false rfl,hr 21 0 rfl,xk B21 [2] .sq rfl,rg B21 [1,2] 1 false rfl,hr 21 1 rfl,callStep,CL,gv,List.contains,xk B21 [2,2] .rt rfl,fin21,R21.st,b]
noncomputable def f21 (k:Nat) (a b:List Int):Option R21:=match k with | 0=>none | k+1=>f21_e k a b
theorem f21_ok (k a b r) (d:f21 k a b=some r):CV k 21 [.sl 1 (rowsOf (encI .u8) a),.sl 1 (rowsOf (encI .u8) b)] []=some r.st:=by
 cases k with
 | zero=>cases d
 | succ k =>
  unfold CV
  rw [ev_call (F:=Tryd.f21) (c:=(nav B21 [])) rfl Tryd.func21 rfl rfl rfl rfl]
  exact f21_e_ok k a b r d
-- f11: f11 heliograph/cbor.Same
inductive R11 where
 | o0 (y:Bool)
noncomputable def R11.st:R11→V×List O×List O
 | .o0 y=>(.p (.bool y),[],[])
inductive R23_rrf11 where
 | o0 (y:Bool)
noncomputable def R23_rrf11.st:R23_rrf11→V×List O×List O
 | .o0 y=>(.p (.bool y),[],[])
inductive R23_rrf11_l2 where
 | o0 (y:Bool)
 | o1 (y a:List T28) (b c:Int)
 | o2 (y a:List T28) (b c:Int) (d:Bool)
noncomputable def R23_rrf11_l2.st:R23_rrf11_l2→Out×St
 | .o0 y=>(.ret,(⟨32,[(6,.p (.bool y))],[]⟩:St))
 | .o1 y a b c=>(.norm,(⟨32,[(1,.sl 4 (rowsOf encT28 y)),(2,V.p (Value.func (Fn.func 11) #[] #[])),(15,.sl 4 (rowsOf encT28 a)),(16,jI b),(17,jI c)],[]⟩:St))
 | .o2 y a b c d=>(.exit 0,(⟨32,[(1,.sl 4 (rowsOf encT28 y)),(2,V.p (Value.func (Fn.func 11) #[] #[])),(15,.sl 4 (rowsOf encT28 a)),(16,jI b),(17,jI c),(18,.p (.bool d))],[]⟩:St))
noncomputable def f23_rrf11_l2_j2 (k:Nat) (q_f11_aiirrzaiirrz:Int→Int→(List Int)→(List T28)→Int→Int→(List Int)→(List T28)→Option R11) (q_f23_rrf11:(List T28)→(List T28)→Option R23_rrf11) (d a:List T28) (b c:Int) (e:Bool):Option R23_rrf11_l2 :=
 some (R23_rrf11_l2.o1 d a b (IntKind.i64.wrap (c+(1:Int))))
theorem f23_rrf11_l2_j2_ok (k:Nat) (q_f11_aiirrzaiirrz:Int→Int→(List Int)→(List T28)→Int→Int→(List Int)→(List T28)→Option R11) (q_f23_rrf11:(List T28)→(List T28)→Option R23_rrf11) (hq_f11_aiirrzaiirrz:∀ (g a:Int) (b:List Int) (c:List T28) (h d:Int) (e:List Int) (f:List T28) (r:R11),q_f11_aiirrzaiirrz g a b c h d e f=some r→CV k 11 [.agg [jI g,.p (.int .u64 a),.sl 1 (rowsOf (encI .u8) b),.sl 4 (rowsOf encT28 c)],.agg [jI h,.p (.int .u64 d),.sl 1 (rowsOf (encI .u8) e),.sl 4 (rowsOf encT28 f)]] []=some r.st) (hq_f23_rrf11:∀ (g h:List T28) (r:R23_rrf11),q_f23_rrf11 g h=some r→CV k 23 [.sl 4 (rowsOf encT28 g),.sl 4 (rowsOf encT28 h),V.p (Value.func (Fn.func 11) #[] #[])] []=some r.st) (o i:List T28) (j l:Int) (m:Bool) (r:R23_rrf11_l2) (p:f23_rrf11_l2_j2 k q_f11_aiirrzaiirrz q_f23_rrf11 o i j l m=some r):EX 23 k (nav B23 [2,2,2,1,2,2,1,2,2]) (⟨32,[(1,.sl 4 (rowsOf encT28 o)),(2,V.p (Value.func (Fn.func 11) #[] #[])),(15,.sl 4 (rowsOf encT28 i)),(16,jI j),(17,jI l),(30,.p (.bool m))],[]⟩:St)=some r.st:=by
 unfold f23_rrf11_l2_j2 at p
 cases p
 simp (disch:=first|apply D;decide|apply K;kernel_rfl) only [E,EE,↓reduceIte,simprocAttr,rg B23 [2,2,2,1,2,2,1,2,2] 9 false rfl,hr 23 9 rfl,R23_rrf11_l2.st]
noncomputable def f23_rrf11_l2_j1 (k:Nat) (q_f11_aiirrzaiirrz:Int→Int→(List Int)→(List T28)→Int→Int→(List Int)→(List T28)→Option R11) (q_f23_rrf11:(List T28)→(List T28)→Option R23_rrf11) (f b:List T28) (e a:Int) (g:Bool):Option R23_rrf11_l2 :=
 ifE ((0:Int)≤a) (
  Option.bind (b[(Int.toNat a)]?) fun c =>
   Option.bind (f[(Int.toNat a)]?) fun d =>
    Option.bind (q_f11_aiirrzaiirrz c.Kind c.Num c.Bytes c.Items d.Kind d.Num d.Bytes d.Items) fun o6 =>
     match o6 with
     | .o0 h =>
      cond ((!h))
       (some (R23_rrf11_l2.o0 false))
       (f23_rrf11_l2_j2 k q_f11_aiirrzaiirrz q_f23_rrf11 f b e a false))
theorem f23_rrf11_l2_j1_ok (k:Nat) (q_f11_aiirrzaiirrz:Int→Int→(List Int)→(List T28)→Int→Int→(List Int)→(List T28)→Option R11) (q_f23_rrf11:(List T28)→(List T28)→Option R23_rrf11) (hq_f11_aiirrzaiirrz:∀ (o c:Int) (d:List Int) (e:List T28) (p f:Int) (g:List Int) (h:List T28) (r:R11),q_f11_aiirrzaiirrz o c d e p f g h=some r→CV k 11 [.agg [jI o,.p (.int .u64 c),.sl 1 (rowsOf (encI .u8) d),.sl 4 (rowsOf encT28 e)],.agg [jI p,.p (.int .u64 f),.sl 1 (rowsOf (encI .u8) g),.sl 4 (rowsOf encT28 h)]] []=some r.st) (hq_f23_rrf11:∀ (o p:List T28) (r:R23_rrf11),q_f23_rrf11 o p=some r→CV k 23 [.sl 4 (rowsOf encT28 o),.sl 4 (rowsOf encT28 p),V.p (Value.func (Fn.func 11) #[] #[])] []=some r.st) (u i:List T28) (j l:Int) (q:Bool) (r:R23_rrf11_l2) (a:f23_rrf11_l2_j1 k q_f11_aiirrzaiirrz q_f23_rrf11 u i j l q=some r):EX 23 k (nav B23 [2,2,1,2,2,1,2,2]) (⟨32,[(1,.sl 4 (rowsOf encT28 u)),(2,V.p (Value.func (Fn.func 11) #[] #[])),(15,.sl 4 (rowsOf encT28 i)),(16,jI j),(17,jI l),(18,.p (.bool q))],[]⟩:St)=some r.st:=by
 unfold f23_rrf11_l2_j1 at a
 obtain ⟨v,a⟩:=ifE_some.1 a
 obtain ⟨s,w,a⟩:=bs a
 obtain ⟨t,x,a⟩:=bs a
 obtain ⟨o6,y,a⟩:=bs a
 have b:=hq_f11_aiirrzaiirrz s.Kind s.Num s.Bytes s.Items t.Kind t.Num t.Bytes t.Items _ y
 cases o6 with
 | o0 z =>
  (try dsimp only at a)
  (try simp only [NM,EE,R11.st] at b)
  simp (disch:=first|apply D;decide|apply K;kernel_rfl) only [E,EE,↓reduceIte,simprocAttr,xk B23 [2,2,1,2,2,1,2,2] .sq rfl,xk B23 [1,2,2,1,2,2,1,2,2] (.bk 1) rfl,xk B23 [2,1,2,2,1,2,2,1,2,2] .sq rfl,rg B23 [1,2,1,2,2,1,2,2,1,2,2] 5 false rfl,hr 23 5 rfl,indexAddrV,t_26,t_28,encT28_eq,xk B23 [2,2,1,2,2,1,2,2,1,2,2] .sq rfl,rg B23 [1,2,2,1,2,2,1,2,2,1,2,2] 6 false rfl,hr 23 6 rfl,xk B23 [2,2,2,1,2,2,1,2,2,1,2,2] .sq rfl,rg B23 [1,2,2,2,1,2,2,1,2,2,1,2,2] 7 false rfl,hr 23 7 rfl,callStep,CL,gv,List.contains,xk B23 [2,2,2,2,1,2,2,1,2,2,1,2,2] (.cd 30) rfl,v,w,x,b]
  rcases cond_some a with ⟨m,a⟩ | ⟨m,a⟩
  ·cases a
   simp (disch:=first|apply D;decide|apply K;kernel_rfl) only [E,EE,↓reduceIte,simprocAttr,xk B23 [2,2,2,2,2,1,2,2,1,2,2,1,2,2] .sq rfl,rg B23 [1,2,2,2,2,2,1,2,2,1,2,2,1,2,2] 8 false rfl,hr 23 8 rfl,xk B23 [2,2,2,2,2,2,1,2,2,1,2,2,1,2,2] .rt rfl,R23_rrf11_l2.st,v,w,x,b,m]
  ·have hJ:=f23_rrf11_l2_j2_ok k q_f11_aiirrzaiirrz q_f23_rrf11 hq_f11_aiirrzaiirrz hq_f23_rrf11 u i j l false _ a
   simp (disch:=first|apply D;decide|apply K;kernel_rfl) only [E,EE,↓reduceIte,simprocAttr,xk B23 [3,2,2,2,2,1,2,2,1,2,2,1,2,2] .sk rfl,v,w,x,b,m]
   try simp only [NM,EE] at hJ
   exact hJ
noncomputable def f23_rrf11_l2_b (k:Nat) (q_f11_aiirrzaiirrz:Int→Int→(List Int)→(List T28)→Int→Int→(List Int)→(List T28)→Option R11) (q_f23_rrf11:(List T28)→(List T28)→Option R23_rrf11) (d c:List T28) (a b:Int):Option R23_rrf11_l2 :=
 cond ((decide (b<a)))
  (f23_rrf11_l2_j1 k q_f11_aiirrzaiirrz q_f23_rrf11 d c a b true)
  (some (R23_rrf11_l2.o2 d c a b false))
theorem f23_rrf11_l2_b_ok (k:Nat) (q_f11_aiirrzaiirrz:Int→Int→(List Int)→(List T28)→Int→Int→(List Int)→(List T28)→Option R11) (q_f23_rrf11:(List T28)→(List T28)→Option R23_rrf11) (hq_f11_aiirrzaiirrz:∀ (l a:Int) (b:List Int) (c:List T28) (m d:Int) (e:List Int) (f:List T28) (r:R11),q_f11_aiirrzaiirrz l a b c m d e f=some r→CV k 11 [.agg [jI l,.p (.int .u64 a),.sl 1 (rowsOf (encI .u8) b),.sl 4 (rowsOf encT28 c)],.agg [jI m,.p (.int .u64 d),.sl 1 (rowsOf (encI .u8) e),.sl 4 (rowsOf encT28 f)]] []=some r.st) (hq_f23_rrf11:∀ (l m:List T28) (r:R23_rrf11),q_f23_rrf11 l m=some r→CV k 23 [.sl 4 (rowsOf encT28 l),.sl 4 (rowsOf encT28 m),V.p (Value.func (Fn.func 11) #[] #[])] []=some r.st) (o g:List T28) (h i:Int) (r:R23_rrf11_l2) (j:f23_rrf11_l2_b k q_f11_aiirrzaiirrz q_f23_rrf11 o g h i=some r):EX 23 k (nav B23 [1,2,2,1,2,2]) (⟨32,[(1,.sl 4 (rowsOf encT28 o)),(2,V.p (Value.func (Fn.func 11) #[] #[])),(15,.sl 4 (rowsOf encT28 g)),(16,jI h),(17,jI i)],[]⟩:St)=some r.st:=by
 unfold f23_rrf11_l2_b at j
 simp (disch:=first|apply D;decide|apply K;kernel_rfl) only [E,EE,↓reduceIte,simprocAttr,xk B23 [1,2,2,1,2,2] .sq rfl,rg B23 [1,1,2,2,1,2,2] 4 false rfl,hr 23 4 rfl,xk B23 [2,1,2,2,1,2,2] .sq rfl,xk B23 [1,2,1,2,2,1,2,2] (.cd 18) rfl]
 rcases cond_some j with ⟨p,j⟩ | ⟨p,j⟩
 ·have hJ:=f23_rrf11_l2_j1_ok k q_f11_aiirrzaiirrz q_f23_rrf11 hq_f11_aiirrzaiirrz hq_f23_rrf11 o g h i true _ j
  simp (disch:=first|apply D;decide|apply K;kernel_rfl) only [E,EE,↓reduceIte,simprocAttr,xk B23 [2,1,2,1,2,2,1,2,2] .sk rfl,p]
  try simp only [NM,EE] at hJ
  exact hJ
 ·cases j
  simp (disch:=first|apply D;decide|apply K;kernel_rfl) only [E,EE,↓reduceIte,simprocAttr,xk B23 [3,1,2,1,2,2,1,2,2] (.ex 0) rfl,R23_rrf11_l2.st,p]
noncomputable def f23_rrf11_l2 (k:Nat) (q_f11_aiirrzaiirrz:Int→Int→(List Int)→(List T28)→Int→Int→(List Int)→(List T28)→Option R11) (q_f23_rrf11:(List T28)→(List T28)→Option R23_rrf11):Nat→(List T28)→(List T28)→Int→Int→Option R23_rrf11_l2
 | 0,_,_,_,_=>none
 | n+1,h,d,e,f=>Option.bind (f23_rrf11_l2_b k q_f11_aiirrzaiirrz q_f23_rrf11 h d e f) fun o =>
  match o with
  | .o0 y=>some (.o0 y)
  | .o1 y a b c=>f23_rrf11_l2 k q_f11_aiirrzaiirrz q_f23_rrf11 n y a b c
  | .o2 y a b c g=>some (.o2 y a b c g)
theorem f23_rrf11_l2_ok (k:Nat) (q_f11_aiirrzaiirrz:Int→Int→(List Int)→(List T28)→Int→Int→(List Int)→(List T28)→Option R11) (q_f23_rrf11:(List T28)→(List T28)→Option R23_rrf11) (hq_f11_aiirrzaiirrz:∀ (m e:Int) (f:List Int) (g:List T28) (p i:Int) (j:List Int) (l:List T28) (r:R11),q_f11_aiirrzaiirrz m e f g p i j l=some r→CV k 11 [.agg [jI m,.p (.int .u64 e),.sl 1 (rowsOf (encI .u8) f),.sl 4 (rowsOf encT28 g)],.agg [jI p,.p (.int .u64 i),.sl 1 (rowsOf (encI .u8) j),.sl 4 (rowsOf encT28 l)]] []=some r.st) (hq_f23_rrf11:∀ (m p:List T28) (r:R23_rrf11),q_f23_rrf11 m p=some r→CV k 23 [.sl 4 (rowsOf encT28 m),.sl 4 (rowsOf encT28 p),V.p (Value.func (Fn.func 11) #[] #[])] []=some r.st) (n:Nat):∀ (q a:List T28) (b c:Int) (r:R23_rrf11_l2) (d:f23_rrf11_l2 k q_f11_aiirrzaiirrz q_f23_rrf11 n q a b c=some r) (σ:St) (hσ:headR (hints.head 23 4) (hints.canon 23 4) σ=some (⟨32,[(1,.sl 4 (rowsOf encT28 q)),(2,V.p (Value.func (Fn.func 11) #[] #[])),(15,.sl 4 (rowsOf encT28 a)),(16,jI b),(17,jI c)],[]⟩:St)),LP 23 k (nav B23 [1,2,2,1,2,2]) n σ=some r.st:=by
 induction n with
 | zero=>intro q a b c r d;cases d
 | succ n v =>
  intro q a b c r d σ hσ
  rw [f23_rrf11_l2] at d
  obtain ⟨o,h,d⟩:=Option.bind_eq_some_iff.1 d
  have hB:=f23_rrf11_l2_b_ok k q_f11_aiirrzaiirrz q_f23_rrf11 hq_f11_aiirrzaiirrz hq_f23_rrf11 q a b c o h
  unfold LP at v ⊢
  unfold EX at hB
  rw [loopK_succ,show firstReg (nav B23 [1,2,2,1,2,2])=4 from rfl,hσ,headK_some,hB]
  cases o with
  | o0 y=>cases d;rfl
  | o1 y s t u =>
   refine v y s t u r d _ ?_
   simp (disch:=first|apply D;decide|apply K;kernel_rfl) only [E,EE,↓reduceIte,simprocAttr,hh_23_4,hc_23_4]
  | o2 y s t u w=>cases d;rfl
noncomputable def f23_rrf11_j3 (k:Nat) (q_f11_aiirrzaiirrz:Int→Int→(List Int)→(List T28)→Int→Int→(List Int)→(List T28)→Option R11) (q_f23_rrf11:(List T28)→(List T28)→Option R23_rrf11) (e a:List T28) (b c:Int) (d:Bool):Option R23_rrf11 :=
 some (R23_rrf11.o0 true)
theorem f23_rrf11_j3_ok (k:Nat) (q_f11_aiirrzaiirrz:Int→Int→(List Int)→(List T28)→Int→Int→(List Int)→(List T28)→Option R11) (q_f23_rrf11:(List T28)→(List T28)→Option R23_rrf11) (hq_f11_aiirrzaiirrz:∀ (g a:Int) (b:List Int) (c:List T28) (h d:Int) (e:List Int) (f:List T28) (r:R11),q_f11_aiirrzaiirrz g a b c h d e f=some r→CV k 11 [.agg [jI g,.p (.int .u64 a),.sl 1 (rowsOf (encI .u8) b),.sl 4 (rowsOf encT28 c)],.agg [jI h,.p (.int .u64 d),.sl 1 (rowsOf (encI .u8) e),.sl 4 (rowsOf encT28 f)]] []=some r.st) (hq_f23_rrf11:∀ (g h:List T28) (r:R23_rrf11),q_f23_rrf11 g h=some r→CV k 23 [.sl 4 (rowsOf encT28 g),.sl 4 (rowsOf encT28 h),V.p (Value.func (Fn.func 11) #[] #[])] []=some r.st) (o i:List T28) (j l:Int) (m:Bool) (r:R23_rrf11) (p:f23_rrf11_j3 k q_f11_aiirrzaiirrz q_f23_rrf11 o i j l m=some r):finK Tryd.prog Tryd.f23 0 (EX 23 k (nav B23 [2,2,2]) (⟨32,[(1,.sl 4 (rowsOf encT28 o)),(2,V.p (Value.func (Fn.func 11) #[] #[])),(15,.sl 4 (rowsOf encT28 i)),(16,jI j),(17,jI l),(18,.p (.bool m))],[]⟩:St))=some r.st:=by
 unfold f23_rrf11_j3 at p
 cases p
 simp (disch:=first|apply D;decide|apply K;kernel_rfl) only [E,EE,↓reduceIte,simprocAttr,xk B23 [2,2,2] .sq rfl,rg B23 [1,2,2,2] 10 false rfl,hr 23 10 rfl,xk B23 [2,2,2,2] .rt rfl,fin23,R23_rrf11.st]
noncomputable def f23_rrf11_j1 (k:Nat) (q_f11_aiirrzaiirrz:Int→Int→(List Int)→(List T28)→Int→Int→(List Int)→(List T28)→Option R11) (q_f23_rrf11:(List T28)→(List T28)→Option R23_rrf11) (a b:List T28) (c:Bool):Option R23_rrf11 :=
 Option.bind (f23_rrf11_l2 k q_f11_aiirrzaiirrz q_f23_rrf11 k b a ((List.length a):Int) 0) fun o1 =>
  match o1 with
  | .o0 d =>
   some (R23_rrf11.o0 d)
  | .o1 _ _ _ _ =>
   none
  | .o2 e f g h i =>
   f23_rrf11_j3 k q_f11_aiirrzaiirrz q_f23_rrf11 e f g h i
theorem f23_rrf11_j1_ok (k:Nat) (q_f11_aiirrzaiirrz:Int→Int→(List Int)→(List T28)→Int→Int→(List Int)→(List T28)→Option R11) (q_f23_rrf11:(List T28)→(List T28)→Option R23_rrf11) (hq_f11_aiirrzaiirrz:∀ (i b:Int) (c:List Int) (d:List T28) (j e:Int) (f:List Int) (g:List T28) (r:R11),q_f11_aiirrzaiirrz i b c d j e f g=some r→CV k 11 [.agg [jI i,.p (.int .u64 b),.sl 1 (rowsOf (encI .u8) c),.sl 4 (rowsOf encT28 d)],.agg [jI j,.p (.int .u64 e),.sl 1 (rowsOf (encI .u8) f),.sl 4 (rowsOf encT28 g)]] []=some r.st) (hq_f23_rrf11:∀ (i j:List T28) (r:R23_rrf11),q_f23_rrf11 i j=some r→CV k 23 [.sl 4 (rowsOf encT28 i),.sl 4 (rowsOf encT28 j),V.p (Value.func (Fn.func 11) #[] #[])] []=some r.st) (m o:List T28) (l:Bool) (r:R23_rrf11) (a:f23_rrf11_j1 k q_f11_aiirrzaiirrz q_f23_rrf11 m o l=some r):finK Tryd.prog Tryd.f23 0 (EX 23 k (nav B23 [2,2]) (⟨32,[(0,.sl 4 (rowsOf encT28 m)),(1,.sl 4 (rowsOf encT28 o)),(2,V.p (Value.func (Fn.func 11) #[] #[])),(14,.p (.bool l))],[]⟩:St))=some r.st:=by
 unfold f23_rrf11_j1 at a
 obtain ⟨o1,p,a⟩:=bs a
 have h:=f23_rrf11_l2_ok k q_f11_aiirrzaiirrz q_f23_rrf11 hq_f11_aiirrzaiirrz hq_f23_rrf11 k o m ((List.length m):Int) 0 _ p
 simp (disch:=first|apply D;decide|apply K;kernel_rfl) only [E,EE,↓reduceIte,simprocAttr,xk B23 [2,2] .sq rfl,xk B23 [1,2,2] .sq rfl,rg B23 [1,1,2,2] 3 false rfl,hr 23 3 rfl,t_26,xk B23 [2,1,2,2] (.bk 0) rfl,xk B23 [2,2,1,2,2] .lp rfl,hh_23_4,hc_23_4]
 (try simp only [NM,EE] at h)
 rw [h _ (by simp (disch:=first|apply D;decide|apply K;kernel_rfl) only [E,EE,↓reduceIte,simprocAttr,hh_23_4,hc_23_4])]
 clear h
 cases o1 with
 | o0 w =>
  (try dsimp only at a)
  cases a
  simp (disch:=first|apply D;decide|apply K;kernel_rfl) only [E,EE,↓reduceIte,simprocAttr,R23_rrf11_l2.st,fin23,R23_rrf11.st]
 | o1 _ _ _ _ =>
  (try dsimp only at a)
  cases a
 | o2 q s t u v =>
  (try dsimp only at a)
  have hJ:=f23_rrf11_j3_ok k q_f11_aiirrzaiirrz q_f23_rrf11 hq_f11_aiirrzaiirrz hq_f23_rrf11 q s t u v _ a
  simp (disch:=first|apply D;decide|apply K;kernel_rfl) only [E,EE,↓reduceIte,simprocAttr,R23_rrf11_l2.st]
  try simp only [NM,EE] at hJ
  exact hJ
noncomputable def f23_rrf11_e (k:Nat) (q_f11_aiirrzaiirrz:Int→Int→(List Int)→(List T28)→Int→Int→(List Int)→(List T28)→Option R11) (q_f23_rrf11:(List T28)→(List T28)→Option R23_rrf11) (a b:List T28):Option R23_rrf11 :=
 cond ((((List.length a):Int) != ((List.length b):Int)))
  (some (R23_rrf11.o0 false))
  (f23_rrf11_j1 k q_f11_aiirrzaiirrz q_f23_rrf11 a b false)
theorem f23_rrf11_e_ok (k:Nat) (q_f11_aiirrzaiirrz:Int→Int→(List Int)→(List T28)→Int→Int→(List Int)→(List T28)→Option R11) (q_f23_rrf11:(List T28)→(List T28)→Option R23_rrf11) (hq_f11_aiirrzaiirrz:∀ (a c:Int) (d:List Int) (e:List T28) (b f:Int) (g:List Int) (h:List T28) (r:R11),q_f11_aiirrzaiirrz a c d e b f g h=some r→CV k 11 [.agg [jI a,.p (.int .u64 c),.sl 1 (rowsOf (encI .u8) d),.sl 4 (rowsOf encT28 e)],.agg [jI b,.p (.int .u64 f),.sl 1 (rowsOf (encI .u8) g),.sl 4 (rowsOf encT28 h)]] []=some r.st) (hq_f23_rrf11:∀ (a b:List T28) (r:R23_rrf11),q_f23_rrf11 a b=some r→CV k 23 [.sl 4 (rowsOf encT28 a),.sl 4 (rowsOf encT28 b),V.p (Value.func (Fn.func 11) #[] #[])] []=some r.st) (a b:List T28) (r:R23_rrf11) (i:f23_rrf11_e k q_f11_aiirrzaiirrz q_f23_rrf11 a b=some r):finK Tryd.prog Tryd.f23 0 (EX 23 k (nav B23 []) (⟨32,[(0,.sl 4 (rowsOf encT28 a)),(1,.sl 4 (rowsOf encT28 b)),(2,V.p (Value.func (Fn.func 11) #[] #[]))],[]⟩:St))=some r.st:=by
 unfold f23_rrf11_e at i
 simp (disch:=first|apply D;decide|apply K;kernel_rfl) only [E,EE,↓reduceIte,simprocAttr,xk B23 [] .sq rfl,rg B23 [1] 0 false rfl,hr 23 0 rfl,xk B23 [2] .sq rfl,xk B23 [1,2] .sq rfl,rg B23 [1,1,2] 1 false rfl,hr 23 1 rfl,t_26,xk B23 [2,1,2] (.cd 14) rfl]
 rcases cond_some i with ⟨j,i⟩ | ⟨j,i⟩
 ·cases i
  simp (disch:=first|apply D;decide|apply K;kernel_rfl) only [E,EE,↓reduceIte,simprocAttr,xk B23 [2,2,1,2] .sq rfl,rg B23 [1,2,2,1,2] 2 false rfl,hr 23 2 rfl,xk B23 [2,2,2,1,2] .rt rfl,fin23,R23_rrf11.st,j]
 ·have hJ:=f23_rrf11_j1_ok k q_f11_aiirrzaiirrz q_f23_rrf11 hq_f11_aiirrzaiirrz hq_f23_rrf11 a b false _ i
  simp (disch:=first|apply D;decide|apply K;kernel_rfl) only [E,EE,↓reduceIte,simprocAttr,xk B23 [3,2,1,2] .sk rfl,j]
  try simp only [NM,EE] at hJ
  exact hJ
noncomputable def f11_e (k:Nat) (q_f11_aiirrzaiirrz:Int→Int→(List Int)→(List T28)→Int→Int→(List Int)→(List T28)→Option R11) (q_f23_rrf11:(List T28)→(List T28)→Option R23_rrf11) (h a:Int) (b:List Int) (c:List T28) (i d:Int) (e:List Int) (f:List T28):Option R11 :=
 cond ((h==i))
  (
   cond ((a==d))
    (
     Option.bind (f21 k b e) fun o3 =>
      match o3 with
      | .o0 j =>
       cond (j)
        (
         Option.bind (q_f23_rrf11 c f) fun o8 =>
          match o8 with
          | .o0 g =>
           some (.o0 g))
        (some (.o0 false)))
    (some (.o0 false)))
  (some (.o0 false))
theorem f11_e_ok (k:Nat) (q_f11_aiirrzaiirrz:Int→Int→(List Int)→(List T28)→Int→Int→(List Int)→(List T28)→Option R11) (q_f23_rrf11:(List T28)→(List T28)→Option R23_rrf11) (hq_f11_aiirrzaiirrz:∀ (i f:Int) (a:List Int) (b:List T28) (j g:Int) (c:List Int) (d:List T28) (r:R11),q_f11_aiirrzaiirrz i f a b j g c d=some r→CV k 11 [.agg [jI i,.p (.int .u64 f),.sl 1 (rowsOf (encI .u8) a),.sl 4 (rowsOf encT28 b)],.agg [jI j,.p (.int .u64 g),.sl 1 (rowsOf (encI .u8) c),.sl 4 (rowsOf encT28 d)]] []=some r.st) (hq_f23_rrf11:∀ (i j:List T28) (r:R23_rrf11),q_f23_rrf11 i j=some r→CV k 23 [.sl 4 (rowsOf encT28 i),.sl 4 (rowsOf encT28 j),V.p (Value.func (Fn.func 11) #[] #[])] []=some r.st) (i f:Int) (a:List Int) (b:List T28) (j g:Int) (c:List Int) (d:List T28) (r:R11) (e:f11_e k q_f11_aiirrzaiirrz q_f23_rrf11 i f a b j g c d=some r):finK Tryd.prog Tryd.f11 0 (EX 11 k (nav B11 []) (⟨31,[(0,.agg [jI i,.p (.int .u64 f),.sl 1 (rowsOf (encI .u8) a),.sl 4 (rowsOf encT28 b)]),(1,.agg [jI j,.p (.int .u64 g),.sl 1 (rowsOf (encI .u8) c),.sl 4 (rowsOf encT28 d)])],[]⟩:St))=some r.st:=by
 unfold f11_e at e
 simp (disch:=first|apply D;decide|apply K;kernel_rfl) only [E,EE,↓reduceIte,simprocAttr,xk B11 [] .sq rfl,rg B11 [1] 0 false rfl,hr 11 0 rfl,xk B11 [2] .sq rfl,rg B11 [1,2] 1 false rfl,hr 11 1 rfl,fieldAddrV,t_28,t_3]
 rcases cond_some e with ⟨m,e⟩ | ⟨m,e⟩
 ·simp (disch:=first|apply D;decide|apply K;kernel_rfl) only [E,EE,↓reduceIte,simprocAttr,fieldAddrV,t_28,t_24,m]
  rcases cond_some e with ⟨o,e⟩ | ⟨o,e⟩
  ·obtain ⟨o3,q,e⟩:=bs e
   have h:=f21_ok k a c _ q
   cases o3 with
   | o0 u =>
    (try dsimp only at e)
    (try simp only [NM,EE,R21.st] at h)
    simp (disch:=first|apply D;decide|apply K;kernel_rfl) only [E,EE,↓reduceIte,simprocAttr,fieldAddrV,t_28,t_25,callStep,CL,gv,List.contains,m,o,h]
    rcases cond_some e with ⟨p,e⟩ | ⟨p,e⟩
    ·obtain ⟨o8,s,e⟩:=bs e
     have l:=hq_f23_rrf11 b d _ s
     cases o8 with
     | o0 t =>
      (try dsimp only at e)
      (try simp only [NM,EE,R23_rrf11.st] at l)
      cases e
      simp (disch:=first|apply D;decide|apply K;kernel_rfl) only [E,EE,↓reduceIte,simprocAttr,fieldAddrV,t_28,t_26,callStep,CL,gv,List.contains,xk B11 [2,2] .rt rfl,fin11,R11.st,m,o,h,p,l]
    ·cases e
     simp (disch:=first|apply D;decide|apply K;kernel_rfl) only [E,EE,↓reduceIte,simprocAttr,xk B11 [2,2] .rt rfl,fin11,R11.st,m,o,h,p]
  ·cases e
   simp (disch:=first|apply D;decide|apply K;kernel_rfl) only [E,EE,↓reduceIte,simprocAttr,xk B11 [2,2] .rt rfl,fin11,R11.st,m,o]
 ·cases e
  simp (disch:=first|apply D;decide|apply K;kernel_rfl) only [E,EE,↓reduceIte,simprocAttr,xk B11 [2,2] .rt rfl,fin11,R11.st,m]
mutual
noncomputable def f11:Nat→Int→Int→(List Int)→(List T28)→Int→Int→(List Int)→(List T28)→Option R11
 | 0,_,_,_,_,_,_,_,_=>none
 | k+1,g,a,b,c,h,d,e,f=>f11_e k (f11 k) (f23_rrf11 k) g a b c h d e f
noncomputable def f23_rrf11:Nat→(List T28)→(List T28)→Option R23_rrf11
 | 0,_,_=>none
 | k+1,a,b=>f23_rrf11_e k (f11 k) (f23_rrf11 k) a b
end
theorem f11_all (k:Nat):(∀ (h a:Int) (b:List Int) (d:List T28) (i e:Int) (f:List Int) (g:List T28) (r:R11),f11 k h a b d i e f g=some r→CV k 11 [.agg [jI h,.p (.int .u64 a),.sl 1 (rowsOf (encI .u8) b),.sl 4 (rowsOf encT28 d)],.agg [jI i,.p (.int .u64 e),.sl 1 (rowsOf (encI .u8) f),.sl 4 (rowsOf encT28 g)]] []=some r.st)∧(∀ (h i:List T28) (r:R23_rrf11),f23_rrf11 k h i=some r→CV k 23 [.sl 4 (rowsOf encT28 h),.sl 4 (rowsOf encT28 i),V.p (Value.func (Fn.func 11) #[] #[])] []=some r.st):=by
 induction k with
 | zero=>exact ⟨(by intro h a b d i e f g r j;rw [f11] at j;cases j),(by intro h i r j;rw [f23_rrf11] at j;cases j)⟩
 | succ k l =>
  obtain ⟨ih_f11_aiirrzaiirrz,ih_f23_rrf11⟩:=l
  exact ⟨(by intro h a b d i e f g r j;rw [f11] at j;unfold CV;rw [ev_call (F:=Tryd.f11) (c:=(nav B11 [])) rfl Tryd.func11 rfl rfl rfl rfl];exact f11_e_ok k (f11 k) (f23_rrf11 k) ih_f11_aiirrzaiirrz ih_f23_rrf11 h a b d i e f g r j),(by intro h i r j;rw [f23_rrf11] at j;unfold CV;rw [ev_call (F:=Tryd.f23) (c:=(nav B23 [])) rfl Tryd.func23 rfl rfl rfl rfl];exact f23_rrf11_e_ok k (f11 k) (f23_rrf11 k) ih_f11_aiirrzaiirrz ih_f23_rrf11 h i r j)⟩
theorem f11_ok (k g a b c h d e f r) (i:f11 k g a b c h d e f=some r):CV k 11 [.agg [jI g,.p (.int .u64 a),.sl 1 (rowsOf (encI .u8) b),.sl 4 (rowsOf encT28 c)],.agg [jI h,.p (.int .u64 d),.sl 1 (rowsOf (encI .u8) e),.sl 4 (rowsOf encT28 f)]] []=some r.st:=(f11_all k).1 g a b c h d e f r i
theorem f23_rrf11_ok (k a b r) (c:f23_rrf11 k a b=some r):CV k 23 [.sl 4 (rowsOf encT28 a),.sl 4 (rowsOf encT28 b),V.p (Value.func (Fn.func 11) #[] #[])] []=some r.st:=(f11_all k).2 a b r c
end Go.Proofs.YtlelaenalbkbmaaDoorV