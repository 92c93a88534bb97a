/- What the program's functions answer: plain functions,and that the interpreter answers what they do. Written by a program of this session,out of the translation. -/
import Derived.Test.YtbnnmplkbpgcaaaDoorVP8
namespace Go.Proofs.YtbnnmplkbpgcaaaDoorV
open Go
set_option linter.unusedVariables false
set_option linter.unusedSimpArgs false
set_option maxRecDepth 8000
set_option maxHeartbeats 4000000
-- f46: f46 (*heliograph/octet.Reader).Left
inductive R46 where
 | o0 (y:Int) (a:List Int) (b c:Int)
noncomputable def R46.st:R46→V×List O×List O
 | .o0 y a b c=>((jI y),[.box 91 [.sl 1 (rowsOf (encI .u8) a),jI b,jI c]],[])
noncomputable def f46_j1 (k:Nat) (d:Bool) (c:List Int) (a b:Int):Option R46 :=
 some (.o0 (IntKind.i64.wrap (((List.length c):Int) - a)) c a b)
theorem f46_j1_ok (k c d a b r) (e:f46_j1 k c d a b=some r):finK Tryd.prog Tryd.f46 1 (EX 46 k (nav B46 [2,2]) (⟨17,[(0,.ptr 1000000 0),(4,.p (.bool c))],[(1000000,.box 91 [.sl 1 (rowsOf (encI .u8) d),jI a,jI b])]⟩:St))=some r.st:=by
 unfold f46_j1 at e
 cases e
 simp (disch:=first|apply D;decide|apply K;kernel_rfl) only [E,EE,↓reduceIte,simprocAttr,xk B46 [2,2] .sq rfl,rg B46 [1,2,2] 3 true rfl,hr 46 3 rfl,fieldAddrV,t_91,t_89,t_22,t_3,xk B46 [2,2,2] .rt rfl,fin46,R46.st]
noncomputable def f46_e (k:Nat) (c:List Int) (a b:Int):Option R46 :=
 f46_j1 k false c a b
theorem f46_e_ok (k c a b r) (d:f46_e k c a b=some r):finK Tryd.prog Tryd.f46 1 (EX 46 k (nav B46 []) (⟨17,[(0,.ptr 1000000 0)],[(1000000,.box 91 [.sl 1 (rowsOf (encI .u8) c),jI a,jI b])]⟩:St))=some r.st:=by
 unfold f46_e at d
 have hJ:=f46_j1_ok k false c a b _ d
 simp (disch:=first|apply D;decide|apply K;kernel_rfl) only [E,EE,↓reduceIte,simprocAttr,xk B46 [] .sq rfl,rg B46 [1] 0 false rfl,hr 46 0 rfl,xk B46 [2] .sq rfl,xk B46 [1,2] .sq rfl,rg B46 [1,1,2] 1 false rfl,hr 46 1 rfl,t_69,isRef,isNilP,xk B46 [2,1,2] (.cd 4) rfl,xk B46 [3,2,1,2] .sk rfl]
 try simp only [NM,EE] at hJ
 exact hJ
noncomputable def f46 (k:Nat) (c:List Int) (a b:Int):Option R46:=match k with | 0=>none | k+1=>f46_e k c a b
theorem f46_ok (k d a b r) (e:f46 k d a b=some r):CV k 46 [.ptr 1000000 0] [.box 91 [.sl 1 (rowsOf (encI .u8) d),jI a,jI b]]=some r.st:=by
 cases k with
 | zero=>cases e
 | succ k =>
  unfold CV
  rw [ev_call (F:=Tryd.f46) (c:=(nav B46 [])) rfl Tryd.func46 rfl rfl rfl rfl]
  exact f46_e_ok k d a b r e
-- f26: f26 heliograph/cbor.Decode
inductive R26 where
 | o0 (y a:Int) (b:List Int) (c:List T50) (d e:Int)
noncomputable def R26.st:R26→V×List O×List O
 | .o0 y a b c d e=>(V.tup [.agg [jI y,.p (.int .u64 a),.sl 1 (rowsOf (encI .u8) b),.sl 4 (rowsOf encT50 c)],jI d,jI e],[],[])
noncomputable def f26_j1 (k:Nat) (i:List Int) (p:Int) (j:Bool) (q f:Int) (g:List Int) (h:List T50) (l:List Int) (a b m c:Int) (d:List Int) (e:List T50):Option R26 :=
 Option.bind (f46 k l a b) fun o1 =>
  match o1 with
  | .o0 o s t u =>
   some (.o0 m c d e (IntKind.i64.wrap (((List.length i):Int) - o)) 0)
theorem f26_j1_ok (k o p i q c d e m a b s f g h r) (j:f26_j1 k o p i q c d e m a b s f g h=some r):finK Tryd.prog Tryd.f26 0 (EX 26 k (nav B26 [2,2,2,2]) (⟨25,[(0,.sl 1 (rowsOf (encI .u8) o)),(2,.ptr 2 0),(5,.ptr 9 0),(6,.ptr 6 0),(7,jI p),(16,.p (.bool i))],[(2,.box 50 [jI q,.p (.int .u64 c),.sl 1 (rowsOf (encI .u8) d),.sl 4 (rowsOf encT50 e)]),(9,.box 91 [.sl 1 (rowsOf (encI .u8) m),jI a,jI b]),(6,.box 50 [jI s,.p (.int .u64 f),.sl 1 (rowsOf (encI .u8) g),.sl 4 (rowsOf encT50 h)])]⟩:St))=some r.st:=by
 unfold f26_j1 at j
 obtain ⟨o1,t,j⟩:=bs j
 have l:=f46_ok k m a b _ t
 cases o1 with
 | o0 u v w x =>
  (try dsimp only at j)
  (try simp only [NM,EE,R46.st] at l)
  cases j
  simp (disch:=first|apply D;decide|apply K;kernel_rfl) only [E,EE,↓reduceIte,simprocAttr,xk B26 [2,2,2,2] .sq rfl,rg B26 [1,2,2,2,2] 5 true rfl,hr 26 5 rfl,t_50,t_22,callStep,CL,gv,List.contains,xk B26 [2,2,2,2,2] .rt rfl,fin26,R26.st,l]
noncomputable def f26_e (k:Nat) (i:List Int):Option R26 :=
 Option.bind (f44 k i) fun o1 =>
  match o1 with
  | .o0 j l m =>
   Option.bind (f45 k 4 m j l) fun o7 =>
    match o7 with
    | .o0 b c d e a f g h =>
     cond ((a != 0))
      (some (.o0 0 0 [] [] 0 a))
      (f26_j1 k i a false 0 0 [] [] f g h b c d e)
theorem f26_e_ok (k e r) (a:f26_e k e=some r):finK Tryd.prog Tryd.f26 0 (EX 26 k (nav B26 []) (⟨25,[(0,.sl 1 (rowsOf (encI .u8) e))],[]⟩:St))=some r.st:=by
 unfold f26_e at a
 obtain ⟨o1,p,a⟩:=bs a
 have b:=f44_ok k e _ p
 cases o1 with
 | o0 q s t =>
  (try dsimp only at a)
  (try simp only [NM,EE,R44.st] at b)
  obtain ⟨o7,u,a⟩:=bs a
  have c:=f45_ok k 4 t q s _ u
  cases o7 with
  | o0 f g h i j l m o =>
   (try dsimp only at a)
   (try simp only [NM,EE,R45.st] at c)
   simp (disch:=first|apply D;decide|apply K;kernel_rfl) only [E,EE,↓reduceIte,simprocAttr,xk B26 [] .sq rfl,rg B26 [1] 0 false rfl,hr_26_0,t_50,xk B26 [2] .sq rfl,rg B26 [1,2] 1 false rfl,hr_26_1,callStep,CL,gv,List.contains,xk B26 [2,2] .sq rfl,rg B26 [1,2,2] 2 false rfl,hr 26 2 rfl,xk B26 [2,2,2] .sq rfl,xk B26 [1,2,2,2] .sq rfl,rg B26 [1,1,2,2,2] 3 false rfl,hr 26 3 rfl,xk B26 [2,1,2,2,2] (.cd 16) rfl,b,c]
   rcases cond_some a with ⟨d,a⟩ | ⟨d,a⟩
   ·cases a
    simp (disch:=first|apply D;decide|apply K;kernel_rfl) only [E,EE,↓reduceIte,simprocAttr,xk B26 [2,2,1,2,2,2] .sq rfl,rg B26 [1,2,2,1,2,2,2] 4 false rfl,hr_26_4,bl_50,t_50,xk B26 [2,2,2,1,2,2,2] .rt rfl,fin26,R26.st,b,c,d]
   ·have hJ:=f26_j1_ok k e j false 0 0 [] [] l m o f g h i _ a
    simp (disch:=first|apply D;decide|apply K;kernel_rfl) only [E,EE,↓reduceIte,simprocAttr,xk B26 [3,2,1,2,2,2] .sk rfl,b,c,d]
    try simp only [NM,EE] at hJ
    exact hJ
noncomputable def f26 (k:Nat) (a:List Int):Option R26:=match k with | 0=>none | k+1=>f26_e k a
theorem f26_ok (k a r) (b:f26 k a=some r):CV k 26 [.sl 1 (rowsOf (encI .u8) a)] []=some r.st:=by
 cases k with
 | zero=>cases b
 | succ k =>
  unfold CV
  rw [ev_call (F:=Tryd.f26) (c:=(nav B26 [])) rfl Tryd.func26 rfl rfl rfl rfl]
  exact f26_e_ok k a r b
-- f43: f43 slices.Equal[[]byte,byte]
inductive R43 where
 | o0 (y:Bool)
noncomputable def R43.st:R43→V×List O×List O
 | .o0 y=>(.p (.bool y),[],[])
inductive R43_l2 where
 | o0 (y:Bool)
 | o1 (y a:List Int) (b c:Int)
 | o2 (y a:List Int) (b c:Int) (d:Bool)
noncomputable def R43_l2.st:R43_l2→Out×St
 | .o0 y=>(.ret,(⟨26,[(4,.p (.bool y))],[]⟩:St))
 | .o1 y a b c=>(.norm,(⟨26,[(0,.sl 1 (rowsOf (encI .u8) y)),(1,.sl 1 (rowsOf (encI .u8) a)),(12,jI b),(13,jI c)],[]⟩:St))
 | .o2 y a b c d=>(.exit 0,(⟨26,[(0,.sl 1 (rowsOf (encI .u8) y)),(1,.sl 1 (rowsOf (encI .u8) a)),(12,jI b),(13,jI c),(14,.p (.bool d))],[]⟩:St))
noncomputable def f43_l2_j2 (k:Nat) (c d:List Int) (a b:Int) (e:Bool):Option R43_l2 :=
 some (.o1 c d a (IntKind.i64.wrap (b+(1:Int))))
theorem f43_l2_j2_ok (k d e a b c r) (f:f43_l2_j2 k d e a b c=some r):EX 43 k (nav B43 [2,2,2,1,2,2,1,2,2]) (⟨26,[(0,.sl 1 (rowsOf (encI .u8) d)),(1,.sl 1 (rowsOf (encI .u8) e)),(12,jI a),(13,jI b),(24,.p (.bool c))],[]⟩:St)=some r.st:=by
 unfold f43_l2_j2 at f
 cases f
 simp (disch:=first|apply D;decide|apply K;kernel_rfl) only [E,EE,↓reduceIte,simprocAttr,rg B43 [2,2,2,1,2,2,1,2,2] 8 false rfl,hr 43 8 rfl,R43_l2.st]
noncomputable def f43_l2_j1 (k:Nat) (c d:List Int) (b a:Int) (e:Bool):Option R43_l2 :=
 ifE ((0:Int)≤a) (
  Option.bind (c[(Int.toNat a)]?) fun f =>
   Option.bind (d[(Int.toNat a)]?) fun g =>
    cond ((f != g))
     (some (.o0 false))
     (f43_l2_j2 k c d b a false))
theorem f43_l2_j1_ok (k e f b c d r) (a:f43_l2_j1 k e f b c d=some r):EX 43 k (nav B43 [2,2,1,2,2,1,2,2]) (⟨26,[(0,.sl 1 (rowsOf (encI .u8) e)),(1,.sl 1 (rowsOf (encI .u8) f)),(12,jI b),(13,jI c),(14,.p (.bool d))],[]⟩:St)=some r.st:=by
 unfold f43_l2_j1 at a
 obtain ⟨g,a⟩:=ifE_some.1 a
 obtain ⟨l,h,a⟩:=bs a
 obtain ⟨m,i,a⟩:=bs a
 simp (disch:=first|apply D;decide|apply K;kernel_rfl) only [E,EE,↓reduceIte,simprocAttr,xk B43 [2,2,1,2,2,1,2,2] .sq rfl,xk B43 [1,2,2,1,2,2,1,2,2] (.bk 1) rfl,xk B43 [2,1,2,2,1,2,2,1,2,2] .sq rfl,rg B43 [1,2,1,2,2,1,2,2,1,2,2] 5 false rfl,hr 43 5 rfl,xk B43 [2,2,1,2,2,1,2,2,1,2,2] .sq rfl,rg B43 [1,2,2,1,2,2,1,2,2,1,2,2] 6 true rfl,hr 43 6 rfl,indexAddrV,t_22,t_5,encI_eq,xk B43 [2,2,2,1,2,2,1,2,2,1,2,2] (.cd 24) rfl,g,h,i]
 rcases cond_some a with ⟨j,a⟩ | ⟨j,a⟩
 ·cases a
  simp (disch:=first|apply D;decide|apply K;kernel_rfl) only [E,EE,↓reduceIte,simprocAttr,xk B43 [2,2,2,2,1,2,2,1,2,2,1,2,2] .sq rfl,rg B43 [1,2,2,2,2,1,2,2,1,2,2,1,2,2] 7 false rfl,hr 43 7 rfl,xk B43 [2,2,2,2,2,1,2,2,1,2,2,1,2,2] .rt rfl,R43_l2.st,g,h,i,j]
 ·have hJ:=f43_l2_j2_ok k e f b c false _ a
  simp (disch:=first|apply D;decide|apply K;kernel_rfl) only [E,EE,↓reduceIte,simprocAttr,xk B43 [3,2,2,2,1,2,2,1,2,2,1,2,2] .sk rfl,g,h,i,j]
  try simp only [NM,EE] at hJ
  exact hJ
noncomputable def f43_l2_b (k:Nat) (c d:List Int) (a b:Int):Option R43_l2 :=
 cond ((decide (b<a)))
  (f43_l2_j1 k c d a b true)
  (some (.o2 c d a b false))
theorem f43_l2_b_ok (k d e a b r) (c:f43_l2_b k d e a b=some r):EX 43 k (nav B43 [1,2,2,1,2,2]) (⟨26,[(0,.sl 1 (rowsOf (encI .u8) d)),(1,.sl 1 (rowsOf (encI .u8) e)),(12,jI a),(13,jI b)],[]⟩:St)=some r.st:=by
 unfold f43_l2_b at c
 simp (disch:=first|apply D;decide|apply K;kernel_rfl) only [E,EE,↓reduceIte,simprocAttr,xk B43 [1,2,2,1,2,2] .sq rfl,rg B43 [1,1,2,2,1,2,2] 4 false rfl,hr 43 4 rfl,xk B43 [2,1,2,2,1,2,2] .sq rfl,xk B43 [1,2,1,2,2,1,2,2] (.cd 14) rfl]
 rcases cond_some c with ⟨f,c⟩ | ⟨f,c⟩
 ·have hJ:=f43_l2_j1_ok k d e a b true _ c
  simp (disch:=first|apply D;decide|apply K;kernel_rfl) only [E,EE,↓reduceIte,simprocAttr,xk B43 [2,1,2,1,2,2,1,2,2] .sk rfl,f]
  try simp only [NM,EE] at hJ
  exact hJ
 ·cases c
  simp (disch:=first|apply D;decide|apply K;kernel_rfl) only [E,EE,↓reduceIte,simprocAttr,xk B43 [3,1,2,1,2,2,1,2,2] (.ex 0) rfl,R43_l2.st,f]
noncomputable def f43_l2 (k:Nat):Nat→(List Int)→(List Int)→Int→Int→Option R43_l2
 | 0,_,_,_,_=>none
 | n+1,g,h,d,e=>Option.bind (f43_l2_b k g h d e) fun o =>
  match o with
  | .o0 y=>some (.o0 y)
  | .o1 y a b c=>f43_l2 k n y a b c
  | .o2 y a b c f=>some (.o2 y a b c f)
theorem f43_l2_ok (k n:Nat):∀ (d e:List Int) (a b:Int) (r:R43_l2) (c:f43_l2 k n d e a b=some r) (σ:St) (hσ:headR (hints.head 43 4) (hints.canon 43 4) σ=some (⟨26,[(0,.sl 1 (rowsOf (encI .u8) d)),(1,.sl 1 (rowsOf (encI .u8) e)),(12,jI a),(13,jI b)],[]⟩:St)),LP 43 k (nav B43 [1,2,2,1,2,2]) n σ=some r.st:=by
 induction n with
 | zero=>intro d e a b r c;cases c
 | succ n j =>
  intro d e a b r c σ hσ
  rw [f43_l2] at c
  obtain ⟨o,h,c⟩:=Option.bind_eq_some_iff.1 c
  have hB:=f43_l2_b_ok k d e a b o h
  unfold LP at j ⊢
  unfold EX at hB
  rw [loopK_succ,show firstReg (nav B43 [1,2,2,1,2,2])=4 from rfl,hσ,headK_some,hB]
  cases o with
  | o0 y=>cases c;rfl
  | o1 y f g i =>
   refine j y f g i r c _ ?_
   simp (disch:=first|apply D;decide|apply K;kernel_rfl) only [E,EE,↓reduceIte,simprocAttr,hh_43_4,hc_43_4]
  | o2 y f g i l=>cases c;rfl
noncomputable def f43_j3 (k:Nat) (d e:List Int) (a b:Int) (c:Bool):Option R43 :=
 some (.o0 true)
theorem f43_j3_ok (k d e a b c r) (f:f43_j3 k d e a b c=some r):finK Tryd.prog Tryd.f43 0 (EX 43 k (nav B43 [2,2,2]) (⟨26,[(0,.sl 1 (rowsOf (encI .u8) d)),(1,.sl 1 (rowsOf (encI .u8) e)),(12,jI a),(13,jI b),(14,.p (.bool c))],[]⟩:St))=some r.st:=by
 unfold f43_j3 at f
 cases f
 simp (disch:=first|apply D;decide|apply K;kernel_rfl) only [E,EE,↓reduceIte,simprocAttr,xk B43 [2,2,2] .sq rfl,rg B43 [1,2,2,2] 9 false rfl,hr 43 9 rfl,xk B43 [2,2,2,2] .rt rfl,fin43,R43.st]
noncomputable def f43_j1 (k:Nat) (a b:List Int) (c:Bool):Option R43 :=
 Option.bind (f43_l2 k k a b ((List.length a):Int) 0) fun o1 =>
  match o1 with
  | .o0 d =>
   some (.o0 d)
  | .o1 _ _ _ _ =>
   none
  | .o2 e f g h i =>
   f43_j3 k e f g h i
theorem f43_j1_ok (k d e c r) (a:f43_j1 k d e c=some r):finK Tryd.prog Tryd.f43 0 (EX 43 k (nav B43 [2,2]) (⟨26,[(0,.sl 1 (rowsOf (encI .u8) d)),(1,.sl 1 (rowsOf (encI .u8) e)),(10,.p (.bool c))],[]⟩:St))=some r.st:=by
 unfold f43_j1 at a
 obtain ⟨o1,f,a⟩:=bs a
 have b:=f43_l2_ok k k d e ((List.length d):Int) 0 _ f
 simp (disch:=first|apply D;decide|apply K;kernel_rfl) only [E,EE,↓reduceIte,simprocAttr,xk B43 [2,2] .sq rfl,xk B43 [1,2,2] .sq rfl,rg B43 [1,1,2,2] 3 false rfl,hr 43 3 rfl,t_22,xk B43 [2,1,2,2] (.bk 0) rfl,xk B43 [2,2,1,2,2] .lp rfl,hh_43_4,hc_43_4]
 (try simp only [NM,EE] at b)
 rw [b _ (by simp (disch:=first|apply D;decide|apply K;kernel_rfl) only [E,EE,↓reduceIte,simprocAttr,hh_43_4,hc_43_4])]
 clear b
 cases o1 with
 | o0 m =>
  (try dsimp only at a)
  cases a
  simp (disch:=first|apply D;decide|apply K;kernel_rfl) only [E,EE,↓reduceIte,simprocAttr,R43_l2.st,fin43,R43.st]
 | o1 _ _ _ _ =>
  (try dsimp only at a)
  cases a
 | o2 g h i j l =>
  (try dsimp only at a)
  have hJ:=f43_j3_ok k g h i j l _ a
  simp (disch:=first|apply D;decide|apply K;kernel_rfl) only [E,EE,↓reduceIte,simprocAttr,R43_l2.st]
  try simp only [NM,EE] at hJ
  exact hJ
noncomputable def f43_e (k:Nat) (a b:List Int):Option R43 :=
 cond ((((List.length a):Int) != ((List.length b):Int)))
  (some (.o0 false))
  (f43_j1 k a b false)
theorem f43_e_ok (k b c r) (a:f43_e k b c=some r):finK Tryd.prog Tryd.f43 0 (EX 43 k (nav B43 []) (⟨26,[(0,.sl 1 (rowsOf (encI .u8) b)),(1,.sl 1 (rowsOf (encI .u8) c))],[]⟩:St))=some r.st:=by
 unfold f43_e at a
 simp (disch:=first|apply D;decide|apply K;kernel_rfl) only [E,EE,↓reduceIte,simprocAttr,xk B43 [] .sq rfl,rg B43 [1] 0 false rfl,hr 43 0 rfl,xk B43 [2] .sq rfl,xk B43 [1,2] .sq rfl,rg B43 [1,1,2] 1 false rfl,hr 43 1 rfl,t_22,xk B43 [2,1,2] (.cd 10) rfl]
 rcases cond_some a with ⟨d,a⟩ | ⟨d,a⟩
 ·cases a
  simp (disch:=first|apply D;decide|apply K;kernel_rfl) only [E,EE,↓reduceIte,simprocAttr,xk B43 [2,2,1,2] .sq rfl,rg B43 [1,2,2,1,2] 2 false rfl,hr 43 2 rfl,xk B43 [2,2,2,1,2] .rt rfl,fin43,R43.st,d]
 ·have hJ:=f43_j1_ok k b c false _ a
  simp (disch:=first|apply D;decide|apply K;kernel_rfl) only [E,EE,↓reduceIte,simprocAttr,xk B43 [3,2,1,2] .sk rfl,d]
  try simp only [NM,EE] at hJ
  exact hJ
noncomputable def f43 (k:Nat) (a b:List Int):Option R43:=match k with | 0=>none | k+1=>f43_e k a b
theorem f43_ok (k a b r) (d:f43 k a b=some r):CV k 43 [.sl 1 (rowsOf (encI .u8) a),.sl 1 (rowsOf (encI .u8) b)] []=some r.st:=by
 cases k with
 | zero=>cases d
 | succ k =>
  unfold CV
  rw [ev_call (F:=Tryd.f43) (c:=(nav B43 [])) rfl Tryd.func43 rfl rfl rfl rfl]
  exact f43_e_ok k a b r d
-- f47a: f47 heliograph/sum.open
inductive R47a where
 | o0 (y:List Int) (a:Int)
noncomputable def R47a.st:R47a→V×List O×List O
 | .o0 y a=>(V.tup [.sl 1 (rowsOf (encI .u8) y),jI a],[],[])
noncomputable def f47a_j2 (k:Nat) (b:List Int) (a:Int) (c:Bool):Option R47a :=
 ifE ((0:Int)≤a) (
  ifE ((Int.toNat a)≤(List.length b)) (
   Option.bind (f53 k (List.take (Int.toNat a) b)) fun o3 =>
    match o3 with
    | .o0 d =>
     some (.o0 d 0)))
theorem f47a_j2_ok (k d e b r) (a:f47a_j2 k d e b=some r):finK Tryd.prog Tryd.f47 0 (EX 47 k (nav B47 [2,2,2,2]) (⟨30,[(0,.sl 1 (rowsOf (encI .u8) d)),(8,jI e),(25,.p (.bool b))],[]⟩:St))=some r.st:=by
 unfold f47a_j2 at a
 obtain ⟨f,a⟩:=ifE_some.1 a
 obtain ⟨g,a⟩:=ifE_some.1 a
 obtain ⟨o3,h,a⟩:=bs a
 have c:=f53_ok k (List.take (Int.toNat e) d) _ h
 cases o3 with
 | o0 i =>
  (try dsimp only at a)
  (try simp only [NM,EE,R53.st] at c)
  cases a
  simp (disch:=first|apply D;decide|apply K;kernel_rfl) only [E,EE,↓reduceIte,simprocAttr,xk B47 [2,2,2,2] .sq rfl,rg B47 [1,2,2,2,2] 6 false rfl,hr_47_6,sliceV,bound,t_22,t_5,callStep,CL,gv,List.contains,xk B47 [2,2,2,2,2] .rt rfl,fin47,R47a.st,f,g,c]
noncomputable def f47a_j1 (k:Nat) (a:List Int) (b:Int) (d:Bool):Option R47a :=
 ifE ((0:Int)≤(IntKind.i64.wrap (((List.length a):Int) - b))) (
  ifE ((Int.toNat (IntKind.i64.wrap (((List.length a):Int) - b)))≤(List.length a)) (
   Option.bind (f35 k (List.take (Int.toNat (IntKind.i64.wrap (((List.length a):Int) - b))) a)) fun o3 =>
    match o3 with
    | .o0 e =>
     Option.bind (f43 k e a) fun o7 =>
      match o7 with
      | .o0 c =>
       cond ((!c))
        (some (.o0 [] 130))
        (f47a_j2 k a (IntKind.i64.wrap (((List.length a):Int) - b)) false)))
theorem f47a_j1_ok (k d g f r) (a:f47a_j1 k d g f=some r):finK Tryd.prog Tryd.f47 0 (EX 47 k (nav B47 [2,2]) (⟨30,[(0,.sl 1 (rowsOf (encI .u8) d)),(1,jI g),(2,V.p (Value.func (Fn.func 35) #[] #[])),(12,.p (.bool f))],[]⟩:St))=some r.st:=by
 unfold f47a_j1 at a
 obtain ⟨h,a⟩:=ifE_some.1 a
 obtain ⟨i,a⟩:=ifE_some.1 a
 obtain ⟨o3,j,a⟩:=bs a
 have b:=f35_ok k (List.take (Int.toNat (IntKind.i64.wrap (((List.length d):Int) - g))) d) _ j
 cases o3 with
 | o0 l =>
  (try dsimp only at a)
  (try simp only [NM,EE,R35.st] at b)
  obtain ⟨o7,m,a⟩:=bs a
  have c:=f43_ok k l d _ m
  cases o7 with
  | o0 o =>
   (try dsimp only at a)
   (try simp only [NM,EE,R43.st] at c)
   simp (disch:=first|apply D;decide|apply K;kernel_rfl) only [E,EE,↓reduceIte,simprocAttr,xk B47 [2,2] .sq rfl,rg B47 [1,2,2] 3 false rfl,hr 47 3 rfl,t_22,xk B47 [2,2,2] .sq rfl,xk B47 [1,2,2,2] .sq rfl,rg B47 [1,1,2,2,2] 4 false rfl,hr 47 4 rfl,sliceV,bound,t_5,callStep,CL,gv,List.contains,xk B47 [2,1,2,2,2] (.cd 25) rfl,h,i,b,c]
   rcases cond_some a with ⟨e,a⟩ | ⟨e,a⟩
   ·cases a
    simp (disch:=first|apply D;decide|apply K;kernel_rfl) only [E,EE,↓reduceIte,simprocAttr,xk B47 [2,2,1,2,2,2] .sq rfl,rg B47 [1,2,2,1,2,2,2] 5 false rfl,hr_47_5,xk B47 [2,2,2,1,2,2,2] .rt rfl,fin47,R47a.st,h,i,b,c,e]
   ·have hJ:=f47a_j2_ok k d (IntKind.i64.wrap (((List.length d):Int) - g)) false _ a
    simp (disch:=first|apply D;decide|apply K;kernel_rfl) only [E,EE,↓reduceIte,simprocAttr,xk B47 [3,2,1,2,2,2] .sk rfl,h,i,b,c,e]
    try simp only [NM,EE] at hJ
    exact hJ
noncomputable def f47a_e (k:Nat) (a:List Int) (b:Int):Option R47a :=
 cond ((decide (((List.length a):Int)<b)))
  (some (.o0 [] 7))
  (f47a_j1 k a b false)
theorem f47a_e_ok (k b c r) (a:f47a_e k b c=some r):finK Tryd.prog Tryd.f47 0 (EX 47 k (nav B47 []) (⟨30,[(0,.sl 1 (rowsOf (encI .u8) b)),(1,jI c),(2,V.p (Value.func (Fn.func 35) #[] #[]))],[]⟩:St))=some r.st:=by
 unfold f47a_e at a
 simp (disch:=first|apply D;decide|apply K;kernel_rfl) only [E,EE,↓reduceIte,simprocAttr,xk B47 [] .sq rfl,rg B47 [1] 0 false rfl,hr 47 0 rfl,xk B47 [2] .sq rfl,xk B47 [1,2] .sq rfl,rg B47 [1,1,2] 1 false rfl,hr 47 1 rfl,t_22,xk B47 [2,1,2] (.cd 12) rfl]
 rcases cond_some a with ⟨d,a⟩ | ⟨d,a⟩
 ·cases a
  simp (disch:=first|apply D;decide|apply K;kernel_rfl) only [E,EE,↓reduceIte,simprocAttr,xk B47 [2,2,1,2] .sq rfl,rg B47 [1,2,2,1,2] 2 false rfl,hr_47_2,xk B47 [2,2,2,1,2] .rt rfl,fin47,R47a.st,d]
 ·have hJ:=f47a_j1_ok k b c false _ a
  simp (disch:=first|apply D;decide|apply K;kernel_rfl) only [E,EE,↓reduceIte,simprocAttr,xk B47 [3,2,1,2] .sk rfl,d]
  try simp only [NM,EE] at hJ
  exact hJ
noncomputable def f47a (k:Nat) (a:List Int) (b:Int):Option R47a:=match k with | 0=>none | k+1=>f47a_e k a b
theorem f47a_ok (k a b r) (d:f47a k a b=some r):CV k 47 [.sl 1 (rowsOf (encI .u8) a),jI b,V.p (Value.func (Fn.func 35) #[] #[])] []=some r.st:=by
 cases k with
 | zero=>cases d
 | succ k =>
  unfold CV
  rw [ev_call (F:=Tryd.f47) (c:=(nav B47 [])) rfl Tryd.func47 rfl rfl rfl rfl]
  exact f47a_e_ok k a b r d
-- f27: f27 heliograph/sum.Open16
inductive R27 where
 | o0 (y:List Int) (a:Int)
noncomputable def R27.st:R27→V×List O×List O
 | .o0 y a=>(V.tup [.sl 1 (rowsOf (encI .u8) y),jI a],[],[])
noncomputable def f27_e (k:Nat) (a:List Int):Option R27 :=
 Option.bind (f47a k a 2) fun o1 =>
  match o1 with
  | .o0 b c =>
   some (.o0 b c)
theorem f27_e_ok (k c r) (a:f27_e k c=some r):finK Tryd.prog Tryd.f27 0 (EX 27 k (nav B27 []) (⟨8,[(0,.sl 1 (rowsOf (encI .u8) c))],[]⟩:St))=some r.st:=by
 unfold f27_e at a
 obtain ⟨o1,d,a⟩:=bs a
 have b:=f47a_ok k c 2 _ d
 cases o1 with
 | o0 e f =>
  (try dsimp only at a)
  (try simp only [NM,EE,R47a.st] at b)
  cases a
  simp (disch:=first|apply D;decide|apply K;kernel_rfl) only [E,EE,↓reduceIte,simprocAttr,xk B27 [] .sq rfl,rg B27 [1] 0 false rfl,hr 27 0 rfl,xk B27 [2] .sq rfl,rg B27 [1,2] 1 false rfl,hr 27 1 rfl,callStep,CL,gv,List.contains,xk B27 [2,2] .rt rfl,fin27,R27.st,b]
noncomputable def f27 (k:Nat) (a:List Int):Option R27:=match k with | 0=>none | k+1=>f27_e k a
theorem f27_ok (k a r) (b:f27 k a=some r):CV k 27 [.sl 1 (rowsOf (encI .u8) a)] []=some r.st:=by
 cases k with
 | zero=>cases b
 | succ k =>
  unfold CV
  rw [ev_call (F:=Tryd.f27) (c:=(nav B27 [])) rfl Tryd.func27 rfl rfl rfl rfl]
  exact f27_e_ok k a r b
-- f47b: f47 heliograph/sum.open
inductive R47b where
 | o0 (y:List Int) (a:Int)
noncomputable def R47b.st:R47b→V×List O×List O
 | .o0 y a=>(V.tup [.sl 1 (rowsOf (encI .u8) y),jI a],[],[])
noncomputable def f47b_j2 (k:Nat) (b:List Int) (a:Int) (c:Bool):Option R47b :=
 ifE ((0:Int)≤a) (
  ifE ((Int.toNat a)≤(List.length b)) (
   Option.bind (f53 k (List.take (Int.toNat a) b)) fun o3 =>
    match o3 with
    | .o0 d =>
     some (.o0 d 0)))
theorem f47b_j2_ok (k d e b r) (a:f47b_j2 k d e b=some r):finK Tryd.prog Tryd.f47 0 (EX 47 k (nav B47 [2,2,2,2]) (⟨30,[(0,.sl 1 (rowsOf (encI .u8) d)),(8,jI e),(25,.p (.bool b))],[]⟩:St))=some r.st:=by
 unfold f47b_j2 at a
 obtain ⟨f,a⟩:=ifE_some.1 a
 obtain ⟨g,a⟩:=ifE_some.1 a
 obtain ⟨o3,h,a⟩:=bs a
 have c:=f53_ok k (List.take (Int.toNat e) d) _ h
 cases o3 with
 | o0 i =>
  (try dsimp only at a)
  (try simp only [NM,EE,R53.st] at c)
  cases a
  simp (disch:=first|apply D;decide|apply K;kernel_rfl) only [E,EE,↓reduceIte,simprocAttr,xk B47 [2,2,2,2] .sq rfl,rg B47 [1,2,2,2,2] 6 false rfl,hr_47_6,sliceV,bound,t_22,t_5,callStep,CL,gv,List.contains,xk B47 [2,2,2,2,2] .rt rfl,fin47,R47b.st,f,g,c]
noncomputable def f47b_j1 (k:Nat) (a:List Int) (b:Int) (d:Bool):Option R47b :=
 ifE ((0:Int)≤(IntKind.i64.wrap (((List.length a):Int) - b))) (
  ifE ((Int.toNat (IntKind.i64.wrap (((List.length a):Int) - b)))≤(List.length a)) (
   Option.bind (f37 k (List.take (Int.toNat (IntKind.i64.wrap (((List.length a):Int) - b))) a)) fun o3 =>
    match o3 with
    | .o0 e =>
     Option.bind (f43 k e a) fun o7 =>
      match o7 with
      | .o0 c =>
       cond ((!c))
        (some (.o0 [] 130))
        (f47b_j2 k a (IntKind.i64.wrap (((List.length a):Int) - b)) false)))
theorem f47b_j1_ok (k d g f r) (a:f47b_j1 k d g f=some r):finK Tryd.prog Tryd.f47 0 (EX 47 k (nav B47 [2,2]) (⟨30,[(0,.sl 1 (rowsOf (encI .u8) d)),(1,jI g),(2,V.p (Value.func (Fn.func 37) #[] #[])),(12,.p (.bool f))],[]⟩:St))=some r.st:=by
 unfold f47b_j1 at a
 obtain ⟨h,a⟩:=ifE_some.1 a
 obtain ⟨i,a⟩:=ifE_some.1 a
 obtain ⟨o3,j,a⟩:=bs a
 have b:=f37_ok k (List.take (Int.toNat (IntKind.i64.wrap (((List.length d):Int) - g))) d) _ j
 cases o3 with
 | o0 l =>
  (try dsimp only at a)
  (try simp only [NM,EE,R37.st] at b)
  obtain ⟨o7,m,a⟩:=bs a
  have c:=f43_ok k l d _ m
  cases o7 with
  | o0 o =>
   (try dsimp only at a)
   (try simp only [NM,EE,R43.st] at c)
   simp (disch:=first|apply D;decide|apply K;kernel_rfl) only [E,EE,↓reduceIte,simprocAttr,xk B47 [2,2] .sq rfl,rg B47 [1,2,2] 3 false rfl,hr 47 3 rfl,t_22,xk B47 [2,2,2] .sq rfl,xk B47 [1,2,2,2] .sq rfl,rg B47 [1,1,2,2,2] 4 false rfl,hr 47 4 rfl,sliceV,bound,t_5,callStep,CL,gv,List.contains,xk B47 [2,1,2,2,2] (.cd 25) rfl,h,i,b,c]
   rcases cond_some a with ⟨e,a⟩ | ⟨e,a⟩
   ·cases a
    simp (disch:=first|apply D;decide|apply K;kernel_rfl) only [E,EE,↓reduceIte,simprocAttr,xk B47 [2,2,1,2,2,2] .sq rfl,rg B47 [1,2,2,1,2,2,2] 5 false rfl,hr_47_5,xk B47 [2,2,2,1,2,2,2] .rt rfl,fin47,R47b.st,h,i,b,c,e]
   ·have hJ:=f47b_j2_ok k d (IntKind.i64.wrap (((List.length d):Int) - g)) false _ a
    simp (disch:=first|apply D;decide|apply K;kernel_rfl) only [E,EE,↓reduceIte,simprocAttr,xk B47 [3,2,1,2,2,2] .sk rfl,h,i,b,c,e]
    try simp only [NM,EE] at hJ
    exact hJ
noncomputable def f47b_e (k:Nat) (a:List Int) (b:Int):Option R47b :=
 cond ((decide (((List.length a):Int)<b)))
  (some (.o0 [] 7))
  (f47b_j1 k a b false)
theorem f47b_e_ok (k b c r) (a:f47b_e k b c=some r):finK Tryd.prog Tryd.f47 0 (EX 47 k (nav B47 []) (⟨30,[(0,.sl 1 (rowsOf (encI .u8) b)),(1,jI c),(2,V.p (Value.func (Fn.func 37) #[] #[]))],[]⟩:St))=some r.st:=by
 unfold f47b_e at a
 simp (disch:=first|apply D;decide|apply K;kernel_rfl) only [E,EE,↓reduceIte,simprocAttr,xk B47 [] .sq rfl,rg B47 [1] 0 false rfl,hr 47 0 rfl,xk B47 [2] .sq rfl,xk B47 [1,2] .sq rfl,rg B47 [1,1,2] 1 false rfl,hr 47 1 rfl,t_22,xk B47 [2,1,2] (.cd 12) rfl]
 rcases cond_some a with ⟨d,a⟩ | ⟨d,a⟩
 ·cases a
  simp (disch:=first|apply D;decide|apply K;kernel_rfl) only [E,EE,↓reduceIte,simprocAttr,xk B47 [2,2,1,2] .sq rfl,rg B47 [1,2,2,1,2] 2 false rfl,hr_47_2,xk B47 [2,2,2,1,2] .rt rfl,fin47,R47b.st,d]
 ·have hJ:=f47b_j1_ok k b c false _ a
  simp (disch:=first|apply D;decide|apply K;kernel_rfl) only [E,EE,↓reduceIte,simprocAttr,xk B47 [3,2,1,2] .sk rfl,d]
  try simp only [NM,EE] at hJ
  exact hJ
noncomputable def f47b (k:Nat) (a:List Int) (b:Int):Option R47b:=match k with | 0=>none | k+1=>f47b_e k a b
theorem f47b_ok (k a b r) (d:f47b k a b=some r):CV k 47 [.sl 1 (rowsOf (encI .u8) a),jI b,V.p (Value.func (Fn.func 37) #[] #[])] []=some r.st:=by
 cases k with
 | zero=>cases d
 | succ k =>
  unfold CV
  rw [ev_call (F:=Tryd.f47) (c:=(nav B47 [])) rfl Tryd.func47 rfl rfl rfl rfl]
  exact f47b_e_ok k a b r d
-- f28: f28 heliograph/sum.Open32
inductive R28 where
 | o0 (y:List Int) (a:Int)
noncomputable def R28.st:R28→V×List O×List O
 | .o0 y a=>(V.tup [.sl 1 (rowsOf (encI .u8) y),jI a],[],[])
noncomputable def f28_e (k:Nat) (a:List Int):Option R28 :=
 Option.bind (f47b k a 4) fun o1 =>
  match o1 with
  | .o0 b c =>
   some (.o0 b c)
theorem f28_e_ok (k c r) (a:f28_e k c=some r):finK Tryd.prog Tryd.f28 0 (EX 28 k (nav B28 []) (⟨8,[(0,.sl 1 (rowsOf (encI .u8) c))],[]⟩:St))=some r.st:=by
 unfold f28_e at a
 obtain ⟨o1,d,a⟩:=bs a
 have b:=f47b_ok k c 4 _ d
 cases o1 with
 | o0 e f =>
  (try dsimp only at a)
  (try simp only [NM,EE,R47b.st] at b)
  cases a
  simp (disch:=first|apply D;decide|apply K;kernel_rfl) only [E,EE,↓reduceIte,simprocAttr,xk B28 [] .sq rfl,rg B28 [1] 0 false rfl,hr 28 0 rfl,xk B28 [2] .sq rfl,rg B28 [1,2] 1 false rfl,hr 28 1 rfl,callStep,CL,gv,List.contains,xk B28 [2,2] .rt rfl,fin28,R28.st,b]
noncomputable def f28 (k:Nat) (a:List Int):Option R28:=match k with | 0=>none | k+1=>f28_e k a
theorem f28_ok (k a r) (b:f28 k a=some r):CV k 28 [.sl 1 (rowsOf (encI .u8) a)] []=some r.st:=by
 cases k with
 | zero=>cases b
 | succ k =>
  unfold CV
  rw [ev_call (F:=Tryd.f28) (c:=(nav B28 [])) rfl Tryd.func28 rfl rfl rfl rfl]
  exact f28_e_ok k a r b
-- f21: f21 heliograph/octet.Equal
inductive R21 where
 | o0 (y:Bool)
noncomputable def R21.st:R21→V×List O×List O
 | .o0 y=>(.p (.bool y),[],[])
noncomputable def f21_e (k:Nat) (a b:List Int):Option R21 :=
 Option.bind (f43 k a b) fun o1 =>
  match o1 with
  | .o0 c =>
   some (.o0 c)
theorem f21_e_ok (k c d r) (a:f21_e k c d=some r):finK Tryd.prog Tryd.f21 0 (EX 21 k (nav B21 []) (⟨8,[(0,.sl 1 (rowsOf (encI .u8) c)),(1,.sl 1 (rowsOf (encI .u8) d))],[]⟩:St))=some r.st:=by
 unfold f21_e at a
 obtain ⟨o1,e,a⟩:=bs a
 have b:=f43_ok k c d _ e
 cases o1 with
 | o0 f =>
  (try dsimp only at a)
  (try simp only [NM,EE,R43.st] at b)
  cases a
  simp (disch:=first|apply D;decide|apply K;kernel_rfl) only [E,EE,↓reduceIte,simprocAttr,xk B21 [] .sq rfl,rg B21 [1] 0 false rfl,hr 21 0 rfl,xk B21 [2] .sq rfl,rg B21 [1,2] 1 false rfl,hr 21 1 rfl,callStep,CL,gv,List.contains,xk B21 [2,2] .rt rfl,fin21,R21.st,b]
noncomputable def f21 (k:Nat) (a b:List Int):Option R21:=match k with | 0=>none | k+1=>f21_e k a b
theorem f21_ok (k a b r) (d:f21 k a b=some r):CV k 21 [.sl 1 (rowsOf (encI .u8) a),.sl 1 (rowsOf (encI .u8) b)] []=some r.st:=by
 cases k with
 | zero=>cases d
 | succ k =>
  unfold CV
  rw [ev_call (F:=Tryd.f21) (c:=(nav B21 [])) rfl Tryd.func21 rfl rfl rfl rfl]
  exact f21_e_ok k a b r d
end Go.Proofs.YtbnnmplkbpgcaaaDoorV