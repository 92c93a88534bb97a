/- What the program's functions answer: plain functions,and that the interpreter answers what they do. Written by a program of this session,out of the translation. -/
import Derived.Test.YtlelaenalbkbmaaDoorVP4
namespace Go.Proofs.YtlelaenalbkbmaaDoorV
open Go
set_option linter.unusedVariables false
set_option linter.unusedSimpArgs false
set_option maxRecDepth 8000
set_option maxHeartbeats 4000000
-- f48: f48 (*heliograph/octet.Reader).number
inductive R48 where
 | o0 (y:Int) (a:List Int) (b c:Int)
noncomputable def R48.st:R48→V×List O×List O
 | .o0 y a b c=>(.p (.int .u64 y),[.box 68 [.sl 1 (rowsOf (encI .u8) a),jI b,jI c]],[])
inductive R48_l1 where
 | o0 (y a b:Int) (c d:List Int) (e f:Int)
 | o1 (y a b:Int) (c:Bool) (d e:List Int) (f g:Int)
noncomputable def R48_l1.st:R48_l1→Out×St
 | .o0 y a b c d e f=>(.norm,(⟨23,[(5,.p (.int .u64 y)),(10,.own 30000),(11,jI a),(12,jI b)],[(30000,.row true 1 5 (rowsOf (encI .u8) c)),(1000000,.box 68 [.sl 1 (rowsOf (encI .u8) d),jI e,jI f])]⟩:St))
 | .o1 y a b c d e f g=>(.exit 0,(⟨23,[(5,.p (.int .u64 y)),(10,.own 30000),(11,jI a),(12,jI b),(13,.p (.bool c))],[(30000,.row true 1 5 (rowsOf (encI .u8) d)),(1000000,.box 68 [.sl 1 (rowsOf (encI .u8) e),jI f,jI g])]⟩:St))
noncomputable def f48_l1_j2 (k:Nat) (f c d:Int) (e g:List Int) (a b:Int):Option R48_l1 :=
 some (.o0 f c (IntKind.i64.wrap (d+(1:Int))) e g a b)
theorem f48_l1_j2_ok (k f c d e g a b r) (h:f48_l1_j2 k f c d e g a b=some r):EX 48 k (nav B48 [2,2,2,1,2,2,1,2,2]) (⟨23,[(5,.p (.int .u64 f)),(10,.own 30000),(11,jI c),(12,jI d)],[(30000,.row true 1 5 (rowsOf (encI .u8) e)),(1000000,.box 68 [.sl 1 (rowsOf (encI .u8) g),jI a,jI b])]⟩:St)=some r.st:=by
 unfold f48_l1_j2 at h
 cases h
 simp (disch:=first|apply D;decide|apply K;kernel_rfl) only [E,EE,↓reduceIte,simprocAttr,rg B48 [2,2,2,1,2,2,1,2,2] 6 false rfl,hr 48 6 rfl,R48_l1.st]
noncomputable def f48_l1_j1 (k:Nat) (f e a:Int) (g:Bool) (b h:List Int) (c d:Int):Option R48_l1 :=
 ifE ((0:Int)≤a) (
  ifE (a<((List.length b):Int)) (
   Option.bind (b[(Int.toNat a)]?) fun i =>
    f48_l1_j2 k ((IntKind.u64.wrap ((BitVec.ofInt (IntKind.bits .u64) (IntKind.u64.wrap (f * 2 ^ (min 8 (IntKind.bits .u64)))) ||| BitVec.ofInt (IntKind.bits .u64) (IntKind.u64.wrap i)).toNat:Nat))) e a b h c d))
theorem f48_l1_j1_ok (k h d e g f i a b r) (c:f48_l1_j1 k h d e g f i a b=some r):EX 48 k (nav B48 [2,2,1,2,2,1,2,2]) (⟨23,[(5,.p (.int .u64 h)),(10,.own 30000),(11,jI d),(12,jI e),(13,.p (.bool g))],[(30000,.row true 1 5 (rowsOf (encI .u8) f)),(1000000,.box 68 [.sl 1 (rowsOf (encI .u8) i),jI a,jI b])]⟩:St)=some r.st:=by
 unfold f48_l1_j1 at c
 obtain ⟨j,c⟩:=ifE_some.1 c
 obtain ⟨l,c⟩:=ifE_some.1 c
 obtain ⟨m,o,c⟩:=bs c
 have hJ:=f48_l1_j2_ok k ((IntKind.u64.wrap ((BitVec.ofInt (IntKind.bits .u64) (IntKind.u64.wrap (h * 2 ^ (min 8 (IntKind.bits .u64)))) ||| BitVec.ofInt (IntKind.bits .u64) (IntKind.u64.wrap m)).toNat:Nat))) d e f i a b _ c
 simp (disch:=first|apply D;decide|apply K;kernel_rfl) only [E,EE,↓reduceIte,simprocAttr,xk B48 [2,2,1,2,2,1,2,2] .sq rfl,xk B48 [1,2,2,1,2,2,1,2,2] (.bk 1) rfl,xk B48 [2,1,2,2,1,2,2,1,2,2] .sq rfl,rg B48 [1,2,1,2,2,1,2,2,1,2,2] 4 false rfl,hr 48 4 rfl,indexAddrV,t_25,t_5,encI_eq,rg B48 [2,2,1,2,2,1,2,2,1,2,2] 5 false rfl,hr 48 5 rfl,shiftV,t_24,convV,j,l,o]
 try simp only [NM,EE] at hJ
 exact hJ
noncomputable def f48_l1_b (k:Nat) (f c d:Int) (e g:List Int) (a b:Int):Option R48_l1 :=
 cond ((decide (d<c)))
  (f48_l1_j1 k f c d true e g a b)
  (some (.o1 f c d false e g a b))
theorem f48_l1_b_ok (k g c d e h a b r) (f:f48_l1_b k g c d e h a b=some r):EX 48 k (nav B48 [1,2,2,1,2,2]) (⟨23,[(5,.p (.int .u64 g)),(10,.own 30000),(11,jI c),(12,jI d)],[(30000,.row true 1 5 (rowsOf (encI .u8) e)),(1000000,.box 68 [.sl 1 (rowsOf (encI .u8) h),jI a,jI b])]⟩:St)=some r.st:=by
 unfold f48_l1_b at f
 simp (disch:=first|apply D;decide|apply K;kernel_rfl) only [E,EE,↓reduceIte,simprocAttr,xk B48 [1,2,2,1,2,2] .sq rfl,rg B48 [1,1,2,2,1,2,2] 3 false rfl,hr 48 3 rfl,xk B48 [2,1,2,2,1,2,2] .sq rfl,xk B48 [1,2,1,2,2,1,2,2] (.cd 13) rfl]
 rcases cond_some f with ⟨i,f⟩ | ⟨i,f⟩
 ·have hJ:=f48_l1_j1_ok k g c d true e h a b _ f
  simp (disch:=first|apply D;decide|apply K;kernel_rfl) only [E,EE,↓reduceIte,simprocAttr,xk B48 [2,1,2,1,2,2,1,2,2] .sk rfl,i]
  try simp only [NM,EE] at hJ
  exact hJ
 ·cases f
  simp (disch:=first|apply D;decide|apply K;kernel_rfl) only [E,EE,↓reduceIte,simprocAttr,xk B48 [3,1,2,1,2,2,1,2,2] (.ex 0) rfl,R48_l1.st,i]
noncomputable def f48_l1 (k:Nat):Nat→Int→Int→Int→(List Int)→(List Int)→Int→Int→Option R48_l1
 | 0,_,_,_,_,_,_,_=>none
 | n+1,p,i,j,l,q,g,h=>Option.bind (f48_l1_b k p i j l q g h) fun o =>
  match o with
  | .o0 y a b c d e f=>f48_l1 k n y a b c d e f
  | .o1 y a b c d e f m=>some (.o1 y a b c d e f m)
theorem f48_l1_ok (k n:Nat):∀ (g c d:Int) (e i:List Int) (a b:Int) (r:R48_l1) (f:f48_l1 k n g c d e i a b=some r) (σ:St) (hσ:headR (hints.head 48 3) (hints.canon 48 3) σ=some (⟨23,[(5,.p (.int .u64 g)),(10,.own 30000),(11,jI c),(12,jI d)],[(30000,.row true 1 5 (rowsOf (encI .u8) e)),(1000000,.box 68 [.sl 1 (rowsOf (encI .u8) i),jI a,jI b])]⟩:St)),LP 48 k (nav B48 [1,2,2,1,2,2]) n σ=some r.st:=by
 induction n with
 | zero=>intro g c d e i a b r f;cases f
 | succ n t =>
  intro g c d e i a b r f σ hσ
  rw [f48_l1] at f
  obtain ⟨o,h,f⟩:=Option.bind_eq_some_iff.1 f
  have hB:=f48_l1_b_ok k g c d e i a b o h
  unfold LP at t ⊢
  unfold EX at hB
  rw [loopK_succ,show firstReg (nav B48 [1,2,2,1,2,2])=3 from rfl,hσ,headK_some,hB]
  cases o with
  | o0 y j l m p q s =>
   refine t y j l m p q s r f _ ?_
   simp (disch:=first|apply D;decide|apply K;kernel_rfl) only [E,EE,↓reduceIte,simprocAttr,hh_48_3,hc_48_3]
  | o1 y j l m p q s u=>cases f;rfl
noncomputable def f48_j2 (k:Nat) (c d e:Int) (f:Bool) (g h:List Int) (a b:Int):Option R48 :=
 some (.o0 c h a b)
theorem f48_j2_ok (k g c d e f h a b r) (i:f48_j2 k g c d e f h a b=some r):finK Tryd.prog Tryd.f48 1 (EX 48 k (nav B48 [2,2,2]) (⟨23,[(5,.p (.int .u64 g)),(10,.own 30000),(11,jI c),(12,jI d),(13,.p (.bool e))],[(30000,.row true 1 5 (rowsOf (encI .u8) f)),(1000000,.box 68 [.sl 1 (rowsOf (encI .u8) h),jI a,jI b])]⟩:St))=some r.st:=by
 unfold f48_j2 at i
 cases i
 simp (disch:=first|apply D;decide|apply K;kernel_rfl) only [E,EE,↓reduceIte,simprocAttr,xk B48 [2,2,2] .sq rfl,rg B48 [1,2,2,2] 7 false rfl,hr 48 7 rfl,xk B48 [2,2,2,2] .rt rfl,fin48,R48.st]
noncomputable def f48_e (k:Nat) (m:Int) (o:List Int) (a b:Int):Option R48 :=
 Option.bind (f43 k m o a b) fun o1 =>
  match o1 with
  | .o0 p q s l =>
   Option.bind (f48_l1 k k 0 ((List.length l):Int) 0 l p q s) fun o8 =>
    match o8 with
    | .o0 _ _ _ _ _ _ _ =>
     none
    | .o1 c d e f g h i j =>
     f48_j2 k c d e f g h i j
theorem f48_e_ok (k f g a b r) (d:f48_e k f g a b=some r):finK Tryd.prog Tryd.f48 1 (EX 48 k (nav B48 []) (⟨23,[(0,.ptr 1000000 0),(1,jI f)],[(1000000,.box 68 [.sl 1 (rowsOf (encI .u8) g),jI a,jI b])]⟩:St))=some r.st:=by
 unfold f48_e at d
 obtain ⟨o1,t,d⟩:=bs d
 have e:=f43_ok k f g a b _ t
 cases o1 with
 | o0 u v w s =>
  (try dsimp only at d)
  (try simp only [NM,EE,R43.st] at e)
  obtain ⟨o8,x,d⟩:=bs d
  have c:=f48_l1_ok k k 0 ((List.length s):Int) 0 s u v w _ x
  simp (disch:=first|apply D;decide|apply K;kernel_rfl) only [E,EE,↓reduceIte,simprocAttr,xk B48 [] .sq rfl,rg B48 [1] 0 false rfl,hr 48 0 rfl,xk B48 [2] .sq rfl,rg B48 [1,2] 1 false rfl,hr 48 1 rfl,xk B48 [2,2] .sq rfl,xk B48 [1,2,2] .sq rfl,rg B48 [1,1,2,2] 2 false rfl,hr 48 2 rfl,callStep,CL,gv,List.contains,t_25,xk B48 [2,1,2,2] (.bk 0) rfl,xk B48 [2,2,1,2,2] .lp rfl,hh_48_3,hc_48_3,e]
  (try simp only [NM,EE] at c)
  rw [c _ (by simp (disch:=first|apply D;decide|apply K;kernel_rfl) only [E,EE,↓reduceIte,simprocAttr,hh_48_3,hc_48_3,e])]
  clear c
  cases o8 with
  | o0 _ _ _ _ _ _ _ =>
   (try dsimp only at d)
   cases d
  | o1 h i j l m o p q =>
   (try dsimp only at d)
   have hJ:=f48_j2_ok k h i j l m o p q _ d
   simp (disch:=first|apply D;decide|apply K;kernel_rfl) only [E,EE,↓reduceIte,simprocAttr,R48_l1.st,e]
   try simp only [NM,EE] at hJ
   exact hJ
noncomputable def f48 (k:Nat) (c:Int) (d:List Int) (a b:Int):Option R48:=match k with | 0=>none | k+1=>f48_e k c d a b
theorem f48_ok (k d e a b r) (f:f48 k d e a b=some r):CV k 48 [.ptr 1000000 0,jI d] [.box 68 [.sl 1 (rowsOf (encI .u8) e),jI a,jI b]]=some r.st:=by
 cases k with
 | zero=>cases f
 | succ k =>
  unfold CV
  rw [ev_call (F:=Tryd.f48) (c:=(nav B48 [])) rfl Tryd.func48 rfl rfl rfl rfl]
  exact f48_e_ok k d e a b r f
-- f40: f40 (*heliograph/octet.Reader).U8
inductive R40 where
 | o0 (y:Int) (a:List Int) (b c:Int)
noncomputable def R40.st:R40→V×List O×List O
 | .o0 y a b c=>(.p (.int .u8 y),[.box 68 [.sl 1 (rowsOf (encI .u8) a),jI b,jI c]],[])
noncomputable def f40_e (k:Nat) (c:List Int) (a b:Int):Option R40 :=
 Option.bind (f48 k 1 c a b) fun o1 =>
  match o1 with
  | .o0 d e f g =>
   some (.o0 (IntKind.u8.wrap d) e f g)
theorem f40_e_ok (k e a b r) (c:f40_e k e a b=some r):finK Tryd.prog Tryd.f40 1 (EX 40 k (nav B40 []) (⟨6,[(0,.ptr 1000000 0)],[(1000000,.box 68 [.sl 1 (rowsOf (encI .u8) e),jI a,jI b])]⟩:St))=some r.st:=by
 unfold f40_e at c
 obtain ⟨o1,f,c⟩:=bs c
 have d:=f48_ok k 1 e a b _ f
 cases o1 with
 | o0 g h i j =>
  (try dsimp only at c)
  (try simp only [NM,EE,R48.st] at d)
  cases c
  simp (disch:=first|apply D;decide|apply K;kernel_rfl) only [E,EE,↓reduceIte,simprocAttr,xk B40 [] .sq rfl,rg B40 [1] 0 false rfl,hr 40 0 rfl,xk B40 [2] .sq rfl,rg B40 [1,2] 1 false rfl,hr 40 1 rfl,callStep,CL,gv,List.contains,t_24,t_5,convV,xk B40 [2,2] .rt rfl,fin40,R40.st,d]
noncomputable def f40 (k:Nat) (c:List Int) (a b:Int):Option R40:=match k with | 0=>none | k+1=>f40_e k c a b
theorem f40_ok (k d a b r) (e:f40 k d a b=some r):CV k 40 [.ptr 1000000 0] [.box 68 [.sl 1 (rowsOf (encI .u8) d),jI a,jI b]]=some r.st:=by
 cases k with
 | zero=>cases e
 | succ k =>
  unfold CV
  rw [ev_call (F:=Tryd.f40) (c:=(nav B40 [])) rfl Tryd.func40 rfl rfl rfl rfl]
  exact f40_e_ok k d a b r e
-- f41: f41 (*heliograph/octet.Reader).Err
inductive R41 where
 | o0 (y:Int) (a:List Int) (b c:Int)
noncomputable def R41.st:R41→V×List O×List O
 | .o0 y a b c=>((jI y),[.box 68 [.sl 1 (rowsOf (encI .u8) a),jI b,jI c]],[])
noncomputable def f41_j1 (k:Nat) (d:Bool) (c:List Int) (b a:Int):Option R41 :=
 some (.o0 a c b a)
theorem f41_j1_ok (k c d a b r) (e:f41_j1 k c d a b=some r):finK Tryd.prog Tryd.f41 1 (EX 41 k (nav B41 [2,2]) (⟨10,[(0,.ptr 1000000 0),(4,.p (.bool c))],[(1000000,.box 68 [.sl 1 (rowsOf (encI .u8) d),jI a,jI b])]⟩:St))=some r.st:=by
 unfold f41_j1 at e
 cases e
 simp (disch:=first|apply D;decide|apply K;kernel_rfl) only [E,EE,↓reduceIte,simprocAttr,xk B41 [2,2] .sq rfl,rg B41 [1,2,2] 3 false rfl,hr 41 3 rfl,fieldAddrV,t_68,t_66,t_30,xk B41 [2,2,2] .rt rfl,fin41,R41.st]
noncomputable def f41_e (k:Nat) (c:List Int) (a b:Int):Option R41 :=
 f41_j1 k false c a b
theorem f41_e_ok (k c a b r) (d:f41_e k c a b=some r):finK Tryd.prog Tryd.f41 1 (EX 41 k (nav B41 []) (⟨10,[(0,.ptr 1000000 0)],[(1000000,.box 68 [.sl 1 (rowsOf (encI .u8) c),jI a,jI b])]⟩:St))=some r.st:=by
 unfold f41_e at d
 have hJ:=f41_j1_ok k false c a b _ d
 simp (disch:=first|apply D;decide|apply K;kernel_rfl) only [E,EE,↓reduceIte,simprocAttr,xk B41 [] .sq rfl,rg B41 [1] 0 false rfl,hr 41 0 rfl,xk B41 [2] .sq rfl,xk B41 [1,2] .sq rfl,rg B41 [1,1,2] 1 false rfl,hr 41 1 rfl,t_57,isRef,isNilP,xk B41 [2,1,2] (.cd 4) rfl,xk B41 [3,2,1,2] .sk rfl]
 try simp only [NM,EE] at hJ
 exact hJ
noncomputable def f41 (k:Nat) (c:List Int) (a b:Int):Option R41:=match k with | 0=>none | k+1=>f41_e k c a b
theorem f41_ok (k d a b r) (e:f41 k d a b=some r):CV k 41 [.ptr 1000000 0] [.box 68 [.sl 1 (rowsOf (encI .u8) d),jI a,jI b]]=some r.st:=by
 cases k with
 | zero=>cases e
 | succ k =>
  unfold CV
  rw [ev_call (F:=Tryd.f41) (c:=(nav B41 [])) rfl Tryd.func41 rfl rfl rfl rfl]
  exact f41_e_ok k d a b r e
-- f42: f42 slices.Index[[]byte,byte]
inductive R42 where
 | o0 (y:Int)
noncomputable def R42.st:R42→V×List O×List O
 | .o0 y=>((jI y),[],[])
inductive R42_l1 where
 | o0 (y:Int)
 | o1 (y:List Int) (a b c:Int)
 | o2 (y:List Int) (a b c:Int) (d:Bool)
noncomputable def R42_l1.st:R42_l1→Out×St
 | .o0 y=>(.ret,(⟨19,[(4,jI y)],[]⟩:St))
 | .o1 y a b c=>(.norm,(⟨19,[(0,.sl 1 (rowsOf (encI .u8) y)),(1,.p (.int .u8 a)),(7,jI b),(8,jI c)],[]⟩:St))
 | .o2 y a b c d=>(.exit 0,(⟨19,[(0,.sl 1 (rowsOf (encI .u8) y)),(1,.p (.int .u8 a)),(7,jI b),(8,jI c),(9,.p (.bool d))],[]⟩:St))
noncomputable def f42_l1_j2 (k:Nat) (a:List Int) (b f c d:Int) (e:Bool):Option R42_l1 :=
 some (.o1 a b c (IntKind.i64.wrap (d+(1:Int))))
theorem f42_l1_j2_ok (k b c d e f a r) (g:f42_l1_j2 k b c d e f a=some r):EX 42 k (nav B42 [2,2,2,1,2,2,1,2]) (⟨19,[(0,.sl 1 (rowsOf (encI .u8) b)),(1,.p (.int .u8 c)),(5,jI d),(7,jI e),(8,jI f),(16,.p (.bool a))],[]⟩:St)=some r.st:=by
 unfold f42_l1_j2 at g
 cases g
 simp (disch:=first|apply D;decide|apply K;kernel_rfl) only [E,EE,↓reduceIte,simprocAttr,rg B42 [2,2,2,1,2,2,1,2] 6 false rfl,hr 42 6 rfl,R42_l1.st]
noncomputable def f42_l1_j1 (k:Nat) (b:List Int) (c d a:Int) (f:Bool):Option R42_l1 :=
 ifE ((0:Int)≤a) (
  Option.bind (b[(Int.toNat a)]?) fun e =>
   cond ((c==e))
    (some (.o0 a))
    (f42_l1_j2 k b c a d a false))
theorem f42_l1_j1_ok (k c d e b i r) (a:f42_l1_j1 k c d e b i=some r):EX 42 k (nav B42 [2,2,1,2,2,1,2]) (⟨19,[(0,.sl 1 (rowsOf (encI .u8) c)),(1,.p (.int .u8 d)),(7,jI e),(8,jI b),(9,.p (.bool i))],[]⟩:St)=some r.st:=by
 unfold f42_l1_j1 at a
 obtain ⟨f,a⟩:=ifE_some.1 a
 obtain ⟨j,g,a⟩:=bs a
 simp (disch:=first|apply D;decide|apply K;kernel_rfl) only [E,EE,↓reduceIte,simprocAttr,xk B42 [2,2,1,2,2,1,2] .sq rfl,xk B42 [1,2,2,1,2,2,1,2] (.bk 1) rfl,xk B42 [2,1,2,2,1,2,2,1,2] .sq rfl,rg B42 [1,2,1,2,2,1,2,2,1,2] 3 false rfl,hr 42 3 rfl,xk B42 [2,2,1,2,2,1,2,2,1,2] .sq rfl,rg B42 [1,2,2,1,2,2,1,2,2,1,2] 4 false rfl,hr 42 4 rfl,indexAddrV,t_25,t_5,encI_eq,xk B42 [2,2,2,1,2,2,1,2,2,1,2] (.cd 16) rfl,f,g]
 rcases cond_some a with ⟨h,a⟩ | ⟨h,a⟩
 ·cases a
  simp (disch:=first|apply D;decide|apply K;kernel_rfl) only [E,EE,↓reduceIte,simprocAttr,xk B42 [2,2,2,2,1,2,2,1,2,2,1,2] .sq rfl,rg B42 [1,2,2,2,2,1,2,2,1,2,2,1,2] 5 false rfl,hr 42 5 rfl,xk B42 [2,2,2,2,2,1,2,2,1,2,2,1,2] .rt rfl,R42_l1.st,f,g,h]
 ·have hJ:=f42_l1_j2_ok k c d b e b false _ a
  simp (disch:=first|apply D;decide|apply K;kernel_rfl) only [E,EE,↓reduceIte,simprocAttr,xk B42 [3,2,2,2,1,2,2,1,2,2,1,2] .sk rfl,f,g,h]
  try simp only [NM,EE] at hJ
  exact hJ
noncomputable def f42_l1_b (k:Nat) (c:List Int) (d a b:Int):Option R42_l1 :=
 cond ((decide (b<a)))
  (f42_l1_j1 k c d a b true)
  (some (.o2 c d a b false))
theorem f42_l1_b_ok (k b c d e r) (a:f42_l1_b k b c d e=some r):EX 42 k (nav B42 [1,2,2,1,2]) (⟨19,[(0,.sl 1 (rowsOf (encI .u8) b)),(1,.p (.int .u8 c)),(7,jI d),(8,jI e)],[]⟩:St)=some r.st:=by
 unfold f42_l1_b at a
 simp (disch:=first|apply D;decide|apply K;kernel_rfl) only [E,EE,↓reduceIte,simprocAttr,xk B42 [1,2,2,1,2] .sq rfl,rg B42 [1,1,2,2,1,2] 2 false rfl,hr 42 2 rfl,xk B42 [2,1,2,2,1,2] .sq rfl,xk B42 [1,2,1,2,2,1,2] (.cd 9) rfl]
 rcases cond_some a with ⟨f,a⟩ | ⟨f,a⟩
 ·have hJ:=f42_l1_j1_ok k b c d e true _ a
  simp (disch:=first|apply D;decide|apply K;kernel_rfl) only [E,EE,↓reduceIte,simprocAttr,xk B42 [2,1,2,1,2,2,1,2] .sk rfl,f]
  try simp only [NM,EE] at hJ
  exact hJ
 ·cases a
  simp (disch:=first|apply D;decide|apply K;kernel_rfl) only [E,EE,↓reduceIte,simprocAttr,xk B42 [3,1,2,1,2,2,1,2] (.ex 0) rfl,R42_l1.st,f]
noncomputable def f42_l1 (k:Nat):Nat→(List Int)→Int→Int→Int→Option R42_l1
 | 0,_,_,_,_=>none
 | n+1,e,f,g,h=>Option.bind (f42_l1_b k e f g h) fun o =>
  match o with
  | .o0 y=>some (.o0 y)
  | .o1 y a b c=>f42_l1 k n y a b c
  | .o2 y a b c d=>some (.o2 y a b c d)
theorem f42_l1_ok (k n:Nat):∀ (b:List Int) (c d e:Int) (r:R42_l1) (a:f42_l1 k n b c d e=some r) (σ:St) (hσ:headR (hints.head 42 2) (hints.canon 42 2) σ=some (⟨19,[(0,.sl 1 (rowsOf (encI .u8) b)),(1,.p (.int .u8 c)),(7,jI d),(8,jI e)],[]⟩:St)),LP 42 k (nav B42 [1,2,2,1,2]) n σ=some r.st:=by
 induction n with
 | zero=>intro b c d e r a;cases a
 | succ n j =>
  intro b c d e r a σ hσ
  rw [f42_l1] at a
  obtain ⟨o,h,a⟩:=Option.bind_eq_some_iff.1 a
  have hB:=f42_l1_b_ok k b c d e o h
  unfold LP at j ⊢
  unfold EX at hB
  rw [loopK_succ,show firstReg (nav B42 [1,2,2,1,2])=2 from rfl,hσ,headK_some,hB]
  cases o with
  | o0 y=>cases a;rfl
  | o1 y f g i =>
   refine j y f g i r a _ ?_
   simp (disch:=first|apply D;decide|apply K;kernel_rfl) only [E,EE,↓reduceIte,simprocAttr,hh_42_2,hc_42_2]
  | o2 y f g i l=>cases a;rfl
noncomputable def f42_j2 (k:Nat) (a:List Int) (b c d:Int) (e:Bool):Option R42 :=
 some (.o0 (-1))
theorem f42_j2_ok (k a b c d e r) (f:f42_j2 k a b c d e=some r):finK Tryd.prog Tryd.f42 0 (EX 42 k (nav B42 [2,2]) (⟨19,[(0,.sl 1 (rowsOf (encI .u8) a)),(1,.p (.int .u8 b)),(7,jI c),(8,jI d),(9,.p (.bool e))],[]⟩:St))=some r.st:=by
 unfold f42_j2 at f
 cases f
 simp (disch:=first|apply D;decide|apply K;kernel_rfl) only [E,EE,↓reduceIte,simprocAttr,xk B42 [2,2] .sq rfl,rg B42 [1,2,2] 7 false rfl,hr 42 7 rfl,xk B42 [2,2,2] .rt rfl,fin42,R42.st]
noncomputable def f42_e (k:Nat) (a:List Int) (b:Int):Option R42 :=
 Option.bind (f42_l1 k k a b ((List.length a):Int) 0) fun o1 =>
  match o1 with
  | .o0 c =>
   some (.o0 c)
  | .o1 _ _ _ _ =>
   none
  | .o2 d e f g h =>
   f42_j2 k d e f g h
theorem f42_e_ok (k c d r) (a:f42_e k c d=some r):finK Tryd.prog Tryd.f42 0 (EX 42 k (nav B42 []) (⟨19,[(0,.sl 1 (rowsOf (encI .u8) c)),(1,.p (.int .u8 d))],[]⟩:St))=some r.st:=by
 unfold f42_e at a
 obtain ⟨o1,e,a⟩:=bs a
 have b:=f42_l1_ok k k c d ((List.length c):Int) 0 _ e
 simp (disch:=first|apply D;decide|apply K;kernel_rfl) only [E,EE,↓reduceIte,simprocAttr,xk B42 [] .sq rfl,rg B42 [1] 0 false rfl,hr 42 0 rfl,xk B42 [2] .sq rfl,xk B42 [1,2] .sq rfl,rg B42 [1,1,2] 1 false rfl,hr 42 1 rfl,t_25,xk B42 [2,1,2] (.bk 0) rfl,xk B42 [2,2,1,2] .lp rfl,hh_42_2,hc_42_2]
 (try simp only [NM,EE] at b)
 rw [b _ (by simp (disch:=first|apply D;decide|apply K;kernel_rfl) only [E,EE,↓reduceIte,simprocAttr,hh_42_2,hc_42_2])]
 clear b
 cases o1 with
 | o0 l =>
  (try dsimp only at a)
  cases a
  simp (disch:=first|apply D;decide|apply K;kernel_rfl) only [E,EE,↓reduceIte,simprocAttr,R42_l1.st,fin42,R42.st]
 | o1 _ _ _ _ =>
  (try dsimp only at a)
  cases a
 | o2 f g h i j =>
  (try dsimp only at a)
  have hJ:=f42_j2_ok k f g h i j _ a
  simp (disch:=first|apply D;decide|apply K;kernel_rfl) only [E,EE,↓reduceIte,simprocAttr,R42_l1.st]
  try simp only [NM,EE] at hJ
  exact hJ
noncomputable def f42 (k:Nat) (a:List Int) (b:Int):Option R42:=match k with | 0=>none | k+1=>f42_e k a b
theorem f42_ok (k a b r) (d:f42 k a b=some r):CV k 42 [.sl 1 (rowsOf (encI .u8) a),.p (.int .u8 b)] []=some r.st:=by
 cases k with
 | zero=>cases d
 | succ k =>
  unfold CV
  rw [ev_call (F:=Tryd.f42) (c:=(nav B42 [])) rfl Tryd.func42 rfl rfl rfl rfl]
  exact f42_e_ok k a b r d
end Go.Proofs.YtlelaenalbkbmaaDoorV