/- What the program's functions answer: plain functions,and that the interpreter answers what they do. Written by a program of this session,out of the translation. -/
import Derived.Test.YtbnnmplkbpgcaaaDoorVP3
namespace Go.Proofs.YtbnnmplkbpgcaaaDoorV
open Go
set_option linter.unusedVariables false
set_option linter.unusedSimpArgs false
set_option maxRecDepth 8000
set_option maxHeartbeats 4000000
-- f46: f46 (*heliograph/octet.Reader).Left
inductive R46 where
 | o0 (y:Int) (a:List Int) (b c:Int)
noncomputable def R46.st:R46→V×List O×List O
 | .o0 y a b c=>((jI y),[.box 91 [jB a,jI b,jI c]],[])
noncomputable def f46_j1 (k:Nat) (d:Bool) (c:List Int) (a b:Int):Option R46 :=
 some (.o0 (IntKind.i64.wrap (((List.length c):Int) - a)) c a b)
theorem f46_j1_ok (k c d a b r) (e:f46_j1 k c d a b=some r):finK Tryd.prog Tryd.f46 1 (EX 46 k (nav B46 [2,2]) (⟨17,[(0,.ptr 1000000 0),(4,jT c)],[(1000000,.box 91 [jB d,jI a,jI b])]⟩:St))=some r.st:=by
 unfold f46_j1 at e
 cases e
 simp (disch:=first|apply D;decide|apply K;kernel_rfl) only [W,simprocAttr,xk B46 [2,2] .sq rfl,rg B46 [1,2,2] 3 true rfl,hr 46 3 rfl,fieldAddrV,t_91,t_89,t_22,t_3,xk B46 [2,2,2] .rt rfl,fin46,R46.st]
noncomputable def f46_e (k:Nat) (c:List Int) (a b:Int):Option R46 :=
 f46_j1 k false c a b
theorem f46_e_ok (k c a b r) (d:f46_e k c a b=some r):finK Tryd.prog Tryd.f46 1 (EX 46 k (nav B46 []) (⟨17,[(0,.ptr 1000000 0)],[(1000000,.box 91 [jB c,jI a,jI b])]⟩:St))=some r.st:=by
 unfold f46_e at d
 have hJ:=f46_j1_ok k false c a b _ d
 simp (disch:=first|apply D;decide|apply K;kernel_rfl) only [W,simprocAttr,xk B46 [] .sq rfl,rg B46 [1] 0 false rfl,hr 46 0 rfl,xk B46 [2] .sq rfl,xk B46 [1,2] .sq rfl,rg B46 [1,1,2] 1 false rfl,hr 46 1 rfl,t_69,isRef,isNilP,xk B46 [2,1,2] (.cd 4) rfl,xk B46 [3,2,1,2] .sk rfl]
 try simp only [NM,EE] at hJ
 exact hJ
noncomputable def f46 (k:Nat) (c:List Int) (a b:Int):Option R46:=match k with | 0=>none | k+1=>f46_e k c a b
theorem f46_ok (k d a b r) (e:f46 k d a b=some r):CV k 46 [.ptr 1000000 0] [.box 91 [jB d,jI a,jI b]]=some r.st:=by
 cases k with
 | zero=>cases e
 | succ k =>
  unfold CV
  rw [ev_call (F:=Tryd.f46) (c:=(nav B46 [])) rfl Tryd.func46 rfl rfl rfl rfl]
  exact f46_e_ok k d a b r e
-- f26: f26 heliograph/cbor.Decode
inductive R26 where
 | o0 (y a:Int) (b:List Int) (c:List T50) (d e:Int)
noncomputable def R26.st:R26→V×List O×List O
 | .o0 y a b c d e=>(V.tup [.agg [jI y,jL a,jB b,.sl 4 (rowsOf encT50 c)],jI d,jI e],[],[])
noncomputable def f26_j1 (k:Nat) (i:List Int) (p:Int) (j:Bool) (q f:Int) (g:List Int) (h:List T50) (l:List Int) (a b m c:Int) (d:List Int) (e:List T50):Option R26 :=
 Option.bind (f46 k l a b) fun o1 =>
  match o1 with
  | .o0 o s t u =>
   some (.o0 m c d e (IntKind.i64.wrap (((List.length i):Int) - o)) 0)
theorem f26_j1_ok (k o p i q c d e m a b s f g h r) (j:f26_j1 k o p i q c d e m a b s f g h=some r):finK Tryd.prog Tryd.f26 0 (EX 26 k (nav B26 [2,2,2,2]) (⟨25,[(0,jB o),(2,.ptr 2 0),(5,.ptr 9 0),(6,.ptr 6 0),(7,jI p),(16,jT i)],[(2,.box 50 [jI q,jL c,jB d,.sl 4 (rowsOf encT50 e)]),(9,.box 91 [jB m,jI a,jI b]),(6,.box 50 [jI s,jL f,jB g,.sl 4 (rowsOf encT50 h)])]⟩:St))=some r.st:=by
 unfold f26_j1 at j
 obtain ⟨o1,t,j⟩:=bs j
 have l:=f46_ok k m a b _ t
 cases o1 with
 | o0 u v w x =>
  (try dsimp only at j)
  (try simp only [NM,EE,R46.st] at l)
  cases j
  simp (disch:=first|apply D;decide|apply K;kernel_rfl) only [W,simprocAttr,xk B26 [2,2,2,2] .sq rfl,rg B26 [1,2,2,2,2] 5 true rfl,hr 26 5 rfl,t_50,t_22,callStep,CL,gv,List.contains,xk B26 [2,2,2,2,2] .rt rfl,fin26,R26.st,l]
noncomputable def f26_e (k:Nat) (i:List Int):Option R26 :=
 Option.bind (f44 k i) fun o1 =>
  match o1 with
  | .o0 j l m =>
   Option.bind (f45 k 4 m j l) fun o7 =>
    match o7 with
    | .o0 b c d e a f g h =>
     cond ((a != 0))
      (some (.o0 0 0 [] [] 0 a))
      (f26_j1 k i a false 0 0 [] [] f g h b c d e)
theorem f26_e_ok (k e r) (a:f26_e k e=some r):finK Tryd.prog Tryd.f26 0 (EX 26 k (nav B26 []) (⟨25,[(0,jB e)],[]⟩:St))=some r.st:=by
 unfold f26_e at a
 obtain ⟨o1,p,a⟩:=bs a
 have b:=f44_ok k e _ p
 cases o1 with
 | o0 q s t =>
  (try dsimp only at a)
  (try simp only [NM,EE,R44.st] at b)
  obtain ⟨o7,u,a⟩:=bs a
  have c:=f45_ok k 4 t q s _ u
  cases o7 with
  | o0 f g h i j l m o =>
   (try dsimp only at a)
   (try simp only [NM,EE,R45.st] at c)
   simp (disch:=first|apply D;decide|apply K;kernel_rfl) only [W,simprocAttr,xk B26 [] .sq rfl,rg B26 [1] 0 false rfl,hr_26_0,t_50,xk B26 [2] .sq rfl,rg B26 [1,2] 1 false rfl,hr_26_1,callStep,CL,gv,List.contains,xk B26 [2,2] .sq rfl,rg B26 [1,2,2] 2 false rfl,hr 26 2 rfl,xk B26 [2,2,2] .sq rfl,xk B26 [1,2,2,2] .sq rfl,rg B26 [1,1,2,2,2] 3 false rfl,hr 26 3 rfl,xk B26 [2,1,2,2,2] (.cd 16) rfl,b,c]
   rcases cond_some a with ⟨d,a⟩ | ⟨d,a⟩
   ·cases a
    simp (disch:=first|apply D;decide|apply K;kernel_rfl) only [W,simprocAttr,xk B26 [2,2,1,2,2,2] .sq rfl,rg B26 [1,2,2,1,2,2,2] 4 false rfl,hr_26_4,bl_50,t_50,xk B26 [2,2,2,1,2,2,2] .rt rfl,fin26,R26.st,b,c,d]
   ·have hJ:=f26_j1_ok k e j false 0 0 [] [] l m o f g h i _ a
    simp (disch:=first|apply D;decide|apply K;kernel_rfl) only [W,simprocAttr,xk B26 [3,2,1,2,2,2] .sk rfl,b,c,d]
    try simp only [NM,EE] at hJ
    exact hJ
noncomputable def f26 (k:Nat) (a:List Int):Option R26:=match k with | 0=>none | k+1=>f26_e k a
theorem f26_ok (k a r) (b:f26 k a=some r):CV k 26 [jB a] []=some r.st:=by
 cases k with
 | zero=>cases b
 | succ k =>
  unfold CV
  rw [ev_call (F:=Tryd.f26) (c:=(nav B26 [])) rfl Tryd.func26 rfl rfl rfl rfl]
  exact f26_e_ok k a r b
-- f68: f68 heliograph/sum.sum[uint16]
inductive R68 where
 | o0 (y:Int)
noncomputable def R68.st:R68→V×List O×List O
 | .o0 y=>(.p (.int .u16 y),[],[])
inductive R68_l1_l2 where
 | o0 (y a:Int) (b:List Int) (c d e:Int)
 | o1 (y a:Int) (b:List Int) (c d e:Int) (f:Bool)
noncomputable def R68_l1_l2.st:R68_l1_l2→Out×St
 | .o0 y a b c d e=>(.norm,(⟨36,[(1,.p (.int .u16 y)),(5,.p (.int .u16 a)),(11,jB b),(12,jI c),(13,jI d),(21,jI e)],[]⟩:St))
 | .o1 y a b c d e f=>(.exit 2,(⟨36,[(1,.p (.int .u16 y)),(5,.p (.int .u16 a)),(11,jB b),(12,jI c),(13,jI d),(21,jI e),(22,jT f)],[]⟩:St))
noncomputable def f68_l1_l2_j2 (k:Nat) (e f:Int) (a:List Int) (b c d:Int):Option R68_l1_l2 :=
 some (R68_l1_l2.o0 e f a b c (IntKind.i64.wrap (d+(1:Int))))
theorem f68_l1_l2_j2_ok (k e f a b c d r) (g:f68_l1_l2_j2 k e f a b c d=some r):EX 68 k (nav B68 [2,2,2,1,2,2,2,2,2,1,2,2,1,2,2,1,2,2]) (⟨36,[(1,.p (.int .u16 e)),(5,.p (.int .u16 f)),(11,jB a),(12,jI b),(13,jI c),(21,jI d)],[]⟩:St)=some r.st:=by
 unfold f68_l1_l2_j2 at g
 cases g
 simp (disch:=first|apply D;decide|apply K;kernel_rfl) only [W,simprocAttr,rg B68 [2,2,2,1,2,2,2,2,2,1,2,2,1,2,2,1,2,2] 12 false rfl,hr 68 12 rfl,R68_l1_l2.st]
noncomputable def f68_l1_l2_j3 (k:Nat) (e f:Int) (a:List Int) (b c d:Int) (g:Bool):Option R68_l1_l2 :=
 some (R68_l1_l2.o0 e f a b c (IntKind.i64.wrap (d+(1:Int))))
theorem f68_l1_l2_j3_ok (k f g a b c d e r) (h:f68_l1_l2_j3 k f g a b c d e=some r):EX 68 k (nav B68 [2,2,2,1,2,2,2,2,2,1,2,2,1,2,2,1,2,2]) (⟨36,[(1,.p (.int .u16 f)),(5,.p (.int .u16 g)),(11,jB a),(12,jI b),(13,jI c),(21,jI d),(28,jT e)],[]⟩:St)=some r.st:=by
 unfold f68_l1_l2_j3 at h
 cases h
 simp (disch:=first|apply D;decide|apply K;kernel_rfl) only [W,simprocAttr,rg B68 [2,2,2,1,2,2,2,2,2,1,2,2,1,2,2,1,2,2] 12 false rfl,hr 68 12 rfl,R68_l1_l2.st]
noncomputable def f68_l1_l2_j1 (k:Nat) (e f:Int) (a:List Int) (b c d:Int) (g:Bool):Option R68_l1_l2 :=
 cond (((IntKind.u16.wrap ((BitVec.ofInt (IntKind.bits .u16) f &&& BitVec.ofInt (IntKind.bits .u16) (1:Int)).toNat:Nat))==1))
  (f68_l1_l2_j2 k e ((IntKind.u16.wrap ((BitVec.ofInt (IntKind.bits .u16) (Int.fdiv f (2 ^ (min 1 (IntKind.bits .u16)))) ^^^ BitVec.ofInt (IntKind.bits .u16) e).toNat:Nat))) a b c d)
  (f68_l1_l2_j3 k e (Int.fdiv f (2 ^ (min 1 (IntKind.bits .u16)))) a b c d false)
theorem f68_l1_l2_j1_ok (k f h a b c d g r) (e:f68_l1_l2_j1 k f h a b c d g=some r):EX 68 k (nav B68 [2,2,1,2,2,2,2,2,1,2,2,1,2,2,1,2,2]) (⟨36,[(1,.p (.int .u16 f)),(5,.p (.int .u16 h)),(11,jB a),(12,jI b),(13,jI c),(21,jI d),(22,jT g)],[]⟩:St)=some r.st:=by
 unfold f68_l1_l2_j1 at e
 simp (disch:=first|apply D;decide|apply K;kernel_rfl) only [W,simprocAttr,xk B68 [2,2,1,2,2,2,2,2,1,2,2,1,2,2,1,2,2] .sq rfl,xk B68 [1,2,2,1,2,2,2,2,2,1,2,2,1,2,2,1,2,2] (.bk 3) rfl,xk B68 [2,1,2,2,1,2,2,2,2,2,1,2,2,1,2,2,1,2,2] .sq rfl,rg B68 [1,2,1,2,2,1,2,2,2,2,2,1,2,2,1,2,2,1,2,2] 8 false rfl,hr 68 8 rfl,xk B68 [2,2,1,2,2,1,2,2,2,2,2,1,2,2,1,2,2,1,2,2] .sq rfl,rg B68 [1,2,2,1,2,2,1,2,2,2,2,2,1,2,2,1,2,2,1,2,2] 9 false rfl,hr 68 9 rfl,shiftV,xk B68 [2,2,2,1,2,2,1,2,2,2,2,2,1,2,2,1,2,2,1,2,2] .sq rfl,rg B68 [1,2,2,2,1,2,2,1,2,2,2,2,2,1,2,2,1,2,2,1,2,2] 10 false rfl,hr 68 10 rfl,xk B68 [2,2,2,2,1,2,2,1,2,2,2,2,2,1,2,2,1,2,2,1,2,2] (.cd 28) rfl]
 rcases cond_some e with ⟨i,e⟩ | ⟨i,e⟩
 ·have hJ:=f68_l1_l2_j2_ok k f ((IntKind.u16.wrap ((BitVec.ofInt (IntKind.bits .u16) (Int.fdiv h (2 ^ (min 1 (IntKind.bits .u16)))) ^^^ BitVec.ofInt (IntKind.bits .u16) f).toNat:Nat))) a b c d _ e
  simp (disch:=first|apply D;decide|apply K;kernel_rfl) only [W,simprocAttr,rg B68 [2,2,2,2,2,1,2,2,1,2,2,2,2,2,1,2,2,1,2,2,1,2,2] 11 false rfl,hr 68 11 rfl,i]
  try simp only [NM,EE] at hJ
  exact hJ
 ·have hJ:=f68_l1_l2_j3_ok k f (Int.fdiv h (2 ^ (min 1 (IntKind.bits .u16)))) a b c d false _ e
  simp (disch:=first|apply D;decide|apply K;kernel_rfl) only [W,simprocAttr,xk B68 [3,2,2,2,2,1,2,2,1,2,2,2,2,2,1,2,2,1,2,2,1,2,2] .sk rfl,i]
  try simp only [NM,EE] at hJ
  exact hJ
noncomputable def f68_l1_l2_b (k:Nat) (e f:Int) (b:List Int) (c d a:Int):Option R68_l1_l2 :=
 cond ((decide (a<8)))
  (f68_l1_l2_j1 k e f b c d a true)
  (some (R68_l1_l2.o1 e f b c d a false))
theorem f68_l1_l2_b_ok (k f g a b c d r) (e:f68_l1_l2_b k f g a b c d=some r):EX 68 k (nav B68 [1,2,2,2,2,2,1,2,2,1,2,2,1,2,2]) (⟨36,[(1,.p (.int .u16 f)),(5,.p (.int .u16 g)),(11,jB a),(12,jI b),(13,jI c),(21,jI d)],[]⟩:St)=some r.st:=by
 unfold f68_l1_l2_b at e
 simp (disch:=first|apply D;decide|apply K;kernel_rfl) only [W,simprocAttr,xk B68 [1,2,2,2,2,2,1,2,2,1,2,2,1,2,2] .sq rfl,rg B68 [1,1,2,2,2,2,2,1,2,2,1,2,2,1,2,2] 7 false rfl,hr 68 7 rfl,xk B68 [2,1,2,2,2,2,2,1,2,2,1,2,2,1,2,2] .sq rfl,xk B68 [1,2,1,2,2,2,2,2,1,2,2,1,2,2,1,2,2] (.cd 22) rfl]
 rcases cond_some e with ⟨h,e⟩ | ⟨h,e⟩
 ·have hJ:=f68_l1_l2_j1_ok k f g a b c d true _ e
  simp (disch:=first|apply D;decide|apply K;kernel_rfl) only [W,simprocAttr,xk B68 [2,1,2,1,2,2,2,2,2,1,2,2,1,2,2,1,2,2] .sk rfl,h]
  try simp only [NM,EE] at hJ
  exact hJ
 ·cases e
  simp (disch:=first|apply D;decide|apply K;kernel_rfl) only [W,simprocAttr,xk B68 [3,1,2,1,2,2,2,2,2,1,2,2,1,2,2,1,2,2] (.ex 2) rfl,R68_l1_l2.st,h]
noncomputable def f68_l1_l2 (k:Nat):Nat→Int→Int→(List Int)→Int→Int→Int→Option R68_l1_l2
 | 0,_,_,_,_,_,_=>none
 | n+1,l,m,f,g,h,i=>Option.bind (f68_l1_l2_b k l m f g h i) fun o =>
  match o with
  | .o0 y a b c d e=>f68_l1_l2 k n y a b c d e
  | .o1 y a b c d e j=>some (.o1 y a b c d e j)
theorem f68_l1_l2_ok (k n:Nat):∀ (f g:Int) (a:List Int) (b c d:Int) (r:R68_l1_l2) (e:f68_l1_l2 k n f g a b c d=some r) (σ:St) (hσ:headR (hints.head 68 7) (hints.canon 68 7) σ=some (⟨36,[(1,.p (.int .u16 f)),(5,.p (.int .u16 g)),(11,jB a),(12,jI b),(13,jI c),(21,jI d)],[]⟩:St)),LP 68 k (nav B68 [1,2,2,2,2,2,1,2,2,1,2,2,1,2,2]) n σ=some r.st:=by
 induction n with
 | zero=>intro f g a b c d r e;cases e
 | succ n q =>
  intro f g a b c d r e σ hσ
  rw [f68_l1_l2] at e
  obtain ⟨o,h,e⟩:=Option.bind_eq_some_iff.1 e
  have hB:=f68_l1_l2_b_ok k f g a b c d o h
  unfold LP at q ⊢
  unfold EX at hB
  rw [loopK_succ,show firstReg (nav B68 [1,2,2,2,2,2,1,2,2,1,2,2,1,2,2])=7 from rfl,hσ,headK_some,hB]
  cases o with
  | o0 y i j l m p =>
   refine q y i j l m p r e _ ?_
   simp (disch:=first|apply D;decide|apply K;kernel_rfl) only [W,simprocAttr,hh_68_7,hc_68_7]
  | o1 y i j l m p s=>cases e;rfl
inductive R68_l1 where
 | o0 (y a:Int) (b:List Int) (c d:Int)
 | o1 (y a:Int) (b:List Int) (c d:Int) (e:Bool)
noncomputable def R68_l1.st:R68_l1→Out×St
 | .o0 y a b c d=>(.norm,(⟨36,[(1,.p (.int .u16 y)),(5,.p (.int .u16 a)),(11,jB b),(12,jI c),(13,jI d)],[]⟩:St))
 | .o1 y a b c d e=>(.exit 0,(⟨36,[(1,.p (.int .u16 y)),(5,.p (.int .u16 a)),(11,jB b),(12,jI c),(13,jI d),(14,jT e)],[]⟩:St))
noncomputable def f68_l1_j3 (k:Nat) (d e:Int) (a:List Int) (b c f:Int) (g:Bool):Option R68_l1 :=
 some (.o0 d e a b (IntKind.i64.wrap (c+(1:Int))))
theorem f68_l1_j3_ok (k f g a b c d e r) (h:f68_l1_j3 k f g a b c d e=some r):EX 68 k (nav B68 [2,2,2,1,2,2,1,2,2]) (⟨36,[(1,.p (.int .u16 f)),(5,.p (.int .u16 g)),(11,jB a),(12,jI b),(13,jI c),(21,jI d),(22,jT e)],[]⟩:St)=some r.st:=by
 unfold f68_l1_j3 at h
 cases h
 simp (disch:=first|apply D;decide|apply K;kernel_rfl) only [W,simprocAttr,rg B68 [2,2,2,1,2,2,1,2,2] 13 false rfl,hr 68 13 rfl,R68_l1.st]
noncomputable def f68_l1_j1 (k:Nat) (h i:Int) (b:List Int) (c a:Int) (j:Bool):Option R68_l1 :=
 ifE ((0:Int)≤a) (
  Option.bind (b[(Int.toNat a)]?) fun l =>
   Option.bind (f68_l1_l2 k k h ((IntKind.u16.wrap ((BitVec.ofInt (IntKind.bits .u16) i ^^^ BitVec.ofInt (IntKind.bits .u16) (IntKind.u16.wrap l)).toNat:Nat))) b c a 0) fun o4 =>
    match o4 with
    | .o0 _ _ _ _ _ _ =>
     none
    | .o1 m o p d e f g =>
     f68_l1_j3 k m o p d e f g)
theorem f68_l1_j1_ok (k g h b c d f r) (a:f68_l1_j1 k g h b c d f=some r):EX 68 k (nav B68 [2,2,1,2,2,1,2,2]) (⟨36,[(1,.p (.int .u16 g)),(5,.p (.int .u16 h)),(11,jB b),(12,jI c),(13,jI d),(14,jT f)],[]⟩:St)=some r.st:=by
 unfold f68_l1_j1 at a
 obtain ⟨i,a⟩:=ifE_some.1 a
 obtain ⟨q,j,a⟩:=bs a
 obtain ⟨o4,s,a⟩:=bs a
 have e:=f68_l1_l2_ok k k g ((IntKind.u16.wrap ((BitVec.ofInt (IntKind.bits .u16) h ^^^ BitVec.ofInt (IntKind.bits .u16) (IntKind.u16.wrap q)).toNat:Nat))) b c d 0 _ s
 simp (disch:=first|apply D;decide|apply K;kernel_rfl) only [W,simprocAttr,xk B68 [2,2,1,2,2,1,2,2] .sq rfl,xk B68 [1,2,2,1,2,2,1,2,2] (.bk 1) rfl,xk B68 [2,1,2,2,1,2,2,1,2,2] .sq rfl,rg B68 [1,2,1,2,2,1,2,2,1,2,2] 4 false rfl,hr 68 4 rfl,indexAddrV,t_22,t_5,encI_eq,xk B68 [2,2,1,2,2,1,2,2,1,2,2] .sq rfl,rg B68 [1,2,2,1,2,2,1,2,2,1,2,2] 5 false rfl,hr 68 5 rfl,t_80,convV,xk B68 [2,2,2,1,2,2,1,2,2,1,2,2] .sq rfl,rg B68 [1,2,2,2,1,2,2,1,2,2,1,2,2] 6 false rfl,hr 68 6 rfl,xk B68 [2,2,2,2,1,2,2,1,2,2,1,2,2] (.bk 2) rfl,xk B68 [2,2,2,2,2,1,2,2,1,2,2,1,2,2] .lp rfl,hh_68_7,hc_68_7,i,j]
 (try simp only [NM,EE] at e)
 rw [e _ (by simp (disch:=first|apply D;decide|apply K;kernel_rfl) only [W,simprocAttr,hh_68_7,hc_68_7,i,j])]
 clear e
 cases o4 with
 | o0 _ _ _ _ _ _ =>
  (try dsimp only at a)
  cases a
 | o1 t u v l m o p =>
  (try dsimp only at a)
  have hJ:=f68_l1_j3_ok k t u v l m o p _ a
  simp (disch:=first|apply D;decide|apply K;kernel_rfl) only [W,simprocAttr,R68_l1_l2.st,i,j]
  try simp only [NM,EE] at hJ
  exact hJ
noncomputable def f68_l1_b (k:Nat) (d e:Int) (c:List Int) (a b:Int):Option R68_l1 :=
 cond ((decide (b<a)))
  (f68_l1_j1 k d e c a b true)
  (some (.o1 d e c a b false))
theorem f68_l1_b_ok (k e f a b c r) (d:f68_l1_b k e f a b c=some r):EX 68 k (nav B68 [1,2,2,1,2,2]) (⟨36,[(1,.p (.int .u16 e)),(5,.p (.int .u16 f)),(11,jB a),(12,jI b),(13,jI c)],[]⟩:St)=some r.st:=by
 unfold f68_l1_b at d
 simp (disch:=first|apply D;decide|apply K;kernel_rfl) only [W,simprocAttr,xk B68 [1,2,2,1,2,2] .sq rfl,rg B68 [1,1,2,2,1,2,2] 3 false rfl,hr 68 3 rfl,xk B68 [2,1,2,2,1,2,2] .sq rfl,xk B68 [1,2,1,2,2,1,2,2] (.cd 14) rfl]
 rcases cond_some d with ⟨g,d⟩ | ⟨g,d⟩
 ·have hJ:=f68_l1_j1_ok k e f a b c true _ d
  simp (disch:=first|apply D;decide|apply K;kernel_rfl) only [W,simprocAttr,xk B68 [2,1,2,1,2,2,1,2,2] .sk rfl,g]
  try simp only [NM,EE] at hJ
  exact hJ
 ·cases d
  simp (disch:=first|apply D;decide|apply K;kernel_rfl) only [W,simprocAttr,xk B68 [3,1,2,1,2,2,1,2,2] (.ex 0) rfl,R68_l1.st,g]
noncomputable def f68_l1 (k:Nat):Nat→Int→Int→(List Int)→Int→Int→Option R68_l1
 | 0,_,_,_,_,_=>none
 | n+1,i,j,e,f,g=>Option.bind (f68_l1_b k i j e f g) fun o =>
  match o with
  | .o0 y a b c d=>f68_l1 k n y a b c d
  | .o1 y a b c d h=>some (.o1 y a b c d h)
theorem f68_l1_ok (k n:Nat):∀ (e f:Int) (a:List Int) (b c:Int) (r:R68_l1) (d:f68_l1 k n e f a b c=some r) (σ:St) (hσ:headR (hints.head 68 3) (hints.canon 68 3) σ=some (⟨36,[(1,.p (.int .u16 e)),(5,.p (.int .u16 f)),(11,jB a),(12,jI b),(13,jI c)],[]⟩:St)),LP 68 k (nav B68 [1,2,2,1,2,2]) n σ=some r.st:=by
 induction n with
 | zero=>intro e f a b c r d;cases d
 | succ n m =>
  intro e f a b c r d σ hσ
  rw [f68_l1] at d
  obtain ⟨o,h,d⟩:=Option.bind_eq_some_iff.1 d
  have hB:=f68_l1_b_ok k e f a b c o h
  unfold LP at m ⊢
  unfold EX at hB
  rw [loopK_succ,show firstReg (nav B68 [1,2,2,1,2,2])=3 from rfl,hσ,headK_some,hB]
  cases o with
  | o0 y g i j l =>
   refine m y g i j l r d _ ?_
   simp (disch:=first|apply D;decide|apply K;kernel_rfl) only [W,simprocAttr,hh_68_3,hc_68_3]
  | o1 y g i j l p=>cases d;rfl
noncomputable def f68_j2 (k:Nat) (f a:Int) (b:List Int) (c d:Int) (e:Bool):Option R68 :=
 some (.o0 (flipI .u16 a))
theorem f68_j2_ok (k e f a b c d r) (g:f68_j2 k e f a b c d=some r):finK Tryd.prog Tryd.f68 0 (EX 68 k (nav B68 [2,2,2]) (⟨36,[(1,.p (.int .u16 e)),(5,.p (.int .u16 f)),(11,jB a),(12,jI b),(13,jI c),(14,jT d)],[]⟩:St))=some r.st:=by
 unfold f68_j2 at g
 cases g
 simp (disch:=first|apply D;decide|apply K;kernel_rfl) only [W,simprocAttr,xk B68 [2,2,2] .sq rfl,rg B68 [1,2,2,2] 14 false rfl,hr 68 14 rfl,xk B68 [2,2,2,2] .rt rfl,fin68,R68.st]
noncomputable def f68_e (k:Nat) (a:List Int) (b:Int):Option R68 :=
 Option.bind (f68_l1 k k b (flipI .u16 (IntKind.u16.wrap 0)) a ((List.length a):Int) 0) fun o1 =>
  match o1 with
  | .o0 _ _ _ _ _ =>
   none
  | .o1 c d e f g h =>
   f68_j2 k c d e f g h
theorem f68_e_ok (k c d r) (a:f68_e k c d=some r):finK Tryd.prog Tryd.f68 0 (EX 68 k (nav B68 []) (⟨36,[(0,jB c),(1,.p (.int .u16 d))],[]⟩:St))=some r.st:=by
 unfold f68_e at a
 obtain ⟨o1,e,a⟩:=bs a
 have b:=f68_l1_ok k k d (flipI .u16 (IntKind.u16.wrap 0)) c ((List.length c):Int) 0 _ e
 simp (disch:=first|apply D;decide|apply K;kernel_rfl) only [W,simprocAttr,xk B68 [] .sq rfl,rg B68 [1] 0 false rfl,hr 68 0 rfl,xk B68 [2] .sq rfl,rg B68 [1,2] 1 false rfl,hr 68 1 rfl,t_3,t_80,convV,xk B68 [2,2] .sq rfl,xk B68 [1,2,2] .sq rfl,rg B68 [1,1,2,2] 2 false rfl,hr 68 2 rfl,t_22,xk B68 [2,1,2,2] (.bk 0) rfl,xk B68 [2,2,1,2,2] .lp rfl,hh_68_3,hc_68_3]
 (try simp only [NM,EE] at b)
 rw [b _ (by simp (disch:=first|apply D;decide|apply K;kernel_rfl) only [W,simprocAttr,hh_68_3,hc_68_3])]
 clear b
 cases o1 with
 | o0 _ _ _ _ _ =>
  (try dsimp only at a)
  cases a
 | o1 f g h i j l =>
  (try dsimp only at a)
  have hJ:=f68_j2_ok k f g h i j l _ a
  simp (disch:=first|apply D;decide|apply K;kernel_rfl) only [W,simprocAttr,R68_l1.st]
  try simp only [NM,EE] at hJ
  exact hJ
noncomputable def f68 (k:Nat) (a:List Int) (b:Int):Option R68:=match k with | 0=>none | k+1=>f68_e k a b
theorem f68_ok (k a b r) (d:f68 k a b=some r):CV k 68 [jB a,.p (.int .u16 b)] []=some r.st:=by
 cases k with
 | zero=>cases d
 | succ k =>
  unfold CV
  rw [ev_call (F:=Tryd.f68) (c:=(nav B68 [])) rfl Tryd.func68 rfl rfl rfl rfl]
  exact f68_e_ok k a b r d
-- f55: f55 heliograph/sum.Sum16
inductive R55 where
 | o0 (y:Int)
noncomputable def R55.st:R55→V×List O×List O
 | .o0 y=>(.p (.int .u16 y),[],[])
noncomputable def f55_e (k:Nat) (a:List Int):Option R55 :=
 Option.bind (f68 k a 33800) fun o1 =>
  match o1 with
  | .o0 b =>
   some (.o0 b)
theorem f55_e_ok (k c r) (a:f55_e k c=some r):finK Tryd.prog Tryd.f55 0 (EX 55 k (nav B55 []) (⟨5,[(0,jB c)],[]⟩:St))=some r.st:=by
 unfold f55_e at a
 obtain ⟨o1,d,a⟩:=bs a
 have b:=f68_ok k c 33800 _ d
 cases o1 with
 | o0 e =>
  (try dsimp only at a)
  (try simp only [NM,EE,R68.st] at b)
  cases a
  simp (disch:=first|apply D;decide|apply K;kernel_rfl) only [W,simprocAttr,xk B55 [] .sq rfl,rg B55 [1] 0 false rfl,hr 55 0 rfl,xk B55 [2] .sq rfl,rg B55 [1,2] 1 false rfl,hr 55 1 rfl,callStep,CL,gv,List.contains,xk B55 [2,2] .rt rfl,fin55,R55.st,b]
noncomputable def f55 (k:Nat) (a:List Int):Option R55:=match k with | 0=>none | k+1=>f55_e k a
theorem f55_ok (k a r) (b:f55 k a=some r):CV k 55 [jB a] []=some r.st:=by
 cases k with
 | zero=>cases b
 | succ k =>
  unfold CV
  rw [ev_call (F:=Tryd.f55) (c:=(nav B55 [])) rfl Tryd.func55 rfl rfl rfl rfl]
  exact f55_e_ok k a r b
-- f54: f54 heliograph/sum.seal
inductive R54 where
 | o0 (y:List Int)
noncomputable def R54.st:R54→V×List O×List O
 | .o0 y=>(.own 2000000,[],[.row true 1 5 (rowsOf (encI .u8) y)])
inductive R54_l1 where
 | o0 (y a b:Int) (c:List Int)
 | o1 (y a b:Int) (c:Bool) (d:List Int)
noncomputable def R54_l1.st:R54_l1→Out×St
 | .o0 y a b c=>(.norm,(⟨25,[(1,jU y),(7,.own 22),(11,jI a),(12,jI b)],[(22,.row true 1 5 (rowsOf (encI .u8) c))]⟩:St))
 | .o1 y a b c d=>(.exit 0,(⟨25,[(1,jU y),(7,.own 30000),(11,jI a),(12,jI b),(13,jT c)],[(30000,.row true 1 5 (rowsOf (encI .u8) d))]⟩:St))
noncomputable def f54_l1_j2 (k:Nat) (d a b:Int) (c:List Int):Option R54_l1 :=
 some (.o0 d a (IntKind.i64.wrap (b+(1:Int))) c)
theorem f54_l1_j2_ok (k d a b c r) (e:f54_l1_j2 k d a b c=some r):EX 54 k (nav B54 [2,2,2,1,2,2,1,2,2]) (⟨25,[(1,jU d),(7,.own 22),(11,jI a),(12,jI b)],[(22,.row true 1 5 (rowsOf (encI .u8) c))]⟩:St)=some r.st:=by
 unfold f54_l1_j2 at e
 cases e
 simp (disch:=first|apply D;decide|apply K;kernel_rfl) only [W,simprocAttr,rg B54 [2,2,2,1,2,2,1,2,2] 6 false rfl,hr 54 6 rfl,R54_l1.st]
noncomputable def f54_l1_j1 (k:Nat) (d c a:Int) (e:Bool) (b:List Int):Option R54_l1 :=
 ifE (¬(IntKind.i64.wrap ((8:Int) * a))<0) (
  ifE (((List.length b)+1)≤roomy) (
   f54_l1_j2 k d c a ((b++([(IntKind.u8.wrap (Int.fdiv d (2 ^ (min (Int.toNat (IntKind.i64.wrap ((8:Int) * a))) (IntKind.bits .u32)))))]:List Int)))))
theorem f54_l1_j1_ok (k b c a f d r) (e:f54_l1_j1 k b c a f d=some r):EX 54 k (nav B54 [2,2,1,2,2,1,2,2]) (⟨25,[(1,jU b),(7,.own 30000),(11,jI c),(12,jI a),(13,jT f)],[(30000,.row true 1 5 (rowsOf (encI .u8) d))]⟩:St)=some r.st:=by
 unfold f54_l1_j1 at e
 obtain ⟨g,e⟩:=ifE_some.1 e
 have h:[[.p (.int .u8 (IntKind.u8.wrap (Int.fdiv b (2 ^ (min (Int.toNat (IntKind.i64.wrap ((8:Int) * a))) (IntKind.bits .u32))))))]]=rowsOf (encI .u8) ([(IntKind.u8.wrap (Int.fdiv b (2 ^ (min (Int.toNat (IntKind.i64.wrap ((8:Int) * a))) (IntKind.bits .u32)))))]:List Int):=rfl
 have i:List.map (tell [0]) (rowsOf (encI .u8) ([(IntKind.u8.wrap (Int.fdiv b (2 ^ (min (Int.toNat (IntKind.i64.wrap ((8:Int) * a))) (IntKind.bits .u32)))))]:List Int))=rowsOf (encI .u8) ([(IntKind.u8.wrap (Int.fdiv b (2 ^ (min (Int.toNat (IntKind.i64.wrap ((8:Int) * a))) (IntKind.bits .u32)))))]:List Int):=rfl
 obtain ⟨j,e⟩:=ifE_some.1 e
 have hJ:=f54_l1_j2_ok k b c a ((d++([(IntKind.u8.wrap (Int.fdiv b (2 ^ (min (Int.toNat (IntKind.i64.wrap ((8:Int) * a))) (IntKind.bits .u32)))))]:List Int))) _ e
 simp (disch:=first|apply D;decide|apply K;kernel_rfl) only [W,simprocAttr,xk B54 [2,2,1,2,2,1,2,2] .sq rfl,xk B54 [1,2,2,1,2,2,1,2,2] (.bk 1) rfl,xk B54 [2,1,2,2,1,2,2,1,2,2] .sq rfl,rg B54 [1,2,1,2,2,1,2,2,1,2,2] 4 false rfl,hr 54 4 rfl,rg B54 [2,2,1,2,2,1,2,2,1,2,2] 5 false rfl,hr 54 5 rfl,shiftV,t_24,t_5,convV,buildSliceV,fillRows,sm_5,t_22,appendV,content,g,h,i,j]
 try simp only [NM,EE] at hJ
 exact hJ
noncomputable def f54_l1_b (k:Nat) (d a b:Int) (c:List Int):Option R54_l1 :=
 cond ((decide (b<a)))
  (f54_l1_j1 k d a b true c)
  (some (.o1 d a b false c))
theorem f54_l1_b_ok (k e a b c r) (d:f54_l1_b k e a b c=some r):EX 54 k (nav B54 [1,2,2,1,2,2]) (⟨25,[(1,jU e),(7,.own 30000),(11,jI a),(12,jI b)],[(30000,.row true 1 5 (rowsOf (encI .u8) c))]⟩:St)=some r.st:=by
 unfold f54_l1_b at d
 simp (disch:=first|apply D;decide|apply K;kernel_rfl) only [W,simprocAttr,xk B54 [1,2,2,1,2,2] .sq rfl,rg B54 [1,1,2,2,1,2,2] 3 false rfl,hr 54 3 rfl,xk B54 [2,1,2,2,1,2,2] .sq rfl,xk B54 [1,2,1,2,2,1,2,2] (.cd 13) rfl]
 rcases cond_some d with ⟨f,d⟩ | ⟨f,d⟩
 ·have hJ:=f54_l1_j1_ok k e a b true c _ d
  simp (disch:=first|apply D;decide|apply K;kernel_rfl) only [W,simprocAttr,xk B54 [2,1,2,1,2,2,1,2,2] .sk rfl,f]
  try simp only [NM,EE] at hJ
  exact hJ
 ·cases d
  simp (disch:=first|apply D;decide|apply K;kernel_rfl) only [W,simprocAttr,xk B54 [3,1,2,1,2,2,1,2,2] (.ex 0) rfl,R54_l1.st,f]
noncomputable def f54_l1 (k:Nat):Nat→Int→Int→Int→(List Int)→Option R54_l1
 | 0,_,_,_,_=>none
 | n+1,h,d,e,f=>Option.bind (f54_l1_b k h d e f) fun o =>
  match o with
  | .o0 y a b c=>f54_l1 k n y a b c
  | .o1 y a b c g=>some (.o1 y a b c g)
theorem f54_l1_ok (k n:Nat):∀ (e a b:Int) (c:List Int) (r:R54_l1) (d:f54_l1 k n e a b c=some r) (σ:St) (hσ:headR (hints.head 54 3) (hints.canon 54 3) σ=some (⟨25,[(1,jU e),(7,.own 30000),(11,jI a),(12,jI b)],[(30000,.row true 1 5 (rowsOf (encI .u8) c))]⟩:St)),LP 54 k (nav B54 [1,2,2,1,2,2]) n σ=some r.st:=by
 induction n with
 | zero=>intro e a b c r d;cases d
 | succ n j =>
  intro e a b c r d σ hσ
  rw [f54_l1] at d
  obtain ⟨o,h,d⟩:=Option.bind_eq_some_iff.1 d
  have hB:=f54_l1_b_ok k e a b c o h
  unfold LP at j ⊢
  unfold EX at hB
  rw [loopK_succ,show firstReg (nav B54 [1,2,2,1,2,2])=3 from rfl,hσ,headK_some,hB]
  cases o with
  | o0 y f g i =>
   refine j y f g i r d _ ?_
   simp (disch:=first|apply D;decide|apply K;kernel_rfl) only [W,simprocAttr,hh_54_3,hc_54_3]
  | o1 y f g i l=>cases d;rfl
noncomputable def f54_j2 (k:Nat) (e b c:Int) (d:Bool) (a:List Int):Option R54 :=
 some (.o0 a)
theorem f54_j2_ok (k e a b c d r) (f:f54_j2 k e a b c d=some r):finK Tryd.prog Tryd.f54 0 (EX 54 k (nav B54 [2,2,2]) (⟨25,[(1,jU e),(7,.own 30000),(11,jI a),(12,jI b),(13,jT c)],[(30000,.row true 1 5 (rowsOf (encI .u8) d))]⟩:St))=some r.st:=by
 unfold f54_j2 at f
 cases f
 simp (disch:=first|apply D;decide|apply K;kernel_rfl) only [W,simprocAttr,xk B54 [2,2,2] .sq rfl,rg B54 [1,2,2,2] 7 false rfl,hr 54 7 rfl,xk B54 [2,2,2,2] .rt rfl,fin54,R54.st]
noncomputable def f54_e (k:Nat) (d:List Int) (e f:Int):Option R54 :=
 Option.bind (f53 k d) fun o1 =>
  match o1 with
  | .o0 g =>
   Option.bind (f54_l1 k k e f 0 g) fun o5 =>
    match o5 with
    | .o0 _ _ _ _ =>
     none
    | .o1 h i a b c =>
     f54_j2 k h i a b c
theorem f54_e_ok (k d e f r) (a:f54_e k d e f=some r):finK Tryd.prog Tryd.f54 0 (EX 54 k (nav B54 []) (⟨25,[(0,jB d),(1,jU e),(2,jI f)],[]⟩:St))=some r.st:=by
 unfold f54_e at a
 obtain ⟨o1,j,a⟩:=bs a
 have b:=f53_ok k d _ j
 cases o1 with
 | o0 l =>
  (try dsimp only at a)
  (try simp only [NM,EE,R53.st] at b)
  obtain ⟨o5,m,a⟩:=bs a
  have c:=f54_l1_ok k k e f 0 l _ m
  simp (disch:=first|apply D;decide|apply K;kernel_rfl) only [W,simprocAttr,xk B54 [] .sq rfl,rg B54 [1] 0 false rfl,hr 54 0 rfl,xk B54 [2] .sq rfl,rg B54 [1,2] 1 false rfl,hr 54 1 rfl,callStep,CL,gv,List.contains,xk B54 [2,2] .sq rfl,xk B54 [1,2,2] .sq rfl,rg B54 [1,1,2,2] 2 false rfl,hr 54 2 rfl,xk B54 [2,1,2,2] (.bk 0) rfl,xk B54 [2,2,1,2,2] .lp rfl,hh_54_3,hc_54_3,b]
  (try simp only [NM,EE] at c)
  rw [c _ (by simp (disch:=first|apply D;decide|apply K;kernel_rfl) only [W,simprocAttr,hh_54_3,hc_54_3,b])]
  clear c
  cases o5 with
  | o0 _ _ _ _ =>
   (try dsimp only at a)
   cases a
  | o1 o p g h i =>
   (try dsimp only at a)
   have hJ:=f54_j2_ok k o p g h i _ a
   simp (disch:=first|apply D;decide|apply K;kernel_rfl) only [W,simprocAttr,R54_l1.st,b]
   try simp only [NM,EE] at hJ
   exact hJ
noncomputable def f54 (k:Nat) (a:List Int) (b c:Int):Option R54:=match k with | 0=>none | k+1=>f54_e k a b c
theorem f54_ok (k a b d r) (e:f54 k a b d=some r):CV k 54 [jB a,jU b,jI d] []=some r.st:=by
 cases k with
 | zero=>cases e
 | succ k =>
  unfold CV
  rw [ev_call (F:=Tryd.f54) (c:=(nav B54 [])) rfl Tryd.func54 rfl rfl rfl rfl]
  exact f54_e_ok k a b d r e
-- f35: f35 heliograph/sum.Seal16
inductive R35 where
 | o0 (y:List Int)
noncomputable def R35.st:R35→V×List O×List O
 | .o0 y=>(.own 2000000,[],[.row true 1 5 (rowsOf (encI .u8) y)])
noncomputable def f35_e (k:Nat) (a:List Int):Option R35 :=
 Option.bind (f55 k a) fun o1 =>
  match o1 with
  | .o0 b =>
   Option.bind (f54 k a (IntKind.u32.wrap b) 2) fun o5 =>
    match o5 with
    | .o0 c =>
     some (.o0 c)
theorem f35_e_ok (k d r) (a:f35_e k d=some r):finK Tryd.prog Tryd.f35 0 (EX 35 k (nav B35 []) (⟨8,[(0,jB d)],[]⟩:St))=some r.st:=by
 unfold f35_e at a
 obtain ⟨o1,e,a⟩:=bs a
 have b:=f55_ok k d _ e
 cases o1 with
 | o0 f =>
  (try dsimp only at a)
  (try simp only [NM,EE,R55.st] at b)
  obtain ⟨o5,g,a⟩:=bs a
  have c:=f54_ok k d (IntKind.u32.wrap f) 2 _ g
  cases o5 with
  | o0 h =>
   (try dsimp only at a)
   (try simp only [NM,EE,R54.st] at c)
   cases a
   simp (disch:=first|apply D;decide|apply K;kernel_rfl) only [W,simprocAttr,xk B35 [] .sq rfl,rg B35 [1] 0 false rfl,hr 35 0 rfl,xk B35 [2] .sq rfl,rg B35 [1,2] 1 false rfl,hr 35 1 rfl,callStep,CL,gv,List.contains,t_80,t_24,convV,xk B35 [2,2] .rt rfl,fin35,R35.st,b,c]
noncomputable def f35 (k:Nat) (a:List Int):Option R35:=match k with | 0=>none | k+1=>f35_e k a
theorem f35_ok (k a r) (b:f35 k a=some r):CV k 35 [jB a] []=some r.st:=by
 cases k with
 | zero=>cases b
 | succ k =>
  unfold CV
  rw [ev_call (F:=Tryd.f35) (c:=(nav B35 [])) rfl Tryd.func35 rfl rfl rfl rfl]
  exact f35_e_ok k a r b
-- f43: f43 slices.Equal[[]byte,byte]
inductive R43 where
 | o0 (y:Bool)
noncomputable def R43.st:R43→V×List O×List O
 | .o0 y=>(jT y,[],[])
inductive R43_l2 where
 | o0 (y:Bool)
 | o1 (y a:List Int) (b c:Int)
 | o2 (y a:List Int) (b c:Int) (d:Bool)
noncomputable def R43_l2.st:R43_l2→Out×St
 | .o0 y=>(.ret,(⟨26,[(4,jT y)],[]⟩:St))
 | .o1 y a b c=>(.norm,(⟨26,[(0,jB y),(1,jB a),(12,jI b),(13,jI c)],[]⟩:St))
 | .o2 y a b c d=>(.exit 0,(⟨26,[(0,jB y),(1,jB a),(12,jI b),(13,jI c),(14,jT d)],[]⟩:St))
noncomputable def f43_l2_j2 (k:Nat) (c d:List Int) (a b:Int) (e:Bool):Option R43_l2 :=
 some (.o1 c d a (IntKind.i64.wrap (b+(1:Int))))
theorem f43_l2_j2_ok (k d e a b c r) (f:f43_l2_j2 k d e a b c=some r):EX 43 k (nav B43 [2,2,2,1,2,2,1,2,2]) (⟨26,[(0,jB d),(1,jB e),(12,jI a),(13,jI b),(24,jT c)],[]⟩:St)=some r.st:=by
 unfold f43_l2_j2 at f
 cases f
 simp (disch:=first|apply D;decide|apply K;kernel_rfl) only [W,simprocAttr,rg B43 [2,2,2,1,2,2,1,2,2] 8 false rfl,hr 43 8 rfl,R43_l2.st]
noncomputable def f43_l2_j1 (k:Nat) (c d:List Int) (b a:Int) (e:Bool):Option R43_l2 :=
 ifE ((0:Int)≤a) (
  Option.bind (c[(Int.toNat a)]?) fun f =>
   Option.bind (d[(Int.toNat a)]?) fun g =>
    cond ((f != g))
     (some (.o0 false))
     (f43_l2_j2 k c d b a false))
theorem f43_l2_j1_ok (k e f b c d r) (a:f43_l2_j1 k e f b c d=some r):EX 43 k (nav B43 [2,2,1,2,2,1,2,2]) (⟨26,[(0,jB e),(1,jB f),(12,jI b),(13,jI c),(14,jT d)],[]⟩:St)=some r.st:=by
 unfold f43_l2_j1 at a
 obtain ⟨g,a⟩:=ifE_some.1 a
 obtain ⟨l,h,a⟩:=bs a
 obtain ⟨m,i,a⟩:=bs a
 simp (disch:=first|apply D;decide|apply K;kernel_rfl) only [W,simprocAttr,xk B43 [2,2,1,2,2,1,2,2] .sq rfl,xk B43 [1,2,2,1,2,2,1,2,2] (.bk 1) rfl,xk B43 [2,1,2,2,1,2,2,1,2,2] .sq rfl,rg B43 [1,2,1,2,2,1,2,2,1,2,2] 5 false rfl,hr 43 5 rfl,xk B43 [2,2,1,2,2,1,2,2,1,2,2] .sq rfl,rg B43 [1,2,2,1,2,2,1,2,2,1,2,2] 6 true rfl,hr 43 6 rfl,indexAddrV,t_22,t_5,encI_eq,xk B43 [2,2,2,1,2,2,1,2,2,1,2,2] (.cd 24) rfl,g,h,i]
 rcases cond_some a with ⟨j,a⟩ | ⟨j,a⟩
 ·cases a
  simp (disch:=first|apply D;decide|apply K;kernel_rfl) only [W,simprocAttr,xk B43 [2,2,2,2,1,2,2,1,2,2,1,2,2] .sq rfl,rg B43 [1,2,2,2,2,1,2,2,1,2,2,1,2,2] 7 false rfl,hr 43 7 rfl,xk B43 [2,2,2,2,2,1,2,2,1,2,2,1,2,2] .rt rfl,R43_l2.st,g,h,i,j]
 ·have hJ:=f43_l2_j2_ok k e f b c false _ a
  simp (disch:=first|apply D;decide|apply K;kernel_rfl) only [W,simprocAttr,xk B43 [3,2,2,2,1,2,2,1,2,2,1,2,2] .sk rfl,g,h,i,j]
  try simp only [NM,EE] at hJ
  exact hJ
noncomputable def f43_l2_b (k:Nat) (c d:List Int) (a b:Int):Option R43_l2 :=
 cond ((decide (b<a)))
  (f43_l2_j1 k c d a b true)
  (some (.o2 c d a b false))
theorem f43_l2_b_ok (k d e a b r) (c:f43_l2_b k d e a b=some r):EX 43 k (nav B43 [1,2,2,1,2,2]) (⟨26,[(0,jB d),(1,jB e),(12,jI a),(13,jI b)],[]⟩:St)=some r.st:=by
 unfold f43_l2_b at c
 simp (disch:=first|apply D;decide|apply K;kernel_rfl) only [W,simprocAttr,xk B43 [1,2,2,1,2,2] .sq rfl,rg B43 [1,1,2,2,1,2,2] 4 false rfl,hr 43 4 rfl,xk B43 [2,1,2,2,1,2,2] .sq rfl,xk B43 [1,2,1,2,2,1,2,2] (.cd 14) rfl]
 rcases cond_some c with ⟨f,c⟩ | ⟨f,c⟩
 ·have hJ:=f43_l2_j1_ok k d e a b true _ c
  simp (disch:=first|apply D;decide|apply K;kernel_rfl) only [W,simprocAttr,xk B43 [2,1,2,1,2,2,1,2,2] .sk rfl,f]
  try simp only [NM,EE] at hJ
  exact hJ
 ·cases c
  simp (disch:=first|apply D;decide|apply K;kernel_rfl) only [W,simprocAttr,xk B43 [3,1,2,1,2,2,1,2,2] (.ex 0) rfl,R43_l2.st,f]
noncomputable def f43_l2 (k:Nat):Nat→(List Int)→(List Int)→Int→Int→Option R43_l2
 | 0,_,_,_,_=>none
 | n+1,g,h,d,e=>Option.bind (f43_l2_b k g h d e) fun o =>
  match o with
  | .o0 y=>some (.o0 y)
  | .o1 y a b c=>f43_l2 k n y a b c
  | .o2 y a b c f=>some (.o2 y a b c f)
theorem f43_l2_ok (k n:Nat):∀ (d e:List Int) (a b:Int) (r:R43_l2) (c:f43_l2 k n d e a b=some r) (σ:St) (hσ:headR (hints.head 43 4) (hints.canon 43 4) σ=some (⟨26,[(0,jB d),(1,jB e),(12,jI a),(13,jI b)],[]⟩:St)),LP 43 k (nav B43 [1,2,2,1,2,2]) n σ=some r.st:=by
 induction n with
 | zero=>intro d e a b r c;cases c
 | succ n j =>
  intro d e a b r c σ hσ
  rw [f43_l2] at c
  obtain ⟨o,h,c⟩:=Option.bind_eq_some_iff.1 c
  have hB:=f43_l2_b_ok k d e a b o h
  unfold LP at j ⊢
  unfold EX at hB
  rw [loopK_succ,show firstReg (nav B43 [1,2,2,1,2,2])=4 from rfl,hσ,headK_some,hB]
  cases o with
  | o0 y=>cases c;rfl
  | o1 y f g i =>
   refine j y f g i r c _ ?_
   simp (disch:=first|apply D;decide|apply K;kernel_rfl) only [W,simprocAttr,hh_43_4,hc_43_4]
  | o2 y f g i l=>cases c;rfl
noncomputable def f43_j3 (k:Nat) (d e:List Int) (a b:Int) (c:Bool):Option R43 :=
 some (.o0 true)
theorem f43_j3_ok (k d e a b c r) (f:f43_j3 k d e a b c=some r):finK Tryd.prog Tryd.f43 0 (EX 43 k (nav B43 [2,2,2]) (⟨26,[(0,jB d),(1,jB e),(12,jI a),(13,jI b),(14,jT c)],[]⟩:St))=some r.st:=by
 unfold f43_j3 at f
 cases f
 simp (disch:=first|apply D;decide|apply K;kernel_rfl) only [W,simprocAttr,xk B43 [2,2,2] .sq rfl,rg B43 [1,2,2,2] 9 false rfl,hr 43 9 rfl,xk B43 [2,2,2,2] .rt rfl,fin43,R43.st]
noncomputable def f43_j1 (k:Nat) (a b:List Int) (c:Bool):Option R43 :=
 Option.bind (f43_l2 k k a b ((List.length a):Int) 0) fun o1 =>
  match o1 with
  | .o0 d =>
   some (.o0 d)
  | .o1 _ _ _ _ =>
   none
  | .o2 e f g h i =>
   f43_j3 k e f g h i
theorem f43_j1_ok (k d e c r) (a:f43_j1 k d e c=some r):finK Tryd.prog Tryd.f43 0 (EX 43 k (nav B43 [2,2]) (⟨26,[(0,jB d),(1,jB e),(10,jT c)],[]⟩:St))=some r.st:=by
 unfold f43_j1 at a
 obtain ⟨o1,f,a⟩:=bs a
 have b:=f43_l2_ok k k d e ((List.length d):Int) 0 _ f
 simp (disch:=first|apply D;decide|apply K;kernel_rfl) only [W,simprocAttr,xk B43 [2,2] .sq rfl,xk B43 [1,2,2] .sq rfl,rg B43 [1,1,2,2] 3 false rfl,hr 43 3 rfl,t_22,xk B43 [2,1,2,2] (.bk 0) rfl,xk B43 [2,2,1,2,2] .lp rfl,hh_43_4,hc_43_4]
 (try simp only [NM,EE] at b)
 rw [b _ (by simp (disch:=first|apply D;decide|apply K;kernel_rfl) only [W,simprocAttr,hh_43_4,hc_43_4])]
 clear b
 cases o1 with
 | o0 m =>
  (try dsimp only at a)
  cases a
  simp (disch:=first|apply D;decide|apply K;kernel_rfl) only [W,simprocAttr,R43_l2.st,fin43,R43.st]
 | o1 _ _ _ _ =>
  (try dsimp only at a)
  cases a
 | o2 g h i j l =>
  (try dsimp only at a)
  have hJ:=f43_j3_ok k g h i j l _ a
  simp (disch:=first|apply D;decide|apply K;kernel_rfl) only [W,simprocAttr,R43_l2.st]
  try simp only [NM,EE] at hJ
  exact hJ
noncomputable def f43_e (k:Nat) (a b:List Int):Option R43 :=
 cond ((((List.length a):Int) != ((List.length b):Int)))
  (some (.o0 false))
  (f43_j1 k a b false)
theorem f43_e_ok (k b c r) (a:f43_e k b c=some r):finK Tryd.prog Tryd.f43 0 (EX 43 k (nav B43 []) (⟨26,[(0,jB b),(1,jB c)],[]⟩:St))=some r.st:=by
 unfold f43_e at a
 simp (disch:=first|apply D;decide|apply K;kernel_rfl) only [W,simprocAttr,xk B43 [] .sq rfl,rg B43 [1] 0 false rfl,hr 43 0 rfl,xk B43 [2] .sq rfl,xk B43 [1,2] .sq rfl,rg B43 [1,1,2] 1 false rfl,hr 43 1 rfl,t_22,xk B43 [2,1,2] (.cd 10) rfl]
 rcases cond_some a with ⟨d,a⟩ | ⟨d,a⟩
 ·cases a
  simp (disch:=first|apply D;decide|apply K;kernel_rfl) only [W,simprocAttr,xk B43 [2,2,1,2] .sq rfl,rg B43 [1,2,2,1,2] 2 false rfl,hr 43 2 rfl,xk B43 [2,2,2,1,2] .rt rfl,fin43,R43.st,d]
 ·have hJ:=f43_j1_ok k b c false _ a
  simp (disch:=first|apply D;decide|apply K;kernel_rfl) only [W,simprocAttr,xk B43 [3,2,1,2] .sk rfl,d]
  try simp only [NM,EE] at hJ
  exact hJ
noncomputable def f43 (k:Nat) (a b:List Int):Option R43:=match k with | 0=>none | k+1=>f43_e k a b
theorem f43_ok (k a b r) (d:f43 k a b=some r):CV k 43 [jB a,jB b] []=some r.st:=by
 cases k with
 | zero=>cases d
 | succ k =>
  unfold CV
  rw [ev_call (F:=Tryd.f43) (c:=(nav B43 [])) rfl Tryd.func43 rfl rfl rfl rfl]
  exact f43_e_ok k a b r d
-- f47a: f47 heliograph/sum.open
inductive R47a where
 | o0 (y:List Int) (a:Int)
noncomputable def R47a.st:R47a→V×List O×List O
 | .o0 y a=>(V.tup [jB y,jI a],[],[])
noncomputable def f47a_j2 (k:Nat) (b:List Int) (a:Int) (c:Bool):Option R47a :=
 ifE ((0:Int)≤a) (
  ifE ((Int.toNat a)≤(List.length b)) (
   Option.bind (f53 k (List.take (Int.toNat a) b)) fun o3 =>
    match o3 with
    | .o0 d =>
     some (.o0 d 0)))
theorem f47a_j2_ok (k d e b r) (a:f47a_j2 k d e b=some r):finK Tryd.prog Tryd.f47 0 (EX 47 k (nav B47 [2,2,2,2]) (⟨30,[(0,jB d),(8,jI e),(25,jT b)],[]⟩:St))=some r.st:=by
 unfold f47a_j2 at a
 obtain ⟨f,a⟩:=ifE_some.1 a
 obtain ⟨g,a⟩:=ifE_some.1 a
 obtain ⟨o3,h,a⟩:=bs a
 have c:=f53_ok k (List.take (Int.toNat e) d) _ h
 cases o3 with
 | o0 i =>
  (try dsimp only at a)
  (try simp only [NM,EE,R53.st] at c)
  cases a
  simp (disch:=first|apply D;decide|apply K;kernel_rfl) only [W,simprocAttr,xk B47 [2,2,2,2] .sq rfl,rg B47 [1,2,2,2,2] 6 false rfl,hr_47_6,sliceV,bound,t_22,t_5,callStep,CL,gv,List.contains,xk B47 [2,2,2,2,2] .rt rfl,fin47,R47a.st,f,g,c]
noncomputable def f47a_j1 (k:Nat) (a:List Int) (b:Int) (d:Bool):Option R47a :=
 ifE ((0:Int)≤(IntKind.i64.wrap (((List.length a):Int) - b))) (
  ifE ((Int.toNat (IntKind.i64.wrap (((List.length a):Int) - b)))≤(List.length a)) (
   Option.bind (f35 k (List.take (Int.toNat (IntKind.i64.wrap (((List.length a):Int) - b))) a)) fun o3 =>
    match o3 with
    | .o0 e =>
     Option.bind (f43 k e a) fun o7 =>
      match o7 with
      | .o0 c =>
       cond ((!c))
        (some (.o0 [] 130))
        (f47a_j2 k a (IntKind.i64.wrap (((List.length a):Int) - b)) false)))
theorem f47a_j1_ok (k d g f r) (a:f47a_j1 k d g f=some r):finK Tryd.prog Tryd.f47 0 (EX 47 k (nav B47 [2,2]) (⟨30,[(0,jB d),(1,jI g),(2,V.p (Value.func (Fn.func 35) #[] #[])),(12,jT f)],[]⟩:St))=some r.st:=by
 unfold f47a_j1 at a
 obtain ⟨h,a⟩:=ifE_some.1 a
 obtain ⟨i,a⟩:=ifE_some.1 a
 obtain ⟨o3,j,a⟩:=bs a
 have b:=f35_ok k (List.take (Int.toNat (IntKind.i64.wrap (((List.length d):Int) - g))) d) _ j
 cases o3 with
 | o0 l =>
  (try dsimp only at a)
  (try simp only [NM,EE,R35.st] at b)
  obtain ⟨o7,m,a⟩:=bs a
  have c:=f43_ok k l d _ m
  cases o7 with
  | o0 o =>
   (try dsimp only at a)
   (try simp only [NM,EE,R43.st] at c)
   simp (disch:=first|apply D;decide|apply K;kernel_rfl) only [W,simprocAttr,xk B47 [2,2] .sq rfl,rg B47 [1,2,2] 3 false rfl,hr 47 3 rfl,t_22,xk B47 [2,2,2] .sq rfl,xk B47 [1,2,2,2] .sq rfl,rg B47 [1,1,2,2,2] 4 false rfl,hr 47 4 rfl,sliceV,bound,t_5,callStep,CL,gv,List.contains,xk B47 [2,1,2,2,2] (.cd 25) rfl,h,i,b,c]
   rcases cond_some a with ⟨e,a⟩ | ⟨e,a⟩
   ·cases a
    simp (disch:=first|apply D;decide|apply K;kernel_rfl) only [W,simprocAttr,xk B47 [2,2,1,2,2,2] .sq rfl,rg B47 [1,2,2,1,2,2,2] 5 false rfl,hr_47_5,xk B47 [2,2,2,1,2,2,2] .rt rfl,fin47,R47a.st,h,i,b,c,e]
   ·have hJ:=f47a_j2_ok k d (IntKind.i64.wrap (((List.length d):Int) - g)) false _ a
    simp (disch:=first|apply D;decide|apply K;kernel_rfl) only [W,simprocAttr,xk B47 [3,2,1,2,2,2] .sk rfl,h,i,b,c,e]
    try simp only [NM,EE] at hJ
    exact hJ
noncomputable def f47a_e (k:Nat) (a:List Int) (b:Int):Option R47a :=
 cond ((decide (((List.length a):Int)<b)))
  (some (.o0 [] 7))
  (f47a_j1 k a b false)
theorem f47a_e_ok (k b c r) (a:f47a_e k b c=some r):finK Tryd.prog Tryd.f47 0 (EX 47 k (nav B47 []) (⟨30,[(0,jB b),(1,jI c),(2,V.p (Value.func (Fn.func 35) #[] #[]))],[]⟩:St))=some r.st:=by
 unfold f47a_e at a
 simp (disch:=first|apply D;decide|apply K;kernel_rfl) only [W,simprocAttr,xk B47 [] .sq rfl,rg B47 [1] 0 false rfl,hr 47 0 rfl,xk B47 [2] .sq rfl,xk B47 [1,2] .sq rfl,rg B47 [1,1,2] 1 false rfl,hr 47 1 rfl,t_22,xk B47 [2,1,2] (.cd 12) rfl]
 rcases cond_some a with ⟨d,a⟩ | ⟨d,a⟩
 ·cases a
  simp (disch:=first|apply D;decide|apply K;kernel_rfl) only [W,simprocAttr,xk B47 [2,2,1,2] .sq rfl,rg B47 [1,2,2,1,2] 2 false rfl,hr_47_2,xk B47 [2,2,2,1,2] .rt rfl,fin47,R47a.st,d]
 ·have hJ:=f47a_j1_ok k b c false _ a
  simp (disch:=first|apply D;decide|apply K;kernel_rfl) only [W,simprocAttr,xk B47 [3,2,1,2] .sk rfl,d]
  try simp only [NM,EE] at hJ
  exact hJ
noncomputable def f47a (k:Nat) (a:List Int) (b:Int):Option R47a:=match k with | 0=>none | k+1=>f47a_e k a b
theorem f47a_ok (k a b r) (d:f47a k a b=some r):CV k 47 [jB a,jI b,V.p (Value.func (Fn.func 35) #[] #[])] []=some r.st:=by
 cases k with
 | zero=>cases d
 | succ k =>
  unfold CV
  rw [ev_call (F:=Tryd.f47) (c:=(nav B47 [])) rfl Tryd.func47 rfl rfl rfl rfl]
  exact f47a_e_ok k a b r d
-- f27: f27 heliograph/sum.Open16
inductive R27 where
 | o0 (y:List Int) (a:Int)
noncomputable def R27.st:R27→V×List O×List O
 | .o0 y a=>(V.tup [jB y,jI a],[],[])
noncomputable def f27_e (k:Nat) (a:List Int):Option R27 :=
 Option.bind (f47a k a 2) fun o1 =>
  match o1 with
  | .o0 b c =>
   some (.o0 b c)
theorem f27_e_ok (k c r) (a:f27_e k c=some r):finK Tryd.prog Tryd.f27 0 (EX 27 k (nav B27 []) (⟨8,[(0,jB c)],[]⟩:St))=some r.st:=by
 unfold f27_e at a
 obtain ⟨o1,d,a⟩:=bs a
 have b:=f47a_ok k c 2 _ d
 cases o1 with
 | o0 e f =>
  (try dsimp only at a)
  (try simp only [NM,EE,R47a.st] at b)
  cases a
  simp (disch:=first|apply D;decide|apply K;kernel_rfl) only [W,simprocAttr,xk B27 [] .sq rfl,rg B27 [1] 0 false rfl,hr 27 0 rfl,xk B27 [2] .sq rfl,rg B27 [1,2] 1 false rfl,hr 27 1 rfl,callStep,CL,gv,List.contains,xk B27 [2,2] .rt rfl,fin27,R27.st,b]
noncomputable def f27 (k:Nat) (a:List Int):Option R27:=match k with | 0=>none | k+1=>f27_e k a
theorem f27_ok (k a r) (b:f27 k a=some r):CV k 27 [jB a] []=some r.st:=by
 cases k with
 | zero=>cases b
 | succ k =>
  unfold CV
  rw [ev_call (F:=Tryd.f27) (c:=(nav B27 [])) rfl Tryd.func27 rfl rfl rfl rfl]
  exact f27_e_ok k a r b
end Go.Proofs.YtbnnmplkbpgcaaaDoorV