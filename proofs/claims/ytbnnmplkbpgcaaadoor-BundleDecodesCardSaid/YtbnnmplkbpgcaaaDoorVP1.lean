/- What the program's functions answer: plain functions,and that the interpreter answers what they do. Written by a program of this session,out of the translation. -/
import Derived.Test.YtbnnmplkbpgcaaaDoorVPC
namespace Go.Proofs.YtbnnmplkbpgcaaaDoorV
open Go
set_option linter.unusedVariables false
set_option linter.unusedSimpArgs false
set_option maxRecDepth 8000
set_option maxHeartbeats 4000000
-- f9: f9 heliograph/heliographlaw09.wakes
inductive R9 where
 | o0 (y:Bool)
noncomputable def R9.st:R9→V×List O×List O
 | .o0 y=>(jT y,[],[])
noncomputable def f9 (k:Nat):Option R9:=ifE (200≤k) (some (.o0 true))
theorem f9_ok (k r) (a:f9 k=some r):CV k 9 [] []=some r.st:=by
 obtain ⟨h,a⟩:=ifE_some.1 a
 cases a
 exact callV_le h wakes
-- f53: f53 slices.Clone[[]byte,byte]
inductive R53 where
 | o0 (y:List Int)
noncomputable def R53.st:R53→V×List O×List O
 | .o0 y=>(.own 2000000,[],[.row true 1 5 (rowsOf (encI .u8) y)])
noncomputable def f53 (k:Nat) (a:List Int):Option R53:=match k with | 0=>none | _+1=>ifE (a.length * 1≤roomy) (some (.o0 a))
theorem f53_ok (k b r) (a:f53 k b=some r):CV k 53 [jB b] []=some r.st:=by
 cases k with
 | zero=>cases a
 | succ k =>
  obtain ⟨h,a⟩:=ifE_some.1 a
  cases a
  have h':((rowsOf (encI .u8) b)).length * 1≤roomy:=by rw [rowsOf_length];exact h
  unfold CV
  rw [ev_ctx (show ctx 53=some (cloneS 1 5 1) from rfl) rfl]
  simp only [cloneS,h',and_self,if_true];rfl
-- f44: f44 heliograph/octet.Read
inductive R44 where
 | o0 (y a:Int) (b:List Int)
noncomputable def R44.st:R44→V×List O×List O
 | .o0 y a b=>(.ptr 2000000 0,[],[.box 91 [.own 2000001,jI y,jI a],.row true 1 5 (rowsOf (encI .u8) b)])
noncomputable def f44_e (k:Nat) (a:List Int):Option R44 :=
 Option.bind (f53 k a) fun o1 =>
  match o1 with
  | .o0 b =>
   some (.o0 0 0 b)
theorem f44_e_ok (k c r) (a:f44_e k c=some r):finK Tryd.prog Tryd.f44 0 (EX 44 k (nav B44 []) (⟨8,[(0,jB c)],[]⟩:St))=some r.st:=by
 unfold f44_e at a
 obtain ⟨o1,d,a⟩:=bs a
 have b:=f53_ok k c _ d
 cases o1 with
 | o0 e =>
  (try dsimp only at a)
  (try simp only [NM,EE,R53.st] at b)
  cases a
  simp (disch:=first|apply D;decide|apply K;kernel_rfl) only [W,simprocAttr,xk B44 [] .sq rfl,rg B44 [1] 0 false rfl,hr 44 0 rfl,xk B44 [2] .sq rfl,rg B44 [1,2] 1 false rfl,hr 44 1 rfl,callStep,CL,gv,List.contains,bl_89,t_89,bl_91,t_91,xk B44 [2,2] .rt rfl,fin44,R44.st,b]
noncomputable def f44 (k:Nat) (a:List Int):Option R44:=match k with | 0=>none | k+1=>f44_e k a
theorem f44_ok (k a r) (b:f44 k a=some r):CV k 44 [jB a] []=some r.st:=by
 cases k with
 | zero=>cases b
 | succ k =>
  unfold CV
  rw [ev_call (F:=Tryd.f44) (c:=(nav B44 [])) rfl Tryd.func44 rfl rfl rfl rfl]
  exact f44_e_ok k a r b
-- f71: f71 (*heliograph/octet.spot).take
inductive R71 where
 | o0 (y a:List Int) (b c:Int)
noncomputable def R71.st:R71→V×List O×List O
 | .o0 y a b c=>(jB y,[.box 91 [jB a,jI b,jI c]],[])
noncomputable def f71_j1 (k:Nat) (b:Int) (e:Bool) (d:List Int) (a c:Int):Option R71 :=
 ifE ((0:Int)≤(IntKind.i64.wrap ((IntKind.i64.wrap (a+b)) - b))) (
  ifE ((0:Int)≤(IntKind.i64.wrap (a+b))) (
   ifE ((Int.toNat (IntKind.i64.wrap ((IntKind.i64.wrap (a+b)) - b)))≤(Int.toNat (IntKind.i64.wrap (a+b)))) (
    ifE ((Int.toNat (IntKind.i64.wrap (a+b)))≤(List.length d)) (
     some (.o0 ((List.drop (Int.toNat (IntKind.i64.wrap ((IntKind.i64.wrap (a+b)) - b))) (List.take (Int.toNat (IntKind.i64.wrap (a+b))) d))) d (IntKind.i64.wrap (a+b)) c)))))
theorem f71_j1_ok (k e d f b c r) (a:f71_j1 k e d f b c=some r):finK Tryd.prog Tryd.f71 1 (EX 71 k (nav B71 [2,2]) (⟨56,[(0,.ptr 1000000 0),(1,jI e),(17,jT d)],[(1000000,.box 91 [jB f,jI b,jI c])]⟩:St))=some r.st:=by
 unfold f71_j1 at a
 obtain ⟨g,a⟩:=ifE_some.1 a
 obtain ⟨h,a⟩:=ifE_some.1 a
 obtain ⟨i,a⟩:=ifE_some.1 a
 obtain ⟨j,a⟩:=ifE_some.1 a
 cases a
 simp (disch:=first|apply D;decide|apply K;kernel_rfl) only [W,simprocAttr,xk B71 [2,2] .sq rfl,rg B71 [1,2,2] 9 false rfl,hr 71 9 rfl,fieldAddrV,t_89,t_3,xk B71 [2,2,2] .sq rfl,rg B71 [1,2,2,2] 10 true rfl,hr 71 10 rfl,t_22,sliceV,bound,t_5,xk B71 [2,2,2,2] .rt rfl,fin71,R71.st,g,h,i,j]
noncomputable def f71_e (k:Nat) (d:Int) (c:List Int) (a b:Int):Option R71 :=
 cond ((b != 0))
  (some (.o0 [] c a b))
  (
   cond ((decide (d<0)))
    (some (.o0 [] c a 2))
    (
     cond ((decide (d>(IntKind.i64.wrap (((List.length c):Int) - a)))))
      (some (.o0 [] c a 7))
      (f71_j1 k d false c a b)))
theorem f71_e_ok (k f g b c r) (a:f71_e k f g b c=some r):finK Tryd.prog Tryd.f71 1 (EX 71 k (nav B71 []) (⟨56,[(0,.ptr 1000000 0),(1,jI f)],[(1000000,.box 91 [jB g,jI b,jI c])]⟩:St))=some r.st:=by
 unfold f71_e at a
 simp (disch:=first|apply D;decide|apply K;kernel_rfl) only [W,simprocAttr,xk B71 [] .sq rfl,rg B71 [1] 0 false rfl,hr 71 0 rfl,xk B71 [2] .sq rfl,xk B71 [1,2] (.bk 0) rfl,xk B71 [2,1,2] .sq rfl,rg B71 [1,2,1,2] 1 false rfl,hr 71 1 rfl,fieldAddrV,t_89,t_27,xk B71 [2,2,1,2] (.cd 5) rfl]
 rcases cond_some a with ⟨d,a⟩ | ⟨d,a⟩
 ·cases a
  simp (disch:=first|apply D;decide|apply K;kernel_rfl) only [W,simprocAttr,xk B71 [2,2,2,1,2] .sq rfl,rg B71 [1,2,2,2,1,2] 2 false rfl,hr_71_2,xk B71 [2,2,2,2,1,2] .rt rfl,fin71,R71.st,d]
 ·simp (disch:=first|apply D;decide|apply K;kernel_rfl) only [W,simprocAttr,xk B71 [3,2,2,1,2] .sq rfl,rg B71 [1,3,2,2,1,2] 3 false rfl,hr 71 3 rfl,xk B71 [2,3,2,2,1,2] (.cd 11) rfl,d]
  rcases cond_some a with ⟨e,a⟩ | ⟨e,a⟩
  ·cases a
   simp (disch:=first|apply D;decide|apply K;kernel_rfl) only [W,simprocAttr,xk B71 [2,2,3,2,2,1,2] .sq rfl,rg B71 [1,2,2,3,2,2,1,2] 4 false rfl,hr 71 4 rfl,fieldAddrV,t_89,t_27,xk B71 [2,2,2,3,2,2,1,2] .sq rfl,rg B71 [1,2,2,2,3,2,2,1,2] 5 false rfl,hr_71_5,xk B71 [2,2,2,2,3,2,2,1,2] .rt rfl,fin71,R71.st,d,e]
  ·simp (disch:=first|apply D;decide|apply K;kernel_rfl) only [W,simprocAttr,xk B71 [3,2,3,2,2,1,2] .sq rfl,rg B71 [1,3,2,3,2,2,1,2] 6 true rfl,hr 71 6 rfl,fieldAddrV,t_89,t_22,t_3,xk B71 [2,3,2,3,2,2,1,2] (.cd 17) rfl,d,e]
   rcases cond_some a with ⟨h,a⟩ | ⟨h,a⟩
   ·cases a
    simp (disch:=first|apply D;decide|apply K;kernel_rfl) only [W,simprocAttr,xk B71 [2,2,3,2,3,2,2,1,2] .sq rfl,rg B71 [1,2,2,3,2,3,2,2,1,2] 7 false rfl,hr 71 7 rfl,fieldAddrV,t_89,t_27,xk B71 [2,2,2,3,2,3,2,2,1,2] .sq rfl,rg B71 [1,2,2,2,3,2,3,2,2,1,2] 8 false rfl,hr_71_8,xk B71 [2,2,2,2,3,2,3,2,2,1,2] .rt rfl,fin71,R71.st,d,e,h]
   ·have hJ:=f71_j1_ok k f false g b c _ a
    simp (disch:=first|apply D;decide|apply K;kernel_rfl) only [W,simprocAttr,xk B71 [3,2,3,2,3,2,2,1,2] .sk rfl,d,e,h]
    try simp only [NM,EE] at hJ
    exact hJ
noncomputable def f71 (k:Nat) (c:Int) (d:List Int) (a b:Int):Option R71:=match k with | 0=>none | k+1=>f71_e k c d a b
theorem f71_ok (k d e a b r) (f:f71 k d e a b=some r):CV k 71 [.ptr 1000000 0,jI d] [.box 91 [jB e,jI a,jI b]]=some r.st:=by
 cases k with
 | zero=>cases f
 | succ k =>
  unfold CV
  rw [ev_call (F:=Tryd.f71) (c:=(nav B71 [])) rfl Tryd.func71 rfl rfl rfl rfl]
  exact f71_e_ok k d e a b r f
-- f63: f63 (*heliograph/octet.Reader).Raw
inductive R63 where
 | o0 (y:List Int) (a b:Int) (c:List Int)
noncomputable def R63.st:R63→V×List O×List O
 | .o0 y a b c=>(.own 2000000,[.box 91 [jB y,jI a,jI b]],[.row true 1 5 (rowsOf (encI .u8) c)])
noncomputable def f63_j1 (k:Nat) (d:Int) (j:Bool) (e:List Int) (a b:Int):Option R63 :=
 Option.bind (f71 k d e a b) fun o1 =>
  match o1 with
  | .o0 f g h i =>
   Option.bind (f53 k f) fun o8 =>
    match o8 with
    | .o0 c =>
     some (.o0 g h i c)
theorem f63_j1_ok (k f h g a b r) (c:f63_j1 k f h g a b=some r):finK Tryd.prog Tryd.f63 1 (EX 63 k (nav B63 [2,2]) (⟨13,[(0,.ptr 1000000 0),(1,jI f),(6,jT h)],[(1000000,.box 91 [jB g,jI a,jI b])]⟩:St))=some r.st:=by
 unfold f63_j1 at c
 obtain ⟨o1,i,c⟩:=bs c
 have e:=f71_ok k f g a b _ i
 cases o1 with
 | o0 j o p q =>
  (try dsimp only at c)
  (try simp only [NM,EE,R71.st] at e)
  obtain ⟨o8,l,c⟩:=bs c
  have d:=f53_ok k j _ l
  cases o8 with
  | o0 m =>
   (try dsimp only at c)
   (try simp only [NM,EE,R53.st] at d)
   cases c
   simp (disch:=first|apply D;decide|apply K;kernel_rfl) only [W,simprocAttr,xk B63 [2,2] .sq rfl,rg B63 [1,2,2] 3 false rfl,hr 63 3 rfl,fieldAddrV,t_91,t_89,callStep,CL,gv,List.contains,xk B63 [2,2,2] .rt rfl,fin63,R63.st,e,d]
noncomputable def f63_e (k:Nat) (c:Int) (d:List Int) (a b:Int):Option R63 :=
 f63_j1 k c false d a b
theorem f63_e_ok (k c d a b r) (e:f63_e k c d a b=some r):finK Tryd.prog Tryd.f63 1 (EX 63 k (nav B63 []) (⟨13,[(0,.ptr 1000000 0),(1,jI c)],[(1000000,.box 91 [jB d,jI a,jI b])]⟩:St))=some r.st:=by
 unfold f63_e at e
 have hJ:=f63_j1_ok k c false d a b _ e
 simp (disch:=first|apply D;decide|apply K;kernel_rfl) only [W,simprocAttr,xk B63 [] .sq rfl,rg B63 [1] 0 false rfl,hr 63 0 rfl,xk B63 [2] .sq rfl,xk B63 [1,2] .sq rfl,rg B63 [1,1,2] 1 false rfl,hr 63 1 rfl,t_69,isRef,isNilP,xk B63 [2,1,2] (.cd 6) rfl,xk B63 [3,2,1,2] .sk rfl]
 try simp only [NM,EE] at hJ
 exact hJ
noncomputable def f63 (k:Nat) (c:Int) (d:List Int) (a b:Int):Option R63:=match k with | 0=>none | k+1=>f63_e k c d a b
theorem f63_ok (k d e a b r) (f:f63 k d e a b=some r):CV k 63 [.ptr 1000000 0,jI d] [.box 91 [jB e,jI a,jI b]]=some r.st:=by
 cases k with
 | zero=>cases f
 | succ k =>
  unfold CV
  rw [ev_call (F:=Tryd.f63) (c:=(nav B63 [])) rfl Tryd.func63 rfl rfl rfl rfl]
  exact f63_e_ok k d e a b r f
-- f70: f70 (*heliograph/octet.Reader).number
inductive R70 where
 | o0 (y:Int) (a:List Int) (b c:Int)
noncomputable def R70.st:R70→V×List O×List O
 | .o0 y a b c=>(jL y,[.box 91 [jB a,jI b,jI c]],[])
inductive R70_l1 where
 | o0 (y a b:Int) (c d:List Int) (e f:Int)
 | o1 (y a b:Int) (c:Bool) (d e:List Int) (f g:Int)
noncomputable def R70_l1.st:R70_l1→Out×St
 | .o0 y a b c d e f=>(.norm,(⟨23,[(5,jL y),(10,.own 30000),(11,jI a),(12,jI b)],[(30000,.row true 1 5 (rowsOf (encI .u8) c)),(1000000,.box 91 [jB d,jI e,jI f])]⟩:St))
 | .o1 y a b c d e f g=>(.exit 0,(⟨23,[(5,jL y),(10,.own 30000),(11,jI a),(12,jI b),(13,jT c)],[(30000,.row true 1 5 (rowsOf (encI .u8) d)),(1000000,.box 91 [jB e,jI f,jI g])]⟩:St))
noncomputable def f70_l1_j2 (k:Nat) (f c d:Int) (e g:List Int) (a b:Int):Option R70_l1 :=
 some (.o0 f c (IntKind.i64.wrap (d+(1:Int))) e g a b)
theorem f70_l1_j2_ok (k f c d e g a b r) (h:f70_l1_j2 k f c d e g a b=some r):EX 70 k (nav B70 [2,2,2,1,2,2,1,2,2]) (⟨23,[(5,jL f),(10,.own 30000),(11,jI c),(12,jI d)],[(30000,.row true 1 5 (rowsOf (encI .u8) e)),(1000000,.box 91 [jB g,jI a,jI b])]⟩:St)=some r.st:=by
 unfold f70_l1_j2 at h
 cases h
 simp (disch:=first|apply D;decide|apply K;kernel_rfl) only [W,simprocAttr,rg B70 [2,2,2,1,2,2,1,2,2] 6 false rfl,hr 70 6 rfl,R70_l1.st]
noncomputable def f70_l1_j1 (k:Nat) (f e a:Int) (g:Bool) (b h:List Int) (c d:Int):Option R70_l1 :=
 ifE ((0:Int)≤a) (
  ifE (a<((List.length b):Int)) (
   Option.bind (b[(Int.toNat a)]?) fun i =>
    f70_l1_j2 k ((IntKind.u64.wrap ((BitVec.ofInt (IntKind.bits .u64) (IntKind.u64.wrap (f * 2 ^ (min 8 (IntKind.bits .u64)))) ||| BitVec.ofInt (IntKind.bits .u64) (IntKind.u64.wrap i)).toNat:Nat))) e a b h c d))
theorem f70_l1_j1_ok (k h d e g f i a b r) (c:f70_l1_j1 k h d e g f i a b=some r):EX 70 k (nav B70 [2,2,1,2,2,1,2,2]) (⟨23,[(5,jL h),(10,.own 30000),(11,jI d),(12,jI e),(13,jT g)],[(30000,.row true 1 5 (rowsOf (encI .u8) f)),(1000000,.box 91 [jB i,jI a,jI b])]⟩:St)=some r.st:=by
 unfold f70_l1_j1 at c
 obtain ⟨j,c⟩:=ifE_some.1 c
 obtain ⟨l,c⟩:=ifE_some.1 c
 obtain ⟨m,o,c⟩:=bs c
 have hJ:=f70_l1_j2_ok k ((IntKind.u64.wrap ((BitVec.ofInt (IntKind.bits .u64) (IntKind.u64.wrap (h * 2 ^ (min 8 (IntKind.bits .u64)))) ||| BitVec.ofInt (IntKind.bits .u64) (IntKind.u64.wrap m)).toNat:Nat))) d e f i a b _ c
 simp (disch:=first|apply D;decide|apply K;kernel_rfl) only [W,simprocAttr,xk B70 [2,2,1,2,2,1,2,2] .sq rfl,xk B70 [1,2,2,1,2,2,1,2,2] (.bk 1) rfl,xk B70 [2,1,2,2,1,2,2,1,2,2] .sq rfl,rg B70 [1,2,1,2,2,1,2,2,1,2,2] 4 false rfl,hr 70 4 rfl,indexAddrV,t_22,t_5,encI_eq,rg B70 [2,2,1,2,2,1,2,2,1,2,2] 5 false rfl,hr 70 5 rfl,shiftV,t_47,convV,j,l,o]
 try simp only [NM,EE] at hJ
 exact hJ
noncomputable def f70_l1_b (k:Nat) (f c d:Int) (e g:List Int) (a b:Int):Option R70_l1 :=
 cond ((decide (d<c)))
  (f70_l1_j1 k f c d true e g a b)
  (some (.o1 f c d false e g a b))
theorem f70_l1_b_ok (k g c d e h a b r) (f:f70_l1_b k g c d e h a b=some r):EX 70 k (nav B70 [1,2,2,1,2,2]) (⟨23,[(5,jL g),(10,.own 30000),(11,jI c),(12,jI d)],[(30000,.row true 1 5 (rowsOf (encI .u8) e)),(1000000,.box 91 [jB h,jI a,jI b])]⟩:St)=some r.st:=by
 unfold f70_l1_b at f
 simp (disch:=first|apply D;decide|apply K;kernel_rfl) only [W,simprocAttr,xk B70 [1,2,2,1,2,2] .sq rfl,rg B70 [1,1,2,2,1,2,2] 3 false rfl,hr 70 3 rfl,xk B70 [2,1,2,2,1,2,2] .sq rfl,xk B70 [1,2,1,2,2,1,2,2] (.cd 13) rfl]
 rcases cond_some f with ⟨i,f⟩ | ⟨i,f⟩
 ·have hJ:=f70_l1_j1_ok k g c d true e h a b _ f
  simp (disch:=first|apply D;decide|apply K;kernel_rfl) only [W,simprocAttr,xk B70 [2,1,2,1,2,2,1,2,2] .sk rfl,i]
  try simp only [NM,EE] at hJ
  exact hJ
 ·cases f
  simp (disch:=first|apply D;decide|apply K;kernel_rfl) only [W,simprocAttr,xk B70 [3,1,2,1,2,2,1,2,2] (.ex 0) rfl,R70_l1.st,i]
noncomputable def f70_l1 (k:Nat):Nat→Int→Int→Int→(List Int)→(List Int)→Int→Int→Option R70_l1
 | 0,_,_,_,_,_,_,_=>none
 | n+1,p,i,j,l,q,g,h=>Option.bind (f70_l1_b k p i j l q g h) fun o =>
  match o with
  | .o0 y a b c d e f=>f70_l1 k n y a b c d e f
  | .o1 y a b c d e f m=>some (.o1 y a b c d e f m)
theorem f70_l1_ok (k n:Nat):∀ (g c d:Int) (e i:List Int) (a b:Int) (r:R70_l1) (f:f70_l1 k n g c d e i a b=some r) (σ:St) (hσ:headR (hints.head 70 3) (hints.canon 70 3) σ=some (⟨23,[(5,jL g),(10,.own 30000),(11,jI c),(12,jI d)],[(30000,.row true 1 5 (rowsOf (encI .u8) e)),(1000000,.box 91 [jB i,jI a,jI b])]⟩:St)),LP 70 k (nav B70 [1,2,2,1,2,2]) n σ=some r.st:=by
 induction n with
 | zero=>intro g c d e i a b r f;cases f
 | succ n t =>
  intro g c d e i a b r f σ hσ
  rw [f70_l1] at f
  obtain ⟨o,h,f⟩:=Option.bind_eq_some_iff.1 f
  have hB:=f70_l1_b_ok k g c d e i a b o h
  unfold LP at t ⊢
  unfold EX at hB
  rw [loopK_succ,show firstReg (nav B70 [1,2,2,1,2,2])=3 from rfl,hσ,headK_some,hB]
  cases o with
  | o0 y j l m p q s =>
   refine t y j l m p q s r f _ ?_
   simp (disch:=first|apply D;decide|apply K;kernel_rfl) only [W,simprocAttr,hh_70_3,hc_70_3]
  | o1 y j l m p q s u=>cases f;rfl
noncomputable def f70_j2 (k:Nat) (c d e:Int) (f:Bool) (g h:List Int) (a b:Int):Option R70 :=
 some (.o0 c h a b)
theorem f70_j2_ok (k g c d e f h a b r) (i:f70_j2 k g c d e f h a b=some r):finK Tryd.prog Tryd.f70 1 (EX 70 k (nav B70 [2,2,2]) (⟨23,[(5,jL g),(10,.own 30000),(11,jI c),(12,jI d),(13,jT e)],[(30000,.row true 1 5 (rowsOf (encI .u8) f)),(1000000,.box 91 [jB h,jI a,jI b])]⟩:St))=some r.st:=by
 unfold f70_j2 at i
 cases i
 simp (disch:=first|apply D;decide|apply K;kernel_rfl) only [W,simprocAttr,xk B70 [2,2,2] .sq rfl,rg B70 [1,2,2,2] 7 false rfl,hr 70 7 rfl,xk B70 [2,2,2,2] .rt rfl,fin70,R70.st]
noncomputable def f70_e (k:Nat) (m:Int) (o:List Int) (a b:Int):Option R70 :=
 Option.bind (f63 k m o a b) fun o1 =>
  match o1 with
  | .o0 p q s l =>
   Option.bind (f70_l1 k k 0 ((List.length l):Int) 0 l p q s) fun o8 =>
    match o8 with
    | .o0 _ _ _ _ _ _ _ =>
     none
    | .o1 c d e f g h i j =>
     f70_j2 k c d e f g h i j
theorem f70_e_ok (k f g a b r) (d:f70_e k f g a b=some r):finK Tryd.prog Tryd.f70 1 (EX 70 k (nav B70 []) (⟨23,[(0,.ptr 1000000 0),(1,jI f)],[(1000000,.box 91 [jB g,jI a,jI b])]⟩:St))=some r.st:=by
 unfold f70_e at d
 obtain ⟨o1,t,d⟩:=bs d
 have e:=f63_ok k f g a b _ t
 cases o1 with
 | o0 u v w s =>
  (try dsimp only at d)
  (try simp only [NM,EE,R63.st] at e)
  obtain ⟨o8,x,d⟩:=bs d
  have c:=f70_l1_ok k k 0 ((List.length s):Int) 0 s u v w _ x
  simp (disch:=first|apply D;decide|apply K;kernel_rfl) only [W,simprocAttr,xk B70 [] .sq rfl,rg B70 [1] 0 false rfl,hr 70 0 rfl,xk B70 [2] .sq rfl,rg B70 [1,2] 1 false rfl,hr 70 1 rfl,xk B70 [2,2] .sq rfl,xk B70 [1,2,2] .sq rfl,rg B70 [1,1,2,2] 2 false rfl,hr 70 2 rfl,callStep,CL,gv,List.contains,t_22,xk B70 [2,1,2,2] (.bk 0) rfl,xk B70 [2,2,1,2,2] .lp rfl,hh_70_3,hc_70_3,e]
  (try simp only [NM,EE] at c)
  rw [c _ (by simp (disch:=first|apply D;decide|apply K;kernel_rfl) only [W,simprocAttr,hh_70_3,hc_70_3,e])]
  clear c
  cases o8 with
  | o0 _ _ _ _ _ _ _ =>
   (try dsimp only at d)
   cases d
  | o1 h i j l m o p q =>
   (try dsimp only at d)
   have hJ:=f70_j2_ok k h i j l m o p q _ d
   simp (disch:=first|apply D;decide|apply K;kernel_rfl) only [W,simprocAttr,R70_l1.st,e]
   try simp only [NM,EE] at hJ
   exact hJ
noncomputable def f70 (k:Nat) (c:Int) (d:List Int) (a b:Int):Option R70:=match k with | 0=>none | k+1=>f70_e k c d a b
theorem f70_ok (k d e a b r) (f:f70 k d e a b=some r):CV k 70 [.ptr 1000000 0,jI d] [.box 91 [jB e,jI a,jI b]]=some r.st:=by
 cases k with
 | zero=>cases f
 | succ k =>
  unfold CV
  rw [ev_call (F:=Tryd.f70) (c:=(nav B70 [])) rfl Tryd.func70 rfl rfl rfl rfl]
  exact f70_e_ok k d e a b r f
-- f60: f60 (*heliograph/octet.Reader).U8
inductive R60 where
 | o0 (y:Int) (a:List Int) (b c:Int)
noncomputable def R60.st:R60→V×List O×List O
 | .o0 y a b c=>(.p (.int .u8 y),[.box 91 [jB a,jI b,jI c]],[])
noncomputable def f60_e (k:Nat) (c:List Int) (a b:Int):Option R60 :=
 Option.bind (f70 k 1 c a b) fun o1 =>
  match o1 with
  | .o0 d e f g =>
   some (.o0 (IntKind.u8.wrap d) e f g)
theorem f60_e_ok (k e a b r) (c:f60_e k e a b=some r):finK Tryd.prog Tryd.f60 1 (EX 60 k (nav B60 []) (⟨6,[(0,.ptr 1000000 0)],[(1000000,.box 91 [jB e,jI a,jI b])]⟩:St))=some r.st:=by
 unfold f60_e at c
 obtain ⟨o1,f,c⟩:=bs c
 have d:=f70_ok k 1 e a b _ f
 cases o1 with
 | o0 g h i j =>
  (try dsimp only at c)
  (try simp only [NM,EE,R70.st] at d)
  cases c
  simp (disch:=first|apply D;decide|apply K;kernel_rfl) only [W,simprocAttr,xk B60 [] .sq rfl,rg B60 [1] 0 false rfl,hr 60 0 rfl,xk B60 [2] .sq rfl,rg B60 [1,2] 1 false rfl,hr 60 1 rfl,callStep,CL,gv,List.contains,t_47,t_5,convV,xk B60 [2,2] .rt rfl,fin60,R60.st,d]
noncomputable def f60 (k:Nat) (c:List Int) (a b:Int):Option R60:=match k with | 0=>none | k+1=>f60_e k c a b
theorem f60_ok (k d a b r) (e:f60 k d a b=some r):CV k 60 [.ptr 1000000 0] [.box 91 [jB d,jI a,jI b]]=some r.st:=by
 cases k with
 | zero=>cases e
 | succ k =>
  unfold CV
  rw [ev_call (F:=Tryd.f60) (c:=(nav B60 [])) rfl Tryd.func60 rfl rfl rfl rfl]
  exact f60_e_ok k d a b r e
-- f61: f61 (*heliograph/octet.Reader).Err
inductive R61 where
 | o0 (y:Int) (a:List Int) (b c:Int)
noncomputable def R61.st:R61→V×List O×List O
 | .o0 y a b c=>((jI y),[.box 91 [jB a,jI b,jI c]],[])
noncomputable def f61_j1 (k:Nat) (d:Bool) (c:List Int) (b a:Int):Option R61 :=
 some (.o0 a c b a)
theorem f61_j1_ok (k c d a b r) (e:f61_j1 k c d a b=some r):finK Tryd.prog Tryd.f61 1 (EX 61 k (nav B61 [2,2]) (⟨10,[(0,.ptr 1000000 0),(4,jT c)],[(1000000,.box 91 [jB d,jI a,jI b])]⟩:St))=some r.st:=by
 unfold f61_j1 at e
 cases e
 simp (disch:=first|apply D;decide|apply K;kernel_rfl) only [W,simprocAttr,xk B61 [2,2] .sq rfl,rg B61 [1,2,2] 3 false rfl,hr 61 3 rfl,fieldAddrV,t_91,t_89,t_27,xk B61 [2,2,2] .rt rfl,fin61,R61.st]
noncomputable def f61_e (k:Nat) (c:List Int) (a b:Int):Option R61 :=
 f61_j1 k false c a b
theorem f61_e_ok (k c a b r) (d:f61_e k c a b=some r):finK Tryd.prog Tryd.f61 1 (EX 61 k (nav B61 []) (⟨10,[(0,.ptr 1000000 0)],[(1000000,.box 91 [jB c,jI a,jI b])]⟩:St))=some r.st:=by
 unfold f61_e at d
 have hJ:=f61_j1_ok k false c a b _ d
 simp (disch:=first|apply D;decide|apply K;kernel_rfl) only [W,simprocAttr,xk B61 [] .sq rfl,rg B61 [1] 0 false rfl,hr 61 0 rfl,xk B61 [2] .sq rfl,xk B61 [1,2] .sq rfl,rg B61 [1,1,2] 1 false rfl,hr 61 1 rfl,t_69,isRef,isNilP,xk B61 [2,1,2] (.cd 4) rfl,xk B61 [3,2,1,2] .sk rfl]
 try simp only [NM,EE] at hJ
 exact hJ
noncomputable def f61 (k:Nat) (c:List Int) (a b:Int):Option R61:=match k with | 0=>none | k+1=>f61_e k c a b
theorem f61_ok (k d a b r) (e:f61 k d a b=some r):CV k 61 [.ptr 1000000 0] [.box 91 [jB d,jI a,jI b]]=some r.st:=by
 cases k with
 | zero=>cases e
 | succ k =>
  unfold CV
  rw [ev_call (F:=Tryd.f61) (c:=(nav B61 [])) rfl Tryd.func61 rfl rfl rfl rfl]
  exact f61_e_ok k d a b r e
-- f62: f62 slices.Index[[]byte,byte]
inductive R62 where
 | o0 (y:Int)
noncomputable def R62.st:R62→V×List O×List O
 | .o0 y=>((jI y),[],[])
inductive R62_l1 where
 | o0 (y:Int)
 | o1 (y:List Int) (a b c:Int)
 | o2 (y:List Int) (a b c:Int) (d:Bool)
noncomputable def R62_l1.st:R62_l1→Out×St
 | .o0 y=>(.ret,(⟨19,[(4,jI y)],[]⟩:St))
 | .o1 y a b c=>(.norm,(⟨19,[(0,jB y),(1,.p (.int .u8 a)),(7,jI b),(8,jI c)],[]⟩:St))
 | .o2 y a b c d=>(.exit 0,(⟨19,[(0,jB y),(1,.p (.int .u8 a)),(7,jI b),(8,jI c),(9,jT d)],[]⟩:St))
noncomputable def f62_l1_j2 (k:Nat) (a:List Int) (b f c d:Int) (e:Bool):Option R62_l1 :=
 some (.o1 a b c (IntKind.i64.wrap (d+(1:Int))))
theorem f62_l1_j2_ok (k b c d e f a r) (g:f62_l1_j2 k b c d e f a=some r):EX 62 k (nav B62 [2,2,2,1,2,2,1,2]) (⟨19,[(0,jB b),(1,.p (.int .u8 c)),(5,jI d),(7,jI e),(8,jI f),(16,jT a)],[]⟩:St)=some r.st:=by
 unfold f62_l1_j2 at g
 cases g
 simp (disch:=first|apply D;decide|apply K;kernel_rfl) only [W,simprocAttr,rg B62 [2,2,2,1,2,2,1,2] 6 false rfl,hr 62 6 rfl,R62_l1.st]
noncomputable def f62_l1_j1 (k:Nat) (b:List Int) (c d a:Int) (f:Bool):Option R62_l1 :=
 ifE ((0:Int)≤a) (
  Option.bind (b[(Int.toNat a)]?) fun e =>
   cond ((c==e))
    (some (.o0 a))
    (f62_l1_j2 k b c a d a false))
theorem f62_l1_j1_ok (k c d e b i r) (a:f62_l1_j1 k c d e b i=some r):EX 62 k (nav B62 [2,2,1,2,2,1,2]) (⟨19,[(0,jB c),(1,.p (.int .u8 d)),(7,jI e),(8,jI b),(9,jT i)],[]⟩:St)=some r.st:=by
 unfold f62_l1_j1 at a
 obtain ⟨f,a⟩:=ifE_some.1 a
 obtain ⟨j,g,a⟩:=bs a
 simp (disch:=first|apply D;decide|apply K;kernel_rfl) only [W,simprocAttr,xk B62 [2,2,1,2,2,1,2] .sq rfl,xk B62 [1,2,2,1,2,2,1,2] (.bk 1) rfl,xk B62 [2,1,2,2,1,2,2,1,2] .sq rfl,rg B62 [1,2,1,2,2,1,2,2,1,2] 3 false rfl,hr 62 3 rfl,xk B62 [2,2,1,2,2,1,2,2,1,2] .sq rfl,rg B62 [1,2,2,1,2,2,1,2,2,1,2] 4 false rfl,hr 62 4 rfl,indexAddrV,t_22,t_5,encI_eq,xk B62 [2,2,2,1,2,2,1,2,2,1,2] (.cd 16) rfl,f,g]
 rcases cond_some a with ⟨h,a⟩ | ⟨h,a⟩
 ·cases a
  simp (disch:=first|apply D;decide|apply K;kernel_rfl) only [W,simprocAttr,xk B62 [2,2,2,2,1,2,2,1,2,2,1,2] .sq rfl,rg B62 [1,2,2,2,2,1,2,2,1,2,2,1,2] 5 false rfl,hr 62 5 rfl,xk B62 [2,2,2,2,2,1,2,2,1,2,2,1,2] .rt rfl,R62_l1.st,f,g,h]
 ·have hJ:=f62_l1_j2_ok k c d b e b false _ a
  simp (disch:=first|apply D;decide|apply K;kernel_rfl) only [W,simprocAttr,xk B62 [3,2,2,2,1,2,2,1,2,2,1,2] .sk rfl,f,g,h]
  try simp only [NM,EE] at hJ
  exact hJ
noncomputable def f62_l1_b (k:Nat) (c:List Int) (d a b:Int):Option R62_l1 :=
 cond ((decide (b<a)))
  (f62_l1_j1 k c d a b true)
  (some (.o2 c d a b false))
theorem f62_l1_b_ok (k b c d e r) (a:f62_l1_b k b c d e=some r):EX 62 k (nav B62 [1,2,2,1,2]) (⟨19,[(0,jB b),(1,.p (.int .u8 c)),(7,jI d),(8,jI e)],[]⟩:St)=some r.st:=by
 unfold f62_l1_b at a
 simp (disch:=first|apply D;decide|apply K;kernel_rfl) only [W,simprocAttr,xk B62 [1,2,2,1,2] .sq rfl,rg B62 [1,1,2,2,1,2] 2 false rfl,hr 62 2 rfl,xk B62 [2,1,2,2,1,2] .sq rfl,xk B62 [1,2,1,2,2,1,2] (.cd 9) rfl]
 rcases cond_some a with ⟨f,a⟩ | ⟨f,a⟩
 ·have hJ:=f62_l1_j1_ok k b c d e true _ a
  simp (disch:=first|apply D;decide|apply K;kernel_rfl) only [W,simprocAttr,xk B62 [2,1,2,1,2,2,1,2] .sk rfl,f]
  try simp only [NM,EE] at hJ
  exact hJ
 ·cases a
  simp (disch:=first|apply D;decide|apply K;kernel_rfl) only [W,simprocAttr,xk B62 [3,1,2,1,2,2,1,2] (.ex 0) rfl,R62_l1.st,f]
noncomputable def f62_l1 (k:Nat):Nat→(List Int)→Int→Int→Int→Option R62_l1
 | 0,_,_,_,_=>none
 | n+1,e,f,g,h=>Option.bind (f62_l1_b k e f g h) fun o =>
  match o with
  | .o0 y=>some (.o0 y)
  | .o1 y a b c=>f62_l1 k n y a b c
  | .o2 y a b c d=>some (.o2 y a b c d)
theorem f62_l1_ok (k n:Nat):∀ (b:List Int) (c d e:Int) (r:R62_l1) (a:f62_l1 k n b c d e=some r) (σ:St) (hσ:headR (hints.head 62 2) (hints.canon 62 2) σ=some (⟨19,[(0,jB b),(1,.p (.int .u8 c)),(7,jI d),(8,jI e)],[]⟩:St)),LP 62 k (nav B62 [1,2,2,1,2]) n σ=some r.st:=by
 induction n with
 | zero=>intro b c d e r a;cases a
 | succ n j =>
  intro b c d e r a σ hσ
  rw [f62_l1] at a
  obtain ⟨o,h,a⟩:=Option.bind_eq_some_iff.1 a
  have hB:=f62_l1_b_ok k b c d e o h
  unfold LP at j ⊢
  unfold EX at hB
  rw [loopK_succ,show firstReg (nav B62 [1,2,2,1,2])=2 from rfl,hσ,headK_some,hB]
  cases o with
  | o0 y=>cases a;rfl
  | o1 y f g i =>
   refine j y f g i r a _ ?_
   simp (disch:=first|apply D;decide|apply K;kernel_rfl) only [W,simprocAttr,hh_62_2,hc_62_2]
  | o2 y f g i l=>cases a;rfl
noncomputable def f62_j2 (k:Nat) (a:List Int) (b c d:Int) (e:Bool):Option R62 :=
 some (.o0 (-1))
theorem f62_j2_ok (k a b c d e r) (f:f62_j2 k a b c d e=some r):finK Tryd.prog Tryd.f62 0 (EX 62 k (nav B62 [2,2]) (⟨19,[(0,jB a),(1,.p (.int .u8 b)),(7,jI c),(8,jI d),(9,jT e)],[]⟩:St))=some r.st:=by
 unfold f62_j2 at f
 cases f
 simp (disch:=first|apply D;decide|apply K;kernel_rfl) only [W,simprocAttr,xk B62 [2,2] .sq rfl,rg B62 [1,2,2] 7 false rfl,hr 62 7 rfl,xk B62 [2,2,2] .rt rfl,fin62,R62.st]
noncomputable def f62_e (k:Nat) (a:List Int) (b:Int):Option R62 :=
 Option.bind (f62_l1 k k a b ((List.length a):Int) 0) fun o1 =>
  match o1 with
  | .o0 c =>
   some (.o0 c)
  | .o1 _ _ _ _ =>
   none
  | .o2 d e f g h =>
   f62_j2 k d e f g h
theorem f62_e_ok (k c d r) (a:f62_e k c d=some r):finK Tryd.prog Tryd.f62 0 (EX 62 k (nav B62 []) (⟨19,[(0,jB c),(1,.p (.int .u8 d))],[]⟩:St))=some r.st:=by
 unfold f62_e at a
 obtain ⟨o1,e,a⟩:=bs a
 have b:=f62_l1_ok k k c d ((List.length c):Int) 0 _ e
 simp (disch:=first|apply D;decide|apply K;kernel_rfl) only [W,simprocAttr,xk B62 [] .sq rfl,rg B62 [1] 0 false rfl,hr 62 0 rfl,xk B62 [2] .sq rfl,xk B62 [1,2] .sq rfl,rg B62 [1,1,2] 1 false rfl,hr 62 1 rfl,t_22,xk B62 [2,1,2] (.bk 0) rfl,xk B62 [2,2,1,2] .lp rfl,hh_62_2,hc_62_2]
 (try simp only [NM,EE] at b)
 rw [b _ (by simp (disch:=first|apply D;decide|apply K;kernel_rfl) only [W,simprocAttr,hh_62_2,hc_62_2])]
 clear b
 cases o1 with
 | o0 l =>
  (try dsimp only at a)
  cases a
  simp (disch:=first|apply D;decide|apply K;kernel_rfl) only [W,simprocAttr,R62_l1.st,fin62,R62.st]
 | o1 _ _ _ _ =>
  (try dsimp only at a)
  cases a
 | o2 f g h i j =>
  (try dsimp only at a)
  have hJ:=f62_j2_ok k f g h i j _ a
  simp (disch:=first|apply D;decide|apply K;kernel_rfl) only [W,simprocAttr,R62_l1.st]
  try simp only [NM,EE] at hJ
  exact hJ
noncomputable def f62 (k:Nat) (a:List Int) (b:Int):Option R62:=match k with | 0=>none | k+1=>f62_e k a b
theorem f62_ok (k a b r) (d:f62 k a b=some r):CV k 62 [jB a,.p (.int .u8 b)] []=some r.st:=by
 cases k with
 | zero=>cases d
 | succ k =>
  unfold CV
  rw [ev_call (F:=Tryd.f62) (c:=(nav B62 [])) rfl Tryd.func62 rfl rfl rfl rfl]
  exact f62_e_ok k a b r d
-- f64: f64 unicode/utf8.word[[]byte]
inductive R64 where
 | o0 (y:Int)
noncomputable def R64.st:R64→V×List O×List O
 | .o0 y=>(jL y,[],[])
noncomputable def f64_j1 (k:Nat) (a:List Int):Option R64 :=
 Option.bind (a[0]?) fun e =>
  Option.bind (a[1]?) fun f =>
   Option.bind (a[2]?) fun g =>
    Option.bind (a[3]?) fun h =>
     Option.bind (a[4]?) fun i =>
      Option.bind (a[5]?) fun b =>
       Option.bind (a[6]?) fun c =>
        Option.bind (a[7]?) fun d =>
         some (.o0 ((IntKind.u64.wrap ((BitVec.ofInt (IntKind.bits .u64) (IntKind.u64.wrap ((BitVec.ofInt (IntKind.bits .u64) (IntKind.u64.wrap ((BitVec.ofInt (IntKind.bits .u64) (IntKind.u64.wrap ((BitVec.ofInt (IntKind.bits .u64) (IntKind.u64.wrap ((BitVec.ofInt (IntKind.bits .u64) (IntKind.u64.wrap ((BitVec.ofInt (IntKind.bits .u64) (IntKind.u64.wrap ((BitVec.ofInt (IntKind.bits .u64) (IntKind.u64.wrap e) ||| BitVec.ofInt (IntKind.bits .u64) (IntKind.u64.wrap ((IntKind.u64.wrap f) * 2 ^ (min 8 (IntKind.bits .u64))))).toNat:Nat)) ||| BitVec.ofInt (IntKind.bits .u64) (IntKind.u64.wrap ((IntKind.u64.wrap g) * 2 ^ (min 16 (IntKind.bits .u64))))).toNat:Nat)) ||| BitVec.ofInt (IntKind.bits .u64) (IntKind.u64.wrap ((IntKind.u64.wrap h) * 2 ^ (min 24 (IntKind.bits .u64))))).toNat:Nat)) ||| BitVec.ofInt (IntKind.bits .u64) (IntKind.u64.wrap ((IntKind.u64.wrap i) * 2 ^ (min 32 (IntKind.bits .u64))))).toNat:Nat)) ||| BitVec.ofInt (IntKind.bits .u64) (IntKind.u64.wrap ((IntKind.u64.wrap b) * 2 ^ (min 40 (IntKind.bits .u64))))).toNat:Nat)) ||| BitVec.ofInt (IntKind.bits .u64) (IntKind.u64.wrap ((IntKind.u64.wrap c) * 2 ^ (min 48 (IntKind.bits .u64))))).toNat:Nat)) ||| BitVec.ofInt (IntKind.bits .u64) (IntKind.u64.wrap ((IntKind.u64.wrap d) * 2 ^ (min 56 (IntKind.bits .u64))))).toNat:Nat))))
theorem f64_j1_ok (k f r) (a:f64_j1 k f=some r):finK Tryd.prog Tryd.f64 0 (EX 64 k (nav B64 [2,2]) (⟨71,[(0,jB f)],[]⟩:St))=some r.st:=by
 unfold f64_j1 at a
 obtain ⟨p,g,a⟩:=bs a
 obtain ⟨q,h,a⟩:=bs a
 obtain ⟨s,i,a⟩:=bs a
 obtain ⟨t,j,a⟩:=bs a
 obtain ⟨u,b,a⟩:=bs a
 obtain ⟨l,c,a⟩:=bs a
 obtain ⟨m,d,a⟩:=bs a
 obtain ⟨o,e,a⟩:=bs a
 cases a
 simp (disch:=first|apply D;decide|apply K;kernel_rfl) only [W,simprocAttr,xk B64 [2,2] .sq rfl,rg B64 [1,2,2] 2 true rfl,hr 64 2 rfl,indexAddrV,t_22,t_5,encI_eq,t_47,convV,shiftV,xk B64 [2,2,2] .rt rfl,fin64,R64.st,g,h,i,j,b,c,d,e]
noncomputable def f64_e (k:Nat) (a:List Int):Option R64 :=
 f64_j1 k a
theorem f64_e_ok (k a r) (b:f64_e k a=some r):finK Tryd.prog Tryd.f64 0 (EX 64 k (nav B64 []) (⟨71,[(0,jB a)],[]⟩:St))=some r.st:=by
 unfold f64_e at b
 have hJ:=f64_j1_ok k a _ b
 simp (disch:=first|apply D;decide|apply K;kernel_rfl) only [W,simprocAttr,xk B64 [] .sq rfl,rg B64 [1] 0 false rfl,hr 64 0 rfl,xk B64 [2] .sq rfl,xk B64 [1,2] .cf rfl,xk B64 [3,1,2] .sk rfl]
 try simp only [NM,EE] at hJ
 exact hJ
noncomputable def f64 (k:Nat) (a:List Int):Option R64:=match k with | 0=>none | k+1=>f64_e k a
theorem f64_ok (k a r) (b:f64 k a=some r):CV k 64 [jB a] []=some r.st:=by
 cases k with
 | zero=>cases b
 | succ k =>
  unfold CV
  rw [ev_call (F:=Tryd.f64) (c:=(nav B64 [])) rfl Tryd.func64 rfl rfl rfl rfl]
  exact f64_e_ok k a r b
end Go.Proofs.YtbnnmplkbpgcaaaDoorV