/- What the program's functions answer: plain functions,and that the interpreter answers what they do. Written by a program of this session,out of the translation. -/
import Derived.Test.YtbnnmplkbpgcaaaDoorVP5
namespace Go.Proofs.YtbnnmplkbpgcaaaDoorV
open Go
set_option linter.unusedVariables false
set_option linter.unusedSimpArgs false
set_option maxRecDepth 8000
set_option maxHeartbeats 4000000
-- f54: f54 heliograph/sum.seal
inductive R54 where
 | o0 (y:List Int)
noncomputable def R54.st:R54→V×List O×List O
 | .o0 y=>(.own 2000000,[],[.row true 1 5 (rowsOf (encI .u8) y)])
inductive R54_l1 where
 | o0 (y a b:Int) (c:List Int)
 | o1 (y a b:Int) (c:Bool) (d:List Int)
noncomputable def R54_l1.st:R54_l1→Out×St
 | .o0 y a b c=>(.norm,(⟨25,[(1,jU y),(7,.own 22),(11,jI a),(12,jI b)],[(22,.row true 1 5 (rowsOf (encI .u8) c))]⟩:St))
 | .o1 y a b c d=>(.exit 0,(⟨25,[(1,jU y),(7,.own 30000),(11,jI a),(12,jI b),(13,.p (.bool c))],[(30000,.row true 1 5 (rowsOf (encI .u8) d))]⟩:St))
noncomputable def f54_l1_j2 (k:Nat) (d a b:Int) (c:List Int):Option R54_l1 :=
 some (.o0 d a (IntKind.i64.wrap (b+(1:Int))) c)
theorem f54_l1_j2_ok (k d a b c r) (e:f54_l1_j2 k d a b c=some r):EX 54 k (nav B54 [2,2,2,1,2,2,1,2,2]) (⟨25,[(1,jU d),(7,.own 22),(11,jI a),(12,jI b)],[(22,.row true 1 5 (rowsOf (encI .u8) c))]⟩:St)=some r.st:=by
 unfold f54_l1_j2 at e
 cases e
 simp (disch:=first|apply D;decide|apply K;kernel_rfl) only [E,EE,↓reduceIte,simprocAttr,rg B54 [2,2,2,1,2,2,1,2,2] 6 false rfl,hr 54 6 rfl,R54_l1.st]
noncomputable def f54_l1_j1 (k:Nat) (d c a:Int) (e:Bool) (b:List Int):Option R54_l1 :=
 ifE (¬(IntKind.i64.wrap ((8:Int) * a))<0) (
  ifE (((List.length b)+1)≤roomy) (
   f54_l1_j2 k d c a ((b++([(IntKind.u8.wrap (Int.fdiv d (2 ^ (min (Int.toNat (IntKind.i64.wrap ((8:Int) * a))) (IntKind.bits .u32)))))]:List Int)))))
theorem f54_l1_j1_ok (k b c a f d r) (e:f54_l1_j1 k b c a f d=some r):EX 54 k (nav B54 [2,2,1,2,2,1,2,2]) (⟨25,[(1,jU b),(7,.own 30000),(11,jI c),(12,jI a),(13,.p (.bool f))],[(30000,.row true 1 5 (rowsOf (encI .u8) d))]⟩:St)=some r.st:=by
 unfold f54_l1_j1 at e
 obtain ⟨g,e⟩:=ifE_some.1 e
 have h:[[.p (.int .u8 (IntKind.u8.wrap (Int.fdiv b (2 ^ (min (Int.toNat (IntKind.i64.wrap ((8:Int) * a))) (IntKind.bits .u32))))))]]=rowsOf (encI .u8) ([(IntKind.u8.wrap (Int.fdiv b (2 ^ (min (Int.toNat (IntKind.i64.wrap ((8:Int) * a))) (IntKind.bits .u32)))))]:List Int):=rfl
 have i:List.map (tell [0]) (rowsOf (encI .u8) ([(IntKind.u8.wrap (Int.fdiv b (2 ^ (min (Int.toNat (IntKind.i64.wrap ((8:Int) * a))) (IntKind.bits .u32)))))]:List Int))=rowsOf (encI .u8) ([(IntKind.u8.wrap (Int.fdiv b (2 ^ (min (Int.toNat (IntKind.i64.wrap ((8:Int) * a))) (IntKind.bits .u32)))))]:List Int):=rfl
 obtain ⟨j,e⟩:=ifE_some.1 e
 have hJ:=f54_l1_j2_ok k b c a ((d++([(IntKind.u8.wrap (Int.fdiv b (2 ^ (min (Int.toNat (IntKind.i64.wrap ((8:Int) * a))) (IntKind.bits .u32)))))]:List Int))) _ e
 simp (disch:=first|apply D;decide|apply K;kernel_rfl) only [E,EE,↓reduceIte,simprocAttr,xk B54 [2,2,1,2,2,1,2,2] .sq rfl,xk B54 [1,2,2,1,2,2,1,2,2] (.bk 1) rfl,xk B54 [2,1,2,2,1,2,2,1,2,2] .sq rfl,rg B54 [1,2,1,2,2,1,2,2,1,2,2] 4 false rfl,hr 54 4 rfl,rg B54 [2,2,1,2,2,1,2,2,1,2,2] 5 false rfl,hr 54 5 rfl,shiftV,t_24,t_5,convV,buildSliceV,fillRows,sm_5,t_22,appendV,content,g,h,i,j]
 try simp only [NM,EE] at hJ
 exact hJ
noncomputable def f54_l1_b (k:Nat) (d a b:Int) (c:List Int):Option R54_l1 :=
 cond ((decide (b<a)))
  (f54_l1_j1 k d a b true c)
  (some (.o1 d a b false c))
theorem f54_l1_b_ok (k e a b c r) (d:f54_l1_b k e a b c=some r):EX 54 k (nav B54 [1,2,2,1,2,2]) (⟨25,[(1,jU e),(7,.own 30000),(11,jI a),(12,jI b)],[(30000,.row true 1 5 (rowsOf (encI .u8) c))]⟩:St)=some r.st:=by
 unfold f54_l1_b at d
 simp (disch:=first|apply D;decide|apply K;kernel_rfl) only [E,EE,↓reduceIte,simprocAttr,xk B54 [1,2,2,1,2,2] .sq rfl,rg B54 [1,1,2,2,1,2,2] 3 false rfl,hr 54 3 rfl,xk B54 [2,1,2,2,1,2,2] .sq rfl,xk B54 [1,2,1,2,2,1,2,2] (.cd 13) rfl]
 rcases cond_some d with ⟨f,d⟩ | ⟨f,d⟩
 ·have hJ:=f54_l1_j1_ok k e a b true c _ d
  simp (disch:=first|apply D;decide|apply K;kernel_rfl) only [E,EE,↓reduceIte,simprocAttr,xk B54 [2,1,2,1,2,2,1,2,2] .sk rfl,f]
  try simp only [NM,EE] at hJ
  exact hJ
 ·cases d
  simp (disch:=first|apply D;decide|apply K;kernel_rfl) only [E,EE,↓reduceIte,simprocAttr,xk B54 [3,1,2,1,2,2,1,2,2] (.ex 0) rfl,R54_l1.st,f]
noncomputable def f54_l1 (k:Nat):Nat→Int→Int→Int→(List Int)→Option R54_l1
 | 0,_,_,_,_=>none
 | n+1,h,d,e,f=>Option.bind (f54_l1_b k h d e f) fun o =>
  match o with
  | .o0 y a b c=>f54_l1 k n y a b c
  | .o1 y a b c g=>some (.o1 y a b c g)
theorem f54_l1_ok (k n:Nat):∀ (e a b:Int) (c:List Int) (r:R54_l1) (d:f54_l1 k n e a b c=some r) (σ:St) (hσ:headR (hints.head 54 3) (hints.canon 54 3) σ=some (⟨25,[(1,jU e),(7,.own 30000),(11,jI a),(12,jI b)],[(30000,.row true 1 5 (rowsOf (encI .u8) c))]⟩:St)),LP 54 k (nav B54 [1,2,2,1,2,2]) n σ=some r.st:=by
 induction n with
 | zero=>intro e a b c r d;cases d
 | succ n j =>
  intro e a b c r d σ hσ
  rw [f54_l1] at d
  obtain ⟨o,h,d⟩:=Option.bind_eq_some_iff.1 d
  have hB:=f54_l1_b_ok k e a b c o h
  unfold LP at j ⊢
  unfold EX at hB
  rw [loopK_succ,show firstReg (nav B54 [1,2,2,1,2,2])=3 from rfl,hσ,headK_some,hB]
  cases o with
  | o0 y f g i =>
   refine j y f g i r d _ ?_
   simp (disch:=first|apply D;decide|apply K;kernel_rfl) only [E,EE,↓reduceIte,simprocAttr,hh_54_3,hc_54_3]
  | o1 y f g i l=>cases d;rfl
noncomputable def f54_j2 (k:Nat) (e b c:Int) (d:Bool) (a:List Int):Option R54 :=
 some (.o0 a)
theorem f54_j2_ok (k e a b c d r) (f:f54_j2 k e a b c d=some r):finK Tryd.prog Tryd.f54 0 (EX 54 k (nav B54 [2,2,2]) (⟨25,[(1,jU e),(7,.own 30000),(11,jI a),(12,jI b),(13,.p (.bool c))],[(30000,.row true 1 5 (rowsOf (encI .u8) d))]⟩:St))=some r.st:=by
 unfold f54_j2 at f
 cases f
 simp (disch:=first|apply D;decide|apply K;kernel_rfl) only [E,EE,↓reduceIte,simprocAttr,xk B54 [2,2,2] .sq rfl,rg B54 [1,2,2,2] 7 false rfl,hr 54 7 rfl,xk B54 [2,2,2,2] .rt rfl,fin54,R54.st]
noncomputable def f54_e (k:Nat) (d:List Int) (e f:Int):Option R54 :=
 Option.bind (f53 k d) fun o1 =>
  match o1 with
  | .o0 g =>
   Option.bind (f54_l1 k k e f 0 g) fun o5 =>
    match o5 with
    | .o0 _ _ _ _ =>
     none
    | .o1 h i a b c =>
     f54_j2 k h i a b c
theorem f54_e_ok (k d e f r) (a:f54_e k d e f=some r):finK Tryd.prog Tryd.f54 0 (EX 54 k (nav B54 []) (⟨25,[(0,.sl 1 (rowsOf (encI .u8) d)),(1,jU e),(2,jI f)],[]⟩:St))=some r.st:=by
 unfold f54_e at a
 obtain ⟨o1,j,a⟩:=bs a
 have b:=f53_ok k d _ j
 cases o1 with
 | o0 l =>
  (try dsimp only at a)
  (try simp only [NM,EE,R53.st] at b)
  obtain ⟨o5,m,a⟩:=bs a
  have c:=f54_l1_ok k k e f 0 l _ m
  simp (disch:=first|apply D;decide|apply K;kernel_rfl) only [E,EE,↓reduceIte,simprocAttr,xk B54 [] .sq rfl,rg B54 [1] 0 false rfl,hr 54 0 rfl,xk B54 [2] .sq rfl,rg B54 [1,2] 1 false rfl,hr 54 1 rfl,callStep,CL,gv,List.contains,xk B54 [2,2] .sq rfl,xk B54 [1,2,2] .sq rfl,rg B54 [1,1,2,2] 2 false rfl,hr 54 2 rfl,xk B54 [2,1,2,2] (.bk 0) rfl,xk B54 [2,2,1,2,2] .lp rfl,hh_54_3,hc_54_3,b]
  (try simp only [NM,EE] at c)
  rw [c _ (by simp (disch:=first|apply D;decide|apply K;kernel_rfl) only [E,EE,↓reduceIte,simprocAttr,hh_54_3,hc_54_3,b])]
  clear c
  cases o5 with
  | o0 _ _ _ _ =>
   (try dsimp only at a)
   cases a
  | o1 o p g h i =>
   (try dsimp only at a)
   have hJ:=f54_j2_ok k o p g h i _ a
   simp (disch:=first|apply D;decide|apply K;kernel_rfl) only [E,EE,↓reduceIte,simprocAttr,R54_l1.st,b]
   try simp only [NM,EE] at hJ
   exact hJ
noncomputable def f54 (k:Nat) (a:List Int) (b c:Int):Option R54:=match k with | 0=>none | k+1=>f54_e k a b c
theorem f54_ok (k a b d r) (e:f54 k a b d=some r):CV k 54 [.sl 1 (rowsOf (encI .u8) a),jU b,jI d] []=some r.st:=by
 cases k with
 | zero=>cases e
 | succ k =>
  unfold CV
  rw [ev_call (F:=Tryd.f54) (c:=(nav B54 [])) rfl Tryd.func54 rfl rfl rfl rfl]
  exact f54_e_ok k a b d r e
-- f35: f35 heliograph/sum.Seal16
inductive R35 where
 | o0 (y:List Int)
noncomputable def R35.st:R35→V×List O×List O
 | .o0 y=>(.own 2000000,[],[.row true 1 5 (rowsOf (encI .u8) y)])
noncomputable def f35_e (k:Nat) (a:List Int):Option R35 :=
 Option.bind (f55 k a) fun o1 =>
  match o1 with
  | .o0 b =>
   Option.bind (f54 k a (IntKind.u32.wrap b) 2) fun o5 =>
    match o5 with
    | .o0 c =>
     some (.o0 c)
theorem f35_e_ok (k d r) (a:f35_e k d=some r):finK Tryd.prog Tryd.f35 0 (EX 35 k (nav B35 []) (⟨8,[(0,.sl 1 (rowsOf (encI .u8) d))],[]⟩:St))=some r.st:=by
 unfold f35_e at a
 obtain ⟨o1,e,a⟩:=bs a
 have b:=f55_ok k d _ e
 cases o1 with
 | o0 f =>
  (try dsimp only at a)
  (try simp only [NM,EE,R55.st] at b)
  obtain ⟨o5,g,a⟩:=bs a
  have c:=f54_ok k d (IntKind.u32.wrap f) 2 _ g
  cases o5 with
  | o0 h =>
   (try dsimp only at a)
   (try simp only [NM,EE,R54.st] at c)
   cases a
   simp (disch:=first|apply D;decide|apply K;kernel_rfl) only [E,EE,↓reduceIte,simprocAttr,xk B35 [] .sq rfl,rg B35 [1] 0 false rfl,hr 35 0 rfl,xk B35 [2] .sq rfl,rg B35 [1,2] 1 false rfl,hr 35 1 rfl,callStep,CL,gv,List.contains,t_80,t_24,convV,xk B35 [2,2] .rt rfl,fin35,R35.st,b,c]
noncomputable def f35 (k:Nat) (a:List Int):Option R35:=match k with | 0=>none | k+1=>f35_e k a
theorem f35_ok (k a r) (b:f35 k a=some r):CV k 35 [.sl 1 (rowsOf (encI .u8) a)] []=some r.st:=by
 cases k with
 | zero=>cases b
 | succ k =>
  unfold CV
  rw [ev_call (F:=Tryd.f35) (c:=(nav B35 [])) rfl Tryd.func35 rfl rfl rfl rfl]
  exact f35_e_ok k a r b
-- f34: f34 heliograph/cbor.Bytes
inductive R34 where
 | o0 (y a:Int) (b:List T50) (c:List Int)
noncomputable def R34.st:R34→V×List O×List O
 | .o0 y a b c=>(.agg [jI y,.p (.int .u64 a),.own 2000000,.sl 4 (rowsOf encT50 b)],[],[.row true 1 5 (rowsOf (encI .u8) c)])
noncomputable def f34_e (k:Nat) (a:List Int):Option R34 :=
 Option.bind (f53 k a) fun o1 =>
  match o1 with
  | .o0 b =>
   some (.o0 2 0 [] b)
theorem f34_e_ok (k c r) (a:f34_e k c=some r):finK Tryd.prog Tryd.f34 0 (EX 34 k (nav B34 []) (⟨6,[(0,.sl 1 (rowsOf (encI .u8) c))],[]⟩:St))=some r.st:=by
 unfold f34_e at a
 obtain ⟨o1,d,a⟩:=bs a
 have b:=f53_ok k c _ d
 cases o1 with
 | o0 e =>
  (try dsimp only at a)
  (try simp only [NM,EE,R53.st] at b)
  cases a
  simp (disch:=first|apply D;decide|apply K;kernel_rfl) only [E,EE,↓reduceIte,simprocAttr,xk B34 [] .sq rfl,rg B34 [1] 0 false rfl,hr_34_0,t_50,xk B34 [2] .sq rfl,rg B34 [1,2] 1 false rfl,hr_34_1,callStep,CL,gv,List.contains,bl_50,xk B34 [2,2] .rt rfl,fin34,R34.st,b]
noncomputable def f34 (k:Nat) (a:List Int):Option R34:=match k with | 0=>none | k+1=>f34_e k a
theorem f34_ok (k a r) (b:f34 k a=some r):CV k 34 [.sl 1 (rowsOf (encI .u8) a)] []=some r.st:=by
 cases k with
 | zero=>cases b
 | succ k =>
  unfold CV
  rw [ev_call (F:=Tryd.f34) (c:=(nav B34 [])) rfl Tryd.func34 rfl rfl rfl rfl]
  exact f34_e_ok k a r b
-- f69: f69 heliograph/sum.sum[uint32]
inductive R69 where
 | o0 (y:Int)
noncomputable def R69.st:R69→V×List O×List O
 | .o0 y=>((jU y),[],[])
inductive R69_l1_l2 where
 | o0 (y a:Int) (b:List Int) (c d e:Int)
 | o1 (y a:Int) (b:List Int) (c d e:Int) (f:Bool)
noncomputable def R69_l1_l2.st:R69_l1_l2→Out×St
 | .o0 y a b c d e=>(.norm,(⟨36,[(1,jU y),(5,jU a),(11,.sl 1 (rowsOf (encI .u8) b)),(12,jI c),(13,jI d),(21,jI e)],[]⟩:St))
 | .o1 y a b c d e f=>(.exit 2,(⟨36,[(1,jU y),(5,jU a),(11,.sl 1 (rowsOf (encI .u8) b)),(12,jI c),(13,jI d),(21,jI e),(22,.p (.bool f))],[]⟩:St))
noncomputable def f69_l1_l2_j2 (k:Nat) (e f:Int) (a:List Int) (b c d:Int):Option R69_l1_l2 :=
 some (R69_l1_l2.o0 e f a b c (IntKind.i64.wrap (d+(1:Int))))
theorem f69_l1_l2_j2_ok (k e f a b c d r) (g:f69_l1_l2_j2 k e f a b c d=some r):EX 69 k (nav B69 [2,2,2,1,2,2,2,2,2,1,2,2,1,2,2,1,2,2]) (⟨36,[(1,jU e),(5,jU f),(11,.sl 1 (rowsOf (encI .u8) a)),(12,jI b),(13,jI c),(21,jI d)],[]⟩:St)=some r.st:=by
 unfold f69_l1_l2_j2 at g
 cases g
 simp (disch:=first|apply D;decide|apply K;kernel_rfl) only [E,EE,↓reduceIte,simprocAttr,rg B69 [2,2,2,1,2,2,2,2,2,1,2,2,1,2,2,1,2,2] 12 false rfl,hr 69 12 rfl,R69_l1_l2.st]
noncomputable def f69_l1_l2_j3 (k:Nat) (e f:Int) (a:List Int) (b c d:Int) (g:Bool):Option R69_l1_l2 :=
 some (R69_l1_l2.o0 e f a b c (IntKind.i64.wrap (d+(1:Int))))
theorem f69_l1_l2_j3_ok (k f g a b c d e r) (h:f69_l1_l2_j3 k f g a b c d e=some r):EX 69 k (nav B69 [2,2,2,1,2,2,2,2,2,1,2,2,1,2,2,1,2,2]) (⟨36,[(1,jU f),(5,jU g),(11,.sl 1 (rowsOf (encI .u8) a)),(12,jI b),(13,jI c),(21,jI d),(28,.p (.bool e))],[]⟩:St)=some r.st:=by
 unfold f69_l1_l2_j3 at h
 cases h
 simp (disch:=first|apply D;decide|apply K;kernel_rfl) only [E,EE,↓reduceIte,simprocAttr,rg B69 [2,2,2,1,2,2,2,2,2,1,2,2,1,2,2,1,2,2] 12 false rfl,hr 69 12 rfl,R69_l1_l2.st]
noncomputable def f69_l1_l2_j1 (k:Nat) (e f:Int) (a:List Int) (b c d:Int) (g:Bool):Option R69_l1_l2 :=
 cond (((IntKind.u32.wrap ((BitVec.ofInt (IntKind.bits .u32) f &&& BitVec.ofInt (IntKind.bits .u32) (1:Int)).toNat:Nat))==1))
  (f69_l1_l2_j2 k e ((IntKind.u32.wrap ((BitVec.ofInt (IntKind.bits .u32) (Int.fdiv f (2 ^ (min 1 (IntKind.bits .u32)))) ^^^ BitVec.ofInt (IntKind.bits .u32) e).toNat:Nat))) a b c d)
  (f69_l1_l2_j3 k e (Int.fdiv f (2 ^ (min 1 (IntKind.bits .u32)))) a b c d false)
theorem f69_l1_l2_j1_ok (k f h a b c d g r) (e:f69_l1_l2_j1 k f h a b c d g=some r):EX 69 k (nav B69 [2,2,1,2,2,2,2,2,1,2,2,1,2,2,1,2,2]) (⟨36,[(1,jU f),(5,jU h),(11,.sl 1 (rowsOf (encI .u8) a)),(12,jI b),(13,jI c),(21,jI d),(22,.p (.bool g))],[]⟩:St)=some r.st:=by
 unfold f69_l1_l2_j1 at e
 simp (disch:=first|apply D;decide|apply K;kernel_rfl) only [E,EE,↓reduceIte,simprocAttr,xk B69 [2,2,1,2,2,2,2,2,1,2,2,1,2,2,1,2,2] .sq rfl,xk B69 [1,2,2,1,2,2,2,2,2,1,2,2,1,2,2,1,2,2] (.bk 3) rfl,xk B69 [2,1,2,2,1,2,2,2,2,2,1,2,2,1,2,2,1,2,2] .sq rfl,rg B69 [1,2,1,2,2,1,2,2,2,2,2,1,2,2,1,2,2,1,2,2] 8 false rfl,hr 69 8 rfl,xk B69 [2,2,1,2,2,1,2,2,2,2,2,1,2,2,1,2,2,1,2,2] .sq rfl,rg B69 [1,2,2,1,2,2,1,2,2,2,2,2,1,2,2,1,2,2,1,2,2] 9 false rfl,hr 69 9 rfl,shiftV,xk B69 [2,2,2,1,2,2,1,2,2,2,2,2,1,2,2,1,2,2,1,2,2] .sq rfl,rg B69 [1,2,2,2,1,2,2,1,2,2,2,2,2,1,2,2,1,2,2,1,2,2] 10 false rfl,hr 69 10 rfl,xk B69 [2,2,2,2,1,2,2,1,2,2,2,2,2,1,2,2,1,2,2,1,2,2] (.cd 28) rfl]
 rcases cond_some e with ⟨i,e⟩ | ⟨i,e⟩
 ·have hJ:=f69_l1_l2_j2_ok k f ((IntKind.u32.wrap ((BitVec.ofInt (IntKind.bits .u32) (Int.fdiv h (2 ^ (min 1 (IntKind.bits .u32)))) ^^^ BitVec.ofInt (IntKind.bits .u32) f).toNat:Nat))) a b c d _ e
  simp (disch:=first|apply D;decide|apply K;kernel_rfl) only [E,EE,↓reduceIte,simprocAttr,rg B69 [2,2,2,2,2,1,2,2,1,2,2,2,2,2,1,2,2,1,2,2,1,2,2] 11 false rfl,hr 69 11 rfl,i]
  try simp only [NM,EE] at hJ
  exact hJ
 ·have hJ:=f69_l1_l2_j3_ok k f (Int.fdiv h (2 ^ (min 1 (IntKind.bits .u32)))) a b c d false _ e
  simp (disch:=first|apply D;decide|apply K;kernel_rfl) only [E,EE,↓reduceIte,simprocAttr,xk B69 [3,2,2,2,2,1,2,2,1,2,2,2,2,2,1,2,2,1,2,2,1,2,2] .sk rfl,i]
  try simp only [NM,EE] at hJ
  exact hJ
noncomputable def f69_l1_l2_b (k:Nat) (e f:Int) (b:List Int) (c d a:Int):Option R69_l1_l2 :=
 cond ((decide (a<8)))
  (f69_l1_l2_j1 k e f b c d a true)
  (some (R69_l1_l2.o1 e f b c d a false))
theorem f69_l1_l2_b_ok (k f g a b c d r) (e:f69_l1_l2_b k f g a b c d=some r):EX 69 k (nav B69 [1,2,2,2,2,2,1,2,2,1,2,2,1,2,2]) (⟨36,[(1,jU f),(5,jU g),(11,.sl 1 (rowsOf (encI .u8) a)),(12,jI b),(13,jI c),(21,jI d)],[]⟩:St)=some r.st:=by
 unfold f69_l1_l2_b at e
 simp (disch:=first|apply D;decide|apply K;kernel_rfl) only [E,EE,↓reduceIte,simprocAttr,xk B69 [1,2,2,2,2,2,1,2,2,1,2,2,1,2,2] .sq rfl,rg B69 [1,1,2,2,2,2,2,1,2,2,1,2,2,1,2,2] 7 false rfl,hr 69 7 rfl,xk B69 [2,1,2,2,2,2,2,1,2,2,1,2,2,1,2,2] .sq rfl,xk B69 [1,2,1,2,2,2,2,2,1,2,2,1,2,2,1,2,2] (.cd 22) rfl]
 rcases cond_some e with ⟨h,e⟩ | ⟨h,e⟩
 ·have hJ:=f69_l1_l2_j1_ok k f g a b c d true _ e
  simp (disch:=first|apply D;decide|apply K;kernel_rfl) only [E,EE,↓reduceIte,simprocAttr,xk B69 [2,1,2,1,2,2,2,2,2,1,2,2,1,2,2,1,2,2] .sk rfl,h]
  try simp only [NM,EE] at hJ
  exact hJ
 ·cases e
  simp (disch:=first|apply D;decide|apply K;kernel_rfl) only [E,EE,↓reduceIte,simprocAttr,xk B69 [3,1,2,1,2,2,2,2,2,1,2,2,1,2,2,1,2,2] (.ex 2) rfl,R69_l1_l2.st,h]
noncomputable def f69_l1_l2 (k:Nat):Nat→Int→Int→(List Int)→Int→Int→Int→Option R69_l1_l2
 | 0,_,_,_,_,_,_=>none
 | n+1,l,m,f,g,h,i=>Option.bind (f69_l1_l2_b k l m f g h i) fun o =>
  match o with
  | .o0 y a b c d e=>f69_l1_l2 k n y a b c d e
  | .o1 y a b c d e j=>some (.o1 y a b c d e j)
theorem f69_l1_l2_ok (k n:Nat):∀ (f g:Int) (a:List Int) (b c d:Int) (r:R69_l1_l2) (e:f69_l1_l2 k n f g a b c d=some r) (σ:St) (hσ:headR (hints.head 69 7) (hints.canon 69 7) σ=some (⟨36,[(1,jU f),(5,jU g),(11,.sl 1 (rowsOf (encI .u8) a)),(12,jI b),(13,jI c),(21,jI d)],[]⟩:St)),LP 69 k (nav B69 [1,2,2,2,2,2,1,2,2,1,2,2,1,2,2]) n σ=some r.st:=by
 induction n with
 | zero=>intro f g a b c d r e;cases e
 | succ n q =>
  intro f g a b c d r e σ hσ
  rw [f69_l1_l2] at e
  obtain ⟨o,h,e⟩:=Option.bind_eq_some_iff.1 e
  have hB:=f69_l1_l2_b_ok k f g a b c d o h
  unfold LP at q ⊢
  unfold EX at hB
  rw [loopK_succ,show firstReg (nav B69 [1,2,2,2,2,2,1,2,2,1,2,2,1,2,2])=7 from rfl,hσ,headK_some,hB]
  cases o with
  | o0 y i j l m p =>
   refine q y i j l m p r e _ ?_
   simp (disch:=first|apply D;decide|apply K;kernel_rfl) only [E,EE,↓reduceIte,simprocAttr,hh_69_7,hc_69_7]
  | o1 y i j l m p s=>cases e;rfl
inductive R69_l1 where
 | o0 (y a:Int) (b:List Int) (c d:Int)
 | o1 (y a:Int) (b:List Int) (c d:Int) (e:Bool)
noncomputable def R69_l1.st:R69_l1→Out×St
 | .o0 y a b c d=>(.norm,(⟨36,[(1,jU y),(5,jU a),(11,.sl 1 (rowsOf (encI .u8) b)),(12,jI c),(13,jI d)],[]⟩:St))
 | .o1 y a b c d e=>(.exit 0,(⟨36,[(1,jU y),(5,jU a),(11,.sl 1 (rowsOf (encI .u8) b)),(12,jI c),(13,jI d),(14,.p (.bool e))],[]⟩:St))
noncomputable def f69_l1_j3 (k:Nat) (d e:Int) (a:List Int) (b c f:Int) (g:Bool):Option R69_l1 :=
 some (.o0 d e a b (IntKind.i64.wrap (c+(1:Int))))
theorem f69_l1_j3_ok (k f g a b c d e r) (h:f69_l1_j3 k f g a b c d e=some r):EX 69 k (nav B69 [2,2,2,1,2,2,1,2,2]) (⟨36,[(1,jU f),(5,jU g),(11,.sl 1 (rowsOf (encI .u8) a)),(12,jI b),(13,jI c),(21,jI d),(22,.p (.bool e))],[]⟩:St)=some r.st:=by
 unfold f69_l1_j3 at h
 cases h
 simp (disch:=first|apply D;decide|apply K;kernel_rfl) only [E,EE,↓reduceIte,simprocAttr,rg B69 [2,2,2,1,2,2,1,2,2] 13 false rfl,hr 69 13 rfl,R69_l1.st]
noncomputable def f69_l1_j1 (k:Nat) (h i:Int) (b:List Int) (c a:Int) (j:Bool):Option R69_l1 :=
 ifE ((0:Int)≤a) (
  Option.bind (b[(Int.toNat a)]?) fun l =>
   Option.bind (f69_l1_l2 k k h ((IntKind.u32.wrap ((BitVec.ofInt (IntKind.bits .u32) i ^^^ BitVec.ofInt (IntKind.bits .u32) (IntKind.u32.wrap l)).toNat:Nat))) b c a 0) fun o4 =>
    match o4 with
    | .o0 _ _ _ _ _ _ =>
     none
    | .o1 m o p d e f g =>
     f69_l1_j3 k m o p d e f g)
theorem f69_l1_j1_ok (k g h b c d f r) (a:f69_l1_j1 k g h b c d f=some r):EX 69 k (nav B69 [2,2,1,2,2,1,2,2]) (⟨36,[(1,jU g),(5,jU h),(11,.sl 1 (rowsOf (encI .u8) b)),(12,jI c),(13,jI d),(14,.p (.bool f))],[]⟩:St)=some r.st:=by
 unfold f69_l1_j1 at a
 obtain ⟨i,a⟩:=ifE_some.1 a
 obtain ⟨q,j,a⟩:=bs a
 obtain ⟨o4,s,a⟩:=bs a
 have e:=f69_l1_l2_ok k k g ((IntKind.u32.wrap ((BitVec.ofInt (IntKind.bits .u32) h ^^^ BitVec.ofInt (IntKind.bits .u32) (IntKind.u32.wrap q)).toNat:Nat))) b c d 0 _ s
 simp (disch:=first|apply D;decide|apply K;kernel_rfl) only [E,EE,↓reduceIte,simprocAttr,xk B69 [2,2,1,2,2,1,2,2] .sq rfl,xk B69 [1,2,2,1,2,2,1,2,2] (.bk 1) rfl,xk B69 [2,1,2,2,1,2,2,1,2,2] .sq rfl,rg B69 [1,2,1,2,2,1,2,2,1,2,2] 4 false rfl,hr 69 4 rfl,indexAddrV,t_22,t_5,encI_eq,xk B69 [2,2,1,2,2,1,2,2,1,2,2] .sq rfl,rg B69 [1,2,2,1,2,2,1,2,2,1,2,2] 5 false rfl,hr 69 5 rfl,t_24,convV,xk B69 [2,2,2,1,2,2,1,2,2,1,2,2] .sq rfl,rg B69 [1,2,2,2,1,2,2,1,2,2,1,2,2] 6 false rfl,hr 69 6 rfl,xk B69 [2,2,2,2,1,2,2,1,2,2,1,2,2] (.bk 2) rfl,xk B69 [2,2,2,2,2,1,2,2,1,2,2,1,2,2] .lp rfl,hh_69_7,hc_69_7,i,j]
 (try simp only [NM,EE] at e)
 rw [e _ (by simp (disch:=first|apply D;decide|apply K;kernel_rfl) only [E,EE,↓reduceIte,simprocAttr,hh_69_7,hc_69_7,i,j])]
 clear e
 cases o4 with
 | o0 _ _ _ _ _ _ =>
  (try dsimp only at a)
  cases a
 | o1 t u v l m o p =>
  (try dsimp only at a)
  have hJ:=f69_l1_j3_ok k t u v l m o p _ a
  simp (disch:=first|apply D;decide|apply K;kernel_rfl) only [E,EE,↓reduceIte,simprocAttr,R69_l1_l2.st,i,j]
  try simp only [NM,EE] at hJ
  exact hJ
noncomputable def f69_l1_b (k:Nat) (d e:Int) (c:List Int) (a b:Int):Option R69_l1 :=
 cond ((decide (b<a)))
  (f69_l1_j1 k d e c a b true)
  (some (.o1 d e c a b false))
theorem f69_l1_b_ok (k e f a b c r) (d:f69_l1_b k e f a b c=some r):EX 69 k (nav B69 [1,2,2,1,2,2]) (⟨36,[(1,jU e),(5,jU f),(11,.sl 1 (rowsOf (encI .u8) a)),(12,jI b),(13,jI c)],[]⟩:St)=some r.st:=by
 unfold f69_l1_b at d
 simp (disch:=first|apply D;decide|apply K;kernel_rfl) only [E,EE,↓reduceIte,simprocAttr,xk B69 [1,2,2,1,2,2] .sq rfl,rg B69 [1,1,2,2,1,2,2] 3 false rfl,hr 69 3 rfl,xk B69 [2,1,2,2,1,2,2] .sq rfl,xk B69 [1,2,1,2,2,1,2,2] (.cd 14) rfl]
 rcases cond_some d with ⟨g,d⟩ | ⟨g,d⟩
 ·have hJ:=f69_l1_j1_ok k e f a b c true _ d
  simp (disch:=first|apply D;decide|apply K;kernel_rfl) only [E,EE,↓reduceIte,simprocAttr,xk B69 [2,1,2,1,2,2,1,2,2] .sk rfl,g]
  try simp only [NM,EE] at hJ
  exact hJ
 ·cases d
  simp (disch:=first|apply D;decide|apply K;kernel_rfl) only [E,EE,↓reduceIte,simprocAttr,xk B69 [3,1,2,1,2,2,1,2,2] (.ex 0) rfl,R69_l1.st,g]
noncomputable def f69_l1 (k:Nat):Nat→Int→Int→(List Int)→Int→Int→Option R69_l1
 | 0,_,_,_,_,_=>none
 | n+1,i,j,e,f,g=>Option.bind (f69_l1_b k i j e f g) fun o =>
  match o with
  | .o0 y a b c d=>f69_l1 k n y a b c d
  | .o1 y a b c d h=>some (.o1 y a b c d h)
theorem f69_l1_ok (k n:Nat):∀ (e f:Int) (a:List Int) (b c:Int) (r:R69_l1) (d:f69_l1 k n e f a b c=some r) (σ:St) (hσ:headR (hints.head 69 3) (hints.canon 69 3) σ=some (⟨36,[(1,jU e),(5,jU f),(11,.sl 1 (rowsOf (encI .u8) a)),(12,jI b),(13,jI c)],[]⟩:St)),LP 69 k (nav B69 [1,2,2,1,2,2]) n σ=some r.st:=by
 induction n with
 | zero=>intro e f a b c r d;cases d
 | succ n m =>
  intro e f a b c r d σ hσ
  rw [f69_l1] at d
  obtain ⟨o,h,d⟩:=Option.bind_eq_some_iff.1 d
  have hB:=f69_l1_b_ok k e f a b c o h
  unfold LP at m ⊢
  unfold EX at hB
  rw [loopK_succ,show firstReg (nav B69 [1,2,2,1,2,2])=3 from rfl,hσ,headK_some,hB]
  cases o with
  | o0 y g i j l =>
   refine m y g i j l r d _ ?_
   simp (disch:=first|apply D;decide|apply K;kernel_rfl) only [E,EE,↓reduceIte,simprocAttr,hh_69_3,hc_69_3]
  | o1 y g i j l p=>cases d;rfl
noncomputable def f69_j2 (k:Nat) (f a:Int) (b:List Int) (c d:Int) (e:Bool):Option R69 :=
 some (.o0 (flipI .u32 a))
theorem f69_j2_ok (k e f a b c d r) (g:f69_j2 k e f a b c d=some r):finK Tryd.prog Tryd.f69 0 (EX 69 k (nav B69 [2,2,2]) (⟨36,[(1,jU e),(5,jU f),(11,.sl 1 (rowsOf (encI .u8) a)),(12,jI b),(13,jI c),(14,.p (.bool d))],[]⟩:St))=some r.st:=by
 unfold f69_j2 at g
 cases g
 simp (disch:=first|apply D;decide|apply K;kernel_rfl) only [E,EE,↓reduceIte,simprocAttr,xk B69 [2,2,2] .sq rfl,rg B69 [1,2,2,2] 14 false rfl,hr 69 14 rfl,xk B69 [2,2,2,2] .rt rfl,fin69,R69.st]
noncomputable def f69_e (k:Nat) (a:List Int) (b:Int):Option R69 :=
 Option.bind (f69_l1 k k b (flipI .u32 (IntKind.u32.wrap 0)) a ((List.length a):Int) 0) fun o1 =>
  match o1 with
  | .o0 _ _ _ _ _ =>
   none
  | .o1 c d e f g h =>
   f69_j2 k c d e f g h
theorem f69_e_ok (k c d r) (a:f69_e k c d=some r):finK Tryd.prog Tryd.f69 0 (EX 69 k (nav B69 []) (⟨36,[(0,.sl 1 (rowsOf (encI .u8) c)),(1,jU d)],[]⟩:St))=some r.st:=by
 unfold f69_e at a
 obtain ⟨o1,e,a⟩:=bs a
 have b:=f69_l1_ok k k d (flipI .u32 (IntKind.u32.wrap 0)) c ((List.length c):Int) 0 _ e
 simp (disch:=first|apply D;decide|apply K;kernel_rfl) only [E,EE,↓reduceIte,simprocAttr,xk B69 [] .sq rfl,rg B69 [1] 0 false rfl,hr 69 0 rfl,xk B69 [2] .sq rfl,rg B69 [1,2] 1 false rfl,hr 69 1 rfl,t_3,t_24,convV,xk B69 [2,2] .sq rfl,xk B69 [1,2,2] .sq rfl,rg B69 [1,1,2,2] 2 false rfl,hr 69 2 rfl,t_22,xk B69 [2,1,2,2] (.bk 0) rfl,xk B69 [2,2,1,2,2] .lp rfl,hh_69_3,hc_69_3]
 (try simp only [NM,EE] at b)
 rw [b _ (by simp (disch:=first|apply D;decide|apply K;kernel_rfl) only [E,EE,↓reduceIte,simprocAttr,hh_69_3,hc_69_3])]
 clear b
 cases o1 with
 | o0 _ _ _ _ _ =>
  (try dsimp only at a)
  cases a
 | o1 f g h i j l =>
  (try dsimp only at a)
  have hJ:=f69_j2_ok k f g h i j l _ a
  simp (disch:=first|apply D;decide|apply K;kernel_rfl) only [E,EE,↓reduceIte,simprocAttr,R69_l1.st]
  try simp only [NM,EE] at hJ
  exact hJ
noncomputable def f69 (k:Nat) (a:List Int) (b:Int):Option R69:=match k with | 0=>none | k+1=>f69_e k a b
theorem f69_ok (k a b r) (d:f69 k a b=some r):CV k 69 [.sl 1 (rowsOf (encI .u8) a),jU b] []=some r.st:=by
 cases k with
 | zero=>cases d
 | succ k =>
  unfold CV
  rw [ev_call (F:=Tryd.f69) (c:=(nav B69 [])) rfl Tryd.func69 rfl rfl rfl rfl]
  exact f69_e_ok k a b r d
-- f56: f56 heliograph/sum.Sum32
inductive R56 where
 | o0 (y:Int)
noncomputable def R56.st:R56→V×List O×List O
 | .o0 y=>((jU y),[],[])
noncomputable def f56_e (k:Nat) (a:List Int):Option R56 :=
 Option.bind (f69 k a 2197175160) fun o1 =>
  match o1 with
  | .o0 b =>
   some (.o0 b)
theorem f56_e_ok (k c r) (a:f56_e k c=some r):finK Tryd.prog Tryd.f56 0 (EX 56 k (nav B56 []) (⟨5,[(0,.sl 1 (rowsOf (encI .u8) c))],[]⟩:St))=some r.st:=by
 unfold f56_e at a
 obtain ⟨o1,d,a⟩:=bs a
 have b:=f69_ok k c 2197175160 _ d
 cases o1 with
 | o0 e =>
  (try dsimp only at a)
  (try simp only [NM,EE,R69.st] at b)
  cases a
  simp (disch:=first|apply D;decide|apply K;kernel_rfl) only [E,EE,↓reduceIte,simprocAttr,xk B56 [] .sq rfl,rg B56 [1] 0 false rfl,hr 56 0 rfl,xk B56 [2] .sq rfl,rg B56 [1,2] 1 false rfl,hr 56 1 rfl,callStep,CL,gv,List.contains,xk B56 [2,2] .rt rfl,fin56,R56.st,b]
noncomputable def f56 (k:Nat) (a:List Int):Option R56:=match k with | 0=>none | k+1=>f56_e k a
theorem f56_ok (k a r) (b:f56 k a=some r):CV k 56 [.sl 1 (rowsOf (encI .u8) a)] []=some r.st:=by
 cases k with
 | zero=>cases b
 | succ k =>
  unfold CV
  rw [ev_call (F:=Tryd.f56) (c:=(nav B56 [])) rfl Tryd.func56 rfl rfl rfl rfl]
  exact f56_e_ok k a r b
-- f37: f37 heliograph/sum.Seal32
inductive R37 where
 | o0 (y:List Int)
noncomputable def R37.st:R37→V×List O×List O
 | .o0 y=>(.own 2000000,[],[.row true 1 5 (rowsOf (encI .u8) y)])
noncomputable def f37_e (k:Nat) (a:List Int):Option R37 :=
 Option.bind (f56 k a) fun o1 =>
  match o1 with
  | .o0 b =>
   Option.bind (f54 k a b 4) fun o5 =>
    match o5 with
    | .o0 c =>
     some (.o0 c)
theorem f37_e_ok (k d r) (a:f37_e k d=some r):finK Tryd.prog Tryd.f37 0 (EX 37 k (nav B37 []) (⟨7,[(0,.sl 1 (rowsOf (encI .u8) d))],[]⟩:St))=some r.st:=by
 unfold f37_e at a
 obtain ⟨o1,e,a⟩:=bs a
 have b:=f56_ok k d _ e
 cases o1 with
 | o0 f =>
  (try dsimp only at a)
  (try simp only [NM,EE,R56.st] at b)
  obtain ⟨o5,g,a⟩:=bs a
  have c:=f54_ok k d f 4 _ g
  cases o5 with
  | o0 h =>
   (try dsimp only at a)
   (try simp only [NM,EE,R54.st] at c)
   cases a
   simp (disch:=first|apply D;decide|apply K;kernel_rfl) only [E,EE,↓reduceIte,simprocAttr,xk B37 [] .sq rfl,rg B37 [1] 0 false rfl,hr 37 0 rfl,xk B37 [2] .sq rfl,rg B37 [1,2] 1 false rfl,hr 37 1 rfl,callStep,CL,gv,List.contains,xk B37 [2,2] .rt rfl,fin37,R37.st,b,c]
noncomputable def f37 (k:Nat) (a:List Int):Option R37:=match k with | 0=>none | k+1=>f37_e k a
theorem f37_ok (k a r) (b:f37 k a=some r):CV k 37 [.sl 1 (rowsOf (encI .u8) a)] []=some r.st:=by
 cases k with
 | zero=>cases b
 | succ k =>
  unfold CV
  rw [ev_call (F:=Tryd.f37) (c:=(nav B37 [])) rfl Tryd.func37 rfl rfl rfl rfl]
  exact f37_e_ok k a r b
-- f14: f14 heliograph/bundle.Encode
inductive R14 where
 | o0 (y:List Int) (a:Int)
 | o1 (y:Int) (a:List Int)
noncomputable def R14.st:R14→V×List O×List O
 | .o0 y a=>(V.tup [.sl 1 (rowsOf (encI .u8) y),jI a],[],[])
 | .o1 y a=>(V.tup [.own 2000000,jI y],[],[.row true 1 5 (rowsOf (encI .u8) a)])
noncomputable def f14_j3 (k:Nat) (a:List Int) (b:Bool):Option R14 :=
 some (.o0 a 0)
theorem f14_j3_ok (k b a r) (c:f14_j3 k b a=some r):finK Tryd.prog Tryd.f14 0 (EX 14 k (nav B14 [2,2,2,2,2,2]) (⟨60,[(7,.sl 1 (rowsOf (encI .u8) b)),(58,.p (.bool a))],[]⟩:St))=some r.st:=by
 unfold f14_j3 at c
 cases c
 simp (disch:=first|apply D;decide|apply K;kernel_rfl) only [E,EE,↓reduceIte,simprocAttr,xk B14 [2,2,2,2,2,2] .sq rfl,rg B14 [1,2,2,2,2,2,2] 10 false rfl,hr 14 10 rfl,xk B14 [2,2,2,2,2,2,2] .rt rfl,fin14,R14.st]
noncomputable def f14_j4 (k:Nat) (b:Bool) (a:List Int):Option R14 :=
 some (.o1 0 a)
theorem f14_j4_ok (k a b r) (c:f14_j4 k a b=some r):finK Tryd.prog Tryd.f14 0 (EX 14 k (nav B14 [2,2,2,2,2,2]) (⟨60,[(7,.own 54),(58,.p (.bool a))],[(54,.row true 1 5 (rowsOf (encI .u8) b))]⟩:St))=some r.st:=by
 unfold f14_j4 at c
 cases c
 simp (disch:=first|apply D;decide|apply K;kernel_rfl) only [E,EE,↓reduceIte,simprocAttr,xk B14 [2,2,2,2,2,2] .sq rfl,rg B14 [1,2,2,2,2,2,2] 10 false rfl,hr 14 10 rfl,xk B14 [2,2,2,2,2,2,2] .rt rfl,fin14,R14.st]
noncomputable def f14_j2 (k:Nat) (x5:List Int) (af:Bool) (m1 y z r n aa b ab ac ad:Int) (a:List Int):Option R14 :=
 Option.bind (f35 k x5) fun o1 =>
  match o1 with
  | .o0 v4 =>
   Option.bind (f34 k v4) fun o5 =>
    match o5 with
    | .o0 v8 v9 c d =>
     Option.bind (f36 k (IntKind.u64.wrap b)) fun o12 =>
      match o12 with
      | .o0 e f g h =>
       Option.bind (f37 k a) fun o19 =>
        match o19 with
        | .o0 i =>
         Option.bind (f34 k i) fun o23 =>
          match o23 with
          | .o0 j l m o =>
           Option.bind (f33 k (([(T50.mk v8 v9 d c),(T50.mk e f g h),(T50.mk j l o m)]:List T50))) fun o32 =>
            match o32 with
            | .o0 p q s t =>
             Option.bind (f31 k p q s t) fun o39 =>
              match o39 with
              | .o0 u v =>
               cond ((v != 0))
                (some (.o0 [] 190))
                (f14_j3 k u false)
              | .o1 w x =>
               cond ((w != 0))
                (some (.o0 [] 190))
                (f14_j4 k false x)
theorem f14_j2_ok (k x5 ai m1 z n aa ab ac m ad ae af i r) (a:f14_j2 k x5 ai m1 z n aa ab ac m ad ae af i=some r):finK Tryd.prog Tryd.f14 0 (EX 14 k (nav B14 [2,2,2,2]) (⟨60,[(1,.ptr 1 0),(5,.sl 1 (rowsOf (encI .u8) x5)),(39,.p (.bool ai))],[(1,.box 26 [jI m1,jI z,jU n,jI aa,jI ab,jI ac,jI m,jI ad,jI ae,jI af,.sl 1 (rowsOf (encI .u8) i)])]⟩:St))=some r.st:=by
 unfold f14_j2 at a
 obtain ⟨o1,h2,a⟩:=bs a
 have g:=f35_ok k x5 _ h2
 cases o1 with
 | o0 v4 =>
  (try dsimp only at a)
  (try simp only [NM,EE,R35.st] at g)
  obtain ⟨o5,h6,a⟩:=bs a
  have h:=f34_ok k v4 _ h6
  cases o5 with
  | o0 v8 v9 o p =>
   (try dsimp only at a)
   (try simp only [NM,EE,R34.st] at h)
   obtain ⟨o12,am,a⟩:=bs a
   have b:=f36_ok k (IntKind.u64.wrap m) _ am
   cases o12 with
   | o0 q s t u =>
    (try dsimp only at a)
    (try simp only [NM,EE,R36.st] at b)
    obtain ⟨o19,an,a⟩:=bs a
    have c:=f37_ok k i _ an
    cases o19 with
    | o0 ao =>
     (try dsimp only at a)
     (try simp only [NM,EE,R37.st] at c)
     obtain ⟨o23,ap,a⟩:=bs a
     have d:=f34_ok k ao _ ap
     cases o23 with
     | o0 v w x y =>
      (try dsimp only at a)
      (try simp only [NM,EE,R34.st] at d)
      have j:[[jI v8,.p (.int .u64 v9),.sl 1 (rowsOf (encI .u8) p),.sl 4 (rowsOf encT50 o)],[jI q,.p (.int .u64 s),.sl 1 (rowsOf (encI .u8) t),.sl 4 (rowsOf encT50 u)],[jI v,.p (.int .u64 w),.sl 1 (rowsOf (encI .u8) y),.sl 4 (rowsOf encT50 x)]]=rowsOf encT50 ([(T50.mk v8 v9 p o),(T50.mk q s t u),(T50.mk v w y x)]:List T50):=by first | rfl | simp only [rowsOf,List.map_cons,List.map_nil,encT50_eq]
      have l:List.map (tell [0,0,1,4]) (rowsOf encT50 ([(T50.mk v8 v9 p o),(T50.mk q s t u),(T50.mk v w y x)]:List T50))=rowsOf encT50 ([(T50.mk v8 v9 p o),(T50.mk q s t u),(T50.mk v w y x)]:List T50):=by first | rfl | simp only [rowsOf,List.map_cons,List.map_nil,encT50_eq]
      obtain ⟨o32,aq,a⟩:=bs a
      have e:=f33_ok k (([(T50.mk v8 v9 p o),(T50.mk q s t u),(T50.mk v w y x)]:List T50)) _ aq
      cases o32 with
      | o0 ar au av aw =>
       (try dsimp only at a)
       (try simp only [NM,EE,R33.st] at e)
       simp (disch:=first|apply D;decide|apply K;kernel_rfl) only [E,EE,↓reduceIte,simprocAttr,xk B14 [2,2,2,2] .sq rfl,rg B14 [1,2,2,2,2] 7 true rfl,hr 14 7 rfl,callStep,CL,gv,List.contains,fieldAddrV,t_26,t_3,t_47,convV,t_22,buildSliceV,fillRows,sm_50,t_48,t_50,g,h,b,c,d,j,l,e]
       obtain ⟨o39,ax,a⟩:=bs a
       have f:=f31_ok k ar au av aw _ ax
       cases o39 with
       | o0 ay a4 =>
        (try dsimp only at a)
        (try simp only [NM,EE,R31.st] at f)
        simp (disch:=first|apply D;decide|apply K;kernel_rfl) only [E,EE,↓reduceIte,simprocAttr,xk B14 [2,2,2,2,2] .sq rfl,xk B14 [1,2,2,2,2,2] .sq rfl,rg B14 [1,1,2,2,2,2,2] 8 false rfl,hr 14 8 rfl,xk B14 [2,1,2,2,2,2,2] (.cd 58) rfl,g,h,b,c,d,j,l,e,f]
        rcases cond_some a with ⟨ag,a⟩ | ⟨ag,a⟩
        ·cases a
         simp (disch:=first|apply D;decide|apply K;kernel_rfl) only [E,EE,↓reduceIte,simprocAttr,xk B14 [2,2,1,2,2,2,2,2] .sq rfl,rg B14 [1,2,2,1,2,2,2,2,2] 9 false rfl,hr_14_9,xk B14 [2,2,2,1,2,2,2,2,2] .rt rfl,fin14,R14.st,g,h,b,c,d,j,l,e,f,ag]
        ·have hJ:=f14_j3_ok k ay false _ a
         simp (disch:=first|apply D;decide|apply K;kernel_rfl) only [E,EE,↓reduceIte,simprocAttr,xk B14 [3,2,1,2,2,2,2,2] .sk rfl,g,h,b,c,d,j,l,e,f,ag]
         try simp only [NM,EE] at hJ
         exact hJ
       | o1 a5 az =>
        (try dsimp only at a)
        (try simp only [NM,EE,R31.st] at f)
        simp (disch:=first|apply D;decide|apply K;kernel_rfl) only [E,EE,↓reduceIte,simprocAttr,xk B14 [2,2,2,2,2] .sq rfl,xk B14 [1,2,2,2,2,2] .sq rfl,rg B14 [1,1,2,2,2,2,2] 8 false rfl,hr 14 8 rfl,xk B14 [2,1,2,2,2,2,2] (.cd 58) rfl,g,h,b,c,d,j,l,e,f]
        rcases cond_some a with ⟨ah,a⟩ | ⟨ah,a⟩
        ·cases a
         simp (disch:=first|apply D;decide|apply K;kernel_rfl) only [E,EE,↓reduceIte,simprocAttr,xk B14 [2,2,1,2,2,2,2,2] .sq rfl,rg B14 [1,2,2,1,2,2,2,2,2] 9 false rfl,hr_14_9,xk B14 [2,2,2,1,2,2,2,2,2] .rt rfl,fin14,R14.st,g,h,b,c,d,j,l,e,f,ah]
        ·have hJ:=f14_j4_ok k false az _ a
         simp (disch:=first|apply D;decide|apply K;kernel_rfl) only [E,EE,↓reduceIte,simprocAttr,xk B14 [3,2,1,2,2,2,2,2] .sk rfl,g,h,b,c,d,j,l,e,f,ah]
         try simp only [NM,EE] at hJ
         exact hJ
noncomputable def f14_j5 (k:Nat) (af:Bool) (m1 z r n aa ab b ac ad ae:Int) (a c:List Int):Option R14 :=
 Option.bind (f35 k c) fun o1 =>
  match o1 with
  | .o0 v4 =>
   Option.bind (f34 k v4) fun o5 =>
    match o5 with
    | .o0 v8 v9 d e =>
     Option.bind (f36 k (IntKind.u64.wrap b)) fun o12 =>
      match o12 with
      | .o0 f g h i =>
       Option.bind (f37 k a) fun o19 =>
        match o19 with
        | .o0 j =>
         Option.bind (f34 k j) fun o23 =>
          match o23 with
          | .o0 l m o p =>
           Option.bind (f33 k (([(T50.mk v8 v9 e d),(T50.mk f g h i),(T50.mk l m p o)]:List T50))) fun o32 =>
            match o32 with
            | .o0 q s t u =>
             Option.bind (f31 k q s t u) fun o39 =>
              match o39 with
              | .o0 v w =>
               cond ((w != 0))
                (some (.o0 [] 190))
                (f14_j3 k v false)
              | .o1 x y =>
               cond ((x != 0))
                (some (.o0 [] 190))
                (f14_j4 k false y)
theorem f14_j5_ok (k aj m1 z n aa ab ac m ad ae af i ag r) (a:f14_j5 k aj m1 z n aa ab ac m ad ae af i ag=some r):finK Tryd.prog Tryd.f14 0 (EX 14 k (nav B14 [2,2,2,2]) (⟨60,[(1,.ptr 1 0),(5,.own 35),(39,.p (.bool aj))],[(1,.box 26 [jI m1,jI z,jU n,jI aa,jI ab,jI ac,jI m,jI ad,jI ae,jI af,.sl 1 (rowsOf (encI .u8) i)]),(35,.row true 1 5 (rowsOf (encI .u8) ag))]⟩:St))=some r.st:=by
 unfold f14_j5 at a
 obtain ⟨o1,h2,a⟩:=bs a
 have g:=f35_ok k ag _ h2
 cases o1 with
 | o0 v4 =>
  (try dsimp only at a)
  (try simp only [NM,EE,R35.st] at g)
  obtain ⟨o5,h6,a⟩:=bs a
  have h:=f34_ok k v4 _ h6
  cases o5 with
  | o0 v8 v9 o p =>
   (try dsimp only at a)
   (try simp only [NM,EE,R34.st] at h)
   obtain ⟨o12,am,a⟩:=bs a
   have b:=f36_ok k (IntKind.u64.wrap m) _ am
   cases o12 with
   | o0 q s t u =>
    (try dsimp only at a)
    (try simp only [NM,EE,R36.st] at b)
    obtain ⟨o19,an,a⟩:=bs a
    have c:=f37_ok k i _ an
    cases o19 with
    | o0 ao =>
     (try dsimp only at a)
     (try simp only [NM,EE,R37.st] at c)
     obtain ⟨o23,ap,a⟩:=bs a
     have d:=f34_ok k ao _ ap
     cases o23 with
     | o0 v w x y =>
      (try dsimp only at a)
      (try simp only [NM,EE,R34.st] at d)
      have j:[[jI v8,.p (.int .u64 v9),.sl 1 (rowsOf (encI .u8) p),.sl 4 (rowsOf encT50 o)],[jI q,.p (.int .u64 s),.sl 1 (rowsOf (encI .u8) t),.sl 4 (rowsOf encT50 u)],[jI v,.p (.int .u64 w),.sl 1 (rowsOf (encI .u8) y),.sl 4 (rowsOf encT50 x)]]=rowsOf encT50 ([(T50.mk v8 v9 p o),(T50.mk q s t u),(T50.mk v w y x)]:List T50):=by first | rfl | simp only [rowsOf,List.map_cons,List.map_nil,encT50_eq]
      have l:List.map (tell [0,0,1,4]) (rowsOf encT50 ([(T50.mk v8 v9 p o),(T50.mk q s t u),(T50.mk v w y x)]:List T50))=rowsOf encT50 ([(T50.mk v8 v9 p o),(T50.mk q s t u),(T50.mk v w y x)]:List T50):=by first | rfl | simp only [rowsOf,List.map_cons,List.map_nil,encT50_eq]
      obtain ⟨o32,aq,a⟩:=bs a
      have e:=f33_ok k (([(T50.mk v8 v9 p o),(T50.mk q s t u),(T50.mk v w y x)]:List T50)) _ aq
      cases o32 with
      | o0 ar au av aw =>
       (try dsimp only at a)
       (try simp only [NM,EE,R33.st] at e)
       simp (disch:=first|apply D;decide|apply K;kernel_rfl) only [E,EE,↓reduceIte,simprocAttr,xk B14 [2,2,2,2] .sq rfl,rg B14 [1,2,2,2,2] 7 true rfl,hr 14 7 rfl,callStep,CL,gv,List.contains,fieldAddrV,t_26,t_3,t_47,convV,t_22,buildSliceV,fillRows,sm_50,t_48,t_50,g,h,b,c,d,j,l,e]
       obtain ⟨o39,ax,a⟩:=bs a
       have f:=f31_ok k ar au av aw _ ax
       cases o39 with
       | o0 ay a4 =>
        (try dsimp only at a)
        (try simp only [NM,EE,R31.st] at f)
        simp (disch:=first|apply D;decide|apply K;kernel_rfl) only [E,EE,↓reduceIte,simprocAttr,xk B14 [2,2,2,2,2] .sq rfl,xk B14 [1,2,2,2,2,2] .sq rfl,rg B14 [1,1,2,2,2,2,2] 8 false rfl,hr 14 8 rfl,xk B14 [2,1,2,2,2,2,2] (.cd 58) rfl,g,h,b,c,d,j,l,e,f]
        rcases cond_some a with ⟨ah,a⟩ | ⟨ah,a⟩
        ·cases a
         simp (disch:=first|apply D;decide|apply K;kernel_rfl) only [E,EE,↓reduceIte,simprocAttr,xk B14 [2,2,1,2,2,2,2,2] .sq rfl,rg B14 [1,2,2,1,2,2,2,2,2] 9 false rfl,hr_14_9,xk B14 [2,2,2,1,2,2,2,2,2] .rt rfl,fin14,R14.st,g,h,b,c,d,j,l,e,f,ah]
        ·have hJ:=f14_j3_ok k ay false _ a
         simp (disch:=first|apply D;decide|apply K;kernel_rfl) only [E,EE,↓reduceIte,simprocAttr,xk B14 [3,2,1,2,2,2,2,2] .sk rfl,g,h,b,c,d,j,l,e,f,ah]
         try simp only [NM,EE] at hJ
         exact hJ
       | o1 a5 az =>
        (try dsimp only at a)
        (try simp only [NM,EE,R31.st] at f)
        simp (disch:=first|apply D;decide|apply K;kernel_rfl) only [E,EE,↓reduceIte,simprocAttr,xk B14 [2,2,2,2,2] .sq rfl,xk B14 [1,2,2,2,2,2] .sq rfl,rg B14 [1,1,2,2,2,2,2] 8 false rfl,hr 14 8 rfl,xk B14 [2,1,2,2,2,2,2] (.cd 58) rfl,g,h,b,c,d,j,l,e,f]
        rcases cond_some a with ⟨ai,a⟩ | ⟨ai,a⟩
        ·cases a
         simp (disch:=first|apply D;decide|apply K;kernel_rfl) only [E,EE,↓reduceIte,simprocAttr,xk B14 [2,2,1,2,2,2,2,2] .sq rfl,rg B14 [1,2,2,1,2,2,2,2,2] 9 false rfl,hr_14_9,xk B14 [2,2,2,1,2,2,2,2,2] .rt rfl,fin14,R14.st,g,h,b,c,d,j,l,e,f,ai]
        ·have hJ:=f14_j4_ok k false az _ a
         simp (disch:=first|apply D;decide|apply K;kernel_rfl) only [E,EE,↓reduceIte,simprocAttr,xk B14 [3,2,1,2,2,2,2,2] .sk rfl,g,h,b,c,d,j,l,e,f,ai]
         try simp only [NM,EE] at hJ
         exact hJ
noncomputable def f14_j1 (k:Nat) (x:Int) (s:Bool) (l a b c d e j f g h:Int) (i:List Int):Option R14 :=
 Option.bind (f32 k ([7,a,l,(IntKind.i64.wrap b),c,d,g,h,f,e]:List Int)) fun o3 =>
  match o3 with
  | .o0 t u v w =>
   Option.bind (f31 k t u v w) fun o10 =>
    match o10 with
    | .o0 m o =>
     cond ((o != 0))
      (some (.o0 [] 190))
      (f14_j2 k m false l a b c d e j f g h i)
    | .o1 p q =>
     cond ((p != 0))
      (some (.o0 [] 190))
      (f14_j5 k false l a b c d e j f g h i q)
theorem f14_j1_ok (k z v p a b c d e o f g h j r) (l:f14_j1 k z v p a b c d e o f g h j=some r):finK Tryd.prog Tryd.f14 0 (EX 14 k (nav B14 [2,2]) (⟨60,[(1,.ptr 1 0),(4,jI z),(11,.p (.bool v))],[(1,.box 26 [jI p,jI a,jU b,jI c,jI d,jI e,jI o,jI f,jI g,jI h,.sl 1 (rowsOf (encI .u8) j)])]⟩:St))=some r.st:=by
 unfold f14_j1 at l
 have q:[[jI 7],[jI a],[jI p],[(jI (IntKind.i64.wrap b))],[jI c],[jI d],[jI g],[jI h],[jI f],[jI e]]=rowsOf (encI .i64) ([7,a,p,(IntKind.i64.wrap b),c,d,g,h,f,e]:List Int):=rfl
 have s:List.map (tell [0]) (rowsOf (encI .i64) ([7,a,p,(IntKind.i64.wrap b),c,d,g,h,f,e]:List Int))=rowsOf (encI .i64) ([7,a,p,(IntKind.i64.wrap b),c,d,g,h,f,e]:List Int):=rfl
 obtain ⟨o3,n,l⟩:=bs l
 have m:=f32_ok k ([7,a,p,(IntKind.i64.wrap b),c,d,g,h,f,e]:List Int) _ n
 cases o3 with
 | o0 v6 v7 v8 v9 =>
  (try dsimp only at l)
  (try simp only [NM,EE,R32.st] at m)
  simp (disch:=first|apply D;decide|apply K;kernel_rfl) only [E,EE,↓reduceIte,simprocAttr,xk B14 [2,2] .sq rfl,rg B14 [1,2,2] 4 false rfl,hr 14 4 rfl,fieldAddrV,t_26,t_3,t_24,convV,buildSliceV,fillRows,sm_3,t_66,callStep,CL,gv,List.contains,q,s,m]
  obtain ⟨o10,w,l⟩:=bs l
  have i:=f31_ok k v6 v7 v8 v9 _ w
  cases o10 with
  | o0 x ae =>
   (try dsimp only at l)
   (try simp only [NM,EE,R31.st] at i)
   simp (disch:=first|apply D;decide|apply K;kernel_rfl) only [E,EE,↓reduceIte,simprocAttr,xk B14 [2,2,2] .sq rfl,xk B14 [1,2,2,2] .sq rfl,rg B14 [1,1,2,2,2] 5 false rfl,hr 14 5 rfl,xk B14 [2,1,2,2,2] (.cd 39) rfl,q,s,m,i]
   rcases cond_some l with ⟨t,l⟩ | ⟨t,l⟩
   ·cases l
    simp (disch:=first|apply D;decide|apply K;kernel_rfl) only [E,EE,↓reduceIte,simprocAttr,xk B14 [2,2,1,2,2,2] .sq rfl,rg B14 [1,2,2,1,2,2,2] 6 false rfl,hr_14_6,xk B14 [2,2,2,1,2,2,2] .rt rfl,fin14,R14.st,q,s,m,i,t]
   ·have hJ:=f14_j2_ok k x false p a b c d e o f g h j _ l
    simp (disch:=first|apply D;decide|apply K;kernel_rfl) only [E,EE,↓reduceIte,simprocAttr,xk B14 [3,2,1,2,2,2] .sk rfl,q,s,m,i,t]
    try simp only [NM,EE] at hJ
    exact hJ
  | o1 af y =>
   (try dsimp only at l)
   (try simp only [NM,EE,R31.st] at i)
   simp (disch:=first|apply D;decide|apply K;kernel_rfl) only [E,EE,↓reduceIte,simprocAttr,xk B14 [2,2,2] .sq rfl,xk B14 [1,2,2,2] .sq rfl,rg B14 [1,1,2,2,2] 5 false rfl,hr 14 5 rfl,xk B14 [2,1,2,2,2] (.cd 39) rfl,q,s,m,i]
   rcases cond_some l with ⟨u,l⟩ | ⟨u,l⟩
   ·cases l
    simp (disch:=first|apply D;decide|apply K;kernel_rfl) only [E,EE,↓reduceIte,simprocAttr,xk B14 [2,2,1,2,2,2] .sq rfl,rg B14 [1,2,2,1,2,2,2] 6 false rfl,hr_14_6,xk B14 [2,2,2,1,2,2,2] .rt rfl,fin14,R14.st,q,s,m,i,u]
   ·have hJ:=f14_j5_ok k false p a b c d e o f g h j y _ l
    simp (disch:=first|apply D;decide|apply K;kernel_rfl) only [E,EE,↓reduceIte,simprocAttr,xk B14 [3,2,1,2,2,2] .sk rfl,q,s,m,i,u]
    try simp only [NM,EE] at hJ
    exact hJ
noncomputable def f14_e (k:Nat) (m b c d e f g h i j:Int) (a:List Int):Option R14 :=
 Option.bind (f16 k m b c d e f g h i j a) fun o1 =>
  match o1 with
  | .o0 l =>
   cond ((l != 0))
    (some (.o0 [] l))
    (f14_j1 k l false m b c d e f g h i j a)
theorem f14_e_ok (k o b c d e f g h i j a r) (l:f14_e k o b c d e f g h i j a=some r):finK Tryd.prog Tryd.f14 0 (EX 14 k (nav B14 []) (⟨60,[(0,.agg [jI o,jI b,jU c,jI d,jI e,jI f,jI g,jI h,jI i,jI j,.sl 1 (rowsOf (encI .u8) a)])],[]⟩:St))=some r.st:=by
 unfold f14_e at l
 obtain ⟨o1,q,l⟩:=bs l
 have m:=f16_ok k o b c d e f g h i j a _ q
 cases o1 with
 | o0 s =>
  (try dsimp only at l)
  (try simp only [NM,EE,R16.st] at m)
  simp (disch:=first|apply D;decide|apply K;kernel_rfl) only [E,EE,↓reduceIte,simprocAttr,xk B14 [] .sq rfl,rg B14 [1] 0 false rfl,hr 14 0 rfl,xk B14 [2] .sq rfl,xk B14 [1,2] .sq rfl,rg B14 [1,1,2] 1 false rfl,hr 14 1 rfl,t_26,callStep,CL,gv,List.contains,xk B14 [2,1,2] .sq rfl,rg B14 [1,2,1,2] 2 false rfl,hr 14 2 rfl,xk B14 [2,2,1,2] (.cd 11) rfl,m]
  rcases cond_some l with ⟨p,l⟩ | ⟨p,l⟩
  ·cases l
   simp (disch:=first|apply D;decide|apply K;kernel_rfl) only [E,EE,↓reduceIte,simprocAttr,xk B14 [2,2,2,1,2] .sq rfl,rg B14 [1,2,2,2,1,2] 3 false rfl,hr_14_3,xk B14 [2,2,2,2,1,2] .rt rfl,fin14,R14.st,m,p]
  ·have hJ:=f14_j1_ok k s false o b c d e f g h i j a _ l
   simp (disch:=first|apply D;decide|apply K;kernel_rfl) only [E,EE,↓reduceIte,simprocAttr,xk B14 [3,2,2,1,2] .sk rfl,m,p]
   try simp only [NM,EE] at hJ
   exact hJ
noncomputable def f14 (k:Nat) (l b c d e f g h i j:Int) (a:List Int):Option R14:=match k with | 0=>none | k+1=>f14_e k l b c d e f g h i j a
theorem f14_ok (k m b d e f g h i j l a r) (o:f14 k m b d e f g h i j l a=some r):CV k 14 [.agg [jI m,jI b,jU d,jI e,jI f,jI g,jI h,jI i,jI j,jI l,.sl 1 (rowsOf (encI .u8) a)]] []=some r.st:=by
 cases k with
 | zero=>cases o
 | succ k =>
  unfold CV
  rw [ev_call (F:=Tryd.f14) (c:=(nav B14 [])) rfl Tryd.func14 rfl rfl rfl rfl]
  exact f14_e_ok k m b d e f g h i j l a r o
end Go.Proofs.YtbnnmplkbpgcaaaDoorV