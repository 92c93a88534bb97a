/- What the program's functions answer: plain functions,and that the interpreter answers what they do. Written by a program of this session,out of the translation. -/
import Derived.Test.YtlelaenalbkbmaaDoorVP5
namespace Go.Proofs.YtlelaenalbkbmaaDoorV
open Go
set_option linter.unusedVariables false
set_option linter.unusedSimpArgs false
set_option maxRecDepth 8000
set_option maxHeartbeats 4000000
-- f31: f31 heliograph/cbor.get
inductive R31 where
 | o0 (y a:Int) (b:List Int) (c:List T28) (d:Int) (e:List Int) (f g:Int)
noncomputable def R31.st:R31→V×List O×List O
 | .o0 y a b c d e f g=>(V.tup [.agg [jI y,.p (.int .u64 a),.sl 1 (rowsOf (encI .u8) b),.sl 4 (rowsOf encT28 c)],jI d],[.box 68 [.sl 1 (rowsOf (encI .u8) e),jI f,jI g]],[])
inductive R31_s1_l3 where
 | o0 (y d e f g:Int) (h:List Int) (i j l m:Int) (a:List Int) (b:List T28) (c:List Int)
 | o1 (y d e f g:Int) (h:Bool) (i:List Int) (j l m a:Int) (b:List Int) (c:List T28) (o:List Int)
noncomputable def R31_s1_l3.st:R31_s1_l3→Out×St
 | .o0 y d e f g h i j l m a b c=>(.norm,(⟨133,[(0,.ptr 1000000 0),(1,jI y),(4,.ptr 30001 0),(6,.p (.int .u64 d)),(8,jI e),(46,.own 30003),(47,jI f),(48,jI g)],[(1000000,.box 68 [.sl 1 (rowsOf (encI .u8) h),jI i,jI j]),(30001,.box 28 [jI l,.p (.int .u64 m),.sl 1 (rowsOf (encI .u8) a),.own 30002]),(30002,.row true 4 28 (rowsOf encT28 b)),(30003,.row true 1 5 (rowsOf (encI .u8) c))]⟩:St))
 | .o1 y d e f g h i j l m a b c o=>(.exit 0,(⟨133,[(0,.ptr 1000000 0),(1,jI y),(4,.ptr 30001 0),(6,.p (.int .u64 d)),(8,jI e),(46,.own 30003),(47,jI f),(48,jI g),(49,.p (.bool h))],[(1000000,.box 68 [.sl 1 (rowsOf (encI .u8) i),jI j,jI l]),(30001,.box 28 [jI m,.p (.int .u64 a),.sl 1 (rowsOf (encI .u8) b),.own 30002]),(30002,.row true 4 28 (rowsOf encT28 c)),(30003,.row true 1 5 (rowsOf (encI .u8) o))]⟩:St))
noncomputable def f31_s1_l3_j2 (k:Nat) (q_f31_pi_brii:Int→(List Int)→Int→Int→Option R31) (j l m e f:Int) (o:List Int) (c d g a:Int) (b:List Int) (h:List T28) (i:List Int):Option R31_s1_l3 :=
 some (R31_s1_l3.o0 j l m e (IntKind.i64.wrap (f+(1:Int))) o c d g a b h i)
theorem f31_s1_l3_j2_ok (k:Nat) (q_f31_pi_brii:Int→(List Int)→Int→Int→Option R31) (hq_f31_pi_brii:∀ (l:Int) (e:List Int) (a b:Int) (r:R31),q_f31_pi_brii l e a b=some r→CV k 31 [.ptr 1000000 0,jI l] [.box 68 [.sl 1 (rowsOf (encI .u8) e),jI a,jI b]]=some r.st) (m o p f g:Int) (e:List Int) (a b h c:Int) (d:List Int) (i:List T28) (j:List Int) (r:R31_s1_l3) (q:f31_s1_l3_j2 k q_f31_pi_brii m o p f g e a b h c d i j=some r):EX 31 k (nav B31 [2,2,2,1,2,2,1,2,2,2,2,1,2,2,2,2,2,2,1,2]) (⟨133,[(0,.ptr 1000000 0),(1,jI m),(4,.ptr 30001 0),(6,.p (.int .u64 o)),(8,jI p),(46,.own 30003),(47,jI f),(48,jI g)],[(1000000,.box 68 [.sl 1 (rowsOf (encI .u8) e),jI a,jI b]),(30001,.box 28 [jI h,.p (.int .u64 c),.sl 1 (rowsOf (encI .u8) d),.own 30002]),(30002,.row true 4 28 (rowsOf encT28 i)),(30003,.row true 1 5 (rowsOf (encI .u8) j))]⟩:St)=some r.st:=by
 unfold f31_s1_l3_j2 at q
 cases q
 simp (disch:=first|apply D;decide|apply K;kernel_rfl) only [E,EE,↓reduceIte,simprocAttr,rg B31 [2,2,2,1,2,2,1,2,2,2,2,1,2,2,2,2,2,2,1,2] 14 false rfl,hr 31 14 rfl,R31_s1_l3.st]
noncomputable def f31_s1_l3_j1 (k:Nat) (q_f31_pi_brii:Int→(List Int)→Int→Int→Option R31) (j l m g a:Int) (o:Bool) (p:List Int) (e f h b:Int) (c:List Int) (i:List T28) (d:List Int):Option R31_s1_l3 :=
 ifE ((0:Int)≤a) (
  ifE (a<((List.length d):Int)) (
   Option.bind (d[(Int.toNat a)]?) fun q =>
    f31_s1_l3_j2 k q_f31_pi_brii j ((IntKind.u64.wrap ((BitVec.ofInt (IntKind.bits .u64) (IntKind.u64.wrap (l * 2 ^ (min 8 (IntKind.bits .u64)))) ||| BitVec.ofInt (IntKind.bits .u64) (IntKind.u64.wrap q)).toNat:Nat))) m g a p e f h b c i d))
theorem f31_s1_l3_j1_ok (k:Nat) (q_f31_pi_brii:Int→(List Int)→Int→Int→Option R31) (hq_f31_pi_brii:∀ (s:Int) (l:List Int) (a b:Int) (r:R31),q_f31_pi_brii s l a b=some r→CV k 31 [.ptr 1000000 0,jI s] [.box 68 [.sl 1 (rowsOf (encI .u8) l),jI a,jI b]]=some r.st) (o p q f g:Int) (m:Bool) (l:List Int) (a b h c:Int) (d:List Int) (i:List T28) (j:List Int) (r:R31_s1_l3) (e:f31_s1_l3_j1 k q_f31_pi_brii o p q f g m l a b h c d i j=some r):EX 31 k (nav B31 [2,2,1,2,2,1,2,2,2,2,1,2,2,2,2,2,2,1,2]) (⟨133,[(0,.ptr 1000000 0),(1,jI o),(4,.ptr 30001 0),(6,.p (.int .u64 p)),(8,jI q),(46,.own 30003),(47,jI f),(48,jI g),(49,.p (.bool m))],[(1000000,.box 68 [.sl 1 (rowsOf (encI .u8) l),jI a,jI b]),(30001,.box 28 [jI h,.p (.int .u64 c),.sl 1 (rowsOf (encI .u8) d),.own 30002]),(30002,.row true 4 28 (rowsOf encT28 i)),(30003,.row true 1 5 (rowsOf (encI .u8) j))]⟩:St)=some r.st:=by
 unfold f31_s1_l3_j1 at e
 obtain ⟨t,e⟩:=ifE_some.1 e
 obtain ⟨u,e⟩:=ifE_some.1 e
 obtain ⟨v,w,e⟩:=bs e
 have hJ:=f31_s1_l3_j2_ok k q_f31_pi_brii hq_f31_pi_brii o ((IntKind.u64.wrap ((BitVec.ofInt (IntKind.bits .u64) (IntKind.u64.wrap (p * 2 ^ (min 8 (IntKind.bits .u64)))) ||| BitVec.ofInt (IntKind.bits .u64) (IntKind.u64.wrap v)).toNat:Nat))) q f g l a b h c d i j _ e
 simp (disch:=first|apply D;decide|apply K;kernel_rfl) only [E,EE,↓reduceIte,simprocAttr,xk B31 [2,2,1,2,2,1,2,2,2,2,1,2,2,2,2,2,2,1,2] .sq rfl,xk B31 [1,2,2,1,2,2,1,2,2,2,2,1,2,2,2,2,2,2,1,2] (.bk 1) rfl,xk B31 [2,1,2,2,1,2,2,1,2,2,2,2,1,2,2,2,2,2,2,1,2] .sq rfl,rg B31 [1,2,1,2,2,1,2,2,1,2,2,2,2,1,2,2,2,2,2,2,1,2] 12 false rfl,hr 31 12 rfl,indexAddrV,t_25,t_5,encI_eq,rg B31 [2,2,1,2,2,1,2,2,1,2,2,2,2,1,2,2,2,2,2,2,1,2] 13 false rfl,hr 31 13 rfl,shiftV,t_24,convV,t,u,w]
 try simp only [NM,EE] at hJ
 exact hJ
noncomputable def f31_s1_l3_b (k:Nat) (q_f31_pi_brii:Int→(List Int)→Int→Int→Option R31) (j l m e f:Int) (o:List Int) (c d g a:Int) (b:List Int) (h:List T28) (i:List Int):Option R31_s1_l3 :=
 cond ((decide (f<e)))
  (f31_s1_l3_j1 k q_f31_pi_brii j l m e f true o c d g a b h i)
  (some (R31_s1_l3.o1 j l m e f false o c d g a b h i))
theorem f31_s1_l3_b_ok (k:Nat) (q_f31_pi_brii:Int→(List Int)→Int→Int→Option R31) (hq_f31_pi_brii:∀ (s:Int) (j:List Int) (a b:Int) (r:R31),q_f31_pi_brii s j a b=some r→CV k 31 [.ptr 1000000 0,jI s] [.box 68 [.sl 1 (rowsOf (encI .u8) j),jI a,jI b]]=some r.st) (m o p e f:Int) (j:List Int) (a b g c:Int) (d:List Int) (h:List T28) (i:List Int) (r:R31_s1_l3) (l:f31_s1_l3_b k q_f31_pi_brii m o p e f j a b g c d h i=some r):EX 31 k (nav B31 [1,2,2,1,2,2,2,2,1,2,2,2,2,2,2,1,2]) (⟨133,[(0,.ptr 1000000 0),(1,jI m),(4,.ptr 30001 0),(6,.p (.int .u64 o)),(8,jI p),(46,.own 30003),(47,jI e),(48,jI f)],[(1000000,.box 68 [.sl 1 (rowsOf (encI .u8) j),jI a,jI b]),(30001,.box 28 [jI g,.p (.int .u64 c),.sl 1 (rowsOf (encI .u8) d),.own 30002]),(30002,.row true 4 28 (rowsOf encT28 h)),(30003,.row true 1 5 (rowsOf (encI .u8) i))]⟩:St)=some r.st:=by
 unfold f31_s1_l3_b at l
 simp (disch:=first|apply D;decide|apply K;kernel_rfl) only [E,EE,↓reduceIte,simprocAttr,xk B31 [1,2,2,1,2,2,2,2,1,2,2,2,2,2,2,1,2] .sq rfl,rg B31 [1,1,2,2,1,2,2,2,2,1,2,2,2,2,2,2,1,2] 11 false rfl,hr 31 11 rfl,xk B31 [2,1,2,2,1,2,2,2,2,1,2,2,2,2,2,2,1,2] .sq rfl,xk B31 [1,2,1,2,2,1,2,2,2,2,1,2,2,2,2,2,2,1,2] (.cd 49) rfl]
 rcases cond_some l with ⟨q,l⟩ | ⟨q,l⟩
 ·have hJ:=f31_s1_l3_j1_ok k q_f31_pi_brii hq_f31_pi_brii m o p e f true j a b g c d h i _ l
  simp (disch:=first|apply D;decide|apply K;kernel_rfl) only [E,EE,↓reduceIte,simprocAttr,xk B31 [2,1,2,1,2,2,1,2,2,2,2,1,2,2,2,2,2,2,1,2] .sk rfl,q]
  try simp only [NM,EE] at hJ
  exact hJ
 ·cases l
  simp (disch:=first|apply D;decide|apply K;kernel_rfl) only [E,EE,↓reduceIte,simprocAttr,xk B31 [3,1,2,1,2,2,1,2,2,2,2,1,2,2,2,2,2,2,1,2] (.ex 0) rfl,R31_s1_l3.st,q]
noncomputable def f31_s1_l3 (k:Nat) (q_f31_pi_brii:Int→(List Int)→Int→Int→Option R31):Nat→Int→Int→Int→Int→Int→(List Int)→Int→Int→Int→Int→(List Int)→(List T28)→(List Int)→Option R31_s1_l3
 | 0,_,_,_,_,_,_,_,_,_,_,_,_,_=>none
 | n+1,x1,x6,x8,v,w,e0,s,t,x,d,e,z,r=>Option.bind (f31_s1_l3_b k q_f31_pi_brii x1 x6 x8 v w e0 s t x d e z r) fun o =>
  match o with
  | .o0 y f g h i j l m p q a b c=>f31_s1_l3 k q_f31_pi_brii n y f g h i j l m p q a b c
  | .o1 y f g h i j l m p q a b c u=>some (.o1 y f g h i j l m p q a b c u)
theorem f31_s1_l3_ok (k:Nat) (q_f31_pi_brii:Int→(List Int)→Int→Int→Option R31) (hq_f31_pi_brii:∀ (a1:Int) (l:List Int) (a b:Int) (r:R31),q_f31_pi_brii a1 l a b=some r→CV k 31 [.ptr 1000000 0,jI a1] [.box 68 [.sl 1 (rowsOf (encI .u8) l),jI a,jI b]]=some r.st) (n:Nat):∀ (t u v e f:Int) (l:List Int) (a b g c:Int) (d:List Int) (i:List T28) (j:List Int) (r:R31_s1_l3) (m:f31_s1_l3 k q_f31_pi_brii n t u v e f l a b g c d i j=some r) (σ:St) (hσ:headR (hints.head 31 11) (hints.canon 31 11) σ=some (⟨133,[(0,.ptr 1000000 0),(1,jI t),(4,.ptr 30001 0),(6,.p (.int .u64 u)),(8,jI v),(46,.own 30003),(47,jI e),(48,jI f)],[(1000000,.box 68 [.sl 1 (rowsOf (encI .u8) l),jI a,jI b]),(30001,.box 28 [jI g,.p (.int .u64 c),.sl 1 (rowsOf (encI .u8) d),.own 30002]),(30002,.row true 4 28 (rowsOf encT28 i)),(30003,.row true 1 5 (rowsOf (encI .u8) j))]⟩:St)),LP 31 k (nav B31 [1,2,2,1,2,2,2,2,1,2,2,2,2,2,2,1,2]) n σ=some r.st:=by
 induction n with
 | zero=>intro t u v e f l a b g c d i j r m;cases m
 | succ n ih =>
  intro t u v e f l a b g c d i j r m σ hσ
  rw [f31_s1_l3] at m
  obtain ⟨o,h,m⟩:=Option.bind_eq_some_iff.1 m
  have hB:=f31_s1_l3_b_ok k q_f31_pi_brii hq_f31_pi_brii t u v e f l a b g c d i j o h
  unfold LP at ih ⊢
  unfold EX at hB
  rw [loopK_succ,show firstReg (nav B31 [1,2,2,1,2,2,2,2,1,2,2,2,2,2,2,1,2])=11 from rfl,hσ,headK_some,hB]
  cases o with
  | o0 y w x z aa ab ac ad ae af p q s =>
   refine ih y w x z aa ab ac ad ae af p q s r m _ ?_
   simp (disch:=first|apply D;decide|apply K;kernel_rfl) only [E,EE,↓reduceIte,simprocAttr,hh_31_11,hc_31_11]
  | o1 y w x z aa ab ac ad ae af p q s ai=>cases m;rfl
inductive R31_s1_l8 where
 | o0 (y a b:Int) (c:List Int) (d:List T28) (e:List Int) (f g:Int)
 | o1 (y a b:Int) (c:List Int) (d e f g:Int) (h:List Int) (i:List T28)
 | o2 (y a b:Int) (c:Bool) (d:List Int) (e f g h:Int) (i:List Int) (j:List T28)
noncomputable def R31_s1_l8.st:R31_s1_l8→Out×St
 | .o0 y a b c d e f g=>(.ret,(⟨133,[(4,.ptr 30001 0),(5,jI y)],[(30001,.box 28 [jI a,.p (.int .u64 b),.sl 1 (rowsOf (encI .u8) c),.sl 4 (rowsOf encT28 d)]),(1000000,.box 68 [.sl 1 (rowsOf (encI .u8) e),jI f,jI g])]⟩:St))
 | .o1 y a b c d e f g h i=>(.norm,(⟨133,[(0,.ptr 1000000 0),(1,jI y),(4,.ptr 30001 0),(89,.p (.int .u64 a)),(90,.p (.int .u64 b))],[(1000000,.box 68 [.sl 1 (rowsOf (encI .u8) c),jI d,jI e]),(30001,.box 28 [jI f,.p (.int .u64 g),.sl 1 (rowsOf (encI .u8) h),.own 107]),(107,.row true 4 28 (rowsOf encT28 i))]⟩:St))
 | .o2 y a b c d e f g h i j=>(.exit 3,(⟨133,[(0,.ptr 1000000 0),(1,jI y),(4,.ptr 30001 0),(89,.p (.int .u64 a)),(90,.p (.int .u64 b)),(91,.p (.bool c))],[(1000000,.box 68 [.sl 1 (rowsOf (encI .u8) d),jI e,jI f]),(30001,.box 28 [jI g,.p (.int .u64 h),.sl 1 (rowsOf (encI .u8) i),.own 30002]),(30002,.row true 4 28 (rowsOf encT28 j))]⟩:St))
noncomputable def f31_s1_l8_j3 (k:Nat) (q_f31_pi_brii:Int→(List Int)→Int→Int→Option R31) (i f g:Int) (j:List Int) (c d h a:Int) (b:List Int) (e:List T28):Option R31_s1_l8 :=
 some (R31_s1_l8.o1 i f (IntKind.u64.wrap (g+(1:Int))) j c d h a b e)
theorem f31_s1_l8_j3_ok (k:Nat) (q_f31_pi_brii:Int→(List Int)→Int→Int→Option R31) (hq_f31_pi_brii:∀ (j:Int) (f:List Int) (a b:Int) (r:R31),q_f31_pi_brii j f a b=some r→CV k 31 [.ptr 1000000 0,jI j] [.box 68 [.sl 1 (rowsOf (encI .u8) f),jI a,jI b]]=some r.st) (l g h:Int) (f:List Int) (a b i c:Int) (d:List Int) (e:List T28) (r:R31_s1_l8) (m:f31_s1_l8_j3 k q_f31_pi_brii l g h f a b i c d e=some r):EX 31 k (nav B31 [2,2,2,1,2,2,1,2,2,2,3,2,2,2,1,2,2,2,2,2,2,2,1,2]) (⟨133,[(0,.ptr 1000000 0),(1,jI l),(4,.ptr 30001 0),(89,.p (.int .u64 g)),(90,.p (.int .u64 h))],[(1000000,.box 68 [.sl 1 (rowsOf (encI .u8) f),jI a,jI b]),(30001,.box 28 [jI i,.p (.int .u64 c),.sl 1 (rowsOf (encI .u8) d),.own 107]),(107,.row true 4 28 (rowsOf encT28 e))]⟩:St)=some r.st:=by
 unfold f31_s1_l8_j3 at m
 cases m
 simp (disch:=first|apply D;decide|apply K;kernel_rfl) only [E,EE,↓reduceIte,simprocAttr,rg B31 [2,2,2,1,2,2,1,2,2,2,3,2,2,2,1,2,2,2,2,2,2,2,1,2] 29 false rfl,hr 31 29 rfl,R31_s1_l8.st]
noncomputable def f31_s1_l8_j2 (k:Nat) (q_f31_pi_brii:Int→(List Int)→Int→Int→Option R31) (p q i j:Int) (o:Bool) (s:List Int) (f g l a:Int) (b:List Int) (h:List T28) (m c:Int) (d:List Int) (e:List T28):Option R31_s1_l8 :=
 ifE (((List.length h)+1) * 64≤roomy) (
  f31_s1_l8_j3 k q_f31_pi_brii p i j s f g l a b (h++([(T28.mk m c d e)]:List T28)))
theorem f31_s1_l8_j2_ok (k:Nat) (q_f31_pi_brii:Int→(List Int)→Int→Int→Option R31) (hq_f31_pi_brii:∀ (u:Int) (p:List Int) (d e:Int) (r:R31),q_f31_pi_brii u p d e=some r→CV k 31 [.ptr 1000000 0,jI u] [.box 68 [.sl 1 (rowsOf (encI .u8) p),jI d,jI e]]=some r.st) (t q j l:Int) (i:Bool) (p:List Int) (d e m f:Int) (g:List Int) (o:List T28) (h a:Int) (b:List Int) (c:List T28) (r:R31_s1_l8) (s:f31_s1_l8_j2 k q_f31_pi_brii t q j l i p d e m f g o h a b c=some r):SQ 31 k (nav B31 [2,2,2,1,2,2,1,2,2,2,3,2,2,2,1,2,2,2,2,2,2,2,1,2]) (blockK 4 (EX 31 k (nav B31 [2,2,2,1,2,2,1,2,2,1,2,2,2,3,2,2,2,1,2,2,2,2,2,2,2,1,2]) (⟨133,[(0,.ptr 1000000 0),(1,jI t),(4,.ptr 30001 0),(11,.ptr 11 0),(12,jI q),(89,.p (.int .u64 j)),(90,.p (.int .u64 l)),(100,.p (.bool i))],[(1000000,.box 68 [.sl 1 (rowsOf (encI .u8) p),jI d,jI e]),(30001,.box 28 [jI m,.p (.int .u64 f),.sl 1 (rowsOf (encI .u8) g),.own 30002]),(30002,.row true 4 28 (rowsOf encT28 o)),(11,.box 28 [jI h,.p (.int .u64 a),.sl 1 (rowsOf (encI .u8) b),.sl 4 (rowsOf encT28 c)])]⟩:St)))=some r.st:=by
 unfold f31_s1_l8_j2 at s
 have v:[[jI h,.p (.int .u64 a),.sl 1 (rowsOf (encI .u8) b),.sl 4 (rowsOf encT28 c)]]=rowsOf encT28 ([(T28.mk h a b c)]:List T28):=by first | rfl | simp only [rowsOf,List.map_cons,List.map_nil,encT28_eq]
 have w:List.map (tell [0,0,1,4]) (rowsOf encT28 ([(T28.mk h a b c)]:List T28))=rowsOf encT28 ([(T28.mk h a b c)]:List T28):=by first | rfl | simp only [rowsOf,List.map_cons,List.map_nil,encT28_eq]
 obtain ⟨x,s⟩:=ifE_some.1 s
 have hJ:=f31_s1_l8_j3_ok k q_f31_pi_brii hq_f31_pi_brii t j l p d e m f g (o++([(T28.mk h a b c)]:List T28)) _ s
 simp (disch:=first|apply D;decide|apply K;kernel_rfl) only [E,EE,↓reduceIte,simprocAttr,rg B31 [2,2,2,1,2,2,1,2,2,1,2,2,2,3,2,2,2,1,2,2,2,2,2,2,2,1,2] 28 false rfl,hr 31 28 rfl,fieldAddrV,t_28,t_26,buildSliceV,raw_,cond_false,cond_true,fillRows,sm_28,appendV,content,v,w,x]
 try simp only [NM,EE] at hJ
 exact hJ
noncomputable def f31_s1_l8_j1 (k:Nat) (q_f31_pi_brii:Int→(List Int)→Int→Int→Option R31) (m g h:Int) (p:Bool) (q:List Int) (c d i a:Int) (b:List Int) (j:List T28):Option R31_s1_l8 :=
 Option.bind (q_f31_pi_brii (IntKind.i64.wrap (m - (1:Int))) q c d) fun o1 =>
  match o1 with
  | .o0 s t u v l o e f =>
   cond ((l != 0))
    (some (R31_s1_l8.o0 l 0 0 [] [] o e f))
    (f31_s1_l8_j2 k q_f31_pi_brii m l g h false o e f i a b j s t u v)
theorem f31_s1_l8_j1_ok (k:Nat) (q_f31_pi_brii:Int→(List Int)→Int→Int→Option R31) (hq_f31_pi_brii:∀ (t:Int) (m:List Int) (a b:Int) (r:R31),q_f31_pi_brii t m a b=some r→CV k 31 [.ptr 1000000 0,jI t] [.box 68 [.sl 1 (rowsOf (encI .u8) m),jI a,jI b]]=some r.st) (p g h:Int) (o:Bool) (m:List Int) (a b i c:Int) (d:List Int) (j:List T28) (r:R31_s1_l8) (e:f31_s1_l8_j1 k q_f31_pi_brii p g h o m a b i c d j=some r):EX 31 k (nav B31 [2,2,1,2,2,1,2,2,2,3,2,2,2,1,2,2,2,2,2,2,2,1,2]) (⟨133,[(0,.ptr 1000000 0),(1,jI p),(4,.ptr 30001 0),(89,.p (.int .u64 g)),(90,.p (.int .u64 h)),(91,.p (.bool o))],[(1000000,.box 68 [.sl 1 (rowsOf (encI .u8) m),jI a,jI b]),(30001,.box 28 [jI i,.p (.int .u64 c),.sl 1 (rowsOf (encI .u8) d),.own 30002]),(30002,.row true 4 28 (rowsOf encT28 j))]⟩:St)=some r.st:=by
 unfold f31_s1_l8_j1 at e
 obtain ⟨o1,u,e⟩:=bs e
 have f:=hq_f31_pi_brii (IntKind.i64.wrap (p - (1:Int))) m a b _ u
 cases o1 with
 | o0 v w x y z n q s =>
  (try dsimp only at e)
  (try simp only [NM,EE,R31.st] at f)
  simp (disch:=first|apply D;decide|apply K;kernel_rfl) only [E,EE,↓reduceIte,simprocAttr,xk B31 [2,2,1,2,2,1,2,2,2,3,2,2,2,1,2,2,2,2,2,2,2,1,2] .sq rfl,xk B31 [1,2,2,1,2,2,1,2,2,2,3,2,2,2,1,2,2,2,2,2,2,2,1,2] (.bk 4) rfl,xk B31 [2,1,2,2,1,2,2,1,2,2,2,3,2,2,2,1,2,2,2,2,2,2,2,1,2] .sq rfl,rg B31 [1,2,1,2,2,1,2,2,1,2,2,2,3,2,2,2,1,2,2,2,2,2,2,2,1,2] 25 false rfl,hr 31 25 rfl,callStep,CL,gv,List.contains,t_28,xk B31 [2,2,1,2,2,1,2,2,1,2,2,2,3,2,2,2,1,2,2,2,2,2,2,2,1,2] .sq rfl,xk B31 [1,2,2,1,2,2,1,2,2,1,2,2,2,3,2,2,2,1,2,2,2,2,2,2,2,1,2] .sq rfl,rg B31 [1,1,2,2,1,2,2,1,2,2,1,2,2,2,3,2,2,2,1,2,2,2,2,2,2,2,1,2] 26 false rfl,hr 31 26 rfl,xk B31 [2,1,2,2,1,2,2,1,2,2,1,2,2,2,3,2,2,2,1,2,2,2,2,2,2,2,1,2] (.cd 100) rfl,f]
  rcases cond_some e with ⟨l,e⟩ | ⟨l,e⟩
  ·cases e
   simp (disch:=first|apply D;decide|apply K;kernel_rfl) only [E,EE,↓reduceIte,simprocAttr,xk B31 [2,2,1,2,2,1,2,2,1,2,2,1,2,2,2,3,2,2,2,1,2,2,2,2,2,2,2,1,2] .sq rfl,rg B31 [1,2,2,1,2,2,1,2,2,1,2,2,1,2,2,2,3,2,2,2,1,2,2,2,2,2,2,2,1,2] 27 false rfl,hr_31_27,bl_28,t_28,xk B31 [2,2,2,1,2,2,1,2,2,1,2,2,1,2,2,2,3,2,2,2,1,2,2,2,2,2,2,2,1,2] .rt rfl,R31_s1_l8.st,f,l]
  ·have hJ:=f31_s1_l8_j2_ok k q_f31_pi_brii hq_f31_pi_brii p z g h false n q s i c d j v w x y _ e
   simp (disch:=first|apply D;decide|apply K;kernel_rfl) only [E,EE,↓reduceIte,simprocAttr,xk B31 [3,2,1,2,2,1,2,2,1,2,2,1,2,2,2,3,2,2,2,1,2,2,2,2,2,2,2,1,2] .sk rfl,f,l]
   try simp only [NM,EE] at hJ
   exact hJ
noncomputable def f31_s1_l8_b (k:Nat) (q_f31_pi_brii:Int→(List Int)→Int→Int→Option R31) (i e f:Int) (j:List Int) (c d g a:Int) (b:List Int) (h:List T28):Option R31_s1_l8 :=
 cond ((decide (f<e)))
  (f31_s1_l8_j1 k q_f31_pi_brii i e f true j c d g a b h)
  (some (R31_s1_l8.o2 i e f false j c d g a b h))
theorem f31_s1_l8_b_ok (k:Nat) (q_f31_pi_brii:Int→(List Int)→Int→Int→Option R31) (hq_f31_pi_brii:∀ (o:Int) (i:List Int) (a b:Int) (r:R31),q_f31_pi_brii o i a b=some r→CV k 31 [.ptr 1000000 0,jI o] [.box 68 [.sl 1 (rowsOf (encI .u8) i),jI a,jI b]]=some r.st) (l e f:Int) (i:List Int) (a b g c:Int) (d:List Int) (h:List T28) (r:R31_s1_l8) (j:f31_s1_l8_b k q_f31_pi_brii l e f i a b g c d h=some r):EX 31 k (nav B31 [1,2,2,1,2,2,2,3,2,2,2,1,2,2,2,2,2,2,2,1,2]) (⟨133,[(0,.ptr 1000000 0),(1,jI l),(4,.ptr 30001 0),(89,.p (.int .u64 e)),(90,.p (.int .u64 f))],[(1000000,.box 68 [.sl 1 (rowsOf (encI .u8) i),jI a,jI b]),(30001,.box 28 [jI g,.p (.int .u64 c),.sl 1 (rowsOf (encI .u8) d),.own 30002]),(30002,.row true 4 28 (rowsOf encT28 h))]⟩:St)=some r.st:=by
 unfold f31_s1_l8_b at j
 simp (disch:=first|apply D;decide|apply K;kernel_rfl) only [E,EE,↓reduceIte,simprocAttr,xk B31 [1,2,2,1,2,2,2,3,2,2,2,1,2,2,2,2,2,2,2,1,2] .sq rfl,rg B31 [1,1,2,2,1,2,2,2,3,2,2,2,1,2,2,2,2,2,2,2,1,2] 24 false rfl,hr 31 24 rfl,xk B31 [2,1,2,2,1,2,2,2,3,2,2,2,1,2,2,2,2,2,2,2,1,2] .sq rfl,xk B31 [1,2,1,2,2,1,2,2,2,3,2,2,2,1,2,2,2,2,2,2,2,1,2] (.cd 91) rfl]
 rcases cond_some j with ⟨m,j⟩ | ⟨m,j⟩
 ·have hJ:=f31_s1_l8_j1_ok k q_f31_pi_brii hq_f31_pi_brii l e f true i a b g c d h _ j
  simp (disch:=first|apply D;decide|apply K;kernel_rfl) only [E,EE,↓reduceIte,simprocAttr,xk B31 [2,1,2,1,2,2,1,2,2,2,3,2,2,2,1,2,2,2,2,2,2,2,1,2] .sk rfl,m]
  try simp only [NM,EE] at hJ
  exact hJ
 ·cases j
  simp (disch:=first|apply D;decide|apply K;kernel_rfl) only [E,EE,↓reduceIte,simprocAttr,xk B31 [3,1,2,1,2,2,1,2,2,2,3,2,2,2,1,2,2,2,2,2,2,2,1,2] (.ex 3) rfl,R31_s1_l8.st,m]
noncomputable def f31_s1_l8 (k:Nat) (q_f31_pi_brii:Int→(List Int)→Int→Int→Option R31):Nat→Int→Int→Int→(List Int)→Int→Int→Int→Int→(List Int)→(List T28)→Option R31_s1_l8
 | 0,_,_,_,_,_,_,_,_,_,_=>none
 | n+1,w,s,t,x,m,p,u,h,i,v=>Option.bind (f31_s1_l8_b k q_f31_pi_brii w s t x m p u h i v) fun o =>
  match o with
  | .o0 y a b c d e f g=>some (.o0 y a b c d e f g)
  | .o1 y a b c d e f g j l=>f31_s1_l8 k q_f31_pi_brii n y a b c d e f g j l
  | .o2 y a b c d e f g j l q=>some (.o2 y a b c d e f g j l q)
theorem f31_s1_l8_ok (k:Nat) (q_f31_pi_brii:Int→(List Int)→Int→Int→Option R31) (hq_f31_pi_brii:∀ (a1:Int) (l:List Int) (a b:Int) (r:R31),q_f31_pi_brii a1 l a b=some r→CV k 31 [.ptr 1000000 0,jI a1] [.box 68 [.sl 1 (rowsOf (encI .u8) l),jI a,jI b]]=some r.st) (n:Nat):∀ (w e f:Int) (l:List Int) (a b g c:Int) (d:List Int) (i:List T28) (r:R31_s1_l8) (j:f31_s1_l8 k q_f31_pi_brii n w e f l a b g c d i=some r) (σ:St) (hσ:headR (hints.head 31 24) (hints.canon 31 24) σ=some (⟨133,[(0,.ptr 1000000 0),(1,jI w),(4,.ptr 30001 0),(89,.p (.int .u64 e)),(90,.p (.int .u64 f))],[(1000000,.box 68 [.sl 1 (rowsOf (encI .u8) l),jI a,jI b]),(30001,.box 28 [jI g,.p (.int .u64 c),.sl 1 (rowsOf (encI .u8) d),.own 30002]),(30002,.row true 4 28 (rowsOf encT28 i))]⟩:St)),LP 31 k (nav B31 [1,2,2,1,2,2,2,3,2,2,2,1,2,2,2,2,2,2,2,1,2]) n σ=some r.st:=by
 induction n with
 | zero=>intro w e f l a b g c d i r j;cases j
 | succ n ih =>
  intro w e f l a b g c d i r j σ hσ
  rw [f31_s1_l8] at j
  obtain ⟨o,h,j⟩:=Option.bind_eq_some_iff.1 j
  have hB:=f31_s1_l8_b_ok k q_f31_pi_brii hq_f31_pi_brii w e f l a b g c d i o h
  unfold LP at ih ⊢
  unfold EX at hB
  rw [loopK_succ,show firstReg (nav B31 [1,2,2,1,2,2,2,3,2,2,2,1,2,2,2,2,2,2,2,1,2])=24 from rfl,hσ,headK_some,hB]
  cases o with
  | o0 y m p q s t u v=>cases j;rfl
  | o1 y m p q s t u v x z =>
   refine ih y m p q s t u v x z r j _ ?_
   simp (disch:=first|apply D;decide|apply K;kernel_rfl) only [E,EE,↓reduceIte,simprocAttr,hh_31_24,hc_31_24]
  | o2 y m p q s t u v x z ac=>cases j;rfl
inductive R31_s1 where
 | o0 (y a:Int) (b:Bool) (c:List Int) (d e f g:Int) (h:List Int) (i:List T28)
 | o1 (y a:Int) (b:Bool) (c:List Int) (d e f g:Int) (h:List Int) (i:List T28)
 | o2 (y a b:Int) (c:Bool) (d:List Int) (e f g h:Int) (i:List Int) (j:List T28)
 | o3 (y a:Int) (b:Bool) (c:List Int) (d e f g:Int) (h:List Int) (i:List T28)
 | o4 (y a b:Int) (c:List Int) (d:List T28) (e:List Int) (f g:Int)
 | o5 (y a:Int) (b:Bool) (c:List Int) (d e f g:Int) (h:List Int) (i:List T28)
 | o6 (y:Int) (a:Bool) (b:List Int) (c d e f:Int) (g:List Int) (h:List T28)
 | o7 (y:Bool) (a b:Int) (c:List Int) (d:List T28) (e:List Int) (f g:Int)
 | o8 (y:Bool) (a b:Int) (c:List Int) (d:List T28) (e:List Int) (f g:Int)
 | o9 (y a b:Int) (c:List Int) (d:List T28) (e:List Int) (f g:Int)
 | o10 (y a:Int) (b:Bool) (c:List Int) (d e f g:Int) (h:List Int) (i:List T28)
 | o11 (y:Int) (a:Bool) (b:List Int) (c d e f:Int) (g:List Int) (h:List T28)
 | o12 (y:Bool) (a b:Int) (c:List Int) (d:List T28) (e:List Int) (f g:Int)
 | o13 (y:Bool) (a b:Int) (c:List Int) (d:List T28) (e:List Int) (f g:Int)
noncomputable def R31_s1.st:R31_s1→Out×St
 | .o0 y a b c d e f g h i=>(.goto 0,(⟨133,[(0,.ptr 1000000 0),(1,jI y),(4,.ptr 4 0),(7,.p (.int .u8 a)),(17,.p (.bool b))],[(1000000,.box 68 [.sl 1 (rowsOf (encI .u8) c),jI d,jI e]),(4,.box 28 [jI f,.p (.int .u64 g),.sl 1 (rowsOf (encI .u8) h),.own 700001]),(700001,.row true 4 28 (rowsOf encT28 i))]⟩:St))
 | .o1 y a b c d e f g h i=>(.goto 1,(⟨133,[(0,.ptr 1000000 0),(1,jI y),(4,.ptr 4 0),(7,.p (.int .u8 a)),(35,.p (.bool b))],[(1000000,.box 68 [.sl 1 (rowsOf (encI .u8) c),jI d,jI e]),(4,.box 28 [jI f,.p (.int .u64 g),.sl 1 (rowsOf (encI .u8) h),.own 700001]),(700001,.row true 4 28 (rowsOf encT28 i))]⟩:St))
 | .o2 y a b c d e f g h i j=>(.goto 0,(⟨133,[(0,.ptr 1000000 0),(1,jI y),(4,.ptr 30001 0),(6,.p (.int .u64 a)),(8,jI b),(60,.p (.bool c))],[(1000000,.box 68 [.sl 1 (rowsOf (encI .u8) d),jI e,jI f]),(30001,.box 28 [jI g,.p (.int .u64 h),.sl 1 (rowsOf (encI .u8) i),.own 30002]),(30002,.row true 4 28 (rowsOf encT28 j))]⟩:St))
 | .o3 y a b c d e f g h i=>(.goto 1,(⟨133,[(0,.ptr 1000000 0),(1,jI y),(4,.ptr 30001 0),(6,.p (.int .u64 a)),(77,.p (.bool b))],[(1000000,.box 68 [.sl 1 (rowsOf (encI .u8) c),jI d,jI e]),(30001,.box 28 [jI f,.p (.int .u64 g),.sl 1 (rowsOf (encI .u8) h),.own 30002]),(30002,.row true 4 28 (rowsOf encT28 i))]⟩:St))
 | .o4 y a b c d e f g=>(.ret,(⟨133,[(4,.ptr 30001 0),(5,jI y)],[(30001,.box 28 [jI a,.p (.int .u64 b),.sl 1 (rowsOf (encI .u8) c),.sl 4 (rowsOf encT28 d)]),(1000000,.box 68 [.sl 1 (rowsOf (encI .u8) e),jI f,jI g])]⟩:St))
 | .o5 y a b c d e f g h i=>(.goto 1,(⟨133,[(0,.ptr 1000000 0),(1,jI y),(4,.ptr 30001 0),(6,.p (.int .u64 a)),(88,.p (.bool b))],[(1000000,.box 68 [.sl 1 (rowsOf (encI .u8) c),jI d,jI e]),(30001,.box 28 [jI f,.p (.int .u64 g),.sl 1 (rowsOf (encI .u8) h),.own 30002]),(30002,.row true 4 28 (rowsOf encT28 i))]⟩:St))
 | .o6 y a b c d e f g h=>(.goto 1,(⟨133,[(0,.ptr 1000000 0),(4,.ptr 30001 0),(6,.p (.int .u64 y)),(112,.p (.bool a))],[(1000000,.box 68 [.sl 1 (rowsOf (encI .u8) b),jI c,jI d]),(30001,.box 28 [jI e,.p (.int .u64 f),.sl 1 (rowsOf (encI .u8) g),.own 30002]),(30002,.row true 4 28 (rowsOf encT28 h))]⟩:St))
 | .o7 y a b c d e f g=>(.goto 0,(⟨133,[(4,.ptr 30001 0),(120,.p (.bool y))],[(30001,.box 28 [jI a,.p (.int .u64 b),.sl 1 (rowsOf (encI .u8) c),.sl 4 (rowsOf encT28 d)]),(1000000,.box 68 [.sl 1 (rowsOf (encI .u8) e),jI f,jI g])]⟩:St))
 | .o8 y a b c d e f g=>(.goto 1,(⟨133,[(4,.ptr 30001 0),(129,.p (.bool y))],[(30001,.box 28 [jI a,.p (.int .u64 b),.sl 1 (rowsOf (encI .u8) c),.sl 4 (rowsOf encT28 d)]),(1000000,.box 68 [.sl 1 (rowsOf (encI .u8) e),jI f,jI g])]⟩:St))
 | .o9 y a b c d e f g=>(.ret,(⟨133,[(4,.ptr 4 0),(5,jI y)],[(4,.box 28 [jI a,.p (.int .u64 b),.sl 1 (rowsOf (encI .u8) c),.sl 4 (rowsOf encT28 d)]),(1000000,.box 68 [.sl 1 (rowsOf (encI .u8) e),jI f,jI g])]⟩:St))
 | .o10 y a b c d e f g h i=>(.goto 1,(⟨133,[(0,.ptr 1000000 0),(1,jI y),(4,.ptr 4 0),(6,.p (.int .u64 a)),(88,.p (.bool b))],[(1000000,.box 68 [.sl 1 (rowsOf (encI .u8) c),jI d,jI e]),(4,.box 28 [jI f,.p (.int .u64 g),.sl 1 (rowsOf (encI .u8) h),.own 700001]),(700001,.row true 4 28 (rowsOf encT28 i))]⟩:St))
 | .o11 y a b c d e f g h=>(.goto 1,(⟨133,[(0,.ptr 1000000 0),(4,.ptr 4 0),(6,.p (.int .u64 y)),(112,.p (.bool a))],[(1000000,.box 68 [.sl 1 (rowsOf (encI .u8) b),jI c,jI d]),(4,.box 28 [jI e,.p (.int .u64 f),.sl 1 (rowsOf (encI .u8) g),.own 700001]),(700001,.row true 4 28 (rowsOf encT28 h))]⟩:St))
 | .o12 y a b c d e f g=>(.goto 0,(⟨133,[(4,.ptr 4 0),(120,.p (.bool y))],[(4,.box 28 [jI a,.p (.int .u64 b),.sl 1 (rowsOf (encI .u8) c),.sl 4 (rowsOf encT28 d)]),(1000000,.box 68 [.sl 1 (rowsOf (encI .u8) e),jI f,jI g])]⟩:St))
 | .o13 y a b c d e f g=>(.goto 1,(⟨133,[(4,.ptr 4 0),(129,.p (.bool y))],[(4,.box 28 [jI a,.p (.int .u64 b),.sl 1 (rowsOf (encI .u8) c),.sl 4 (rowsOf encT28 d)]),(1000000,.box 68 [.sl 1 (rowsOf (encI .u8) e),jI f,jI g])]⟩:St))
noncomputable def f31_s1_j9 (k:Nat) (q_f31_pi_brii:Int→(List Int)→Int→Int→Option R31) (l g h:Int) (i:Bool) (j:List Int) (c d e a:Int) (b:List Int) (f:List T28):Option R31_s1 :=
 some (R31_s1.o4 0 e a b f j c d)
theorem f31_s1_j9_ok (k:Nat) (q_f31_pi_brii:Int→(List Int)→Int→Int→Option R31) (hq_f31_pi_brii:∀ (l:Int) (e:List Int) (a b:Int) (r:R31),q_f31_pi_brii l e a b=some r→CV k 31 [.ptr 1000000 0,jI l] [.box 68 [.sl 1 (rowsOf (encI .u8) e),jI a,jI b]]=some r.st) (m f g:Int) (h:Bool) (e:List Int) (a b i c:Int) (d:List Int) (j:List T28) (r:R31_s1) (o:f31_s1_j9 k q_f31_pi_brii m f g h e a b i c d j=some r):SQ 31 k (nav B31 [2,2,2,2,2,2,2,2,1,2]) (blockK 2 (EX 31 k (nav B31 [2,2,2,2,3,2,2,2,1,2,2,2,2,2,2,2,1,2]) (⟨133,[(0,.ptr 1000000 0),(1,jI m),(4,.ptr 30001 0),(89,.p (.int .u64 f)),(90,.p (.int .u64 g)),(91,.p (.bool h))],[(1000000,.box 68 [.sl 1 (rowsOf (encI .u8) e),jI a,jI b]),(30001,.box 28 [jI i,.p (.int .u64 c),.sl 1 (rowsOf (encI .u8) d),.own 30002]),(30002,.row true 4 28 (rowsOf encT28 j))]⟩:St)))=some r.st:=by
 unfold f31_s1_j9 at o
 cases o
 simp (disch:=first|apply D;decide|apply K;kernel_rfl) only [E,EE,↓reduceIte,simprocAttr,xk B31 [2,2,2,2,3,2,2,2,1,2,2,2,2,2,2,2,1,2] .sq rfl,rg B31 [1,2,2,2,2,3,2,2,2,1,2,2,2,2,2,2,2,1,2] 30 false rfl,hr_31_30,t_28,xk B31 [2,2,2,2,2,3,2,2,2,1,2,2,2,2,2,2,2,1,2] .rt rfl,R31_s1.st]
noncomputable def f31_s1_j7 (k:Nat) (q_f31_pi_brii:Int→(List Int)→Int→Int→Option R31) (w x:Int) (y:Bool) (z:List Int) (c d e a:Int) (b:List Int) (f:List T28):Option R31_s1 :=
 Option.bind (f31_s1_l8 k q_f31_pi_brii k w x 0 z c d e a b f) fun o1 =>
  match o1 with
  | .o0 r n v6 v7 v8 v9 g h =>
   some (R31_s1.o4 r n v6 v7 v8 v9 g h)
  | .o1 _ _ _ _ _ _ _ _ _ _ =>
   none
  | .o2 i j l m o p q s t u v =>
   f31_s1_j9 k q_f31_pi_brii i j l m o p q s t u v
theorem f31_s1_j7_ok (k:Nat) (q_f31_pi_brii:Int→(List Int)→Int→Int→Option R31) (hq_f31_pi_brii:∀ (n:Int) (i:List Int) (a b:Int) (r:R31),q_f31_pi_brii n i a b=some r→CV k 31 [.ptr 1000000 0,jI n] [.box 68 [.sl 1 (rowsOf (encI .u8) i),jI a,jI b]]=some r.st) (l m:Int) (j:Bool) (i:List Int) (a b f c:Int) (d:List Int) (g:List T28) (r:R31_s1) (e:f31_s1_j7 k q_f31_pi_brii l m j i a b f c d g=some r):SQ 31 k (nav B31 [2,2,2,2,2,2,2,2,1,2]) (blockK 2 (EX 31 k (nav B31 [2,2,2,3,2,2,2,1,2,2,2,2,2,2,2,1,2]) (⟨133,[(0,.ptr 1000000 0),(1,jI l),(4,.ptr 30001 0),(6,.p (.int .u64 m)),(88,.p (.bool j))],[(1000000,.box 68 [.sl 1 (rowsOf (encI .u8) i),jI a,jI b]),(30001,.box 28 [jI f,.p (.int .u64 c),.sl 1 (rowsOf (encI .u8) d),.own 30002]),(30002,.row true 4 28 (rowsOf encT28 g))]⟩:St)))=some r.st:=by
 unfold f31_s1_j7 at e
 obtain ⟨o1,h2,e⟩:=bs e
 have h:=f31_s1_l8_ok k q_f31_pi_brii hq_f31_pi_brii k l m 0 i a b f c d g _ h2
 simp (disch:=first|apply D;decide|apply K;kernel_rfl) only [E,EE,↓reduceIte,simprocAttr,xk B31 [2,2,2,3,2,2,2,1,2,2,2,2,2,2,2,1,2] .sq rfl,xk B31 [1,2,2,2,3,2,2,2,1,2,2,2,2,2,2,2,1,2] .sq rfl,rg B31 [1,1,2,2,2,3,2,2,2,1,2,2,2,2,2,2,2,1,2] 23 false rfl,hr 31 23 rfl,xk B31 [2,1,2,2,2,3,2,2,2,1,2,2,2,2,2,2,2,1,2] (.bk 3) rfl,xk B31 [2,2,1,2,2,2,3,2,2,2,1,2,2,2,2,2,2,2,1,2] .lp rfl,hh_31_24,hc_31_24]
 (try simp only [NM,EE] at h)
 rw [h _ (by simp (disch:=first|apply D;decide|apply K;kernel_rfl) only [E,EE,↓reduceIte,simprocAttr,hh_31_24,hc_31_24])]
 clear h
 cases o1 with
 | o0 v4 v5 v6 v7 v8 v9 ab ac =>
  (try dsimp only at e)
  cases e
  simp (disch:=first|apply D;decide|apply K;kernel_rfl) only [E,EE,↓reduceIte,simprocAttr,R31_s1_l8.st,R31_s1.st]
 | o1 _ _ _ _ _ _ _ _ _ _ =>
  (try dsimp only at e)
  cases e
 | o2 o p q s t u v w x y z =>
  (try dsimp only at e)
  have hJ:=f31_s1_j9_ok k q_f31_pi_brii hq_f31_pi_brii o p q s t u v w x y z _ e
  simp (disch:=first|apply D;decide|apply K;kernel_rfl) only [E,EE,↓reduceIte,simprocAttr,R31_s1_l8.st]
  try simp only [NM,EE] at hJ
  exact hJ
noncomputable def f31_s1_j13 (k:Nat) (q_f31_pi_brii:Int→(List Int)→Int→Int→Option R31) (g:Bool) (f a:Int) (b:List Int) (c:List T28) (h:List Int) (d e:Int):Option R31_s1 :=
 some (R31_s1.o4 0 f a b c h d e)
theorem f31_s1_j13_ok (k:Nat) (q_f31_pi_brii:Int→(List Int)→Int→Int→Option R31) (hq_f31_pi_brii:∀ (i:Int) (g:List Int) (a b:Int) (r:R31),q_f31_pi_brii i g a b=some r→CV k 31 [.ptr 1000000 0,jI i] [.box 68 [.sl 1 (rowsOf (encI .u8) g),jI a,jI b]]=some r.st) (f:Bool) (h c:Int) (d:List Int) (e:List T28) (g:List Int) (a b:Int) (r:R31_s1) (j:f31_s1_j13 k q_f31_pi_brii f h c d e g a b=some r):EX 31 k (nav B31 [2,2,2,2,2,2,2,2,2,2,2,2,1,2]) (⟨133,[(4,.ptr 30001 0),(129,.p (.bool f))],[(30001,.box 28 [jI h,.p (.int .u64 c),.sl 1 (rowsOf (encI .u8) d),.sl 4 (rowsOf encT28 e)]),(1000000,.box 68 [.sl 1 (rowsOf (encI .u8) g),jI a,jI b])]⟩:St)=some r.st:=by
 unfold f31_s1_j13 at j
 cases j
 simp (disch:=first|apply D;decide|apply K;kernel_rfl) only [E,EE,↓reduceIte,simprocAttr,xk B31 [2,2,2,2,2,2,2,2,2,2,2,2,1,2] .sq rfl,xk B31 [1,2,2,2,2,2,2,2,2,2,2,2,2,1,2] .sq rfl,rg B31 [1,1,2,2,2,2,2,2,2,2,2,2,2,2,1,2] 35 false rfl,hr_31_35,t_28,xk B31 [2,1,2,2,2,2,2,2,2,2,2,2,2,2,1,2] .rt rfl,R31_s1.st]
noncomputable def f31_s1_j12 (k:Nat) (q_f31_pi_brii:Int→(List Int)→Int→Int→Option R31) (h:Bool) (f b:Int) (a:List Int) (c:List T28) (g:List Int) (d e:Int):Option R31_s1 :=
 cond ((f==3))
  (
   Option.bind (f38 k a) fun o2 =>
    match o2 with
    | .o0 i =>
     cond ((!i))
      (some (R31_s1.o8 true f b a c g d e))
      (f31_s1_j13 k q_f31_pi_brii false f b a c g d e))
  (f31_s1_j13 k q_f31_pi_brii false f b a c g d e)
theorem f31_s1_j12_ok (k:Nat) (q_f31_pi_brii:Int→(List Int)→Int→Int→Option R31) (hq_f31_pi_brii:∀ (o:Int) (j:List Int) (a b:Int) (r:R31),q_f31_pi_brii o j a b=some r→CV k 31 [.ptr 1000000 0,jI o] [.box 68 [.sl 1 (rowsOf (encI .u8) j),jI a,jI b]]=some r.st) (i:Bool) (g d:Int) (c:List Int) (e:List T28) (j:List Int) (a b:Int) (r:R31_s1) (f:f31_s1_j12 k q_f31_pi_brii i g d c e j a b=some r):EX 31 k (nav B31 [2,2,2,2,2,2,2,2,2,2,2,1,2]) (⟨133,[(4,.ptr 30001 0),(120,.p (.bool i))],[(30001,.box 28 [jI g,.p (.int .u64 d),.sl 1 (rowsOf (encI .u8) c),.sl 4 (rowsOf encT28 e)]),(1000000,.box 68 [.sl 1 (rowsOf (encI .u8) j),jI a,jI b])]⟩:St)=some r.st:=by
 unfold f31_s1_j12 at f
 simp (disch:=first|apply D;decide|apply K;kernel_rfl) only [E,EE,↓reduceIte,simprocAttr,xk B31 [2,2,2,2,2,2,2,2,2,2,2,1,2] .sq rfl,xk B31 [1,2,2,2,2,2,2,2,2,2,2,2,1,2] .sq rfl,rg B31 [1,1,2,2,2,2,2,2,2,2,2,2,2,1,2] 34 false rfl,hr 31 34 rfl,fieldAddrV,t_28,t_3]
 rcases cond_some f with ⟨l,f⟩ | ⟨l,f⟩
 ·obtain ⟨o2,p,f⟩:=bs f
  have h:=f38_ok k c _ p
  cases o2 with
  | o0 q =>
   (try dsimp only at f)
   (try simp only [NM,EE,R38.st] at h)
   simp (disch:=first|apply D;decide|apply K;kernel_rfl) only [E,EE,↓reduceIte,simprocAttr,fieldAddrV,t_28,t_25,callStep,CL,gv,List.contains,xk B31 [2,1,2,2,2,2,2,2,2,2,2,2,2,1,2] (.cd 129) rfl,l,h]
   rcases cond_some f with ⟨m,f⟩ | ⟨m,f⟩
   ·cases f
    simp (disch:=first|apply D;decide|apply K;kernel_rfl) only [E,EE,↓reduceIte,simprocAttr,xk B31 [2,2,1,2,2,2,2,2,2,2,2,2,2,2,1,2] (.gt 1) rfl,R31_s1.st,l,h,m]
   ·have hJ:=f31_s1_j13_ok k q_f31_pi_brii hq_f31_pi_brii false g d c e j a b _ f
    simp (disch:=first|apply D;decide|apply K;kernel_rfl) only [E,EE,↓reduceIte,simprocAttr,xk B31 [3,2,1,2,2,2,2,2,2,2,2,2,2,2,1,2] .sk rfl,l,h,m]
    try simp only [NM,EE] at hJ
    exact hJ
 ·have hJ:=f31_s1_j13_ok k q_f31_pi_brii hq_f31_pi_brii false g d c e j a b _ f
  simp (disch:=first|apply D;decide|apply K;kernel_rfl) only [E,EE,↓reduceIte,simprocAttr,xk B31 [2,1,2,2,2,2,2,2,2,2,2,2,2,1,2] (.cd 129) rfl,xk B31 [3,2,1,2,2,2,2,2,2,2,2,2,2,2,1,2] .sk rfl,l]
  try simp only [NM,EE] at hJ
  exact hJ
noncomputable def f31_s1_j11 (k:Nat) (q_f31_pi_brii:Int→(List Int)→Int→Int→Option R31) (o:Int) (l:Bool) (p:List Int) (b c d a:Int) (i:List Int) (e:List T28):Option R31_s1 :=
 Option.bind (f43 k (IntKind.i64.wrap o) p b c) fun o1 =>
  match o1 with
  | .o0 q s t m =>
   Option.bind (f41 k q s t) fun o8 =>
    match o8 with
    | .o0 j f g h =>
     cond ((j != 0))
      (some (R31_s1.o7 true d a m e f g h))
      (f31_s1_j12 k q_f31_pi_brii false d a m e f g h)
theorem f31_s1_j11_ok (k:Nat) (q_f31_pi_brii:Int→(List Int)→Int→Int→Option R31) (hq_f31_pi_brii:∀ (t:Int) (m:List Int) (a b:Int) (r:R31),q_f31_pi_brii t m a b=some r→CV k 31 [.ptr 1000000 0,jI t] [.box 68 [.sl 1 (rowsOf (encI .u8) m),jI a,jI b]]=some r.st) (o:Int) (h:Bool) (m:List Int) (a b i c:Int) (f:List Int) (j:List T28) (r:R31_s1) (e:f31_s1_j11 k q_f31_pi_brii o h m a b i c f j=some r):EX 31 k (nav B31 [2,2,2,2,2,2,2,2,2,1,2]) (⟨133,[(0,.ptr 1000000 0),(4,.ptr 30001 0),(6,.p (.int .u64 o)),(112,.p (.bool h))],[(1000000,.box 68 [.sl 1 (rowsOf (encI .u8) m),jI a,jI b]),(30001,.box 28 [jI i,.p (.int .u64 c),.sl 1 (rowsOf (encI .u8) f),.own 30002]),(30002,.row true 4 28 (rowsOf encT28 j))]⟩:St)=some r.st:=by
 unfold f31_s1_j11 at e
 obtain ⟨o1,u,e⟩:=bs e
 have g:=f43_ok k (IntKind.i64.wrap o) m a b _ u
 cases o1 with
 | o0 v w x y =>
  (try dsimp only at e)
  (try simp only [NM,EE,R43.st] at g)
  obtain ⟨o8,z,e⟩:=bs e
  have d:=f41_ok k v w x _ z
  cases o8 with
  | o0 n p q s =>
   (try dsimp only at e)
   (try simp only [NM,EE,R41.st] at d)
   simp (disch:=first|apply D;decide|apply K;kernel_rfl) only [E,EE,↓reduceIte,simprocAttr,xk B31 [2,2,2,2,2,2,2,2,2,1,2] .sq rfl,rg B31 [1,2,2,2,2,2,2,2,2,2,1,2] 32 false rfl,hr_31_32,t_24,t_3,convV,callStep,CL,gv,List.contains,fieldAddrV,t_28,t_25,xk B31 [2,2,2,2,2,2,2,2,2,2,1,2] .sq rfl,xk B31 [1,2,2,2,2,2,2,2,2,2,2,1,2] .sq rfl,rg B31 [1,1,2,2,2,2,2,2,2,2,2,2,1,2] 33 false rfl,hr 31 33 rfl,xk B31 [2,1,2,2,2,2,2,2,2,2,2,2,1,2] (.cd 120) rfl,g,d]
   rcases cond_some e with ⟨l,e⟩ | ⟨l,e⟩
   ·cases e
    simp (disch:=first|apply D;decide|apply K;kernel_rfl) only [E,EE,↓reduceIte,simprocAttr,xk B31 [2,2,1,2,2,2,2,2,2,2,2,2,2,1,2] (.gt 0) rfl,R31_s1.st,g,d,l]
   ·have hJ:=f31_s1_j12_ok k q_f31_pi_brii hq_f31_pi_brii false i c y j p q s _ e
    simp (disch:=first|apply D;decide|apply K;kernel_rfl) only [E,EE,↓reduceIte,simprocAttr,xk B31 [3,2,1,2,2,2,2,2,2,2,2,2,2,1,2] .sk rfl,g,d,l]
    try simp only [NM,EE] at hJ
    exact hJ
noncomputable def f31_s1_j10 (k:Nat) (q_f31_pi_brii:Int→(List Int)→Int→Int→Option R31) (j g:Int) (i:Bool) (h:List Int) (c d e a:Int) (b:List Int) (f:List T28):Option R31_s1 :=
 cond ((decide (g>512)))
  (some (R31_s1.o6 g true h c d e a b f))
  (f31_s1_j11 k q_f31_pi_brii g false h c d e a b f)
theorem f31_s1_j10_ok (k:Nat) (q_f31_pi_brii:Int→(List Int)→Int→Int→Option R31) (hq_f31_pi_brii:∀ (m:Int) (g:List Int) (a b:Int) (r:R31),q_f31_pi_brii m g a b=some r→CV k 31 [.ptr 1000000 0,jI m] [.box 68 [.sl 1 (rowsOf (encI .u8) g),jI a,jI b]]=some r.st) (o j:Int) (i:Bool) (g:List Int) (a b e c:Int) (d:List Int) (f:List T28) (r:R31_s1) (h:f31_s1_j10 k q_f31_pi_brii o j i g a b e c d f=some r):EX 31 k (nav B31 [2,2,2,2,2,2,2,2,1,2]) (⟨133,[(0,.ptr 1000000 0),(1,jI o),(4,.ptr 30001 0),(6,.p (.int .u64 j)),(85,.p (.bool i))],[(1000000,.box 68 [.sl 1 (rowsOf (encI .u8) g),jI a,jI b]),(30001,.box 28 [jI e,.p (.int .u64 c),.sl 1 (rowsOf (encI .u8) d),.own 30002]),(30002,.row true 4 28 (rowsOf encT28 f))]⟩:St)=some r.st:=by
 unfold f31_s1_j10 at h
 simp (disch:=first|apply D;decide|apply K;kernel_rfl) only [E,EE,↓reduceIte,simprocAttr,xk B31 [2,2,2,2,2,2,2,2,1,2] .sq rfl,xk B31 [1,2,2,2,2,2,2,2,2,1,2] .sq rfl,rg B31 [1,1,2,2,2,2,2,2,2,2,1,2] 31 false rfl,hr 31 31 rfl,xk B31 [2,1,2,2,2,2,2,2,2,2,1,2] (.cd 112) rfl]
 rcases cond_some h with ⟨l,h⟩ | ⟨l,h⟩
 ·cases h
  simp (disch:=first|apply D;decide|apply K;kernel_rfl) only [E,EE,↓reduceIte,simprocAttr,xk B31 [2,2,1,2,2,2,2,2,2,2,2,1,2] (.gt 1) rfl,R31_s1.st,l]
 ·have hJ:=f31_s1_j11_ok k q_f31_pi_brii hq_f31_pi_brii j false g a b e c d f _ h
  simp (disch:=first|apply D;decide|apply K;kernel_rfl) only [E,EE,↓reduceIte,simprocAttr,xk B31 [3,2,1,2,2,2,2,2,2,2,2,1,2] .sk rfl,l]
  try simp only [NM,EE] at hJ
  exact hJ
noncomputable def f31_s1_j6 (k:Nat) (q_f31_pi_brii:Int→(List Int)→Int→Int→Option R31) (i g:Int) (j:Bool) (h:List Int) (c d e b:Int) (a:List Int) (f:List T28):Option R31_s1 :=
 cond ((e==1))
  (some (R31_s1.o4 0 e g a f h c d))
  (
   cond ((e==4))
    (
     cond ((decide (g>64)))
      (some (R31_s1.o5 i g true h c d e b a f))
      (f31_s1_j7 k q_f31_pi_brii i g false h c d e b a f))
    (f31_s1_j10 k q_f31_pi_brii i g false h c d e b a f))
theorem f31_s1_j6_ok (k:Nat) (q_f31_pi_brii:Int→(List Int)→Int→Int→Option R31) (hq_f31_pi_brii:∀ (q:Int) (h:List Int) (a b:Int) (r:R31),q_f31_pi_brii q h a b=some r→CV k 31 [.ptr 1000000 0,jI q] [.box 68 [.sl 1 (rowsOf (encI .u8) h),jI a,jI b]]=some r.st) (m o:Int) (j:Bool) (h:List Int) (a b f c:Int) (d:List Int) (g:List T28) (r:R31_s1) (e:f31_s1_j6 k q_f31_pi_brii m o j h a b f c d g=some r):EX 31 k (nav B31 [2,2,2,2,2,2,2,1,2]) (⟨133,[(0,.ptr 1000000 0),(1,jI m),(4,.ptr 30001 0),(6,.p (.int .u64 o)),(77,.p (.bool j))],[(1000000,.box 68 [.sl 1 (rowsOf (encI .u8) h),jI a,jI b]),(30001,.box 28 [jI f,.p (.int .u64 c),.sl 1 (rowsOf (encI .u8) d),.own 30002]),(30002,.row true 4 28 (rowsOf encT28 g))]⟩:St)=some r.st:=by
 unfold f31_s1_j6 at e
 simp (disch:=first|apply D;decide|apply K;kernel_rfl) only [E,EE,↓reduceIte,simprocAttr,xk B31 [2,2,2,2,2,2,2,1,2] .sq rfl,xk B31 [1,2,2,2,2,2,2,2,1,2] .sq rfl,rg B31 [1,1,2,2,2,2,2,2,2,1,2] 17 false rfl,hr 31 17 rfl,fieldAddrV,t_28,t_3,xk B31 [2,1,2,2,2,2,2,2,2,1,2] (.bk 2) rfl,xk B31 [2,2,1,2,2,2,2,2,2,2,1,2] .sq rfl,rg B31 [1,2,2,1,2,2,2,2,2,2,2,1,2] 18 false rfl,hr 31 18 rfl,xk B31 [2,2,2,1,2,2,2,2,2,2,2,1,2] (.cd 80) rfl]
 rcases cond_some e with ⟨i,e⟩ | ⟨i,e⟩
 ·cases e
  simp (disch:=first|apply D;decide|apply K;kernel_rfl) only [E,EE,↓reduceIte,simprocAttr,xk B31 [2,2,2,2,1,2,2,2,2,2,2,2,1,2] .sq rfl,rg B31 [1,2,2,2,2,1,2,2,2,2,2,2,2,1,2] 19 false rfl,hr 31 19 rfl,fieldAddrV,t_28,t_24,xk B31 [2,2,2,2,2,1,2,2,2,2,2,2,2,1,2] .sq rfl,rg B31 [1,2,2,2,2,2,1,2,2,2,2,2,2,2,1,2] 20 false rfl,hr_31_20,xk B31 [2,2,2,2,2,2,1,2,2,2,2,2,2,2,1,2] .rt rfl,R31_s1.st,i]
 ·simp (disch:=first|apply D;decide|apply K;kernel_rfl) only [E,EE,↓reduceIte,simprocAttr,xk B31 [3,2,2,2,1,2,2,2,2,2,2,2,1,2] .sq rfl,rg B31 [1,3,2,2,2,1,2,2,2,2,2,2,2,1,2] 21 false rfl,hr 31 21 rfl,xk B31 [2,3,2,2,2,1,2,2,2,2,2,2,2,1,2] (.cd 85) rfl,i]
  rcases cond_some e with ⟨l,e⟩ | ⟨l,e⟩
  ·simp (disch:=first|apply D;decide|apply K;kernel_rfl) only [E,EE,↓reduceIte,simprocAttr,xk B31 [2,2,3,2,2,2,1,2,2,2,2,2,2,2,1,2] .sq rfl,xk B31 [1,2,2,3,2,2,2,1,2,2,2,2,2,2,2,1,2] .sq rfl,rg B31 [1,1,2,2,3,2,2,2,1,2,2,2,2,2,2,2,1,2] 22 false rfl,hr 31 22 rfl,xk B31 [2,1,2,2,3,2,2,2,1,2,2,2,2,2,2,2,1,2] (.cd 88) rfl,i,l]
   rcases cond_some e with ⟨p,e⟩ | ⟨p,e⟩
   ·cases e
    simp (disch:=first|apply D;decide|apply K;kernel_rfl) only [E,EE,↓reduceIte,simprocAttr,xk B31 [2,2,1,2,2,3,2,2,2,1,2,2,2,2,2,2,2,1,2] (.gt 1) rfl,R31_s1.st,i,l,p]
   ·have hJ:=f31_s1_j7_ok k q_f31_pi_brii hq_f31_pi_brii m o false h a b f c d g _ e
    simp (disch:=first|apply D;decide|apply K;kernel_rfl) only [E,EE,↓reduceIte,simprocAttr,xk B31 [3,2,1,2,2,3,2,2,2,1,2,2,2,2,2,2,2,1,2] .sk rfl,i,l,p]
    try simp only [NM,EE] at hJ
    exact hJ
  ·have hJ:=f31_s1_j10_ok k q_f31_pi_brii hq_f31_pi_brii m o false h a b f c d g _ e
   simp (disch:=first|apply D;decide|apply K;kernel_rfl) only [E,EE,↓reduceIte,simprocAttr,xk B31 [3,2,3,2,2,2,1,2,2,2,2,2,2,2,1,2] .sk rfl,i,l]
   try simp only [NM,EE] at hJ
   exact hJ
noncomputable def f31_s1_j5 (k:Nat) (q_f31_pi_brii:Int→(List Int)→Int→Int→Option R31) (h g i:Int) (l:Bool) (j:List Int) (c d e a:Int) (b:List Int) (f:List T28):Option R31_s1 :=
 cond ((i==1))
  (
   cond ((decide (g<24)))
    (some (R31_s1.o3 h g true j c d e a b f))
    (
     cond ((decide (i>1)))
      (
       ifE (¬(IntKind.i64.wrap ((4:Int) * i))<0) (
        cond (((Int.fdiv g (2 ^ (min (Int.toNat (IntKind.i64.wrap ((4:Int) * i))) (IntKind.bits .u64))))==0))
         (some (R31_s1.o3 h g true j c d e a b f))
         (f31_s1_j6 k q_f31_pi_brii h g false j c d e a b f)))
      (f31_s1_j6 k q_f31_pi_brii h g false j c d e a b f)))
  (
   cond ((decide (i>1)))
    (
     ifE (¬(IntKind.i64.wrap ((4:Int) * i))<0) (
      cond (((Int.fdiv g (2 ^ (min (Int.toNat (IntKind.i64.wrap ((4:Int) * i))) (IntKind.bits .u64))))==0))
       (some (R31_s1.o3 h g true j c d e a b f))
       (f31_s1_j6 k q_f31_pi_brii h g false j c d e a b f)))
    (f31_s1_j6 k q_f31_pi_brii h g false j c d e a b f))
theorem f31_s1_j5_ok (k:Nat) (q_f31_pi_brii:Int→(List Int)→Int→Int→Option R31) (hq_f31_pi_brii:∀ (w:Int) (i:List Int) (b c:Int) (r:R31),q_f31_pi_brii w i b c=some r→CV k 31 [.ptr 1000000 0,jI w] [.box 68 [.sl 1 (rowsOf (encI .u8) i),jI b,jI c]]=some r.st) (l m x:Int) (p:Bool) (i:List Int) (b c f d:Int) (e:List Int) (g:List T28) (r:R31_s1) (a:f31_s1_j5 k q_f31_pi_brii l m x p i b c f d e g=some r):SQ 31 k (nav B31 [2,2,2,2,2,2,2,1,2]) (EX 31 k (nav B31 [2,2,2,2,2,2,1,2,2,2,2,2,2,1,2]) (⟨133,[(0,.ptr 1000000 0),(1,jI l),(4,.ptr 30001 0),(6,.p (.int .u64 m)),(8,jI x),(60,.p (.bool p))],[(1000000,.box 68 [.sl 1 (rowsOf (encI .u8) i),jI b,jI c]),(30001,.box 28 [jI f,.p (.int .u64 d),.sl 1 (rowsOf (encI .u8) e),.own 30002]),(30002,.row true 4 28 (rowsOf encT28 g))]⟩:St))=some r.st:=by
 unfold f31_s1_j5 at a
 simp (disch:=first|apply D;decide|apply K;kernel_rfl) only [E,EE,↓reduceIte,simprocAttr,xk B31 [2,2,2,2,2,2,1,2,2,2,2,2,2,1,2] .sq rfl,rg B31 [1,2,2,2,2,2,2,1,2,2,2,2,2,2,1,2] 16 false rfl,hr 31 16 rfl]
 rcases cond_some a with ⟨h,a⟩ | ⟨h,a⟩
 ·rcases cond_some a with ⟨o,a⟩ | ⟨o,a⟩
  ·cases a
   simp (disch:=first|apply D;decide|apply K;kernel_rfl) only [E,EE,↓reduceIte,simprocAttr,xk B31 [2,2,2,2,2,2,2,1,2,2,2,2,2,2,1,2] (.cd 77) rfl,xk B31 [2,2,2,2,2,2,2,2,1,2,2,2,2,2,2,1,2] (.gt 1) rfl,R31_s1.st,h,o]
  ·rcases cond_some a with ⟨q,a⟩ | ⟨q,a⟩
   ·obtain ⟨t,a⟩:=ifE_some.1 a
    simp (disch:=first|apply D;decide|apply K;kernel_rfl) only [E,EE,↓reduceIte,simprocAttr,shiftV,xk B31 [2,2,2,2,2,2,2,1,2,2,2,2,2,2,1,2] (.cd 77) rfl,h,o,q,t]
    rcases cond_some a with ⟨u,a⟩ | ⟨u,a⟩
    ·cases a
     simp (disch:=first|apply D;decide|apply K;kernel_rfl) only [E,EE,↓reduceIte,simprocAttr,xk B31 [2,2,2,2,2,2,2,2,1,2,2,2,2,2,2,1,2] (.gt 1) rfl,R31_s1.st,h,o,q,t,u]
    ·have hJ:=f31_s1_j6_ok k q_f31_pi_brii hq_f31_pi_brii l m false i b c f d e g _ a
     simp (disch:=first|apply D;decide|apply K;kernel_rfl) only [E,EE,↓reduceIte,simprocAttr,xk B31 [3,2,2,2,2,2,2,2,1,2,2,2,2,2,2,1,2] .sk rfl,h,o,q,t,u]
     try simp only [NM,EE] at hJ
     exact hJ
   ·have hJ:=f31_s1_j6_ok k q_f31_pi_brii hq_f31_pi_brii l m false i b c f d e g _ a
    simp (disch:=first|apply D;decide|apply K;kernel_rfl) only [E,EE,↓reduceIte,simprocAttr,xk B31 [2,2,2,2,2,2,2,1,2,2,2,2,2,2,1,2] (.cd 77) rfl,xk B31 [3,2,2,2,2,2,2,2,1,2,2,2,2,2,2,1,2] .sk rfl,h,o,q]
    try simp only [NM,EE] at hJ
    exact hJ
 ·rcases cond_some a with ⟨s,a⟩ | ⟨s,a⟩
  ·obtain ⟨v,a⟩:=ifE_some.1 a
   simp (disch:=first|apply D;decide|apply K;kernel_rfl) only [E,EE,↓reduceIte,simprocAttr,shiftV,xk B31 [2,2,2,2,2,2,2,1,2,2,2,2,2,2,1,2] (.cd 77) rfl,h,s,v]
   rcases cond_some a with ⟨j,a⟩ | ⟨j,a⟩
   ·cases a
    simp (disch:=first|apply D;decide|apply K;kernel_rfl) only [E,EE,↓reduceIte,simprocAttr,xk B31 [2,2,2,2,2,2,2,2,1,2,2,2,2,2,2,1,2] (.gt 1) rfl,R31_s1.st,h,s,v,j]
   ·have hJ:=f31_s1_j6_ok k q_f31_pi_brii hq_f31_pi_brii l m false i b c f d e g _ a
    simp (disch:=first|apply D;decide|apply K;kernel_rfl) only [E,EE,↓reduceIte,simprocAttr,xk B31 [3,2,2,2,2,2,2,2,1,2,2,2,2,2,2,1,2] .sk rfl,h,s,v,j]
    try simp only [NM,EE] at hJ
    exact hJ
  ·have hJ:=f31_s1_j6_ok k q_f31_pi_brii hq_f31_pi_brii l m false i b c f d e g _ a
   simp (disch:=first|apply D;decide|apply K;kernel_rfl) only [E,EE,↓reduceIte,simprocAttr,xk B31 [2,2,2,2,2,2,2,1,2,2,2,2,2,2,1,2] (.cd 77) rfl,xk B31 [3,2,2,2,2,2,2,2,1,2,2,2,2,2,2,1,2] .sk rfl,h,s]
   try simp only [NM,EE] at hJ
   exact hJ
noncomputable def f31_s1_j4 (k:Nat) (q_f31_pi_brii:Int→(List Int)→Int→Int→Option R31) (g h i o p:Int) (q:Bool) (s:List Int) (c d e a:Int) (b:List Int) (f:List T28) (t:List Int):Option R31_s1 :=
 Option.bind (f41 k s c d) fun o1 =>
  match o1 with
  | .o0 u j l m =>
   cond ((u != 0))
    (some (R31_s1.o2 g h i true j l m e a b f))
    (f31_s1_j5 k q_f31_pi_brii g h i false j l m e a b f)
theorem f31_s1_j4_ok (k:Nat) (q_f31_pi_brii:Int→(List Int)→Int→Int→Option R31) (hq_f31_pi_brii:∀ (u:Int) (i:List Int) (a b:Int) (r:R31),q_f31_pi_brii u i a b=some r→CV k 31 [.ptr 1000000 0,jI u] [.box 68 [.sl 1 (rowsOf (encI .u8) i),jI a,jI b]]=some r.st) (p q s j l:Int) (m:Bool) (i:List Int) (a b g c:Int) (d:List Int) (h:List T28) (o:List Int) (r:R31_s1) (e:f31_s1_j4 k q_f31_pi_brii p q s j l m i a b g c d h o=some r):SQ 31 k (nav B31 [2,2,2,2,2,2,2,1,2]) (EX 31 k (nav B31 [2,2,2,2,2,1,2,2,2,2,2,2,1,2]) (⟨133,[(0,.ptr 1000000 0),(1,jI p),(4,.ptr 30001 0),(6,.p (.int .u64 q)),(8,jI s),(46,.own 30003),(47,jI j),(48,jI l),(49,.p (.bool m))],[(1000000,.box 68 [.sl 1 (rowsOf (encI .u8) i),jI a,jI b]),(30001,.box 28 [jI g,.p (.int .u64 c),.sl 1 (rowsOf (encI .u8) d),.own 30002]),(30002,.row true 4 28 (rowsOf encT28 h)),(30003,.row true 1 5 (rowsOf (encI .u8) o))]⟩:St))=some r.st:=by
 unfold f31_s1_j4 at e
 obtain ⟨o1,v,e⟩:=bs e
 have f:=f41_ok k i a b _ v
 cases o1 with
 | o0 z w x y =>
  (try dsimp only at e)
  (try simp only [NM,EE,R41.st] at f)
  simp (disch:=first|apply D;decide|apply K;kernel_rfl) only [E,EE,↓reduceIte,simprocAttr,xk B31 [2,2,2,2,2,1,2,2,2,2,2,2,1,2] .sq rfl,xk B31 [1,2,2,2,2,2,1,2,2,2,2,2,2,1,2] .sq rfl,rg B31 [1,1,2,2,2,2,2,1,2,2,2,2,2,2,1,2] 15 false rfl,hr 31 15 rfl,callStep,CL,gv,List.contains,xk B31 [2,1,2,2,2,2,2,1,2,2,2,2,2,2,1,2] (.cd 60) rfl,f]
  rcases cond_some e with ⟨t,e⟩ | ⟨t,e⟩
  ·cases e
   simp (disch:=first|apply D;decide|apply K;kernel_rfl) only [E,EE,↓reduceIte,simprocAttr,xk B31 [2,2,1,2,2,2,2,2,1,2,2,2,2,2,2,1,2] (.gt 0) rfl,R31_s1.st,f,t]
  ·have hJ:=f31_s1_j5_ok k q_f31_pi_brii hq_f31_pi_brii p q s false w x y g c d h _ e
   simp (disch:=first|apply D;decide|apply K;kernel_rfl) only [E,EE,↓reduceIte,simprocAttr,xk B31 [3,2,1,2,2,2,2,2,1,2,2,2,2,2,2,1,2] .sk rfl,f,t]
   try simp only [NM,EE] at hJ
   exact hJ
noncomputable def f31_s1_j15 (k:Nat) (q_f31_pi_brii:Int→(List Int)→Int→Int→Option R31) (u v:Int) (w:Bool) (x:List Int) (a b y c:Int) (d:List Int) (z:List T28):Option R31_s1 :=
 Option.bind (f31_s1_l8 k q_f31_pi_brii k u v 0 x a b y c d z) fun o1 =>
  match o1 with
  | .o0 r n v6 v7 v8 v9 e f =>
   some (R31_s1.o4 r n v6 v7 v8 v9 e f)
  | .o1 _ _ _ _ _ _ _ _ _ _ =>
   none
  | .o2 g h i j l m o p q s t =>
   f31_s1_j9 k q_f31_pi_brii g h i j l m o p q s t
theorem f31_s1_j15_ok (k:Nat) (q_f31_pi_brii:Int→(List Int)→Int→Int→Option R31) (hq_f31_pi_brii:∀ (n:Int) (g:List Int) (a b:Int) (r:R31),q_f31_pi_brii n g a b=some r→CV k 31 [.ptr 1000000 0,jI n] [.box 68 [.sl 1 (rowsOf (encI .u8) g),jI a,jI b]]=some r.st) (i j:Int) (h:Bool) (g:List Int) (a b l c:Int) (d:List Int) (m:List T28) (r:R31_s1) (e:f31_s1_j15 k q_f31_pi_brii i j h g a b l c d m=some r):SQ 31 k (nav B31 [2,2,2,2,2,2,2,2,1,2]) (blockK 2 (EX 31 k (nav B31 [2,2,2,3,2,2,2,1,2,2,2,2,2,2,2,1,2]) (⟨133,[(0,.ptr 1000000 0),(1,jI i),(4,.ptr 4 0),(6,.p (.int .u64 j)),(88,.p (.bool h))],[(1000000,.box 68 [.sl 1 (rowsOf (encI .u8) g),jI a,jI b]),(4,.box 28 [jI l,.p (.int .u64 c),.sl 1 (rowsOf (encI .u8) d),.own 700001]),(700001,.row true 4 28 (rowsOf encT28 m))]⟩:St)))=some r.st:=by
 unfold f31_s1_j15 at e
 obtain ⟨o1,h2,e⟩:=bs e
 have f:=f31_s1_l8_ok k q_f31_pi_brii hq_f31_pi_brii k i j 0 g a b l c d m _ h2
 simp (disch:=first|apply D;decide|apply K;kernel_rfl) only [E,EE,↓reduceIte,simprocAttr,xk B31 [2,2,2,3,2,2,2,1,2,2,2,2,2,2,2,1,2] .sq rfl,xk B31 [1,2,2,2,3,2,2,2,1,2,2,2,2,2,2,2,1,2] .sq rfl,rg B31 [1,1,2,2,2,3,2,2,2,1,2,2,2,2,2,2,2,1,2] 23 false rfl,hr 31 23 rfl,xk B31 [2,1,2,2,2,3,2,2,2,1,2,2,2,2,2,2,2,1,2] (.bk 3) rfl,xk B31 [2,2,1,2,2,2,3,2,2,2,1,2,2,2,2,2,2,2,1,2] .lp rfl,hh_31_24,hc_31_24]
 (try simp only [NM,EE] at f)
 rw [f _ (by simp (disch:=first|apply D;decide|apply K;kernel_rfl) only [E,EE,↓reduceIte,simprocAttr,hh_31_24,hc_31_24])]
 clear f
 cases o1 with
 | o0 v4 v5 v6 v7 v8 v9 ab ac =>
  (try dsimp only at e)
  cases e
  simp (disch:=first|apply D;decide|apply K;kernel_rfl) only [E,EE,↓reduceIte,simprocAttr,R31_s1_l8.st,R31_s1.st]
 | o1 _ _ _ _ _ _ _ _ _ _ =>
  (try dsimp only at e)
  cases e
 | o2 o p q s t u v w x y z =>
  (try dsimp only at e)
  have hJ:=f31_s1_j9_ok k q_f31_pi_brii hq_f31_pi_brii o p q s t u v w x y z _ e
  simp (disch:=first|apply D;decide|apply K;kernel_rfl) only [E,EE,↓reduceIte,simprocAttr,R31_s1_l8.st]
  try simp only [NM,EE] at hJ
  exact hJ
noncomputable def f31_s1_j19 (k:Nat) (q_f31_pi_brii:Int→(List Int)→Int→Int→Option R31) (f:Bool) (g a:Int) (b:List Int) (c:List T28) (h:List Int) (d e:Int):Option R31_s1 :=
 some (R31_s1.o9 0 g a b c h d e)
theorem f31_s1_j19_ok (k:Nat) (q_f31_pi_brii:Int→(List Int)→Int→Int→Option R31) (hq_f31_pi_brii:∀ (h:Int) (g:List Int) (a b:Int) (r:R31),q_f31_pi_brii h g a b=some r→CV k 31 [.ptr 1000000 0,jI h] [.box 68 [.sl 1 (rowsOf (encI .u8) g),jI a,jI b]]=some r.st) (c:Bool) (i d:Int) (e:List Int) (f:List T28) (g:List Int) (a b:Int) (r:R31_s1) (j:f31_s1_j19 k q_f31_pi_brii c i d e f g a b=some r):EX 31 k (nav B31 [2,2,2,2,2,2,2,2,2,2,2,2,1,2]) (⟨133,[(4,.ptr 4 0),(129,.p (.bool c))],[(4,.box 28 [jI i,.p (.int .u64 d),.sl 1 (rowsOf (encI .u8) e),.sl 4 (rowsOf encT28 f)]),(1000000,.box 68 [.sl 1 (rowsOf (encI .u8) g),jI a,jI b])]⟩:St)=some r.st:=by
 unfold f31_s1_j19 at j
 cases j
 simp (disch:=first|apply D;decide|apply K;kernel_rfl) only [E,EE,↓reduceIte,simprocAttr,xk B31 [2,2,2,2,2,2,2,2,2,2,2,2,1,2] .sq rfl,xk B31 [1,2,2,2,2,2,2,2,2,2,2,2,2,1,2] .sq rfl,rg B31 [1,1,2,2,2,2,2,2,2,2,2,2,2,2,1,2] 35 false rfl,hr_31_35,t_28,xk B31 [2,1,2,2,2,2,2,2,2,2,2,2,2,2,1,2] .rt rfl,R31_s1.st]
noncomputable def f31_s1_j18 (k:Nat) (q_f31_pi_brii:Int→(List Int)→Int→Int→Option R31) (h:Bool) (f b:Int) (a:List Int) (c:List T28) (g:List Int) (d e:Int):Option R31_s1 :=
 cond ((f==3))
  (
   Option.bind (f38 k a) fun o2 =>
    match o2 with
    | .o0 i =>
     cond ((!i))
      (some (R31_s1.o13 true f b a c g d e))
      (f31_s1_j19 k q_f31_pi_brii false f b a c g d e))
  (f31_s1_j19 k q_f31_pi_brii false f b a c g d e)
theorem f31_s1_j18_ok (k:Nat) (q_f31_pi_brii:Int→(List Int)→Int→Int→Option R31) (hq_f31_pi_brii:∀ (o:Int) (i:List Int) (a b:Int) (r:R31),q_f31_pi_brii o i a b=some r→CV k 31 [.ptr 1000000 0,jI o] [.box 68 [.sl 1 (rowsOf (encI .u8) i),jI a,jI b]]=some r.st) (h:Bool) (l d:Int) (c:List Int) (e:List T28) (i:List Int) (a b:Int) (r:R31_s1) (f:f31_s1_j18 k q_f31_pi_brii h l d c e i a b=some r):EX 31 k (nav B31 [2,2,2,2,2,2,2,2,2,2,2,1,2]) (⟨133,[(4,.ptr 4 0),(120,.p (.bool h))],[(4,.box 28 [jI l,.p (.int .u64 d),.sl 1 (rowsOf (encI .u8) c),.sl 4 (rowsOf encT28 e)]),(1000000,.box 68 [.sl 1 (rowsOf (encI .u8) i),jI a,jI b])]⟩:St)=some r.st:=by
 unfold f31_s1_j18 at f
 simp (disch:=first|apply D;decide|apply K;kernel_rfl) only [E,EE,↓reduceIte,simprocAttr,xk B31 [2,2,2,2,2,2,2,2,2,2,2,1,2] .sq rfl,xk B31 [1,2,2,2,2,2,2,2,2,2,2,2,1,2] .sq rfl,rg B31 [1,1,2,2,2,2,2,2,2,2,2,2,2,1,2] 34 false rfl,hr 31 34 rfl,fieldAddrV,t_28,t_3]
 rcases cond_some f with ⟨j,f⟩ | ⟨j,f⟩
 ·obtain ⟨o2,p,f⟩:=bs f
  have g:=f38_ok k c _ p
  cases o2 with
  | o0 q =>
   (try dsimp only at f)
   (try simp only [NM,EE,R38.st] at g)
   simp (disch:=first|apply D;decide|apply K;kernel_rfl) only [E,EE,↓reduceIte,simprocAttr,fieldAddrV,t_28,t_25,callStep,CL,gv,List.contains,xk B31 [2,1,2,2,2,2,2,2,2,2,2,2,2,1,2] (.cd 129) rfl,j,g]
   rcases cond_some f with ⟨m,f⟩ | ⟨m,f⟩
   ·cases f
    simp (disch:=first|apply D;decide|apply K;kernel_rfl) only [E,EE,↓reduceIte,simprocAttr,xk B31 [2,2,1,2,2,2,2,2,2,2,2,2,2,2,1,2] (.gt 1) rfl,R31_s1.st,j,g,m]
   ·have hJ:=f31_s1_j19_ok k q_f31_pi_brii hq_f31_pi_brii false l d c e i a b _ f
    simp (disch:=first|apply D;decide|apply K;kernel_rfl) only [E,EE,↓reduceIte,simprocAttr,xk B31 [3,2,1,2,2,2,2,2,2,2,2,2,2,2,1,2] .sk rfl,j,g,m]
    try simp only [NM,EE] at hJ
    exact hJ
 ·have hJ:=f31_s1_j19_ok k q_f31_pi_brii hq_f31_pi_brii false l d c e i a b _ f
  simp (disch:=first|apply D;decide|apply K;kernel_rfl) only [E,EE,↓reduceIte,simprocAttr,xk B31 [2,1,2,2,2,2,2,2,2,2,2,2,2,1,2] (.cd 129) rfl,xk B31 [3,2,1,2,2,2,2,2,2,2,2,2,2,2,1,2] .sk rfl,j]
  try simp only [NM,EE] at hJ
  exact hJ
noncomputable def f31_s1_j17 (k:Nat) (q_f31_pi_brii:Int→(List Int)→Int→Int→Option R31) (o:Int) (h:Bool) (p:List Int) (b c i a:Int) (j:List Int) (l:List T28):Option R31_s1 :=
 Option.bind (f43 k (IntKind.i64.wrap o) p b c) fun o1 =>
  match o1 with
  | .o0 q s t m =>
   Option.bind (f41 k q s t) fun o8 =>
    match o8 with
    | .o0 g d e f =>
     cond ((g != 0))
      (some (R31_s1.o12 true i a m l d e f))
      (f31_s1_j18 k q_f31_pi_brii false i a m l d e f)
theorem f31_s1_j17_ok (k:Nat) (q_f31_pi_brii:Int→(List Int)→Int→Int→Option R31) (hq_f31_pi_brii:∀ (t:Int) (j:List Int) (a b:Int) (r:R31),q_f31_pi_brii t j a b=some r→CV k 31 [.ptr 1000000 0,jI t] [.box 68 [.sl 1 (rowsOf (encI .u8) j),jI a,jI b]]=some r.st) (l:Int) (g:Bool) (j:List Int) (a b m e:Int) (h:List Int) (o:List T28) (r:R31_s1) (d:f31_s1_j17 k q_f31_pi_brii l g j a b m e h o=some r):EX 31 k (nav B31 [2,2,2,2,2,2,2,2,2,1,2]) (⟨133,[(0,.ptr 1000000 0),(4,.ptr 4 0),(6,.p (.int .u64 l)),(112,.p (.bool g))],[(1000000,.box 68 [.sl 1 (rowsOf (encI .u8) j),jI a,jI b]),(4,.box 28 [jI m,.p (.int .u64 e),.sl 1 (rowsOf (encI .u8) h),.own 700001]),(700001,.row true 4 28 (rowsOf encT28 o))]⟩:St)=some r.st:=by
 unfold f31_s1_j17 at d
 obtain ⟨o1,u,d⟩:=bs d
 have f:=f43_ok k (IntKind.i64.wrap l) j a b _ u
 cases o1 with
 | o0 v w x y =>
  (try dsimp only at d)
  (try simp only [NM,EE,R43.st] at f)
  obtain ⟨o8,z,d⟩:=bs d
  have c:=f41_ok k v w x _ z
  cases o8 with
  | o0 n p q s =>
   (try dsimp only at d)
   (try simp only [NM,EE,R41.st] at c)
   simp (disch:=first|apply D;decide|apply K;kernel_rfl) only [E,EE,↓reduceIte,simprocAttr,xk B31 [2,2,2,2,2,2,2,2,2,1,2] .sq rfl,rg B31 [1,2,2,2,2,2,2,2,2,2,1,2] 32 false rfl,hr_31_32,t_24,t_3,convV,callStep,CL,gv,List.contains,fieldAddrV,t_28,t_25,xk B31 [2,2,2,2,2,2,2,2,2,2,1,2] .sq rfl,xk B31 [1,2,2,2,2,2,2,2,2,2,2,1,2] .sq rfl,rg B31 [1,1,2,2,2,2,2,2,2,2,2,2,1,2] 33 false rfl,hr 31 33 rfl,xk B31 [2,1,2,2,2,2,2,2,2,2,2,2,1,2] (.cd 120) rfl,f,c]
   rcases cond_some d with ⟨i,d⟩ | ⟨i,d⟩
   ·cases d
    simp (disch:=first|apply D;decide|apply K;kernel_rfl) only [E,EE,↓reduceIte,simprocAttr,xk B31 [2,2,1,2,2,2,2,2,2,2,2,2,2,1,2] (.gt 0) rfl,R31_s1.st,f,c,i]
   ·have hJ:=f31_s1_j18_ok k q_f31_pi_brii hq_f31_pi_brii false m e y o p q s _ d
    simp (disch:=first|apply D;decide|apply K;kernel_rfl) only [E,EE,↓reduceIte,simprocAttr,xk B31 [3,2,1,2,2,2,2,2,2,2,2,2,2,1,2] .sk rfl,f,c,i]
    try simp only [NM,EE] at hJ
    exact hJ
noncomputable def f31_s1_j16 (k:Nat) (q_f31_pi_brii:Int→(List Int)→Int→Int→Option R31) (j e:Int) (i:Bool) (f:List Int) (a b g c:Int) (d:List Int) (h:List T28):Option R31_s1 :=
 cond ((decide (e>512)))
  (some (R31_s1.o11 e true f a b g c d h))
  (f31_s1_j17 k q_f31_pi_brii e false f a b g c d h)
theorem f31_s1_j16_ok (k:Nat) (q_f31_pi_brii:Int→(List Int)→Int→Int→Option R31) (hq_f31_pi_brii:∀ (m:Int) (e:List Int) (a b:Int) (r:R31),q_f31_pi_brii m e a b=some r→CV k 31 [.ptr 1000000 0,jI m] [.box 68 [.sl 1 (rowsOf (encI .u8) e),jI a,jI b]]=some r.st) (o h:Int) (g:Bool) (e:List Int) (a b i c:Int) (d:List Int) (j:List T28) (r:R31_s1) (f:f31_s1_j16 k q_f31_pi_brii o h g e a b i c d j=some r):EX 31 k (nav B31 [2,2,2,2,2,2,2,2,1,2]) (⟨133,[(0,.ptr 1000000 0),(1,jI o),(4,.ptr 4 0),(6,.p (.int .u64 h)),(85,.p (.bool g))],[(1000000,.box 68 [.sl 1 (rowsOf (encI .u8) e),jI a,jI b]),(4,.box 28 [jI i,.p (.int .u64 c),.sl 1 (rowsOf (encI .u8) d),.own 700001]),(700001,.row true 4 28 (rowsOf encT28 j))]⟩:St)=some r.st:=by
 unfold f31_s1_j16 at f
 simp (disch:=first|apply D;decide|apply K;kernel_rfl) only [E,EE,↓reduceIte,simprocAttr,xk B31 [2,2,2,2,2,2,2,2,1,2] .sq rfl,xk B31 [1,2,2,2,2,2,2,2,2,1,2] .sq rfl,rg B31 [1,1,2,2,2,2,2,2,2,2,1,2] 31 false rfl,hr 31 31 rfl,xk B31 [2,1,2,2,2,2,2,2,2,2,1,2] (.cd 112) rfl]
 rcases cond_some f with ⟨l,f⟩ | ⟨l,f⟩
 ·cases f
  simp (disch:=first|apply D;decide|apply K;kernel_rfl) only [E,EE,↓reduceIte,simprocAttr,xk B31 [2,2,1,2,2,2,2,2,2,2,2,1,2] (.gt 1) rfl,R31_s1.st,l]
 ·have hJ:=f31_s1_j17_ok k q_f31_pi_brii hq_f31_pi_brii h false e a b i c d j _ f
  simp (disch:=first|apply D;decide|apply K;kernel_rfl) only [E,EE,↓reduceIte,simprocAttr,xk B31 [3,2,1,2,2,2,2,2,2,2,2,1,2] .sk rfl,l]
  try simp only [NM,EE] at hJ
  exact hJ
noncomputable def f31_s1_j14 (k:Nat) (q_f31_pi_brii:Int→(List Int)→Int→Int→Option R31) (i f:Int) (j:Bool) (g:List Int) (a b e d:Int) (c:List Int) (h:List T28):Option R31_s1 :=
 cond ((e==1))
  (some (R31_s1.o9 0 e f c h g a b))
  (
   cond ((e==4))
    (
     cond ((decide (f>64)))
      (some (R31_s1.o10 i f true g a b e d c h))
      (f31_s1_j15 k q_f31_pi_brii i f false g a b e d c h))
    (f31_s1_j16 k q_f31_pi_brii i f false g a b e d c h))
theorem f31_s1_j14_ok (k:Nat) (q_f31_pi_brii:Int→(List Int)→Int→Int→Option R31) (hq_f31_pi_brii:∀ (q:Int) (f:List Int) (a b:Int) (r:R31),q_f31_pi_brii q f a b=some r→CV k 31 [.ptr 1000000 0,jI q] [.box 68 [.sl 1 (rowsOf (encI .u8) f),jI a,jI b]]=some r.st) (j l:Int) (h:Bool) (f:List Int) (a b m c:Int) (d:List Int) (o:List T28) (r:R31_s1) (e:f31_s1_j14 k q_f31_pi_brii j l h f a b m c d o=some r):EX 31 k (nav B31 [2,2,2,2,2,2,2,1,2]) (⟨133,[(0,.ptr 1000000 0),(1,jI j),(4,.ptr 4 0),(6,.p (.int .u64 l)),(40,.p (.bool h))],[(1000000,.box 68 [.sl 1 (rowsOf (encI .u8) f),jI a,jI b]),(4,.box 28 [jI m,.p (.int .u64 c),.sl 1 (rowsOf (encI .u8) d),.own 700001]),(700001,.row true 4 28 (rowsOf encT28 o))]⟩:St)=some r.st:=by
 unfold f31_s1_j14 at e
 simp (disch:=first|apply D;decide|apply K;kernel_rfl) only [E,EE,↓reduceIte,simprocAttr,xk B31 [2,2,2,2,2,2,2,1,2] .sq rfl,xk B31 [1,2,2,2,2,2,2,2,1,2] .sq rfl,rg B31 [1,1,2,2,2,2,2,2,2,1,2] 17 false rfl,hr 31 17 rfl,fieldAddrV,t_28,t_3,xk B31 [2,1,2,2,2,2,2,2,2,1,2] (.bk 2) rfl,xk B31 [2,2,1,2,2,2,2,2,2,2,1,2] .sq rfl,rg B31 [1,2,2,1,2,2,2,2,2,2,2,1,2] 18 false rfl,hr 31 18 rfl,xk B31 [2,2,2,1,2,2,2,2,2,2,2,1,2] (.cd 80) rfl]
 rcases cond_some e with ⟨g,e⟩ | ⟨g,e⟩
 ·cases e
  simp (disch:=first|apply D;decide|apply K;kernel_rfl) only [E,EE,↓reduceIte,simprocAttr,xk B31 [2,2,2,2,1,2,2,2,2,2,2,2,1,2] .sq rfl,rg B31 [1,2,2,2,2,1,2,2,2,2,2,2,2,1,2] 19 false rfl,hr 31 19 rfl,fieldAddrV,t_28,t_24,xk B31 [2,2,2,2,2,1,2,2,2,2,2,2,2,1,2] .sq rfl,rg B31 [1,2,2,2,2,2,1,2,2,2,2,2,2,2,1,2] 20 false rfl,hr_31_20,xk B31 [2,2,2,2,2,2,1,2,2,2,2,2,2,2,1,2] .rt rfl,R31_s1.st,g]
 ·simp (disch:=first|apply D;decide|apply K;kernel_rfl) only [E,EE,↓reduceIte,simprocAttr,xk B31 [3,2,2,2,1,2,2,2,2,2,2,2,1,2] .sq rfl,rg B31 [1,3,2,2,2,1,2,2,2,2,2,2,2,1,2] 21 false rfl,hr 31 21 rfl,xk B31 [2,3,2,2,2,1,2,2,2,2,2,2,2,1,2] (.cd 85) rfl,g]
  rcases cond_some e with ⟨i,e⟩ | ⟨i,e⟩
  ·simp (disch:=first|apply D;decide|apply K;kernel_rfl) only [E,EE,↓reduceIte,simprocAttr,xk B31 [2,2,3,2,2,2,1,2,2,2,2,2,2,2,1,2] .sq rfl,xk B31 [1,2,2,3,2,2,2,1,2,2,2,2,2,2,2,1,2] .sq rfl,rg B31 [1,1,2,2,3,2,2,2,1,2,2,2,2,2,2,2,1,2] 22 false rfl,hr 31 22 rfl,xk B31 [2,1,2,2,3,2,2,2,1,2,2,2,2,2,2,2,1,2] (.cd 88) rfl,g,i]
   rcases cond_some e with ⟨p,e⟩ | ⟨p,e⟩
   ·cases e
    simp (disch:=first|apply D;decide|apply K;kernel_rfl) only [E,EE,↓reduceIte,simprocAttr,xk B31 [2,2,1,2,2,3,2,2,2,1,2,2,2,2,2,2,2,1,2] (.gt 1) rfl,R31_s1.st,g,i,p]
   ·have hJ:=f31_s1_j15_ok k q_f31_pi_brii hq_f31_pi_brii j l false f a b m c d o _ e
    simp (disch:=first|apply D;decide|apply K;kernel_rfl) only [E,EE,↓reduceIte,simprocAttr,xk B31 [3,2,1,2,2,3,2,2,2,1,2,2,2,2,2,2,2,1,2] .sk rfl,g,i,p]
    try simp only [NM,EE] at hJ
    exact hJ
  ·have hJ:=f31_s1_j16_ok k q_f31_pi_brii hq_f31_pi_brii j l false f a b m c d o _ e
   simp (disch:=first|apply D;decide|apply K;kernel_rfl) only [E,EE,↓reduceIte,simprocAttr,xk B31 [3,2,3,2,2,2,1,2,2,2,2,2,2,2,1,2] .sk rfl,g,i]
   try simp only [NM,EE] at hJ
   exact hJ
noncomputable def f31_s1_j2 (k:Nat) (q_f31_pi_brii:Int→(List Int)→Int→Int→Option R31) (x e:Int) (n:Bool) (y:List Int) (a b z c:Int) (d:List Int) (r:List T28):Option R31_s1 :=
 cond ((decide ((IntKind.u64.wrap (IntKind.u8.wrap ((BitVec.ofInt (IntKind.bits .u8) e &&& BitVec.ofInt (IntKind.bits .u8) (31:Int)).toNat:Nat)))≥24)))
  (
   ifE (¬(IntKind.u64.wrap ((IntKind.u64.wrap (IntKind.u8.wrap ((BitVec.ofInt (IntKind.bits .u8) e &&& BitVec.ofInt (IntKind.bits .u8) (31:Int)).toNat:Nat))) - (24:Int)))<0) (
    Option.bind (f43 k ((IntKind.i64.wrap ((1:Int) * 2 ^ (min (Int.toNat ((IntKind.u64.wrap ((IntKind.u64.wrap (IntKind.u8.wrap ((BitVec.ofInt (IntKind.bits .u8) e &&& BitVec.ofInt (IntKind.bits .u8) (31:Int)).toNat:Nat))) - (24:Int))))) (IntKind.bits .i64))))) y a b) fun o4 =>
     match o4 with
     | .o0 v7 v8 v9 f =>
      Option.bind (f31_s1_l3 k q_f31_pi_brii k x 0 ((IntKind.i64.wrap ((1:Int) * 2 ^ (min (Int.toNat ((IntKind.u64.wrap ((IntKind.u64.wrap (IntKind.u8.wrap ((BitVec.ofInt (IntKind.bits .u8) e &&& BitVec.ofInt (IntKind.bits .u8) (31:Int)).toNat:Nat))) - (24:Int))))) (IntKind.bits .i64))))) ((List.length f):Int) 0 v7 v8 v9 z c d r f) fun o11 =>
       match o11 with
       | .o0 _ _ _ _ _ _ _ _ _ _ _ _ _ =>
        none
       | .o1 g h i j l m o p q s t u v w =>
        f31_s1_j4 k q_f31_pi_brii g h i j l m o p q s t u v w))
  (f31_s1_j14 k q_f31_pi_brii x ((IntKind.u64.wrap (IntKind.u8.wrap ((BitVec.ofInt (IntKind.bits .u8) e &&& BitVec.ofInt (IntKind.bits .u8) (31:Int)).toNat:Nat)))) false y a b z c d r)
theorem f31_s1_j2_ok (k:Nat) (q_f31_pi_brii:Int→(List Int)→Int→Int→Option R31) (hq_f31_pi_brii:∀ (a1:Int) (h:List Int) (a b:Int) (r:R31),q_f31_pi_brii a1 h a b=some r→CV k 31 [.ptr 1000000 0,jI a1] [.box 68 [.sl 1 (rowsOf (encI .u8) h),jI a,jI b]]=some r.st) (o i:Int) (j:Bool) (h:List Int) (a b p d:Int) (e:List Int) (q:List T28) (r:R31_s1) (c:f31_s1_j2 k q_f31_pi_brii o i j h a b p d e q=some r):EX 31 k (nav B31 [2,2,2,2,2,1,2]) (⟨133,[(0,.ptr 1000000 0),(1,jI o),(4,.ptr 4 0),(7,.p (.int .u8 i)),(35,.p (.bool j))],[(1000000,.box 68 [.sl 1 (rowsOf (encI .u8) h),jI a,jI b]),(4,.box 28 [jI p,.p (.int .u64 d),.sl 1 (rowsOf (encI .u8) e),.own 700001]),(700001,.row true 4 28 (rowsOf encT28 q))]⟩:St)=some r.st:=by
 unfold f31_s1_j2 at c
 simp (disch:=first|apply D;decide|apply K;kernel_rfl) only [E,EE,↓reduceIte,simprocAttr,xk B31 [2,2,2,2,2,1,2] .sq rfl,rg B31 [1,2,2,2,2,2,1,2] 6 false rfl,hr 31 6 rfl,t_5,t_24,convV,xk B31 [2,2,2,2,2,2,1,2] .sq rfl,xk B31 [1,2,2,2,2,2,2,1,2] .sq rfl,rg B31 [1,1,2,2,2,2,2,2,1,2] 7 false rfl,hr 31 7 rfl,xk B31 [2,1,2,2,2,2,2,2,1,2] (.cd 40) rfl]
 rcases cond_some c with ⟨l,c⟩ | ⟨l,c⟩
 ·obtain ⟨s,c⟩:=ifE_some.1 c
  obtain ⟨o4,h5,c⟩:=bs c
  have g:=f43_ok k ((IntKind.i64.wrap ((1:Int) * 2 ^ (min (Int.toNat ((IntKind.u64.wrap ((IntKind.u64.wrap (IntKind.u8.wrap ((BitVec.ofInt (IntKind.bits .u8) i &&& BitVec.ofInt (IntKind.bits .u8) (31:Int)).toNat:Nat))) - (24:Int))))) (IntKind.bits .i64))))) h a b _ h5
  cases o4 with
  | o0 v7 v8 v9 m =>
   (try dsimp only at c)
   (try simp only [NM,EE,R43.st] at g)
   obtain ⟨o11,t,c⟩:=bs c
   have f:=f31_s1_l3_ok k q_f31_pi_brii hq_f31_pi_brii k o 0 ((IntKind.i64.wrap ((1:Int) * 2 ^ (min (Int.toNat ((IntKind.u64.wrap ((IntKind.u64.wrap (IntKind.u8.wrap ((BitVec.ofInt (IntKind.bits .u8) i &&& BitVec.ofInt (IntKind.bits .u8) (31:Int)).toNat:Nat))) - (24:Int))))) (IntKind.bits .i64))))) ((List.length m):Int) 0 v7 v8 v9 p d e q m _ t
   simp (disch:=first|apply D;decide|apply K;kernel_rfl) only [E,EE,↓reduceIte,simprocAttr,xk B31 [2,2,1,2,2,2,2,2,2,1,2] .sq rfl,rg B31 [1,2,2,1,2,2,2,2,2,2,1,2] 8 false rfl,hr 31 8 rfl,shiftV,xk B31 [2,2,2,1,2,2,2,2,2,2,1,2] .sq rfl,rg B31 [1,2,2,2,1,2,2,2,2,2,2,1,2] 9 false rfl,hr 31 9 rfl,xk B31 [2,2,2,2,1,2,2,2,2,2,2,1,2] .sq rfl,xk B31 [1,2,2,2,2,1,2,2,2,2,2,2,1,2] .sq rfl,rg B31 [1,1,2,2,2,2,1,2,2,2,2,2,2,1,2] 10 false rfl,hr 31 10 rfl,callStep,CL,gv,List.contains,t_25,xk B31 [2,1,2,2,2,2,1,2,2,2,2,2,2,1,2] (.bk 0) rfl,xk B31 [2,2,1,2,2,2,2,1,2,2,2,2,2,2,1,2] .lp rfl,hh_31_11,hc_31_11,l,s,g]
   (try simp only [NM,EE] at f)
   rw [f _ (by simp (disch:=first|apply D;decide|apply K;kernel_rfl) only [E,EE,↓reduceIte,simprocAttr,hh_31_11,hc_31_11,l,s,g])]
   clear f
   cases o11 with
   | o0 _ _ _ _ _ _ _ _ _ _ _ _ _ =>
    (try dsimp only at c)
    cases c
   | o1 u v w x y z n aa ab ac ad ae af ag =>
    (try dsimp only at c)
    have hJ:=f31_s1_j4_ok k q_f31_pi_brii hq_f31_pi_brii u v w x y z n aa ab ac ad ae af ag _ c
    simp (disch:=first|apply D;decide|apply K;kernel_rfl) only [E,EE,↓reduceIte,simprocAttr,R31_s1_l3.st,l,s,g]
    try simp only [NM,EE] at hJ
    exact hJ
 ·have hJ:=f31_s1_j14_ok k q_f31_pi_brii hq_f31_pi_brii o ((IntKind.u64.wrap (IntKind.u8.wrap ((BitVec.ofInt (IntKind.bits .u8) i &&& BitVec.ofInt (IntKind.bits .u8) (31:Int)).toNat:Nat)))) false h a b p d e q _ c
  simp (disch:=first|apply D;decide|apply K;kernel_rfl) only [E,EE,↓reduceIte,simprocAttr,xk B31 [3,2,1,2,2,2,2,2,2,1,2] .sk rfl,l]
  try simp only [NM,EE] at hJ
  exact hJ
noncomputable def f31_s1_j1 (k:Nat) (q_f31_pi_brii:Int→(List Int)→Int→Int→Option R31) (f e:Int) (j:Bool) (h:List Int) (a b l c:Int) (d:List Int) (i:List T28):Option R31_s1 :=
 Option.bind (f42 k ([0,2,3,4]:List Int) (Int.fdiv e (2 ^ (min 5 (IntKind.bits .u8))))) fun o4 =>
  match o4 with
  | .o0 g =>
   cond (((IntKind.i64.wrap (g+(1:Int)))==0))
    (some (R31_s1.o1 f e true h a b (IntKind.i64.wrap (g+(1:Int))) c d i))
    (
     cond ((decide ((IntKind.u8.wrap ((BitVec.ofInt (IntKind.bits .u8) e &&& BitVec.ofInt (IntKind.bits .u8) (31:Int)).toNat:Nat))>27)))
      (some (R31_s1.o1 f e true h a b (IntKind.i64.wrap (g+(1:Int))) c d i))
      (
       cond ((f==0))
        (some (R31_s1.o1 f e true h a b (IntKind.i64.wrap (g+(1:Int))) c d i))
        (f31_s1_j2 k q_f31_pi_brii f e false h a b (IntKind.i64.wrap (g+(1:Int))) c d i)))
theorem f31_s1_j1_ok (k:Nat) (q_f31_pi_brii:Int→(List Int)→Int→Int→Option R31) (hq_f31_pi_brii:∀ (u:Int) (h:List Int) (a b:Int) (r:R31),q_f31_pi_brii u h a b=some r→CV k 31 [.ptr 1000000 0,jI u] [.box 68 [.sl 1 (rowsOf (encI .u8) h),jI a,jI b]]=some r.st) (s q:Int) (o:Bool) (h:List Int) (a b v e:Int) (f:List Int) (t:List T28) (r:R31_s1) (c:f31_s1_j1 k q_f31_pi_brii s q o h a b v e f t=some r):EX 31 k (nav B31 [2,2,2,1,2]) (⟨133,[(0,.ptr 1000000 0),(1,jI s),(4,.ptr 4 0),(7,.p (.int .u8 q)),(17,.p (.bool o))],[(1000000,.box 68 [.sl 1 (rowsOf (encI .u8) h),jI a,jI b]),(4,.box 28 [jI v,.p (.int .u64 e),.sl 1 (rowsOf (encI .u8) f),.own 700001]),(700001,.row true 4 28 (rowsOf encT28 t))]⟩:St)=some r.st:=by
 unfold f31_s1_j1 at c
 have i:[[.p (.int .u8 0)],[.p (.int .u8 2)],[.p (.int .u8 3)],[.p (.int .u8 4)]]=rowsOf (encI .u8) ([0,2,3,4]:List Int):=rfl
 have j:List.set (rowsOf (encI .u8) ([0,2,3,4]:List Int)) 0 [.p (.int .u8 0)]=rowsOf (encI .u8) ([0,2,3,4]:List Int):=rfl
 have l:List.map (tell [0]) (rowsOf (encI .u8) ([0,2,3,4]:List Int))=rowsOf (encI .u8) ([0,2,3,4]:List Int):=rfl
 obtain ⟨o4,w,c⟩:=bs c
 have d:=f42_ok k ([0,2,3,4]:List Int) (Int.fdiv q (2 ^ (min 5 (IntKind.bits .u8)))) _ w
 cases o4 with
 | o0 x =>
  (try dsimp only at c)
  (try simp only [NM,EE,R42.st] at d)
  simp (disch:=first|apply D;decide|apply K;kernel_rfl) only [E,EE,↓reduceIte,simprocAttr,xk B31 [2,2,2,1,2] .sq rfl,rg B31 [1,2,2,2,1,2] 4 false rfl,hr 31 4 rfl,buildSliceV,raw_,cond_false,cond_true,fillRows,sm_5,t_25,t_5,shiftV,callStep,CL,gv,List.contains,fieldAddrV,t_28,t_3,xk B31 [2,2,2,2,1,2] .sq rfl,xk B31 [1,2,2,2,2,1,2] .sq rfl,rg B31 [1,1,2,2,2,2,1,2] 5 false rfl,hr 31 5 rfl,i,j,l,d]
  rcases cond_some c with ⟨m,c⟩ | ⟨m,c⟩
  ·cases c
   simp (disch:=first|apply D;decide|apply K;kernel_rfl) only [E,EE,↓reduceIte,simprocAttr,xk B31 [2,1,2,2,2,2,1,2] (.cd 35) rfl,xk B31 [2,2,1,2,2,2,2,1,2] (.gt 1) rfl,R31_s1.st,i,j,l,d,m]
  ·rcases cond_some c with ⟨p,c⟩ | ⟨p,c⟩
   ·cases c
    simp (disch:=first|apply D;decide|apply K;kernel_rfl) only [E,EE,↓reduceIte,simprocAttr,xk B31 [2,1,2,2,2,2,1,2] (.cd 35) rfl,xk B31 [2,2,1,2,2,2,2,1,2] (.gt 1) rfl,R31_s1.st,i,j,l,d,m,p]
   ·simp (disch:=first|apply D;decide|apply K;kernel_rfl) only [E,EE,↓reduceIte,simprocAttr,xk B31 [2,1,2,2,2,2,1,2] (.cd 35) rfl,i,j,l,d,m,p]
    rcases cond_some c with ⟨g,c⟩ | ⟨g,c⟩
    ·cases c
     simp (disch:=first|apply D;decide|apply K;kernel_rfl) only [E,EE,↓reduceIte,simprocAttr,xk B31 [2,2,1,2,2,2,2,1,2] (.gt 1) rfl,R31_s1.st,i,j,l,d,m,p,g]
    ·have hJ:=f31_s1_j2_ok k q_f31_pi_brii hq_f31_pi_brii s q false h a b (IntKind.i64.wrap (x+(1:Int))) e f t _ c
     simp (disch:=first|apply D;decide|apply K;kernel_rfl) only [E,EE,↓reduceIte,simprocAttr,xk B31 [3,2,1,2,2,2,2,1,2] .sk rfl,i,j,l,d,m,p,g]
     try simp only [NM,EE] at hJ
     exact hJ
noncomputable def f31_s1_b (k:Nat) (q_f31_pi_brii:Int→(List Int)→Int→Int→Option R31) (i:Int) (o:List Int) (c d j a:Int) (b:List Int) (l:List T28):Option R31_s1 :=
 Option.bind (f40 k o c d) fun o1 =>
  match o1 with
  | .o0 m p q s =>
   Option.bind (f41 k p q s) fun o8 =>
    match o8 with
    | .o0 h e f g =>
     cond ((h != 0))
      (some (R31_s1.o0 i m true e f g j a b l))
      (f31_s1_j1 k q_f31_pi_brii i m false e f g j a b l)
theorem f31_s1_b_ok (k:Nat) (q_f31_pi_brii:Int→(List Int)→Int→Int→Option R31) (hq_f31_pi_brii:∀ (s:Int) (i:List Int) (a b:Int) (r:R31),q_f31_pi_brii s i a b=some r→CV k 31 [.ptr 1000000 0,jI s] [.box 68 [.sl 1 (rowsOf (encI .u8) i),jI a,jI b]]=some r.st) (j:Int) (i:List Int) (a b l e:Int) (f:List Int) (m:List T28) (r:R31_s1) (d:f31_s1_b k q_f31_pi_brii j i a b l e f m=some r):EX 31 k (nav B31 [1,2]) (⟨133,[(0,.ptr 1000000 0),(1,jI j),(4,.ptr 4 0)],[(1000000,.box 68 [.sl 1 (rowsOf (encI .u8) i),jI a,jI b]),(4,.box 28 [jI l,.p (.int .u64 e),.sl 1 (rowsOf (encI .u8) f),.own 700001]),(700001,.row true 4 28 (rowsOf encT28 m))]⟩:St)=some r.st:=by
 unfold f31_s1_b at d
 obtain ⟨o1,t,d⟩:=bs d
 have g:=f40_ok k i a b _ t
 cases o1 with
 | o0 u v w x =>
  (try dsimp only at d)
  (try simp only [NM,EE,R40.st] at g)
  obtain ⟨o8,y,d⟩:=bs d
  have c:=f41_ok k v w x _ y
  cases o8 with
  | o0 z o p q =>
   (try dsimp only at d)
   (try simp only [NM,EE,R41.st] at c)
   simp (disch:=first|apply D;decide|apply K;kernel_rfl) only [E,EE,↓reduceIte,simprocAttr,xk B31 [1,2] .sq rfl,rg B31 [1,1,2] 1 false rfl,hr 31 1 rfl,xk B31 [2,1,2] .sq rfl,rg B31 [1,2,1,2] 2 false rfl,hr 31 2 rfl,callStep,CL,gv,List.contains,xk B31 [2,2,1,2] .sq rfl,xk B31 [1,2,2,1,2] .sq rfl,rg B31 [1,1,2,2,1,2] 3 false rfl,hr 31 3 rfl,xk B31 [2,1,2,2,1,2] (.cd 17) rfl,g,c]
   rcases cond_some d with ⟨h,d⟩ | ⟨h,d⟩
   ·cases d
    simp (disch:=first|apply D;decide|apply K;kernel_rfl) only [E,EE,↓reduceIte,simprocAttr,xk B31 [2,2,1,2,2,1,2] (.gt 0) rfl,R31_s1.st,g,c,h]
   ·have hJ:=f31_s1_j1_ok k q_f31_pi_brii hq_f31_pi_brii j u false o p q l e f m _ d
    simp (disch:=first|apply D;decide|apply K;kernel_rfl) only [E,EE,↓reduceIte,simprocAttr,xk B31 [3,2,1,2,2,1,2] .sk rfl,g,c,h]
    try simp only [NM,EE] at hJ
    exact hJ
noncomputable def f31_s1_g0_b (k:Nat) (q_f31_pi_brii:Int→(List Int)→Int→Int→Option R31) (g h:Int) (e:Bool) (f:List Int) (a b i c:Int) (d:List Int) (j:List T28):Option R31_s1 :=
 some (R31_s1.o9 7 0 0 [] [] f a b)
theorem f31_s1_g0_b_ok (k:Nat) (q_f31_pi_brii:Int→(List Int)→Int→Int→Option R31) (hq_f31_pi_brii:∀ (g:Int) (e:List Int) (a b:Int) (r:R31),q_f31_pi_brii g e a b=some r→CV k 31 [.ptr 1000000 0,jI g] [.box 68 [.sl 1 (rowsOf (encI .u8) e),jI a,jI b]]=some r.st) (h i:Int) (f:Bool) (e:List Int) (a b j c:Int) (d:List Int) (l:List T28) (r:R31_s1) (m:f31_s1_g0_b k q_f31_pi_brii h i f e a b j c d l=some r):EL 31 k 0 (nav B31 [1,2]) (⟨133,[(0,.ptr 1000000 0),(1,jI h),(4,.ptr 4 0),(7,.p (.int .u8 i)),(17,.p (.bool f))],[(1000000,.box 68 [.sl 1 (rowsOf (encI .u8) e),jI a,jI b]),(4,.box 28 [jI j,.p (.int .u64 c),.sl 1 (rowsOf (encI .u8) d),.own 700001]),(700001,.row true 4 28 (rowsOf encT28 l))]⟩:St)=some r.st:=by
 unfold f31_s1_g0_b at m
 cases m
 simp (disch:=first|apply D;decide|apply K;kernel_rfl) only [E,EE,↓reduceIte,simprocAttr,y31_2_1_0,xk B31 [2,2,2,2,2,2,2,2,2,2,2,2,2,2,1,2] .sq rfl,xk B31 [1,2,2,2,2,2,2,2,2,2,2,2,2,2,2,1,2] .sq rfl,rg B31 [1,1,2,2,2,2,2,2,2,2,2,2,2,2,2,2,1,2] 36 false rfl,hr_31_36,bl_28,t_28,xk B31 [2,1,2,2,2,2,2,2,2,2,2,2,2,2,2,2,1,2] .rt rfl,R31_s1.st]
noncomputable def f31_s1_g1_b (k:Nat) (q_f31_pi_brii:Int→(List Int)→Int→Int→Option R31) (g h:Int) (e:Bool) (f:List Int) (a b i c:Int) (d:List Int) (j:List T28):Option R31_s1 :=
 some (R31_s1.o9 170 0 0 [] [] f a b)
theorem f31_s1_g1_b_ok (k:Nat) (q_f31_pi_brii:Int→(List Int)→Int→Int→Option R31) (hq_f31_pi_brii:∀ (g:Int) (e:List Int) (a b:Int) (r:R31),q_f31_pi_brii g e a b=some r→CV k 31 [.ptr 1000000 0,jI g] [.box 68 [.sl 1 (rowsOf (encI .u8) e),jI a,jI b]]=some r.st) (h i:Int) (f:Bool) (e:List Int) (a b j c:Int) (d:List Int) (l:List T28) (r:R31_s1) (m:f31_s1_g1_b k q_f31_pi_brii h i f e a b j c d l=some r):EL 31 k 1 (nav B31 [1,2]) (⟨133,[(0,.ptr 1000000 0),(1,jI h),(4,.ptr 4 0),(7,.p (.int .u8 i)),(35,.p (.bool f))],[(1000000,.box 68 [.sl 1 (rowsOf (encI .u8) e),jI a,jI b]),(4,.box 28 [jI j,.p (.int .u64 c),.sl 1 (rowsOf (encI .u8) d),.own 700001]),(700001,.row true 4 28 (rowsOf encT28 l))]⟩:St)=some r.st:=by
 unfold f31_s1_g1_b at m
 cases m
 simp (disch:=first|apply D;decide|apply K;kernel_rfl) only [E,EE,↓reduceIte,simprocAttr,y31_2_1_1,xk B31 [2,2,2,2,2,2,2,2,2,2,2,2,2,2,2,2,1,2] .sq rfl,rg B31 [1,2,2,2,2,2,2,2,2,2,2,2,2,2,2,2,2,1,2] 37 false rfl,hr_31_37,bl_28,t_28,xk B31 [2,2,2,2,2,2,2,2,2,2,2,2,2,2,2,2,2,1,2] .rt rfl,R31_s1.st]
noncomputable def f31_s1_g2_b (k:Nat) (q_f31_pi_brii:Int→(List Int)→Int→Int→Option R31) (i j l:Int) (e:Bool) (f:List Int) (a b g c:Int) (d:List Int) (h:List T28):Option R31_s1 :=
 some (R31_s1.o4 7 0 0 [] [] f a b)
theorem f31_s1_g2_b_ok (k:Nat) (q_f31_pi_brii:Int→(List Int)→Int→Int→Option R31) (hq_f31_pi_brii:∀ (i:Int) (e:List Int) (a b:Int) (r:R31),q_f31_pi_brii i e a b=some r→CV k 31 [.ptr 1000000 0,jI i] [.box 68 [.sl 1 (rowsOf (encI .u8) e),jI a,jI b]]=some r.st) (j l m:Int) (f:Bool) (e:List Int) (a b g c:Int) (d:List Int) (h:List T28) (r:R31_s1) (o:f31_s1_g2_b k q_f31_pi_brii j l m f e a b g c d h=some r):EL 31 k 0 (nav B31 [1,2]) (⟨133,[(0,.ptr 1000000 0),(1,jI j),(4,.ptr 30001 0),(6,.p (.int .u64 l)),(8,jI m),(60,.p (.bool f))],[(1000000,.box 68 [.sl 1 (rowsOf (encI .u8) e),jI a,jI b]),(30001,.box 28 [jI g,.p (.int .u64 c),.sl 1 (rowsOf (encI .u8) d),.own 30002]),(30002,.row true 4 28 (rowsOf encT28 h))]⟩:St)=some r.st:=by
 unfold f31_s1_g2_b at o
 cases o
 simp (disch:=first|apply D;decide|apply K;kernel_rfl) only [E,EE,↓reduceIte,simprocAttr,y31_2_1_0,xk B31 [2,2,2,2,2,2,2,2,2,2,2,2,2,2,1,2] .sq rfl,xk B31 [1,2,2,2,2,2,2,2,2,2,2,2,2,2,2,1,2] .sq rfl,rg B31 [1,1,2,2,2,2,2,2,2,2,2,2,2,2,2,2,1,2] 36 false rfl,hr_31_36,bl_28,t_28,xk B31 [2,1,2,2,2,2,2,2,2,2,2,2,2,2,2,2,1,2] .rt rfl,R31_s1.st]
noncomputable def f31_s1_g3_b (k:Nat) (q_f31_pi_brii:Int→(List Int)→Int→Int→Option R31) (i j:Int) (e:Bool) (f:List Int) (a b g c:Int) (d:List Int) (h:List T28):Option R31_s1 :=
 some (R31_s1.o4 170 0 0 [] [] f a b)
theorem f31_s1_g3_b_ok (k:Nat) (q_f31_pi_brii:Int→(List Int)→Int→Int→Option R31) (hq_f31_pi_brii:∀ (i:Int) (e:List Int) (a b:Int) (r:R31),q_f31_pi_brii i e a b=some r→CV k 31 [.ptr 1000000 0,jI i] [.box 68 [.sl 1 (rowsOf (encI .u8) e),jI a,jI b]]=some r.st) (j l:Int) (f:Bool) (e:List Int) (a b g c:Int) (d:List Int) (h:List T28) (r:R31_s1) (m:f31_s1_g3_b k q_f31_pi_brii j l f e a b g c d h=some r):EL 31 k 1 (nav B31 [1,2]) (⟨133,[(0,.ptr 1000000 0),(1,jI j),(4,.ptr 30001 0),(6,.p (.int .u64 l)),(77,.p (.bool f))],[(1000000,.box 68 [.sl 1 (rowsOf (encI .u8) e),jI a,jI b]),(30001,.box 28 [jI g,.p (.int .u64 c),.sl 1 (rowsOf (encI .u8) d),.own 30002]),(30002,.row true 4 28 (rowsOf encT28 h))]⟩:St)=some r.st:=by
 unfold f31_s1_g3_b at m
 cases m
 simp (disch:=first|apply D;decide|apply K;kernel_rfl) only [E,EE,↓reduceIte,simprocAttr,y31_2_1_1,xk B31 [2,2,2,2,2,2,2,2,2,2,2,2,2,2,2,2,1,2] .sq rfl,rg B31 [1,2,2,2,2,2,2,2,2,2,2,2,2,2,2,2,2,1,2] 37 false rfl,hr_31_37,bl_28,t_28,xk B31 [2,2,2,2,2,2,2,2,2,2,2,2,2,2,2,2,2,1,2] .rt rfl,R31_s1.st]
noncomputable def f31_s1_g4_b (k:Nat) (q_f31_pi_brii:Int→(List Int)→Int→Int→Option R31) (i j:Int) (e:Bool) (f:List Int) (a b g c:Int) (d:List Int) (h:List T28):Option R31_s1 :=
 some (R31_s1.o4 170 0 0 [] [] f a b)
theorem f31_s1_g4_b_ok (k:Nat) (q_f31_pi_brii:Int→(List Int)→Int→Int→Option R31) (hq_f31_pi_brii:∀ (i:Int) (e:List Int) (a b:Int) (r:R31),q_f31_pi_brii i e a b=some r→CV k 31 [.ptr 1000000 0,jI i] [.box 68 [.sl 1 (rowsOf (encI .u8) e),jI a,jI b]]=some r.st) (j l:Int) (f:Bool) (e:List Int) (a b g c:Int) (d:List Int) (h:List T28) (r:R31_s1) (m:f31_s1_g4_b k q_f31_pi_brii j l f e a b g c d h=some r):EL 31 k 1 (nav B31 [1,2]) (⟨133,[(0,.ptr 1000000 0),(1,jI j),(4,.ptr 30001 0),(6,.p (.int .u64 l)),(88,.p (.bool f))],[(1000000,.box 68 [.sl 1 (rowsOf (encI .u8) e),jI a,jI b]),(30001,.box 28 [jI g,.p (.int .u64 c),.sl 1 (rowsOf (encI .u8) d),.own 30002]),(30002,.row true 4 28 (rowsOf encT28 h))]⟩:St)=some r.st:=by
 unfold f31_s1_g4_b at m
 cases m
 simp (disch:=first|apply D;decide|apply K;kernel_rfl) only [E,EE,↓reduceIte,simprocAttr,y31_2_1_1,xk B31 [2,2,2,2,2,2,2,2,2,2,2,2,2,2,2,2,1,2] .sq rfl,rg B31 [1,2,2,2,2,2,2,2,2,2,2,2,2,2,2,2,2,1,2] 37 false rfl,hr_31_37,bl_28,t_28,xk B31 [2,2,2,2,2,2,2,2,2,2,2,2,2,2,2,2,2,1,2] .rt rfl,R31_s1.st]
noncomputable def f31_s1_g5_b (k:Nat) (q_f31_pi_brii:Int→(List Int)→Int→Int→Option R31) (i:Int) (e:Bool) (f:List Int) (a b g c:Int) (d:List Int) (h:List T28):Option R31_s1 :=
 some (R31_s1.o4 170 0 0 [] [] f a b)
theorem f31_s1_g5_b_ok (k:Nat) (q_f31_pi_brii:Int→(List Int)→Int→Int→Option R31) (hq_f31_pi_brii:∀ (i:Int) (f:List Int) (a b:Int) (r:R31),q_f31_pi_brii i f a b=some r→CV k 31 [.ptr 1000000 0,jI i] [.box 68 [.sl 1 (rowsOf (encI .u8) f),jI a,jI b]]=some r.st) (j:Int) (e:Bool) (f:List Int) (a b g c:Int) (d:List Int) (h:List T28) (r:R31_s1) (l:f31_s1_g5_b k q_f31_pi_brii j e f a b g c d h=some r):EL 31 k 1 (nav B31 [1,2]) (⟨133,[(0,.ptr 1000000 0),(4,.ptr 30001 0),(6,.p (.int .u64 j)),(112,.p (.bool e))],[(1000000,.box 68 [.sl 1 (rowsOf (encI .u8) f),jI a,jI b]),(30001,.box 28 [jI g,.p (.int .u64 c),.sl 1 (rowsOf (encI .u8) d),.own 30002]),(30002,.row true 4 28 (rowsOf encT28 h))]⟩:St)=some r.st:=by
 unfold f31_s1_g5_b at l
 cases l
 simp (disch:=first|apply D;decide|apply K;kernel_rfl) only [E,EE,↓reduceIte,simprocAttr,y31_2_1_1,xk B31 [2,2,2,2,2,2,2,2,2,2,2,2,2,2,2,2,1,2] .sq rfl,rg B31 [1,2,2,2,2,2,2,2,2,2,2,2,2,2,2,2,2,1,2] 37 false rfl,hr_31_37,bl_28,t_28,xk B31 [2,2,2,2,2,2,2,2,2,2,2,2,2,2,2,2,2,1,2] .rt rfl,R31_s1.st]
noncomputable def f31_s1_g6_b (k:Nat) (q_f31_pi_brii:Int→(List Int)→Int→Int→Option R31) (f:Bool) (g c:Int) (d:List Int) (e:List T28) (h:List Int) (a b:Int):Option R31_s1 :=
 some (R31_s1.o4 7 0 0 [] [] h a b)
theorem f31_s1_g6_b_ok (k:Nat) (q_f31_pi_brii:Int→(List Int)→Int→Int→Option R31) (hq_f31_pi_brii:∀ (i:Int) (g:List Int) (a b:Int) (r:R31),q_f31_pi_brii i g a b=some r→CV k 31 [.ptr 1000000 0,jI i] [.box 68 [.sl 1 (rowsOf (encI .u8) g),jI a,jI b]]=some r.st) (f:Bool) (h c:Int) (d:List Int) (e:List T28) (g:List Int) (a b:Int) (r:R31_s1) (j:f31_s1_g6_b k q_f31_pi_brii f h c d e g a b=some r):EL 31 k 0 (nav B31 [1,2]) (⟨133,[(4,.ptr 30001 0),(120,.p (.bool f))],[(30001,.box 28 [jI h,.p (.int .u64 c),.sl 1 (rowsOf (encI .u8) d),.sl 4 (rowsOf encT28 e)]),(1000000,.box 68 [.sl 1 (rowsOf (encI .u8) g),jI a,jI b])]⟩:St)=some r.st:=by
 unfold f31_s1_g6_b at j
 cases j
 simp (disch:=first|apply D;decide|apply K;kernel_rfl) only [E,EE,↓reduceIte,simprocAttr,y31_2_1_0,xk B31 [2,2,2,2,2,2,2,2,2,2,2,2,2,2,1,2] .sq rfl,xk B31 [1,2,2,2,2,2,2,2,2,2,2,2,2,2,2,1,2] .sq rfl,rg B31 [1,1,2,2,2,2,2,2,2,2,2,2,2,2,2,2,1,2] 36 false rfl,hr_31_36,bl_28,t_28,xk B31 [2,1,2,2,2,2,2,2,2,2,2,2,2,2,2,2,1,2] .rt rfl,R31_s1.st]
noncomputable def f31_s1_g7_b (k:Nat) (q_f31_pi_brii:Int→(List Int)→Int→Int→Option R31) (f:Bool) (g c:Int) (d:List Int) (e:List T28) (h:List Int) (a b:Int):Option R31_s1 :=
 some (R31_s1.o4 170 0 0 [] [] h a b)
theorem f31_s1_g7_b_ok (k:Nat) (q_f31_pi_brii:Int→(List Int)→Int→Int→Option R31) (hq_f31_pi_brii:∀ (i:Int) (g:List Int) (a b:Int) (r:R31),q_f31_pi_brii i g a b=some r→CV k 31 [.ptr 1000000 0,jI i] [.box 68 [.sl 1 (rowsOf (encI .u8) g),jI a,jI b]]=some r.st) (f:Bool) (h c:Int) (d:List Int) (e:List T28) (g:List Int) (a b:Int) (r:R31_s1) (j:f31_s1_g7_b k q_f31_pi_brii f h c d e g a b=some r):EL 31 k 1 (nav B31 [1,2]) (⟨133,[(4,.ptr 30001 0),(129,.p (.bool f))],[(30001,.box 28 [jI h,.p (.int .u64 c),.sl 1 (rowsOf (encI .u8) d),.sl 4 (rowsOf encT28 e)]),(1000000,.box 68 [.sl 1 (rowsOf (encI .u8) g),jI a,jI b])]⟩:St)=some r.st:=by
 unfold f31_s1_g7_b at j
 cases j
 simp (disch:=first|apply D;decide|apply K;kernel_rfl) only [E,EE,↓reduceIte,simprocAttr,y31_2_1_1,xk B31 [2,2,2,2,2,2,2,2,2,2,2,2,2,2,2,2,1,2] .sq rfl,rg B31 [1,2,2,2,2,2,2,2,2,2,2,2,2,2,2,2,2,1,2] 37 false rfl,hr_31_37,bl_28,t_28,xk B31 [2,2,2,2,2,2,2,2,2,2,2,2,2,2,2,2,2,1,2] .rt rfl,R31_s1.st]
noncomputable def f31_s1_g8_b (k:Nat) (q_f31_pi_brii:Int→(List Int)→Int→Int→Option R31) (g h:Int) (e:Bool) (f:List Int) (a b i c:Int) (d:List Int) (j:List T28):Option R31_s1 :=
 some (R31_s1.o9 170 0 0 [] [] f a b)
theorem f31_s1_g8_b_ok (k:Nat) (q_f31_pi_brii:Int→(List Int)→Int→Int→Option R31) (hq_f31_pi_brii:∀ (g:Int) (e:List Int) (a b:Int) (r:R31),q_f31_pi_brii g e a b=some r→CV k 31 [.ptr 1000000 0,jI g] [.box 68 [.sl 1 (rowsOf (encI .u8) e),jI a,jI b]]=some r.st) (h i:Int) (f:Bool) (e:List Int) (a b j c:Int) (d:List Int) (l:List T28) (r:R31_s1) (m:f31_s1_g8_b k q_f31_pi_brii h i f e a b j c d l=some r):EL 31 k 1 (nav B31 [1,2]) (⟨133,[(0,.ptr 1000000 0),(1,jI h),(4,.ptr 4 0),(6,.p (.int .u64 i)),(88,.p (.bool f))],[(1000000,.box 68 [.sl 1 (rowsOf (encI .u8) e),jI a,jI b]),(4,.box 28 [jI j,.p (.int .u64 c),.sl 1 (rowsOf (encI .u8) d),.own 700001]),(700001,.row true 4 28 (rowsOf encT28 l))]⟩:St)=some r.st:=by
 unfold f31_s1_g8_b at m
 cases m
 simp (disch:=first|apply D;decide|apply K;kernel_rfl) only [E,EE,↓reduceIte,simprocAttr,y31_2_1_1,xk B31 [2,2,2,2,2,2,2,2,2,2,2,2,2,2,2,2,1,2] .sq rfl,rg B31 [1,2,2,2,2,2,2,2,2,2,2,2,2,2,2,2,2,1,2] 37 false rfl,hr_31_37,bl_28,t_28,xk B31 [2,2,2,2,2,2,2,2,2,2,2,2,2,2,2,2,2,1,2] .rt rfl,R31_s1.st]
noncomputable def f31_s1_g9_b (k:Nat) (q_f31_pi_brii:Int→(List Int)→Int→Int→Option R31) (g:Int) (c:Bool) (f:List Int) (a b h d:Int) (e:List Int) (i:List T28):Option R31_s1 :=
 some (R31_s1.o9 170 0 0 [] [] f a b)
theorem f31_s1_g9_b_ok (k:Nat) (q_f31_pi_brii:Int→(List Int)→Int→Int→Option R31) (hq_f31_pi_brii:∀ (g:Int) (f:List Int) (a b:Int) (r:R31),q_f31_pi_brii g f a b=some r→CV k 31 [.ptr 1000000 0,jI g] [.box 68 [.sl 1 (rowsOf (encI .u8) f),jI a,jI b]]=some r.st) (h:Int) (c:Bool) (f:List Int) (a b i d:Int) (e:List Int) (j:List T28) (r:R31_s1) (l:f31_s1_g9_b k q_f31_pi_brii h c f a b i d e j=some r):EL 31 k 1 (nav B31 [1,2]) (⟨133,[(0,.ptr 1000000 0),(4,.ptr 4 0),(6,.p (.int .u64 h)),(112,.p (.bool c))],[(1000000,.box 68 [.sl 1 (rowsOf (encI .u8) f),jI a,jI b]),(4,.box 28 [jI i,.p (.int .u64 d),.sl 1 (rowsOf (encI .u8) e),.own 700001]),(700001,.row true 4 28 (rowsOf encT28 j))]⟩:St)=some r.st:=by
 unfold f31_s1_g9_b at l
 cases l
 simp (disch:=first|apply D;decide|apply K;kernel_rfl) only [E,EE,↓reduceIte,simprocAttr,y31_2_1_1,xk B31 [2,2,2,2,2,2,2,2,2,2,2,2,2,2,2,2,1,2] .sq rfl,rg B31 [1,2,2,2,2,2,2,2,2,2,2,2,2,2,2,2,2,1,2] 37 false rfl,hr_31_37,bl_28,t_28,xk B31 [2,2,2,2,2,2,2,2,2,2,2,2,2,2,2,2,2,1,2] .rt rfl,R31_s1.st]
noncomputable def f31_s1_g10_b (k:Nat) (q_f31_pi_brii:Int→(List Int)→Int→Int→Option R31) (c:Bool) (h d:Int) (e:List Int) (f:List T28) (g:List Int) (a b:Int):Option R31_s1 :=
 some (R31_s1.o9 7 0 0 [] [] g a b)
theorem f31_s1_g10_b_ok (k:Nat) (q_f31_pi_brii:Int→(List Int)→Int→Int→Option R31) (hq_f31_pi_brii:∀ (h:Int) (g:List Int) (a b:Int) (r:R31),q_f31_pi_brii h g a b=some r→CV k 31 [.ptr 1000000 0,jI h] [.box 68 [.sl 1 (rowsOf (encI .u8) g),jI a,jI b]]=some r.st) (c:Bool) (i d:Int) (e:List Int) (f:List T28) (g:List Int) (a b:Int) (r:R31_s1) (j:f31_s1_g10_b k q_f31_pi_brii c i d e f g a b=some r):EL 31 k 0 (nav B31 [1,2]) (⟨133,[(4,.ptr 4 0),(120,.p (.bool c))],[(4,.box 28 [jI i,.p (.int .u64 d),.sl 1 (rowsOf (encI .u8) e),.sl 4 (rowsOf encT28 f)]),(1000000,.box 68 [.sl 1 (rowsOf (encI .u8) g),jI a,jI b])]⟩:St)=some r.st:=by
 unfold f31_s1_g10_b at j
 cases j
 simp (disch:=first|apply D;decide|apply K;kernel_rfl) only [E,EE,↓reduceIte,simprocAttr,y31_2_1_0,xk B31 [2,2,2,2,2,2,2,2,2,2,2,2,2,2,1,2] .sq rfl,xk B31 [1,2,2,2,2,2,2,2,2,2,2,2,2,2,2,1,2] .sq rfl,rg B31 [1,1,2,2,2,2,2,2,2,2,2,2,2,2,2,2,1,2] 36 false rfl,hr_31_36,bl_28,t_28,xk B31 [2,1,2,2,2,2,2,2,2,2,2,2,2,2,2,2,1,2] .rt rfl,R31_s1.st]
noncomputable def f31_s1_g11_b (k:Nat) (q_f31_pi_brii:Int→(List Int)→Int→Int→Option R31) (c:Bool) (h d:Int) (e:List Int) (f:List T28) (g:List Int) (a b:Int):Option R31_s1 :=
 some (R31_s1.o9 170 0 0 [] [] g a b)
theorem f31_s1_g11_b_ok (k:Nat) (q_f31_pi_brii:Int→(List Int)→Int→Int→Option R31) (hq_f31_pi_brii:∀ (h:Int) (g:List Int) (a b:Int) (r:R31),q_f31_pi_brii h g a b=some r→CV k 31 [.ptr 1000000 0,jI h] [.box 68 [.sl 1 (rowsOf (encI .u8) g),jI a,jI b]]=some r.st) (c:Bool) (i d:Int) (e:List Int) (f:List T28) (g:List Int) (a b:Int) (r:R31_s1) (j:f31_s1_g11_b k q_f31_pi_brii c i d e f g a b=some r):EL 31 k 1 (nav B31 [1,2]) (⟨133,[(4,.ptr 4 0),(129,.p (.bool c))],[(4,.box 28 [jI i,.p (.int .u64 d),.sl 1 (rowsOf (encI .u8) e),.sl 4 (rowsOf encT28 f)]),(1000000,.box 68 [.sl 1 (rowsOf (encI .u8) g),jI a,jI b])]⟩:St)=some r.st:=by
 unfold f31_s1_g11_b at j
 cases j
 simp (disch:=first|apply D;decide|apply K;kernel_rfl) only [E,EE,↓reduceIte,simprocAttr,y31_2_1_1,xk B31 [2,2,2,2,2,2,2,2,2,2,2,2,2,2,2,2,1,2] .sq rfl,rg B31 [1,2,2,2,2,2,2,2,2,2,2,2,2,2,2,2,2,1,2] 37 false rfl,hr_31_37,bl_28,t_28,xk B31 [2,2,2,2,2,2,2,2,2,2,2,2,2,2,2,2,2,1,2] .rt rfl,R31_s1.st]
noncomputable def f31_s1_g0 (k:Nat) (q_f31_pi_brii:Int→(List Int)→Int→Int→Option R31):Nat→Int→Int→Bool→(List Int)→Int→Int→Int→Int→(List Int)→(List T28)→Option R31_s1
 | 0,_,_,_,_,_,_,_,_,_,_=>none
 | n+1,t,u,q,v,j,l,w,m,p,x=>Option.bind (f31_s1_g0_b k q_f31_pi_brii t u q v j l w m p x) fun o =>
  match o with
  | .o0 y a b c d e f g h i=>f31_s1_g0 k q_f31_pi_brii n y a b c d e f g h i
  | .o1 y a b c d e f g h i=>none
  | .o2 y a b c d e f g h i s=>none
  | .o3 y a b c d e f g h i=>none
  | .o4 y a b c d e f g=>some (.o4 y a b c d e f g)
  | .o5 y a b c d e f g h i=>none
  | .o6 y a b c d e f g h=>none
  | .o7 y a b c d e f g=>none
  | .o8 y a b c d e f g=>none
  | .o9 y a b c d e f g=>some (.o9 y a b c d e f g)
  | .o10 y a b c d e f g h i=>none
  | .o11 y a b c d e f g h=>none
  | .o12 y a b c d e f g=>none
  | .o13 y a b c d e f g=>none
theorem f31_s1_g0_ok (k:Nat) (q_f31_pi_brii:Int→(List Int)→Int→Int→Option R31) (hq_f31_pi_brii:∀ (a1:Int) (u:List Int) (i j:Int) (r:R31),q_f31_pi_brii a1 u i j=some r→CV k 31 [.ptr 1000000 0,jI a1] [.box 68 [.sl 1 (rowsOf (encI .u8) u),jI i,jI j]]=some r.st) (n:Nat):∀ (v w:Int) (t:Bool) (u:List Int) (i j x m:Int) (p:List Int) (z:List T28) (r:R31_s1) (l:f31_s1_g0 k q_f31_pi_brii n v w t u i j x m p z=some r),JK 31 k (nav B31 [1,2]) n (some (.goto 0,(⟨133,[(0,.ptr 1000000 0),(1,jI v),(4,.ptr 4 0),(7,.p (.int .u8 w)),(17,.p (.bool t))],[(1000000,.box 68 [.sl 1 (rowsOf (encI .u8) u),jI i,jI j]),(4,.box 28 [jI x,.p (.int .u64 m),.sl 1 (rowsOf (encI .u8) p),.own 700001]),(700001,.row true 4 28 (rowsOf encT28 z))]⟩:St)))=some r.st:=by
 induction n with
 | zero=>intro v w t u i j x m p z r l;cases l
 | succ n ih =>
  intro v w t u i j x m p z r l
  rw [f31_s1_g0] at l
  obtain ⟨o,h,l⟩:=Option.bind_eq_some_iff.1 l
  unfold JK at ih ⊢
  rw [jumpsK_goto,(show exec _ _ _ _ _ _ _ _=_ from f31_s1_g0_b_ok k q_f31_pi_brii hq_f31_pi_brii v w t u i j x m p z o h)]
  cases o with
  | o0 y a b c d e f g q s=>exact ih y a b c d e f g q s r l
  | o1 y a b c d e f g q s=>cases l
  | o2 y a b c d e f g q s ac=>cases l
  | o3 y a b c d e f g q s=>cases l
  | o4 y a b c d e f g=>cases l;simp only [R31_s1.st,jumpsK_norm,jumpsK_ret,jumpsK_exit]
  | o5 y a b c d e f g q s=>cases l
  | o6 y a b c d e f g q=>cases l
  | o7 y a b c d e f g=>cases l
  | o8 y a b c d e f g=>cases l
  | o9 y a b c d e f g=>cases l;simp only [R31_s1.st,jumpsK_norm,jumpsK_ret,jumpsK_exit]
  | o10 y a b c d e f g q s=>cases l
  | o11 y a b c d e f g q=>cases l
  | o12 y a b c d e f g=>cases l
  | o13 y a b c d e f g=>cases l
noncomputable def f31_s1_g1 (k:Nat) (q_f31_pi_brii:Int→(List Int)→Int→Int→Option R31):Nat→Int→Int→Bool→(List Int)→Int→Int→Int→Int→(List Int)→(List T28)→Option R31_s1
 | 0,_,_,_,_,_,_,_,_,_,_=>none
 | n+1,t,u,q,v,j,l,w,m,p,x=>Option.bind (f31_s1_g1_b k q_f31_pi_brii t u q v j l w m p x) fun o =>
  match o with
  | .o0 y a b c d e f g h i=>f31_s1_g0 k q_f31_pi_brii n y a b c d e f g h i
  | .o1 y a b c d e f g h i=>f31_s1_g1 k q_f31_pi_brii n y a b c d e f g h i
  | .o2 y a b c d e f g h i s=>none
  | .o3 y a b c d e f g h i=>none
  | .o4 y a b c d e f g=>some (.o4 y a b c d e f g)
  | .o5 y a b c d e f g h i=>none
  | .o6 y a b c d e f g h=>none
  | .o7 y a b c d e f g=>none
  | .o8 y a b c d e f g=>none
  | .o9 y a b c d e f g=>some (.o9 y a b c d e f g)
  | .o10 y a b c d e f g h i=>none
  | .o11 y a b c d e f g h=>none
  | .o12 y a b c d e f g=>none
  | .o13 y a b c d e f g=>none
theorem f31_s1_g1_ok (k:Nat) (q_f31_pi_brii:Int→(List Int)→Int→Int→Option R31) (hq_f31_pi_brii:∀ (a1:Int) (u:List Int) (i j:Int) (r:R31),q_f31_pi_brii a1 u i j=some r→CV k 31 [.ptr 1000000 0,jI a1] [.box 68 [.sl 1 (rowsOf (encI .u8) u),jI i,jI j]]=some r.st) (n:Nat):∀ (v w:Int) (t:Bool) (u:List Int) (i j x p:Int) (q:List Int) (z:List T28) (r:R31_s1) (l:f31_s1_g1 k q_f31_pi_brii n v w t u i j x p q z=some r),JK 31 k (nav B31 [1,2]) n (some (.goto 1,(⟨133,[(0,.ptr 1000000 0),(1,jI v),(4,.ptr 4 0),(7,.p (.int .u8 w)),(35,.p (.bool t))],[(1000000,.box 68 [.sl 1 (rowsOf (encI .u8) u),jI i,jI j]),(4,.box 28 [jI x,.p (.int .u64 p),.sl 1 (rowsOf (encI .u8) q),.own 700001]),(700001,.row true 4 28 (rowsOf encT28 z))]⟩:St)))=some r.st:=by
 induction n with
 | zero=>intro v w t u i j x p q z r l;cases l
 | succ n ih =>
  intro v w t u i j x p q z r l
  rw [f31_s1_g1] at l
  obtain ⟨o,h,l⟩:=Option.bind_eq_some_iff.1 l
  unfold JK at ih ⊢
  rw [jumpsK_goto,(show exec _ _ _ _ _ _ _ _=_ from f31_s1_g1_b_ok k q_f31_pi_brii hq_f31_pi_brii v w t u i j x p q z o h)]
  cases o with
  | o0 y a b c d e f g m s=>exact f31_s1_g0_ok k q_f31_pi_brii hq_f31_pi_brii n y a b c d e f g m s r l
  | o1 y a b c d e f g m s=>exact ih y a b c d e f g m s r l
  | o2 y a b c d e f g m s ac=>cases l
  | o3 y a b c d e f g m s=>cases l
  | o4 y a b c d e f g=>cases l;simp only [R31_s1.st,jumpsK_norm,jumpsK_ret,jumpsK_exit]
  | o5 y a b c d e f g m s=>cases l
  | o6 y a b c d e f g m=>cases l
  | o7 y a b c d e f g=>cases l
  | o8 y a b c d e f g=>cases l
  | o9 y a b c d e f g=>cases l;simp only [R31_s1.st,jumpsK_norm,jumpsK_ret,jumpsK_exit]
  | o10 y a b c d e f g m s=>cases l
  | o11 y a b c d e f g m=>cases l
  | o12 y a b c d e f g=>cases l
  | o13 y a b c d e f g=>cases l
noncomputable def f31_s1_g2 (k:Nat) (q_f31_pi_brii:Int→(List Int)→Int→Int→Option R31):Nat→Int→Int→Int→Bool→(List Int)→Int→Int→Int→Int→(List Int)→(List T28)→Option R31_s1
 | 0,_,_,_,_,_,_,_,_,_,_,_=>none
 | n+1,v,w,x,s,z,m,p,t,j,l,u=>Option.bind (f31_s1_g2_b k q_f31_pi_brii v w x s z m p t j l u) fun o =>
  match o with
  | .o0 y a b c d e f g h i=>f31_s1_g0 k q_f31_pi_brii n y a b c d e f g h i
  | .o1 y a b c d e f g h i=>f31_s1_g1 k q_f31_pi_brii n y a b c d e f g h i
  | .o2 y a b c d e f g h i q=>f31_s1_g2 k q_f31_pi_brii n y a b c d e f g h i q
  | .o3 y a b c d e f g h i=>none
  | .o4 y a b c d e f g=>some (.o4 y a b c d e f g)
  | .o5 y a b c d e f g h i=>none
  | .o6 y a b c d e f g h=>none
  | .o7 y a b c d e f g=>none
  | .o8 y a b c d e f g=>none
  | .o9 y a b c d e f g=>some (.o9 y a b c d e f g)
  | .o10 y a b c d e f g h i=>none
  | .o11 y a b c d e f g h=>none
  | .o12 y a b c d e f g=>none
  | .o13 y a b c d e f g=>none
theorem f31_s1_g2_ok (k:Nat) (q_f31_pi_brii:Int→(List Int)→Int→Int→Option R31) (hq_f31_pi_brii:∀ (a1:Int) (w:List Int) (i j:Int) (r:R31),q_f31_pi_brii a1 w i j=some r→CV k 31 [.ptr 1000000 0,jI a1] [.box 68 [.sl 1 (rowsOf (encI .u8) w),jI i,jI j]]=some r.st) (n:Nat):∀ (x z x8:Int) (t:Bool) (w:List Int) (i j u l:Int) (m:List Int) (v:List T28) (r:R31_s1) (q:f31_s1_g2 k q_f31_pi_brii n x z x8 t w i j u l m v=some r),JK 31 k (nav B31 [1,2]) n (some (.goto 0,(⟨133,[(0,.ptr 1000000 0),(1,jI x),(4,.ptr 30001 0),(6,.p (.int .u64 z)),(8,jI x8),(60,.p (.bool t))],[(1000000,.box 68 [.sl 1 (rowsOf (encI .u8) w),jI i,jI j]),(30001,.box 28 [jI u,.p (.int .u64 l),.sl 1 (rowsOf (encI .u8) m),.own 30002]),(30002,.row true 4 28 (rowsOf encT28 v))]⟩:St)))=some r.st:=by
 induction n with
 | zero=>intro x z x8 t w i j u l m v r q;cases q
 | succ n ih =>
  intro x z x8 t w i j u l m v r q
  rw [f31_s1_g2] at q
  obtain ⟨o,h,q⟩:=Option.bind_eq_some_iff.1 q
  unfold JK at ih ⊢
  rw [jumpsK_goto,(show exec _ _ _ _ _ _ _ _=_ from f31_s1_g2_b_ok k q_f31_pi_brii hq_f31_pi_brii x z x8 t w i j u l m v o h)]
  cases o with
  | o0 y a b c d e f g p s=>exact f31_s1_g0_ok k q_f31_pi_brii hq_f31_pi_brii n y a b c d e f g p s r q
  | o1 y a b c d e f g p s=>exact f31_s1_g1_ok k q_f31_pi_brii hq_f31_pi_brii n y a b c d e f g p s r q
  | o2 y a b c d e f g p s ab=>exact ih y a b c d e f g p s ab r q
  | o3 y a b c d e f g p s=>cases q
  | o4 y a b c d e f g=>cases q;simp only [R31_s1.st,jumpsK_norm,jumpsK_ret,jumpsK_exit]
  | o5 y a b c d e f g p s=>cases q
  | o6 y a b c d e f g p=>cases q
  | o7 y a b c d e f g=>cases q
  | o8 y a b c d e f g=>cases q
  | o9 y a b c d e f g=>cases q;simp only [R31_s1.st,jumpsK_norm,jumpsK_ret,jumpsK_exit]
  | o10 y a b c d e f g p s=>cases q
  | o11 y a b c d e f g p=>cases q
  | o12 y a b c d e f g=>cases q
  | o13 y a b c d e f g=>cases q
noncomputable def f31_s1_g3 (k:Nat) (q_f31_pi_brii:Int→(List Int)→Int→Int→Option R31):Nat→Int→Int→Bool→(List Int)→Int→Int→Int→Int→(List Int)→(List T28)→Option R31_s1
 | 0,_,_,_,_,_,_,_,_,_,_=>none
 | n+1,v,w,s,x,m,p,t,j,l,u=>Option.bind (f31_s1_g3_b k q_f31_pi_brii v w s x m p t j l u) fun o =>
  match o with
  | .o0 y a b c d e f g h i=>f31_s1_g0 k q_f31_pi_brii n y a b c d e f g h i
  | .o1 y a b c d e f g h i=>f31_s1_g1 k q_f31_pi_brii n y a b c d e f g h i
  | .o2 y a b c d e f g h i q=>f31_s1_g2 k q_f31_pi_brii n y a b c d e f g h i q
  | .o3 y a b c d e f g h i=>f31_s1_g3 k q_f31_pi_brii n y a b c d e f g h i
  | .o4 y a b c d e f g=>some (.o4 y a b c d e f g)
  | .o5 y a b c d e f g h i=>none
  | .o6 y a b c d e f g h=>none
  | .o7 y a b c d e f g=>none
  | .o8 y a b c d e f g=>none
  | .o9 y a b c d e f g=>some (.o9 y a b c d e f g)
  | .o10 y a b c d e f g h i=>none
  | .o11 y a b c d e f g h=>none
  | .o12 y a b c d e f g=>none
  | .o13 y a b c d e f g=>none
theorem f31_s1_g3_ok (k:Nat) (q_f31_pi_brii:Int→(List Int)→Int→Int→Option R31) (hq_f31_pi_brii:∀ (a1:Int) (w:List Int) (i j:Int) (r:R31),q_f31_pi_brii a1 w i j=some r→CV k 31 [.ptr 1000000 0,jI a1] [.box 68 [.sl 1 (rowsOf (encI .u8) w),jI i,jI j]]=some r.st) (n:Nat):∀ (x z:Int) (t:Bool) (w:List Int) (i j u l:Int) (m:List Int) (v:List T28) (r:R31_s1) (q:f31_s1_g3 k q_f31_pi_brii n x z t w i j u l m v=some r),JK 31 k (nav B31 [1,2]) n (some (.goto 1,(⟨133,[(0,.ptr 1000000 0),(1,jI x),(4,.ptr 30001 0),(6,.p (.int .u64 z)),(77,.p (.bool t))],[(1000000,.box 68 [.sl 1 (rowsOf (encI .u8) w),jI i,jI j]),(30001,.box 28 [jI u,.p (.int .u64 l),.sl 1 (rowsOf (encI .u8) m),.own 30002]),(30002,.row true 4 28 (rowsOf encT28 v))]⟩:St)))=some r.st:=by
 induction n with
 | zero=>intro x z t w i j u l m v r q;cases q
 | succ n ih =>
  intro x z t w i j u l m v r q
  rw [f31_s1_g3] at q
  obtain ⟨o,h,q⟩:=Option.bind_eq_some_iff.1 q
  unfold JK at ih ⊢
  rw [jumpsK_goto,(show exec _ _ _ _ _ _ _ _=_ from f31_s1_g3_b_ok k q_f31_pi_brii hq_f31_pi_brii x z t w i j u l m v o h)]
  cases o with
  | o0 y a b c d e f g p s=>exact f31_s1_g0_ok k q_f31_pi_brii hq_f31_pi_brii n y a b c d e f g p s r q
  | o1 y a b c d e f g p s=>exact f31_s1_g1_ok k q_f31_pi_brii hq_f31_pi_brii n y a b c d e f g p s r q
  | o2 y a b c d e f g p s aa=>exact f31_s1_g2_ok k q_f31_pi_brii hq_f31_pi_brii n y a b c d e f g p s aa r q
  | o3 y a b c d e f g p s=>exact ih y a b c d e f g p s r q
  | o4 y a b c d e f g=>cases q;simp only [R31_s1.st,jumpsK_norm,jumpsK_ret,jumpsK_exit]
  | o5 y a b c d e f g p s=>cases q
  | o6 y a b c d e f g p=>cases q
  | o7 y a b c d e f g=>cases q
  | o8 y a b c d e f g=>cases q
  | o9 y a b c d e f g=>cases q;simp only [R31_s1.st,jumpsK_norm,jumpsK_ret,jumpsK_exit]
  | o10 y a b c d e f g p s=>cases q
  | o11 y a b c d e f g p=>cases q
  | o12 y a b c d e f g=>cases q
  | o13 y a b c d e f g=>cases q
noncomputable def f31_s1_g4 (k:Nat) (q_f31_pi_brii:Int→(List Int)→Int→Int→Option R31):Nat→Int→Int→Bool→(List Int)→Int→Int→Int→Int→(List Int)→(List T28)→Option R31_s1
 | 0,_,_,_,_,_,_,_,_,_,_=>none
 | n+1,v,w,s,x,m,p,t,j,l,u=>Option.bind (f31_s1_g4_b k q_f31_pi_brii v w s x m p t j l u) fun o =>
  match o with
  | .o0 y a b c d e f g h i=>f31_s1_g0 k q_f31_pi_brii n y a b c d e f g h i
  | .o1 y a b c d e f g h i=>f31_s1_g1 k q_f31_pi_brii n y a b c d e f g h i
  | .o2 y a b c d e f g h i q=>f31_s1_g2 k q_f31_pi_brii n y a b c d e f g h i q
  | .o3 y a b c d e f g h i=>f31_s1_g3 k q_f31_pi_brii n y a b c d e f g h i
  | .o4 y a b c d e f g=>some (.o4 y a b c d e f g)
  | .o5 y a b c d e f g h i=>f31_s1_g4 k q_f31_pi_brii n y a b c d e f g h i
  | .o6 y a b c d e f g h=>none
  | .o7 y a b c d e f g=>none
  | .o8 y a b c d e f g=>none
  | .o9 y a b c d e f g=>some (.o9 y a b c d e f g)
  | .o10 y a b c d e f g h i=>none
  | .o11 y a b c d e f g h=>none
  | .o12 y a b c d e f g=>none
  | .o13 y a b c d e f g=>none
theorem f31_s1_g4_ok (k:Nat) (q_f31_pi_brii:Int→(List Int)→Int→Int→Option R31) (hq_f31_pi_brii:∀ (a1:Int) (w:List Int) (i j:Int) (r:R31),q_f31_pi_brii a1 w i j=some r→CV k 31 [.ptr 1000000 0,jI a1] [.box 68 [.sl 1 (rowsOf (encI .u8) w),jI i,jI j]]=some r.st) (n:Nat):∀ (x z:Int) (t:Bool) (w:List Int) (i j u m:Int) (p:List Int) (v:List T28) (r:R31_s1) (s:f31_s1_g4 k q_f31_pi_brii n x z t w i j u m p v=some r),JK 31 k (nav B31 [1,2]) n (some (.goto 1,(⟨133,[(0,.ptr 1000000 0),(1,jI x),(4,.ptr 30001 0),(6,.p (.int .u64 z)),(88,.p (.bool t))],[(1000000,.box 68 [.sl 1 (rowsOf (encI .u8) w),jI i,jI j]),(30001,.box 28 [jI u,.p (.int .u64 m),.sl 1 (rowsOf (encI .u8) p),.own 30002]),(30002,.row true 4 28 (rowsOf encT28 v))]⟩:St)))=some r.st:=by
 induction n with
 | zero=>intro x z t w i j u m p v r s;cases s
 | succ n ih =>
  intro x z t w i j u m p v r s
  rw [f31_s1_g4] at s
  obtain ⟨o,h,s⟩:=Option.bind_eq_some_iff.1 s
  unfold JK at ih ⊢
  rw [jumpsK_goto,(show exec _ _ _ _ _ _ _ _=_ from f31_s1_g4_b_ok k q_f31_pi_brii hq_f31_pi_brii x z t w i j u m p v o h)]
  cases o with
  | o0 y a b c d e f g l q=>exact f31_s1_g0_ok k q_f31_pi_brii hq_f31_pi_brii n y a b c d e f g l q r s
  | o1 y a b c d e f g l q=>exact f31_s1_g1_ok k q_f31_pi_brii hq_f31_pi_brii n y a b c d e f g l q r s
  | o2 y a b c d e f g l q aa=>exact f31_s1_g2_ok k q_f31_pi_brii hq_f31_pi_brii n y a b c d e f g l q aa r s
  | o3 y a b c d e f g l q=>exact f31_s1_g3_ok k q_f31_pi_brii hq_f31_pi_brii n y a b c d e f g l q r s
  | o4 y a b c d e f g=>cases s;simp only [R31_s1.st,jumpsK_norm,jumpsK_ret,jumpsK_exit]
  | o5 y a b c d e f g l q=>exact ih y a b c d e f g l q r s
  | o6 y a b c d e f g l=>cases s
  | o7 y a b c d e f g=>cases s
  | o8 y a b c d e f g=>cases s
  | o9 y a b c d e f g=>cases s;simp only [R31_s1.st,jumpsK_norm,jumpsK_ret,jumpsK_exit]
  | o10 y a b c d e f g l q=>cases s
  | o11 y a b c d e f g l=>cases s
  | o12 y a b c d e f g=>cases s
  | o13 y a b c d e f g=>cases s
noncomputable def f31_s1_g5 (k:Nat) (q_f31_pi_brii:Int→(List Int)→Int→Int→Option R31):Nat→Int→Bool→(List Int)→Int→Int→Int→Int→(List Int)→(List T28)→Option R31_s1
 | 0,_,_,_,_,_,_,_,_,_=>none
 | n+1,v,m,w,p,q,t,j,l,u=>Option.bind (f31_s1_g5_b k q_f31_pi_brii v m w p q t j l u) fun o =>
  match o with
  | .o0 y a b c d e f g h i=>f31_s1_g0 k q_f31_pi_brii n y a b c d e f g h i
  | .o1 y a b c d e f g h i=>f31_s1_g1 k q_f31_pi_brii n y a b c d e f g h i
  | .o2 y a b c d e f g h i s=>f31_s1_g2 k q_f31_pi_brii n y a b c d e f g h i s
  | .o3 y a b c d e f g h i=>f31_s1_g3 k q_f31_pi_brii n y a b c d e f g h i
  | .o4 y a b c d e f g=>some (.o4 y a b c d e f g)
  | .o5 y a b c d e f g h i=>f31_s1_g4 k q_f31_pi_brii n y a b c d e f g h i
  | .o6 y a b c d e f g h=>f31_s1_g5 k q_f31_pi_brii n y a b c d e f g h
  | .o7 y a b c d e f g=>none
  | .o8 y a b c d e f g=>none
  | .o9 y a b c d e f g=>some (.o9 y a b c d e f g)
  | .o10 y a b c d e f g h i=>none
  | .o11 y a b c d e f g h=>none
  | .o12 y a b c d e f g=>none
  | .o13 y a b c d e f g=>none
theorem f31_s1_g5_ok (k:Nat) (q_f31_pi_brii:Int→(List Int)→Int→Int→Option R31) (hq_f31_pi_brii:∀ (a1:Int) (w:List Int) (j l:Int) (r:R31),q_f31_pi_brii a1 w j l=some r→CV k 31 [.ptr 1000000 0,jI a1] [.box 68 [.sl 1 (rowsOf (encI .u8) w),jI j,jI l]]=some r.st) (n:Nat):∀ (x:Int) (t:Bool) (w:List Int) (j l u m:Int) (p:List Int) (v:List T28) (r:R31_s1) (s:f31_s1_g5 k q_f31_pi_brii n x t w j l u m p v=some r),JK 31 k (nav B31 [1,2]) n (some (.goto 1,(⟨133,[(0,.ptr 1000000 0),(4,.ptr 30001 0),(6,.p (.int .u64 x)),(112,.p (.bool t))],[(1000000,.box 68 [.sl 1 (rowsOf (encI .u8) w),jI j,jI l]),(30001,.box 28 [jI u,.p (.int .u64 m),.sl 1 (rowsOf (encI .u8) p),.own 30002]),(30002,.row true 4 28 (rowsOf encT28 v))]⟩:St)))=some r.st:=by
 induction n with
 | zero=>intro x t w j l u m p v r s;cases s
 | succ n ih =>
  intro x t w j l u m p v r s
  rw [f31_s1_g5] at s
  obtain ⟨o,h,s⟩:=Option.bind_eq_some_iff.1 s
  unfold JK at ih ⊢
  rw [jumpsK_goto,(show exec _ _ _ _ _ _ _ _=_ from f31_s1_g5_b_ok k q_f31_pi_brii hq_f31_pi_brii x t w j l u m p v o h)]
  cases o with
  | o0 y a b c d e f g i q=>exact f31_s1_g0_ok k q_f31_pi_brii hq_f31_pi_brii n y a b c d e f g i q r s
  | o1 y a b c d e f g i q=>exact f31_s1_g1_ok k q_f31_pi_brii hq_f31_pi_brii n y a b c d e f g i q r s
  | o2 y a b c d e f g i q z=>exact f31_s1_g2_ok k q_f31_pi_brii hq_f31_pi_brii n y a b c d e f g i q z r s
  | o3 y a b c d e f g i q=>exact f31_s1_g3_ok k q_f31_pi_brii hq_f31_pi_brii n y a b c d e f g i q r s
  | o4 y a b c d e f g=>cases s;simp only [R31_s1.st,jumpsK_norm,jumpsK_ret,jumpsK_exit]
  | o5 y a b c d e f g i q=>exact f31_s1_g4_ok k q_f31_pi_brii hq_f31_pi_brii n y a b c d e f g i q r s
  | o6 y a b c d e f g i=>exact ih y a b c d e f g i r s
  | o7 y a b c d e f g=>cases s
  | o8 y a b c d e f g=>cases s
  | o9 y a b c d e f g=>cases s;simp only [R31_s1.st,jumpsK_norm,jumpsK_ret,jumpsK_exit]
  | o10 y a b c d e f g i q=>cases s
  | o11 y a b c d e f g i=>cases s
  | o12 y a b c d e f g=>cases s
  | o13 y a b c d e f g=>cases s
noncomputable def f31_s1_g6 (k:Nat) (q_f31_pi_brii:Int→(List Int)→Int→Int→Option R31):Nat→Bool→Int→Int→(List Int)→(List T28)→(List Int)→Int→Int→Option R31_s1
 | 0,_,_,_,_,_,_,_,_=>none
 | n+1,p,u,j,l,m,v,q,s=>Option.bind (f31_s1_g6_b k q_f31_pi_brii p u j l m v q s) fun o =>
  match o with
  | .o0 y a b c d e f g h i=>f31_s1_g0 k q_f31_pi_brii n y a b c d e f g h i
  | .o1 y a b c d e f g h i=>f31_s1_g1 k q_f31_pi_brii n y a b c d e f g h i
  | .o2 y a b c d e f g h i t=>f31_s1_g2 k q_f31_pi_brii n y a b c d e f g h i t
  | .o3 y a b c d e f g h i=>f31_s1_g3 k q_f31_pi_brii n y a b c d e f g h i
  | .o4 y a b c d e f g=>some (.o4 y a b c d e f g)
  | .o5 y a b c d e f g h i=>f31_s1_g4 k q_f31_pi_brii n y a b c d e f g h i
  | .o6 y a b c d e f g h=>f31_s1_g5 k q_f31_pi_brii n y a b c d e f g h
  | .o7 y a b c d e f g=>f31_s1_g6 k q_f31_pi_brii n y a b c d e f g
  | .o8 y a b c d e f g=>none
  | .o9 y a b c d e f g=>some (.o9 y a b c d e f g)
  | .o10 y a b c d e f g h i=>none
  | .o11 y a b c d e f g h=>none
  | .o12 y a b c d e f g=>none
  | .o13 y a b c d e f g=>none
theorem f31_s1_g6_ok (k:Nat) (q_f31_pi_brii:Int→(List Int)→Int→Int→Option R31) (hq_f31_pi_brii:∀ (z:Int) (w:List Int) (j l:Int) (r:R31),q_f31_pi_brii z w j l=some r→CV k 31 [.ptr 1000000 0,jI z] [.box 68 [.sl 1 (rowsOf (encI .u8) w),jI j,jI l]]=some r.st) (n:Nat):∀ (u:Bool) (v m:Int) (p:List Int) (q:List T28) (w:List Int) (j l:Int) (r:R31_s1) (t:f31_s1_g6 k q_f31_pi_brii n u v m p q w j l=some r),JK 31 k (nav B31 [1,2]) n (some (.goto 0,(⟨133,[(4,.ptr 30001 0),(120,.p (.bool u))],[(30001,.box 28 [jI v,.p (.int .u64 m),.sl 1 (rowsOf (encI .u8) p),.sl 4 (rowsOf encT28 q)]),(1000000,.box 68 [.sl 1 (rowsOf (encI .u8) w),jI j,jI l])]⟩:St)))=some r.st:=by
 induction n with
 | zero=>intro u v m p q w j l r t;cases t
 | succ n ih =>
  intro u v m p q w j l r t
  rw [f31_s1_g6] at t
  obtain ⟨o,h,t⟩:=Option.bind_eq_some_iff.1 t
  unfold JK at ih ⊢
  rw [jumpsK_goto,(show exec _ _ _ _ _ _ _ _=_ from f31_s1_g6_b_ok k q_f31_pi_brii hq_f31_pi_brii u v m p q w j l o h)]
  cases o with
  | o0 y a b c d e f g i s=>exact f31_s1_g0_ok k q_f31_pi_brii hq_f31_pi_brii n y a b c d e f g i s r t
  | o1 y a b c d e f g i s=>exact f31_s1_g1_ok k q_f31_pi_brii hq_f31_pi_brii n y a b c d e f g i s r t
  | o2 y a b c d e f g i s x=>exact f31_s1_g2_ok k q_f31_pi_brii hq_f31_pi_brii n y a b c d e f g i s x r t
  | o3 y a b c d e f g i s=>exact f31_s1_g3_ok k q_f31_pi_brii hq_f31_pi_brii n y a b c d e f g i s r t
  | o4 y a b c d e f g=>cases t;simp only [R31_s1.st,jumpsK_norm,jumpsK_ret,jumpsK_exit]
  | o5 y a b c d e f g i s=>exact f31_s1_g4_ok k q_f31_pi_brii hq_f31_pi_brii n y a b c d e f g i s r t
  | o6 y a b c d e f g i=>exact f31_s1_g5_ok k q_f31_pi_brii hq_f31_pi_brii n y a b c d e f g i r t
  | o7 y a b c d e f g=>exact ih y a b c d e f g r t
  | o8 y a b c d e f g=>cases t
  | o9 y a b c d e f g=>cases t;simp only [R31_s1.st,jumpsK_norm,jumpsK_ret,jumpsK_exit]
  | o10 y a b c d e f g i s=>cases t
  | o11 y a b c d e f g i=>cases t
  | o12 y a b c d e f g=>cases t
  | o13 y a b c d e f g=>cases t
noncomputable def f31_s1_g7 (k:Nat) (q_f31_pi_brii:Int→(List Int)→Int→Int→Option R31):Nat→Bool→Int→Int→(List Int)→(List T28)→(List Int)→Int→Int→Option R31_s1
 | 0,_,_,_,_,_,_,_,_=>none
 | n+1,p,u,j,l,m,v,q,s=>Option.bind (f31_s1_g7_b k q_f31_pi_brii p u j l m v q s) fun o =>
  match o with
  | .o0 y a b c d e f g h i=>f31_s1_g0 k q_f31_pi_brii n y a b c d e f g h i
  | .o1 y a b c d e f g h i=>f31_s1_g1 k q_f31_pi_brii n y a b c d e f g h i
  | .o2 y a b c d e f g h i t=>f31_s1_g2 k q_f31_pi_brii n y a b c d e f g h i t
  | .o3 y a b c d e f g h i=>f31_s1_g3 k q_f31_pi_brii n y a b c d e f g h i
  | .o4 y a b c d e f g=>some (.o4 y a b c d e f g)
  | .o5 y a b c d e f g h i=>f31_s1_g4 k q_f31_pi_brii n y a b c d e f g h i
  | .o6 y a b c d e f g h=>f31_s1_g5 k q_f31_pi_brii n y a b c d e f g h
  | .o7 y a b c d e f g=>f31_s1_g6 k q_f31_pi_brii n y a b c d e f g
  | .o8 y a b c d e f g=>f31_s1_g7 k q_f31_pi_brii n y a b c d e f g
  | .o9 y a b c d e f g=>some (.o9 y a b c d e f g)
  | .o10 y a b c d e f g h i=>none
  | .o11 y a b c d e f g h=>none
  | .o12 y a b c d e f g=>none
  | .o13 y a b c d e f g=>none
theorem f31_s1_g7_ok (k:Nat) (q_f31_pi_brii:Int→(List Int)→Int→Int→Option R31) (hq_f31_pi_brii:∀ (z:Int) (w:List Int) (j l:Int) (r:R31),q_f31_pi_brii z w j l=some r→CV k 31 [.ptr 1000000 0,jI z] [.box 68 [.sl 1 (rowsOf (encI .u8) w),jI j,jI l]]=some r.st) (n:Nat):∀ (u:Bool) (v m:Int) (p:List Int) (q:List T28) (w:List Int) (j l:Int) (r:R31_s1) (t:f31_s1_g7 k q_f31_pi_brii n u v m p q w j l=some r),JK 31 k (nav B31 [1,2]) n (some (.goto 1,(⟨133,[(4,.ptr 30001 0),(129,.p (.bool u))],[(30001,.box 28 [jI v,.p (.int .u64 m),.sl 1 (rowsOf (encI .u8) p),.sl 4 (rowsOf encT28 q)]),(1000000,.box 68 [.sl 1 (rowsOf (encI .u8) w),jI j,jI l])]⟩:St)))=some r.st:=by
 induction n with
 | zero=>intro u v m p q w j l r t;cases t
 | succ n ih =>
  intro u v m p q w j l r t
  rw [f31_s1_g7] at t
  obtain ⟨o,h,t⟩:=Option.bind_eq_some_iff.1 t
  unfold JK at ih ⊢
  rw [jumpsK_goto,(show exec _ _ _ _ _ _ _ _=_ from f31_s1_g7_b_ok k q_f31_pi_brii hq_f31_pi_brii u v m p q w j l o h)]
  cases o with
  | o0 y a b c d e f g i s=>exact f31_s1_g0_ok k q_f31_pi_brii hq_f31_pi_brii n y a b c d e f g i s r t
  | o1 y a b c d e f g i s=>exact f31_s1_g1_ok k q_f31_pi_brii hq_f31_pi_brii n y a b c d e f g i s r t
  | o2 y a b c d e f g i s x=>exact f31_s1_g2_ok k q_f31_pi_brii hq_f31_pi_brii n y a b c d e f g i s x r t
  | o3 y a b c d e f g i s=>exact f31_s1_g3_ok k q_f31_pi_brii hq_f31_pi_brii n y a b c d e f g i s r t
  | o4 y a b c d e f g=>cases t;simp only [R31_s1.st,jumpsK_norm,jumpsK_ret,jumpsK_exit]
  | o5 y a b c d e f g i s=>exact f31_s1_g4_ok k q_f31_pi_brii hq_f31_pi_brii n y a b c d e f g i s r t
  | o6 y a b c d e f g i=>exact f31_s1_g5_ok k q_f31_pi_brii hq_f31_pi_brii n y a b c d e f g i r t
  | o7 y a b c d e f g=>exact f31_s1_g6_ok k q_f31_pi_brii hq_f31_pi_brii n y a b c d e f g r t
  | o8 y a b c d e f g=>exact ih y a b c d e f g r t
  | o9 y a b c d e f g=>cases t;simp only [R31_s1.st,jumpsK_norm,jumpsK_ret,jumpsK_exit]
  | o10 y a b c d e f g i s=>cases t
  | o11 y a b c d e f g i=>cases t
  | o12 y a b c d e f g=>cases t
  | o13 y a b c d e f g=>cases t
noncomputable def f31_s1_g8 (k:Nat) (q_f31_pi_brii:Int→(List Int)→Int→Int→Option R31):Nat→Int→Int→Bool→(List Int)→Int→Int→Int→Int→(List Int)→(List T28)→Option R31_s1
 | 0,_,_,_,_,_,_,_,_,_,_=>none
 | n+1,t,u,s,v,j,l,w,m,p,x=>Option.bind (f31_s1_g8_b k q_f31_pi_brii t u s v j l w m p x) fun o =>
  match o with
  | .o0 y a b c d e f g h i=>f31_s1_g0 k q_f31_pi_brii n y a b c d e f g h i
  | .o1 y a b c d e f g h i=>f31_s1_g1 k q_f31_pi_brii n y a b c d e f g h i
  | .o2 y a b c d e f g h i q=>f31_s1_g2 k q_f31_pi_brii n y a b c d e f g h i q
  | .o3 y a b c d e f g h i=>f31_s1_g3 k q_f31_pi_brii n y a b c d e f g h i
  | .o4 y a b c d e f g=>some (.o4 y a b c d e f g)
  | .o5 y a b c d e f g h i=>f31_s1_g4 k q_f31_pi_brii n y a b c d e f g h i
  | .o6 y a b c d e f g h=>f31_s1_g5 k q_f31_pi_brii n y a b c d e f g h
  | .o7 y a b c d e f g=>f31_s1_g6 k q_f31_pi_brii n y a b c d e f g
  | .o8 y a b c d e f g=>f31_s1_g7 k q_f31_pi_brii n y a b c d e f g
  | .o9 y a b c d e f g=>some (.o9 y a b c d e f g)
  | .o10 y a b c d e f g h i=>f31_s1_g8 k q_f31_pi_brii n y a b c d e f g h i
  | .o11 y a b c d e f g h=>none
  | .o12 y a b c d e f g=>none
  | .o13 y a b c d e f g=>none
theorem f31_s1_g8_ok (k:Nat) (q_f31_pi_brii:Int→(List Int)→Int→Int→Option R31) (hq_f31_pi_brii:∀ (a1:Int) (u:List Int) (j l:Int) (r:R31),q_f31_pi_brii a1 u j l=some r→CV k 31 [.ptr 1000000 0,jI a1] [.box 68 [.sl 1 (rowsOf (encI .u8) u),jI j,jI l]]=some r.st) (n:Nat):∀ (v w:Int) (t:Bool) (u:List Int) (j l x q:Int) (s:List Int) (z:List T28) (r:R31_s1) (p:f31_s1_g8 k q_f31_pi_brii n v w t u j l x q s z=some r),JK 31 k (nav B31 [1,2]) n (some (.goto 1,(⟨133,[(0,.ptr 1000000 0),(1,jI v),(4,.ptr 4 0),(6,.p (.int .u64 w)),(88,.p (.bool t))],[(1000000,.box 68 [.sl 1 (rowsOf (encI .u8) u),jI j,jI l]),(4,.box 28 [jI x,.p (.int .u64 q),.sl 1 (rowsOf (encI .u8) s),.own 700001]),(700001,.row true 4 28 (rowsOf encT28 z))]⟩:St)))=some r.st:=by
 induction n with
 | zero=>intro v w t u j l x q s z r p;cases p
 | succ n ih =>
  intro v w t u j l x q s z r p
  rw [f31_s1_g8] at p
  obtain ⟨o,h,p⟩:=Option.bind_eq_some_iff.1 p
  unfold JK at ih ⊢
  rw [jumpsK_goto,(show exec _ _ _ _ _ _ _ _=_ from f31_s1_g8_b_ok k q_f31_pi_brii hq_f31_pi_brii v w t u j l x q s z o h)]
  cases o with
  | o0 y a b c d e f g i m=>exact f31_s1_g0_ok k q_f31_pi_brii hq_f31_pi_brii n y a b c d e f g i m r p
  | o1 y a b c d e f g i m=>exact f31_s1_g1_ok k q_f31_pi_brii hq_f31_pi_brii n y a b c d e f g i m r p
  | o2 y a b c d e f g i m aa=>exact f31_s1_g2_ok k q_f31_pi_brii hq_f31_pi_brii n y a b c d e f g i m aa r p
  | o3 y a b c d e f g i m=>exact f31_s1_g3_ok k q_f31_pi_brii hq_f31_pi_brii n y a b c d e f g i m r p
  | o4 y a b c d e f g=>cases p;simp only [R31_s1.st,jumpsK_norm,jumpsK_ret,jumpsK_exit]
  | o5 y a b c d e f g i m=>exact f31_s1_g4_ok k q_f31_pi_brii hq_f31_pi_brii n y a b c d e f g i m r p
  | o6 y a b c d e f g i=>exact f31_s1_g5_ok k q_f31_pi_brii hq_f31_pi_brii n y a b c d e f g i r p
  | o7 y a b c d e f g=>exact f31_s1_g6_ok k q_f31_pi_brii hq_f31_pi_brii n y a b c d e f g r p
  | o8 y a b c d e f g=>exact f31_s1_g7_ok k q_f31_pi_brii hq_f31_pi_brii n y a b c d e f g r p
  | o9 y a b c d e f g=>cases p;simp only [R31_s1.st,jumpsK_norm,jumpsK_ret,jumpsK_exit]
  | o10 y a b c d e f g i m=>exact ih y a b c d e f g i m r p
  | o11 y a b c d e f g i=>cases p
  | o12 y a b c d e f g=>cases p
  | o13 y a b c d e f g=>cases p
noncomputable def f31_s1_g9 (k:Nat) (q_f31_pi_brii:Int→(List Int)→Int→Int→Option R31):Nat→Int→Bool→(List Int)→Int→Int→Int→Int→(List Int)→(List T28)→Option R31_s1
 | 0,_,_,_,_,_,_,_,_,_=>none
 | n+1,t,j,u,l,m,v,p,q,w=>Option.bind (f31_s1_g9_b k q_f31_pi_brii t j u l m v p q w) fun o =>
  match o with
  | .o0 y a b c d e f g h i=>f31_s1_g0 k q_f31_pi_brii n y a b c d e f g h i
  | .o1 y a b c d e f g h i=>f31_s1_g1 k q_f31_pi_brii n y a b c d e f g h i
  | .o2 y a b c d e f g h i s=>f31_s1_g2 k q_f31_pi_brii n y a b c d e f g h i s
  | .o3 y a b c d e f g h i=>f31_s1_g3 k q_f31_pi_brii n y a b c d e f g h i
  | .o4 y a b c d e f g=>some (.o4 y a b c d e f g)
  | .o5 y a b c d e f g h i=>f31_s1_g4 k q_f31_pi_brii n y a b c d e f g h i
  | .o6 y a b c d e f g h=>f31_s1_g5 k q_f31_pi_brii n y a b c d e f g h
  | .o7 y a b c d e f g=>f31_s1_g6 k q_f31_pi_brii n y a b c d e f g
  | .o8 y a b c d e f g=>f31_s1_g7 k q_f31_pi_brii n y a b c d e f g
  | .o9 y a b c d e f g=>some (.o9 y a b c d e f g)
  | .o10 y a b c d e f g h i=>f31_s1_g8 k q_f31_pi_brii n y a b c d e f g h i
  | .o11 y a b c d e f g h=>f31_s1_g9 k q_f31_pi_brii n y a b c d e f g h
  | .o12 y a b c d e f g=>none
  | .o13 y a b c d e f g=>none
theorem f31_s1_g9_ok (k:Nat) (q_f31_pi_brii:Int→(List Int)→Int→Int→Option R31) (hq_f31_pi_brii:∀ (a1:Int) (u:List Int) (j l:Int) (r:R31),q_f31_pi_brii a1 u j l=some r→CV k 31 [.ptr 1000000 0,jI a1] [.box 68 [.sl 1 (rowsOf (encI .u8) u),jI j,jI l]]=some r.st) (n:Nat):∀ (v:Int) (q:Bool) (u:List Int) (j l w s:Int) (t:List Int) (x:List T28) (r:R31_s1) (p:f31_s1_g9 k q_f31_pi_brii n v q u j l w s t x=some r),JK 31 k (nav B31 [1,2]) n (some (.goto 1,(⟨133,[(0,.ptr 1000000 0),(4,.ptr 4 0),(6,.p (.int .u64 v)),(112,.p (.bool q))],[(1000000,.box 68 [.sl 1 (rowsOf (encI .u8) u),jI j,jI l]),(4,.box 28 [jI w,.p (.int .u64 s),.sl 1 (rowsOf (encI .u8) t),.own 700001]),(700001,.row true 4 28 (rowsOf encT28 x))]⟩:St)))=some r.st:=by
 induction n with
 | zero=>intro v q u j l w s t x r p;cases p
 | succ n ih =>
  intro v q u j l w s t x r p
  rw [f31_s1_g9] at p
  obtain ⟨o,h,p⟩:=Option.bind_eq_some_iff.1 p
  unfold JK at ih ⊢
  rw [jumpsK_goto,(show exec _ _ _ _ _ _ _ _=_ from f31_s1_g9_b_ok k q_f31_pi_brii hq_f31_pi_brii v q u j l w s t x o h)]
  cases o with
  | o0 y a b c d e f g i m=>exact f31_s1_g0_ok k q_f31_pi_brii hq_f31_pi_brii n y a b c d e f g i m r p
  | o1 y a b c d e f g i m=>exact f31_s1_g1_ok k q_f31_pi_brii hq_f31_pi_brii n y a b c d e f g i m r p
  | o2 y a b c d e f g i m z=>exact f31_s1_g2_ok k q_f31_pi_brii hq_f31_pi_brii n y a b c d e f g i m z r p
  | o3 y a b c d e f g i m=>exact f31_s1_g3_ok k q_f31_pi_brii hq_f31_pi_brii n y a b c d e f g i m r p
  | o4 y a b c d e f g=>cases p;simp only [R31_s1.st,jumpsK_norm,jumpsK_ret,jumpsK_exit]
  | o5 y a b c d e f g i m=>exact f31_s1_g4_ok k q_f31_pi_brii hq_f31_pi_brii n y a b c d e f g i m r p
  | o6 y a b c d e f g i=>exact f31_s1_g5_ok k q_f31_pi_brii hq_f31_pi_brii n y a b c d e f g i r p
  | o7 y a b c d e f g=>exact f31_s1_g6_ok k q_f31_pi_brii hq_f31_pi_brii n y a b c d e f g r p
  | o8 y a b c d e f g=>exact f31_s1_g7_ok k q_f31_pi_brii hq_f31_pi_brii n y a b c d e f g r p
  | o9 y a b c d e f g=>cases p;simp only [R31_s1.st,jumpsK_norm,jumpsK_ret,jumpsK_exit]
  | o10 y a b c d e f g i m=>exact f31_s1_g8_ok k q_f31_pi_brii hq_f31_pi_brii n y a b c d e f g i m r p
  | o11 y a b c d e f g i=>exact ih y a b c d e f g i r p
  | o12 y a b c d e f g=>cases p
  | o13 y a b c d e f g=>cases p
noncomputable def f31_s1_g10 (k:Nat) (q_f31_pi_brii:Int→(List Int)→Int→Int→Option R31):Nat→Bool→Int→Int→(List Int)→(List T28)→(List Int)→Int→Int→Option R31_s1
 | 0,_,_,_,_,_,_,_,_=>none
 | n+1,j,u,l,m,p,v,q,s=>Option.bind (f31_s1_g10_b k q_f31_pi_brii j u l m p v q s) fun o =>
  match o with
  | .o0 y a b c d e f g h i=>f31_s1_g0 k q_f31_pi_brii n y a b c d e f g h i
  | .o1 y a b c d e f g h i=>f31_s1_g1 k q_f31_pi_brii n y a b c d e f g h i
  | .o2 y a b c d e f g h i t=>f31_s1_g2 k q_f31_pi_brii n y a b c d e f g h i t
  | .o3 y a b c d e f g h i=>f31_s1_g3 k q_f31_pi_brii n y a b c d e f g h i
  | .o4 y a b c d e f g=>some (.o4 y a b c d e f g)
  | .o5 y a b c d e f g h i=>f31_s1_g4 k q_f31_pi_brii n y a b c d e f g h i
  | .o6 y a b c d e f g h=>f31_s1_g5 k q_f31_pi_brii n y a b c d e f g h
  | .o7 y a b c d e f g=>f31_s1_g6 k q_f31_pi_brii n y a b c d e f g
  | .o8 y a b c d e f g=>f31_s1_g7 k q_f31_pi_brii n y a b c d e f g
  | .o9 y a b c d e f g=>some (.o9 y a b c d e f g)
  | .o10 y a b c d e f g h i=>f31_s1_g8 k q_f31_pi_brii n y a b c d e f g h i
  | .o11 y a b c d e f g h=>f31_s1_g9 k q_f31_pi_brii n y a b c d e f g h
  | .o12 y a b c d e f g=>f31_s1_g10 k q_f31_pi_brii n y a b c d e f g
  | .o13 y a b c d e f g=>none
theorem f31_s1_g10_ok (k:Nat) (q_f31_pi_brii:Int→(List Int)→Int→Int→Option R31) (hq_f31_pi_brii:∀ (z:Int) (v:List Int) (j l:Int) (r:R31),q_f31_pi_brii z v j l=some r→CV k 31 [.ptr 1000000 0,jI z] [.box 68 [.sl 1 (rowsOf (encI .u8) v),jI j,jI l]]=some r.st) (n:Nat):∀ (q:Bool) (w s:Int) (t:List Int) (u:List T28) (v:List Int) (j l:Int) (r:R31_s1) (p:f31_s1_g10 k q_f31_pi_brii n q w s t u v j l=some r),JK 31 k (nav B31 [1,2]) n (some (.goto 0,(⟨133,[(4,.ptr 4 0),(120,.p (.bool q))],[(4,.box 28 [jI w,.p (.int .u64 s),.sl 1 (rowsOf (encI .u8) t),.sl 4 (rowsOf encT28 u)]),(1000000,.box 68 [.sl 1 (rowsOf (encI .u8) v),jI j,jI l])]⟩:St)))=some r.st:=by
 induction n with
 | zero=>intro q w s t u v j l r p;cases p
 | succ n ih =>
  intro q w s t u v j l r p
  rw [f31_s1_g10] at p
  obtain ⟨o,h,p⟩:=Option.bind_eq_some_iff.1 p
  unfold JK at ih ⊢
  rw [jumpsK_goto,(show exec _ _ _ _ _ _ _ _=_ from f31_s1_g10_b_ok k q_f31_pi_brii hq_f31_pi_brii q w s t u v j l o h)]
  cases o with
  | o0 y a b c d e f g i m=>exact f31_s1_g0_ok k q_f31_pi_brii hq_f31_pi_brii n y a b c d e f g i m r p
  | o1 y a b c d e f g i m=>exact f31_s1_g1_ok k q_f31_pi_brii hq_f31_pi_brii n y a b c d e f g i m r p
  | o2 y a b c d e f g i m x=>exact f31_s1_g2_ok k q_f31_pi_brii hq_f31_pi_brii n y a b c d e f g i m x r p
  | o3 y a b c d e f g i m=>exact f31_s1_g3_ok k q_f31_pi_brii hq_f31_pi_brii n y a b c d e f g i m r p
  | o4 y a b c d e f g=>cases p;simp only [R31_s1.st,jumpsK_norm,jumpsK_ret,jumpsK_exit]
  | o5 y a b c d e f g i m=>exact f31_s1_g4_ok k q_f31_pi_brii hq_f31_pi_brii n y a b c d e f g i m r p
  | o6 y a b c d e f g i=>exact f31_s1_g5_ok k q_f31_pi_brii hq_f31_pi_brii n y a b c d e f g i r p
  | o7 y a b c d e f g=>exact f31_s1_g6_ok k q_f31_pi_brii hq_f31_pi_brii n y a b c d e f g r p
  | o8 y a b c d e f g=>exact f31_s1_g7_ok k q_f31_pi_brii hq_f31_pi_brii n y a b c d e f g r p
  | o9 y a b c d e f g=>cases p;simp only [R31_s1.st,jumpsK_norm,jumpsK_ret,jumpsK_exit]
  | o10 y a b c d e f g i m=>exact f31_s1_g8_ok k q_f31_pi_brii hq_f31_pi_brii n y a b c d e f g i m r p
  | o11 y a b c d e f g i=>exact f31_s1_g9_ok k q_f31_pi_brii hq_f31_pi_brii n y a b c d e f g i r p
  | o12 y a b c d e f g=>exact ih y a b c d e f g r p
  | o13 y a b c d e f g=>cases p
noncomputable def f31_s1_g11 (k:Nat) (q_f31_pi_brii:Int→(List Int)→Int→Int→Option R31):Nat→Bool→Int→Int→(List Int)→(List T28)→(List Int)→Int→Int→Option R31_s1
 | 0,_,_,_,_,_,_,_,_=>none
 | n+1,j,u,l,m,p,v,q,s=>Option.bind (f31_s1_g11_b k q_f31_pi_brii j u l m p v q s) fun o =>
  match o with
  | .o0 y a b c d e f g h i=>f31_s1_g0 k q_f31_pi_brii n y a b c d e f g h i
  | .o1 y a b c d e f g h i=>f31_s1_g1 k q_f31_pi_brii n y a b c d e f g h i
  | .o2 y a b c d e f g h i t=>f31_s1_g2 k q_f31_pi_brii n y a b c d e f g h i t
  | .o3 y a b c d e f g h i=>f31_s1_g3 k q_f31_pi_brii n y a b c d e f g h i
  | .o4 y a b c d e f g=>some (.o4 y a b c d e f g)
  | .o5 y a b c d e f g h i=>f31_s1_g4 k q_f31_pi_brii n y a b c d e f g h i
  | .o6 y a b c d e f g h=>f31_s1_g5 k q_f31_pi_brii n y a b c d e f g h
  | .o7 y a b c d e f g=>f31_s1_g6 k q_f31_pi_brii n y a b c d e f g
  | .o8 y a b c d e f g=>f31_s1_g7 k q_f31_pi_brii n y a b c d e f g
  | .o9 y a b c d e f g=>some (.o9 y a b c d e f g)
  | .o10 y a b c d e f g h i=>f31_s1_g8 k q_f31_pi_brii n y a b c d e f g h i
  | .o11 y a b c d e f g h=>f31_s1_g9 k q_f31_pi_brii n y a b c d e f g h
  | .o12 y a b c d e f g=>f31_s1_g10 k q_f31_pi_brii n y a b c d e f g
  | .o13 y a b c d e f g=>f31_s1_g11 k q_f31_pi_brii n y a b c d e f g
theorem f31_s1_g11_ok (k:Nat) (q_f31_pi_brii:Int→(List Int)→Int→Int→Option R31) (hq_f31_pi_brii:∀ (z:Int) (v:List Int) (j l:Int) (r:R31),q_f31_pi_brii z v j l=some r→CV k 31 [.ptr 1000000 0,jI z] [.box 68 [.sl 1 (rowsOf (encI .u8) v),jI j,jI l]]=some r.st) (n:Nat):∀ (q:Bool) (w s:Int) (t:List Int) (u:List T28) (v:List Int) (j l:Int) (r:R31_s1) (p:f31_s1_g11 k q_f31_pi_brii n q w s t u v j l=some r),JK 31 k (nav B31 [1,2]) n (some (.goto 1,(⟨133,[(4,.ptr 4 0),(129,.p (.bool q))],[(4,.box 28 [jI w,.p (.int .u64 s),.sl 1 (rowsOf (encI .u8) t),.sl 4 (rowsOf encT28 u)]),(1000000,.box 68 [.sl 1 (rowsOf (encI .u8) v),jI j,jI l])]⟩:St)))=some r.st:=by
 induction n with
 | zero=>intro q w s t u v j l r p;cases p
 | succ n ih =>
  intro q w s t u v j l r p
  rw [f31_s1_g11] at p
  obtain ⟨o,h,p⟩:=Option.bind_eq_some_iff.1 p
  unfold JK at ih ⊢
  rw [jumpsK_goto,(show exec _ _ _ _ _ _ _ _=_ from f31_s1_g11_b_ok k q_f31_pi_brii hq_f31_pi_brii q w s t u v j l o h)]
  cases o with
  | o0 y a b c d e f g i m=>exact f31_s1_g0_ok k q_f31_pi_brii hq_f31_pi_brii n y a b c d e f g i m r p
  | o1 y a b c d e f g i m=>exact f31_s1_g1_ok k q_f31_pi_brii hq_f31_pi_brii n y a b c d e f g i m r p
  | o2 y a b c d e f g i m x=>exact f31_s1_g2_ok k q_f31_pi_brii hq_f31_pi_brii n y a b c d e f g i m x r p
  | o3 y a b c d e f g i m=>exact f31_s1_g3_ok k q_f31_pi_brii hq_f31_pi_brii n y a b c d e f g i m r p
  | o4 y a b c d e f g=>cases p;simp only [R31_s1.st,jumpsK_norm,jumpsK_ret,jumpsK_exit]
  | o5 y a b c d e f g i m=>exact f31_s1_g4_ok k q_f31_pi_brii hq_f31_pi_brii n y a b c d e f g i m r p
  | o6 y a b c d e f g i=>exact f31_s1_g5_ok k q_f31_pi_brii hq_f31_pi_brii n y a b c d e f g i r p
  | o7 y a b c d e f g=>exact f31_s1_g6_ok k q_f31_pi_brii hq_f31_pi_brii n y a b c d e f g r p
  | o8 y a b c d e f g=>exact f31_s1_g7_ok k q_f31_pi_brii hq_f31_pi_brii n y a b c d e f g r p
  | o9 y a b c d e f g=>cases p;simp only [R31_s1.st,jumpsK_norm,jumpsK_ret,jumpsK_exit]
  | o10 y a b c d e f g i m=>exact f31_s1_g8_ok k q_f31_pi_brii hq_f31_pi_brii n y a b c d e f g i m r p
  | o11 y a b c d e f g i=>exact f31_s1_g9_ok k q_f31_pi_brii hq_f31_pi_brii n y a b c d e f g i r p
  | o12 y a b c d e f g=>exact f31_s1_g10_ok k q_f31_pi_brii hq_f31_pi_brii n y a b c d e f g r p
  | o13 y a b c d e f g=>exact ih y a b c d e f g r p
noncomputable def f31_s1 (k:Nat) (q_f31_pi_brii:Int→(List Int)→Int→Int→Option R31) (s:Int) (t:List Int) (j l u m:Int) (p:List Int) (v:List T28):Option R31_s1:=Option.bind (f31_s1_b k q_f31_pi_brii s t j l u m p v) fun o =>
 match o with
 | .o0 y a b c d e f g h i=>f31_s1_g0 k q_f31_pi_brii k y a b c d e f g h i
 | .o1 y a b c d e f g h i=>f31_s1_g1 k q_f31_pi_brii k y a b c d e f g h i
 | .o2 y a b c d e f g h i q=>f31_s1_g2 k q_f31_pi_brii k y a b c d e f g h i q
 | .o3 y a b c d e f g h i=>f31_s1_g3 k q_f31_pi_brii k y a b c d e f g h i
 | .o4 y a b c d e f g=>some (.o4 y a b c d e f g)
 | .o5 y a b c d e f g h i=>f31_s1_g4 k q_f31_pi_brii k y a b c d e f g h i
 | .o6 y a b c d e f g h=>f31_s1_g5 k q_f31_pi_brii k y a b c d e f g h
 | .o7 y a b c d e f g=>f31_s1_g6 k q_f31_pi_brii k y a b c d e f g
 | .o8 y a b c d e f g=>f31_s1_g7 k q_f31_pi_brii k y a b c d e f g
 | .o9 y a b c d e f g=>some (.o9 y a b c d e f g)
 | .o10 y a b c d e f g h i=>f31_s1_g8 k q_f31_pi_brii k y a b c d e f g h i
 | .o11 y a b c d e f g h=>f31_s1_g9 k q_f31_pi_brii k y a b c d e f g h
 | .o12 y a b c d e f g=>f31_s1_g10 k q_f31_pi_brii k y a b c d e f g
 | .o13 y a b c d e f g=>f31_s1_g11 k q_f31_pi_brii k y a b c d e f g
theorem f31_s1_ok (k:Nat) (q_f31_pi_brii:Int→(List Int)→Int→Int→Option R31) (hq_f31_pi_brii:∀ (z:Int) (t:List Int) (l m:Int) (r:R31),q_f31_pi_brii z t l m=some r→CV k 31 [.ptr 1000000 0,jI z] [.box 68 [.sl 1 (rowsOf (encI .u8) t),jI l,jI m]]=some r.st) (v:Int) (t:List Int) (l m w q:Int) (s:List Int) (x:List T28) (r:R31_s1) (p:f31_s1 k q_f31_pi_brii v t l m w q s x=some r):EX 31 k (nav B31 [2]) (⟨133,[(0,.ptr 1000000 0),(1,jI v),(4,.ptr 4 0)],[(1000000,.box 68 [.sl 1 (rowsOf (encI .u8) t),jI l,jI m]),(4,.box 28 [jI w,.p (.int .u64 q),.sl 1 (rowsOf (encI .u8) s),.own 700001]),(700001,.row true 4 28 (rowsOf encT28 x))]⟩:St)=some r.st:=by
 unfold f31_s1 at p
 obtain ⟨o,h,p⟩:=Option.bind_eq_some_iff.1 p
 unfold EX
 rw [show (nav B31 [2])=Code.scope (nav B31 [1,2]) from rfl,ev_scope,(show exec _ _ _ _ _ _ _ _=_ from f31_s1_b_ok k q_f31_pi_brii hq_f31_pi_brii v t l m w q s x o h)]
 cases o with
 | o0 y a b c d e f g i j=>exact f31_s1_g0_ok k q_f31_pi_brii hq_f31_pi_brii k y a b c d e f g i j r p
 | o1 y a b c d e f g i j=>exact f31_s1_g1_ok k q_f31_pi_brii hq_f31_pi_brii k y a b c d e f g i j r p
 | o2 y a b c d e f g i j u=>exact f31_s1_g2_ok k q_f31_pi_brii hq_f31_pi_brii k y a b c d e f g i j u r p
 | o3 y a b c d e f g i j=>exact f31_s1_g3_ok k q_f31_pi_brii hq_f31_pi_brii k y a b c d e f g i j r p
 | o4 y a b c d e f g=>cases p;simp only [R31_s1.st,jumpsK_norm,jumpsK_ret,jumpsK_exit]
 | o5 y a b c d e f g i j=>exact f31_s1_g4_ok k q_f31_pi_brii hq_f31_pi_brii k y a b c d e f g i j r p
 | o6 y a b c d e f g i=>exact f31_s1_g5_ok k q_f31_pi_brii hq_f31_pi_brii k y a b c d e f g i r p
 | o7 y a b c d e f g=>exact f31_s1_g6_ok k q_f31_pi_brii hq_f31_pi_brii k y a b c d e f g r p
 | o8 y a b c d e f g=>exact f31_s1_g7_ok k q_f31_pi_brii hq_f31_pi_brii k y a b c d e f g r p
 | o9 y a b c d e f g=>cases p;simp only [R31_s1.st,jumpsK_norm,jumpsK_ret,jumpsK_exit]
 | o10 y a b c d e f g i j=>exact f31_s1_g8_ok k q_f31_pi_brii hq_f31_pi_brii k y a b c d e f g i j r p
 | o11 y a b c d e f g i=>exact f31_s1_g9_ok k q_f31_pi_brii hq_f31_pi_brii k y a b c d e f g i r p
 | o12 y a b c d e f g=>exact f31_s1_g10_ok k q_f31_pi_brii hq_f31_pi_brii k y a b c d e f g r p
 | o13 y a b c d e f g=>exact f31_s1_g11_ok k q_f31_pi_brii hq_f31_pi_brii k y a b c d e f g r p
noncomputable def f31_e (k:Nat) (q_f31_pi_brii:Int→(List Int)→Int→Int→Option R31) (o:Int) (p:List Int) (a b:Int):Option R31 :=
 Option.bind (f31_s1 k q_f31_pi_brii o p a b 0 0 [] []) fun o1 =>
  match o1 with
  | .o0 _ _ _ _ _ _ _ _ _ _ =>
   none
  | .o1 _ _ _ _ _ _ _ _ _ _ =>
   none
  | .o2 _ _ _ _ _ _ _ _ _ _ _ =>
   none
  | .o3 _ _ _ _ _ _ _ _ _ _ =>
   none
  | .o4 q s t u v w c d =>
   some (.o0 s t u v q w c d)
  | .o5 _ _ _ _ _ _ _ _ _ _ =>
   none
  | .o6 _ _ _ _ _ _ _ _ _ =>
   none
  | .o7 _ _ _ _ _ _ _ _ =>
   none
  | .o8 _ _ _ _ _ _ _ _ =>
   none
  | .o9 e f g h i j l m =>
   some (.o0 f g h i e j l m)
  | .o10 _ _ _ _ _ _ _ _ _ _ =>
   none
  | .o11 _ _ _ _ _ _ _ _ _ =>
   none
  | .o12 _ _ _ _ _ _ _ _ =>
   none
  | .o13 _ _ _ _ _ _ _ _ =>
   none
theorem f31_e_ok (k:Nat) (q_f31_pi_brii:Int→(List Int)→Int→Int→Option R31) (hq_f31_pi_brii:∀ (e:Int) (f:List Int) (c d:Int) (r:R31),q_f31_pi_brii e f c d=some r→CV k 31 [.ptr 1000000 0,jI e] [.box 68 [.sl 1 (rowsOf (encI .u8) f),jI c,jI d]]=some r.st) (e:Int) (f:List Int) (c d:Int) (r:R31) (b:f31_e k q_f31_pi_brii e f c d=some r):finK Tryd.prog Tryd.f31 1 (EX 31 k (nav B31 []) (⟨133,[(0,.ptr 1000000 0),(1,jI e)],[(1000000,.box 68 [.sl 1 (rowsOf (encI .u8) f),jI c,jI d])]⟩:St))=some r.st:=by
 unfold f31_e at b
 simp (disch:=first|apply D;decide|apply K;kernel_rfl) only [E,EE,↓reduceIte,simprocAttr,xk B31 [] .sq rfl,rg B31 [1] 0 false rfl,hr_31_0,t_28]
 obtain ⟨o1,g,b⟩:=bs b
 have a:=f31_s1_ok k q_f31_pi_brii hq_f31_pi_brii e f c d 0 0 [] [] _ g
 cases o1 with
 | o0 _ _ _ _ _ _ _ _ _ _ =>
  (try dsimp only at b)
  (try simp only [NM,EE,R31_s1.st] at a)
  cases b
 | o1 _ _ _ _ _ _ _ _ _ _ =>
  (try dsimp only at b)
  (try simp only [NM,EE,R31_s1.st] at a)
  cases b
 | o2 _ _ _ _ _ _ _ _ _ _ _ =>
  (try dsimp only at b)
  (try simp only [NM,EE,R31_s1.st] at a)
  cases b
 | o3 _ _ _ _ _ _ _ _ _ _ =>
  (try dsimp only at b)
  (try simp only [NM,EE,R31_s1.st] at a)
  cases b
 | o4 u v w x y z h i =>
  (try dsimp only at b)
  (try simp only [NM,EE,R31_s1.st] at a)
  cases b
  simp (disch:=first|apply D;decide|apply K;kernel_rfl) only [E,EE,↓reduceIte,simprocAttr,R31_s1.st,t_28,fin31,R31.st,a]
 | o5 _ _ _ _ _ _ _ _ _ _ =>
  (try dsimp only at b)
  (try simp only [NM,EE,R31_s1.st] at a)
  cases b
 | o6 _ _ _ _ _ _ _ _ _ =>
  (try dsimp only at b)
  (try simp only [NM,EE,R31_s1.st] at a)
  cases b
 | o7 _ _ _ _ _ _ _ _ =>
  (try dsimp only at b)
  (try simp only [NM,EE,R31_s1.st] at a)
  cases b
 | o8 _ _ _ _ _ _ _ _ =>
  (try dsimp only at b)
  (try simp only [NM,EE,R31_s1.st] at a)
  cases b
 | o9 j l m o p q s t =>
  (try dsimp only at b)
  (try simp only [NM,EE,R31_s1.st] at a)
  cases b
  simp (disch:=first|apply D;decide|apply K;kernel_rfl) only [E,EE,↓reduceIte,simprocAttr,R31_s1.st,t_28,fin31,R31.st,a]
 | o10 _ _ _ _ _ _ _ _ _ _ =>
  (try dsimp only at b)
  (try simp only [NM,EE,R31_s1.st] at a)
  cases b
 | o11 _ _ _ _ _ _ _ _ _ =>
  (try dsimp only at b)
  (try simp only [NM,EE,R31_s1.st] at a)
  cases b
 | o12 _ _ _ _ _ _ _ _ =>
  (try dsimp only at b)
  (try simp only [NM,EE,R31_s1.st] at a)
  cases b
 | o13 _ _ _ _ _ _ _ _ =>
  (try dsimp only at b)
  (try simp only [NM,EE,R31_s1.st] at a)
  cases b
noncomputable def f31:Nat→Int→(List Int)→Int→Int→Option R31
 | 0,_,_,_,_=>none
 | k+1,c,d,a,b=>f31_e k (f31 k) c d a b
theorem f31_all (k:Nat):(∀ (d:Int) (e:List Int) (a b:Int) (r:R31),f31 k d e a b=some r→CV k 31 [.ptr 1000000 0,jI d] [.box 68 [.sl 1 (rowsOf (encI .u8) e),jI a,jI b]]=some r.st):=by
 induction k with
 | zero=>exact (by intro d e a b r f;rw [f31] at f;cases f)
 | succ k g =>
  have ih_f31_pi_brii:=g
  exact (by intro d e a b r f;rw [f31] at f;unfold CV;rw [ev_call (F:=Tryd.f31) (c:=(nav B31 [])) rfl Tryd.func31 rfl rfl rfl rfl];exact f31_e_ok k (f31 k) ih_f31_pi_brii d e a b r f)
theorem f31_ok (k c d a b r) (e:f31 k c d a b=some r):CV k 31 [.ptr 1000000 0,jI c] [.box 68 [.sl 1 (rowsOf (encI .u8) d),jI a,jI b]]=some r.st:=f31_all k c d a b r e
end Go.Proofs.YtlelaenalbkbmaaDoorV