/- What the program's functions answer: plain functions,and that the interpreter answers what they do. Written by a program of this session,out of the translation. -/
import Derived.Test.YtbnnmplkbpgcaaaDoorVP11
namespace Go.Proofs.YtbnnmplkbpgcaaaDoorV
open Go
set_option linter.unusedVariables false
set_option linter.unusedSimpArgs false
set_option maxRecDepth 8000
set_option maxHeartbeats 4000000
-- f29: f29 heliograph/heliographref07.Decode
inductive R29 where
 | o0 (y a:Int) (b:List Int) (c d:Int) (e:List T50)
noncomputable def R29.st:R29→V×List O×List O
 | .o0 y a b c d e=>(V.tup [.agg [jI y,jL a,jB b,.own 2000000],jI c,jI d],[],[.row true 4 50 (rowsOf encT50 e)])
inductive R29_l7 where
 | o0 (y a b c:Int) (d:List Int) (e:List T50)
 | o1 (y:List Int) (a b c d e i:Int) (j:List Int) (l:List T50) (m f:Int) (g:List Int) (h:List T50)
 | o2 (y:List Int) (a b c d:Int) (e:Bool) (i j:Int) (l:List Int) (m:List T50) (f g:Int) (h:List Int) (o:List T50)
noncomputable def R29_l7.st:R29_l7→Out×St
 | .o0 y a b c d e=>(.ret,(⟨150,[(4,.ptr 30000 0),(5,jI y),(6,jI a)],[(30000,.box 50 [jI b,jL c,jB d,.own 701665]),(701665,.row true 4 50 (rowsOf encT50 e))]⟩:St))
 | .o1 y a b c d e i j l m f g h=>(.norm,(⟨150,[(0,jB y),(1,jI a),(4,.ptr 30000 0),(9,jL b),(10,jI c),(12,.ptr 30002 0),(13,jL d)],[(30000,.box 50 [jI e,jL i,jB j,.own 30001]),(30001,.row true 4 50 (rowsOf encT50 l)),(30002,.box 50 [jI m,jL f,jB g,.own 109]),(109,.row true 4 50 (rowsOf encT50 h))]⟩:St))
 | .o2 y a b c d e i j l m f g h o=>(.exit 0,(⟨150,[(0,jB y),(1,jI a),(4,.ptr 30000 0),(9,jL b),(10,jI c),(12,.ptr 30002 0),(13,jL d),(88,jT e)],[(30000,.box 50 [jI i,jL j,jB l,.own 30001]),(30001,.row true 4 50 (rowsOf encT50 m)),(30002,.box 50 [jI f,jL g,jB h,.own 30003]),(30003,.row true 4 50 (rowsOf encT50 o))]⟩:St))
abbrev Ff29_ri:=(List Int)→Int→Option R29
noncomputable def f29_l7_j3 (k:Nat) (Q:Ff29_ri) (l:List Int) (m o f g h a:Int) (b:List Int) (i:List T50) (j c:Int) (d:List Int) (e:List T50):Option R29_l7 :=
 some (.o1 l m o f (IntKind.u64.wrap (g+(1:Int))) h a b i j c d e)
def If29_ri (k:Nat) (Q:Ff29_ri):Prop:=∀ (l:List Int) (m:Int) (r:R29),Q l m=some r→CV k 29 [jB l,jI m] []=some r.st
theorem f29_l7_j3_ok (k:Nat) (Q:Ff29_ri) (H:If29_ri k Q) (o:List Int) (p q f g h a:Int) (b:List Int) (i:List T50) (j c:Int) (d:List Int) (e:List T50) (r:R29_l7) (s:f29_l7_j3 k Q o p q f g h a b i j c d e=some r):EX 29 k (nav B29 [2,2,1,2,2,1,2,2,2,2,1,2,2,2,2,2,2,2]) (⟨150,[(0,jB o),(1,jI p),(4,.ptr 30000 0),(9,jL q),(10,jI f),(12,.ptr 30002 0),(13,jL g)],[(30000,.box 50 [jI h,jL a,jB b,.own 30001]),(30001,.row true 4 50 (rowsOf encT50 i)),(30002,.box 50 [jI j,jL c,jB d,.own 109]),(109,.row true 4 50 (rowsOf encT50 e))]⟩:St)=some r.st:=by
 unfold f29_l7_j3 at s
 cases s
 simp (disch:=first|apply D;decide|apply K;kernel_rfl) only [W,simprocAttr,rg B29 [2,2,1,2,2,1,2,2,2,2,1,2,2,2,2,2,2,2] 23 false rfl,hr 29 23 rfl,R29_l7.st]
noncomputable def f29_l7_j2 (k:Nat) (Q:Ff29_ri) (t:List Int) (u v h i j w:Int) (s:Bool) (l a:Int) (b:List Int) (m:List T50) (o c:Int) (d:List Int) (g:List T50) (p e:Int) (f:List Int) (q:List T50):Option R29_l7 :=
 ifE (((List.length g)+1) * 64≤roomy) (
  f29_l7_j3 k Q t u v (IntKind.i64.wrap (h+j)) i l a b m o c d (g++([(T50.mk p e f q)]:List T50)))
theorem f29_l7_j2_ok (k:Nat) (Q:Ff29_ri) (H:If29_ri k Q) (v:List Int) (w x j l m t:Int) (i:Bool) (o c:Int) (d:List Int) (p:List T50) (q e:Int) (f:List Int) (s:List T50) (g a:Int) (b:List Int) (h:List T50) (r:R29_l7) (u:f29_l7_j2 k Q v w x j l m t i o c d p q e f s g a b h=some r):SQ 29 k (nav B29 [2,2,1,2,2,1,2,2,2,2,1,2,2,2,2,2,2,2]) (blockK 1 (EX 29 k (nav B29 [2,2,2,1,2,1,2,2,1,2,2,2,2,1,2,2,2,2,2,2,2]) (⟨150,[(0,jB v),(1,jI w),(4,.ptr 30000 0),(9,jL x),(10,jI j),(12,.ptr 30002 0),(13,jL l),(14,.ptr 14 0),(15,jI m),(16,jI t),(102,jT i)],[(30000,.box 50 [jI o,jL c,jB d,.own 30001]),(30001,.row true 4 50 (rowsOf encT50 p)),(30002,.box 50 [jI q,jL e,jB f,.own 30003]),(30003,.row true 4 50 (rowsOf encT50 s)),(14,.box 50 [jI g,jL a,jB b,.own 97]),(97,.row true 4 50 (rowsOf encT50 h))]⟩:St)))=some r.st:=by
 unfold f29_l7_j2 at u
 have n:[[jI g,jL a,jB b,.sl 4 (rowsOf encT50 h)]]=rowsOf encT50 ([(T50.mk g a b h)]:List T50):=by first | rfl | simp only [jB,rowsOf,List.map_cons,List.map_nil,encT50_eq]
 have q2:List.map (tell [0,0,1,4]) (rowsOf encT50 ([(T50.mk g a b h)]:List T50))=rowsOf encT50 ([(T50.mk g a b h)]:List T50):=by first | rfl | simp only [jB,rowsOf,List.map_cons,List.map_nil,encT50_eq]
 obtain ⟨h3,u⟩:=ifE_some.1 u
 have hJ:=f29_l7_j3_ok k Q H v w x (IntKind.i64.wrap (j+m)) l o c d p q e f (s++([(T50.mk g a b h)]:List T50)) _ u
 simp (disch:=first|apply D;decide|apply K;kernel_rfl) only [W,simprocAttr,xk B29 [2,2,2,1,2,1,2,2,1,2,2,2,2,1,2,2,2,2,2,2,2] .sq rfl,rg B29 [1,2,2,2,1,2,1,2,2,1,2,2,2,2,1,2,2,2,2,2,2,2] 27 false rfl,hr 29 27 rfl,fieldAddrV,t_50,t_48,buildSliceV,fillRows,sm_50,appendV,content,rg B29 [2,2,2,2,1,2,1,2,2,1,2,2,2,2,1,2,2,2,2,2,2,2] 28 false rfl,hr 29 28 rfl,n,q2,h3]
 try simp only [NM,EE] at hJ
 exact hJ
noncomputable def f29_l7_j1 (k:Nat) (Q:Ff29_ri) (g:List Int) (p q a h:Int) (s:Bool) (i b:Int) (c:List Int) (j:List T50) (l d:Int) (e:List Int) (m:List T50):Option R29_l7 :=
 ifE ((0:Int)≤a) (
  ifE ((Int.toNat a)≤(List.length g)) (
   Option.bind (Q ((List.drop (Int.toNat a) (List.take (List.length g) g))) (IntKind.i64.wrap (p - (1:Int)))) fun o3 =>
    match o3 with
    | .o0 t u v w f o =>
     cond ((f != 0))
      (some (.o0 0 f 0 0 [] []))
      (f29_l7_j2 k Q g p q a h w f false i b c j l d e m t u v o)))
theorem f29_l7_j1_ok (k:Nat) (Q:Ff29_ri) (H:If29_ri k Q) (p:List Int) (s t f h:Int) (q:Bool) (i a:Int) (b:List Int) (j:List T50) (l c:Int) (d:List Int) (m:List T50) (r:R29_l7) (e:f29_l7_j1 k Q p s t f h q i a b j l c d m=some r):EX 29 k (nav B29 [2,1,2,2,1,2,2,2,2,1,2,2,2,2,2,2,2]) (⟨150,[(0,jB p),(1,jI s),(4,.ptr 30000 0),(9,jL t),(10,jI f),(12,.ptr 30002 0),(13,jL h),(88,jT q)],[(30000,.box 50 [jI i,jL a,jB b,.own 30001]),(30001,.row true 4 50 (rowsOf encT50 j)),(30002,.box 50 [jI l,jL c,jB d,.own 30003]),(30003,.row true 4 50 (rowsOf encT50 m))]⟩:St)=some r.st:=by
 unfold f29_l7_j1 at e
 obtain ⟨u,e⟩:=ifE_some.1 e
 obtain ⟨v,e⟩:=ifE_some.1 e
 obtain ⟨o3,n,e⟩:=bs e
 have g:=H ((List.drop (Int.toNat f) (List.take (List.length p) p))) (IntKind.i64.wrap (s - (1:Int))) _ n
 cases o3 with
 | o0 v6 v7 v8 v9 w x =>
  (try dsimp only at e)
  (try simp only [NM,EE,R29.st] at g)
  simp (disch:=first|apply D;decide|apply K;kernel_rfl) only [W,simprocAttr,xk B29 [2,1,2,2,1,2,2,2,2,1,2,2,2,2,2,2,2] .sq rfl,xk B29 [1,2,1,2,2,1,2,2,2,2,1,2,2,2,2,2,2,2] (.bk 1) rfl,xk B29 [2,1,2,1,2,2,1,2,2,2,2,1,2,2,2,2,2,2,2] .sq rfl,rg B29 [1,2,1,2,1,2,2,1,2,2,2,2,1,2,2,2,2,2,2,2] 24 false rfl,hr 29 24 rfl,sliceV,bound,t_22,t_5,callStep,CL,gv,List.contains,t_50,xk B29 [2,2,1,2,1,2,2,1,2,2,2,2,1,2,2,2,2,2,2,2] .sq rfl,xk B29 [1,2,2,1,2,1,2,2,1,2,2,2,2,1,2,2,2,2,2,2,2] .sq rfl,rg B29 [1,1,2,2,1,2,1,2,2,1,2,2,2,2,1,2,2,2,2,2,2,2] 25 false rfl,hr 29 25 rfl,xk B29 [2,1,2,2,1,2,1,2,2,1,2,2,2,2,1,2,2,2,2,2,2,2] (.cd 102) rfl,u,v,g]
  rcases cond_some e with ⟨o,e⟩ | ⟨o,e⟩
  ·cases e
   simp (disch:=first|apply D;decide|apply K;kernel_rfl) only [W,simprocAttr,xk B29 [2,2,1,2,2,1,2,1,2,2,1,2,2,2,2,1,2,2,2,2,2,2,2] .sq rfl,rg B29 [1,2,2,1,2,2,1,2,1,2,2,1,2,2,2,2,1,2,2,2,2,2,2,2] 26 false rfl,hr_29_26,bl_50,t_50,xk B29 [2,2,2,1,2,2,1,2,1,2,2,1,2,2,2,2,1,2,2,2,2,2,2,2] .rt rfl,R29_l7.st,u,v,g,o]
  ·have hJ:=f29_l7_j2_ok k Q H p s t f h v9 w false i a b j l c d m v6 v7 v8 x _ e
   simp (disch:=first|apply D;decide|apply K;kernel_rfl) only [W,simprocAttr,xk B29 [3,2,1,2,2,1,2,1,2,2,1,2,2,2,2,1,2,2,2,2,2,2,2] .sk rfl,u,v,g,o]
   try simp only [NM,EE] at hJ
   exact hJ
noncomputable def f29_l7_b (k:Nat) (Q:Ff29_ri) (m:List Int) (o l f e g a:Int) (b:List Int) (h:List T50) (i c:Int) (d:List Int) (j:List T50):Option R29_l7 :=
 cond ((decide (e<l)))
  (f29_l7_j1 k Q m o l f e true g a b h i c d j)
  (some (.o2 m o l f e false g a b h i c d j))
theorem f29_l7_b_ok (k:Nat) (Q:Ff29_ri) (H:If29_ri k Q) (m:List Int) (o p e f g a:Int) (b:List Int) (h:List T50) (i c:Int) (d:List Int) (j:List T50) (r:R29_l7) (l:f29_l7_b k Q m o p e f g a b h i c d j=some r):EX 29 k (nav B29 [1,2,2,1,2,2,2,2,1,2,2,2,2,2,2,2]) (⟨150,[(0,jB m),(1,jI o),(4,.ptr 30000 0),(9,jL p),(10,jI e),(12,.ptr 30002 0),(13,jL f)],[(30000,.box 50 [jI g,jL a,jB b,.own 30001]),(30001,.row true 4 50 (rowsOf encT50 h)),(30002,.box 50 [jI i,jL c,jB d,.own 30003]),(30003,.row true 4 50 (rowsOf encT50 j))]⟩:St)=some r.st:=by
 unfold f29_l7_b at l
 simp (disch:=first|apply D;decide|apply K;kernel_rfl) only [W,simprocAttr,xk B29 [1,2,2,1,2,2,2,2,1,2,2,2,2,2,2,2] .sq rfl,xk B29 [1,1,2,2,1,2,2,2,2,1,2,2,2,2,2,2,2] .sq rfl,rg B29 [1,1,1,2,2,1,2,2,2,2,1,2,2,2,2,2,2,2] 22 false rfl,hr 29 22 rfl,xk B29 [2,1,1,2,2,1,2,2,2,2,1,2,2,2,2,2,2,2] (.cd 88) rfl]
 rcases cond_some l with ⟨q,l⟩ | ⟨q,l⟩
 ·have hJ:=f29_l7_j1_ok k Q H m o p e f true g a b h i c d j _ l
  simp (disch:=first|apply D;decide|apply K;kernel_rfl) only [W,simprocAttr,xk B29 [2,2,1,1,2,2,1,2,2,2,2,1,2,2,2,2,2,2,2] .sk rfl,q]
  try simp only [NM,EE] at hJ
  exact hJ
 ·cases l
  simp (disch:=first|apply D;decide|apply K;kernel_rfl) only [W,simprocAttr,xk B29 [3,2,1,1,2,2,1,2,2,2,2,1,2,2,2,2,2,2,2] (.ex 0) rfl,R29_l7.st,q]
noncomputable def f29_l7 (k:Nat) (Q:Ff29_ri):Nat→(List Int)→Int→Int→Int→Int→Int→Int→(List Int)→(List T50)→Int→Int→(List Int)→(List T50)→Option R29_l7
 | 0,_,_,_,_,_,_,_,_,_,_,_,_,_=>none
 | n+1,x0,x1,x9,v,w,x,i,j,z,r,l,m,aa=>Option.bind (f29_l7_b k Q x0 x1 x9 v w x i j z r l m aa) fun o =>
  match o with
  | .o0 y a b c d e=>some (.o0 y a b c d e)
  | .o1 y a b c d e p q s t f g h=>f29_l7 k Q n y a b c d e p q s t f g h
  | .o2 y a b c d e p q s t f g h u=>some (.o2 y a b c d e p q s t f g h u)
theorem f29_l7_ok (k:Nat) (Q:Ff29_ri) (H:If29_ri k Q) (n:Nat):∀ (z:List Int) (x1 x9 e f g a:Int) (b:List Int) (i:List T50) (j c:Int) (d:List Int) (l:List T50) (r:R29_l7) (m:f29_l7 k Q n z x1 x9 e f g a b i j c d l=some r) (σ:St) (hσ:headR (hints.head 29 22) (hints.canon 29 22) σ=some (⟨150,[(0,jB z),(1,jI x1),(4,.ptr 30000 0),(9,jL x9),(10,jI e),(12,.ptr 30002 0),(13,jL f)],[(30000,.box 50 [jI g,jL a,jB b,.own 30001]),(30001,.row true 4 50 (rowsOf encT50 i)),(30002,.box 50 [jI j,jL c,jB d,.own 30003]),(30003,.row true 4 50 (rowsOf encT50 l))]⟩:St)),LP 29 k (nav B29 [1,2,2,1,2,2,2,2,1,2,2,2,2,2,2,2]) n σ=some r.st:=by
 induction n with
 | zero=>intro z x1 x9 e f g a b i j c d l r m;cases m
 | succ n ih =>
  intro z x1 x9 e f g a b i j c d l r m σ hσ
  rw [f29_l7] at m
  obtain ⟨o,h,m⟩:=Option.bind_eq_some_iff.1 m
  have hB:=f29_l7_b_ok k Q H z x1 x9 e f g a b i j c d l o h
  unfold LP at ih ⊢
  unfold EX at hB
  rw [loopK_succ,show firstReg (nav B29 [1,2,2,1,2,2,2,2,1,2,2,2,2,2,2,2])=22 from rfl,hσ,headK_some,hB]
  cases o with
  | o0 y t u v w x=>cases m;rfl
  | o1 y t u v w x ac ad ae af p q s =>
   refine ih y t u v w x ac ad ae af p q s r m _ ?_
   simp (disch:=first|apply D;decide|apply K;kernel_rfl) only [W,simprocAttr,hh_29_22,hc_29_22]
  | o2 y t u v w x ac ad ae af p q s aj=>cases m;rfl
noncomputable def f29_j8 (k:Nat) (Q:Ff29_ri) (m:List Int) (o p c h:Int) (i:Bool) (j d:Int) (e:List Int) (l:List T50) (f a:Int) (b:List Int) (g:List T50):Option R29 :=
 some (.o0 f a b c 0 g)
theorem f29_j8_ok (k:Nat) (Q:Ff29_ri) (H:If29_ri k Q) (p:List Int) (q s e f:Int) (g:Bool) (h a:Int) (b:List Int) (i:List T50) (j c:Int) (d:List Int) (l:List T50) (r:R29) (t:f29_j8 k Q p q s e f g h a b i j c d l=some r):finK Tryd.prog Tryd.f29 0 (SQ 29 k (nav B29 [2,2,2,2,2,2,2,2]) (EX 29 k (nav B29 [2,2,2,2,2,1,2,2,2,2,2,2,2]) (⟨150,[(0,jB p),(1,jI q),(4,.ptr 30000 0),(9,jL s),(10,jI e),(12,.ptr 30002 0),(13,jL f),(88,jT g)],[(30000,.box 50 [jI h,jL a,jB b,.own 30001]),(30001,.row true 4 50 (rowsOf encT50 i)),(30002,.box 50 [jI j,jL c,jB d,.own 30003]),(30003,.row true 4 50 (rowsOf encT50 l))]⟩:St)))=some r.st:=by
 unfold f29_j8 at t
 cases t
 simp (disch:=first|apply D;decide|apply K;kernel_rfl) only [W,simprocAttr,xk B29 [2,2,2,2,2,1,2,2,2,2,2,2,2] .sq rfl,rg B29 [1,2,2,2,2,2,1,2,2,2,2,2,2,2] 29 false rfl,hr 29 29 rfl,t_50,xk B29 [2,2,2,2,2,2,1,2,2,2,2,2,2,2] .rt rfl,fin29,R29.st]
noncomputable def f29_j6 (k:Nat) (Q:Ff29_ri) (u:List Int) (v w c:Int) (x:Bool) (y a:Int) (b:List Int) (z:List T50):Option R29 :=
 Option.bind (f29_l7 k Q k u v w c 0 y a b z 4 0 [] []) fun o1 =>
  match o1 with
  | .o0 r n v6 v7 v8 v9 =>
   some (.o0 v6 v7 v8 r n v9)
  | .o1 _ _ _ _ _ _ _ _ _ _ _ _ _ =>
   none
  | .o2 d e f g h i j l m o p q s t =>
   f29_j8 k Q d e f g h i j l m o p q s t
theorem f29_j6_ok (k:Nat) (Q:Ff29_ri) (H:If29_ri k Q) (g:List Int) (h i d:Int) (f:Bool) (j a:Int) (b:List Int) (l:List T50) (r:R29) (c:f29_j6 k Q g h i d f j a b l=some r):finK Tryd.prog Tryd.f29 0 (SQ 29 k (nav B29 [2,2,2,2,2,2,2,2]) (EX 29 k (nav B29 [2,2,2,1,2,2,2,2,2,2,2]) (⟨150,[(0,jB g),(1,jI h),(4,.ptr 4 0),(9,jL i),(10,jI d),(83,jT f)],[(4,.box 50 [jI j,jL a,jB b,.own 700001]),(700001,.row true 4 50 (rowsOf encT50 l))]⟩:St)))=some r.st:=by
 unfold f29_j6 at c
 obtain ⟨o1,h2,c⟩:=bs c
 have e:=f29_l7_ok k Q H k g h i d 0 j a b l 4 0 [] [] _ h2
 simp (disch:=first|apply D;decide|apply K;kernel_rfl) only [W,simprocAttr,xk B29 [2,2,2,1,2,2,2,2,2,2,2] .sq rfl,rg B29 [1,2,2,2,1,2,2,2,2,2,2,2] 20 false rfl,hr_29_20,bl_50,t_50,xk B29 [2,2,2,2,1,2,2,2,2,2,2,2] .sq rfl,xk B29 [1,2,2,2,2,1,2,2,2,2,2,2,2] .sq rfl,rg B29 [1,1,2,2,2,2,1,2,2,2,2,2,2,2] 21 false rfl,hr 29 21 rfl,xk B29 [2,1,2,2,2,2,1,2,2,2,2,2,2,2] (.bk 0) rfl,xk B29 [2,2,1,2,2,2,2,1,2,2,2,2,2,2,2] .lp rfl,hh_29_22,hc_29_22]
 (try simp only [NM,EE] at e)
 rw [e _ (by simp (disch:=first|apply D;decide|apply K;kernel_rfl) only [W,simprocAttr,hh_29_22,hc_29_22])]
 clear e
 cases o1 with
 | o0 v4 v5 v6 v7 v8 v9 =>
  (try dsimp only at c)
  cases c
  simp (disch:=first|apply D;decide|apply K;kernel_rfl) only [W,simprocAttr,R29_l7.st,t_50,fin29,R29.st]
 | o1 _ _ _ _ _ _ _ _ _ _ _ _ _ =>
  (try dsimp only at c)
  cases c
 | o2 m o p q s t u v w x y z n aa =>
  (try dsimp only at c)
  have hJ:=f29_j8_ok k Q H m o p q s t u v w x y z n aa _ c
  simp (disch:=first|apply D;decide|apply K;kernel_rfl) only [W,simprocAttr,R29_l7.st]
  try simp only [NM,EE] at hJ
  exact hJ
noncomputable def f29_j12 (k:Nat) (Q:Ff29_ri) (i d:Int) (f:Bool) (j g:Int) (h:List Int) (l:List T50) (e a:Int) (b:List Int) (c:List T50):Option R29 :=
 some (.o0 e a b (IntKind.i64.wrap (d+(IntKind.i64.wrap i))) 0 c)
theorem f29_j12_ok (k:Nat) (Q:Ff29_ri) (H:If29_ri k Q) (l g:Int) (d:Bool) (m e:Int) (f:List Int) (o:List T50) (h a:Int) (b:List Int) (c:List T50) (r:R29) (p:f29_j12 k Q l g d m e f o h a b c=some r):finK Tryd.prog Tryd.f29 0 (EX 29 k (nav B29 [2,2,2,2,2,2,2,2,2,2,2,2]) (⟨150,[(4,.ptr 4 0),(9,jL l),(10,jI g),(17,.ptr 17 0),(143,jT d)],[(4,.box 50 [jI m,jL e,jB f,.own 700001]),(700001,.row true 4 50 (rowsOf encT50 o)),(17,.box 50 [jI h,jL a,jB b,.own 702176]),(702176,.row true 4 50 (rowsOf encT50 c))]⟩:St))=some r.st:=by
 unfold f29_j12 at p
 cases p
 simp (disch:=first|apply D;decide|apply K;kernel_rfl) only [W,simprocAttr,xk B29 [2,2,2,2,2,2,2,2,2,2,2,2] .sq rfl,rg B29 [1,2,2,2,2,2,2,2,2,2,2,2,2] 37 false rfl,hr 29 37 rfl,t_50,t_47,t_3,convV,xk B29 [2,2,2,2,2,2,2,2,2,2,2,2,2] .rt rfl,fin29,R29.st]
noncomputable def f29_j11 (k:Nat) (Q:Ff29_ri) (e:List Int) (f b a:Int) (g:Bool) (h c:Int) (d:List Int) (i:List T50):Option R29 :=
 ifE ((0:Int)≤a) (
  ifE ((0:Int)≤(IntKind.i64.wrap (a+(IntKind.i64.wrap b)))) (
   ifE ((Int.toNat a)≤(Int.toNat (IntKind.i64.wrap (a+(IntKind.i64.wrap b))))) (
    ifE ((Int.toNat (IntKind.i64.wrap (a+(IntKind.i64.wrap b))))≤(List.length e)) (
     cond ((f==3))
      (
       Option.bind (f49 k ((List.drop (Int.toNat a) (List.take (Int.toNat (IntKind.i64.wrap (a+(IntKind.i64.wrap b)))) e)))) fun o6 =>
        match o6 with
        | .o0 j =>
         cond ((!j))
          (some (.o0 0 0 [] 0 170 []))
          (f29_j12 k Q b a false h c d i f 0 ((List.drop (Int.toNat a) (List.take (Int.toNat (IntKind.i64.wrap (a+(IntKind.i64.wrap b)))) e))) []))
      (f29_j12 k Q b a false h c d i f 0 ((List.drop (Int.toNat a) (List.take (Int.toNat (IntKind.i64.wrap (a+(IntKind.i64.wrap b)))) e))) [])))))
theorem f29_j11_ok (k:Nat) (Q:Ff29_ri) (H:If29_ri k Q) (i:List Int) (q g a:Int) (f:Bool) (s c:Int) (d:List Int) (t:List T50) (r:R29) (b:f29_j11 k Q i q g a f s c d t=some r):finK Tryd.prog Tryd.f29 0 (EX 29 k (nav B29 [2,2,2,2,2,2,2,2,2,2]) (⟨150,[(0,jB i),(4,.ptr 4 0),(7,jI q),(9,jL g),(10,jI a),(125,jT f)],[(4,.box 50 [jI s,jL c,jB d,.own 700001]),(700001,.row true 4 50 (rowsOf encT50 t))]⟩:St))=some r.st:=by
 unfold f29_j11 at b
 obtain ⟨j,b⟩:=ifE_some.1 b
 obtain ⟨l,b⟩:=ifE_some.1 b
 obtain ⟨m,b⟩:=ifE_some.1 b
 obtain ⟨o,b⟩:=ifE_some.1 b
 simp (disch:=first|apply D;decide|apply K;kernel_rfl) only [W,simprocAttr,xk B29 [2,2,2,2,2,2,2,2,2,2] .sq rfl,rg B29 [1,2,2,2,2,2,2,2,2,2,2] 34 false rfl,hr_29_34,t_47,t_3,convV,sliceV,bound,t_22,t_5,bl_50,t_50,xk B29 [2,2,2,2,2,2,2,2,2,2,2] .sq rfl,xk B29 [1,2,2,2,2,2,2,2,2,2,2,2] .sq rfl,rg B29 [1,1,2,2,2,2,2,2,2,2,2,2,2] 35 false rfl,hr 29 35 rfl,j,l,m,o]
 rcases cond_some b with ⟨p,b⟩ | ⟨p,b⟩
 ·obtain ⟨o6,w,b⟩:=bs b
  have e:=f49_ok k ((List.drop (Int.toNat a) (List.take (Int.toNat (IntKind.i64.wrap (a+(IntKind.i64.wrap g)))) i))) _ w
  cases o6 with
  | o0 x =>
   (try dsimp only at b)
   (try simp only [NM,EE,R49.st] at e)
   simp (disch:=first|apply D;decide|apply K;kernel_rfl) only [W,simprocAttr,fieldAddrV,t_50,t_22,callStep,CL,gv,List.contains,xk B29 [2,1,2,2,2,2,2,2,2,2,2,2,2] (.cd 143) rfl,j,l,m,o,p,e]
   rcases cond_some b with ⟨h,b⟩ | ⟨h,b⟩
   ·cases b
    simp (disch:=first|apply D;decide|apply K;kernel_rfl) only [W,simprocAttr,xk B29 [2,2,1,2,2,2,2,2,2,2,2,2,2,2] .sq rfl,rg B29 [1,2,2,1,2,2,2,2,2,2,2,2,2,2,2] 36 false rfl,hr_29_36,bl_50,t_50,xk B29 [2,2,2,1,2,2,2,2,2,2,2,2,2,2,2] .rt rfl,fin29,R29.st,j,l,m,o,p,e,h]
   ·have hJ:=f29_j12_ok k Q H g a false s c d t q 0 ((List.drop (Int.toNat a) (List.take (Int.toNat (IntKind.i64.wrap (a+(IntKind.i64.wrap g)))) i))) [] _ b
    simp (disch:=first|apply D;decide|apply K;kernel_rfl) only [W,simprocAttr,xk B29 [3,2,1,2,2,2,2,2,2,2,2,2,2,2] .sk rfl,j,l,m,o,p,e,h]
    try simp only [NM,EE] at hJ
    exact hJ
 ·have hJ:=f29_j12_ok k Q H g a false s c d t q 0 ((List.drop (Int.toNat a) (List.take (Int.toNat (IntKind.i64.wrap (a+(IntKind.i64.wrap g)))) i))) [] _ b
  simp (disch:=first|apply D;decide|apply K;kernel_rfl) only [W,simprocAttr,xk B29 [2,1,2,2,2,2,2,2,2,2,2,2,2] (.cd 143) rfl,xk B29 [3,2,1,2,2,2,2,2,2,2,2,2,2,2] .sk rfl,j,l,m,o,p]
  try simp only [NM,EE] at hJ
  exact hJ
noncomputable def f29_j10 (k:Nat) (Q:Ff29_ri) (d:List Int) (g e a:Int) (f:Bool) (h b:Int) (c:List Int) (i:List T50):Option R29 :=
 cond ((decide ((IntKind.u64.wrap (IntKind.i64.wrap (((List.length d):Int) - a)))<e)))
  (some (.o0 0 0 [] 0 7 []))
  (f29_j11 k Q d g e a false h b c i)
theorem f29_j10_ok (k:Nat) (Q:Ff29_ri) (H:If29_ri k Q) (f:List Int) (g h d:Int) (c:Bool) (i a:Int) (b:List Int) (j:List T50) (r:R29) (e:f29_j10 k Q f g h d c i a b j=some r):finK Tryd.prog Tryd.f29 0 (EX 29 k (nav B29 [2,2,2,2,2,2,2,2,2]) (⟨150,[(0,jB f),(4,.ptr 4 0),(7,jI g),(9,jL h),(10,jI d),(117,jT c)],[(4,.box 50 [jI i,jL a,jB b,.own 700001]),(700001,.row true 4 50 (rowsOf encT50 j))]⟩:St))=some r.st:=by
 unfold f29_j10 at e
 simp (disch:=first|apply D;decide|apply K;kernel_rfl) only [W,simprocAttr,xk B29 [2,2,2,2,2,2,2,2,2] .sq rfl,xk B29 [1,2,2,2,2,2,2,2,2,2] .sq rfl,rg B29 [1,1,2,2,2,2,2,2,2,2,2] 32 false rfl,hr 29 32 rfl,t_22,t_3,t_47,convV,xk B29 [2,1,2,2,2,2,2,2,2,2,2] (.cd 125) rfl]
 rcases cond_some e with ⟨l,e⟩ | ⟨l,e⟩
 ·cases e
  simp (disch:=first|apply D;decide|apply K;kernel_rfl) only [W,simprocAttr,xk B29 [2,2,1,2,2,2,2,2,2,2,2,2] .sq rfl,rg B29 [1,2,2,1,2,2,2,2,2,2,2,2,2] 33 false rfl,hr_29_33,bl_50,t_50,xk B29 [2,2,2,1,2,2,2,2,2,2,2,2,2] .rt rfl,fin29,R29.st,l]
 ·have hJ:=f29_j11_ok k Q H f g h d false i a b j _ e
  simp (disch:=first|apply D;decide|apply K;kernel_rfl) only [W,simprocAttr,xk B29 [3,2,1,2,2,2,2,2,2,2,2,2] .sk rfl,l]
  try simp only [NM,EE] at hJ
  exact hJ
noncomputable def f29_j9 (k:Nat) (Q:Ff29_ri) (e:List Int) (j f d c:Int) (g:Bool) (h a:Int) (b:List Int) (i:List T50):Option R29 :=
 cond ((decide (d>512)))
  (some (.o0 0 0 [] 0 170 []))
  (f29_j10 k Q e f d c false h a b i)
theorem f29_j9_ok (k:Nat) (Q:Ff29_ri) (H:If29_ri k Q) (f:List Int) (p g h c:Int) (e:Bool) (i a:Int) (b:List Int) (j:List T50) (r:R29) (d:f29_j9 k Q f p g h c e i a b j=some r):finK Tryd.prog Tryd.f29 0 (EX 29 k (nav B29 [2,2,2,2,2,2,2,2]) (⟨150,[(0,jB f),(1,jI p),(4,.ptr 4 0),(7,jI g),(9,jL h),(10,jI c),(81,jT e)],[(4,.box 50 [jI i,jL a,jB b,.own 700001]),(700001,.row true 4 50 (rowsOf encT50 j))]⟩:St))=some r.st:=by
 unfold f29_j9 at d
 simp (disch:=first|apply D;decide|apply K;kernel_rfl) only [W,simprocAttr,xk B29 [2,2,2,2,2,2,2,2] .sq rfl,xk B29 [1,2,2,2,2,2,2,2,2] .sq rfl,rg B29 [1,1,2,2,2,2,2,2,2,2] 30 false rfl,hr 29 30 rfl,xk B29 [2,1,2,2,2,2,2,2,2,2] (.cd 117) rfl]
 rcases cond_some d with ⟨l,d⟩ | ⟨l,d⟩
 ·cases d
  simp (disch:=first|apply D;decide|apply K;kernel_rfl) only [W,simprocAttr,xk B29 [2,2,1,2,2,2,2,2,2,2,2] .sq rfl,rg B29 [1,2,2,1,2,2,2,2,2,2,2,2] 31 false rfl,hr_29_31,bl_50,t_50,xk B29 [2,2,2,1,2,2,2,2,2,2,2,2] .rt rfl,fin29,R29.st,l]
 ·have hJ:=f29_j10_ok k Q H f g h c false i a b j _ d
  simp (disch:=first|apply D;decide|apply K;kernel_rfl) only [W,simprocAttr,xk B29 [3,2,1,2,2,2,2,2,2,2,2] .sk rfl,l]
  try simp only [NM,EE] at hJ
  exact hJ
noncomputable def f29_j5 (k:Nat) (Q:Ff29_ri) (e:List Int) (f g d c:Int) (j:Bool) (h a:Int) (b:List Int) (i:List T50):Option R29 :=
 cond ((g==4))
  (
   cond ((decide (d>64)))
    (some (.o0 0 0 [] 0 170 []))
    (f29_j6 k Q e f d c false h a b i))
  (f29_j9 k Q e f g d c false h a b i)
theorem f29_j5_ok (k:Nat) (Q:Ff29_ri) (H:If29_ri k Q) (g:List Int) (h m i d:Int) (e:Bool) (j a:Int) (b:List Int) (l:List T50) (r:R29) (c:f29_j5 k Q g h m i d e j a b l=some r):finK Tryd.prog Tryd.f29 0 (EX 29 k (nav B29 [2,2,2,2,2,2,2]) (⟨150,[(0,jB g),(1,jI h),(4,.ptr 4 0),(7,jI m),(9,jL i),(10,jI d),(76,jT e)],[(4,.box 50 [jI j,jL a,jB b,.own 700001]),(700001,.row true 4 50 (rowsOf encT50 l))]⟩:St))=some r.st:=by
 unfold f29_j5 at c
 simp (disch:=first|apply D;decide|apply K;kernel_rfl) only [W,simprocAttr,xk B29 [2,2,2,2,2,2,2] .sq rfl,xk B29 [1,2,2,2,2,2,2,2] .sq rfl,rg B29 [1,1,2,2,2,2,2,2,2] 17 false rfl,hr 29 17 rfl,xk B29 [2,1,2,2,2,2,2,2,2] (.cd 81) rfl]
 rcases cond_some c with ⟨f,c⟩ | ⟨f,c⟩
 ·simp (disch:=first|apply D;decide|apply K;kernel_rfl) only [W,simprocAttr,xk B29 [2,2,1,2,2,2,2,2,2,2] .sq rfl,xk B29 [1,2,2,1,2,2,2,2,2,2,2] .sq rfl,rg B29 [1,1,2,2,1,2,2,2,2,2,2,2] 18 false rfl,hr 29 18 rfl,xk B29 [2,1,2,2,1,2,2,2,2,2,2,2] (.cd 83) rfl,f]
  rcases cond_some c with ⟨o,c⟩ | ⟨o,c⟩
  ·cases c
   simp (disch:=first|apply D;decide|apply K;kernel_rfl) only [W,simprocAttr,xk B29 [2,2,1,2,2,1,2,2,2,2,2,2,2] .sq rfl,rg B29 [1,2,2,1,2,2,1,2,2,2,2,2,2,2] 19 false rfl,hr_29_19,bl_50,t_50,xk B29 [2,2,2,1,2,2,1,2,2,2,2,2,2,2] .rt rfl,fin29,R29.st,f,o]
  ·have hJ:=f29_j6_ok k Q H g h i d false j a b l _ c
   simp (disch:=first|apply D;decide|apply K;kernel_rfl) only [W,simprocAttr,xk B29 [3,2,1,2,2,1,2,2,2,2,2,2,2] .sk rfl,f,o]
   try simp only [NM,EE] at hJ
   exact hJ
 ·have hJ:=f29_j9_ok k Q H g h m i d false j a b l _ c
  simp (disch:=first|apply D;decide|apply K;kernel_rfl) only [W,simprocAttr,xk B29 [3,2,1,2,2,2,2,2,2,2] .sk rfl,f]
  try simp only [NM,EE] at hJ
  exact hJ
noncomputable def f29_j4 (k:Nat) (Q:Ff29_ri) (f:List Int) (g d e a:Int) (h:Bool) (i b:Int) (c:List Int) (j:List T50):Option R29 :=
 cond ((d==0))
  (some (.o0 1 e [] a 0 []))
  (f29_j5 k Q f g d e a false i b c j)
theorem f29_j4_ok (k:Nat) (Q:Ff29_ri) (H:If29_ri k Q) (f:List Int) (g h i c:Int) (e:Bool) (j a:Int) (b:List Int) (l:List T50) (r:R29) (d:f29_j4 k Q f g h i c e j a b l=some r):finK Tryd.prog Tryd.f29 0 (EX 29 k (nav B29 [2,2,2,2,2,2]) (⟨150,[(0,jB f),(1,jI g),(4,.ptr 4 0),(7,jI h),(9,jL i),(10,jI c),(73,jT e)],[(4,.box 50 [jI j,jL a,jB b,.own 700001]),(700001,.row true 4 50 (rowsOf encT50 l))]⟩:St))=some r.st:=by
 unfold f29_j4 at d
 simp (disch:=first|apply D;decide|apply K;kernel_rfl) only [W,simprocAttr,xk B29 [2,2,2,2,2,2] .sq rfl,xk B29 [1,2,2,2,2,2,2] .sq rfl,rg B29 [1,1,2,2,2,2,2,2] 15 false rfl,hr 29 15 rfl,xk B29 [2,1,2,2,2,2,2,2] (.cd 76) rfl]
 rcases cond_some d with ⟨m,d⟩ | ⟨m,d⟩
 ·cases d
  simp (disch:=first|apply D;decide|apply K;kernel_rfl) only [W,simprocAttr,xk B29 [2,2,1,2,2,2,2,2,2] .sq rfl,rg B29 [1,2,2,1,2,2,2,2,2,2] 16 false rfl,hr_29_16,bl_50,t_50,xk B29 [2,2,2,1,2,2,2,2,2,2] .rt rfl,fin29,R29.st,m]
 ·have hJ:=f29_j5_ok k Q H f g h i c false j a b l _ d
  simp (disch:=first|apply D;decide|apply K;kernel_rfl) only [W,simprocAttr,xk B29 [3,2,1,2,2,2,2,2,2] .sk rfl,m]
  try simp only [NM,EE] at hJ
  exact hJ
noncomputable def f29_j3 (k:Nat) (Q:Ff29_ri) (d:List Int) (g h a:Int) (i:Bool) (j b:Int) (c:List Int) (l:List T50):Option R29 :=
 ifE ((0:Int)≤(IntKind.i64.wrap ((1:Int)+a))) (
  ifE (1≤(Int.toNat (IntKind.i64.wrap ((1:Int)+a)))) (
   ifE ((Int.toNat (IntKind.i64.wrap ((1:Int)+a)))≤(List.length d)) (
    Option.bind (f48 k (List.drop 1 (List.take (Int.toNat (IntKind.i64.wrap ((1:Int)+a))) d))) fun o4 =>
     match o4 with
     | .o0 f =>
      Option.bind (f39 k 0 f) fun o8 =>
       match o8 with
       | .o0 e =>
        cond ((((List.length e):Int) != (IntKind.i64.wrap ((1:Int)+a))))
         (some (.o0 0 0 [] 0 170 []))
         (f29_j4 k Q d g h f (IntKind.i64.wrap ((1:Int)+a)) false j b c l))))
theorem f29_j3_ok (k:Nat) (Q:Ff29_ri) (H:If29_ri k Q) (i:List Int) (j l e:Int) (h:Bool) (m c:Int) (d:List Int) (o:List T50) (r:R29) (a:f29_j3 k Q i j l e h m c d o=some r):finK Tryd.prog Tryd.f29 0 (SQ 29 k (nav B29 [2,2,2,2,2,2]) (EX 29 k (nav B29 [2,2,2,2,1,2,2,2,2,2]) (⟨150,[(0,jB i),(1,jI j),(4,.ptr 4 0),(7,jI l),(11,jI e),(60,jT h)],[(4,.box 50 [jI m,jL c,jB d,.own 700001]),(700001,.row true 4 50 (rowsOf encT50 o))]⟩:St)))=some r.st:=by
 unfold f29_j3 at a
 obtain ⟨p,a⟩:=ifE_some.1 a
 obtain ⟨q,a⟩:=ifE_some.1 a
 obtain ⟨s,a⟩:=ifE_some.1 a
 obtain ⟨o4,w,a⟩:=bs a
 have f:=f48_ok k (List.drop 1 (List.take (Int.toNat (IntKind.i64.wrap ((1:Int)+e))) i)) _ w
 cases o4 with
 | o0 v =>
  (try dsimp only at a)
  (try simp only [NM,EE,R48.st] at f)
  obtain ⟨o8,x,a⟩:=bs a
  have b:=f39_ok k 0 v _ x
  cases o8 with
  | o0 y =>
   (try dsimp only at a)
   (try simp only [NM,EE,R39.st] at b)
   simp (disch:=first|apply D;decide|apply K;kernel_rfl) only [W,simprocAttr,xk B29 [2,2,2,2,1,2,2,2,2,2] .sq rfl,rg B29 [1,2,2,2,2,1,2,2,2,2,2] 11 false rfl,hr 29 11 rfl,sliceV,bound,t_22,t_5,callStep,CL,gv,List.contains,xk B29 [2,2,2,2,2,1,2,2,2,2,2] .sq rfl,rg B29 [1,2,2,2,2,2,1,2,2,2,2,2] 12 false rfl,hr 29 12 rfl,xk B29 [2,2,2,2,2,2,1,2,2,2,2,2] .sq rfl,rg B29 [1,2,2,2,2,2,2,1,2,2,2,2,2] 13 false rfl,hr 29 13 rfl,xk B29 [2,2,2,2,2,2,2,1,2,2,2,2,2] (.cd 73) rfl,p,q,s,f,b]
   rcases cond_some a with ⟨g,a⟩ | ⟨g,a⟩
   ·cases a
    simp (disch:=first|apply D;decide|apply K;kernel_rfl) only [W,simprocAttr,xk B29 [2,2,2,2,2,2,2,2,1,2,2,2,2,2] .sq rfl,rg B29 [1,2,2,2,2,2,2,2,2,1,2,2,2,2,2] 14 false rfl,hr_29_14,bl_50,t_50,xk B29 [2,2,2,2,2,2,2,2,2,1,2,2,2,2,2] .rt rfl,fin29,R29.st,p,q,s,f,b,g]
   ·have hJ:=f29_j4_ok k Q H i j l v (IntKind.i64.wrap ((1:Int)+e)) false m c d o _ a
    simp (disch:=first|apply D;decide|apply K;kernel_rfl) only [W,simprocAttr,xk B29 [3,2,2,2,2,2,2,2,1,2,2,2,2,2] .sk rfl,p,q,s,f,b,g]
    try simp only [NM,EE] at hJ
    exact hJ
noncomputable def f29_j13 (k:Nat) (Q:Ff29_ri) (f:List Int) (g d l e a:Int) (h:Bool) (i b:Int) (c:List Int) (j:List T50):Option R29 :=
 cond ((d==0))
  (some (.o0 1 e [] a 0 []))
  (f29_j5 k Q f g d e a false i b c j)
theorem f29_j13_ok (k:Nat) (Q:Ff29_ri) (H:If29_ri k Q) (f:List Int) (g h q i c:Int) (e:Bool) (j a:Int) (b:List Int) (l:List T50) (r:R29) (d:f29_j13 k Q f g h q i c e j a b l=some r):finK Tryd.prog Tryd.f29 0 (EX 29 k (nav B29 [2,2,2,2,2,2]) (⟨150,[(0,jB f),(1,jI g),(4,.ptr 4 0),(7,jI h),(8,jI q),(9,jL i),(10,jI c),(50,jT e)],[(4,.box 50 [jI j,jL a,jB b,.own 700001]),(700001,.row true 4 50 (rowsOf encT50 l))]⟩:St))=some r.st:=by
 unfold f29_j13 at d
 simp (disch:=first|apply D;decide|apply K;kernel_rfl) only [W,simprocAttr,xk B29 [2,2,2,2,2,2] .sq rfl,xk B29 [1,2,2,2,2,2,2] .sq rfl,rg B29 [1,1,2,2,2,2,2,2] 15 false rfl,hr 29 15 rfl,xk B29 [2,1,2,2,2,2,2,2] (.cd 76) rfl]
 rcases cond_some d with ⟨m,d⟩ | ⟨m,d⟩
 ·cases d
  simp (disch:=first|apply D;decide|apply K;kernel_rfl) only [W,simprocAttr,xk B29 [2,2,1,2,2,2,2,2,2] .sq rfl,rg B29 [1,2,2,1,2,2,2,2,2,2] 16 false rfl,hr_29_16,bl_50,t_50,xk B29 [2,2,2,1,2,2,2,2,2,2] .rt rfl,fin29,R29.st,m]
 ·have hJ:=f29_j5_ok k Q H f g h i c false j a b l _ d
  simp (disch:=first|apply D;decide|apply K;kernel_rfl) only [W,simprocAttr,xk B29 [3,2,1,2,2,2,2,2,2] .sk rfl,m]
  try simp only [NM,EE] at hJ
  exact hJ
noncomputable def f29_j2 (k:Nat) (Q:Ff29_ri) (d:List Int) (e f c:Int) (j:Bool) (g a:Int) (b:List Int) (h:List T50):Option R29 :=
 cond ((decide (c≥24)))
  (
   ifE ((0:Int)≤(IntKind.i64.wrap (c - (24:Int)))) (
    ifE ((IntKind.i64.wrap (c - (24:Int)))<(4:Int)) (
     Option.bind (([1,2,4,8]:List Int)[(Int.toNat (IntKind.i64.wrap (c - (24:Int))))]?) fun i =>
      cond ((decide (((List.length d):Int)<(IntKind.i64.wrap ((1:Int)+i)))))
       (some (.o0 0 0 [] 0 7 []))
       (f29_j3 k Q d e f i false g a b h))))
  (f29_j13 k Q d e f c (IntKind.u64.wrap c) 1 false g a b h)
theorem f29_j2_ok (k:Nat) (Q:Ff29_ri) (H:If29_ri k Q) (f:List Int) (g h i:Int) (d:Bool) (j b:Int) (c:List Int) (l:List T50) (r:R29) (a:f29_j2 k Q f g h i d j b c l=some r):finK Tryd.prog Tryd.f29 0 (EX 29 k (nav B29 [2,2,2,2]) (⟨150,[(0,jB f),(1,jI g),(4,.ptr 4 0),(7,jI h),(8,jI i),(45,jT d)],[(4,.box 50 [jI j,jL b,jB c,.own 700001]),(700001,.row true 4 50 (rowsOf encT50 l))]⟩:St))=some r.st:=by
 unfold f29_j2 at a
 simp (disch:=first|apply D;decide|apply K;kernel_rfl) only [W,simprocAttr,xk B29 [2,2,2,2] .sq rfl,rg B29 [1,2,2,2,2] 6 false rfl,hr 29 6 rfl,t_3,t_47,convV,xk B29 [2,2,2,2,2] .sq rfl,xk B29 [1,2,2,2,2,2] .sq rfl,rg B29 [1,1,2,2,2,2,2] 7 false rfl,hr 29 7 rfl,xk B29 [2,1,2,2,2,2,2] (.cd 50) rfl]
 rcases cond_some a with ⟨e,a⟩ | ⟨e,a⟩
 ·have m:[[jI 1],[jI 2],[jI 4],[jI 8]]=rowsOf (encI .i64) ([1,2,4,8]:List Int):=rfl
  have o:List.map (tell [0]) (rowsOf (encI .i64) ([1,2,4,8]:List Int))=rowsOf (encI .i64) ([1,2,4,8]:List Int):=rfl
  obtain ⟨p,a⟩:=ifE_some.1 a
  obtain ⟨q,a⟩:=ifE_some.1 a
  obtain ⟨w,s,a⟩:=bs a
  simp (disch:=first|apply D;decide|apply K;kernel_rfl) only [W,simprocAttr,xk B29 [2,2,1,2,2,2,2,2] .sq rfl,rg B29 [1,2,2,1,2,2,2,2,2] 8 false rfl,hr 29 8 rfl,buildSliceV,fillRows,sm_3,t_66,t_3,indexAddrV,encI_eq,xk B29 [2,2,2,1,2,2,2,2,2] .sq rfl,xk B29 [1,2,2,2,1,2,2,2,2,2] .sq rfl,rg B29 [1,1,2,2,2,1,2,2,2,2,2] 9 false rfl,hr 29 9 rfl,t_22,xk B29 [2,1,2,2,2,1,2,2,2,2,2] (.cd 60) rfl,e,m,o,p,q,s]
  rcases cond_some a with ⟨t,a⟩ | ⟨t,a⟩
  ·cases a
   simp (disch:=first|apply D;decide|apply K;kernel_rfl) only [W,simprocAttr,xk B29 [2,2,1,2,2,2,1,2,2,2,2,2] .sq rfl,rg B29 [1,2,2,1,2,2,2,1,2,2,2,2,2] 10 false rfl,hr_29_10,bl_50,t_50,xk B29 [2,2,2,1,2,2,2,1,2,2,2,2,2] .rt rfl,fin29,R29.st,e,m,o,p,q,s,t]
  ·have hJ:=f29_j3_ok k Q H f g h w false j b c l _ a
   simp (disch:=first|apply D;decide|apply K;kernel_rfl) only [W,simprocAttr,xk B29 [3,2,1,2,2,2,1,2,2,2,2,2] .sk rfl,e,m,o,p,q,s,t]
   try simp only [NM,EE] at hJ
   exact hJ
 ·have hJ:=f29_j13_ok k Q H f g h i (IntKind.u64.wrap i) 1 false j b c l _ a
  simp (disch:=first|apply D;decide|apply K;kernel_rfl) only [W,simprocAttr,xk B29 [3,2,1,2,2,2,2,2] .sk rfl,e]
  try simp only [NM,EE] at hJ
  exact hJ
noncomputable def f29_j1 (k:Nat) (Q:Ff29_ri) (d:List Int) (e:Int) (f:Bool) (g a:Int) (b:List Int) (h:List T50):Option R29 :=
 Option.bind (d[0]?) fun c =>
  cond (((IntKind.i64.wrap (Int.tdiv (IntKind.i64.wrap c) (32:Int)))==1))
   (some (.o0 0 0 [] 0 170 []))
   (
    cond ((decide ((IntKind.i64.wrap (Int.tdiv (IntKind.i64.wrap c) (32:Int)))>4)))
     (some (.o0 0 0 [] 0 170 []))
     (
      cond ((decide ((Int.tmod (IntKind.i64.wrap c) (32:Int))>27)))
       (some (.o0 0 0 [] 0 170 []))
       (
        cond ((e==0))
         (some (.o0 0 0 [] 0 170 []))
         (f29_j2 k Q d e ((IntKind.i64.wrap (Int.tdiv (IntKind.i64.wrap c) (32:Int)))) ((Int.tmod (IntKind.i64.wrap c) (32:Int))) false g a b h))))
theorem f29_j1_ok (k:Nat) (Q:Ff29_ri) (H:If29_ri k Q) (i:List Int) (j:Int) (g:Bool) (l b:Int) (c:List Int) (m:List T50) (r:R29) (a:f29_j1 k Q i j g l b c m=some r):finK Tryd.prog Tryd.f29 0 (EX 29 k (nav B29 [2,2]) (⟨150,[(0,jB i),(1,jI j),(4,.ptr 4 0),(20,jT g)],[(4,.box 50 [jI l,jL b,jB c,.own 700001]),(700001,.row true 4 50 (rowsOf encT50 m))]⟩:St))=some r.st:=by
 unfold f29_j1 at a
 obtain ⟨s,d,a⟩:=bs a
 simp (disch:=first|apply D;decide|apply K;kernel_rfl) only [W,simprocAttr,xk B29 [2,2] .sq rfl,rg B29 [1,2,2] 3 true rfl,hr 29 3 rfl,indexAddrV,t_22,t_5,encI_eq,t_3,convV,xk B29 [2,2,2] .sq rfl,xk B29 [1,2,2,2] .sq rfl,rg B29 [1,1,2,2,2] 4 false rfl,hr 29 4 rfl,d]
 rcases cond_some a with ⟨e,a⟩ | ⟨e,a⟩
 ·cases a
  simp (disch:=first|apply D;decide|apply K;kernel_rfl) only [W,simprocAttr,xk B29 [2,1,2,2,2] (.cd 45) rfl,xk B29 [2,2,1,2,2,2] .sq rfl,rg B29 [1,2,2,1,2,2,2] 5 false rfl,hr_29_5,bl_50,t_50,xk B29 [2,2,2,1,2,2,2] .rt rfl,fin29,R29.st,d,e]
 ·rcases cond_some a with ⟨f,a⟩ | ⟨f,a⟩
  ·cases a
   simp (disch:=first|apply D;decide|apply K;kernel_rfl) only [W,simprocAttr,xk B29 [2,1,2,2,2] (.cd 45) rfl,xk B29 [2,2,1,2,2,2] .sq rfl,rg B29 [1,2,2,1,2,2,2] 5 false rfl,hr_29_5,bl_50,t_50,xk B29 [2,2,2,1,2,2,2] .rt rfl,fin29,R29.st,d,e,f]
  ·rcases cond_some a with ⟨h,a⟩ | ⟨h,a⟩
   ·cases a
    simp (disch:=first|apply D;decide|apply K;kernel_rfl) only [W,simprocAttr,xk B29 [2,1,2,2,2] (.cd 45) rfl,xk B29 [2,2,1,2,2,2] .sq rfl,rg B29 [1,2,2,1,2,2,2] 5 false rfl,hr_29_5,bl_50,t_50,xk B29 [2,2,2,1,2,2,2] .rt rfl,fin29,R29.st,d,e,f,h]
   ·simp (disch:=first|apply D;decide|apply K;kernel_rfl) only [W,simprocAttr,xk B29 [2,1,2,2,2] (.cd 45) rfl,d,e,f,h]
    rcases cond_some a with ⟨o,a⟩ | ⟨o,a⟩
    ·cases a
     simp (disch:=first|apply D;decide|apply K;kernel_rfl) only [W,simprocAttr,xk B29 [2,2,1,2,2,2] .sq rfl,rg B29 [1,2,2,1,2,2,2] 5 false rfl,hr_29_5,bl_50,t_50,xk B29 [2,2,2,1,2,2,2] .rt rfl,fin29,R29.st,d,e,f,h,o]
    ·have hJ:=f29_j2_ok k Q H i j ((IntKind.i64.wrap (Int.tdiv (IntKind.i64.wrap s) (32:Int)))) ((Int.tmod (IntKind.i64.wrap s) (32:Int))) false l b c m _ a
     simp (disch:=first|apply D;decide|apply K;kernel_rfl) only [W,simprocAttr,xk B29 [3,2,1,2,2,2] .sk rfl,d,e,f,h,o]
     try simp only [NM,EE] at hJ
     exact hJ
noncomputable def f29_e (k:Nat) (Q:Ff29_ri) (a:List Int) (b:Int):Option R29 :=
 cond ((((List.length a):Int)==0))
  (some (.o0 0 0 [] 0 7 []))
  (f29_j1 k Q a b false 0 0 [] [])
theorem f29_e_ok (k:Nat) (Q:Ff29_ri) (H:If29_ri k Q) (a:List Int) (b:Int) (r:R29) (c:f29_e k Q a b=some r):finK Tryd.prog Tryd.f29 0 (EX 29 k (nav B29 []) (⟨150,[(0,jB a),(1,jI b)],[]⟩:St))=some r.st:=by
 unfold f29_e at c
 simp (disch:=first|apply D;decide|apply K;kernel_rfl) only [W,simprocAttr,xk B29 [] .sq rfl,rg B29 [1] 0 false rfl,hr_29_0,t_50,xk B29 [2] .sq rfl,xk B29 [1,2] .sq rfl,rg B29 [1,1,2] 1 false rfl,hr 29 1 rfl,t_22,xk B29 [2,1,2] (.cd 20) rfl]
 rcases cond_some c with ⟨d,c⟩ | ⟨d,c⟩
 ·cases c
  simp (disch:=first|apply D;decide|apply K;kernel_rfl) only [W,simprocAttr,xk B29 [2,2,1,2] .sq rfl,rg B29 [1,2,2,1,2] 2 false rfl,hr_29_2,bl_50,t_50,xk B29 [2,2,2,1,2] .rt rfl,fin29,R29.st,d]
 ·have hJ:=f29_j1_ok k Q H a b false 0 0 [] [] _ c
  simp (disch:=first|apply D;decide|apply K;kernel_rfl) only [W,simprocAttr,xk B29 [3,2,1,2] .sk rfl,d]
  try simp only [NM,EE] at hJ
  exact hJ
noncomputable def f29:Nat→(List Int)→Int→Option R29
 | 0,_,_=>none
 | k+1,a,b=>f29_e k (f29 k) a b
theorem f29_all (k:Nat):(∀ (a:List Int) (b:Int) (r:R29),f29 k a b=some r→CV k 29 [jB a,jI b] []=some r.st):=by
 induction k with
 | zero=>exact (by intro a b r d;rw [f29] at d;cases d)
 | succ k e =>
  have ih_f29_ri:=e
  exact (by intro a b r d;rw [f29] at d;unfold CV;rw [ev_call (F:=Tryd.f29) (c:=(nav B29 [])) rfl Tryd.func29 rfl rfl rfl rfl];exact f29_e_ok k (f29 k) ih_f29_ri a b r d)
theorem f29_ok (k a b r) (c:f29 k a b=some r):CV k 29 [jB a,jI b] []=some r.st:=f29_all k a b r c
end Go.Proofs.YtbnnmplkbpgcaaaDoorV