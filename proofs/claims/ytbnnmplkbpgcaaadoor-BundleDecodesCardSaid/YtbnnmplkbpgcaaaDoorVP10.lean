/- What the program's functions answer: plain functions,and that the interpreter answers what they do. Written by a program of this session,out of the translation. -/
import Derived.Test.YtbnnmplkbpgcaaaDoorVP9
namespace Go.Proofs.YtbnnmplkbpgcaaaDoorV
open Go
set_option linter.unusedVariables false
set_option linter.unusedSimpArgs false
set_option maxRecDepth 8000
set_option maxHeartbeats 4000000
-- f10: f10 heliograph/bundle.Decode
inductive R10 where
 | o0 (y c d e f g h i j l:Int) (a:List Int) (b:Int)
noncomputable def R10.st:R10→V×List O×List O
 | .o0 y c d e f g h i j l a b=>(V.tup [.agg [jI y,jI c,jU d,jI e,jI f,jI g,jI h,jI i,jI j,jI l,jB a],jI b],[],[])
inductive R10_l4 where
 | o0 (y c d e f g h i j l a:Int) (b:List Int)
 | o1 (y c:List Int) (d e f g h i j l a b m o:Int) (p:List Int) (q s:Int) (t:List Int) (u:List T50) (v w:Int) (x:List Int) (z:List T50) (k r n aa ab ac ad ae af ag:Int) (ah:List Int) (ai aj:Int)
 | o2 (y c:List Int) (d e:Int) (f:Bool) (g h i j l a b m o p:Int) (q:List Int) (s t:Int) (u:List Int) (v:List T50) (w x:Int) (z:List Int) (k:List T50) (r n aa ab ac ad ae af ag ah:Int) (ai:List Int) (aj ak:Int)
noncomputable def R10_l4.st:R10_l4→Out×St
 | .o0 y c d e f g h i j l a b=>(.ret,(⟨180,[(2,.ptr 30000 0),(3,jI y)],[(30000,.box 26 [jI c,jI d,jU e,jI f,jI g,jI h,jI i,jI j,jI l,jI a,jB b])]⟩:St))
 | .o1 y c d e f g h i j l a b m o p q s t u v w x z k r n aa ab ac ad ae af ag ah ai aj=>(.norm,(⟨180,[(0,jB y),(2,.ptr 30000 0),(4,.ptr 30001 0),(8,jB c),(10,.ptr 30002 0),(12,.ptr 30003 0),(14,.ptr 30004 0),(128,V.bsl 30005 1 10),(129,jI d),(130,jI e)],[(30000,.box 26 [jI f,jI g,jU h,jI i,jI j,jI l,jI a,jI b,jI m,jI o,jB p]),(30001,.box 50 [jI q,jL s,jB t,.sl 4 (rowsOf encT50 u)]),(30002,.box 50 [jI v,jL w,jB x,.sl 4 (rowsOf encT50 z)]),(30003,.box 26 [jI k,jI r,jU n,jI aa,jI ab,jI ac,jI ad,jI ae,jI af,jI ag,jB ah]),(30004,.box 3 [jI ai]),(30005,.box 54 [.ptr 30006 0,.ptr 30003 1,.ptr 30003 0,.ptr 30004 0,.ptr 30003 3,.ptr 30003 4,.ptr 30003 8,.ptr 30003 9,.ptr 30003 7,.ptr 30003 5]),(30006,.box 3 [jI aj])]⟩:St))
 | .o2 y c d e f g h i j l a b m o p q s t u v w x z k r n aa ab ac ad ae af ag ah ai aj ak=>(.exit 0,(⟨180,[(0,jB y),(2,.ptr 30000 0),(4,.ptr 30001 0),(8,jB c),(10,.ptr 30002 0),(12,.ptr 30003 0),(14,.ptr 30004 0),(128,V.bsl 30005 1 10),(129,jI d),(130,jI e),(131,jT f)],[(30000,.box 26 [jI g,jI h,jU i,jI j,jI l,jI a,jI b,jI m,jI o,jI p,jB q]),(30001,.box 50 [jI s,jL t,jB u,.sl 4 (rowsOf encT50 v)]),(30002,.box 50 [jI w,jL x,jB z,.sl 4 (rowsOf encT50 k)]),(30003,.box 26 [jI r,jI n,jU aa,jI ab,jI ac,jI ad,jI ae,jI af,jI ag,jI ah,jB ai]),(30004,.box 3 [jI aj]),(30005,.box 54 [.ptr 30006 0,.ptr 30003 1,.ptr 30003 0,.ptr 30004 0,.ptr 30003 3,.ptr 30003 4,.ptr 30003 8,.ptr 30003 9,.ptr 30003 7,.ptr 30003 5]),(30006,.box 3 [jI ak])]⟩:St))
noncomputable def f10_l4_j3 (k:Nat) (x0 x8:List Int) (ab ac ad c d e f g h i j l:Int) (a:List Int) (ae m:Int) (o:List Int) (p:List T50) (af q:Int) (s:List Int) (t:List T50) (ag u v w x y z r n aa:Int) (b:List Int) (ah ai:Int):Option R10_l4 :=
 some (.o1 x0 x8 ab (IntKind.i64.wrap (ac+(1:Int))) ad c d e f g h i j l a ae m o p af q s t ag u v w x y z r n aa b ah ai)
theorem f10_l4_j3_ok (k x0 x8 ac ad ae c d e f g h i j l a af m o p ag q s t ah u v w x y z n aa ab b ai aj r) (hF:f10_l4_j3 k x0 x8 ac ad ae c d e f g h i j l a af m o p ag q s t ah u v w x y z n aa ab b ai aj=some r):EX 10 k (nav B10 [2,2,2,1,2,2,1,2,2,2,2,2,2,2,2,2,2,2]) (⟨180,[(0,jB x0),(2,.ptr 30000 0),(4,.ptr 30001 0),(8,jB x8),(10,.ptr 30002 0),(12,.ptr 30003 0),(14,.ptr 30004 0),(128,V.bsl 30005 1 10),(129,jI ac),(130,jI ad)],[(30000,.box 26 [jI ae,jI c,jU d,jI e,jI f,jI g,jI h,jI i,jI j,jI l,jB a]),(30001,.box 50 [jI af,jL m,jB o,.sl 4 (rowsOf encT50 p)]),(30002,.box 50 [jI ag,jL q,jB s,.sl 4 (rowsOf encT50 t)]),(30003,.box 26 [jI ah,jI u,jU v,jI w,jI x,jI y,jI z,jI n,jI aa,jI ab,jB b]),(30004,.box 3 [jI ai]),(30005,.box 54 [.ptr 30006 0,.ptr 30003 1,.ptr 30003 0,.ptr 30004 0,.ptr 30003 3,.ptr 30003 4,.ptr 30003 8,.ptr 30003 9,.ptr 30003 7,.ptr 30003 5]),(30006,.box 3 [jI aj])]⟩:St)=some r.st:=by
 unfold f10_l4_j3 at hF
 cases hF
 simp (disch:=first|apply D;decide|apply K;kernel_rfl) only [W,simprocAttr,rg B10 [2,2,2,1,2,2,1,2,2,2,2,2,2,2,2,2,2,2] 20 false rfl,hr 10 20 rfl,R10_l4.st]
noncomputable def f10_l4_j2 (k:Nat) (x0 x8:List Int) (ab ac ad:Int) (aj:Bool) (ae d e f g h i j l m:Int) (b:List Int) (af o:Int) (p:List Int) (q:List T50) (ag s:Int) (t:List Int) (a:List T50) (ah u v w x y z r n aa:Int) (c:List Int) (ai am:Int):Option R10_l4 :=
 ifE ((0:Int)≤ab) (
  Option.bind (a[(Int.toNat ab)]?) fun v2 =>
   f10_l4_j3 k x0 x8 ac ad ae d e f g h i j l m b af o p q ag s t a ah u v w x y z r n aa c ai (IntKind.i64.wrap v2.Num))
theorem f10_l4_j2_ok (k x0 x8 al ac ad ae af c d e f g h i j l a ag m o p ah q s t ai u v w x y z n aa ab b aj am r) (hF:f10_l4_j2 k x0 x8 al ac ad ae af c d e f g h i j l a ag m o p ah q s t ai u v w x y z n aa ab b aj am=some r):SQ 10 k (nav B10 [2,2,2,1,2,2,1,2,2,2,2,2,2,2,2,2,2,2]) (blockK 1 (EX 10 k (nav B10 [2,2,2,1,2,2,1,2,2,1,2,2,2,2,2,2,2,2,2,2,2]) (⟨180,[(0,jB x0),(2,.ptr 30000 0),(4,.ptr 30001 0),(8,jB x8),(10,.ptr 30002 0),(12,.ptr 30003 0),(14,.ptr 30004 0),(16,jI al),(17,.ptr 30006 0),(128,V.bsl 30005 1 10),(129,jI ac),(130,jI ad),(141,jT ae)],[(30000,.box 26 [jI af,jI c,jU d,jI e,jI f,jI g,jI h,jI i,jI j,jI l,jB a]),(30001,.box 50 [jI ag,jL m,jB o,.sl 4 (rowsOf encT50 p)]),(30002,.box 50 [jI ah,jL q,jB s,.sl 4 (rowsOf encT50 t)]),(30003,.box 26 [jI ai,jI u,jU v,jI w,jI x,jI y,jI z,jI n,jI aa,jI ab,jB b]),(30004,.box 3 [jI aj]),(30006,.box 3 [jI am]),(30005,.box 54 [.ptr 30006 0,.ptr 30003 1,.ptr 30003 0,.ptr 30004 0,.ptr 30003 3,.ptr 30003 4,.ptr 30003 8,.ptr 30003 9,.ptr 30003 7,.ptr 30003 5])]⟩:St)))=some r.st:=by
 unfold f10_l4_j2 at hF
 obtain ⟨h1,hF⟩:=ifE_some.1 hF
 obtain ⟨v2,h3,hF⟩:=bs hF
 have hJ:=f10_l4_j3_ok k x0 x8 ac ad af c d e f g h i j l a ag m o p ah q s t ai u v w x y z n aa ab b aj (IntKind.i64.wrap v2.Num) _ hF
 simp (disch:=first|apply D;decide|apply K;kernel_rfl) only [W,simprocAttr,rg B10 [2,2,2,1,2,2,1,2,2,1,2,2,2,2,2,2,2,2,2,2,2] 19 false rfl,hr 10 19 rfl,fieldAddrV,t_50,t_48,indexAddrV,encT50_eq,t_47,t_3,convV,h1,h3]
 try simp only [NM,EE] at hJ
 exact hJ
noncomputable def f10_l4_j4 (k:Nat) (x0 x8:List Int) (aa ab ac:Int) (ak:Bool) (ad d e f g h i j l m:Int) (b:List Int) (ae o:Int) (p:List Int) (q:List T50) (af s:Int) (t:List Int) (a:List T50) (ag ah u v w x y z r n:Int) (c:List Int) (ai aj:Int):Option R10_l4 :=
 ifE ((0:Int)≤aa) (
  Option.bind (a[(Int.toNat aa)]?) fun v2 =>
   f10_l4_j3 k x0 x8 ab ac ad d e f g h i j l m b ae o p q af s t a ag (IntKind.i64.wrap v2.Num) u v w x y z r n c ai aj)
theorem f10_l4_j4_ok (k x0 x8 am ab ac ae af c d e f g h i j l a ag m o p ah q s t ai ad u v w x y z n aa b aj ak r) (hF:f10_l4_j4 k x0 x8 am ab ac ae af c d e f g h i j l a ag m o p ah q s t ai ad u v w x y z n aa b aj ak=some r):SQ 10 k (nav B10 [2,2,2,1,2,2,1,2,2,2,2,2,2,2,2,2,2,2]) (blockK 1 (EX 10 k (nav B10 [2,2,2,1,2,2,1,2,2,1,2,2,2,2,2,2,2,2,2,2,2]) (⟨180,[(0,jB x0),(2,.ptr 30000 0),(4,.ptr 30001 0),(8,jB x8),(10,.ptr 30002 0),(12,.ptr 30003 0),(14,.ptr 30004 0),(16,jI am),(17,.ptr 30003 1),(128,V.bsl 30005 1 10),(129,jI ab),(130,jI ac),(141,jT ae)],[(30000,.box 26 [jI af,jI c,jU d,jI e,jI f,jI g,jI h,jI i,jI j,jI l,jB a]),(30001,.box 50 [jI ag,jL m,jB o,.sl 4 (rowsOf encT50 p)]),(30002,.box 50 [jI ah,jL q,jB s,.sl 4 (rowsOf encT50 t)]),(30003,.box 26 [jI ai,jI ad,jU u,jI v,jI w,jI x,jI y,jI z,jI n,jI aa,jB b]),(30004,.box 3 [jI aj]),(30005,.box 54 [.ptr 30006 0,.ptr 30003 1,.ptr 30003 0,.ptr 30004 0,.ptr 30003 3,.ptr 30003 4,.ptr 30003 8,.ptr 30003 9,.ptr 30003 7,.ptr 30003 5]),(30006,.box 3 [jI ak])]⟩:St)))=some r.st:=by
 unfold f10_l4_j4 at hF
 obtain ⟨h1,hF⟩:=ifE_some.1 hF
 obtain ⟨v2,h3,hF⟩:=bs hF
 have hJ:=f10_l4_j3_ok k x0 x8 ab ac af c d e f g h i j l a ag m o p ah q s t ai (IntKind.i64.wrap v2.Num) u v w x y z n aa b aj ak _ hF
 simp (disch:=first|apply D;decide|apply K;kernel_rfl) only [W,simprocAttr,rg B10 [2,2,2,1,2,2,1,2,2,1,2,2,2,2,2,2,2,2,2,2,2] 19 false rfl,hr 10 19 rfl,fieldAddrV,t_50,t_48,indexAddrV,encT50_eq,t_47,t_3,convV,h1,h3]
 try simp only [NM,EE] at hJ
 exact hJ
noncomputable def f10_l4_j5 (k:Nat) (x0 x8:List Int) (ab ac ad:Int) (aj:Bool) (ae d e f g h i j l m:Int) (b:List Int) (af o:Int) (p:List Int) (q:List T50) (ag s:Int) (t:List Int) (a:List T50) (am u v w x y z r n aa:Int) (c:List Int) (ah ai:Int):Option R10_l4 :=
 ifE ((0:Int)≤ab) (
  Option.bind (a[(Int.toNat ab)]?) fun v2 =>
   f10_l4_j3 k x0 x8 ac ad ae d e f g h i j l m b af o p q ag s t a (IntKind.i64.wrap v2.Num) u v w x y z r n aa c ah ai)
theorem f10_l4_j5_ok (k x0 x8 al ac ad ae af c d e f g h i j l a ag m o p ah q s t am u v w x y z n aa ab b ai aj r) (hF:f10_l4_j5 k x0 x8 al ac ad ae af c d e f g h i j l a ag m o p ah q s t am u v w x y z n aa ab b ai aj=some r):SQ 10 k (nav B10 [2,2,2,1,2,2,1,2,2,2,2,2,2,2,2,2,2,2]) (blockK 1 (EX 10 k (nav B10 [2,2,2,1,2,2,1,2,2,1,2,2,2,2,2,2,2,2,2,2,2]) (⟨180,[(0,jB x0),(2,.ptr 30000 0),(4,.ptr 30001 0),(8,jB x8),(10,.ptr 30002 0),(12,.ptr 30003 0),(14,.ptr 30004 0),(16,jI al),(17,.ptr 30003 0),(128,V.bsl 30005 1 10),(129,jI ac),(130,jI ad),(141,jT ae)],[(30000,.box 26 [jI af,jI c,jU d,jI e,jI f,jI g,jI h,jI i,jI j,jI l,jB a]),(30001,.box 50 [jI ag,jL m,jB o,.sl 4 (rowsOf encT50 p)]),(30002,.box 50 [jI ah,jL q,jB s,.sl 4 (rowsOf encT50 t)]),(30003,.box 26 [jI am,jI u,jU v,jI w,jI x,jI y,jI z,jI n,jI aa,jI ab,jB b]),(30004,.box 3 [jI ai]),(30005,.box 54 [.ptr 30006 0,.ptr 30003 1,.ptr 30003 0,.ptr 30004 0,.ptr 30003 3,.ptr 30003 4,.ptr 30003 8,.ptr 30003 9,.ptr 30003 7,.ptr 30003 5]),(30006,.box 3 [jI aj])]⟩:St)))=some r.st:=by
 unfold f10_l4_j5 at hF
 obtain ⟨h1,hF⟩:=ifE_some.1 hF
 obtain ⟨v2,h3,hF⟩:=bs hF
 have hJ:=f10_l4_j3_ok k x0 x8 ac ad af c d e f g h i j l a ag m o p ah q s t (IntKind.i64.wrap v2.Num) u v w x y z n aa ab b ai aj _ hF
 simp (disch:=first|apply D;decide|apply K;kernel_rfl) only [W,simprocAttr,rg B10 [2,2,2,1,2,2,1,2,2,1,2,2,2,2,2,2,2,2,2,2,2] 19 false rfl,hr 10 19 rfl,fieldAddrV,t_50,t_48,indexAddrV,encT50_eq,t_47,t_3,convV,h1,h3]
 try simp only [NM,EE] at hJ
 exact hJ
noncomputable def f10_l4_j6 (k:Nat) (x0 x8:List Int) (ab ac ad:Int) (aj:Bool) (ae d e f g h i j l m:Int) (b:List Int) (af o:Int) (p:List Int) (q:List T50) (ag s:Int) (t:List Int) (a:List T50) (ah u v w x y z r n aa:Int) (c:List Int) (am ai:Int):Option R10_l4 :=
 ifE ((0:Int)≤ab) (
  Option.bind (a[(Int.toNat ab)]?) fun v2 =>
   f10_l4_j3 k x0 x8 ac ad ae d e f g h i j l m b af o p q ag s t a ah u v w x y z r n aa c (IntKind.i64.wrap v2.Num) ai)
theorem f10_l4_j6_ok (k x0 x8 al ac ad ae af c d e f g h i j l a ag m o p ah q s t ai u v w x y z n aa ab b am aj r) (hF:f10_l4_j6 k x0 x8 al ac ad ae af c d e f g h i j l a ag m o p ah q s t ai u v w x y z n aa ab b am aj=some r):SQ 10 k (nav B10 [2,2,2,1,2,2,1,2,2,2,2,2,2,2,2,2,2,2]) (blockK 1 (EX 10 k (nav B10 [2,2,2,1,2,2,1,2,2,1,2,2,2,2,2,2,2,2,2,2,2]) (⟨180,[(0,jB x0),(2,.ptr 30000 0),(4,.ptr 30001 0),(8,jB x8),(10,.ptr 30002 0),(12,.ptr 30003 0),(14,.ptr 30004 0),(16,jI al),(17,.ptr 30004 0),(128,V.bsl 30005 1 10),(129,jI ac),(130,jI ad),(141,jT ae)],[(30000,.box 26 [jI af,jI c,jU d,jI e,jI f,jI g,jI h,jI i,jI j,jI l,jB a]),(30001,.box 50 [jI ag,jL m,jB o,.sl 4 (rowsOf encT50 p)]),(30002,.box 50 [jI ah,jL q,jB s,.sl 4 (rowsOf encT50 t)]),(30003,.box 26 [jI ai,jI u,jU v,jI w,jI x,jI y,jI z,jI n,jI aa,jI ab,jB b]),(30004,.box 3 [jI am]),(30005,.box 54 [.ptr 30006 0,.ptr 30003 1,.ptr 30003 0,.ptr 30004 0,.ptr 30003 3,.ptr 30003 4,.ptr 30003 8,.ptr 30003 9,.ptr 30003 7,.ptr 30003 5]),(30006,.box 3 [jI aj])]⟩:St)))=some r.st:=by
 unfold f10_l4_j6 at hF
 obtain ⟨h1,hF⟩:=ifE_some.1 hF
 obtain ⟨v2,h3,hF⟩:=bs hF
 have hJ:=f10_l4_j3_ok k x0 x8 ac ad af c d e f g h i j l a ag m o p ah q s t ai u v w x y z n aa ab b (IntKind.i64.wrap v2.Num) aj _ hF
 simp (disch:=first|apply D;decide|apply K;kernel_rfl) only [W,simprocAttr,rg B10 [2,2,2,1,2,2,1,2,2,1,2,2,2,2,2,2,2,2,2,2,2] 19 false rfl,hr 10 19 rfl,fieldAddrV,t_50,t_48,indexAddrV,encT50_eq,t_47,t_3,convV,h1,h3]
 try simp only [NM,EE] at hJ
 exact hJ
noncomputable def f10_l4_j7 (k:Nat) (x0 x8:List Int) (aa ab ac:Int) (ak:Bool) (ad d e f g h i j l m:Int) (b:List Int) (ae o:Int) (p:List Int) (q:List T50) (af s:Int) (t:List Int) (a:List T50) (ag u v ah w x y z r n:Int) (c:List Int) (ai aj:Int):Option R10_l4 :=
 ifE ((0:Int)≤aa) (
  Option.bind (a[(Int.toNat aa)]?) fun v2 =>
   f10_l4_j3 k x0 x8 ab ac ad d e f g h i j l m b ae o p q af s t a ag u v (IntKind.i64.wrap v2.Num) w x y z r n c ai aj)
theorem f10_l4_j7_ok (k x0 x8 am ab ac ae af c d e f g h i j l a ag m o p ah q s t ai u v ad w x y z n aa b aj ak r) (hF:f10_l4_j7 k x0 x8 am ab ac ae af c d e f g h i j l a ag m o p ah q s t ai u v ad w x y z n aa b aj ak=some r):SQ 10 k (nav B10 [2,2,2,1,2,2,1,2,2,2,2,2,2,2,2,2,2,2]) (blockK 1 (EX 10 k (nav B10 [2,2,2,1,2,2,1,2,2,1,2,2,2,2,2,2,2,2,2,2,2]) (⟨180,[(0,jB x0),(2,.ptr 30000 0),(4,.ptr 30001 0),(8,jB x8),(10,.ptr 30002 0),(12,.ptr 30003 0),(14,.ptr 30004 0),(16,jI am),(17,.ptr 30003 3),(128,V.bsl 30005 1 10),(129,jI ab),(130,jI ac),(141,jT ae)],[(30000,.box 26 [jI af,jI c,jU d,jI e,jI f,jI g,jI h,jI i,jI j,jI l,jB a]),(30001,.box 50 [jI ag,jL m,jB o,.sl 4 (rowsOf encT50 p)]),(30002,.box 50 [jI ah,jL q,jB s,.sl 4 (rowsOf encT50 t)]),(30003,.box 26 [jI ai,jI u,jU v,jI ad,jI w,jI x,jI y,jI z,jI n,jI aa,jB b]),(30004,.box 3 [jI aj]),(30005,.box 54 [.ptr 30006 0,.ptr 30003 1,.ptr 30003 0,.ptr 30004 0,.ptr 30003 3,.ptr 30003 4,.ptr 30003 8,.ptr 30003 9,.ptr 30003 7,.ptr 30003 5]),(30006,.box 3 [jI ak])]⟩:St)))=some r.st:=by
 unfold f10_l4_j7 at hF
 obtain ⟨h1,hF⟩:=ifE_some.1 hF
 obtain ⟨v2,h3,hF⟩:=bs hF
 have hJ:=f10_l4_j3_ok k x0 x8 ab ac af c d e f g h i j l a ag m o p ah q s t ai u v (IntKind.i64.wrap v2.Num) w x y z n aa b aj ak _ hF
 simp (disch:=first|apply D;decide|apply K;kernel_rfl) only [W,simprocAttr,rg B10 [2,2,2,1,2,2,1,2,2,1,2,2,2,2,2,2,2,2,2,2,2] 19 false rfl,hr 10 19 rfl,fieldAddrV,t_50,t_48,indexAddrV,encT50_eq,t_47,t_3,convV,h1,h3]
 try simp only [NM,EE] at hJ
 exact hJ
noncomputable def f10_l4_j8 (k:Nat) (x0 x8:List Int) (aa ab ac:Int) (ak:Bool) (ad d e f g h i j l m:Int) (b:List Int) (ae o:Int) (p:List Int) (q:List T50) (af s:Int) (t:List Int) (a:List T50) (ag u v w ah x y z r n:Int) (c:List Int) (ai aj:Int):Option R10_l4 :=
 ifE ((0:Int)≤aa) (
  Option.bind (a[(Int.toNat aa)]?) fun v2 =>
   f10_l4_j3 k x0 x8 ab ac ad d e f g h i j l m b ae o p q af s t a ag u v w (IntKind.i64.wrap v2.Num) x y z r n c ai aj)
theorem f10_l4_j8_ok (k x0 x8 am ab ac ae af c d e f g h i j l a ag m o p ah q s t ai u v w ad x y z n aa b aj ak r) (hF:f10_l4_j8 k x0 x8 am ab ac ae af c d e f g h i j l a ag m o p ah q s t ai u v w ad x y z n aa b aj ak=some r):SQ 10 k (nav B10 [2,2,2,1,2,2,1,2,2,2,2,2,2,2,2,2,2,2]) (blockK 1 (EX 10 k (nav B10 [2,2,2,1,2,2,1,2,2,1,2,2,2,2,2,2,2,2,2,2,2]) (⟨180,[(0,jB x0),(2,.ptr 30000 0),(4,.ptr 30001 0),(8,jB x8),(10,.ptr 30002 0),(12,.ptr 30003 0),(14,.ptr 30004 0),(16,jI am),(17,.ptr 30003 4),(128,V.bsl 30005 1 10),(129,jI ab),(130,jI ac),(141,jT ae)],[(30000,.box 26 [jI af,jI c,jU d,jI e,jI f,jI g,jI h,jI i,jI j,jI l,jB a]),(30001,.box 50 [jI ag,jL m,jB o,.sl 4 (rowsOf encT50 p)]),(30002,.box 50 [jI ah,jL q,jB s,.sl 4 (rowsOf encT50 t)]),(30003,.box 26 [jI ai,jI u,jU v,jI w,jI ad,jI x,jI y,jI z,jI n,jI aa,jB b]),(30004,.box 3 [jI aj]),(30005,.box 54 [.ptr 30006 0,.ptr 30003 1,.ptr 30003 0,.ptr 30004 0,.ptr 30003 3,.ptr 30003 4,.ptr 30003 8,.ptr 30003 9,.ptr 30003 7,.ptr 30003 5]),(30006,.box 3 [jI ak])]⟩:St)))=some r.st:=by
 unfold f10_l4_j8 at hF
 obtain ⟨h1,hF⟩:=ifE_some.1 hF
 obtain ⟨v2,h3,hF⟩:=bs hF
 have hJ:=f10_l4_j3_ok k x0 x8 ab ac af c d e f g h i j l a ag m o p ah q s t ai u v w (IntKind.i64.wrap v2.Num) x y z n aa b aj ak _ hF
 simp (disch:=first|apply D;decide|apply K;kernel_rfl) only [W,simprocAttr,rg B10 [2,2,2,1,2,2,1,2,2,1,2,2,2,2,2,2,2,2,2,2,2] 19 false rfl,hr 10 19 rfl,fieldAddrV,t_50,t_48,indexAddrV,encT50_eq,t_47,t_3,convV,h1,h3]
 try simp only [NM,EE] at hJ
 exact hJ
noncomputable def f10_l4_j9 (k:Nat) (x0 x8:List Int) (aa ab ac:Int) (ak:Bool) (ad d e f g h i j l m:Int) (b:List Int) (ae o:Int) (p:List Int) (q:List T50) (af s:Int) (t:List Int) (a:List T50) (ag u v w x y z r ah n:Int) (c:List Int) (ai aj:Int):Option R10_l4 :=
 ifE ((0:Int)≤aa) (
  Option.bind (a[(Int.toNat aa)]?) fun v2 =>
   f10_l4_j3 k x0 x8 ab ac ad d e f g h i j l m b ae o p q af s t a ag u v w x y z r (IntKind.i64.wrap v2.Num) n c ai aj)
theorem f10_l4_j9_ok (k x0 x8 am ab ac ae af c d e f g h i j l a ag m o p ah q s t ai u v w x y z n ad aa b aj ak r) (hF:f10_l4_j9 k x0 x8 am ab ac ae af c d e f g h i j l a ag m o p ah q s t ai u v w x y z n ad aa b aj ak=some r):SQ 10 k (nav B10 [2,2,2,1,2,2,1,2,2,2,2,2,2,2,2,2,2,2]) (blockK 1 (EX 10 k (nav B10 [2,2,2,1,2,2,1,2,2,1,2,2,2,2,2,2,2,2,2,2,2]) (⟨180,[(0,jB x0),(2,.ptr 30000 0),(4,.ptr 30001 0),(8,jB x8),(10,.ptr 30002 0),(12,.ptr 30003 0),(14,.ptr 30004 0),(16,jI am),(17,.ptr 30003 8),(128,V.bsl 30005 1 10),(129,jI ab),(130,jI ac),(141,jT ae)],[(30000,.box 26 [jI af,jI c,jU d,jI e,jI f,jI g,jI h,jI i,jI j,jI l,jB a]),(30001,.box 50 [jI ag,jL m,jB o,.sl 4 (rowsOf encT50 p)]),(30002,.box 50 [jI ah,jL q,jB s,.sl 4 (rowsOf encT50 t)]),(30003,.box 26 [jI ai,jI u,jU v,jI w,jI x,jI y,jI z,jI n,jI ad,jI aa,jB b]),(30004,.box 3 [jI aj]),(30005,.box 54 [.ptr 30006 0,.ptr 30003 1,.ptr 30003 0,.ptr 30004 0,.ptr 30003 3,.ptr 30003 4,.ptr 30003 8,.ptr 30003 9,.ptr 30003 7,.ptr 30003 5]),(30006,.box 3 [jI ak])]⟩:St)))=some r.st:=by
 unfold f10_l4_j9 at hF
 obtain ⟨h1,hF⟩:=ifE_some.1 hF
 obtain ⟨v2,h3,hF⟩:=bs hF
 have hJ:=f10_l4_j3_ok k x0 x8 ab ac af c d e f g h i j l a ag m o p ah q s t ai u v w x y z n (IntKind.i64.wrap v2.Num) aa b aj ak _ hF
 simp (disch:=first|apply D;decide|apply K;kernel_rfl) only [W,simprocAttr,rg B10 [2,2,2,1,2,2,1,2,2,1,2,2,2,2,2,2,2,2,2,2,2] 19 false rfl,hr 10 19 rfl,fieldAddrV,t_50,t_48,indexAddrV,encT50_eq,t_47,t_3,convV,h1,h3]
 try simp only [NM,EE] at hJ
 exact hJ
noncomputable def f10_l4_j10 (k:Nat) (x0 x8:List Int) (aa ab ac:Int) (ak:Bool) (ad d e f g h i j l m:Int) (b:List Int) (ae o:Int) (p:List Int) (q:List T50) (af s:Int) (t:List Int) (a:List T50) (ag u v w x y z r n ah:Int) (c:List Int) (ai aj:Int):Option R10_l4 :=
 ifE ((0:Int)≤aa) (
  Option.bind (a[(Int.toNat aa)]?) fun v2 =>
   f10_l4_j3 k x0 x8 ab ac ad d e f g h i j l m b ae o p q af s t a ag u v w x y z r n (IntKind.i64.wrap v2.Num) c ai aj)
theorem f10_l4_j10_ok (k x0 x8 am ab ac ae af c d e f g h i j l a ag m o p ah q s t ai u v w x y z n aa ad b aj ak r) (hF:f10_l4_j10 k x0 x8 am ab ac ae af c d e f g h i j l a ag m o p ah q s t ai u v w x y z n aa ad b aj ak=some r):SQ 10 k (nav B10 [2,2,2,1,2,2,1,2,2,2,2,2,2,2,2,2,2,2]) (blockK 1 (EX 10 k (nav B10 [2,2,2,1,2,2,1,2,2,1,2,2,2,2,2,2,2,2,2,2,2]) (⟨180,[(0,jB x0),(2,.ptr 30000 0),(4,.ptr 30001 0),(8,jB x8),(10,.ptr 30002 0),(12,.ptr 30003 0),(14,.ptr 30004 0),(16,jI am),(17,.ptr 30003 9),(128,V.bsl 30005 1 10),(129,jI ab),(130,jI ac),(141,jT ae)],[(30000,.box 26 [jI af,jI c,jU d,jI e,jI f,jI g,jI h,jI i,jI j,jI l,jB a]),(30001,.box 50 [jI ag,jL m,jB o,.sl 4 (rowsOf encT50 p)]),(30002,.box 50 [jI ah,jL q,jB s,.sl 4 (rowsOf encT50 t)]),(30003,.box 26 [jI ai,jI u,jU v,jI w,jI x,jI y,jI z,jI n,jI aa,jI ad,jB b]),(30004,.box 3 [jI aj]),(30005,.box 54 [.ptr 30006 0,.ptr 30003 1,.ptr 30003 0,.ptr 30004 0,.ptr 30003 3,.ptr 30003 4,.ptr 30003 8,.ptr 30003 9,.ptr 30003 7,.ptr 30003 5]),(30006,.box 3 [jI ak])]⟩:St)))=some r.st:=by
 unfold f10_l4_j10 at hF
 obtain ⟨h1,hF⟩:=ifE_some.1 hF
 obtain ⟨v2,h3,hF⟩:=bs hF
 have hJ:=f10_l4_j3_ok k x0 x8 ab ac af c d e f g h i j l a ag m o p ah q s t ai u v w x y z n aa (IntKind.i64.wrap v2.Num) b aj ak _ hF
 simp (disch:=first|apply D;decide|apply K;kernel_rfl) only [W,simprocAttr,rg B10 [2,2,2,1,2,2,1,2,2,1,2,2,2,2,2,2,2,2,2,2,2] 19 false rfl,hr 10 19 rfl,fieldAddrV,t_50,t_48,indexAddrV,encT50_eq,t_47,t_3,convV,h1,h3]
 try simp only [NM,EE] at hJ
 exact hJ
noncomputable def f10_l4_j11 (k:Nat) (x0 x8:List Int) (aa ab ac:Int) (ak:Bool) (ad d e f g h i j l m:Int) (b:List Int) (ae o:Int) (p:List Int) (q:List T50) (af s:Int) (t:List Int) (a:List T50) (ag u v w x y z ah r n:Int) (c:List Int) (ai aj:Int):Option R10_l4 :=
 ifE ((0:Int)≤aa) (
  Option.bind (a[(Int.toNat aa)]?) fun v2 =>
   f10_l4_j3 k x0 x8 ab ac ad d e f g h i j l m b ae o p q af s t a ag u v w x y z (IntKind.i64.wrap v2.Num) r n c ai aj)
theorem f10_l4_j11_ok (k x0 x8 am ab ac ae af c d e f g h i j l a ag m o p ah q s t ai u v w x y z ad n aa b aj ak r) (hF:f10_l4_j11 k x0 x8 am ab ac ae af c d e f g h i j l a ag m o p ah q s t ai u v w x y z ad n aa b aj ak=some r):SQ 10 k (nav B10 [2,2,2,1,2,2,1,2,2,2,2,2,2,2,2,2,2,2]) (blockK 1 (EX 10 k (nav B10 [2,2,2,1,2,2,1,2,2,1,2,2,2,2,2,2,2,2,2,2,2]) (⟨180,[(0,jB x0),(2,.ptr 30000 0),(4,.ptr 30001 0),(8,jB x8),(10,.ptr 30002 0),(12,.ptr 30003 0),(14,.ptr 30004 0),(16,jI am),(17,.ptr 30003 7),(128,V.bsl 30005 1 10),(129,jI ab),(130,jI ac),(141,jT ae)],[(30000,.box 26 [jI af,jI c,jU d,jI e,jI f,jI g,jI h,jI i,jI j,jI l,jB a]),(30001,.box 50 [jI ag,jL m,jB o,.sl 4 (rowsOf encT50 p)]),(30002,.box 50 [jI ah,jL q,jB s,.sl 4 (rowsOf encT50 t)]),(30003,.box 26 [jI ai,jI u,jU v,jI w,jI x,jI y,jI z,jI ad,jI n,jI aa,jB b]),(30004,.box 3 [jI aj]),(30005,.box 54 [.ptr 30006 0,.ptr 30003 1,.ptr 30003 0,.ptr 30004 0,.ptr 30003 3,.ptr 30003 4,.ptr 30003 8,.ptr 30003 9,.ptr 30003 7,.ptr 30003 5]),(30006,.box 3 [jI ak])]⟩:St)))=some r.st:=by
 unfold f10_l4_j11 at hF
 obtain ⟨h1,hF⟩:=ifE_some.1 hF
 obtain ⟨v2,h3,hF⟩:=bs hF
 have hJ:=f10_l4_j3_ok k x0 x8 ab ac af c d e f g h i j l a ag m o p ah q s t ai u v w x y z (IntKind.i64.wrap v2.Num) n aa b aj ak _ hF
 simp (disch:=first|apply D;decide|apply K;kernel_rfl) only [W,simprocAttr,rg B10 [2,2,2,1,2,2,1,2,2,1,2,2,2,2,2,2,2,2,2,2,2] 19 false rfl,hr 10 19 rfl,fieldAddrV,t_50,t_48,indexAddrV,encT50_eq,t_47,t_3,convV,h1,h3]
 try simp only [NM,EE] at hJ
 exact hJ
noncomputable def f10_l4_j12 (k:Nat) (x0 x8:List Int) (aa ab ac:Int) (ak:Bool) (ad d e f g h i j l m:Int) (b:List Int) (ae o:Int) (p:List Int) (q:List T50) (af s:Int) (t:List Int) (a:List T50) (ag u v w x ah y z r n:Int) (c:List Int) (ai aj:Int):Option R10_l4 :=
 ifE ((0:Int)≤aa) (
  Option.bind (a[(Int.toNat aa)]?) fun v2 =>
   f10_l4_j3 k x0 x8 ab ac ad d e f g h i j l m b ae o p q af s t a ag u v w x (IntKind.i64.wrap v2.Num) y z r n c ai aj)
theorem f10_l4_j12_ok (k x0 x8 am ab ac ae af c d e f g h i j l a ag m o p ah q s t ai u v w x ad y z n aa b aj ak r) (hF:f10_l4_j12 k x0 x8 am ab ac ae af c d e f g h i j l a ag m o p ah q s t ai u v w x ad y z n aa b aj ak=some r):SQ 10 k (nav B10 [2,2,2,1,2,2,1,2,2,2,2,2,2,2,2,2,2,2]) (blockK 1 (EX 10 k (nav B10 [2,2,2,1,2,2,1,2,2,1,2,2,2,2,2,2,2,2,2,2,2]) (⟨180,[(0,jB x0),(2,.ptr 30000 0),(4,.ptr 30001 0),(8,jB x8),(10,.ptr 30002 0),(12,.ptr 30003 0),(14,.ptr 30004 0),(16,jI am),(17,.ptr 30003 5),(128,V.bsl 30005 1 10),(129,jI ab),(130,jI ac),(141,jT ae)],[(30000,.box 26 [jI af,jI c,jU d,jI e,jI f,jI g,jI h,jI i,jI j,jI l,jB a]),(30001,.box 50 [jI ag,jL m,jB o,.sl 4 (rowsOf encT50 p)]),(30002,.box 50 [jI ah,jL q,jB s,.sl 4 (rowsOf encT50 t)]),(30003,.box 26 [jI ai,jI u,jU v,jI w,jI x,jI ad,jI y,jI z,jI n,jI aa,jB b]),(30004,.box 3 [jI aj]),(30005,.box 54 [.ptr 30006 0,.ptr 30003 1,.ptr 30003 0,.ptr 30004 0,.ptr 30003 3,.ptr 30003 4,.ptr 30003 8,.ptr 30003 9,.ptr 30003 7,.ptr 30003 5]),(30006,.box 3 [jI ak])]⟩:St)))=some r.st:=by
 unfold f10_l4_j12 at hF
 obtain ⟨h1,hF⟩:=ifE_some.1 hF
 obtain ⟨v2,h3,hF⟩:=bs hF
 have hJ:=f10_l4_j3_ok k x0 x8 ab ac af c d e f g h i j l a ag m o p ah q s t ai u v w x (IntKind.i64.wrap v2.Num) y z n aa b aj ak _ hF
 simp (disch:=first|apply D;decide|apply K;kernel_rfl) only [W,simprocAttr,rg B10 [2,2,2,1,2,2,1,2,2,1,2,2,2,2,2,2,2,2,2,2,2] 19 false rfl,hr 10 19 rfl,fieldAddrV,t_50,t_48,indexAddrV,encT50_eq,t_47,t_3,convV,h1,h3]
 try simp only [NM,EE] at hJ
 exact hJ
noncomputable def f10_l4_j1 (k:Nat) (x0 x8:List Int) (ac a:Int) (aw:Bool) (ad e f g h i j l m o:Int) (c:List Int) (ae p:Int) (q:List Int) (s:List T50) (af t:Int) (u:List Int) (b:List T50) (ag v w x y z r n aa ab:Int) (d:List Int) (ah ai:Int):Option R10_l4 :=
 ifE ((0:Int)≤a) (
  cond ((a==0))
   (
    Option.bind (b[0]?) fun v5 =>
     cond ((decide (v5.Num>4294967295)))
      (some (.o0 190 0 0 0 0 0 0 0 0 0 0 []))
      (f10_l4_j2 k x0 x8 a ac a false ad e f g h i j l m o c ae p q s af t u b ag v w x y z r n aa ab d ah ai))
   (
    cond ((a==1))
     (
      Option.bind (b[1]?) fun al =>
       cond ((decide (al.Num>4294967295)))
        (some (.o0 190 0 0 0 0 0 0 0 0 0 0 []))
        (f10_l4_j4 k x0 x8 a ac a false ad e f g h i j l m o c ae p q s af t u b ag v w x y z r n aa ab d ah ai))
     (
      cond ((a==2))
       (
        Option.bind (b[2]?) fun am =>
         cond ((decide (am.Num>4294967295)))
          (some (.o0 190 0 0 0 0 0 0 0 0 0 0 []))
          (f10_l4_j5 k x0 x8 a ac a false ad e f g h i j l m o c ae p q s af t u b ag v w x y z r n aa ab d ah ai))
       (
        cond ((a==3))
         (
          Option.bind (b[3]?) fun an =>
           cond ((decide (an.Num>4294967295)))
            (some (.o0 190 0 0 0 0 0 0 0 0 0 0 []))
            (f10_l4_j6 k x0 x8 a ac a false ad e f g h i j l m o c ae p q s af t u b ag v w x y z r n aa ab d ah ai))
         (
          cond ((a==4))
           (
            Option.bind (b[4]?) fun ao =>
             cond ((decide (ao.Num>4294967295)))
              (some (.o0 190 0 0 0 0 0 0 0 0 0 0 []))
              (f10_l4_j7 k x0 x8 a ac a false ad e f g h i j l m o c ae p q s af t u b ag v w x y z r n aa ab d ah ai))
           (
            cond ((a==5))
             (
              Option.bind (b[5]?) fun ap =>
               cond ((decide (ap.Num>4294967295)))
                (some (.o0 190 0 0 0 0 0 0 0 0 0 0 []))
                (f10_l4_j8 k x0 x8 a ac a false ad e f g h i j l m o c ae p q s af t u b ag v w x y z r n aa ab d ah ai))
             (
              cond ((a==6))
               (
                Option.bind (b[6]?) fun aq =>
                 cond ((decide (aq.Num>4294967295)))
                  (some (.o0 190 0 0 0 0 0 0 0 0 0 0 []))
                  (f10_l4_j9 k x0 x8 a ac a false ad e f g h i j l m o c ae p q s af t u b ag v w x y z r n aa ab d ah ai))
               (
                cond ((a==7))
                 (
                  Option.bind (b[7]?) fun ar =>
                   cond ((decide (ar.Num>4294967295)))
                    (some (.o0 190 0 0 0 0 0 0 0 0 0 0 []))
                    (f10_l4_j10 k x0 x8 a ac a false ad e f g h i j l m o c ae p q s af t u b ag v w x y z r n aa ab d ah ai))
                 (
                  cond ((a==8))
                   (
                    Option.bind (b[8]?) fun au =>
                     cond ((decide (au.Num>4294967295)))
                      (some (.o0 190 0 0 0 0 0 0 0 0 0 0 []))
                      (f10_l4_j11 k x0 x8 a ac a false ad e f g h i j l m o c ae p q s af t u b ag v w x y z r n aa ab d ah ai))
                   (
                    cond ((a==9))
                     (
                      Option.bind (b[9]?) fun av =>
                       cond ((decide (av.Num>4294967295)))
                        (some (.o0 190 0 0 0 0 0 0 0 0 0 0 []))
                        (f10_l4_j12 k x0 x8 a ac a false ad e f g h i j l m o c ae p q s af t u b ag v w x y z r n aa ab d ah ai))
                     (none)))))))))))
theorem f10_l4_j1_ok (k x0 x8 ah a a0 an f g h i j l m o p c ao q s t ap u v w aq x y z n aa ab ac ad ae d ar au r) (b:f10_l4_j1 k x0 x8 ah a a0 an f g h i j l m o p c ao q s t ap u v w aq x y z n aa ab ac ad ae d ar au=some r):EX 10 k (nav B10 [2,2,1,2,2,1,2,2,2,2,2,2,2,2,2,2,2]) (⟨180,[(0,jB x0),(2,.ptr 30000 0),(4,.ptr 30001 0),(8,jB x8),(10,.ptr 30002 0),(12,.ptr 30003 0),(14,.ptr 30004 0),(128,V.bsl 30005 1 10),(129,jI ah),(130,jI a),(131,jT a0)],[(30000,.box 26 [jI an,jI f,jU g,jI h,jI i,jI j,jI l,jI m,jI o,jI p,jB c]),(30001,.box 50 [jI ao,jL q,jB s,.sl 4 (rowsOf encT50 t)]),(30002,.box 50 [jI ap,jL u,jB v,.sl 4 (rowsOf encT50 w)]),(30003,.box 26 [jI aq,jI x,jU y,jI z,jI n,jI aa,jI ab,jI ac,jI ad,jI ae,jB d]),(30004,.box 3 [jI ar]),(30005,.box 54 [.ptr 30006 0,.ptr 30003 1,.ptr 30003 0,.ptr 30004 0,.ptr 30003 3,.ptr 30003 4,.ptr 30003 8,.ptr 30003 9,.ptr 30003 7,.ptr 30003 5]),(30006,.box 3 [jI au])]⟩:St)=some r.st:=by
 unfold f10_l4_j1 at b
 obtain ⟨h1,b⟩:=ifE_some.1 b
 simp (disch:=first|apply D;decide|apply K;kernel_rfl) only [W,simprocAttr,xk B10 [2,2,1,2,2,1,2,2,2,2,2,2,2,2,2,2,2] .sq rfl,xk B10 [1,2,2,1,2,2,1,2,2,2,2,2,2,2,2,2,2,2] (.bk 1) rfl,xk B10 [2,1,2,2,1,2,2,1,2,2,2,2,2,2,2,2,2,2,2] .sq rfl,rg B10 [1,2,1,2,2,1,2,2,1,2,2,2,2,2,2,2,2,2,2,2] 16 false rfl,hr 10 16 rfl,indexAddrV,t_55,t_54,h1]
 rcases cond_some b with ⟨h2,b⟩ | ⟨h2,b⟩
 ·have q3:a<(10:Int):=by have:=eq_of_beq h2;omega
  have q4:Int.toNat a=0:=by have:=eq_of_beq h2;omega
  obtain ⟨v5,h6,b⟩:=bs b
  simp (disch:=first|apply D;decide|apply K;kernel_rfl) only [W,simprocAttr,t_54,xk B10 [2,2,1,2,2,1,2,2,1,2,2,2,2,2,2,2,2,2,2,2] .sq rfl,xk B10 [1,2,2,1,2,2,1,2,2,1,2,2,2,2,2,2,2,2,2,2,2] .sq rfl,rg B10 [1,1,2,2,1,2,2,1,2,2,1,2,2,2,2,2,2,2,2,2,2,2] 17 false rfl,hr 10 17 rfl,fieldAddrV,t_50,t_48,indexAddrV,encT50_eq,t_47,xk B10 [2,1,2,2,1,2,2,1,2,2,1,2,2,2,2,2,2,2,2,2,2,2] (.cd 141) rfl,h1,h2,q3,q4,h6]
  rcases cond_some b with ⟨h7,b⟩ | ⟨h7,b⟩
  ·cases b
   simp (disch:=first|apply D;decide|apply K;kernel_rfl) only [W,simprocAttr,xk B10 [2,2,1,2,2,1,2,2,1,2,2,1,2,2,2,2,2,2,2,2,2,2,2] .sq rfl,rg B10 [1,2,2,1,2,2,1,2,2,1,2,2,1,2,2,2,2,2,2,2,2,2,2,2] 18 false rfl,hr_10_18,bl_26,t_26,xk B10 [2,2,2,1,2,2,1,2,2,1,2,2,1,2,2,2,2,2,2,2,2,2,2,2] .rt rfl,R10_l4.st,h1,h2,q3,q4,h6,h7]
  ·have hJ:=f10_l4_j2_ok k x0 x8 a ah a false an f g h i j l m o p c ao q s t ap u v w aq x y z n aa ab ac ad ae d ar au _ b
   simp (disch:=first|apply D;decide|apply K;kernel_rfl) only [W,simprocAttr,xk B10 [3,2,1,2,2,1,2,2,1,2,2,1,2,2,2,2,2,2,2,2,2,2,2] .sk rfl,h1,h2,q3,q4,h6,h7]
   try simp only [NM,EE] at hJ
   exact hJ
 ·rcases cond_some b with ⟨h8,b⟩ | ⟨h8,b⟩
  ·have q9:a<(10:Int):=by have:=eq_of_beq h8;omega
   have a1:Int.toNat a=1:=by have:=eq_of_beq h8;omega
   obtain ⟨b8,a2,b⟩:=bs b
   simp (disch:=first|apply D;decide|apply K;kernel_rfl) only [W,simprocAttr,t_54,xk B10 [2,2,1,2,2,1,2,2,1,2,2,2,2,2,2,2,2,2,2,2] .sq rfl,xk B10 [1,2,2,1,2,2,1,2,2,1,2,2,2,2,2,2,2,2,2,2,2] .sq rfl,rg B10 [1,1,2,2,1,2,2,1,2,2,1,2,2,2,2,2,2,2,2,2,2,2] 17 false rfl,hr 10 17 rfl,fieldAddrV,t_50,t_48,indexAddrV,encT50_eq,t_47,xk B10 [2,1,2,2,1,2,2,1,2,2,1,2,2,2,2,2,2,2,2,2,2,2] (.cd 141) rfl,h1,h2,h8,q9,a1,a2]
   rcases cond_some b with ⟨a3,b⟩ | ⟨a3,b⟩
   ·cases b
    simp (disch:=first|apply D;decide|apply K;kernel_rfl) only [W,simprocAttr,xk B10 [2,2,1,2,2,1,2,2,1,2,2,1,2,2,2,2,2,2,2,2,2,2,2] .sq rfl,rg B10 [1,2,2,1,2,2,1,2,2,1,2,2,1,2,2,2,2,2,2,2,2,2,2,2] 18 false rfl,hr_10_18,bl_26,t_26,xk B10 [2,2,2,1,2,2,1,2,2,1,2,2,1,2,2,2,2,2,2,2,2,2,2,2] .rt rfl,R10_l4.st,h1,h2,h8,q9,a1,a2,a3]
   ·have hJ:=f10_l4_j4_ok k x0 x8 a ah a false an f g h i j l m o p c ao q s t ap u v w aq x y z n aa ab ac ad ae d ar au _ b
    simp (disch:=first|apply D;decide|apply K;kernel_rfl) only [W,simprocAttr,xk B10 [3,2,1,2,2,1,2,2,1,2,2,1,2,2,2,2,2,2,2,2,2,2,2] .sk rfl,h1,h2,h8,q9,a1,a2,a3]
    try simp only [NM,EE] at hJ
    exact hJ
  ·rcases cond_some b with ⟨e,b⟩ | ⟨e,b⟩
   ·have a4:a<(10:Int):=by have:=eq_of_beq e;omega
    have a5:Int.toNat a=2:=by have:=eq_of_beq e;omega
    obtain ⟨b9,a6,b⟩:=bs b
    simp (disch:=first|apply D;decide|apply K;kernel_rfl) only [W,simprocAttr,t_54,xk B10 [2,2,1,2,2,1,2,2,1,2,2,2,2,2,2,2,2,2,2,2] .sq rfl,xk B10 [1,2,2,1,2,2,1,2,2,1,2,2,2,2,2,2,2,2,2,2,2] .sq rfl,rg B10 [1,1,2,2,1,2,2,1,2,2,1,2,2,2,2,2,2,2,2,2,2,2] 17 false rfl,hr 10 17 rfl,fieldAddrV,t_50,t_48,indexAddrV,encT50_eq,t_47,xk B10 [2,1,2,2,1,2,2,1,2,2,1,2,2,2,2,2,2,2,2,2,2,2] (.cd 141) rfl,h1,h2,h8,e,a4,a5,a6]
    rcases cond_some b with ⟨a7,b⟩ | ⟨a7,b⟩
    ·cases b
     simp (disch:=first|apply D;decide|apply K;kernel_rfl) only [W,simprocAttr,xk B10 [2,2,1,2,2,1,2,2,1,2,2,1,2,2,2,2,2,2,2,2,2,2,2] .sq rfl,rg B10 [1,2,2,1,2,2,1,2,2,1,2,2,1,2,2,2,2,2,2,2,2,2,2,2] 18 false rfl,hr_10_18,bl_26,t_26,xk B10 [2,2,2,1,2,2,1,2,2,1,2,2,1,2,2,2,2,2,2,2,2,2,2,2] .rt rfl,R10_l4.st,h1,h2,h8,e,a4,a5,a6,a7]
    ·have hJ:=f10_l4_j5_ok k x0 x8 a ah a false an f g h i j l m o p c ao q s t ap u v w aq x y z n aa ab ac ad ae d ar au _ b
     simp (disch:=first|apply D;decide|apply K;kernel_rfl) only [W,simprocAttr,xk B10 [3,2,1,2,2,1,2,2,1,2,2,1,2,2,2,2,2,2,2,2,2,2,2] .sk rfl,h1,h2,h8,e,a4,a5,a6,a7]
     try simp only [NM,EE] at hJ
     exact hJ
   ·rcases cond_some b with ⟨af,b⟩ | ⟨af,b⟩
    ·have a8:a<(10:Int):=by have:=eq_of_beq af;omega
     have a9:Int.toNat a=3:=by have:=eq_of_beq af;omega
     obtain ⟨ca,ba,b⟩:=bs b
     simp (disch:=first|apply D;decide|apply K;kernel_rfl) only [W,simprocAttr,t_54,xk B10 [2,2,1,2,2,1,2,2,1,2,2,2,2,2,2,2,2,2,2,2] .sq rfl,xk B10 [1,2,2,1,2,2,1,2,2,1,2,2,2,2,2,2,2,2,2,2,2] .sq rfl,rg B10 [1,1,2,2,1,2,2,1,2,2,1,2,2,2,2,2,2,2,2,2,2,2] 17 false rfl,hr 10 17 rfl,fieldAddrV,t_50,t_48,indexAddrV,encT50_eq,t_47,xk B10 [2,1,2,2,1,2,2,1,2,2,1,2,2,2,2,2,2,2,2,2,2,2] (.cd 141) rfl,h1,h2,h8,e,af,a8,a9,ba]
     rcases cond_some b with ⟨bb,b⟩ | ⟨bb,b⟩
     ·cases b
      simp (disch:=first|apply D;decide|apply K;kernel_rfl) only [W,simprocAttr,xk B10 [2,2,1,2,2,1,2,2,1,2,2,1,2,2,2,2,2,2,2,2,2,2,2] .sq rfl,rg B10 [1,2,2,1,2,2,1,2,2,1,2,2,1,2,2,2,2,2,2,2,2,2,2,2] 18 false rfl,hr_10_18,bl_26,t_26,xk B10 [2,2,2,1,2,2,1,2,2,1,2,2,1,2,2,2,2,2,2,2,2,2,2,2] .rt rfl,R10_l4.st,h1,h2,h8,e,af,a8,a9,ba,bb]
     ·have hJ:=f10_l4_j6_ok k x0 x8 a ah a false an f g h i j l m o p c ao q s t ap u v w aq x y z n aa ab ac ad ae d ar au _ b
      simp (disch:=first|apply D;decide|apply K;kernel_rfl) only [W,simprocAttr,xk B10 [3,2,1,2,2,1,2,2,1,2,2,1,2,2,2,2,2,2,2,2,2,2,2] .sk rfl,h1,h2,h8,e,af,a8,a9,ba,bb]
      try simp only [NM,EE] at hJ
      exact hJ
    ·rcases cond_some b with ⟨ag,b⟩ | ⟨ag,b⟩
     ·have bc:a<(10:Int):=by have:=eq_of_beq ag;omega
      have bd:Int.toNat a=4:=by have:=eq_of_beq ag;omega
      obtain ⟨cb,bf,b⟩:=bs b
      simp (disch:=first|apply D;decide|apply K;kernel_rfl) only [W,simprocAttr,t_54,xk B10 [2,2,1,2,2,1,2,2,1,2,2,2,2,2,2,2,2,2,2,2] .sq rfl,xk B10 [1,2,2,1,2,2,1,2,2,1,2,2,2,2,2,2,2,2,2,2,2] .sq rfl,rg B10 [1,1,2,2,1,2,2,1,2,2,1,2,2,2,2,2,2,2,2,2,2,2] 17 false rfl,hr 10 17 rfl,fieldAddrV,t_50,t_48,indexAddrV,encT50_eq,t_47,xk B10 [2,1,2,2,1,2,2,1,2,2,1,2,2,2,2,2,2,2,2,2,2,2] (.cd 141) rfl,h1,h2,h8,e,af,ag,bc,bd,bf]
      rcases cond_some b with ⟨bg,b⟩ | ⟨bg,b⟩
      ·cases b
       simp (disch:=first|apply D;decide|apply K;kernel_rfl) only [W,simprocAttr,xk B10 [2,2,1,2,2,1,2,2,1,2,2,1,2,2,2,2,2,2,2,2,2,2,2] .sq rfl,rg B10 [1,2,2,1,2,2,1,2,2,1,2,2,1,2,2,2,2,2,2,2,2,2,2,2] 18 false rfl,hr_10_18,bl_26,t_26,xk B10 [2,2,2,1,2,2,1,2,2,1,2,2,1,2,2,2,2,2,2,2,2,2,2,2] .rt rfl,R10_l4.st,h1,h2,h8,e,af,ag,bc,bd,bf,bg]
      ·have hJ:=f10_l4_j7_ok k x0 x8 a ah a false an f g h i j l m o p c ao q s t ap u v w aq x y z n aa ab ac ad ae d ar au _ b
       simp (disch:=first|apply D;decide|apply K;kernel_rfl) only [W,simprocAttr,xk B10 [3,2,1,2,2,1,2,2,1,2,2,1,2,2,2,2,2,2,2,2,2,2,2] .sk rfl,h1,h2,h8,e,af,ag,bc,bd,bf,bg]
       try simp only [NM,EE] at hJ
       exact hJ
     ·rcases cond_some b with ⟨ai,b⟩ | ⟨ai,b⟩
      ·have bh:a<(10:Int):=by have:=eq_of_beq ai;omega
       have bi:Int.toNat a=5:=by have:=eq_of_beq ai;omega
       obtain ⟨cc,bj,b⟩:=bs b
       simp (disch:=first|apply D;decide|apply K;kernel_rfl) only [W,simprocAttr,t_54,xk B10 [2,2,1,2,2,1,2,2,1,2,2,2,2,2,2,2,2,2,2,2] .sq rfl,xk B10 [1,2,2,1,2,2,1,2,2,1,2,2,2,2,2,2,2,2,2,2,2] .sq rfl,rg B10 [1,1,2,2,1,2,2,1,2,2,1,2,2,2,2,2,2,2,2,2,2,2] 17 false rfl,hr 10 17 rfl,fieldAddrV,t_50,t_48,indexAddrV,encT50_eq,t_47,xk B10 [2,1,2,2,1,2,2,1,2,2,1,2,2,2,2,2,2,2,2,2,2,2] (.cd 141) rfl,h1,h2,h8,e,af,ag,ai,bh,bi,bj]
       rcases cond_some b with ⟨bk,b⟩ | ⟨bk,b⟩
       ·cases b
        simp (disch:=first|apply D;decide|apply K;kernel_rfl) only [W,simprocAttr,xk B10 [2,2,1,2,2,1,2,2,1,2,2,1,2,2,2,2,2,2,2,2,2,2,2] .sq rfl,rg B10 [1,2,2,1,2,2,1,2,2,1,2,2,1,2,2,2,2,2,2,2,2,2,2,2] 18 false rfl,hr_10_18,bl_26,t_26,xk B10 [2,2,2,1,2,2,1,2,2,1,2,2,1,2,2,2,2,2,2,2,2,2,2,2] .rt rfl,R10_l4.st,h1,h2,h8,e,af,ag,ai,bh,bi,bj,bk]
       ·have hJ:=f10_l4_j8_ok k x0 x8 a ah a false an f g h i j l m o p c ao q s t ap u v w aq x y z n aa ab ac ad ae d ar au _ b
        simp (disch:=first|apply D;decide|apply K;kernel_rfl) only [W,simprocAttr,xk B10 [3,2,1,2,2,1,2,2,1,2,2,1,2,2,2,2,2,2,2,2,2,2,2] .sk rfl,h1,h2,h8,e,af,ag,ai,bh,bi,bj,bk]
        try simp only [NM,EE] at hJ
        exact hJ
      ·rcases cond_some b with ⟨al,b⟩ | ⟨al,b⟩
       ·have bl:a<(10:Int):=by have:=eq_of_beq al;omega
        have bm:Int.toNat a=6:=by have:=eq_of_beq al;omega
        obtain ⟨cd,bn,b⟩:=bs b
        simp (disch:=first|apply D;decide|apply K;kernel_rfl) only [W,simprocAttr,t_54,xk B10 [2,2,1,2,2,1,2,2,1,2,2,2,2,2,2,2,2,2,2,2] .sq rfl,xk B10 [1,2,2,1,2,2,1,2,2,1,2,2,2,2,2,2,2,2,2,2,2] .sq rfl,rg B10 [1,1,2,2,1,2,2,1,2,2,1,2,2,2,2,2,2,2,2,2,2,2] 17 false rfl,hr 10 17 rfl,fieldAddrV,t_50,t_48,indexAddrV,encT50_eq,t_47,xk B10 [2,1,2,2,1,2,2,1,2,2,1,2,2,2,2,2,2,2,2,2,2,2] (.cd 141) rfl,h1,h2,h8,e,af,ag,ai,al,bl,bm,bn]
        rcases cond_some b with ⟨bo,b⟩ | ⟨bo,b⟩
        ·cases b
         simp (disch:=first|apply D;decide|apply K;kernel_rfl) only [W,simprocAttr,xk B10 [2,2,1,2,2,1,2,2,1,2,2,1,2,2,2,2,2,2,2,2,2,2,2] .sq rfl,rg B10 [1,2,2,1,2,2,1,2,2,1,2,2,1,2,2,2,2,2,2,2,2,2,2,2] 18 false rfl,hr_10_18,bl_26,t_26,xk B10 [2,2,2,1,2,2,1,2,2,1,2,2,1,2,2,2,2,2,2,2,2,2,2,2] .rt rfl,R10_l4.st,h1,h2,h8,e,af,ag,ai,al,bl,bm,bn,bo]
        ·have hJ:=f10_l4_j9_ok k x0 x8 a ah a false an f g h i j l m o p c ao q s t ap u v w aq x y z n aa ab ac ad ae d ar au _ b
         simp (disch:=first|apply D;decide|apply K;kernel_rfl) only [W,simprocAttr,xk B10 [3,2,1,2,2,1,2,2,1,2,2,1,2,2,2,2,2,2,2,2,2,2,2] .sk rfl,h1,h2,h8,e,af,ag,ai,al,bl,bm,bn,bo]
         try simp only [NM,EE] at hJ
         exact hJ
       ·rcases cond_some b with ⟨av,b⟩ | ⟨av,b⟩
        ·have bp:a<(10:Int):=by have:=eq_of_beq av;omega
         have bq:Int.toNat a=7:=by have:=eq_of_beq av;omega
         obtain ⟨ce,br,b⟩:=bs b
         simp (disch:=first|apply D;decide|apply K;kernel_rfl) only [W,simprocAttr,t_54,xk B10 [2,2,1,2,2,1,2,2,1,2,2,2,2,2,2,2,2,2,2,2] .sq rfl,xk B10 [1,2,2,1,2,2,1,2,2,1,2,2,2,2,2,2,2,2,2,2,2] .sq rfl,rg B10 [1,1,2,2,1,2,2,1,2,2,1,2,2,2,2,2,2,2,2,2,2,2] 17 false rfl,hr 10 17 rfl,fieldAddrV,t_50,t_48,indexAddrV,encT50_eq,t_47,xk B10 [2,1,2,2,1,2,2,1,2,2,1,2,2,2,2,2,2,2,2,2,2,2] (.cd 141) rfl,h1,h2,h8,e,af,ag,ai,al,av,bp,bq,br]
         rcases cond_some b with ⟨bt,b⟩ | ⟨bt,b⟩
         ·cases b
          simp (disch:=first|apply D;decide|apply K;kernel_rfl) only [W,simprocAttr,xk B10 [2,2,1,2,2,1,2,2,1,2,2,1,2,2,2,2,2,2,2,2,2,2,2] .sq rfl,rg B10 [1,2,2,1,2,2,1,2,2,1,2,2,1,2,2,2,2,2,2,2,2,2,2,2] 18 false rfl,hr_10_18,bl_26,t_26,xk B10 [2,2,2,1,2,2,1,2,2,1,2,2,1,2,2,2,2,2,2,2,2,2,2,2] .rt rfl,R10_l4.st,h1,h2,h8,e,af,ag,ai,al,av,bp,bq,br,bt]
         ·have hJ:=f10_l4_j10_ok k x0 x8 a ah a false an f g h i j l m o p c ao q s t ap u v w aq x y z n aa ab ac ad ae d ar au _ b
          simp (disch:=first|apply D;decide|apply K;kernel_rfl) only [W,simprocAttr,xk B10 [3,2,1,2,2,1,2,2,1,2,2,1,2,2,2,2,2,2,2,2,2,2,2] .sk rfl,h1,h2,h8,e,af,ag,ai,al,av,bp,bq,br,bt]
          try simp only [NM,EE] at hJ
          exact hJ
        ·rcases cond_some b with ⟨aw,b⟩ | ⟨aw,b⟩
         ·have bu:a<(10:Int):=by have:=eq_of_beq aw;omega
          have bv:Int.toNat a=8:=by have:=eq_of_beq aw;omega
          obtain ⟨cf,bw,b⟩:=bs b
          simp (disch:=first|apply D;decide|apply K;kernel_rfl) only [W,simprocAttr,t_54,xk B10 [2,2,1,2,2,1,2,2,1,2,2,2,2,2,2,2,2,2,2,2] .sq rfl,xk B10 [1,2,2,1,2,2,1,2,2,1,2,2,2,2,2,2,2,2,2,2,2] .sq rfl,rg B10 [1,1,2,2,1,2,2,1,2,2,1,2,2,2,2,2,2,2,2,2,2,2] 17 false rfl,hr 10 17 rfl,fieldAddrV,t_50,t_48,indexAddrV,encT50_eq,t_47,xk B10 [2,1,2,2,1,2,2,1,2,2,1,2,2,2,2,2,2,2,2,2,2,2] (.cd 141) rfl,h1,h2,h8,e,af,ag,ai,al,av,aw,bu,bv,bw]
          rcases cond_some b with ⟨bx,b⟩ | ⟨bx,b⟩
          ·cases b
           simp (disch:=first|apply D;decide|apply K;kernel_rfl) only [W,simprocAttr,xk B10 [2,2,1,2,2,1,2,2,1,2,2,1,2,2,2,2,2,2,2,2,2,2,2] .sq rfl,rg B10 [1,2,2,1,2,2,1,2,2,1,2,2,1,2,2,2,2,2,2,2,2,2,2,2] 18 false rfl,hr_10_18,bl_26,t_26,xk B10 [2,2,2,1,2,2,1,2,2,1,2,2,1,2,2,2,2,2,2,2,2,2,2,2] .rt rfl,R10_l4.st,h1,h2,h8,e,af,ag,ai,al,av,aw,bu,bv,bw,bx]
          ·have hJ:=f10_l4_j11_ok k x0 x8 a ah a false an f g h i j l m o p c ao q s t ap u v w aq x y z n aa ab ac ad ae d ar au _ b
           simp (disch:=first|apply D;decide|apply K;kernel_rfl) only [W,simprocAttr,xk B10 [3,2,1,2,2,1,2,2,1,2,2,1,2,2,2,2,2,2,2,2,2,2,2] .sk rfl,h1,h2,h8,e,af,ag,ai,al,av,aw,bu,bv,bw,bx]
           try simp only [NM,EE] at hJ
           exact hJ
         ·rcases cond_some b with ⟨ax,b⟩ | ⟨ax,b⟩
          ·have bz:a<(10:Int):=by have:=eq_of_beq ax;omega
           have b0:Int.toNat a=9:=by have:=eq_of_beq ax;omega
           obtain ⟨cg,b1,b⟩:=bs b
           simp (disch:=first|apply D;decide|apply K;kernel_rfl) only [W,simprocAttr,t_54,xk B10 [2,2,1,2,2,1,2,2,1,2,2,2,2,2,2,2,2,2,2,2] .sq rfl,xk B10 [1,2,2,1,2,2,1,2,2,1,2,2,2,2,2,2,2,2,2,2,2] .sq rfl,rg B10 [1,1,2,2,1,2,2,1,2,2,1,2,2,2,2,2,2,2,2,2,2,2] 17 false rfl,hr 10 17 rfl,fieldAddrV,t_50,t_48,indexAddrV,encT50_eq,t_47,xk B10 [2,1,2,2,1,2,2,1,2,2,1,2,2,2,2,2,2,2,2,2,2,2] (.cd 141) rfl,h1,h2,h8,e,af,ag,ai,al,av,aw,ax,bz,b0,b1]
           rcases cond_some b with ⟨b2,b⟩ | ⟨b2,b⟩
           ·cases b
            simp (disch:=first|apply D;decide|apply K;kernel_rfl) only [W,simprocAttr,xk B10 [2,2,1,2,2,1,2,2,1,2,2,1,2,2,2,2,2,2,2,2,2,2,2] .sq rfl,rg B10 [1,2,2,1,2,2,1,2,2,1,2,2,1,2,2,2,2,2,2,2,2,2,2,2] 18 false rfl,hr_10_18,bl_26,t_26,xk B10 [2,2,2,1,2,2,1,2,2,1,2,2,1,2,2,2,2,2,2,2,2,2,2,2] .rt rfl,R10_l4.st,h1,h2,h8,e,af,ag,ai,al,av,aw,ax,bz,b0,b1,b2]
           ·have hJ:=f10_l4_j12_ok k x0 x8 a ah a false an f g h i j l m o p c ao q s t ap u v w aq x y z n aa ab ac ad ae d ar au _ b
            simp (disch:=first|apply D;decide|apply K;kernel_rfl) only [W,simprocAttr,xk B10 [3,2,1,2,2,1,2,2,1,2,2,1,2,2,2,2,2,2,2,2,2,2,2] .sk rfl,h1,h2,h8,e,af,ag,ai,al,av,aw,ax,bz,b0,b1,b2]
            try simp only [NM,EE] at hJ
            exact hJ
          ·cases b
noncomputable def f10_l4_b (k:Nat) (x0 x8:List Int) (c d ad e f g h i j l m o:Int) (a:List Int) (ae p:Int) (q:List Int) (s:List T50) (af t:Int) (u:List Int) (v:List T50) (ag w x y z r n aa ab ac:Int) (b:List Int) (ah ai:Int):Option R10_l4 :=
 cond ((decide (d<c)))
  (f10_l4_j1 k x0 x8 c d true ad e f g h i j l m o a ae p q s af t u v ag w x y z r n aa ab ac b ah ai)
  (some (.o2 x0 x8 c d false ad e f g h i j l m o a ae p q s af t u v ag w x y z r n aa ab ac b ah ai))
theorem f10_l4_b_ok (k x0 x8 ac ad ae c d e f g h i j l a af m o p ag q s t ah u v w x y z n aa ab b ai aj r) (hF:f10_l4_b k x0 x8 ac ad ae c d e f g h i j l a af m o p ag q s t ah u v w x y z n aa ab b ai aj=some r):EX 10 k (nav B10 [1,2,2,1,2,2,2,2,2,2,2,2,2,2,2]) (⟨180,[(0,jB x0),(2,.ptr 30000 0),(4,.ptr 30001 0),(8,jB x8),(10,.ptr 30002 0),(12,.ptr 30003 0),(14,.ptr 30004 0),(128,V.bsl 30005 1 10),(129,jI ac),(130,jI ad)],[(30000,.box 26 [jI ae,jI c,jU d,jI e,jI f,jI g,jI h,jI i,jI j,jI l,jB a]),(30001,.box 50 [jI af,jL m,jB o,.sl 4 (rowsOf encT50 p)]),(30002,.box 50 [jI ag,jL q,jB s,.sl 4 (rowsOf encT50 t)]),(30003,.box 26 [jI ah,jI u,jU v,jI w,jI x,jI y,jI z,jI n,jI aa,jI ab,jB b]),(30004,.box 3 [jI ai]),(30005,.box 54 [.ptr 30006 0,.ptr 30003 1,.ptr 30003 0,.ptr 30004 0,.ptr 30003 3,.ptr 30003 4,.ptr 30003 8,.ptr 30003 9,.ptr 30003 7,.ptr 30003 5]),(30006,.box 3 [jI aj])]⟩:St)=some r.st:=by
 unfold f10_l4_b at hF
 simp (disch:=first|apply D;decide|apply K;kernel_rfl) only [W,simprocAttr,xk B10 [1,2,2,1,2,2,2,2,2,2,2,2,2,2,2] .sq rfl,rg B10 [1,1,2,2,1,2,2,2,2,2,2,2,2,2,2,2] 15 false rfl,hr 10 15 rfl,xk B10 [2,1,2,2,1,2,2,2,2,2,2,2,2,2,2,2] .sq rfl,xk B10 [1,2,1,2,2,1,2,2,2,2,2,2,2,2,2,2,2] (.cd 131) rfl]
 rcases cond_some hF with ⟨h1,hF⟩ | ⟨h1,hF⟩
 ·have hJ:=f10_l4_j1_ok k x0 x8 ac ad true ae c d e f g h i j l a af m o p ag q s t ah u v w x y z n aa ab b ai aj _ hF
  simp (disch:=first|apply D;decide|apply K;kernel_rfl) only [W,simprocAttr,xk B10 [2,1,2,1,2,2,1,2,2,2,2,2,2,2,2,2,2,2] .sk rfl,h1]
  try simp only [NM,EE] at hJ
  exact hJ
 ·cases hF
  simp (disch:=first|apply D;decide|apply K;kernel_rfl) only [W,simprocAttr,xk B10 [3,1,2,1,2,2,1,2,2,2,2,2,2,2,2,2,2,2] (.ex 0) rfl,R10_l4.st,h1]
noncomputable def f10_l4 (k:Nat):Nat→(List Int)→(List Int)→Int→Int→Int→Int→Int→Int→Int→Int→Int→Int→Int→Int→(List Int)→Int→Int→(List Int)→(List T50)→Int→Int→(List Int)→(List T50)→Int→Int→Int→Int→Int→Int→Int→Int→Int→Int→(List Int)→Int→Int→Option R10_l4
 | 0,_,_,_,_,_,_,_,_,_,_,_,_,_,_,_,_,_,_,_,_,_,_,_,_,_,_,_,_,_,_,_,_,_,_,_,_=>none
 | n+1,x0,x8,bg,bh,bj,ap,aq,ar,au,av,aw,ax,ay,az,an,bk,a0,a1,a2,bl,a3,a4,a5,bm,a6,a7,a8,a9,ba,bb,bc,bd,bf,ao,bn,bo=>Option.bind (f10_l4_b k x0 x8 bg bh bj ap aq ar au av aw ax ay az an bk a0 a1 a2 bl a3 a4 a5 bm a6 a7 a8 a9 ba bb bc bd bf ao bn bo) fun o =>
  match o with
  | .o0 y c d e f g h i j l a b=>some (.o0 y c d e f g h i j l a b)
  | .o1 y c d e f g h i j l a b m p q s t u v w x z r aa ab ac ad ae af ag ah ai aj ak al am=>f10_l4 k n y c d e f g h i j l a b m p q s t u v w x z r aa ab ac ad ae af ag ah ai aj ak al am
  | .o2 y c d e f g h i j l a b m p q s t u v w x z r aa ab ac ad ae af ag ah ai aj ak al am bi=>some (.o2 y c d e f g h i j l a b m p q s t u v w x z r aa ab ac ad ae af ag ah ai aj ak al am bi)
theorem f10_l4_ok (k n:Nat):∀ (x0 x8:List Int) (ag ah ai c d e f g i j l m:Int) (a:List Int) (aj p:Int) (q:List Int) (s:List T50) (ak t:Int) (u:List Int) (v:List T50) (al w x z aa ab ac ad ae af:Int) (b:List Int) (am an:Int) (r:R10_l4) (hF:f10_l4 k n x0 x8 ag ah ai c d e f g i j l m a aj p q s ak t u v al w x z aa ab ac ad ae af b am an=some r) (σ:St) (hσ:headR (hints.head 10 15) (hints.canon 10 15) σ=some (⟨180,[(0,jB x0),(2,.ptr 30000 0),(4,.ptr 30001 0),(8,jB x8),(10,.ptr 30002 0),(12,.ptr 30003 0),(14,.ptr 30004 0),(128,V.bsl 30005 1 10),(129,jI ag),(130,jI ah)],[(30000,.box 26 [jI ai,jI c,jU d,jI e,jI f,jI g,jI i,jI j,jI l,jI m,jB a]),(30001,.box 50 [jI aj,jL p,jB q,.sl 4 (rowsOf encT50 s)]),(30002,.box 50 [jI ak,jL t,jB u,.sl 4 (rowsOf encT50 v)]),(30003,.box 26 [jI al,jI w,jU x,jI z,jI aa,jI ab,jI ac,jI ad,jI ae,jI af,jB b]),(30004,.box 3 [jI am]),(30005,.box 54 [.ptr 30006 0,.ptr 30003 1,.ptr 30003 0,.ptr 30004 0,.ptr 30003 3,.ptr 30003 4,.ptr 30003 8,.ptr 30003 9,.ptr 30003 7,.ptr 30003 5]),(30006,.box 3 [jI an])]⟩:St)),LP 10 k (nav B10 [1,2,2,1,2,2,2,2,2,2,2,2,2,2,2]) n σ=some r.st:=by
 induction n with
 | zero=>intro x0 x8 ag ah ai c d e f g i j l m a aj p q s ak t u v al w x z aa ab ac ad ae af b am an r hF;cases hF
 | succ n ih =>
  intro x0 x8 ag ah ai c d e f g i j l m a aj p q s ak t u v al w x z aa ab ac ad ae af b am an r hF σ hσ
  rw [f10_l4] at hF
  obtain ⟨o,h,hF⟩:=Option.bind_eq_some_iff.1 hF
  have hB:=f10_l4_b_ok k x0 x8 ag ah ai c d e f g i j l m a aj p q s ak t u v al w x z aa ab ac ad ae af b am an o h
  unfold LP at ih ⊢
  unfold EX at hB
  rw [loopK_succ,show firstReg (nav B10 [1,2,2,1,2,2,2,2,2,2,2,2,2,2,2])=15 from rfl,hσ,headK_some,hB]
  cases o with
  | o0 y bi bj bk bl bm bn bo bp bq ao ap=>cases hF;rfl
  | o1 y bi bj bk bl bm bn bo bp bq ao ap ar au av aw ax ay az a0 a1 a2 a3 a4 a5 a6 a7 a8 a9 ba bb bc bd bf bg bh =>
   refine ih y bi bj bk bl bm bn bo bp bq ao ap ar au av aw ax ay az a0 a1 a2 a3 a4 a5 a6 a7 a8 a9 ba bb bc bd bf bg bh r hF _ ?_
   simp (disch:=first|apply D;decide|apply K;kernel_rfl) only [W,simprocAttr,hh_10_15,hc_10_15]
  | o2 y bi bj bk bl bm bn bo bp bq ao ap ar au av aw ax ay az a0 a1 a2 a3 a4 a5 a6 a7 a8 a9 ba bb bc bd bf bg bh bv=>cases hF;rfl
noncomputable def f10_j6 (k:Nat) (y:Bool) (z m o p q s t u v w:Int) (l:List Int) (x b c d e f g h i j:Int) (a:List Int):Option R10 :=
 some (.o0 x b c d e f g h i j a 0)
theorem f10_j6_ok (k x y c d e f g h i j l a z m o p q s t u v w b r) (n:f10_j6 k x y c d e f g h i j l a z m o p q s t u v w b=some r):finK Tryd.prog Tryd.f10 0 (EX 10 k (nav B10 [2,2,2,2,2,2,2,2,2,2,2,2,2,2,2]) (⟨180,[(2,.ptr 30000 0),(12,.ptr 30003 0),(177,jT x)],[(30000,.box 26 [jI y,jI c,jU d,jI e,jI f,jI g,jI h,jI i,jI j,jI l,jB a]),(30003,.box 26 [jI z,jI m,jU o,jI p,jI q,jI s,jI t,jI u,jI v,jI w,jB b])]⟩:St))=some r.st:=by
 unfold f10_j6 at n
 cases n
 simp (disch:=first|apply D;decide|apply K;kernel_rfl) only [W,simprocAttr,xk B10 [2,2,2,2,2,2,2,2,2,2,2,2,2,2,2] .sq rfl,rg B10 [1,2,2,2,2,2,2,2,2,2,2,2,2,2,2,2] 25 false rfl,hr 10 25 rfl,t_26,xk B10 [2,2,2,2,2,2,2,2,2,2,2,2,2,2,2,2] .rt rfl,fin10,R10.st]
noncomputable def f10_j5 (k:Nat) (x0 z:List Int) (al am:Int) (an:Bool) (x i j l m o p q s t:Int) (h:List Int) (ao r:Int) (n:List Int) (u:List T50) (ap aa:Int) (ab:List Int) (ac:List T50) (v a ad b c d ae e f g:Int) (y:List Int) (w aq:Int):Option R10 :=
 Option.bind (u[1]?) fun v1 =>
  Option.bind (f14 k v a (IntKind.u32.wrap w) b c d (IntKind.i64.wrap v1.Num) e f g z) fun o3 =>
   match o3 with
   | .o0 v6 v7 =>
    cond ((v7 != 0))
     (some (.o0 0 0 0 0 0 0 0 0 0 0 [] 190))
     (
      Option.bind (f21 k v6 x0) fun o9 =>
       match o9 with
       | .o0 ag =>
        cond ((!ag))
         (some (.o0 0 0 0 0 0 0 0 0 0 0 [] 190))
         (f10_j6 k false x i j l m o p q s t h v a (IntKind.u32.wrap w) b c d (IntKind.i64.wrap v1.Num) e f g z))
   | .o1 ah ai =>
    cond ((ah != 0))
     (some (.o0 0 0 0 0 0 0 0 0 0 0 [] 190))
     (
      Option.bind (f21 k ai x0) fun o17 =>
       match o17 with
       | .o0 aj =>
        cond ((!aj))
         (some (.o0 0 0 0 0 0 0 0 0 0 0 [] 190))
         (f10_j6 k false x i j l m o p q s t h v a (IntKind.u32.wrap w) b c d (IntKind.i64.wrap v1.Num) e f g z))
theorem f10_j5_ok (k x0 x8 al am an ak l m o p q s t u v c ar z n aa au ab ac ad ae d af e f g ag h i j w ah av r) (a:f10_j5 k x0 x8 al am an ak l m o p q s t u v c ar z n aa au ab ac ad ae d af e f g ag h i j w ah av=some r):finK Tryd.prog Tryd.f10 0 (EX 10 k (nav B10 [2,2,2,2,2,2,2,2,2,2,2,2]) (⟨180,[(0,jB x0),(2,.ptr 30000 0),(4,.ptr 30001 0),(8,jB x8),(10,.ptr 30002 0),(12,.ptr 30003 0),(14,.ptr 30004 0),(128,V.bsl 30005 1 10),(129,jI al),(130,jI am),(131,jT an)],[(30000,.box 26 [jI ak,jI l,jU m,jI o,jI p,jI q,jI s,jI t,jI u,jI v,jB c]),(30001,.box 50 [jI ar,jL z,jB n,.sl 4 (rowsOf encT50 aa)]),(30002,.box 50 [jI au,jL ab,jB ac,.sl 4 (rowsOf encT50 ad)]),(30003,.box 26 [jI ae,jI d,jU af,jI e,jI f,jI g,jI ag,jI h,jI i,jI j,jB w]),(30004,.box 3 [jI ah]),(30005,.box 54 [.ptr 30006 0,.ptr 30003 1,.ptr 30003 0,.ptr 30004 0,.ptr 30003 3,.ptr 30003 4,.ptr 30003 8,.ptr 30003 9,.ptr 30003 7,.ptr 30003 5]),(30006,.box 3 [jI av])]⟩:St))=some r.st:=by
 unfold f10_j5 at a
 obtain ⟨v1,h2,a⟩:=bs a
 simp (disch:=first|apply D;decide|apply K;kernel_rfl) only [W,simprocAttr,xk B10 [2,2,2,2,2,2,2,2,2,2,2,2] .sq rfl,rg B10 [1,2,2,2,2,2,2,2,2,2,2,2,2] 21 true rfl,hr 10 21 rfl,t_3,t_24,convV,fieldAddrV,t_50,t_48,indexAddrV,encT50_eq,t_47,t_26,t_22,xk B10 [2,2,2,2,2,2,2,2,2,2,2,2,2] .sq rfl,rg B10 [1,2,2,2,2,2,2,2,2,2,2,2,2,2] 22 false rfl,hr 10 22 rfl,callStep,CL,gv,List.contains,h2]
 obtain ⟨o3,h4,a⟩:=bs a
 have b:=f14_ok k ae d (IntKind.u32.wrap ah) e f g (IntKind.i64.wrap v1.Num) h i j x8 _ h4
 cases o3 with
 | o0 v6 v7 =>
  (try dsimp only at a)
  (try simp only [NM,EE,R14.st] at b)
  simp (disch:=first|apply D;decide|apply K;kernel_rfl) only [W,simprocAttr,xk B10 [2,2,2,2,2,2,2,2,2,2,2,2,2,2] .sq rfl,xk B10 [1,2,2,2,2,2,2,2,2,2,2,2,2,2,2] .sq rfl,rg B10 [1,1,2,2,2,2,2,2,2,2,2,2,2,2,2,2] 23 false rfl,hr 10 23 rfl,h2,b]
  rcases cond_some a with ⟨h8,a⟩ | ⟨h8,a⟩
  ·cases a
   simp (disch:=first|apply D;decide|apply K;kernel_rfl) only [W,simprocAttr,xk B10 [2,1,2,2,2,2,2,2,2,2,2,2,2,2,2,2] (.cd 177) rfl,xk B10 [2,2,1,2,2,2,2,2,2,2,2,2,2,2,2,2,2] .sq rfl,rg B10 [1,2,2,1,2,2,2,2,2,2,2,2,2,2,2,2,2,2] 24 false rfl,hr_10_24,bl_26,t_26,xk B10 [2,2,2,1,2,2,2,2,2,2,2,2,2,2,2,2,2,2] .rt rfl,fin10,R10.st,h2,b,h8]
  ·obtain ⟨o9,az,a⟩:=bs a
   have x:=f21_ok k v6 x0 _ az
   cases o9 with
   | o0 a4 =>
    (try dsimp only at a)
    (try simp only [NM,EE,R21.st] at x)
    simp (disch:=first|apply D;decide|apply K;kernel_rfl) only [W,simprocAttr,callStep,CL,gv,List.contains,xk B10 [2,1,2,2,2,2,2,2,2,2,2,2,2,2,2,2] (.cd 177) rfl,h2,b,h8,x]
    rcases cond_some a with ⟨ao,a⟩ | ⟨ao,a⟩
    ·cases a
     simp (disch:=first|apply D;decide|apply K;kernel_rfl) only [W,simprocAttr,xk B10 [2,2,1,2,2,2,2,2,2,2,2,2,2,2,2,2,2] .sq rfl,rg B10 [1,2,2,1,2,2,2,2,2,2,2,2,2,2,2,2,2,2] 24 false rfl,hr_10_24,bl_26,t_26,xk B10 [2,2,2,1,2,2,2,2,2,2,2,2,2,2,2,2,2,2] .rt rfl,fin10,R10.st,h2,b,h8,x,ao]
    ·have hJ:=f10_j6_ok k false ak l m o p q s t u v c ae d (IntKind.u32.wrap ah) e f g (IntKind.i64.wrap v1.Num) h i j x8 _ a
     simp (disch:=first|apply D;decide|apply K;kernel_rfl) only [W,simprocAttr,xk B10 [3,2,1,2,2,2,2,2,2,2,2,2,2,2,2,2,2] .sk rfl,h2,b,h8,x,ao]
     try simp only [NM,EE] at hJ
     exact hJ
 | o1 a5 a0 =>
  (try dsimp only at a)
  (try simp only [NM,EE,R14.st] at b)
  simp (disch:=first|apply D;decide|apply K;kernel_rfl) only [W,simprocAttr,xk B10 [2,2,2,2,2,2,2,2,2,2,2,2,2,2] .sq rfl,xk B10 [1,2,2,2,2,2,2,2,2,2,2,2,2,2,2] .sq rfl,rg B10 [1,1,2,2,2,2,2,2,2,2,2,2,2,2,2,2] 23 false rfl,hr 10 23 rfl,h2,b]
  rcases cond_some a with ⟨aj,a⟩ | ⟨aj,a⟩
  ·cases a
   simp (disch:=first|apply D;decide|apply K;kernel_rfl) only [W,simprocAttr,xk B10 [2,1,2,2,2,2,2,2,2,2,2,2,2,2,2,2] (.cd 177) rfl,xk B10 [2,2,1,2,2,2,2,2,2,2,2,2,2,2,2,2,2] .sq rfl,rg B10 [1,2,2,1,2,2,2,2,2,2,2,2,2,2,2,2,2,2] 24 false rfl,hr_10_24,bl_26,t_26,xk B10 [2,2,2,1,2,2,2,2,2,2,2,2,2,2,2,2,2,2] .rt rfl,fin10,R10.st,h2,b,aj]
  ·obtain ⟨o17,a1,a⟩:=bs a
   have y:=f21_ok k a0 x0 _ a1
   cases o17 with
   | o0 a6 =>
    (try dsimp only at a)
    (try simp only [NM,EE,R21.st] at y)
    simp (disch:=first|apply D;decide|apply K;kernel_rfl) only [W,simprocAttr,callStep,CL,gv,List.contains,xk B10 [2,1,2,2,2,2,2,2,2,2,2,2,2,2,2,2] (.cd 177) rfl,h2,b,aj,y]
    rcases cond_some a with ⟨ap,a⟩ | ⟨ap,a⟩
    ·cases a
     simp (disch:=first|apply D;decide|apply K;kernel_rfl) only [W,simprocAttr,xk B10 [2,2,1,2,2,2,2,2,2,2,2,2,2,2,2,2,2] .sq rfl,rg B10 [1,2,2,1,2,2,2,2,2,2,2,2,2,2,2,2,2,2] 24 false rfl,hr_10_24,bl_26,t_26,xk B10 [2,2,2,1,2,2,2,2,2,2,2,2,2,2,2,2,2,2] .rt rfl,fin10,R10.st,h2,b,aj,y,ap]
    ·have hJ:=f10_j6_ok k false ak l m o p q s t u v c ae d (IntKind.u32.wrap ah) e f g (IntKind.i64.wrap v1.Num) h i j x8 _ a
     simp (disch:=first|apply D;decide|apply K;kernel_rfl) only [W,simprocAttr,xk B10 [3,2,1,2,2,2,2,2,2,2,2,2,2,2,2,2,2] .sk rfl,h2,b,aj,y,ap]
     try simp only [NM,EE] at hJ
     exact hJ
noncomputable def f10_j3 (k:Nat) (x0 x8:List Int) (bp:Bool) (m2 q s t u v w x y z:Int) (b:List Int) (m4 r:Int) (n:List Int) (aa:List T50) (ab c:Int) (d:List Int) (e:List T50) (ac f g h i j l m o p:Int) (a:List Int) (ad ae:Int):Option R10 :=
 Option.bind (f10_l4 k k x0 x8 10 0 m2 q s t u v w x y z b m4 r n aa ab c d e ac f g h i j l m o p a ad ae) fun o1 =>
  match o1 with
  | .o0 v4 v5 v6 v7 v8 v9 af ag ah ai aj ak =>
   some (.o0 v5 v6 v7 v8 v9 af ag ah ai aj ak v4)
  | .o1 _ _ _ _ _ _ _ _ _ _ _ _ _ _ _ _ _ _ _ _ _ _ _ _ _ _ _ _ _ _ _ _ _ _ _ _ =>
   none
  | .o2 al am an ao ap aq ar au av aw ax ay az a0 a1 a2 a3 a4 a5 a6 a7 a8 a9 ba bb bc bd bf bg bh bi bj bk bl bm bn bo =>
   f10_j5 k al am an ao ap aq ar au av aw ax ay az a0 a1 a2 a3 a4 a5 a6 a7 a8 a9 ba bb bc bd bf bg bh bi bj bk bl bm bn bo
theorem f10_j3_ok (k x0 x8 ad m2 q s t u v w x y z b m4 n aa ab ae c d e af f g h i j l m o p a ag ah r) (hF:f10_j3 k x0 x8 ad m2 q s t u v w x y z b m4 n aa ab ae c d e af f g h i j l m o p a ag ah=some r):finK Tryd.prog Tryd.f10 0 (EX 10 k (nav B10 [2,2,2,2,2,2,2,2,2,2,2]) (⟨180,[(0,jB x0),(2,.ptr 2 0),(4,.ptr 4 0),(8,jB x8),(10,.ptr 10 0),(12,.ptr 12 0),(14,.ptr 14 0),(15,V.bsl 108 1 10),(126,jT ad)],[(2,.box 26 [jI m2,jI q,jU s,jI t,jI u,jI v,jI w,jI x,jI y,jI z,jB b]),(4,.box 50 [jI m4,jL n,jB aa,.sl 4 (rowsOf encT50 ab)]),(10,.box 50 [jI ae,jL c,jB d,.sl 4 (rowsOf encT50 e)]),(12,.box 26 [jI af,jI f,jU g,jI h,jI i,jI j,jI l,jI m,jI o,jI p,jB a]),(14,.box 3 [jI ag]),(108,.box 54 [.ptr 13 0,.ptr 12 1,.ptr 12 0,.ptr 14 0,.ptr 12 3,.ptr 12 4,.ptr 12 8,.ptr 12 9,.ptr 12 7,.ptr 12 5]),(13,.box 3 [jI ah])]⟩:St))=some r.st:=by
 unfold f10_j3 at hF
 obtain ⟨o1,h2,hF⟩:=bs hF
 have ai:=f10_l4_ok k k x0 x8 10 0 m2 q s t u v w x y z b m4 n aa ab ae c d e af f g h i j l m o p a ag ah _ h2
 simp (disch:=first|apply D;decide|apply K;kernel_rfl) only [W,simprocAttr,xk B10 [2,2,2,2,2,2,2,2,2,2,2] .sq rfl,xk B10 [1,2,2,2,2,2,2,2,2,2,2,2] .sq rfl,rg B10 [1,1,2,2,2,2,2,2,2,2,2,2,2] 14 false rfl,hr 10 14 rfl,t_55,xk B10 [2,1,2,2,2,2,2,2,2,2,2,2,2] (.bk 0) rfl,xk B10 [2,2,1,2,2,2,2,2,2,2,2,2,2,2] .lp rfl,hh_10_15,hc_10_15]
 (try simp only [NM,EE] at ai)
 rw [ai _ (by simp (disch:=first|apply D;decide|apply K;kernel_rfl) only [W,simprocAttr,hh_10_15,hc_10_15])]
 clear ai
 cases o1 with
 | o0 v4 v5 v6 v7 v8 v9 bt bu bv bw bx bz =>
  (try dsimp only at hF)
  cases hF
  simp (disch:=first|apply D;decide|apply K;kernel_rfl) only [W,simprocAttr,R10_l4.st,t_26,fin10,R10.st]
 | o1 _ _ _ _ _ _ _ _ _ _ _ _ _ _ _ _ _ _ _ _ _ _ _ _ _ _ _ _ _ _ _ _ _ _ _ _ =>
  (try dsimp only at hF)
  cases hF
 | o2 an ao ap aq ar au av aw ax ay az a0 a1 a2 a3 a4 a5 a6 a7 a8 a9 ba bb bc bd bf bg bh bi bj bk bl bm bn bo bp bq =>
  (try dsimp only at hF)
  have hJ:=f10_j5_ok k an ao ap aq ar au av aw ax ay az a0 a1 a2 a3 a4 a5 a6 a7 a8 a9 ba bb bc bd bf bg bh bi bj bk bl bm bn bo bp bq _ hF
  simp (disch:=first|apply D;decide|apply K;kernel_rfl) only [W,simprocAttr,R10_l4.st]
  try simp only [NM,EE] at hJ
  exact hJ
noncomputable def f10_j2 (k:Nat) (s t u:List Int) (v:Bool) (w c d e f g h i j l:Int) (b:List Int) (x m:Int) (o:List Int) (a:List T50):Option R10 :=
 Option.bind (f26 k t) fun o1 =>
  match o1 with
  | .o0 y z r q v8 n =>
   cond ((n != 0))
    (some (.o0 0 0 0 0 0 0 0 0 0 0 [] 190))
    (
     cond ((((List.length q):Int) != 10))
      (some (.o0 0 0 0 0 0 0 0 0 0 0 [] 190))
      (
       Option.bind (a[1]?) fun p =>
        cond ((decide (p.Num>16)))
         (some (.o0 0 0 0 0 0 0 0 0 0 0 [] 190))
         (f10_j3 k s u false w c d e f g h i j l b x m o a y z r q 0 0 0 0 0 0 0 0 0 0 [] 0 0)))
theorem f10_j2_ok (k x y z w n e f g h i j l m o c m4 p q s r) (a:f10_j2 k x y z w n e f g h i j l m o c m4 p q s=some r):finK Tryd.prog Tryd.f10 0 (EX 10 k (nav B10 [2,2,2,2,2,2]) (⟨180,[(0,jB x),(2,.ptr 2 0),(4,.ptr 4 0),(7,jB y),(8,jB z),(92,jT w)],[(2,.box 26 [jI n,jI e,jU f,jI g,jI h,jI i,jI j,jI l,jI m,jI o,jB c]),(4,.box 50 [jI m4,jL p,jB q,.sl 4 (rowsOf encT50 s)])]⟩:St))=some r.st:=by
 unfold f10_j2 at a
 obtain ⟨o1,h2,a⟩:=bs a
 have b:=f26_ok k y _ h2
 cases o1 with
 | o0 v4 v5 v6 v7 v8 v9 =>
  (try dsimp only at a)
  (try simp only [NM,EE,R26.st] at b)
  simp (disch:=first|apply D;decide|apply K;kernel_rfl) only [W,simprocAttr,xk B10 [2,2,2,2,2,2] .sq rfl,rg B10 [1,2,2,2,2,2,2] 8 false rfl,hr 10 8 rfl,callStep,CL,gv,List.contains,t_50,xk B10 [2,2,2,2,2,2,2] .sq rfl,rg B10 [1,2,2,2,2,2,2,2] 9 false rfl,hr_10_9,t_26,xk B10 [2,2,2,2,2,2,2,2] .sq rfl,rg B10 [1,2,2,2,2,2,2,2,2] 10 false rfl,hr 10 10 rfl,t_3,xk B10 [2,2,2,2,2,2,2,2,2] .sq rfl,rg B10 [1,2,2,2,2,2,2,2,2,2] 11 false rfl,hr 10 11 rfl,fieldAddrV,buildSliceV,fillRows,fillP1_fold,t_55,t_54,xk B10 [2,2,2,2,2,2,2,2,2,2] .sq rfl,xk B10 [1,2,2,2,2,2,2,2,2,2,2] .sq rfl,rg B10 [1,1,2,2,2,2,2,2,2,2,2,2] 12 false rfl,hr 10 12 rfl,b]
  rcases cond_some a with ⟨d,a⟩ | ⟨d,a⟩
  ·cases a
   simp (disch:=first|apply D;decide|apply K;kernel_rfl) only [W,simprocAttr,xk B10 [2,1,2,2,2,2,2,2,2,2,2,2] (.cd 126) rfl,xk B10 [2,2,1,2,2,2,2,2,2,2,2,2,2] .sq rfl,rg B10 [1,2,2,1,2,2,2,2,2,2,2,2,2,2] 13 false rfl,hr_10_13,bl_26,t_26,xk B10 [2,2,2,1,2,2,2,2,2,2,2,2,2,2] .rt rfl,fin10,R10.st,b,d]
  ·simp (disch:=first|apply D;decide|apply K;kernel_rfl) only [W,simprocAttr,fieldAddrV,t_50,t_48,t_55,b,d]
   rcases cond_some a with ⟨t,a⟩ | ⟨t,a⟩
   ·cases a
    simp (disch:=first|apply D;decide|apply K;kernel_rfl) only [W,simprocAttr,xk B10 [2,1,2,2,2,2,2,2,2,2,2,2] (.cd 126) rfl,xk B10 [2,2,1,2,2,2,2,2,2,2,2,2,2] .sq rfl,rg B10 [1,2,2,1,2,2,2,2,2,2,2,2,2,2] 13 false rfl,hr_10_13,bl_26,t_26,xk B10 [2,2,2,1,2,2,2,2,2,2,2,2,2,2] .rt rfl,fin10,R10.st,b,d,t]
   ·obtain ⟨ag,u,a⟩:=bs a
    simp (disch:=first|apply D;decide|apply K;kernel_rfl) only [W,simprocAttr,fieldAddrV,t_50,t_48,indexAddrV,encT50_eq,t_47,xk B10 [2,1,2,2,2,2,2,2,2,2,2,2] (.cd 126) rfl,b,d,t,u]
    rcases cond_some a with ⟨v,a⟩ | ⟨v,a⟩
    ·cases a
     simp (disch:=first|apply D;decide|apply K;kernel_rfl) only [W,simprocAttr,xk B10 [2,2,1,2,2,2,2,2,2,2,2,2,2] .sq rfl,rg B10 [1,2,2,1,2,2,2,2,2,2,2,2,2,2] 13 false rfl,hr_10_13,bl_26,t_26,xk B10 [2,2,2,1,2,2,2,2,2,2,2,2,2,2] .rt rfl,fin10,R10.st,b,d,t,u,v]
    ·have hJ:=f10_j3_ok k x z false n e f g h i j l m o c m4 p q s v4 v5 v6 v7 0 0 0 0 0 0 0 0 0 0 [] 0 0 _ a
     simp (disch:=first|apply D;decide|apply K;kernel_rfl) only [W,simprocAttr,xk B10 [3,2,1,2,2,2,2,2,2,2,2,2,2] .sk rfl,b,d,t,u,v]
     try simp only [NM,EE] at hJ
     exact hJ
noncomputable def f10_j1 (k:Nat) (s:List Int) (t:Bool) (u c d e f g h i j l:Int) (b:List Int) (v m:Int) (o:List Int) (a:List T50):Option R10 :=
 Option.bind (a[0]?) fun w =>
  Option.bind (f27 k w.Bytes) fun o3 =>
   match o3 with
   | .o0 x y =>
    Option.bind (a[2]?) fun z =>
     Option.bind (f28 k z.Bytes) fun o10 =>
      match o10 with
      | .o0 p q =>
       cond ((y != 0))
        (some (.o0 0 0 0 0 0 0 0 0 0 0 [] 130))
        (
         cond ((q != 0))
          (some (.o0 0 0 0 0 0 0 0 0 0 0 [] 130))
          (f10_j2 k s x p false u c d e f g h i j l b v m o a))
theorem f10_j1_ok (k y v z e f g h i j l m o c n p q s r) (a:f10_j1 k y v z e f g h i j l m o c n p q s=some r):finK Tryd.prog Tryd.f10 0 (EX 10 k (nav B10 [2,2,2]) (⟨180,[(0,jB y),(2,.ptr 2 0),(4,.ptr 4 0),(67,jT v)],[(2,.box 26 [jI z,jI e,jU f,jI g,jI h,jI i,jI j,jI l,jI m,jI o,jB c]),(4,.box 50 [jI n,jL p,jB q,.sl 4 (rowsOf encT50 s)])]⟩:St))=some r.st:=by
 unfold f10_j1 at a
 obtain ⟨v1,w,a⟩:=bs a
 obtain ⟨o3,h4,a⟩:=bs a
 have d:=f27_ok k v1.Bytes _ h4
 cases o3 with
 | o0 v6 v7 =>
  (try dsimp only at a)
  (try simp only [NM,EE,R27.st] at d)
  obtain ⟨v8,x,a⟩:=bs a
  obtain ⟨o10,aa,a⟩:=bs a
  have b:=f28_ok k v8.Bytes _ aa
  cases o10 with
  | o0 ab ag =>
   (try dsimp only at a)
   (try simp only [NM,EE,R28.st] at b)
   simp (disch:=first|apply D;decide|apply K;kernel_rfl) only [W,simprocAttr,xk B10 [2,2,2] .sq rfl,rg B10 [1,2,2,2] 4 false rfl,hr 10 4 rfl,fieldAddrV,t_50,t_48,indexAddrV,encT50_eq,t_22,callStep,CL,gv,List.contains,xk B10 [2,2,2,2] .sq rfl,rg B10 [1,2,2,2,2] 5 false rfl,hr 10 5 rfl,xk B10 [2,2,2,2,2] .sq rfl,xk B10 [1,2,2,2,2,2] .sq rfl,rg B10 [1,1,2,2,2,2,2] 6 false rfl,hr 10 6 rfl,w,d,x,b]
   rcases cond_some a with ⟨t,a⟩ | ⟨t,a⟩
   ·cases a
    simp (disch:=first|apply D;decide|apply K;kernel_rfl) only [W,simprocAttr,xk B10 [2,1,2,2,2,2,2] (.cd 92) rfl,xk B10 [2,2,1,2,2,2,2,2] .sq rfl,rg B10 [1,2,2,1,2,2,2,2,2] 7 false rfl,hr_10_7,bl_26,t_26,xk B10 [2,2,2,1,2,2,2,2,2] .rt rfl,fin10,R10.st,w,d,x,b,t]
   ·simp (disch:=first|apply D;decide|apply K;kernel_rfl) only [W,simprocAttr,xk B10 [2,1,2,2,2,2,2] (.cd 92) rfl,w,d,x,b,t]
    rcases cond_some a with ⟨u,a⟩ | ⟨u,a⟩
    ·cases a
     simp (disch:=first|apply D;decide|apply K;kernel_rfl) only [W,simprocAttr,xk B10 [2,2,1,2,2,2,2,2] .sq rfl,rg B10 [1,2,2,1,2,2,2,2,2] 7 false rfl,hr_10_7,bl_26,t_26,xk B10 [2,2,2,1,2,2,2,2,2] .rt rfl,fin10,R10.st,w,d,x,b,t,u]
    ·have hJ:=f10_j2_ok k y v6 ab false z e f g h i j l m o c n p q s _ a
     simp (disch:=first|apply D;decide|apply K;kernel_rfl) only [W,simprocAttr,xk B10 [3,2,1,2,2,2,2,2] .sk rfl,w,d,x,b,t,u]
     try simp only [NM,EE] at hJ
     exact hJ
noncomputable def f10_e (k:Nat) (b:List Int):Option R10 :=
 Option.bind (f26 k b) fun o1 =>
  match o1 with
  | .o0 f g h a i j =>
   cond ((j != 0))
    (some (.o0 0 0 0 0 0 0 0 0 0 0 [] 190))
    (
     cond ((i != ((List.length b):Int)))
      (some (.o0 0 0 0 0 0 0 0 0 0 0 [] 190))
      (
       cond ((f != 4))
        (some (.o0 0 0 0 0 0 0 0 0 0 0 [] 190))
        (
         cond ((((List.length a):Int) != 3))
          (some (.o0 0 0 0 0 0 0 0 0 0 0 [] 190))
          (
           Option.bind (a[0]?) fun c =>
            cond ((c.Kind != 2))
             (some (.o0 0 0 0 0 0 0 0 0 0 0 [] 190))
             (
              Option.bind (a[1]?) fun d =>
               cond ((d.Kind != 1))
                (some (.o0 0 0 0 0 0 0 0 0 0 0 [] 190))
                (
                 Option.bind (a[2]?) fun e =>
                  cond ((e.Kind != 2))
                   (some (.o0 0 0 0 0 0 0 0 0 0 0 [] 190))
                   (f10_j1 k b false 0 0 0 0 0 0 0 0 0 0 [] f g h a)))))))
theorem f10_e_ok (k o r) (a:f10_e k o=some r):finK Tryd.prog Tryd.f10 0 (EX 10 k (nav B10 []) (⟨180,[(0,jB o)],[]⟩:St))=some r.st:=by
 unfold f10_e at a
 obtain ⟨o1,p,a⟩:=bs a
 have b:=f26_ok k o _ p
 cases o1 with
 | o0 q s t u y z =>
  (try dsimp only at a)
  (try simp only [NM,EE,R26.st] at b)
  simp (disch:=first|apply D;decide|apply K;kernel_rfl) only [W,simprocAttr,xk B10 [] .sq rfl,rg B10 [1] 0 false rfl,hr_10_0,t_26,xk B10 [2] .sq rfl,rg B10 [1,2] 1 false rfl,hr 10 1 rfl,callStep,CL,gv,List.contains,t_50,xk B10 [2,2] .sq rfl,xk B10 [1,2,2] .sq rfl,rg B10 [1,1,2,2] 2 false rfl,hr 10 2 rfl,b]
  rcases cond_some a with ⟨c,a⟩ | ⟨c,a⟩
  ·cases a
   simp (disch:=first|apply D;decide|apply K;kernel_rfl) only [W,simprocAttr,xk B10 [2,1,2,2] (.cd 67) rfl,xk B10 [2,2,1,2,2] .sq rfl,rg B10 [1,2,2,1,2,2] 3 false rfl,hr_10_3,bl_26,t_26,xk B10 [2,2,2,1,2,2] .rt rfl,fin10,R10.st,b,c]
  ·simp (disch:=first|apply D;decide|apply K;kernel_rfl) only [W,simprocAttr,t_22,b,c]
   rcases cond_some a with ⟨d,a⟩ | ⟨d,a⟩
   ·cases a
    simp (disch:=first|apply D;decide|apply K;kernel_rfl) only [W,simprocAttr,xk B10 [2,1,2,2] (.cd 67) rfl,xk B10 [2,2,1,2,2] .sq rfl,rg B10 [1,2,2,1,2,2] 3 false rfl,hr_10_3,bl_26,t_26,xk B10 [2,2,2,1,2,2] .rt rfl,fin10,R10.st,b,c,d]
   ·simp (disch:=first|apply D;decide|apply K;kernel_rfl) only [W,simprocAttr,fieldAddrV,t_50,t_3,b,c,d]
    rcases cond_some a with ⟨e,a⟩ | ⟨e,a⟩
    ·cases a
     simp (disch:=first|apply D;decide|apply K;kernel_rfl) only [W,simprocAttr,xk B10 [2,1,2,2] (.cd 67) rfl,xk B10 [2,2,1,2,2] .sq rfl,rg B10 [1,2,2,1,2,2] 3 false rfl,hr_10_3,bl_26,t_26,xk B10 [2,2,2,1,2,2] .rt rfl,fin10,R10.st,b,c,d,e]
    ·simp (disch:=first|apply D;decide|apply K;kernel_rfl) only [W,simprocAttr,fieldAddrV,t_50,t_48,b,c,d,e]
     rcases cond_some a with ⟨f,a⟩ | ⟨f,a⟩
     ·cases a
      simp (disch:=first|apply D;decide|apply K;kernel_rfl) only [W,simprocAttr,xk B10 [2,1,2,2] (.cd 67) rfl,xk B10 [2,2,1,2,2] .sq rfl,rg B10 [1,2,2,1,2,2] 3 false rfl,hr_10_3,bl_26,t_26,xk B10 [2,2,2,1,2,2] .rt rfl,fin10,R10.st,b,c,d,e,f]
     ·obtain ⟨v,g,a⟩:=bs a
      simp (disch:=first|apply D;decide|apply K;kernel_rfl) only [W,simprocAttr,fieldAddrV,t_50,t_48,indexAddrV,encT50_eq,t_3,b,c,d,e,f,g]
      rcases cond_some a with ⟨h,a⟩ | ⟨h,a⟩
      ·cases a
       simp (disch:=first|apply D;decide|apply K;kernel_rfl) only [W,simprocAttr,xk B10 [2,1,2,2] (.cd 67) rfl,xk B10 [2,2,1,2,2] .sq rfl,rg B10 [1,2,2,1,2,2] 3 false rfl,hr_10_3,bl_26,t_26,xk B10 [2,2,2,1,2,2] .rt rfl,fin10,R10.st,b,c,d,e,f,g,h]
      ·obtain ⟨w,i,a⟩:=bs a
       simp (disch:=first|apply D;decide|apply K;kernel_rfl) only [W,simprocAttr,fieldAddrV,t_50,t_48,indexAddrV,encT50_eq,t_3,b,c,d,e,f,g,h,i]
       rcases cond_some a with ⟨j,a⟩ | ⟨j,a⟩
       ·cases a
        simp (disch:=first|apply D;decide|apply K;kernel_rfl) only [W,simprocAttr,xk B10 [2,1,2,2] (.cd 67) rfl,xk B10 [2,2,1,2,2] .sq rfl,rg B10 [1,2,2,1,2,2] 3 false rfl,hr_10_3,bl_26,t_26,xk B10 [2,2,2,1,2,2] .rt rfl,fin10,R10.st,b,c,d,e,f,g,h,i,j]
       ·obtain ⟨x,l,a⟩:=bs a
        simp (disch:=first|apply D;decide|apply K;kernel_rfl) only [W,simprocAttr,fieldAddrV,t_50,t_48,indexAddrV,encT50_eq,t_3,xk B10 [2,1,2,2] (.cd 67) rfl,b,c,d,e,f,g,h,i,j,l]
        rcases cond_some a with ⟨m,a⟩ | ⟨m,a⟩
        ·cases a
         simp (disch:=first|apply D;decide|apply K;kernel_rfl) only [W,simprocAttr,xk B10 [2,2,1,2,2] .sq rfl,rg B10 [1,2,2,1,2,2] 3 false rfl,hr_10_3,bl_26,t_26,xk B10 [2,2,2,1,2,2] .rt rfl,fin10,R10.st,b,c,d,e,f,g,h,i,j,l,m]
        ·have hJ:=f10_j1_ok k o false 0 0 0 0 0 0 0 0 0 0 [] q s t u _ a
         simp (disch:=first|apply D;decide|apply K;kernel_rfl) only [W,simprocAttr,xk B10 [3,2,1,2,2] .sk rfl,b,c,d,e,f,g,h,i,j,l,m]
         try simp only [NM,EE] at hJ
         exact hJ
noncomputable def f10 (k:Nat) (a:List Int):Option R10:=match k with | 0=>none | k+1=>f10_e k a
theorem f10_ok (k a r) (b:f10 k a=some r):CV k 10 [jB a] []=some r.st:=by
 cases k with
 | zero=>cases b
 | succ k =>
  unfold CV
  rw [ev_call (F:=Tryd.f10) (c:=(nav B10 [])) rfl Tryd.func10 rfl rfl rfl rfl]
  exact f10_e_ok k a r b
end Go.Proofs.YtbnnmplkbpgcaaaDoorV