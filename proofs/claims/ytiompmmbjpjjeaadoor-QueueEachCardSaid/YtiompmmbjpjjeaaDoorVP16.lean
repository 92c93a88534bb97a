/- What the program's functions answer: plain functions,and that the interpreter answers what they do. Written by a program of this session,out of the translation. -/
import Derived.Test.YtiompmmbjpjjeaaDoorVP15
namespace Go.Proofs.YtiompmmbjpjjeaaDoorV
open Go
set_option linter.unusedVariables false
set_option linter.unusedSimpArgs false
set_option maxRecDepth 8000
set_option maxHeartbeats 4000000
-- f25: f25 heliograph/queue.choose
inductive R25 where
 | o0 (y:Int) (a:List T56) (b c:List T44) (d:List Int) (e:List T54)
noncomputable def R25.st:R25→V×List O×List O
 | .o0 y a b c d e=>(V.tup [.agg [.own 2000000,.own 2000001,.own 2000002,.own 2000003],.own 2000004,jI y],[],[.row true 5 56 (rowsOf encT56 a),.row true 3 44 (rowsOf encT44 b),.row true 3 44 (rowsOf encT44 c),.row true 1 3 (rowsOf (encI .i64) d),.row true 6 54 (rowsOf encT54 e)])
inductive R25_s1_l3 where
 | o0 (y m o p:Int) (q:List T54) (s:List Int) (t:Int) (u:List T44) (v:Int) (w:List T47) (a:List T56) (b c:List T44) (d:List Int) (e:List T56) (f g:List T44) (h i:List Int) (j:List T54) (l:List T44)
 | o1 (y m o p:Int) (q:List T54) (s:List Int) (t:Int) (u:List T44) (v:Int) (w:List T47) (a:List T56) (b c:List T44) (d:List Int) (e:List T56) (f g:List T44) (h i:List Int) (j:List T54) (l:List T44)
 | o2 (y m o p:Int) (q:List T54) (s:List Int) (t:Int) (u:List T44) (v:Int) (w:List T47) (a:List T56) (b c:List T44) (d:List Int) (e:List T56) (f g:List T44) (h i:List Int) (j:List T54) (l:List T44)
 | o3 (y m o p:Int) (q:List T54) (s:List Int) (t:Int) (u:List T44) (v:Int) (w:List T47) (a:List T56) (b c:List T44) (d:List Int) (e:List T56) (f g:List T44) (h i:List Int) (j:List T54) (l:List T44)
 | o4 (y m o p:Int) (q:List T54) (s:List Int) (t:Int) (u:List T44) (v:Int) (w:List T47) (a:List T56) (b c:List T44) (d:List Int) (e:List T56) (f g:List T44) (h i:List Int) (j:List T54) (l:List T44)
 | o5 (y m:Int) (o:Bool) (p q:Int) (s:List T54) (t:List Int) (u:Int) (v:List T44) (w:Int) (a:List T47) (b:List T56) (c d:List T44) (e:List Int) (f:List T56) (g h:List T44) (i j:List Int) (l:List T54) (x:List T44)
noncomputable def R25_s1_l3.st:R25_s1_l3→Out×St
 | .o0 y m o p q s t u v w a b c d e f g h i j l=>(.norm,(⟨154,[(2,.ptr 30000 0),(3,.ptr 30001 0),(4,.ptr 30002 0),(9,.ptr 30007 0),(10,.own 30012),(11,.own 30013),(43,.own 30014),(44,jI y),(45,jI m)],[(30000,.box 28 [jI o,jI p,.sl 6 (rowsOf encT54 q),.sl 1 (rowsOf (encI .i64) s),jI t,.sl 3 (rowsOf encT44 u),jI v]),(30001,.box 31 [.sl 11 (rowsOf encT47 w)]),(30002,.box 37 [.own 30003,.own 30004,.own 30005,.own 30006]),(30003,.row true 5 56 (rowsOf encT56 a)),(30004,.row true 3 44 (rowsOf encT44 b)),(30005,.row true 3 44 (rowsOf encT44 c)),(30006,.row true 1 3 (rowsOf (encI .i64) d)),(30007,.box 37 [.own 30008,.own 30009,.own 30010,.own 30011]),(30008,.row true 5 56 (rowsOf encT56 e)),(30009,.row true 3 44 (rowsOf encT44 f)),(30010,.row true 3 44 (rowsOf encT44 g)),(30011,.row true 1 3 (rowsOf (encI .i64) h)),(30012,.row true 1 3 (rowsOf (encI .i64) i)),(30013,.row true 6 54 (rowsOf encT54 j)),(30014,.row true 3 44 (rowsOf encT44 l))]⟩:St))
 | .o1 y m o p q s t u v w a b c d e f g h i j l=>(.norm,(⟨154,[(2,.ptr 30000 0),(3,.ptr 30001 0),(4,.ptr 30002 0),(9,.ptr 30007 0),(10,.own 30012),(11,.own 30013),(43,.own 30014),(44,jI y),(45,jI m)],[(30000,.box 28 [jI o,jI p,.sl 6 (rowsOf encT54 q),.sl 1 (rowsOf (encI .i64) s),jI t,.sl 3 (rowsOf encT44 u),jI v]),(30001,.box 31 [.sl 11 (rowsOf encT47 w)]),(30002,.box 37 [.own 30003,.own 30004,.own 30005,.own 30006]),(30003,.row true 5 56 (rowsOf encT56 a)),(30004,.row true 3 44 (rowsOf encT44 b)),(30005,.row true 3 44 (rowsOf encT44 c)),(30006,.row true 1 3 (rowsOf (encI .i64) d)),(30007,.box 37 [.own 125,.own 30009,.own 30010,.own 30011]),(125,.row true 5 56 (rowsOf encT56 e)),(30009,.row true 3 44 (rowsOf encT44 f)),(30010,.row true 3 44 (rowsOf encT44 g)),(30011,.row true 1 3 (rowsOf (encI .i64) h)),(30012,.row true 1 3 (rowsOf (encI .i64) i)),(30013,.row true 6 54 (rowsOf encT54 j)),(30014,.row true 3 44 (rowsOf encT44 l))]⟩:St))
 | .o2 y m o p q s t u v w a b c d e f g h i j l=>(.norm,(⟨154,[(2,.ptr 30000 0),(3,.ptr 30001 0),(4,.ptr 30002 0),(9,.ptr 30007 0),(10,.own 30012),(11,.own 30013),(43,.own 30014),(44,jI y),(45,jI m)],[(30000,.box 28 [jI o,jI p,.sl 6 (rowsOf encT54 q),.sl 1 (rowsOf (encI .i64) s),jI t,.sl 3 (rowsOf encT44 u),jI v]),(30001,.box 31 [.sl 11 (rowsOf encT47 w)]),(30002,.box 37 [.own 30003,.own 30004,.own 30005,.own 30006]),(30003,.row true 5 56 (rowsOf encT56 a)),(30004,.row true 3 44 (rowsOf encT44 b)),(30005,.row true 3 44 (rowsOf encT44 c)),(30006,.row true 1 3 (rowsOf (encI .i64) d)),(30007,.box 37 [.own 30008,.own 149,.own 30010,.own 30011]),(30008,.row true 5 56 (rowsOf encT56 e)),(149,.row true 3 44 (rowsOf encT44 f)),(30010,.row true 3 44 (rowsOf encT44 g)),(30011,.row true 1 3 (rowsOf (encI .i64) h)),(30012,.row true 1 3 (rowsOf (encI .i64) i)),(30013,.row true 6 54 (rowsOf encT54 j)),(30014,.row true 3 44 (rowsOf encT44 l))]⟩:St))
 | .o3 y m o p q s t u v w a b c d e f g h i j l=>(.norm,(⟨154,[(2,.ptr 30000 0),(3,.ptr 30001 0),(4,.ptr 30002 0),(9,.ptr 30007 0),(10,.own 30012),(11,.own 141),(43,.own 30014),(44,jI y),(45,jI m)],[(30000,.box 28 [jI o,jI p,.sl 6 (rowsOf encT54 q),.sl 1 (rowsOf (encI .i64) s),jI t,.sl 3 (rowsOf encT44 u),jI v]),(30001,.box 31 [.sl 11 (rowsOf encT47 w)]),(30002,.box 37 [.own 30003,.own 30004,.own 30005,.own 30006]),(30003,.row true 5 56 (rowsOf encT56 a)),(30004,.row true 3 44 (rowsOf encT44 b)),(30005,.row true 3 44 (rowsOf encT44 c)),(30006,.row true 1 3 (rowsOf (encI .i64) d)),(30007,.box 37 [.own 30008,.own 149,.own 30010,.own 30011]),(30008,.row true 5 56 (rowsOf encT56 e)),(149,.row true 3 44 (rowsOf encT44 f)),(30010,.row true 3 44 (rowsOf encT44 g)),(30011,.row true 1 3 (rowsOf (encI .i64) h)),(30012,.row true 1 3 (rowsOf (encI .i64) i)),(141,.row true 6 54 (rowsOf encT54 j)),(30014,.row true 3 44 (rowsOf encT44 l))]⟩:St))
 | .o4 y m o p q s t u v w a b c d e f g h i j l=>(.norm,(⟨154,[(2,.ptr 30000 0),(3,.ptr 30001 0),(4,.ptr 30002 0),(9,.ptr 30007 0),(10,.own 30012),(11,.own 30013),(43,.own 30014),(44,jI y),(45,jI m)],[(30000,.box 28 [jI o,jI p,.sl 6 (rowsOf encT54 q),.sl 1 (rowsOf (encI .i64) s),jI t,.sl 3 (rowsOf encT44 u),jI v]),(30001,.box 31 [.sl 11 (rowsOf encT47 w)]),(30002,.box 37 [.own 30003,.own 30004,.own 30005,.own 30006]),(30003,.row true 5 56 (rowsOf encT56 a)),(30004,.row true 3 44 (rowsOf encT44 b)),(30005,.row true 3 44 (rowsOf encT44 c)),(30006,.row true 1 3 (rowsOf (encI .i64) d)),(30007,.box 37 [.own 30008,.own 30009,.own 149,.own 30011]),(30008,.row true 5 56 (rowsOf encT56 e)),(30009,.row true 3 44 (rowsOf encT44 f)),(149,.row true 3 44 (rowsOf encT44 g)),(30011,.row true 1 3 (rowsOf (encI .i64) h)),(30012,.row true 1 3 (rowsOf (encI .i64) i)),(30013,.row true 6 54 (rowsOf encT54 j)),(30014,.row true 3 44 (rowsOf encT44 l))]⟩:St))
 | .o5 y m o p q s t u v w a b c d e f g h i j l x=>(.exit 0,(⟨154,[(2,.ptr 30000 0),(3,.ptr 30001 0),(4,.ptr 30002 0),(9,.ptr 30007 0),(10,.own 30012),(11,.own 30013),(43,.own 30014),(44,jI y),(45,jI m),(46,jT o)],[(30000,.box 28 [jI p,jI q,.sl 6 (rowsOf encT54 s),.sl 1 (rowsOf (encI .i64) t),jI u,.sl 3 (rowsOf encT44 v),jI w]),(30001,.box 31 [.sl 11 (rowsOf encT47 a)]),(30002,.box 37 [.own 30003,.own 30004,.own 30005,.own 30006]),(30003,.row true 5 56 (rowsOf encT56 b)),(30004,.row true 3 44 (rowsOf encT44 c)),(30005,.row true 3 44 (rowsOf encT44 d)),(30006,.row true 1 3 (rowsOf (encI .i64) e)),(30007,.box 37 [.own 30008,.own 30009,.own 30010,.own 30011]),(30008,.row true 5 56 (rowsOf encT56 f)),(30009,.row true 3 44 (rowsOf encT44 g)),(30010,.row true 3 44 (rowsOf encT44 h)),(30011,.row true 1 3 (rowsOf (encI .i64) i)),(30012,.row true 1 3 (rowsOf (encI .i64) j)),(30013,.row true 6 54 (rowsOf encT54 l)),(30014,.row true 3 44 (rowsOf encT44 x))]⟩:St))
noncomputable def f25_s1_l3_j2 (k:Nat) (o p:Int) (ai:Bool) (q a:Int) (b:List T54) (c:List Int) (d:Int) (e:List T44) (f:Int) (s:List T47) (t:List T56) (u v:List T44) (w:List Int) (x:List T56) (y g:List T44) (h i:List Int) (j:List T54) (aj z r ak n aa ab ac ad ae af ag ah:Int) (m:List Int) (l:List T44):Option R25_s1_l3 :=
 some (R25_s1_l3.o0 o (IntKind.i64.wrap (p+(1:Int))) q a b c d e f s t u v w x y g h i j l)
theorem f25_s1_l3_j2_ok (k n aa ab ac b c d e f g ad ae af ag ah ai aj v w x y ak h i al j l m o p q s t u a z r) (hF:f25_s1_l3_j2 k n aa ab ac b c d e f g ad ae af ag ah ai aj v w x y ak h i al j l m o p q s t u a z=some r):EX 25 k (nav B25 [2,2,2,1,2,2,1,2,2,2,2,2,2,1,2]) (⟨154,[(2,.ptr 30000 0),(3,.ptr 30001 0),(4,.ptr 30002 0),(9,.ptr 30007 0),(10,.own 30012),(11,.own 30013),(13,.ptr 13 0),(14,.ptr 14 0),(43,.own 30014),(44,jI n),(45,jI aa),(69,jT ab)],[(30000,.box 28 [jI ac,jI b,.sl 6 (rowsOf encT54 c),.sl 1 (rowsOf (encI .i64) d),jI e,.sl 3 (rowsOf encT44 f),jI g]),(30001,.box 31 [.sl 11 (rowsOf encT47 ad)]),(30002,.box 37 [.own 30003,.own 30004,.own 30005,.own 30006]),(30003,.row true 5 56 (rowsOf encT56 ae)),(30004,.row true 3 44 (rowsOf encT44 af)),(30005,.row true 3 44 (rowsOf encT44 ag)),(30006,.row true 1 3 (rowsOf (encI .i64) ah)),(30007,.box 37 [.own 30008,.own 30009,.own 30010,.own 30011]),(30008,.row true 5 56 (rowsOf encT56 ai)),(30009,.row true 3 44 (rowsOf encT44 aj)),(30010,.row true 3 44 (rowsOf encT44 v)),(30011,.row true 1 3 (rowsOf (encI .i64) w)),(30012,.row true 1 3 (rowsOf (encI .i64) x)),(30013,.row true 6 54 (rowsOf encT54 y)),(13,.box 44 [jI ak,jU h,jI i]),(14,.box 47 [jI al,jI j,jU l,jI m,jI o,jI p,jI q,jI s,jI t,jI u,jB a]),(30014,.row true 3 44 (rowsOf encT44 z))]⟩:St)=some r.st:=by
 unfold f25_s1_l3_j2 at hF
 cases hF
 simp only [W,simprocAttr,rg B25 [2,2,2,1,2,2,1,2,2,2,2,2,2,1,2] 29 false rfl,hr 25 29 rfl,R25_s1_l3.st]
noncomputable def f25_s1_l3_j4 (k:Nat) (o p q a:Int) (b:List T54) (c:List Int) (d:Int) (e:List T44) (f:Int) (s:List T47) (t:List T56) (u v:List T44) (w:List Int) (g:List T56) (x h:List T44) (i j:List Int) (l:List T54) (m:List T44):Option R25_s1_l3 :=
 some (R25_s1_l3.o1 o (IntKind.i64.wrap (p+(1:Int))) q a b c d e f s t u v w g x h i j l m)
theorem f25_s1_l3_j4_ok (k o p q a b c d e f s t u v w g x h i j l m r) (y:f25_s1_l3_j4 k o p q a b c d e f s t u v w g x h i j l m=some r):EX 25 k (nav B25 [2,2,2,1,2,2,1,2,2,2,2,2,2,1,2]) (⟨154,[(2,.ptr 30000 0),(3,.ptr 30001 0),(4,.ptr 30002 0),(9,.ptr 30007 0),(10,.own 30012),(11,.own 30013),(43,.own 30014),(44,jI o),(45,jI p)],[(30000,.box 28 [jI q,jI a,.sl 6 (rowsOf encT54 b),.sl 1 (rowsOf (encI .i64) c),jI d,.sl 3 (rowsOf encT44 e),jI f]),(30001,.box 31 [.sl 11 (rowsOf encT47 s)]),(30002,.box 37 [.own 30003,.own 30004,.own 30005,.own 30006]),(30003,.row true 5 56 (rowsOf encT56 t)),(30004,.row true 3 44 (rowsOf encT44 u)),(30005,.row true 3 44 (rowsOf encT44 v)),(30006,.row true 1 3 (rowsOf (encI .i64) w)),(30007,.box 37 [.own 125,.own 30009,.own 30010,.own 30011]),(125,.row true 5 56 (rowsOf encT56 g)),(30009,.row true 3 44 (rowsOf encT44 x)),(30010,.row true 3 44 (rowsOf encT44 h)),(30011,.row true 1 3 (rowsOf (encI .i64) i)),(30012,.row true 1 3 (rowsOf (encI .i64) j)),(30013,.row true 6 54 (rowsOf encT54 l)),(30014,.row true 3 44 (rowsOf encT44 m))]⟩:St)=some r.st:=by
 unfold f25_s1_l3_j4 at y
 cases y
 simp only [W,simprocAttr,rg B25 [2,2,2,1,2,2,1,2,2,2,2,2,2,1,2] 29 false rfl,hr 25 29 rfl,R25_s1_l3.st]
noncomputable def f25_s1_l3_j7 (k:Nat) (o p q a:Int) (b:List T54) (c:List Int) (d:Int) (e:List T44) (f:Int) (s:List T47) (t:List T56) (u v:List T44) (w:List Int) (x:List T56) (g h:List T44) (i j:List Int) (l:List T54) (m:List T44):Option R25_s1_l3 :=
 some (R25_s1_l3.o2 o (IntKind.i64.wrap (p+(1:Int))) q a b c d e f s t u v w x g h i j l m)
theorem f25_s1_l3_j7_ok (k o p q a b c d e f s t u v w x g h i j l m r) (y:f25_s1_l3_j7 k o p q a b c d e f s t u v w x g h i j l m=some r):EX 25 k (nav B25 [2,2,2,1,2,2,1,2,2,2,2,2,2,1,2]) (⟨154,[(2,.ptr 30000 0),(3,.ptr 30001 0),(4,.ptr 30002 0),(9,.ptr 30007 0),(10,.own 30012),(11,.own 30013),(43,.own 30014),(44,jI o),(45,jI p)],[(30000,.box 28 [jI q,jI a,.sl 6 (rowsOf encT54 b),.sl 1 (rowsOf (encI .i64) c),jI d,.sl 3 (rowsOf encT44 e),jI f]),(30001,.box 31 [.sl 11 (rowsOf encT47 s)]),(30002,.box 37 [.own 30003,.own 30004,.own 30005,.own 30006]),(30003,.row true 5 56 (rowsOf encT56 t)),(30004,.row true 3 44 (rowsOf encT44 u)),(30005,.row true 3 44 (rowsOf encT44 v)),(30006,.row true 1 3 (rowsOf (encI .i64) w)),(30007,.box 37 [.own 30008,.own 149,.own 30010,.own 30011]),(30008,.row true 5 56 (rowsOf encT56 x)),(149,.row true 3 44 (rowsOf encT44 g)),(30010,.row true 3 44 (rowsOf encT44 h)),(30011,.row true 1 3 (rowsOf (encI .i64) i)),(30012,.row true 1 3 (rowsOf (encI .i64) j)),(30013,.row true 6 54 (rowsOf encT54 l)),(30014,.row true 3 44 (rowsOf encT44 m))]⟩:St)=some r.st:=by
 unfold f25_s1_l3_j7 at y
 cases y
 simp only [W,simprocAttr,rg B25 [2,2,2,1,2,2,1,2,2,2,2,2,2,1,2] 29 false rfl,hr 25 29 rfl,R25_s1_l3.st]
noncomputable def f25_s1_l3_j6 (k:Nat) (q s t a:Int) (b:List T54) (c:List Int) (d:Int) (e:List T44) (f:Int) (u:List T47) (v:List T56) (w x:List T44) (y:List Int) (z:List T56) (i j:List T44) (l m:List Int) (o:List T54) (r g h:Int) (p:List T44):Option R25_s1_l3 :=
 ifE (((List.length i)+1) * 24≤roomy) (
  f25_s1_l3_j7 k q s t a b c d e f u v w x y z (i++([(T44.mk r g h)]:List T44)) j l m o p)
theorem f25_s1_l3_j6_ok (k q s t c d e f g h u v w x y z n j l m o i a b p r) (hF:f25_s1_l3_j6 k q s t c d e f g h u v w x y z n j l m o i a b p=some r):SQ 25 k (nav B25 [2,2,2,1,2,2,1,2,2,2,2,2,2,1,2]) (blockK 1 (EX 25 k (nav B25 [2,2,2,2,2,2,2,1,2,2,1,2,2,1,2,2,2,2,2,2,1,2]) (⟨154,[(2,.ptr 30000 0),(3,.ptr 30001 0),(4,.ptr 30002 0),(9,.ptr 30007 0),(10,.own 30012),(11,.own 30013),(13,.ptr 13 0),(17,.ptr 30007 1),(43,.own 30014),(44,jI q),(45,jI s)],[(30000,.box 28 [jI t,jI c,.sl 6 (rowsOf encT54 d),.sl 1 (rowsOf (encI .i64) e),jI f,.sl 3 (rowsOf encT44 g),jI h]),(30001,.box 31 [.sl 11 (rowsOf encT47 u)]),(30002,.box 37 [.own 30003,.own 30004,.own 30005,.own 30006]),(30003,.row true 5 56 (rowsOf encT56 v)),(30004,.row true 3 44 (rowsOf encT44 w)),(30005,.row true 3 44 (rowsOf encT44 x)),(30006,.row true 1 3 (rowsOf (encI .i64) y)),(30007,.box 37 [.own 30008,.own 30009,.own 30010,.own 30011]),(30008,.row true 5 56 (rowsOf encT56 z)),(30009,.row true 3 44 (rowsOf encT44 n)),(30010,.row true 3 44 (rowsOf encT44 j)),(30011,.row true 1 3 (rowsOf (encI .i64) l)),(30012,.row true 1 3 (rowsOf (encI .i64) m)),(30013,.row true 6 54 (rowsOf encT54 o)),(13,.box 44 [jI i,jU a,jI b]),(30014,.row true 3 44 (rowsOf encT44 p))]⟩:St)))=some r.st:=by
 unfold f25_s1_l3_j6 at hF
 have q1:[[jI i,jU a,jI b]]=rowsOf encT44 ([(T44.mk i a b)]:List T44):=rfl
 have q2:List.map (tell [0,0,0]) (rowsOf encT44 ([(T44.mk i a b)]:List T44))=rowsOf encT44 ([(T44.mk i a b)]:List T44):=rfl
 obtain ⟨h3,hF⟩:=ifE_some.1 hF
 have hJ:=f25_s1_l3_j7_ok k q s t c d e f g h u v w x y z (n++([(T44.mk i a b)]:List T44)) j l m o p _ hF
 simp (disch:=first|decide|apply K;kernel_rfl) only [W,simprocAttr,rg B25 [2,2,2,2,2,2,2,1,2,2,1,2,2,1,2,2,2,2,2,2,1,2] 28 true rfl,hr 25 28 rfl,t_26,t_44,buildSliceV,fillRows,sm_44,appendV,content,q1,q2,h3]
 try simp only [NM,EE] at hJ
 exact hJ
noncomputable def f25_s1_l3_j5 (k:Nat) (p q:Int) (ae:Bool) (s a:Int) (b:List T54) (c:List Int) (d:Int) (e:List T44) (f:Int) (t:List T47) (u:List T56) (v w:List T44) (x:List Int) (y:List T56) (z i:List T44) (j l:List Int) (m:List T54) (r g h af n aa ab ac ad:Int) (o:List T44):Option R25_s1_l3 :=
 f25_s1_l3_j6 k p q s a b c d e f t u v w x y z i j l m r g h o
theorem f25_s1_l3_j5_ok (k w x v y a b c d e f z n aa ab ac ad ae i j l m af g h ag o p q s t u r) (hF:f25_s1_l3_j5 k w x v y a b c d e f z n aa ab ac ad ae i j l m af g h ag o p q s t u=some r):SQ 25 k (nav B25 [2,2,2,1,2,2,1,2,2,2,2,2,2,1,2]) (blockK 1 (SQ 25 k (nav B25 [2,2,2,2,2,2,2,1,2,2,1,2,2,1,2,2,2,2,2,2,1,2]) (EX 25 k (nav B25 [2,2,2,2,2,2,1,2,2,2,2,2,2,1,2,2,1,2,2,1,2,2,2,2,2,2,1,2]) (⟨154,[(2,.ptr 30000 0),(3,.ptr 30001 0),(4,.ptr 30002 0),(9,.ptr 30007 0),(10,.own 30012),(11,.own 30013),(13,.ptr 13 0),(21,.ptr 21 0),(43,.own 30014),(44,jI w),(45,jI x),(135,jT v)],[(30000,.box 28 [jI y,jI a,.sl 6 (rowsOf encT54 b),.sl 1 (rowsOf (encI .i64) c),jI d,.sl 3 (rowsOf encT44 e),jI f]),(30001,.box 31 [.sl 11 (rowsOf encT47 z)]),(30002,.box 37 [.own 30003,.own 30004,.own 30005,.own 30006]),(30003,.row true 5 56 (rowsOf encT56 n)),(30004,.row true 3 44 (rowsOf encT44 aa)),(30005,.row true 3 44 (rowsOf encT44 ab)),(30006,.row true 1 3 (rowsOf (encI .i64) ac)),(30007,.box 37 [.own 30008,.own 30009,.own 30010,.own 30011]),(30008,.row true 5 56 (rowsOf encT56 ad)),(30009,.row true 3 44 (rowsOf encT44 ae)),(30010,.row true 3 44 (rowsOf encT44 i)),(30011,.row true 1 3 (rowsOf (encI .i64) j)),(30012,.row true 1 3 (rowsOf (encI .i64) l)),(30013,.row true 6 54 (rowsOf encT54 m)),(13,.box 44 [jI af,jU g,jI h]),(21,.box 54 [jI ag,jI o,jI p,jI q,jI s,jI t]),(30014,.row true 3 44 (rowsOf encT44 u))]⟩:St))))=some r.st:=by
 unfold f25_s1_l3_j5 at hF
 have hJ:=f25_s1_l3_j6_ok k w x y a b c d e f z n aa ab ac ad ae i j l m af g h u _ hF
 simp only [W,simprocAttr,rg B25 [2,2,2,2,2,2,1,2,2,2,2,2,2,1,2,2,1,2,2,1,2,2,2,2,2,2,1,2] 27 false rfl,hr 25 27 rfl,fieldAddrV,t_37,t_26]
 try simp only [NM,EE] at hJ
 exact hJ
noncomputable def f25_s1_l3_j10 (k:Nat) (o p q a:Int) (b:List T54) (c:List Int) (d:Int) (e:List T44) (f:Int) (s:List T47) (t:List T56) (u v:List T44) (w:List Int) (x:List T56) (g h:List T44) (i j:List Int) (l:List T54) (m:List T44):Option R25_s1_l3 :=
 some (R25_s1_l3.o3 o (IntKind.i64.wrap (p+(1:Int))) q a b c d e f s t u v w x g h i j l m)
theorem f25_s1_l3_j10_ok (k o p q a b c d e f s t u v w x g h i j l m r) (y:f25_s1_l3_j10 k o p q a b c d e f s t u v w x g h i j l m=some r):EX 25 k (nav B25 [2,2,2,1,2,2,1,2,2,2,2,2,2,1,2]) (⟨154,[(2,.ptr 30000 0),(3,.ptr 30001 0),(4,.ptr 30002 0),(9,.ptr 30007 0),(10,.own 30012),(11,.own 141),(43,.own 30014),(44,jI o),(45,jI p)],[(30000,.box 28 [jI q,jI a,.sl 6 (rowsOf encT54 b),.sl 1 (rowsOf (encI .i64) c),jI d,.sl 3 (rowsOf encT44 e),jI f]),(30001,.box 31 [.sl 11 (rowsOf encT47 s)]),(30002,.box 37 [.own 30003,.own 30004,.own 30005,.own 30006]),(30003,.row true 5 56 (rowsOf encT56 t)),(30004,.row true 3 44 (rowsOf encT44 u)),(30005,.row true 3 44 (rowsOf encT44 v)),(30006,.row true 1 3 (rowsOf (encI .i64) w)),(30007,.box 37 [.own 30008,.own 149,.own 30010,.own 30011]),(30008,.row true 5 56 (rowsOf encT56 x)),(149,.row true 3 44 (rowsOf encT44 g)),(30010,.row true 3 44 (rowsOf encT44 h)),(30011,.row true 1 3 (rowsOf (encI .i64) i)),(30012,.row true 1 3 (rowsOf (encI .i64) j)),(141,.row true 6 54 (rowsOf encT54 l)),(30014,.row true 3 44 (rowsOf encT44 m))]⟩:St)=some r.st:=by
 unfold f25_s1_l3_j10 at y
 cases y
 simp only [W,simprocAttr,rg B25 [2,2,2,1,2,2,1,2,2,2,2,2,2,1,2] 29 false rfl,hr 25 29 rfl,R25_s1_l3.st]
noncomputable def f25_s1_l3_j9 (k:Nat) (q s t a:Int) (b:List T54) (c:List Int) (d:Int) (e:List T44) (f:Int) (u:List T47) (v:List T56) (w x:List T44) (y:List Int) (z:List T56) (i j:List T44) (l m:List Int) (o:List T54) (r g h:Int) (p:List T44):Option R25_s1_l3 :=
 ifE (((List.length i)+1) * 24≤roomy) (
  f25_s1_l3_j10 k q s t a b c d e f u v w x y z (i++([(T44.mk r g h)]:List T44)) j l m o p)
theorem f25_s1_l3_j9_ok (k q s t c d e f g h u v w x y z n j l m o i a b p r) (hF:f25_s1_l3_j9 k q s t c d e f g h u v w x y z n j l m o i a b p=some r):SQ 25 k (nav B25 [2,2,2,1,2,2,1,2,2,2,2,2,2,1,2]) (blockK 1 (EX 25 k (nav B25 [2,2,2,2,2,2,2,1,2,2,1,2,2,1,2,2,2,2,2,2,1,2]) (⟨154,[(2,.ptr 30000 0),(3,.ptr 30001 0),(4,.ptr 30002 0),(9,.ptr 30007 0),(10,.own 30012),(11,.own 141),(13,.ptr 13 0),(17,.ptr 30007 1),(43,.own 30014),(44,jI q),(45,jI s)],[(30000,.box 28 [jI t,jI c,.sl 6 (rowsOf encT54 d),.sl 1 (rowsOf (encI .i64) e),jI f,.sl 3 (rowsOf encT44 g),jI h]),(30001,.box 31 [.sl 11 (rowsOf encT47 u)]),(30002,.box 37 [.own 30003,.own 30004,.own 30005,.own 30006]),(30003,.row true 5 56 (rowsOf encT56 v)),(30004,.row true 3 44 (rowsOf encT44 w)),(30005,.row true 3 44 (rowsOf encT44 x)),(30006,.row true 1 3 (rowsOf (encI .i64) y)),(30007,.box 37 [.own 30008,.own 30009,.own 30010,.own 30011]),(30008,.row true 5 56 (rowsOf encT56 z)),(30009,.row true 3 44 (rowsOf encT44 n)),(30010,.row true 3 44 (rowsOf encT44 j)),(30011,.row true 1 3 (rowsOf (encI .i64) l)),(30012,.row true 1 3 (rowsOf (encI .i64) m)),(141,.row true 6 54 (rowsOf encT54 o)),(13,.box 44 [jI i,jU a,jI b]),(30014,.row true 3 44 (rowsOf encT44 p))]⟩:St)))=some r.st:=by
 unfold f25_s1_l3_j9 at hF
 have q1:[[jI i,jU a,jI b]]=rowsOf encT44 ([(T44.mk i a b)]:List T44):=rfl
 have q2:List.map (tell [0,0,0]) (rowsOf encT44 ([(T44.mk i a b)]:List T44))=rowsOf encT44 ([(T44.mk i a b)]:List T44):=rfl
 obtain ⟨h3,hF⟩:=ifE_some.1 hF
 have hJ:=f25_s1_l3_j10_ok k q s t c d e f g h u v w x y z (n++([(T44.mk i a b)]:List T44)) j l m o p _ hF
 simp (disch:=first|decide|apply K;kernel_rfl) only [W,simprocAttr,rg B25 [2,2,2,2,2,2,2,1,2,2,1,2,2,1,2,2,2,2,2,2,1,2] 28 true rfl,hr 25 28 rfl,t_26,t_44,buildSliceV,fillRows,sm_44,appendV,content,q1,q2,h3]
 try simp only [NM,EE] at hJ
 exact hJ
noncomputable def f25_s1_l3_j8 (k:Nat) (p q s a:Int) (b:List T54) (c:List Int) (d:Int) (e:List T44) (f:Int) (t:List T47) (u:List T56) (v w:List T44) (x:List Int) (y:List T56) (z i:List T44) (j l:List Int) (m:List T54) (r g h:Int) (o:List T44):Option R25_s1_l3 :=
 f25_s1_l3_j9 k p q s a b c d e f t u v w x y z i j l m r g h o
theorem f25_s1_l3_j8_ok (k p q s a b c d e f t u v w x y z i j l m n g h o r) (hF:f25_s1_l3_j8 k p q s a b c d e f t u v w x y z i j l m n g h o=some r):SQ 25 k (nav B25 [2,2,2,1,2,2,1,2,2,2,2,2,2,1,2]) (blockK 1 (SQ 25 k (nav B25 [2,2,2,2,2,2,2,1,2,2,1,2,2,1,2,2,2,2,2,2,1,2]) (EX 25 k (nav B25 [2,2,2,2,2,2,1,2,2,2,2,2,2,1,2,2,1,2,2,1,2,2,2,2,2,2,1,2]) (⟨154,[(2,.ptr 30000 0),(3,.ptr 30001 0),(4,.ptr 30002 0),(9,.ptr 30007 0),(10,.own 30012),(11,.own 141),(13,.ptr 13 0),(43,.own 30014),(44,jI p),(45,jI q)],[(30000,.box 28 [jI s,jI a,.sl 6 (rowsOf encT54 b),.sl 1 (rowsOf (encI .i64) c),jI d,.sl 3 (rowsOf encT44 e),jI f]),(30001,.box 31 [.sl 11 (rowsOf encT47 t)]),(30002,.box 37 [.own 30003,.own 30004,.own 30005,.own 30006]),(30003,.row true 5 56 (rowsOf encT56 u)),(30004,.row true 3 44 (rowsOf encT44 v)),(30005,.row true 3 44 (rowsOf encT44 w)),(30006,.row true 1 3 (rowsOf (encI .i64) x)),(30007,.box 37 [.own 30008,.own 30009,.own 30010,.own 30011]),(30008,.row true 5 56 (rowsOf encT56 y)),(30009,.row true 3 44 (rowsOf encT44 z)),(30010,.row true 3 44 (rowsOf encT44 i)),(30011,.row true 1 3 (rowsOf (encI .i64) j)),(30012,.row true 1 3 (rowsOf (encI .i64) l)),(141,.row true 6 54 (rowsOf encT54 m)),(13,.box 44 [jI n,jU g,jI h]),(30014,.row true 3 44 (rowsOf encT44 o))]⟩:St))))=some r.st:=by
 unfold f25_s1_l3_j8 at hF
 have hJ:=f25_s1_l3_j9_ok k p q s a b c d e f t u v w x y z i j l m n g h o _ hF
 simp only [W,simprocAttr,rg B25 [2,2,2,2,2,2,1,2,2,2,2,2,2,1,2,2,1,2,2,1,2,2,2,2,2,2,1,2] 27 false rfl,hr 25 27 rfl,fieldAddrV,t_37,t_26]
 try simp only [NM,EE] at hJ
 exact hJ
noncomputable def f25_s1_l3_j12 (k:Nat) (m o p a:Int) (b:List T54) (c:List Int) (d:Int) (e:List T44) (f:Int) (q:List T47) (s:List T56) (t u:List T44) (v:List Int) (w:List T56) (x g:List T44) (h i:List Int) (j:List T54) (l:List T44):Option R25_s1_l3 :=
 some (R25_s1_l3.o4 m (IntKind.i64.wrap (o+(1:Int))) p a b c d e f q s t u v w x g h i j l)
theorem f25_s1_l3_j12_ok (k m o p a b c d e f q s t u v w x g h i j l r) (y:f25_s1_l3_j12 k m o p a b c d e f q s t u v w x g h i j l=some r):EX 25 k (nav B25 [2,2,2,1,2,2,1,2,2,2,2,2,2,1,2]) (⟨154,[(2,.ptr 30000 0),(3,.ptr 30001 0),(4,.ptr 30002 0),(9,.ptr 30007 0),(10,.own 30012),(11,.own 30013),(43,.own 30014),(44,jI m),(45,jI o)],[(30000,.box 28 [jI p,jI a,.sl 6 (rowsOf encT54 b),.sl 1 (rowsOf (encI .i64) c),jI d,.sl 3 (rowsOf encT44 e),jI f]),(30001,.box 31 [.sl 11 (rowsOf encT47 q)]),(30002,.box 37 [.own 30003,.own 30004,.own 30005,.own 30006]),(30003,.row true 5 56 (rowsOf encT56 s)),(30004,.row true 3 44 (rowsOf encT44 t)),(30005,.row true 3 44 (rowsOf encT44 u)),(30006,.row true 1 3 (rowsOf (encI .i64) v)),(30007,.box 37 [.own 30008,.own 30009,.own 149,.own 30011]),(30008,.row true 5 56 (rowsOf encT56 w)),(30009,.row true 3 44 (rowsOf encT44 x)),(149,.row true 3 44 (rowsOf encT44 g)),(30011,.row true 1 3 (rowsOf (encI .i64) h)),(30012,.row true 1 3 (rowsOf (encI .i64) i)),(30013,.row true 6 54 (rowsOf encT54 j)),(30014,.row true 3 44 (rowsOf encT44 l))]⟩:St)=some r.st:=by
 unfold f25_s1_l3_j12 at y
 cases y
 simp only [W,simprocAttr,rg B25 [2,2,2,1,2,2,1,2,2,2,2,2,2,1,2] 29 false rfl,hr 25 29 rfl,R25_s1_l3.st]
noncomputable def f25_s1_l3_j11 (k:Nat) (n aa p q:Int) (ab:Bool) (s b:Int) (c:List T54) (d:List Int) (e:Int) (f:List T44) (g:Int) (t:List T47) (u:List T56) (v w:List T44) (x:List Int) (y:List T56) (z a:List T44) (j l:List Int) (m:List T54) (r h i:Int) (o:List T44):Option R25_s1_l3 :=
 ifE (((List.length a)+1) * 24≤roomy) (
  f25_s1_l3_j12 k p q s b c d e f g t u v w x y z (a++([(T44.mk r h i)]:List T44)) j l m o)
theorem f25_s1_l3_j11_ok (k aa ab q s ac t c d e f g h u v w x y z n j l m o i a b p r) (hF:f25_s1_l3_j11 k aa ab q s ac t c d e f g h u v w x y z n j l m o i a b p=some r):SQ 25 k (nav B25 [2,2,2,1,2,2,1,2,2,2,2,2,2,1,2]) (blockK 1 (EX 25 k (nav B25 [2,2,2,2,2,2,2,1,2,2,1,2,2,1,2,2,2,2,2,2,1,2]) (⟨154,[(2,.ptr 30000 0),(3,.ptr 30001 0),(4,.ptr 30002 0),(9,.ptr 30007 0),(10,.own 30012),(11,.own 30013),(13,.ptr 13 0),(16,jI aa),(17,.ptr 30007 2),(18,jI ab),(43,.own 30014),(44,jI q),(45,jI s),(89,jT ac)],[(30000,.box 28 [jI t,jI c,.sl 6 (rowsOf encT54 d),.sl 1 (rowsOf (encI .i64) e),jI f,.sl 3 (rowsOf encT44 g),jI h]),(30001,.box 31 [.sl 11 (rowsOf encT47 u)]),(30002,.box 37 [.own 30003,.own 30004,.own 30005,.own 30006]),(30003,.row true 5 56 (rowsOf encT56 v)),(30004,.row true 3 44 (rowsOf encT44 w)),(30005,.row true 3 44 (rowsOf encT44 x)),(30006,.row true 1 3 (rowsOf (encI .i64) y)),(30007,.box 37 [.own 30008,.own 30009,.own 30010,.own 30011]),(30008,.row true 5 56 (rowsOf encT56 z)),(30009,.row true 3 44 (rowsOf encT44 n)),(30010,.row true 3 44 (rowsOf encT44 j)),(30011,.row true 1 3 (rowsOf (encI .i64) l)),(30012,.row true 1 3 (rowsOf (encI .i64) m)),(30013,.row true 6 54 (rowsOf encT54 o)),(13,.box 44 [jI i,jU a,jI b]),(30014,.row true 3 44 (rowsOf encT44 p))]⟩:St)))=some r.st:=by
 unfold f25_s1_l3_j11 at hF
 have q1:[[jI i,jU a,jI b]]=rowsOf encT44 ([(T44.mk i a b)]:List T44):=rfl
 have q2:List.map (tell [0,0,0]) (rowsOf encT44 ([(T44.mk i a b)]:List T44))=rowsOf encT44 ([(T44.mk i a b)]:List T44):=rfl
 obtain ⟨h3,hF⟩:=ifE_some.1 hF
 have hJ:=f25_s1_l3_j12_ok k q s t c d e f g h u v w x y z n (j++([(T44.mk i a b)]:List T44)) l m o p _ hF
 simp (disch:=first|decide|apply K;kernel_rfl) only [W,simprocAttr,rg B25 [2,2,2,2,2,2,2,1,2,2,1,2,2,1,2,2,2,2,2,2,1,2] 28 true rfl,hr 25 28 rfl,t_26,t_44,buildSliceV,fillRows,sm_44,appendV,content,q1,q2,h3]
 try simp only [NM,EE] at hJ
 exact hJ
noncomputable def f25_s1_l3_j3 (k:Nat) (v w:Int) (ar:Bool) (t d:Int) (b:List T54) (h:List Int) (c:Int) (i:List T44) (e:Int) (x:List T47) (y:List T56) (z r:List T44) (n:List Int) (q:List T56) (aa o:List T44) (g f:List Int) (m:List T54) (ab j l an u ad ae af ag ah ai aj ak:Int) (ac:List Int) (p:List T44):Option R25_s1_l3 :=
 Option.bind (f15 k an u ad ae af ag ah ai aj ak ac) fun o1 =>
  match o1 with
  | .o0 v4 =>
   Option.bind (f14 k d b f t u c v4) fun o5 =>
    match o5 with
    | .o0 s v9 ao =>
     cond ((ao==0))
      (
       ifE ((0:Int)≤s) (
        ifE (s<((List.length f):Int)) (
         Option.bind (f[(Int.toNat s)]?) fun al =>
          Option.bind (b[(Int.toNat s)]?) fun a =>
           Option.bind (f47 k a.From a.To a.Start a.End a.Rate a.Delay c) fun o19 =>
            match o19 with
            | .o0 ap =>
             cond (ap)
              (
               cond ((decide (((List.length q):Int)<e)))
                (
                 ifE (((List.length q)+1) * 40≤roomy) (
                  ifE (s<((List.length g):Int)) (
                   Option.bind (g[(Int.toNat s)]?) fun aq =>
                    f25_s1_l3_j4 k v w t d b h c i e x y z r n (q++([(T56.mk ab j l a.To s)]:List T56)) aa o ((List.set g (Int.toNat s) (IntKind.i64.wrap (aq - v4)))) ((List.set f (Int.toNat s) (IntKind.i64.wrap (al - v4)))) m p)))
                (f25_s1_l3_j5 k v w false t d b h c i e x y z r n q aa o g ((List.set f (Int.toNat s) (IntKind.i64.wrap (al - v4)))) m ab j l a.From a.To a.Start a.End a.Rate a.Delay p))
              (
               ifE (((List.length m)+1) * 48≤roomy) (
                f25_s1_l3_j8 k v w t d b h c i e x y z r n q aa o g ((List.set f (Int.toNat s) (IntKind.i64.wrap (al - v4)))) (m++([a]:List T54)) ab j l p)))))
      (f25_s1_l3_j11 k v4 s v w false t d b h c i e x y z r n q aa o g f m ab j l p)
theorem f25_s1_l3_j3_ok (k al am a7 ab g h m e o p an ao ap aq ar au av s j f t q b c a5 w ac ad ae af ag ah ai aj y u r) (d:f25_s1_l3_j3 k al am a7 ab g h m e o p an ao ap aq ar au av s j f t q b c a5 w ac ad ae af ag ah ai aj y u=some r):SQ 25 k (nav B25 [2,2,2,1,2,2,1,2,2,2,2,2,2,1,2]) (blockK 1 (EX 25 k (nav B25 [2,2,2,2,1,2,2,1,2,2,1,2,2,2,2,2,2,1,2]) (⟨154,[(2,.ptr 30000 0),(3,.ptr 30001 0),(4,.ptr 30002 0),(9,.ptr 30007 0),(10,.own 30012),(11,.own 30013),(13,.ptr 13 0),(14,.ptr 14 0),(43,.own 30014),(44,jI al),(45,jI am),(69,jT a7)],[(30000,.box 28 [jI ab,jI g,.sl 6 (rowsOf encT54 h),.sl 1 (rowsOf (encI .i64) m),jI e,.sl 3 (rowsOf encT44 o),jI p]),(30001,.box 31 [.sl 11 (rowsOf encT47 an)]),(30002,.box 37 [.own 30003,.own 30004,.own 30005,.own 30006]),(30003,.row true 5 56 (rowsOf encT56 ao)),(30004,.row true 3 44 (rowsOf encT44 ap)),(30005,.row true 3 44 (rowsOf encT44 aq)),(30006,.row true 1 3 (rowsOf (encI .i64) ar)),(30007,.box 37 [.own 30008,.own 30009,.own 30010,.own 30011]),(30008,.row true 5 56 (rowsOf encT56 au)),(30009,.row true 3 44 (rowsOf encT44 av)),(30010,.row true 3 44 (rowsOf encT44 s)),(30011,.row true 1 3 (rowsOf (encI .i64) j)),(30012,.row true 1 3 (rowsOf (encI .i64) f)),(30013,.row true 6 54 (rowsOf encT54 t)),(13,.box 44 [jI q,jU b,jI c]),(14,.box 47 [jI a5,jI w,jU ac,jI ad,jI ae,jI af,jI ag,jI ah,jI ai,jI aj,jB y]),(30014,.row true 3 44 (rowsOf encT44 u))]⟩:St)))=some r.st:=by
 unfold f25_s1_l3_j3 at d
 obtain ⟨o1,h2,d⟩:=bs d
 have z:=f15_ok k a5 w ac ad ae af ag ah ai aj y _ h2
 cases o1 with
 | o0 v4 =>
  (try dsimp only at d)
  (try simp only [NM,EE,R15.st] at z)
  obtain ⟨o5,h6,d⟩:=bs d
  have n:=f14_ok k g h f ab w e v4 _ h6
  cases o5 with
  | o0 v8 v9 bl =>
   (try dsimp only at d)
   (try simp only [NM,EE,R14.st] at n)
   simp only [W,simprocAttr,sr 25 15 B25 [2,2,2,2,1,2,2,1,2,2,1,2,2,2,2,2,2,1,2] rfl rfl rfl,t_47,callStep,CL,gv,List.contains,sr 25 16 B25 [2,2,2,2,2,1,2,2,1,2,2,1,2,2,2,2,2,2,1,2] rfl rfl rfl,fieldAddrV,t_37,t_26,xk B25 [2,2,2,2,2,2,1,2,2,1,2,2,1,2,2,2,2,2,2,1,2] .sq rfl,sr 25 17 B25 [1,2,2,2,2,2,2,1,2,2,1,2,2,1,2,2,2,2,2,2,1,2] rfl rfl rfl,t_28,t_24,t_3,sr 25 18 B25 [2,1,2,2,2,2,2,2,1,2,2,1,2,2,1,2,2,2,2,2,2,1,2] rfl rfl rfl,xk B25 [2,2,1,2,2,2,2,2,2,1,2,2,1,2,2,1,2,2,2,2,2,2,1,2] (.cd 89) rfl,z,n]
   rcases cond_some d with ⟨ak,d⟩ | ⟨ak,d⟩
   ·obtain ⟨ay,d⟩:=ifE_some.1 d
    obtain ⟨az,d⟩:=ifE_some.1 d
    obtain ⟨aw,a0,d⟩:=bs d
    have a1:List.set (rowsOf (encI .i64) f) (Int.toNat v8) [(jI (IntKind.i64.wrap (aw - v4)))]=rowsOf (encI .i64) (List.set f (Int.toNat v8) (IntKind.i64.wrap (aw - v4))):=(rowsOf_set (enc:=(encI .i64)) (l:=f) (i:=(Int.toNat v8)) (x:=(IntKind.i64.wrap (aw - v4)))).symm
    obtain ⟨a,a2,d⟩:=bs d
    obtain ⟨o19,a8,d⟩:=bs d
    have v:=f47_ok k a.From a.To a.Start a.End a.Rate a.Delay e _ a8
    cases o19 with
    | o0 bm =>
     (try dsimp only at d)
     (try simp only [NM,EE,R47.st] at v)
     simp only [W,simprocAttr,sr 25 19 B25 [2,2,2,1,2,2,2,2,2,2,1,2,2,1,2,2,1,2,2,2,2,2,2,1,2] rfl rfl rfl,indexAddrV,t_25,t_3,encI_eq,sm_3,sr 25 20 B25 [2,2,2,2,1,2,2,2,2,2,2,1,2,2,1,2,2,1,2,2,2,2,2,2,1,2] rfl rfl rfl,fieldAddrV,t_28,t_24,t_22,t_54,encT54_eq,xk B25 [2,2,2,2,2,1,2,2,2,2,2,2,1,2,2,1,2,2,1,2,2,2,2,2,2,1,2] .sq rfl,sr 25 21 B25 [1,2,2,2,2,2,1,2,2,2,2,2,2,1,2,2,1,2,2,1,2,2,2,2,2,2,1,2] rfl rfl rfl,callStep,CL,gv,List.contains,xk B25 [2,1,2,2,2,2,2,1,2,2,2,2,2,2,1,2,2,1,2,2,1,2,2,2,2,2,2,1,2] (.bk 2) rfl,sr 25 22 B25 [2,2,1,2,2,2,2,2,1,2,2,2,2,2,2,1,2,2,1,2,2,1,2,2,2,2,2,2,1,2] rfl rfl rfl,z,n,ak,ay,az,a0,a1,a2,v]
     rcases cond_some d with ⟨a3,d⟩ | ⟨a3,d⟩
     ·simp only [W,simprocAttr,fieldAddrV,t_37,t_35,t_28,t_3,xk B25 [2,2,2,1,2,2,2,2,2,1,2,2,2,2,2,2,1,2,2,1,2,2,1,2,2,2,2,2,2,1,2] (.cd 107) rfl,z,n,ak,ay,az,a0,a1,a2,v,a3]
      rcases cond_some d with ⟨a6,d⟩ | ⟨a6,d⟩
      ·have a9:[[jI q,jU b,jI c,jI a.To,jI v8]]=rowsOf encT56 ([(T56.mk q b c a.To v8)]:List T56):=rfl
       have ba:List.map (tell [0,0,0,0,0]) (rowsOf encT56 ([(T56.mk q b c a.To v8)]:List T56))=rowsOf encT56 ([(T56.mk q b c a.To v8)]:List T56):=rfl
       obtain ⟨bb,d⟩:=ifE_some.1 d
       obtain ⟨bc,d⟩:=ifE_some.1 d
       obtain ⟨a4,bd,d⟩:=bs d
       have bf:List.set (rowsOf (encI .i64) j) (Int.toNat v8) [(jI (IntKind.i64.wrap (a4 - v4)))]=rowsOf (encI .i64) (List.set j (Int.toNat v8) (IntKind.i64.wrap (a4 - v4))):=(rowsOf_set (enc:=(encI .i64)) (l:=j) (i:=(Int.toNat v8)) (x:=(IntKind.i64.wrap (a4 - v4)))).symm
       have hJ:=f25_s1_l3_j4_ok k al am ab g h m e o p an ao ap aq ar (au++([(T56.mk q b c a.To v8)]:List T56)) av s ((List.set j (Int.toNat v8) (IntKind.i64.wrap (a4 - v4)))) ((List.set f (Int.toNat v8) (IntKind.i64.wrap (aw - v4)))) t u _ d
       simp only [W,simprocAttr,sr 25 23 B25 [2,2,2,2,1,2,2,2,2,2,1,2,2,2,2,2,2,1,2,2,1,2,2,1,2,2,2,2,2,2,1,2] rfl rfl rfl,fieldAddrV,t_37,t_35,t_44,t_54,t_3,bl_56,t_56,buildSliceV,fillRows,sm_56,appendV,content,sr 25 24 B25 [2,2,2,2,2,1,2,2,2,2,2,1,2,2,2,2,2,2,1,2,2,1,2,2,1,2,2,2,2,2,2,1,2] rfl rfl rfl,t_25,indexAddrV,encI_eq,sm_3,xk B25 [2,2,2,2,2,2,1,2,2,2,2,2,1,2,2,2,2,2,2,1,2,2,1,2,2,1,2,2,2,2,2,2,1,2] (.ex 1) rfl,z,n,ak,ay,az,a0,a1,a2,v,a3,a6,a9,ba,bb,bc,bd,bf]
       try simp only [NM,EE] at hJ
       exact hJ
      ·have hJ:=f25_s1_l3_j5_ok k al am false ab g h m e o p an ao ap aq ar au av s j ((List.set f (Int.toNat v8) (IntKind.i64.wrap (aw - v4)))) t q b c a.From a.To a.Start a.End a.Rate a.Delay u _ d
       simp only [W,simprocAttr,sr 25 25 B25 [3,2,2,2,1,2,2,2,2,2,1,2,2,2,2,2,2,1,2,2,1,2,2,1,2,2,2,2,2,2,1,2] rfl rfl rfl,xk B25 [2,3,2,2,2,1,2,2,2,2,2,1,2,2,2,2,2,2,1,2,2,1,2,2,1,2,2,2,2,2,2,1,2] (.cd 135) rfl,xk B25 [3,2,3,2,2,2,1,2,2,2,2,2,1,2,2,2,2,2,2,1,2,2,1,2,2,1,2,2,2,2,2,2,1,2] .sk rfl,z,n,ak,ay,az,a0,a1,a2,v,a3,a6]
       try simp only [NM,EE] at hJ
       exact hJ
     ·have bg:[[jI a.From,jI a.To,jI a.Start,jI a.End,jI a.Rate,jI a.Delay]]=rowsOf encT54 ([a]:List T54):=rfl
      have bh:List.map (tell [0,0,0,0,0,0]) (rowsOf encT54 ([a]:List T54))=rowsOf encT54 ([a]:List T54):=rfl
      obtain ⟨bi,d⟩:=ifE_some.1 d
      have hJ:=f25_s1_l3_j8_ok k al am ab g h m e o p an ao ap aq ar au av s j ((List.set f (Int.toNat v8) (IntKind.i64.wrap (aw - v4)))) (t++([a]:List T54)) q b c u _ d
      simp only [W,simprocAttr,xk B25 [2,2,2,1,2,2,2,2,2,1,2,2,2,2,2,2,1,2,2,1,2,2,1,2,2,2,2,2,2,1,2] (.cd 107) rfl,sr 25 25 B25 [3,2,2,2,1,2,2,2,2,2,1,2,2,2,2,2,2,1,2,2,1,2,2,1,2,2,2,2,2,2,1,2] rfl rfl rfl,xk B25 [2,3,2,2,2,1,2,2,2,2,2,1,2,2,2,2,2,2,1,2,2,1,2,2,1,2,2,2,2,2,2,1,2] (.cd 135) rfl,rg B25 [2,2,3,2,2,2,1,2,2,2,2,2,1,2,2,2,2,2,2,1,2,2,1,2,2,1,2,2,2,2,2,2,1,2] 26 false rfl,hr 25 26 rfl,t_54,buildSliceV,fillRows,sm_54,t_22,appendV,content,z,n,ak,ay,az,a0,a1,a2,v,a3,bg,bh,bi]
      try simp only [NM,EE] at hJ
      exact hJ
   ·have hJ:=f25_s1_l3_j11_ok k v4 v8 al am false ab g h m e o p an ao ap aq ar au av s j f t q b c u _ d
    simp only [W,simprocAttr,xk B25 [3,2,2,1,2,2,2,2,2,2,1,2,2,1,2,2,1,2,2,2,2,2,2,1,2] .sk rfl,z,n,ak]
    try simp only [NM,EE] at hJ
    exact hJ
noncomputable def f25_s1_l3_j1 (k:Nat) (s i:Int) (ak:Bool) (p c:Int) (d:List T54) (e:List Int) (f:Int) (a:List T44) (g:Int) (q:List T47) (t:List T56) (u v:List T44) (w:List Int) (x:List T56) (y j:List T44) (l m:List Int) (o:List T54) (b:List T44):Option R25_s1_l3 :=
 ifE ((0:Int)≤i) (
  ifE (i<((List.length b):Int)) (
   Option.bind (b[(Int.toNat i)]?) fun h =>
    Option.bind (f13 k q h.Source h.Seq h.Offset) fun o5 =>
     match o5 with
     | .o0 v8 v9 z r n aa ab ac ad ae af ai =>
      cond ((ai != 0))
       (f25_s1_l3_j2 k s i true p c d e f a g q t u v w x y j l m o h.Source h.Seq h.Offset v8 v9 z r n aa ab ac ad ae af b)
       (
        Option.bind (f46 k a h.Source h.Seq h.Offset) fun o21 =>
         match o21 with
         | .o0 aj =>
          cond (aj)
           (f25_s1_l3_j2 k s i true p c d e f a g q t u v w x y j l m o h.Source h.Seq h.Offset v8 v9 z r n aa ab ac ad ae af b)
           (
            cond ((v9==p))
             (f25_s1_l3_j2 k s i true p c d e f a g q t u v w x y j l m o h.Source h.Seq h.Offset v8 v9 z r n aa ab ac ad ae af b)
             (f25_s1_l3_j3 k s i false p c d e f a g q t u v w x y j l m o h.Source h.Seq h.Offset v8 v9 z r n aa ab ac ad ae af b)))))
theorem f25_s1_l3_j1_ok (k u v aq w b c d e a f s x y z n aa ab h i j l m r) (g:f25_s1_l3_j1 k u v aq w b c d e a f s x y z n aa ab h i j l m=some r):EX 25 k (nav B25 [2,2,1,2,2,1,2,2,2,2,2,2,1,2]) (⟨154,[(2,.ptr 30000 0),(3,.ptr 30001 0),(4,.ptr 30002 0),(9,.ptr 30007 0),(10,.own 30012),(11,.own 30013),(43,.own 30014),(44,jI u),(45,jI v),(46,jT aq)],[(30000,.box 28 [jI w,jI b,.sl 6 (rowsOf encT54 c),.sl 1 (rowsOf (encI .i64) d),jI e,.sl 3 (rowsOf encT44 a),jI f]),(30001,.box 31 [.sl 11 (rowsOf encT47 s)]),(30002,.box 37 [.own 30003,.own 30004,.own 30005,.own 30006]),(30003,.row true 5 56 (rowsOf encT56 x)),(30004,.row true 3 44 (rowsOf encT44 y)),(30005,.row true 3 44 (rowsOf encT44 z)),(30006,.row true 1 3 (rowsOf (encI .i64) n)),(30007,.box 37 [.own 30008,.own 30009,.own 30010,.own 30011]),(30008,.row true 5 56 (rowsOf encT56 aa)),(30009,.row true 3 44 (rowsOf encT44 ab)),(30010,.row true 3 44 (rowsOf encT44 h)),(30011,.row true 1 3 (rowsOf (encI .i64) i)),(30012,.row true 1 3 (rowsOf (encI .i64) j)),(30013,.row true 6 54 (rowsOf encT54 l)),(30014,.row true 3 44 (rowsOf encT44 m))]⟩:St)=some r.st:=by
 unfold f25_s1_l3_j1 at g
 obtain ⟨h1,g⟩:=ifE_some.1 g
 obtain ⟨h2,g⟩:=ifE_some.1 g
 obtain ⟨p,h4,g⟩:=bs g
 obtain ⟨o5,h6,g⟩:=bs g
 have q:=f13_ok k s p.Source p.Seq p.Offset _ h6
 cases o5 with
 | o0 v8 v9 ad ae af ag ah ai aj ak al ax =>
  (try dsimp only at g)
  (try simp only [NM,EE,R13.st] at q)
  simp only [W,simprocAttr,xk B25 [2,2,1,2,2,1,2,2,2,2,2,2,1,2] .sq rfl,xk B25 [1,2,2,1,2,2,1,2,2,2,2,2,2,1,2] (.bk 1) rfl,sr 25 12 B25 [2,1,2,2,1,2,2,1,2,2,2,2,2,2,1,2] rfl rfl rfl,indexAddrV,t_26,t_44,encT44_eq,sr 25 13 B25 [2,2,1,2,2,1,2,2,1,2,2,2,2,2,2,1,2] rfl rfl rfl,t_31,callStep,CL,gv,List.contains,t_47,xk B25 [2,2,2,1,2,2,1,2,2,1,2,2,2,2,2,2,1,2] .sq rfl,sr 25 14 B25 [1,2,2,2,1,2,2,1,2,2,1,2,2,2,2,2,2,1,2] rfl rfl rfl,h1,h2,h4,q]
  rcases cond_some g with ⟨t,g⟩ | ⟨t,g⟩
  ·have hJ:=f25_s1_l3_j2_ok k u v true w b c d e a f s x y z n aa ab h i j l p.Source p.Seq p.Offset v8 v9 ad ae af ag ah ai aj ak al m _ g
   simp only [W,simprocAttr,xk B25 [2,1,2,2,2,1,2,2,1,2,2,1,2,2,2,2,2,2,1,2] (.cd 69) rfl,xk B25 [2,2,1,2,2,2,1,2,2,1,2,2,1,2,2,2,2,2,2,1,2] (.ex 1) rfl,h1,h2,h4,q,t]
   try simp only [NM,EE] at hJ
   exact hJ
  ·obtain ⟨o21,av,g⟩:=bs g
   have o:=f46_ok k a p.Source p.Seq p.Offset _ av
   cases o21 with
   | o0 ay =>
    (try dsimp only at g)
    (try simp only [NM,EE,R46.st] at o)
    simp only [W,simprocAttr,fieldAddrV,t_28,t_26,t_44,callStep,CL,gv,List.contains,h1,h2,h4,q,t,o]
    rcases cond_some g with ⟨ac,g⟩ | ⟨ac,g⟩
    ·have hJ:=f25_s1_l3_j2_ok k u v true w b c d e a f s x y z n aa ab h i j l p.Source p.Seq p.Offset v8 v9 ad ae af ag ah ai aj ak al m _ g
     simp only [W,simprocAttr,xk B25 [2,1,2,2,2,1,2,2,1,2,2,1,2,2,2,2,2,2,1,2] (.cd 69) rfl,xk B25 [2,2,1,2,2,2,1,2,2,1,2,2,1,2,2,2,2,2,2,1,2] (.ex 1) rfl,h1,h2,h4,q,t,o,ac]
     try simp only [NM,EE] at hJ
     exact hJ
    ·simp only [W,simprocAttr,fieldAddrV,t_47,t_3,t_28,xk B25 [2,1,2,2,2,1,2,2,1,2,2,1,2,2,2,2,2,2,1,2] (.cd 69) rfl,h1,h2,h4,q,t,o,ac]
     rcases cond_some g with ⟨ap,g⟩ | ⟨ap,g⟩
     ·have hJ:=f25_s1_l3_j2_ok k u v true w b c d e a f s x y z n aa ab h i j l p.Source p.Seq p.Offset v8 v9 ad ae af ag ah ai aj ak al m _ g
      simp only [W,simprocAttr,xk B25 [2,2,1,2,2,2,1,2,2,1,2,2,1,2,2,2,2,2,2,1,2] (.ex 1) rfl,h1,h2,h4,q,t,o,ac,ap]
      try simp only [NM,EE] at hJ
      exact hJ
     ·have hJ:=f25_s1_l3_j3_ok k u v false w b c d e a f s x y z n aa ab h i j l p.Source p.Seq p.Offset v8 v9 ad ae af ag ah ai aj ak al m _ g
      simp only [W,simprocAttr,xk B25 [3,2,1,2,2,2,1,2,2,1,2,2,1,2,2,2,2,2,2,1,2] .sk rfl,h1,h2,h4,q,t,o,ac,ap]
      try simp only [NM,EE] at hJ
      exact hJ
noncomputable def f25_s1_l3_b (k:Nat) (m o p a:Int) (b:List T54) (c:List Int) (d:Int) (e:List T44) (f:Int) (q:List T47) (s:List T56) (t u:List T44) (v:List Int) (w:List T56) (x g:List T44) (h i:List Int) (j:List T54) (l:List T44):Option R25_s1_l3 :=
 cond ((decide (o<m)))
  (f25_s1_l3_j1 k m o true p a b c d e f q s t u v w x g h i j l)
  (some (R25_s1_l3.o5 m o false p a b c d e f q s t u v w x g h i j l))
theorem f25_s1_l3_b_ok (k m o p a b c d e f q s t u v w x g h i j l r) (y:f25_s1_l3_b k m o p a b c d e f q s t u v w x g h i j l=some r):EX 25 k (nav B25 [1,2,2,1,2,2,2,2,2,2,1,2]) (⟨154,[(2,.ptr 30000 0),(3,.ptr 30001 0),(4,.ptr 30002 0),(9,.ptr 30007 0),(10,.own 30012),(11,.own 30013),(43,.own 30014),(44,jI m),(45,jI o)],[(30000,.box 28 [jI p,jI a,.sl 6 (rowsOf encT54 b),.sl 1 (rowsOf (encI .i64) c),jI d,.sl 3 (rowsOf encT44 e),jI f]),(30001,.box 31 [.sl 11 (rowsOf encT47 q)]),(30002,.box 37 [.own 30003,.own 30004,.own 30005,.own 30006]),(30003,.row true 5 56 (rowsOf encT56 s)),(30004,.row true 3 44 (rowsOf encT44 t)),(30005,.row true 3 44 (rowsOf encT44 u)),(30006,.row true 1 3 (rowsOf (encI .i64) v)),(30007,.box 37 [.own 30008,.own 30009,.own 30010,.own 30011]),(30008,.row true 5 56 (rowsOf encT56 w)),(30009,.row true 3 44 (rowsOf encT44 x)),(30010,.row true 3 44 (rowsOf encT44 g)),(30011,.row true 1 3 (rowsOf (encI .i64) h)),(30012,.row true 1 3 (rowsOf (encI .i64) i)),(30013,.row true 6 54 (rowsOf encT54 j)),(30014,.row true 3 44 (rowsOf encT44 l))]⟩:St)=some r.st:=by
 unfold f25_s1_l3_b at y
 simp only [W,simprocAttr,sr 25 11 B25 [1,2,2,1,2,2,2,2,2,2,1,2] rfl rfl rfl,xk B25 [2,1,2,2,1,2,2,2,2,2,2,1,2] .sq rfl,xk B25 [1,2,1,2,2,1,2,2,2,2,2,2,1,2] (.cd 46) rfl]
 rcases cond_some y with ⟨z,y⟩ | ⟨z,y⟩
 ·have hJ:=f25_s1_l3_j1_ok k m o true p a b c d e f q s t u v w x g h i j l _ y
  simp only [W,simprocAttr,xk B25 [2,1,2,1,2,2,1,2,2,2,2,2,2,1,2] .sk rfl,z]
  try simp only [NM,EE] at hJ
  exact hJ
 ·cases y
  simp only [W,simprocAttr,xk B25 [3,1,2,1,2,2,1,2,2,2,2,2,2,1,2] (.ex 0) rfl,R25_s1_l3.st,z]
noncomputable def f25_s1_l3 (k:Nat):Nat→Int→Int→Int→Int→(List T54)→(List Int)→Int→(List T44)→Int→(List T47)→(List T56)→(List T44)→(List T44)→(List Int)→(List T56)→(List T44)→(List T44)→(List Int)→(List Int)→(List T54)→(List T44)→Option R25_s1_l3
 | 0,_,_,_,_,_,_,_,_,_,_,_,_,_,_,_,_,_,_,_,_,_=>none
 | n+1,ak,al,am,z,r,aa,ab,ac,ad,an,ao,ap,aq,ar,au,av,ae,af,ag,ah,ai=>Option.bind (f25_s1_l3_b k ak al am z r aa ab ac ad an ao ap aq ar au av ae af ag ah ai) fun o =>
  match o with
  | .o0 y m p q s t u v w x a b c d e f g h i j l=>f25_s1_l3 k n y m p q s t u v w x a b c d e f g h i j l
  | .o1 y m p q s t u v w x a b c d e f g h i j l=>f25_s1_l3 k n y m p q s t u v w x a b c d e f g h i j l
  | .o2 y m p q s t u v w x a b c d e f g h i j l=>f25_s1_l3 k n y m p q s t u v w x a b c d e f g h i j l
  | .o3 y m p q s t u v w x a b c d e f g h i j l=>f25_s1_l3 k n y m p q s t u v w x a b c d e f g h i j l
  | .o4 y m p q s t u v w x a b c d e f g h i j l=>f25_s1_l3 k n y m p q s t u v w x a b c d e f g h i j l
  | .o5 y m p q s t u v w x a b c d e f g h i j l aj=>some (.o5 y m p q s t u v w x a b c d e f g h i j l aj)
theorem f25_s1_l3_ok (k n:Nat):∀ (am an ao p:Int) (q:List T54) (s:List Int) (t:Int) (u:List T44) (v:Int) (ap:List T47) (aq:List T56) (ar au:List T44) (av:List Int) (aw:List T56) (ax ag:List T44) (ah ai:List Int) (aj:List T54) (ak:List T44) (r:R25_s1_l3) (hF:f25_s1_l3 k n am an ao p q s t u v ap aq ar au av aw ax ag ah ai aj ak=some r) (σ:St) (hσ:headR (hints.head 25 11) (hints.canon 25 11) σ=some (⟨154,[(2,.ptr 30000 0),(3,.ptr 30001 0),(4,.ptr 30002 0),(9,.ptr 30007 0),(10,.own 30012),(11,.own 30013),(43,.own 30014),(44,jI am),(45,jI an)],[(30000,.box 28 [jI ao,jI p,.sl 6 (rowsOf encT54 q),.sl 1 (rowsOf (encI .i64) s),jI t,.sl 3 (rowsOf encT44 u),jI v]),(30001,.box 31 [.sl 11 (rowsOf encT47 ap)]),(30002,.box 37 [.own 30003,.own 30004,.own 30005,.own 30006]),(30003,.row true 5 56 (rowsOf encT56 aq)),(30004,.row true 3 44 (rowsOf encT44 ar)),(30005,.row true 3 44 (rowsOf encT44 au)),(30006,.row true 1 3 (rowsOf (encI .i64) av)),(30007,.box 37 [.own 30008,.own 30009,.own 30010,.own 30011]),(30008,.row true 5 56 (rowsOf encT56 aw)),(30009,.row true 3 44 (rowsOf encT44 ax)),(30010,.row true 3 44 (rowsOf encT44 ag)),(30011,.row true 1 3 (rowsOf (encI .i64) ah)),(30012,.row true 1 3 (rowsOf (encI .i64) ai)),(30013,.row true 6 54 (rowsOf encT54 aj)),(30014,.row true 3 44 (rowsOf encT44 ak))]⟩:St)),LP 25 k (nav B25 [1,2,2,1,2,2,2,2,2,2,1,2]) n σ=some r.st:=by
 induction n with
 | zero=>intro am an ao p q s t u v ap aq ar au av aw ax ag ah ai aj ak r hF;cases hF
 | succ n ih =>
  intro am an ao p q s t u v ap aq ar au av aw ax ag ah ai aj ak r hF σ hσ
  rw [f25_s1_l3] at hF
  obtain ⟨o,h,hF⟩:=Option.bind_eq_some_iff.1 hF
  have hB:=f25_s1_l3_b_ok k am an ao p q s t u v ap aq ar au av aw ax ag ah ai aj ak o h
  unfold LP at ih ⊢
  unfold EX at hB
  rw [loopK_succ,show firstReg (nav B25 [1,2,2,1,2,2,2,2,2,2,1,2])=11 from rfl,hσ,headK_some,hB]
  cases o with
  | o0 y w x z aa ab ac ad ae af a b c d e f g i j l m =>
   refine ih y w x z aa ab ac ad ae af a b c d e f g i j l m r hF _ ?_
   simp only [W,simprocAttr,hh_25_11,hc_25_11]
  | o1 y w x z aa ab ac ad ae af a b c d e f g i j l m =>
   refine ih y w x z aa ab ac ad ae af a b c d e f g i j l m r hF _ ?_
   simp only [W,simprocAttr,hh_25_11,hc_25_11]
  | o2 y w x z aa ab ac ad ae af a b c d e f g i j l m =>
   refine ih y w x z aa ab ac ad ae af a b c d e f g i j l m r hF _ ?_
   simp only [W,simprocAttr,hh_25_11,hc_25_11]
  | o3 y w x z aa ab ac ad ae af a b c d e f g i j l m =>
   refine ih y w x z aa ab ac ad ae af a b c d e f g i j l m r hF _ ?_
   simp only [W,simprocAttr,hh_25_11,hc_25_11]
  | o4 y w x z aa ab ac ad ae af a b c d e f g i j l m =>
   refine ih y w x z aa ab ac ad ae af a b c d e f g i j l m r hF _ ?_
   simp only [W,simprocAttr,hh_25_11,hc_25_11]
  | o5 y w x z aa ab ac ad ae af a b c d e f g i j l m az=>cases hF;rfl
inductive R25_s1 where
 | o0 (y:Int) (a:List T56) (b c:List T44) (d:List Int) (e:List T54)
 | o1 (y:Int) (a:List T56) (b c:List T44) (d:List Int) (e:List T54)
 | o2 (y:Int) (a:List T56) (b c:List T44) (d:List Int) (e:List T54)
noncomputable def R25_s1.st:R25_s1→Out×St
 | .o0 y a b c d e=>(.ret,(⟨154,[(4,.ptr 4 0),(5,.own 700196),(6,jI y)],[(4,.box 37 [.own 700192,.own 700193,.own 700194,.own 700195]),(700192,.row true 5 56 (rowsOf encT56 a)),(700193,.row true 3 44 (rowsOf encT44 b)),(700194,.row true 3 44 (rowsOf encT44 c)),(700195,.row true 1 3 (rowsOf (encI .i64) d)),(700196,.row true 6 54 (rowsOf encT54 e))]⟩:St))
 | .o1 y a b c d e=>(.ret,(⟨154,[(4,.ptr 4 0),(5,.own 700388),(6,jI y)],[(4,.box 37 [.own 700384,.own 700385,.own 700386,.own 700387]),(700384,.row true 5 56 (rowsOf encT56 a)),(700385,.row true 3 44 (rowsOf encT44 b)),(700386,.row true 3 44 (rowsOf encT44 c)),(700387,.row true 1 3 (rowsOf (encI .i64) d)),(700388,.row true 6 54 (rowsOf encT54 e))]⟩:St))
 | .o2 y a b c d e=>(.ret,(⟨154,[(4,.ptr 30002 0),(5,.own 30013),(6,jI y)],[(30002,.box 37 [.own 30008,.own 30009,.own 30010,.own 30011]),(30008,.row true 5 56 (rowsOf encT56 a)),(30009,.row true 3 44 (rowsOf encT44 b)),(30010,.row true 3 44 (rowsOf encT44 c)),(30011,.row true 1 3 (rowsOf (encI .i64) d)),(30013,.row true 6 54 (rowsOf encT54 e))]⟩:St))
noncomputable def f25_s1_j4 (k:Nat) (p q:Int) (s:Bool) (t d:Int) (e:List T54) (f:List Int) (g:Int) (h:List T44) (i:Int) (u:List T47) (v:List T56) (w x:List T44) (y:List Int) (j:List T56) (l a:List T44) (b m:List Int) (c:List T54) (o:List T44):Option R25_s1 :=
 some (R25_s1.o2 0 j l a b c)
theorem f25_s1_j4_ok (k m o p q a b c d e f s t u v w x y g h i j l r) (z:f25_s1_j4 k m o p q a b c d e f s t u v w x y g h i j l=some r):EX 25 k (nav B25 [2,2,2,2,2,2,2,1,2]) (⟨154,[(2,.ptr 30000 0),(3,.ptr 30001 0),(4,.ptr 30002 0),(9,.ptr 30007 0),(10,.own 30012),(11,.own 30013),(43,.own 30014),(44,jI m),(45,jI o),(46,jT p)],[(30000,.box 28 [jI q,jI a,.sl 6 (rowsOf encT54 b),.sl 1 (rowsOf (encI .i64) c),jI d,.sl 3 (rowsOf encT44 e),jI f]),(30001,.box 31 [.sl 11 (rowsOf encT47 s)]),(30002,.box 37 [.own 30003,.own 30004,.own 30005,.own 30006]),(30003,.row true 5 56 (rowsOf encT56 t)),(30004,.row true 3 44 (rowsOf encT44 u)),(30005,.row true 3 44 (rowsOf encT44 v)),(30006,.row true 1 3 (rowsOf (encI .i64) w)),(30007,.box 37 [.own 30008,.own 30009,.own 30010,.own 30011]),(30008,.row true 5 56 (rowsOf encT56 x)),(30009,.row true 3 44 (rowsOf encT44 y)),(30010,.row true 3 44 (rowsOf encT44 g)),(30011,.row true 1 3 (rowsOf (encI .i64) h)),(30012,.row true 1 3 (rowsOf (encI .i64) i)),(30013,.row true 6 54 (rowsOf encT54 j)),(30014,.row true 3 44 (rowsOf encT44 l))]⟩:St)=some r.st:=by
 unfold f25_s1_j4 at z
 cases z
 simp only [W,simprocAttr,sr 25 30 B25 [2,2,2,2,2,2,2,1,2] rfl rfl rfl,t_37,xk B25 [2,2,2,2,2,2,2,2,1,2] .rt rfl,R25_s1.st]
noncomputable def f25_s1_j2 (k:Nat) (x8:Int) (ag:Bool) (m2 b:Int) (c:List T54) (a:List Int) (d:Int) (e:List T44) (f:Int) (m3:List T47) (s0:List T56) (s1 s2:List T44) (s3:List Int):Option R25_s1 :=
 Option.bind (f42 k a) fun o1 =>
  match o1 with
  | .o0 v4 =>
   Option.bind (f12 k m3) fun o8 =>
    match o8 with
    | .o0 g =>
     Option.bind (f25_s1_l3 k k ((List.length g):Int) 0 m2 b c a d e f m3 s0 s1 s2 s3 [] [] [] v4 v4 [] g) fun o12 =>
      match o12 with
      | .o0 _ _ _ _ _ _ _ _ _ _ _ _ _ _ _ _ _ _ _ _ _ =>
       none
      | .o1 _ _ _ _ _ _ _ _ _ _ _ _ _ _ _ _ _ _ _ _ _ =>
       none
      | .o2 _ _ _ _ _ _ _ _ _ _ _ _ _ _ _ _ _ _ _ _ _ =>
       none
      | .o3 _ _ _ _ _ _ _ _ _ _ _ _ _ _ _ _ _ _ _ _ _ =>
       none
      | .o4 _ _ _ _ _ _ _ _ _ _ _ _ _ _ _ _ _ _ _ _ _ =>
       none
      | .o5 h i j l m o p q s t u v w x y z r n aa ab ac ad =>
       f25_s1_j4 k h i j l m o p q s t u v w x y z r n aa ab ac ad
theorem f25_s1_j2_ok (k x8 l p d e b f g h o q s t u r) (a:f25_s1_j2 k x8 l p d e b f g h o q s t u=some r):EX 25 k (nav B25 [2,2,1,2]) (⟨154,[(2,.ptr 2 0),(3,.ptr 3 0),(4,.ptr 4 0),(8,jI x8),(32,jT l)],[(2,.box 28 [jI p,jI d,.sl 6 (rowsOf encT54 e),.sl 1 (rowsOf (encI .i64) b),jI f,.sl 3 (rowsOf encT44 g),jI h]),(3,.box 31 [.sl 11 (rowsOf encT47 o)]),(4,.box 37 [.own 700000,.own 700001,.own 700002,.own 700003]),(700000,.row true 5 56 (rowsOf encT56 q)),(700001,.row true 3 44 (rowsOf encT44 s)),(700002,.row true 3 44 (rowsOf encT44 t)),(700003,.row true 1 3 (rowsOf (encI .i64) u))]⟩:St)=some r.st:=by
 unfold f25_s1_j2 at a
 obtain ⟨o1,h2,a⟩:=bs a
 have j:=f42_ok k b _ h2
 cases o1 with
 | o0 v4 =>
  (try dsimp only at a)
  (try simp only [NM,EE,R42.st] at j)
  obtain ⟨o8,h9,a⟩:=bs a
  have c:=f12_ok k o _ h9
  cases o8 with
  | o0 m =>
   (try dsimp only at a)
   (try simp only [NM,EE,R12.st] at c)
   obtain ⟨o12,v,a⟩:=bs a
   have i:=f25_s1_l3_ok k k ((List.length m):Int) 0 p d e b f g h o q s t u [] [] [] v4 v4 [] m _ v
   simp only [W,simprocAttr,xk B25 [2,2,1,2] .sq rfl,rg B25 [1,2,2,1,2] 7 false rfl,hr_25_7,fieldAddrV,t_28,t_25,callStep,CL,gv,List.contains,bl_37,t_37,sr 25 8 B25 [2,2,2,1,2] rfl rfl rfl,xk B25 [2,2,2,2,1,2] .sq rfl,rg B25 [1,2,2,2,2,1,2] 9 false rfl,hr_25_9,xk B25 [2,2,2,2,2,1,2] .sq rfl,xk B25 [1,2,2,2,2,2,1,2] (.lb 0) rfl,xk B25 [2,2,2,2,2,2,1,2] .sq rfl,sr 25 10 B25 [1,2,2,2,2,2,2,1,2] rfl rfl rfl,t_31,t_26,xk B25 [2,1,2,2,2,2,2,2,1,2] (.bk 0) rfl,xk B25 [2,2,1,2,2,2,2,2,2,1,2] .lp rfl,hh_25_11,hc_25_11,j,c]
   (try simp only [NM,EE] at i)
   rw [i _ (by simp only [W,simprocAttr,hh_25_11,hc_25_11,j,c])]
   clear i
   cases o12 with
   | o0 _ _ _ _ _ _ _ _ _ _ _ _ _ _ _ _ _ _ _ _ _ =>
    (try dsimp only at a)
    cases a
   | o1 _ _ _ _ _ _ _ _ _ _ _ _ _ _ _ _ _ _ _ _ _ =>
    (try dsimp only at a)
    cases a
   | o2 _ _ _ _ _ _ _ _ _ _ _ _ _ _ _ _ _ _ _ _ _ =>
    (try dsimp only at a)
    cases a
   | o3 _ _ _ _ _ _ _ _ _ _ _ _ _ _ _ _ _ _ _ _ _ =>
    (try dsimp only at a)
    cases a
   | o4 _ _ _ _ _ _ _ _ _ _ _ _ _ _ _ _ _ _ _ _ _ =>
    (try dsimp only at a)
    cases a
   | o5 w x y z n aa ab ac ad ae af ag ah ai aj ak al am an ao ap aq =>
    (try dsimp only at a)
    have hJ:=f25_s1_j4_ok k w x y z n aa ab ac ad ae af ag ah ai aj ak al am an ao ap aq _ a
    simp only [W,simprocAttr,R25_s1_l3.st,j,c]
    try simp only [NM,EE] at hJ
    exact hJ
noncomputable def f25_s1_j1 (k:Nat) (q:Int) (i:Bool) (j a:Int) (b:List T54) (c:List Int) (d:Int) (e:List T44) (f:Int) (h:List T47) (l:List T56) (m o:List T44) (p:List Int):Option R25_s1 :=
 Option.bind (f26 k h) fun o1 =>
  match o1 with
  | .o0 g =>
   cond ((g != 0))
    (some (R25_s1.o1 g [] [] [] [] []))
    (f25_s1_j2 k g false j a b c d e f h l m o p)
theorem f25_s1_j1_ok (k t i l a b c d e f j m o p q r) (g:f25_s1_j1 k t i l a b c d e f j m o p q=some r):EX 25 k (nav B25 [2,1,2]) (⟨154,[(2,.ptr 2 0),(3,.ptr 3 0),(4,.ptr 4 0),(7,jI t),(26,jT i)],[(2,.box 28 [jI l,jI a,.sl 6 (rowsOf encT54 b),.sl 1 (rowsOf (encI .i64) c),jI d,.sl 3 (rowsOf encT44 e),jI f]),(3,.box 31 [.sl 11 (rowsOf encT47 j)]),(4,.box 37 [.own 700000,.own 700001,.own 700002,.own 700003]),(700000,.row true 5 56 (rowsOf encT56 m)),(700001,.row true 3 44 (rowsOf encT44 o)),(700002,.row true 3 44 (rowsOf encT44 p)),(700003,.row true 1 3 (rowsOf (encI .i64) q))]⟩:St)=some r.st:=by
 unfold f25_s1_j1 at g
 obtain ⟨o1,u,g⟩:=bs g
 have h:=f26_ok k j _ u
 cases o1 with
 | o0 v =>
  (try dsimp only at g)
  (try simp only [NM,EE,R26.st] at h)
  simp only [W,simprocAttr,xk B25 [2,1,2] .sq rfl,sr 25 4 B25 [1,2,1,2] rfl rfl rfl,t_31,callStep,CL,gv,List.contains,sr 25 5 B25 [2,1,2,1,2] rfl rfl rfl,xk B25 [2,2,1,2,1,2] (.cd 32) rfl,h]
  rcases cond_some g with ⟨s,g⟩ | ⟨s,g⟩
  ·cases g
   simp only [W,simprocAttr,xk B25 [2,2,2,1,2,1,2] .sq rfl,rg B25 [1,2,2,2,1,2,1,2] 6 false rfl,hr_25_6,bl_37,t_37,xk B25 [2,2,2,2,1,2,1,2] .rt rfl,R25_s1.st,h,s]
  ·have hJ:=f25_s1_j2_ok k v false l a b c d e f j m o p q _ g
   simp only [W,simprocAttr,xk B25 [3,2,2,1,2,1,2] .sk rfl,h,s]
   try simp only [NM,EE] at hJ
   exact hJ
noncomputable def f25_s1_b (k:Nat) (h a:Int) (b:List T54) (c:List Int) (d:Int) (e:List T44) (f:Int) (i:List T47) (j:List T56) (l m:List T44) (o:List Int):Option R25_s1 :=
 Option.bind (f24 k h a b c d e f) fun o1 =>
  match o1 with
  | .o0 g =>
   cond ((g != 0))
    (some (R25_s1.o0 g [] [] [] [] []))
    (f25_s1_j1 k g false h a b c d e f i j l m o)
theorem f25_s1_b_ok (k i a b c d e f j l m o p r) (g:f25_s1_b k i a b c d e f j l m o p=some r):EX 25 k (nav B25 [1,2]) (⟨154,[(2,.ptr 2 0),(3,.ptr 3 0),(4,.ptr 4 0)],[(2,.box 28 [jI i,jI a,.sl 6 (rowsOf encT54 b),.sl 1 (rowsOf (encI .i64) c),jI d,.sl 3 (rowsOf encT44 e),jI f]),(3,.box 31 [.sl 11 (rowsOf encT47 j)]),(4,.box 37 [.own 700000,.own 700001,.own 700002,.own 700003]),(700000,.row true 5 56 (rowsOf encT56 l)),(700001,.row true 3 44 (rowsOf encT44 m)),(700002,.row true 3 44 (rowsOf encT44 o)),(700003,.row true 1 3 (rowsOf (encI .i64) p))]⟩:St)=some r.st:=by
 unfold f25_s1_b at g
 obtain ⟨o1,s,g⟩:=bs g
 have h:=f24_ok k i a b c d e f _ s
 cases o1 with
 | o0 t =>
  (try dsimp only at g)
  (try simp only [NM,EE,R24.st] at h)
  simp only [W,simprocAttr,xk B25 [1,2] .sq rfl,sr 25 1 B25 [1,1,2] rfl rfl rfl,t_28,callStep,CL,gv,List.contains,sr 25 2 B25 [2,1,1,2] rfl rfl rfl,xk B25 [2,2,1,1,2] (.cd 26) rfl,h]
  rcases cond_some g with ⟨q,g⟩ | ⟨q,g⟩
  ·cases g
   simp only [W,simprocAttr,xk B25 [2,2,2,1,1,2] .sq rfl,rg B25 [1,2,2,2,1,1,2] 3 false rfl,hr_25_3,bl_37,t_37,xk B25 [2,2,2,2,1,1,2] .rt rfl,R25_s1.st,h,q]
  ·have hJ:=f25_s1_j1_ok k t false i a b c d e f j l m o p _ g
   simp only [W,simprocAttr,xk B25 [3,2,2,1,1,2] .sk rfl,h,q]
   try simp only [NM,EE] at hJ
   exact hJ
noncomputable def f25_s1 (k:Nat) (m f:Int) (g:List T54) (h:List Int) (i:Int) (j:List T44) (l:Int) (p:List T47) (q:List T56) (s t:List T44) (u:List Int):Option R25_s1:=Option.bind (f25_s1_b k m f g h i j l p q s t u) fun o =>
 match o with
 | .o0 y a b c d e=>some (.o0 y a b c d e)
 | .o1 y a b c d e=>some (.o1 y a b c d e)
 | .o2 y a b c d e=>some (.o2 y a b c d e)
theorem f25_s1_ok (k q a b c d e f s t u v w r) (g:f25_s1 k q a b c d e f s t u v w=some r):EX 25 k (nav B25 [2]) (⟨154,[(2,.ptr 2 0),(3,.ptr 3 0),(4,.ptr 4 0)],[(2,.box 28 [jI q,jI a,.sl 6 (rowsOf encT54 b),.sl 1 (rowsOf (encI .i64) c),jI d,.sl 3 (rowsOf encT44 e),jI f]),(3,.box 31 [.sl 11 (rowsOf encT47 s)]),(4,.box 37 [.own 700000,.own 700001,.own 700002,.own 700003]),(700000,.row true 5 56 (rowsOf encT56 t)),(700001,.row true 3 44 (rowsOf encT44 u)),(700002,.row true 3 44 (rowsOf encT44 v)),(700003,.row true 1 3 (rowsOf (encI .i64) w))]⟩:St)=some r.st:=by
 unfold f25_s1 at g
 obtain ⟨o,h,g⟩:=Option.bind_eq_some_iff.1 g
 unfold EX
 rw [show (nav B25 [2])=Code.scope (nav B25 [1,2]) from rfl,ev_scope,(show exec _ _ _ _ _ _ _ _=_ from f25_s1_b_ok k q a b c d e f s t u v w o h)]
 cases o with
 | o0 y i j l m p=>cases g;simp only [R25_s1.st,jumpsK_norm,jumpsK_ret,jumpsK_exit]
 | o1 y i j l m p=>cases g;simp only [R25_s1.st,jumpsK_norm,jumpsK_ret,jumpsK_exit]
 | o2 y i j l m p=>cases g;simp only [R25_s1.st,jumpsK_norm,jumpsK_ret,jumpsK_exit]
noncomputable def f25_e (k:Nat) (v a:Int) (b:List T54) (c:List Int) (d:Int) (e:List T44) (f:Int) (w:List T47):Option R25 :=
 Option.bind (f25_s1 k v a b c d e f w [] [] [] []) fun o1 =>
  match o1 with
  | .o0 x y z r n v9 =>
   some (.o0 x y z r n v9)
  | .o1 g h i j l m =>
   some (.o0 g h i j l m)
  | .o2 o p q s t u =>
   some (.o0 o p q s t u)
theorem f25_e_ok (k i b c d e f g j r) (h:f25_e k i b c d e f g j=some r):finK Tryd.prog Tryd.f25 0 (EX 25 k (nav B25 []) (⟨154,[(0,.agg [jI i,jI b,.sl 6 (rowsOf encT54 c),.sl 1 (rowsOf (encI .i64) d),jI e,.sl 3 (rowsOf encT44 f),jI g]),(1,.agg [.sl 11 (rowsOf encT47 j)])],[]⟩:St))=some r.st:=by
 unfold f25_e at h
 simp only [W,simprocAttr,xk B25 [] .sq rfl,rg B25 [1] 0 false rfl,hr_25_0,t_37]
 obtain ⟨o1,l,h⟩:=bs h
 have a:=f25_s1_ok k i b c d e f g j [] [] [] [] _ l
 cases o1 with
 | o0 n v5 v6 v7 v8 v9 =>
  (try dsimp only at h)
  (try simp only [NM,EE,R25_s1.st] at a)
  cases h
  simp only [W,simprocAttr,R25_s1.st,t_37,fin25,R25.st,a]
 | o1 m o p q s t =>
  (try dsimp only at h)
  (try simp only [NM,EE,R25_s1.st] at a)
  cases h
  simp only [W,simprocAttr,R25_s1.st,t_37,fin25,R25.st,a]
 | o2 u v w x y z =>
  (try dsimp only at h)
  (try simp only [NM,EE,R25_s1.st] at a)
  cases h
  simp only [W,simprocAttr,R25_s1.st,t_37,fin25,R25.st,a]
noncomputable def f25 (k:Nat) (g a:Int) (b:List T54) (c:List Int) (d:Int) (e:List T44) (f:Int) (h:List T47):Option R25:=match k with | 0=>none | k+1=>f25_e k g a b c d e f h
theorem f25_ok (k h a b d e f g i r) (j:f25 k h a b d e f g i=some r):CV k 25 [.agg [jI h,jI a,.sl 6 (rowsOf encT54 b),.sl 1 (rowsOf (encI .i64) d),jI e,.sl 3 (rowsOf encT44 f),jI g],.agg [.sl 11 (rowsOf encT47 i)]] []=some r.st:=by
 cases k with
 | zero=>cases j
 | succ k =>
  unfold CV
  rw [ev_call (F:=Tryd.f25) (c:=(nav B25 [])) rfl Tryd.func25 rfl rfl rfl rfl]
  exact f25_e_ok k h a b d e f g i r j
end Go.Proofs.YtiompmmbjpjjeaaDoorV