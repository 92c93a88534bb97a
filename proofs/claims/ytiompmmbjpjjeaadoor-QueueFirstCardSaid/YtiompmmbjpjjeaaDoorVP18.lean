/- What the program's functions answer: plain functions,and that the interpreter answers what they do. Written by a program of this session,out of the translation. -/
import Derived.Test.YtiompmmbjpjjeaaDoorVP17
namespace Go.Proofs.YtiompmmbjpjjeaaDoorV
open Go
set_option linter.unusedVariables false
set_option linter.unusedSimpArgs false
set_option maxRecDepth 8000
set_option maxHeartbeats 4000000
-- f3: f3 heliograph/heliographlaw20.QueueFirst
inductive R3 where
 | o0 (y:Bool)
noncomputable def R3.st:R3→V×List O×List O
 | .o0 y=>(.p (.bool y),[],[])
inductive R3_l3_l3 where
 | o0 (y:Bool) (k r n aa ab ac ad ae:Int) (af:List T54) (a:List Int) (b:List T44) (c:List T47) (d:List T56) (e f:List T44) (g:List Int) (h i j l m o p q s t u v w:Int) (x:List Int) (z:List T44)
 | o1 (y:Bool) (k r n aa:Int) (ab:Bool) (ac ad ae af:Int) (a:List T54) (b:List Int) (c:List T44) (d:List T47) (e:List T56) (f g:List T44) (h:List Int) (i j l m o p q s t u v w x:Int) (z:List Int) (ag:List T44)
noncomputable def R3_l3_l3.st:R3_l3_l3→Out×St
 | .o0 y k r n aa ab ac ad ae af a b c d e f g h i j l m o p q s t u v w x z=>(.norm,(⟨170,[(2,.ptr 30000 0),(3,.ptr 30004 0),(5,.ptr 30006 0),(9,.ptr 30011 0),(10,.ptr 30012 0),(12,.p (.bool y)),(39,.own 30013),(40,jI k),(41,jI r),(54,.own 30003),(55,jI n),(56,jI aa)],[(30000,.box 28 [jI ab,jI ac,.own 30001,.own 30002,jI ad,.own 30003,jI ae]),(30001,.row false 6 54 (rowsOf encT54 af)),(30002,.row false 1 3 (rowsOf (encI .i64) a)),(30003,.row false 3 44 (rowsOf encT44 b)),(30004,.box 31 [.own 30005]),(30005,.row false 11 47 (rowsOf encT47 c)),(30006,.box 37 [.own 30007,.own 30008,.own 30009,.own 30010]),(30007,.row true 5 56 (rowsOf encT56 d)),(30008,.row true 3 44 (rowsOf encT44 e)),(30009,.row true 3 44 (rowsOf encT44 f)),(30010,.row true 1 3 (rowsOf (encI .i64) g)),(30011,.box 44 [jI h,jU i,jI j]),(30012,.box 47 [jI l,jI m,jU o,jI p,jI q,jI s,jI t,jI u,jI v,jI w,.sl 1 (rowsOf (encI .u8) x)]),(30013,.row true 3 44 (rowsOf encT44 z))]⟩:St))
 | .o1 y k r n aa ab ac ad ae af a b c d e f g h i j l m o p q s t u v w x z ag=>(.exit 2,(⟨170,[(2,.ptr 30000 0),(3,.ptr 30004 0),(5,.ptr 30006 0),(9,.ptr 30011 0),(10,.ptr 30012 0),(12,.p (.bool y)),(39,.own 30013),(40,jI k),(41,jI r),(54,.own 30003),(55,jI n),(56,jI aa),(57,.p (.bool ab))],[(30000,.box 28 [jI ac,jI ad,.own 30001,.own 30002,jI ae,.own 30003,jI af]),(30001,.row false 6 54 (rowsOf encT54 a)),(30002,.row false 1 3 (rowsOf (encI .i64) b)),(30003,.row false 3 44 (rowsOf encT44 c)),(30004,.box 31 [.own 30005]),(30005,.row false 11 47 (rowsOf encT47 d)),(30006,.box 37 [.own 30007,.own 30008,.own 30009,.own 30010]),(30007,.row true 5 56 (rowsOf encT56 e)),(30008,.row true 3 44 (rowsOf encT44 f)),(30009,.row true 3 44 (rowsOf encT44 g)),(30010,.row true 1 3 (rowsOf (encI .i64) h)),(30011,.box 44 [jI i,jU j,jI l]),(30012,.box 47 [jI m,jI o,jU p,jI q,jI s,jI t,jI u,jI v,jI w,jI x,.sl 1 (rowsOf (encI .u8) z)]),(30013,.row true 3 44 (rowsOf encT44 ag))]⟩:St))
noncomputable def f3_l3_l3_j2 (k:Nat) (w:Bool) (x y z r n o p q:Int) (aa:List T54) (ab:List Int) (ac:List T44) (ad:List T47) (ae:List T56) (af ag:List T44) (s:List Int) (t b c u d e f g h i j l m:Int) (a:List Int) (v:List T44):Option R3_l3_l3 :=
 some (R3_l3_l3.o0 w x y z (IntKind.i64.wrap (r+(1:Int))) n o p q aa ab ac ad ae af ag s t b c u d e f g h i j l m a v)
theorem f3_l3_l3_j2_ok (k w x y z n aa o p q ab ac ad ae af ag ah s t b c u d e f g h i j l m a v r) (hF:f3_l3_l3_j2 k w x y z n aa o p q ab ac ad ae af ag ah s t b c u d e f g h i j l m a v=some r):EX 3 k (nav B3 [2,2,2,1,2,2,1,2,2,2,2,2,1,2,2,1,2,2,1,2,2,2,2,2,2]) (⟨170,[(2,.ptr 30000 0),(3,.ptr 30004 0),(5,.ptr 30006 0),(9,.ptr 30011 0),(10,.ptr 30012 0),(12,.p (.bool w)),(39,.own 30013),(40,jI x),(41,jI y),(54,.own 30003),(55,jI z),(56,jI n)],[(30000,.box 28 [jI aa,jI o,.own 30001,.own 30002,jI p,.own 30003,jI q]),(30001,.row false 6 54 (rowsOf encT54 ab)),(30002,.row false 1 3 (rowsOf (encI .i64) ac)),(30003,.row false 3 44 (rowsOf encT44 ad)),(30004,.box 31 [.own 30005]),(30005,.row false 11 47 (rowsOf encT47 ae)),(30006,.box 37 [.own 30007,.own 30008,.own 30009,.own 30010]),(30007,.row true 5 56 (rowsOf encT56 af)),(30008,.row true 3 44 (rowsOf encT44 ag)),(30009,.row true 3 44 (rowsOf encT44 ah)),(30010,.row true 1 3 (rowsOf (encI .i64) s)),(30011,.box 44 [jI t,jU b,jI c]),(30012,.box 47 [jI u,jI d,jU e,jI f,jI g,jI h,jI i,jI j,jI l,jI m,.sl 1 (rowsOf (encI .u8) a)]),(30013,.row true 3 44 (rowsOf encT44 v))]⟩:St)=some r.st:=by
 unfold f3_l3_l3_j2 at hF
 cases hF
 simp (disch:=first|apply D;decide|apply K;kernel_rfl) only [E,EE,↓reduceIte,simprocAttr,rg B3 [2,2,2,1,2,2,1,2,2,2,2,2,1,2,2,1,2,2,1,2,2,2,2,2,2] 19 false rfl,hr 3 19 rfl,R3_l3_l3.st]
noncomputable def f3_l3_l3_j1 (k:Nat) (ag:Bool) (y z r o:Int) (ai:Bool) (n p q s:Int) (aa:List T54) (ab:List Int) (u:List T44) (ac:List T47) (ad:List T56) (ae af:List T44) (v:List Int) (t a b w d e f g h i j l m:Int) (c:List Int) (x:List T44):Option R3_l3_l3 :=
 ifE ((0:Int)≤o) (
  ifE (o<((List.length u):Int)) (
   Option.bind (u[(Int.toNat o)]?) fun v3 =>
    cond (ag)
     (f3_l3_l3_j2 k true y z r o n p q s aa ab u ac ad ae af v t a b w d e f g h i j l m c x)
     (f3_l3_l3_j2 k (((v3.Source==t)&&((v3.Seq==a)&&(v3.Offset==b)))) y z r o n p q s aa ab u ac ad ae af v t a b w d e f g h i j l m c x)))
theorem f3_l3_l3_j1_ok (k ai x y z n aj aa o p q ab ac ad ae af ag ah t s a b u d e f g h i j l m c v r) (w:f3_l3_l3_j1 k ai x y z n aj aa o p q ab ac ad ae af ag ah t s a b u d e f g h i j l m c v=some r):EX 3 k (nav B3 [2,2,1,2,2,1,2,2,2,2,2,1,2,2,1,2,2,1,2,2,2,2,2,2]) (⟨170,[(2,.ptr 30000 0),(3,.ptr 30004 0),(5,.ptr 30006 0),(9,.ptr 30011 0),(10,.ptr 30012 0),(12,.p (.bool ai)),(39,.own 30013),(40,jI x),(41,jI y),(54,.own 30003),(55,jI z),(56,jI n),(57,.p (.bool aj))],[(30000,.box 28 [jI aa,jI o,.own 30001,.own 30002,jI p,.own 30003,jI q]),(30001,.row false 6 54 (rowsOf encT54 ab)),(30002,.row false 1 3 (rowsOf (encI .i64) ac)),(30003,.row false 3 44 (rowsOf encT44 ad)),(30004,.box 31 [.own 30005]),(30005,.row false 11 47 (rowsOf encT47 ae)),(30006,.box 37 [.own 30007,.own 30008,.own 30009,.own 30010]),(30007,.row true 5 56 (rowsOf encT56 af)),(30008,.row true 3 44 (rowsOf encT44 ag)),(30009,.row true 3 44 (rowsOf encT44 ah)),(30010,.row true 1 3 (rowsOf (encI .i64) t)),(30011,.box 44 [jI s,jU a,jI b]),(30012,.box 47 [jI u,jI d,jU e,jI f,jI g,jI h,jI i,jI j,jI l,jI m,.sl 1 (rowsOf (encI .u8) c)]),(30013,.row true 3 44 (rowsOf encT44 v))]⟩:St)=some r.st:=by
 unfold f3_l3_l3_j1 at w
 obtain ⟨h1,w⟩:=ifE_some.1 w
 obtain ⟨h2,w⟩:=ifE_some.1 w
 obtain ⟨v3,h4,w⟩:=bs w
 simp (disch:=first|apply D;decide|apply K;kernel_rfl) only [E,EE,↓reduceIte,simprocAttr,xk B3 [2,2,1,2,2,1,2,2,2,2,2,1,2,2,1,2,2,1,2,2,2,2,2,2] .sq rfl,xk B3 [1,2,2,1,2,2,1,2,2,2,2,2,1,2,2,1,2,2,1,2,2,2,2,2,2] (.bk 3) rfl,xk B3 [2,1,2,2,1,2,2,1,2,2,2,2,2,1,2,2,1,2,2,1,2,2,2,2,2,2] .sq rfl,rg B3 [1,2,1,2,2,1,2,2,1,2,2,2,2,2,1,2,2,1,2,2,1,2,2,2,2,2,2] 17 false rfl,hr 3 17 rfl,indexAddrV,t_26,t_44,encT44_eq,rg B3 [2,2,1,2,2,1,2,2,1,2,2,2,2,2,1,2,2,1,2,2,1,2,2,2,2,2,2] 18 false rfl,hr 3 18 rfl,h1,h2,h4]
 rcases cond_some w with ⟨h5,w⟩ | ⟨h5,w⟩
 ·have hJ:=f3_l3_l3_j2_ok k true x y z n aa o p q ab ac ad ae af ag ah t s a b u d e f g h i j l m c v _ w
  simp (disch:=first|apply D;decide|apply K;kernel_rfl) only [E,EE,↓reduceIte,simprocAttr,h1,h2,h4,h5]
  try simp only [NM,EE] at hJ
  exact hJ
 ·have hJ:=f3_l3_l3_j2_ok k (((v3.Source==s)&&((v3.Seq==a)&&(v3.Offset==b)))) x y z n aa o p q ab ac ad ae af ag ah t s a b u d e f g h i j l m c v _ w
  simp (disch:=first|apply D;decide|apply K;kernel_rfl) only [E,EE,↓reduceIte,simprocAttr,t_44,ag_44,t_3,t_42,h1,h2,h4,h5]
  try simp only [NM,EE] at hJ
  exact hJ
noncomputable def f3_l3_l3_b (k:Nat) (y:Bool) (z r w x n o p q:Int) (aa:List T54) (ab:List Int) (ac:List T44) (ad:List T47) (ae:List T56) (af ag:List T44) (s:List Int) (t b c u d e f g h i j l m:Int) (a:List Int) (v:List T44):Option R3_l3_l3 :=
 cond ((decide (x<w)))
  (f3_l3_l3_j1 k y z r w x true n o p q aa ab ac ad ae af ag s t b c u d e f g h i j l m a v)
  (some (R3_l3_l3.o1 y z r w x false n o p q aa ab ac ad ae af ag s t b c u d e f g h i j l m a v))
theorem f3_l3_l3_b_ok (k w x y z n aa o p q ab ac ad ae af ag ah s t b c u d e f g h i j l m a v r) (hF:f3_l3_l3_b k w x y z n aa o p q ab ac ad ae af ag ah s t b c u d e f g h i j l m a v=some r):EX 3 k (nav B3 [1,2,2,1,2,2,2,2,2,1,2,2,1,2,2,1,2,2,2,2,2,2]) (⟨170,[(2,.ptr 30000 0),(3,.ptr 30004 0),(5,.ptr 30006 0),(9,.ptr 30011 0),(10,.ptr 30012 0),(12,.p (.bool w)),(39,.own 30013),(40,jI x),(41,jI y),(54,.own 30003),(55,jI z),(56,jI n)],[(30000,.box 28 [jI aa,jI o,.own 30001,.own 30002,jI p,.own 30003,jI q]),(30001,.row false 6 54 (rowsOf encT54 ab)),(30002,.row false 1 3 (rowsOf (encI .i64) ac)),(30003,.row false 3 44 (rowsOf encT44 ad)),(30004,.box 31 [.own 30005]),(30005,.row false 11 47 (rowsOf encT47 ae)),(30006,.box 37 [.own 30007,.own 30008,.own 30009,.own 30010]),(30007,.row true 5 56 (rowsOf encT56 af)),(30008,.row true 3 44 (rowsOf encT44 ag)),(30009,.row true 3 44 (rowsOf encT44 ah)),(30010,.row true 1 3 (rowsOf (encI .i64) s)),(30011,.box 44 [jI t,jU b,jI c]),(30012,.box 47 [jI u,jI d,jU e,jI f,jI g,jI h,jI i,jI j,jI l,jI m,.sl 1 (rowsOf (encI .u8) a)]),(30013,.row true 3 44 (rowsOf encT44 v))]⟩:St)=some r.st:=by
 unfold f3_l3_l3_b at hF
 simp (disch:=first|apply D;decide|apply K;kernel_rfl) only [E,EE,↓reduceIte,simprocAttr,xk B3 [1,2,2,1,2,2,2,2,2,1,2,2,1,2,2,1,2,2,2,2,2,2] .sq rfl,rg B3 [1,1,2,2,1,2,2,2,2,2,1,2,2,1,2,2,1,2,2,2,2,2,2] 16 false rfl,hr 3 16 rfl,xk B3 [2,1,2,2,1,2,2,2,2,2,1,2,2,1,2,2,1,2,2,2,2,2,2] .sq rfl,xk B3 [1,2,1,2,2,1,2,2,2,2,2,1,2,2,1,2,2,1,2,2,2,2,2,2] (.cd 57) rfl]
 rcases cond_some hF with ⟨h1,hF⟩ | ⟨h1,hF⟩
 ·have hJ:=f3_l3_l3_j1_ok k w x y z n true aa o p q ab ac ad ae af ag ah s t b c u d e f g h i j l m a v _ hF
  simp (disch:=first|apply D;decide|apply K;kernel_rfl) only [E,EE,↓reduceIte,simprocAttr,xk B3 [2,1,2,1,2,2,1,2,2,2,2,2,1,2,2,1,2,2,1,2,2,2,2,2,2] .sk rfl,h1]
  try simp only [NM,EE] at hJ
  exact hJ
 ·cases hF
  simp (disch:=first|apply D;decide|apply K;kernel_rfl) only [E,EE,↓reduceIte,simprocAttr,xk B3 [3,1,2,1,2,2,1,2,2,2,2,2,1,2,2,1,2,2,1,2,2,2,2,2,2] (.ex 2) rfl,R3_l3_l3.st,h1]
noncomputable def f3_l3_l3 (k:Nat):Nat→Bool→Int→Int→Int→Int→Int→Int→Int→Int→(List T54)→(List Int)→(List T44)→(List T47)→(List T56)→(List T44)→(List T44)→(List Int)→Int→Int→Int→Int→Int→Int→Int→Int→Int→Int→Int→Int→Int→(List Int)→(List T44)→Option R3_l3_l3
 | 0,_,_,_,_,_,_,_,_,_,_,_,_,_,_,_,_,_,_,_,_,_,_,_,_,_,_,_,_,_,_,_,_=>none
 | n+1,a5,a6,a7,a8,a9,ba,am,an,ao,bb,bc,bd,bf,bg,bh,bi,a0,a1,ab,ac,a2,ad,ae,af,ag,ah,ai,aj,ak,al,a,a3=>Option.bind (f3_l3_l3_b k a5 a6 a7 a8 a9 ba am an ao bb bc bd bf bg bh bi a0 a1 ab ac a2 ad ae af ag ah ai aj ak al a a3) fun o =>
  match o with
  | .o0 y ap aq ar au av aw ax ay az b c d e f g h i j l m p q s t u v w x z r aa=>f3_l3_l3 k n y ap aq ar au av aw ax ay az b c d e f g h i j l m p q s t u v w x z r aa
  | .o1 y ap aq ar au av aw ax ay az b c d e f g h i j l m p q s t u v w x z r aa a4=>some (.o1 y ap aq ar au av aw ax ay az b c d e f g h i j l m p q s t u v w x z r aa a4)
theorem f3_l3_l3_ok (k n:Nat):∀ (z:Bool) (aa ab ac ad ae q s t:Int) (af:List T54) (ag:List Int) (ah:List T44) (ai:List T47) (aj:List T56) (ak al:List T44) (u:List Int) (v b c w d e f g i j l m p:Int) (a:List Int) (x:List T44) (r:R3_l3_l3) (hF:f3_l3_l3 k n z aa ab ac ad ae q s t af ag ah ai aj ak al u v b c w d e f g i j l m p a x=some r) (σ:St) (hσ:headR (hints.head 3 16) (hints.canon 3 16) σ=some (⟨170,[(2,.ptr 30000 0),(3,.ptr 30004 0),(5,.ptr 30006 0),(9,.ptr 30011 0),(10,.ptr 30012 0),(12,.p (.bool z)),(39,.own 30013),(40,jI aa),(41,jI ab),(54,.own 30003),(55,jI ac),(56,jI ad)],[(30000,.box 28 [jI ae,jI q,.own 30001,.own 30002,jI s,.own 30003,jI t]),(30001,.row false 6 54 (rowsOf encT54 af)),(30002,.row false 1 3 (rowsOf (encI .i64) ag)),(30003,.row false 3 44 (rowsOf encT44 ah)),(30004,.box 31 [.own 30005]),(30005,.row false 11 47 (rowsOf encT47 ai)),(30006,.box 37 [.own 30007,.own 30008,.own 30009,.own 30010]),(30007,.row true 5 56 (rowsOf encT56 aj)),(30008,.row true 3 44 (rowsOf encT44 ak)),(30009,.row true 3 44 (rowsOf encT44 al)),(30010,.row true 1 3 (rowsOf (encI .i64) u)),(30011,.box 44 [jI v,jU b,jI c]),(30012,.box 47 [jI w,jI d,jU e,jI f,jI g,jI i,jI j,jI l,jI m,jI p,.sl 1 (rowsOf (encI .u8) a)]),(30013,.row true 3 44 (rowsOf encT44 x))]⟩:St)),LP 3 k (nav B3 [1,2,2,1,2,2,2,2,2,1,2,2,1,2,2,1,2,2,2,2,2,2]) n σ=some r.st:=by
 induction n with
 | zero=>intro z aa ab ac ad ae q s t af ag ah ai aj ak al u v b c w d e f g i j l m p a x r hF;cases hF
 | succ n ih =>
  intro z aa ab ac ad ae q s t af ag ah ai aj ak al u v b c w d e f g i j l m p a x r hF σ hσ
  rw [f3_l3_l3] at hF
  obtain ⟨o,h,hF⟩:=Option.bind_eq_some_iff.1 hF
  have hB:=f3_l3_l3_b_ok k z aa ab ac ad ae q s t af ag ah ai aj ak al u v b c w d e f g i j l m p a x o h
  unfold LP at ih ⊢
  unfold EX at hB
  rw [loopK_succ,show firstReg (nav B3 [1,2,2,1,2,2,2,2,2,1,2,2,1,2,2,1,2,2,2,2,2,2])=16 from rfl,hσ,headK_some,hB]
  cases o with
  | o0 y bb bc bd bf bg bh bi bj bk an ao ap aq ar au av aw ax ay az a0 a1 a2 a3 a4 a5 a6 a7 a8 a9 ba =>
   refine ih y bb bc bd bf bg bh bi bj bk an ao ap aq ar au av aw ax ay az a0 a1 a2 a3 a4 a5 a6 a7 a8 a9 ba r hF _ ?_
   simp (disch:=first|apply D;decide|apply K;kernel_rfl) only [E,EE,↓reduceIte,simprocAttr,hh_3_16,hc_3_16]
  | o1 y bb bc bd bf bg bh bi bj bk an ao ap aq ar au av aw ax ay az a0 a1 a2 a3 a4 a5 a6 a7 a8 a9 ba bm=>cases hF;rfl
inductive R3_l3 where
 | o0 (y:Bool)
 | o1 (y f g h i j:Int) (l:List T54) (m:List Int) (o:List T44) (p:List T47) (a:List T56) (b c:List T44) (d:List Int) (e:List T44)
 | o2 (y f:Int) (g:Bool) (h i j l:Int) (m:List T54) (o:List Int) (p:List T44) (a:List T47) (b:List T56) (c d:List T44) (e:List Int) (q:List T44)
noncomputable def R3_l3.st:R3_l3→Out×St
 | .o0 y=>(.ret,(⟨170,[(4,.p (.bool y))],[]⟩:St))
 | .o1 y f g h i j l m o p a b c d e=>(.norm,(⟨170,[(2,.ptr 30000 0),(3,.ptr 30004 0),(5,.ptr 30006 0),(39,.own 30013),(40,jI y),(41,jI f)],[(30000,.box 28 [jI g,jI h,.own 30001,.own 30002,jI i,.own 30003,jI j]),(30001,.row false 6 54 (rowsOf encT54 l)),(30002,.row false 1 3 (rowsOf (encI .i64) m)),(30003,.row false 3 44 (rowsOf encT44 o)),(30004,.box 31 [.own 30005]),(30005,.row false 11 47 (rowsOf encT47 p)),(30006,.box 37 [.own 30007,.own 30008,.own 30009,.own 30010]),(30007,.row true 5 56 (rowsOf encT56 a)),(30008,.row true 3 44 (rowsOf encT44 b)),(30009,.row true 3 44 (rowsOf encT44 c)),(30010,.row true 1 3 (rowsOf (encI .i64) d)),(30013,.row true 3 44 (rowsOf encT44 e))]⟩:St))
 | .o2 y f g h i j l m o p a b c d e q=>(.exit 0,(⟨170,[(2,.ptr 30000 0),(3,.ptr 30004 0),(5,.ptr 30006 0),(39,.own 30011),(40,jI y),(41,jI f),(42,.p (.bool g))],[(30000,.box 28 [jI h,jI i,.own 30001,.own 30002,jI j,.own 30003,jI l]),(30001,.row false 6 54 (rowsOf encT54 m)),(30002,.row false 1 3 (rowsOf (encI .i64) o)),(30003,.row false 3 44 (rowsOf encT44 p)),(30004,.box 31 [.own 30005]),(30005,.row false 11 47 (rowsOf encT47 a)),(30006,.box 37 [.own 30007,.own 30008,.own 30009,.own 30010]),(30007,.row true 5 56 (rowsOf encT56 b)),(30008,.row true 3 44 (rowsOf encT44 c)),(30009,.row true 3 44 (rowsOf encT44 d)),(30010,.row true 1 3 (rowsOf (encI .i64) e)),(30011,.row true 3 44 (rowsOf encT44 q))]⟩:St))
noncomputable def f3_l3_j5 (k:Nat) (u v:Int) (ae:Bool) (w a b c:Int) (x:List T54) (y:List Int) (z:List T44) (r:List T47) (n:List T56) (aa ab:List T44) (d:List Int) (ac g h ad i j l m o p q s t:Int) (e:List Int) (f:List T44):Option R3_l3 :=
 some (.o1 u (IntKind.i64.wrap (v+(1:Int))) w a b c x y z r n aa ab d f)
theorem f3_l3_j5_ok (k w x y z o p q n aa ab ac ad ae af s t b c u d e f g h i j l m a v r) (hF:f3_l3_j5 k w x y z o p q n aa ab ac ad ae af s t b c u d e f g h i j l m a v=some r):EX 3 k (nav B3 [2,2,2,1,2,2,1,2,2,2,2,2,2]) (⟨170,[(2,.ptr 30000 0),(3,.ptr 30004 0),(5,.ptr 30006 0),(9,.ptr 30011 0),(10,.ptr 30012 0),(39,.own 30013),(40,jI w),(41,jI x),(74,.p (.bool y))],[(30000,.box 28 [jI z,jI o,.own 30001,.own 30002,jI p,.own 30003,jI q]),(30001,.row false 6 54 (rowsOf encT54 n)),(30002,.row false 1 3 (rowsOf (encI .i64) aa)),(30003,.row false 3 44 (rowsOf encT44 ab)),(30004,.box 31 [.own 30005]),(30005,.row false 11 47 (rowsOf encT47 ac)),(30006,.box 37 [.own 30007,.own 30008,.own 30009,.own 30010]),(30007,.row true 5 56 (rowsOf encT56 ad)),(30008,.row true 3 44 (rowsOf encT44 ae)),(30009,.row true 3 44 (rowsOf encT44 af)),(30010,.row true 1 3 (rowsOf (encI .i64) s)),(30011,.box 44 [jI t,jU b,jI c]),(30012,.box 47 [jI u,jI d,jU e,jI f,jI g,jI h,jI i,jI j,jI l,jI m,.sl 1 (rowsOf (encI .u8) a)]),(30013,.row true 3 44 (rowsOf encT44 v))]⟩:St)=some r.st:=by
 unfold f3_l3_j5 at hF
 cases hF
 simp (disch:=first|apply D;decide|apply K;kernel_rfl) only [E,EE,↓reduceIte,simprocAttr,rg B3 [2,2,2,1,2,2,1,2,2,2,2,2,2] 28 false rfl,hr 3 28 rfl,R3_l3.st]
noncomputable def f3_l3_j8 (k:Nat) (o:Int) (l:Bool) (p:List T56) (c q:List T44) (m:List Int) (d a b s e f g h i:Int):Option R3_l3 :=
 cond ((decide (((List.length c):Int)>0)))
  (
   ifE ((0:Int)<((List.length c):Int)) (
    Option.bind (c[0]?) fun j =>
     some (.o0 (((j.Source==d)&&((j.Seq==a)&&(j.Offset==b)))))))
  (some (.o0 false))
theorem f3_l3_j8_ok (k m i o p q j l a b s c d e f g r) (h:f3_l3_j8 k m i o p q j l a b s c d e f g=some r):SQ 3 k (nav B3 [2,2,2,1,2,2,1,2,2,2,2,2,2]) (blockK 1 (EX 3 k (nav B3 [2,2,2,2,2,2,2,2,2,2,2,1,2,2,1,2,2,1,2,2,2,2,2,2]) (⟨170,[(5,.ptr 30006 0),(9,.ptr 30011 0),(15,jI m),(17,.ptr 17 0),(128,.p (.bool i))],[(30006,.box 37 [.own 30007,.own 30008,.own 30009,.own 30010]),(30007,.row true 5 56 (rowsOf encT56 o)),(30008,.row true 3 44 (rowsOf encT44 p)),(30009,.row true 3 44 (rowsOf encT44 q)),(30010,.row true 1 3 (rowsOf (encI .i64) j)),(30011,.box 44 [jI l,jU a,jI b]),(17,.box 54 [jI s,jI c,jI d,jI e,jI f,jI g])]⟩:St)))=some r.st:=by
 unfold f3_l3_j8 at h
 simp (disch:=first|apply D;decide|apply K;kernel_rfl) only [E,EE,↓reduceIte,simprocAttr,xk B3 [2,2,2,2,2,2,2,2,2,2,2,1,2,2,1,2,2,1,2,2,2,2,2,2] .sq rfl,rg B3 [1,2,2,2,2,2,2,2,2,2,2,2,1,2,2,1,2,2,1,2,2,2,2,2,2] 27 true rfl,hr 3 27 rfl,fieldAddrV,t_37,t_26]
 rcases cond_some h with ⟨t,h⟩ | ⟨t,h⟩
 ·obtain ⟨u,h⟩:=ifE_some.1 h
  obtain ⟨w,v,h⟩:=bs h
  cases h
  simp (disch:=first|apply D;decide|apply K;kernel_rfl) only [E,EE,↓reduceIte,simprocAttr,fieldAddrV,t_37,t_26,indexAddrV,t_44,encT44_eq,ag_44,t_3,t_42,xk B3 [2,2,2,2,2,2,2,2,2,2,2,2,1,2,2,1,2,2,1,2,2,2,2,2,2] .rt rfl,R3_l3.st,t,u,v]
 ·cases h
  simp (disch:=first|apply D;decide|apply K;kernel_rfl) only [E,EE,↓reduceIte,simprocAttr,xk B3 [2,2,2,2,2,2,2,2,2,2,2,2,1,2,2,1,2,2,1,2,2,2,2,2,2] .rt rfl,R3_l3.st,t]
noncomputable def f3_l3_j7 (k:Nat) (d:Int) (q:Bool) (s p g j:Int) (o:List T54) (t:List Int) (u:List T44) (f:List T56) (l m:List T44) (h:List Int) (e a b:Int):Option R3_l3 :=
 ifE ((0:Int)≤d) (
  ifE (d<((List.length o):Int)) (
   Option.bind (o[(Int.toNat d)]?) fun c =>
    cond ((decide (j>0)))
     (
      cond ((decide (c.Start≤g)))
       (
        cond ((decide (g<c.End)))
         (
          cond ((decide (((List.length f):Int)>0)))
           (
            ifE ((0:Int)<((List.length f):Int)) (
             Option.bind (f[0]?) fun i =>
              some (.o0 ((((i.Key_Source==e)&&((i.Key_Seq==a)&&(i.Key_Offset==b)))&&((i.To==c.To)&&(i.Contact==d)))))))
           (some (.o0 false)))
         (f3_l3_j8 k d false f l m h e a b c.From c.To c.Start c.End c.Rate c.Delay))
       (f3_l3_j8 k d false f l m h e a b c.From c.To c.Start c.End c.Rate c.Delay))
     (f3_l3_j8 k d false f l m h e a b c.From c.To c.Start c.End c.Rate c.Delay)))
theorem f3_l3_j7_ok (k g v w h i j x y z l m o e f a b r) (c:f3_l3_j7 k g v w h i j x y z l m o e f a b=some r):SQ 3 k (nav B3 [2,2,2,1,2,2,1,2,2,2,2,2,2]) (blockK 1 (EX 3 k (nav B3 [2,2,2,2,2,2,2,2,2,1,2,2,1,2,2,1,2,2,2,2,2,2]) (⟨170,[(2,.ptr 30000 0),(5,.ptr 30006 0),(9,.ptr 30011 0),(15,jI g),(93,.p (.bool v))],[(30000,.box 28 [jI w,jI h,.own 30001,.own 30002,jI i,.own 30003,jI j]),(30001,.row false 6 54 (rowsOf encT54 x)),(30002,.row false 1 3 (rowsOf (encI .i64) y)),(30003,.row false 3 44 (rowsOf encT44 z)),(30006,.box 37 [.own 30007,.own 30008,.own 30009,.own 30010]),(30007,.row true 5 56 (rowsOf encT56 l)),(30008,.row true 3 44 (rowsOf encT44 m)),(30009,.row true 3 44 (rowsOf encT44 o)),(30010,.row true 1 3 (rowsOf (encI .i64) e)),(30011,.box 44 [jI f,jU a,jI b])]⟩:St)))=some r.st:=by
 unfold f3_l3_j7 at c
 obtain ⟨p,c⟩:=ifE_some.1 c
 obtain ⟨q,c⟩:=ifE_some.1 c
 obtain ⟨d,s,c⟩:=bs c
 simp (disch:=first|apply D;decide|apply K;kernel_rfl) only [E,EE,↓reduceIte,simprocAttr,xk B3 [2,2,2,2,2,2,2,2,2,1,2,2,1,2,2,1,2,2,2,2,2,2] .sq rfl,rg B3 [1,2,2,2,2,2,2,2,2,2,1,2,2,1,2,2,1,2,2,2,2,2,2] 24 false rfl,hr 3 24 rfl,fieldAddrV,t_28,t_24,t_22,indexAddrV,t_54,encT54_eq,xk B3 [2,2,2,2,2,2,2,2,2,2,1,2,2,1,2,2,1,2,2,2,2,2,2] .sq rfl,xk B3 [1,2,2,2,2,2,2,2,2,2,2,1,2,2,1,2,2,1,2,2,2,2,2,2] .sq rfl,rg B3 [1,1,2,2,2,2,2,2,2,2,2,2,1,2,2,1,2,2,1,2,2,2,2,2,2] 25 false rfl,hr 3 25 rfl,t_3,p,q,s]
 rcases cond_some c with ⟨t,c⟩ | ⟨t,c⟩
 ·simp (disch:=first|apply D;decide|apply K;kernel_rfl) only [E,EE,↓reduceIte,simprocAttr,fieldAddrV,t_54,t_3,t_28,p,q,s,t]
  rcases cond_some c with ⟨u,c⟩ | ⟨u,c⟩
  ·simp (disch:=first|apply D;decide|apply K;kernel_rfl) only [E,EE,↓reduceIte,simprocAttr,fieldAddrV,t_28,t_3,t_54,xk B3 [2,1,2,2,2,2,2,2,2,2,2,2,1,2,2,1,2,2,1,2,2,2,2,2,2] (.cd 128) rfl,p,q,s,t,u]
   rcases cond_some c with ⟨n,c⟩ | ⟨n,c⟩
   ·simp (disch:=first|apply D;decide|apply K;kernel_rfl) only [E,EE,↓reduceIte,simprocAttr,xk B3 [2,2,1,2,2,2,2,2,2,2,2,2,2,1,2,2,1,2,2,1,2,2,2,2,2,2] .sq rfl,rg B3 [1,2,2,1,2,2,2,2,2,2,2,2,2,2,1,2,2,1,2,2,1,2,2,2,2,2,2] 26 true rfl,hr 3 26 rfl,fieldAddrV,t_37,t_35,p,q,s,t,u,n]
    rcases cond_some c with ⟨h8,c⟩ | ⟨h8,c⟩
    ·obtain ⟨h9,c⟩:=ifE_some.1 c
     obtain ⟨ad,ab,c⟩:=bs c
     cases c
     simp (disch:=first|apply D;decide|apply K;kernel_rfl) only [E,EE,↓reduceIte,simprocAttr,fieldAddrV,t_37,t_35,indexAddrV,t_56,encT56_eq,t_44,t_54,t_3,bl_56,ag_56,ag_44,t_42,xk B3 [2,2,2,1,2,2,2,2,2,2,2,2,2,2,1,2,2,1,2,2,1,2,2,2,2,2,2] .rt rfl,R3_l3.st,p,q,s,t,u,n,h8,h9,ab]
    ·cases c
     simp (disch:=first|apply D;decide|apply K;kernel_rfl) only [E,EE,↓reduceIte,simprocAttr,xk B3 [2,2,2,1,2,2,2,2,2,2,2,2,2,2,1,2,2,1,2,2,1,2,2,2,2,2,2] .rt rfl,R3_l3.st,p,q,s,t,u,n,h8]
   ·have hJ:=f3_l3_j8_ok k g false l m o e f a b d.From d.To d.Start d.End d.Rate d.Delay _ c
    simp (disch:=first|apply D;decide|apply K;kernel_rfl) only [E,EE,↓reduceIte,simprocAttr,xk B3 [3,2,1,2,2,2,2,2,2,2,2,2,2,1,2,2,1,2,2,1,2,2,2,2,2,2] .sk rfl,p,q,s,t,u,n]
    try simp only [NM,EE] at hJ
    exact hJ
  ·have hJ:=f3_l3_j8_ok k g false l m o e f a b d.From d.To d.Start d.End d.Rate d.Delay _ c
   simp (disch:=first|apply D;decide|apply K;kernel_rfl) only [E,EE,↓reduceIte,simprocAttr,xk B3 [2,1,2,2,2,2,2,2,2,2,2,2,1,2,2,1,2,2,1,2,2,2,2,2,2] (.cd 128) rfl,xk B3 [3,2,1,2,2,2,2,2,2,2,2,2,2,1,2,2,1,2,2,1,2,2,2,2,2,2] .sk rfl,p,q,s,t,u]
   try simp only [NM,EE] at hJ
   exact hJ
 ·have hJ:=f3_l3_j8_ok k g false l m o e f a b d.From d.To d.Start d.End d.Rate d.Delay _ c
  simp (disch:=first|apply D;decide|apply K;kernel_rfl) only [E,EE,↓reduceIte,simprocAttr,xk B3 [2,1,2,2,2,2,2,2,2,2,2,2,1,2,2,1,2,2,1,2,2,2,2,2,2] (.cd 128) rfl,xk B3 [3,2,1,2,2,2,2,2,2,2,2,2,2,1,2,2,1,2,2,1,2,2,2,2,2,2] .sk rfl,p,q,s,t]
  try simp only [NM,EE] at hJ
  exact hJ
noncomputable def f3_l3_j6 (k:Nat) (ad ae:Int) (af:Bool) (v d e t:Int) (w:List T54) (x:List Int) (r:List T44) (ag:List T47) (n:List T56) (aa g:List T44) (y:List Int) (s a b z c h i j l m o p q:Int) (f:List Int) (ac:List T44):Option R3_l3 :=
 Option.bind (f15 k z c h i j l m o p q f) fun o1 =>
  match o1 with
  | .o0 v4 =>
   Option.bind (f14 k d w x v c e v4) fun o5 =>
    match o5 with
    | .o0 v8 v9 ab =>
     cond ((ab != 0))
      (
       cond ((decide (((List.length g):Int)>0)))
        (
         ifE ((0:Int)<((List.length g):Int)) (
          Option.bind (g[0]?) fun u =>
           some (.o0 (((u.Source==s)&&((u.Seq==a)&&(u.Offset==b)))))))
        (some (.o0 false)))
      (f3_l3_j7 k v8 false v d e t w x r n aa g y s a b)
theorem f3_l3_j6_ok (k ah ai aj z d e s n aa ac ak ad ae af v w f g x a h i j l m o p q b ab r) (c:f3_l3_j6 k ah ai aj z d e s n aa ac ak ad ae af v w f g x a h i j l m o p q b ab=some r):SQ 3 k (nav B3 [2,2,2,1,2,2,1,2,2,2,2,2,2]) (blockK 1 (EX 3 k (nav B3 [2,2,2,2,2,2,2,1,2,2,1,2,2,1,2,2,2,2,2,2]) (⟨170,[(2,.ptr 30000 0),(3,.ptr 30004 0),(5,.ptr 30006 0),(9,.ptr 30011 0),(10,.ptr 30012 0),(39,.own 30013),(40,jI ah),(41,jI ai),(74,.p (.bool aj))],[(30000,.box 28 [jI z,jI d,.own 30001,.own 30002,jI e,.own 30003,jI s]),(30001,.row false 6 54 (rowsOf encT54 n)),(30002,.row false 1 3 (rowsOf (encI .i64) aa)),(30003,.row false 3 44 (rowsOf encT44 ac)),(30004,.box 31 [.own 30005]),(30005,.row false 11 47 (rowsOf encT47 ak)),(30006,.box 37 [.own 30007,.own 30008,.own 30009,.own 30010]),(30007,.row true 5 56 (rowsOf encT56 ad)),(30008,.row true 3 44 (rowsOf encT44 ae)),(30009,.row true 3 44 (rowsOf encT44 af)),(30010,.row true 1 3 (rowsOf (encI .i64) v)),(30011,.box 44 [jI w,jU f,jI g]),(30012,.box 47 [jI x,jI a,jU h,jI i,jI j,jI l,jI m,jI o,jI p,jI q,.sl 1 (rowsOf (encI .u8) b)]),(30013,.row true 3 44 (rowsOf encT44 ab))]⟩:St)))=some r.st:=by
 unfold f3_l3_j6 at c
 obtain ⟨o1,h2,c⟩:=bs c
 have t:=f15_ok k x a h i j l m o p q b _ h2
 cases o1 with
 | o0 v4 =>
  (try dsimp only at c)
  (try simp only [NM,EE,R15.st] at t)
  obtain ⟨o5,h6,c⟩:=bs c
  have u:=f14_ok k d n aa z a e v4 _ h6
  cases o5 with
  | o0 v8 v9 ar =>
   (try dsimp only at c)
   (try simp only [NM,EE,R14.st] at u)
   simp (disch:=first|apply D;decide|apply K;kernel_rfl) only [E,EE,↓reduceIte,simprocAttr,xk B3 [2,2,2,2,2,2,2,1,2,2,1,2,2,1,2,2,2,2,2,2] .sq rfl,rg B3 [1,2,2,2,2,2,2,2,1,2,2,1,2,2,1,2,2,2,2,2,2] 21 true rfl,hr 3 21 rfl,fieldAddrV,t_28,t_24,t_25,t_3,t_47,callStep,CL,gv,List.contains,xk B3 [2,2,2,2,2,2,2,2,1,2,2,1,2,2,1,2,2,2,2,2,2] .sq rfl,xk B3 [1,2,2,2,2,2,2,2,2,1,2,2,1,2,2,1,2,2,2,2,2,2] .sq rfl,rg B3 [1,1,2,2,2,2,2,2,2,2,1,2,2,1,2,2,1,2,2,2,2,2,2] 22 false rfl,hr 3 22 rfl,xk B3 [2,1,2,2,2,2,2,2,2,2,1,2,2,1,2,2,1,2,2,2,2,2,2] (.cd 93) rfl,t,u]
   rcases cond_some c with ⟨y,c⟩ | ⟨y,c⟩
   ·simp (disch:=first|apply D;decide|apply K;kernel_rfl) only [E,EE,↓reduceIte,simprocAttr,xk B3 [2,2,1,2,2,2,2,2,2,2,2,1,2,2,1,2,2,1,2,2,2,2,2,2] .sq rfl,rg B3 [1,2,2,1,2,2,2,2,2,2,2,2,1,2,2,1,2,2,1,2,2,2,2,2,2] 23 true rfl,hr 3 23 rfl,fieldAddrV,t_37,t_26,t,u,y]
    rcases cond_some c with ⟨ag,c⟩ | ⟨ag,c⟩
    ·obtain ⟨al,c⟩:=ifE_some.1 c
     obtain ⟨au,am,c⟩:=bs c
     cases c
     simp (disch:=first|apply D;decide|apply K;kernel_rfl) only [E,EE,↓reduceIte,simprocAttr,fieldAddrV,t_37,t_26,indexAddrV,t_44,encT44_eq,ag_44,t_3,t_42,xk B3 [2,2,2,1,2,2,2,2,2,2,2,2,1,2,2,1,2,2,1,2,2,2,2,2,2] .rt rfl,R3_l3.st,t,u,y,ag,al,am]
    ·cases c
     simp (disch:=first|apply D;decide|apply K;kernel_rfl) only [E,EE,↓reduceIte,simprocAttr,xk B3 [2,2,2,1,2,2,2,2,2,2,2,2,1,2,2,1,2,2,1,2,2,2,2,2,2] .rt rfl,R3_l3.st,t,u,y,ag]
   ·have hJ:=f3_l3_j7_ok k v8 false z d e s n aa ac ad ae af v w f g _ c
    simp (disch:=first|apply D;decide|apply K;kernel_rfl) only [E,EE,↓reduceIte,simprocAttr,xk B3 [3,2,1,2,2,2,2,2,2,2,2,1,2,2,1,2,2,1,2,2,2,2,2,2] .sk rfl,t,u,y]
    try simp only [NM,EE] at hJ
    exact hJ
noncomputable def f3_l3_j4 (k:Nat) (ae:Bool) (x y af ag:Int) (ah:Bool) (w o p q:Int) (z:List T54) (r:List Int) (n:List T44) (aa:List T47) (ab:List T56) (ac ad:List T44) (s:List Int) (t c d u a e f g h i j l m:Int) (b:List Int) (v:List T44):Option R3_l3 :=
 cond (ae)
  (f3_l3_j5 k x y true w o p q z r n aa ab ac ad s t c d u a e f g h i j l m b v)
  (
   cond ((a==w))
    (f3_l3_j5 k x y true w o p q z r n aa ab ac ad s t c d u a e f g h i j l m b v)
    (f3_l3_j6 k x y false w o p q z r n aa ab ac ad s t c d u a e f g h i j l m b v))
theorem f3_l3_j4_ok (k ag w x ah ai aj y o p q z n aa ab ac ad ae s t b c u d e f g h i j l m a v r) (hF:f3_l3_j4 k ag w x ah ai aj y o p q z n aa ab ac ad ae s t b c u d e f g h i j l m a v=some r):SQ 3 k (nav B3 [2,2,2,1,2,2,1,2,2,2,2,2,2]) (blockK 1 (EX 3 k (nav B3 [2,2,2,2,2,2,1,2,2,1,2,2,1,2,2,2,2,2,2]) (⟨170,[(2,.ptr 30000 0),(3,.ptr 30004 0),(5,.ptr 30006 0),(9,.ptr 30011 0),(10,.ptr 30012 0),(12,.p (.bool ag)),(39,.own 30013),(40,jI w),(41,jI x),(54,.own 30003),(55,jI ah),(56,jI ai),(57,.p (.bool aj))],[(30000,.box 28 [jI y,jI o,.own 30001,.own 30002,jI p,.own 30003,jI q]),(30001,.row false 6 54 (rowsOf encT54 z)),(30002,.row false 1 3 (rowsOf (encI .i64) n)),(30003,.row false 3 44 (rowsOf encT44 aa)),(30004,.box 31 [.own 30005]),(30005,.row false 11 47 (rowsOf encT47 ab)),(30006,.box 37 [.own 30007,.own 30008,.own 30009,.own 30010]),(30007,.row true 5 56 (rowsOf encT56 ac)),(30008,.row true 3 44 (rowsOf encT44 ad)),(30009,.row true 3 44 (rowsOf encT44 ae)),(30010,.row true 1 3 (rowsOf (encI .i64) s)),(30011,.box 44 [jI t,jU b,jI c]),(30012,.box 47 [jI u,jI d,jU e,jI f,jI g,jI h,jI i,jI j,jI l,jI m,.sl 1 (rowsOf (encI .u8) a)]),(30013,.row true 3 44 (rowsOf encT44 v))]⟩:St)))=some r.st:=by
 unfold f3_l3_j4 at hF
 simp (disch:=first|apply D;decide|apply K;kernel_rfl) only [E,EE,↓reduceIte,simprocAttr,xk B3 [2,2,2,2,2,2,1,2,2,1,2,2,1,2,2,2,2,2,2] .sq rfl,xk B3 [1,2,2,2,2,2,2,1,2,2,1,2,2,1,2,2,2,2,2,2] .sq rfl,rg B3 [1,1,2,2,2,2,2,2,1,2,2,1,2,2,1,2,2,2,2,2,2] 20 false rfl,hr 3 20 rfl]
 rcases cond_some hF with ⟨h1,hF⟩ | ⟨h1,hF⟩
 ·have hJ:=f3_l3_j5_ok k w x true y o p q z n aa ab ac ad ae s t b c u d e f g h i j l m a v _ hF
  simp (disch:=first|apply D;decide|apply K;kernel_rfl) only [E,EE,↓reduceIte,simprocAttr,xk B3 [2,1,2,2,2,2,2,2,1,2,2,1,2,2,1,2,2,2,2,2,2] (.cd 74) rfl,xk B3 [2,2,1,2,2,2,2,2,2,1,2,2,1,2,2,1,2,2,2,2,2,2] (.ex 1) rfl,h1]
  try simp only [NM,EE] at hJ
  exact hJ
 ·simp (disch:=first|apply D;decide|apply K;kernel_rfl) only [E,EE,↓reduceIte,simprocAttr,fieldAddrV,t_47,t_3,t_28,xk B3 [2,1,2,2,2,2,2,2,1,2,2,1,2,2,1,2,2,2,2,2,2] (.cd 74) rfl,h1]
  rcases cond_some hF with ⟨h2,hF⟩ | ⟨h2,hF⟩
  ·have hJ:=f3_l3_j5_ok k w x true y o p q z n aa ab ac ad ae s t b c u d e f g h i j l m a v _ hF
   simp (disch:=first|apply D;decide|apply K;kernel_rfl) only [E,EE,↓reduceIte,simprocAttr,xk B3 [2,2,1,2,2,2,2,2,2,1,2,2,1,2,2,1,2,2,2,2,2,2] (.ex 1) rfl,h1,h2]
   try simp only [NM,EE] at hJ
   exact hJ
  ·have hJ:=f3_l3_j6_ok k w x false y o p q z n aa ab ac ad ae s t b c u d e f g h i j l m a v _ hF
   simp (disch:=first|apply D;decide|apply K;kernel_rfl) only [E,EE,↓reduceIte,simprocAttr,xk B3 [3,2,1,2,2,2,2,2,2,1,2,2,1,2,2,1,2,2,2,2,2,2] .sk rfl,h1,h2]
   try simp only [NM,EE] at hJ
   exact hJ
noncomputable def f3_l3_j2 (k:Nat) (v w:Int) (a6:Bool) (x b c d:Int) (y:List T54) (z:List Int) (p:List T44) (r:List T47) (n:List T56) (aa ab:List T44) (q:List Int) (m9 s t ac e f g h i j l m o:Int) (a:List Int) (u:List T44):Option R3_l3 :=
 Option.bind (f3_l3_l3 k k false v w ((List.length p):Int) 0 x b c d y z p r n aa ab q m9 s t ac e f g h i j l m o a u) fun o1 =>
  match o1 with
  | .o0 _ _ _ _ _ _ _ _ _ _ _ _ _ _ _ _ _ _ _ _ _ _ _ _ _ _ _ _ _ _ _ _ =>
   none
  | .o1 v4 v5 v6 v7 v8 v9 ad ae af ag ah ai aj ak al am an ao ap aq ar au av aw ax ay az a0 a1 a2 a3 a4 a5 =>
   f3_l3_j4 k v4 v5 v6 v7 v8 v9 ad ae af ag ah ai aj ak al am an ao ap aq ar au av aw ax ay az a0 a1 a2 a3 a4 a5
theorem f3_l3_j2_ok (k v w ag x b c d y z u n aa ab ac p m9 q s ad e f g h i j l m o a t r) (hF:f3_l3_j2 k v w ag x b c d y z u n aa ab ac p m9 q s ad e f g h i j l m o a t=some r):SQ 3 k (nav B3 [2,2,2,1,2,2,1,2,2,2,2,2,2]) (blockK 1 (EX 3 k (nav B3 [2,2,2,2,1,2,2,1,2,2,1,2,2,2,2,2,2]) (⟨170,[(2,.ptr 30000 0),(3,.ptr 30004 0),(5,.ptr 30006 0),(9,.ptr 9 0),(10,.ptr 10 0),(39,.own 30011),(40,jI v),(41,jI w),(52,.p (.bool ag))],[(30000,.box 28 [jI x,jI b,.own 30001,.own 30002,jI c,.own 30003,jI d]),(30001,.row false 6 54 (rowsOf encT54 y)),(30002,.row false 1 3 (rowsOf (encI .i64) z)),(30003,.row false 3 44 (rowsOf encT44 u)),(30004,.box 31 [.own 30005]),(30005,.row false 11 47 (rowsOf encT47 n)),(30006,.box 37 [.own 30007,.own 30008,.own 30009,.own 30010]),(30007,.row true 5 56 (rowsOf encT56 aa)),(30008,.row true 3 44 (rowsOf encT44 ab)),(30009,.row true 3 44 (rowsOf encT44 ac)),(30010,.row true 1 3 (rowsOf (encI .i64) p)),(9,.box 44 [jI m9,jU q,jI s]),(10,.box 47 [jI ad,jI e,jU f,jI g,jI h,jI i,jI j,jI l,jI m,jI o,.sl 1 (rowsOf (encI .u8) a)]),(30011,.row true 3 44 (rowsOf encT44 t))]⟩:St)))=some r.st:=by
 unfold f3_l3_j2 at hF
 obtain ⟨o1,h2,hF⟩:=bs hF
 have af:=f3_l3_l3_ok k k false v w ((List.length u):Int) 0 x b c d y z u n aa ab ac p m9 q s ad e f g h i j l m o a t _ h2
 simp (disch:=first|apply D;decide|apply K;kernel_rfl) only [E,EE,↓reduceIte,simprocAttr,xk B3 [2,2,2,2,1,2,2,1,2,2,1,2,2,2,2,2,2] .sq rfl,rg B3 [1,2,2,2,2,1,2,2,1,2,2,1,2,2,2,2,2,2] 14 false rfl,hr 3 14 rfl,xk B3 [2,2,2,2,2,1,2,2,1,2,2,1,2,2,2,2,2,2] .sq rfl,xk B3 [1,2,2,2,2,2,1,2,2,1,2,2,1,2,2,2,2,2,2] .sq rfl,rg B3 [1,1,2,2,2,2,2,1,2,2,1,2,2,1,2,2,2,2,2,2] 15 false rfl,hr 3 15 rfl,fieldAddrV,t_28,t_26,xk B3 [2,1,2,2,2,2,2,1,2,2,1,2,2,1,2,2,2,2,2,2] (.bk 2) rfl,xk B3 [2,2,1,2,2,2,2,2,1,2,2,1,2,2,1,2,2,2,2,2,2] .lp rfl,hh_3_16,hc_3_16]
 (try simp only [NM,EE] at af)
 rw [af _ (by simp (disch:=first|apply D;decide|apply K;kernel_rfl) only [E,EE,↓reduceIte,simprocAttr,hh_3_16,hc_3_16])]
 clear af
 cases o1 with
 | o0 _ _ _ _ _ _ _ _ _ _ _ _ _ _ _ _ _ _ _ _ _ _ _ _ _ _ _ _ _ _ _ _ =>
  (try dsimp only at hF)
  cases hF
 | o1 v4 v5 v6 v7 v8 v9 ai aj ak al am an ao ap aq ar au av aw ax ay az a0 a1 a2 a3 a4 a5 a6 a7 a8 a9 ba =>
  (try dsimp only at hF)
  have hJ:=f3_l3_j4_ok k v4 v5 v6 v7 v8 v9 ai aj ak al am an ao ap aq ar au av aw ax ay az a0 a1 a2 a3 a4 a5 a6 a7 a8 a9 ba _ hF
  simp (disch:=first|apply D;decide|apply K;kernel_rfl) only [E,EE,↓reduceIte,simprocAttr,R3_l3_l3.st]
  try simp only [NM,EE] at hJ
  exact hJ
noncomputable def f3_l3_j1 (k:Nat) (i b:Int) (ab:Bool) (j c d e:Int) (l:List T54) (m:List Int) (o:List T44) (g:List T47) (p:List T56) (q s:List T44) (h:List Int) (a:List T44):Option R3_l3 :=
 ifE ((0:Int)≤b) (
  ifE (b<((List.length a):Int)) (
   Option.bind (a[(Int.toNat b)]?) fun f =>
    Option.bind (f13 k g f.Source f.Seq f.Offset) fun o5 =>
     match o5 with
     | .o0 v8 v9 t u v w x y z r n aa =>
      cond ((aa != 0))
       (some (.o0 false))
       (f3_l3_j2 k i b false j c d e l m o g p q s h f.Source f.Seq f.Offset v8 v9 t u v w x y z r n a)))
theorem f3_l3_j1_ok (k i j w l a b c m o p g q s t e f r) (d:f3_l3_j1 k i j w l a b c m o p g q s t e f=some r):EX 3 k (nav B3 [2,2,1,2,2,1,2,2,2,2,2,2]) (⟨170,[(2,.ptr 30000 0),(3,.ptr 30004 0),(5,.ptr 30006 0),(39,.own 30011),(40,jI i),(41,jI j),(42,.p (.bool w))],[(30000,.box 28 [jI l,jI a,.own 30001,.own 30002,jI b,.own 30003,jI c]),(30001,.row false 6 54 (rowsOf encT54 m)),(30002,.row false 1 3 (rowsOf (encI .i64) o)),(30003,.row false 3 44 (rowsOf encT44 p)),(30004,.box 31 [.own 30005]),(30005,.row false 11 47 (rowsOf encT47 g)),(30006,.box 37 [.own 30007,.own 30008,.own 30009,.own 30010]),(30007,.row true 5 56 (rowsOf encT56 q)),(30008,.row true 3 44 (rowsOf encT44 s)),(30009,.row true 3 44 (rowsOf encT44 t)),(30010,.row true 1 3 (rowsOf (encI .i64) e)),(30011,.row true 3 44 (rowsOf encT44 f))]⟩:St)=some r.st:=by
 unfold f3_l3_j1 at d
 obtain ⟨x,d⟩:=ifE_some.1 d
 obtain ⟨y,d⟩:=ifE_some.1 d
 obtain ⟨v,z,d⟩:=bs d
 obtain ⟨o5,h6,d⟩:=bs d
 have h:=f13_ok k g v.Source v.Seq v.Offset _ h6
 cases o5 with
 | o0 v8 v9 n aa ab ac ad ae af ag ah al =>
  (try dsimp only at d)
  (try simp only [NM,EE,R13.st] at h)
  simp (disch:=first|apply D;decide|apply K;kernel_rfl) only [E,EE,↓reduceIte,simprocAttr,xk B3 [2,2,1,2,2,1,2,2,2,2,2,2] .sq rfl,xk B3 [1,2,2,1,2,2,1,2,2,2,2,2,2] (.bk 1) rfl,xk B3 [2,1,2,2,1,2,2,1,2,2,2,2,2,2] .sq rfl,rg B3 [1,2,1,2,2,1,2,2,1,2,2,2,2,2,2] 10 false rfl,hr 3 10 rfl,indexAddrV,t_26,t_44,encT44_eq,xk B3 [2,2,1,2,2,1,2,2,1,2,2,2,2,2,2] .sq rfl,rg B3 [1,2,2,1,2,2,1,2,2,1,2,2,2,2,2,2] 11 false rfl,hr 3 11 rfl,t_31,callStep,CL,gv,List.contains,t_47,xk B3 [2,2,2,1,2,2,1,2,2,1,2,2,2,2,2,2] .sq rfl,xk B3 [1,2,2,2,1,2,2,1,2,2,1,2,2,2,2,2,2] .sq rfl,rg B3 [1,1,2,2,2,1,2,2,1,2,2,1,2,2,2,2,2,2] 12 false rfl,hr 3 12 rfl,xk B3 [2,1,2,2,2,1,2,2,1,2,2,1,2,2,2,2,2,2] (.cd 52) rfl,x,y,z,h]
  rcases cond_some d with ⟨u,d⟩ | ⟨u,d⟩
  ·cases d
   simp (disch:=first|apply D;decide|apply K;kernel_rfl) only [E,EE,↓reduceIte,simprocAttr,xk B3 [2,2,1,2,2,2,1,2,2,1,2,2,1,2,2,2,2,2,2] .sq rfl,rg B3 [1,2,2,1,2,2,2,1,2,2,1,2,2,1,2,2,2,2,2,2] 13 false rfl,hr 3 13 rfl,xk B3 [2,2,2,1,2,2,2,1,2,2,1,2,2,1,2,2,2,2,2,2] .rt rfl,R3_l3.st,x,y,z,h,u]
  ·have hJ:=f3_l3_j2_ok k i j false l a b c m o p g q s t e v.Source v.Seq v.Offset v8 v9 n aa ab ac ad ae af ag ah f _ d
   simp (disch:=first|apply D;decide|apply K;kernel_rfl) only [E,EE,↓reduceIte,simprocAttr,xk B3 [3,2,1,2,2,2,1,2,2,1,2,2,1,2,2,2,2,2,2] .sk rfl,x,y,z,h,u]
   try simp only [NM,EE] at hJ
   exact hJ
noncomputable def f3_l3_b (k:Nat) (f g h a b c:Int) (i:List T54) (j:List Int) (l:List T44) (m:List T47) (o:List T56) (p q:List T44) (d:List Int) (e:List T44):Option R3_l3 :=
 cond ((decide (g<f)))
  (f3_l3_j1 k f g true h a b c i j l m o p q d e)
  (some (.o2 f g false h a b c i j l m o p q d e))
theorem f3_l3_b_ok (k f g h a b c i j l m o p q d e r) (s:f3_l3_b k f g h a b c i j l m o p q d e=some r):EX 3 k (nav B3 [1,2,2,1,2,2,2,2,2,2]) (⟨170,[(2,.ptr 30000 0),(3,.ptr 30004 0),(5,.ptr 30006 0),(39,.own 30011),(40,jI f),(41,jI g)],[(30000,.box 28 [jI h,jI a,.own 30001,.own 30002,jI b,.own 30003,jI c]),(30001,.row false 6 54 (rowsOf encT54 i)),(30002,.row false 1 3 (rowsOf (encI .i64) j)),(30003,.row false 3 44 (rowsOf encT44 l)),(30004,.box 31 [.own 30005]),(30005,.row false 11 47 (rowsOf encT47 m)),(30006,.box 37 [.own 30007,.own 30008,.own 30009,.own 30010]),(30007,.row true 5 56 (rowsOf encT56 o)),(30008,.row true 3 44 (rowsOf encT44 p)),(30009,.row true 3 44 (rowsOf encT44 q)),(30010,.row true 1 3 (rowsOf (encI .i64) d)),(30011,.row true 3 44 (rowsOf encT44 e))]⟩:St)=some r.st:=by
 unfold f3_l3_b at s
 simp (disch:=first|apply D;decide|apply K;kernel_rfl) only [E,EE,↓reduceIte,simprocAttr,xk B3 [1,2,2,1,2,2,2,2,2,2] .sq rfl,rg B3 [1,1,2,2,1,2,2,2,2,2,2] 9 false rfl,hr 3 9 rfl,xk B3 [2,1,2,2,1,2,2,2,2,2,2] .sq rfl,xk B3 [1,2,1,2,2,1,2,2,2,2,2,2] (.cd 42) rfl]
 rcases cond_some s with ⟨t,s⟩ | ⟨t,s⟩
 ·have hJ:=f3_l3_j1_ok k f g true h a b c i j l m o p q d e _ s
  simp (disch:=first|apply D;decide|apply K;kernel_rfl) only [E,EE,↓reduceIte,simprocAttr,xk B3 [2,1,2,1,2,2,1,2,2,2,2,2,2] .sk rfl,t]
  try simp only [NM,EE] at hJ
  exact hJ
 ·cases s
  simp (disch:=first|apply D;decide|apply K;kernel_rfl) only [E,EE,↓reduceIte,simprocAttr,xk B3 [3,1,2,1,2,2,1,2,2,2,2,2,2] (.ex 0) rfl,R3_l3.st,t]
noncomputable def f3_l3 (k:Nat):Nat→Int→Int→Int→Int→Int→Int→(List T54)→(List Int)→(List T44)→(List T47)→(List T56)→(List T44)→(List T44)→(List Int)→(List T44)→Option R3_l3
 | 0,_,_,_,_,_,_,_,_,_,_,_,_,_,_,_=>none
 | n+1,z,r,aa,f,g,h,ab,ac,ad,ae,af,ag,ah,v,w=>Option.bind (f3_l3_b k z r aa f g h ab ac ad ae af ag ah v w) fun o =>
  match o with
  | .o0 y=>some (.o0 y)
  | .o1 y i j l m p q s t u a b c d e=>f3_l3 k n y i j l m p q s t u a b c d e
  | .o2 y i j l m p q s t u a b c d e x=>some (.o2 y i j l m p q s t u a b c d e x)
theorem f3_l3_ok (k n:Nat):∀ (f g i a b c:Int) (j:List T54) (l:List Int) (m:List T44) (p:List T47) (q:List T56) (s t:List T44) (d:List Int) (e:List T44) (r:R3_l3) (u:f3_l3 k n f g i a b c j l m p q s t d e=some r) (σ:St) (hσ:headR (hints.head 3 9) (hints.canon 3 9) σ=some (⟨170,[(2,.ptr 30000 0),(3,.ptr 30004 0),(5,.ptr 30006 0),(39,.own 30011),(40,jI f),(41,jI g)],[(30000,.box 28 [jI i,jI a,.own 30001,.own 30002,jI b,.own 30003,jI c]),(30001,.row false 6 54 (rowsOf encT54 j)),(30002,.row false 1 3 (rowsOf (encI .i64) l)),(30003,.row false 3 44 (rowsOf encT44 m)),(30004,.box 31 [.own 30005]),(30005,.row false 11 47 (rowsOf encT47 p)),(30006,.box 37 [.own 30007,.own 30008,.own 30009,.own 30010]),(30007,.row true 5 56 (rowsOf encT56 q)),(30008,.row true 3 44 (rowsOf encT44 s)),(30009,.row true 3 44 (rowsOf encT44 t)),(30010,.row true 1 3 (rowsOf (encI .i64) d)),(30011,.row true 3 44 (rowsOf encT44 e))]⟩:St)),LP 3 k (nav B3 [1,2,2,1,2,2,2,2,2,2]) n σ=some r.st:=by
 induction n with
 | zero=>intro f g i a b c j l m p q s t d e r u;cases u
 | succ n ih =>
  intro f g i a b c j l m p q s t d e r u σ hσ
  rw [f3_l3] at u
  obtain ⟨o,h,u⟩:=Option.bind_eq_some_iff.1 u
  have hB:=f3_l3_b_ok k f g i a b c j l m p q s t d e o h
  unfold LP at ih ⊢
  unfold EX at hB
  rw [loopK_succ,show firstReg (nav B3 [1,2,2,1,2,2,2,2,2,2])=9 from rfl,hσ,headK_some,hB]
  cases o with
  | o0 y=>cases u;rfl
  | o1 y ab ac ad ae af ag ah ai aj v w x z aa =>
   refine ih y ab ac ad ae af ag ah ai aj v w x z aa r u _ ?_
   simp (disch:=first|apply D;decide|apply K;kernel_rfl) only [E,EE,↓reduceIte,simprocAttr,hh_3_9,hc_3_9]
  | o2 y ab ac ad ae af ag ah ai aj v w x z aa al=>cases u;rfl
noncomputable def f3_j4 (k:Nat) (i j:Int) (l:Bool) (m a b c:Int) (o:List T54) (p:List Int) (q:List T44) (s:List T47) (d:List T56) (e f:List T44) (g:List Int) (h:List T44):Option R3 :=
 some (.o0 (((IntKind.i64.wrap ((IntKind.i64.wrap (((List.length d):Int)+((List.length e):Int)))+((List.length f):Int)))==0)))
theorem f3_j4_ok (k f g h i a b c j l m o p q s d e r) (t:f3_j4 k f g h i a b c j l m o p q s d e=some r):finK Tryd.prog Tryd.f3 0 (EX 3 k (nav B3 [2,2,2,2,2,2,2]) (⟨170,[(2,.ptr 30000 0),(3,.ptr 30004 0),(5,.ptr 30006 0),(39,.own 30011),(40,jI f),(41,jI g),(42,.p (.bool h))],[(30000,.box 28 [jI i,jI a,.own 30001,.own 30002,jI b,.own 30003,jI c]),(30001,.row false 6 54 (rowsOf encT54 j)),(30002,.row false 1 3 (rowsOf (encI .i64) l)),(30003,.row false 3 44 (rowsOf encT44 m)),(30004,.box 31 [.own 30005]),(30005,.row false 11 47 (rowsOf encT47 o)),(30006,.box 37 [.own 30007,.own 30008,.own 30009,.own 30010]),(30007,.row true 5 56 (rowsOf encT56 p)),(30008,.row true 3 44 (rowsOf encT44 q)),(30009,.row true 3 44 (rowsOf encT44 s)),(30010,.row true 1 3 (rowsOf (encI .i64) d)),(30011,.row true 3 44 (rowsOf encT44 e))]⟩:St))=some r.st:=by
 unfold f3_j4 at t
 cases t
 simp (disch:=first|apply D;decide|apply K;kernel_rfl) only [E,EE,↓reduceIte,simprocAttr,xk B3 [2,2,2,2,2,2,2] .sq rfl,rg B3 [1,2,2,2,2,2,2,2] 29 false rfl,hr 3 29 rfl,fieldAddrV,t_37,t_35,t_26,xk B3 [2,2,2,2,2,2,2,2] .rt rfl,fin3,R3.st]
noncomputable def f3_j2 (k:Nat) (r:Bool) (n e f g:Int) (j:List T54) (a:List Int) (b:List T44) (l:List T47) (m:List T56) (c d:List T44) (h:List Int) (i:List T44):Option R3 :=
 Option.bind (f3_l3 k k ((List.length i):Int) 0 n e f g j a b l m c d h i) fun o1 =>
  match o1 with
  | .o0 v4 =>
   some (.o0 v4)
  | .o1 _ _ _ _ _ _ _ _ _ _ _ _ _ _ _ =>
   none
  | .o2 v5 v6 v7 v8 v9 o p q s t u v w x y z =>
   f3_j4 k v5 v6 v7 v8 v9 o p q s t u v w x y z
theorem f3_j2_ok (k q s e f g l a b m o c d h i r) (j:f3_j2 k q s e f g l a b m o c d h i=some r):finK Tryd.prog Tryd.f3 0 (EX 3 k (nav B3 [2,2,2,2,2,2]) (⟨170,[(2,.ptr 2 0),(3,.ptr 3 0),(5,.ptr 5 0),(7,.own 31),(38,.p (.bool q))],[(2,.box 28 [jI s,jI e,.own 21,.own 10021,jI f,.own 20021,jI g]),(21,.row false 6 54 (rowsOf encT54 l)),(10021,.row false 1 3 (rowsOf (encI .i64) a)),(20021,.row false 3 44 (rowsOf encT44 b)),(3,.box 31 [.own 23]),(23,.row false 11 47 (rowsOf encT47 m)),(5,.box 37 [.own 27,.own 10027,.own 20027,.own 30027]),(27,.row true 5 56 (rowsOf encT56 o)),(10027,.row true 3 44 (rowsOf encT44 c)),(20027,.row true 3 44 (rowsOf encT44 d)),(30027,.row true 1 3 (rowsOf (encI .i64) h)),(31,.row true 3 44 (rowsOf encT44 i))]⟩:St))=some r.st:=by
 unfold f3_j2 at j
 obtain ⟨o1,h2,j⟩:=bs j
 have p:=f3_l3_ok k k ((List.length i):Int) 0 s e f g l a b m o c d h i _ h2
 simp (disch:=first|apply D;decide|apply K;kernel_rfl) only [E,EE,↓reduceIte,simprocAttr,xk B3 [2,2,2,2,2,2] .sq rfl,xk B3 [1,2,2,2,2,2,2] .sq rfl,rg B3 [1,1,2,2,2,2,2,2] 8 false rfl,hr 3 8 rfl,t_26,xk B3 [2,1,2,2,2,2,2,2] (.bk 0) rfl,xk B3 [2,2,1,2,2,2,2,2,2] .lp rfl,hh_3_9,hc_3_9]
 (try simp only [NM,EE] at p)
 rw [p _ (by simp (disch:=first|apply D;decide|apply K;kernel_rfl) only [E,EE,↓reduceIte,simprocAttr,hh_3_9,hc_3_9])]
 clear p
 cases o1 with
 | o0 v4 =>
  (try dsimp only at j)
  cases j
  simp (disch:=first|apply D;decide|apply K;kernel_rfl) only [E,EE,↓reduceIte,simprocAttr,R3_l3.st,fin3,R3.st]
 | o1 _ _ _ _ _ _ _ _ _ _ _ _ _ _ _ =>
  (try dsimp only at j)
  cases j
 | o2 v5 v6 v7 v8 v9 t u v w x y z n aa ab ac =>
  (try dsimp only at j)
  have hJ:=f3_j4_ok k v5 v6 v7 v8 v9 t u v w x y z n aa ab ac _ j
  simp (disch:=first|apply D;decide|apply K;kernel_rfl) only [E,EE,↓reduceIte,simprocAttr,R3_l3.st]
  try simp only [NM,EE] at hJ
  exact hJ
noncomputable def f3_j1 (k:Nat) (x:Bool) (y b:Int) (c:List T54) (d:List Int) (e:Int) (f:List T44) (g:Int) (z:List T47):Option R3 :=
 Option.bind (f9 k y b c d e f g) fun o1 =>
  match o1 with
  | .o0 q s t u v w h =>
   Option.bind (f10 k z) fun o11 =>
    match o11 with
    | .o0 a =>
     Option.bind (f11 k q s v w t h u a) fun o15 =>
      match o15 with
      | .o0 j l m o p =>
       Option.bind (f12 k a) fun o23 =>
        match o23 with
        | .o0 i =>
         cond ((j != 0))
          (some (.o0 true))
          (
           cond ((((List.length i):Int)==0))
            (some (.o0 true))
            (f3_j2 k false q s t u v w h a l m o p i))
theorem f3_j1_ok (k q t f g h i j l u r) (a:f3_j1 k q t f g h i j l u=some r):finK Tryd.prog Tryd.f3 0 (EX 3 k (nav B3 [2,2]) (⟨170,[(2,.ptr 2 0),(3,.ptr 3 0),(19,.p (.bool q))],[(2,.box 28 [jI t,jI f,.sl 6 (rowsOf encT54 g),.sl 1 (rowsOf (encI .i64) h),jI i,.sl 3 (rowsOf encT44 j),jI l]),(3,.box 31 [.sl 11 (rowsOf encT47 u)])]⟩:St))=some r.st:=by
 unfold f3_j1 at a
 obtain ⟨o1,h2,a⟩:=bs a
 have e:=f9_ok k t f g h i j l _ h2
 cases o1 with
 | o0 v4 v5 v6 v7 v8 v9 s =>
  (try dsimp only at a)
  (try simp only [NM,EE,R9.st] at e)
  obtain ⟨o11,v,a⟩:=bs a
  have b:=f10_ok k u _ v
  cases o11 with
  | o0 o =>
   (try dsimp only at a)
   (try simp only [NM,EE,R10.st] at b)
   obtain ⟨o15,w,a⟩:=bs a
   have c:=f11_ok k v4 v5 v8 v9 v6 s v7 o _ w
   cases o15 with
   | o0 aj x y z n =>
    (try dsimp only at a)
    (try simp only [NM,EE,R11.st] at c)
    obtain ⟨o23,aa,a⟩:=bs a
    have d:=f12_ok k o _ aa
    cases o23 with
    | o0 ab =>
     (try dsimp only at a)
     (try simp only [NM,EE,R12.st] at d)
     simp (disch:=first|apply D;decide|apply K;kernel_rfl) only [E,EE,↓reduceIte,simprocAttr,xk B3 [2,2] .sq rfl,rg B3 [1,2,2] 3 true rfl,hr 3 3 rfl,t_28,callStep,CL,gv,List.contains,t_31,xk B3 [2,2,2] .sq rfl,rg B3 [1,2,2,2] 4 false rfl,hr 3 4 rfl,t_37,xk B3 [2,2,2,2] .sq rfl,rg B3 [1,2,2,2,2] 5 false rfl,hr 3 5 rfl,xk B3 [2,2,2,2,2] .sq rfl,xk B3 [1,2,2,2,2,2] .sq rfl,rg B3 [1,1,2,2,2,2,2] 6 false rfl,hr 3 6 rfl,e,b,c,d]
     rcases cond_some a with ⟨m,a⟩ | ⟨m,a⟩
     ·cases a
      simp (disch:=first|apply D;decide|apply K;kernel_rfl) only [E,EE,↓reduceIte,simprocAttr,xk B3 [2,1,2,2,2,2,2] (.cd 38) rfl,xk B3 [2,2,1,2,2,2,2,2] .sq rfl,rg B3 [1,2,2,1,2,2,2,2,2] 7 false rfl,hr 3 7 rfl,xk B3 [2,2,2,1,2,2,2,2,2] .rt rfl,fin3,R3.st,e,b,c,d,m]
     ·simp (disch:=first|apply D;decide|apply K;kernel_rfl) only [E,EE,↓reduceIte,simprocAttr,t_26,xk B3 [2,1,2,2,2,2,2] (.cd 38) rfl,e,b,c,d,m]
      rcases cond_some a with ⟨p,a⟩ | ⟨p,a⟩
      ·cases a
       simp (disch:=first|apply D;decide|apply K;kernel_rfl) only [E,EE,↓reduceIte,simprocAttr,xk B3 [2,2,1,2,2,2,2,2] .sq rfl,rg B3 [1,2,2,1,2,2,2,2,2] 7 false rfl,hr 3 7 rfl,xk B3 [2,2,2,1,2,2,2,2,2] .rt rfl,fin3,R3.st,e,b,c,d,m,p]
      ·have hJ:=f3_j2_ok k false v4 v5 v6 v7 v8 v9 s o x y z n ab _ a
       simp (disch:=first|apply D;decide|apply K;kernel_rfl) only [E,EE,↓reduceIte,simprocAttr,xk B3 [3,2,1,2,2,2,2,2] .sk rfl,e,b,c,d,m,p]
       try simp only [NM,EE] at hJ
       exact hJ
noncomputable def f3_e (k:Nat) (g a:Int) (b:List T54) (c:List Int) (d:Int) (e:List T44) (f:Int) (h:List T47):Option R3 :=
 Option.bind (f8 k) fun o1 =>
  match o1 with
  | .o0 i =>
   cond ((!i))
    (some (.o0 false))
    (f3_j1 k false g a b c d e f h)
theorem f3_e_ok (k i a b c d e f j r) (g:f3_e k i a b c d e f j=some r):finK Tryd.prog Tryd.f3 0 (EX 3 k (nav B3 []) (⟨170,[(0,.agg [jI i,jI a,.sl 6 (rowsOf encT54 b),.sl 1 (rowsOf (encI .i64) c),jI d,.sl 3 (rowsOf encT44 e),jI f]),(1,.agg [.sl 11 (rowsOf encT47 j)])],[]⟩:St))=some r.st:=by
 unfold f3_e at g
 obtain ⟨o1,m,g⟩:=bs g
 have h:=f8_ok k _ m
 cases o1 with
 | o0 o =>
  (try dsimp only at g)
  (try simp only [NM,EE,R8.st] at h)
  simp (disch:=first|apply D;decide|apply K;kernel_rfl) only [E,EE,↓reduceIte,simprocAttr,xk B3 [] .sq rfl,rg B3 [1] 0 false rfl,hr 3 0 rfl,xk B3 [2] .sq rfl,xk B3 [1,2] .sq rfl,rg B3 [1,1,2] 1 false rfl,hr 3 1 rfl,callStep,CL,gv,List.contains,xk B3 [2,1,2] (.cd 19) rfl,h]
  rcases cond_some g with ⟨l,g⟩ | ⟨l,g⟩
  ·cases g
   simp (disch:=first|apply D;decide|apply K;kernel_rfl) only [E,EE,↓reduceIte,simprocAttr,xk B3 [2,2,1,2] .sq rfl,rg B3 [1,2,2,1,2] 2 false rfl,hr 3 2 rfl,xk B3 [2,2,2,1,2] .rt rfl,fin3,R3.st,h,l]
  ·have hJ:=f3_j1_ok k false i a b c d e f j _ g
   simp (disch:=first|apply D;decide|apply K;kernel_rfl) only [E,EE,↓reduceIte,simprocAttr,xk B3 [3,2,1,2] .sk rfl,h,l]
   try simp only [NM,EE] at hJ
   exact hJ
noncomputable def f3 (k:Nat) (g a:Int) (b:List T54) (c:List Int) (d:Int) (e:List T44) (f:Int) (h:List T47):Option R3:=match k with | 0=>none | k+1=>f3_e k g a b c d e f h
theorem f3_ok (k h a b d e f g i r) (j:f3 k h a b d e f g i=some r):CV k 3 [.agg [jI h,jI a,.sl 6 (rowsOf encT54 b),.sl 1 (rowsOf (encI .i64) d),jI e,.sl 3 (rowsOf encT44 f),jI g],.agg [.sl 11 (rowsOf encT47 i)]] []=some r.st:=by
 cases k with
 | zero=>cases j
 | succ k =>
  unfold CV
  rw [ev_call (F:=Tryd.f3) (c:=(nav B3 [])) rfl Tryd.func3 rfl rfl rfl rfl]
  exact f3_e_ok k h a b d e f g i r j
end Go.Proofs.YtiompmmbjpjjeaaDoorV