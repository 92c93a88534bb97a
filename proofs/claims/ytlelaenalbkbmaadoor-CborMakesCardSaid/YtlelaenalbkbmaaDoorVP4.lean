/- What the program's functions answer: plain functions,and that the interpreter answers what they do. Written by a program of this session,out of the translation. -/
import Derived.Test.YtlelaenalbkbmaaDoorVP3
namespace Go.Proofs.YtlelaenalbkbmaaDoorV
open Go
set_option linter.unusedVariables false
set_option linter.unusedSimpArgs false
set_option maxRecDepth 8000
set_option maxHeartbeats 4000000
-- f4: f4 heliograph/heliographlaw07.CborMakes
inductive R4 where
 | o0 (y:Bool)
noncomputable def R4.st:R4→V×List O×List O
 | .o0 y=>(.p (.bool y),[],[])
inductive R4_l4_l2 where
 | o0 (y:Bool)
 | o1 (y t u v w x:Int) (z:List Int) (k:List T28) (r n:Int) (a:List T28) (b:List Int) (c d:Int) (e:List Int) (f:List T28) (g h:Int) (i:List Int) (j:List T28) (l m:Int) (o:List Int) (p q s:List T28)
 | o2 (y t u v:Int) (w:Bool) (x z:Int) (k:List Int) (r:List T28) (n a:Int) (b:List T28) (c:List Int) (d e:Int) (f:List Int) (g:List T28) (h i:Int) (j:List Int) (l:List T28) (m o:Int) (p:List Int) (q s aa:List T28)
noncomputable def R4_l4_l2.st:R4_l4_l2→Out×St
 | .o0 y=>(.ret,(⟨82,[(6,.p (.bool y))],[]⟩:St))
 | .o1 y t u v w x z k r n a b c d e f g h i j l m o p q s=>(.norm,(⟨82,[(7,.ptr 30000 0),(8,.ptr 30001 0),(9,.ptr 30003 0),(10,.ptr 30004 0),(12,.ptr 30006 0),(57,.own 30007),(58,jI y),(59,jI t),(67,.own 30008),(68,jI u),(69,jI v)],[(30000,.box 28 [jI w,.p (.int .u64 x),.sl 1 (rowsOf (encI .u8) z),.sl 4 (rowsOf encT28 k)]),(30001,.box 28 [jI r,.p (.int .u64 n),.own 30002,.sl 4 (rowsOf encT28 a)]),(30002,.row false 1 5 (rowsOf (encI .u8) b)),(30003,.box 28 [jI c,.p (.int .u64 d),.sl 1 (rowsOf (encI .u8) e),.sl 4 (rowsOf encT28 f)]),(30004,.box 28 [jI g,.p (.int .u64 h),.sl 1 (rowsOf (encI .u8) i),.own 30005]),(30005,.row false 4 28 (rowsOf encT28 j)),(30006,.box 28 [jI l,.p (.int .u64 m),.sl 1 (rowsOf (encI .u8) o),.sl 4 (rowsOf encT28 p)]),(30007,.row true 4 28 (rowsOf encT28 q)),(30008,.row true 4 28 (rowsOf encT28 s))]⟩:St))
 | .o2 y t u v w x z k r n a b c d e f g h i j l m o p q s aa=>(.exit 2,(⟨82,[(7,.ptr 30000 0),(8,.ptr 30001 0),(9,.ptr 30003 0),(10,.ptr 30004 0),(12,.ptr 30006 0),(57,.own 30007),(58,jI y),(59,jI t),(67,.own 30008),(68,jI u),(69,jI v),(70,.p (.bool w))],[(30000,.box 28 [jI x,.p (.int .u64 z),.sl 1 (rowsOf (encI .u8) k),.sl 4 (rowsOf encT28 r)]),(30001,.box 28 [jI n,.p (.int .u64 a),.own 30002,.sl 4 (rowsOf encT28 b)]),(30002,.row false 1 5 (rowsOf (encI .u8) c)),(30003,.box 28 [jI d,.p (.int .u64 e),.sl 1 (rowsOf (encI .u8) f),.sl 4 (rowsOf encT28 g)]),(30004,.box 28 [jI h,.p (.int .u64 i),.sl 1 (rowsOf (encI .u8) j),.own 30005]),(30005,.row false 4 28 (rowsOf encT28 l)),(30006,.box 28 [jI m,.p (.int .u64 o),.sl 1 (rowsOf (encI .u8) p),.sl 4 (rowsOf encT28 q)]),(30007,.row true 4 28 (rowsOf encT28 s)),(30008,.row true 4 28 (rowsOf encT28 aa))]⟩:St))
noncomputable def f4_l4_l2_j2 (k:Nat) (p q s t:Int) (ab:Bool) (u a:Int) (b:List Int) (c:List T28) (v d:Int) (e:List T28) (w:List Int) (x f:Int) (g:List Int) (h:List T28) (y i:Int) (j:List Int) (z:List T28) (r l:Int) (m:List Int) (o n aa:List T28):Option R4_l4_l2 :=
 some (R4_l4_l2.o1 p q s (IntKind.i64.wrap (t+(1:Int))) u a b c v d e w x f g h y i j z r l m o n aa)
theorem f4_l4_l2_j2_ok (k p q s t u v a b c w d e x y f g h z i j n aa l m o ab ac r) (hF:f4_l4_l2_j2 k p q s t u v a b c w d e x y f g h z i j n aa l m o ab ac=some r):EX 4 k (nav B4 [2,2,2,1,2,2,2,2,1,2,2,1,2,2,1,2,2,2,2,2,2,2]) (⟨82,[(7,.ptr 30000 0),(8,.ptr 30001 0),(9,.ptr 30003 0),(10,.ptr 30004 0),(12,.ptr 30006 0),(57,.own 30007),(58,jI p),(59,jI q),(67,.own 30008),(68,jI s),(69,jI t),(79,.p (.bool u))],[(30000,.box 28 [jI v,.p (.int .u64 a),.sl 1 (rowsOf (encI .u8) b),.sl 4 (rowsOf encT28 c)]),(30001,.box 28 [jI w,.p (.int .u64 d),.own 30002,.sl 4 (rowsOf encT28 e)]),(30002,.row false 1 5 (rowsOf (encI .u8) x)),(30003,.box 28 [jI y,.p (.int .u64 f),.sl 1 (rowsOf (encI .u8) g),.sl 4 (rowsOf encT28 h)]),(30004,.box 28 [jI z,.p (.int .u64 i),.sl 1 (rowsOf (encI .u8) j),.own 30005]),(30005,.row false 4 28 (rowsOf encT28 n)),(30006,.box 28 [jI aa,.p (.int .u64 l),.sl 1 (rowsOf (encI .u8) m),.sl 4 (rowsOf encT28 o)]),(30007,.row true 4 28 (rowsOf encT28 ab)),(30008,.row true 4 28 (rowsOf encT28 ac))]⟩:St)=some r.st:=by
 unfold f4_l4_l2_j2 at hF
 cases hF
 simp (disch:=first|apply D;decide|apply K;kernel_rfl) only [E,EE,↓reduceIte,simprocAttr,rg B4 [2,2,2,1,2,2,2,2,1,2,2,1,2,2,1,2,2,2,2,2,2,2] 18 false rfl,hr 4 18 rfl,R4_l4_l2.st]
noncomputable def f4_l4_l2_j1 (k:Nat) (u v w d:Int) (ad:Bool) (x f:Int) (g:List Int) (h:List T28) (y i:Int) (j:List T28) (z:List Int) (r l:Int) (m:List Int) (o:List T28) (n p:Int) (q:List Int) (aa:List T28) (s a:Int) (b:List Int) (c ab t:List T28):Option R4_l4_l2 :=
 ifE ((0:Int)≤d) (
  ifE (d<((List.length t):Int)) (
   Option.bind (t[(Int.toNat d)]?) fun e =>
    Option.bind (f11 k s a b c e.Kind e.Num e.Bytes e.Items) fun o5 =>
     match o5 with
     | .o0 v8 =>
      Option.bind (f19d k s a b c e.Kind e.Num e.Bytes e.Items) fun o9 =>
       match o9 with
       | .o0 ac =>
        cond ((!(v8==ac)))
         (some (R4_l4_l2.o0 false))
         (f4_l4_l2_j2 k u v w d false x f g h y i j z r l m o n p q aa s a b c ab t)))
theorem f4_l4_l2_j1_ok (k v w x y ah z e f g n h i aa ab j l m ac o p ad s a b c ae af r) (d:f4_l4_l2_j1 k v w x y ah z e f g n h i aa ab j l m ac o p ad s a b c ae af=some r):EX 4 k (nav B4 [2,2,1,2,2,2,2,1,2,2,1,2,2,1,2,2,2,2,2,2,2]) (⟨82,[(7,.ptr 30000 0),(8,.ptr 30001 0),(9,.ptr 30003 0),(10,.ptr 30004 0),(12,.ptr 30006 0),(57,.own 30007),(58,jI v),(59,jI w),(67,.own 30008),(68,jI x),(69,jI y),(70,.p (.bool ah))],[(30000,.box 28 [jI z,.p (.int .u64 e),.sl 1 (rowsOf (encI .u8) f),.sl 4 (rowsOf encT28 g)]),(30001,.box 28 [jI n,.p (.int .u64 h),.own 30002,.sl 4 (rowsOf encT28 i)]),(30002,.row false 1 5 (rowsOf (encI .u8) aa)),(30003,.box 28 [jI ab,.p (.int .u64 j),.sl 1 (rowsOf (encI .u8) l),.sl 4 (rowsOf encT28 m)]),(30004,.box 28 [jI ac,.p (.int .u64 o),.sl 1 (rowsOf (encI .u8) p),.own 30005]),(30005,.row false 4 28 (rowsOf encT28 ad)),(30006,.box 28 [jI s,.p (.int .u64 a),.sl 1 (rowsOf (encI .u8) b),.sl 4 (rowsOf encT28 c)]),(30007,.row true 4 28 (rowsOf encT28 ae)),(30008,.row true 4 28 (rowsOf encT28 af))]⟩:St)=some r.st:=by
 unfold f4_l4_l2_j1 at d
 obtain ⟨h1,d⟩:=ifE_some.1 d
 obtain ⟨h2,d⟩:=ifE_some.1 d
 obtain ⟨u,h4,d⟩:=bs d
 obtain ⟨o5,h6,d⟩:=bs d
 have t:=f11_ok k s a b c u.Kind u.Num u.Bytes u.Items _ h6
 cases o5 with
 | o0 v8 =>
  (try dsimp only at d)
  (try simp only [NM,EE,R11.st] at t)
  obtain ⟨o9,al,d⟩:=bs d
  have q:=f19d_ok k s a b c u.Kind u.Num u.Bytes u.Items _ al
  cases o9 with
  | o0 an =>
   (try dsimp only at d)
   (try simp only [NM,EE,R19d.st] at q)
   simp (disch:=first|apply D;decide|apply K;kernel_rfl) only [E,EE,↓reduceIte,simprocAttr,xk B4 [2,2,1,2,2,2,2,1,2,2,1,2,2,1,2,2,2,2,2,2,2] .sq rfl,xk B4 [1,2,2,1,2,2,2,2,1,2,2,1,2,2,1,2,2,2,2,2,2,2] (.bk 3) rfl,xk B4 [2,1,2,2,1,2,2,2,2,1,2,2,1,2,2,1,2,2,2,2,2,2,2] .sq rfl,rg B4 [1,2,1,2,2,1,2,2,2,2,1,2,2,1,2,2,1,2,2,2,2,2,2,2] 15 false rfl,hr 4 15 rfl,indexAddrV,t_26,t_28,encT28_eq,xk B4 [2,2,1,2,2,1,2,2,2,2,1,2,2,1,2,2,1,2,2,2,2,2,2,2] .sq rfl,rg B4 [1,2,2,1,2,2,1,2,2,2,2,1,2,2,1,2,2,1,2,2,2,2,2,2,2] 16 true rfl,hr 4 16 rfl,callStep,CL,gv,List.contains,t_4,xk B4 [2,2,2,1,2,2,1,2,2,2,2,1,2,2,1,2,2,1,2,2,2,2,2,2,2] (.cd 79) rfl,h1,h2,h4,t,q]
   rcases cond_some d with ⟨ag,d⟩ | ⟨ag,d⟩
   ·cases d
    simp (disch:=first|apply D;decide|apply K;kernel_rfl) only [E,EE,↓reduceIte,simprocAttr,xk B4 [2,2,2,2,1,2,2,1,2,2,2,2,1,2,2,1,2,2,1,2,2,2,2,2,2,2] .sq rfl,rg B4 [1,2,2,2,2,1,2,2,1,2,2,2,2,1,2,2,1,2,2,1,2,2,2,2,2,2,2] 17 false rfl,hr 4 17 rfl,xk B4 [2,2,2,2,2,1,2,2,1,2,2,2,2,1,2,2,1,2,2,1,2,2,2,2,2,2,2] .rt rfl,R4_l4_l2.st,h1,h2,h4,t,q,ag]
   ·have hJ:=f4_l4_l2_j2_ok k v w x y false z e f g n h i aa ab j l m ac o p ad s a b c ae af _ d
    simp (disch:=first|apply D;decide|apply K;kernel_rfl) only [E,EE,↓reduceIte,simprocAttr,xk B4 [3,2,2,2,1,2,2,1,2,2,2,2,1,2,2,1,2,2,1,2,2,2,2,2,2,2] .sk rfl,h1,h2,h4,t,q,ag]
    try simp only [NM,EE] at hJ
    exact hJ
noncomputable def f4_l4_l2_b (k:Nat) (s t p q u a:Int) (b:List Int) (c:List T28) (v d:Int) (e:List T28) (w:List Int) (x f:Int) (g:List Int) (h:List T28) (y i:Int) (j:List Int) (z:List T28) (r l:Int) (m:List Int) (o n aa:List T28):Option R4_l4_l2 :=
 cond ((decide (q<p)))
  (f4_l4_l2_j1 k s t p q true u a b c v d e w x f g h y i j z r l m o n aa)
  (some (R4_l4_l2.o2 s t p q false u a b c v d e w x f g h y i j z r l m o n aa))
theorem f4_l4_l2_b_ok (k p q s t u a b c v d e w x f g h y i j z n l m o aa ab r) (hF:f4_l4_l2_b k p q s t u a b c v d e w x f g h y i j z n l m o aa ab=some r):EX 4 k (nav B4 [1,2,2,2,2,1,2,2,1,2,2,1,2,2,2,2,2,2,2]) (⟨82,[(7,.ptr 30000 0),(8,.ptr 30001 0),(9,.ptr 30003 0),(10,.ptr 30004 0),(12,.ptr 30006 0),(57,.own 30007),(58,jI p),(59,jI q),(67,.own 30008),(68,jI s),(69,jI t)],[(30000,.box 28 [jI u,.p (.int .u64 a),.sl 1 (rowsOf (encI .u8) b),.sl 4 (rowsOf encT28 c)]),(30001,.box 28 [jI v,.p (.int .u64 d),.own 30002,.sl 4 (rowsOf encT28 e)]),(30002,.row false 1 5 (rowsOf (encI .u8) w)),(30003,.box 28 [jI x,.p (.int .u64 f),.sl 1 (rowsOf (encI .u8) g),.sl 4 (rowsOf encT28 h)]),(30004,.box 28 [jI y,.p (.int .u64 i),.sl 1 (rowsOf (encI .u8) j),.own 30005]),(30005,.row false 4 28 (rowsOf encT28 z)),(30006,.box 28 [jI n,.p (.int .u64 l),.sl 1 (rowsOf (encI .u8) m),.sl 4 (rowsOf encT28 o)]),(30007,.row true 4 28 (rowsOf encT28 aa)),(30008,.row true 4 28 (rowsOf encT28 ab))]⟩:St)=some r.st:=by
 unfold f4_l4_l2_b at hF
 simp (disch:=first|apply D;decide|apply K;kernel_rfl) only [E,EE,↓reduceIte,simprocAttr,xk B4 [1,2,2,2,2,1,2,2,1,2,2,1,2,2,2,2,2,2,2] .sq rfl,rg B4 [1,1,2,2,2,2,1,2,2,1,2,2,1,2,2,2,2,2,2,2] 14 false rfl,hr 4 14 rfl,xk B4 [2,1,2,2,2,2,1,2,2,1,2,2,1,2,2,2,2,2,2,2] .sq rfl,xk B4 [1,2,1,2,2,2,2,1,2,2,1,2,2,1,2,2,2,2,2,2,2] (.cd 70) rfl]
 rcases cond_some hF with ⟨h1,hF⟩ | ⟨h1,hF⟩
 ·have hJ:=f4_l4_l2_j1_ok k p q s t true u a b c v d e w x f g h y i j z n l m o aa ab _ hF
  simp (disch:=first|apply D;decide|apply K;kernel_rfl) only [E,EE,↓reduceIte,simprocAttr,xk B4 [2,1,2,1,2,2,2,2,1,2,2,1,2,2,1,2,2,2,2,2,2,2] .sk rfl,h1]
  try simp only [NM,EE] at hJ
  exact hJ
 ·cases hF
  simp (disch:=first|apply D;decide|apply K;kernel_rfl) only [E,EE,↓reduceIte,simprocAttr,xk B4 [3,1,2,1,2,2,2,2,1,2,2,1,2,2,1,2,2,2,2,2,2,2] (.ex 2) rfl,R4_l4_l2.st,h1]
noncomputable def f4_l4_l2 (k:Nat):Nat→Int→Int→Int→Int→Int→Int→(List Int)→(List T28)→Int→Int→(List T28)→(List Int)→Int→Int→(List Int)→(List T28)→Int→Int→(List Int)→(List T28)→Int→Int→(List Int)→(List T28)→(List T28)→(List T28)→Option R4_l4_l2
 | 0,_,_,_,_,_,_,_,_,_,_,_,_,_,_,_,_,_,_,_,_,_,_,_,_,_,_=>none
 | n+1,ar,au,av,aw,ax,u,v,w,ay,x,z,az,a0,r,aa,ab,a1,ac,ad,a2,a3,ae,af,ag,a4,a5=>Option.bind (f4_l4_l2_b k ar au av aw ax u v w ay x z az a0 r aa ab a1 ac ad a2 a3 ae af ag a4 a5) fun o =>
  match o with
  | .o0 y=>some (.o0 y)
  | .o1 y ah ai aj ak al am an ao ap a b c d e f g h i j l m p q s t=>f4_l4_l2 k n y ah ai aj ak al am an ao ap a b c d e f g h i j l m p q s t
  | .o2 y ah ai aj ak al am an ao ap a b c d e f g h i j l m p q s t aq=>some (.o2 y ah ai aj ak al am an ao ap a b c d e f g h i j l m p q s t aq)
theorem f4_l4_l2_ok (k n:Nat):∀ (s t u v w a:Int) (b:List Int) (c:List T28) (x d:Int) (e:List T28) (z:List Int) (aa f:Int) (g:List Int) (i:List T28) (ab j:Int) (l:List Int) (ac:List T28) (ad m:Int) (p:List Int) (q ae af:List T28) (r:R4_l4_l2) (hF:f4_l4_l2 k n s t u v w a b c x d e z aa f g i ab j l ac ad m p q ae af=some r) (σ:St) (hσ:headR (hints.head 4 14) (hints.canon 4 14) σ=some (⟨82,[(7,.ptr 30000 0),(8,.ptr 30001 0),(9,.ptr 30003 0),(10,.ptr 30004 0),(12,.ptr 30006 0),(57,.own 30007),(58,jI s),(59,jI t),(67,.own 30008),(68,jI u),(69,jI v)],[(30000,.box 28 [jI w,.p (.int .u64 a),.sl 1 (rowsOf (encI .u8) b),.sl 4 (rowsOf encT28 c)]),(30001,.box 28 [jI x,.p (.int .u64 d),.own 30002,.sl 4 (rowsOf encT28 e)]),(30002,.row false 1 5 (rowsOf (encI .u8) z)),(30003,.box 28 [jI aa,.p (.int .u64 f),.sl 1 (rowsOf (encI .u8) g),.sl 4 (rowsOf encT28 i)]),(30004,.box 28 [jI ab,.p (.int .u64 j),.sl 1 (rowsOf (encI .u8) l),.own 30005]),(30005,.row false 4 28 (rowsOf encT28 ac)),(30006,.box 28 [jI ad,.p (.int .u64 m),.sl 1 (rowsOf (encI .u8) p),.sl 4 (rowsOf encT28 q)]),(30007,.row true 4 28 (rowsOf encT28 ae)),(30008,.row true 4 28 (rowsOf encT28 af))]⟩:St)),LP 4 k (nav B4 [1,2,2,2,2,1,2,2,1,2,2,1,2,2,2,2,2,2,2]) n σ=some r.st:=by
 induction n with
 | zero=>intro s t u v w a b c x d e z aa f g i ab j l ac ad m p q ae af r hF;cases hF
 | succ n ih =>
  intro s t u v w a b c x d e z aa f g i ab j l ac ad m p q ae af r hF σ hσ
  rw [f4_l4_l2] at hF
  obtain ⟨o,h,hF⟩:=Option.bind_eq_some_iff.1 hF
  have hB:=f4_l4_l2_b_ok k s t u v w a b c x d e z aa f g i ab j l ac ad m p q ae af o h
  unfold LP at ih ⊢
  unfold EX at hB
  rw [loopK_succ,show firstReg (nav B4 [1,2,2,2,2,1,2,2,1,2,2,1,2,2,2,2,2,2,2])=14 from rfl,hσ,headK_some,hB]
  cases o with
  | o0 y=>cases hF;rfl
  | o1 y az a0 a1 a2 a3 a4 a5 a6 a7 ah ai aj ak al am an ao ap aq ar au av aw ax ay =>
   refine ih y az a0 a1 a2 a3 a4 a5 a6 a7 ah ai aj ak al am an ao ap aq ar au av aw ax ay r hF _ ?_
   simp (disch:=first|apply D;decide|apply K;kernel_rfl) only [E,EE,↓reduceIte,simprocAttr,hh_4_14,hc_4_14]
  | o2 y az a0 a1 a2 a3 a4 a5 a6 a7 ah ai aj ak al am an ao ap aq ar au av aw ax ay a9=>cases hF;rfl
inductive R4_l4 where
 | o0 (y:Bool)
 | o1 (y j l m:Int) (o:List Int) (p:List T28) (q s:Int) (t:List T28) (u:List Int) (a b:Int) (c:List Int) (d:List T28) (e f:Int) (g:List Int) (h i:List T28)
 | o2 (y j:Int) (l:Bool) (m o:Int) (p:List Int) (q:List T28) (s t:Int) (u:List T28) (a:List Int) (b c:Int) (d:List Int) (e:List T28) (f g:Int) (h:List Int) (i v:List T28)
noncomputable def R4_l4.st:R4_l4→Out×St
 | .o0 y=>(.ret,(⟨82,[(6,.p (.bool y))],[]⟩:St))
 | .o1 y j l m o p q s t u a b c d e f g h i=>(.norm,(⟨82,[(7,.ptr 30000 0),(8,.ptr 30001 0),(9,.ptr 30003 0),(10,.ptr 30004 0),(57,.own 30007),(58,jI y),(59,jI j)],[(30000,.box 28 [jI l,.p (.int .u64 m),.sl 1 (rowsOf (encI .u8) o),.sl 4 (rowsOf encT28 p)]),(30001,.box 28 [jI q,.p (.int .u64 s),.own 30002,.sl 4 (rowsOf encT28 t)]),(30002,.row false 1 5 (rowsOf (encI .u8) u)),(30003,.box 28 [jI a,.p (.int .u64 b),.sl 1 (rowsOf (encI .u8) c),.sl 4 (rowsOf encT28 d)]),(30004,.box 28 [jI e,.p (.int .u64 f),.sl 1 (rowsOf (encI .u8) g),.own 30005]),(30005,.row false 4 28 (rowsOf encT28 h)),(30007,.row true 4 28 (rowsOf encT28 i))]⟩:St))
 | .o2 y j l m o p q s t u a b c d e f g h i v=>(.exit 0,(⟨82,[(7,.ptr 30000 0),(8,.ptr 30001 0),(9,.ptr 30003 0),(10,.ptr 30004 0),(57,.own 30006),(58,jI y),(59,jI j),(60,.p (.bool l))],[(30000,.box 28 [jI m,.p (.int .u64 o),.sl 1 (rowsOf (encI .u8) p),.sl 4 (rowsOf encT28 q)]),(30001,.box 28 [jI s,.p (.int .u64 t),.own 30002,.sl 4 (rowsOf encT28 u)]),(30002,.row false 1 5 (rowsOf (encI .u8) a)),(30003,.box 28 [jI b,.p (.int .u64 c),.sl 1 (rowsOf (encI .u8) d),.sl 4 (rowsOf encT28 e)]),(30004,.box 28 [jI f,.p (.int .u64 g),.sl 1 (rowsOf (encI .u8) h),.own 30005]),(30005,.row false 4 28 (rowsOf encT28 i)),(30006,.row true 4 28 (rowsOf encT28 v))]⟩:St))
noncomputable def f4_l4_j3 (k:Nat) (l m z r:Int) (n:Bool) (o a:Int) (b:List Int) (c:List T28) (p d:Int) (e:List T28) (q:List Int) (s f:Int) (g:List Int) (h:List T28) (t i:Int) (j:List Int) (u:List T28) (aa v:Int) (w:List Int) (x y ab:List T28):Option R4_l4 :=
 some (.o1 l (IntKind.i64.wrap (m+(1:Int))) o a b c p d e q s f g h t i j u y)
theorem f4_l4_j3_ok (k p q s t u v a b c w d e x y f g h z i j n aa l m o ab ac r) (hF:f4_l4_j3 k p q s t u v a b c w d e x y f g h z i j n aa l m o ab ac=some r):EX 4 k (nav B4 [2,2,2,1,2,2,1,2,2,2,2,2,2,2]) (⟨82,[(7,.ptr 30000 0),(8,.ptr 30001 0),(9,.ptr 30003 0),(10,.ptr 30004 0),(12,.ptr 30006 0),(57,.own 30007),(58,jI p),(59,jI q),(67,.own 30008),(68,jI s),(69,jI t),(70,.p (.bool u))],[(30000,.box 28 [jI v,.p (.int .u64 a),.sl 1 (rowsOf (encI .u8) b),.sl 4 (rowsOf encT28 c)]),(30001,.box 28 [jI w,.p (.int .u64 d),.own 30002,.sl 4 (rowsOf encT28 e)]),(30002,.row false 1 5 (rowsOf (encI .u8) x)),(30003,.box 28 [jI y,.p (.int .u64 f),.sl 1 (rowsOf (encI .u8) g),.sl 4 (rowsOf encT28 h)]),(30004,.box 28 [jI z,.p (.int .u64 i),.sl 1 (rowsOf (encI .u8) j),.own 30005]),(30005,.row false 4 28 (rowsOf encT28 n)),(30006,.box 28 [jI aa,.p (.int .u64 l),.sl 1 (rowsOf (encI .u8) m),.sl 4 (rowsOf encT28 o)]),(30007,.row true 4 28 (rowsOf encT28 ab)),(30008,.row true 4 28 (rowsOf encT28 ac))]⟩:St)=some r.st:=by
 unfold f4_l4_j3 at hF
 cases hF
 simp (disch:=first|apply D;decide|apply K;kernel_rfl) only [E,EE,↓reduceIte,simprocAttr,rg B4 [2,2,2,1,2,2,1,2,2,2,2,2,2,2] 19 false rfl,hr 4 19 rfl,R4_l4.st]
noncomputable def f4_l4_j1 (k:Nat) (w l:Int) (az:Bool) (o a:Int) (b:List Int) (c:List T28) (p d:Int) (e:List T28) (q:List Int) (s f:Int) (g:List Int) (h:List T28) (t i:Int) (j:List Int) (u m:List T28):Option R4_l4 :=
 ifE ((0:Int)≤l) (
  ifE (l<((List.length m):Int)) (
   Option.bind (m[(Int.toNat l)]?) fun v =>
    Option.bind (f4_l4_l2 k k w l 4 0 o a b c p d e q s f g h t i j u v.Kind v.Num v.Bytes v.Items m (([(T28.mk o a b c),(T28.mk p d q e),(T28.mk s f g h),(T28.mk t i j u)]:List T28))) fun o7 =>
     match o7 with
     | .o0 x =>
      some (.o0 x)
     | .o1 _ _ _ _ _ _ _ _ _ _ _ _ _ _ _ _ _ _ _ _ _ _ _ _ _ _ =>
      none
     | .o2 y z r n aa ab ac ad ae af ag ah ai aj ak al am an ao ap aq ar au av aw ax ay =>
      f4_l4_j3 k y z r n aa ab ac ad ae af ag ah ai aj ak al am an ao ap aq ar au av aw ax ay))
theorem f4_l4_j1_ok (k u v y l a b c m d e o p f g h q i j s w r) (t:f4_l4_j1 k u v y l a b c m d e o p f g h q i j s w=some r):EX 4 k (nav B4 [2,2,1,2,2,1,2,2,2,2,2,2,2]) (⟨82,[(7,.ptr 30000 0),(8,.ptr 30001 0),(9,.ptr 30003 0),(10,.ptr 30004 0),(57,.own 30006),(58,jI u),(59,jI v),(60,.p (.bool y))],[(30000,.box 28 [jI l,.p (.int .u64 a),.sl 1 (rowsOf (encI .u8) b),.sl 4 (rowsOf encT28 c)]),(30001,.box 28 [jI m,.p (.int .u64 d),.own 30002,.sl 4 (rowsOf encT28 e)]),(30002,.row false 1 5 (rowsOf (encI .u8) o)),(30003,.box 28 [jI p,.p (.int .u64 f),.sl 1 (rowsOf (encI .u8) g),.sl 4 (rowsOf encT28 h)]),(30004,.box 28 [jI q,.p (.int .u64 i),.sl 1 (rowsOf (encI .u8) j),.own 30005]),(30005,.row false 4 28 (rowsOf encT28 s)),(30006,.row true 4 28 (rowsOf encT28 w))]⟩:St)=some r.st:=by
 unfold f4_l4_j1 at t
 obtain ⟨z,t⟩:=ifE_some.1 t
 obtain ⟨n,t⟩:=ifE_some.1 t
 obtain ⟨v3,h4,t⟩:=bs t
 have q5:[[jI l,.p (.int .u64 a),.sl 1 (rowsOf (encI .u8) b),.sl 4 (rowsOf encT28 c)],[jI m,.p (.int .u64 d),.sl 1 (rowsOf (encI .u8) o),.sl 4 (rowsOf encT28 e)],[jI p,.p (.int .u64 f),.sl 1 (rowsOf (encI .u8) g),.sl 4 (rowsOf encT28 h)],[jI q,.p (.int .u64 i),.sl 1 (rowsOf (encI .u8) j),.sl 4 (rowsOf encT28 s)]]=rowsOf encT28 ([(T28.mk l a b c),(T28.mk m d o e),(T28.mk p f g h),(T28.mk q i j s)]:List T28):=by first | rfl | simp only [rowsOf,List.map_cons,List.map_nil,encT28_eq]
 have q6:List.map (tell [0,0,1,4]) (rowsOf encT28 ([(T28.mk l a b c),(T28.mk m d o e),(T28.mk p f g h),(T28.mk q i j s)]:List T28))=rowsOf encT28 ([(T28.mk l a b c),(T28.mk m d o e),(T28.mk p f g h),(T28.mk q i j s)]:List T28):=by first | rfl | simp only [rowsOf,List.map_cons,List.map_nil,encT28_eq]
 obtain ⟨o7,h8,t⟩:=bs t
 have x:=f4_l4_l2_ok k k u v 4 0 l a b c m d e o p f g h q i j s v3.Kind v3.Num v3.Bytes v3.Items w (([(T28.mk l a b c),(T28.mk m d o e),(T28.mk p f g h),(T28.mk q i j s)]:List T28)) _ h8
 simp (disch:=first|apply D;decide|apply K;kernel_rfl) only [E,EE,↓reduceIte,simprocAttr,xk B4 [2,2,1,2,2,1,2,2,2,2,2,2,2] .sq rfl,xk B4 [1,2,2,1,2,2,1,2,2,2,2,2,2,2] (.bk 1) rfl,xk B4 [2,1,2,2,1,2,2,1,2,2,2,2,2,2,2] .sq rfl,rg B4 [1,2,1,2,2,1,2,2,1,2,2,2,2,2,2,2] 12 false rfl,hr 4 12 rfl,indexAddrV,t_26,t_28,encT28_eq,xk B4 [2,2,1,2,2,1,2,2,1,2,2,2,2,2,2,2] .sq rfl,rg B4 [1,2,2,1,2,2,1,2,2,1,2,2,2,2,2,2,2] 13 false rfl,hr 4 13 rfl,buildSliceV,raw_,cond_false,cond_true,fillRows,sm_28,xk B4 [2,2,2,1,2,2,1,2,2,1,2,2,2,2,2,2,2] (.bk 2) rfl,xk B4 [2,2,2,2,1,2,2,1,2,2,1,2,2,2,2,2,2,2] .lp rfl,hh_4_14,hc_4_14,z,n,h4,q5,q6]
 (try simp only [NM,EE] at x)
 rw [x _ (by simp (disch:=first|apply D;decide|apply K;kernel_rfl) only [E,EE,↓reduceIte,simprocAttr,hh_4_14,hc_4_14,z,n,h4,q5,q6])]
 clear x
 cases o7 with
 | o0 a8 =>
  (try dsimp only at t)
  cases t
  simp (disch:=first|apply D;decide|apply K;kernel_rfl) only [E,EE,↓reduceIte,simprocAttr,R4_l4_l2.st,R4_l4.st,z,n,h4,q5,q6]
 | o1 _ _ _ _ _ _ _ _ _ _ _ _ _ _ _ _ _ _ _ _ _ _ _ _ _ _ =>
  (try dsimp only at t)
  cases t
 | o2 ae af ag ah ai aj ak al am an ao ap aq ar au av aw ax ay az a0 a1 a2 a3 a4 a5 a6 =>
  (try dsimp only at t)
  have hJ:=f4_l4_j3_ok k ae af ag ah ai aj ak al am an ao ap aq ar au av aw ax ay az a0 a1 a2 a3 a4 a5 a6 _ t
  simp (disch:=first|apply D;decide|apply K;kernel_rfl) only [E,EE,↓reduceIte,simprocAttr,R4_l4_l2.st,z,n,h4,q5,q6]
  try simp only [NM,EE] at hJ
  exact hJ
noncomputable def f4_l4_b (k:Nat) (l m o a:Int) (b:List Int) (c:List T28) (p d:Int) (e:List T28) (q:List Int) (s f:Int) (g:List Int) (h:List T28) (t i:Int) (j:List Int) (u v:List T28):Option R4_l4 :=
 cond ((decide (m<l)))
  (f4_l4_j1 k l m true o a b c p d e q s f g h t i j u v)
  (some (.o2 l m false o a b c p d e q s f g h t i j u v))
theorem f4_l4_b_ok (k l m o a b c p d e q s f g h t i j u v r) (w:f4_l4_b k l m o a b c p d e q s f g h t i j u v=some r):EX 4 k (nav B4 [1,2,2,1,2,2,2,2,2,2,2]) (⟨82,[(7,.ptr 30000 0),(8,.ptr 30001 0),(9,.ptr 30003 0),(10,.ptr 30004 0),(57,.own 30006),(58,jI l),(59,jI m)],[(30000,.box 28 [jI o,.p (.int .u64 a),.sl 1 (rowsOf (encI .u8) b),.sl 4 (rowsOf encT28 c)]),(30001,.box 28 [jI p,.p (.int .u64 d),.own 30002,.sl 4 (rowsOf encT28 e)]),(30002,.row false 1 5 (rowsOf (encI .u8) q)),(30003,.box 28 [jI s,.p (.int .u64 f),.sl 1 (rowsOf (encI .u8) g),.sl 4 (rowsOf encT28 h)]),(30004,.box 28 [jI t,.p (.int .u64 i),.sl 1 (rowsOf (encI .u8) j),.own 30005]),(30005,.row false 4 28 (rowsOf encT28 u)),(30006,.row true 4 28 (rowsOf encT28 v))]⟩:St)=some r.st:=by
 unfold f4_l4_b at w
 simp (disch:=first|apply D;decide|apply K;kernel_rfl) only [E,EE,↓reduceIte,simprocAttr,xk B4 [1,2,2,1,2,2,2,2,2,2,2] .sq rfl,rg B4 [1,1,2,2,1,2,2,2,2,2,2,2] 11 false rfl,hr 4 11 rfl,xk B4 [2,1,2,2,1,2,2,2,2,2,2,2] .sq rfl,xk B4 [1,2,1,2,2,1,2,2,2,2,2,2,2] (.cd 60) rfl]
 rcases cond_some w with ⟨x,w⟩ | ⟨x,w⟩
 ·have hJ:=f4_l4_j1_ok k l m true o a b c p d e q s f g h t i j u v _ w
  simp (disch:=first|apply D;decide|apply K;kernel_rfl) only [E,EE,↓reduceIte,simprocAttr,xk B4 [2,1,2,1,2,2,1,2,2,2,2,2,2,2] .sk rfl,x]
  try simp only [NM,EE] at hJ
  exact hJ
 ·cases w
  simp (disch:=first|apply D;decide|apply K;kernel_rfl) only [E,EE,↓reduceIte,simprocAttr,xk B4 [3,1,2,1,2,2,1,2,2,2,2,2,2,2] (.ex 0) rfl,R4_l4.st,x]
noncomputable def f4_l4 (k:Nat):Nat→Int→Int→Int→Int→(List Int)→(List T28)→Int→Int→(List T28)→(List Int)→Int→Int→(List Int)→(List T28)→Int→Int→(List Int)→(List T28)→(List T28)→Option R4_l4
 | 0,_,_,_,_,_,_,_,_,_,_,_,_,_,_,_,_,_,_,_=>none
 | n+1,ah,ai,aj,j,l,m,ak,p,q,al,am,s,t,u,an,v,w,ao,ap=>Option.bind (f4_l4_b k ah ai aj j l m ak p q al am s t u an v w ao ap) fun o =>
  match o with
  | .o0 y=>some (.o0 y)
  | .o1 y x z r aa ab ac ad ae af a b c d e f g h i=>f4_l4 k n y x z r aa ab ac ad ae af a b c d e f g h i
  | .o2 y x z r aa ab ac ad ae af a b c d e f g h i ag=>some (.o2 y x z r aa ab ac ad ae af a b c d e f g h i ag)
theorem f4_l4_ok (k n:Nat):∀ (m p q a:Int) (b:List Int) (c:List T28) (s d:Int) (e:List T28) (t:List Int) (u f:Int) (g:List Int) (i:List T28) (v j:Int) (l:List Int) (w x:List T28) (r:R4_l4) (z:f4_l4 k n m p q a b c s d e t u f g i v j l w x=some r) (σ:St) (hσ:headR (hints.head 4 11) (hints.canon 4 11) σ=some (⟨82,[(7,.ptr 30000 0),(8,.ptr 30001 0),(9,.ptr 30003 0),(10,.ptr 30004 0),(57,.own 30006),(58,jI m),(59,jI p)],[(30000,.box 28 [jI q,.p (.int .u64 a),.sl 1 (rowsOf (encI .u8) b),.sl 4 (rowsOf encT28 c)]),(30001,.box 28 [jI s,.p (.int .u64 d),.own 30002,.sl 4 (rowsOf encT28 e)]),(30002,.row false 1 5 (rowsOf (encI .u8) t)),(30003,.box 28 [jI u,.p (.int .u64 f),.sl 1 (rowsOf (encI .u8) g),.sl 4 (rowsOf encT28 i)]),(30004,.box 28 [jI v,.p (.int .u64 j),.sl 1 (rowsOf (encI .u8) l),.own 30005]),(30005,.row false 4 28 (rowsOf encT28 w)),(30006,.row true 4 28 (rowsOf encT28 x))]⟩:St)),LP 4 k (nav B4 [1,2,2,1,2,2,2,2,2,2,2]) n σ=some r.st:=by
 induction n with
 | zero=>intro m p q a b c s d e t u f g i v j l w x r z;cases z
 | succ n ih =>
  intro m p q a b c s d e t u f g i v j l w x r z σ hσ
  rw [f4_l4] at z
  obtain ⟨o,h,z⟩:=Option.bind_eq_some_iff.1 z
  have hB:=f4_l4_b_ok k m p q a b c s d e t u f g i v j l w x o h
  unfold LP at ih ⊢
  unfold EX at hB
  rw [loopK_succ,show firstReg (nav B4 [1,2,2,1,2,2,2,2,2,2,2])=11 from rfl,hσ,headK_some,hB]
  cases o with
  | o0 y=>cases z;rfl
  | o1 y aj ak al am an ao ap aq ar aa ab ac ad ae af ag ah ai =>
   refine ih y aj ak al am an ao ap aq ar aa ab ac ad ae af ag ah ai r z _ ?_
   simp (disch:=first|apply D;decide|apply K;kernel_rfl) only [E,EE,↓reduceIte,simprocAttr,hh_4_11,hc_4_11]
  | o2 y aj ak al am an ao ap aq ar aa ab ac ad ae af ag ah ai av=>cases z;rfl
noncomputable def f4_j5 (k:Nat) (l m:Int) (o:Bool) (p a:Int) (b:List Int) (c:List T28) (q d:Int) (e:List T28) (s:List Int) (t f:Int) (g:List Int) (h:List T28) (u i:Int) (j:List Int) (v w:List T28):Option R4 :=
 some (.o0 true)
theorem f4_j5_ok (k l m o p a b c q d e s t f g h u i j v w r) (x:f4_j5 k l m o p a b c q d e s t f g h u i j v w=some r):finK Tryd.prog Tryd.f4 0 (EX 4 k (nav B4 [2,2,2,2,2,2,2,2]) (⟨82,[(7,.ptr 30000 0),(8,.ptr 30001 0),(9,.ptr 30003 0),(10,.ptr 30004 0),(57,.own 30006),(58,jI l),(59,jI m),(60,.p (.bool o))],[(30000,.box 28 [jI p,.p (.int .u64 a),.sl 1 (rowsOf (encI .u8) b),.sl 4 (rowsOf encT28 c)]),(30001,.box 28 [jI q,.p (.int .u64 d),.own 30002,.sl 4 (rowsOf encT28 e)]),(30002,.row false 1 5 (rowsOf (encI .u8) s)),(30003,.box 28 [jI t,.p (.int .u64 f),.sl 1 (rowsOf (encI .u8) g),.sl 4 (rowsOf encT28 h)]),(30004,.box 28 [jI u,.p (.int .u64 i),.sl 1 (rowsOf (encI .u8) j),.own 30005]),(30005,.row false 4 28 (rowsOf encT28 v)),(30006,.row true 4 28 (rowsOf encT28 w))]⟩:St))=some r.st:=by
 unfold f4_j5 at x
 cases x
 simp (disch:=first|apply D;decide|apply K;kernel_rfl) only [E,EE,↓reduceIte,simprocAttr,xk B4 [2,2,2,2,2,2,2,2] .sq rfl,rg B4 [1,2,2,2,2,2,2,2,2] 20 false rfl,hr 4 20 rfl,xk B4 [2,2,2,2,2,2,2,2,2] .rt rfl,fin4,R4.st]
noncomputable def f4_j3 (k:Nat) (ai:Bool) (m7 c:Int) (d:List Int) (e:List T28) (m8 f:Int) (g:List T28) (l:List Int) (m9 h:Int) (i:List Int) (j:List T28) (m a:Int) (b:List Int) (o:List T28):Option R4 :=
 Option.bind (f4_l4 k k 4 0 m7 c d e m8 f g l m9 h i j m a b o (([(T28.mk m7 c d e),(T28.mk m8 f l g),(T28.mk m9 h i j),(T28.mk m a b o)]:List T28))) fun o3 =>
  match o3 with
  | .o0 v6 =>
   some (.o0 v6)
  | .o1 _ _ _ _ _ _ _ _ _ _ _ _ _ _ _ _ _ _ _ =>
   none
  | .o2 v7 v8 v9 p q s t u v w x y z r n aa ab ac ad ae =>
   f4_j5 k v7 v8 v9 p q s t u v w x y z r n aa ab ac ad ae
theorem f4_j3_ok (k v q c d e s f g l t h i j m a b o r) (p:f4_j3 k v q c d e s f g l t h i j m a b o=some r):finK Tryd.prog Tryd.f4 0 (EX 4 k (nav B4 [2,2,2,2,2,2,2]) (⟨82,[(7,.ptr 7 0),(8,.ptr 8 0),(9,.ptr 9 0),(10,.ptr 10 0),(52,.p (.bool v))],[(7,.box 28 [jI q,.p (.int .u64 c),.sl 1 (rowsOf (encI .u8) d),.sl 4 (rowsOf encT28 e)]),(8,.box 28 [jI s,.p (.int .u64 f),.own 23,.sl 4 (rowsOf encT28 g)]),(23,.row false 1 5 (rowsOf (encI .u8) l)),(9,.box 28 [jI t,.p (.int .u64 h),.sl 1 (rowsOf (encI .u8) i),.sl 4 (rowsOf encT28 j)]),(10,.box 28 [jI m,.p (.int .u64 a),.sl 1 (rowsOf (encI .u8) b),.own 30]),(30,.row true 4 28 (rowsOf encT28 o))]⟩:St))=some r.st:=by
 unfold f4_j3 at p
 have w:[[jI q,.p (.int .u64 c),.sl 1 (rowsOf (encI .u8) d),.sl 4 (rowsOf encT28 e)],[jI s,.p (.int .u64 f),.sl 1 (rowsOf (encI .u8) l),.sl 4 (rowsOf encT28 g)],[jI t,.p (.int .u64 h),.sl 1 (rowsOf (encI .u8) i),.sl 4 (rowsOf encT28 j)],[jI m,.p (.int .u64 a),.sl 1 (rowsOf (encI .u8) b),.sl 4 (rowsOf encT28 o)]]=rowsOf encT28 ([(T28.mk q c d e),(T28.mk s f l g),(T28.mk t h i j),(T28.mk m a b o)]:List T28):=by first | rfl | simp only [rowsOf,List.map_cons,List.map_nil,encT28_eq]
 have x:List.map (tell [0,0,1,4]) (rowsOf encT28 ([(T28.mk q c d e),(T28.mk s f l g),(T28.mk t h i j),(T28.mk m a b o)]:List T28))=rowsOf encT28 ([(T28.mk q c d e),(T28.mk s f l g),(T28.mk t h i j),(T28.mk m a b o)]:List T28):=by first | rfl | simp only [rowsOf,List.map_cons,List.map_nil,encT28_eq]
 obtain ⟨o3,h4,p⟩:=bs p
 have u:=f4_l4_ok k k 4 0 q c d e s f g l t h i j m a b o (([(T28.mk q c d e),(T28.mk s f l g),(T28.mk t h i j),(T28.mk m a b o)]:List T28)) _ h4
 simp (disch:=first|apply D;decide|apply K;kernel_rfl) only [E,EE,↓reduceIte,simprocAttr,xk B4 [2,2,2,2,2,2,2] .sq rfl,xk B4 [1,2,2,2,2,2,2,2] .sq rfl,rg B4 [1,1,2,2,2,2,2,2,2] 10 false rfl,hr 4 10 rfl,t_28,buildSliceV,raw_,cond_false,cond_true,fillRows,sm_28,t_26,xk B4 [2,1,2,2,2,2,2,2,2] (.bk 0) rfl,xk B4 [2,2,1,2,2,2,2,2,2,2] .lp rfl,hh_4_11,hc_4_11,w,x]
 (try simp only [NM,EE] at u)
 rw [u _ (by simp (disch:=first|apply D;decide|apply K;kernel_rfl) only [E,EE,↓reduceIte,simprocAttr,hh_4_11,hc_4_11,w,x])]
 clear u
 cases o3 with
 | o0 v6 =>
  (try dsimp only at p)
  cases p
  simp (disch:=first|apply D;decide|apply K;kernel_rfl) only [E,EE,↓reduceIte,simprocAttr,R4_l4.st,fin4,R4.st,w,x]
 | o1 _ _ _ _ _ _ _ _ _ _ _ _ _ _ _ _ _ _ _ =>
  (try dsimp only at p)
  cases p
 | o2 v7 v8 v9 y z n aa ab ac ad ae af ag ah ai aj ak al am an =>
  (try dsimp only at p)
  have hJ:=f4_j5_ok k v7 v8 v9 y z n aa ab ac ad ae af ag ah ai aj ak al am an _ p
  simp (disch:=first|apply D;decide|apply K;kernel_rfl) only [E,EE,↓reduceIte,simprocAttr,R4_l4.st,w,x]
  try simp only [NM,EE] at hJ
  exact hJ
noncomputable def f4_j2 (k:Nat) (w:Int) (x:List Int) (y:List T49) (z:Bool):Option R4 :=
 Option.bind (f16 k w) fun o1 =>
  match o1 with
  | .o0 o p q s =>
   Option.bind (f17 k x) fun o8 =>
    match o8 with
    | .o0 a b c d =>
     Option.bind (f9 k y) fun o15 =>
      match o15 with
      | .o0 e f g h =>
       Option.bind (f18 k (([(T28.mk o p q s),(T28.mk a b d c),(T28.mk e f g h)]:List T28))) fun o24 =>
        match o24 with
        | .o0 i j l m =>
         Option.bind (f19a k o p q s 1 w) fun o31 =>
          match o31 with
          | .o0 t =>
           cond ((!t))
            (some (.o0 false))
            (
             Option.bind (f19c k a b d c 2 0 x) fun o36 =>
              match o36 with
              | .o0 u =>
               cond ((!u))
                (some (.o0 false))
                (
                 Option.bind (f19b k i j l m 4 0 (([(T28.mk o p q s),(T28.mk a b d c),(T28.mk e f g h)]:List T28))) fun o43 =>
                  match o43 with
                  | .o0 v =>
                   cond ((!v))
                    (some (.o0 false))
                    (f4_j3 k false o p q s a b c d e f g h i j l m)))
theorem f4_j2_ok (k x0 x1 x2 ad r) (a:f4_j2 k x0 x1 x2 ad=some r):finK Tryd.prog Tryd.f4 0 (EX 4 k (nav B4 [2,2,2]) (⟨82,[(0,.p (.int .u64 x0)),(1,.sl 1 (rowsOf (encI .u8) x1)),(2,.sl 6 (rowsOf encT49 x2)),(19,.p (.bool ad))],[]⟩:St))=some r.st:=by
 unfold f4_j2 at a
 obtain ⟨o1,h2,a⟩:=bs a
 have q:=f16_ok k x0 _ h2
 cases o1 with
 | o0 w x y z =>
  (try dsimp only at a)
  (try simp only [NM,EE,R16.st] at q)
  obtain ⟨o8,h9,a⟩:=bs a
  have b:=f17_ok k x1 _ h9
  cases o8 with
  | o0 f g h i =>
   (try dsimp only at a)
   (try simp only [NM,EE,R17.st] at b)
   obtain ⟨o15,al,a⟩:=bs a
   have c:=f9_ok k x2 _ al
   cases o15 with
   | o0 j l m o =>
    (try dsimp only at a)
    (try simp only [NM,EE,R9.st] at c)
    have s:[[jI w,.p (.int .u64 x),.sl 1 (rowsOf (encI .u8) y),.sl 4 (rowsOf encT28 z)],[jI f,.p (.int .u64 g),.sl 1 (rowsOf (encI .u8) i),.sl 4 (rowsOf encT28 h)],[jI j,.p (.int .u64 l),.sl 1 (rowsOf (encI .u8) m),.sl 4 (rowsOf encT28 o)]]=rowsOf encT28 ([(T28.mk w x y z),(T28.mk f g i h),(T28.mk j l m o)]:List T28):=by first | rfl | simp only [rowsOf,List.map_cons,List.map_nil,encT28_eq]
    have t:List.map (tell [0,0,1,4]) (rowsOf encT28 ([(T28.mk w x y z),(T28.mk f g i h),(T28.mk j l m o)]:List T28))=rowsOf encT28 ([(T28.mk w x y z),(T28.mk f g i h),(T28.mk j l m o)]:List T28):=by first | rfl | simp only [rowsOf,List.map_cons,List.map_nil,encT28_eq]
    obtain ⟨o24,am,a⟩:=bs a
    have d:=f18_ok k (([(T28.mk w x y z),(T28.mk f g i h),(T28.mk j l m o)]:List T28)) _ am
    cases o24 with
    | o0 ae af ag ah =>
     (try dsimp only at a)
     (try simp only [NM,EE,R18.st] at d)
     obtain ⟨o31,an,a⟩:=bs a
     have e:=f19a_ok k w x y z 1 x0 _ an
     cases o31 with
     | o0 au =>
      (try dsimp only at a)
      (try simp only [NM,EE,R19a.st] at e)
      simp (disch:=first|apply D;decide|apply K;kernel_rfl) only [E,EE,↓reduceIte,simprocAttr,xk B4 [2,2,2] .sq rfl,rg B4 [1,2,2,2] 5 false rfl,hr 4 5 rfl,callStep,CL,gv,List.contains,t_28,xk B4 [2,2,2,2] .sq rfl,rg B4 [1,2,2,2,2] 6 false rfl,hr 4 6 rfl,xk B4 [2,2,2,2,2] .sq rfl,rg B4 [1,2,2,2,2,2] 7 false rfl,hr 4 7 rfl,buildSliceV,raw_,cond_false,cond_true,fillRows,sm_28,t_26,xk B4 [2,2,2,2,2,2] .sq rfl,xk B4 [1,2,2,2,2,2,2] .sq rfl,rg B4 [1,1,2,2,2,2,2,2] 8 false rfl,hr 4 8 rfl,bl_28,q,b,c,s,t,d,e]
      rcases cond_some a with ⟨u,a⟩ | ⟨u,a⟩
      ·cases a
       simp (disch:=first|apply D;decide|apply K;kernel_rfl) only [E,EE,↓reduceIte,simprocAttr,xk B4 [2,1,2,2,2,2,2,2] (.cd 52) rfl,xk B4 [2,2,1,2,2,2,2,2,2] .sq rfl,rg B4 [1,2,2,1,2,2,2,2,2,2] 9 false rfl,hr 4 9 rfl,xk B4 [2,2,2,1,2,2,2,2,2,2] .rt rfl,fin4,R4.st,q,b,c,s,t,d,e,u]
      ·obtain ⟨o36,ao,a⟩:=bs a
       have p:=f19c_ok k f g i h 2 0 x1 _ ao
       cases o36 with
       | o0 av =>
        (try dsimp only at a)
        (try simp only [NM,EE,R19c.st] at p)
        simp (disch:=first|apply D;decide|apply K;kernel_rfl) only [E,EE,↓reduceIte,simprocAttr,t_28,bl_28,callStep,CL,gv,List.contains,q,b,c,s,t,d,e,u,p]
        rcases cond_some a with ⟨n,a⟩ | ⟨n,a⟩
        ·cases a
         simp (disch:=first|apply D;decide|apply K;kernel_rfl) only [E,EE,↓reduceIte,simprocAttr,xk B4 [2,1,2,2,2,2,2,2] (.cd 52) rfl,xk B4 [2,2,1,2,2,2,2,2,2] .sq rfl,rg B4 [1,2,2,1,2,2,2,2,2,2] 9 false rfl,hr 4 9 rfl,xk B4 [2,2,2,1,2,2,2,2,2,2] .rt rfl,fin4,R4.st,q,b,c,s,t,d,e,u,p,n]
        ·have aa:[[jI w,.p (.int .u64 x),.sl 1 (rowsOf (encI .u8) y),.sl 4 (rowsOf encT28 z)],[jI f,.p (.int .u64 g),.sl 1 (rowsOf (encI .u8) i),.sl 4 (rowsOf encT28 h)],[jI j,.p (.int .u64 l),.sl 1 (rowsOf (encI .u8) m),.sl 4 (rowsOf encT28 o)]]=rowsOf encT28 ([(T28.mk w x y z),(T28.mk f g i h),(T28.mk j l m o)]:List T28):=by first | rfl | simp only [rowsOf,List.map_cons,List.map_nil,encT28_eq]
         have ab:List.map (tell [0,0,1,4]) (rowsOf encT28 ([(T28.mk w x y z),(T28.mk f g i h),(T28.mk j l m o)]:List T28))=rowsOf encT28 ([(T28.mk w x y z),(T28.mk f g i h),(T28.mk j l m o)]:List T28):=by first | rfl | simp only [rowsOf,List.map_cons,List.map_nil,encT28_eq]
         obtain ⟨o43,ap,a⟩:=bs a
         have v:=f19b_ok k ae af ag ah 4 0 (([(T28.mk w x y z),(T28.mk f g i h),(T28.mk j l m o)]:List T28)) _ ap
         cases o43 with
         | o0 aw =>
          (try dsimp only at a)
          (try simp only [NM,EE,R19b.st] at v)
          simp (disch:=first|apply D;decide|apply K;kernel_rfl) only [E,EE,↓reduceIte,simprocAttr,t_28,buildSliceV,raw_,cond_false,cond_true,fillRows,sm_28,t_26,bl_28,callStep,CL,gv,List.contains,xk B4 [2,1,2,2,2,2,2,2] (.cd 52) rfl,q,b,c,s,t,d,e,u,p,n,aa,ab,v]
          rcases cond_some a with ⟨ac,a⟩ | ⟨ac,a⟩
          ·cases a
           simp (disch:=first|apply D;decide|apply K;kernel_rfl) only [E,EE,↓reduceIte,simprocAttr,xk B4 [2,2,1,2,2,2,2,2,2] .sq rfl,rg B4 [1,2,2,1,2,2,2,2,2,2] 9 false rfl,hr 4 9 rfl,xk B4 [2,2,2,1,2,2,2,2,2,2] .rt rfl,fin4,R4.st,q,b,c,s,t,d,e,u,p,n,aa,ab,v,ac]
          ·have hJ:=f4_j3_ok k false w x y z f g h i j l m o ae af ag ah _ a
           simp (disch:=first|apply D;decide|apply K;kernel_rfl) only [E,EE,↓reduceIte,simprocAttr,xk B4 [3,2,1,2,2,2,2,2,2] .sk rfl,q,b,c,s,t,d,e,u,p,n,aa,ab,v,ac]
           try simp only [NM,EE] at hJ
           exact hJ
noncomputable def f4_j1 (k:Nat) (b:Int) (a:List Int) (c:List T49) (d:Bool):Option R4 :=
 cond ((decide (((List.length a):Int)>50000)))
  (some (.o0 true))
  (f4_j2 k b a c false)
theorem f4_j1_ok (k c d e b r) (a:f4_j1 k c d e b=some r):finK Tryd.prog Tryd.f4 0 (EX 4 k (nav B4 [2,2]) (⟨82,[(0,.p (.int .u64 c)),(1,.sl 1 (rowsOf (encI .u8) d)),(2,.sl 6 (rowsOf encT49 e)),(16,.p (.bool b))],[]⟩:St))=some r.st:=by
 unfold f4_j1 at a
 simp (disch:=first|apply D;decide|apply K;kernel_rfl) only [E,EE,↓reduceIte,simprocAttr,xk B4 [2,2] .sq rfl,xk B4 [1,2,2] .sq rfl,rg B4 [1,1,2,2] 3 false rfl,hr 4 3 rfl,t_25,xk B4 [2,1,2,2] (.cd 19) rfl]
 rcases cond_some a with ⟨f,a⟩ | ⟨f,a⟩
 ·cases a
  simp (disch:=first|apply D;decide|apply K;kernel_rfl) only [E,EE,↓reduceIte,simprocAttr,xk B4 [2,2,1,2,2] .sq rfl,rg B4 [1,2,2,1,2,2] 4 false rfl,hr 4 4 rfl,xk B4 [2,2,2,1,2,2] .rt rfl,fin4,R4.st,f]
 ·have hJ:=f4_j2_ok k c d e false _ a
  simp (disch:=first|apply D;decide|apply K;kernel_rfl) only [E,EE,↓reduceIte,simprocAttr,xk B4 [3,2,1,2,2] .sk rfl,f]
  try simp only [NM,EE] at hJ
  exact hJ
noncomputable def f4_e (k:Nat) (a:Int) (b:List Int) (c:List T49):Option R4 :=
 Option.bind (f8 k) fun o1 =>
  match o1 with
  | .o0 d =>
   cond ((!d))
    (some (.o0 false))
    (f4_j1 k a b c false)
theorem f4_e_ok (k c d e r) (a:f4_e k c d e=some r):finK Tryd.prog Tryd.f4 0 (EX 4 k (nav B4 []) (⟨82,[(0,.p (.int .u64 c)),(1,.sl 1 (rowsOf (encI .u8) d)),(2,.sl 6 (rowsOf encT49 e))],[]⟩:St))=some r.st:=by
 unfold f4_e at a
 obtain ⟨o1,g,a⟩:=bs a
 have b:=f8_ok k _ g
 cases o1 with
 | o0 h =>
  (try dsimp only at a)
  (try simp only [NM,EE,R8.st] at b)
  simp (disch:=first|apply D;decide|apply K;kernel_rfl) only [E,EE,↓reduceIte,simprocAttr,xk B4 [] .sq rfl,rg B4 [1] 0 false rfl,hr 4 0 rfl,xk B4 [2] .sq rfl,xk B4 [1,2] .sq rfl,rg B4 [1,1,2] 1 false rfl,hr 4 1 rfl,callStep,CL,gv,List.contains,xk B4 [2,1,2] (.cd 16) rfl,b]
  rcases cond_some a with ⟨f,a⟩ | ⟨f,a⟩
  ·cases a
   simp (disch:=first|apply D;decide|apply K;kernel_rfl) only [E,EE,↓reduceIte,simprocAttr,xk B4 [2,2,1,2] .sq rfl,rg B4 [1,2,2,1,2] 2 false rfl,hr 4 2 rfl,xk B4 [2,2,2,1,2] .rt rfl,fin4,R4.st,b,f]
  ·have hJ:=f4_j1_ok k c d e false _ a
   simp (disch:=first|apply D;decide|apply K;kernel_rfl) only [E,EE,↓reduceIte,simprocAttr,xk B4 [3,2,1,2] .sk rfl,b,f]
   try simp only [NM,EE] at hJ
   exact hJ
noncomputable def f4 (k:Nat) (a:Int) (b:List Int) (c:List T49):Option R4:=match k with | 0=>none | k+1=>f4_e k a b c
theorem f4_ok (k a b d r) (e:f4 k a b d=some r):CV k 4 [.p (.int .u64 a),.sl 1 (rowsOf (encI .u8) b),.sl 6 (rowsOf encT49 d)] []=some r.st:=by
 cases k with
 | zero=>cases e
 | succ k =>
  unfold CV
  rw [ev_call (F:=Tryd.f4) (c:=(nav B4 [])) rfl Tryd.func4 rfl rfl rfl rfl]
  exact f4_e_ok k a b d r e
end Go.Proofs.YtlelaenalbkbmaaDoorV