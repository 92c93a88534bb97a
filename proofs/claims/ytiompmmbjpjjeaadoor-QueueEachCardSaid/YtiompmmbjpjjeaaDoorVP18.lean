/- What the program's functions answer: plain functions,and that the interpreter answers what they do. Written by a program of this session,out of the translation. -/
import Derived.Test.YtiompmmbjpjjeaaDoorVP17
namespace Go.Proofs.YtiompmmbjpjjeaaDoorV
open Go
set_option linter.unusedVariables false
set_option linter.unusedSimpArgs false
set_option maxRecDepth 8000
set_option maxHeartbeats 4000000
-- f6: f6 heliograph/heliographlaw20.QueueEach
inductive R6 where
 | o0 (y:Bool)
noncomputable def R6.st:R6→V×List O×List O
 | .o0 y=>(jT y,[],[])
inductive R6_l3 where
 | o0 (y:Bool)
 | o1 (y f g h i j:Int) (l:List T54) (m:List Int) (o:List T44) (p:List T47) (a:List T56) (b c:List T44) (d:List Int) (e:List (T44×Int))
 | o2 (y f:Int) (g:Bool) (h i j l:Int) (m:List T54) (o:List Int) (p:List T44) (a:List T47) (b:List T56) (c d:List T44) (e:List Int) (q:List (T44×Int))
noncomputable def R6_l3.st:R6_l3→Out×St
 | .o0 y=>(.ret,(⟨227,[(4,jT y)],[]⟩:St))
 | .o1 y f g h i j l m o p a b c d e=>(.norm,(⟨227,[(2,.ptr 30000 0),(3,.ptr 30004 0),(5,.ptr 30006 0),(7,V.mp 30011),(58,.own 30007),(59,jI y),(60,jI f)],[(30000,.box 28 [jI g,jI h,.own 30001,.own 30002,jI i,.own 30003,jI j]),(30001,.row false 6 54 (rowsOf encT54 l)),(30002,.row false 1 3 (rowsOf (encI .i64) m)),(30003,.row false 3 44 (rowsOf encT44 o)),(30004,.box 31 [.own 30005]),(30005,.row false 11 47 (rowsOf encT47 p)),(30006,.box 37 [.own 30007,.own 30008,.own 30009,.own 30010]),(30007,.row true 5 56 (rowsOf encT56 a)),(30008,.row true 3 44 (rowsOf encT44 b)),(30009,.row true 3 44 (rowsOf encT44 c)),(30010,.row true 1 3 (rowsOf (encI .i64) d)),(30011,O.mp 3 (mpC mk65 mv65 e))]⟩:St))
 | .o2 y f g h i j l m o p a b c d e q=>(.exit 0,(⟨227,[(2,.ptr 30000 0),(3,.ptr 30004 0),(5,.ptr 30006 0),(7,V.mp 30011),(58,.own 30007),(59,jI y),(60,jI f),(61,jT g)],[(30000,.box 28 [jI h,jI i,.own 30001,.own 30002,jI j,.own 30003,jI l]),(30001,.row false 6 54 (rowsOf encT54 m)),(30002,.row false 1 3 (rowsOf (encI .i64) o)),(30003,.row false 3 44 (rowsOf encT44 p)),(30004,.box 31 [.own 30005]),(30005,.row false 11 47 (rowsOf encT47 a)),(30006,.box 37 [.own 30007,.own 30008,.own 30009,.own 30010]),(30007,.row true 5 56 (rowsOf encT56 b)),(30008,.row true 3 44 (rowsOf encT44 c)),(30009,.row true 3 44 (rowsOf encT44 d)),(30010,.row true 1 3 (rowsOf (encI .i64) e)),(30011,O.mp 3 (mpC mk65 mv65 q))]⟩:St))
noncomputable def f6_l3_j2 (k:Nat) (f g:Int) (s:Bool) (h a b c:Int) (i:List T54) (j:List Int) (l:List T44) (m:List T47) (o:List T56) (p q:List T44) (d:List Int) (e:List (T44×Int)):Option R6_l3 :=
 some (.o1 f (IntKind.i64.wrap (g+(1:Int))) h a b c i j l m o p q d e)
theorem f6_l3_j2_ok (k g h d i a b c j l m o p q s e f r) (t:f6_l3_j2 k g h d i a b c j l m o p q s e f=some r):EX 6 k (nav B6 [2,2,2,1,2,2,1,2,2,2,2,2,2]) (⟨227,[(2,.ptr 30000 0),(3,.ptr 30004 0),(5,.ptr 30006 0),(7,V.mp 30011),(58,.own 30007),(59,jI g),(60,jI h),(103,jT d)],[(30000,.box 28 [jI i,jI a,.own 30001,.own 30002,jI b,.own 30003,jI c]),(30001,.row false 6 54 (rowsOf encT54 j)),(30002,.row false 1 3 (rowsOf (encI .i64) l)),(30003,.row false 3 44 (rowsOf encT44 m)),(30004,.box 31 [.own 30005]),(30005,.row false 11 47 (rowsOf encT47 o)),(30006,.box 37 [.own 30007,.own 30008,.own 30009,.own 30010]),(30007,.row true 5 56 (rowsOf encT56 p)),(30008,.row true 3 44 (rowsOf encT44 q)),(30009,.row true 3 44 (rowsOf encT44 s)),(30010,.row true 1 3 (rowsOf (encI .i64) e)),(30011,O.mp 3 (mpC mk65 mv65 f))]⟩:St)=some r.st:=by
 unfold f6_l3_j2 at t
 cases t
 simp only [W,simprocAttr,rg B6 [2,2,2,1,2,2,1,2,2,2,2,2,2] 15 false rfl,hr 6 15 rfl,R6_l3.st]
noncomputable def f6_l3_j1 (k:Nat) (m c:Int) (u:Bool) (i e a f:Int) (g:List T54) (o:List Int) (p:List T44) (q:List T47) (h:List T56) (s t:List T44) (j:List Int) (d:List (T44×Int)):Option R6_l3 :=
 ifE ((0:Int)≤c) (
  ifE (c<((List.length h):Int)) (
   Option.bind (h[(Int.toNat c)]?) fun b =>
    ifE ((0:Int)≤b.Contact) (
     ifE (b.Contact<((List.length g):Int)) (
      Option.bind (g[(Int.toNat b.Contact)]?) fun l =>
       cond ((l.From != i))
        (some (.o0 false))
        (
         cond ((l.To != b.To))
          (some (.o0 false))
          (
           cond ((decide (a<l.Start)))
            (some (.o0 false))
            (
             cond ((decide (a≥l.End)))
              (some (.o0 false))
              (f6_l3_j2 k m c false i e a f g o p q h s t j ((mput d (T44.mk b.Key_Source b.Key_Seq b.Key_Offset) ((IntKind.i64.wrap ((mget d (T44.mk b.Key_Source b.Key_Seq b.Key_Offset) 0)+(1:Int))))))))))))))
theorem f6_l3_j1_ok (k s t ad u b c d v w x y z n aa g f r) (a:f6_l3_j1 k s t ad u b c d v w x y z n aa g f=some r):EX 6 k (nav B6 [2,2,1,2,2,1,2,2,2,2,2,2]) (⟨227,[(2,.ptr 30000 0),(3,.ptr 30004 0),(5,.ptr 30006 0),(7,V.mp 30011),(58,.own 30007),(59,jI s),(60,jI t),(61,jT ad)],[(30000,.box 28 [jI u,jI b,.own 30001,.own 30002,jI c,.own 30003,jI d]),(30001,.row false 6 54 (rowsOf encT54 v)),(30002,.row false 1 3 (rowsOf (encI .i64) w)),(30003,.row false 3 44 (rowsOf encT44 x)),(30004,.box 31 [.own 30005]),(30005,.row false 11 47 (rowsOf encT47 y)),(30006,.box 37 [.own 30007,.own 30008,.own 30009,.own 30010]),(30007,.row true 5 56 (rowsOf encT56 z)),(30008,.row true 3 44 (rowsOf encT44 n)),(30009,.row true 3 44 (rowsOf encT44 aa)),(30010,.row true 1 3 (rowsOf (encI .i64) g)),(30011,O.mp 3 (mpC mk65 mv65 f))]⟩:St)=some r.st:=by
 unfold f6_l3_j1 at a
 obtain ⟨i,a⟩:=ifE_some.1 a
 obtain ⟨j,a⟩:=ifE_some.1 a
 obtain ⟨v3,l,a⟩:=bs a
 obtain ⟨m,a⟩:=ifE_some.1 a
 obtain ⟨o,a⟩:=ifE_some.1 a
 obtain ⟨v7,p,a⟩:=bs a
 simp (disch:=first|decide|apply K;kernel_rfl) only [W,simprocAttr,xk B6 [2,2,1,2,2,1,2,2,2,2,2,2] .sq rfl,xk B6 [1,2,2,1,2,2,1,2,2,2,2,2,2] (.bk 1) rfl,sr 6 10 B6 [2,1,2,2,1,2,2,1,2,2,2,2,2,2] rfl rfl rfl,indexAddrV,t_35,t_56,encT56_eq,xk B6 [2,2,1,2,2,1,2,2,1,2,2,2,2,2,2] .sq rfl,rg B6 [1,2,2,1,2,2,1,2,2,1,2,2,2,2,2,2] 11 true rfl,hr 6 11 rfl,fieldAddrV,t_44,lookup_mp,mpL65,mapEntry_mp,mpE65,entryStore_mp,mpS65,sr 6 12 B6 [2,2,2,1,2,2,1,2,2,1,2,2,2,2,2,2] rfl rfl rfl,t_28,t_24,t_22,t_3,t_54,encT54_eq,sr 6 13 B6 [2,2,2,2,1,2,2,1,2,2,1,2,2,2,2,2,2] rfl rfl rfl,i,j,l,m,o,p]
 rcases cond_some a with ⟨q,a⟩ | ⟨q,a⟩
 ·cases a
  simp (disch:=first|decide|apply K;kernel_rfl) only [W,simprocAttr,xk B6 [2,2,2,2,2,1,2,2,1,2,2,1,2,2,2,2,2,2] (.cd 103) rfl,sr 6 14 B6 [2,2,2,2,2,2,1,2,2,1,2,2,1,2,2,2,2,2,2] rfl rfl rfl,xk B6 [2,2,2,2,2,2,2,1,2,2,1,2,2,1,2,2,2,2,2,2] .rt rfl,R6_l3.st,i,j,l,m,o,p,q]
 ·simp (disch:=first|decide|apply K;kernel_rfl) only [W,simprocAttr,fieldAddrV,t_54,t_3,t_56,i,j,l,m,o,p,q]
  rcases cond_some a with ⟨e,a⟩ | ⟨e,a⟩
  ·cases a
   simp (disch:=first|decide|apply K;kernel_rfl) only [W,simprocAttr,xk B6 [2,2,2,2,2,1,2,2,1,2,2,1,2,2,2,2,2,2] (.cd 103) rfl,sr 6 14 B6 [2,2,2,2,2,2,1,2,2,1,2,2,1,2,2,2,2,2,2] rfl rfl rfl,xk B6 [2,2,2,2,2,2,2,1,2,2,1,2,2,1,2,2,2,2,2,2] .rt rfl,R6_l3.st,i,j,l,m,o,p,q,e]
  ·simp (disch:=first|decide|apply K;kernel_rfl) only [W,simprocAttr,fieldAddrV,t_28,t_3,t_54,i,j,l,m,o,p,q,e]
   rcases cond_some a with ⟨h,a⟩ | ⟨h,a⟩
   ·cases a
    simp (disch:=first|decide|apply K;kernel_rfl) only [W,simprocAttr,xk B6 [2,2,2,2,2,1,2,2,1,2,2,1,2,2,2,2,2,2] (.cd 103) rfl,sr 6 14 B6 [2,2,2,2,2,2,1,2,2,1,2,2,1,2,2,2,2,2,2] rfl rfl rfl,xk B6 [2,2,2,2,2,2,2,1,2,2,1,2,2,1,2,2,2,2,2,2] .rt rfl,R6_l3.st,i,j,l,m,o,p,q,e,h]
   ·simp (disch:=first|decide|apply K;kernel_rfl) only [W,simprocAttr,fieldAddrV,t_28,t_3,t_54,xk B6 [2,2,2,2,2,1,2,2,1,2,2,1,2,2,2,2,2,2] (.cd 103) rfl,i,j,l,m,o,p,q,e,h]
    rcases cond_some a with ⟨ab,a⟩ | ⟨ab,a⟩
    ·cases a
     simp (disch:=first|decide|apply K;kernel_rfl) only [W,simprocAttr,sr 6 14 B6 [2,2,2,2,2,2,1,2,2,1,2,2,1,2,2,2,2,2,2] rfl rfl rfl,xk B6 [2,2,2,2,2,2,2,1,2,2,1,2,2,1,2,2,2,2,2,2] .rt rfl,R6_l3.st,i,j,l,m,o,p,q,e,h,ab]
    ·have hJ:=f6_l3_j2_ok k s t false u b c d v w x y z n aa g ((mput f (T44.mk v3.Key_Source v3.Key_Seq v3.Key_Offset) ((IntKind.i64.wrap ((mget f (T44.mk v3.Key_Source v3.Key_Seq v3.Key_Offset) 0)+(1:Int)))))) _ a
     simp (disch:=first|decide|apply K;kernel_rfl) only [W,simprocAttr,xk B6 [3,2,2,2,2,2,1,2,2,1,2,2,1,2,2,2,2,2,2] .sk rfl,i,j,l,m,o,p,q,e,h,ab]
     try simp only [NM,EE] at hJ
     exact hJ
noncomputable def f6_l3_b (k:Nat) (f g h a b c:Int) (i:List T54) (j:List Int) (l:List T44) (m:List T47) (o:List T56) (p q:List T44) (d:List Int) (e:List (T44×Int)):Option R6_l3 :=
 cond ((decide (g<f)))
  (f6_l3_j1 k f g true h a b c i j l m o p q d e)
  (some (.o2 f g false h a b c i j l m o p q d e))
theorem f6_l3_b_ok (k f g h a b c i j l m o p q d e r) (s:f6_l3_b k f g h a b c i j l m o p q d e=some r):EX 6 k (nav B6 [1,2,2,1,2,2,2,2,2,2]) (⟨227,[(2,.ptr 30000 0),(3,.ptr 30004 0),(5,.ptr 30006 0),(7,V.mp 30011),(58,.own 30007),(59,jI f),(60,jI g)],[(30000,.box 28 [jI h,jI a,.own 30001,.own 30002,jI b,.own 30003,jI c]),(30001,.row false 6 54 (rowsOf encT54 i)),(30002,.row false 1 3 (rowsOf (encI .i64) j)),(30003,.row false 3 44 (rowsOf encT44 l)),(30004,.box 31 [.own 30005]),(30005,.row false 11 47 (rowsOf encT47 m)),(30006,.box 37 [.own 30007,.own 30008,.own 30009,.own 30010]),(30007,.row true 5 56 (rowsOf encT56 o)),(30008,.row true 3 44 (rowsOf encT44 p)),(30009,.row true 3 44 (rowsOf encT44 q)),(30010,.row true 1 3 (rowsOf (encI .i64) d)),(30011,O.mp 3 (mpC mk65 mv65 e))]⟩:St)=some r.st:=by
 unfold f6_l3_b at s
 simp only [W,simprocAttr,sr 6 9 B6 [1,2,2,1,2,2,2,2,2,2] rfl rfl rfl,xk B6 [2,1,2,2,1,2,2,2,2,2,2] .sq rfl,xk B6 [1,2,1,2,2,1,2,2,2,2,2,2] (.cd 61) rfl]
 rcases cond_some s with ⟨t,s⟩ | ⟨t,s⟩
 ·have hJ:=f6_l3_j1_ok k f g true h a b c i j l m o p q d e _ s
  simp only [W,simprocAttr,xk B6 [2,1,2,1,2,2,1,2,2,2,2,2,2] .sk rfl,t]
  try simp only [NM,EE] at hJ
  exact hJ
 ·cases s
  simp only [W,simprocAttr,xk B6 [3,1,2,1,2,2,1,2,2,2,2,2,2] (.ex 0) rfl,R6_l3.st,t]
noncomputable def f6_l3 (k:Nat):Nat→Int→Int→Int→Int→Int→Int→(List T54)→(List Int)→(List T44)→(List T47)→(List T56)→(List T44)→(List T44)→(List Int)→(List (T44×Int))→Option R6_l3
 | 0,_,_,_,_,_,_,_,_,_,_,_,_,_,_,_=>none
 | n+1,z,r,aa,f,g,h,ab,ac,ad,ae,af,ag,ah,v,w=>Option.bind (f6_l3_b k z r aa f g h ab ac ad ae af ag ah v w) fun o =>
  match o with
  | .o0 y=>some (.o0 y)
  | .o1 y i j l m p q s t u a b c d e=>f6_l3 k n y i j l m p q s t u a b c d e
  | .o2 y i j l m p q s t u a b c d e x=>some (.o2 y i j l m p q s t u a b c d e x)
theorem f6_l3_ok (k n:Nat):∀ (f g i a b c:Int) (j:List T54) (l:List Int) (m:List T44) (p:List T47) (q:List T56) (s t:List T44) (d:List Int) (e:List (T44×Int)) (r:R6_l3) (u:f6_l3 k n f g i a b c j l m p q s t d e=some r) (σ:St) (hσ:headR (hints.head 6 9) (hints.canon 6 9) σ=some (⟨227,[(2,.ptr 30000 0),(3,.ptr 30004 0),(5,.ptr 30006 0),(7,V.mp 30011),(58,.own 30007),(59,jI f),(60,jI g)],[(30000,.box 28 [jI i,jI a,.own 30001,.own 30002,jI b,.own 30003,jI c]),(30001,.row false 6 54 (rowsOf encT54 j)),(30002,.row false 1 3 (rowsOf (encI .i64) l)),(30003,.row false 3 44 (rowsOf encT44 m)),(30004,.box 31 [.own 30005]),(30005,.row false 11 47 (rowsOf encT47 p)),(30006,.box 37 [.own 30007,.own 30008,.own 30009,.own 30010]),(30007,.row true 5 56 (rowsOf encT56 q)),(30008,.row true 3 44 (rowsOf encT44 s)),(30009,.row true 3 44 (rowsOf encT44 t)),(30010,.row true 1 3 (rowsOf (encI .i64) d)),(30011,O.mp 3 (mpC mk65 mv65 e))]⟩:St)),LP 6 k (nav B6 [1,2,2,1,2,2,2,2,2,2]) n σ=some r.st:=by
 induction n with
 | zero=>intro f g i a b c j l m p q s t d e r u;cases u
 | succ n ih =>
  intro f g i a b c j l m p q s t d e r u σ hσ
  rw [f6_l3] at u
  obtain ⟨o,h,u⟩:=Option.bind_eq_some_iff.1 u
  have hB:=f6_l3_b_ok k f g i a b c j l m p q s t d e o h
  unfold LP at ih ⊢
  unfold EX at hB
  rw [loopK_succ,show firstReg (nav B6 [1,2,2,1,2,2,2,2,2,2])=9 from rfl,hσ,headK_some,hB]
  cases o with
  | o0 y=>cases u;rfl
  | o1 y ab ac ad ae af ag ah ai aj v w x z aa =>
   refine ih y ab ac ad ae af ag ah ai aj v w x z aa r u _ ?_
   simp only [W,simprocAttr,hh_6_9,hc_6_9]
  | o2 y ab ac ad ae af ag ah ai aj v w x z aa al=>cases u;rfl
inductive R6_l5 where
 | o0 (y g h i j l:Int) (m:List T54) (o:List Int) (p:List T44) (q:List T47) (a:List T56) (b c:List T44) (d:List Int) (e:List (T44×Int)) (f:List T44)
 | o1 (y g:Int) (h:Bool) (i j l m:Int) (o:List T54) (p:List Int) (q:List T44) (a:List T47) (b:List T56) (c d:List T44) (e:List Int) (f:List (T44×Int)) (s:List T44)
noncomputable def R6_l5.st:R6_l5→Out×St
 | .o0 y g h i j l m o p q a b c d e f=>(.norm,(⟨227,[(2,.ptr 30000 0),(3,.ptr 30004 0),(5,.ptr 30006 0),(7,V.mp 30011),(111,.own 30012),(112,jI y),(113,jI g)],[(30000,.box 28 [jI h,jI i,.own 30001,.own 30002,jI j,.own 30003,jI l]),(30001,.row false 6 54 (rowsOf encT54 m)),(30002,.row false 1 3 (rowsOf (encI .i64) o)),(30003,.row false 3 44 (rowsOf encT44 p)),(30004,.box 31 [.own 30005]),(30005,.row false 11 47 (rowsOf encT47 q)),(30006,.box 37 [.own 30007,.own 30008,.own 30009,.own 30010]),(30007,.row true 5 56 (rowsOf encT56 a)),(30008,.row true 3 44 (rowsOf encT44 b)),(30009,.row true 3 44 (rowsOf encT44 c)),(30010,.row true 1 3 (rowsOf (encI .i64) d)),(30011,O.mp 3 (mpC mk65 mv65 e)),(30012,.row true 3 44 (rowsOf encT44 f))]⟩:St))
 | .o1 y g h i j l m o p q a b c d e f s=>(.exit 2,(⟨227,[(2,.ptr 30000 0),(3,.ptr 30004 0),(5,.ptr 30006 0),(7,V.mp 30011),(111,.own 30012),(112,jI y),(113,jI g),(114,jT h)],[(30000,.box 28 [jI i,jI j,.own 30001,.own 30002,jI l,.own 30003,jI m]),(30001,.row false 6 54 (rowsOf encT54 o)),(30002,.row false 1 3 (rowsOf (encI .i64) p)),(30003,.row false 3 44 (rowsOf encT44 q)),(30004,.box 31 [.own 30005]),(30005,.row false 11 47 (rowsOf encT47 a)),(30006,.box 37 [.own 30007,.own 30008,.own 30009,.own 30010]),(30007,.row true 5 56 (rowsOf encT56 b)),(30008,.row true 3 44 (rowsOf encT44 c)),(30009,.row true 3 44 (rowsOf encT44 d)),(30010,.row true 1 3 (rowsOf (encI .i64) e)),(30011,O.mp 3 (mpC mk65 mv65 f)),(30012,.row true 3 44 (rowsOf encT44 s))]⟩:St))
noncomputable def f6_l5_j2 (k:Nat) (d e i a b c:Int) (j:List T54) (l:List Int) (m:List T44) (o:List T47) (p:List T56) (q s:List T44) (f:List Int) (g:List (T44×Int)) (h:List T44):Option R6_l5 :=
 some (.o0 d (IntKind.i64.wrap (e+(1:Int))) i a b c j l m o p q s f g h)
theorem f6_l5_j2_ok (k d e i a b c j l m o p q s f g h r) (t:f6_l5_j2 k d e i a b c j l m o p q s f g h=some r):EX 6 k (nav B6 [2,2,2,1,2,2,1,2,2,2,2,2,2,2]) (⟨227,[(2,.ptr 30000 0),(3,.ptr 30004 0),(5,.ptr 30006 0),(7,V.mp 30011),(111,.own 30012),(112,jI d),(113,jI e)],[(30000,.box 28 [jI i,jI a,.own 30001,.own 30002,jI b,.own 30003,jI c]),(30001,.row false 6 54 (rowsOf encT54 j)),(30002,.row false 1 3 (rowsOf (encI .i64) l)),(30003,.row false 3 44 (rowsOf encT44 m)),(30004,.box 31 [.own 30005]),(30005,.row false 11 47 (rowsOf encT47 o)),(30006,.box 37 [.own 30007,.own 30008,.own 30009,.own 30010]),(30007,.row true 5 56 (rowsOf encT56 p)),(30008,.row true 3 44 (rowsOf encT44 q)),(30009,.row true 3 44 (rowsOf encT44 s)),(30010,.row true 1 3 (rowsOf (encI .i64) f)),(30011,O.mp 3 (mpC mk65 mv65 g)),(30012,.row true 3 44 (rowsOf encT44 h))]⟩:St)=some r.st:=by
 unfold f6_l5_j2 at t
 cases t
 simp only [W,simprocAttr,rg B6 [2,2,2,1,2,2,1,2,2,2,2,2,2,2] 20 false rfl,hr 6 20 rfl,R6_l5.st]
noncomputable def f6_l5_j1 (k:Nat) (h a:Int) (u:Bool) (j d e f:Int) (l:List T54) (m:List Int) (o:List T44) (p:List T47) (q:List T56) (s t:List T44) (i:List Int) (c:List (T44×Int)) (b:List T44):Option R6_l5 :=
 ifE ((0:Int)≤a) (
  ifE (a<((List.length b):Int)) (
   Option.bind (b[(Int.toNat a)]?) fun g =>
    f6_l5_j2 k h a j d e f l m o p q s t i ((mput c (T44.mk g.Source g.Seq g.Offset) ((IntKind.i64.wrap ((mget c (T44.mk g.Source g.Seq g.Offset) 0)+(1:Int)))))) b))
theorem f6_l5_j1_ok (k e f i l a b c m o p q s t u g d h r) (j:f6_l5_j1 k e f i l a b c m o p q s t u g d h=some r):EX 6 k (nav B6 [2,2,1,2,2,1,2,2,2,2,2,2,2]) (⟨227,[(2,.ptr 30000 0),(3,.ptr 30004 0),(5,.ptr 30006 0),(7,V.mp 30011),(111,.own 30012),(112,jI e),(113,jI f),(114,jT i)],[(30000,.box 28 [jI l,jI a,.own 30001,.own 30002,jI b,.own 30003,jI c]),(30001,.row false 6 54 (rowsOf encT54 m)),(30002,.row false 1 3 (rowsOf (encI .i64) o)),(30003,.row false 3 44 (rowsOf encT44 p)),(30004,.box 31 [.own 30005]),(30005,.row false 11 47 (rowsOf encT47 q)),(30006,.box 37 [.own 30007,.own 30008,.own 30009,.own 30010]),(30007,.row true 5 56 (rowsOf encT56 s)),(30008,.row true 3 44 (rowsOf encT44 t)),(30009,.row true 3 44 (rowsOf encT44 u)),(30010,.row true 1 3 (rowsOf (encI .i64) g)),(30011,O.mp 3 (mpC mk65 mv65 d)),(30012,.row true 3 44 (rowsOf encT44 h))]⟩:St)=some r.st:=by
 unfold f6_l5_j1 at j
 obtain ⟨w,j⟩:=ifE_some.1 j
 obtain ⟨x,j⟩:=ifE_some.1 j
 obtain ⟨v,y,j⟩:=bs j
 have hJ:=f6_l5_j2_ok k e f l a b c m o p q s t u g ((mput d (T44.mk v.Source v.Seq v.Offset) ((IntKind.i64.wrap ((mget d (T44.mk v.Source v.Seq v.Offset) 0)+(1:Int)))))) h _ j
 simp (disch:=first|decide|apply K;kernel_rfl) only [W,simprocAttr,xk B6 [2,2,1,2,2,1,2,2,2,2,2,2,2] .sq rfl,xk B6 [1,2,2,1,2,2,1,2,2,2,2,2,2,2] (.bk 3) rfl,sr 6 18 B6 [2,1,2,2,1,2,2,1,2,2,2,2,2,2,2] rfl rfl rfl,indexAddrV,t_26,t_44,encT44_eq,rg B6 [2,2,1,2,2,1,2,2,1,2,2,2,2,2,2,2] 19 true rfl,hr 6 19 rfl,lookup_mp,mpL65,mapEntry_mp,mpE65,entryStore_mp,mpS65,w,x,y]
 try simp only [NM,EE] at hJ
 exact hJ
noncomputable def f6_l5_b (k:Nat) (a b i c d e:Int) (j:List T54) (l:List Int) (m:List T44) (o:List T47) (p:List T56) (q s:List T44) (f:List Int) (g:List (T44×Int)) (h:List T44):Option R6_l5 :=
 cond ((decide (b<a)))
  (f6_l5_j1 k a b true i c d e j l m o p q s f g h)
  (some (.o1 a b false i c d e j l m o p q s f g h))
theorem f6_l5_b_ok (k d e i a b c j l m o p q s f g h r) (t:f6_l5_b k d e i a b c j l m o p q s f g h=some r):EX 6 k (nav B6 [1,2,2,1,2,2,2,2,2,2,2]) (⟨227,[(2,.ptr 30000 0),(3,.ptr 30004 0),(5,.ptr 30006 0),(7,V.mp 30011),(111,.own 30012),(112,jI d),(113,jI e)],[(30000,.box 28 [jI i,jI a,.own 30001,.own 30002,jI b,.own 30003,jI c]),(30001,.row false 6 54 (rowsOf encT54 j)),(30002,.row false 1 3 (rowsOf (encI .i64) l)),(30003,.row false 3 44 (rowsOf encT44 m)),(30004,.box 31 [.own 30005]),(30005,.row false 11 47 (rowsOf encT47 o)),(30006,.box 37 [.own 30007,.own 30008,.own 30009,.own 30010]),(30007,.row true 5 56 (rowsOf encT56 p)),(30008,.row true 3 44 (rowsOf encT44 q)),(30009,.row true 3 44 (rowsOf encT44 s)),(30010,.row true 1 3 (rowsOf (encI .i64) f)),(30011,O.mp 3 (mpC mk65 mv65 g)),(30012,.row true 3 44 (rowsOf encT44 h))]⟩:St)=some r.st:=by
 unfold f6_l5_b at t
 simp only [W,simprocAttr,sr 6 17 B6 [1,2,2,1,2,2,2,2,2,2,2] rfl rfl rfl,xk B6 [2,1,2,2,1,2,2,2,2,2,2,2] .sq rfl,xk B6 [1,2,1,2,2,1,2,2,2,2,2,2,2] (.cd 114) rfl]
 rcases cond_some t with ⟨u,t⟩ | ⟨u,t⟩
 ·have hJ:=f6_l5_j1_ok k d e true i a b c j l m o p q s f g h _ t
  simp only [W,simprocAttr,xk B6 [2,1,2,1,2,2,1,2,2,2,2,2,2,2] .sk rfl,u]
  try simp only [NM,EE] at hJ
  exact hJ
 ·cases t
  simp only [W,simprocAttr,xk B6 [3,1,2,1,2,2,1,2,2,2,2,2,2,2] (.ex 2) rfl,R6_l5.st,u]
noncomputable def f6_l5 (k:Nat):Nat→Int→Int→Int→Int→Int→Int→(List T54)→(List Int)→(List T44)→(List T47)→(List T56)→(List T44)→(List T44)→(List Int)→(List (T44×Int))→(List T44)→Option R6_l5
 | 0,_,_,_,_,_,_,_,_,_,_,_,_,_,_,_,_=>none
 | n+1,w,x,ac,g,h,i,ad,ae,af,ag,ah,ai,aj,z,r,aa=>Option.bind (f6_l5_b k w x ac g h i ad ae af ag ah ai aj z r aa) fun o =>
  match o with
  | .o0 y j l m p q s t u v a b c d e f=>f6_l5 k n y j l m p q s t u v a b c d e f
  | .o1 y j l m p q s t u v a b c d e f ab=>some (.o1 y j l m p q s t u v a b c d e f ab)
theorem f6_l5_ok (k n:Nat):∀ (d e j a b c:Int) (l:List T54) (m:List Int) (p:List T44) (q:List T47) (s:List T56) (t u:List T44) (f:List Int) (g:List (T44×Int)) (i:List T44) (r:R6_l5) (v:f6_l5 k n d e j a b c l m p q s t u f g i=some r) (σ:St) (hσ:headR (hints.head 6 17) (hints.canon 6 17) σ=some (⟨227,[(2,.ptr 30000 0),(3,.ptr 30004 0),(5,.ptr 30006 0),(7,V.mp 30011),(111,.own 30012),(112,jI d),(113,jI e)],[(30000,.box 28 [jI j,jI a,.own 30001,.own 30002,jI b,.own 30003,jI c]),(30001,.row false 6 54 (rowsOf encT54 l)),(30002,.row false 1 3 (rowsOf (encI .i64) m)),(30003,.row false 3 44 (rowsOf encT44 p)),(30004,.box 31 [.own 30005]),(30005,.row false 11 47 (rowsOf encT47 q)),(30006,.box 37 [.own 30007,.own 30008,.own 30009,.own 30010]),(30007,.row true 5 56 (rowsOf encT56 s)),(30008,.row true 3 44 (rowsOf encT44 t)),(30009,.row true 3 44 (rowsOf encT44 u)),(30010,.row true 1 3 (rowsOf (encI .i64) f)),(30011,O.mp 3 (mpC mk65 mv65 g)),(30012,.row true 3 44 (rowsOf encT44 i))]⟩:St)),LP 6 k (nav B6 [1,2,2,1,2,2,2,2,2,2,2]) n σ=some r.st:=by
 induction n with
 | zero=>intro d e j a b c l m p q s t u f g i r v;cases v
 | succ n ih =>
  intro d e j a b c l m p q s t u f g i r v σ hσ
  rw [f6_l5] at v
  obtain ⟨o,h,v⟩:=Option.bind_eq_some_iff.1 v
  have hB:=f6_l5_b_ok k d e j a b c l m p q s t u f g i o h
  unfold LP at ih ⊢
  unfold EX at hB
  rw [loopK_succ,show firstReg (nav B6 [1,2,2,1,2,2,2,2,2,2,2])=17 from rfl,hσ,headK_some,hB]
  cases o with
  | o0 y ad ae af ag ah ai aj ak al w x z aa ab ac =>
   refine ih y ad ae af ag ah ai aj ak al w x z aa ab ac r v _ ?_
   simp only [W,simprocAttr,hh_6_17,hc_6_17]
  | o1 y ad ae af ag ah ai aj ak al w x z aa ab ac an=>cases v;rfl
inductive R6_l7 where
 | o0 (y g h i j l:Int) (m:List T54) (o:List Int) (p:List T44) (q:List T47) (a:List T56) (b c:List T44) (d:List Int) (e:List (T44×Int)) (f:List (T44×Bool))
 | o1 (y g:Int) (h:Bool) (i j l m:Int) (o:List T54) (p:List Int) (q:List T44) (a:List T47) (b:List T56) (c d:List T44) (e:List Int) (f:List (T44×Int)) (s:List (T44×Bool))
noncomputable def R6_l7.st:R6_l7→Out×St
 | .o0 y g h i j l m o p q a b c d e f=>(.norm,(⟨227,[(2,.ptr 30000 0),(3,.ptr 30004 0),(5,.ptr 30006 0),(7,V.mp 30011),(13,V.mp 30012),(126,.own 30003),(127,jI y),(128,jI g)],[(30000,.box 28 [jI h,jI i,.own 30001,.own 30002,jI j,.own 30003,jI l]),(30001,.row false 6 54 (rowsOf encT54 m)),(30002,.row false 1 3 (rowsOf (encI .i64) o)),(30003,.row false 3 44 (rowsOf encT44 p)),(30004,.box 31 [.own 30005]),(30005,.row false 11 47 (rowsOf encT47 q)),(30006,.box 37 [.own 30007,.own 30008,.own 30009,.own 30010]),(30007,.row true 5 56 (rowsOf encT56 a)),(30008,.row true 3 44 (rowsOf encT44 b)),(30009,.row true 3 44 (rowsOf encT44 c)),(30010,.row true 1 3 (rowsOf (encI .i64) d)),(30011,O.mp 3 (mpC mk65 mv65 e)),(30012,O.mp 3 (mpC mk66 mv66 f))]⟩:St))
 | .o1 y g h i j l m o p q a b c d e f s=>(.exit 4,(⟨227,[(2,.ptr 30000 0),(3,.ptr 30004 0),(5,.ptr 30006 0),(7,V.mp 30011),(13,V.mp 30012),(126,.own 30003),(127,jI y),(128,jI g),(129,jT h)],[(30000,.box 28 [jI i,jI j,.own 30001,.own 30002,jI l,.own 30003,jI m]),(30001,.row false 6 54 (rowsOf encT54 o)),(30002,.row false 1 3 (rowsOf (encI .i64) p)),(30003,.row false 3 44 (rowsOf encT44 q)),(30004,.box 31 [.own 30005]),(30005,.row false 11 47 (rowsOf encT47 a)),(30006,.box 37 [.own 30007,.own 30008,.own 30009,.own 30010]),(30007,.row true 5 56 (rowsOf encT56 b)),(30008,.row true 3 44 (rowsOf encT44 c)),(30009,.row true 3 44 (rowsOf encT44 d)),(30010,.row true 1 3 (rowsOf (encI .i64) e)),(30011,O.mp 3 (mpC mk65 mv65 f)),(30012,O.mp 3 (mpC mk66 mv66 s))]⟩:St))
noncomputable def f6_l7_j2 (k:Nat) (d e i a b c:Int) (j:List T54) (l:List Int) (m:List T44) (o:List T47) (p:List T56) (q s:List T44) (f:List Int) (g:List (T44×Int)) (h:List (T44×Bool)):Option R6_l7 :=
 some (.o0 d (IntKind.i64.wrap (e+(1:Int))) i a b c j l m o p q s f g h)
theorem f6_l7_j2_ok (k d e i a b c j l m o p q s f g h r) (t:f6_l7_j2 k d e i a b c j l m o p q s f g h=some r):EX 6 k (nav B6 [2,2,2,1,2,2,1,2,2,2,2,2,2,2,2,2]) (⟨227,[(2,.ptr 30000 0),(3,.ptr 30004 0),(5,.ptr 30006 0),(7,V.mp 30011),(13,V.mp 30012),(126,.own 30003),(127,jI d),(128,jI e)],[(30000,.box 28 [jI i,jI a,.own 30001,.own 30002,jI b,.own 30003,jI c]),(30001,.row false 6 54 (rowsOf encT54 j)),(30002,.row false 1 3 (rowsOf (encI .i64) l)),(30003,.row false 3 44 (rowsOf encT44 m)),(30004,.box 31 [.own 30005]),(30005,.row false 11 47 (rowsOf encT47 o)),(30006,.box 37 [.own 30007,.own 30008,.own 30009,.own 30010]),(30007,.row true 5 56 (rowsOf encT56 p)),(30008,.row true 3 44 (rowsOf encT44 q)),(30009,.row true 3 44 (rowsOf encT44 s)),(30010,.row true 1 3 (rowsOf (encI .i64) f)),(30011,O.mp 3 (mpC mk65 mv65 g)),(30012,O.mp 3 (mpC mk66 mv66 h))]⟩:St)=some r.st:=by
 unfold f6_l7_j2 at t
 cases t
 simp only [W,simprocAttr,rg B6 [2,2,2,1,2,2,1,2,2,2,2,2,2,2,2,2] 26 false rfl,hr 6 26 rfl,R6_l7.st]
noncomputable def f6_l7_j1 (k:Nat) (f a:Int) (u:Bool) (j b c d:Int) (l:List T54) (m:List Int) (e:List T44) (o:List T47) (p:List T56) (q s:List T44) (g:List Int) (h:List (T44×Int)) (i:List (T44×Bool)):Option R6_l7 :=
 ifE ((0:Int)≤a) (
  ifE (a<((List.length e):Int)) (
   Option.bind (e[(Int.toNat a)]?) fun t =>
    f6_l7_j2 k f a j b c d l m e o p q s g h (mput i (T44.mk t.Source t.Seq t.Offset) true)))
theorem f6_l7_j1_ok (k d e i l a b c m o p q s t u f g h r) (j:f6_l7_j1 k d e i l a b c m o p q s t u f g h=some r):EX 6 k (nav B6 [2,2,1,2,2,1,2,2,2,2,2,2,2,2,2]) (⟨227,[(2,.ptr 30000 0),(3,.ptr 30004 0),(5,.ptr 30006 0),(7,V.mp 30011),(13,V.mp 30012),(126,.own 30003),(127,jI d),(128,jI e),(129,jT i)],[(30000,.box 28 [jI l,jI a,.own 30001,.own 30002,jI b,.own 30003,jI c]),(30001,.row false 6 54 (rowsOf encT54 m)),(30002,.row false 1 3 (rowsOf (encI .i64) o)),(30003,.row false 3 44 (rowsOf encT44 p)),(30004,.box 31 [.own 30005]),(30005,.row false 11 47 (rowsOf encT47 q)),(30006,.box 37 [.own 30007,.own 30008,.own 30009,.own 30010]),(30007,.row true 5 56 (rowsOf encT56 s)),(30008,.row true 3 44 (rowsOf encT44 t)),(30009,.row true 3 44 (rowsOf encT44 u)),(30010,.row true 1 3 (rowsOf (encI .i64) f)),(30011,O.mp 3 (mpC mk65 mv65 g)),(30012,O.mp 3 (mpC mk66 mv66 h))]⟩:St)=some r.st:=by
 unfold f6_l7_j1 at j
 obtain ⟨w,j⟩:=ifE_some.1 j
 obtain ⟨x,j⟩:=ifE_some.1 j
 obtain ⟨v,y,j⟩:=bs j
 have hJ:=f6_l7_j2_ok k d e l a b c m o p q s t u f g (mput h (T44.mk v.Source v.Seq v.Offset) true) _ j
 simp only [W,simprocAttr,xk B6 [2,2,1,2,2,1,2,2,2,2,2,2,2,2,2] .sq rfl,xk B6 [1,2,2,1,2,2,1,2,2,2,2,2,2,2,2,2] (.bk 5) rfl,sr 6 24 B6 [2,1,2,2,1,2,2,1,2,2,2,2,2,2,2,2,2] rfl rfl rfl,indexAddrV,t_26,t_44,encT44_eq,rg B6 [2,2,1,2,2,1,2,2,1,2,2,2,2,2,2,2,2,2] 25 false rfl,hr 6 25 rfl,mapUpdate_mp,mpU66,w,x,y]
 try simp only [NM,EE] at hJ
 exact hJ
noncomputable def f6_l7_b (k:Nat) (a b i c d e:Int) (j:List T54) (l:List Int) (m:List T44) (o:List T47) (p:List T56) (q s:List T44) (f:List Int) (g:List (T44×Int)) (h:List (T44×Bool)):Option R6_l7 :=
 cond ((decide (b<a)))
  (f6_l7_j1 k a b true i c d e j l m o p q s f g h)
  (some (.o1 a b false i c d e j l m o p q s f g h))
theorem f6_l7_b_ok (k d e i a b c j l m o p q s f g h r) (t:f6_l7_b k d e i a b c j l m o p q s f g h=some r):EX 6 k (nav B6 [1,2,2,1,2,2,2,2,2,2,2,2,2]) (⟨227,[(2,.ptr 30000 0),(3,.ptr 30004 0),(5,.ptr 30006 0),(7,V.mp 30011),(13,V.mp 30012),(126,.own 30003),(127,jI d),(128,jI e)],[(30000,.box 28 [jI i,jI a,.own 30001,.own 30002,jI b,.own 30003,jI c]),(30001,.row false 6 54 (rowsOf encT54 j)),(30002,.row false 1 3 (rowsOf (encI .i64) l)),(30003,.row false 3 44 (rowsOf encT44 m)),(30004,.box 31 [.own 30005]),(30005,.row false 11 47 (rowsOf encT47 o)),(30006,.box 37 [.own 30007,.own 30008,.own 30009,.own 30010]),(30007,.row true 5 56 (rowsOf encT56 p)),(30008,.row true 3 44 (rowsOf encT44 q)),(30009,.row true 3 44 (rowsOf encT44 s)),(30010,.row true 1 3 (rowsOf (encI .i64) f)),(30011,O.mp 3 (mpC mk65 mv65 g)),(30012,O.mp 3 (mpC mk66 mv66 h))]⟩:St)=some r.st:=by
 unfold f6_l7_b at t
 simp only [W,simprocAttr,sr 6 23 B6 [1,2,2,1,2,2,2,2,2,2,2,2,2] rfl rfl rfl,xk B6 [2,1,2,2,1,2,2,2,2,2,2,2,2,2] .sq rfl,xk B6 [1,2,1,2,2,1,2,2,2,2,2,2,2,2,2] (.cd 129) rfl]
 rcases cond_some t with ⟨u,t⟩ | ⟨u,t⟩
 ·have hJ:=f6_l7_j1_ok k d e true i a b c j l m o p q s f g h _ t
  simp only [W,simprocAttr,xk B6 [2,1,2,1,2,2,1,2,2,2,2,2,2,2,2,2] .sk rfl,u]
  try simp only [NM,EE] at hJ
  exact hJ
 ·cases t
  simp only [W,simprocAttr,xk B6 [3,1,2,1,2,2,1,2,2,2,2,2,2,2,2,2] (.ex 4) rfl,R6_l7.st,u]
noncomputable def f6_l7 (k:Nat):Nat→Int→Int→Int→Int→Int→Int→(List T54)→(List Int)→(List T44)→(List T47)→(List T56)→(List T44)→(List T44)→(List Int)→(List (T44×Int))→(List (T44×Bool))→Option R6_l7
 | 0,_,_,_,_,_,_,_,_,_,_,_,_,_,_,_,_=>none
 | n+1,w,x,ac,g,h,i,ad,ae,af,ag,ah,ai,aj,z,r,aa=>Option.bind (f6_l7_b k w x ac g h i ad ae af ag ah ai aj z r aa) fun o =>
  match o with
  | .o0 y j l m p q s t u v a b c d e f=>f6_l7 k n y j l m p q s t u v a b c d e f
  | .o1 y j l m p q s t u v a b c d e f ab=>some (.o1 y j l m p q s t u v a b c d e f ab)
theorem f6_l7_ok (k n:Nat):∀ (d e j a b c:Int) (l:List T54) (m:List Int) (p:List T44) (q:List T47) (s:List T56) (t u:List T44) (f:List Int) (g:List (T44×Int)) (i:List (T44×Bool)) (r:R6_l7) (v:f6_l7 k n d e j a b c l m p q s t u f g i=some r) (σ:St) (hσ:headR (hints.head 6 23) (hints.canon 6 23) σ=some (⟨227,[(2,.ptr 30000 0),(3,.ptr 30004 0),(5,.ptr 30006 0),(7,V.mp 30011),(13,V.mp 30012),(126,.own 30003),(127,jI d),(128,jI e)],[(30000,.box 28 [jI j,jI a,.own 30001,.own 30002,jI b,.own 30003,jI c]),(30001,.row false 6 54 (rowsOf encT54 l)),(30002,.row false 1 3 (rowsOf (encI .i64) m)),(30003,.row false 3 44 (rowsOf encT44 p)),(30004,.box 31 [.own 30005]),(30005,.row false 11 47 (rowsOf encT47 q)),(30006,.box 37 [.own 30007,.own 30008,.own 30009,.own 30010]),(30007,.row true 5 56 (rowsOf encT56 s)),(30008,.row true 3 44 (rowsOf encT44 t)),(30009,.row true 3 44 (rowsOf encT44 u)),(30010,.row true 1 3 (rowsOf (encI .i64) f)),(30011,O.mp 3 (mpC mk65 mv65 g)),(30012,O.mp 3 (mpC mk66 mv66 i))]⟩:St)),LP 6 k (nav B6 [1,2,2,1,2,2,2,2,2,2,2,2,2]) n σ=some r.st:=by
 induction n with
 | zero=>intro d e j a b c l m p q s t u f g i r v;cases v
 | succ n ih =>
  intro d e j a b c l m p q s t u f g i r v σ hσ
  rw [f6_l7] at v
  obtain ⟨o,h,v⟩:=Option.bind_eq_some_iff.1 v
  have hB:=f6_l7_b_ok k d e j a b c l m p q s t u f g i o h
  unfold LP at ih ⊢
  unfold EX at hB
  rw [loopK_succ,show firstReg (nav B6 [1,2,2,1,2,2,2,2,2,2,2,2,2])=23 from rfl,hσ,headK_some,hB]
  cases o with
  | o0 y ad ae af ag ah ai aj ak al w x z aa ab ac =>
   refine ih y ad ae af ag ah ai aj ak al w x z aa ab ac r v _ ?_
   simp only [W,simprocAttr,hh_6_23,hc_6_23]
  | o1 y ad ae af ag ah ai aj ak al w x z aa ab ac an=>cases v;rfl
inductive R6_l9 where
 | o0 (y:Bool)
 | o1 (y h i j l m o:Int) (p:List T54) (q:List Int) (s:List T44) (a:List T47) (b:List T56) (c d:List T44) (e:List Int) (f:List (T44×Int)) (g:List (T44×Bool))
 | o2 (y h i:Int) (j:Bool) (l m o p:Int) (q:List T54) (s:List Int) (a:List T44) (b:List T47) (c:List T56) (d e:List T44) (f:List Int) (g:List (T44×Int)) (t:List (T44×Bool))
noncomputable def R6_l9.st:R6_l9→Out×St
 | .o0 y=>(.ret,(⟨227,[(4,jT y)],[]⟩:St))
 | .o1 y h i j l m o p q s a b c d e f g=>(.norm,(⟨227,[(2,.ptr 30000 0),(3,.ptr 30004 0),(5,.ptr 30006 0),(7,V.mp 30011),(13,V.mp 30012),(16,jI y),(136,.own 30005),(137,jI h),(138,jI i)],[(30000,.box 28 [jI j,jI l,.own 30001,.own 30002,jI m,.own 30003,jI o]),(30001,.row false 6 54 (rowsOf encT54 p)),(30002,.row false 1 3 (rowsOf (encI .i64) q)),(30003,.row false 3 44 (rowsOf encT44 s)),(30004,.box 31 [.own 30005]),(30005,.row false 11 47 (rowsOf encT47 a)),(30006,.box 37 [.own 30007,.own 30008,.own 30009,.own 30010]),(30007,.row true 5 56 (rowsOf encT56 b)),(30008,.row true 3 44 (rowsOf encT44 c)),(30009,.row true 3 44 (rowsOf encT44 d)),(30010,.row true 1 3 (rowsOf (encI .i64) e)),(30011,O.mp 3 (mpC mk65 mv65 f)),(30012,O.mp 3 (mpC mk66 mv66 g))]⟩:St))
 | .o2 y h i j l m o p q s a b c d e f g t=>(.exit 6,(⟨227,[(2,.ptr 30000 0),(3,.ptr 30004 0),(5,.ptr 30006 0),(7,V.mp 30011),(13,V.mp 30012),(16,jI y),(136,.own 30005),(137,jI h),(138,jI i),(139,jT j)],[(30000,.box 28 [jI l,jI m,.own 30001,.own 30002,jI o,.own 30003,jI p]),(30001,.row false 6 54 (rowsOf encT54 q)),(30002,.row false 1 3 (rowsOf (encI .i64) s)),(30003,.row false 3 44 (rowsOf encT44 a)),(30004,.box 31 [.own 30005]),(30005,.row false 11 47 (rowsOf encT47 b)),(30006,.box 37 [.own 30007,.own 30008,.own 30009,.own 30010]),(30007,.row true 5 56 (rowsOf encT56 c)),(30008,.row true 3 44 (rowsOf encT44 d)),(30009,.row true 3 44 (rowsOf encT44 e)),(30010,.row true 1 3 (rowsOf (encI .i64) f)),(30011,O.mp 3 (mpC mk65 mv65 g)),(30012,O.mp 3 (mpC mk66 mv66 t))]⟩:St))
noncomputable def f6_l9_j3 (k:Nat) (i d e:Int) (u:Bool) (j a b c:Int) (l:List T54) (m:List Int) (o:List T44) (p:List T47) (q:List T56) (s t:List T44) (f:List Int) (g:List (T44×Int)) (h:List (T44×Bool)):Option R6_l9 :=
 some (.o1 i d (IntKind.i64.wrap (e+(1:Int))) j a b c l m o p q s t f g h)
theorem f6_l9_j3_ok (k j d e f l a b c m o p q s t u g h i r) (v:f6_l9_j3 k j d e f l a b c m o p q s t u g h i=some r):EX 6 k (nav B6 [2,2,2,1,2,2,1,2,2,2,2,2,2,2,2,2,2,2]) (⟨227,[(2,.ptr 30000 0),(3,.ptr 30004 0),(5,.ptr 30006 0),(7,V.mp 30011),(13,V.mp 30012),(16,jI j),(136,.own 30005),(137,jI d),(138,jI e),(157,jT f)],[(30000,.box 28 [jI l,jI a,.own 30001,.own 30002,jI b,.own 30003,jI c]),(30001,.row false 6 54 (rowsOf encT54 m)),(30002,.row false 1 3 (rowsOf (encI .i64) o)),(30003,.row false 3 44 (rowsOf encT44 p)),(30004,.box 31 [.own 30005]),(30005,.row false 11 47 (rowsOf encT47 q)),(30006,.box 37 [.own 30007,.own 30008,.own 30009,.own 30010]),(30007,.row true 5 56 (rowsOf encT56 s)),(30008,.row true 3 44 (rowsOf encT44 t)),(30009,.row true 3 44 (rowsOf encT44 u)),(30010,.row true 1 3 (rowsOf (encI .i64) g)),(30011,O.mp 3 (mpC mk65 mv65 h)),(30012,O.mp 3 (mpC mk66 mv66 i))]⟩:St)=some r.st:=by
 unfold f6_l9_j3 at v
 cases v
 simp only [W,simprocAttr,rg B6 [2,2,2,1,2,2,1,2,2,2,2,2,2,2,2,2,2,2] 38 false rfl,hr 6 38 rfl,R6_l9.st]
noncomputable def f6_l9_j2 (k:Nat) (j d e:Int) (f:Bool) (l a b c:Int) (m:List T54) (o:List Int) (p:List T44) (q:List T47) (s:List T56) (t u:List T44) (g:List Int) (h:List (T44×Int)) (i:List (T44×Bool)):Option R6_l9 :=
 f6_l9_j3 k j d e f l a b c m o p q s t u g h i
theorem f6_l9_j2_ok (k j d e f l a b c m o p q s t u g h i r) (v:f6_l9_j2 k j d e f l a b c m o p q s t u g h i=some r):SQ 6 k (nav B6 [2,2,2,1,2,2,1,2,2,2,2,2,2,2,2,2,2,2]) (blockK 7 (SQ 6 k (nav B6 [2,2,2,2,1,2,2,1,2,2,1,2,2,2,2,2,2,2,2,2,2,2]) (EX 6 k (nav B6 [2,2,2,1,2,2,2,1,2,2,1,2,2,1,2,2,2,2,2,2,2,2,2,2,2]) (⟨227,[(2,.ptr 30000 0),(3,.ptr 30004 0),(5,.ptr 30006 0),(7,V.mp 30011),(13,V.mp 30012),(16,jI j),(136,.own 30005),(137,jI d),(138,jI e),(157,jT f)],[(30000,.box 28 [jI l,jI a,.own 30001,.own 30002,jI b,.own 30003,jI c]),(30001,.row false 6 54 (rowsOf encT54 m)),(30002,.row false 1 3 (rowsOf (encI .i64) o)),(30003,.row false 3 44 (rowsOf encT44 p)),(30004,.box 31 [.own 30005]),(30005,.row false 11 47 (rowsOf encT47 q)),(30006,.box 37 [.own 30007,.own 30008,.own 30009,.own 30010]),(30007,.row true 5 56 (rowsOf encT56 s)),(30008,.row true 3 44 (rowsOf encT44 t)),(30009,.row true 3 44 (rowsOf encT44 u)),(30010,.row true 1 3 (rowsOf (encI .i64) g)),(30011,O.mp 3 (mpC mk65 mv65 h)),(30012,O.mp 3 (mpC mk66 mv66 i))]⟩:St))))=some r.st:=by
 unfold f6_l9_j2 at v
 have hJ:=f6_l9_j3_ok k j d e f l a b c m o p q s t u g h i _ v
 simp only [W,simprocAttr,xk B6 [2,2,2,1,2,2,2,1,2,2,1,2,2,1,2,2,2,2,2,2,2,2,2,2,2] (.ex 7) rfl]
 try simp only [NM,EE] at hJ
 exact hJ
noncomputable def f6_l9_j5 (k:Nat) (i d e:Int) (u:Bool) (j a b c:Int) (l:List T54) (m:List Int) (o:List T44) (p:List T47) (q:List T56) (s t:List T44) (f:List Int) (g:List (T44×Int)) (h:List (T44×Bool)):Option R6_l9 :=
 some (.o1 i d (IntKind.i64.wrap (e+(1:Int))) j a b c l m o p q s t f g h)
theorem f6_l9_j5_ok (k j d e f l a b c m o p q s t u g h i r) (v:f6_l9_j5 k j d e f l a b c m o p q s t u g h i=some r):EX 6 k (nav B6 [2,2,2,1,2,2,1,2,2,2,2,2,2,2,2,2,2,2]) (⟨227,[(2,.ptr 30000 0),(3,.ptr 30004 0),(5,.ptr 30006 0),(7,V.mp 30011),(13,V.mp 30012),(16,jI j),(136,.own 30005),(137,jI d),(138,jI e),(163,jT f)],[(30000,.box 28 [jI l,jI a,.own 30001,.own 30002,jI b,.own 30003,jI c]),(30001,.row false 6 54 (rowsOf encT54 m)),(30002,.row false 1 3 (rowsOf (encI .i64) o)),(30003,.row false 3 44 (rowsOf encT44 p)),(30004,.box 31 [.own 30005]),(30005,.row false 11 47 (rowsOf encT47 q)),(30006,.box 37 [.own 30007,.own 30008,.own 30009,.own 30010]),(30007,.row true 5 56 (rowsOf encT56 s)),(30008,.row true 3 44 (rowsOf encT44 t)),(30009,.row true 3 44 (rowsOf encT44 u)),(30010,.row true 1 3 (rowsOf (encI .i64) g)),(30011,O.mp 3 (mpC mk65 mv65 h)),(30012,O.mp 3 (mpC mk66 mv66 i))]⟩:St)=some r.st:=by
 unfold f6_l9_j5 at v
 cases v
 simp only [W,simprocAttr,rg B6 [2,2,2,1,2,2,1,2,2,2,2,2,2,2,2,2,2,2] 38 false rfl,hr 6 38 rfl,R6_l9.st]
noncomputable def f6_l9_j4 (k:Nat) (l g h:Int) (x:Bool) (m b c d:Int) (o:List T54) (p:List Int) (q:List T44) (s:List T47) (t:List T56) (u v:List T44) (i:List Int) (a:List (T44×Int)) (j:List (T44×Bool)) (w e f:Int):Option R6_l9 :=
 cond (((mget a (T44.mk w e f) 0) != 1))
  (some (.o0 false))
  (f6_l9_j5 k (IntKind.i64.wrap (l+(1:Int))) g h false m b c d o p q s t u v i a j)
theorem f6_l9_j4_ok (k m d e l o a b c p q s t u v w f g h y i j r) (x:f6_l9_j4 k m d e l o a b c p q s t u v w f g h y i j=some r):SQ 6 k (nav B6 [2,2,2,1,2,2,1,2,2,2,2,2,2,2,2,2,2,2]) (blockK 7 (EX 6 k (nav B6 [2,2,2,2,1,2,2,1,2,2,1,2,2,2,2,2,2,2,2,2,2,2]) (⟨227,[(2,.ptr 30000 0),(3,.ptr 30004 0),(5,.ptr 30006 0),(7,V.mp 30011),(13,V.mp 30012),(16,jI m),(19,.ptr 19 0),(136,.own 30005),(137,jI d),(138,jI e),(153,jT l)],[(30000,.box 28 [jI o,jI a,.own 30001,.own 30002,jI b,.own 30003,jI c]),(30001,.row false 6 54 (rowsOf encT54 p)),(30002,.row false 1 3 (rowsOf (encI .i64) q)),(30003,.row false 3 44 (rowsOf encT44 s)),(30004,.box 31 [.own 30005]),(30005,.row false 11 47 (rowsOf encT47 t)),(30006,.box 37 [.own 30007,.own 30008,.own 30009,.own 30010]),(30007,.row true 5 56 (rowsOf encT56 u)),(30008,.row true 3 44 (rowsOf encT44 v)),(30009,.row true 3 44 (rowsOf encT44 w)),(30010,.row true 1 3 (rowsOf (encI .i64) f)),(30011,O.mp 3 (mpC mk65 mv65 g)),(30012,O.mp 3 (mpC mk66 mv66 h)),(19,.box 44 [jI y,jU i,jI j])]⟩:St)))=some r.st:=by
 unfold f6_l9_j4 at x
 simp only [W,simprocAttr,sr 6 35 B6 [2,2,2,2,1,2,2,1,2,2,1,2,2,2,2,2,2,2,2,2,2,2] rfl rfl rfl,sr 6 36 B6 [2,2,2,2,2,1,2,2,1,2,2,1,2,2,2,2,2,2,2,2,2,2,2] rfl rfl rfl,t_44,lookup_mp,mpL65,xk B6 [2,2,2,2,2,2,1,2,2,1,2,2,1,2,2,2,2,2,2,2,2,2,2,2] (.cd 163) rfl]
 rcases cond_some x with ⟨z,x⟩ | ⟨z,x⟩
 ·cases x
  simp only [W,simprocAttr,sr 6 37 B6 [2,2,2,2,2,2,2,1,2,2,1,2,2,1,2,2,2,2,2,2,2,2,2,2,2] rfl rfl rfl,xk B6 [2,2,2,2,2,2,2,2,1,2,2,1,2,2,1,2,2,2,2,2,2,2,2,2,2,2] .rt rfl,R6_l9.st,z]
 ·have hJ:=f6_l9_j5_ok k (IntKind.i64.wrap (m+(1:Int))) d e false o a b c p q s t u v w f g h _ x
  simp only [W,simprocAttr,xk B6 [3,2,2,2,2,2,2,1,2,2,1,2,2,1,2,2,2,2,2,2,2,2,2,2,2] .sk rfl,z]
  try simp only [NM,EE] at hJ
  exact hJ
noncomputable def f6_l9_j1 (k:Nat) (o h a:Int) (y:Bool) (l c d e:Int) (p:List T54) (q:List Int) (s:List T44) (i:List T47) (t:List T56) (u v:List T44) (j:List Int) (b:List (T44×Int)) (f:List (T44×Bool)):Option R6_l9 :=
 ifE ((0:Int)≤a) (
  ifE (a<((List.length i):Int)) (
   Option.bind (i[(Int.toNat a)]?) fun g =>
    Option.bind (f20 k g.Source g.Dest g.Seq g.Created g.Lifetime g.HopLimit g.Hops g.Priority g.Offset g.Total g.Payload) fun o5 =>
     match o5 with
     | .o0 w x m =>
      cond ((mget f (T44.mk w x m) false))
       (
        cond (((mget b (T44.mk w x m) 0) != 0))
         (some (.o0 false))
         (f6_l9_j2 k o h a false l c d e p q s i t u v j b f))
       (
        cond ((g.Dest==l))
         (
          cond (((mget b (T44.mk w x m) 0) != 0))
           (some (.o0 false))
           (f6_l9_j2 k o h a false l c d e p q s i t u v j b f))
         (f6_l9_j4 k o h a false l c d e p q s i t u v j b f w x m))))
theorem f6_l9_j1_ok (k m g h ab o b c d p q s t u v w i j l r) (a:f6_l9_j1 k m g h ab o b c d p q s t u v w i j l=some r):EX 6 k (nav B6 [2,2,1,2,2,1,2,2,2,2,2,2,2,2,2,2,2]) (⟨227,[(2,.ptr 30000 0),(3,.ptr 30004 0),(5,.ptr 30006 0),(7,V.mp 30011),(13,V.mp 30012),(16,jI m),(136,.own 30005),(137,jI g),(138,jI h),(139,jT ab)],[(30000,.box 28 [jI o,jI b,.own 30001,.own 30002,jI c,.own 30003,jI d]),(30001,.row false 6 54 (rowsOf encT54 p)),(30002,.row false 1 3 (rowsOf (encI .i64) q)),(30003,.row false 3 44 (rowsOf encT44 s)),(30004,.box 31 [.own 30005]),(30005,.row false 11 47 (rowsOf encT47 t)),(30006,.box 37 [.own 30007,.own 30008,.own 30009,.own 30010]),(30007,.row true 5 56 (rowsOf encT56 u)),(30008,.row true 3 44 (rowsOf encT44 v)),(30009,.row true 3 44 (rowsOf encT44 w)),(30010,.row true 1 3 (rowsOf (encI .i64) i)),(30011,O.mp 3 (mpC mk65 mv65 j)),(30012,O.mp 3 (mpC mk66 mv66 l))]⟩:St)=some r.st:=by
 unfold f6_l9_j1 at a
 obtain ⟨z,a⟩:=ifE_some.1 a
 obtain ⟨n,a⟩:=ifE_some.1 a
 obtain ⟨x,h4,a⟩:=bs a
 obtain ⟨o5,h6,a⟩:=bs a
 have e:=f20_ok k x.Source x.Dest x.Seq x.Created x.Lifetime x.HopLimit x.Hops x.Priority x.Offset x.Total x.Payload _ h6
 cases o5 with
 | o0 v8 v9 ae =>
  (try dsimp only at a)
  (try simp only [NM,EE,R20.st] at e)
  simp only [W,simprocAttr,xk B6 [2,2,1,2,2,1,2,2,2,2,2,2,2,2,2,2,2] .sq rfl,xk B6 [1,2,2,1,2,2,1,2,2,2,2,2,2,2,2,2,2,2] (.bk 7) rfl,sr 6 30 B6 [2,1,2,2,1,2,2,1,2,2,2,2,2,2,2,2,2,2,2] rfl rfl rfl,indexAddrV,t_29,t_47,encT47_eq,sr 6 31 B6 [2,2,1,2,2,1,2,2,1,2,2,2,2,2,2,2,2,2,2,2] rfl rfl rfl,callStep,CL,gv,List.contains,t_44,xk B6 [2,2,2,1,2,2,1,2,2,1,2,2,2,2,2,2,2,2,2,2,2] .sq rfl,sr 6 32 B6 [1,2,2,2,1,2,2,1,2,2,1,2,2,2,2,2,2,2,2,2,2,2] rfl rfl rfl,lookup_mp,mpL66,z,n,h4,e]
  rcases cond_some a with ⟨f,a⟩ | ⟨f,a⟩
  ·simp only [W,simprocAttr,xk B6 [2,1,2,2,2,1,2,2,1,2,2,1,2,2,2,2,2,2,2,2,2,2,2] (.cd 153) rfl,xk B6 [2,2,1,2,2,2,1,2,2,1,2,2,1,2,2,2,2,2,2,2,2,2,2,2] .sq rfl,sr 6 33 B6 [1,2,2,1,2,2,2,1,2,2,1,2,2,1,2,2,2,2,2,2,2,2,2,2,2] rfl rfl rfl,t_44,lookup_mp,mpL65,xk B6 [2,1,2,2,1,2,2,2,1,2,2,1,2,2,1,2,2,2,2,2,2,2,2,2,2,2] (.cd 157) rfl,z,n,h4,e,f]
   rcases cond_some a with ⟨ac,a⟩ | ⟨ac,a⟩
   ·cases a
    simp only [W,simprocAttr,sr 6 34 B6 [2,2,1,2,2,1,2,2,2,1,2,2,1,2,2,1,2,2,2,2,2,2,2,2,2,2,2] rfl rfl rfl,xk B6 [2,2,2,1,2,2,1,2,2,2,1,2,2,1,2,2,1,2,2,2,2,2,2,2,2,2,2,2] .rt rfl,R6_l9.st,z,n,h4,e,f,ac]
   ·have hJ:=f6_l9_j2_ok k m g h false o b c d p q s t u v w i j l _ a
    simp only [W,simprocAttr,xk B6 [3,2,1,2,2,1,2,2,2,1,2,2,1,2,2,1,2,2,2,2,2,2,2,2,2,2,2] .sk rfl,z,n,h4,e,f,ac]
    try simp only [NM,EE] at hJ
    exact hJ
  ·simp only [W,simprocAttr,fieldAddrV,t_47,t_3,t_28,xk B6 [2,1,2,2,2,1,2,2,1,2,2,1,2,2,2,2,2,2,2,2,2,2,2] (.cd 153) rfl,z,n,h4,e,f]
   rcases cond_some a with ⟨y,a⟩ | ⟨y,a⟩
   ·simp only [W,simprocAttr,xk B6 [2,2,1,2,2,2,1,2,2,1,2,2,1,2,2,2,2,2,2,2,2,2,2,2] .sq rfl,sr 6 33 B6 [1,2,2,1,2,2,2,1,2,2,1,2,2,1,2,2,2,2,2,2,2,2,2,2,2] rfl rfl rfl,t_44,lookup_mp,mpL65,xk B6 [2,1,2,2,1,2,2,2,1,2,2,1,2,2,1,2,2,2,2,2,2,2,2,2,2,2] (.cd 157) rfl,z,n,h4,e,f,y]
    rcases cond_some a with ⟨ad,a⟩ | ⟨ad,a⟩
    ·cases a
     simp only [W,simprocAttr,sr 6 34 B6 [2,2,1,2,2,1,2,2,2,1,2,2,1,2,2,1,2,2,2,2,2,2,2,2,2,2,2] rfl rfl rfl,xk B6 [2,2,2,1,2,2,1,2,2,2,1,2,2,1,2,2,1,2,2,2,2,2,2,2,2,2,2,2] .rt rfl,R6_l9.st,z,n,h4,e,f,y,ad]
    ·have hJ:=f6_l9_j2_ok k m g h false o b c d p q s t u v w i j l _ a
     simp only [W,simprocAttr,xk B6 [3,2,1,2,2,1,2,2,2,1,2,2,1,2,2,1,2,2,2,2,2,2,2,2,2,2,2] .sk rfl,z,n,h4,e,f,y,ad]
     try simp only [NM,EE] at hJ
     exact hJ
   ·have hJ:=f6_l9_j4_ok k m g h false o b c d p q s t u v w i j l v8 v9 ae _ a
    simp only [W,simprocAttr,xk B6 [3,2,1,2,2,2,1,2,2,1,2,2,1,2,2,2,2,2,2,2,2,2,2,2] .sk rfl,z,n,h4,e,f,y]
    try simp only [NM,EE] at hJ
    exact hJ
noncomputable def f6_l9_b (k:Nat) (i a b j c d e:Int) (l:List T54) (m:List Int) (o:List T44) (p:List T47) (q:List T56) (s t:List T44) (f:List Int) (g:List (T44×Int)) (h:List (T44×Bool)):Option R6_l9 :=
 cond ((decide (b<a)))
  (f6_l9_j1 k i a b true j c d e l m o p q s t f g h)
  (some (.o2 i a b false j c d e l m o p q s t f g h))
theorem f6_l9_b_ok (k i d e j a b c l m o p q s t f g h r) (u:f6_l9_b k i d e j a b c l m o p q s t f g h=some r):EX 6 k (nav B6 [1,2,2,1,2,2,2,2,2,2,2,2,2,2,2]) (⟨227,[(2,.ptr 30000 0),(3,.ptr 30004 0),(5,.ptr 30006 0),(7,V.mp 30011),(13,V.mp 30012),(16,jI i),(136,.own 30005),(137,jI d),(138,jI e)],[(30000,.box 28 [jI j,jI a,.own 30001,.own 30002,jI b,.own 30003,jI c]),(30001,.row false 6 54 (rowsOf encT54 l)),(30002,.row false 1 3 (rowsOf (encI .i64) m)),(30003,.row false 3 44 (rowsOf encT44 o)),(30004,.box 31 [.own 30005]),(30005,.row false 11 47 (rowsOf encT47 p)),(30006,.box 37 [.own 30007,.own 30008,.own 30009,.own 30010]),(30007,.row true 5 56 (rowsOf encT56 q)),(30008,.row true 3 44 (rowsOf encT44 s)),(30009,.row true 3 44 (rowsOf encT44 t)),(30010,.row true 1 3 (rowsOf (encI .i64) f)),(30011,O.mp 3 (mpC mk65 mv65 g)),(30012,O.mp 3 (mpC mk66 mv66 h))]⟩:St)=some r.st:=by
 unfold f6_l9_b at u
 simp only [W,simprocAttr,sr 6 29 B6 [1,2,2,1,2,2,2,2,2,2,2,2,2,2,2] rfl rfl rfl,xk B6 [2,1,2,2,1,2,2,2,2,2,2,2,2,2,2,2] .sq rfl,xk B6 [1,2,1,2,2,1,2,2,2,2,2,2,2,2,2,2,2] (.cd 139) rfl]
 rcases cond_some u with ⟨v,u⟩ | ⟨v,u⟩
 ·have hJ:=f6_l9_j1_ok k i d e true j a b c l m o p q s t f g h _ u
  simp only [W,simprocAttr,xk B6 [2,1,2,1,2,2,1,2,2,2,2,2,2,2,2,2,2,2] .sk rfl,v]
  try simp only [NM,EE] at hJ
  exact hJ
 ·cases u
  simp only [W,simprocAttr,xk B6 [3,1,2,1,2,2,1,2,2,2,2,2,2,2,2,2,2,2] (.ex 6) rfl,R6_l9.st,v]
noncomputable def f6_l9 (k:Nat):Nat→Int→Int→Int→Int→Int→Int→Int→(List T54)→(List Int)→(List T44)→(List T47)→(List T56)→(List T44)→(List T44)→(List Int)→(List (T44×Int))→(List (T44×Bool))→Option R6_l9
 | 0,_,_,_,_,_,_,_,_,_,_,_,_,_,_,_,_,_=>none
 | n+1,ad,x,z,ae,h,i,j,af,ag,ah,ai,aj,ak,al,r,aa,ab=>Option.bind (f6_l9_b k ad x z ae h i j af ag ah ai aj ak al r aa ab) fun o =>
  match o with
  | .o0 y=>some (.o0 y)
  | .o1 y l m p q s t u v w a b c d e f g=>f6_l9 k n y l m p q s t u v w a b c d e f g
  | .o2 y l m p q s t u v w a b c d e f g ac=>some (.o2 y l m p q s t u v w a b c d e f g ac)
theorem f6_l9_ok (k n:Nat):∀ (j d e l a b c:Int) (m:List T54) (p:List Int) (q:List T44) (s:List T47) (t:List T56) (u v:List T44) (f:List Int) (g:List (T44×Int)) (i:List (T44×Bool)) (r:R6_l9) (w:f6_l9 k n j d e l a b c m p q s t u v f g i=some r) (σ:St) (hσ:headR (hints.head 6 29) (hints.canon 6 29) σ=some (⟨227,[(2,.ptr 30000 0),(3,.ptr 30004 0),(5,.ptr 30006 0),(7,V.mp 30011),(13,V.mp 30012),(16,jI j),(136,.own 30005),(137,jI d),(138,jI e)],[(30000,.box 28 [jI l,jI a,.own 30001,.own 30002,jI b,.own 30003,jI c]),(30001,.row false 6 54 (rowsOf encT54 m)),(30002,.row false 1 3 (rowsOf (encI .i64) p)),(30003,.row false 3 44 (rowsOf encT44 q)),(30004,.box 31 [.own 30005]),(30005,.row false 11 47 (rowsOf encT47 s)),(30006,.box 37 [.own 30007,.own 30008,.own 30009,.own 30010]),(30007,.row true 5 56 (rowsOf encT56 t)),(30008,.row true 3 44 (rowsOf encT44 u)),(30009,.row true 3 44 (rowsOf encT44 v)),(30010,.row true 1 3 (rowsOf (encI .i64) f)),(30011,O.mp 3 (mpC mk65 mv65 g)),(30012,O.mp 3 (mpC mk66 mv66 i))]⟩:St)),LP 6 k (nav B6 [1,2,2,1,2,2,2,2,2,2,2,2,2,2,2]) n σ=some r.st:=by
 induction n with
 | zero=>intro j d e l a b c m p q s t u v f g i r w;cases w
 | succ n ih =>
  intro j d e l a b c m p q s t u v f g i r w σ hσ
  rw [f6_l9] at w
  obtain ⟨o,h,w⟩:=Option.bind_eq_some_iff.1 w
  have hB:=f6_l9_b_ok k j d e l a b c m p q s t u v f g i o h
  unfold LP at ih ⊢
  unfold EX at hB
  rw [loopK_succ,show firstReg (nav B6 [1,2,2,1,2,2,2,2,2,2,2,2,2,2,2])=29 from rfl,hσ,headK_some,hB]
  cases o with
  | o0 y=>cases w;rfl
  | o1 y af ag ah ai aj ak al am an x z aa ab ac ad ae =>
   refine ih y af ag ah ai aj ak al am an x z aa ab ac ad ae r w _ ?_
   simp only [W,simprocAttr,hh_6_29,hc_6_29]
  | o2 y af ag ah ai aj ak al am an x z aa ab ac ad ae ap=>cases w;rfl
inductive R6_l11 where
 | o0 (y:Bool)
 | o1 (y:Int) (h:List Int) (i j l m o p:Int) (q:List T54) (s:List Int) (a:List T44) (b:List T47) (c:List T56) (d e:List T44) (f:List Int) (g:List (T44×Int))
 | o2 (y:Int) (h:List Int) (i j:Int) (l:Bool) (m o p q:Int) (s:List T54) (a:List Int) (b:List T44) (c:List T47) (d:List T56) (e f:List T44) (g:List Int) (t:List (T44×Int))
noncomputable def R6_l11.st:R6_l11→Out×St
 | .o0 y=>(.ret,(⟨227,[(4,jT y)],[]⟩:St))
 | .o1 y h i j l m o p q s a b c d e f g=>(.norm,(⟨227,[(2,.ptr 30000 0),(3,.ptr 30004 0),(5,.ptr 30006 0),(7,V.mp 30011),(16,jI y),(20,.sl 1 (rowsOf (encI .i64) h)),(170,.own 30007),(171,jI i),(172,jI j)],[(30000,.box 28 [jI l,jI m,.own 30001,.own 30002,jI o,.own 30003,jI p]),(30001,.row false 6 54 (rowsOf encT54 q)),(30002,.row false 1 3 (rowsOf (encI .i64) s)),(30003,.row false 3 44 (rowsOf encT44 a)),(30004,.box 31 [.own 30005]),(30005,.row false 11 47 (rowsOf encT47 b)),(30006,.box 37 [.own 30007,.own 30008,.own 30009,.own 30010]),(30007,.row true 5 56 (rowsOf encT56 c)),(30008,.row true 3 44 (rowsOf encT44 d)),(30009,.row true 3 44 (rowsOf encT44 e)),(30010,.row true 1 3 (rowsOf (encI .i64) f)),(30011,O.mp 3 (mpC mk65 mv65 g))]⟩:St))
 | .o2 y h i j l m o p q s a b c d e f g t=>(.exit 8,(⟨227,[(2,.ptr 30000 0),(3,.ptr 30004 0),(5,.ptr 30006 0),(7,V.mp 30011),(16,jI y),(20,.sl 1 (rowsOf (encI .i64) h)),(170,.own 30007),(171,jI i),(172,jI j),(173,jT l)],[(30000,.box 28 [jI m,jI o,.own 30001,.own 30002,jI p,.own 30003,jI q]),(30001,.row false 6 54 (rowsOf encT54 s)),(30002,.row false 1 3 (rowsOf (encI .i64) a)),(30003,.row false 3 44 (rowsOf encT44 b)),(30004,.box 31 [.own 30005]),(30005,.row false 11 47 (rowsOf encT47 c)),(30006,.box 37 [.own 30007,.own 30008,.own 30009,.own 30010]),(30007,.row true 5 56 (rowsOf encT56 d)),(30008,.row true 3 44 (rowsOf encT44 e)),(30009,.row true 3 44 (rowsOf encT44 f)),(30010,.row true 1 3 (rowsOf (encI .i64) g)),(30011,O.mp 3 (mpC mk65 mv65 t))]⟩:St))
noncomputable def f6_l11_j3 (k:Nat) (h:Int) (i:List Int) (d e:Int) (u:Bool) (j a b c:Int) (l:List T54) (m:List Int) (o:List T44) (p:List T47) (q:List T56) (s t:List T44) (f:List Int) (g:List (T44×Int)):Option R6_l11 :=
 some (.o1 h i d (IntKind.i64.wrap (e+(1:Int))) j a b c l m o p q s t f g)
theorem f6_l11_j3_ok (k i j d e f l a b c m o p q s t u g h r) (v:f6_l11_j3 k i j d e f l a b c m o p q s t u g h=some r):EX 6 k (nav B6 [2,2,2,1,2,2,1,2,2,2,2,2,2,2,2,2,2,2,2,2]) (⟨227,[(2,.ptr 30000 0),(3,.ptr 30004 0),(5,.ptr 30006 0),(7,V.mp 30011),(16,jI i),(20,.sl 1 (rowsOf (encI .i64) j)),(170,.own 30007),(171,jI d),(172,jI e),(197,jT f)],[(30000,.box 28 [jI l,jI a,.own 30001,.own 30002,jI b,.own 30003,jI c]),(30001,.row false 6 54 (rowsOf encT54 m)),(30002,.row false 1 3 (rowsOf (encI .i64) o)),(30003,.row false 3 44 (rowsOf encT44 p)),(30004,.box 31 [.own 30005]),(30005,.row false 11 47 (rowsOf encT47 q)),(30006,.box 37 [.own 30007,.own 30008,.own 30009,.own 30010]),(30007,.row true 5 56 (rowsOf encT56 s)),(30008,.row true 3 44 (rowsOf encT44 t)),(30009,.row true 3 44 (rowsOf encT44 u)),(30010,.row true 1 3 (rowsOf (encI .i64) g)),(30011,O.mp 3 (mpC mk65 mv65 h))]⟩:St)=some r.st:=by
 unfold f6_l11_j3 at v
 cases v
 simp only [W,simprocAttr,rg B6 [2,2,2,1,2,2,1,2,2,2,2,2,2,2,2,2,2,2,2,2] 49 false rfl,hr 6 49 rfl,R6_l11.st]
noncomputable def f6_l11_j2 (k:Nat) (w:Int) (ac:List Int) (e f:Int) (aj:Bool) (x a b c:Int) (i:List T54) (y:List Int) (z:List T44) (r:List T47) (n:List T56) (aa ab:List T44) (g:List Int) (h:List (T44×Int)) (ak ad ae af j ag l m o p q s t u v:Int) (d:List Int):Option R6_l11 :=
 Option.bind (f15 k ag l m o p q s t u v d) fun o1 =>
  match o1 with
  | .o0 v4 =>
   Option.bind (f16 k a i ac j v4) fun o5 =>
    match o5 with
    | .o0 v8 v9 =>
     cond ((v9 != 0))
      (some (.o0 false))
      (f6_l11_j3 k w v8 e f false x a b c i y z r n aa ab g h)
    | .o1 ah ai =>
     cond ((ah != 0))
      (some (.o0 false))
      (f6_l11_j3 k w ai e f false x a b c i y z r n aa ab g h)
theorem f6_l11_j2_ok (k ab ak u v aj ac a b c y ad ae af ag ah ai w x ao z n aa h al i j l m o p q s t d r) (e:f6_l11_j2 k ab ak u v aj ac a b c y ad ae af ag ah ai w x ao z n aa h al i j l m o p q s t d=some r):SQ 6 k (nav B6 [2,2,2,1,2,2,1,2,2,2,2,2,2,2,2,2,2,2,2,2]) (blockK 9 (EX 6 k (nav B6 [2,2,2,2,1,2,2,1,2,2,1,2,2,2,2,2,2,2,2,2,2,2,2,2]) (⟨227,[(2,.ptr 30000 0),(3,.ptr 30004 0),(5,.ptr 30006 0),(7,V.mp 30011),(16,jI ab),(20,.sl 1 (rowsOf (encI .i64) ak)),(22,.ptr 22 0),(23,.ptr 23 0),(170,.own 30007),(171,jI u),(172,jI v),(184,jT aj)],[(30000,.box 28 [jI ac,jI a,.own 30001,.own 30002,jI b,.own 30003,jI c]),(30001,.row false 6 54 (rowsOf encT54 y)),(30002,.row false 1 3 (rowsOf (encI .i64) ad)),(30003,.row false 3 44 (rowsOf encT44 ae)),(30004,.box 31 [.own 30005]),(30005,.row false 11 47 (rowsOf encT47 af)),(30006,.box 37 [.own 30007,.own 30008,.own 30009,.own 30010]),(30007,.row true 5 56 (rowsOf encT56 ag)),(30008,.row true 3 44 (rowsOf encT44 ah)),(30009,.row true 3 44 (rowsOf encT44 ai)),(30010,.row true 1 3 (rowsOf (encI .i64) w)),(30011,O.mp 3 (mpC mk65 mv65 x)),(22,.box 56 [jI ao,jU z,jI n,jI aa,jI h]),(23,.box 47 [jI al,jI i,jU j,jI l,jI m,jI o,jI p,jI q,jI s,jI t,jB d])]⟩:St)))=some r.st:=by
 unfold f6_l11_j2 at e
 obtain ⟨o1,h2,e⟩:=bs e
 have f:=f15_ok k al i j l m o p q s t d _ h2
 cases o1 with
 | o0 v4 =>
  (try dsimp only at e)
  (try simp only [NM,EE,R15.st] at f)
  simp (disch:=first|decide|apply K;kernel_rfl) only [W,simprocAttr,xk B6 [2,2,2,2,1,2,2,1,2,2,1,2,2,2,2,2,2,2,2,2,2,2,2,2] .sq rfl,rg B6 [1,2,2,2,2,1,2,2,1,2,2,1,2,2,2,2,2,2,2,2,2,2,2,2,2] 46 true rfl,hr_6_46,fieldAddrV,t_28,t_24,t_56,t_3,t_47,callStep,CL,gv,List.contains,f]
  obtain ⟨o5,h6,e⟩:=bs e
  have g:=f16_ok k a y ak h v4 _ h6
  cases o5 with
  | o0 v8 v9 =>
   (try dsimp only at e)
   (try simp only [NM,EE,R16.st] at g)
   simp (disch:=first|decide|apply K;kernel_rfl) only [W,simprocAttr,sr 6 47 B6 [2,2,2,2,2,1,2,2,1,2,2,1,2,2,2,2,2,2,2,2,2,2,2,2,2] rfl rfl rfl,xk B6 [2,2,2,2,2,2,1,2,2,1,2,2,1,2,2,2,2,2,2,2,2,2,2,2,2,2] (.cd 197) rfl,f,g]
   rcases cond_some e with ⟨am,e⟩ | ⟨am,e⟩
   ·cases e
    simp (disch:=first|decide|apply K;kernel_rfl) only [W,simprocAttr,sr 6 48 B6 [2,2,2,2,2,2,2,1,2,2,1,2,2,1,2,2,2,2,2,2,2,2,2,2,2,2,2] rfl rfl rfl,xk B6 [2,2,2,2,2,2,2,2,1,2,2,1,2,2,1,2,2,2,2,2,2,2,2,2,2,2,2,2] .rt rfl,R6_l11.st,f,g,am]
   ·have hJ:=f6_l11_j3_ok k ab v8 u v false ac a b c y ad ae af ag ah ai w x _ e
    simp (disch:=first|decide|apply K;kernel_rfl) only [W,simprocAttr,xk B6 [3,2,2,2,2,2,2,1,2,2,1,2,2,1,2,2,2,2,2,2,2,2,2,2,2,2,2] .sk rfl,f,g,am]
    try simp only [NM,EE] at hJ
    exact hJ
  | o1 aw ap =>
   (try dsimp only at e)
   (try simp only [NM,EE,R16.st] at g)
   simp (disch:=first|decide|apply K;kernel_rfl) only [W,simprocAttr,sr 6 47 B6 [2,2,2,2,2,1,2,2,1,2,2,1,2,2,2,2,2,2,2,2,2,2,2,2,2] rfl rfl rfl,xk B6 [2,2,2,2,2,2,1,2,2,1,2,2,1,2,2,2,2,2,2,2,2,2,2,2,2,2] (.cd 197) rfl,f,g]
   rcases cond_some e with ⟨an,e⟩ | ⟨an,e⟩
   ·cases e
    simp (disch:=first|decide|apply K;kernel_rfl) only [W,simprocAttr,sr 6 48 B6 [2,2,2,2,2,2,2,1,2,2,1,2,2,1,2,2,2,2,2,2,2,2,2,2,2,2,2] rfl rfl rfl,xk B6 [2,2,2,2,2,2,2,2,1,2,2,1,2,2,1,2,2,2,2,2,2,2,2,2,2,2,2,2] .rt rfl,R6_l11.st,f,g,an]
   ·have hJ:=f6_l11_j3_ok k ab ap u v false ac a b c y ad ae af ag ah ai w x _ e
    simp (disch:=first|decide|apply K;kernel_rfl) only [W,simprocAttr,xk B6 [3,2,2,2,2,2,2,1,2,2,1,2,2,1,2,2,2,2,2,2,2,2,2,2,2,2,2] .sk rfl,f,g,an]
    try simp only [NM,EE] at hJ
    exact hJ
noncomputable def f6_l11_j1 (k:Nat) (l:Int) (m:List Int) (g a:Int) (ad:Bool) (o c d e:Int) (p:List T54) (q:List Int) (s:List T44) (h:List T47) (f:List T56) (t u:List T44) (i:List Int) (j:List (T44×Int)):Option R6_l11 :=
 ifE ((0:Int)≤a) (
  ifE (a<((List.length f):Int)) (
   Option.bind (f[(Int.toNat a)]?) fun b =>
    Option.bind (f13 k h b.Key_Source b.Key_Seq b.Key_Offset) fun o5 =>
     match o5 with
     | .o0 v8 v9 v w x y z r n aa ab ac =>
      cond ((ac != 0))
       (some (.o0 false))
       (f6_l11_j2 k l m g a false o c d e p q s h f t u i j b.Key_Source b.Key_Seq b.Key_Offset b.To b.Contact v8 v9 v w x y z r n aa ab)))
theorem f6_l11_j1_ok (k o p e f l q a b c s t u i v w x g h r) (d:f6_l11_j1 k o p e f l q a b c s t u i v w x g h=some r):EX 6 k (nav B6 [2,2,1,2,2,1,2,2,2,2,2,2,2,2,2,2,2,2,2]) (⟨227,[(2,.ptr 30000 0),(3,.ptr 30004 0),(5,.ptr 30006 0),(7,V.mp 30011),(16,jI o),(20,.sl 1 (rowsOf (encI .i64) p)),(170,.own 30007),(171,jI e),(172,jI f),(173,jT l)],[(30000,.box 28 [jI q,jI a,.own 30001,.own 30002,jI b,.own 30003,jI c]),(30001,.row false 6 54 (rowsOf encT54 s)),(30002,.row false 1 3 (rowsOf (encI .i64) t)),(30003,.row false 3 44 (rowsOf encT44 u)),(30004,.box 31 [.own 30005]),(30005,.row false 11 47 (rowsOf encT47 i)),(30006,.box 37 [.own 30007,.own 30008,.own 30009,.own 30010]),(30007,.row true 5 56 (rowsOf encT56 v)),(30008,.row true 3 44 (rowsOf encT44 w)),(30009,.row true 3 44 (rowsOf encT44 x)),(30010,.row true 1 3 (rowsOf (encI .i64) g)),(30011,O.mp 3 (mpC mk65 mv65 h))]⟩:St)=some r.st:=by
 unfold f6_l11_j1 at d
 obtain ⟨z,d⟩:=ifE_some.1 d
 obtain ⟨n,d⟩:=ifE_some.1 d
 obtain ⟨m,h4,d⟩:=bs d
 obtain ⟨o5,h6,d⟩:=bs d
 have j:=f13_ok k i m.Key_Source m.Key_Seq m.Key_Offset _ h6
 cases o5 with
 | o0 v8 v9 ab ac ad ae af ag ah ai aj an =>
  (try dsimp only at d)
  (try simp only [NM,EE,R13.st] at j)
  simp only [W,simprocAttr,xk B6 [2,2,1,2,2,1,2,2,2,2,2,2,2,2,2,2,2,2,2] .sq rfl,xk B6 [1,2,2,1,2,2,1,2,2,2,2,2,2,2,2,2,2,2,2,2] (.bk 9) rfl,sr 6 42 B6 [2,1,2,2,1,2,2,1,2,2,2,2,2,2,2,2,2,2,2,2,2] rfl rfl rfl,indexAddrV,t_35,t_56,encT56_eq,sr 6 43 B6 [2,2,1,2,2,1,2,2,1,2,2,2,2,2,2,2,2,2,2,2,2,2] rfl rfl rfl,t_31,fieldAddrV,t_44,callStep,CL,gv,List.contains,t_47,xk B6 [2,2,2,1,2,2,1,2,2,1,2,2,2,2,2,2,2,2,2,2,2,2,2] .sq rfl,sr 6 44 B6 [1,2,2,2,1,2,2,1,2,2,1,2,2,2,2,2,2,2,2,2,2,2,2,2] rfl rfl rfl,xk B6 [2,1,2,2,2,1,2,2,1,2,2,1,2,2,2,2,2,2,2,2,2,2,2,2,2] (.cd 184) rfl,z,n,h4,j]
  rcases cond_some d with ⟨y,d⟩ | ⟨y,d⟩
  ·cases d
   simp only [W,simprocAttr,sr 6 45 B6 [2,2,1,2,2,2,1,2,2,1,2,2,1,2,2,2,2,2,2,2,2,2,2,2,2,2] rfl rfl rfl,xk B6 [2,2,2,1,2,2,2,1,2,2,1,2,2,1,2,2,2,2,2,2,2,2,2,2,2,2,2] .rt rfl,R6_l11.st,z,n,h4,j,y]
  ·have hJ:=f6_l11_j2_ok k o p e f false q a b c s t u i v w x g h m.Key_Source m.Key_Seq m.Key_Offset m.To m.Contact v8 v9 ab ac ad ae af ag ah ai aj _ d
   simp only [W,simprocAttr,xk B6 [3,2,1,2,2,2,1,2,2,1,2,2,1,2,2,2,2,2,2,2,2,2,2,2,2,2] .sk rfl,z,n,h4,j,y]
   try simp only [NM,EE] at hJ
   exact hJ
noncomputable def f6_l11_b (k:Nat) (h:Int) (i:List Int) (a b j c d e:Int) (l:List T54) (m:List Int) (o:List T44) (p:List T47) (q:List T56) (s t:List T44) (f:List Int) (g:List (T44×Int)):Option R6_l11 :=
 cond ((decide (b<a)))
  (f6_l11_j1 k h i a b true j c d e l m o p q s t f g)
  (some (.o2 h i a b false j c d e l m o p q s t f g))
theorem f6_l11_b_ok (k h i d e j a b c l m o p q s t f g r) (u:f6_l11_b k h i d e j a b c l m o p q s t f g=some r):EX 6 k (nav B6 [1,2,2,1,2,2,2,2,2,2,2,2,2,2,2,2,2]) (⟨227,[(2,.ptr 30000 0),(3,.ptr 30004 0),(5,.ptr 30006 0),(7,V.mp 30011),(16,jI h),(20,.sl 1 (rowsOf (encI .i64) i)),(170,.own 30007),(171,jI d),(172,jI e)],[(30000,.box 28 [jI j,jI a,.own 30001,.own 30002,jI b,.own 30003,jI c]),(30001,.row false 6 54 (rowsOf encT54 l)),(30002,.row false 1 3 (rowsOf (encI .i64) m)),(30003,.row false 3 44 (rowsOf encT44 o)),(30004,.box 31 [.own 30005]),(30005,.row false 11 47 (rowsOf encT47 p)),(30006,.box 37 [.own 30007,.own 30008,.own 30009,.own 30010]),(30007,.row true 5 56 (rowsOf encT56 q)),(30008,.row true 3 44 (rowsOf encT44 s)),(30009,.row true 3 44 (rowsOf encT44 t)),(30010,.row true 1 3 (rowsOf (encI .i64) f)),(30011,O.mp 3 (mpC mk65 mv65 g))]⟩:St)=some r.st:=by
 unfold f6_l11_b at u
 simp only [W,simprocAttr,sr 6 41 B6 [1,2,2,1,2,2,2,2,2,2,2,2,2,2,2,2,2] rfl rfl rfl,xk B6 [2,1,2,2,1,2,2,2,2,2,2,2,2,2,2,2,2,2] .sq rfl,xk B6 [1,2,1,2,2,1,2,2,2,2,2,2,2,2,2,2,2,2,2] (.cd 173) rfl]
 rcases cond_some u with ⟨v,u⟩ | ⟨v,u⟩
 ·have hJ:=f6_l11_j1_ok k h i d e true j a b c l m o p q s t f g _ u
  simp only [W,simprocAttr,xk B6 [2,1,2,1,2,2,1,2,2,2,2,2,2,2,2,2,2,2,2,2] .sk rfl,v]
  try simp only [NM,EE] at hJ
  exact hJ
 ·cases u
  simp only [W,simprocAttr,xk B6 [3,1,2,1,2,2,1,2,2,2,2,2,2,2,2,2,2,2,2,2] (.ex 8) rfl,R6_l11.st,v]
noncomputable def f6_l11 (k:Nat):Nat→Int→(List Int)→Int→Int→Int→Int→Int→Int→(List T54)→(List Int)→(List T44)→(List T47)→(List T56)→(List T44)→(List T44)→(List Int)→(List (T44×Int))→Option R6_l11
 | 0,_,_,_,_,_,_,_,_,_,_,_,_,_,_,_,_,_=>none
 | n+1,ac,ad,x,z,ae,h,i,j,af,ag,ah,ai,aj,ak,al,r,aa=>Option.bind (f6_l11_b k ac ad x z ae h i j af ag ah ai aj ak al r aa) fun o =>
  match o with
  | .o0 y=>some (.o0 y)
  | .o1 y l m p q s t u v w a b c d e f g=>f6_l11 k n y l m p q s t u v w a b c d e f g
  | .o2 y l m p q s t u v w a b c d e f g ab=>some (.o2 y l m p q s t u v w a b c d e f g ab)
theorem f6_l11_ok (k n:Nat):∀ (i:Int) (j:List Int) (d e l a b c:Int) (m:List T54) (p:List Int) (q:List T44) (s:List T47) (t:List T56) (u v:List T44) (f:List Int) (g:List (T44×Int)) (r:R6_l11) (w:f6_l11 k n i j d e l a b c m p q s t u v f g=some r) (σ:St) (hσ:headR (hints.head 6 41) (hints.canon 6 41) σ=some (⟨227,[(2,.ptr 30000 0),(3,.ptr 30004 0),(5,.ptr 30006 0),(7,V.mp 30011),(16,jI i),(20,.sl 1 (rowsOf (encI .i64) j)),(170,.own 30007),(171,jI d),(172,jI e)],[(30000,.box 28 [jI l,jI a,.own 30001,.own 30002,jI b,.own 30003,jI c]),(30001,.row false 6 54 (rowsOf encT54 m)),(30002,.row false 1 3 (rowsOf (encI .i64) p)),(30003,.row false 3 44 (rowsOf encT44 q)),(30004,.box 31 [.own 30005]),(30005,.row false 11 47 (rowsOf encT47 s)),(30006,.box 37 [.own 30007,.own 30008,.own 30009,.own 30010]),(30007,.row true 5 56 (rowsOf encT56 t)),(30008,.row true 3 44 (rowsOf encT44 u)),(30009,.row true 3 44 (rowsOf encT44 v)),(30010,.row true 1 3 (rowsOf (encI .i64) f)),(30011,O.mp 3 (mpC mk65 mv65 g))]⟩:St)),LP 6 k (nav B6 [1,2,2,1,2,2,2,2,2,2,2,2,2,2,2,2,2]) n σ=some r.st:=by
 induction n with
 | zero=>intro i j d e l a b c m p q s t u v f g r w;cases w
 | succ n ih =>
  intro i j d e l a b c m p q s t u v f g r w σ hσ
  rw [f6_l11] at w
  obtain ⟨o,h,w⟩:=Option.bind_eq_some_iff.1 w
  have hB:=f6_l11_b_ok k i j d e l a b c m p q s t u v f g o h
  unfold LP at ih ⊢
  unfold EX at hB
  rw [loopK_succ,show firstReg (nav B6 [1,2,2,1,2,2,2,2,2,2,2,2,2,2,2,2,2])=41 from rfl,hσ,headK_some,hB]
  cases o with
  | o0 y=>cases w;rfl
  | o1 y af ag ah ai aj ak al am an x z aa ab ac ad ae =>
   refine ih y af ag ah ai aj ak al am an x z aa ab ac ad ae r w _ ?_
   simp only [W,simprocAttr,hh_6_41,hc_6_41]
  | o2 y af ag ah ai aj ak al am an x z aa ab ac ad ae ap=>cases w;rfl
inductive R6_l13 where
 | o0 (y:Bool)
 | o1 (y:Int) (g:List Int) (h i j l m o:Int) (p:List T54) (q:List Int) (a:List T44) (b:List T56) (c d:List T44) (e:List Int) (f:List (T44×Int))
 | o2 (y:Int) (g:List Int) (h i:Int) (j:Bool) (l m o p:Int) (q:List T54) (a:List Int) (b:List T44) (c:List T56) (d e:List T44) (f:List Int) (s:List (T44×Int))
noncomputable def R6_l13.st:R6_l13→Out×St
 | .o0 y=>(.ret,(⟨227,[(4,jT y)],[]⟩:St))
 | .o1 y g h i j l m o p q a b c d e f=>(.norm,(⟨227,[(2,.ptr 30000 0),(5,.ptr 30004 0),(7,V.mp 30009),(16,jI y),(20,.sl 1 (rowsOf (encI .i64) g)),(200,jI h),(201,jI i)],[(30000,.box 28 [jI j,jI l,.own 30001,.own 30002,jI m,.own 30003,jI o]),(30001,.row false 6 54 (rowsOf encT54 p)),(30002,.row false 1 3 (rowsOf (encI .i64) q)),(30003,.row false 3 44 (rowsOf encT44 a)),(30004,.box 37 [.own 30005,.own 30006,.own 30007,.own 30008]),(30005,.row true 5 56 (rowsOf encT56 b)),(30006,.row true 3 44 (rowsOf encT44 c)),(30007,.row true 3 44 (rowsOf encT44 d)),(30008,.row true 1 3 (rowsOf (encI .i64) e)),(30009,O.mp 3 (mpC mk65 mv65 f))]⟩:St))
 | .o2 y g h i j l m o p q a b c d e f s=>(.exit 10,(⟨227,[(2,.ptr 30000 0),(5,.ptr 30004 0),(7,V.mp 30009),(16,jI y),(20,.sl 1 (rowsOf (encI .i64) g)),(200,jI h),(201,jI i),(202,jT j)],[(30000,.box 28 [jI l,jI m,.own 30001,.own 30002,jI o,.own 30003,jI p]),(30001,.row false 6 54 (rowsOf encT54 q)),(30002,.row false 1 3 (rowsOf (encI .i64) a)),(30003,.row false 3 44 (rowsOf encT44 b)),(30004,.box 37 [.own 30005,.own 30006,.own 30007,.own 30008]),(30005,.row true 5 56 (rowsOf encT56 c)),(30006,.row true 3 44 (rowsOf encT44 d)),(30007,.row true 3 44 (rowsOf encT44 e)),(30008,.row true 1 3 (rowsOf (encI .i64) f)),(30009,O.mp 3 (mpC mk65 mv65 s))]⟩:St))
noncomputable def f6_l13_j2 (k:Nat) (f:Int) (g:List Int) (d e:Int) (t:Bool) (h a b c:Int) (i:List T54) (j:List Int) (l:List T44) (m:List T56) (o p:List T44) (q:List Int) (s:List (T44×Int)):Option R6_l13 :=
 some (.o1 f g d (IntKind.i64.wrap (e+(1:Int))) h a b c i j l m o p q s)
theorem f6_l13_j2_ok (k g h d e f i a b c j l m o p q s t r) (u:f6_l13_j2 k g h d e f i a b c j l m o p q s t=some r):EX 6 k (nav B6 [2,2,2,1,2,2,1,2,2,2,2,2,2,2,2,2,2,2,2,2,2]) (⟨227,[(2,.ptr 30000 0),(5,.ptr 30004 0),(7,V.mp 30009),(16,jI g),(20,.sl 1 (rowsOf (encI .i64) h)),(200,jI d),(201,jI e),(213,jT f)],[(30000,.box 28 [jI i,jI a,.own 30001,.own 30002,jI b,.own 30003,jI c]),(30001,.row false 6 54 (rowsOf encT54 j)),(30002,.row false 1 3 (rowsOf (encI .i64) l)),(30003,.row false 3 44 (rowsOf encT44 m)),(30004,.box 37 [.own 30005,.own 30006,.own 30007,.own 30008]),(30005,.row true 5 56 (rowsOf encT56 o)),(30006,.row true 3 44 (rowsOf encT44 p)),(30007,.row true 3 44 (rowsOf encT44 q)),(30008,.row true 1 3 (rowsOf (encI .i64) s)),(30009,O.mp 3 (mpC mk65 mv65 t))]⟩:St)=some r.st:=by
 unfold f6_l13_j2 at u
 cases u
 simp only [W,simprocAttr,rg B6 [2,2,2,1,2,2,1,2,2,2,2,2,2,2,2,2,2,2,2,2,2] 55 false rfl,hr 6 55 rfl,R6_l13.st]
noncomputable def f6_l13_j1 (k:Nat) (h:Int) (f:List Int) (g a:Int) (t:Bool) (i b c d:Int) (j:List T54) (l:List Int) (m:List T44) (o:List T56) (p q:List T44) (e:List Int) (s:List (T44×Int)):Option R6_l13 :=
 ifE ((0:Int)≤a) (
  Option.bind (f[(Int.toNat a)]?) fun u =>
   ifE (a<((List.length e):Int)) (
    Option.bind (e[(Int.toNat a)]?) fun v =>
     cond ((u != v))
      (some (.o0 false))
      (f6_l13_j2 k h f g a false i b c d j l m o p q e s)))
theorem f6_l13_j1_ok (k h i e f g j a b c l m o p q s t u r) (d:f6_l13_j1 k h i e f g j a b c l m o p q s t u=some r):EX 6 k (nav B6 [2,2,1,2,2,1,2,2,2,2,2,2,2,2,2,2,2,2,2,2]) (⟨227,[(2,.ptr 30000 0),(5,.ptr 30004 0),(7,V.mp 30009),(16,jI h),(20,.sl 1 (rowsOf (encI .i64) i)),(200,jI e),(201,jI f),(202,jT g)],[(30000,.box 28 [jI j,jI a,.own 30001,.own 30002,jI b,.own 30003,jI c]),(30001,.row false 6 54 (rowsOf encT54 l)),(30002,.row false 1 3 (rowsOf (encI .i64) m)),(30003,.row false 3 44 (rowsOf encT44 o)),(30004,.box 37 [.own 30005,.own 30006,.own 30007,.own 30008]),(30005,.row true 5 56 (rowsOf encT56 p)),(30006,.row true 3 44 (rowsOf encT44 q)),(30007,.row true 3 44 (rowsOf encT44 s)),(30008,.row true 1 3 (rowsOf (encI .i64) t)),(30009,O.mp 3 (mpC mk65 mv65 u))]⟩:St)=some r.st:=by
 unfold f6_l13_j1 at d
 obtain ⟨v,d⟩:=ifE_some.1 d
 obtain ⟨n,w,d⟩:=bs d
 obtain ⟨x,d⟩:=ifE_some.1 d
 obtain ⟨v5,y,d⟩:=bs d
 simp (disch:=first|decide|apply K;kernel_rfl) only [W,simprocAttr,xk B6 [2,2,1,2,2,1,2,2,2,2,2,2,2,2,2,2,2,2,2,2] .sq rfl,xk B6 [1,2,2,1,2,2,1,2,2,2,2,2,2,2,2,2,2,2,2,2,2] (.bk 11) rfl,sr 6 52 B6 [2,1,2,2,1,2,2,1,2,2,2,2,2,2,2,2,2,2,2,2,2,2] rfl rfl rfl,xk B6 [2,2,1,2,2,1,2,2,1,2,2,2,2,2,2,2,2,2,2,2,2,2,2] .sq rfl,rg B6 [1,2,2,1,2,2,1,2,2,1,2,2,2,2,2,2,2,2,2,2,2,2,2,2] 53 true rfl,hr 6 53 rfl,indexAddrV,t_25,t_3,encI_eq,fieldAddrV,t_37,xk B6 [2,2,2,1,2,2,1,2,2,1,2,2,2,2,2,2,2,2,2,2,2,2,2,2] (.cd 213) rfl,v,w,x,y]
 rcases cond_some d with ⟨z,d⟩ | ⟨z,d⟩
 ·cases d
  simp (disch:=first|decide|apply K;kernel_rfl) only [W,simprocAttr,sr 6 54 B6 [2,2,2,2,1,2,2,1,2,2,1,2,2,2,2,2,2,2,2,2,2,2,2,2,2] rfl rfl rfl,xk B6 [2,2,2,2,2,1,2,2,1,2,2,1,2,2,2,2,2,2,2,2,2,2,2,2,2,2] .rt rfl,R6_l13.st,v,w,x,y,z]
 ·have hJ:=f6_l13_j2_ok k h i e f false j a b c l m o p q s t u _ d
  simp (disch:=first|decide|apply K;kernel_rfl) only [W,simprocAttr,xk B6 [3,2,2,2,1,2,2,1,2,2,1,2,2,2,2,2,2,2,2,2,2,2,2,2,2] .sk rfl,v,w,x,y,z]
  try simp only [NM,EE] at hJ
  exact hJ
noncomputable def f6_l13_b (k:Nat) (f:Int) (g:List Int) (a b h c d e:Int) (i:List T54) (j:List Int) (l:List T44) (m:List T56) (o p:List T44) (q:List Int) (s:List (T44×Int)):Option R6_l13 :=
 cond ((decide (b<a)))
  (f6_l13_j1 k f g a b true h c d e i j l m o p q s)
  (some (.o2 f g a b false h c d e i j l m o p q s))
theorem f6_l13_b_ok (k f g d e h a b c i j l m o p q s r) (t:f6_l13_b k f g d e h a b c i j l m o p q s=some r):EX 6 k (nav B6 [1,2,2,1,2,2,2,2,2,2,2,2,2,2,2,2,2,2]) (⟨227,[(2,.ptr 30000 0),(5,.ptr 30004 0),(7,V.mp 30009),(16,jI f),(20,.sl 1 (rowsOf (encI .i64) g)),(200,jI d),(201,jI e)],[(30000,.box 28 [jI h,jI a,.own 30001,.own 30002,jI b,.own 30003,jI c]),(30001,.row false 6 54 (rowsOf encT54 i)),(30002,.row false 1 3 (rowsOf (encI .i64) j)),(30003,.row false 3 44 (rowsOf encT44 l)),(30004,.box 37 [.own 30005,.own 30006,.own 30007,.own 30008]),(30005,.row true 5 56 (rowsOf encT56 m)),(30006,.row true 3 44 (rowsOf encT44 o)),(30007,.row true 3 44 (rowsOf encT44 p)),(30008,.row true 1 3 (rowsOf (encI .i64) q)),(30009,O.mp 3 (mpC mk65 mv65 s))]⟩:St)=some r.st:=by
 unfold f6_l13_b at t
 simp only [W,simprocAttr,sr 6 51 B6 [1,2,2,1,2,2,2,2,2,2,2,2,2,2,2,2,2,2] rfl rfl rfl,xk B6 [2,1,2,2,1,2,2,2,2,2,2,2,2,2,2,2,2,2,2] .sq rfl,xk B6 [1,2,1,2,2,1,2,2,2,2,2,2,2,2,2,2,2,2,2,2] (.cd 202) rfl]
 rcases cond_some t with ⟨u,t⟩ | ⟨u,t⟩
 ·have hJ:=f6_l13_j1_ok k f g d e true h a b c i j l m o p q s _ t
  simp only [W,simprocAttr,xk B6 [2,1,2,1,2,2,1,2,2,2,2,2,2,2,2,2,2,2,2,2,2] .sk rfl,u]
  try simp only [NM,EE] at hJ
  exact hJ
 ·cases t
  simp only [W,simprocAttr,xk B6 [3,1,2,1,2,2,1,2,2,2,2,2,2,2,2,2,2,2,2,2,2] (.ex 10) rfl,R6_l13.st,u]
noncomputable def f6_l13 (k:Nat):Nat→Int→(List Int)→Int→Int→Int→Int→Int→Int→(List T54)→(List Int)→(List T44)→(List T56)→(List T44)→(List T44)→(List Int)→(List (T44×Int))→Option R6_l13
 | 0,_,_,_,_,_,_,_,_,_,_,_,_,_,_,_,_=>none
 | n+1,r,aa,w,x,ab,g,h,i,ac,ad,ae,af,ag,ah,ai,aj=>Option.bind (f6_l13_b k r aa w x ab g h i ac ad ae af ag ah ai aj) fun o =>
  match o with
  | .o0 y=>some (.o0 y)
  | .o1 y j l m p q s t u v a b c d e f=>f6_l13 k n y j l m p q s t u v a b c d e f
  | .o2 y j l m p q s t u v a b c d e f z=>some (.o2 y j l m p q s t u v a b c d e f z)
theorem f6_l13_ok (k n:Nat):∀ (f:Int) (g:List Int) (d e i a b c:Int) (j:List T54) (l:List Int) (m:List T44) (p:List T56) (q s:List T44) (t:List Int) (u:List (T44×Int)) (r:R6_l13) (v:f6_l13 k n f g d e i a b c j l m p q s t u=some r) (σ:St) (hσ:headR (hints.head 6 51) (hints.canon 6 51) σ=some (⟨227,[(2,.ptr 30000 0),(5,.ptr 30004 0),(7,V.mp 30009),(16,jI f),(20,.sl 1 (rowsOf (encI .i64) g)),(200,jI d),(201,jI e)],[(30000,.box 28 [jI i,jI a,.own 30001,.own 30002,jI b,.own 30003,jI c]),(30001,.row false 6 54 (rowsOf encT54 j)),(30002,.row false 1 3 (rowsOf (encI .i64) l)),(30003,.row false 3 44 (rowsOf encT44 m)),(30004,.box 37 [.own 30005,.own 30006,.own 30007,.own 30008]),(30005,.row true 5 56 (rowsOf encT56 p)),(30006,.row true 3 44 (rowsOf encT44 q)),(30007,.row true 3 44 (rowsOf encT44 s)),(30008,.row true 1 3 (rowsOf (encI .i64) t)),(30009,O.mp 3 (mpC mk65 mv65 u))]⟩:St)),LP 6 k (nav B6 [1,2,2,1,2,2,2,2,2,2,2,2,2,2,2,2,2,2]) n σ=some r.st:=by
 induction n with
 | zero=>intro f g d e i a b c j l m p q s t u r v;cases v
 | succ n ih =>
  intro f g d e i a b c j l m p q s t u r v σ hσ
  rw [f6_l13] at v
  obtain ⟨o,h,v⟩:=Option.bind_eq_some_iff.1 v
  have hB:=f6_l13_b_ok k f g d e i a b c j l m p q s t u o h
  unfold LP at ih ⊢
  unfold EX at hB
  rw [loopK_succ,show firstReg (nav B6 [1,2,2,1,2,2,2,2,2,2,2,2,2,2,2,2,2,2])=51 from rfl,hσ,headK_some,hB]
  cases o with
  | o0 y=>cases v;rfl
  | o1 y ad ae af ag ah ai aj ak al w x z aa ab ac =>
   refine ih y ad ae af ag ah ai aj ak al w x z aa ab ac r v _ ?_
   simp only [W,simprocAttr,hh_6_51,hc_6_51]
  | o2 y ad ae af ag ah ai aj ak al w x z aa ab ac an=>cases v;rfl
noncomputable def f6_j14 (k:Nat) (b:Int) (j:List Int) (g h:Int) (i:Bool) (l c d a:Int) (m:List T54) (o:List Int) (p:List T44) (e:List T56) (q s:List T44) (t:List Int) (f:List (T44×Int)):Option R6 :=
 cond ((decide (((List.length e):Int)≤a)))
  (some (.o0 ((List.length f:Int)==b)))
  (some (.o0 false))
theorem f6_j14_ok (k h i d e f j a b c l m o p q s t u r) (g:f6_j14 k h i d e f j a b c l m o p q s t u=some r):finK Tryd.prog Tryd.f6 0 (EX 6 k (nav B6 [2,2,2,2,2,2,2,2,2,2,2,2,2,2,2]) (⟨227,[(2,.ptr 30000 0),(5,.ptr 30004 0),(7,V.mp 30009),(16,jI h),(20,.sl 1 (rowsOf (encI .i64) i)),(200,jI d),(201,jI e),(202,jT f)],[(30000,.box 28 [jI j,jI a,.own 30001,.own 30002,jI b,.own 30003,jI c]),(30001,.row false 6 54 (rowsOf encT54 l)),(30002,.row false 1 3 (rowsOf (encI .i64) m)),(30003,.row false 3 44 (rowsOf encT44 o)),(30004,.box 37 [.own 30005,.own 30006,.own 30007,.own 30008]),(30005,.row true 5 56 (rowsOf encT56 p)),(30006,.row true 3 44 (rowsOf encT44 q)),(30007,.row true 3 44 (rowsOf encT44 s)),(30008,.row true 1 3 (rowsOf (encI .i64) t)),(30009,O.mp 3 (mpC mk65 mv65 u))]⟩:St))=some r.st:=by
 unfold f6_j14 at g
 simp only [W,simprocAttr,sr 6 56 B6 [2,2,2,2,2,2,2,2,2,2,2,2,2,2,2] rfl rfl rfl,fieldAddrV,t_37,t_35,t_28,t_3]
 rcases cond_some g with ⟨v,g⟩ | ⟨v,g⟩
 ·cases g
  simp only [W,simprocAttr,mpT65,mpOf_mp,mpC_len,xk B6 [2,2,2,2,2,2,2,2,2,2,2,2,2,2,2,2] .rt rfl,fin6,R6.st,v]
 ·cases g
  simp only [W,simprocAttr,xk B6 [2,2,2,2,2,2,2,2,2,2,2,2,2,2,2,2] .rt rfl,fin6,R6.st,v]
noncomputable def f6_j12 (k:Nat) (g:Int) (d:List Int) (ab ac:Int) (ad:Bool) (h a b c:Int) (i:List T54) (j:List Int) (l:List T44) (ae:List T47) (m:List T56) (o p:List T44) (e:List Int) (f:List (T44×Int)):Option R6 :=
 Option.bind (f6_l13 k k g d ((List.length d):Int) 0 h a b c i j l m o p e f) fun o1 =>
  match o1 with
  | .o0 v4 =>
   some (.o0 v4)
  | .o1 _ _ _ _ _ _ _ _ _ _ _ _ _ _ _ _ =>
   none
  | .o2 v5 v6 v7 v8 v9 q s t u v w x y z r n aa =>
   f6_j14 k v5 v6 v7 v8 v9 q s t u v w x y z r n aa
theorem f6_j12_ok (k l f h i j m a b c o p q w s t u d e r) (g:f6_j12 k l f h i j m a b c o p q w s t u d e=some r):finK Tryd.prog Tryd.f6 0 (EX 6 k (nav B6 [2,2,2,2,2,2,2,2,2,2,2,2,2,2]) (⟨227,[(2,.ptr 30000 0),(3,.ptr 30004 0),(5,.ptr 30006 0),(7,V.mp 30011),(16,jI l),(20,.sl 1 (rowsOf (encI .i64) f)),(170,.own 30007),(171,jI h),(172,jI i),(173,jT j)],[(30000,.box 28 [jI m,jI a,.own 30001,.own 30002,jI b,.own 30003,jI c]),(30001,.row false 6 54 (rowsOf encT54 o)),(30002,.row false 1 3 (rowsOf (encI .i64) p)),(30003,.row false 3 44 (rowsOf encT44 q)),(30004,.box 31 [.own 30005]),(30005,.row false 11 47 (rowsOf encT47 w)),(30006,.box 37 [.own 30007,.own 30008,.own 30009,.own 30010]),(30007,.row true 5 56 (rowsOf encT56 s)),(30008,.row true 3 44 (rowsOf encT44 t)),(30009,.row true 3 44 (rowsOf encT44 u)),(30010,.row true 1 3 (rowsOf (encI .i64) d)),(30011,O.mp 3 (mpC mk65 mv65 e))]⟩:St))=some r.st:=by
 unfold f6_j12 at g
 obtain ⟨o1,h2,g⟩:=bs g
 have v:=f6_l13_ok k k l f ((List.length f):Int) 0 m a b c o p q s t u d e _ h2
 simp only [W,simprocAttr,xk B6 [2,2,2,2,2,2,2,2,2,2,2,2,2,2] .sq rfl,sr 6 50 B6 [1,2,2,2,2,2,2,2,2,2,2,2,2,2,2] rfl rfl rfl,t_25,xk B6 [2,1,2,2,2,2,2,2,2,2,2,2,2,2,2,2] (.bk 10) rfl,xk B6 [2,2,1,2,2,2,2,2,2,2,2,2,2,2,2,2,2] .lp rfl,hh_6_51,hc_6_51]
 (try simp only [NM,EE] at v)
 rw [v _ (by simp only [W,simprocAttr,hh_6_51,hc_6_51])]
 clear v
 cases o1 with
 | o0 v4 =>
  (try dsimp only at g)
  cases g
  simp only [W,simprocAttr,R6_l13.st,fin6,R6.st]
 | o1 _ _ _ _ _ _ _ _ _ _ _ _ _ _ _ _ =>
  (try dsimp only at g)
  cases g
 | o2 v5 v6 v7 v8 v9 x y z n aa ab ac ad ae af ag ah =>
  (try dsimp only at g)
  have hJ:=f6_j14_ok k v5 v6 v7 v8 v9 x y z n aa ab ac ad ae af ag ah _ g
  simp only [W,simprocAttr,R6_l13.st]
  try simp only [NM,EE] at hJ
  exact hJ
noncomputable def f6_j10 (k:Nat) (h ad ae:Int) (af:Bool) (i a b c:Int) (j:List T54) (d:List Int) (l:List T44) (m:List T47) (e:List T56) (o p:List T44) (f:List Int) (g:List (T44×Int)) (ag:List (T44×Bool)):Option R6 :=
 ifE ((List.length d) * 8≤roomy) (
  Option.bind (f6_l11 k k h d ((List.length e):Int) 0 i a b c j d l m e o p f g) fun o2 =>
   match o2 with
   | .o0 v5 =>
    some (.o0 v5)
   | .o1 _ _ _ _ _ _ _ _ _ _ _ _ _ _ _ _ _ =>
    none
   | .o2 v6 v7 v8 v9 q s t u v w x y z r n aa ab ac =>
    f6_j12 k v6 v7 v8 v9 q s t u v w x y z r n aa ab ac)
theorem f6_j10_ok (k o i j l p a b c q g s t h u v d e m r) (f:f6_j10 k o i j l p a b c q g s t h u v d e m=some r):finK Tryd.prog Tryd.f6 0 (EX 6 k (nav B6 [2,2,2,2,2,2,2,2,2,2,2,2]) (⟨227,[(2,.ptr 30000 0),(3,.ptr 30004 0),(5,.ptr 30006 0),(7,V.mp 30011),(13,V.mp 30012),(16,jI o),(136,.own 30005),(137,jI i),(138,jI j),(139,jT l)],[(30000,.box 28 [jI p,jI a,.own 30001,.own 30002,jI b,.own 30003,jI c]),(30001,.row false 6 54 (rowsOf encT54 q)),(30002,.row false 1 3 (rowsOf (encI .i64) g)),(30003,.row false 3 44 (rowsOf encT44 s)),(30004,.box 31 [.own 30005]),(30005,.row false 11 47 (rowsOf encT47 t)),(30006,.box 37 [.own 30007,.own 30008,.own 30009,.own 30010]),(30007,.row true 5 56 (rowsOf encT56 h)),(30008,.row true 3 44 (rowsOf encT44 u)),(30009,.row true 3 44 (rowsOf encT44 v)),(30010,.row true 1 3 (rowsOf (encI .i64) d)),(30011,O.mp 3 (mpC mk65 mv65 e)),(30012,O.mp 3 (mpC mk66 mv66 m))]⟩:St))=some r.st:=by
 unfold f6_j10 at f
 obtain ⟨x,f⟩:=ifE_some.1 f
 obtain ⟨o2,h3,f⟩:=bs f
 have w:=f6_l11_ok k k o g ((List.length h):Int) 0 p a b c q g s t h u v d e _ h3
 simp only [W,simprocAttr,xk B6 [2,2,2,2,2,2,2,2,2,2,2,2] .sq rfl,rg B6 [1,2,2,2,2,2,2,2,2,2,2,2,2] 39 false rfl,hr_6_39,buildSliceV,fillRows,sm_3,t_25,t_3,fieldAddrV,t_28,appendV,content,xk B6 [2,2,2,2,2,2,2,2,2,2,2,2,2] .sq rfl,sr 6 40 B6 [1,2,2,2,2,2,2,2,2,2,2,2,2,2] rfl rfl rfl,t_37,t_35,xk B6 [2,1,2,2,2,2,2,2,2,2,2,2,2,2,2] (.bk 8) rfl,xk B6 [2,2,1,2,2,2,2,2,2,2,2,2,2,2,2,2] .lp rfl,hh_6_41,hc_6_41,x]
 (try simp only [NM,EE] at w)
 rw [w _ (by simp only [W,simprocAttr,hh_6_41,hc_6_41,x])]
 clear w
 cases o2 with
 | o0 v5 =>
  (try dsimp only at f)
  cases f
  simp only [W,simprocAttr,R6_l11.st,fin6,R6.st,x]
 | o1 _ _ _ _ _ _ _ _ _ _ _ _ _ _ _ _ _ =>
  (try dsimp only at f)
  cases f
 | o2 v6 v7 v8 v9 y z n aa ab ac ad ae af ag ah ai aj ak =>
  (try dsimp only at f)
  have hJ:=f6_j12_ok k v6 v7 v8 v9 y z n aa ab ac ad ae af ag ah ai aj ak _ f
  simp only [W,simprocAttr,R6_l11.st,x]
  try simp only [NM,EE] at hJ
  exact hJ
noncomputable def f6_j8 (k:Nat) (ac ad:Int) (ae:Bool) (h a b c:Int) (i:List T54) (j:List Int) (l:List T44) (d:List T47) (m:List T56) (o p:List T44) (e:List Int) (f:List (T44×Int)) (g:List (T44×Bool)):Option R6 :=
 Option.bind (f6_l9 k k 0 ((List.length d):Int) 0 h a b c i j l d m o p e f g) fun o1 =>
  match o1 with
  | .o0 v4 =>
   some (.o0 v4)
  | .o1 _ _ _ _ _ _ _ _ _ _ _ _ _ _ _ _ _ =>
   none
  | .o2 v5 v6 v7 v8 v9 q s t u v w x y z r n aa ab =>
   f6_j10 k v5 v6 v7 v8 v9 q s t u v w x y z r n aa ab
theorem f6_j8_ok (k i j l m a b c o p q g s t u d e f r) (h:f6_j8 k i j l m a b c o p q g s t u d e f=some r):finK Tryd.prog Tryd.f6 0 (EX 6 k (nav B6 [2,2,2,2,2,2,2,2,2,2]) (⟨227,[(2,.ptr 30000 0),(3,.ptr 30004 0),(5,.ptr 30006 0),(7,V.mp 30011),(13,V.mp 30012),(126,.own 30003),(127,jI i),(128,jI j),(129,jT l)],[(30000,.box 28 [jI m,jI a,.own 30001,.own 30002,jI b,.own 30003,jI c]),(30001,.row false 6 54 (rowsOf encT54 o)),(30002,.row false 1 3 (rowsOf (encI .i64) p)),(30003,.row false 3 44 (rowsOf encT44 q)),(30004,.box 31 [.own 30005]),(30005,.row false 11 47 (rowsOf encT47 g)),(30006,.box 37 [.own 30007,.own 30008,.own 30009,.own 30010]),(30007,.row true 5 56 (rowsOf encT56 s)),(30008,.row true 3 44 (rowsOf encT44 t)),(30009,.row true 3 44 (rowsOf encT44 u)),(30010,.row true 1 3 (rowsOf (encI .i64) d)),(30011,O.mp 3 (mpC mk65 mv65 e)),(30012,O.mp 3 (mpC mk66 mv66 f))]⟩:St))=some r.st:=by
 unfold f6_j8 at h
 obtain ⟨o1,h2,h⟩:=bs h
 have v:=f6_l9_ok k k 0 ((List.length g):Int) 0 m a b c o p q g s t u d e f _ h2
 simp only [W,simprocAttr,sr 6 27 B6 [2,2,2,2,2,2,2,2,2,2] rfl rfl rfl,xk B6 [2,2,2,2,2,2,2,2,2,2,2] .sq rfl,sr 6 28 B6 [1,2,2,2,2,2,2,2,2,2,2,2] rfl rfl rfl,fieldAddrV,t_31,t_29,xk B6 [2,1,2,2,2,2,2,2,2,2,2,2,2] (.bk 6) rfl,xk B6 [2,2,1,2,2,2,2,2,2,2,2,2,2,2] .lp rfl,hh_6_29,hc_6_29]
 (try simp only [NM,EE] at v)
 rw [v _ (by simp only [W,simprocAttr,hh_6_29,hc_6_29])]
 clear v
 cases o1 with
 | o0 v4 =>
  (try dsimp only at h)
  cases h
  simp only [W,simprocAttr,R6_l9.st,fin6,R6.st]
 | o1 _ _ _ _ _ _ _ _ _ _ _ _ _ _ _ _ _ =>
  (try dsimp only at h)
  cases h
 | o2 v5 v6 v7 v8 v9 w x y z n aa ab ac ad ae af ag ah =>
  (try dsimp only at h)
  have hJ:=f6_j10_ok k v5 v6 v7 v8 v9 w x y z n aa ab ac ad ae af ag ah _ h
  simp only [W,simprocAttr,R6_l9.st]
  try simp only [NM,EE] at hJ
  exact hJ
noncomputable def f6_j6 (k:Nat) (n aa:Int) (ab:Bool) (g a b c:Int) (h:List T54) (i:List Int) (d:List T44) (j:List T47) (l:List T56) (m o:List T44) (e:List Int) (f:List (T44×Int)) (ac:List T44):Option R6 :=
 Option.bind (f6_l7 k k ((List.length d):Int) 0 g a b c h i d j l m o e f []) fun o1 =>
  match o1 with
  | .o0 _ _ _ _ _ _ _ _ _ _ _ _ _ _ _ _ =>
   none
  | .o1 v4 v5 v6 v7 v8 v9 p q s t u v w x y z r =>
   f6_j8 k v4 v5 v6 v7 v8 v9 p q s t u v w x y z r
theorem f6_j6_ok (k g h i l a b c m o f p q s t d e j r) (u:f6_j6 k g h i l a b c m o f p q s t d e j=some r):finK Tryd.prog Tryd.f6 0 (EX 6 k (nav B6 [2,2,2,2,2,2,2,2]) (⟨227,[(2,.ptr 30000 0),(3,.ptr 30004 0),(5,.ptr 30006 0),(7,V.mp 30011),(111,.own 30012),(112,jI g),(113,jI h),(114,jT i)],[(30000,.box 28 [jI l,jI a,.own 30001,.own 30002,jI b,.own 30003,jI c]),(30001,.row false 6 54 (rowsOf encT54 m)),(30002,.row false 1 3 (rowsOf (encI .i64) o)),(30003,.row false 3 44 (rowsOf encT44 f)),(30004,.box 31 [.own 30005]),(30005,.row false 11 47 (rowsOf encT47 p)),(30006,.box 37 [.own 30007,.own 30008,.own 30009,.own 30010]),(30007,.row true 5 56 (rowsOf encT56 q)),(30008,.row true 3 44 (rowsOf encT44 s)),(30009,.row true 3 44 (rowsOf encT44 t)),(30010,.row true 1 3 (rowsOf (encI .i64) d)),(30011,O.mp 3 (mpC mk65 mv65 e)),(30012,.row true 3 44 (rowsOf encT44 j))]⟩:St))=some r.st:=by
 unfold f6_j6 at u
 obtain ⟨o1,h2,u⟩:=bs u
 have v:=f6_l7_ok k k ((List.length f):Int) 0 l a b c m o f p q s t d e [] _ h2
 simp only [W,simprocAttr,sr 6 21 B6 [2,2,2,2,2,2,2,2] rfl rfl rfl,makeMap_mp,mpN66,xk B6 [2,2,2,2,2,2,2,2,2] .sq rfl,sr 6 22 B6 [1,2,2,2,2,2,2,2,2,2] rfl rfl rfl,fieldAddrV,t_28,t_26,xk B6 [2,1,2,2,2,2,2,2,2,2,2] (.bk 4) rfl,xk B6 [2,2,1,2,2,2,2,2,2,2,2,2] .lp rfl,hh_6_23,hc_6_23]
 (try simp only [NM,EE] at v)
 rw [v _ (by simp only [W,simprocAttr,hh_6_23,hc_6_23])]
 clear v
 cases o1 with
 | o0 _ _ _ _ _ _ _ _ _ _ _ _ _ _ _ _ =>
  (try dsimp only at u)
  cases u
 | o1 v4 v5 v6 v7 v8 v9 w x y z n aa ab ac ad ae af =>
  (try dsimp only at u)
  have hJ:=f6_j8_ok k v4 v5 v6 v7 v8 v9 w x y z n aa ab ac ad ae af _ u
  simp only [W,simprocAttr,R6_l7.st]
  try simp only [NM,EE] at hJ
  exact hJ
noncomputable def f6_j4 (k:Nat) (ab ac:Int) (ad:Bool) (h c d e:Int) (i:List T54) (j:List Int) (l:List T44) (m:List T47) (o:List T56) (a b:List T44) (f:List Int) (g:List (T44×Int)):Option R6 :=
 ifE ((List.length a) * 24≤roomy) (
  ifE (((List.length a)+(List.length b)) * 24≤roomy) (
   Option.bind (f6_l5 k k ((List.length (a++b)):Int) 0 h c d e i j l m o a b f g (a++b)) fun o3 =>
    match o3 with
    | .o0 _ _ _ _ _ _ _ _ _ _ _ _ _ _ _ _ =>
     none
    | .o1 v6 v7 v8 v9 p q s t u v w x y z r n aa =>
     f6_j6 k v6 v7 v8 v9 p q s t u v w x y z r n aa))
theorem f6_j4_ok (k s t u i a b c j l m o p d e f g r) (h:f6_j4 k s t u i a b c j l m o p d e f g=some r):finK Tryd.prog Tryd.f6 0 (EX 6 k (nav B6 [2,2,2,2,2,2,2]) (⟨227,[(2,.ptr 30000 0),(3,.ptr 30004 0),(5,.ptr 30006 0),(7,V.mp 30011),(58,.own 30007),(59,jI s),(60,jI t),(61,jT u)],[(30000,.box 28 [jI i,jI a,.own 30001,.own 30002,jI b,.own 30003,jI c]),(30001,.row false 6 54 (rowsOf encT54 j)),(30002,.row false 1 3 (rowsOf (encI .i64) l)),(30003,.row false 3 44 (rowsOf encT44 m)),(30004,.box 31 [.own 30005]),(30005,.row false 11 47 (rowsOf encT47 o)),(30006,.box 37 [.own 30007,.own 30008,.own 30009,.own 30010]),(30007,.row true 5 56 (rowsOf encT56 p)),(30008,.row true 3 44 (rowsOf encT44 d)),(30009,.row true 3 44 (rowsOf encT44 e)),(30010,.row true 1 3 (rowsOf (encI .i64) f)),(30011,O.mp 3 (mpC mk65 mv65 g))]⟩:St))=some r.st:=by
 unfold f6_j4 at h
 obtain ⟨v,h⟩:=ifE_some.1 h
 obtain ⟨w,h⟩:=ifE_some.1 h
 obtain ⟨o3,h4,h⟩:=bs h
 have q:=f6_l5_ok k k ((List.length (d++e)):Int) 0 i a b c j l m o p d e f g (d++e) _ h4
 simp (disch:=first|decide|apply K;kernel_rfl) only [W,simprocAttr,xk B6 [2,2,2,2,2,2,2] .sq rfl,xk B6 [1,2,2,2,2,2,2,2] .sq rfl,rg B6 [1,1,2,2,2,2,2,2,2] 16 true rfl,hr 6 16 rfl,buildSliceV,fillRows,sm_44,t_26,t_44,fieldAddrV,t_37,appendV,content,xk B6 [2,1,2,2,2,2,2,2,2] (.bk 2) rfl,xk B6 [2,2,1,2,2,2,2,2,2,2] .lp rfl,hh_6_17,hc_6_17,v,w]
 (try simp only [NM,EE] at q)
 rw [q _ (by simp (disch:=first|decide|apply K;kernel_rfl) only [W,simprocAttr,hh_6_17,hc_6_17,v,w])]
 clear q
 cases o3 with
 | o0 _ _ _ _ _ _ _ _ _ _ _ _ _ _ _ _ =>
  (try dsimp only at h)
  cases h
 | o1 v6 v7 v8 v9 x y z n aa ab ac ad ae af ag ah ai =>
  (try dsimp only at h)
  have hJ:=f6_j6_ok k v6 v7 v8 v9 x y z n aa ab ac ad ae af ag ah ai _ h
  simp (disch:=first|decide|apply K;kernel_rfl) only [W,simprocAttr,R6_l5.st,v,w]
  try simp only [NM,EE] at hJ
  exact hJ
noncomputable def f6_j2 (k:Nat) (z:Bool) (r e f g:Int) (j:List T54) (a:List Int) (b:List T44) (l:List T47) (h:List T56) (c d:List T44) (i:List Int):Option R6 :=
 Option.bind (f6_l3 k k ((List.length h):Int) 0 r e f g j a b l h c d i []) fun o1 =>
  match o1 with
  | .o0 n =>
   some (.o0 n)
  | .o1 _ _ _ _ _ _ _ _ _ _ _ _ _ _ _ =>
   none
  | .o2 v5 v6 v7 v8 v9 m o p q s t u v w x y =>
   f6_j4 k v5 v6 v7 v8 v9 m o p q s t u v w x y
theorem f6_j2_ok (k p q e f g l a b m i c d h r) (j:f6_j2 k p q e f g l a b m i c d h=some r):finK Tryd.prog Tryd.f6 0 (EX 6 k (nav B6 [2,2,2,2,2]) (⟨227,[(2,.ptr 2 0),(3,.ptr 3 0),(5,.ptr 5 0),(39,jT p)],[(2,.box 28 [jI q,jI e,.own 29,.own 10029,jI f,.own 20029,jI g]),(29,.row false 6 54 (rowsOf encT54 l)),(10029,.row false 1 3 (rowsOf (encI .i64) a)),(20029,.row false 3 44 (rowsOf encT44 b)),(3,.box 31 [.own 31]),(31,.row false 11 47 (rowsOf encT47 m)),(5,.box 37 [.own 35,.own 10035,.own 20035,.own 30035]),(35,.row true 5 56 (rowsOf encT56 i)),(10035,.row true 3 44 (rowsOf encT44 c)),(20035,.row true 3 44 (rowsOf encT44 d)),(30035,.row true 1 3 (rowsOf (encI .i64) h))]⟩:St))=some r.st:=by
 unfold f6_j2 at j
 obtain ⟨o1,h2,j⟩:=bs j
 have o:=f6_l3_ok k k ((List.length i):Int) 0 q e f g l a b m i c d h [] _ h2
 simp only [W,simprocAttr,sr 6 7 B6 [2,2,2,2,2] rfl rfl rfl,makeMap_mp,mpN65,xk B6 [2,2,2,2,2,2] .sq rfl,sr 6 8 B6 [1,2,2,2,2,2,2] rfl rfl rfl,fieldAddrV,t_37,t_35,xk B6 [2,1,2,2,2,2,2,2] (.bk 0) rfl,xk B6 [2,2,1,2,2,2,2,2,2] .lp rfl,hh_6_9,hc_6_9]
 (try simp only [NM,EE] at o)
 rw [o _ (by simp only [W,simprocAttr,hh_6_9,hc_6_9])]
 clear o
 cases o1 with
 | o0 v4 =>
  (try dsimp only at j)
  cases j
  simp only [W,simprocAttr,R6_l3.st,fin6,R6.st]
 | o1 _ _ _ _ _ _ _ _ _ _ _ _ _ _ _ =>
  (try dsimp only at j)
  cases j
 | o2 v5 v6 v7 v8 v9 s t u v w x y z n aa ab =>
  (try dsimp only at j)
  have hJ:=f6_j4_ok k v5 v6 v7 v8 v9 s t u v w x y z n aa ab _ j
  simp only [W,simprocAttr,R6_l3.st]
  try simp only [NM,EE] at hJ
  exact hJ
noncomputable def f6_j1 (k:Nat) (w:Bool) (x a:Int) (b:List T54) (c:List Int) (d:Int) (e:List T44) (f:Int) (y:List T47):Option R6 :=
 Option.bind (f9 k x a b c d e f) fun o1 =>
  match o1 with
  | .o0 p q s t u v g =>
   Option.bind (f10 k y) fun o11 =>
    match o11 with
    | .o0 h =>
     Option.bind (f11 k p q u v s g t h) fun o15 =>
      match o15 with
      | .o0 o i j l m =>
       cond ((o != 0))
        (some (.o0 (((IntKind.i64.wrap ((IntKind.i64.wrap ((IntKind.i64.wrap (((List.length i):Int)+((List.length j):Int)))+((List.length l):Int)))+((List.length m):Int)))==0))))
        (f6_j2 k false p q s t u v g h i j l m)
theorem f6_j1_ok (k m q d e f g h i s r) (a:f6_j1 k m q d e f g h i s=some r):finK Tryd.prog Tryd.f6 0 (EX 6 k (nav B6 [2,2]) (⟨227,[(2,.ptr 2 0),(3,.ptr 3 0),(27,jT m)],[(2,.box 28 [jI q,jI d,.sl 6 (rowsOf encT54 e),.sl 1 (rowsOf (encI .i64) f),jI g,.sl 3 (rowsOf encT44 h),jI i]),(3,.box 31 [.sl 11 (rowsOf encT47 s)])]⟩:St))=some r.st:=by
 unfold f6_j1 at a
 obtain ⟨o1,h2,a⟩:=bs a
 have j:=f9_ok k q d e f g h i _ h2
 cases o1 with
 | o0 z n v6 v7 v8 v9 o =>
  (try dsimp only at a)
  (try simp only [NM,EE,R9.st] at j)
  obtain ⟨o11,t,a⟩:=bs a
  have b:=f10_ok k s _ t
  cases o11 with
  | o0 p =>
   (try dsimp only at a)
   (try simp only [NM,EE,R10.st] at b)
   obtain ⟨o15,u,a⟩:=bs a
   have c:=f11_ok k z n v8 v9 v6 o v7 p _ u
   cases o15 with
   | o0 af v w x y =>
    (try dsimp only at a)
    (try simp only [NM,EE,R11.st] at c)
    simp (disch:=first|decide|apply K;kernel_rfl) only [W,simprocAttr,xk B6 [2,2] .sq rfl,rg B6 [1,2,2] 3 true rfl,hr 6 3 rfl,t_28,callStep,CL,gv,List.contains,t_31,sr 6 4 B6 [2,2,2] rfl rfl rfl,t_37,xk B6 [2,2,2,2] .sq rfl,sr 6 5 B6 [1,2,2,2,2] rfl rfl rfl,xk B6 [2,1,2,2,2,2] (.cd 39) rfl,j,b,c]
    rcases cond_some a with ⟨l,a⟩ | ⟨l,a⟩
    ·cases a
     simp (disch:=first|decide|apply K;kernel_rfl) only [W,simprocAttr,sr 6 6 B6 [2,2,1,2,2,2,2] rfl rfl rfl,fieldAddrV,t_37,t_35,t_26,t_25,xk B6 [2,2,2,1,2,2,2,2] .rt rfl,fin6,R6.st,j,b,c,l]
    ·have hJ:=f6_j2_ok k false z n v6 v7 v8 v9 o p v w x y _ a
     simp (disch:=first|decide|apply K;kernel_rfl) only [W,simprocAttr,xk B6 [3,2,1,2,2,2,2] .sk rfl,j,b,c,l]
     try simp only [NM,EE] at hJ
     exact hJ
noncomputable def f6_e (k:Nat) (g a:Int) (b:List T54) (c:List Int) (d:Int) (e:List T44) (f:Int) (h:List T47):Option R6 :=
 Option.bind (f8 k) fun o1 =>
  match o1 with
  | .o0 i =>
   cond ((!i))
    (some (.o0 false))
    (f6_j1 k false g a b c d e f h)
theorem f6_e_ok (k i a b c d e f j r) (g:f6_e k i a b c d e f j=some r):finK Tryd.prog Tryd.f6 0 (EX 6 k (nav B6 []) (⟨227,[(0,.agg [jI i,jI a,.sl 6 (rowsOf encT54 b),.sl 1 (rowsOf (encI .i64) c),jI d,.sl 3 (rowsOf encT44 e),jI f]),(1,.agg [.sl 11 (rowsOf encT47 j)])],[]⟩:St))=some r.st:=by
 unfold f6_e at g
 obtain ⟨o1,m,g⟩:=bs g
 have h:=f8_ok k _ m
 cases o1 with
 | o0 o =>
  (try dsimp only at g)
  (try simp only [NM,EE,R8.st] at h)
  simp only [W,simprocAttr,sr 6 0 B6 [] rfl rfl rfl,xk B6 [2] .sq rfl,sr 6 1 B6 [1,2] rfl rfl rfl,callStep,CL,gv,List.contains,xk B6 [2,1,2] (.cd 27) rfl,h]
  rcases cond_some g with ⟨l,g⟩ | ⟨l,g⟩
  ·cases g
   simp only [W,simprocAttr,sr 6 2 B6 [2,2,1,2] rfl rfl rfl,xk B6 [2,2,2,1,2] .rt rfl,fin6,R6.st,h,l]
  ·have hJ:=f6_j1_ok k false i a b c d e f j _ g
   simp only [W,simprocAttr,xk B6 [3,2,1,2] .sk rfl,h,l]
   try simp only [NM,EE] at hJ
   exact hJ
noncomputable def f6 (k:Nat) (g a:Int) (b:List T54) (c:List Int) (d:Int) (e:List T44) (f:Int) (h:List T47):Option R6:=match k with | 0=>none | k+1=>f6_e k g a b c d e f h
theorem f6_ok (k h a b d e f g i r) (j:f6 k h a b d e f g i=some r):CV k 6 [.agg [jI h,jI a,.sl 6 (rowsOf encT54 b),.sl 1 (rowsOf (encI .i64) d),jI e,.sl 3 (rowsOf encT44 f),jI g],.agg [.sl 11 (rowsOf encT47 i)]] []=some r.st:=by
 cases k with
 | zero=>cases j
 | succ k =>
  unfold CV
  rw [ev_call (F:=Tryd.f6) (c:=(nav B6 [])) rfl Tryd.func6 rfl rfl rfl rfl]
  exact f6_e_ok k h a b d e f g i r j
end Go.Proofs.YtiompmmbjpjjeaaDoorV