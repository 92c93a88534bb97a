/- What the program's functions answer: plain functions,and that the interpreter answers what they do. Written by a program of this session,out of the translation. -/
import Derived.Test.YtiompmmbjpjjeaaDoorVP10
namespace Go.Proofs.YtiompmmbjpjjeaaDoorV
open Go
set_option linter.unusedVariables false
set_option linter.unusedSimpArgs false
set_option maxRecDepth 8000
set_option maxHeartbeats 4000000
-- f67: f67 slices.symMergeCmpFunc[heliograph/api.Bundle]
inductive R67 where
 | o0 (y:List T47)
noncomputable def R67.st:R67→V×List O×List O
 | .o0 y=>(V.tup [],[.row true 11 47 (rowsOf encT47 y)],[])
inductive R67_l1 where
 | o0 (y a b:Int) (c:List T47)
 | o1 (y a b:Int) (c:Bool) (d:List T47)
noncomputable def R67_l1.st:R67_l1→Out×St
 | .o0 y a b c=>(.norm,(⟨220,[(0,.own 1000000),(1,jI y),(4,V.p (Value.func (Fn.func 29) #[] #[])),(10,jI a),(11,jI b)],[(1000000,.row true 11 47 (rowsOf encT47 c))]⟩:St))
 | .o1 y a b c d=>(.exit 0,(⟨220,[(0,.own 1000000),(1,jI y),(4,V.p (Value.func (Fn.func 29) #[] #[])),(10,jI a),(11,jI b),(33,jT c)],[(1000000,.row true 11 47 (rowsOf encT47 d))]⟩:St))
abbrev Ff67_oiiif29_w:=Int→Int→Int→(List T47)→Option R67
noncomputable def f67_l1_j1 (k:Nat) (Q:Ff67_oiiif29_w) (f a b:Int) (h:Bool) (e:List T47):Option R67_l1 :=
 ifE ((0:Int)≤(IntKind.i64.wrap (Int.fdiv (IntKind.u64.wrap (IntKind.i64.wrap (a+b))) (2 ^ (min 1 (IntKind.bits .u64)))))) (
  ifE ((IntKind.i64.wrap (Int.fdiv (IntKind.u64.wrap (IntKind.i64.wrap (a+b))) (2 ^ (min 1 (IntKind.bits .u64)))))<((List.length e):Int)) (
   Option.bind (e[(Int.toNat ((IntKind.i64.wrap (Int.fdiv (IntKind.u64.wrap (IntKind.i64.wrap (a+b))) (2 ^ (min 1 (IntKind.bits .u64)))))))]?) fun c =>
    ifE ((0:Int)≤f) (
     ifE (f<((List.length e):Int)) (
      Option.bind (e[(Int.toNat f)]?) fun d =>
       Option.bind (f29 k c.Source c.Dest c.Seq c.Created c.Lifetime c.HopLimit c.Hops c.Priority c.Offset c.Total c.Payload d.Source d.Dest d.Seq d.Created d.Lifetime d.HopLimit d.Hops d.Priority d.Offset d.Total d.Payload) fun o9 =>
        match o9 with
        | .o0 g =>
         cond ((decide (g<0)))
          (some (.o0 f ((IntKind.i64.wrap ((IntKind.i64.wrap (Int.fdiv (IntKind.u64.wrap (IntKind.i64.wrap (a+b))) (2 ^ (min 1 (IntKind.bits .u64)))))+(1:Int)))) b e))
          (some (.o0 f a ((IntKind.i64.wrap (Int.fdiv (IntKind.u64.wrap (IntKind.i64.wrap (a+b))) (2 ^ (min 1 (IntKind.bits .u64)))))) e))))))
def If67_oiiif29_w (k:Nat) (Q:Ff67_oiiif29_w):Prop:=∀ (t u v:Int) (f:List T47) (r:R67),Q t u v f=some r→CV k 67 [.own 1000000,jI t,jI u,jI v,V.p (Value.func (Fn.func 29) #[] #[])] [.row true 11 47 (rowsOf encT47 f)]=some r.st
theorem f67_l1_j1_ok (k Q) (H:If67_oiiif29_w k Q) (w g h i f r) (a:f67_l1_j1 k Q w g h i f=some r):EX 67 k (nav B67 [2,1,2,1,2,2,2,2,1]) (⟨220,[(0,.own 1000000),(1,jI w),(4,V.p (Value.func (Fn.func 29) #[] #[])),(10,jI g),(11,jI h),(33,jT i)],[(1000000,.row true 11 47 (rowsOf encT47 f))]⟩:St)=some r.st:=by
 unfold f67_l1_j1 at a
 obtain ⟨j,a⟩:=ifE_some.1 a
 obtain ⟨l,a⟩:=ifE_some.1 a
 obtain ⟨c,m,a⟩:=bs a
 obtain ⟨o,a⟩:=ifE_some.1 a
 obtain ⟨p,a⟩:=ifE_some.1 a
 obtain ⟨d,q,a⟩:=bs a
 obtain ⟨o9,s,a⟩:=bs a
 have b:=f29_ok k c.Source c.Dest c.Seq c.Created c.Lifetime c.HopLimit c.Hops c.Priority c.Offset c.Total c.Payload d.Source d.Dest d.Seq d.Created d.Lifetime d.HopLimit d.Hops d.Priority d.Offset d.Total d.Payload _ s
 cases o9 with
 | o0 x =>
  (try dsimp only at a)
  (try simp only [NM,EE,R29.st] at b)
  simp (disch:=first|decide|apply K;kernel_rfl) only [W,simprocAttr,xk B67 [2,1,2,1,2,2,2,2,1] (.bk 1) rfl,sr 67 4 B67 [2,2,1,2,1,2,2,2,2,1] rfl rfl rfl,t_3,t_128,convV,shiftV,xk B67 [2,2,2,1,2,1,2,2,2,2,1] .sq rfl,rg B67 [1,2,2,2,1,2,1,2,2,2,2,1] 5 true rfl,hr 67 5 rfl,indexAddrV,t_29,t_47,encT47_eq,callStep,CL,gv,List.contains,xk B67 [2,2,2,2,1,2,1,2,2,2,2,1] (.cd 50) rfl,j,l,m,o,p,q,b]
  rcases cond_some a with ⟨e,a⟩ | ⟨e,a⟩
  ·cases a
   simp (disch:=first|decide|apply K;kernel_rfl) only [W,simprocAttr,rg B67 [2,2,2,2,2,1,2,1,2,2,2,2,1] 6 false rfl,hr 67 6 rfl,R67_l1.st,j,l,m,o,p,q,b,e]
  ·cases a
   simp (disch:=first|decide|apply K;kernel_rfl) only [W,simprocAttr,rg B67 [3,2,2,2,2,1,2,1,2,2,2,2,1] 7 false rfl,hr 67 7 rfl,R67_l1.st,j,l,m,o,p,q,b,e]
noncomputable def f67_l1_b (k:Nat) (Q:Ff67_oiiif29_w) (c a b:Int) (d:List T47):Option R67_l1 :=
 cond ((decide (a<b)))
  (f67_l1_j1 k Q c a b true d)
  (some (.o1 c a b false d))
theorem f67_l1_b_ok (k Q) (H:If67_oiiif29_w k Q) (e a b c r) (d:f67_l1_b k Q e a b c=some r):EX 67 k (nav B67 [1,2,1,2,2,2,2,1]) (⟨220,[(0,.own 1000000),(1,jI e),(4,V.p (Value.func (Fn.func 29) #[] #[])),(10,jI a),(11,jI b)],[(1000000,.row true 11 47 (rowsOf encT47 c))]⟩:St)=some r.st:=by
 unfold f67_l1_b at d
 simp only [W,simprocAttr,xk B67 [1,2,1,2,2,2,2,1] .sq rfl,sr 67 3 B67 [1,1,2,1,2,2,2,2,1] rfl rfl rfl,xk B67 [2,1,1,2,1,2,2,2,2,1] (.cd 33) rfl]
 rcases cond_some d with ⟨f,d⟩ | ⟨f,d⟩
 ·have hJ:=f67_l1_j1_ok k Q H e a b true c _ d
  simp only [W,simprocAttr,xk B67 [2,2,1,1,2,1,2,2,2,2,1] .sk rfl,f]
  try simp only [NM,EE] at hJ
  exact hJ
 ·cases d
  simp only [W,simprocAttr,xk B67 [3,2,1,1,2,1,2,2,2,2,1] (.ex 0) rfl,R67_l1.st,f]
noncomputable def f67_l1 (k:Nat) (Q:Ff67_oiiif29_w):Nat→Int→Int→Int→(List T47)→Option R67_l1
 | 0,_,_,_,_=>none
 | n+1,g,d,e,h=>Option.bind (f67_l1_b k Q g d e h) fun o =>
  match o with
  | .o0 y a b c=>f67_l1 k Q n y a b c
  | .o1 y a b c f=>some (.o1 y a b c f)
theorem f67_l1_ok (k:Nat) (Q:Ff67_oiiif29_w) (H:If67_oiiif29_w k Q) (n:Nat):∀ (e a b:Int) (c:List T47) (r:R67_l1) (d:f67_l1 k Q n e a b c=some r) (σ:St) (hσ:headR (hints.head 67 3) (hints.canon 67 3) σ=some (⟨220,[(0,.own 1000000),(1,jI e),(4,V.p (Value.func (Fn.func 29) #[] #[])),(10,jI a),(11,jI b)],[(1000000,.row true 11 47 (rowsOf encT47 c))]⟩:St)),LP 67 k (nav B67 [1,2,1,2,2,2,2,1]) n σ=some r.st:=by
 induction n with
 | zero=>intro e a b c r d;cases d
 | succ n p =>
  intro e a b c r d σ hσ
  rw [f67_l1] at d
  obtain ⟨o,h,d⟩:=Option.bind_eq_some_iff.1 d
  have hB:=f67_l1_b_ok k Q H e a b c o h
  unfold LP at p ⊢
  unfold EX at hB
  rw [loopK_succ,show firstReg (nav B67 [1,2,1,2,2,2,2,1])=3 from rfl,hσ,headK_some,hB]
  cases o with
  | o0 y f g i =>
   refine p y f g i r d _ ?_
   simp only [W,simprocAttr,hh_67_3,hc_67_3]
  | o1 y f g i q=>cases d;rfl
inductive R67_l3 where
 | o0 (y a:Int) (b:List T47)
 | o1 (y a:Int) (b:Bool) (c:List T47)
noncomputable def R67_l3.st:R67_l3→Out×St
 | .o0 y a b=>(.norm,(⟨220,[(0,.own 1000000),(10,jI y),(13,jI a)],[(1000000,.row true 11 47 (rowsOf encT47 b))]⟩:St))
 | .o1 y a b c=>(.exit 2,(⟨220,[(0,.own 1000000),(10,jI y),(13,jI a),(58,jT b)],[(1000000,.row true 11 47 (rowsOf encT47 c))]⟩:St))
noncomputable def f67_l3_j2 (k:Nat) (Q:Ff67_oiiif29_w) (a b:Int) (c:List T47):Option R67_l3 :=
 some (.o0 a (IntKind.i64.wrap (b+(1:Int))) c)
theorem f67_l3_j2_ok (k Q) (H:If67_oiiif29_w k Q) (b c a r) (g:f67_l3_j2 k Q b c a=some r):EX 67 k (nav B67 [2,2,1,2,2,1,2,2,2,2,2,1]) (⟨220,[(0,.own 1000000),(10,jI b),(13,jI c)],[(1000000,.row true 11 47 (rowsOf encT47 a))]⟩:St)=some r.st:=by
 unfold f67_l3_j2 at g
 cases g
 simp only [W,simprocAttr,rg B67 [2,2,1,2,2,1,2,2,2,2,2,1] 10 false rfl,hr 67 10 rfl,R67_l3.st]
noncomputable def f67_l3_j1 (k:Nat) (Q:Ff67_oiiif29_w) (c a:Int) (e:Bool) (b:List T47):Option R67_l3 :=
 ifE ((0:Int)≤(IntKind.i64.wrap (a+(1:Int)))) (
  ifE ((IntKind.i64.wrap (a+(1:Int)))<((List.length b):Int)) (
   Option.bind (b[(Int.toNat (IntKind.i64.wrap (a+(1:Int))))]?) fun d =>
    ifE ((0:Int)≤a) (
     ifE (a<((List.length b):Int)) (
      Option.bind (b[(Int.toNat a)]?) fun f =>
       ifE ((IntKind.i64.wrap (a+(1:Int)))<((List.length (List.set b (Int.toNat a) d)):Int)) (
        Option.bind ((List.set b (Int.toNat a) d)[(Int.toNat (IntKind.i64.wrap (a+(1:Int))))]?) fun g =>
         f67_l3_j2 k Q c a ((List.set (List.set b (Int.toNat a) d) (Int.toNat (IntKind.i64.wrap (a+(1:Int)))) f)))))))
theorem f67_l3_j1_ok (k Q) (H:If67_oiiif29_w k Q) (f a g e r) (b:f67_l3_j1 k Q f a g e=some r):EX 67 k (nav B67 [2,1,2,2,1,2,2,2,2,2,1]) (⟨220,[(0,.own 1000000),(10,jI f),(13,jI a),(58,jT g)],[(1000000,.row true 11 47 (rowsOf encT47 e))]⟩:St)=some r.st:=by
 unfold f67_l3_j1 at b
 obtain ⟨s,b⟩:=ifE_some.1 b
 obtain ⟨t,b⟩:=ifE_some.1 b
 obtain ⟨c,u,b⟩:=bs b
 obtain ⟨v,b⟩:=ifE_some.1 b
 obtain ⟨w,b⟩:=ifE_some.1 b
 obtain ⟨d,y,b⟩:=bs b
 have z:List.set (rowsOf encT47 e) (Int.toNat a) [jI c.Source,jI c.Dest,jU c.Seq,jI c.Created,jI c.Lifetime,jI c.HopLimit,jI c.Hops,jI c.Priority,jI c.Offset,jI c.Total,.sl 1 (rowsOf (encI .u8) c.Payload)]=rowsOf encT47 (List.set e (Int.toNat a) c):=(rowsOf_set (enc:=encT47) (l:=e) (i:=(Int.toNat a)) (x:=c)).symm
 obtain ⟨h,b⟩:=ifE_some.1 b
 obtain ⟨n,j,b⟩:=bs b
 have m:List.set (rowsOf encT47 (List.set e (Int.toNat a) c)) (Int.toNat (IntKind.i64.wrap (a+(1:Int)))) [jI d.Source,jI d.Dest,jU d.Seq,jI d.Created,jI d.Lifetime,jI d.HopLimit,jI d.Hops,jI d.Priority,jI d.Offset,jI d.Total,.sl 1 (rowsOf (encI .u8) d.Payload)]=rowsOf encT47 (List.set (List.set e (Int.toNat a) c) (Int.toNat (IntKind.i64.wrap (a+(1:Int)))) d):=(rowsOf_set (enc:=encT47) (l:=(List.set e (Int.toNat a) c)) (i:=(Int.toNat (IntKind.i64.wrap (a+(1:Int))))) (x:=d)).symm
 have hJ:=f67_l3_j2_ok k Q H f a ((List.set (List.set e (Int.toNat a) c) (Int.toNat (IntKind.i64.wrap (a+(1:Int)))) d)) _ b
 simp (disch:=first|decide|apply K;kernel_rfl) only [W,simprocAttr,xk B67 [2,1,2,2,1,2,2,2,2,2,1] .sq rfl,xk B67 [1,2,1,2,2,1,2,2,2,2,2,1] (.bk 3) rfl,rg B67 [2,1,2,1,2,2,1,2,2,2,2,2,1] 11 true rfl,hr 67 11 rfl,indexAddrV,t_29,t_47,encT47_eq,sm_47,s,t,u,v,w,y,z,h,j,m]
 try simp only [NM,EE] at hJ
 exact hJ
noncomputable def f67_l3_b (k:Nat) (Q:Ff67_oiiif29_w) (a b:Int) (c:List T47):Option R67_l3 :=
 cond ((decide (b<(IntKind.i64.wrap (a - (1:Int))))))
  (f67_l3_j1 k Q a b true c)
  (some (.o1 a b false c))
theorem f67_l3_b_ok (k Q) (H:If67_oiiif29_w k Q) (a b c r) (d:f67_l3_b k Q a b c=some r):EX 67 k (nav B67 [1,2,2,1,2,2,2,2,2,1]) (⟨220,[(0,.own 1000000),(10,jI a),(13,jI b)],[(1000000,.row true 11 47 (rowsOf encT47 c))]⟩:St)=some r.st:=by
 unfold f67_l3_b at d
 simp only [W,simprocAttr,xk B67 [1,2,2,1,2,2,2,2,2,1] .sq rfl,sr 67 9 B67 [1,1,2,2,1,2,2,2,2,2,1] rfl rfl rfl,xk B67 [2,1,1,2,2,1,2,2,2,2,2,1] (.cd 58) rfl]
 rcases cond_some d with ⟨e,d⟩ | ⟨e,d⟩
 ·have hJ:=f67_l3_j1_ok k Q H a b true c _ d
  simp only [W,simprocAttr,xk B67 [2,2,1,1,2,2,1,2,2,2,2,2,1] .sk rfl,e]
  try simp only [NM,EE] at hJ
  exact hJ
 ·cases d
  simp only [W,simprocAttr,xk B67 [3,2,1,1,2,2,1,2,2,2,2,2,1] (.ex 2) rfl,R67_l3.st,e]
noncomputable def f67_l3 (k:Nat) (Q:Ff67_oiiif29_w):Nat→Int→Int→(List T47)→Option R67_l3
 | 0,_,_,_=>none
 | n+1,c,d,f=>Option.bind (f67_l3_b k Q c d f) fun o =>
  match o with
  | .o0 y a b=>f67_l3 k Q n y a b
  | .o1 y a b e=>some (.o1 y a b e)
theorem f67_l3_ok (k:Nat) (Q:Ff67_oiiif29_w) (H:If67_oiiif29_w k Q) (n:Nat):∀ (a b:Int) (c:List T47) (r:R67_l3) (d:f67_l3 k Q n a b c=some r) (σ:St) (hσ:headR (hints.head 67 9) (hints.canon 67 9) σ=some (⟨220,[(0,.own 1000000),(10,jI a),(13,jI b)],[(1000000,.row true 11 47 (rowsOf encT47 c))]⟩:St)),LP 67 k (nav B67 [1,2,2,1,2,2,2,2,2,1]) n σ=some r.st:=by
 induction n with
 | zero=>intro a b c r d;cases d
 | succ n l =>
  intro a b c r d σ hσ
  rw [f67_l3] at d
  obtain ⟨o,h,d⟩:=Option.bind_eq_some_iff.1 d
  have hB:=f67_l3_b_ok k Q H a b c o h
  unfold LP at l ⊢
  unfold EX at hB
  rw [loopK_succ,show firstReg (nav B67 [1,2,2,1,2,2,2,2,2,1])=9 from rfl,hσ,headK_some,hB]
  cases o with
  | o0 y e f =>
   refine l y e f r d _ ?_
   simp only [W,simprocAttr,hh_67_9,hc_67_9]
  | o1 y e f m=>cases d;rfl
noncomputable def f67_j4 (k:Nat) (Q:Ff67_oiiif29_w) (a b:Int) (c:Bool) (d:List T47):Option R67 :=
 some (.o0 d)
theorem f67_j4_ok (k Q) (H:If67_oiiif29_w k Q) (b c d a r) (h:f67_j4 k Q b c d a=some r):finK Tryd.prog Tryd.f67 1 (SQ 67 k (nav B67 [2]) (EX 67 k (nav B67 [2,2,2,2,2,2,1]) (⟨220,[(0,.own 1000000),(10,jI b),(13,jI c),(58,jT d)],[(1000000,.row true 11 47 (rowsOf encT47 a))]⟩:St)))=some r.st:=by
 unfold f67_j4 at h
 cases h
 simp only [W,simprocAttr,xk B67 [2,2,2,2,2,2,1] .rt rfl,fin67,R67.st]
noncomputable def f67_j2 (k:Nat) (Q:Ff67_oiiif29_w) (b a c:Int) (d:Bool) (e:List T47):Option R67 :=
 Option.bind (f67_l3 k Q k a b e) fun o1 =>
  match o1 with
  | .o0 _ _ _ =>
   none
  | .o1 f g h i =>
   f67_j4 k Q f g h i
theorem f67_j2_ok (k Q) (H:If67_oiiif29_w k Q) (g a e f d r) (b:f67_j2 k Q g a e f d=some r):finK Tryd.prog Tryd.f67 1 (SQ 67 k (nav B67 [2]) (EX 67 k (nav B67 [2,2,2,2,2,1]) (⟨220,[(0,.own 1000000),(1,jI g),(4,V.p (Value.func (Fn.func 29) #[] #[])),(10,jI a),(11,jI e),(33,jT f)],[(1000000,.row true 11 47 (rowsOf encT47 d))]⟩:St)))=some r.st:=by
 unfold f67_j2 at b
 obtain ⟨o1,l,b⟩:=bs b
 have c:=f67_l3_ok k Q H k a g d _ l
 simp only [W,simprocAttr,xk B67 [2,2,2,2,2,1] .sq rfl,sr 67 8 B67 [1,2,2,2,2,2,1] rfl rfl rfl,xk B67 [2,1,2,2,2,2,2,1] (.bk 2) rfl,xk B67 [2,2,1,2,2,2,2,2,1] .lp rfl,hh_67_9,hc_67_9]
 (try simp only [NM,EE] at c)
 rw [c _ (by simp only [W,simprocAttr,hh_67_9,hc_67_9])]
 clear c
 cases o1 with
 | o0 _ _ _ =>
  (try dsimp only at b)
  cases b
 | o1 m o p q =>
  (try dsimp only at b)
  have hJ:=f67_j4_ok k Q H m o p q _ b
  simp only [W,simprocAttr,R67_l3.st]
  try simp only [NM,EE] at hJ
  exact hJ
inductive R67_l6 where
 | o0 (y a b:Int) (c:List T47)
 | o1 (y a b:Int) (c:Bool) (d:List T47)
noncomputable def R67_l6.st:R67_l6→Out×St
 | .o0 y a b c=>(.norm,(⟨220,[(0,.own 1000000),(2,jI y),(4,V.p (Value.func (Fn.func 29) #[] #[])),(14,jI a),(15,jI b)],[(1000000,.row true 11 47 (rowsOf encT47 c))]⟩:St))
 | .o1 y a b c d=>(.exit 4,(⟨220,[(0,.own 1000000),(2,jI y),(4,V.p (Value.func (Fn.func 29) #[] #[])),(14,jI a),(15,jI b),(85,jT c)],[(1000000,.row true 11 47 (rowsOf encT47 d))]⟩:St))
noncomputable def f67_l6_j1 (k:Nat) (Q:Ff67_oiiif29_w) (f a b:Int) (h:Bool) (e:List T47):Option R67_l6 :=
 ifE ((0:Int)≤f) (
  ifE (f<((List.length e):Int)) (
   Option.bind (e[(Int.toNat f)]?) fun c =>
    ifE ((0:Int)≤(IntKind.i64.wrap (Int.fdiv (IntKind.u64.wrap (IntKind.i64.wrap (a+b))) (2 ^ (min 1 (IntKind.bits .u64)))))) (
     ifE ((IntKind.i64.wrap (Int.fdiv (IntKind.u64.wrap (IntKind.i64.wrap (a+b))) (2 ^ (min 1 (IntKind.bits .u64)))))<((List.length e):Int)) (
      Option.bind (e[(Int.toNat ((IntKind.i64.wrap (Int.fdiv (IntKind.u64.wrap (IntKind.i64.wrap (a+b))) (2 ^ (min 1 (IntKind.bits .u64)))))))]?) fun d =>
       Option.bind (f29 k c.Source c.Dest c.Seq c.Created c.Lifetime c.HopLimit c.Hops c.Priority c.Offset c.Total c.Payload d.Source d.Dest d.Seq d.Created d.Lifetime d.HopLimit d.Hops d.Priority d.Offset d.Total d.Payload) fun o9 =>
        match o9 with
        | .o0 g =>
         cond ((!(decide (g<0))))
          (some (.o0 f ((IntKind.i64.wrap ((IntKind.i64.wrap (Int.fdiv (IntKind.u64.wrap (IntKind.i64.wrap (a+b))) (2 ^ (min 1 (IntKind.bits .u64)))))+(1:Int)))) b e))
          (some (.o0 f a ((IntKind.i64.wrap (Int.fdiv (IntKind.u64.wrap (IntKind.i64.wrap (a+b))) (2 ^ (min 1 (IntKind.bits .u64)))))) e))))))
theorem f67_l6_j1_ok (k Q) (H:If67_oiiif29_w k Q) (w g h i f r) (a:f67_l6_j1 k Q w g h i f=some r):EX 67 k (nav B67 [2,1,2,1,2,2,2,2,1,2]) (⟨220,[(0,.own 1000000),(2,jI w),(4,V.p (Value.func (Fn.func 29) #[] #[])),(14,jI g),(15,jI h),(85,jT i)],[(1000000,.row true 11 47 (rowsOf encT47 f))]⟩:St)=some r.st:=by
 unfold f67_l6_j1 at a
 obtain ⟨j,a⟩:=ifE_some.1 a
 obtain ⟨l,a⟩:=ifE_some.1 a
 obtain ⟨c,m,a⟩:=bs a
 obtain ⟨o,a⟩:=ifE_some.1 a
 obtain ⟨p,a⟩:=ifE_some.1 a
 obtain ⟨d,q,a⟩:=bs a
 obtain ⟨o9,s,a⟩:=bs a
 have b:=f29_ok k c.Source c.Dest c.Seq c.Created c.Lifetime c.HopLimit c.Hops c.Priority c.Offset c.Total c.Payload d.Source d.Dest d.Seq d.Created d.Lifetime d.HopLimit d.Hops d.Priority d.Offset d.Total d.Payload _ s
 cases o9 with
 | o0 x =>
  (try dsimp only at a)
  (try simp only [NM,EE,R29.st] at b)
  simp (disch:=first|decide|apply K;kernel_rfl) only [W,simprocAttr,xk B67 [2,1,2,1,2,2,2,2,1,2] (.bk 5) rfl,sr 67 16 B67 [2,2,1,2,1,2,2,2,2,1,2] rfl rfl rfl,t_3,t_128,convV,shiftV,xk B67 [2,2,2,1,2,1,2,2,2,2,1,2] .sq rfl,rg B67 [1,2,2,2,1,2,1,2,2,2,2,1,2] 17 true rfl,hr 67 17 rfl,indexAddrV,t_29,t_47,encT47_eq,callStep,CL,gv,List.contains,xk B67 [2,2,2,2,1,2,1,2,2,2,2,1,2] (.cd 103) rfl,j,l,m,o,p,q,b]
  rcases cond_some a with ⟨e,a⟩ | ⟨e,a⟩
  ·cases a
   simp (disch:=first|decide|apply K;kernel_rfl) only [W,simprocAttr,rg B67 [2,2,2,2,2,1,2,1,2,2,2,2,1,2] 18 false rfl,hr 67 18 rfl,R67_l6.st,j,l,m,o,p,q,b,e]
  ·cases a
   simp (disch:=first|decide|apply K;kernel_rfl) only [W,simprocAttr,rg B67 [3,2,2,2,2,1,2,1,2,2,2,2,1,2] 19 false rfl,hr 67 19 rfl,R67_l6.st,j,l,m,o,p,q,b,e]
noncomputable def f67_l6_b (k:Nat) (Q:Ff67_oiiif29_w) (c a b:Int) (d:List T47):Option R67_l6 :=
 cond ((decide (a<b)))
  (f67_l6_j1 k Q c a b true d)
  (some (.o1 c a b false d))
theorem f67_l6_b_ok (k Q) (H:If67_oiiif29_w k Q) (e a b c r) (d:f67_l6_b k Q e a b c=some r):EX 67 k (nav B67 [1,2,1,2,2,2,2,1,2]) (⟨220,[(0,.own 1000000),(2,jI e),(4,V.p (Value.func (Fn.func 29) #[] #[])),(14,jI a),(15,jI b)],[(1000000,.row true 11 47 (rowsOf encT47 c))]⟩:St)=some r.st:=by
 unfold f67_l6_b at d
 simp only [W,simprocAttr,xk B67 [1,2,1,2,2,2,2,1,2] .sq rfl,sr 67 15 B67 [1,1,2,1,2,2,2,2,1,2] rfl rfl rfl,xk B67 [2,1,1,2,1,2,2,2,2,1,2] (.cd 85) rfl]
 rcases cond_some d with ⟨f,d⟩ | ⟨f,d⟩
 ·have hJ:=f67_l6_j1_ok k Q H e a b true c _ d
  simp only [W,simprocAttr,xk B67 [2,2,1,1,2,1,2,2,2,2,1,2] .sk rfl,f]
  try simp only [NM,EE] at hJ
  exact hJ
 ·cases d
  simp only [W,simprocAttr,xk B67 [3,2,1,1,2,1,2,2,2,2,1,2] (.ex 4) rfl,R67_l6.st,f]
noncomputable def f67_l6 (k:Nat) (Q:Ff67_oiiif29_w):Nat→Int→Int→Int→(List T47)→Option R67_l6
 | 0,_,_,_,_=>none
 | n+1,g,d,e,h=>Option.bind (f67_l6_b k Q g d e h) fun o =>
  match o with
  | .o0 y a b c=>f67_l6 k Q n y a b c
  | .o1 y a b c f=>some (.o1 y a b c f)
theorem f67_l6_ok (k:Nat) (Q:Ff67_oiiif29_w) (H:If67_oiiif29_w k Q) (n:Nat):∀ (e a b:Int) (c:List T47) (r:R67_l6) (d:f67_l6 k Q n e a b c=some r) (σ:St) (hσ:headR (hints.head 67 15) (hints.canon 67 15) σ=some (⟨220,[(0,.own 1000000),(2,jI e),(4,V.p (Value.func (Fn.func 29) #[] #[])),(14,jI a),(15,jI b)],[(1000000,.row true 11 47 (rowsOf encT47 c))]⟩:St)),LP 67 k (nav B67 [1,2,1,2,2,2,2,1,2]) n σ=some r.st:=by
 induction n with
 | zero=>intro e a b c r d;cases d
 | succ n p =>
  intro e a b c r d σ hσ
  rw [f67_l6] at d
  obtain ⟨o,h,d⟩:=Option.bind_eq_some_iff.1 d
  have hB:=f67_l6_b_ok k Q H e a b c o h
  unfold LP at p ⊢
  unfold EX at hB
  rw [loopK_succ,show firstReg (nav B67 [1,2,1,2,2,2,2,1,2])=15 from rfl,hσ,headK_some,hB]
  cases o with
  | o0 y f g i =>
   refine p y f g i r d _ ?_
   simp only [W,simprocAttr,hh_67_15,hc_67_15]
  | o1 y f g i q=>cases d;rfl
inductive R67_l8 where
 | o0 (y a:Int) (b:List T47)
 | o1 (y a:Int) (b:Bool) (c:List T47)
noncomputable def R67_l8.st:R67_l8→Out×St
 | .o0 y a b=>(.norm,(⟨220,[(0,.own 1000000),(14,jI y),(17,jI a)],[(1000000,.row true 11 47 (rowsOf encT47 b))]⟩:St))
 | .o1 y a b c=>(.exit 6,(⟨220,[(0,.own 1000000),(14,jI y),(17,jI a),(110,jT b)],[(1000000,.row true 11 47 (rowsOf encT47 c))]⟩:St))
noncomputable def f67_l8_j2 (k:Nat) (Q:Ff67_oiiif29_w) (a b:Int) (c:List T47):Option R67_l8 :=
 some (.o0 a (IntKind.i64.wrap (b - (1:Int))) c)
theorem f67_l8_j2_ok (k Q) (H:If67_oiiif29_w k Q) (b c a r) (g:f67_l8_j2 k Q b c a=some r):EX 67 k (nav B67 [2,2,1,2,2,1,2,2,2,2,2,1,2]) (⟨220,[(0,.own 1000000),(14,jI b),(17,jI c)],[(1000000,.row true 11 47 (rowsOf encT47 a))]⟩:St)=some r.st:=by
 unfold f67_l8_j2 at g
 cases g
 simp only [W,simprocAttr,rg B67 [2,2,1,2,2,1,2,2,2,2,2,1,2] 22 false rfl,hr 67 22 rfl,R67_l8.st]
noncomputable def f67_l8_j1 (k:Nat) (Q:Ff67_oiiif29_w) (c a:Int) (e:Bool) (b:List T47):Option R67_l8 :=
 ifE ((0:Int)≤(IntKind.i64.wrap (a - (1:Int)))) (
  ifE ((IntKind.i64.wrap (a - (1:Int)))<((List.length b):Int)) (
   Option.bind (b[(Int.toNat (IntKind.i64.wrap (a - (1:Int))))]?) fun d =>
    ifE ((0:Int)≤a) (
     ifE (a<((List.length b):Int)) (
      Option.bind (b[(Int.toNat a)]?) fun f =>
       ifE ((IntKind.i64.wrap (a - (1:Int)))<((List.length (List.set b (Int.toNat a) d)):Int)) (
        Option.bind ((List.set b (Int.toNat a) d)[(Int.toNat (IntKind.i64.wrap (a - (1:Int))))]?) fun g =>
         f67_l8_j2 k Q c a ((List.set (List.set b (Int.toNat a) d) (Int.toNat (IntKind.i64.wrap (a - (1:Int)))) f)))))))
theorem f67_l8_j1_ok (k Q) (H:If67_oiiif29_w k Q) (g a f e r) (b:f67_l8_j1 k Q g a f e=some r):EX 67 k (nav B67 [2,1,2,2,1,2,2,2,2,2,1,2]) (⟨220,[(0,.own 1000000),(14,jI g),(17,jI a),(110,jT f)],[(1000000,.row true 11 47 (rowsOf encT47 e))]⟩:St)=some r.st:=by
 unfold f67_l8_j1 at b
 obtain ⟨s,b⟩:=ifE_some.1 b
 obtain ⟨t,b⟩:=ifE_some.1 b
 obtain ⟨c,u,b⟩:=bs b
 obtain ⟨v,b⟩:=ifE_some.1 b
 obtain ⟨w,b⟩:=ifE_some.1 b
 obtain ⟨d,y,b⟩:=bs b
 have z:List.set (rowsOf encT47 e) (Int.toNat a) [jI c.Source,jI c.Dest,jU c.Seq,jI c.Created,jI c.Lifetime,jI c.HopLimit,jI c.Hops,jI c.Priority,jI c.Offset,jI c.Total,.sl 1 (rowsOf (encI .u8) c.Payload)]=rowsOf encT47 (List.set e (Int.toNat a) c):=(rowsOf_set (enc:=encT47) (l:=e) (i:=(Int.toNat a)) (x:=c)).symm
 obtain ⟨h,b⟩:=ifE_some.1 b
 obtain ⟨n,j,b⟩:=bs b
 have m:List.set (rowsOf encT47 (List.set e (Int.toNat a) c)) (Int.toNat (IntKind.i64.wrap (a - (1:Int)))) [jI d.Source,jI d.Dest,jU d.Seq,jI d.Created,jI d.Lifetime,jI d.HopLimit,jI d.Hops,jI d.Priority,jI d.Offset,jI d.Total,.sl 1 (rowsOf (encI .u8) d.Payload)]=rowsOf encT47 (List.set (List.set e (Int.toNat a) c) (Int.toNat (IntKind.i64.wrap (a - (1:Int)))) d):=(rowsOf_set (enc:=encT47) (l:=(List.set e (Int.toNat a) c)) (i:=(Int.toNat (IntKind.i64.wrap (a - (1:Int))))) (x:=d)).symm
 have hJ:=f67_l8_j2_ok k Q H g a ((List.set (List.set e (Int.toNat a) c) (Int.toNat (IntKind.i64.wrap (a - (1:Int)))) d)) _ b
 simp (disch:=first|decide|apply K;kernel_rfl) only [W,simprocAttr,xk B67 [2,1,2,2,1,2,2,2,2,2,1,2] .sq rfl,xk B67 [1,2,1,2,2,1,2,2,2,2,2,1,2] (.bk 7) rfl,rg B67 [2,1,2,1,2,2,1,2,2,2,2,2,1,2] 23 true rfl,hr 67 23 rfl,indexAddrV,t_29,t_47,encT47_eq,sm_47,s,t,u,v,w,y,z,h,j,m]
 try simp only [NM,EE] at hJ
 exact hJ
noncomputable def f67_l8_b (k:Nat) (Q:Ff67_oiiif29_w) (a b:Int) (c:List T47):Option R67_l8 :=
 cond ((decide (b>a)))
  (f67_l8_j1 k Q a b true c)
  (some (.o1 a b false c))
theorem f67_l8_b_ok (k Q) (H:If67_oiiif29_w k Q) (a b c r) (d:f67_l8_b k Q a b c=some r):EX 67 k (nav B67 [1,2,2,1,2,2,2,2,2,1,2]) (⟨220,[(0,.own 1000000),(14,jI a),(17,jI b)],[(1000000,.row true 11 47 (rowsOf encT47 c))]⟩:St)=some r.st:=by
 unfold f67_l8_b at d
 simp only [W,simprocAttr,xk B67 [1,2,2,1,2,2,2,2,2,1,2] .sq rfl,sr 67 21 B67 [1,1,2,2,1,2,2,2,2,2,1,2] rfl rfl rfl,xk B67 [2,1,1,2,2,1,2,2,2,2,2,1,2] (.cd 110) rfl]
 rcases cond_some d with ⟨e,d⟩ | ⟨e,d⟩
 ·have hJ:=f67_l8_j1_ok k Q H a b true c _ d
  simp only [W,simprocAttr,xk B67 [2,2,1,1,2,2,1,2,2,2,2,2,1,2] .sk rfl,e]
  try simp only [NM,EE] at hJ
  exact hJ
 ·cases d
  simp only [W,simprocAttr,xk B67 [3,2,1,1,2,2,1,2,2,2,2,2,1,2] (.ex 6) rfl,R67_l8.st,e]
noncomputable def f67_l8 (k:Nat) (Q:Ff67_oiiif29_w):Nat→Int→Int→(List T47)→Option R67_l8
 | 0,_,_,_=>none
 | n+1,c,d,f=>Option.bind (f67_l8_b k Q c d f) fun o =>
  match o with
  | .o0 y a b=>f67_l8 k Q n y a b
  | .o1 y a b e=>some (.o1 y a b e)
theorem f67_l8_ok (k:Nat) (Q:Ff67_oiiif29_w) (H:If67_oiiif29_w k Q) (n:Nat):∀ (a b:Int) (c:List T47) (r:R67_l8) (d:f67_l8 k Q n a b c=some r) (σ:St) (hσ:headR (hints.head 67 21) (hints.canon 67 21) σ=some (⟨220,[(0,.own 1000000),(14,jI a),(17,jI b)],[(1000000,.row true 11 47 (rowsOf encT47 c))]⟩:St)),LP 67 k (nav B67 [1,2,2,1,2,2,2,2,2,1,2]) n σ=some r.st:=by
 induction n with
 | zero=>intro a b c r d;cases d
 | succ n l =>
  intro a b c r d σ hσ
  rw [f67_l8] at d
  obtain ⟨o,h,d⟩:=Option.bind_eq_some_iff.1 d
  have hB:=f67_l8_b_ok k Q H a b c o h
  unfold LP at l ⊢
  unfold EX at hB
  rw [loopK_succ,show firstReg (nav B67 [1,2,2,1,2,2,2,2,2,1,2])=21 from rfl,hσ,headK_some,hB]
  cases o with
  | o0 y e f =>
   refine l y e f r d _ ?_
   simp only [W,simprocAttr,hh_67_21,hc_67_21]
  | o1 y e f m=>cases d;rfl
noncomputable def f67_j9 (k:Nat) (Q:Ff67_oiiif29_w) (b c:Int) (a:Bool) (d:List T47):Option R67 :=
 some (.o0 d)
theorem f67_j9_ok (k Q) (H:If67_oiiif29_w k Q) (c d a b r) (h:f67_j9 k Q c d a b=some r):finK Tryd.prog Tryd.f67 1 (SQ 67 k (nav B67 [2,2]) (EX 67 k (nav B67 [2,2,2,2,2,2,1,2]) (⟨220,[(0,.own 1000000),(14,jI c),(17,jI d),(110,jT a)],[(1000000,.row true 11 47 (rowsOf encT47 b))]⟩:St)))=some r.st:=by
 unfold f67_j9 at h
 cases h
 simp only [W,simprocAttr,xk B67 [2,2,2,2,2,2,1,2] .rt rfl,fin67,R67.st]
noncomputable def f67_j7 (k:Nat) (Q:Ff67_oiiif29_w) (b a c:Int) (d:Bool) (e:List T47):Option R67 :=
 Option.bind (f67_l8 k Q k a b e) fun o1 =>
  match o1 with
  | .o0 _ _ _ =>
   none
  | .o1 f g h i =>
   f67_j9 k Q f g h i
theorem f67_j7_ok (k Q) (H:If67_oiiif29_w k Q) (g a e f d r) (b:f67_j7 k Q g a e f d=some r):finK Tryd.prog Tryd.f67 1 (SQ 67 k (nav B67 [2,2]) (EX 67 k (nav B67 [2,2,2,2,2,1,2]) (⟨220,[(0,.own 1000000),(2,jI g),(4,V.p (Value.func (Fn.func 29) #[] #[])),(14,jI a),(15,jI e),(85,jT f)],[(1000000,.row true 11 47 (rowsOf encT47 d))]⟩:St)))=some r.st:=by
 unfold f67_j7 at b
 obtain ⟨o1,l,b⟩:=bs b
 have c:=f67_l8_ok k Q H k a g d _ l
 simp only [W,simprocAttr,xk B67 [2,2,2,2,2,1,2] .sq rfl,sr 67 20 B67 [1,2,2,2,2,2,1,2] rfl rfl rfl,xk B67 [2,1,2,2,2,2,2,1,2] (.bk 6) rfl,xk B67 [2,2,1,2,2,2,2,2,1,2] .lp rfl,hh_67_21,hc_67_21]
 (try simp only [NM,EE] at c)
 rw [c _ (by simp only [W,simprocAttr,hh_67_21,hc_67_21])]
 clear c
 cases o1 with
 | o0 _ _ _ =>
  (try dsimp only at b)
  cases b
 | o1 m o p q =>
  (try dsimp only at b)
  have hJ:=f67_j9_ok k Q H m o p q _ b
  simp only [W,simprocAttr,R67_l8.st]
  try simp only [NM,EE] at hJ
  exact hJ
inductive R67_l12 where
 | o0 (y a b c d e f g:Int) (h:List T47)
 | o1 (y a b c d e f g:Int) (h:Bool) (i:List T47)
noncomputable def R67_l12.st:R67_l12→Out×St
 | .o0 y a b c d e f g h=>(.norm,(⟨220,[(0,.own 1000000),(1,jI y),(2,jI a),(3,jI b),(4,V.p (Value.func (Fn.func 29) #[] #[])),(18,jI c),(19,jI d),(20,jI e),(21,jI f),(22,jI g)],[(1000000,.row true 11 47 (rowsOf encT47 h))]⟩:St))
 | .o1 y a b c d e f g h i=>(.exit 8,(⟨220,[(0,.own 1000000),(1,jI y),(2,jI a),(3,jI b),(4,V.p (Value.func (Fn.func 29) #[] #[])),(18,jI c),(19,jI d),(20,jI e),(21,jI f),(22,jI g),(151,jT h)],[(1000000,.row true 11 47 (rowsOf encT47 i))]⟩:St))
noncomputable def f67_l12_j1 (k:Nat) (Q:Ff67_oiiif29_w) (j l m g h a b c:Int) (o:Bool) (f:List T47):Option R67_l12 :=
 ifE ((0:Int)≤(IntKind.i64.wrap (c - (IntKind.i64.wrap (Int.fdiv (IntKind.u64.wrap (IntKind.i64.wrap (a+b))) (2 ^ (min 1 (IntKind.bits .u64)))))))) (
  ifE ((IntKind.i64.wrap (c - (IntKind.i64.wrap (Int.fdiv (IntKind.u64.wrap (IntKind.i64.wrap (a+b))) (2 ^ (min 1 (IntKind.bits .u64)))))))<((List.length f):Int)) (
   Option.bind (f[(Int.toNat ((IntKind.i64.wrap (c - (IntKind.i64.wrap (Int.fdiv (IntKind.u64.wrap (IntKind.i64.wrap (a+b))) (2 ^ (min 1 (IntKind.bits .u64)))))))))]?) fun d =>
    ifE ((0:Int)≤(IntKind.i64.wrap (Int.fdiv (IntKind.u64.wrap (IntKind.i64.wrap (a+b))) (2 ^ (min 1 (IntKind.bits .u64)))))) (
     ifE ((IntKind.i64.wrap (Int.fdiv (IntKind.u64.wrap (IntKind.i64.wrap (a+b))) (2 ^ (min 1 (IntKind.bits .u64)))))<((List.length f):Int)) (
      Option.bind (f[(Int.toNat ((IntKind.i64.wrap (Int.fdiv (IntKind.u64.wrap (IntKind.i64.wrap (a+b))) (2 ^ (min 1 (IntKind.bits .u64)))))))]?) fun e =>
       Option.bind (f29 k d.Source d.Dest d.Seq d.Created d.Lifetime d.HopLimit d.Hops d.Priority d.Offset d.Total d.Payload e.Source e.Dest e.Seq e.Created e.Lifetime e.HopLimit e.Hops e.Priority e.Offset e.Total e.Payload) fun o9 =>
        match o9 with
        | .o0 i =>
         cond ((!(decide (i<0))))
          (some (.o0 j l m g h ((IntKind.i64.wrap ((IntKind.i64.wrap (Int.fdiv (IntKind.u64.wrap (IntKind.i64.wrap (a+b))) (2 ^ (min 1 (IntKind.bits .u64)))))+(1:Int)))) b c f))
          (some (.o0 j l m g h a ((IntKind.i64.wrap (Int.fdiv (IntKind.u64.wrap (IntKind.i64.wrap (a+b))) (2 ^ (min 1 (IntKind.bits .u64)))))) c f))))))
theorem f67_l12_j1_ok (k Q) (H:If67_oiiif29_w k Q) (z n x3 h i j l m e g r) (a:f67_l12_j1 k Q z n x3 h i j l m e g=some r):EX 67 k (nav B67 [2,1,2,1,2,2,2,2,2,2,2]) (⟨220,[(0,.own 1000000),(1,jI z),(2,jI n),(3,jI x3),(4,V.p (Value.func (Fn.func 29) #[] #[])),(18,jI h),(19,jI i),(20,jI j),(21,jI l),(22,jI m),(151,jT e)],[(1000000,.row true 11 47 (rowsOf encT47 g))]⟩:St)=some r.st:=by
 unfold f67_l12_j1 at a
 obtain ⟨o,a⟩:=ifE_some.1 a
 obtain ⟨p,a⟩:=ifE_some.1 a
 obtain ⟨c,q,a⟩:=bs a
 obtain ⟨s,a⟩:=ifE_some.1 a
 obtain ⟨t,a⟩:=ifE_some.1 a
 obtain ⟨d,u,a⟩:=bs a
 obtain ⟨o9,v,a⟩:=bs a
 have b:=f29_ok k c.Source c.Dest c.Seq c.Created c.Lifetime c.HopLimit c.Hops c.Priority c.Offset c.Total c.Payload d.Source d.Dest d.Seq d.Created d.Lifetime d.HopLimit d.Hops d.Priority d.Offset d.Total d.Payload _ v
 cases o9 with
 | o0 ab =>
  (try dsimp only at a)
  (try simp only [NM,EE,R29.st] at b)
  simp (disch:=first|decide|apply K;kernel_rfl) only [W,simprocAttr,xk B67 [2,1,2,1,2,2,2,2,2,2,2] (.bk 9) rfl,sr 67 34 B67 [2,2,1,2,1,2,2,2,2,2,2,2] rfl rfl rfl,t_3,t_128,convV,shiftV,xk B67 [2,2,2,1,2,1,2,2,2,2,2,2,2] .sq rfl,rg B67 [1,2,2,2,1,2,1,2,2,2,2,2,2,2] 35 true rfl,hr 67 35 rfl,indexAddrV,t_29,t_47,encT47_eq,callStep,CL,gv,List.contains,xk B67 [2,2,2,2,1,2,1,2,2,2,2,2,2,2] (.cd 171) rfl,o,p,q,s,t,u,b]
  rcases cond_some a with ⟨f,a⟩ | ⟨f,a⟩
  ·cases a
   simp (disch:=first|decide|apply K;kernel_rfl) only [W,simprocAttr,rg B67 [2,2,2,2,2,1,2,1,2,2,2,2,2,2,2] 36 false rfl,hr 67 36 rfl,R67_l12.st,o,p,q,s,t,u,b,f]
  ·cases a
   simp (disch:=first|decide|apply K;kernel_rfl) only [W,simprocAttr,rg B67 [3,2,2,2,2,1,2,1,2,2,2,2,2,2,2] 37 false rfl,hr 67 37 rfl,R67_l12.st,o,p,q,s,t,u,b,f]
noncomputable def f67_l12_b (k:Nat) (Q:Ff67_oiiif29_w) (f g h c d a b e:Int) (i:List T47):Option R67_l12 :=
 cond ((decide (a<b)))
  (f67_l12_j1 k Q f g h c d a b e true i)
  (some (.o1 f g h c d a b e false i))
theorem f67_l12_b_ok (k Q) (H:If67_oiiif29_w k Q) (h i j a b c d e f r) (g:f67_l12_b k Q h i j a b c d e f=some r):EX 67 k (nav B67 [1,2,1,2,2,2,2,2,2,2]) (⟨220,[(0,.own 1000000),(1,jI h),(2,jI i),(3,jI j),(4,V.p (Value.func (Fn.func 29) #[] #[])),(18,jI a),(19,jI b),(20,jI c),(21,jI d),(22,jI e)],[(1000000,.row true 11 47 (rowsOf encT47 f))]⟩:St)=some r.st:=by
 unfold f67_l12_b at g
 simp only [W,simprocAttr,xk B67 [1,2,1,2,2,2,2,2,2,2] .sq rfl,sr 67 33 B67 [1,1,2,1,2,2,2,2,2,2,2] rfl rfl rfl,xk B67 [2,1,1,2,1,2,2,2,2,2,2,2] (.cd 151) rfl]
 rcases cond_some g with ⟨l,g⟩ | ⟨l,g⟩
 ·have hJ:=f67_l12_j1_ok k Q H h i j a b c d e true f _ g
  simp only [W,simprocAttr,xk B67 [2,2,1,1,2,1,2,2,2,2,2,2,2] .sk rfl,l]
  try simp only [NM,EE] at hJ
  exact hJ
 ·cases g
  simp only [W,simprocAttr,xk B67 [3,2,1,1,2,1,2,2,2,2,2,2,2] (.ex 8) rfl,R67_l12.st,l]
noncomputable def f67_l12 (k:Nat) (Q:Ff67_oiiif29_w):Nat→Int→Int→Int→Int→Int→Int→Int→Int→(List T47)→Option R67_l12
 | 0,_,_,_,_,_,_,_,_,_=>none
 | n+1,s,t,u,i,j,l,m,p,v=>Option.bind (f67_l12_b k Q s t u i j l m p v) fun o =>
  match o with
  | .o0 y a b c d e f g h=>f67_l12 k Q n y a b c d e f g h
  | .o1 y a b c d e f g h q=>some (.o1 y a b c d e f g h q)
theorem f67_l12_ok (k:Nat) (Q:Ff67_oiiif29_w) (H:If67_oiiif29_w k Q) (n:Nat):∀ (i j l a b c d e:Int) (f:List T47) (r:R67_l12) (g:f67_l12 k Q n i j l a b c d e f=some r) (σ:St) (hσ:headR (hints.head 67 33) (hints.canon 67 33) σ=some (⟨220,[(0,.own 1000000),(1,jI i),(2,jI j),(3,jI l),(4,V.p (Value.func (Fn.func 29) #[] #[])),(18,jI a),(19,jI b),(20,jI c),(21,jI d),(22,jI e)],[(1000000,.row true 11 47 (rowsOf encT47 f))]⟩:St)),LP 67 k (nav B67 [1,2,1,2,2,2,2,2,2,2]) n σ=some r.st:=by
 induction n with
 | zero=>intro i j l a b c d e f r g;cases g
 | succ n ih =>
  intro i j l a b c d e f r g σ hσ
  rw [f67_l12] at g
  obtain ⟨o,h,g⟩:=Option.bind_eq_some_iff.1 g
  have hB:=f67_l12_b_ok k Q H i j l a b c d e f o h
  unfold LP at ih ⊢
  unfold EX at hB
  rw [loopK_succ,show firstReg (nav B67 [1,2,1,2,2,2,2,2,2,2])=33 from rfl,hσ,headK_some,hB]
  cases o with
  | o0 y m p q s t u v w =>
   refine ih y m p q s t u v w r g _ ?_
   simp only [W,simprocAttr,hh_67_33,hc_67_33]
  | o1 y m p q s t u v w ac=>cases g;rfl
noncomputable def f67_j15 (k:Nat) (Q:Ff67_oiiif29_w) (d b a:Int) (c:List T47):Option R67 :=
 cond ((decide (b<a)))
  (
   cond ((decide (a<d)))
    (
     Option.bind (Q b a d c) fun o3 =>
      match o3 with
      | .o0 e =>
       some (.o0 e))
    (some (.o0 c)))
  (some (.o0 c))
theorem f67_j15_ok (k Q) (H:If67_oiiif29_w k Q) (g b c d r) (a:f67_j15 k Q g b c d=some r):finK Tryd.prog Tryd.f67 1 (EX 67 k (nav B67 [2,2,2,2,2,2,2,2,2,2,2]) (⟨220,[(0,.own 1000000),(3,jI g),(4,V.p (Value.func (Fn.func 29) #[] #[])),(18,jI b),(24,jI c)],[(1000000,.row true 11 47 (rowsOf encT47 d))]⟩:St))=some r.st:=by
 unfold f67_j15 at a
 simp only [W,simprocAttr,sr 67 43 B67 [2,2,2,2,2,2,2,2,2,2,2] rfl rfl rfl]
 rcases cond_some a with ⟨e,a⟩ | ⟨e,a⟩
 ·simp only [W,simprocAttr,xk B67 [2,2,2,2,2,2,2,2,2,2,2,2] (.cd 213) rfl,e]
  rcases cond_some a with ⟨h,a⟩ | ⟨h,a⟩
  ·obtain ⟨o3,m,a⟩:=bs a
   have f:=H b c g d _ m
   cases o3 with
   | o0 o =>
    (try dsimp only at a)
    (try simp only [NM,EE,R67.st] at f)
    cases a
    simp only [W,simprocAttr,rg B67 [2,2,2,2,2,2,2,2,2,2,2,2,2] 44 false rfl,hr 67 44 rfl,callStep,CL,gv,List.contains,fin67,R67.st,e,h,f]
  ·cases a
   simp only [W,simprocAttr,xk B67 [3,2,2,2,2,2,2,2,2,2,2,2,2] .sk rfl,fin67,R67.st,e,h]
 ·cases a
  simp only [W,simprocAttr,xk B67 [2,2,2,2,2,2,2,2,2,2,2,2] (.cd 213) rfl,xk B67 [3,2,2,2,2,2,2,2,2,2,2,2,2] .sk rfl,fin67,R67.st,e]
noncomputable def f67_j16 (k:Nat) (Q:Ff67_oiiif29_w) (h d b f a:Int) (e:Bool) (c:List T47):Option R67 :=
 cond ((decide (b<a)))
  (
   cond ((decide (a<d)))
    (
     Option.bind (Q b a d c) fun o3 =>
      match o3 with
      | .o0 g =>
       some (.o0 g))
    (some (.o0 c)))
  (some (.o0 c))
theorem f67_j16_ok (k Q) (H:If67_oiiif29_w k Q) (p i c f d b e r) (a:f67_j16 k Q p i c f d b e=some r):finK Tryd.prog Tryd.f67 1 (EX 67 k (nav B67 [2,2,2,2,2,2,2,2,2,2,2]) (⟨220,[(0,.own 1000000),(1,jI p),(3,jI i),(4,V.p (Value.func (Fn.func 29) #[] #[])),(18,jI c),(20,jI f),(24,jI d),(199,jT b)],[(1000000,.row true 11 47 (rowsOf encT47 e))]⟩:St))=some r.st:=by
 unfold f67_j16 at a
 simp only [W,simprocAttr,sr 67 43 B67 [2,2,2,2,2,2,2,2,2,2,2] rfl rfl rfl]
 rcases cond_some a with ⟨g,a⟩ | ⟨g,a⟩
 ·simp only [W,simprocAttr,xk B67 [2,2,2,2,2,2,2,2,2,2,2,2] (.cd 213) rfl,g]
  rcases cond_some a with ⟨j,a⟩ | ⟨j,a⟩
  ·obtain ⟨o3,q,a⟩:=bs a
   have h:=H c d i e _ q
   cases o3 with
   | o0 s =>
    (try dsimp only at a)
    (try simp only [NM,EE,R67.st] at h)
    cases a
    simp only [W,simprocAttr,rg B67 [2,2,2,2,2,2,2,2,2,2,2,2,2] 44 false rfl,hr 67 44 rfl,callStep,CL,gv,List.contains,fin67,R67.st,g,j,h]
  ·cases a
   simp only [W,simprocAttr,xk B67 [3,2,2,2,2,2,2,2,2,2,2,2,2] .sk rfl,fin67,R67.st,g,j]
 ·cases a
  simp only [W,simprocAttr,xk B67 [2,2,2,2,2,2,2,2,2,2,2,2] (.cd 213) rfl,xk B67 [3,2,2,2,2,2,2,2,2,2,2,2,2] .sk rfl,fin67,R67.st,g]
noncomputable def f67_j14 (k:Nat) (Q:Ff67_oiiif29_w) (d e a b c:Int) (f:List T47):Option R67 :=
 cond ((decide (d<b)))
  (
   cond ((decide (b<a)))
    (
     Option.bind (Q d b a f) fun o3 =>
      match o3 with
      | .o0 g =>
       f67_j15 k Q e a c g)
    (f67_j16 k Q d e a b c false f))
  (f67_j16 k Q d e a b c false f)
theorem f67_j14_ok (k Q) (H:If67_oiiif29_w k Q) (f g a c d e r) (b:f67_j14 k Q f g a c d e=some r):finK Tryd.prog Tryd.f67 1 (EX 67 k (nav B67 [2,2,2,2,2,2,2,2,2,2]) (⟨220,[(0,.own 1000000),(1,jI f),(3,jI g),(4,V.p (Value.func (Fn.func 29) #[] #[])),(18,jI a),(20,jI c),(24,jI d)],[(1000000,.row true 11 47 (rowsOf encT47 e))]⟩:St))=some r.st:=by
 unfold f67_j14 at b
 simp only [W,simprocAttr,xk B67 [2,2,2,2,2,2,2,2,2,2] .sq rfl,sr 67 41 B67 [1,2,2,2,2,2,2,2,2,2,2] rfl rfl rfl]
 rcases cond_some b with ⟨h,b⟩ | ⟨h,b⟩
 ·simp only [W,simprocAttr,xk B67 [2,1,2,2,2,2,2,2,2,2,2,2] (.cd 199) rfl,h]
  rcases cond_some b with ⟨j,b⟩ | ⟨j,b⟩
  ·obtain ⟨o3,p,b⟩:=bs b
   have i:=H f c a e _ p
   cases o3 with
   | o0 q =>
    (try dsimp only at b)
    (try simp only [NM,EE,R67.st] at i)
    have hJ:=f67_j15_ok k Q H g a d q _ b
    simp only [W,simprocAttr,rg B67 [2,2,1,2,2,2,2,2,2,2,2,2,2] 42 false rfl,hr 67 42 rfl,callStep,CL,gv,List.contains,h,j,i]
    try simp only [NM,EE] at hJ
    exact hJ
  ·have hJ:=f67_j16_ok k Q H f g a c d false e _ b
   simp only [W,simprocAttr,xk B67 [3,2,1,2,2,2,2,2,2,2,2,2,2] .sk rfl,h,j]
   try simp only [NM,EE] at hJ
   exact hJ
 ·have hJ:=f67_j16_ok k Q H f g a c d false e _ b
  simp only [W,simprocAttr,xk B67 [2,1,2,2,2,2,2,2,2,2,2,2] (.cd 199) rfl,xk B67 [3,2,1,2,2,2,2,2,2,2,2,2,2] .sk rfl,h]
  try simp only [NM,EE] at hJ
  exact hJ
noncomputable def f67_j17 (k:Nat) (Q:Ff67_oiiif29_w) (d i e a b c:Int) (g:Bool) (f:List T47):Option R67 :=
 cond ((decide (d<b)))
  (
   cond ((decide (b<a)))
    (
     Option.bind (Q d b a f) fun o3 =>
      match o3 with
      | .o0 h =>
       f67_j15 k Q e a c h)
    (f67_j16 k Q d e a b c false f))
  (f67_j16 k Q d e a b c false f)
theorem f67_j17_ok (k Q) (H:If67_oiiif29_w k Q) (g q h a c d f e r) (b:f67_j17 k Q g q h a c d f e=some r):finK Tryd.prog Tryd.f67 1 (EX 67 k (nav B67 [2,2,2,2,2,2,2,2,2,2]) (⟨220,[(0,.own 1000000),(1,jI g),(2,jI q),(3,jI h),(4,V.p (Value.func (Fn.func 29) #[] #[])),(18,jI a),(20,jI c),(24,jI d),(185,jT f)],[(1000000,.row true 11 47 (rowsOf encT47 e))]⟩:St))=some r.st:=by
 unfold f67_j17 at b
 simp only [W,simprocAttr,xk B67 [2,2,2,2,2,2,2,2,2,2] .sq rfl,sr 67 41 B67 [1,2,2,2,2,2,2,2,2,2,2] rfl rfl rfl]
 rcases cond_some b with ⟨i,b⟩ | ⟨i,b⟩
 ·simp only [W,simprocAttr,xk B67 [2,1,2,2,2,2,2,2,2,2,2,2] (.cd 199) rfl,i]
  rcases cond_some b with ⟨l,b⟩ | ⟨l,b⟩
  ·obtain ⟨o3,s,b⟩:=bs b
   have j:=H g c a e _ s
   cases o3 with
   | o0 t =>
    (try dsimp only at b)
    (try simp only [NM,EE,R67.st] at j)
    have hJ:=f67_j15_ok k Q H h a d t _ b
    simp only [W,simprocAttr,rg B67 [2,2,1,2,2,2,2,2,2,2,2,2,2] 42 false rfl,hr 67 42 rfl,callStep,CL,gv,List.contains,i,l,j]
    try simp only [NM,EE] at hJ
    exact hJ
  ·have hJ:=f67_j16_ok k Q H g h a c d false e _ b
   simp only [W,simprocAttr,xk B67 [3,2,1,2,2,2,2,2,2,2,2,2,2] .sk rfl,i,l]
   try simp only [NM,EE] at hJ
   exact hJ
 ·have hJ:=f67_j16_ok k Q H g h a c d false e _ b
  simp only [W,simprocAttr,xk B67 [2,1,2,2,2,2,2,2,2,2,2,2] (.cd 199) rfl,xk B67 [3,2,1,2,2,2,2,2,2,2,2,2,2] .sk rfl,i]
  try simp only [NM,EE] at hJ
  exact hJ
noncomputable def f67_j13 (k:Nat) (Q:Ff67_oiiif29_w) (e d f c b a i j:Int) (h:Bool) (g:List T47):Option R67 :=
 cond ((decide (a<d)))
  (
   cond ((decide (d<(IntKind.i64.wrap (b - a)))))
    (
     Option.bind (f74 k a d (IntKind.i64.wrap (b - a)) g) fun o3 =>
      match o3 with
      | .o0 l =>
       f67_j14 k Q e f c a (IntKind.i64.wrap (b - a)) l)
    (f67_j17 k Q e d f c a (IntKind.i64.wrap (b - a)) false g))
  (f67_j17 k Q e d f c a (IntKind.i64.wrap (b - a)) false g)
theorem f67_j13_ok (k Q) (H:If67_oiiif29_w k Q) (g h i d b a j l f e r) (c:f67_j13 k Q g h i d b a j l f e=some r):finK Tryd.prog Tryd.f67 1 (EX 67 k (nav B67 [2,2,2,2,2,2,2,2]) (⟨220,[(0,.own 1000000),(1,jI g),(2,jI h),(3,jI i),(4,V.p (Value.func (Fn.func 29) #[] #[])),(18,jI d),(19,jI b),(20,jI a),(21,jI j),(22,jI l),(151,jT f)],[(1000000,.row true 11 47 (rowsOf encT47 e))]⟩:St))=some r.st:=by
 unfold f67_j13 at c
 simp only [W,simprocAttr,sr 67 38 B67 [2,2,2,2,2,2,2,2] rfl rfl rfl,xk B67 [2,2,2,2,2,2,2,2,2] .sq rfl,sr 67 39 B67 [1,2,2,2,2,2,2,2,2,2] rfl rfl rfl]
 rcases cond_some c with ⟨m,c⟩ | ⟨m,c⟩
 ·simp only [W,simprocAttr,xk B67 [2,1,2,2,2,2,2,2,2,2,2] (.cd 185) rfl,m]
  rcases cond_some c with ⟨p,c⟩ | ⟨p,c⟩
  ·obtain ⟨o3,u,c⟩:=bs c
   have o:=f74_ok k a h (IntKind.i64.wrap (b - a)) e _ u
   cases o3 with
   | o0 v =>
    (try dsimp only at c)
    (try simp only [NM,EE,R74.st] at o)
    have hJ:=f67_j14_ok k Q H g i d a (IntKind.i64.wrap (b - a)) v _ c
    simp only [W,simprocAttr,rg B67 [2,2,1,2,2,2,2,2,2,2,2,2] 40 false rfl,hr 67 40 rfl,callStep,CL,gv,List.contains,m,p,o]
    try simp only [NM,EE] at hJ
    exact hJ
  ·have hJ:=f67_j17_ok k Q H g h i d a (IntKind.i64.wrap (b - a)) false e _ c
   simp only [W,simprocAttr,xk B67 [3,2,1,2,2,2,2,2,2,2,2,2] .sk rfl,m,p]
   try simp only [NM,EE] at hJ
   exact hJ
 ·have hJ:=f67_j17_ok k Q H g h i d a (IntKind.i64.wrap (b - a)) false e _ c
  simp only [W,simprocAttr,xk B67 [2,1,2,2,2,2,2,2,2,2,2] (.cd 185) rfl,xk B67 [3,2,1,2,2,2,2,2,2,2,2,2] .sk rfl,m]
  try simp only [NM,EE] at hJ
  exact hJ
noncomputable def f67_j11 (k:Nat) (Q:Ff67_oiiif29_w) (i j l b a c d:Int) (m:List T47):Option R67 :=
 Option.bind (f67_l12 k Q k i j l b a c d (IntKind.i64.wrap (a - (1:Int))) m) fun o1 =>
  match o1 with
  | .o0 _ _ _ _ _ _ _ _ _ =>
   none
  | .o1 o p q s t u e f g h =>
   f67_j13 k Q o p q s t u e f g h
theorem f67_j11_ok (k Q) (H:If67_oiiif29_w k Q) (h i j b a c d g r) (e:f67_j11 k Q h i j b a c d g=some r):finK Tryd.prog Tryd.f67 1 (EX 67 k (nav B67 [2,2,2,2,2,2]) (⟨220,[(0,.own 1000000),(1,jI h),(2,jI i),(3,jI j),(4,V.p (Value.func (Fn.func 29) #[] #[])),(18,jI b),(19,jI a),(20,jI c),(21,jI d)],[(1000000,.row true 11 47 (rowsOf encT47 g))]⟩:St))=some r.st:=by
 unfold f67_j11 at e
 obtain ⟨o1,u,e⟩:=bs e
 have f:=f67_l12_ok k Q H k h i j b a c d (IntKind.i64.wrap (a - (1:Int))) g _ u
 simp only [W,simprocAttr,sr 67 32 B67 [2,2,2,2,2,2] rfl rfl rfl,xk B67 [2,2,2,2,2,2,2] .sq rfl,xk B67 [1,2,2,2,2,2,2,2] (.bk 8) rfl,xk B67 [2,1,2,2,2,2,2,2,2] .lp rfl,hh_67_33,hc_67_33]
 (try simp only [NM,EE] at f)
 rw [f _ (by simp only [W,simprocAttr,hh_67_33,hc_67_33])]
 clear f
 cases o1 with
 | o0 _ _ _ _ _ _ _ _ _ =>
  (try dsimp only at e)
  cases e
 | o1 v w x y z n l m o p =>
  (try dsimp only at e)
  have hJ:=f67_j13_ok k Q H v w x y z n l m o p _ e
  simp only [W,simprocAttr,R67_l12.st]
  try simp only [NM,EE] at hJ
  exact hJ
noncomputable def f67_j10 (k:Nat) (Q:Ff67_oiiif29_w) (a c b:Int) (e:Bool) (d:List T47):Option R67 :=
 cond ((decide (c>(IntKind.i64.wrap (Int.fdiv (IntKind.u64.wrap (IntKind.i64.wrap (a+b))) (2 ^ (min 1 (IntKind.bits .u64))))))))
  (f67_j11 k Q a c b ((IntKind.i64.wrap (Int.fdiv (IntKind.u64.wrap (IntKind.i64.wrap (a+b))) (2 ^ (min 1 (IntKind.bits .u64)))))) ((IntKind.i64.wrap ((IntKind.i64.wrap (Int.fdiv (IntKind.u64.wrap (IntKind.i64.wrap (a+b))) (2 ^ (min 1 (IntKind.bits .u64)))))+c))) ((IntKind.i64.wrap ((IntKind.i64.wrap ((IntKind.i64.wrap (Int.fdiv (IntKind.u64.wrap (IntKind.i64.wrap (a+b))) (2 ^ (min 1 (IntKind.bits .u64)))))+c)) - b))) ((IntKind.i64.wrap (Int.fdiv (IntKind.u64.wrap (IntKind.i64.wrap (a+b))) (2 ^ (min 1 (IntKind.bits .u64)))))) d)
  (f67_j11 k Q a c b ((IntKind.i64.wrap (Int.fdiv (IntKind.u64.wrap (IntKind.i64.wrap (a+b))) (2 ^ (min 1 (IntKind.bits .u64)))))) ((IntKind.i64.wrap ((IntKind.i64.wrap (Int.fdiv (IntKind.u64.wrap (IntKind.i64.wrap (a+b))) (2 ^ (min 1 (IntKind.bits .u64)))))+c))) a c d)
theorem f67_j10_ok (k Q) (H:If67_oiiif29_w k Q) (a c b f d r) (e:f67_j10 k Q a c b f d=some r):finK Tryd.prog Tryd.f67 1 (EX 67 k (nav B67 [2,2]) (⟨220,[(0,.own 1000000),(1,jI a),(2,jI c),(3,jI b),(4,V.p (Value.func (Fn.func 29) #[] #[])),(80,jT f)],[(1000000,.row true 11 47 (rowsOf encT47 d))]⟩:St))=some r.st:=by
 unfold f67_j10 at e
 simp only [W,simprocAttr,sr 67 24 B67 [2,2] rfl rfl rfl,t_3,t_128,convV,shiftV,sr 67 25 B67 [2,2,2] rfl rfl rfl,sr 67 26 B67 [2,2,2,2] rfl rfl rfl,xk B67 [2,2,2,2,2] .sq rfl,sr 67 27 B67 [1,2,2,2,2,2] rfl rfl rfl,xk B67 [2,1,2,2,2,2,2] (.cd 140) rfl]
 rcases cond_some e with ⟨g,e⟩ | ⟨g,e⟩
 ·have hJ:=f67_j11_ok k Q H a c b ((IntKind.i64.wrap (Int.fdiv (IntKind.u64.wrap (IntKind.i64.wrap (a+b))) (2 ^ (min 1 (IntKind.bits .u64)))))) ((IntKind.i64.wrap ((IntKind.i64.wrap (Int.fdiv (IntKind.u64.wrap (IntKind.i64.wrap (a+b))) (2 ^ (min 1 (IntKind.bits .u64)))))+c))) ((IntKind.i64.wrap ((IntKind.i64.wrap ((IntKind.i64.wrap (Int.fdiv (IntKind.u64.wrap (IntKind.i64.wrap (a+b))) (2 ^ (min 1 (IntKind.bits .u64)))))+c)) - b))) ((IntKind.i64.wrap (Int.fdiv (IntKind.u64.wrap (IntKind.i64.wrap (a+b))) (2 ^ (min 1 (IntKind.bits .u64)))))) d _ e
  simp only [W,simprocAttr,sr 67 28 B67 [2,2,1,2,2,2,2,2] rfl rfl rfl,rg B67 [2,2,2,1,2,2,2,2,2] 29 false rfl,hr 67 29 rfl,g]
  try simp only [NM,EE] at hJ
  exact hJ
 ·have hJ:=f67_j11_ok k Q H a c b ((IntKind.i64.wrap (Int.fdiv (IntKind.u64.wrap (IntKind.i64.wrap (a+b))) (2 ^ (min 1 (IntKind.bits .u64)))))) ((IntKind.i64.wrap ((IntKind.i64.wrap (Int.fdiv (IntKind.u64.wrap (IntKind.i64.wrap (a+b))) (2 ^ (min 1 (IntKind.bits .u64)))))+c))) a c d _ e
  simp only [W,simprocAttr,sr 67 30 B67 [3,2,1,2,2,2,2,2] rfl rfl rfl,rg B67 [2,3,2,1,2,2,2,2,2] 31 false rfl,hr 67 31 rfl,g]
  try simp only [NM,EE] at hJ
  exact hJ
noncomputable def f67_j5 (k:Nat) (Q:Ff67_oiiif29_w) (b a c:Int) (e:Bool) (d:List T47):Option R67 :=
 cond (((IntKind.i64.wrap (c - a))==1))
  (
   Option.bind (f67_l6 k Q k a b a d) fun o2 =>
    match o2 with
    | .o0 _ _ _ _ =>
     none
    | .o1 f g h i j =>
     f67_j7 k Q f g h i j)
  (f67_j10 k Q b a c false d)
theorem f67_j5_ok (k Q) (H:If67_oiiif29_w k Q) (g d h e b r) (a:f67_j5 k Q g d h e b=some r):finK Tryd.prog Tryd.f67 1 (EX 67 k (nav B67 [2]) (⟨220,[(0,.own 1000000),(1,jI g),(2,jI d),(3,jI h),(4,V.p (Value.func (Fn.func 29) #[] #[])),(28,jT e)],[(1000000,.row true 11 47 (rowsOf encT47 b))]⟩:St))=some r.st:=by
 unfold f67_j5 at a
 simp only [W,simprocAttr,xk B67 [2] .sq rfl,sr 67 12 B67 [1,2] rfl rfl rfl,xk B67 [2,1,2] (.cd 80) rfl]
 rcases cond_some a with ⟨f,a⟩ | ⟨f,a⟩
 ·obtain ⟨o2,m,a⟩:=bs a
  have c:=f67_l6_ok k Q H k d g d b _ m
  simp only [W,simprocAttr,sr 67 13 B67 [2,2,1,2] rfl rfl rfl,sr 67 14 B67 [2,2,2,1,2] rfl rfl rfl,xk B67 [2,2,2,2,1,2] .sq rfl,xk B67 [1,2,2,2,2,1,2] (.bk 4) rfl,xk B67 [2,1,2,2,2,2,1,2] .lp rfl,hh_67_15,hc_67_15,f]
  (try simp only [NM,EE] at c)
  rw [c _ (by simp only [W,simprocAttr,hh_67_15,hc_67_15,f])]
  clear c
  cases o2 with
  | o0 _ _ _ _ =>
   (try dsimp only at a)
   cases a
  | o1 o p q s t =>
   (try dsimp only at a)
   have hJ:=f67_j7_ok k Q H o p q s t _ a
   simp only [W,simprocAttr,R67_l6.st,f]
   try simp only [NM,EE] at hJ
   exact hJ
 ·have hJ:=f67_j10_ok k Q H g d h false b _ a
  simp only [W,simprocAttr,xk B67 [3,2,1,2] .sk rfl,f]
  try simp only [NM,EE] at hJ
  exact hJ
noncomputable def f67_e (k:Nat) (Q:Ff67_oiiif29_w) (a b c:Int) (d:List T47):Option R67 :=
 cond (((IntKind.i64.wrap (b - a))==1))
  (
   Option.bind (f67_l1 k Q k a b c d) fun o2 =>
    match o2 with
    | .o0 _ _ _ _ =>
     none
    | .o1 e f g h i =>
     f67_j2 k Q e f g h i)
  (f67_j5 k Q a b c false d)
theorem f67_e_ok (k Q) (H:If67_oiiif29_w k Q) (b c d e r) (a:f67_e k Q b c d e=some r):finK Tryd.prog Tryd.f67 1 (EX 67 k (nav B67 []) (⟨220,[(0,.own 1000000),(1,jI b),(2,jI c),(3,jI d),(4,V.p (Value.func (Fn.func 29) #[] #[]))],[(1000000,.row true 11 47 (rowsOf encT47 e))]⟩:St))=some r.st:=by
 unfold f67_e at a
 simp only [W,simprocAttr,xk B67 [] .sq rfl,sr 67 0 B67 [1] rfl rfl rfl,xk B67 [2,1] (.cd 28) rfl]
 rcases cond_some a with ⟨g,a⟩ | ⟨g,a⟩
 ·obtain ⟨o2,h,a⟩:=bs a
  have f:=f67_l1_ok k Q H k b c d e _ h
  simp only [W,simprocAttr,sr 67 1 B67 [2,2,1] rfl rfl rfl,sr 67 2 B67 [2,2,2,1] rfl rfl rfl,xk B67 [2,2,2,2,1] .sq rfl,xk B67 [1,2,2,2,2,1] (.bk 0) rfl,xk B67 [2,1,2,2,2,2,1] .lp rfl,hh_67_3,hc_67_3,g]
  (try simp only [NM,EE] at f)
  rw [f _ (by simp only [W,simprocAttr,hh_67_3,hc_67_3,g])]
  clear f
  cases o2 with
  | o0 _ _ _ _ =>
   (try dsimp only at a)
   cases a
  | o1 i j l m o =>
   (try dsimp only at a)
   have hJ:=f67_j2_ok k Q H i j l m o _ a
   simp only [W,simprocAttr,R67_l1.st,g]
   try simp only [NM,EE] at hJ
   exact hJ
 ·have hJ:=f67_j5_ok k Q H b c d false e _ a
  simp only [W,simprocAttr,xk B67 [3,2,1] .sk rfl,g]
  try simp only [NM,EE] at hJ
  exact hJ
noncomputable def f67:Nat→Int→Int→Int→(List T47)→Option R67
 | 0,_,_,_,_=>none
 | k+1,a,b,c,d=>f67_e k (f67 k) a b c d
theorem f67_all (k:Nat):(∀ (a b d:Int) (e:List T47) (r:R67),f67 k a b d e=some r→CV k 67 [.own 1000000,jI a,jI b,jI d,V.p (Value.func (Fn.func 29) #[] #[])] [.row true 11 47 (rowsOf encT47 e)]=some r.st):=by
 induction k with
 | zero=>exact (by intro a b d e r f;rw [f67] at f;cases f)
 | succ k g =>
  have ih_f67_oiiif29_w:=g
  exact (by intro a b d e r f;rw [f67] at f;unfold CV;rw [ev_call (F:=Tryd.f67) (c:=(nav B67 [])) rfl Tryd.func67 rfl rfl rfl rfl];exact f67_e_ok k (f67 k) ih_f67_oiiif29_w a b d e r f)
theorem f67_ok (k a b c d r) (e:f67 k a b c d=some r):CV k 67 [.own 1000000,jI a,jI b,jI c,V.p (Value.func (Fn.func 29) #[] #[])] [.row true 11 47 (rowsOf encT47 d)]=some r.st:=f67_all k a b c d r e
end Go.Proofs.YtiompmmbjpjjeaaDoorV