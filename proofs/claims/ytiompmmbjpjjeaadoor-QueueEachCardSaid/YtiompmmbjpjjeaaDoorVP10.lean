/- What the program's functions answer: plain functions,and that the interpreter answers what they do. Written by a program of this session,out of the translation. -/
import Derived.Test.YtiompmmbjpjjeaaDoorVP9
namespace Go.Proofs.YtiompmmbjpjjeaaDoorV
open Go
set_option linter.unusedVariables false
set_option linter.unusedSimpArgs false
set_option maxRecDepth 8000
set_option maxHeartbeats 4000000
-- f80: f80 slices.swapRangeCmpFunc[heliograph/api.Bundle]
inductive R80 where
 | o0 (y:List T47)
noncomputable def R80.st:R80→V×List O×List O
 | .o0 y=>(V.tup [],[.row true 11 47 (rowsOf encT47 y)],[])
inductive R80_l1 where
 | o0 (y a b c:Int) (d:List T47)
 | o1 (y a b c:Int) (d:Bool) (e:List T47)
noncomputable def R80_l1.st:R80_l1→Out×St
 | .o0 y a b c d=>(.norm,(⟨38,[(0,.own 1000000),(1,jI y),(2,jI a),(3,jI b),(10,jI c)],[(1000000,.row true 11 47 (rowsOf encT47 d))]⟩:St))
 | .o1 y a b c d e=>(.exit 0,(⟨38,[(0,.own 1000000),(1,jI y),(2,jI a),(3,jI b),(10,jI c),(13,jT d)],[(1000000,.row true 11 47 (rowsOf encT47 e))]⟩:St))
noncomputable def f80_l1_j2 (k:Nat) (b c d a:Int) (e:List T47):Option R80_l1 :=
 some (.o0 b c d (IntKind.i64.wrap (a+(1:Int))) e)
theorem f80_l1_j2_ok (k b c d a e r) (f:f80_l1_j2 k b c d a e=some r):EX 80 k (nav B80 [2,2,1,2,2]) (⟨38,[(0,.own 1000000),(1,jI b),(2,jI c),(3,jI d),(10,jI a)],[(1000000,.row true 11 47 (rowsOf encT47 e))]⟩:St)=some r.st:=by
 unfold f80_l1_j2 at f
 cases f
 simp only [W,simprocAttr,rg B80 [2,2,1,2,2] 2 false rfl,hr 80 2 rfl,R80_l1.st]
noncomputable def f80_l1_j1 (k:Nat) (b c f a:Int) (g:Bool) (d:List T47):Option R80_l1 :=
 ifE ((0:Int)≤(IntKind.i64.wrap (c+a))) (
  ifE ((IntKind.i64.wrap (c+a))<((List.length d):Int)) (
   Option.bind (d[(Int.toNat (IntKind.i64.wrap (c+a)))]?) fun e =>
    ifE ((0:Int)≤(IntKind.i64.wrap (b+a))) (
     ifE ((IntKind.i64.wrap (b+a))<((List.length d):Int)) (
      Option.bind (d[(Int.toNat (IntKind.i64.wrap (b+a)))]?) fun h =>
       ifE ((IntKind.i64.wrap (c+a))<((List.length (List.set d (Int.toNat (IntKind.i64.wrap (b+a))) e)):Int)) (
        Option.bind ((List.set d (Int.toNat (IntKind.i64.wrap (b+a))) e)[(Int.toNat (IntKind.i64.wrap (c+a)))]?) fun i =>
         f80_l1_j2 k b c f a ((List.set (List.set d (Int.toNat (IntKind.i64.wrap (b+a))) e) (Int.toNat (IntKind.i64.wrap (c+a))) h)))))))
theorem f80_l1_j1_ok (k e g j a h f r) (b:f80_l1_j1 k e g j a h f=some r):EX 80 k (nav B80 [2,1,2,2]) (⟨38,[(0,.own 1000000),(1,jI e),(2,jI g),(3,jI j),(10,jI a),(13,jT h)],[(1000000,.row true 11 47 (rowsOf encT47 f))]⟩:St)=some r.st:=by
 unfold f80_l1_j1 at b
 obtain ⟨q,b⟩:=ifE_some.1 b
 obtain ⟨s,b⟩:=ifE_some.1 b
 obtain ⟨c,t,b⟩:=bs b
 obtain ⟨u,b⟩:=ifE_some.1 b
 obtain ⟨v,b⟩:=ifE_some.1 b
 obtain ⟨d,w,b⟩:=bs b
 have y:List.set (rowsOf encT47 f) (Int.toNat (IntKind.i64.wrap (e+a))) [jI c.Source,jI c.Dest,jU c.Seq,jI c.Created,jI c.Lifetime,jI c.HopLimit,jI c.Hops,jI c.Priority,jI c.Offset,jI c.Total,.sl 1 (rowsOf (encI .u8) c.Payload)]=rowsOf encT47 (List.set f (Int.toNat (IntKind.i64.wrap (e+a))) c):=(rowsOf_set (enc:=encT47) (l:=f) (i:=(Int.toNat (IntKind.i64.wrap (e+a)))) (x:=c)).symm
 obtain ⟨m,b⟩:=ifE_some.1 b
 obtain ⟨z,o,b⟩:=bs b
 have p:List.set (rowsOf encT47 (List.set f (Int.toNat (IntKind.i64.wrap (e+a))) c)) (Int.toNat (IntKind.i64.wrap (g+a))) [jI d.Source,jI d.Dest,jU d.Seq,jI d.Created,jI d.Lifetime,jI d.HopLimit,jI d.Hops,jI d.Priority,jI d.Offset,jI d.Total,.sl 1 (rowsOf (encI .u8) d.Payload)]=rowsOf encT47 (List.set (List.set f (Int.toNat (IntKind.i64.wrap (e+a))) c) (Int.toNat (IntKind.i64.wrap (g+a))) d):=(rowsOf_set (enc:=encT47) (l:=(List.set f (Int.toNat (IntKind.i64.wrap (e+a))) c)) (i:=(Int.toNat (IntKind.i64.wrap (g+a)))) (x:=d)).symm
 have hJ:=f80_l1_j2_ok k e g j a ((List.set (List.set f (Int.toNat (IntKind.i64.wrap (e+a))) c) (Int.toNat (IntKind.i64.wrap (g+a))) d)) _ b
 simp (disch:=first|decide|apply K;kernel_rfl) only [W,simprocAttr,xk B80 [2,1,2,2] .sq rfl,xk B80 [1,2,1,2,2] (.bk 1) rfl,rg B80 [2,1,2,1,2,2] 3 true rfl,hr 80 3 rfl,indexAddrV,t_29,t_47,encT47_eq,sm_47,q,s,t,u,v,w,y,m,o,p]
 try simp only [NM,EE] at hJ
 exact hJ
noncomputable def f80_l1_b (k:Nat) (c d b a:Int) (e:List T47):Option R80_l1 :=
 cond ((decide (a<b)))
  (f80_l1_j1 k c d b a true e)
  (some (.o1 c d b a false e))
theorem f80_l1_b_ok (k c d e a f r) (b:f80_l1_b k c d e a f=some r):EX 80 k (nav B80 [1,2,2]) (⟨38,[(0,.own 1000000),(1,jI c),(2,jI d),(3,jI e),(10,jI a)],[(1000000,.row true 11 47 (rowsOf encT47 f))]⟩:St)=some r.st:=by
 unfold f80_l1_b at b
 simp only [W,simprocAttr,xk B80 [1,2,2] .sq rfl,sr 80 1 B80 [1,1,2,2] rfl rfl rfl,xk B80 [2,1,1,2,2] (.cd 13) rfl]
 rcases cond_some b with ⟨g,b⟩ | ⟨g,b⟩
 ·have hJ:=f80_l1_j1_ok k c d e a true f _ b
  simp only [W,simprocAttr,xk B80 [2,2,1,1,2,2] .sk rfl,g]
  try simp only [NM,EE] at hJ
  exact hJ
 ·cases b
  simp only [W,simprocAttr,xk B80 [3,2,1,1,2,2] (.ex 0) rfl,R80_l1.st,g]
noncomputable def f80_l1 (k:Nat):Nat→Int→Int→Int→Int→(List T47)→Option R80_l1
 | 0,_,_,_,_,_=>none
 | n+1,g,h,i,e,j=>Option.bind (f80_l1_b k g h i e j) fun o =>
  match o with
  | .o0 y a b c d=>f80_l1 k n y a b c d
  | .o1 y a b c d f=>some (.o1 y a b c d f)
theorem f80_l1_ok (k n:Nat):∀ (c d e a:Int) (f:List T47) (r:R80_l1) (b:f80_l1 k n c d e a f=some r) (σ:St) (hσ:headR (hints.head 80 1) (hints.canon 80 1) σ=some (⟨38,[(0,.own 1000000),(1,jI c),(2,jI d),(3,jI e),(10,jI a)],[(1000000,.row true 11 47 (rowsOf encT47 f))]⟩:St)),LP 80 k (nav B80 [1,2,2]) n σ=some r.st:=by
 induction n with
 | zero=>intro c d e a f r b;cases b
 | succ n m =>
  intro c d e a f r b σ hσ
  rw [f80_l1] at b
  obtain ⟨o,h,b⟩:=Option.bind_eq_some_iff.1 b
  have hB:=f80_l1_b_ok k c d e a f o h
  unfold LP at m ⊢
  unfold EX at hB
  rw [loopK_succ,show firstReg (nav B80 [1,2,2])=1 from rfl,hσ,headK_some,hB]
  cases o with
  | o0 y g i j l =>
   refine m y g i j l r b _ ?_
   simp only [W,simprocAttr,hh_80_1,hc_80_1]
  | o1 y g i j l p=>cases b;rfl
noncomputable def f80_e (k:Nat) (a b c:Int) (d:List T47):Option R80 :=
 Option.bind (f80_l1 k k a b c 0 d) fun o1 =>
  match o1 with
  | .o0 _ _ _ _ _ =>
   none
  | .o1 f g h i j e =>
   some (.o0 e)
theorem f80_e_ok (k c d e f r) (a:f80_e k c d e f=some r):finK Tryd.prog Tryd.f80 1 (EX 80 k (nav B80 []) (⟨38,[(0,.own 1000000),(1,jI c),(2,jI d),(3,jI e),(4,V.p (Value.func (Fn.func 29) #[] #[]))],[(1000000,.row true 11 47 (rowsOf encT47 f))]⟩:St))=some r.st:=by
 unfold f80_e at a
 obtain ⟨o1,g,a⟩:=bs a
 have b:=f80_l1_ok k k c d e 0 f _ g
 simp only [W,simprocAttr,sr 80 0 B80 [] rfl rfl rfl,xk B80 [2] (.bk 0) rfl,xk B80 [2,2] .lp rfl,hh_80_1,hc_80_1]
 (try simp only [NM,EE] at b)
 rw [b _ (by simp only [W,simprocAttr,hh_80_1,hc_80_1])]
 clear b
 cases o1 with
 | o0 _ _ _ _ _ =>
  (try dsimp only at a)
  cases a
 | o1 h i j l m o =>
  (try dsimp only at a)
  cases a
  simp only [W,simprocAttr,R80_l1.st,fin80,R80.st]
noncomputable def f80 (k:Nat) (a b c:Int) (d:List T47):Option R80:=match k with | 0=>none | k+1=>f80_e k a b c d
theorem f80_ok (k a b d e r) (f:f80 k a b d e=some r):CV k 80 [.own 1000000,jI a,jI b,jI d,V.p (Value.func (Fn.func 29) #[] #[])] [.row true 11 47 (rowsOf encT47 e)]=some r.st:=by
 cases k with
 | zero=>cases f
 | succ k =>
  unfold CV
  rw [ev_call (F:=Tryd.f80) (c:=(nav B80 [])) rfl Tryd.func80 rfl rfl rfl rfl]
  exact f80_e_ok k a b d e r f
-- f74: f74 slices.rotateCmpFunc[heliograph/api.Bundle]
inductive R74 where
 | o0 (y:List T47)
noncomputable def R74.st:R74→V×List O×List O
 | .o0 y=>(V.tup [],[.row true 11 47 (rowsOf encT47 y)],[])
inductive R74_l1 where
 | o0 (y a b:Int) (c:List T47)
 | o1 (y a b:Int) (c:Bool) (d:List T47)
noncomputable def R74_l1.st:R74_l1→Out×St
 | .o0 y a b c=>(.norm,(⟨58,[(0,.own 1000000),(2,jI y),(4,V.p (Value.func (Fn.func 29) #[] #[])),(10,jI a),(11,jI b)],[(1000000,.row true 11 47 (rowsOf encT47 c))]⟩:St))
 | .o1 y a b c d=>(.exit 0,(⟨58,[(0,.own 1000000),(2,jI y),(4,V.p (Value.func (Fn.func 29) #[] #[])),(10,jI a),(11,jI b),(20,jT c)],[(1000000,.row true 11 47 (rowsOf encT47 d))]⟩:St))
noncomputable def f74_l1_j1 (k:Nat) (c a b:Int) (e:Bool) (d:List T47):Option R74_l1 :=
 cond ((decide (a>b)))
  (
   Option.bind (f80 k (IntKind.i64.wrap (c - a)) c b d) fun o2 =>
    match o2 with
    | .o0 f =>
     some (.o0 c (IntKind.i64.wrap (a - b)) b f))
  (
   Option.bind (f80 k (IntKind.i64.wrap (c - a)) (IntKind.i64.wrap ((IntKind.i64.wrap (c+b)) - a)) a d) fun o6 =>
    match o6 with
    | .o0 g =>
     some (.o0 c a (IntKind.i64.wrap (b - a)) g))
theorem f74_l1_j1_ok (k d a c e h r) (b:f74_l1_j1 k d a c e h=some r):EX 74 k (nav B74 [2,1,2,1,2,2]) (⟨58,[(0,.own 1000000),(2,jI d),(4,V.p (Value.func (Fn.func 29) #[] #[])),(10,jI a),(11,jI c),(20,jT e)],[(1000000,.row true 11 47 (rowsOf encT47 h))]⟩:St)=some r.st:=by
 unfold f74_l1_j1 at b
 simp only [W,simprocAttr,xk B74 [2,1,2,1,2,2] (.bk 1) rfl,sr 74 3 B74 [2,2,1,2,1,2,2] rfl rfl rfl,xk B74 [2,2,2,1,2,1,2,2] (.cd 23) rfl]
 rcases cond_some b with ⟨i,b⟩ | ⟨i,b⟩
 ·obtain ⟨o2,j,b⟩:=bs b
  have f:=f80_ok k (IntKind.i64.wrap (d - a)) d c h _ j
  cases o2 with
  | o0 m =>
   (try dsimp only at b)
   (try simp only [NM,EE,R80.st] at f)
   cases b
   simp only [W,simprocAttr,sr 74 4 B74 [2,2,2,2,1,2,1,2,2] rfl rfl rfl,callStep,CL,gv,List.contains,rg B74 [2,2,2,2,2,1,2,1,2,2] 5 false rfl,hr 74 5 rfl,R74_l1.st,i,f]
 ·obtain ⟨o6,l,b⟩:=bs b
  have g:=f80_ok k (IntKind.i64.wrap (d - a)) (IntKind.i64.wrap ((IntKind.i64.wrap (d+c)) - a)) a h _ l
  cases o6 with
  | o0 o =>
   (try dsimp only at b)
   (try simp only [NM,EE,R80.st] at g)
   cases b
   simp only [W,simprocAttr,sr 74 6 B74 [3,2,2,2,1,2,1,2,2] rfl rfl rfl,callStep,CL,gv,List.contains,rg B74 [2,3,2,2,2,1,2,1,2,2] 7 false rfl,hr 74 7 rfl,R74_l1.st,i,g]
noncomputable def f74_l1_b (k:Nat) (c a b:Int) (d:List T47):Option R74_l1 :=
 cond ((a != b))
  (f74_l1_j1 k c a b true d)
  (some (.o1 c a b false d))
theorem f74_l1_b_ok (k d a b e r) (c:f74_l1_b k d a b e=some r):EX 74 k (nav B74 [1,2,1,2,2]) (⟨58,[(0,.own 1000000),(2,jI d),(4,V.p (Value.func (Fn.func 29) #[] #[])),(10,jI a),(11,jI b)],[(1000000,.row true 11 47 (rowsOf encT47 e))]⟩:St)=some r.st:=by
 unfold f74_l1_b at c
 simp only [W,simprocAttr,xk B74 [1,2,1,2,2] .sq rfl,sr 74 2 B74 [1,1,2,1,2,2] rfl rfl rfl,xk B74 [2,1,1,2,1,2,2] (.cd 20) rfl]
 rcases cond_some c with ⟨f,c⟩ | ⟨f,c⟩
 ·have hJ:=f74_l1_j1_ok k d a b true e _ c
  simp only [W,simprocAttr,xk B74 [2,2,1,1,2,1,2,2] .sk rfl,f]
  try simp only [NM,EE] at hJ
  exact hJ
 ·cases c
  simp only [W,simprocAttr,xk B74 [3,2,1,1,2,1,2,2] (.ex 0) rfl,R74_l1.st,f]
noncomputable def f74_l1 (k:Nat):Nat→Int→Int→Int→(List T47)→Option R74_l1
 | 0,_,_,_,_=>none
 | n+1,g,d,e,h=>Option.bind (f74_l1_b k g d e h) fun o =>
  match o with
  | .o0 y a b c=>f74_l1 k n y a b c
  | .o1 y a b c f=>some (.o1 y a b c f)
theorem f74_l1_ok (k n:Nat):∀ (d a b:Int) (e:List T47) (r:R74_l1) (c:f74_l1 k n d a b e=some r) (σ:St) (hσ:headR (hints.head 74 2) (hints.canon 74 2) σ=some (⟨58,[(0,.own 1000000),(2,jI d),(4,V.p (Value.func (Fn.func 29) #[] #[])),(10,jI a),(11,jI b)],[(1000000,.row true 11 47 (rowsOf encT47 e))]⟩:St)),LP 74 k (nav B74 [1,2,1,2,2]) n σ=some r.st:=by
 induction n with
 | zero=>intro d a b e r c;cases c
 | succ n j =>
  intro d a b e r c σ hσ
  rw [f74_l1] at c
  obtain ⟨o,h,c⟩:=Option.bind_eq_some_iff.1 c
  have hB:=f74_l1_b_ok k d a b e o h
  unfold LP at j ⊢
  unfold EX at hB
  rw [loopK_succ,show firstReg (nav B74 [1,2,1,2,2])=2 from rfl,hσ,headK_some,hB]
  cases o with
  | o0 y f g i =>
   refine j y f g i r c _ ?_
   simp only [W,simprocAttr,hh_74_2,hc_74_2]
  | o1 y f g i l=>cases c;rfl
noncomputable def f74_j2 (k:Nat) (b a c:Int) (d:Bool) (e:List T47):Option R74 :=
 Option.bind (f80 k (IntKind.i64.wrap (b - a)) b a e) fun o1 =>
  match o1 with
  | .o0 f =>
   some (.o0 f)
theorem f74_j2_ok (k f a b c g r) (d:f74_j2 k f a b c g=some r):finK Tryd.prog Tryd.f74 1 (EX 74 k (nav B74 [2,2,2]) (⟨58,[(0,.own 1000000),(2,jI f),(4,V.p (Value.func (Fn.func 29) #[] #[])),(10,jI a),(11,jI b),(20,jT c)],[(1000000,.row true 11 47 (rowsOf encT47 g))]⟩:St))=some r.st:=by
 unfold f74_j2 at d
 obtain ⟨o1,h,d⟩:=bs d
 have e:=f80_ok k (IntKind.i64.wrap (f - a)) f a g _ h
 cases o1 with
 | o0 i =>
  (try dsimp only at d)
  (try simp only [NM,EE,R80.st] at e)
  cases d
  simp only [W,simprocAttr,rg B74 [2,2,2] 8 false rfl,hr 74 8 rfl,callStep,CL,gv,List.contains,fin74,R74.st,e]
noncomputable def f74_e (k:Nat) (b a c:Int) (d:List T47):Option R74 :=
 Option.bind (f74_l1 k k a (IntKind.i64.wrap (a - b)) (IntKind.i64.wrap (c - a)) d) fun o1 =>
  match o1 with
  | .o0 _ _ _ _ =>
   none
  | .o1 e f g h i =>
   f74_j2 k e f g h i
theorem f74_e_ok (k d c e f r) (a:f74_e k d c e f=some r):finK Tryd.prog Tryd.f74 1 (EX 74 k (nav B74 []) (⟨58,[(0,.own 1000000),(1,jI d),(2,jI c),(3,jI e),(4,V.p (Value.func (Fn.func 29) #[] #[]))],[(1000000,.row true 11 47 (rowsOf encT47 f))]⟩:St))=some r.st:=by
 unfold f74_e at a
 obtain ⟨o1,g,a⟩:=bs a
 have b:=f74_l1_ok k k c (IntKind.i64.wrap (c - d)) (IntKind.i64.wrap (e - c)) f _ g
 simp only [W,simprocAttr,sr 74 0 B74 [] rfl rfl rfl,sr 74 1 B74 [2] rfl rfl rfl,xk B74 [2,2] .sq rfl,xk B74 [1,2,2] (.bk 0) rfl,xk B74 [2,1,2,2] .lp rfl,hh_74_2,hc_74_2]
 (try simp only [NM,EE] at b)
 rw [b _ (by simp only [W,simprocAttr,hh_74_2,hc_74_2])]
 clear b
 cases o1 with
 | o0 _ _ _ _ =>
  (try dsimp only at a)
  cases a
 | o1 h i j l m =>
  (try dsimp only at a)
  have hJ:=f74_j2_ok k h i j l m _ a
  simp only [W,simprocAttr,R74_l1.st]
  try simp only [NM,EE] at hJ
  exact hJ
noncomputable def f74 (k:Nat) (a b c:Int) (d:List T47):Option R74:=match k with | 0=>none | k+1=>f74_e k a b c d
theorem f74_ok (k a b d e r) (f:f74 k a b d e=some r):CV k 74 [.own 1000000,jI a,jI b,jI d,V.p (Value.func (Fn.func 29) #[] #[])] [.row true 11 47 (rowsOf encT47 e)]=some r.st:=by
 cases k with
 | zero=>cases f
 | succ k =>
  unfold CV
  rw [ev_call (F:=Tryd.f74) (c:=(nav B74 [])) rfl Tryd.func74 rfl rfl rfl rfl]
  exact f74_e_ok k a b d e r f
end Go.Proofs.YtiompmmbjpjjeaaDoorV