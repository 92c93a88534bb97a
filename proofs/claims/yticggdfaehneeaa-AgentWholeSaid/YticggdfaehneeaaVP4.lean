/- What the program's functions answer: plain functions,and that the interpreter answers what they do. Written by a program of this session,out of the translation. -/
import Derived.Test.YticggdfaehneeaaVP3
namespace Go.Proofs.YticggdfaehneeaaV
open Go
set_option linter.unusedVariables false
set_option linter.unusedSimpArgs false
set_option maxRecDepth 8000
set_option maxHeartbeats 4000000
-- f58: f58 heliograph/pieces.gathered
inductive R58 where
 | o0 (y:List Bool) (a:List Int) (b:Int)
 | o1 (y:Int) (a:List Bool) (b:List Int)
noncomputable def R58.st:R58→V×List O×List O
 | .o0 y a b=>(V.tup [.sl 1 (rowsOf encB y),.sl 1 (rowsOf (encI .u8) a),jI b],[],[])
 | .o1 y a b=>(V.tup [.own 2000000,.own 2000001,jI y],[],[.row true 1 4 (rowsOf encB a),.row true 1 5 (rowsOf (encI .u8) b)])
inductive R58_l1_l2 where
 | o0 (y:List Bool) (a:List Int) (b:Int)
 | o1 (y a:List T39) (b l:Int) (m:List T39) (o p q s t c d e f g h i:Int) (j:List Int)
 | o2 (y a:List T39) (b l:Int) (m:List T39) (o p:Int) (q:Bool) (s t c d e f g h i j:Int) (u:List Int)
noncomputable def R58_l1_l2.st:R58_l1_l2→Out×St
 | .o0 y a b=>(.ret,(⟨78,[(2,.sl 1 (rowsOf encB y)),(3,.sl 1 (rowsOf (encI .u8) a)),(4,jI b)],[]⟩:St))
 | .o1 y a b l m o p q s t c d e f g h i j=>(.norm,(⟨78,[(0,.sl 11 (rowsOf encT39 y)),(6,.ptr 30000 0),(14,.sl 11 (rowsOf encT39 a)),(15,jI b),(16,jI l),(24,.sl 11 (rowsOf encT39 m)),(25,jI o),(26,jI p)],[(30000,.box 39 [jI q,jI s,jU t,jI c,jI d,jI e,jI f,jI g,jI h,jI i,.sl 1 (rowsOf (encI .u8) j)])]⟩:St))
 | .o2 y a b l m o p q s t c d e f g h i j u=>(.exit 2,(⟨78,[(0,.sl 11 (rowsOf encT39 y)),(6,.ptr 30000 0),(14,.sl 11 (rowsOf encT39 a)),(15,jI b),(16,jI l),(24,.sl 11 (rowsOf encT39 m)),(25,jI o),(26,jI p),(27,.p (.bool q))],[(30000,.box 39 [jI s,jI t,jU c,jI d,jI e,jI f,jI g,jI h,jI i,jI j,.sl 1 (rowsOf (encI .u8) u)])]⟩:St))
noncomputable def f58_l1_l2_j2 (k:Nat) (u l:List T39) (m o:Int) (p:List T39) (q s:Int) (v:Bool) (t b c d e f g h i j:Int) (a:List Int):Option R58_l1_l2 :=
 some (R58_l1_l2.o1 u l m o p q (IntKind.i64.wrap (s+(1:Int))) t b c d e f g h i j a)
theorem f58_l1_l2_j2_ok (k v l m o p q s t u b c d e f g h i j a r) (w:f58_l1_l2_j2 k v l m o p q s t u b c d e f g h i j a=some r):EX 58 k (nav B58 [2,2,2,1,2,2,2,2,1,2,2,1,2,2,1,2]) (⟨78,[(0,.sl 11 (rowsOf encT39 v)),(6,.ptr 30000 0),(14,.sl 11 (rowsOf encT39 l)),(15,jI m),(16,jI o),(24,.sl 11 (rowsOf encT39 p)),(25,jI q),(26,jI s),(33,.p (.bool t))],[(30000,.box 39 [jI u,jI b,jU c,jI d,jI e,jI f,jI g,jI h,jI i,jI j,.sl 1 (rowsOf (encI .u8) a)])]⟩:St)=some r.st:=by
 unfold f58_l1_l2_j2 at w
 cases w
 simp (disch:=first|apply D;decide|apply K;kernel_rfl) only [E,EE,↓reduceIte,simprocAttr,rg B58 [2,2,2,1,2,2,2,2,1,2,2,1,2,2,1,2] 9 false rfl,hr 58 9 rfl,R58_l1_l2.st]
noncomputable def f58_l1_l2_j1 (k:Nat) (v q:List T39) (s t:Int) (o:List T39) (u m:Int) (w:Bool) (p b c d e f g h i j:Int) (a:List Int):Option R58_l1_l2 :=
 ifE ((0:Int)≤m) (
  Option.bind (o[(Int.toNat m)]?) fun l =>
   Option.bind (f65 k p b c d e f g h i j a l.Source l.Dest l.Seq l.Created l.Lifetime l.HopLimit l.Hops l.Priority l.Offset l.Total l.Payload) fun o4 =>
    match o4 with
    | .o0 x =>
     cond ((!x))
      (some (R58_l1_l2.o0 [] [] 280))
      (f58_l1_l2_j2 k v q s t o u m false p b c d e f g h i j a))
theorem f58_l1_l2_j1_ok (k y q s t u v w x o b c d e f g h i j a r) (l:f58_l1_l2_j1 k y q s t u v w x o b c d e f g h i j a=some r):EX 58 k (nav B58 [2,2,1,2,2,2,2,1,2,2,1,2,2,1,2]) (⟨78,[(0,.sl 11 (rowsOf encT39 y)),(6,.ptr 30000 0),(14,.sl 11 (rowsOf encT39 q)),(15,jI s),(16,jI t),(24,.sl 11 (rowsOf encT39 u)),(25,jI v),(26,jI w),(27,.p (.bool x))],[(30000,.box 39 [jI o,jI b,jU c,jI d,jI e,jI f,jI g,jI h,jI i,jI j,.sl 1 (rowsOf (encI .u8) a)])]⟩:St)=some r.st:=by
 unfold f58_l1_l2_j1 at l
 obtain ⟨z,l⟩:=ifE_some.1 l
 obtain ⟨m,n,l⟩:=bs l
 obtain ⟨o4,h5,l⟩:=bs l
 have p:=f65_ok k o b c d e f g h i j a m.Source m.Dest m.Seq m.Created m.Lifetime m.HopLimit m.Hops m.Priority m.Offset m.Total m.Payload _ h5
 cases o4 with
 | o0 v7 =>
  (try dsimp only at l)
  (try simp only [NM,EE,R65.st] at p)
  simp (disch:=first|apply D;decide|apply K;kernel_rfl) only [E,EE,↓reduceIte,simprocAttr,xk B58 [2,2,1,2,2,2,2,1,2,2,1,2,2,1,2] .sq rfl,xk B58 [1,2,2,1,2,2,2,2,1,2,2,1,2,2,1,2] (.bk 3) rfl,xk B58 [2,1,2,2,1,2,2,2,2,1,2,2,1,2,2,1,2] .sq rfl,rg B58 [1,2,1,2,2,1,2,2,2,2,1,2,2,1,2,2,1,2] 6 false rfl,hr 58 6 rfl,indexAddrV,t_24,t_39,encT39_eq,xk B58 [2,2,1,2,2,1,2,2,2,2,1,2,2,1,2,2,1,2] .sq rfl,rg B58 [1,2,2,1,2,2,1,2,2,2,2,1,2,2,1,2,2,1,2] 7 false rfl,hr 58 7 rfl,callStep,CL,gv,List.contains,xk B58 [2,2,2,1,2,2,1,2,2,2,2,1,2,2,1,2,2,1,2] (.cd 33) rfl,z,n,p]
  rcases cond_some l with ⟨h8,l⟩ | ⟨h8,l⟩
  ·cases l
   simp (disch:=first|apply D;decide|apply K;kernel_rfl) only [E,EE,↓reduceIte,simprocAttr,xk B58 [2,2,2,2,1,2,2,1,2,2,2,2,1,2,2,1,2,2,1,2] .sq rfl,rg B58 [1,2,2,2,2,1,2,2,1,2,2,2,2,1,2,2,1,2,2,1,2] 8 false rfl,hr_58_8,xk B58 [2,2,2,2,2,1,2,2,1,2,2,2,2,1,2,2,1,2,2,1,2] .rt rfl,R58_l1_l2.st,z,n,p,h8]
  ·have hJ:=f58_l1_l2_j2_ok k y q s t u v w false o b c d e f g h i j a _ l
   simp (disch:=first|apply D;decide|apply K;kernel_rfl) only [E,EE,↓reduceIte,simprocAttr,xk B58 [3,2,2,2,1,2,2,1,2,2,2,2,1,2,2,1,2,2,1,2] .sk rfl,z,n,p,h8]
   try simp only [NM,EE] at hJ
   exact hJ
noncomputable def f58_l1_l2_b (k:Nat) (u o:List T39) (p q:Int) (s:List T39) (l m t b c d e f g h i j:Int) (a:List Int):Option R58_l1_l2 :=
 cond ((decide (m<l)))
  (f58_l1_l2_j1 k u o p q s l m true t b c d e f g h i j a)
  (some (R58_l1_l2.o2 u o p q s l m false t b c d e f g h i j a))
theorem f58_l1_l2_b_ok (k v l m o p q s t b c d e f g h i j a r) (u:f58_l1_l2_b k v l m o p q s t b c d e f g h i j a=some r):EX 58 k (nav B58 [1,2,2,2,2,1,2,2,1,2,2,1,2]) (⟨78,[(0,.sl 11 (rowsOf encT39 v)),(6,.ptr 30000 0),(14,.sl 11 (rowsOf encT39 l)),(15,jI m),(16,jI o),(24,.sl 11 (rowsOf encT39 p)),(25,jI q),(26,jI s)],[(30000,.box 39 [jI t,jI b,jU c,jI d,jI e,jI f,jI g,jI h,jI i,jI j,.sl 1 (rowsOf (encI .u8) a)])]⟩:St)=some r.st:=by
 unfold f58_l1_l2_b at u
 simp (disch:=first|apply D;decide|apply K;kernel_rfl) only [E,EE,↓reduceIte,simprocAttr,xk B58 [1,2,2,2,2,1,2,2,1,2,2,1,2] .sq rfl,rg B58 [1,1,2,2,2,2,1,2,2,1,2,2,1,2] 5 false rfl,hr 58 5 rfl,xk B58 [2,1,2,2,2,2,1,2,2,1,2,2,1,2] .sq rfl,xk B58 [1,2,1,2,2,2,2,1,2,2,1,2,2,1,2] (.cd 27) rfl]
 rcases cond_some u with ⟨w,u⟩ | ⟨w,u⟩
 ·have hJ:=f58_l1_l2_j1_ok k v l m o p q s true t b c d e f g h i j a _ u
  simp (disch:=first|apply D;decide|apply K;kernel_rfl) only [E,EE,↓reduceIte,simprocAttr,xk B58 [2,1,2,1,2,2,2,2,1,2,2,1,2,2,1,2] .sk rfl,w]
  try simp only [NM,EE] at hJ
  exact hJ
 ·cases u
  simp (disch:=first|apply D;decide|apply K;kernel_rfl) only [E,EE,↓reduceIte,simprocAttr,xk B58 [3,1,2,1,2,2,2,2,1,2,2,1,2,2,1,2] (.ex 2) rfl,R58_l1_l2.st,w]
noncomputable def f58_l1_l2 (k:Nat):Nat→(List T39)→(List T39)→Int→Int→(List T39)→Int→Int→Int→Int→Int→Int→Int→Int→Int→Int→Int→Int→(List Int)→Option R58_l1_l2
 | 0,_,_,_,_,_,_,_,_,_,_,_,_,_,_,_,_,_,_=>none
 | n+1,x0,ag,ah,ai,aj,ak,al,am,m,p,q,s,t,u,v,w,x,l=>Option.bind (f58_l1_l2_b k x0 ag ah ai aj ak al am m p q s t u v w x l) fun o =>
  match o with
  | .o0 y a b=>some (.o0 y a b)
  | .o1 y a b z r aa ab ac ad ae c d e f g h i j=>f58_l1_l2 k n y a b z r aa ab ac ad ae c d e f g h i j
  | .o2 y a b z r aa ab ac ad ae c d e f g h i j af=>some (.o2 y a b z r aa ab ac ad ae c d e f g h i j af)
theorem f58_l1_l2_ok (k n:Nat):∀ (x0 m:List T39) (p q:Int) (s:List T39) (t u v b c d e f g i j l:Int) (a:List Int) (r:R58_l1_l2) (w:f58_l1_l2 k n x0 m p q s t u v b c d e f g i j l a=some r) (σ:St) (hσ:headR (hints.head 58 5) (hints.canon 58 5) σ=some (⟨78,[(0,.sl 11 (rowsOf encT39 x0)),(6,.ptr 30000 0),(14,.sl 11 (rowsOf encT39 m)),(15,jI p),(16,jI q),(24,.sl 11 (rowsOf encT39 s)),(25,jI t),(26,jI u)],[(30000,.box 39 [jI v,jI b,jU c,jI d,jI e,jI f,jI g,jI i,jI j,jI l,.sl 1 (rowsOf (encI .u8) a)])]⟩:St)),LP 58 k (nav B58 [1,2,2,2,2,1,2,2,1,2,2,1,2]) n σ=some r.st:=by
 induction n with
 | zero=>intro x0 m p q s t u v b c d e f g i j l a r w;cases w
 | succ n ih =>
  intro x0 m p q s t u v b c d e f g i j l a r w σ hσ
  rw [f58_l1_l2] at w
  obtain ⟨o,h,w⟩:=Option.bind_eq_some_iff.1 w
  have hB:=f58_l1_l2_b_ok k x0 m p q s t u v b c d e f g i j l a o h
  unfold LP at ih ⊢
  unfold EX at hB
  rw [loopK_succ,show firstReg (nav B58 [1,2,2,2,2,1,2,2,1,2,2,1,2])=5 from rfl,hσ,headK_some,hB]
  cases o with
  | o0 y ag ah=>cases w;rfl
  | o1 y ag ah aj ak al am an ao ap x z aa ab ac ad ae af =>
   refine ih y ag ah aj ak al am an ao ap x z aa ab ac ad ae af r w _ ?_
   simp (disch:=first|apply D;decide|apply K;kernel_rfl) only [E,EE,↓reduceIte,simprocAttr,hh_58_5,hc_58_5]
  | o2 y ag ah aj ak al am an ao ap x z aa ab ac ad ae af ar=>cases w;rfl
inductive R58_l1 where
 | o0 (y:List Bool) (a:List Int) (b:Int)
 | o1 (y a:List T39) (b c:Int)
 | o2 (y a:List T39) (b c:Int) (d:Bool)
noncomputable def R58_l1.st:R58_l1→Out×St
 | .o0 y a b=>(.ret,(⟨78,[(2,.sl 1 (rowsOf encB y)),(3,.sl 1 (rowsOf (encI .u8) a)),(4,jI b)],[]⟩:St))
 | .o1 y a b c=>(.norm,(⟨78,[(0,.sl 11 (rowsOf encT39 y)),(14,.sl 11 (rowsOf encT39 a)),(15,jI b),(16,jI c)],[]⟩:St))
 | .o2 y a b c d=>(.exit 0,(⟨78,[(0,.sl 11 (rowsOf encT39 y)),(14,.sl 11 (rowsOf encT39 a)),(15,jI b),(16,jI c),(17,.p (.bool d))],[]⟩:St))
noncomputable def f58_l1_j3 (k:Nat) (p b:List T39) (c d:Int) (q:List T39) (s t:Int) (u:Bool) (v e f g h i j l m o:Int) (a:List Int):Option R58_l1 :=
 some (.o1 p b c (IntKind.i64.wrap (d+(1:Int))))
theorem f58_l1_j3_ok (k v l m o p q s t u b c d e f g h i j a r) (w:f58_l1_j3 k v l m o p q s t u b c d e f g h i j a=some r):EX 58 k (nav B58 [2,2,2,1,2,2,1,2]) (⟨78,[(0,.sl 11 (rowsOf encT39 v)),(6,.ptr 30000 0),(14,.sl 11 (rowsOf encT39 l)),(15,jI m),(16,jI o),(24,.sl 11 (rowsOf encT39 p)),(25,jI q),(26,jI s),(27,.p (.bool t))],[(30000,.box 39 [jI u,jI b,jU c,jI d,jI e,jI f,jI g,jI h,jI i,jI j,.sl 1 (rowsOf (encI .u8) a)])]⟩:St)=some r.st:=by
 unfold f58_l1_j3 at w
 cases w
 simp (disch:=first|apply D;decide|apply K;kernel_rfl) only [E,EE,↓reduceIte,simprocAttr,rg B58 [2,2,2,1,2,2,1,2] 10 false rfl,hr 58 10 rfl,R58_l1.st]
noncomputable def f58_l1_j1 (k:Nat) (d c:List T39) (e a:Int) (ab:Bool):Option R58_l1 :=
 ifE ((0:Int)≤a) (
  Option.bind (c[(Int.toNat a)]?) fun b =>
   ifE ((0:Int)≤(IntKind.i64.wrap (a+(1:Int)))) (
    ifE ((Int.toNat (IntKind.i64.wrap (a+(1:Int))))≤(List.length d)) (
     Option.bind (f58_l1_l2 k k d c e a (List.take (Int.toNat (IntKind.i64.wrap (a+(1:Int)))) d) ((List.length (List.take (Int.toNat (IntKind.i64.wrap (a+(1:Int)))) d)):Int) 0 b.Source b.Dest b.Seq b.Created b.Lifetime b.HopLimit b.Hops b.Priority b.Offset b.Total b.Payload) fun o6 =>
      match o6 with
      | .o0 v9 f g =>
       some (.o0 v9 f g)
      | .o1 _ _ _ _ _ _ _ _ _ _ _ _ _ _ _ _ _ _ =>
       none
      | .o2 h i j l m o p q s t u v w x y z r n aa =>
       f58_l1_j3 k h i j l m o p q s t u v w x y z r n aa)))
theorem f58_l1_j1_ok (k g d e b h r) (a:f58_l1_j1 k g d e b h=some r):EX 58 k (nav B58 [2,2,1,2,2,1,2]) (⟨78,[(0,.sl 11 (rowsOf encT39 g)),(14,.sl 11 (rowsOf encT39 d)),(15,jI e),(16,jI b),(17,.p (.bool h))],[]⟩:St)=some r.st:=by
 unfold f58_l1_j1 at a
 obtain ⟨i,a⟩:=ifE_some.1 a
 obtain ⟨c,j,a⟩:=bs a
 obtain ⟨l,a⟩:=ifE_some.1 a
 obtain ⟨m,a⟩:=ifE_some.1 a
 obtain ⟨o6,h7,a⟩:=bs a
 have f:=f58_l1_l2_ok k k g d e b (List.take (Int.toNat (IntKind.i64.wrap (b+(1:Int)))) g) ((List.length (List.take (Int.toNat (IntKind.i64.wrap (b+(1:Int)))) g)):Int) 0 c.Source c.Dest c.Seq c.Created c.Lifetime c.HopLimit c.Hops c.Priority c.Offset c.Total c.Payload _ h7
 simp (disch:=first|apply D;decide|apply K;kernel_rfl) only [E,EE,↓reduceIte,simprocAttr,xk B58 [2,2,1,2,2,1,2] .sq rfl,xk B58 [1,2,2,1,2,2,1,2] (.bk 1) rfl,xk B58 [2,1,2,2,1,2,2,1,2] .sq rfl,rg B58 [1,2,1,2,2,1,2,2,1,2] 3 false rfl,hr 58 3 rfl,indexAddrV,t_24,t_39,encT39_eq,xk B58 [2,2,1,2,2,1,2,2,1,2] .sq rfl,rg B58 [1,2,2,1,2,2,1,2,2,1,2] 4 false rfl,hr 58 4 rfl,sliceV,bound,xk B58 [2,2,2,1,2,2,1,2,2,1,2] (.bk 2) rfl,xk B58 [2,2,2,2,1,2,2,1,2,2,1,2] .lp rfl,hh_58_5,hc_58_5,i,j,l,m]
 (try simp only [NM,EE] at f)
 rw [f _ (by simp (disch:=first|apply D;decide|apply K;kernel_rfl) only [E,EE,↓reduceIte,simprocAttr,hh_58_5,hc_58_5,i,j,l,m])]
 clear f
 cases o6 with
 | o0 v9 ai aj =>
  (try dsimp only at a)
  cases a
  simp (disch:=first|apply D;decide|apply K;kernel_rfl) only [E,EE,↓reduceIte,simprocAttr,R58_l1_l2.st,R58_l1.st,i,j,l,m]
 | o1 _ _ _ _ _ _ _ _ _ _ _ _ _ _ _ _ _ _ =>
  (try dsimp only at a)
  cases a
 | o2 o p q s t u v w x y z n aa ab ac ad ae af ag =>
  (try dsimp only at a)
  have hJ:=f58_l1_j3_ok k o p q s t u v w x y z n aa ab ac ad ae af ag _ a
  simp (disch:=first|apply D;decide|apply K;kernel_rfl) only [E,EE,↓reduceIte,simprocAttr,R58_l1_l2.st,i,j,l,m]
  try simp only [NM,EE] at hJ
  exact hJ
noncomputable def f58_l1_b (k:Nat) (d c:List T39) (a b:Int):Option R58_l1 :=
 cond ((decide (b<a)))
  (f58_l1_j1 k d c a b true)
  (some (.o2 d c a b false))
theorem f58_l1_b_ok (k e a b c r) (d:f58_l1_b k e a b c=some r):EX 58 k (nav B58 [1,2,2,1,2]) (⟨78,[(0,.sl 11 (rowsOf encT39 e)),(14,.sl 11 (rowsOf encT39 a)),(15,jI b),(16,jI c)],[]⟩:St)=some r.st:=by
 unfold f58_l1_b at d
 simp (disch:=first|apply D;decide|apply K;kernel_rfl) only [E,EE,↓reduceIte,simprocAttr,xk B58 [1,2,2,1,2] .sq rfl,rg B58 [1,1,2,2,1,2] 2 false rfl,hr 58 2 rfl,xk B58 [2,1,2,2,1,2] .sq rfl,xk B58 [1,2,1,2,2,1,2] (.cd 17) rfl]
 rcases cond_some d with ⟨f,d⟩ | ⟨f,d⟩
 ·have hJ:=f58_l1_j1_ok k e a b c true _ d
  simp (disch:=first|apply D;decide|apply K;kernel_rfl) only [E,EE,↓reduceIte,simprocAttr,xk B58 [2,1,2,1,2,2,1,2] .sk rfl,f]
  try simp only [NM,EE] at hJ
  exact hJ
 ·cases d
  simp (disch:=first|apply D;decide|apply K;kernel_rfl) only [E,EE,↓reduceIte,simprocAttr,xk B58 [3,1,2,1,2,2,1,2] (.ex 0) rfl,R58_l1.st,f]
noncomputable def f58_l1 (k:Nat):Nat→(List T39)→(List T39)→Int→Int→Option R58_l1
 | 0,_,_,_,_=>none
 | n+1,h,d,e,f=>Option.bind (f58_l1_b k h d e f) fun o =>
  match o with
  | .o0 y a b=>some (.o0 y a b)
  | .o1 y a b c=>f58_l1 k n y a b c
  | .o2 y a b c g=>some (.o2 y a b c g)
theorem f58_l1_ok (k n:Nat):∀ (g a:List T39) (b c:Int) (r:R58_l1) (d:f58_l1 k n g a b c=some r) (σ:St) (hσ:headR (hints.head 58 2) (hints.canon 58 2) σ=some (⟨78,[(0,.sl 11 (rowsOf encT39 g)),(14,.sl 11 (rowsOf encT39 a)),(15,jI b),(16,jI c)],[]⟩:St)),LP 58 k (nav B58 [1,2,2,1,2]) n σ=some r.st:=by
 induction n with
 | zero=>intro g a b c r d;cases d
 | succ n j =>
  intro g a b c r d σ hσ
  rw [f58_l1] at d
  obtain ⟨o,h,d⟩:=Option.bind_eq_some_iff.1 d
  have hB:=f58_l1_b_ok k g a b c o h
  unfold LP at j ⊢
  unfold EX at hB
  rw [loopK_succ,show firstReg (nav B58 [1,2,2,1,2])=2 from rfl,hσ,headK_some,hB]
  cases o with
  | o0 y e f=>cases d;rfl
  | o1 y e f i =>
   refine j y e f i r d _ ?_
   simp (disch:=first|apply D;decide|apply K;kernel_rfl) only [E,EE,↓reduceIte,simprocAttr,hh_58_2,hc_58_2]
  | o2 y e f i l=>cases d;rfl
inductive R58_l4_l2 where
 | o0 (y:List T39) (i j l m:Int) (o:List Bool) (p:List Int) (q s t a b c d e f g:Int) (h:List Int)
 | o1 (y:List T39) (i j l m:Int) (o:Bool) (p:List Bool) (q:List Int) (s t a b c d e f g h:Int) (u:List Int)
noncomputable def R58_l4_l2.st:R58_l4_l2→Out×St
 | .o0 y i j l m o p q s t a b c d e f g h=>(.norm,(⟨78,[(9,.own 30000),(10,.own 30001),(12,.ptr 30002 0),(49,.sl 11 (rowsOf encT39 y)),(50,jI i),(51,jI j),(64,jI l),(65,jI m)],[(30000,.row true 1 4 (rowsOf encB o)),(30001,.row true 1 5 (rowsOf (encI .u8) p)),(30002,.box 39 [jI q,jI s,jU t,jI a,jI b,jI c,jI d,jI e,jI f,jI g,.sl 1 (rowsOf (encI .u8) h)])]⟩:St))
 | .o1 y i j l m o p q s t a b c d e f g h u=>(.exit 6,(⟨78,[(9,.own 30000),(10,.own 30001),(12,.ptr 30002 0),(49,.sl 11 (rowsOf encT39 y)),(50,jI i),(51,jI j),(64,jI l),(65,jI m),(66,.p (.bool o))],[(30000,.row true 1 4 (rowsOf encB p)),(30001,.row true 1 5 (rowsOf (encI .u8) q)),(30002,.box 39 [jI s,jI t,jU a,jI b,jI c,jI d,jI e,jI f,jI g,jI h,.sl 1 (rowsOf (encI .u8) u)])]⟩:St))
noncomputable def f58_l4_l2_j2 (k:Nat) (l:List T39) (m o p q:Int) (s:List Bool) (t:List Int) (u b c d e f g h i j:Int) (a:List Int):Option R58_l4_l2 :=
 some (R58_l4_l2.o0 l m o p (IntKind.i64.wrap (q+(1:Int))) s t u b c d e f g h i j a)
theorem f58_l4_l2_j2_ok (k l m o p q s t u b c d e f g h i j a r) (v:f58_l4_l2_j2 k l m o p q s t u b c d e f g h i j a=some r):EX 58 k (nav B58 [2,2,2,1,2,2,2,2,2,1,2,2,1,2,2,1,2,2,2,2]) (⟨78,[(9,.own 30000),(10,.own 30001),(12,.ptr 30002 0),(49,.sl 11 (rowsOf encT39 l)),(50,jI m),(51,jI o),(64,jI p),(65,jI q)],[(30000,.row true 1 4 (rowsOf encB s)),(30001,.row true 1 5 (rowsOf (encI .u8) t)),(30002,.box 39 [jI u,jI b,jU c,jI d,jI e,jI f,jI g,jI h,jI i,jI j,.sl 1 (rowsOf (encI .u8) a)])]⟩:St)=some r.st:=by
 unfold f58_l4_l2_j2 at v
 cases v
 simp (disch:=first|apply D;decide|apply K;kernel_rfl) only [E,EE,↓reduceIte,simprocAttr,rg B58 [2,2,2,1,2,2,2,2,2,1,2,2,1,2,2,1,2,2,2,2] 22 false rfl,hr 58 22 rfl,R58_l4_l2.st]
noncomputable def f58_l4_l2_j1 (k:Nat) (o:List T39) (p q s b:Int) (v:Bool) (d:List Bool) (t:List Int) (u e f g h i j l a m:Int) (c:List Int):Option R58_l4_l2 :=
 ifE ((0:Int)≤(IntKind.i64.wrap (a+b))) (
  ifE ((IntKind.i64.wrap (a+b))<((List.length d):Int)) (
   Option.bind (d[(Int.toNat (IntKind.i64.wrap (a+b)))]?) fun w =>
    f58_l4_l2_j2 k o p q s b (List.set d (Int.toNat (IntKind.i64.wrap (a+b))) true) t u e f g h i j l a m c))
theorem f58_l4_l2_j1_ok (k s t u v c z p w y d e f g h j m a o b r) (q:f58_l4_l2_j1 k s t u v c z p w y d e f g h j m a o b=some r):EX 58 k (nav B58 [2,2,1,2,2,2,2,2,1,2,2,1,2,2,1,2,2,2,2]) (⟨78,[(9,.own 30000),(10,.own 30001),(12,.ptr 30002 0),(49,.sl 11 (rowsOf encT39 s)),(50,jI t),(51,jI u),(64,jI v),(65,jI c),(66,.p (.bool z))],[(30000,.row true 1 4 (rowsOf encB p)),(30001,.row true 1 5 (rowsOf (encI .u8) w)),(30002,.box 39 [jI y,jI d,jU e,jI f,jI g,jI h,jI j,jI m,jI a,jI o,.sl 1 (rowsOf (encI .u8) b)])]⟩:St)=some r.st:=by
 unfold f58_l4_l2_j1 at q
 obtain ⟨n,q⟩:=ifE_some.1 q
 obtain ⟨h2,q⟩:=ifE_some.1 q
 obtain ⟨v3,h4,q⟩:=bs q
 have q5:List.set (rowsOf encB p) (Int.toNat (IntKind.i64.wrap (a+c))) [.p (.bool true)]=rowsOf encB (List.set p (Int.toNat (IntKind.i64.wrap (a+c))) true):=(rowsOf_set (enc:=encB) (l:=p) (i:=(Int.toNat (IntKind.i64.wrap (a+c)))) (x:=true)).symm
 have hJ:=f58_l4_l2_j2_ok k s t u v c (List.set p (Int.toNat (IntKind.i64.wrap (a+c))) true) w y d e f g h j m a o b _ q
 simp (disch:=first|apply D;decide|apply K;kernel_rfl) only [E,EE,↓reduceIte,simprocAttr,xk B58 [2,2,1,2,2,2,2,2,1,2,2,1,2,2,1,2,2,2,2] .sq rfl,xk B58 [1,2,2,1,2,2,2,2,2,1,2,2,1,2,2,1,2,2,2,2] (.bk 7) rfl,xk B58 [2,1,2,2,1,2,2,2,2,2,1,2,2,1,2,2,1,2,2,2,2] .sq rfl,rg B58 [1,2,1,2,2,1,2,2,2,2,2,1,2,2,1,2,2,1,2,2,2,2] 20 false rfl,hr 58 20 rfl,rg B58 [2,2,1,2,2,1,2,2,2,2,2,1,2,2,1,2,2,1,2,2,2,2] 21 false rfl,hr 58 21 rfl,fieldAddrV,t_39,t_3,indexAddrV,t_90,t_4,sm_4,encB_eq,n,h2,h4,q5]
 try simp only [NM,EE] at hJ
 exact hJ
noncomputable def f58_l4_l2_b (k:Nat) (o:List T39) (p q l m:Int) (s:List Bool) (t:List Int) (u b c d e f g h i j:Int) (a:List Int):Option R58_l4_l2 :=
 cond ((decide (m<l)))
  (f58_l4_l2_j1 k o p q l m true s t u b c d e f g h i j a)
  (some (R58_l4_l2.o1 o p q l m false s t u b c d e f g h i j a))
theorem f58_l4_l2_b_ok (k l m o p q s t u b c d e f g h i j a r) (v:f58_l4_l2_b k l m o p q s t u b c d e f g h i j a=some r):EX 58 k (nav B58 [1,2,2,2,2,2,1,2,2,1,2,2,1,2,2,2,2]) (⟨78,[(9,.own 30000),(10,.own 30001),(12,.ptr 30002 0),(49,.sl 11 (rowsOf encT39 l)),(50,jI m),(51,jI o),(64,jI p),(65,jI q)],[(30000,.row true 1 4 (rowsOf encB s)),(30001,.row true 1 5 (rowsOf (encI .u8) t)),(30002,.box 39 [jI u,jI b,jU c,jI d,jI e,jI f,jI g,jI h,jI i,jI j,.sl 1 (rowsOf (encI .u8) a)])]⟩:St)=some r.st:=by
 unfold f58_l4_l2_b at v
 simp (disch:=first|apply D;decide|apply K;kernel_rfl) only [E,EE,↓reduceIte,simprocAttr,xk B58 [1,2,2,2,2,2,1,2,2,1,2,2,1,2,2,2,2] .sq rfl,rg B58 [1,1,2,2,2,2,2,1,2,2,1,2,2,1,2,2,2,2] 19 false rfl,hr 58 19 rfl,xk B58 [2,1,2,2,2,2,2,1,2,2,1,2,2,1,2,2,2,2] .sq rfl,xk B58 [1,2,1,2,2,2,2,2,1,2,2,1,2,2,1,2,2,2,2] (.cd 66) rfl]
 rcases cond_some v with ⟨w,v⟩ | ⟨w,v⟩
 ·have hJ:=f58_l4_l2_j1_ok k l m o p q true s t u b c d e f g h i j a _ v
  simp (disch:=first|apply D;decide|apply K;kernel_rfl) only [E,EE,↓reduceIte,simprocAttr,xk B58 [2,1,2,1,2,2,2,2,2,1,2,2,1,2,2,1,2,2,2,2] .sk rfl,w]
  try simp only [NM,EE] at hJ
  exact hJ
 ·cases v
  simp (disch:=first|apply D;decide|apply K;kernel_rfl) only [E,EE,↓reduceIte,simprocAttr,xk B58 [3,1,2,1,2,2,2,2,2,1,2,2,1,2,2,1,2,2,2,2] (.ex 6) rfl,R58_l4_l2.st,w]
noncomputable def f58_l4_l2 (k:Nat):Nat→(List T39)→Int→Int→Int→Int→(List Bool)→(List Int)→Int→Int→Int→Int→Int→Int→Int→Int→Int→Int→(List Int)→Option R58_l4_l2
 | 0,_,_,_,_,_,_,_,_,_,_,_,_,_,_,_,_,_,_=>none
 | n+1,ag,ah,ai,aj,ak,al,am,an,j,l,m,p,q,s,t,u,v,i=>Option.bind (f58_l4_l2_b k ag ah ai aj ak al am an j l m p q s t u v i) fun o =>
  match o with
  | .o0 y w x z r aa ab ac ad ae a b c d e f g h=>f58_l4_l2 k n y w x z r aa ab ac ad ae a b c d e f g h
  | .o1 y w x z r aa ab ac ad ae a b c d e f g h af=>some (.o1 y w x z r aa ab ac ad ae a b c d e f g h af)
theorem f58_l4_l2_ok (k n:Nat):∀ (m:List T39) (p q s t:Int) (u:List Bool) (v:List Int) (w b c d e f g i j l:Int) (a:List Int) (r:R58_l4_l2) (x:f58_l4_l2 k n m p q s t u v w b c d e f g i j l a=some r) (σ:St) (hσ:headR (hints.head 58 19) (hints.canon 58 19) σ=some (⟨78,[(9,.own 30000),(10,.own 30001),(12,.ptr 30002 0),(49,.sl 11 (rowsOf encT39 m)),(50,jI p),(51,jI q),(64,jI s),(65,jI t)],[(30000,.row true 1 4 (rowsOf encB u)),(30001,.row true 1 5 (rowsOf (encI .u8) v)),(30002,.box 39 [jI w,jI b,jU c,jI d,jI e,jI f,jI g,jI i,jI j,jI l,.sl 1 (rowsOf (encI .u8) a)])]⟩:St)),LP 58 k (nav B58 [1,2,2,2,2,2,1,2,2,1,2,2,1,2,2,2,2]) n σ=some r.st:=by
 induction n with
 | zero=>intro m p q s t u v w b c d e f g i j l a r x;cases x
 | succ n ih =>
  intro m p q s t u v w b c d e f g i j l a r x σ hσ
  rw [f58_l4_l2] at x
  obtain ⟨o,h,x⟩:=Option.bind_eq_some_iff.1 x
  have hB:=f58_l4_l2_b_ok k m p q s t u v w b c d e f g i j l a o h
  unfold LP at ih ⊢
  unfold EX at hB
  rw [loopK_succ,show firstReg (nav B58 [1,2,2,2,2,2,1,2,2,1,2,2,1,2,2,2,2])=19 from rfl,hσ,headK_some,hB]
  cases o with
  | o0 y ah ai aj ak al am an ao ap z aa ab ac ad ae af ag =>
   refine ih y ah ai aj ak al am an ao ap z aa ab ac ad ae af ag r x _ ?_
   simp (disch:=first|apply D;decide|apply K;kernel_rfl) only [E,EE,↓reduceIte,simprocAttr,hh_58_19,hc_58_19]
  | o1 y ah ai aj ak al am an ao ap z aa ab ac ad ae af ag ar=>cases x;rfl
inductive R58_l4 where
 | o0 (y:List T39) (a b:Int) (c:List Bool) (d:List Int)
 | o1 (y:List T39) (a b:Int) (c:Bool) (d:List Bool) (e:List Int)
noncomputable def R58_l4.st:R58_l4→Out×St
 | .o0 y a b c d=>(.norm,(⟨78,[(9,.own 30000),(10,.own 30001),(49,.sl 11 (rowsOf encT39 y)),(50,jI a),(51,jI b)],[(30000,.row true 1 4 (rowsOf encB c)),(30001,.row true 1 5 (rowsOf (encI .u8) d))]⟩:St))
 | .o1 y a b c d e=>(.exit 4,(⟨78,[(9,.own 30000),(10,.own 30001),(49,.sl 11 (rowsOf encT39 y)),(50,jI a),(51,jI b),(52,.p (.bool c))],[(30000,.row true 1 4 (rowsOf encB d)),(30001,.row true 1 5 (rowsOf (encI .u8) e))]⟩:St))
noncomputable def f58_l4_j3 (k:Nat) (b:List T39) (c d s t:Int) (u:Bool) (e:List Bool) (f:List Int) (v g h i j l m o p q:Int) (a:List Int):Option R58_l4 :=
 some (.o0 b c (IntKind.i64.wrap (d+(1:Int))) e f)
theorem f58_l4_j3_ok (k l m o p q s t u v b c d e f g h i j a r) (w:f58_l4_j3 k l m o p q s t u v b c d e f g h i j a=some r):EX 58 k (nav B58 [2,2,2,1,2,2,1,2,2,2,2]) (⟨78,[(9,.own 30000),(10,.own 30001),(12,.ptr 30002 0),(49,.sl 11 (rowsOf encT39 l)),(50,jI m),(51,jI o),(64,jI p),(65,jI q),(66,.p (.bool s))],[(30000,.row true 1 4 (rowsOf encB t)),(30001,.row true 1 5 (rowsOf (encI .u8) u)),(30002,.box 39 [jI v,jI b,jU c,jI d,jI e,jI f,jI g,jI h,jI i,jI j,.sl 1 (rowsOf (encI .u8) a)])]⟩:St)=some r.st:=by
 unfold f58_l4_j3 at w
 cases w
 simp (disch:=first|apply D;decide|apply K;kernel_rfl) only [E,EE,↓reduceIte,simprocAttr,rg B58 [2,2,2,1,2,2,1,2,2,2,2] 23 false rfl,hr 58 23 rfl,R58_l4.st]
noncomputable def f58_l4_j1 (k:Nat) (d:List T39) (e c:Int) (aa:Bool) (f:List Bool) (b:List Int):Option R58_l4 :=
 ifE ((0:Int)≤c) (
  Option.bind (d[(Int.toNat c)]?) fun a =>
   ifE ((0:Int)≤a.Offset) (
    ifE ((Int.toNat a.Offset)≤(List.length b)) (
     ifE (((Int.toNat a.Offset)+((List.length b) - (Int.toNat a.Offset)))≤(List.length b)) (
      Option.bind (f58_l4_l2 k k d e c ((List.length a.Payload):Int) 0 f (((List.take (Int.toNat a.Offset) b)++((List.take (((List.length b) - (Int.toNat a.Offset))) a.Payload)++(List.drop (((Int.toNat a.Offset)+(List.length ((List.take (((List.length b) - (Int.toNat a.Offset))) a.Payload))))) b)))) a.Source a.Dest a.Seq a.Created a.Lifetime a.HopLimit a.Hops a.Priority a.Offset a.Total a.Payload) fun o7 =>
       match o7 with
       | .o0 _ _ _ _ _ _ _ _ _ _ _ _ _ _ _ _ _ _ =>
        none
       | .o1 g h i j l m o p q s t u v w x y z r n =>
        f58_l4_j3 k g h i j l m o p q s t u v w x y z r n))))
theorem f58_l4_j1_ok (k d e f i g c r) (b:f58_l4_j1 k d e f i g c=some r):EX 58 k (nav B58 [2,2,1,2,2,1,2,2,2,2]) (⟨78,[(9,.own 30000),(10,.own 30001),(49,.sl 11 (rowsOf encT39 d)),(50,jI e),(51,jI f),(52,.p (.bool i))],[(30000,.row true 1 4 (rowsOf encB g)),(30001,.row true 1 5 (rowsOf (encI .u8) c))]⟩:St)=some r.st:=by
 unfold f58_l4_j1 at b
 obtain ⟨j,b⟩:=ifE_some.1 b
 obtain ⟨a,l,b⟩:=bs b
 obtain ⟨m,b⟩:=ifE_some.1 b
 obtain ⟨o,b⟩:=ifE_some.1 b
 obtain ⟨p,b⟩:=ifE_some.1 b
 obtain ⟨o7,h8,b⟩:=bs b
 have h:=f58_l4_l2_ok k k d e f ((List.length a.Payload):Int) 0 g (((List.take (Int.toNat a.Offset) c)++((List.take (((List.length c) - (Int.toNat a.Offset))) a.Payload)++(List.drop (((Int.toNat a.Offset)+(List.length ((List.take (((List.length c) - (Int.toNat a.Offset))) a.Payload))))) c)))) a.Source a.Dest a.Seq a.Created a.Lifetime a.HopLimit a.Hops a.Priority a.Offset a.Total a.Payload _ h8
 simp (disch:=first|apply D;decide|apply K;kernel_rfl) only [E,EE,↓reduceIte,simprocAttr,xk B58 [2,2,1,2,2,1,2,2,2,2] .sq rfl,xk B58 [1,2,2,1,2,2,1,2,2,2,2] (.bk 5) rfl,xk B58 [2,1,2,2,1,2,2,1,2,2,2,2] .sq rfl,rg B58 [1,2,1,2,2,1,2,2,1,2,2,2,2] 16 false rfl,hr 58 16 rfl,indexAddrV,t_24,t_39,encT39_eq,xk B58 [2,2,1,2,2,1,2,2,1,2,2,2,2] .sq rfl,rg B58 [1,2,2,1,2,2,1,2,2,1,2,2,2,2] 17 true rfl,hr 58 17 rfl,fieldAddrV,t_3,sliceV,bound,t_29,t_5,copyV,content,xk B58 [2,2,2,1,2,2,1,2,2,1,2,2,2,2] .sq rfl,rg B58 [1,2,2,2,1,2,2,1,2,2,1,2,2,2,2] 18 false rfl,hr 58 18 rfl,xk B58 [2,2,2,2,1,2,2,1,2,2,1,2,2,2,2] (.bk 6) rfl,xk B58 [2,2,2,2,2,1,2,2,1,2,2,1,2,2,2,2] .lp rfl,hh_58_19,hc_58_19,j,l,m,o,p]
 (try simp only [NM,EE] at h)
 rw [h _ (by simp (disch:=first|apply D;decide|apply K;kernel_rfl) only [E,EE,↓reduceIte,simprocAttr,hh_58_19,hc_58_19,j,l,m,o,p])]
 clear h
 cases o7 with
 | o0 _ _ _ _ _ _ _ _ _ _ _ _ _ _ _ _ _ _ =>
  (try dsimp only at b)
  cases b
 | o1 q s t u v w x y z n aa ab ac ad ae af ag ah ai =>
  (try dsimp only at b)
  have hJ:=f58_l4_j3_ok k q s t u v w x y z n aa ab ac ad ae af ag ah ai _ b
  simp (disch:=first|apply D;decide|apply K;kernel_rfl) only [E,EE,↓reduceIte,simprocAttr,R58_l4_l2.st,j,l,m,o,p]
  try simp only [NM,EE] at hJ
  exact hJ
noncomputable def f58_l4_b (k:Nat) (c:List T39) (a b:Int) (d:List Bool) (e:List Int):Option R58_l4 :=
 cond ((decide (b<a)))
  (f58_l4_j1 k c a b true d e)
  (some (.o1 c a b false d e))
theorem f58_l4_b_ok (k a b c d e r) (f:f58_l4_b k a b c d e=some r):EX 58 k (nav B58 [1,2,2,1,2,2,2,2]) (⟨78,[(9,.own 30000),(10,.own 30001),(49,.sl 11 (rowsOf encT39 a)),(50,jI b),(51,jI c)],[(30000,.row true 1 4 (rowsOf encB d)),(30001,.row true 1 5 (rowsOf (encI .u8) e))]⟩:St)=some r.st:=by
 unfold f58_l4_b at f
 simp (disch:=first|apply D;decide|apply K;kernel_rfl) only [E,EE,↓reduceIte,simprocAttr,xk B58 [1,2,2,1,2,2,2,2] .sq rfl,rg B58 [1,1,2,2,1,2,2,2,2] 15 false rfl,hr 58 15 rfl,xk B58 [2,1,2,2,1,2,2,2,2] .sq rfl,xk B58 [1,2,1,2,2,1,2,2,2,2] (.cd 52) rfl]
 rcases cond_some f with ⟨g,f⟩ | ⟨g,f⟩
 ·have hJ:=f58_l4_j1_ok k a b c true d e _ f
  simp (disch:=first|apply D;decide|apply K;kernel_rfl) only [E,EE,↓reduceIte,simprocAttr,xk B58 [2,1,2,1,2,2,1,2,2,2,2] .sk rfl,g]
  try simp only [NM,EE] at hJ
  exact hJ
 ·cases f
  simp (disch:=first|apply D;decide|apply K;kernel_rfl) only [E,EE,↓reduceIte,simprocAttr,xk B58 [3,1,2,1,2,2,1,2,2,2,2] (.ex 4) rfl,R58_l4.st,g]
noncomputable def f58_l4 (k:Nat):Nat→(List T39)→Int→Int→(List Bool)→(List Int)→Option R58_l4
 | 0,_,_,_,_,_=>none
 | n+1,e,f,g,h,i=>Option.bind (f58_l4_b k e f g h i) fun o =>
  match o with
  | .o0 y a b c d=>f58_l4 k n y a b c d
  | .o1 y a b c d j=>some (.o1 y a b c d j)
theorem f58_l4_ok (k n:Nat):∀ (a:List T39) (b c:Int) (d:List Bool) (e:List Int) (r:R58_l4) (f:f58_l4 k n a b c d e=some r) (σ:St) (hσ:headR (hints.head 58 15) (hints.canon 58 15) σ=some (⟨78,[(9,.own 30000),(10,.own 30001),(49,.sl 11 (rowsOf encT39 a)),(50,jI b),(51,jI c)],[(30000,.row true 1 4 (rowsOf encB d)),(30001,.row true 1 5 (rowsOf (encI .u8) e))]⟩:St)),LP 58 k (nav B58 [1,2,2,1,2,2,2,2]) n σ=some r.st:=by
 induction n with
 | zero=>intro a b c d e r f;cases f
 | succ n m =>
  intro a b c d e r f σ hσ
  rw [f58_l4] at f
  obtain ⟨o,h,f⟩:=Option.bind_eq_some_iff.1 f
  have hB:=f58_l4_b_ok k a b c d e o h
  unfold LP at m ⊢
  unfold EX at hB
  rw [loopK_succ,show firstReg (nav B58 [1,2,2,1,2,2,2,2])=15 from rfl,hσ,headK_some,hB]
  cases o with
  | o0 y g i j l =>
   refine m y g i j l r f _ ?_
   simp (disch:=first|apply D;decide|apply K;kernel_rfl) only [E,EE,↓reduceIte,simprocAttr,hh_58_15,hc_58_15]
  | o1 y g i j l p=>cases f;rfl
noncomputable def f58_j5 (k:Nat) (c:List T39) (d e:Int) (f:Bool) (a:List Bool) (b:List Int):Option R58 :=
 some (.o1 0 a b)
theorem f58_j5_ok (k a b c d e f r) (g:f58_j5 k a b c d e f=some r):finK Try.prog Try.f58 0 (EX 58 k (nav B58 [2,2,2,2,2]) (⟨78,[(9,.own 30000),(10,.own 30001),(49,.sl 11 (rowsOf encT39 a)),(50,jI b),(51,jI c),(52,.p (.bool d))],[(30000,.row true 1 4 (rowsOf encB e)),(30001,.row true 1 5 (rowsOf (encI .u8) f))]⟩:St))=some r.st:=by
 unfold f58_j5 at g
 cases g
 simp (disch:=first|apply D;decide|apply K;kernel_rfl) only [E,EE,↓reduceIte,simprocAttr,xk B58 [2,2,2,2,2] .sq rfl,rg B58 [1,2,2,2,2,2] 24 false rfl,hr 58 24 rfl,xk B58 [2,2,2,2,2,2] .rt rfl,fin58,R58.st]
noncomputable def f58_j3 (k:Nat) (b:List T39) (i:Bool):Option R58 :=
 Option.bind (b[0]?) fun a =>
  ifE ((0:Int)≤a.Total) (
   ifE (a.Total≤a.Total) (
    ifE ((a.Total:Int) * 1≤(roomy:Int)) (
     Option.bind (f58_l4 k k b ((List.length b):Int) 0 ((List.replicate (Int.toNat a.Total) (false:Bool))) ((List.replicate (Int.toNat a.Total) (0:Int)))) fun o8 =>
      match o8 with
      | .o0 _ _ _ _ _ =>
       none
      | .o1 c d e f g h =>
       f58_j5 k c d e f g h)))
theorem f58_j3_ok (k e d r) (a:f58_j3 k e d=some r):finK Try.prog Try.f58 0 (EX 58 k (nav B58 [2,2,2]) (⟨78,[(0,.sl 11 (rowsOf encT39 e)),(38,.p (.bool d))],[]⟩:St))=some r.st:=by
 unfold f58_j3 at a
 obtain ⟨c,f,a⟩:=bs a
 obtain ⟨g,a⟩:=ifE_some.1 a
 obtain ⟨h,a⟩:=ifE_some.1 a
 obtain ⟨i,a⟩:=ifE_some.1 a
 have j:List.replicate (Int.toNat c.Total) [.p (.bool false)]=rowsOf encB (List.replicate (Int.toNat c.Total) (false:Bool)):=(rowsOf_replicate (enc:=encB) (n:=(Int.toNat c.Total)) (x:=(false:Bool))).symm
 have l:List.replicate (Int.toNat c.Total) [.p (.int .u8 0)]=rowsOf (encI .u8) (List.replicate (Int.toNat c.Total) (0:Int)):=(rowsOf_replicate (enc:=(encI .u8)) (n:=(Int.toNat c.Total)) (x:=(0:Int))).symm
 obtain ⟨o8,u,a⟩:=bs a
 have b:=f58_l4_ok k k e ((List.length e):Int) 0 ((List.replicate (Int.toNat c.Total) (false:Bool))) ((List.replicate (Int.toNat c.Total) (0:Int))) _ u
 simp (disch:=first|apply D;decide|apply K;kernel_rfl) only [E,EE,↓reduceIte,simprocAttr,xk B58 [2,2,2] .sq rfl,rg B58 [1,2,2,2] 13 true rfl,hr 58 13 rfl,indexAddrV,t_24,t_39,encT39_eq,fieldAddrV,t_3,makeV,intArg,sm_4,t_90,t_4,sm_5,t_29,t_5,xk B58 [2,2,2,2] .sq rfl,xk B58 [1,2,2,2,2] .sq rfl,rg B58 [1,1,2,2,2,2] 14 false rfl,hr 58 14 rfl,xk B58 [2,1,2,2,2,2] (.bk 4) rfl,xk B58 [2,2,1,2,2,2,2] .lp rfl,hh_58_15,hc_58_15,f,g,h,i,j,l]
 (try simp only [NM,EE] at b)
 rw [b _ (by simp (disch:=first|apply D;decide|apply K;kernel_rfl) only [E,EE,↓reduceIte,simprocAttr,hh_58_15,hc_58_15,f,g,h,i,j,l])]
 clear b
 cases o8 with
 | o0 _ _ _ _ _ =>
  (try dsimp only at a)
  cases a
 | o1 m o p q s t =>
  (try dsimp only at a)
  have hJ:=f58_j5_ok k m o p q s t _ a
  simp (disch:=first|apply D;decide|apply K;kernel_rfl) only [E,EE,↓reduceIte,simprocAttr,R58_l4.st,f,g,h,i,j,l]
  try simp only [NM,EE] at hJ
  exact hJ
noncomputable def f58_j2 (k:Nat) (a b:List T39) (c d:Int) (e:Bool):Option R58 :=
 cond ((((List.length a):Int)==0))
  (some (.o0 [] [] 280))
  (f58_j3 k a false)
theorem f58_j2_ok (k f b c d e r) (a:f58_j2 k f b c d e=some r):finK Try.prog Try.f58 0 (EX 58 k (nav B58 [2,2]) (⟨78,[(0,.sl 11 (rowsOf encT39 f)),(14,.sl 11 (rowsOf encT39 b)),(15,jI c),(16,jI d),(17,.p (.bool e))],[]⟩:St))=some r.st:=by
 unfold f58_j2 at a
 simp (disch:=first|apply D;decide|apply K;kernel_rfl) only [E,EE,↓reduceIte,simprocAttr,xk B58 [2,2] .sq rfl,xk B58 [1,2,2] .sq rfl,rg B58 [1,1,2,2] 11 false rfl,hr 58 11 rfl,t_24,xk B58 [2,1,2,2] (.cd 38) rfl]
 rcases cond_some a with ⟨g,a⟩ | ⟨g,a⟩
 ·cases a
  simp (disch:=first|apply D;decide|apply K;kernel_rfl) only [E,EE,↓reduceIte,simprocAttr,xk B58 [2,2,1,2,2] .sq rfl,rg B58 [1,2,2,1,2,2] 12 false rfl,hr_58_12,xk B58 [2,2,2,1,2,2] .rt rfl,fin58,R58.st,g]
 ·have hJ:=f58_j3_ok k f false _ a
  simp (disch:=first|apply D;decide|apply K;kernel_rfl) only [E,EE,↓reduceIte,simprocAttr,xk B58 [3,2,1,2,2] .sk rfl,g]
  try simp only [NM,EE] at hJ
  exact hJ
noncomputable def f58_e (k:Nat) (a:List T39):Option R58 :=
 Option.bind (f58_l1 k k a a ((List.length a):Int) 0) fun o1 =>
  match o1 with
  | .o0 d e f =>
   some (.o0 d e f)
  | .o1 _ _ _ _ =>
   none
  | .o2 g h i b c =>
   f58_j2 k g h i b c
theorem f58_e_ok (k c r) (a:f58_e k c=some r):finK Try.prog Try.f58 0 (EX 58 k (nav B58 []) (⟨78,[(0,.sl 11 (rowsOf encT39 c))],[]⟩:St))=some r.st:=by
 unfold f58_e at a
 obtain ⟨o1,f,a⟩:=bs a
 have b:=f58_l1_ok k k c c ((List.length c):Int) 0 _ f
 simp (disch:=first|apply D;decide|apply K;kernel_rfl) only [E,EE,↓reduceIte,simprocAttr,xk B58 [] .sq rfl,rg B58 [1] 0 false rfl,hr 58 0 rfl,xk B58 [2] .sq rfl,xk B58 [1,2] .sq rfl,rg B58 [1,1,2] 1 false rfl,hr 58 1 rfl,t_24,xk B58 [2,1,2] (.bk 0) rfl,xk B58 [2,2,1,2] .lp rfl,hh_58_2,hc_58_2]
 (try simp only [NM,EE] at b)
 rw [b _ (by simp (disch:=first|apply D;decide|apply K;kernel_rfl) only [E,EE,↓reduceIte,simprocAttr,hh_58_2,hc_58_2])]
 clear b
 cases o1 with
 | o0 j l m =>
  (try dsimp only at a)
  cases a
  simp (disch:=first|apply D;decide|apply K;kernel_rfl) only [E,EE,↓reduceIte,simprocAttr,R58_l1.st,fin58,R58.st]
 | o1 _ _ _ _ =>
  (try dsimp only at a)
  cases a
 | o2 g h i d e =>
  (try dsimp only at a)
  have hJ:=f58_j2_ok k g h i d e _ a
  simp (disch:=first|apply D;decide|apply K;kernel_rfl) only [E,EE,↓reduceIte,simprocAttr,R58_l1.st]
  try simp only [NM,EE] at hJ
  exact hJ
noncomputable def f58 (k:Nat) (a:List T39):Option R58:=match k with | 0=>none | k+1=>f58_e k a
theorem f58_ok (k a r) (b:f58 k a=some r):CV k 58 [.sl 11 (rowsOf encT39 a)] []=some r.st:=by
 cases k with
 | zero=>cases b
 | succ k =>
  unfold CV
  rw [ev_call (F:=Try.f58) (c:=(nav B58 [])) rfl Try.func58 rfl rfl rfl rfl]
  exact f58_e_ok k a r b
end Go.Proofs.YticggdfaehneeaaV