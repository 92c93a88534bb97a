/- What the program's functions answer: plain functions,and that the interpreter answers what they do. Written by a program of this session,out of the translation. -/
import Derived.Test.YtiompmmbjpjjeaaDoorVP5
namespace Go.Proofs.YtiompmmbjpjjeaaDoorV
open Go
set_option linter.unusedVariables false
set_option linter.unusedSimpArgs false
set_option maxRecDepth 8000
set_option maxHeartbeats 4000000
-- f87: f87 heliograph/octet.put
inductive R87 where
 | o0 (y a:List Int)
noncomputable def R87.st:R87→V×List O×List O
 | .o0 y a=>(.own 2000000,[.row false 1 5 (rowsOf (encI .u8) y)],[.row true 1 5 (rowsOf (encI .u8) a)])
inductive R87_l1 where
 | o0 (y a:Int) (b c:List Int)
 | o1 (y a:Int) (b:Bool) (c d:List Int)
noncomputable def R87_l1.st:R87_l1→Out×St
 | .o0 y a b c=>(.norm,(⟨25,[(0,.own 23),(1,jL y),(7,jI a)],[(23,.row true 1 5 (rowsOf (encI .u8) b)),(1000000,.row false 1 5 (rowsOf (encI .u8) c))]⟩:St))
 | .o1 y a b c d=>(.exit 0,(⟨25,[(0,.own 30000),(1,jL y),(7,jI a),(13,jT b)],[(30000,.row true 1 5 (rowsOf (encI .u8) c)),(1000000,.row false 1 5 (rowsOf (encI .u8) d))]⟩:St))
noncomputable def f87_l1_j2 (k:Nat) (b c:Int) (a d:List Int):Option R87_l1 :=
 some (.o0 b (IntKind.i64.wrap (c - (1:Int))) a d)
theorem f87_l1_j2_ok (k b c a d r) (e:f87_l1_j2 k b c a d=some r):EX 87 k (nav B87 [2,2,1,2,2,1,2,2]) (⟨25,[(0,.own 23),(1,jL b),(7,jI c)],[(23,.row true 1 5 (rowsOf (encI .u8) a)),(1000000,.row false 1 5 (rowsOf (encI .u8) d))]⟩:St)=some r.st:=by
 unfold f87_l1_j2 at e
 cases e
 simp only [W,simprocAttr,rg B87 [2,2,1,2,2,1,2,2] 4 false rfl,hr 87 4 rfl,R87_l1.st]
noncomputable def f87_l1_j1 (k:Nat) (c b:Int) (d:Bool) (a e:List Int):Option R87_l1 :=
 ifE (¬(IntKind.i64.wrap ((8:Int) * b))<0) (
  ifE (((List.length a)+1)≤roomy) (
   f87_l1_j2 k c b ((a++([(IntKind.u8.wrap (Int.fdiv c (2 ^ (min (Int.toNat (IntKind.i64.wrap ((8:Int) * b))) (IntKind.bits .u64)))))]:List Int))) e))
theorem f87_l1_j1_ok (k a b e c f r) (d:f87_l1_j1 k a b e c f=some r):EX 87 k (nav B87 [2,1,2,2,1,2,2]) (⟨25,[(0,.own 30000),(1,jL a),(7,jI b),(13,jT e)],[(30000,.row true 1 5 (rowsOf (encI .u8) c)),(1000000,.row false 1 5 (rowsOf (encI .u8) f))]⟩:St)=some r.st:=by
 unfold f87_l1_j1 at d
 obtain ⟨g,d⟩:=ifE_some.1 d
 have h:[[.p (.int .u8 (IntKind.u8.wrap (Int.fdiv a (2 ^ (min (Int.toNat (IntKind.i64.wrap ((8:Int) * b))) (IntKind.bits .u64))))))]]=rowsOf (encI .u8) ([(IntKind.u8.wrap (Int.fdiv a (2 ^ (min (Int.toNat (IntKind.i64.wrap ((8:Int) * b))) (IntKind.bits .u64)))))]:List Int):=rfl
 have i:List.map (tell [0]) (rowsOf (encI .u8) ([(IntKind.u8.wrap (Int.fdiv a (2 ^ (min (Int.toNat (IntKind.i64.wrap ((8:Int) * b))) (IntKind.bits .u64)))))]:List Int))=rowsOf (encI .u8) ([(IntKind.u8.wrap (Int.fdiv a (2 ^ (min (Int.toNat (IntKind.i64.wrap ((8:Int) * b))) (IntKind.bits .u64)))))]:List Int):=rfl
 obtain ⟨j,d⟩:=ifE_some.1 d
 have hJ:=f87_l1_j2_ok k a b ((c++([(IntKind.u8.wrap (Int.fdiv a (2 ^ (min (Int.toNat (IntKind.i64.wrap ((8:Int) * b))) (IntKind.bits .u64)))))]:List Int))) f _ d
 simp only [W,simprocAttr,xk B87 [2,1,2,2,1,2,2] .sq rfl,xk B87 [1,2,1,2,2,1,2,2] (.bk 1) rfl,rg B87 [2,1,2,1,2,2,1,2,2] 5 false rfl,hr 87 5 rfl,shiftV,t_110,t_5,convV,buildSliceV,fillRows,sm_5,t_45,appendV,content,g,h,i,j]
 try simp only [NM,EE] at hJ
 exact hJ
noncomputable def f87_l1_b (k:Nat) (c b:Int) (a d:List Int):Option R87_l1 :=
 cond ((decide (b≥0)))
  (f87_l1_j1 k c b true a d)
  (some (.o1 c b false a d))
theorem f87_l1_b_ok (k c d a e r) (b:f87_l1_b k c d a e=some r):EX 87 k (nav B87 [1,2,2,1,2,2]) (⟨25,[(0,.own 30000),(1,jL c),(7,jI d)],[(30000,.row true 1 5 (rowsOf (encI .u8) a)),(1000000,.row false 1 5 (rowsOf (encI .u8) e))]⟩:St)=some r.st:=by
 unfold f87_l1_b at b
 simp only [W,simprocAttr,xk B87 [1,2,2,1,2,2] .sq rfl,sr 87 3 B87 [1,1,2,2,1,2,2] rfl rfl rfl,xk B87 [2,1,1,2,2,1,2,2] (.cd 13) rfl]
 rcases cond_some b with ⟨f,b⟩ | ⟨f,b⟩
 ·have hJ:=f87_l1_j1_ok k c d true a e _ b
  simp only [W,simprocAttr,xk B87 [2,2,1,1,2,2,1,2,2] .sk rfl,f]
  try simp only [NM,EE] at hJ
  exact hJ
 ·cases b
  simp only [W,simprocAttr,xk B87 [3,2,1,1,2,2,1,2,2] (.ex 0) rfl,R87_l1.st,f]
noncomputable def f87_l1 (k:Nat):Nat→Int→Int→(List Int)→(List Int)→Option R87_l1
 | 0,_,_,_,_=>none
 | n+1,f,g,d,h=>Option.bind (f87_l1_b k f g d h) fun o =>
  match o with
  | .o0 y a b c=>f87_l1 k n y a b c
  | .o1 y a b c e=>some (.o1 y a b c e)
theorem f87_l1_ok (k n:Nat):∀ (c d:Int) (a e:List Int) (r:R87_l1) (b:f87_l1 k n c d a e=some r) (σ:St) (hσ:headR (hints.head 87 3) (hints.canon 87 3) σ=some (⟨25,[(0,.own 30000),(1,jL c),(7,jI d)],[(30000,.row true 1 5 (rowsOf (encI .u8) a)),(1000000,.row false 1 5 (rowsOf (encI .u8) e))]⟩:St)),LP 87 k (nav B87 [1,2,2,1,2,2]) n σ=some r.st:=by
 induction n with
 | zero=>intro c d a e r b;cases b
 | succ n j =>
  intro c d a e r b σ hσ
  rw [f87_l1] at b
  obtain ⟨o,h,b⟩:=Option.bind_eq_some_iff.1 b
  have hB:=f87_l1_b_ok k c d a e o h
  unfold LP at j ⊢
  unfold EX at hB
  rw [loopK_succ,show firstReg (nav B87 [1,2,2,1,2,2])=3 from rfl,hσ,headK_some,hB]
  cases o with
  | o0 y f g i =>
   refine j y f g i r b _ ?_
   simp only [W,simprocAttr,hh_87_3,hc_87_3]
  | o1 y f g i l=>cases b;rfl
noncomputable def f87_j2 (k:Nat) (d e:Int) (b:Bool) (a c:List Int):Option R87 :=
 some (.o0 c a)
theorem f87_j2_ok (k c d a b e r) (f:f87_j2 k c d a b e=some r):finK Tryd.prog Tryd.f87 1 (EX 87 k (nav B87 [2,2,2]) (⟨25,[(0,.own 30000),(1,jL c),(7,jI d),(13,jT a)],[(30000,.row true 1 5 (rowsOf (encI .u8) b)),(1000000,.row false 1 5 (rowsOf (encI .u8) e))]⟩:St))=some r.st:=by
 unfold f87_j2 at f
 cases f
 simp only [W,simprocAttr,sr 87 6 B87 [2,2,2] rfl rfl rfl,xk B87 [2,2,2,2] .rt rfl,fin87,R87.st]
noncomputable def f87_e (k:Nat) (e f:Int) (d:List Int):Option R87 :=
 Option.bind (f53 k d) fun o1 =>
  match o1 with
  | .o0 g =>
   Option.bind (f87_l1 k k e (IntKind.i64.wrap (f - (1:Int))) g d) fun o5 =>
    match o5 with
    | .o0 _ _ _ _ =>
     none
    | .o1 h i a b c =>
     f87_j2 k h i a b c
theorem f87_e_ok (k e f d r) (a:f87_e k e f d=some r):finK Tryd.prog Tryd.f87 1 (EX 87 k (nav B87 []) (⟨25,[(0,.own 1000000),(1,jL e),(2,jI f)],[(1000000,.row true 1 5 (rowsOf (encI .u8) d))]⟩:St))=some r.st:=by
 unfold f87_e at a
 obtain ⟨o1,j,a⟩:=bs a
 have b:=f53_ok k d _ j
 cases o1 with
 | o0 l =>
  (try dsimp only at a)
  (try simp only [NM,EE,R53.st] at b)
  obtain ⟨o5,m,a⟩:=bs a
  have c:=f87_l1_ok k k e (IntKind.i64.wrap (f - (1:Int))) l d _ m
  simp only [W,simprocAttr,sr 87 0 B87 [] rfl rfl rfl,sr 87 1 B87 [2] rfl rfl rfl,callStep,CL,gv,List.contains,xk B87 [2,2] .sq rfl,sr 87 2 B87 [1,2,2] rfl rfl rfl,xk B87 [2,1,2,2] (.bk 0) rfl,xk B87 [2,2,1,2,2] .lp rfl,hh_87_3,hc_87_3,b]
  (try simp only [NM,EE] at c)
  rw [c _ (by simp only [W,simprocAttr,hh_87_3,hc_87_3,b])]
  clear c
  cases o5 with
  | o0 _ _ _ _ =>
   (try dsimp only at a)
   cases a
  | o1 o p g h i =>
   (try dsimp only at a)
   have hJ:=f87_j2_ok k o p g h i _ a
   simp only [W,simprocAttr,R87_l1.st,b]
   try simp only [NM,EE] at hJ
   exact hJ
noncomputable def f87 (k:Nat) (a b:Int) (c:List Int):Option R87:=match k with | 0=>none | k+1=>f87_e k a b c
theorem f87_ok (k a b d r) (e:f87 k a b d=some r):CV k 87 [.own 1000000,jL a,jI b] [.row true 1 5 (rowsOf (encI .u8) d)]=some r.st:=by
 cases k with
 | zero=>cases e
 | succ k =>
  unfold CV
  rw [ev_call (F:=Tryd.f87) (c:=(nav B87 [])) rfl Tryd.func87 rfl rfl rfl rfl]
  exact f87_e_ok k a b d r e
-- f83: f83 heliograph/octet.Put16
inductive R83 where
 | o0 (y a:List Int)
noncomputable def R83.st:R83→V×List O×List O
 | .o0 y a=>(.own 2000000,[.row false 1 5 (rowsOf (encI .u8) y)],[.row true 1 5 (rowsOf (encI .u8) a)])
noncomputable def f83_e (k:Nat) (a:Int) (b:List Int):Option R83 :=
 Option.bind (f87 k (IntKind.u64.wrap a) 2 b) fun o1 =>
  match o1 with
  | .o0 c d =>
   some (.o0 c d)
theorem f83_e_ok (k c d r) (a:f83_e k c d=some r):finK Tryd.prog Tryd.f83 1 (EX 83 k (nav B83 []) (⟨9,[(0,.own 1000000),(1,.p (.int .u16 c))],[(1000000,.row true 1 5 (rowsOf (encI .u8) d))]⟩:St))=some r.st:=by
 unfold f83_e at a
 obtain ⟨o1,e,a⟩:=bs a
 have b:=f87_ok k (IntKind.u64.wrap c) 2 d _ e
 cases o1 with
 | o0 f g =>
  (try dsimp only at a)
  (try simp only [NM,EE,R87.st] at b)
  cases a
  simp only [W,simprocAttr,sr 83 0 B83 [] rfl rfl rfl,sr 83 1 B83 [2] rfl rfl rfl,t_125,t_110,convV,callStep,CL,gv,List.contains,xk B83 [2,2] .rt rfl,fin83,R83.st,b]
noncomputable def f83 (k:Nat) (a:Int) (b:List Int):Option R83:=match k with | 0=>none | k+1=>f83_e k a b
theorem f83_ok (k a b r) (d:f83 k a b=some r):CV k 83 [.own 1000000,.p (.int .u16 a)] [.row true 1 5 (rowsOf (encI .u8) b)]=some r.st:=by
 cases k with
 | zero=>cases d
 | succ k =>
  unfold CV
  rw [ev_call (F:=Tryd.f83) (c:=(nav B83 [])) rfl Tryd.func83 rfl rfl rfl rfl]
  exact f83_e_ok k a b r d
-- f84: f84 heliograph/octet.Put32
inductive R84 where
 | o0 (y a:List Int)
noncomputable def R84.st:R84→V×List O×List O
 | .o0 y a=>(.own 2000000,[.row false 1 5 (rowsOf (encI .u8) y)],[.row true 1 5 (rowsOf (encI .u8) a)])
noncomputable def f84_e (k:Nat) (a:Int) (b:List Int):Option R84 :=
 Option.bind (f87 k (IntKind.u64.wrap a) 4 b) fun o1 =>
  match o1 with
  | .o0 c d =>
   some (.o0 c d)
theorem f84_e_ok (k c d r) (a:f84_e k c d=some r):finK Tryd.prog Tryd.f84 1 (EX 84 k (nav B84 []) (⟨9,[(0,.own 1000000),(1,jU c)],[(1000000,.row true 1 5 (rowsOf (encI .u8) d))]⟩:St))=some r.st:=by
 unfold f84_e at a
 obtain ⟨o1,e,a⟩:=bs a
 have b:=f87_ok k (IntKind.u64.wrap c) 4 d _ e
 cases o1 with
 | o0 f g =>
  (try dsimp only at a)
  (try simp only [NM,EE,R87.st] at b)
  cases a
  simp only [W,simprocAttr,sr 84 0 B84 [] rfl rfl rfl,sr 84 1 B84 [2] rfl rfl rfl,t_42,t_110,convV,callStep,CL,gv,List.contains,xk B84 [2,2] .rt rfl,fin84,R84.st,b]
noncomputable def f84 (k:Nat) (a:Int) (b:List Int):Option R84:=match k with | 0=>none | k+1=>f84_e k a b
theorem f84_ok (k a b r) (d:f84 k a b=some r):CV k 84 [.own 1000000,jU a] [.row true 1 5 (rowsOf (encI .u8) b)]=some r.st:=by
 cases k with
 | zero=>cases d
 | succ k =>
  unfold CV
  rw [ev_call (F:=Tryd.f84) (c:=(nav B84 [])) rfl Tryd.func84 rfl rfl rfl rfl]
  exact f84_e_ok k a b r d
-- f85: f85 heliograph/octet.Put64
inductive R85 where
 | o0 (y a:List Int)
noncomputable def R85.st:R85→V×List O×List O
 | .o0 y a=>(.own 2000000,[.row false 1 5 (rowsOf (encI .u8) y)],[.row true 1 5 (rowsOf (encI .u8) a)])
noncomputable def f85_e (k:Nat) (a:Int) (b:List Int):Option R85 :=
 Option.bind (f87 k a 8 b) fun o1 =>
  match o1 with
  | .o0 c d =>
   some (.o0 c d)
theorem f85_e_ok (k c d r) (a:f85_e k c d=some r):finK Tryd.prog Tryd.f85 1 (EX 85 k (nav B85 []) (⟨8,[(0,.own 1000000),(1,jL c)],[(1000000,.row true 1 5 (rowsOf (encI .u8) d))]⟩:St))=some r.st:=by
 unfold f85_e at a
 obtain ⟨o1,e,a⟩:=bs a
 have b:=f87_ok k c 8 d _ e
 cases o1 with
 | o0 f g =>
  (try dsimp only at a)
  (try simp only [NM,EE,R87.st] at b)
  cases a
  simp only [W,simprocAttr,sr 85 0 B85 [] rfl rfl rfl,sr 85 1 B85 [2] rfl rfl rfl,callStep,CL,gv,List.contains,xk B85 [2,2] .rt rfl,fin85,R85.st,b]
noncomputable def f85 (k:Nat) (a:Int) (b:List Int):Option R85:=match k with | 0=>none | k+1=>f85_e k a b
theorem f85_ok (k a b r) (d:f85 k a b=some r):CV k 85 [.own 1000000,jL a] [.row true 1 5 (rowsOf (encI .u8) b)]=some r.st:=by
 cases k with
 | zero=>cases d
 | succ k =>
  unfold CV
  rw [ev_call (F:=Tryd.f85) (c:=(nav B85 [])) rfl Tryd.func85 rfl rfl rfl rfl]
  exact f85_e_ok k a b r d
-- f77: f77 heliograph/cbor.head
inductive R77 where
 | o0 (y:List Int)
noncomputable def R77.st:R77→V×List O×List O
 | .o0 y=>(.own 2000000,[.dead],[.row true 1 5 (rowsOf (encI .u8) y)])
noncomputable def f77_j1 (k:Nat) (b c:Int) (d:Bool) (a:List Int):Option R77 :=
 ifE (((List.length a)+1)≤roomy) (
  Option.bind (f85 k c ((a++([(IntKind.u8.wrap ((BitVec.ofInt (IntKind.bits .u8) b ||| BitVec.ofInt (IntKind.bits .u8) (27:Int)).toNat:Nat))]:List Int)))) fun o4 =>
   match o4 with
   | .o0 f e =>
    some (.o0 e))
theorem f77_j1_ok (k a e c f r) (b:f77_j1 k a e c f=some r):finK Tryd.prog Tryd.f77 1 (EX 77 k (nav B77 [2,2,2]) (⟨58,[(0,.own 1000000),(1,.p (.int .u8 a)),(2,jL e),(40,jT c)],[(1000000,.row true 1 5 (rowsOf (encI .u8) f))]⟩:St))=some r.st:=by
 unfold f77_j1 at b
 have g:[[.p (.int .u8 (IntKind.u8.wrap ((BitVec.ofInt (IntKind.bits .u8) a ||| BitVec.ofInt (IntKind.bits .u8) (27:Int)).toNat:Nat)))]]=rowsOf (encI .u8) ([(IntKind.u8.wrap ((BitVec.ofInt (IntKind.bits .u8) a ||| BitVec.ofInt (IntKind.bits .u8) (27:Int)).toNat:Nat))]:List Int):=rfl
 have h:List.map (tell [0]) (rowsOf (encI .u8) ([(IntKind.u8.wrap ((BitVec.ofInt (IntKind.bits .u8) a ||| BitVec.ofInt (IntKind.bits .u8) (27:Int)).toNat:Nat))]:List Int))=rowsOf (encI .u8) ([(IntKind.u8.wrap ((BitVec.ofInt (IntKind.bits .u8) a ||| BitVec.ofInt (IntKind.bits .u8) (27:Int)).toNat:Nat))]:List Int):=rfl
 obtain ⟨i,b⟩:=ifE_some.1 b
 obtain ⟨o4,j,b⟩:=bs b
 have d:=f85_ok k e ((f++([(IntKind.u8.wrap ((BitVec.ofInt (IntKind.bits .u8) a ||| BitVec.ofInt (IntKind.bits .u8) (27:Int)).toNat:Nat))]:List Int))) _ j
 cases o4 with
 | o0 l m =>
  (try dsimp only at b)
  (try simp only [NM,EE,R85.st] at d)
  cases b
  simp only [W,simprocAttr,sr 77 10 B77 [2,2,2] rfl rfl rfl,buildSliceV,fillRows,sm_5,t_45,t_5,appendV,content,callStep,CL,gv,List.contains,xk B77 [2,2,2,2] .rt rfl,fin77,R77.st,g,h,i,d]
noncomputable def f77_e (k:Nat) (c a:Int) (b:List Int):Option R77 :=
 cond ((decide (a<24)))
  (
   ifE (((List.length b)+1)≤roomy) (
    some (.o0 ((b++([(IntKind.u8.wrap ((BitVec.ofInt (IntKind.bits .u8) (IntKind.u8.wrap (c * 2 ^ (min 5 (IntKind.bits .u8)))) ||| BitVec.ofInt (IntKind.bits .u8) (IntKind.u8.wrap a)).toNat:Nat))]:List Int))))))
  (
   cond ((decide (a<256)))
    (
     ifE (((List.length b)+2)≤roomy) (
      some (.o0 ((b++([(IntKind.u8.wrap ((BitVec.ofInt (IntKind.bits .u8) (IntKind.u8.wrap (c * 2 ^ (min 5 (IntKind.bits .u8)))) ||| BitVec.ofInt (IntKind.bits .u8) (24:Int)).toNat:Nat)),(IntKind.u8.wrap a)]:List Int))))))
    (
     cond ((decide (a<65536)))
      (
       ifE (((List.length b)+1)≤roomy) (
        Option.bind (f83 k (IntKind.u16.wrap a) ((b++([(IntKind.u8.wrap ((BitVec.ofInt (IntKind.bits .u8) (IntKind.u8.wrap (c * 2 ^ (min 5 (IntKind.bits .u8)))) ||| BitVec.ofInt (IntKind.bits .u8) (25:Int)).toNat:Nat))]:List Int)))) fun o13 =>
         match o13 with
         | .o0 f d =>
          some (.o0 d)))
      (
       cond ((decide (a<4294967296)))
        (
         ifE (((List.length b)+1)≤roomy) (
          Option.bind (f84 k (IntKind.u32.wrap a) ((b++([(IntKind.u8.wrap ((BitVec.ofInt (IntKind.bits .u8) (IntKind.u8.wrap (c * 2 ^ (min 5 (IntKind.bits .u8)))) ||| BitVec.ofInt (IntKind.bits .u8) (26:Int)).toNat:Nat))]:List Int)))) fun o22 =>
           match o22 with
           | .o0 g e =>
            some (.o0 e)))
        (f77_j1 k (IntKind.u8.wrap (c * 2 ^ (min 5 (IntKind.bits .u8)))) a false b))))
theorem f77_e_ok (k b c i r) (a:f77_e k b c i=some r):finK Tryd.prog Tryd.f77 1 (EX 77 k (nav B77 []) (⟨58,[(0,.own 1000000),(1,.p (.int .u8 b)),(2,jL c)],[(1000000,.row true 1 5 (rowsOf (encI .u8) i))]⟩:St))=some r.st:=by
 unfold f77_e at a
 simp only [W,simprocAttr,sr 77 0 B77 [] rfl rfl rfl,sr 77 1 B77 [2] rfl rfl rfl,shiftV,xk B77 [2,2] .sq rfl,xk B77 [1,2,2] (.bk 0) rfl,sr 77 2 B77 [2,1,2,2] rfl rfl rfl,xk B77 [2,2,1,2,2] (.cd 9) rfl]
 rcases cond_some a with ⟨d,a⟩ | ⟨d,a⟩
 ·have v:[[.p (.int .u8 (IntKind.u8.wrap ((BitVec.ofInt (IntKind.bits .u8) (IntKind.u8.wrap (b * 2 ^ (min 5 (IntKind.bits .u8)))) ||| BitVec.ofInt (IntKind.bits .u8) (IntKind.u8.wrap c)).toNat:Nat)))]]=rowsOf (encI .u8) ([(IntKind.u8.wrap ((BitVec.ofInt (IntKind.bits .u8) (IntKind.u8.wrap (b * 2 ^ (min 5 (IntKind.bits .u8)))) ||| BitVec.ofInt (IntKind.bits .u8) (IntKind.u8.wrap c)).toNat:Nat))]:List Int):=rfl
  have w:List.map (tell [0]) (rowsOf (encI .u8) ([(IntKind.u8.wrap ((BitVec.ofInt (IntKind.bits .u8) (IntKind.u8.wrap (b * 2 ^ (min 5 (IntKind.bits .u8)))) ||| BitVec.ofInt (IntKind.bits .u8) (IntKind.u8.wrap c)).toNat:Nat))]:List Int))=rowsOf (encI .u8) ([(IntKind.u8.wrap ((BitVec.ofInt (IntKind.bits .u8) (IntKind.u8.wrap (b * 2 ^ (min 5 (IntKind.bits .u8)))) ||| BitVec.ofInt (IntKind.bits .u8) (IntKind.u8.wrap c)).toNat:Nat))]:List Int):=rfl
  obtain ⟨x,a⟩:=ifE_some.1 a
  cases a
  simp only [W,simprocAttr,sr 77 3 B77 [2,2,2,1,2,2] rfl rfl rfl,t_110,t_5,convV,buildSliceV,fillRows,sm_5,t_45,appendV,content,xk B77 [2,2,2,2,1,2,2] .rt rfl,fin77,R77.st,d,v,w,x]
 ·simp only [W,simprocAttr,sr 77 4 B77 [3,2,2,1,2,2] rfl rfl rfl,xk B77 [2,3,2,2,1,2,2] (.cd 19) rfl,d]
  rcases cond_some a with ⟨g,a⟩ | ⟨g,a⟩
  ·have y:[[.p (.int .u8 (IntKind.u8.wrap ((BitVec.ofInt (IntKind.bits .u8) (IntKind.u8.wrap (b * 2 ^ (min 5 (IntKind.bits .u8)))) ||| BitVec.ofInt (IntKind.bits .u8) (24:Int)).toNat:Nat)))],[.p (.int .u8 (IntKind.u8.wrap c))]]=rowsOf (encI .u8) ([(IntKind.u8.wrap ((BitVec.ofInt (IntKind.bits .u8) (IntKind.u8.wrap (b * 2 ^ (min 5 (IntKind.bits .u8)))) ||| BitVec.ofInt (IntKind.bits .u8) (24:Int)).toNat:Nat)),(IntKind.u8.wrap c)]:List Int):=rfl
   have z:List.map (tell [0]) (rowsOf (encI .u8) ([(IntKind.u8.wrap ((BitVec.ofInt (IntKind.bits .u8) (IntKind.u8.wrap (b * 2 ^ (min 5 (IntKind.bits .u8)))) ||| BitVec.ofInt (IntKind.bits .u8) (24:Int)).toNat:Nat)),(IntKind.u8.wrap c)]:List Int))=rowsOf (encI .u8) ([(IntKind.u8.wrap ((BitVec.ofInt (IntKind.bits .u8) (IntKind.u8.wrap (b * 2 ^ (min 5 (IntKind.bits .u8)))) ||| BitVec.ofInt (IntKind.bits .u8) (24:Int)).toNat:Nat)),(IntKind.u8.wrap c)]:List Int):=rfl
   obtain ⟨n,a⟩:=ifE_some.1 a
   cases a
   simp only [W,simprocAttr,sr 77 5 B77 [2,2,3,2,2,1,2,2] rfl rfl rfl,t_110,t_5,convV,buildSliceV,fillRows,sm_5,t_45,appendV,content,xk B77 [2,2,2,3,2,2,1,2,2] .rt rfl,fin77,R77.st,d,g,y,z,n]
  ·simp only [W,simprocAttr,sr 77 6 B77 [3,2,3,2,2,1,2,2] rfl rfl rfl,xk B77 [2,3,2,3,2,2,1,2,2] (.cd 29) rfl,d,g]
   rcases cond_some a with ⟨j,a⟩ | ⟨j,a⟩
   ·have l:[[.p (.int .u8 (IntKind.u8.wrap ((BitVec.ofInt (IntKind.bits .u8) (IntKind.u8.wrap (b * 2 ^ (min 5 (IntKind.bits .u8)))) ||| BitVec.ofInt (IntKind.bits .u8) (25:Int)).toNat:Nat)))]]=rowsOf (encI .u8) ([(IntKind.u8.wrap ((BitVec.ofInt (IntKind.bits .u8) (IntKind.u8.wrap (b * 2 ^ (min 5 (IntKind.bits .u8)))) ||| BitVec.ofInt (IntKind.bits .u8) (25:Int)).toNat:Nat))]:List Int):=rfl
    have m:List.map (tell [0]) (rowsOf (encI .u8) ([(IntKind.u8.wrap ((BitVec.ofInt (IntKind.bits .u8) (IntKind.u8.wrap (b * 2 ^ (min 5 (IntKind.bits .u8)))) ||| BitVec.ofInt (IntKind.bits .u8) (25:Int)).toNat:Nat))]:List Int))=rowsOf (encI .u8) ([(IntKind.u8.wrap ((BitVec.ofInt (IntKind.bits .u8) (IntKind.u8.wrap (b * 2 ^ (min 5 (IntKind.bits .u8)))) ||| BitVec.ofInt (IntKind.bits .u8) (25:Int)).toNat:Nat))]:List Int):=rfl
    obtain ⟨o,a⟩:=ifE_some.1 a
    obtain ⟨o13,p,a⟩:=bs a
    have e:=f83_ok k (IntKind.u16.wrap c) ((i++([(IntKind.u8.wrap ((BitVec.ofInt (IntKind.bits .u8) (IntKind.u8.wrap (b * 2 ^ (min 5 (IntKind.bits .u8)))) ||| BitVec.ofInt (IntKind.bits .u8) (25:Int)).toNat:Nat))]:List Int))) _ p
    cases o13 with
    | o0 aa ab =>
     (try dsimp only at a)
     (try simp only [NM,EE,R83.st] at e)
     cases a
     simp only [W,simprocAttr,sr 77 7 B77 [2,2,3,2,3,2,2,1,2,2] rfl rfl rfl,buildSliceV,fillRows,sm_5,t_45,t_5,appendV,content,t_110,t_125,convV,callStep,CL,gv,List.contains,xk B77 [2,2,2,3,2,3,2,2,1,2,2] .rt rfl,fin77,R77.st,d,g,j,l,m,o,e]
   ·simp only [W,simprocAttr,sr 77 8 B77 [3,2,3,2,3,2,2,1,2,2] rfl rfl rfl,xk B77 [2,3,2,3,2,3,2,2,1,2,2] (.cd 40) rfl,d,g,j]
    rcases cond_some a with ⟨h,a⟩ | ⟨h,a⟩
    ·have q:[[.p (.int .u8 (IntKind.u8.wrap ((BitVec.ofInt (IntKind.bits .u8) (IntKind.u8.wrap (b * 2 ^ (min 5 (IntKind.bits .u8)))) ||| BitVec.ofInt (IntKind.bits .u8) (26:Int)).toNat:Nat)))]]=rowsOf (encI .u8) ([(IntKind.u8.wrap ((BitVec.ofInt (IntKind.bits .u8) (IntKind.u8.wrap (b * 2 ^ (min 5 (IntKind.bits .u8)))) ||| BitVec.ofInt (IntKind.bits .u8) (26:Int)).toNat:Nat))]:List Int):=rfl
     have s:List.map (tell [0]) (rowsOf (encI .u8) ([(IntKind.u8.wrap ((BitVec.ofInt (IntKind.bits .u8) (IntKind.u8.wrap (b * 2 ^ (min 5 (IntKind.bits .u8)))) ||| BitVec.ofInt (IntKind.bits .u8) (26:Int)).toNat:Nat))]:List Int))=rowsOf (encI .u8) ([(IntKind.u8.wrap ((BitVec.ofInt (IntKind.bits .u8) (IntKind.u8.wrap (b * 2 ^ (min 5 (IntKind.bits .u8)))) ||| BitVec.ofInt (IntKind.bits .u8) (26:Int)).toNat:Nat))]:List Int):=rfl
     obtain ⟨t,a⟩:=ifE_some.1 a
     obtain ⟨o22,u,a⟩:=bs a
     have f:=f84_ok k (IntKind.u32.wrap c) ((i++([(IntKind.u8.wrap ((BitVec.ofInt (IntKind.bits .u8) (IntKind.u8.wrap (b * 2 ^ (min 5 (IntKind.bits .u8)))) ||| BitVec.ofInt (IntKind.bits .u8) (26:Int)).toNat:Nat))]:List Int))) _ u
     cases o22 with
     | o0 ac ad =>
      (try dsimp only at a)
      (try simp only [NM,EE,R84.st] at f)
      cases a
      simp only [W,simprocAttr,sr 77 9 B77 [2,2,3,2,3,2,3,2,2,1,2,2] rfl rfl rfl,buildSliceV,fillRows,sm_5,t_45,t_5,appendV,content,t_110,t_42,convV,callStep,CL,gv,List.contains,xk B77 [2,2,2,3,2,3,2,3,2,2,1,2,2] .rt rfl,fin77,R77.st,d,g,j,h,q,s,t,f]
    ·have hJ:=f77_j1_ok k (IntKind.u8.wrap (b * 2 ^ (min 5 (IntKind.bits .u8)))) c false i _ a
     simp only [W,simprocAttr,xk B77 [3,2,3,2,3,2,3,2,2,1,2,2] .sk rfl,d,g,j,h]
     try simp only [NM,EE] at hJ
     exact hJ
noncomputable def f77 (k:Nat) (a b:Int) (c:List Int):Option R77:=match k with | 0=>none | k+1=>f77_e k a b c
theorem f77_ok (k a b d r) (e:f77 k a b d=some r):CV k 77 [.own 1000000,.p (.int .u8 a),jL b] [.row true 1 5 (rowsOf (encI .u8) d)]=some r.st:=by
 cases k with
 | zero=>cases e
 | succ k =>
  unfold CV
  rw [ev_call (F:=Tryd.f77) (c:=(nav B77 [])) rfl Tryd.func77 rfl rfl rfl rfl]
  exact f77_e_ok k a b d r e
-- f69b: f69 heliograph/cbor.put
inductive R69b where
 | o0 (y:List Int)
noncomputable def R69b.st:R69b→V×List O×List O
 | .o0 y=>(.own 2000000,[.dead],[.row true 1 5 (rowsOf (encI .u8) y)])
inductive R69b_l1 where
 | o0 (y:List T113) (a b:Int) (c:List Int)
 | o1 (y:List T113) (a b:Int) (c:Bool) (d:List Int)
noncomputable def R69b_l1.st:R69b_l1→Out×St
 | .o0 y a b c=>(.norm,(⟨51,[(0,.own 38),(30,.sl 4 (rowsOf encT113 y)),(31,jI a),(32,jI b)],[(38,.row true 1 5 (rowsOf (encI .u8) c)),(1000000,.dead)]⟩:St))
 | .o1 y a b c d=>(.exit 1,(⟨51,[(0,.own 30000),(30,.sl 4 (rowsOf encT113 y)),(31,jI a),(32,jI b),(33,jT c)],[(30000,.row true 1 5 (rowsOf (encI .u8) d)),(1000000,.dead)]⟩:St))
abbrev Ff69_oaiirrz_w:=Int→Int→(List Int)→(List T113)→(List Int)→Option R69b
noncomputable def f69b_l1_j2 (k:Nat) (Q:Ff69_oaiirrz_w) (a:List T113) (b c:Int) (d:List Int):Option R69b_l1 :=
 some (.o0 a b (IntKind.i64.wrap (c+(1:Int))) d)
def If69_oaiirrz_w (k:Nat) (Q:Ff69_oaiirrz_w):Prop:=∀ (h a:Int) (b:List Int) (c:List T113) (i:List Int) (r:R69b),Q h a b c i=some r→CV k 69 [.own 1000000,.agg [jI h,jL a,jB b,.sl 4 (rowsOf encT113 c)]] [.row true 1 5 (rowsOf (encI .u8) i)]=some r.st
theorem f69b_l1_j2_ok (k Q) (H:If69_oaiirrz_w k Q) (d e f g r) (j:f69b_l1_j2 k Q d e f g=some r):EX 69 k (nav B69 [2,2,2,1,2,2,1,2,2,2,3,2,2,2,1,2,2]) (⟨51,[(0,.own 38),(30,.sl 4 (rowsOf encT113 d)),(31,jI e),(32,jI f)],[(38,.row true 1 5 (rowsOf (encI .u8) g)),(1000000,.dead)]⟩:St)=some r.st:=by
 unfold f69b_l1_j2 at j
 cases j
 simp only [W,simprocAttr,rg B69 [2,2,2,1,2,2,1,2,2,2,3,2,2,2,1,2,2] 11 false rfl,hr 69 11 rfl,R69b_l1.st]
noncomputable def f69b_l1_j1 (k:Nat) (Q:Ff69_oaiirrz_w) (b:List T113) (d a:Int) (f:Bool) (e:List Int):Option R69b_l1 :=
 ifE ((0:Int)≤a) (
  Option.bind (b[(Int.toNat a)]?) fun c =>
   Option.bind (Q c.Kind c.Num c.Bytes c.Items e) fun o4 =>
    match o4 with
    | .o0 g =>
     f69b_l1_j2 k Q b d a g)
theorem f69b_l1_j1_ok (k Q) (H:If69_oaiirrz_w k Q) (e f g i h r) (a:f69b_l1_j1 k Q e f g i h=some r):EX 69 k (nav B69 [2,2,1,2,2,1,2,2,2,3,2,2,2,1,2,2]) (⟨51,[(0,.own 30000),(30,.sl 4 (rowsOf encT113 e)),(31,jI f),(32,jI g),(33,jT i)],[(30000,.row true 1 5 (rowsOf (encI .u8) h)),(1000000,.dead)]⟩:St)=some r.st:=by
 unfold f69b_l1_j1 at a
 obtain ⟨p,a⟩:=ifE_some.1 a
 obtain ⟨l,q,a⟩:=bs a
 obtain ⟨o4,s,a⟩:=bs a
 have j:=H l.Kind l.Num l.Bytes l.Items h _ s
 cases o4 with
 | o0 t =>
  (try dsimp only at a)
  (try simp only [NM,EE,R69b.st] at j)
  have hJ:=f69b_l1_j2_ok k Q H e f g t _ a
  simp only [W,simprocAttr,xk B69 [2,2,1,2,2,1,2,2,2,3,2,2,2,1,2,2] .sq rfl,xk B69 [1,2,2,1,2,2,1,2,2,2,3,2,2,2,1,2,2] (.bk 2) rfl,sr 69 9 B69 [2,1,2,2,1,2,2,1,2,2,2,3,2,2,2,1,2,2] rfl rfl rfl,indexAddrV,t_111,t_113,encT113_eq,rg B69 [2,2,1,2,2,1,2,2,1,2,2,2,3,2,2,2,1,2,2] 10 false rfl,hr 69 10 rfl,callStep,CL,gv,List.contains,p,q,j]
  try simp only [NM,EE] at hJ
  exact hJ
noncomputable def f69b_l1_b (k:Nat) (Q:Ff69_oaiirrz_w) (c:List T113) (a b:Int) (d:List Int):Option R69b_l1 :=
 cond ((decide (b<a)))
  (f69b_l1_j1 k Q c a b true d)
  (some (.o1 c a b false d))
theorem f69b_l1_b_ok (k Q) (H:If69_oaiirrz_w k Q) (d e f g r) (h:f69b_l1_b k Q d e f g=some r):EX 69 k (nav B69 [1,2,2,1,2,2,2,3,2,2,2,1,2,2]) (⟨51,[(0,.own 30000),(30,.sl 4 (rowsOf encT113 d)),(31,jI e),(32,jI f)],[(30000,.row true 1 5 (rowsOf (encI .u8) g)),(1000000,.dead)]⟩:St)=some r.st:=by
 unfold f69b_l1_b at h
 simp only [W,simprocAttr,sr 69 8 B69 [1,2,2,1,2,2,2,3,2,2,2,1,2,2] rfl rfl rfl,xk B69 [2,1,2,2,1,2,2,2,3,2,2,2,1,2,2] .sq rfl,xk B69 [1,2,1,2,2,1,2,2,2,3,2,2,2,1,2,2] (.cd 33) rfl]
 rcases cond_some h with ⟨i,h⟩ | ⟨i,h⟩
 ·have hJ:=f69b_l1_j1_ok k Q H d e f true g _ h
  simp only [W,simprocAttr,xk B69 [2,1,2,1,2,2,1,2,2,2,3,2,2,2,1,2,2] .sk rfl,i]
  try simp only [NM,EE] at hJ
  exact hJ
 ·cases h
  simp only [W,simprocAttr,xk B69 [3,1,2,1,2,2,1,2,2,2,3,2,2,2,1,2,2] (.ex 1) rfl,R69b_l1.st,i]
noncomputable def f69b_l1 (k:Nat) (Q:Ff69_oaiirrz_w):Nat→(List T113)→Int→Int→(List Int)→Option R69b_l1
 | 0,_,_,_,_=>none
 | n+1,d,e,f,g=>Option.bind (f69b_l1_b k Q d e f g) fun o =>
  match o with
  | .o0 y a b c=>f69b_l1 k Q n y a b c
  | .o1 y a b c h=>some (.o1 y a b c h)
theorem f69b_l1_ok (k:Nat) (Q:Ff69_oaiirrz_w) (H:If69_oaiirrz_w k Q) (n:Nat):∀ (a:List T113) (b c:Int) (d:List Int) (r:R69b_l1) (i:f69b_l1 k Q n a b c d=some r) (σ:St) (hσ:headR (hints.head 69 8) (hints.canon 69 8) σ=some (⟨51,[(0,.own 30000),(30,.sl 4 (rowsOf encT113 a)),(31,jI b),(32,jI c)],[(30000,.row true 1 5 (rowsOf (encI .u8) d)),(1000000,.dead)]⟩:St)),LP 69 k (nav B69 [1,2,2,1,2,2,2,3,2,2,2,1,2,2]) n σ=some r.st:=by
 induction n with
 | zero=>intro a b c d r i;cases i
 | succ n s =>
  intro a b c d r i σ hσ
  rw [f69b_l1] at i
  obtain ⟨o,h,i⟩:=Option.bind_eq_some_iff.1 i
  have hB:=f69b_l1_b_ok k Q H a b c d o h
  unfold LP at s ⊢
  unfold EX at hB
  rw [loopK_succ,show firstReg (nav B69 [1,2,2,1,2,2,2,3,2,2,2,1,2,2])=8 from rfl,hσ,headK_some,hB]
  cases o with
  | o0 y j l m =>
   refine s y j l m r i _ ?_
   simp only [W,simprocAttr,hh_69_8,hc_69_8]
  | o1 y j l m t=>cases i;rfl
noncomputable def f69b_j2 (k:Nat) (Q:Ff69_oaiirrz_w) (b:List T113) (c d:Int) (e:Bool) (a:List Int):Option R69b :=
 some (.o0 a)
theorem f69b_j2_ok (k Q) (H:If69_oaiirrz_w k Q) (d e f g h r) (l:f69b_j2 k Q d e f g h=some r):finK Tryd.prog Tryd.f69 1 (SQ 69 k (nav B69 [2,2,2]) (blockK 0 (EX 69 k (nav B69 [2,2,2,2,3,2,2,2,1,2,2]) (⟨51,[(0,.own 30000),(30,.sl 4 (rowsOf encT113 d)),(31,jI e),(32,jI f),(33,jT g)],[(30000,.row true 1 5 (rowsOf (encI .u8) h)),(1000000,.dead)]⟩:St))))=some r.st:=by
 unfold f69b_j2 at l
 cases l
 simp only [W,simprocAttr,sr 69 12 B69 [2,2,2,2,3,2,2,2,1,2,2] rfl rfl rfl,xk B69 [2,2,2,2,2,3,2,2,2,1,2,2] .rt rfl,fin69,R69b.st]
noncomputable def f69b_j3 (k:Nat) (Q:Ff69_oaiirrz_w) (e:Int) (f:Bool) (g:List Int) (h b:Int) (a:List Int) (c:List T113):Option R69b :=
 Option.bind (f77 k e (IntKind.u64.wrap ((List.length a):Int)) g) fun o1 =>
  match o1 with
  | .o0 d =>
   ifE (((List.length d)+(List.length a))≤roomy) (
    some (.o0 (d++a)))
theorem f69b_j3_ok (k Q) (H:If69_oaiirrz_w k Q) (l i h o e a f r) (g:f69b_j3 k Q l i h o e a f=some r):finK Tryd.prog Tryd.f69 1 (EX 69 k (nav B69 [2,2,2]) (⟨51,[(0,.own 1000000),(3,.ptr 3 0),(5,.p (.int .u8 l)),(20,jT i)],[(1000000,.row true 1 5 (rowsOf (encI .u8) h)),(3,.box 113 [jI o,jL e,jB a,.sl 4 (rowsOf encT113 f)])]⟩:St))=some r.st:=by
 unfold f69b_j3 at g
 obtain ⟨o1,p,g⟩:=bs g
 have j:=f77_ok k l (IntKind.u64.wrap ((List.length a):Int)) h _ p
 cases o1 with
 | o0 s =>
  (try dsimp only at g)
  (try simp only [NM,EE,R77.st] at j)
  obtain ⟨q,g⟩:=ifE_some.1 g
  cases g
  simp (disch:=first|decide|apply K;kernel_rfl) only [W,simprocAttr,xk B69 [2,2,2] .sq rfl,rg B69 [1,2,2,2] 13 true rfl,hr 69 13 rfl,fieldAddrV,t_113,t_45,t_3,t_110,convV,callStep,CL,gv,List.contains,appendV,content,t_5,xk B69 [2,2,2,2] .rt rfl,fin69,R69b.st,j,q]
noncomputable def f69b_e (k:Nat) (Q:Ff69_oaiirrz_w) (d b:Int) (c:List Int) (a:List T113) (e:List Int):Option R69b :=
 Option.bind (f76 k d) fun o1 =>
  match o1 with
  | .o0 f =>
   cond ((d==1))
    (
     Option.bind (f77 k f b e) fun o6 =>
      match o6 with
      | .o0 o =>
       some (.o0 o))
    (
     cond ((d==4))
      (
       Option.bind (f77 k f (IntKind.u64.wrap ((List.length a):Int)) e) fun o11 =>
        match o11 with
        | .o0 g =>
         Option.bind (f69b_l1 k Q k a ((List.length a):Int) 0 g) fun o15 =>
          match o15 with
          | .o0 _ _ _ _ =>
           none
          | .o1 h i j l m =>
           f69b_j2 k Q h i j l m)
      (f69b_j3 k Q f false e d b c a))
theorem f69b_e_ok (k Q) (H:If69_oaiirrz_w k Q) (j c d a i r) (b:f69b_e k Q j c d a i=some r):finK Tryd.prog Tryd.f69 1 (EX 69 k (nav B69 []) (⟨51,[(0,.own 1000000),(1,.agg [jI j,jL c,jB d,.sl 4 (rowsOf encT113 a)])],[(1000000,.row true 1 5 (rowsOf (encI .u8) i))]⟩:St))=some r.st:=by
 unfold f69b_e at b
 obtain ⟨o1,y,b⟩:=bs b
 have e:=f76_ok k j _ y
 cases o1 with
 | o0 o =>
  (try dsimp only at b)
  (try simp only [NM,EE,R76.st] at e)
  simp only [W,simprocAttr,xk B69 [] .sq rfl,rg B69 [1] 0 false rfl,hr_69_0,sr 69 1 B69 [2] rfl rfl rfl,fieldAddrV,t_113,t_3,callStep,CL,gv,List.contains,xk B69 [2,2] .sq rfl,sr 69 2 B69 [1,2,2] rfl rfl rfl,xk B69 [2,1,2,2] (.bk 0) rfl,sr 69 3 B69 [2,2,1,2,2] rfl rfl rfl,xk B69 [2,2,2,1,2,2] (.cd 13) rfl,e]
  rcases cond_some b with ⟨l,b⟩ | ⟨l,b⟩
  ·obtain ⟨o6,z,b⟩:=bs b
   have m:=f77_ok k o c i _ z
   cases o6 with
   | o0 n =>
    (try dsimp only at b)
    (try simp only [NM,EE,R77.st] at m)
    cases b
    simp only [W,simprocAttr,sr 69 4 B69 [2,2,2,2,1,2,2] rfl rfl rfl,fieldAddrV,t_113,t_110,callStep,CL,gv,List.contains,xk B69 [2,2,2,2,2,1,2,2] .rt rfl,fin69,R69b.st,e,l,m]
  ·simp only [W,simprocAttr,sr 69 5 B69 [3,2,2,2,1,2,2] rfl rfl rfl,xk B69 [2,3,2,2,2,1,2,2] (.cd 20) rfl,e,l]
   rcases cond_some b with ⟨g,b⟩ | ⟨g,b⟩
   ·obtain ⟨o11,p,b⟩:=bs b
    have f:=f77_ok k o (IntKind.u64.wrap ((List.length a):Int)) i _ p
    cases o11 with
    | o0 q =>
     (try dsimp only at b)
     (try simp only [NM,EE,R77.st] at f)
     obtain ⟨o15,s,b⟩:=bs b
     have h:=f69b_l1_ok k Q H k a ((List.length a):Int) 0 q _ s
     simp only [W,simprocAttr,sr 69 6 B69 [2,2,3,2,2,2,1,2,2] rfl rfl rfl,fieldAddrV,t_113,t_111,t_3,t_110,convV,callStep,CL,gv,List.contains,xk B69 [2,2,2,3,2,2,2,1,2,2] .sq rfl,sr 69 7 B69 [1,2,2,2,3,2,2,2,1,2,2] rfl rfl rfl,xk B69 [2,1,2,2,2,3,2,2,2,1,2,2] (.bk 1) rfl,xk B69 [2,2,1,2,2,2,3,2,2,2,1,2,2] .lp rfl,hh_69_8,hc_69_8,e,l,g,f]
     (try simp only [NM,EE] at h)
     rw [h _ (by simp only [W,simprocAttr,hh_69_8,hc_69_8,e,l,g,f])]
     clear h
     cases o15 with
     | o0 _ _ _ _ =>
      (try dsimp only at b)
      cases b
     | o1 t u v w x =>
      (try dsimp only at b)
      have hJ:=f69b_j2_ok k Q H t u v w x _ b
      simp only [W,simprocAttr,R69b_l1.st,e,l,g,f]
      try simp only [NM,EE] at hJ
      exact hJ
   ·have hJ:=f69b_j3_ok k Q H o false i j c d a _ b
    simp only [W,simprocAttr,xk B69 [3,2,3,2,2,2,1,2,2] .sk rfl,e,l,g]
    try simp only [NM,EE] at hJ
    exact hJ
noncomputable def f69b:Nat→Int→Int→(List Int)→(List T113)→(List Int)→Option R69b
 | 0,_,_,_,_,_=>none
 | k+1,d,a,b,c,e=>f69b_e k (f69b k) d a b c e
theorem f69b_all (k:Nat):(∀ (e a:Int) (b:List Int) (d:List T113) (f:List Int) (r:R69b),f69b k e a b d f=some r→CV k 69 [.own 1000000,.agg [jI e,jL a,jB b,.sl 4 (rowsOf encT113 d)]] [.row true 1 5 (rowsOf (encI .u8) f)]=some r.st):=by
 induction k with
 | zero=>exact (by intro e a b d f r g;rw [f69b] at g;cases g)
 | succ k h =>
  have ih_f69_oaiirrz_w:=h
  exact (by intro e a b d f r g;rw [f69b] at g;unfold CV;rw [ev_call (F:=Tryd.f69) (c:=(nav B69 [])) rfl Tryd.func69 rfl rfl rfl rfl];exact f69b_e_ok k (f69b k) ih_f69_oaiirrz_w e a b d f r g)
theorem f69b_ok (k d a b c e r) (f:f69b k d a b c e=some r):CV k 69 [.own 1000000,.agg [jI d,jL a,jB b,.sl 4 (rowsOf encT113 c)]] [.row true 1 5 (rowsOf (encI .u8) e)]=some r.st:=f69b_all k d a b c e r f
end Go.Proofs.YtiompmmbjpjjeaaDoorV