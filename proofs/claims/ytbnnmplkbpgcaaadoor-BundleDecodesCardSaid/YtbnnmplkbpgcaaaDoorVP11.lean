/- What the program's functions answer: plain functions,and that the interpreter answers what they do. Written by a program of this session,out of the translation. -/
import Derived.Test.YtbnnmplkbpgcaaaDoorVP10
namespace Go.Proofs.YtbnnmplkbpgcaaaDoorV
open Go
set_option linter.unusedVariables false
set_option linter.unusedSimpArgs false
set_option maxRecDepth 8000
set_option maxHeartbeats 4000000
-- f48: f48 heliograph/heliographref01.Number
inductive R48 where
 | o0 (y:Int)
noncomputable def R48.st:R48→V×List O×List O
 | .o0 y=>(jL y,[],[])
inductive R48_l1 where
 | o0 (y:List Int) (a b:Int)
 | o1 (y:List Int) (a b:Int) (c:Bool)
noncomputable def R48_l1.st:R48_l1→Out×St
 | .o0 y a b=>(.norm,(⟨20,[(0,jB y),(3,jL a),(4,jI b)],[]⟩:St))
 | .o1 y a b c=>(.exit 0,(⟨20,[(0,jB y),(3,jL a),(4,jI b),(8,jT c)],[]⟩:St))
noncomputable def f48_l1_j2 (k:Nat) (a:List Int) (b c:Int):Option R48_l1 :=
 some (.o0 a b (IntKind.i64.wrap (c+(1:Int))))
theorem f48_l1_j2_ok (k a b c r) (d:f48_l1_j2 k a b c=some r):EX 48 k (nav B48 [2,2,1,2,2,1,2,2]) (⟨20,[(0,jB a),(3,jL b),(4,jI c)],[]⟩:St)=some r.st:=by
 unfold f48_l1_j2 at d
 cases d
 simp (disch:=first|apply D;decide|apply K;kernel_rfl) only [W,simprocAttr,rg B48 [2,2,1,2,2,1,2,2] 4 false rfl,hr 48 4 rfl,R48_l1.st]
noncomputable def f48_l1_j1 (k:Nat) (b:List Int) (c a:Int) (e:Bool):Option R48_l1 :=
 ifE ((0:Int)≤a) (
  Option.bind (b[(Int.toNat a)]?) fun d =>
   f48_l1_j2 k b ((IntKind.u64.wrap ((IntKind.u64.wrap (c * (256:Int)))+(IntKind.u64.wrap d)))) a)
theorem f48_l1_j1_ok (k b c d e r) (a:f48_l1_j1 k b c d e=some r):EX 48 k (nav B48 [2,1,2,2,1,2,2]) (⟨20,[(0,jB b),(3,jL c),(4,jI d),(8,jT e)],[]⟩:St)=some r.st:=by
 unfold f48_l1_j1 at a
 obtain ⟨f,a⟩:=ifE_some.1 a
 obtain ⟨g,h,a⟩:=bs a
 have hJ:=f48_l1_j2_ok k b ((IntKind.u64.wrap ((IntKind.u64.wrap (c * (256:Int)))+(IntKind.u64.wrap g)))) d _ a
 simp (disch:=first|apply D;decide|apply K;kernel_rfl) only [W,simprocAttr,xk B48 [2,1,2,2,1,2,2] .sq rfl,xk B48 [1,2,1,2,2,1,2,2] (.bk 1) rfl,rg B48 [2,1,2,1,2,2,1,2,2] 5 false rfl,hr 48 5 rfl,indexAddrV,t_22,t_5,encI_eq,t_47,convV,f,h]
 try simp only [NM,EE] at hJ
 exact hJ
noncomputable def f48_l1_b (k:Nat) (a:List Int) (c b:Int):Option R48_l1 :=
 cond ((decide (b<((List.length a):Int))))
  (f48_l1_j1 k a c b true)
  (some (.o1 a c b false))
theorem f48_l1_b_ok (k b c d r) (a:f48_l1_b k b c d=some r):EX 48 k (nav B48 [1,2,2,1,2,2]) (⟨20,[(0,jB b),(3,jL c),(4,jI d)],[]⟩:St)=some r.st:=by
 unfold f48_l1_b at a
 simp (disch:=first|apply D;decide|apply K;kernel_rfl) only [W,simprocAttr,xk B48 [1,2,2,1,2,2] .sq rfl,xk B48 [1,1,2,2,1,2,2] .sq rfl,rg B48 [1,1,1,2,2,1,2,2] 3 false rfl,hr 48 3 rfl,t_22,xk B48 [2,1,1,2,2,1,2,2] (.cd 8) rfl]
 rcases cond_some a with ⟨e,a⟩ | ⟨e,a⟩
 ·have hJ:=f48_l1_j1_ok k b c d true _ a
  simp (disch:=first|apply D;decide|apply K;kernel_rfl) only [W,simprocAttr,xk B48 [2,2,1,1,2,2,1,2,2] .sk rfl,e]
  try simp only [NM,EE] at hJ
  exact hJ
 ·cases a
  simp (disch:=first|apply D;decide|apply K;kernel_rfl) only [W,simprocAttr,xk B48 [3,2,1,1,2,2,1,2,2] (.ex 0) rfl,R48_l1.st,e]
noncomputable def f48_l1 (k:Nat):Nat→(List Int)→Int→Int→Option R48_l1
 | 0,_,_,_=>none
 | n+1,d,e,f=>Option.bind (f48_l1_b k d e f) fun o =>
  match o with
  | .o0 y a b=>f48_l1 k n y a b
  | .o1 y a b c=>some (.o1 y a b c)
theorem f48_l1_ok (k n:Nat):∀ (b:List Int) (c d:Int) (r:R48_l1) (a:f48_l1 k n b c d=some r) (σ:St) (hσ:headR (hints.head 48 3) (hints.canon 48 3) σ=some (⟨20,[(0,jB b),(3,jL c),(4,jI d)],[]⟩:St)),LP 48 k (nav B48 [1,2,2,1,2,2]) n σ=some r.st:=by
 induction n with
 | zero=>intro b c d r a;cases a
 | succ n g =>
  intro b c d r a σ hσ
  rw [f48_l1] at a
  obtain ⟨o,h,a⟩:=Option.bind_eq_some_iff.1 a
  have hB:=f48_l1_b_ok k b c d o h
  unfold LP at g ⊢
  unfold EX at hB
  rw [loopK_succ,show firstReg (nav B48 [1,2,2,1,2,2])=3 from rfl,hσ,headK_some,hB]
  cases o with
  | o0 y e f =>
   refine g y e f r a _ ?_
   simp (disch:=first|apply D;decide|apply K;kernel_rfl) only [W,simprocAttr,hh_48_3,hc_48_3]
  | o1 y e f i=>cases a;rfl
noncomputable def f48_j2 (k:Nat) (b:List Int) (a c:Int) (d:Bool):Option R48 :=
 some (.o0 a)
theorem f48_j2_ok (k a b c d r) (e:f48_j2 k a b c d=some r):finK Tryd.prog Tryd.f48 0 (EX 48 k (nav B48 [2,2,2]) (⟨20,[(0,jB a),(3,jL b),(4,jI c),(8,jT d)],[]⟩:St))=some r.st:=by
 unfold f48_j2 at e
 cases e
 simp (disch:=first|apply D;decide|apply K;kernel_rfl) only [W,simprocAttr,xk B48 [2,2,2] .sq rfl,rg B48 [1,2,2,2] 6 false rfl,hr 48 6 rfl,xk B48 [2,2,2,2] .rt rfl,fin48,R48.st]
noncomputable def f48_e (k:Nat) (a:List Int):Option R48 :=
 Option.bind (f48_l1 k k a 0 0) fun o1 =>
  match o1 with
  | .o0 _ _ _ =>
   none
  | .o1 b c d e =>
   f48_j2 k b c d e
theorem f48_e_ok (k c r) (a:f48_e k c=some r):finK Tryd.prog Tryd.f48 0 (EX 48 k (nav B48 []) (⟨20,[(0,jB c)],[]⟩:St))=some r.st:=by
 unfold f48_e at a
 obtain ⟨o1,d,a⟩:=bs a
 have b:=f48_l1_ok k k c 0 0 _ d
 simp (disch:=first|apply D;decide|apply K;kernel_rfl) only [W,simprocAttr,xk B48 [] .sq rfl,rg B48 [1] 0 false rfl,hr 48 0 rfl,xk B48 [2] .sq rfl,rg B48 [1,2] 1 false rfl,hr 48 1 rfl,xk B48 [2,2] .sq rfl,xk B48 [1,2,2] .sq rfl,rg B48 [1,1,2,2] 2 false rfl,hr 48 2 rfl,xk B48 [2,1,2,2] (.bk 0) rfl,xk B48 [2,2,1,2,2] .lp rfl,hh_48_3,hc_48_3]
 (try simp only [NM,EE] at b)
 rw [b _ (by simp (disch:=first|apply D;decide|apply K;kernel_rfl) only [W,simprocAttr,hh_48_3,hc_48_3])]
 clear b
 cases o1 with
 | o0 _ _ _ =>
  (try dsimp only at a)
  cases a
 | o1 e f g h =>
  (try dsimp only at a)
  have hJ:=f48_j2_ok k e f g h _ a
  simp (disch:=first|apply D;decide|apply K;kernel_rfl) only [W,simprocAttr,R48_l1.st]
  try simp only [NM,EE] at hJ
  exact hJ
noncomputable def f48 (k:Nat) (a:List Int):Option R48:=match k with | 0=>none | k+1=>f48_e k a
theorem f48_ok (k a r) (b:f48 k a=some r):CV k 48 [jB a] []=some r.st:=by
 cases k with
 | zero=>cases b
 | succ k =>
  unfold CV
  rw [ev_call (F:=Tryd.f48) (c:=(nav B48 [])) rfl Tryd.func48 rfl rfl rfl rfl]
  exact f48_e_ok k a r b
-- f57: f57 heliograph/heliographref01.High
inductive R57 where
 | o0 (y:List Int)
noncomputable def R57.st:R57→V×List O×List O
 | .o0 y=>(.own 2000000,[],[.row true 1 5 (rowsOf (encI .u8) y)])
inductive R57_l1 where
 | o0 (y a:Int) (b:List Int)
 | o1 (y a:Int) (b:Bool) (c:List Int)
noncomputable def R57_l1.st:R57_l1→Out×St
 | .o0 y a b=>(.norm,(⟨24,[(0,jL y),(5,.own 30000),(6,jI a)],[(30000,.row true 1 5 (rowsOf (encI .u8) b))]⟩:St))
 | .o1 y a b c=>(.exit 0,(⟨24,[(0,jL y),(5,.own 30000),(6,jI a),(12,jT b)],[(30000,.row true 1 5 (rowsOf (encI .u8) c))]⟩:St))
noncomputable def f57_l1_j2 (k:Nat) (b c:Int) (a:List Int):Option R57_l1 :=
 some (.o0 b (IntKind.i64.wrap (c - (1:Int))) a)
theorem f57_l1_j2_ok (k b c a r) (d:f57_l1_j2 k b c a=some r):EX 57 k (nav B57 [2,2,1,2,2,1,2,2]) (⟨24,[(0,jL b),(5,.own 30000),(6,jI c)],[(30000,.row true 1 5 (rowsOf (encI .u8) a))]⟩:St)=some r.st:=by
 unfold f57_l1_j2 at d
 cases d
 simp (disch:=first|apply D;decide|apply K;kernel_rfl) only [W,simprocAttr,rg B57 [2,2,1,2,2,1,2,2] 4 false rfl,hr 57 4 rfl,R57_l1.st]
noncomputable def f57_l1_j1 (k:Nat) (c b:Int) (d:Bool) (a:List Int):Option R57_l1 :=
 ifE ((0:Int)≤b) (
  ifE (b<((List.length a):Int)) (
   Option.bind (a[(Int.toNat b)]?) fun e =>
    f57_l1_j2 k (IntKind.u64.wrap (Int.tdiv c (256:Int))) b ((List.set a (Int.toNat b) (IntKind.u8.wrap (Int.tmod c (256:Int)))))))
theorem f57_l1_j1_ok (k c d e a r) (b:f57_l1_j1 k c d e a=some r):EX 57 k (nav B57 [2,1,2,2,1,2,2]) (⟨24,[(0,jL c),(5,.own 30000),(6,jI d),(12,jT e)],[(30000,.row true 1 5 (rowsOf (encI .u8) a))]⟩:St)=some r.st:=by
 unfold f57_l1_j1 at b
 obtain ⟨f,b⟩:=ifE_some.1 b
 obtain ⟨g,b⟩:=ifE_some.1 b
 obtain ⟨m,h,b⟩:=bs b
 have j:List.set (rowsOf (encI .u8) a) (Int.toNat d) [.p (.int .u8 (IntKind.u8.wrap (Int.tmod c (256:Int))))]=rowsOf (encI .u8) (List.set a (Int.toNat d) (IntKind.u8.wrap (Int.tmod c (256:Int)))):=(rowsOf_set (enc:=(encI .u8)) (l:=a) (i:=(Int.toNat d)) (x:=(IntKind.u8.wrap (Int.tmod c (256:Int))))).symm
 have hJ:=f57_l1_j2_ok k (IntKind.u64.wrap (Int.tdiv c (256:Int))) d ((List.set a (Int.toNat d) (IntKind.u8.wrap (Int.tmod c (256:Int))))) _ b
 simp (disch:=first|apply D;decide|apply K;kernel_rfl) only [W,simprocAttr,xk B57 [2,1,2,2,1,2,2] .sq rfl,xk B57 [1,2,1,2,2,1,2,2] (.bk 1) rfl,xk B57 [2,1,2,1,2,2,1,2,2] .sq rfl,rg B57 [1,2,1,2,1,2,2,1,2,2] 5 false rfl,hr 57 5 rfl,t_47,t_5,convV,indexAddrV,t_22,sm_5,encI_eq,rg B57 [2,2,1,2,1,2,2,1,2,2] 6 false rfl,hr 57 6 rfl,f,g,h,j]
 try simp only [NM,EE] at hJ
 exact hJ
noncomputable def f57_l1_b (k:Nat) (c b:Int) (a:List Int):Option R57_l1 :=
 cond ((decide (b≥0)))
  (f57_l1_j1 k c b true a)
  (some (.o1 c b false a))
theorem f57_l1_b_ok (k c d a r) (b:f57_l1_b k c d a=some r):EX 57 k (nav B57 [1,2,2,1,2,2]) (⟨24,[(0,jL c),(5,.own 30000),(6,jI d)],[(30000,.row true 1 5 (rowsOf (encI .u8) a))]⟩:St)=some r.st:=by
 unfold f57_l1_b at b
 simp (disch:=first|apply D;decide|apply K;kernel_rfl) only [W,simprocAttr,xk B57 [1,2,2,1,2,2] .sq rfl,xk B57 [1,1,2,2,1,2,2] .sq rfl,rg B57 [1,1,1,2,2,1,2,2] 3 false rfl,hr 57 3 rfl,xk B57 [2,1,1,2,2,1,2,2] (.cd 12) rfl]
 rcases cond_some b with ⟨e,b⟩ | ⟨e,b⟩
 ·have hJ:=f57_l1_j1_ok k c d true a _ b
  simp (disch:=first|apply D;decide|apply K;kernel_rfl) only [W,simprocAttr,xk B57 [2,2,1,1,2,2,1,2,2] .sk rfl,e]
  try simp only [NM,EE] at hJ
  exact hJ
 ·cases b
  simp (disch:=first|apply D;decide|apply K;kernel_rfl) only [W,simprocAttr,xk B57 [3,2,1,1,2,2,1,2,2] (.ex 0) rfl,R57_l1.st,e]
noncomputable def f57_l1 (k:Nat):Nat→Int→Int→(List Int)→Option R57_l1
 | 0,_,_,_=>none
 | n+1,e,f,c=>Option.bind (f57_l1_b k e f c) fun o =>
  match o with
  | .o0 y a b=>f57_l1 k n y a b
  | .o1 y a b d=>some (.o1 y a b d)
theorem f57_l1_ok (k n:Nat):∀ (c d:Int) (a:List Int) (r:R57_l1) (b:f57_l1 k n c d a=some r) (σ:St) (hσ:headR (hints.head 57 3) (hints.canon 57 3) σ=some (⟨24,[(0,jL c),(5,.own 30000),(6,jI d)],[(30000,.row true 1 5 (rowsOf (encI .u8) a))]⟩:St)),LP 57 k (nav B57 [1,2,2,1,2,2]) n σ=some r.st:=by
 induction n with
 | zero=>intro c d a r b;cases b
 | succ n g =>
  intro c d a r b σ hσ
  rw [f57_l1] at b
  obtain ⟨o,h,b⟩:=Option.bind_eq_some_iff.1 b
  have hB:=f57_l1_b_ok k c d a o h
  unfold LP at g ⊢
  unfold EX at hB
  rw [loopK_succ,show firstReg (nav B57 [1,2,2,1,2,2])=3 from rfl,hσ,headK_some,hB]
  cases o with
  | o0 y e f =>
   refine g y e f r b _ ?_
   simp (disch:=first|apply D;decide|apply K;kernel_rfl) only [W,simprocAttr,hh_57_3,hc_57_3]
  | o1 y e f i=>cases b;rfl
noncomputable def f57_j2 (k:Nat) (c d:Int) (b:Bool) (a:List Int):Option R57 :=
 some (.o0 a)
theorem f57_j2_ok (k c d a b r) (e:f57_j2 k c d a b=some r):finK Tryd.prog Tryd.f57 0 (EX 57 k (nav B57 [2,2,2]) (⟨24,[(0,jL c),(5,.own 30000),(6,jI d),(12,jT a)],[(30000,.row true 1 5 (rowsOf (encI .u8) b))]⟩:St))=some r.st:=by
 unfold f57_j2 at e
 cases e
 simp (disch:=first|apply D;decide|apply K;kernel_rfl) only [W,simprocAttr,xk B57 [2,2,2] .sq rfl,rg B57 [1,2,2,2] 7 false rfl,hr 57 7 rfl,xk B57 [2,2,2,2] .rt rfl,fin57,R57.st]
noncomputable def f57_e (k:Nat) (d a:Int):Option R57 :=
 ifE ((0:Int)≤a) (
  ifE (a≤a) (
   ifE ((a:Int) * 1≤(roomy:Int)) (
    Option.bind (f57_l1 k k d (IntKind.i64.wrap (a - (1:Int))) ((List.replicate (Int.toNat a) (0:Int)))) fun o5 =>
     match o5 with
     | .o0 _ _ _ =>
      none
     | .o1 e f b c =>
      f57_j2 k e f b c)))
theorem f57_e_ok (k d b r) (a:f57_e k d b=some r):finK Tryd.prog Tryd.f57 0 (EX 57 k (nav B57 []) (⟨24,[(0,jL d),(1,jI b)],[]⟩:St))=some r.st:=by
 unfold f57_e at a
 obtain ⟨e,a⟩:=ifE_some.1 a
 obtain ⟨f,a⟩:=ifE_some.1 a
 obtain ⟨g,a⟩:=ifE_some.1 a
 have h:List.replicate (Int.toNat b) [.p (.int .u8 0)]=rowsOf (encI .u8) (List.replicate (Int.toNat b) (0:Int)):=(rowsOf_replicate (enc:=(encI .u8)) (n:=(Int.toNat b)) (x:=(0:Int))).symm
 obtain ⟨o5,l,a⟩:=bs a
 have c:=f57_l1_ok k k d (IntKind.i64.wrap (b - (1:Int))) ((List.replicate (Int.toNat b) (0:Int))) _ l
 simp (disch:=first|apply D;decide|apply K;kernel_rfl) only [W,simprocAttr,xk B57 [] .sq rfl,rg B57 [1] 0 false rfl,hr 57 0 rfl,xk B57 [2] .sq rfl,rg B57 [1,2] 1 false rfl,hr 57 1 rfl,makeV,intArg,sm_5,t_22,t_5,xk B57 [2,2] .sq rfl,xk B57 [1,2,2] .sq rfl,rg B57 [1,1,2,2] 2 false rfl,hr 57 2 rfl,xk B57 [2,1,2,2] (.bk 0) rfl,xk B57 [2,2,1,2,2] .lp rfl,hh_57_3,hc_57_3,e,f,g,h]
 (try simp only [NM,EE] at c)
 rw [c _ (by simp (disch:=first|apply D;decide|apply K;kernel_rfl) only [W,simprocAttr,hh_57_3,hc_57_3,e,f,g,h])]
 clear c
 cases o5 with
 | o0 _ _ _ =>
  (try dsimp only at a)
  cases a
 | o1 m o i j =>
  (try dsimp only at a)
  have hJ:=f57_j2_ok k m o i j _ a
  simp (disch:=first|apply D;decide|apply K;kernel_rfl) only [W,simprocAttr,R57_l1.st,e,f,g,h]
  try simp only [NM,EE] at hJ
  exact hJ
noncomputable def f57 (k:Nat) (a b:Int):Option R57:=match k with | 0=>none | k+1=>f57_e k a b
theorem f57_ok (k a b r) (d:f57 k a b=some r):CV k 57 [jL a,jI b] []=some r.st:=by
 cases k with
 | zero=>cases d
 | succ k =>
  unfold CV
  rw [ev_call (F:=Tryd.f57) (c:=(nav B57 [])) rfl Tryd.func57 rfl rfl rfl rfl]
  exact f57_e_ok k a b r d
-- f40b: f40 heliograph/heliographref01.Both
inductive R40b where
 | o0 (y:List Int)
noncomputable def R40b.st:R40b→V×List O×List O
 | .o0 y=>(.own 2000000,[],[.row true 1 5 (rowsOf (encI .u8) y)])
inductive R40b_l1 where
 | o0 (y a:List Int) (b:Int) (c:List Int)
 | o1 (y a:List Int) (b:Int) (c:Bool) (d:List Int)
noncomputable def R40b_l1.st:R40b_l1→Out×St
 | .o0 y a b c=>(.norm,(⟨41,[(0,jB y),(1,jB a),(5,.own 26),(6,jI b)],[(26,.row true 1 5 (rowsOf (encI .u8) c))]⟩:St))
 | .o1 y a b c d=>(.exit 0,(⟨41,[(0,jB y),(1,jB a),(5,.own 30000),(6,jI b),(17,jT c)],[(30000,.row true 1 5 (rowsOf (encI .u8) d))]⟩:St))
noncomputable def f40b_l1_j2 (k:Nat) (b c:List Int) (d:Int) (a:List Int):Option R40b_l1 :=
 some (.o0 b c (IntKind.i64.wrap (d+(1:Int))) a)
theorem f40b_l1_j2_ok (k b c d a r) (e:f40b_l1_j2 k b c d a=some r):EX 40 k (nav B40 [2,2,1,2,2,1,2,2]) (⟨41,[(0,jB b),(1,jB c),(5,.own 26),(6,jI d)],[(26,.row true 1 5 (rowsOf (encI .u8) a))]⟩:St)=some r.st:=by
 unfold f40b_l1_j2 at e
 cases e
 simp (disch:=first|apply D;decide|apply K;kernel_rfl) only [W,simprocAttr,rg B40 [2,2,1,2,2,1,2,2] 4 false rfl,hr 40 4 rfl,R40b_l1.st]
noncomputable def f40b_l1_j1 (k:Nat) (c d:List Int) (b:Int) (e:Bool) (a:List Int):Option R40b_l1 :=
 ifE ((0:Int)≤b) (
  Option.bind (c[(Int.toNat b)]?) fun f =>
   ifE (((List.length a)+1)≤roomy) (
    f40b_l1_j2 k c d b (a++([f]:List Int))))
theorem f40b_l1_j1_ok (k e f g c b r) (a:f40b_l1_j1 k e f g c b=some r):EX 40 k (nav B40 [2,1,2,2,1,2,2]) (⟨41,[(0,jB e),(1,jB f),(5,.own 30000),(6,jI g),(17,jT c)],[(30000,.row true 1 5 (rowsOf (encI .u8) b))]⟩:St)=some r.st:=by
 unfold f40b_l1_j1 at a
 obtain ⟨h,a⟩:=ifE_some.1 a
 obtain ⟨d,i,a⟩:=bs a
 have j:[[.p (.int .u8 d)]]=rowsOf (encI .u8) ([d]:List Int):=rfl
 have l:List.map (tell [0]) (rowsOf (encI .u8) ([d]:List Int))=rowsOf (encI .u8) ([d]:List Int):=rfl
 obtain ⟨m,a⟩:=ifE_some.1 a
 have hJ:=f40b_l1_j2_ok k e f g (b++([d]:List Int)) _ a
 simp (disch:=first|apply D;decide|apply K;kernel_rfl) only [W,simprocAttr,xk B40 [2,1,2,2,1,2,2] .sq rfl,xk B40 [1,2,1,2,2,1,2,2] (.bk 1) rfl,rg B40 [2,1,2,1,2,2,1,2,2] 5 false rfl,hr 40 5 rfl,indexAddrV,t_22,t_5,encI_eq,buildSliceV,fillRows,sm_5,appendV,content,h,i,j,l,m]
 try simp only [NM,EE] at hJ
 exact hJ
noncomputable def f40b_l1_b (k:Nat) (b d:List Int) (c:Int) (a:List Int):Option R40b_l1 :=
 cond ((decide (c<((List.length b):Int))))
  (f40b_l1_j1 k b d c true a)
  (some (.o1 b d c false a))
theorem f40b_l1_b_ok (k c d e a r) (b:f40b_l1_b k c d e a=some r):EX 40 k (nav B40 [1,2,2,1,2,2]) (⟨41,[(0,jB c),(1,jB d),(5,.own 30000),(6,jI e)],[(30000,.row true 1 5 (rowsOf (encI .u8) a))]⟩:St)=some r.st:=by
 unfold f40b_l1_b at b
 simp (disch:=first|apply D;decide|apply K;kernel_rfl) only [W,simprocAttr,xk B40 [1,2,2,1,2,2] .sq rfl,xk B40 [1,1,2,2,1,2,2] .sq rfl,rg B40 [1,1,1,2,2,1,2,2] 3 false rfl,hr 40 3 rfl,t_22,xk B40 [2,1,1,2,2,1,2,2] (.cd 17) rfl]
 rcases cond_some b with ⟨f,b⟩ | ⟨f,b⟩
 ·have hJ:=f40b_l1_j1_ok k c d e true a _ b
  simp (disch:=first|apply D;decide|apply K;kernel_rfl) only [W,simprocAttr,xk B40 [2,2,1,1,2,2,1,2,2] .sk rfl,f]
  try simp only [NM,EE] at hJ
  exact hJ
 ·cases b
  simp (disch:=first|apply D;decide|apply K;kernel_rfl) only [W,simprocAttr,xk B40 [3,2,1,1,2,2,1,2,2] (.ex 0) rfl,R40b_l1.st,f]
noncomputable def f40b_l1 (k:Nat):Nat→(List Int)→(List Int)→Int→(List Int)→Option R40b_l1
 | 0,_,_,_,_=>none
 | n+1,f,g,h,d=>Option.bind (f40b_l1_b k f g h d) fun o =>
  match o with
  | .o0 y a b c=>f40b_l1 k n y a b c
  | .o1 y a b c e=>some (.o1 y a b c e)
theorem f40b_l1_ok (k n:Nat):∀ (c d:List Int) (e:Int) (a:List Int) (r:R40b_l1) (b:f40b_l1 k n c d e a=some r) (σ:St) (hσ:headR (hints.head 40 3) (hints.canon 40 3) σ=some (⟨41,[(0,jB c),(1,jB d),(5,.own 30000),(6,jI e)],[(30000,.row true 1 5 (rowsOf (encI .u8) a))]⟩:St)),LP 40 k (nav B40 [1,2,2,1,2,2]) n σ=some r.st:=by
 induction n with
 | zero=>intro c d e a r b;cases b
 | succ n j =>
  intro c d e a r b σ hσ
  rw [f40b_l1] at b
  obtain ⟨o,h,b⟩:=Option.bind_eq_some_iff.1 b
  have hB:=f40b_l1_b_ok k c d e a o h
  unfold LP at j ⊢
  unfold EX at hB
  rw [loopK_succ,show firstReg (nav B40 [1,2,2,1,2,2])=3 from rfl,hσ,headK_some,hB]
  cases o with
  | o0 y f g i =>
   refine j y f g i r b _ ?_
   simp (disch:=first|apply D;decide|apply K;kernel_rfl) only [W,simprocAttr,hh_40_3,hc_40_3]
  | o1 y f g i l=>cases b;rfl
inductive R40b_l3 where
 | o0 (y:List Int) (a:Int) (b:List Int)
 | o1 (y:List Int) (a:Int) (b:Bool) (c:List Int)
noncomputable def R40b_l3.st:R40b_l3→Out×St
 | .o0 y a b=>(.norm,(⟨41,[(1,jB y),(5,.own 39),(7,jI a)],[(39,.row true 1 5 (rowsOf (encI .u8) b))]⟩:St))
 | .o1 y a b c=>(.exit 2,(⟨41,[(1,jB y),(5,.own 30000),(7,jI a),(30,jT b)],[(30000,.row true 1 5 (rowsOf (encI .u8) c))]⟩:St))
noncomputable def f40b_l3_j2 (k:Nat) (b:List Int) (c:Int) (a:List Int):Option R40b_l3 :=
 some (.o0 b (IntKind.i64.wrap (c+(1:Int))) a)
theorem f40b_l3_j2_ok (k b c a r) (d:f40b_l3_j2 k b c a=some r):EX 40 k (nav B40 [2,2,1,2,2,1,2,2,2]) (⟨41,[(1,jB b),(5,.own 39),(7,jI c)],[(39,.row true 1 5 (rowsOf (encI .u8) a))]⟩:St)=some r.st:=by
 unfold f40b_l3_j2 at d
 cases d
 simp (disch:=first|apply D;decide|apply K;kernel_rfl) only [W,simprocAttr,rg B40 [2,2,1,2,2,1,2,2,2] 8 false rfl,hr 40 8 rfl,R40b_l3.st]
noncomputable def f40b_l3_j1 (k:Nat) (c:List Int) (b:Int) (d:Bool) (a:List Int):Option R40b_l3 :=
 ifE ((0:Int)≤b) (
  Option.bind (c[(Int.toNat b)]?) fun e =>
   ifE (((List.length a)+1)≤roomy) (
    f40b_l3_j2 k c b (a++([e]:List Int))))
theorem f40b_l3_j1_ok (k e f c b r) (a:f40b_l3_j1 k e f c b=some r):EX 40 k (nav B40 [2,1,2,2,1,2,2,2]) (⟨41,[(1,jB e),(5,.own 30000),(7,jI f),(30,jT c)],[(30000,.row true 1 5 (rowsOf (encI .u8) b))]⟩:St)=some r.st:=by
 unfold f40b_l3_j1 at a
 obtain ⟨g,a⟩:=ifE_some.1 a
 obtain ⟨d,h,a⟩:=bs a
 have i:[[.p (.int .u8 d)]]=rowsOf (encI .u8) ([d]:List Int):=rfl
 have j:List.map (tell [0]) (rowsOf (encI .u8) ([d]:List Int))=rowsOf (encI .u8) ([d]:List Int):=rfl
 obtain ⟨l,a⟩:=ifE_some.1 a
 have hJ:=f40b_l3_j2_ok k e f (b++([d]:List Int)) _ a
 simp (disch:=first|apply D;decide|apply K;kernel_rfl) only [W,simprocAttr,xk B40 [2,1,2,2,1,2,2,2] .sq rfl,xk B40 [1,2,1,2,2,1,2,2,2] (.bk 3) rfl,rg B40 [2,1,2,1,2,2,1,2,2,2] 9 false rfl,hr 40 9 rfl,indexAddrV,t_22,t_5,encI_eq,buildSliceV,fillRows,sm_5,appendV,content,g,h,i,j,l]
 try simp only [NM,EE] at hJ
 exact hJ
noncomputable def f40b_l3_b (k:Nat) (b:List Int) (c:Int) (a:List Int):Option R40b_l3 :=
 cond ((decide (c<((List.length b):Int))))
  (f40b_l3_j1 k b c true a)
  (some (.o1 b c false a))
theorem f40b_l3_b_ok (k c d a r) (b:f40b_l3_b k c d a=some r):EX 40 k (nav B40 [1,2,2,1,2,2,2]) (⟨41,[(1,jB c),(5,.own 30000),(7,jI d)],[(30000,.row true 1 5 (rowsOf (encI .u8) a))]⟩:St)=some r.st:=by
 unfold f40b_l3_b at b
 simp (disch:=first|apply D;decide|apply K;kernel_rfl) only [W,simprocAttr,xk B40 [1,2,2,1,2,2,2] .sq rfl,xk B40 [1,1,2,2,1,2,2,2] .sq rfl,rg B40 [1,1,1,2,2,1,2,2,2] 7 false rfl,hr 40 7 rfl,t_22,xk B40 [2,1,1,2,2,1,2,2,2] (.cd 30) rfl]
 rcases cond_some b with ⟨e,b⟩ | ⟨e,b⟩
 ·have hJ:=f40b_l3_j1_ok k c d true a _ b
  simp (disch:=first|apply D;decide|apply K;kernel_rfl) only [W,simprocAttr,xk B40 [2,2,1,1,2,2,1,2,2,2] .sk rfl,e]
  try simp only [NM,EE] at hJ
  exact hJ
 ·cases b
  simp (disch:=first|apply D;decide|apply K;kernel_rfl) only [W,simprocAttr,xk B40 [3,2,1,1,2,2,1,2,2,2] (.ex 2) rfl,R40b_l3.st,e]
noncomputable def f40b_l3 (k:Nat):Nat→(List Int)→Int→(List Int)→Option R40b_l3
 | 0,_,_,_=>none
 | n+1,e,f,c=>Option.bind (f40b_l3_b k e f c) fun o =>
  match o with
  | .o0 y a b=>f40b_l3 k n y a b
  | .o1 y a b d=>some (.o1 y a b d)
theorem f40b_l3_ok (k n:Nat):∀ (c:List Int) (d:Int) (a:List Int) (r:R40b_l3) (b:f40b_l3 k n c d a=some r) (σ:St) (hσ:headR (hints.head 40 7) (hints.canon 40 7) σ=some (⟨41,[(1,jB c),(5,.own 30000),(7,jI d)],[(30000,.row true 1 5 (rowsOf (encI .u8) a))]⟩:St)),LP 40 k (nav B40 [1,2,2,1,2,2,2]) n σ=some r.st:=by
 induction n with
 | zero=>intro c d a r b;cases b
 | succ n g =>
  intro c d a r b σ hσ
  rw [f40b_l3] at b
  obtain ⟨o,h,b⟩:=Option.bind_eq_some_iff.1 b
  have hB:=f40b_l3_b_ok k c d a o h
  unfold LP at g ⊢
  unfold EX at hB
  rw [loopK_succ,show firstReg (nav B40 [1,2,2,1,2,2,2])=7 from rfl,hσ,headK_some,hB]
  cases o with
  | o0 y e f =>
   refine g y e f r b _ ?_
   simp (disch:=first|apply D;decide|apply K;kernel_rfl) only [W,simprocAttr,hh_40_7,hc_40_7]
  | o1 y e f i=>cases b;rfl
noncomputable def f40b_j4 (k:Nat) (c:List Int) (d:Int) (b:Bool) (a:List Int):Option R40b :=
 some (.o0 a)
theorem f40b_j4_ok (k c d a b r) (e:f40b_j4 k c d a b=some r):finK Tryd.prog Tryd.f40 0 (EX 40 k (nav B40 [2,2,2,2]) (⟨41,[(1,jB c),(5,.own 30000),(7,jI d),(30,jT a)],[(30000,.row true 1 5 (rowsOf (encI .u8) b))]⟩:St))=some r.st:=by
 unfold f40b_j4 at e
 cases e
 simp (disch:=first|apply D;decide|apply K;kernel_rfl) only [W,simprocAttr,xk B40 [2,2,2,2] .sq rfl,rg B40 [1,2,2,2,2] 10 false rfl,hr 40 10 rfl,xk B40 [2,2,2,2,2] .rt rfl,fin40,R40b.st]
noncomputable def f40b_j2 (k:Nat) (h b:List Int) (i:Int) (c:Bool) (a:List Int):Option R40b :=
 Option.bind (f40b_l3 k k b 0 a) fun o1 =>
  match o1 with
  | .o0 _ _ _ =>
   none
  | .o1 d e f g =>
   f40b_j4 k d e f g
theorem f40b_j2_ok (k f e g d a r) (b:f40b_j2 k f e g d a=some r):finK Tryd.prog Tryd.f40 0 (EX 40 k (nav B40 [2,2,2]) (⟨41,[(0,jB f),(1,jB e),(5,.own 30000),(6,jI g),(17,jT d)],[(30000,.row true 1 5 (rowsOf (encI .u8) a))]⟩:St))=some r.st:=by
 unfold f40b_j2 at b
 obtain ⟨o1,h,b⟩:=bs b
 have c:=f40b_l3_ok k k e 0 a _ h
 simp (disch:=first|apply D;decide|apply K;kernel_rfl) only [W,simprocAttr,xk B40 [2,2,2] .sq rfl,xk B40 [1,2,2,2] .sq rfl,rg B40 [1,1,2,2,2] 6 false rfl,hr 40 6 rfl,xk B40 [2,1,2,2,2] (.bk 2) rfl,xk B40 [2,2,1,2,2,2] .lp rfl,hh_40_7,hc_40_7]
 (try simp only [NM,EE] at c)
 rw [c _ (by simp (disch:=first|apply D;decide|apply K;kernel_rfl) only [W,simprocAttr,hh_40_7,hc_40_7])]
 clear c
 cases o1 with
 | o0 _ _ _ =>
  (try dsimp only at b)
  cases b
 | o1 i j l m =>
  (try dsimp only at b)
  have hJ:=f40b_j4_ok k i j l m _ b
  simp (disch:=first|apply D;decide|apply K;kernel_rfl) only [W,simprocAttr,R40b_l3.st]
  try simp only [NM,EE] at hJ
  exact hJ
noncomputable def f40b_e (k:Nat) (a b:List Int):Option R40b :=
 ifE ((0:Int)≤(IntKind.i64.wrap (((List.length a):Int)+((List.length b):Int)))) (
  ifE (((IntKind.i64.wrap (((List.length a):Int)+((List.length b):Int))):Int) * 1≤(roomy:Int)) (
   Option.bind (f40b_l1 k k a b 0 []) fun o3 =>
    match o3 with
    | .o0 _ _ _ _ =>
     none
    | .o1 d e f g c =>
     f40b_j2 k d e f g c))
theorem f40b_e_ok (k c d r) (a:f40b_e k c d=some r):finK Tryd.prog Tryd.f40 0 (EX 40 k (nav B40 []) (⟨41,[(0,jB c),(1,jB d)],[]⟩:St))=some r.st:=by
 unfold f40b_e at a
 obtain ⟨e,a⟩:=ifE_some.1 a
 obtain ⟨f,a⟩:=ifE_some.1 a
 obtain ⟨o3,h,a⟩:=bs a
 have b:=f40b_l1_ok k k c d 0 [] _ h
 simp (disch:=first|apply D;decide|apply K;kernel_rfl) only [W,simprocAttr,xk B40 [] .sq rfl,rg B40 [1] 0 false rfl,hr_40_0,xk B40 [2] .sq rfl,rg B40 [1,2] 1 false rfl,hr 40 1 rfl,t_22,makeV,intArg,sm_5,t_5,List.replicate_zero,xk B40 [2,2] .sq rfl,xk B40 [1,2,2] .sq rfl,rg B40 [1,1,2,2] 2 false rfl,hr 40 2 rfl,xk B40 [2,1,2,2] (.bk 0) rfl,xk B40 [2,2,1,2,2] .lp rfl,hh_40_3,hc_40_3,e,f]
 (try simp only [NM,EE] at b)
 rw [b _ (by simp (disch:=first|apply D;decide|apply K;kernel_rfl) only [W,simprocAttr,hh_40_3,hc_40_3,e,f])]
 clear b
 cases o3 with
 | o0 _ _ _ _ =>
  (try dsimp only at a)
  cases a
 | o1 i j l m g =>
  (try dsimp only at a)
  have hJ:=f40b_j2_ok k i j l m g _ a
  simp (disch:=first|apply D;decide|apply K;kernel_rfl) only [W,simprocAttr,R40b_l1.st,e,f]
  try simp only [NM,EE] at hJ
  exact hJ
noncomputable def f40b (k:Nat) (a b:List Int):Option R40b:=match k with | 0=>none | k+1=>f40b_e k a b
theorem f40b_ok (k a b r) (d:f40b k a b=some r):CV k 40 [jB a,jB b] []=some r.st:=by
 cases k with
 | zero=>cases d
 | succ k =>
  unfold CV
  rw [ev_call (F:=Tryd.f40) (c:=(nav B40 [])) rfl Tryd.func40 rfl rfl rfl rfl]
  exact f40b_e_ok k a b r d
-- f39: f39 heliograph/heliographref07.Head
inductive R39 where
 | o0 (y:List Int)
noncomputable def R39.st:R39→V×List O×List O
 | .o0 y=>(.own 2000000,[],[.row true 1 5 (rowsOf (encI .u8) y)])
noncomputable def f39_j4 (k:Nat) (b c:Int) (d:Bool):Option R39 :=
 Option.bind (f57 k c 8) fun o3 =>
  match o3 with
  | .o0 e =>
   Option.bind (f40b k (([(IntKind.u8.wrap (IntKind.i64.wrap ((IntKind.i64.wrap ((32:Int) * b))+(27:Int))))]:List Int)) e) fun o7 =>
    match o7 with
    | .o0 a =>
     some (.o0 a)
theorem f39_j4_ok (k b f c r) (a:f39_j4 k b f c=some r):finK Tryd.prog Tryd.f39 0 (EX 39 k (nav B39 [2,2,2,2,2]) (⟨51,[(0,jI b),(1,jL f),(34,jT c)],[]⟩:St))=some r.st:=by
 unfold f39_j4 at a
 have g:[[.p (.int .u8 (IntKind.u8.wrap (IntKind.i64.wrap ((IntKind.i64.wrap ((32:Int) * b))+(27:Int)))))]]=rowsOf (encI .u8) ([(IntKind.u8.wrap (IntKind.i64.wrap ((IntKind.i64.wrap ((32:Int) * b))+(27:Int))))]:List Int):=rfl
 have h:List.map (tell [0]) (rowsOf (encI .u8) ([(IntKind.u8.wrap (IntKind.i64.wrap ((IntKind.i64.wrap ((32:Int) * b))+(27:Int))))]:List Int))=rowsOf (encI .u8) ([(IntKind.u8.wrap (IntKind.i64.wrap ((IntKind.i64.wrap ((32:Int) * b))+(27:Int))))]:List Int):=rfl
 obtain ⟨o3,i,a⟩:=bs a
 have d:=f57_ok k f 8 _ i
 cases o3 with
 | o0 j =>
  (try dsimp only at a)
  (try simp only [NM,EE,R57.st] at d)
  obtain ⟨o7,l,a⟩:=bs a
  have e:=f40b_ok k (([(IntKind.u8.wrap (IntKind.i64.wrap ((IntKind.i64.wrap ((32:Int) * b))+(27:Int))))]:List Int)) j _ l
  cases o7 with
  | o0 m =>
   (try dsimp only at a)
   (try simp only [NM,EE,R40b.st] at e)
   cases a
   simp (disch:=first|apply D;decide|apply K;kernel_rfl) only [W,simprocAttr,xk B39 [2,2,2,2,2] .sq rfl,rg B39 [1,2,2,2,2,2] 9 false rfl,hr 39 9 rfl,t_3,t_5,convV,buildSliceV,fillRows,sm_5,t_22,callStep,CL,gv,List.contains,xk B39 [2,2,2,2,2,2] .rt rfl,fin39,R39.st,g,h,d,e]
noncomputable def f39_j3 (k:Nat) (c a:Int) (d:Bool):Option R39 :=
 cond ((decide (a<4294967296)))
  (
   Option.bind (f57 k a 4) fun o4 =>
    match o4 with
    | .o0 e =>
     Option.bind (f40b k (([(IntKind.u8.wrap (IntKind.i64.wrap ((IntKind.i64.wrap ((32:Int) * c))+(26:Int))))]:List Int)) e) fun o8 =>
      match o8 with
      | .o0 b =>
       some (.o0 b))
  (f39_j4 k c a false)
theorem f39_j3_ok (k b f d r) (a:f39_j3 k b f d=some r):finK Tryd.prog Tryd.f39 0 (EX 39 k (nav B39 [2,2,2,2]) (⟨51,[(0,jI b),(1,jL f),(24,jT d)],[]⟩:St))=some r.st:=by
 unfold f39_j3 at a
 simp (disch:=first|apply D;decide|apply K;kernel_rfl) only [W,simprocAttr,xk B39 [2,2,2,2] .sq rfl,xk B39 [1,2,2,2,2] .sq rfl,rg B39 [1,1,2,2,2,2] 7 false rfl,hr 39 7 rfl,xk B39 [2,1,2,2,2,2] (.cd 34) rfl]
 rcases cond_some a with ⟨g,a⟩ | ⟨g,a⟩
 ·have h:[[.p (.int .u8 (IntKind.u8.wrap (IntKind.i64.wrap ((IntKind.i64.wrap ((32:Int) * b))+(26:Int)))))]]=rowsOf (encI .u8) ([(IntKind.u8.wrap (IntKind.i64.wrap ((IntKind.i64.wrap ((32:Int) * b))+(26:Int))))]:List Int):=rfl
  have i:List.map (tell [0]) (rowsOf (encI .u8) ([(IntKind.u8.wrap (IntKind.i64.wrap ((IntKind.i64.wrap ((32:Int) * b))+(26:Int))))]:List Int))=rowsOf (encI .u8) ([(IntKind.u8.wrap (IntKind.i64.wrap ((IntKind.i64.wrap ((32:Int) * b))+(26:Int))))]:List Int):=rfl
  obtain ⟨o4,j,a⟩:=bs a
  have e:=f57_ok k f 4 _ j
  cases o4 with
  | o0 l =>
   (try dsimp only at a)
   (try simp only [NM,EE,R57.st] at e)
   obtain ⟨o8,m,a⟩:=bs a
   have c:=f40b_ok k (([(IntKind.u8.wrap (IntKind.i64.wrap ((IntKind.i64.wrap ((32:Int) * b))+(26:Int))))]:List Int)) l _ m
   cases o8 with
   | o0 o =>
    (try dsimp only at a)
    (try simp only [NM,EE,R40b.st] at c)
    cases a
    simp (disch:=first|apply D;decide|apply K;kernel_rfl) only [W,simprocAttr,xk B39 [2,2,1,2,2,2,2] .sq rfl,rg B39 [1,2,2,1,2,2,2,2] 8 false rfl,hr 39 8 rfl,t_3,t_5,convV,buildSliceV,fillRows,sm_5,t_22,callStep,CL,gv,List.contains,xk B39 [2,2,2,1,2,2,2,2] .rt rfl,fin39,R39.st,g,h,i,e,c]
 ·have hJ:=f39_j4_ok k b f false _ a
  simp (disch:=first|apply D;decide|apply K;kernel_rfl) only [W,simprocAttr,xk B39 [3,2,1,2,2,2,2] .sk rfl,g]
  try simp only [NM,EE] at hJ
  exact hJ
noncomputable def f39_j2 (k:Nat) (c a:Int) (d:Bool):Option R39 :=
 cond ((decide (a<65536)))
  (
   Option.bind (f57 k a 2) fun o4 =>
    match o4 with
    | .o0 e =>
     Option.bind (f40b k (([(IntKind.u8.wrap (IntKind.i64.wrap ((IntKind.i64.wrap ((32:Int) * c))+(25:Int))))]:List Int)) e) fun o8 =>
      match o8 with
      | .o0 b =>
       some (.o0 b))
  (f39_j3 k c a false)
theorem f39_j2_ok (k b f d r) (a:f39_j2 k b f d=some r):finK Tryd.prog Tryd.f39 0 (EX 39 k (nav B39 [2,2,2]) (⟨51,[(0,jI b),(1,jL f),(15,jT d)],[]⟩:St))=some r.st:=by
 unfold f39_j2 at a
 simp (disch:=first|apply D;decide|apply K;kernel_rfl) only [W,simprocAttr,xk B39 [2,2,2] .sq rfl,xk B39 [1,2,2,2] .sq rfl,rg B39 [1,1,2,2,2] 5 false rfl,hr 39 5 rfl,xk B39 [2,1,2,2,2] (.cd 24) rfl]
 rcases cond_some a with ⟨g,a⟩ | ⟨g,a⟩
 ·have h:[[.p (.int .u8 (IntKind.u8.wrap (IntKind.i64.wrap ((IntKind.i64.wrap ((32:Int) * b))+(25:Int)))))]]=rowsOf (encI .u8) ([(IntKind.u8.wrap (IntKind.i64.wrap ((IntKind.i64.wrap ((32:Int) * b))+(25:Int))))]:List Int):=rfl
  have i:List.map (tell [0]) (rowsOf (encI .u8) ([(IntKind.u8.wrap (IntKind.i64.wrap ((IntKind.i64.wrap ((32:Int) * b))+(25:Int))))]:List Int))=rowsOf (encI .u8) ([(IntKind.u8.wrap (IntKind.i64.wrap ((IntKind.i64.wrap ((32:Int) * b))+(25:Int))))]:List Int):=rfl
  obtain ⟨o4,j,a⟩:=bs a
  have e:=f57_ok k f 2 _ j
  cases o4 with
  | o0 l =>
   (try dsimp only at a)
   (try simp only [NM,EE,R57.st] at e)
   obtain ⟨o8,m,a⟩:=bs a
   have c:=f40b_ok k (([(IntKind.u8.wrap (IntKind.i64.wrap ((IntKind.i64.wrap ((32:Int) * b))+(25:Int))))]:List Int)) l _ m
   cases o8 with
   | o0 o =>
    (try dsimp only at a)
    (try simp only [NM,EE,R40b.st] at c)
    cases a
    simp (disch:=first|apply D;decide|apply K;kernel_rfl) only [W,simprocAttr,xk B39 [2,2,1,2,2,2] .sq rfl,rg B39 [1,2,2,1,2,2,2] 6 false rfl,hr 39 6 rfl,t_3,t_5,convV,buildSliceV,fillRows,sm_5,t_22,callStep,CL,gv,List.contains,xk B39 [2,2,2,1,2,2,2] .rt rfl,fin39,R39.st,g,h,i,e,c]
 ·have hJ:=f39_j3_ok k b f false _ a
  simp (disch:=first|apply D;decide|apply K;kernel_rfl) only [W,simprocAttr,xk B39 [3,2,1,2,2,2] .sk rfl,g]
  try simp only [NM,EE] at hJ
  exact hJ
noncomputable def f39_j1 (k:Nat) (b a:Int) (c:Bool):Option R39 :=
 cond ((decide (a<256)))
  (some (.o0 (([(IntKind.u8.wrap (IntKind.i64.wrap ((IntKind.i64.wrap ((32:Int) * b))+(24:Int)))),(IntKind.u8.wrap a)]:List Int))))
  (f39_j2 k b a false)
theorem f39_j1_ok (k a b e r) (c:f39_j1 k a b e=some r):finK Tryd.prog Tryd.f39 0 (EX 39 k (nav B39 [2,2]) (⟨51,[(0,jI a),(1,jL b),(6,jT e)],[]⟩:St))=some r.st:=by
 unfold f39_j1 at c
 simp (disch:=first|apply D;decide|apply K;kernel_rfl) only [W,simprocAttr,xk B39 [2,2] .sq rfl,xk B39 [1,2,2] .sq rfl,rg B39 [1,1,2,2] 3 false rfl,hr 39 3 rfl,xk B39 [2,1,2,2] (.cd 15) rfl]
 rcases cond_some c with ⟨d,c⟩ | ⟨d,c⟩
 ·have f:[[.p (.int .u8 (IntKind.u8.wrap (IntKind.i64.wrap ((IntKind.i64.wrap ((32:Int) * a))+(24:Int)))))],[.p (.int .u8 (IntKind.u8.wrap b))]]=rowsOf (encI .u8) ([(IntKind.u8.wrap (IntKind.i64.wrap ((IntKind.i64.wrap ((32:Int) * a))+(24:Int)))),(IntKind.u8.wrap b)]:List Int):=rfl
  have g:List.map (tell [0]) (rowsOf (encI .u8) ([(IntKind.u8.wrap (IntKind.i64.wrap ((IntKind.i64.wrap ((32:Int) * a))+(24:Int)))),(IntKind.u8.wrap b)]:List Int))=rowsOf (encI .u8) ([(IntKind.u8.wrap (IntKind.i64.wrap ((IntKind.i64.wrap ((32:Int) * a))+(24:Int)))),(IntKind.u8.wrap b)]:List Int):=rfl
  cases c
  simp (disch:=first|apply D;decide|apply K;kernel_rfl) only [W,simprocAttr,xk B39 [2,2,1,2,2] .sq rfl,rg B39 [1,2,2,1,2,2] 4 false rfl,hr 39 4 rfl,t_3,t_5,convV,t_47,buildSliceV,fillRows,sm_5,t_22,xk B39 [2,2,2,1,2,2] .rt rfl,fin39,R39.st,d,f,g]
 ·have hJ:=f39_j2_ok k a b false _ c
  simp (disch:=first|apply D;decide|apply K;kernel_rfl) only [W,simprocAttr,xk B39 [3,2,1,2,2] .sk rfl,d]
  try simp only [NM,EE] at hJ
  exact hJ
noncomputable def f39_e (k:Nat) (b a:Int):Option R39 :=
 cond ((decide (a<24)))
  (some (.o0 (([(IntKind.u8.wrap (IntKind.i64.wrap ((IntKind.i64.wrap ((32:Int) * b))+(IntKind.i64.wrap a))))]:List Int))))
  (f39_j1 k b a false)
theorem f39_e_ok (k a b r) (c:f39_e k a b=some r):finK Tryd.prog Tryd.f39 0 (EX 39 k (nav B39 []) (⟨51,[(0,jI a),(1,jL b)],[]⟩:St))=some r.st:=by
 unfold f39_e at c
 simp (disch:=first|apply D;decide|apply K;kernel_rfl) only [W,simprocAttr,xk B39 [] .sq rfl,rg B39 [1] 0 false rfl,hr 39 0 rfl,xk B39 [2] .sq rfl,xk B39 [1,2] .sq rfl,rg B39 [1,1,2] 1 false rfl,hr 39 1 rfl,xk B39 [2,1,2] (.cd 6) rfl]
 rcases cond_some c with ⟨d,c⟩ | ⟨d,c⟩
 ·have e:[[.p (.int .u8 (IntKind.u8.wrap (IntKind.i64.wrap ((IntKind.i64.wrap ((32:Int) * a))+(IntKind.i64.wrap b)))))]]=rowsOf (encI .u8) ([(IntKind.u8.wrap (IntKind.i64.wrap ((IntKind.i64.wrap ((32:Int) * a))+(IntKind.i64.wrap b))))]:List Int):=rfl
  have f:List.map (tell [0]) (rowsOf (encI .u8) ([(IntKind.u8.wrap (IntKind.i64.wrap ((IntKind.i64.wrap ((32:Int) * a))+(IntKind.i64.wrap b))))]:List Int))=rowsOf (encI .u8) ([(IntKind.u8.wrap (IntKind.i64.wrap ((IntKind.i64.wrap ((32:Int) * a))+(IntKind.i64.wrap b))))]:List Int):=rfl
  cases c
  simp (disch:=first|apply D;decide|apply K;kernel_rfl) only [W,simprocAttr,xk B39 [2,2,1,2] .sq rfl,rg B39 [1,2,2,1,2] 2 false rfl,hr 39 2 rfl,t_47,t_3,convV,t_5,buildSliceV,fillRows,sm_5,t_22,xk B39 [2,2,2,1,2] .rt rfl,fin39,R39.st,d,e,f]
 ·have hJ:=f39_j1_ok k a b false _ c
  simp (disch:=first|apply D;decide|apply K;kernel_rfl) only [W,simprocAttr,xk B39 [3,2,1,2] .sk rfl,d]
  try simp only [NM,EE] at hJ
  exact hJ
noncomputable def f39 (k:Nat) (a b:Int):Option R39:=match k with | 0=>none | k+1=>f39_e k a b
theorem f39_ok (k a b r) (d:f39 k a b=some r):CV k 39 [jI a,jL b] []=some r.st:=by
 cases k with
 | zero=>cases d
 | succ k =>
  unfold CV
  rw [ev_call (F:=Tryd.f39) (c:=(nav B39 [])) rfl Tryd.func39 rfl rfl rfl rfl]
  exact f39_e_ok k a b r d
end Go.Proofs.YtbnnmplkbpgcaaaDoorV