/- What the program's functions answer: plain functions,and that the interpreter answers what they do. Written by a program of this session,out of the translation. -/
import Derived.Test.YtlelaenalbkbmaaDoorVP3
namespace Go.Proofs.YtlelaenalbkbmaaDoorV
open Go
set_option linter.unusedVariables false
set_option linter.unusedSimpArgs false
set_option maxRecDepth 8000
set_option maxHeartbeats 4000000
-- f22b: f22 heliograph/cbor.put
inductive R22b where
 | o0 (y:List Int)
noncomputable def R22b.st:R22b→V×List O×List O
 | .o0 y=>(.own 2000000,[.dead],[.row true 1 5 (rowsOf (encI .u8) y)])
inductive R22b_l1 where
 | o0 (y:List T28) (a b:Int) (c:List Int)
 | o1 (y:List T28) (a b:Int) (c:Bool) (d:List Int)
noncomputable def R22b_l1.st:R22b_l1→Out×St
 | .o0 y a b c=>(.norm,(⟨51,[(0,.own 38),(30,.sl 4 (rowsOf encT28 y)),(31,jI a),(32,jI b)],[(38,.row true 1 5 (rowsOf (encI .u8) c)),(1000000,.dead)]⟩:St))
 | .o1 y a b c d=>(.exit 1,(⟨51,[(0,.own 30000),(30,.sl 4 (rowsOf encT28 y)),(31,jI a),(32,jI b),(33,.p (.bool c))],[(30000,.row true 1 5 (rowsOf (encI .u8) d)),(1000000,.dead)]⟩:St))
noncomputable def f22b_l1_j2 (k:Nat) (q_f22_oaiirrz_w:Int→Int→(List Int)→(List T28)→(List Int)→Option R22b) (a:List T28) (b c:Int) (d:List Int):Option R22b_l1 :=
 some (.o0 a b (IntKind.i64.wrap (c+(1:Int))) d)
theorem f22b_l1_j2_ok (k:Nat) (q_f22_oaiirrz_w:Int→Int→(List Int)→(List T28)→(List Int)→Option R22b) (hq_f22_oaiirrz_w:∀ (h a:Int) (b:List Int) (c:List T28) (i:List Int) (r:R22b),q_f22_oaiirrz_w h a b c i=some r→CV k 22 [.own 1000000,.agg [jI h,.p (.int .u64 a),.sl 1 (rowsOf (encI .u8) b),.sl 4 (rowsOf encT28 c)]] [.row true 1 5 (rowsOf (encI .u8) i)]=some r.st) (d:List T28) (e f:Int) (g:List Int) (r:R22b_l1) (j:f22b_l1_j2 k q_f22_oaiirrz_w d e f g=some r):EX 22 k (nav B22 [2,2,2,1,2,2,1,2,2,2,3,2,2,2,1,2,2]) (⟨51,[(0,.own 38),(30,.sl 4 (rowsOf encT28 d)),(31,jI e),(32,jI f)],[(38,.row true 1 5 (rowsOf (encI .u8) g)),(1000000,.dead)]⟩:St)=some r.st:=by
 unfold f22b_l1_j2 at j
 cases j
 simp (disch:=first|apply D;decide|apply K;kernel_rfl) only [E,EE,↓reduceIte,simprocAttr,rg B22 [2,2,2,1,2,2,1,2,2,2,3,2,2,2,1,2,2] 11 false rfl,hr 22 11 rfl,R22b_l1.st]
noncomputable def f22b_l1_j1 (k:Nat) (q_f22_oaiirrz_w:Int→Int→(List Int)→(List T28)→(List Int)→Option R22b) (b:List T28) (d a:Int) (f:Bool) (e:List Int):Option R22b_l1 :=
 ifE ((0:Int)≤a) (
  Option.bind (b[(Int.toNat a)]?) fun c =>
   Option.bind (q_f22_oaiirrz_w c.Kind c.Num c.Bytes c.Items e) fun o4 =>
    match o4 with
    | .o0 g =>
     f22b_l1_j2 k q_f22_oaiirrz_w b d a g)
theorem f22b_l1_j1_ok (k:Nat) (q_f22_oaiirrz_w:Int→Int→(List Int)→(List T28)→(List Int)→Option R22b) (hq_f22_oaiirrz_w:∀ (m b:Int) (c:List Int) (d:List T28) (o:List Int) (r:R22b),q_f22_oaiirrz_w m b c d o=some r→CV k 22 [.own 1000000,.agg [jI m,.p (.int .u64 b),.sl 1 (rowsOf (encI .u8) c),.sl 4 (rowsOf encT28 d)]] [.row true 1 5 (rowsOf (encI .u8) o)]=some r.st) (e:List T28) (f g:Int) (i:Bool) (h:List Int) (r:R22b_l1) (a:f22b_l1_j1 k q_f22_oaiirrz_w e f g i h=some r):EX 22 k (nav B22 [2,2,1,2,2,1,2,2,2,3,2,2,2,1,2,2]) (⟨51,[(0,.own 30000),(30,.sl 4 (rowsOf encT28 e)),(31,jI f),(32,jI g),(33,.p (.bool i))],[(30000,.row true 1 5 (rowsOf (encI .u8) h)),(1000000,.dead)]⟩:St)=some r.st:=by
 unfold f22b_l1_j1 at a
 obtain ⟨p,a⟩:=ifE_some.1 a
 obtain ⟨l,q,a⟩:=bs a
 obtain ⟨o4,s,a⟩:=bs a
 have j:=hq_f22_oaiirrz_w l.Kind l.Num l.Bytes l.Items h _ s
 cases o4 with
 | o0 t =>
  (try dsimp only at a)
  (try simp only [NM,EE,R22b.st] at j)
  have hJ:=f22b_l1_j2_ok k q_f22_oaiirrz_w hq_f22_oaiirrz_w e f g t _ a
  simp (disch:=first|apply D;decide|apply K;kernel_rfl) only [E,EE,↓reduceIte,simprocAttr,xk B22 [2,2,1,2,2,1,2,2,2,3,2,2,2,1,2,2] .sq rfl,xk B22 [1,2,2,1,2,2,1,2,2,2,3,2,2,2,1,2,2] (.bk 2) rfl,xk B22 [2,1,2,2,1,2,2,1,2,2,2,3,2,2,2,1,2,2] .sq rfl,rg B22 [1,2,1,2,2,1,2,2,1,2,2,2,3,2,2,2,1,2,2] 9 false rfl,hr 22 9 rfl,indexAddrV,t_26,t_28,encT28_eq,rg B22 [2,2,1,2,2,1,2,2,1,2,2,2,3,2,2,2,1,2,2] 10 false rfl,hr 22 10 rfl,callStep,CL,gv,List.contains,p,q,j]
  try simp only [NM,EE] at hJ
  exact hJ
noncomputable def f22b_l1_b (k:Nat) (q_f22_oaiirrz_w:Int→Int→(List Int)→(List T28)→(List Int)→Option R22b) (c:List T28) (a b:Int) (d:List Int):Option R22b_l1 :=
 cond ((decide (b<a)))
  (f22b_l1_j1 k q_f22_oaiirrz_w c a b true d)
  (some (.o1 c a b false d))
theorem f22b_l1_b_ok (k:Nat) (q_f22_oaiirrz_w:Int→Int→(List Int)→(List T28)→(List Int)→Option R22b) (hq_f22_oaiirrz_w:∀ (j a:Int) (b:List Int) (c:List T28) (l:List Int) (r:R22b),q_f22_oaiirrz_w j a b c l=some r→CV k 22 [.own 1000000,.agg [jI j,.p (.int .u64 a),.sl 1 (rowsOf (encI .u8) b),.sl 4 (rowsOf encT28 c)]] [.row true 1 5 (rowsOf (encI .u8) l)]=some r.st) (d:List T28) (e f:Int) (g:List Int) (r:R22b_l1) (h:f22b_l1_b k q_f22_oaiirrz_w d e f g=some r):EX 22 k (nav B22 [1,2,2,1,2,2,2,3,2,2,2,1,2,2]) (⟨51,[(0,.own 30000),(30,.sl 4 (rowsOf encT28 d)),(31,jI e),(32,jI f)],[(30000,.row true 1 5 (rowsOf (encI .u8) g)),(1000000,.dead)]⟩:St)=some r.st:=by
 unfold f22b_l1_b at h
 simp (disch:=first|apply D;decide|apply K;kernel_rfl) only [E,EE,↓reduceIte,simprocAttr,xk B22 [1,2,2,1,2,2,2,3,2,2,2,1,2,2] .sq rfl,rg B22 [1,1,2,2,1,2,2,2,3,2,2,2,1,2,2] 8 false rfl,hr 22 8 rfl,xk B22 [2,1,2,2,1,2,2,2,3,2,2,2,1,2,2] .sq rfl,xk B22 [1,2,1,2,2,1,2,2,2,3,2,2,2,1,2,2] (.cd 33) rfl]
 rcases cond_some h with ⟨i,h⟩ | ⟨i,h⟩
 ·have hJ:=f22b_l1_j1_ok k q_f22_oaiirrz_w hq_f22_oaiirrz_w d e f true g _ h
  simp (disch:=first|apply D;decide|apply K;kernel_rfl) only [E,EE,↓reduceIte,simprocAttr,xk B22 [2,1,2,1,2,2,1,2,2,2,3,2,2,2,1,2,2] .sk rfl,i]
  try simp only [NM,EE] at hJ
  exact hJ
 ·cases h
  simp (disch:=first|apply D;decide|apply K;kernel_rfl) only [E,EE,↓reduceIte,simprocAttr,xk B22 [3,1,2,1,2,2,1,2,2,2,3,2,2,2,1,2,2] (.ex 1) rfl,R22b_l1.st,i]
noncomputable def f22b_l1 (k:Nat) (q_f22_oaiirrz_w:Int→Int→(List Int)→(List T28)→(List Int)→Option R22b):Nat→(List T28)→Int→Int→(List Int)→Option R22b_l1
 | 0,_,_,_,_=>none
 | n+1,d,e,f,g=>Option.bind (f22b_l1_b k q_f22_oaiirrz_w d e f g) fun o =>
  match o with
  | .o0 y a b c=>f22b_l1 k q_f22_oaiirrz_w n y a b c
  | .o1 y a b c h=>some (.o1 y a b c h)
theorem f22b_l1_ok (k:Nat) (q_f22_oaiirrz_w:Int→Int→(List Int)→(List T28)→(List Int)→Option R22b) (hq_f22_oaiirrz_w:∀ (p e:Int) (f:List Int) (g:List T28) (q:List Int) (r:R22b),q_f22_oaiirrz_w p e f g q=some r→CV k 22 [.own 1000000,.agg [jI p,.p (.int .u64 e),.sl 1 (rowsOf (encI .u8) f),.sl 4 (rowsOf encT28 g)]] [.row true 1 5 (rowsOf (encI .u8) q)]=some r.st) (n:Nat):∀ (a:List T28) (b c:Int) (d:List Int) (r:R22b_l1) (i:f22b_l1 k q_f22_oaiirrz_w n a b c d=some r) (σ:St) (hσ:headR (hints.head 22 8) (hints.canon 22 8) σ=some (⟨51,[(0,.own 30000),(30,.sl 4 (rowsOf encT28 a)),(31,jI b),(32,jI c)],[(30000,.row true 1 5 (rowsOf (encI .u8) d)),(1000000,.dead)]⟩:St)),LP 22 k (nav B22 [1,2,2,1,2,2,2,3,2,2,2,1,2,2]) n σ=some r.st:=by
 induction n with
 | zero=>intro a b c d r i;cases i
 | succ n s =>
  intro a b c d r i σ hσ
  rw [f22b_l1] at i
  obtain ⟨o,h,i⟩:=Option.bind_eq_some_iff.1 i
  have hB:=f22b_l1_b_ok k q_f22_oaiirrz_w hq_f22_oaiirrz_w a b c d o h
  unfold LP at s ⊢
  unfold EX at hB
  rw [loopK_succ,show firstReg (nav B22 [1,2,2,1,2,2,2,3,2,2,2,1,2,2])=8 from rfl,hσ,headK_some,hB]
  cases o with
  | o0 y j l m =>
   refine s y j l m r i _ ?_
   simp (disch:=first|apply D;decide|apply K;kernel_rfl) only [E,EE,↓reduceIte,simprocAttr,hh_22_8,hc_22_8]
  | o1 y j l m t=>cases i;rfl
noncomputable def f22b_j2 (k:Nat) (q_f22_oaiirrz_w:Int→Int→(List Int)→(List T28)→(List Int)→Option R22b) (b:List T28) (c d:Int) (e:Bool) (a:List Int):Option R22b :=
 some (.o0 a)
theorem f22b_j2_ok (k:Nat) (q_f22_oaiirrz_w:Int→Int→(List Int)→(List T28)→(List Int)→Option R22b) (hq_f22_oaiirrz_w:∀ (i a:Int) (b:List Int) (c:List T28) (j:List Int) (r:R22b),q_f22_oaiirrz_w i a b c j=some r→CV k 22 [.own 1000000,.agg [jI i,.p (.int .u64 a),.sl 1 (rowsOf (encI .u8) b),.sl 4 (rowsOf encT28 c)]] [.row true 1 5 (rowsOf (encI .u8) j)]=some r.st) (d:List T28) (e f:Int) (g:Bool) (h:List Int) (r:R22b) (l:f22b_j2 k q_f22_oaiirrz_w d e f g h=some r):finK Tryd.prog Tryd.f22 1 (SQ 22 k (nav B22 [2,2,2]) (blockK 0 (EX 22 k (nav B22 [2,2,2,2,3,2,2,2,1,2,2]) (⟨51,[(0,.own 30000),(30,.sl 4 (rowsOf encT28 d)),(31,jI e),(32,jI f),(33,.p (.bool g))],[(30000,.row true 1 5 (rowsOf (encI .u8) h)),(1000000,.dead)]⟩:St))))=some r.st:=by
 unfold f22b_j2 at l
 cases l
 simp (disch:=first|apply D;decide|apply K;kernel_rfl) only [E,EE,↓reduceIte,simprocAttr,xk B22 [2,2,2,2,3,2,2,2,1,2,2] .sq rfl,rg B22 [1,2,2,2,2,3,2,2,2,1,2,2] 12 false rfl,hr 22 12 rfl,xk B22 [2,2,2,2,2,3,2,2,2,1,2,2] .rt rfl,fin22,R22b.st]
noncomputable def f22b_j3 (k:Nat) (q_f22_oaiirrz_w:Int→Int→(List Int)→(List T28)→(List Int)→Option R22b) (e:Int) (f:Bool) (g:List Int) (h b:Int) (a:List Int) (c:List T28):Option R22b :=
 Option.bind (f35 k e (IntKind.u64.wrap ((List.length a):Int)) g) fun o1 =>
  match o1 with
  | .o0 d =>
   ifE (((List.length d)+(List.length a))≤roomy) (
    some (.o0 (d++a)))
theorem f22b_j3_ok (k:Nat) (q_f22_oaiirrz_w:Int→Int→(List Int)→(List T28)→(List Int)→Option R22b) (hq_f22_oaiirrz_w:∀ (m b:Int) (c:List Int) (d:List T28) (h:List Int) (r:R22b),q_f22_oaiirrz_w m b c d h=some r→CV k 22 [.own 1000000,.agg [jI m,.p (.int .u64 b),.sl 1 (rowsOf (encI .u8) c),.sl 4 (rowsOf encT28 d)]] [.row true 1 5 (rowsOf (encI .u8) h)]=some r.st) (l:Int) (i:Bool) (h:List Int) (o e:Int) (a:List Int) (f:List T28) (r:R22b) (g:f22b_j3 k q_f22_oaiirrz_w l i h o e a f=some r):finK Tryd.prog Tryd.f22 1 (EX 22 k (nav B22 [2,2,2]) (⟨51,[(0,.own 1000000),(3,.ptr 3 0),(5,.p (.int .u8 l)),(20,.p (.bool i))],[(1000000,.row true 1 5 (rowsOf (encI .u8) h)),(3,.box 28 [jI o,.p (.int .u64 e),.sl 1 (rowsOf (encI .u8) a),.sl 4 (rowsOf encT28 f)])]⟩:St))=some r.st:=by
 unfold f22b_j3 at g
 obtain ⟨o1,p,g⟩:=bs g
 have j:=f35_ok k l (IntKind.u64.wrap ((List.length a):Int)) h _ p
 cases o1 with
 | o0 s =>
  (try dsimp only at g)
  (try simp only [NM,EE,R35.st] at j)
  obtain ⟨q,g⟩:=ifE_some.1 g
  cases g
  simp (disch:=first|apply D;decide|apply K;kernel_rfl) only [E,EE,↓reduceIte,simprocAttr,xk B22 [2,2,2] .sq rfl,rg B22 [1,2,2,2] 13 true rfl,hr 22 13 rfl,fieldAddrV,t_28,t_25,t_3,t_24,convV,callStep,CL,gv,List.contains,appendV,content,t_5,xk B22 [2,2,2,2] .rt rfl,fin22,R22b.st,j,q]
noncomputable def f22b_e (k:Nat) (q_f22_oaiirrz_w:Int→Int→(List Int)→(List T28)→(List Int)→Option R22b) (d b:Int) (c:List Int) (a:List T28) (e:List Int):Option R22b :=
 Option.bind (f34 k d) fun o1 =>
  match o1 with
  | .o0 f =>
   cond ((d==1))
    (
     Option.bind (f35 k f b e) fun o6 =>
      match o6 with
      | .o0 o =>
       some (.o0 o))
    (
     cond ((d==4))
      (
       Option.bind (f35 k f (IntKind.u64.wrap ((List.length a):Int)) e) fun o11 =>
        match o11 with
        | .o0 g =>
         Option.bind (f22b_l1 k q_f22_oaiirrz_w k a ((List.length a):Int) 0 g) fun o15 =>
          match o15 with
          | .o0 _ _ _ _ =>
           none
          | .o1 h i j l m =>
           f22b_j2 k q_f22_oaiirrz_w h i j l m)
      (f22b_j3 k q_f22_oaiirrz_w f false e d b c a))
theorem f22b_e_ok (k:Nat) (q_f22_oaiirrz_w:Int→Int→(List Int)→(List T28)→(List Int)→Option R22b) (hq_f22_oaiirrz_w:∀ (j c:Int) (d:List Int) (a:List T28) (i:List Int) (r:R22b),q_f22_oaiirrz_w j c d a i=some r→CV k 22 [.own 1000000,.agg [jI j,.p (.int .u64 c),.sl 1 (rowsOf (encI .u8) d),.sl 4 (rowsOf encT28 a)]] [.row true 1 5 (rowsOf (encI .u8) i)]=some r.st) (j c:Int) (d:List Int) (a:List T28) (i:List Int) (r:R22b) (b:f22b_e k q_f22_oaiirrz_w j c d a i=some r):finK Tryd.prog Tryd.f22 1 (EX 22 k (nav B22 []) (⟨51,[(0,.own 1000000),(1,.agg [jI j,.p (.int .u64 c),.sl 1 (rowsOf (encI .u8) d),.sl 4 (rowsOf encT28 a)])],[(1000000,.row true 1 5 (rowsOf (encI .u8) i))]⟩:St))=some r.st:=by
 unfold f22b_e at b
 obtain ⟨o1,y,b⟩:=bs b
 have e:=f34_ok k j _ y
 cases o1 with
 | o0 o =>
  (try dsimp only at b)
  (try simp only [NM,EE,R34.st] at e)
  simp (disch:=first|apply D;decide|apply K;kernel_rfl) only [E,EE,↓reduceIte,simprocAttr,xk B22 [] .sq rfl,rg B22 [1] 0 false rfl,hr_22_0,xk B22 [2] .sq rfl,rg B22 [1,2] 1 false rfl,hr 22 1 rfl,fieldAddrV,t_28,t_3,callStep,CL,gv,List.contains,xk B22 [2,2] .sq rfl,xk B22 [1,2,2] .sq rfl,rg B22 [1,1,2,2] 2 false rfl,hr 22 2 rfl,xk B22 [2,1,2,2] (.bk 0) rfl,xk B22 [2,2,1,2,2] .sq rfl,rg B22 [1,2,2,1,2,2] 3 false rfl,hr 22 3 rfl,xk B22 [2,2,2,1,2,2] (.cd 13) rfl,e]
  rcases cond_some b with ⟨l,b⟩ | ⟨l,b⟩
  ·obtain ⟨o6,z,b⟩:=bs b
   have m:=f35_ok k o c i _ z
   cases o6 with
   | o0 n =>
    (try dsimp only at b)
    (try simp only [NM,EE,R35.st] at m)
    cases b
    simp (disch:=first|apply D;decide|apply K;kernel_rfl) only [E,EE,↓reduceIte,simprocAttr,xk B22 [2,2,2,2,1,2,2] .sq rfl,rg B22 [1,2,2,2,2,1,2,2] 4 false rfl,hr 22 4 rfl,fieldAddrV,t_28,t_24,callStep,CL,gv,List.contains,xk B22 [2,2,2,2,2,1,2,2] .rt rfl,fin22,R22b.st,e,l,m]
  ·simp (disch:=first|apply D;decide|apply K;kernel_rfl) only [E,EE,↓reduceIte,simprocAttr,xk B22 [3,2,2,2,1,2,2] .sq rfl,rg B22 [1,3,2,2,2,1,2,2] 5 false rfl,hr 22 5 rfl,xk B22 [2,3,2,2,2,1,2,2] (.cd 20) rfl,e,l]
   rcases cond_some b with ⟨g,b⟩ | ⟨g,b⟩
   ·obtain ⟨o11,p,b⟩:=bs b
    have f:=f35_ok k o (IntKind.u64.wrap ((List.length a):Int)) i _ p
    cases o11 with
    | o0 q =>
     (try dsimp only at b)
     (try simp only [NM,EE,R35.st] at f)
     obtain ⟨o15,s,b⟩:=bs b
     have h:=f22b_l1_ok k q_f22_oaiirrz_w hq_f22_oaiirrz_w k a ((List.length a):Int) 0 q _ s
     simp (disch:=first|apply D;decide|apply K;kernel_rfl) only [E,EE,↓reduceIte,simprocAttr,xk B22 [2,2,3,2,2,2,1,2,2] .sq rfl,rg B22 [1,2,2,3,2,2,2,1,2,2] 6 false rfl,hr 22 6 rfl,fieldAddrV,t_28,t_26,t_3,t_24,convV,callStep,CL,gv,List.contains,xk B22 [2,2,2,3,2,2,2,1,2,2] .sq rfl,xk B22 [1,2,2,2,3,2,2,2,1,2,2] .sq rfl,rg B22 [1,1,2,2,2,3,2,2,2,1,2,2] 7 false rfl,hr 22 7 rfl,xk B22 [2,1,2,2,2,3,2,2,2,1,2,2] (.bk 1) rfl,xk B22 [2,2,1,2,2,2,3,2,2,2,1,2,2] .lp rfl,hh_22_8,hc_22_8,e,l,g,f]
     (try simp only [NM,EE] at h)
     rw [h _ (by simp (disch:=first|apply D;decide|apply K;kernel_rfl) only [E,EE,↓reduceIte,simprocAttr,hh_22_8,hc_22_8,e,l,g,f])]
     clear h
     cases o15 with
     | o0 _ _ _ _ =>
      (try dsimp only at b)
      cases b
     | o1 t u v w x =>
      (try dsimp only at b)
      have hJ:=f22b_j2_ok k q_f22_oaiirrz_w hq_f22_oaiirrz_w t u v w x _ b
      simp (disch:=first|apply D;decide|apply K;kernel_rfl) only [E,EE,↓reduceIte,simprocAttr,R22b_l1.st,e,l,g,f]
      try simp only [NM,EE] at hJ
      exact hJ
   ·have hJ:=f22b_j3_ok k q_f22_oaiirrz_w hq_f22_oaiirrz_w o false i j c d a _ b
    simp (disch:=first|apply D;decide|apply K;kernel_rfl) only [E,EE,↓reduceIte,simprocAttr,xk B22 [3,2,3,2,2,2,1,2,2] .sk rfl,e,l,g]
    try simp only [NM,EE] at hJ
    exact hJ
noncomputable def f22b:Nat→Int→Int→(List Int)→(List T28)→(List Int)→Option R22b
 | 0,_,_,_,_,_=>none
 | k+1,d,a,b,c,e=>f22b_e k (f22b k) d a b c e
theorem f22b_all (k:Nat):(∀ (e a:Int) (b:List Int) (d:List T28) (f:List Int) (r:R22b),f22b k e a b d f=some r→CV k 22 [.own 1000000,.agg [jI e,.p (.int .u64 a),.sl 1 (rowsOf (encI .u8) b),.sl 4 (rowsOf encT28 d)]] [.row true 1 5 (rowsOf (encI .u8) f)]=some r.st):=by
 induction k with
 | zero=>exact (by intro e a b d f r g;rw [f22b] at g;cases g)
 | succ k h =>
  have ih_f22_oaiirrz_w:=h
  exact (by intro e a b d f r g;rw [f22b] at g;unfold CV;rw [ev_call (F:=Tryd.f22) (c:=(nav B22 [])) rfl Tryd.func22 rfl rfl rfl rfl];exact f22b_e_ok k (f22b k) ih_f22_oaiirrz_w e a b d f r g)
theorem f22b_ok (k d a b c e r) (f:f22b k d a b c e=some r):CV k 22 [.own 1000000,.agg [jI d,.p (.int .u64 a),.sl 1 (rowsOf (encI .u8) b),.sl 4 (rowsOf encT28 c)]] [.row true 1 5 (rowsOf (encI .u8) e)]=some r.st:=f22b_all k d a b c e r f
-- f22a: f22 heliograph/cbor.put
inductive R22a where
 | o0 (y:List Int)
noncomputable def R22a.st:R22a→V×List O×List O
 | .o0 y=>(.own 2000000,[],[.row true 1 5 (rowsOf (encI .u8) y)])
inductive R22a_l1 where
 | o0 (y:List T28) (a b:Int) (c:List Int)
 | o1 (y:List T28) (a b:Int) (c:Bool) (d:List Int)
noncomputable def R22a_l1.st:R22a_l1→Out×St
 | .o0 y a b c=>(.norm,(⟨51,[(0,.own 38),(30,.sl 4 (rowsOf encT28 y)),(31,jI a),(32,jI b)],[(38,.row true 1 5 (rowsOf (encI .u8) c))]⟩:St))
 | .o1 y a b c d=>(.exit 1,(⟨51,[(0,.own 30000),(30,.sl 4 (rowsOf encT28 y)),(31,jI a),(32,jI b),(33,.p (.bool c))],[(30000,.row true 1 5 (rowsOf (encI .u8) d))]⟩:St))
noncomputable def f22a_l1_j2 (k:Nat) (a:List T28) (b c:Int) (d:List Int):Option R22a_l1 :=
 some (.o0 a b (IntKind.i64.wrap (c+(1:Int))) d)
theorem f22a_l1_j2_ok (k a b c d r) (e:f22a_l1_j2 k a b c d=some r):EX 22 k (nav B22 [2,2,2,1,2,2,1,2,2,2,3,2,2,2,1,2,2]) (⟨51,[(0,.own 38),(30,.sl 4 (rowsOf encT28 a)),(31,jI b),(32,jI c)],[(38,.row true 1 5 (rowsOf (encI .u8) d))]⟩:St)=some r.st:=by
 unfold f22a_l1_j2 at e
 cases e
 simp (disch:=first|apply D;decide|apply K;kernel_rfl) only [E,EE,↓reduceIte,simprocAttr,rg B22 [2,2,2,1,2,2,1,2,2,2,3,2,2,2,1,2,2] 11 false rfl,hr 22 11 rfl,R22a_l1.st]
noncomputable def f22a_l1_j1 (k:Nat) (b:List T28) (d a:Int) (f:Bool) (e:List Int):Option R22a_l1 :=
 ifE ((0:Int)≤a) (
  Option.bind (b[(Int.toNat a)]?) fun c =>
   Option.bind (f22b k c.Kind c.Num c.Bytes c.Items e) fun o4 =>
    match o4 with
    | .o0 g =>
     f22a_l1_j2 k b d a g)
theorem f22a_l1_j1_ok (k b c d f e r) (a:f22a_l1_j1 k b c d f e=some r):EX 22 k (nav B22 [2,2,1,2,2,1,2,2,2,3,2,2,2,1,2,2]) (⟨51,[(0,.own 30000),(30,.sl 4 (rowsOf encT28 b)),(31,jI c),(32,jI d),(33,.p (.bool f))],[(30000,.row true 1 5 (rowsOf (encI .u8) e))]⟩:St)=some r.st:=by
 unfold f22a_l1_j1 at a
 obtain ⟨i,a⟩:=ifE_some.1 a
 obtain ⟨h,j,a⟩:=bs a
 obtain ⟨o4,l,a⟩:=bs a
 have g:=f22b_ok k h.Kind h.Num h.Bytes h.Items e _ l
 cases o4 with
 | o0 m =>
  (try dsimp only at a)
  (try simp only [NM,EE,R22b.st] at g)
  have hJ:=f22a_l1_j2_ok k b c d m _ a
  simp (disch:=first|apply D;decide|apply K;kernel_rfl) only [E,EE,↓reduceIte,simprocAttr,xk B22 [2,2,1,2,2,1,2,2,2,3,2,2,2,1,2,2] .sq rfl,xk B22 [1,2,2,1,2,2,1,2,2,2,3,2,2,2,1,2,2] (.bk 2) rfl,xk B22 [2,1,2,2,1,2,2,1,2,2,2,3,2,2,2,1,2,2] .sq rfl,rg B22 [1,2,1,2,2,1,2,2,1,2,2,2,3,2,2,2,1,2,2] 9 false rfl,hr 22 9 rfl,indexAddrV,t_26,t_28,encT28_eq,rg B22 [2,2,1,2,2,1,2,2,1,2,2,2,3,2,2,2,1,2,2] 10 false rfl,hr 22 10 rfl,callStep,CL,gv,List.contains,i,j,g]
  try simp only [NM,EE] at hJ
  exact hJ
noncomputable def f22a_l1_b (k:Nat) (c:List T28) (a b:Int) (d:List Int):Option R22a_l1 :=
 cond ((decide (b<a)))
  (f22a_l1_j1 k c a b true d)
  (some (.o1 c a b false d))
theorem f22a_l1_b_ok (k a b c d r) (e:f22a_l1_b k a b c d=some r):EX 22 k (nav B22 [1,2,2,1,2,2,2,3,2,2,2,1,2,2]) (⟨51,[(0,.own 30000),(30,.sl 4 (rowsOf encT28 a)),(31,jI b),(32,jI c)],[(30000,.row true 1 5 (rowsOf (encI .u8) d))]⟩:St)=some r.st:=by
 unfold f22a_l1_b at e
 simp (disch:=first|apply D;decide|apply K;kernel_rfl) only [E,EE,↓reduceIte,simprocAttr,xk B22 [1,2,2,1,2,2,2,3,2,2,2,1,2,2] .sq rfl,rg B22 [1,1,2,2,1,2,2,2,3,2,2,2,1,2,2] 8 false rfl,hr 22 8 rfl,xk B22 [2,1,2,2,1,2,2,2,3,2,2,2,1,2,2] .sq rfl,xk B22 [1,2,1,2,2,1,2,2,2,3,2,2,2,1,2,2] (.cd 33) rfl]
 rcases cond_some e with ⟨f,e⟩ | ⟨f,e⟩
 ·have hJ:=f22a_l1_j1_ok k a b c true d _ e
  simp (disch:=first|apply D;decide|apply K;kernel_rfl) only [E,EE,↓reduceIte,simprocAttr,xk B22 [2,1,2,1,2,2,1,2,2,2,3,2,2,2,1,2,2] .sk rfl,f]
  try simp only [NM,EE] at hJ
  exact hJ
 ·cases e
  simp (disch:=first|apply D;decide|apply K;kernel_rfl) only [E,EE,↓reduceIte,simprocAttr,xk B22 [3,1,2,1,2,2,1,2,2,2,3,2,2,2,1,2,2] (.ex 1) rfl,R22a_l1.st,f]
noncomputable def f22a_l1 (k:Nat):Nat→(List T28)→Int→Int→(List Int)→Option R22a_l1
 | 0,_,_,_,_=>none
 | n+1,d,e,f,g=>Option.bind (f22a_l1_b k d e f g) fun o =>
  match o with
  | .o0 y a b c=>f22a_l1 k n y a b c
  | .o1 y a b c h=>some (.o1 y a b c h)
theorem f22a_l1_ok (k n:Nat):∀ (a:List T28) (b c:Int) (d:List Int) (r:R22a_l1) (e:f22a_l1 k n a b c d=some r) (σ:St) (hσ:headR (hints.head 22 8) (hints.canon 22 8) σ=some (⟨51,[(0,.own 30000),(30,.sl 4 (rowsOf encT28 a)),(31,jI b),(32,jI c)],[(30000,.row true 1 5 (rowsOf (encI .u8) d))]⟩:St)),LP 22 k (nav B22 [1,2,2,1,2,2,2,3,2,2,2,1,2,2]) n σ=some r.st:=by
 induction n with
 | zero=>intro a b c d r e;cases e
 | succ n j =>
  intro a b c d r e σ hσ
  rw [f22a_l1] at e
  obtain ⟨o,h,e⟩:=Option.bind_eq_some_iff.1 e
  have hB:=f22a_l1_b_ok k a b c d o h
  unfold LP at j ⊢
  unfold EX at hB
  rw [loopK_succ,show firstReg (nav B22 [1,2,2,1,2,2,2,3,2,2,2,1,2,2])=8 from rfl,hσ,headK_some,hB]
  cases o with
  | o0 y f g i =>
   refine j y f g i r e _ ?_
   simp (disch:=first|apply D;decide|apply K;kernel_rfl) only [E,EE,↓reduceIte,simprocAttr,hh_22_8,hc_22_8]
  | o1 y f g i l=>cases e;rfl
noncomputable def f22a_j2 (k:Nat) (b:List T28) (c d:Int) (e:Bool) (a:List Int):Option R22a :=
 some (.o0 a)
theorem f22a_j2_ok (k a b c d e r) (f:f22a_j2 k a b c d e=some r):finK Tryd.prog Tryd.f22 0 (SQ 22 k (nav B22 [2,2,2]) (blockK 0 (EX 22 k (nav B22 [2,2,2,2,3,2,2,2,1,2,2]) (⟨51,[(0,.own 30000),(30,.sl 4 (rowsOf encT28 a)),(31,jI b),(32,jI c),(33,.p (.bool d))],[(30000,.row true 1 5 (rowsOf (encI .u8) e))]⟩:St))))=some r.st:=by
 unfold f22a_j2 at f
 cases f
 simp (disch:=first|apply D;decide|apply K;kernel_rfl) only [E,EE,↓reduceIte,simprocAttr,xk B22 [2,2,2,2,3,2,2,2,1,2,2] .sq rfl,rg B22 [1,2,2,2,2,3,2,2,2,1,2,2] 12 false rfl,hr 22 12 rfl,xk B22 [2,2,2,2,2,3,2,2,2,1,2,2] .rt rfl,fin22,R22a.st]
noncomputable def f22a_j3 (k:Nat) (e:Int) (f:Bool) (g:List Int) (h b:Int) (a:List Int) (c:List T28):Option R22a :=
 Option.bind (f35 k e (IntKind.u64.wrap ((List.length a):Int)) g) fun o1 =>
  match o1 with
  | .o0 d =>
   ifE (((List.length d)+(List.length a))≤roomy) (
    some (.o0 (d++a)))
theorem f22a_j3_ok (k g e h i b a c r) (d:f22a_j3 k g e h i b a c=some r):finK Tryd.prog Tryd.f22 0 (EX 22 k (nav B22 [2,2,2]) (⟨51,[(0,.own 700000),(3,.ptr 3 0),(5,.p (.int .u8 g)),(20,.p (.bool e))],[(700000,.row true 1 5 (rowsOf (encI .u8) h)),(3,.box 28 [jI i,.p (.int .u64 b),.sl 1 (rowsOf (encI .u8) a),.sl 4 (rowsOf encT28 c)])]⟩:St))=some r.st:=by
 unfold f22a_j3 at d
 obtain ⟨o1,j,d⟩:=bs d
 have f:=f35_ok k g (IntKind.u64.wrap ((List.length a):Int)) h _ j
 cases o1 with
 | o0 m =>
  (try dsimp only at d)
  (try simp only [NM,EE,R35.st] at f)
  obtain ⟨l,d⟩:=ifE_some.1 d
  cases d
  simp (disch:=first|apply D;decide|apply K;kernel_rfl) only [E,EE,↓reduceIte,simprocAttr,xk B22 [2,2,2] .sq rfl,rg B22 [1,2,2,2] 13 true rfl,hr 22 13 rfl,fieldAddrV,t_28,t_25,t_3,t_24,convV,callStep,CL,gv,List.contains,appendV,content,t_5,xk B22 [2,2,2,2] .rt rfl,fin22,R22a.st,f,l]
noncomputable def f22a_e (k:Nat) (d b:Int) (c:List Int) (a:List T28):Option R22a :=
 Option.bind (f34 k d) fun o1 =>
  match o1 with
  | .o0 e =>
   cond ((d==1))
    (
     Option.bind (f35 k e b []) fun o6 =>
      match o6 with
      | .o0 m =>
       some (.o0 m))
    (
     cond ((d==4))
      (
       Option.bind (f35 k e (IntKind.u64.wrap ((List.length a):Int)) []) fun o11 =>
        match o11 with
        | .o0 f =>
         Option.bind (f22a_l1 k k a ((List.length a):Int) 0 f) fun o15 =>
          match o15 with
          | .o0 _ _ _ _ =>
           none
          | .o1 g h i j l =>
           f22a_j2 k g h i j l)
      (f22a_j3 k e false [] d b c a))
theorem f22a_e_ok (k l d f b r) (a:f22a_e k l d f b=some r):finK Tryd.prog Tryd.f22 0 (EX 22 k (nav B22 []) (⟨51,[(0,V.nil),(1,.agg [jI l,.p (.int .u64 d),.sl 1 (rowsOf (encI .u8) f),.sl 4 (rowsOf encT28 b)])],[]⟩:St))=some r.st:=by
 unfold f22a_e at a
 obtain ⟨o1,x,a⟩:=bs a
 have c:=f34_ok k l _ x
 cases o1 with
 | o0 m =>
  (try dsimp only at a)
  (try simp only [NM,EE,R34.st] at c)
  simp (disch:=first|apply D;decide|apply K;kernel_rfl) only [E,EE,↓reduceIte,simprocAttr,xk B22 [] .sq rfl,rg B22 [1] 0 false rfl,hr_22_0,xk B22 [2] .sq rfl,rg B22 [1,2] 1 false rfl,hr 22 1 rfl,fieldAddrV,t_28,t_3,callStep,CL,gv,List.contains,xk B22 [2,2] .sq rfl,xk B22 [1,2,2] .sq rfl,rg B22 [1,1,2,2] 2 false rfl,hr 22 2 rfl,xk B22 [2,1,2,2] (.bk 0) rfl,xk B22 [2,2,1,2,2] .sq rfl,rg B22 [1,2,2,1,2,2] 3 false rfl,hr 22 3 rfl,xk B22 [2,2,2,1,2,2] (.cd 13) rfl,c]
  rcases cond_some a with ⟨i,a⟩ | ⟨i,a⟩
  ·obtain ⟨o6,y,a⟩:=bs a
   have j:=f35_ok k m d [] _ y
   cases o6 with
   | o0 z =>
    (try dsimp only at a)
    (try simp only [NM,EE,R35.st] at j)
    cases a
    simp (disch:=first|apply D;decide|apply K;kernel_rfl) only [E,EE,↓reduceIte,simprocAttr,xk B22 [2,2,2,2,1,2,2] .sq rfl,rg B22 [1,2,2,2,2,1,2,2] 4 false rfl,hr 22 4 rfl,fieldAddrV,t_28,t_24,callStep,CL,gv,List.contains,xk B22 [2,2,2,2,2,1,2,2] .rt rfl,fin22,R22a.st,c,i,j]
  ·simp (disch:=first|apply D;decide|apply K;kernel_rfl) only [E,EE,↓reduceIte,simprocAttr,xk B22 [3,2,2,2,1,2,2] .sq rfl,rg B22 [1,3,2,2,2,1,2,2] 5 false rfl,hr 22 5 rfl,xk B22 [2,3,2,2,2,1,2,2] (.cd 20) rfl,c,i]
   rcases cond_some a with ⟨g,a⟩ | ⟨g,a⟩
   ·obtain ⟨o11,o,a⟩:=bs a
    have e:=f35_ok k m (IntKind.u64.wrap ((List.length b):Int)) [] _ o
    cases o11 with
    | o0 p =>
     (try dsimp only at a)
     (try simp only [NM,EE,R35.st] at e)
     obtain ⟨o15,q,a⟩:=bs a
     have h:=f22a_l1_ok k k b ((List.length b):Int) 0 p _ q
     simp (disch:=first|apply D;decide|apply K;kernel_rfl) only [E,EE,↓reduceIte,simprocAttr,xk B22 [2,2,3,2,2,2,1,2,2] .sq rfl,rg B22 [1,2,2,3,2,2,2,1,2,2] 6 false rfl,hr 22 6 rfl,fieldAddrV,t_28,t_26,t_3,t_24,convV,callStep,CL,gv,List.contains,xk B22 [2,2,2,3,2,2,2,1,2,2] .sq rfl,xk B22 [1,2,2,2,3,2,2,2,1,2,2] .sq rfl,rg B22 [1,1,2,2,2,3,2,2,2,1,2,2] 7 false rfl,hr 22 7 rfl,xk B22 [2,1,2,2,2,3,2,2,2,1,2,2] (.bk 1) rfl,xk B22 [2,2,1,2,2,2,3,2,2,2,1,2,2] .lp rfl,hh_22_8,hc_22_8,c,i,g,e]
     (try simp only [NM,EE] at h)
     rw [h _ (by simp (disch:=first|apply D;decide|apply K;kernel_rfl) only [E,EE,↓reduceIte,simprocAttr,hh_22_8,hc_22_8,c,i,g,e])]
     clear h
     cases o15 with
     | o0 _ _ _ _ =>
      (try dsimp only at a)
      cases a
     | o1 s t u v w =>
      (try dsimp only at a)
      have hJ:=f22a_j2_ok k s t u v w _ a
      simp (disch:=first|apply D;decide|apply K;kernel_rfl) only [E,EE,↓reduceIte,simprocAttr,R22a_l1.st,c,i,g,e]
      try simp only [NM,EE] at hJ
      exact hJ
   ·have hJ:=f22a_j3_ok k m false [] l d f b _ a
    simp (disch:=first|apply D;decide|apply K;kernel_rfl) only [E,EE,↓reduceIte,simprocAttr,xk B22 [3,2,3,2,2,2,1,2,2] .sk rfl,c,i,g]
    try simp only [NM,EE] at hJ
    exact hJ
noncomputable def f22a (k:Nat) (d a:Int) (b:List Int) (c:List T28):Option R22a:=match k with | 0=>none | k+1=>f22a_e k d a b c
theorem f22a_ok (k e a b d r) (f:f22a k e a b d=some r):CV k 22 [V.nil,.agg [jI e,.p (.int .u64 a),.sl 1 (rowsOf (encI .u8) b),.sl 4 (rowsOf encT28 d)]] []=some r.st:=by
 cases k with
 | zero=>cases f
 | succ k =>
  unfold CV
  rw [ev_call (F:=Tryd.f22) (c:=(nav B22 [])) rfl Tryd.func22 rfl rfl rfl rfl]
  exact f22a_e_ok k e a b d r f
-- f10: f10 heliograph/cbor.Encode
inductive R10 where
 | o0 (y:List Int) (a:Int)
 | o1 (y:Int) (a:List Int)
noncomputable def R10.st:R10→V×List O×List O
 | .o0 y a=>(V.tup [.sl 1 (rowsOf (encI .u8) y),jI a],[],[])
 | .o1 y a=>(V.tup [.own 2000000,jI y],[],[.row true 1 5 (rowsOf (encI .u8) a)])
noncomputable def f10_j1 (k:Nat) (f:Int) (g:Bool) (d a:Int) (b:List Int) (c:List T28):Option R10 :=
 Option.bind (f22a k d a b c) fun o1 =>
  match o1 with
  | .o0 e =>
   some (.o1 0 e)
theorem f10_j1_ok (k g h f a b c r) (d:f10_j1 k g h f a b c=some r):finK Tryd.prog Tryd.f10 0 (EX 10 k (nav B10 [2,2]) (⟨12,[(1,.ptr 1 0),(4,jI g),(8,.p (.bool h))],[(1,.box 28 [jI f,.p (.int .u64 a),.sl 1 (rowsOf (encI .u8) b),.sl 4 (rowsOf encT28 c)])]⟩:St))=some r.st:=by
 unfold f10_j1 at d
 obtain ⟨o1,i,d⟩:=bs d
 have e:=f22a_ok k f a b c _ i
 cases o1 with
 | o0 j =>
  (try dsimp only at d)
  (try simp only [NM,EE,R22a.st] at e)
  cases d
  simp (disch:=first|apply D;decide|apply K;kernel_rfl) only [E,EE,↓reduceIte,simprocAttr,xk B10 [2,2] .sq rfl,rg B10 [1,2,2] 4 false rfl,hr 10 4 rfl,t_28,callStep,CL,gv,List.contains,xk B10 [2,2,2] .rt rfl,fin10,R10.st,e]
noncomputable def f10_e (k:Nat) (e a:Int) (b:List Int) (c:List T28):Option R10 :=
 Option.bind (f13 k e a b c) fun o1 =>
  match o1 with
  | .o0 d =>
   cond ((d != 0))
    (some (.o0 [] d))
    (f10_j1 k d false e a b c)
theorem f10_e_ok (k f a b c r) (d:f10_e k f a b c=some r):finK Tryd.prog Tryd.f10 0 (EX 10 k (nav B10 []) (⟨12,[(0,.agg [jI f,.p (.int .u64 a),.sl 1 (rowsOf (encI .u8) b),.sl 4 (rowsOf encT28 c)])],[]⟩:St))=some r.st:=by
 unfold f10_e at d
 obtain ⟨o1,h,d⟩:=bs d
 have e:=f13_ok k f a b c _ h
 cases o1 with
 | o0 i =>
  (try dsimp only at d)
  (try simp only [NM,EE,R13.st] at e)
  simp (disch:=first|apply D;decide|apply K;kernel_rfl) only [E,EE,↓reduceIte,simprocAttr,xk B10 [] .sq rfl,rg B10 [1] 0 false rfl,hr 10 0 rfl,xk B10 [2] .sq rfl,xk B10 [1,2] .sq rfl,rg B10 [1,1,2] 1 false rfl,hr 10 1 rfl,t_28,callStep,CL,gv,List.contains,xk B10 [2,1,2] .sq rfl,rg B10 [1,2,1,2] 2 false rfl,hr 10 2 rfl,xk B10 [2,2,1,2] (.cd 8) rfl,e]
  rcases cond_some d with ⟨g,d⟩ | ⟨g,d⟩
  ·cases d
   simp (disch:=first|apply D;decide|apply K;kernel_rfl) only [E,EE,↓reduceIte,simprocAttr,xk B10 [2,2,2,1,2] .sq rfl,rg B10 [1,2,2,2,1,2] 3 false rfl,hr_10_3,xk B10 [2,2,2,2,1,2] .rt rfl,fin10,R10.st,e,g]
  ·have hJ:=f10_j1_ok k i false f a b c _ d
   simp (disch:=first|apply D;decide|apply K;kernel_rfl) only [E,EE,↓reduceIte,simprocAttr,xk B10 [3,2,2,1,2] .sk rfl,e,g]
   try simp only [NM,EE] at hJ
   exact hJ
noncomputable def f10 (k:Nat) (d a:Int) (b:List Int) (c:List T28):Option R10:=match k with | 0=>none | k+1=>f10_e k d a b c
theorem f10_ok (k e a b d r) (f:f10 k e a b d=some r):CV k 10 [.agg [jI e,.p (.int .u64 a),.sl 1 (rowsOf (encI .u8) b),.sl 4 (rowsOf encT28 d)]] []=some r.st:=by
 cases k with
 | zero=>cases f
 | succ k =>
  unfold CV
  rw [ev_call (F:=Tryd.f10) (c:=(nav B10 [])) rfl Tryd.func10 rfl rfl rfl rfl]
  exact f10_e_ok k e a b d r f
-- f30: f30 heliograph/octet.Read
inductive R30 where
 | o0 (y a:Int) (b:List Int)
noncomputable def R30.st:R30→V×List O×List O
 | .o0 y a b=>(.ptr 2000000 0,[],[.box 68 [.own 2000001,jI y,jI a],.row true 1 5 (rowsOf (encI .u8) b)])
noncomputable def f30_e (k:Nat) (a:List Int):Option R30 :=
 Option.bind (f28 k a) fun o1 =>
  match o1 with
  | .o0 b =>
   some (.o0 0 0 b)
theorem f30_e_ok (k c r) (a:f30_e k c=some r):finK Tryd.prog Tryd.f30 0 (EX 30 k (nav B30 []) (⟨8,[(0,.sl 1 (rowsOf (encI .u8) c))],[]⟩:St))=some r.st:=by
 unfold f30_e at a
 obtain ⟨o1,d,a⟩:=bs a
 have b:=f28_ok k c _ d
 cases o1 with
 | o0 e =>
  (try dsimp only at a)
  (try simp only [NM,EE,R28.st] at b)
  cases a
  simp (disch:=first|apply D;decide|apply K;kernel_rfl) only [E,EE,↓reduceIte,simprocAttr,xk B30 [] .sq rfl,rg B30 [1] 0 false rfl,hr 30 0 rfl,xk B30 [2] .sq rfl,rg B30 [1,2] 1 false rfl,hr 30 1 rfl,callStep,CL,gv,List.contains,bl_66,t_66,bl_68,t_68,xk B30 [2,2] .rt rfl,fin30,R30.st,b]
noncomputable def f30 (k:Nat) (a:List Int):Option R30:=match k with | 0=>none | k+1=>f30_e k a
theorem f30_ok (k a r) (b:f30 k a=some r):CV k 30 [.sl 1 (rowsOf (encI .u8) a)] []=some r.st:=by
 cases k with
 | zero=>cases b
 | succ k =>
  unfold CV
  rw [ev_call (F:=Tryd.f30) (c:=(nav B30 [])) rfl Tryd.func30 rfl rfl rfl rfl]
  exact f30_e_ok k a r b
-- f49: f49 (*heliograph/octet.spot).take
inductive R49 where
 | o0 (y a:List Int) (b c:Int)
noncomputable def R49.st:R49→V×List O×List O
 | .o0 y a b c=>(.sl 1 (rowsOf (encI .u8) y),[.box 68 [.sl 1 (rowsOf (encI .u8) a),jI b,jI c]],[])
noncomputable def f49_j1 (k:Nat) (b:Int) (e:Bool) (d:List Int) (a c:Int):Option R49 :=
 ifE ((0:Int)≤(IntKind.i64.wrap ((IntKind.i64.wrap (a+b)) - b))) (
  ifE ((0:Int)≤(IntKind.i64.wrap (a+b))) (
   ifE ((Int.toNat (IntKind.i64.wrap ((IntKind.i64.wrap (a+b)) - b)))≤(Int.toNat (IntKind.i64.wrap (a+b)))) (
    ifE ((Int.toNat (IntKind.i64.wrap (a+b)))≤(List.length d)) (
     some (.o0 ((List.drop (Int.toNat (IntKind.i64.wrap ((IntKind.i64.wrap (a+b)) - b))) (List.take (Int.toNat (IntKind.i64.wrap (a+b))) d))) d (IntKind.i64.wrap (a+b)) c)))))
theorem f49_j1_ok (k e d f b c r) (a:f49_j1 k e d f b c=some r):finK Tryd.prog Tryd.f49 1 (EX 49 k (nav B49 [2,2]) (⟨56,[(0,.ptr 1000000 0),(1,jI e),(17,.p (.bool d))],[(1000000,.box 68 [.sl 1 (rowsOf (encI .u8) f),jI b,jI c])]⟩:St))=some r.st:=by
 unfold f49_j1 at a
 obtain ⟨g,a⟩:=ifE_some.1 a
 obtain ⟨h,a⟩:=ifE_some.1 a
 obtain ⟨i,a⟩:=ifE_some.1 a
 obtain ⟨j,a⟩:=ifE_some.1 a
 cases a
 simp (disch:=first|apply D;decide|apply K;kernel_rfl) only [E,EE,↓reduceIte,simprocAttr,xk B49 [2,2] .sq rfl,rg B49 [1,2,2] 9 false rfl,hr 49 9 rfl,fieldAddrV,t_66,t_3,xk B49 [2,2,2] .sq rfl,rg B49 [1,2,2,2] 10 true rfl,hr 49 10 rfl,t_25,sliceV,bound,t_5,xk B49 [2,2,2,2] .rt rfl,fin49,R49.st,g,h,i,j]
noncomputable def f49_e (k:Nat) (d:Int) (c:List Int) (a b:Int):Option R49 :=
 cond ((b != 0))
  (some (.o0 [] c a b))
  (
   cond ((decide (d<0)))
    (some (.o0 [] c a 2))
    (
     cond ((decide (d>(IntKind.i64.wrap (((List.length c):Int) - a)))))
      (some (.o0 [] c a 7))
      (f49_j1 k d false c a b)))
theorem f49_e_ok (k f g b c r) (a:f49_e k f g b c=some r):finK Tryd.prog Tryd.f49 1 (EX 49 k (nav B49 []) (⟨56,[(0,.ptr 1000000 0),(1,jI f)],[(1000000,.box 68 [.sl 1 (rowsOf (encI .u8) g),jI b,jI c])]⟩:St))=some r.st:=by
 unfold f49_e at a
 simp (disch:=first|apply D;decide|apply K;kernel_rfl) only [E,EE,↓reduceIte,simprocAttr,xk B49 [] .sq rfl,rg B49 [1] 0 false rfl,hr 49 0 rfl,xk B49 [2] .sq rfl,xk B49 [1,2] (.bk 0) rfl,xk B49 [2,1,2] .sq rfl,rg B49 [1,2,1,2] 1 false rfl,hr 49 1 rfl,fieldAddrV,t_66,t_30,xk B49 [2,2,1,2] (.cd 5) rfl]
 rcases cond_some a with ⟨d,a⟩ | ⟨d,a⟩
 ·cases a
  simp (disch:=first|apply D;decide|apply K;kernel_rfl) only [E,EE,↓reduceIte,simprocAttr,xk B49 [2,2,2,1,2] .sq rfl,rg B49 [1,2,2,2,1,2] 2 false rfl,hr_49_2,xk B49 [2,2,2,2,1,2] .rt rfl,fin49,R49.st,d]
 ·simp (disch:=first|apply D;decide|apply K;kernel_rfl) only [E,EE,↓reduceIte,simprocAttr,xk B49 [3,2,2,1,2] .sq rfl,rg B49 [1,3,2,2,1,2] 3 false rfl,hr 49 3 rfl,xk B49 [2,3,2,2,1,2] (.cd 11) rfl,d]
  rcases cond_some a with ⟨e,a⟩ | ⟨e,a⟩
  ·cases a
   simp (disch:=first|apply D;decide|apply K;kernel_rfl) only [E,EE,↓reduceIte,simprocAttr,xk B49 [2,2,3,2,2,1,2] .sq rfl,rg B49 [1,2,2,3,2,2,1,2] 4 false rfl,hr 49 4 rfl,fieldAddrV,t_66,t_30,xk B49 [2,2,2,3,2,2,1,2] .sq rfl,rg B49 [1,2,2,2,3,2,2,1,2] 5 false rfl,hr_49_5,xk B49 [2,2,2,2,3,2,2,1,2] .rt rfl,fin49,R49.st,d,e]
  ·simp (disch:=first|apply D;decide|apply K;kernel_rfl) only [E,EE,↓reduceIte,simprocAttr,xk B49 [3,2,3,2,2,1,2] .sq rfl,rg B49 [1,3,2,3,2,2,1,2] 6 true rfl,hr 49 6 rfl,fieldAddrV,t_66,t_25,t_3,xk B49 [2,3,2,3,2,2,1,2] (.cd 17) rfl,d,e]
   rcases cond_some a with ⟨h,a⟩ | ⟨h,a⟩
   ·cases a
    simp (disch:=first|apply D;decide|apply K;kernel_rfl) only [E,EE,↓reduceIte,simprocAttr,xk B49 [2,2,3,2,3,2,2,1,2] .sq rfl,rg B49 [1,2,2,3,2,3,2,2,1,2] 7 false rfl,hr 49 7 rfl,fieldAddrV,t_66,t_30,xk B49 [2,2,2,3,2,3,2,2,1,2] .sq rfl,rg B49 [1,2,2,2,3,2,3,2,2,1,2] 8 false rfl,hr_49_8,xk B49 [2,2,2,2,3,2,3,2,2,1,2] .rt rfl,fin49,R49.st,d,e,h]
   ·have hJ:=f49_j1_ok k f false g b c _ a
    simp (disch:=first|apply D;decide|apply K;kernel_rfl) only [E,EE,↓reduceIte,simprocAttr,xk B49 [3,2,3,2,3,2,2,1,2] .sk rfl,d,e,h]
    try simp only [NM,EE] at hJ
    exact hJ
noncomputable def f49 (k:Nat) (c:Int) (d:List Int) (a b:Int):Option R49:=match k with | 0=>none | k+1=>f49_e k c d a b
theorem f49_ok (k d e a b r) (f:f49 k d e a b=some r):CV k 49 [.ptr 1000000 0,jI d] [.box 68 [.sl 1 (rowsOf (encI .u8) e),jI a,jI b]]=some r.st:=by
 cases k with
 | zero=>cases f
 | succ k =>
  unfold CV
  rw [ev_call (F:=Tryd.f49) (c:=(nav B49 [])) rfl Tryd.func49 rfl rfl rfl rfl]
  exact f49_e_ok k d e a b r f
-- f43: f43 (*heliograph/octet.Reader).Raw
inductive R43 where
 | o0 (y:List Int) (a b:Int) (c:List Int)
noncomputable def R43.st:R43→V×List O×List O
 | .o0 y a b c=>(.own 2000000,[.box 68 [.sl 1 (rowsOf (encI .u8) y),jI a,jI b]],[.row true 1 5 (rowsOf (encI .u8) c)])
noncomputable def f43_j1 (k:Nat) (d:Int) (j:Bool) (e:List Int) (a b:Int):Option R43 :=
 Option.bind (f49 k d e a b) fun o1 =>
  match o1 with
  | .o0 f g h i =>
   Option.bind (f28 k f) fun o8 =>
    match o8 with
    | .o0 c =>
     some (.o0 g h i c)
theorem f43_j1_ok (k f h g a b r) (c:f43_j1 k f h g a b=some r):finK Tryd.prog Tryd.f43 1 (EX 43 k (nav B43 [2,2]) (⟨13,[(0,.ptr 1000000 0),(1,jI f),(6,.p (.bool h))],[(1000000,.box 68 [.sl 1 (rowsOf (encI .u8) g),jI a,jI b])]⟩:St))=some r.st:=by
 unfold f43_j1 at c
 obtain ⟨o1,i,c⟩:=bs c
 have e:=f49_ok k f g a b _ i
 cases o1 with
 | o0 j o p q =>
  (try dsimp only at c)
  (try simp only [NM,EE,R49.st] at e)
  obtain ⟨o8,l,c⟩:=bs c
  have d:=f28_ok k j _ l
  cases o8 with
  | o0 m =>
   (try dsimp only at c)
   (try simp only [NM,EE,R28.st] at d)
   cases c
   simp (disch:=first|apply D;decide|apply K;kernel_rfl) only [E,EE,↓reduceIte,simprocAttr,xk B43 [2,2] .sq rfl,rg B43 [1,2,2] 3 false rfl,hr 43 3 rfl,fieldAddrV,t_68,t_66,callStep,CL,gv,List.contains,xk B43 [2,2,2] .rt rfl,fin43,R43.st,e,d]
noncomputable def f43_e (k:Nat) (c:Int) (d:List Int) (a b:Int):Option R43 :=
 f43_j1 k c false d a b
theorem f43_e_ok (k c d a b r) (e:f43_e k c d a b=some r):finK Tryd.prog Tryd.f43 1 (EX 43 k (nav B43 []) (⟨13,[(0,.ptr 1000000 0),(1,jI c)],[(1000000,.box 68 [.sl 1 (rowsOf (encI .u8) d),jI a,jI b])]⟩:St))=some r.st:=by
 unfold f43_e at e
 have hJ:=f43_j1_ok k c false d a b _ e
 simp (disch:=first|apply D;decide|apply K;kernel_rfl) only [E,EE,↓reduceIte,simprocAttr,xk B43 [] .sq rfl,rg B43 [1] 0 false rfl,hr 43 0 rfl,xk B43 [2] .sq rfl,xk B43 [1,2] .sq rfl,rg B43 [1,1,2] 1 false rfl,hr 43 1 rfl,t_57,isRef,isNilP,xk B43 [2,1,2] (.cd 6) rfl,xk B43 [3,2,1,2] .sk rfl]
 try simp only [NM,EE] at hJ
 exact hJ
noncomputable def f43 (k:Nat) (c:Int) (d:List Int) (a b:Int):Option R43:=match k with | 0=>none | k+1=>f43_e k c d a b
theorem f43_ok (k d e a b r) (f:f43 k d e a b=some r):CV k 43 [.ptr 1000000 0,jI d] [.box 68 [.sl 1 (rowsOf (encI .u8) e),jI a,jI b]]=some r.st:=by
 cases k with
 | zero=>cases f
 | succ k =>
  unfold CV
  rw [ev_call (F:=Tryd.f43) (c:=(nav B43 [])) rfl Tryd.func43 rfl rfl rfl rfl]
  exact f43_e_ok k d e a b r f
end Go.Proofs.YtlelaenalbkbmaaDoorV