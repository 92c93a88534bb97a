/- What the program's functions answer: plain functions,and that the interpreter answers what they do. Written by a program of this session,out of the translation. -/
import Derived.Test.YtbnnmplkbpgcaaaDoorVP4
namespace Go.Proofs.YtbnnmplkbpgcaaaDoorV
open Go
set_option linter.unusedVariables false
set_option linter.unusedSimpArgs false
set_option maxRecDepth 8000
set_option maxHeartbeats 4000000
-- f51b: f51 heliograph/cbor.put
inductive R51b where
 | o0 (y:List Int)
noncomputable def R51b.st:R51b→V×List O×List O
 | .o0 y=>(.own 2000000,[.dead],[.row true 1 5 (rowsOf (encI .u8) y)])
inductive R51b_l1 where
 | o0 (y:List T50) (a b:Int) (c:List Int)
 | o1 (y:List T50) (a b:Int) (c:Bool) (d:List Int)
noncomputable def R51b_l1.st:R51b_l1→Out×St
 | .o0 y a b c=>(.norm,(⟨51,[(0,.own 38),(30,.sl 4 (rowsOf encT50 y)),(31,jI a),(32,jI b)],[(38,.row true 1 5 (rowsOf (encI .u8) c)),(1000000,.dead)]⟩:St))
 | .o1 y a b c d=>(.exit 1,(⟨51,[(0,.own 30000),(30,.sl 4 (rowsOf encT50 y)),(31,jI a),(32,jI b),(33,.p (.bool c))],[(30000,.row true 1 5 (rowsOf (encI .u8) d)),(1000000,.dead)]⟩:St))
noncomputable def f51b_l1_j2 (k:Nat) (q_f51_oaiirrz_w:Int→Int→(List Int)→(List T50)→(List Int)→Option R51b) (a:List T50) (b c:Int) (d:List Int):Option R51b_l1 :=
 some (.o0 a b (IntKind.i64.wrap (c+(1:Int))) d)
theorem f51b_l1_j2_ok (k:Nat) (q_f51_oaiirrz_w:Int→Int→(List Int)→(List T50)→(List Int)→Option R51b) (hq_f51_oaiirrz_w:∀ (h a:Int) (b:List Int) (c:List T50) (i:List Int) (r:R51b),q_f51_oaiirrz_w h a b c i=some r→CV k 51 [.own 1000000,.agg [jI h,.p (.int .u64 a),.sl 1 (rowsOf (encI .u8) b),.sl 4 (rowsOf encT50 c)]] [.row true 1 5 (rowsOf (encI .u8) i)]=some r.st) (d:List T50) (e f:Int) (g:List Int) (r:R51b_l1) (j:f51b_l1_j2 k q_f51_oaiirrz_w d e f g=some r):EX 51 k (nav B51 [2,2,2,1,2,2,1,2,2,2,3,2,2,2,1,2,2]) (⟨51,[(0,.own 38),(30,.sl 4 (rowsOf encT50 d)),(31,jI e),(32,jI f)],[(38,.row true 1 5 (rowsOf (encI .u8) g)),(1000000,.dead)]⟩:St)=some r.st:=by
 unfold f51b_l1_j2 at j
 cases j
 simp (disch:=first|apply D;decide|apply K;kernel_rfl) only [E,EE,↓reduceIte,simprocAttr,rg B51 [2,2,2,1,2,2,1,2,2,2,3,2,2,2,1,2,2] 11 false rfl,hr 51 11 rfl,R51b_l1.st]
noncomputable def f51b_l1_j1 (k:Nat) (q_f51_oaiirrz_w:Int→Int→(List Int)→(List T50)→(List Int)→Option R51b) (b:List T50) (d a:Int) (f:Bool) (e:List Int):Option R51b_l1 :=
 ifE ((0:Int)≤a) (
  Option.bind (b[(Int.toNat a)]?) fun c =>
   Option.bind (q_f51_oaiirrz_w c.Kind c.Num c.Bytes c.Items e) fun o4 =>
    match o4 with
    | .o0 g =>
     f51b_l1_j2 k q_f51_oaiirrz_w b d a g)
theorem f51b_l1_j1_ok (k:Nat) (q_f51_oaiirrz_w:Int→Int→(List Int)→(List T50)→(List Int)→Option R51b) (hq_f51_oaiirrz_w:∀ (m b:Int) (c:List Int) (d:List T50) (o:List Int) (r:R51b),q_f51_oaiirrz_w m b c d o=some r→CV k 51 [.own 1000000,.agg [jI m,.p (.int .u64 b),.sl 1 (rowsOf (encI .u8) c),.sl 4 (rowsOf encT50 d)]] [.row true 1 5 (rowsOf (encI .u8) o)]=some r.st) (e:List T50) (f g:Int) (i:Bool) (h:List Int) (r:R51b_l1) (a:f51b_l1_j1 k q_f51_oaiirrz_w e f g i h=some r):EX 51 k (nav B51 [2,2,1,2,2,1,2,2,2,3,2,2,2,1,2,2]) (⟨51,[(0,.own 30000),(30,.sl 4 (rowsOf encT50 e)),(31,jI f),(32,jI g),(33,.p (.bool i))],[(30000,.row true 1 5 (rowsOf (encI .u8) h)),(1000000,.dead)]⟩:St)=some r.st:=by
 unfold f51b_l1_j1 at a
 obtain ⟨p,a⟩:=ifE_some.1 a
 obtain ⟨l,q,a⟩:=bs a
 obtain ⟨o4,s,a⟩:=bs a
 have j:=hq_f51_oaiirrz_w l.Kind l.Num l.Bytes l.Items h _ s
 cases o4 with
 | o0 t =>
  (try dsimp only at a)
  (try simp only [NM,EE,R51b.st] at j)
  have hJ:=f51b_l1_j2_ok k q_f51_oaiirrz_w hq_f51_oaiirrz_w e f g t _ a
  simp (disch:=first|apply D;decide|apply K;kernel_rfl) only [E,EE,↓reduceIte,simprocAttr,xk B51 [2,2,1,2,2,1,2,2,2,3,2,2,2,1,2,2] .sq rfl,xk B51 [1,2,2,1,2,2,1,2,2,2,3,2,2,2,1,2,2] (.bk 2) rfl,xk B51 [2,1,2,2,1,2,2,1,2,2,2,3,2,2,2,1,2,2] .sq rfl,rg B51 [1,2,1,2,2,1,2,2,1,2,2,2,3,2,2,2,1,2,2] 9 false rfl,hr 51 9 rfl,indexAddrV,t_48,t_50,encT50_eq,rg B51 [2,2,1,2,2,1,2,2,1,2,2,2,3,2,2,2,1,2,2] 10 false rfl,hr 51 10 rfl,callStep,CL,gv,List.contains,p,q,j]
  try simp only [NM,EE] at hJ
  exact hJ
noncomputable def f51b_l1_b (k:Nat) (q_f51_oaiirrz_w:Int→Int→(List Int)→(List T50)→(List Int)→Option R51b) (c:List T50) (a b:Int) (d:List Int):Option R51b_l1 :=
 cond ((decide (b<a)))
  (f51b_l1_j1 k q_f51_oaiirrz_w c a b true d)
  (some (.o1 c a b false d))
theorem f51b_l1_b_ok (k:Nat) (q_f51_oaiirrz_w:Int→Int→(List Int)→(List T50)→(List Int)→Option R51b) (hq_f51_oaiirrz_w:∀ (j a:Int) (b:List Int) (c:List T50) (l:List Int) (r:R51b),q_f51_oaiirrz_w j a b c l=some r→CV k 51 [.own 1000000,.agg [jI j,.p (.int .u64 a),.sl 1 (rowsOf (encI .u8) b),.sl 4 (rowsOf encT50 c)]] [.row true 1 5 (rowsOf (encI .u8) l)]=some r.st) (d:List T50) (e f:Int) (g:List Int) (r:R51b_l1) (h:f51b_l1_b k q_f51_oaiirrz_w d e f g=some r):EX 51 k (nav B51 [1,2,2,1,2,2,2,3,2,2,2,1,2,2]) (⟨51,[(0,.own 30000),(30,.sl 4 (rowsOf encT50 d)),(31,jI e),(32,jI f)],[(30000,.row true 1 5 (rowsOf (encI .u8) g)),(1000000,.dead)]⟩:St)=some r.st:=by
 unfold f51b_l1_b at h
 simp (disch:=first|apply D;decide|apply K;kernel_rfl) only [E,EE,↓reduceIte,simprocAttr,xk B51 [1,2,2,1,2,2,2,3,2,2,2,1,2,2] .sq rfl,rg B51 [1,1,2,2,1,2,2,2,3,2,2,2,1,2,2] 8 false rfl,hr 51 8 rfl,xk B51 [2,1,2,2,1,2,2,2,3,2,2,2,1,2,2] .sq rfl,xk B51 [1,2,1,2,2,1,2,2,2,3,2,2,2,1,2,2] (.cd 33) rfl]
 rcases cond_some h with ⟨i,h⟩ | ⟨i,h⟩
 ·have hJ:=f51b_l1_j1_ok k q_f51_oaiirrz_w hq_f51_oaiirrz_w d e f true g _ h
  simp (disch:=first|apply D;decide|apply K;kernel_rfl) only [E,EE,↓reduceIte,simprocAttr,xk B51 [2,1,2,1,2,2,1,2,2,2,3,2,2,2,1,2,2] .sk rfl,i]
  try simp only [NM,EE] at hJ
  exact hJ
 ·cases h
  simp (disch:=first|apply D;decide|apply K;kernel_rfl) only [E,EE,↓reduceIte,simprocAttr,xk B51 [3,1,2,1,2,2,1,2,2,2,3,2,2,2,1,2,2] (.ex 1) rfl,R51b_l1.st,i]
noncomputable def f51b_l1 (k:Nat) (q_f51_oaiirrz_w:Int→Int→(List Int)→(List T50)→(List Int)→Option R51b):Nat→(List T50)→Int→Int→(List Int)→Option R51b_l1
 | 0,_,_,_,_=>none
 | n+1,d,e,f,g=>Option.bind (f51b_l1_b k q_f51_oaiirrz_w d e f g) fun o =>
  match o with
  | .o0 y a b c=>f51b_l1 k q_f51_oaiirrz_w n y a b c
  | .o1 y a b c h=>some (.o1 y a b c h)
theorem f51b_l1_ok (k:Nat) (q_f51_oaiirrz_w:Int→Int→(List Int)→(List T50)→(List Int)→Option R51b) (hq_f51_oaiirrz_w:∀ (p e:Int) (f:List Int) (g:List T50) (q:List Int) (r:R51b),q_f51_oaiirrz_w p e f g q=some r→CV k 51 [.own 1000000,.agg [jI p,.p (.int .u64 e),.sl 1 (rowsOf (encI .u8) f),.sl 4 (rowsOf encT50 g)]] [.row true 1 5 (rowsOf (encI .u8) q)]=some r.st) (n:Nat):∀ (a:List T50) (b c:Int) (d:List Int) (r:R51b_l1) (i:f51b_l1 k q_f51_oaiirrz_w n a b c d=some r) (σ:St) (hσ:headR (hints.head 51 8) (hints.canon 51 8) σ=some (⟨51,[(0,.own 30000),(30,.sl 4 (rowsOf encT50 a)),(31,jI b),(32,jI c)],[(30000,.row true 1 5 (rowsOf (encI .u8) d)),(1000000,.dead)]⟩:St)),LP 51 k (nav B51 [1,2,2,1,2,2,2,3,2,2,2,1,2,2]) n σ=some r.st:=by
 induction n with
 | zero=>intro a b c d r i;cases i
 | succ n s =>
  intro a b c d r i σ hσ
  rw [f51b_l1] at i
  obtain ⟨o,h,i⟩:=Option.bind_eq_some_iff.1 i
  have hB:=f51b_l1_b_ok k q_f51_oaiirrz_w hq_f51_oaiirrz_w a b c d o h
  unfold LP at s ⊢
  unfold EX at hB
  rw [loopK_succ,show firstReg (nav B51 [1,2,2,1,2,2,2,3,2,2,2,1,2,2])=8 from rfl,hσ,headK_some,hB]
  cases o with
  | o0 y j l m =>
   refine s y j l m r i _ ?_
   simp (disch:=first|apply D;decide|apply K;kernel_rfl) only [E,EE,↓reduceIte,simprocAttr,hh_51_8,hc_51_8]
  | o1 y j l m t=>cases i;rfl
noncomputable def f51b_j2 (k:Nat) (q_f51_oaiirrz_w:Int→Int→(List Int)→(List T50)→(List Int)→Option R51b) (b:List T50) (c d:Int) (e:Bool) (a:List Int):Option R51b :=
 some (.o0 a)
theorem f51b_j2_ok (k:Nat) (q_f51_oaiirrz_w:Int→Int→(List Int)→(List T50)→(List Int)→Option R51b) (hq_f51_oaiirrz_w:∀ (i a:Int) (b:List Int) (c:List T50) (j:List Int) (r:R51b),q_f51_oaiirrz_w i a b c j=some r→CV k 51 [.own 1000000,.agg [jI i,.p (.int .u64 a),.sl 1 (rowsOf (encI .u8) b),.sl 4 (rowsOf encT50 c)]] [.row true 1 5 (rowsOf (encI .u8) j)]=some r.st) (d:List T50) (e f:Int) (g:Bool) (h:List Int) (r:R51b) (l:f51b_j2 k q_f51_oaiirrz_w d e f g h=some r):finK Tryd.prog Tryd.f51 1 (SQ 51 k (nav B51 [2,2,2]) (blockK 0 (EX 51 k (nav B51 [2,2,2,2,3,2,2,2,1,2,2]) (⟨51,[(0,.own 30000),(30,.sl 4 (rowsOf encT50 d)),(31,jI e),(32,jI f),(33,.p (.bool g))],[(30000,.row true 1 5 (rowsOf (encI .u8) h)),(1000000,.dead)]⟩:St))))=some r.st:=by
 unfold f51b_j2 at l
 cases l
 simp (disch:=first|apply D;decide|apply K;kernel_rfl) only [E,EE,↓reduceIte,simprocAttr,xk B51 [2,2,2,2,3,2,2,2,1,2,2] .sq rfl,rg B51 [1,2,2,2,2,3,2,2,2,1,2,2] 12 false rfl,hr 51 12 rfl,xk B51 [2,2,2,2,2,3,2,2,2,1,2,2] .rt rfl,fin51,R51b.st]
noncomputable def f51b_j3 (k:Nat) (q_f51_oaiirrz_w:Int→Int→(List Int)→(List T50)→(List Int)→Option R51b) (e:Int) (f:Bool) (g:List Int) (h b:Int) (a:List Int) (c:List T50):Option R51b :=
 Option.bind (f67 k e (IntKind.u64.wrap ((List.length a):Int)) g) fun o1 =>
  match o1 with
  | .o0 d =>
   ifE (((List.length d)+(List.length a))≤roomy) (
    some (.o0 (d++a)))
theorem f51b_j3_ok (k:Nat) (q_f51_oaiirrz_w:Int→Int→(List Int)→(List T50)→(List Int)→Option R51b) (hq_f51_oaiirrz_w:∀ (m b:Int) (c:List Int) (d:List T50) (h:List Int) (r:R51b),q_f51_oaiirrz_w m b c d h=some r→CV k 51 [.own 1000000,.agg [jI m,.p (.int .u64 b),.sl 1 (rowsOf (encI .u8) c),.sl 4 (rowsOf encT50 d)]] [.row true 1 5 (rowsOf (encI .u8) h)]=some r.st) (l:Int) (i:Bool) (h:List Int) (o e:Int) (a:List Int) (f:List T50) (r:R51b) (g:f51b_j3 k q_f51_oaiirrz_w l i h o e a f=some r):finK Tryd.prog Tryd.f51 1 (EX 51 k (nav B51 [2,2,2]) (⟨51,[(0,.own 1000000),(3,.ptr 3 0),(5,.p (.int .u8 l)),(20,.p (.bool i))],[(1000000,.row true 1 5 (rowsOf (encI .u8) h)),(3,.box 50 [jI o,.p (.int .u64 e),.sl 1 (rowsOf (encI .u8) a),.sl 4 (rowsOf encT50 f)])]⟩:St))=some r.st:=by
 unfold f51b_j3 at g
 obtain ⟨o1,p,g⟩:=bs g
 have j:=f67_ok k l (IntKind.u64.wrap ((List.length a):Int)) h _ p
 cases o1 with
 | o0 s =>
  (try dsimp only at g)
  (try simp only [NM,EE,R67.st] at j)
  obtain ⟨q,g⟩:=ifE_some.1 g
  cases g
  simp (disch:=first|apply D;decide|apply K;kernel_rfl) only [E,EE,↓reduceIte,simprocAttr,xk B51 [2,2,2] .sq rfl,rg B51 [1,2,2,2] 13 true rfl,hr 51 13 rfl,fieldAddrV,t_50,t_22,t_3,t_47,convV,callStep,CL,gv,List.contains,appendV,content,t_5,xk B51 [2,2,2,2] .rt rfl,fin51,R51b.st,j,q]
noncomputable def f51b_e (k:Nat) (q_f51_oaiirrz_w:Int→Int→(List Int)→(List T50)→(List Int)→Option R51b) (d b:Int) (c:List Int) (a:List T50) (e:List Int):Option R51b :=
 Option.bind (f66 k d) fun o1 =>
  match o1 with
  | .o0 f =>
   cond ((d==1))
    (
     Option.bind (f67 k f b e) fun o6 =>
      match o6 with
      | .o0 o =>
       some (.o0 o))
    (
     cond ((d==4))
      (
       Option.bind (f67 k f (IntKind.u64.wrap ((List.length a):Int)) e) fun o11 =>
        match o11 with
        | .o0 g =>
         Option.bind (f51b_l1 k q_f51_oaiirrz_w k a ((List.length a):Int) 0 g) fun o15 =>
          match o15 with
          | .o0 _ _ _ _ =>
           none
          | .o1 h i j l m =>
           f51b_j2 k q_f51_oaiirrz_w h i j l m)
      (f51b_j3 k q_f51_oaiirrz_w f false e d b c a))
theorem f51b_e_ok (k:Nat) (q_f51_oaiirrz_w:Int→Int→(List Int)→(List T50)→(List Int)→Option R51b) (hq_f51_oaiirrz_w:∀ (j c:Int) (d:List Int) (a:List T50) (i:List Int) (r:R51b),q_f51_oaiirrz_w j c d a i=some r→CV k 51 [.own 1000000,.agg [jI j,.p (.int .u64 c),.sl 1 (rowsOf (encI .u8) d),.sl 4 (rowsOf encT50 a)]] [.row true 1 5 (rowsOf (encI .u8) i)]=some r.st) (j c:Int) (d:List Int) (a:List T50) (i:List Int) (r:R51b) (b:f51b_e k q_f51_oaiirrz_w j c d a i=some r):finK Tryd.prog Tryd.f51 1 (EX 51 k (nav B51 []) (⟨51,[(0,.own 1000000),(1,.agg [jI j,.p (.int .u64 c),.sl 1 (rowsOf (encI .u8) d),.sl 4 (rowsOf encT50 a)])],[(1000000,.row true 1 5 (rowsOf (encI .u8) i))]⟩:St))=some r.st:=by
 unfold f51b_e at b
 obtain ⟨o1,y,b⟩:=bs b
 have e:=f66_ok k j _ y
 cases o1 with
 | o0 o =>
  (try dsimp only at b)
  (try simp only [NM,EE,R66.st] at e)
  simp (disch:=first|apply D;decide|apply K;kernel_rfl) only [E,EE,↓reduceIte,simprocAttr,xk B51 [] .sq rfl,rg B51 [1] 0 false rfl,hr_51_0,xk B51 [2] .sq rfl,rg B51 [1,2] 1 false rfl,hr 51 1 rfl,fieldAddrV,t_50,t_3,callStep,CL,gv,List.contains,xk B51 [2,2] .sq rfl,xk B51 [1,2,2] .sq rfl,rg B51 [1,1,2,2] 2 false rfl,hr 51 2 rfl,xk B51 [2,1,2,2] (.bk 0) rfl,xk B51 [2,2,1,2,2] .sq rfl,rg B51 [1,2,2,1,2,2] 3 false rfl,hr 51 3 rfl,xk B51 [2,2,2,1,2,2] (.cd 13) rfl,e]
  rcases cond_some b with ⟨l,b⟩ | ⟨l,b⟩
  ·obtain ⟨o6,z,b⟩:=bs b
   have m:=f67_ok k o c i _ z
   cases o6 with
   | o0 n =>
    (try dsimp only at b)
    (try simp only [NM,EE,R67.st] at m)
    cases b
    simp (disch:=first|apply D;decide|apply K;kernel_rfl) only [E,EE,↓reduceIte,simprocAttr,xk B51 [2,2,2,2,1,2,2] .sq rfl,rg B51 [1,2,2,2,2,1,2,2] 4 false rfl,hr 51 4 rfl,fieldAddrV,t_50,t_47,callStep,CL,gv,List.contains,xk B51 [2,2,2,2,2,1,2,2] .rt rfl,fin51,R51b.st,e,l,m]
  ·simp (disch:=first|apply D;decide|apply K;kernel_rfl) only [E,EE,↓reduceIte,simprocAttr,xk B51 [3,2,2,2,1,2,2] .sq rfl,rg B51 [1,3,2,2,2,1,2,2] 5 false rfl,hr 51 5 rfl,xk B51 [2,3,2,2,2,1,2,2] (.cd 20) rfl,e,l]
   rcases cond_some b with ⟨g,b⟩ | ⟨g,b⟩
   ·obtain ⟨o11,p,b⟩:=bs b
    have f:=f67_ok k o (IntKind.u64.wrap ((List.length a):Int)) i _ p
    cases o11 with
    | o0 q =>
     (try dsimp only at b)
     (try simp only [NM,EE,R67.st] at f)
     obtain ⟨o15,s,b⟩:=bs b
     have h:=f51b_l1_ok k q_f51_oaiirrz_w hq_f51_oaiirrz_w k a ((List.length a):Int) 0 q _ s
     simp (disch:=first|apply D;decide|apply K;kernel_rfl) only [E,EE,↓reduceIte,simprocAttr,xk B51 [2,2,3,2,2,2,1,2,2] .sq rfl,rg B51 [1,2,2,3,2,2,2,1,2,2] 6 false rfl,hr 51 6 rfl,fieldAddrV,t_50,t_48,t_3,t_47,convV,callStep,CL,gv,List.contains,xk B51 [2,2,2,3,2,2,2,1,2,2] .sq rfl,xk B51 [1,2,2,2,3,2,2,2,1,2,2] .sq rfl,rg B51 [1,1,2,2,2,3,2,2,2,1,2,2] 7 false rfl,hr 51 7 rfl,xk B51 [2,1,2,2,2,3,2,2,2,1,2,2] (.bk 1) rfl,xk B51 [2,2,1,2,2,2,3,2,2,2,1,2,2] .lp rfl,hh_51_8,hc_51_8,e,l,g,f]
     (try simp only [NM,EE] at h)
     rw [h _ (by simp (disch:=first|apply D;decide|apply K;kernel_rfl) only [E,EE,↓reduceIte,simprocAttr,hh_51_8,hc_51_8,e,l,g,f])]
     clear h
     cases o15 with
     | o0 _ _ _ _ =>
      (try dsimp only at b)
      cases b
     | o1 t u v w x =>
      (try dsimp only at b)
      have hJ:=f51b_j2_ok k q_f51_oaiirrz_w hq_f51_oaiirrz_w t u v w x _ b
      simp (disch:=first|apply D;decide|apply K;kernel_rfl) only [E,EE,↓reduceIte,simprocAttr,R51b_l1.st,e,l,g,f]
      try simp only [NM,EE] at hJ
      exact hJ
   ·have hJ:=f51b_j3_ok k q_f51_oaiirrz_w hq_f51_oaiirrz_w o false i j c d a _ b
    simp (disch:=first|apply D;decide|apply K;kernel_rfl) only [E,EE,↓reduceIte,simprocAttr,xk B51 [3,2,3,2,2,2,1,2,2] .sk rfl,e,l,g]
    try simp only [NM,EE] at hJ
    exact hJ
noncomputable def f51b:Nat→Int→Int→(List Int)→(List T50)→(List Int)→Option R51b
 | 0,_,_,_,_,_=>none
 | k+1,d,a,b,c,e=>f51b_e k (f51b k) d a b c e
theorem f51b_all (k:Nat):(∀ (e a:Int) (b:List Int) (d:List T50) (f:List Int) (r:R51b),f51b k e a b d f=some r→CV k 51 [.own 1000000,.agg [jI e,.p (.int .u64 a),.sl 1 (rowsOf (encI .u8) b),.sl 4 (rowsOf encT50 d)]] [.row true 1 5 (rowsOf (encI .u8) f)]=some r.st):=by
 induction k with
 | zero=>exact (by intro e a b d f r g;rw [f51b] at g;cases g)
 | succ k h =>
  have ih_f51_oaiirrz_w:=h
  exact (by intro e a b d f r g;rw [f51b] at g;unfold CV;rw [ev_call (F:=Tryd.f51) (c:=(nav B51 [])) rfl Tryd.func51 rfl rfl rfl rfl];exact f51b_e_ok k (f51b k) ih_f51_oaiirrz_w e a b d f r g)
theorem f51b_ok (k d a b c e r) (f:f51b k d a b c e=some r):CV k 51 [.own 1000000,.agg [jI d,.p (.int .u64 a),.sl 1 (rowsOf (encI .u8) b),.sl 4 (rowsOf encT50 c)]] [.row true 1 5 (rowsOf (encI .u8) e)]=some r.st:=f51b_all k d a b c e r f
-- f51a: f51 heliograph/cbor.put
inductive R51a where
 | o0 (y:List Int)
noncomputable def R51a.st:R51a→V×List O×List O
 | .o0 y=>(.own 2000000,[],[.row true 1 5 (rowsOf (encI .u8) y)])
inductive R51a_l1 where
 | o0 (y:List T50) (a b:Int) (c:List Int)
 | o1 (y:List T50) (a b:Int) (c:Bool) (d:List Int)
noncomputable def R51a_l1.st:R51a_l1→Out×St
 | .o0 y a b c=>(.norm,(⟨51,[(0,.own 38),(30,.sl 4 (rowsOf encT50 y)),(31,jI a),(32,jI b)],[(38,.row true 1 5 (rowsOf (encI .u8) c))]⟩:St))
 | .o1 y a b c d=>(.exit 1,(⟨51,[(0,.own 30000),(30,.sl 4 (rowsOf encT50 y)),(31,jI a),(32,jI b),(33,.p (.bool c))],[(30000,.row true 1 5 (rowsOf (encI .u8) d))]⟩:St))
noncomputable def f51a_l1_j2 (k:Nat) (a:List T50) (b c:Int) (d:List Int):Option R51a_l1 :=
 some (.o0 a b (IntKind.i64.wrap (c+(1:Int))) d)
theorem f51a_l1_j2_ok (k a b c d r) (e:f51a_l1_j2 k a b c d=some r):EX 51 k (nav B51 [2,2,2,1,2,2,1,2,2,2,3,2,2,2,1,2,2]) (⟨51,[(0,.own 38),(30,.sl 4 (rowsOf encT50 a)),(31,jI b),(32,jI c)],[(38,.row true 1 5 (rowsOf (encI .u8) d))]⟩:St)=some r.st:=by
 unfold f51a_l1_j2 at e
 cases e
 simp (disch:=first|apply D;decide|apply K;kernel_rfl) only [E,EE,↓reduceIte,simprocAttr,rg B51 [2,2,2,1,2,2,1,2,2,2,3,2,2,2,1,2,2] 11 false rfl,hr 51 11 rfl,R51a_l1.st]
noncomputable def f51a_l1_j1 (k:Nat) (b:List T50) (d a:Int) (f:Bool) (e:List Int):Option R51a_l1 :=
 ifE ((0:Int)≤a) (
  Option.bind (b[(Int.toNat a)]?) fun c =>
   Option.bind (f51b k c.Kind c.Num c.Bytes c.Items e) fun o4 =>
    match o4 with
    | .o0 g =>
     f51a_l1_j2 k b d a g)
theorem f51a_l1_j1_ok (k b c d f e r) (a:f51a_l1_j1 k b c d f e=some r):EX 51 k (nav B51 [2,2,1,2,2,1,2,2,2,3,2,2,2,1,2,2]) (⟨51,[(0,.own 30000),(30,.sl 4 (rowsOf encT50 b)),(31,jI c),(32,jI d),(33,.p (.bool f))],[(30000,.row true 1 5 (rowsOf (encI .u8) e))]⟩:St)=some r.st:=by
 unfold f51a_l1_j1 at a
 obtain ⟨i,a⟩:=ifE_some.1 a
 obtain ⟨h,j,a⟩:=bs a
 obtain ⟨o4,l,a⟩:=bs a
 have g:=f51b_ok k h.Kind h.Num h.Bytes h.Items e _ l
 cases o4 with
 | o0 m =>
  (try dsimp only at a)
  (try simp only [NM,EE,R51b.st] at g)
  have hJ:=f51a_l1_j2_ok k b c d m _ a
  simp (disch:=first|apply D;decide|apply K;kernel_rfl) only [E,EE,↓reduceIte,simprocAttr,xk B51 [2,2,1,2,2,1,2,2,2,3,2,2,2,1,2,2] .sq rfl,xk B51 [1,2,2,1,2,2,1,2,2,2,3,2,2,2,1,2,2] (.bk 2) rfl,xk B51 [2,1,2,2,1,2,2,1,2,2,2,3,2,2,2,1,2,2] .sq rfl,rg B51 [1,2,1,2,2,1,2,2,1,2,2,2,3,2,2,2,1,2,2] 9 false rfl,hr 51 9 rfl,indexAddrV,t_48,t_50,encT50_eq,rg B51 [2,2,1,2,2,1,2,2,1,2,2,2,3,2,2,2,1,2,2] 10 false rfl,hr 51 10 rfl,callStep,CL,gv,List.contains,i,j,g]
  try simp only [NM,EE] at hJ
  exact hJ
noncomputable def f51a_l1_b (k:Nat) (c:List T50) (a b:Int) (d:List Int):Option R51a_l1 :=
 cond ((decide (b<a)))
  (f51a_l1_j1 k c a b true d)
  (some (.o1 c a b false d))
theorem f51a_l1_b_ok (k a b c d r) (e:f51a_l1_b k a b c d=some r):EX 51 k (nav B51 [1,2,2,1,2,2,2,3,2,2,2,1,2,2]) (⟨51,[(0,.own 30000),(30,.sl 4 (rowsOf encT50 a)),(31,jI b),(32,jI c)],[(30000,.row true 1 5 (rowsOf (encI .u8) d))]⟩:St)=some r.st:=by
 unfold f51a_l1_b at e
 simp (disch:=first|apply D;decide|apply K;kernel_rfl) only [E,EE,↓reduceIte,simprocAttr,xk B51 [1,2,2,1,2,2,2,3,2,2,2,1,2,2] .sq rfl,rg B51 [1,1,2,2,1,2,2,2,3,2,2,2,1,2,2] 8 false rfl,hr 51 8 rfl,xk B51 [2,1,2,2,1,2,2,2,3,2,2,2,1,2,2] .sq rfl,xk B51 [1,2,1,2,2,1,2,2,2,3,2,2,2,1,2,2] (.cd 33) rfl]
 rcases cond_some e with ⟨f,e⟩ | ⟨f,e⟩
 ·have hJ:=f51a_l1_j1_ok k a b c true d _ e
  simp (disch:=first|apply D;decide|apply K;kernel_rfl) only [E,EE,↓reduceIte,simprocAttr,xk B51 [2,1,2,1,2,2,1,2,2,2,3,2,2,2,1,2,2] .sk rfl,f]
  try simp only [NM,EE] at hJ
  exact hJ
 ·cases e
  simp (disch:=first|apply D;decide|apply K;kernel_rfl) only [E,EE,↓reduceIte,simprocAttr,xk B51 [3,1,2,1,2,2,1,2,2,2,3,2,2,2,1,2,2] (.ex 1) rfl,R51a_l1.st,f]
noncomputable def f51a_l1 (k:Nat):Nat→(List T50)→Int→Int→(List Int)→Option R51a_l1
 | 0,_,_,_,_=>none
 | n+1,d,e,f,g=>Option.bind (f51a_l1_b k d e f g) fun o =>
  match o with
  | .o0 y a b c=>f51a_l1 k n y a b c
  | .o1 y a b c h=>some (.o1 y a b c h)
theorem f51a_l1_ok (k n:Nat):∀ (a:List T50) (b c:Int) (d:List Int) (r:R51a_l1) (e:f51a_l1 k n a b c d=some r) (σ:St) (hσ:headR (hints.head 51 8) (hints.canon 51 8) σ=some (⟨51,[(0,.own 30000),(30,.sl 4 (rowsOf encT50 a)),(31,jI b),(32,jI c)],[(30000,.row true 1 5 (rowsOf (encI .u8) d))]⟩:St)),LP 51 k (nav B51 [1,2,2,1,2,2,2,3,2,2,2,1,2,2]) n σ=some r.st:=by
 induction n with
 | zero=>intro a b c d r e;cases e
 | succ n j =>
  intro a b c d r e σ hσ
  rw [f51a_l1] at e
  obtain ⟨o,h,e⟩:=Option.bind_eq_some_iff.1 e
  have hB:=f51a_l1_b_ok k a b c d o h
  unfold LP at j ⊢
  unfold EX at hB
  rw [loopK_succ,show firstReg (nav B51 [1,2,2,1,2,2,2,3,2,2,2,1,2,2])=8 from rfl,hσ,headK_some,hB]
  cases o with
  | o0 y f g i =>
   refine j y f g i r e _ ?_
   simp (disch:=first|apply D;decide|apply K;kernel_rfl) only [E,EE,↓reduceIte,simprocAttr,hh_51_8,hc_51_8]
  | o1 y f g i l=>cases e;rfl
noncomputable def f51a_j2 (k:Nat) (b:List T50) (c d:Int) (e:Bool) (a:List Int):Option R51a :=
 some (.o0 a)
theorem f51a_j2_ok (k a b c d e r) (f:f51a_j2 k a b c d e=some r):finK Tryd.prog Tryd.f51 0 (SQ 51 k (nav B51 [2,2,2]) (blockK 0 (EX 51 k (nav B51 [2,2,2,2,3,2,2,2,1,2,2]) (⟨51,[(0,.own 30000),(30,.sl 4 (rowsOf encT50 a)),(31,jI b),(32,jI c),(33,.p (.bool d))],[(30000,.row true 1 5 (rowsOf (encI .u8) e))]⟩:St))))=some r.st:=by
 unfold f51a_j2 at f
 cases f
 simp (disch:=first|apply D;decide|apply K;kernel_rfl) only [E,EE,↓reduceIte,simprocAttr,xk B51 [2,2,2,2,3,2,2,2,1,2,2] .sq rfl,rg B51 [1,2,2,2,2,3,2,2,2,1,2,2] 12 false rfl,hr 51 12 rfl,xk B51 [2,2,2,2,2,3,2,2,2,1,2,2] .rt rfl,fin51,R51a.st]
noncomputable def f51a_j3 (k:Nat) (e:Int) (f:Bool) (g:List Int) (h b:Int) (a:List Int) (c:List T50):Option R51a :=
 Option.bind (f67 k e (IntKind.u64.wrap ((List.length a):Int)) g) fun o1 =>
  match o1 with
  | .o0 d =>
   ifE (((List.length d)+(List.length a))≤roomy) (
    some (.o0 (d++a)))
theorem f51a_j3_ok (k g e h i b a c r) (d:f51a_j3 k g e h i b a c=some r):finK Tryd.prog Tryd.f51 0 (EX 51 k (nav B51 [2,2,2]) (⟨51,[(0,.own 700000),(3,.ptr 3 0),(5,.p (.int .u8 g)),(20,.p (.bool e))],[(700000,.row true 1 5 (rowsOf (encI .u8) h)),(3,.box 50 [jI i,.p (.int .u64 b),.sl 1 (rowsOf (encI .u8) a),.sl 4 (rowsOf encT50 c)])]⟩:St))=some r.st:=by
 unfold f51a_j3 at d
 obtain ⟨o1,j,d⟩:=bs d
 have f:=f67_ok k g (IntKind.u64.wrap ((List.length a):Int)) h _ j
 cases o1 with
 | o0 m =>
  (try dsimp only at d)
  (try simp only [NM,EE,R67.st] at f)
  obtain ⟨l,d⟩:=ifE_some.1 d
  cases d
  simp (disch:=first|apply D;decide|apply K;kernel_rfl) only [E,EE,↓reduceIte,simprocAttr,xk B51 [2,2,2] .sq rfl,rg B51 [1,2,2,2] 13 true rfl,hr 51 13 rfl,fieldAddrV,t_50,t_22,t_3,t_47,convV,callStep,CL,gv,List.contains,appendV,content,t_5,xk B51 [2,2,2,2] .rt rfl,fin51,R51a.st,f,l]
noncomputable def f51a_e (k:Nat) (d b:Int) (c:List Int) (a:List T50):Option R51a :=
 Option.bind (f66 k d) fun o1 =>
  match o1 with
  | .o0 e =>
   cond ((d==1))
    (
     Option.bind (f67 k e b []) fun o6 =>
      match o6 with
      | .o0 m =>
       some (.o0 m))
    (
     cond ((d==4))
      (
       Option.bind (f67 k e (IntKind.u64.wrap ((List.length a):Int)) []) fun o11 =>
        match o11 with
        | .o0 f =>
         Option.bind (f51a_l1 k k a ((List.length a):Int) 0 f) fun o15 =>
          match o15 with
          | .o0 _ _ _ _ =>
           none
          | .o1 g h i j l =>
           f51a_j2 k g h i j l)
      (f51a_j3 k e false [] d b c a))
theorem f51a_e_ok (k l d f b r) (a:f51a_e k l d f b=some r):finK Tryd.prog Tryd.f51 0 (EX 51 k (nav B51 []) (⟨51,[(0,V.nil),(1,.agg [jI l,.p (.int .u64 d),.sl 1 (rowsOf (encI .u8) f),.sl 4 (rowsOf encT50 b)])],[]⟩:St))=some r.st:=by
 unfold f51a_e at a
 obtain ⟨o1,x,a⟩:=bs a
 have c:=f66_ok k l _ x
 cases o1 with
 | o0 m =>
  (try dsimp only at a)
  (try simp only [NM,EE,R66.st] at c)
  simp (disch:=first|apply D;decide|apply K;kernel_rfl) only [E,EE,↓reduceIte,simprocAttr,xk B51 [] .sq rfl,rg B51 [1] 0 false rfl,hr_51_0,xk B51 [2] .sq rfl,rg B51 [1,2] 1 false rfl,hr 51 1 rfl,fieldAddrV,t_50,t_3,callStep,CL,gv,List.contains,xk B51 [2,2] .sq rfl,xk B51 [1,2,2] .sq rfl,rg B51 [1,1,2,2] 2 false rfl,hr 51 2 rfl,xk B51 [2,1,2,2] (.bk 0) rfl,xk B51 [2,2,1,2,2] .sq rfl,rg B51 [1,2,2,1,2,2] 3 false rfl,hr 51 3 rfl,xk B51 [2,2,2,1,2,2] (.cd 13) rfl,c]
  rcases cond_some a with ⟨i,a⟩ | ⟨i,a⟩
  ·obtain ⟨o6,y,a⟩:=bs a
   have j:=f67_ok k m d [] _ y
   cases o6 with
   | o0 z =>
    (try dsimp only at a)
    (try simp only [NM,EE,R67.st] at j)
    cases a
    simp (disch:=first|apply D;decide|apply K;kernel_rfl) only [E,EE,↓reduceIte,simprocAttr,xk B51 [2,2,2,2,1,2,2] .sq rfl,rg B51 [1,2,2,2,2,1,2,2] 4 false rfl,hr 51 4 rfl,fieldAddrV,t_50,t_47,callStep,CL,gv,List.contains,xk B51 [2,2,2,2,2,1,2,2] .rt rfl,fin51,R51a.st,c,i,j]
  ·simp (disch:=first|apply D;decide|apply K;kernel_rfl) only [E,EE,↓reduceIte,simprocAttr,xk B51 [3,2,2,2,1,2,2] .sq rfl,rg B51 [1,3,2,2,2,1,2,2] 5 false rfl,hr 51 5 rfl,xk B51 [2,3,2,2,2,1,2,2] (.cd 20) rfl,c,i]
   rcases cond_some a with ⟨g,a⟩ | ⟨g,a⟩
   ·obtain ⟨o11,o,a⟩:=bs a
    have e:=f67_ok k m (IntKind.u64.wrap ((List.length b):Int)) [] _ o
    cases o11 with
    | o0 p =>
     (try dsimp only at a)
     (try simp only [NM,EE,R67.st] at e)
     obtain ⟨o15,q,a⟩:=bs a
     have h:=f51a_l1_ok k k b ((List.length b):Int) 0 p _ q
     simp (disch:=first|apply D;decide|apply K;kernel_rfl) only [E,EE,↓reduceIte,simprocAttr,xk B51 [2,2,3,2,2,2,1,2,2] .sq rfl,rg B51 [1,2,2,3,2,2,2,1,2,2] 6 false rfl,hr 51 6 rfl,fieldAddrV,t_50,t_48,t_3,t_47,convV,callStep,CL,gv,List.contains,xk B51 [2,2,2,3,2,2,2,1,2,2] .sq rfl,xk B51 [1,2,2,2,3,2,2,2,1,2,2] .sq rfl,rg B51 [1,1,2,2,2,3,2,2,2,1,2,2] 7 false rfl,hr 51 7 rfl,xk B51 [2,1,2,2,2,3,2,2,2,1,2,2] (.bk 1) rfl,xk B51 [2,2,1,2,2,2,3,2,2,2,1,2,2] .lp rfl,hh_51_8,hc_51_8,c,i,g,e]
     (try simp only [NM,EE] at h)
     rw [h _ (by simp (disch:=first|apply D;decide|apply K;kernel_rfl) only [E,EE,↓reduceIte,simprocAttr,hh_51_8,hc_51_8,c,i,g,e])]
     clear h
     cases o15 with
     | o0 _ _ _ _ =>
      (try dsimp only at a)
      cases a
     | o1 s t u v w =>
      (try dsimp only at a)
      have hJ:=f51a_j2_ok k s t u v w _ a
      simp (disch:=first|apply D;decide|apply K;kernel_rfl) only [E,EE,↓reduceIte,simprocAttr,R51a_l1.st,c,i,g,e]
      try simp only [NM,EE] at hJ
      exact hJ
   ·have hJ:=f51a_j3_ok k m false [] l d f b _ a
    simp (disch:=first|apply D;decide|apply K;kernel_rfl) only [E,EE,↓reduceIte,simprocAttr,xk B51 [3,2,3,2,2,2,1,2,2] .sk rfl,c,i,g]
    try simp only [NM,EE] at hJ
    exact hJ
noncomputable def f51a (k:Nat) (d a:Int) (b:List Int) (c:List T50):Option R51a:=match k with | 0=>none | k+1=>f51a_e k d a b c
theorem f51a_ok (k e a b d r) (f:f51a k e a b d=some r):CV k 51 [V.nil,.agg [jI e,.p (.int .u64 a),.sl 1 (rowsOf (encI .u8) b),.sl 4 (rowsOf encT50 d)]] []=some r.st:=by
 cases k with
 | zero=>cases f
 | succ k =>
  unfold CV
  rw [ev_call (F:=Tryd.f51) (c:=(nav B51 [])) rfl Tryd.func51 rfl rfl rfl rfl]
  exact f51a_e_ok k e a b d r f
-- f31: f31 heliograph/cbor.Encode
inductive R31 where
 | o0 (y:List Int) (a:Int)
 | o1 (y:Int) (a:List Int)
noncomputable def R31.st:R31→V×List O×List O
 | .o0 y a=>(V.tup [.sl 1 (rowsOf (encI .u8) y),jI a],[],[])
 | .o1 y a=>(V.tup [.own 2000000,jI y],[],[.row true 1 5 (rowsOf (encI .u8) a)])
noncomputable def f31_j1 (k:Nat) (f:Int) (g:Bool) (d a:Int) (b:List Int) (c:List T50):Option R31 :=
 Option.bind (f51a k d a b c) fun o1 =>
  match o1 with
  | .o0 e =>
   some (.o1 0 e)
theorem f31_j1_ok (k g h f a b c r) (d:f31_j1 k g h f a b c=some r):finK Tryd.prog Tryd.f31 0 (EX 31 k (nav B31 [2,2]) (⟨12,[(1,.ptr 1 0),(4,jI g),(8,.p (.bool h))],[(1,.box 50 [jI f,.p (.int .u64 a),.sl 1 (rowsOf (encI .u8) b),.sl 4 (rowsOf encT50 c)])]⟩:St))=some r.st:=by
 unfold f31_j1 at d
 obtain ⟨o1,i,d⟩:=bs d
 have e:=f51a_ok k f a b c _ i
 cases o1 with
 | o0 j =>
  (try dsimp only at d)
  (try simp only [NM,EE,R51a.st] at e)
  cases d
  simp (disch:=first|apply D;decide|apply K;kernel_rfl) only [E,EE,↓reduceIte,simprocAttr,xk B31 [2,2] .sq rfl,rg B31 [1,2,2] 4 false rfl,hr 31 4 rfl,t_50,callStep,CL,gv,List.contains,xk B31 [2,2,2] .rt rfl,fin31,R31.st,e]
noncomputable def f31_e (k:Nat) (e a:Int) (b:List Int) (c:List T50):Option R31 :=
 Option.bind (f50 k e a b c) fun o1 =>
  match o1 with
  | .o0 d =>
   cond ((d != 0))
    (some (.o0 [] d))
    (f31_j1 k d false e a b c)
theorem f31_e_ok (k f a b c r) (d:f31_e k f a b c=some r):finK Tryd.prog Tryd.f31 0 (EX 31 k (nav B31 []) (⟨12,[(0,.agg [jI f,.p (.int .u64 a),.sl 1 (rowsOf (encI .u8) b),.sl 4 (rowsOf encT50 c)])],[]⟩:St))=some r.st:=by
 unfold f31_e at d
 obtain ⟨o1,h,d⟩:=bs d
 have e:=f50_ok k f a b c _ h
 cases o1 with
 | o0 i =>
  (try dsimp only at d)
  (try simp only [NM,EE,R50.st] at e)
  simp (disch:=first|apply D;decide|apply K;kernel_rfl) only [E,EE,↓reduceIte,simprocAttr,xk B31 [] .sq rfl,rg B31 [1] 0 false rfl,hr 31 0 rfl,xk B31 [2] .sq rfl,xk B31 [1,2] .sq rfl,rg B31 [1,1,2] 1 false rfl,hr 31 1 rfl,t_50,callStep,CL,gv,List.contains,xk B31 [2,1,2] .sq rfl,rg B31 [1,2,1,2] 2 false rfl,hr 31 2 rfl,xk B31 [2,2,1,2] (.cd 8) rfl,e]
  rcases cond_some d with ⟨g,d⟩ | ⟨g,d⟩
  ·cases d
   simp (disch:=first|apply D;decide|apply K;kernel_rfl) only [E,EE,↓reduceIte,simprocAttr,xk B31 [2,2,2,1,2] .sq rfl,rg B31 [1,2,2,2,1,2] 3 false rfl,hr_31_3,xk B31 [2,2,2,2,1,2] .rt rfl,fin31,R31.st,e,g]
  ·have hJ:=f31_j1_ok k i false f a b c _ d
   simp (disch:=first|apply D;decide|apply K;kernel_rfl) only [E,EE,↓reduceIte,simprocAttr,xk B31 [3,2,2,1,2] .sk rfl,e,g]
   try simp only [NM,EE] at hJ
   exact hJ
noncomputable def f31 (k:Nat) (d a:Int) (b:List Int) (c:List T50):Option R31:=match k with | 0=>none | k+1=>f31_e k d a b c
theorem f31_ok (k e a b d r) (f:f31 k e a b d=some r):CV k 31 [.agg [jI e,.p (.int .u64 a),.sl 1 (rowsOf (encI .u8) b),.sl 4 (rowsOf encT50 d)]] []=some r.st:=by
 cases k with
 | zero=>cases f
 | succ k =>
  unfold CV
  rw [ev_call (F:=Tryd.f31) (c:=(nav B31 [])) rfl Tryd.func31 rfl rfl rfl rfl]
  exact f31_e_ok k e a b d r f
-- f68: f68 heliograph/sum.sum[uint16]
inductive R68 where
 | o0 (y:Int)
noncomputable def R68.st:R68→V×List O×List O
 | .o0 y=>(.p (.int .u16 y),[],[])
inductive R68_l1_l2 where
 | o0 (y a:Int) (b:List Int) (c d e:Int)
 | o1 (y a:Int) (b:List Int) (c d e:Int) (f:Bool)
noncomputable def R68_l1_l2.st:R68_l1_l2→Out×St
 | .o0 y a b c d e=>(.norm,(⟨36,[(1,.p (.int .u16 y)),(5,.p (.int .u16 a)),(11,.sl 1 (rowsOf (encI .u8) b)),(12,jI c),(13,jI d),(21,jI e)],[]⟩:St))
 | .o1 y a b c d e f=>(.exit 2,(⟨36,[(1,.p (.int .u16 y)),(5,.p (.int .u16 a)),(11,.sl 1 (rowsOf (encI .u8) b)),(12,jI c),(13,jI d),(21,jI e),(22,.p (.bool f))],[]⟩:St))
noncomputable def f68_l1_l2_j2 (k:Nat) (e f:Int) (a:List Int) (b c d:Int):Option R68_l1_l2 :=
 some (R68_l1_l2.o0 e f a b c (IntKind.i64.wrap (d+(1:Int))))
theorem f68_l1_l2_j2_ok (k e f a b c d r) (g:f68_l1_l2_j2 k e f a b c d=some r):EX 68 k (nav B68 [2,2,2,1,2,2,2,2,2,1,2,2,1,2,2,1,2,2]) (⟨36,[(1,.p (.int .u16 e)),(5,.p (.int .u16 f)),(11,.sl 1 (rowsOf (encI .u8) a)),(12,jI b),(13,jI c),(21,jI d)],[]⟩:St)=some r.st:=by
 unfold f68_l1_l2_j2 at g
 cases g
 simp (disch:=first|apply D;decide|apply K;kernel_rfl) only [E,EE,↓reduceIte,simprocAttr,rg B68 [2,2,2,1,2,2,2,2,2,1,2,2,1,2,2,1,2,2] 12 false rfl,hr 68 12 rfl,R68_l1_l2.st]
noncomputable def f68_l1_l2_j3 (k:Nat) (e f:Int) (a:List Int) (b c d:Int) (g:Bool):Option R68_l1_l2 :=
 some (R68_l1_l2.o0 e f a b c (IntKind.i64.wrap (d+(1:Int))))
theorem f68_l1_l2_j3_ok (k f g a b c d e r) (h:f68_l1_l2_j3 k f g a b c d e=some r):EX 68 k (nav B68 [2,2,2,1,2,2,2,2,2,1,2,2,1,2,2,1,2,2]) (⟨36,[(1,.p (.int .u16 f)),(5,.p (.int .u16 g)),(11,.sl 1 (rowsOf (encI .u8) a)),(12,jI b),(13,jI c),(21,jI d),(28,.p (.bool e))],[]⟩:St)=some r.st:=by
 unfold f68_l1_l2_j3 at h
 cases h
 simp (disch:=first|apply D;decide|apply K;kernel_rfl) only [E,EE,↓reduceIte,simprocAttr,rg B68 [2,2,2,1,2,2,2,2,2,1,2,2,1,2,2,1,2,2] 12 false rfl,hr 68 12 rfl,R68_l1_l2.st]
noncomputable def f68_l1_l2_j1 (k:Nat) (e f:Int) (a:List Int) (b c d:Int) (g:Bool):Option R68_l1_l2 :=
 cond (((IntKind.u16.wrap ((BitVec.ofInt (IntKind.bits .u16) f &&& BitVec.ofInt (IntKind.bits .u16) (1:Int)).toNat:Nat))==1))
  (f68_l1_l2_j2 k e ((IntKind.u16.wrap ((BitVec.ofInt (IntKind.bits .u16) (Int.fdiv f (2 ^ (min 1 (IntKind.bits .u16)))) ^^^ BitVec.ofInt (IntKind.bits .u16) e).toNat:Nat))) a b c d)
  (f68_l1_l2_j3 k e (Int.fdiv f (2 ^ (min 1 (IntKind.bits .u16)))) a b c d false)
theorem f68_l1_l2_j1_ok (k f h a b c d g r) (e:f68_l1_l2_j1 k f h a b c d g=some r):EX 68 k (nav B68 [2,2,1,2,2,2,2,2,1,2,2,1,2,2,1,2,2]) (⟨36,[(1,.p (.int .u16 f)),(5,.p (.int .u16 h)),(11,.sl 1 (rowsOf (encI .u8) a)),(12,jI b),(13,jI c),(21,jI d),(22,.p (.bool g))],[]⟩:St)=some r.st:=by
 unfold f68_l1_l2_j1 at e
 simp (disch:=first|apply D;decide|apply K;kernel_rfl) only [E,EE,↓reduceIte,simprocAttr,xk B68 [2,2,1,2,2,2,2,2,1,2,2,1,2,2,1,2,2] .sq rfl,xk B68 [1,2,2,1,2,2,2,2,2,1,2,2,1,2,2,1,2,2] (.bk 3) rfl,xk B68 [2,1,2,2,1,2,2,2,2,2,1,2,2,1,2,2,1,2,2] .sq rfl,rg B68 [1,2,1,2,2,1,2,2,2,2,2,1,2,2,1,2,2,1,2,2] 8 false rfl,hr 68 8 rfl,xk B68 [2,2,1,2,2,1,2,2,2,2,2,1,2,2,1,2,2,1,2,2] .sq rfl,rg B68 [1,2,2,1,2,2,1,2,2,2,2,2,1,2,2,1,2,2,1,2,2] 9 false rfl,hr 68 9 rfl,shiftV,xk B68 [2,2,2,1,2,2,1,2,2,2,2,2,1,2,2,1,2,2,1,2,2] .sq rfl,rg B68 [1,2,2,2,1,2,2,1,2,2,2,2,2,1,2,2,1,2,2,1,2,2] 10 false rfl,hr 68 10 rfl,xk B68 [2,2,2,2,1,2,2,1,2,2,2,2,2,1,2,2,1,2,2,1,2,2] (.cd 28) rfl]
 rcases cond_some e with ⟨i,e⟩ | ⟨i,e⟩
 ·have hJ:=f68_l1_l2_j2_ok k f ((IntKind.u16.wrap ((BitVec.ofInt (IntKind.bits .u16) (Int.fdiv h (2 ^ (min 1 (IntKind.bits .u16)))) ^^^ BitVec.ofInt (IntKind.bits .u16) f).toNat:Nat))) a b c d _ e
  simp (disch:=first|apply D;decide|apply K;kernel_rfl) only [E,EE,↓reduceIte,simprocAttr,rg B68 [2,2,2,2,2,1,2,2,1,2,2,2,2,2,1,2,2,1,2,2,1,2,2] 11 false rfl,hr 68 11 rfl,i]
  try simp only [NM,EE] at hJ
  exact hJ
 ·have hJ:=f68_l1_l2_j3_ok k f (Int.fdiv h (2 ^ (min 1 (IntKind.bits .u16)))) a b c d false _ e
  simp (disch:=first|apply D;decide|apply K;kernel_rfl) only [E,EE,↓reduceIte,simprocAttr,xk B68 [3,2,2,2,2,1,2,2,1,2,2,2,2,2,1,2,2,1,2,2,1,2,2] .sk rfl,i]
  try simp only [NM,EE] at hJ
  exact hJ
noncomputable def f68_l1_l2_b (k:Nat) (e f:Int) (b:List Int) (c d a:Int):Option R68_l1_l2 :=
 cond ((decide (a<8)))
  (f68_l1_l2_j1 k e f b c d a true)
  (some (R68_l1_l2.o1 e f b c d a false))
theorem f68_l1_l2_b_ok (k f g a b c d r) (e:f68_l1_l2_b k f g a b c d=some r):EX 68 k (nav B68 [1,2,2,2,2,2,1,2,2,1,2,2,1,2,2]) (⟨36,[(1,.p (.int .u16 f)),(5,.p (.int .u16 g)),(11,.sl 1 (rowsOf (encI .u8) a)),(12,jI b),(13,jI c),(21,jI d)],[]⟩:St)=some r.st:=by
 unfold f68_l1_l2_b at e
 simp (disch:=first|apply D;decide|apply K;kernel_rfl) only [E,EE,↓reduceIte,simprocAttr,xk B68 [1,2,2,2,2,2,1,2,2,1,2,2,1,2,2] .sq rfl,rg B68 [1,1,2,2,2,2,2,1,2,2,1,2,2,1,2,2] 7 false rfl,hr 68 7 rfl,xk B68 [2,1,2,2,2,2,2,1,2,2,1,2,2,1,2,2] .sq rfl,xk B68 [1,2,1,2,2,2,2,2,1,2,2,1,2,2,1,2,2] (.cd 22) rfl]
 rcases cond_some e with ⟨h,e⟩ | ⟨h,e⟩
 ·have hJ:=f68_l1_l2_j1_ok k f g a b c d true _ e
  simp (disch:=first|apply D;decide|apply K;kernel_rfl) only [E,EE,↓reduceIte,simprocAttr,xk B68 [2,1,2,1,2,2,2,2,2,1,2,2,1,2,2,1,2,2] .sk rfl,h]
  try simp only [NM,EE] at hJ
  exact hJ
 ·cases e
  simp (disch:=first|apply D;decide|apply K;kernel_rfl) only [E,EE,↓reduceIte,simprocAttr,xk B68 [3,1,2,1,2,2,2,2,2,1,2,2,1,2,2,1,2,2] (.ex 2) rfl,R68_l1_l2.st,h]
noncomputable def f68_l1_l2 (k:Nat):Nat→Int→Int→(List Int)→Int→Int→Int→Option R68_l1_l2
 | 0,_,_,_,_,_,_=>none
 | n+1,l,m,f,g,h,i=>Option.bind (f68_l1_l2_b k l m f g h i) fun o =>
  match o with
  | .o0 y a b c d e=>f68_l1_l2 k n y a b c d e
  | .o1 y a b c d e j=>some (.o1 y a b c d e j)
theorem f68_l1_l2_ok (k n:Nat):∀ (f g:Int) (a:List Int) (b c d:Int) (r:R68_l1_l2) (e:f68_l1_l2 k n f g a b c d=some r) (σ:St) (hσ:headR (hints.head 68 7) (hints.canon 68 7) σ=some (⟨36,[(1,.p (.int .u16 f)),(5,.p (.int .u16 g)),(11,.sl 1 (rowsOf (encI .u8) a)),(12,jI b),(13,jI c),(21,jI d)],[]⟩:St)),LP 68 k (nav B68 [1,2,2,2,2,2,1,2,2,1,2,2,1,2,2]) n σ=some r.st:=by
 induction n with
 | zero=>intro f g a b c d r e;cases e
 | succ n q =>
  intro f g a b c d r e σ hσ
  rw [f68_l1_l2] at e
  obtain ⟨o,h,e⟩:=Option.bind_eq_some_iff.1 e
  have hB:=f68_l1_l2_b_ok k f g a b c d o h
  unfold LP at q ⊢
  unfold EX at hB
  rw [loopK_succ,show firstReg (nav B68 [1,2,2,2,2,2,1,2,2,1,2,2,1,2,2])=7 from rfl,hσ,headK_some,hB]
  cases o with
  | o0 y i j l m p =>
   refine q y i j l m p r e _ ?_
   simp (disch:=first|apply D;decide|apply K;kernel_rfl) only [E,EE,↓reduceIte,simprocAttr,hh_68_7,hc_68_7]
  | o1 y i j l m p s=>cases e;rfl
inductive R68_l1 where
 | o0 (y a:Int) (b:List Int) (c d:Int)
 | o1 (y a:Int) (b:List Int) (c d:Int) (e:Bool)
noncomputable def R68_l1.st:R68_l1→Out×St
 | .o0 y a b c d=>(.norm,(⟨36,[(1,.p (.int .u16 y)),(5,.p (.int .u16 a)),(11,.sl 1 (rowsOf (encI .u8) b)),(12,jI c),(13,jI d)],[]⟩:St))
 | .o1 y a b c d e=>(.exit 0,(⟨36,[(1,.p (.int .u16 y)),(5,.p (.int .u16 a)),(11,.sl 1 (rowsOf (encI .u8) b)),(12,jI c),(13,jI d),(14,.p (.bool e))],[]⟩:St))
noncomputable def f68_l1_j3 (k:Nat) (d e:Int) (a:List Int) (b c f:Int) (g:Bool):Option R68_l1 :=
 some (.o0 d e a b (IntKind.i64.wrap (c+(1:Int))))
theorem f68_l1_j3_ok (k f g a b c d e r) (h:f68_l1_j3 k f g a b c d e=some r):EX 68 k (nav B68 [2,2,2,1,2,2,1,2,2]) (⟨36,[(1,.p (.int .u16 f)),(5,.p (.int .u16 g)),(11,.sl 1 (rowsOf (encI .u8) a)),(12,jI b),(13,jI c),(21,jI d),(22,.p (.bool e))],[]⟩:St)=some r.st:=by
 unfold f68_l1_j3 at h
 cases h
 simp (disch:=first|apply D;decide|apply K;kernel_rfl) only [E,EE,↓reduceIte,simprocAttr,rg B68 [2,2,2,1,2,2,1,2,2] 13 false rfl,hr 68 13 rfl,R68_l1.st]
noncomputable def f68_l1_j1 (k:Nat) (h i:Int) (b:List Int) (c a:Int) (j:Bool):Option R68_l1 :=
 ifE ((0:Int)≤a) (
  Option.bind (b[(Int.toNat a)]?) fun l =>
   Option.bind (f68_l1_l2 k k h ((IntKind.u16.wrap ((BitVec.ofInt (IntKind.bits .u16) i ^^^ BitVec.ofInt (IntKind.bits .u16) (IntKind.u16.wrap l)).toNat:Nat))) b c a 0) fun o4 =>
    match o4 with
    | .o0 _ _ _ _ _ _ =>
     none
    | .o1 m o p d e f g =>
     f68_l1_j3 k m o p d e f g)
theorem f68_l1_j1_ok (k g h b c d f r) (a:f68_l1_j1 k g h b c d f=some r):EX 68 k (nav B68 [2,2,1,2,2,1,2,2]) (⟨36,[(1,.p (.int .u16 g)),(5,.p (.int .u16 h)),(11,.sl 1 (rowsOf (encI .u8) b)),(12,jI c),(13,jI d),(14,.p (.bool f))],[]⟩:St)=some r.st:=by
 unfold f68_l1_j1 at a
 obtain ⟨i,a⟩:=ifE_some.1 a
 obtain ⟨q,j,a⟩:=bs a
 obtain ⟨o4,s,a⟩:=bs a
 have e:=f68_l1_l2_ok k k g ((IntKind.u16.wrap ((BitVec.ofInt (IntKind.bits .u16) h ^^^ BitVec.ofInt (IntKind.bits .u16) (IntKind.u16.wrap q)).toNat:Nat))) b c d 0 _ s
 simp (disch:=first|apply D;decide|apply K;kernel_rfl) only [E,EE,↓reduceIte,simprocAttr,xk B68 [2,2,1,2,2,1,2,2] .sq rfl,xk B68 [1,2,2,1,2,2,1,2,2] (.bk 1) rfl,xk B68 [2,1,2,2,1,2,2,1,2,2] .sq rfl,rg B68 [1,2,1,2,2,1,2,2,1,2,2] 4 false rfl,hr 68 4 rfl,indexAddrV,t_22,t_5,encI_eq,xk B68 [2,2,1,2,2,1,2,2,1,2,2] .sq rfl,rg B68 [1,2,2,1,2,2,1,2,2,1,2,2] 5 false rfl,hr 68 5 rfl,t_80,convV,xk B68 [2,2,2,1,2,2,1,2,2,1,2,2] .sq rfl,rg B68 [1,2,2,2,1,2,2,1,2,2,1,2,2] 6 false rfl,hr 68 6 rfl,xk B68 [2,2,2,2,1,2,2,1,2,2,1,2,2] (.bk 2) rfl,xk B68 [2,2,2,2,2,1,2,2,1,2,2,1,2,2] .lp rfl,hh_68_7,hc_68_7,i,j]
 (try simp only [NM,EE] at e)
 rw [e _ (by simp (disch:=first|apply D;decide|apply K;kernel_rfl) only [E,EE,↓reduceIte,simprocAttr,hh_68_7,hc_68_7,i,j])]
 clear e
 cases o4 with
 | o0 _ _ _ _ _ _ =>
  (try dsimp only at a)
  cases a
 | o1 t u v l m o p =>
  (try dsimp only at a)
  have hJ:=f68_l1_j3_ok k t u v l m o p _ a
  simp (disch:=first|apply D;decide|apply K;kernel_rfl) only [E,EE,↓reduceIte,simprocAttr,R68_l1_l2.st,i,j]
  try simp only [NM,EE] at hJ
  exact hJ
noncomputable def f68_l1_b (k:Nat) (d e:Int) (c:List Int) (a b:Int):Option R68_l1 :=
 cond ((decide (b<a)))
  (f68_l1_j1 k d e c a b true)
  (some (.o1 d e c a b false))
theorem f68_l1_b_ok (k e f a b c r) (d:f68_l1_b k e f a b c=some r):EX 68 k (nav B68 [1,2,2,1,2,2]) (⟨36,[(1,.p (.int .u16 e)),(5,.p (.int .u16 f)),(11,.sl 1 (rowsOf (encI .u8) a)),(12,jI b),(13,jI c)],[]⟩:St)=some r.st:=by
 unfold f68_l1_b at d
 simp (disch:=first|apply D;decide|apply K;kernel_rfl) only [E,EE,↓reduceIte,simprocAttr,xk B68 [1,2,2,1,2,2] .sq rfl,rg B68 [1,1,2,2,1,2,2] 3 false rfl,hr 68 3 rfl,xk B68 [2,1,2,2,1,2,2] .sq rfl,xk B68 [1,2,1,2,2,1,2,2] (.cd 14) rfl]
 rcases cond_some d with ⟨g,d⟩ | ⟨g,d⟩
 ·have hJ:=f68_l1_j1_ok k e f a b c true _ d
  simp (disch:=first|apply D;decide|apply K;kernel_rfl) only [E,EE,↓reduceIte,simprocAttr,xk B68 [2,1,2,1,2,2,1,2,2] .sk rfl,g]
  try simp only [NM,EE] at hJ
  exact hJ
 ·cases d
  simp (disch:=first|apply D;decide|apply K;kernel_rfl) only [E,EE,↓reduceIte,simprocAttr,xk B68 [3,1,2,1,2,2,1,2,2] (.ex 0) rfl,R68_l1.st,g]
noncomputable def f68_l1 (k:Nat):Nat→Int→Int→(List Int)→Int→Int→Option R68_l1
 | 0,_,_,_,_,_=>none
 | n+1,i,j,e,f,g=>Option.bind (f68_l1_b k i j e f g) fun o =>
  match o with
  | .o0 y a b c d=>f68_l1 k n y a b c d
  | .o1 y a b c d h=>some (.o1 y a b c d h)
theorem f68_l1_ok (k n:Nat):∀ (e f:Int) (a:List Int) (b c:Int) (r:R68_l1) (d:f68_l1 k n e f a b c=some r) (σ:St) (hσ:headR (hints.head 68 3) (hints.canon 68 3) σ=some (⟨36,[(1,.p (.int .u16 e)),(5,.p (.int .u16 f)),(11,.sl 1 (rowsOf (encI .u8) a)),(12,jI b),(13,jI c)],[]⟩:St)),LP 68 k (nav B68 [1,2,2,1,2,2]) n σ=some r.st:=by
 induction n with
 | zero=>intro e f a b c r d;cases d
 | succ n m =>
  intro e f a b c r d σ hσ
  rw [f68_l1] at d
  obtain ⟨o,h,d⟩:=Option.bind_eq_some_iff.1 d
  have hB:=f68_l1_b_ok k e f a b c o h
  unfold LP at m ⊢
  unfold EX at hB
  rw [loopK_succ,show firstReg (nav B68 [1,2,2,1,2,2])=3 from rfl,hσ,headK_some,hB]
  cases o with
  | o0 y g i j l =>
   refine m y g i j l r d _ ?_
   simp (disch:=first|apply D;decide|apply K;kernel_rfl) only [E,EE,↓reduceIte,simprocAttr,hh_68_3,hc_68_3]
  | o1 y g i j l p=>cases d;rfl
noncomputable def f68_j2 (k:Nat) (f a:Int) (b:List Int) (c d:Int) (e:Bool):Option R68 :=
 some (.o0 (flipI .u16 a))
theorem f68_j2_ok (k e f a b c d r) (g:f68_j2 k e f a b c d=some r):finK Tryd.prog Tryd.f68 0 (EX 68 k (nav B68 [2,2,2]) (⟨36,[(1,.p (.int .u16 e)),(5,.p (.int .u16 f)),(11,.sl 1 (rowsOf (encI .u8) a)),(12,jI b),(13,jI c),(14,.p (.bool d))],[]⟩:St))=some r.st:=by
 unfold f68_j2 at g
 cases g
 simp (disch:=first|apply D;decide|apply K;kernel_rfl) only [E,EE,↓reduceIte,simprocAttr,xk B68 [2,2,2] .sq rfl,rg B68 [1,2,2,2] 14 false rfl,hr 68 14 rfl,xk B68 [2,2,2,2] .rt rfl,fin68,R68.st]
noncomputable def f68_e (k:Nat) (a:List Int) (b:Int):Option R68 :=
 Option.bind (f68_l1 k k b (flipI .u16 (IntKind.u16.wrap 0)) a ((List.length a):Int) 0) fun o1 =>
  match o1 with
  | .o0 _ _ _ _ _ =>
   none
  | .o1 c d e f g h =>
   f68_j2 k c d e f g h
theorem f68_e_ok (k c d r) (a:f68_e k c d=some r):finK Tryd.prog Tryd.f68 0 (EX 68 k (nav B68 []) (⟨36,[(0,.sl 1 (rowsOf (encI .u8) c)),(1,.p (.int .u16 d))],[]⟩:St))=some r.st:=by
 unfold f68_e at a
 obtain ⟨o1,e,a⟩:=bs a
 have b:=f68_l1_ok k k d (flipI .u16 (IntKind.u16.wrap 0)) c ((List.length c):Int) 0 _ e
 simp (disch:=first|apply D;decide|apply K;kernel_rfl) only [E,EE,↓reduceIte,simprocAttr,xk B68 [] .sq rfl,rg B68 [1] 0 false rfl,hr 68 0 rfl,xk B68 [2] .sq rfl,rg B68 [1,2] 1 false rfl,hr 68 1 rfl,t_3,t_80,convV,xk B68 [2,2] .sq rfl,xk B68 [1,2,2] .sq rfl,rg B68 [1,1,2,2] 2 false rfl,hr 68 2 rfl,t_22,xk B68 [2,1,2,2] (.bk 0) rfl,xk B68 [2,2,1,2,2] .lp rfl,hh_68_3,hc_68_3]
 (try simp only [NM,EE] at b)
 rw [b _ (by simp (disch:=first|apply D;decide|apply K;kernel_rfl) only [E,EE,↓reduceIte,simprocAttr,hh_68_3,hc_68_3])]
 clear b
 cases o1 with
 | o0 _ _ _ _ _ =>
  (try dsimp only at a)
  cases a
 | o1 f g h i j l =>
  (try dsimp only at a)
  have hJ:=f68_j2_ok k f g h i j l _ a
  simp (disch:=first|apply D;decide|apply K;kernel_rfl) only [E,EE,↓reduceIte,simprocAttr,R68_l1.st]
  try simp only [NM,EE] at hJ
  exact hJ
noncomputable def f68 (k:Nat) (a:List Int) (b:Int):Option R68:=match k with | 0=>none | k+1=>f68_e k a b
theorem f68_ok (k a b r) (d:f68 k a b=some r):CV k 68 [.sl 1 (rowsOf (encI .u8) a),.p (.int .u16 b)] []=some r.st:=by
 cases k with
 | zero=>cases d
 | succ k =>
  unfold CV
  rw [ev_call (F:=Tryd.f68) (c:=(nav B68 [])) rfl Tryd.func68 rfl rfl rfl rfl]
  exact f68_e_ok k a b r d
-- f55: f55 heliograph/sum.Sum16
inductive R55 where
 | o0 (y:Int)
noncomputable def R55.st:R55→V×List O×List O
 | .o0 y=>(.p (.int .u16 y),[],[])
noncomputable def f55_e (k:Nat) (a:List Int):Option R55 :=
 Option.bind (f68 k a 33800) fun o1 =>
  match o1 with
  | .o0 b =>
   some (.o0 b)
theorem f55_e_ok (k c r) (a:f55_e k c=some r):finK Tryd.prog Tryd.f55 0 (EX 55 k (nav B55 []) (⟨5,[(0,.sl 1 (rowsOf (encI .u8) c))],[]⟩:St))=some r.st:=by
 unfold f55_e at a
 obtain ⟨o1,d,a⟩:=bs a
 have b:=f68_ok k c 33800 _ d
 cases o1 with
 | o0 e =>
  (try dsimp only at a)
  (try simp only [NM,EE,R68.st] at b)
  cases a
  simp (disch:=first|apply D;decide|apply K;kernel_rfl) only [E,EE,↓reduceIte,simprocAttr,xk B55 [] .sq rfl,rg B55 [1] 0 false rfl,hr 55 0 rfl,xk B55 [2] .sq rfl,rg B55 [1,2] 1 false rfl,hr 55 1 rfl,callStep,CL,gv,List.contains,xk B55 [2,2] .rt rfl,fin55,R55.st,b]
noncomputable def f55 (k:Nat) (a:List Int):Option R55:=match k with | 0=>none | k+1=>f55_e k a
theorem f55_ok (k a r) (b:f55 k a=some r):CV k 55 [.sl 1 (rowsOf (encI .u8) a)] []=some r.st:=by
 cases k with
 | zero=>cases b
 | succ k =>
  unfold CV
  rw [ev_call (F:=Tryd.f55) (c:=(nav B55 [])) rfl Tryd.func55 rfl rfl rfl rfl]
  exact f55_e_ok k a r b
end Go.Proofs.YtbnnmplkbpgcaaaDoorV