/- What the program's functions answer: plain functions,and that the interpreter answers what they do. Written by a program of this session,out of the translation. -/
import Derived.Test.YtlelaenalbkbmaaDoorHViBP
namespace Go.Proofs.YtlelaenalbkbmaaDoorV
open Go
set_option linter.unusedVariables false
set_option linter.unusedSimpArgs false
set_option maxRecDepth 8000
set_option maxHeartbeats 4000000
-- f8: f8 heliograph/heliographlaw07.wakes
inductive R8 where
 | o0 (y:Bool)
noncomputable def R8.st:R8→V×List O×List O
 | .o0 y=>(.p (.bool y),[],[])
noncomputable def f8 (k:Nat):Option R8:=ifE (100≤k) (some (.o0 true))
theorem f8_ok (k r) (a:f8 k=some r):CV k 8 [] []=some r.st:=by
 obtain ⟨h,a⟩:=ifE_some.1 a
 cases a
 exact callV_le h wakes
-- f16: f16 heliograph/cbor.Number
inductive R16 where
 | o0 (y a:Int) (b:List Int) (c:List T28)
noncomputable def R16.st:R16→V×List O×List O
 | .o0 y a b c=>(.agg [jI y,.p (.int .u64 a),.sl 1 (rowsOf (encI .u8) b),.sl 4 (rowsOf encT28 c)],[],[])
noncomputable def f16_e (k:Nat) (a:Int):Option R16 :=
 some (.o0 1 a [] [])
theorem f16_e_ok (k a r) (b:f16_e k a=some r):finK Tryd.prog Tryd.f16 0 (EX 16 k (nav B16 []) (⟨5,[(0,.p (.int .u64 a))],[]⟩:St))=some r.st:=by
 unfold f16_e at b
 cases b
 simp (disch:=first|apply D;decide|apply K;kernel_rfl) only [E,EE,↓reduceIte,simprocAttr,xk B16 [] .sq rfl,rg B16 [1] 0 false rfl,hr_16_0,t_28,xk B16 [2] .sq rfl,rg B16 [1,2] 1 false rfl,hr_16_1,bl_28,xk B16 [2,2] .rt rfl,fin16,R16.st]
noncomputable def f16 (k:Nat) (a:Int):Option R16:=match k with | 0=>none | k+1=>f16_e k a
theorem f16_ok (k a r) (b:f16 k a=some r):CV k 16 [.p (.int .u64 a)] []=some r.st:=by
 cases k with
 | zero=>cases b
 | succ k =>
  unfold CV
  rw [ev_call (F:=Tryd.f16) (c:=(nav B16 [])) rfl Tryd.func16 rfl rfl rfl rfl]
  exact f16_e_ok k a r b
-- f28: f28 slices.Clone[[]byte,byte]
inductive R28 where
 | o0 (y:List Int)
noncomputable def R28.st:R28→V×List O×List O
 | .o0 y=>(.own 2000000,[],[.row true 1 5 (rowsOf (encI .u8) y)])
noncomputable def f28 (k:Nat) (a:List Int):Option R28:=match k with | 0=>none | _+1=>ifE (a.length * 1≤roomy) (some (.o0 a))
theorem f28_ok (k b r) (a:f28 k b=some r):CV k 28 [.sl 1 (rowsOf (encI .u8) b)] []=some r.st:=by
 cases k with
 | zero=>cases a
 | succ k =>
  obtain ⟨h,a⟩:=ifE_some.1 a
  cases a
  have h':((rowsOf (encI .u8) b)).length * 1≤roomy:=by rw [rowsOf_length];exact h
  unfold CV
  rw [ev_ctx (show ctx 28=some (cloneS 1 5 1) from rfl) rfl]
  simp only [cloneS,h',and_self,if_true];rfl
-- f17: f17 heliograph/cbor.Bytes
inductive R17 where
 | o0 (y a:Int) (b:List T28) (c:List Int)
noncomputable def R17.st:R17→V×List O×List O
 | .o0 y a b c=>(.agg [jI y,.p (.int .u64 a),.own 2000000,.sl 4 (rowsOf encT28 b)],[],[.row true 1 5 (rowsOf (encI .u8) c)])
noncomputable def f17_e (k:Nat) (a:List Int):Option R17 :=
 Option.bind (f28 k a) fun o1 =>
  match o1 with
  | .o0 b =>
   some (.o0 2 0 [] b)
theorem f17_e_ok (k c r) (a:f17_e k c=some r):finK Tryd.prog Tryd.f17 0 (EX 17 k (nav B17 []) (⟨6,[(0,.sl 1 (rowsOf (encI .u8) c))],[]⟩:St))=some r.st:=by
 unfold f17_e at a
 obtain ⟨o1,d,a⟩:=bs a
 have b:=f28_ok k c _ d
 cases o1 with
 | o0 e =>
  (try dsimp only at a)
  (try simp only [NM,EE,R28.st] at b)
  cases a
  simp (disch:=first|apply D;decide|apply K;kernel_rfl) only [E,EE,↓reduceIte,simprocAttr,xk B17 [] .sq rfl,rg B17 [1] 0 false rfl,hr_17_0,t_28,xk B17 [2] .sq rfl,rg B17 [1,2] 1 false rfl,hr_17_1,callStep,CL,gv,List.contains,bl_28,xk B17 [2,2] .rt rfl,fin17,R17.st,b]
noncomputable def f17 (k:Nat) (a:List Int):Option R17:=match k with | 0=>none | k+1=>f17_e k a
theorem f17_ok (k a r) (b:f17 k a=some r):CV k 17 [.sl 1 (rowsOf (encI .u8) a)] []=some r.st:=by
 cases k with
 | zero=>cases b
 | succ k =>
  unfold CV
  rw [ev_call (F:=Tryd.f17) (c:=(nav B17 [])) rfl Tryd.func17 rfl rfl rfl rfl]
  exact f17_e_ok k a r b
-- f9: f9 heliograph/heliographlaw07.built
inductive R9 where
 | o0 (y a:Int) (b:List Int) (c:List T28)
noncomputable def R9.st:R9→V×List O×List O
 | .o0 y a b c=>(.agg [jI y,.p (.int .u64 a),.sl 1 (rowsOf (encI .u8) b),.sl 4 (rowsOf encT28 c)],[],[])
noncomputable def f9 (k:Nat) (a:List T49):Option R9:=(builtF k a).map fun x=>.o0 x.Kind x.Num x.Bytes x.Items
theorem f9_ok (k a r) (b:f9 k a=some r):CV k 9 [.sl 6 (rowsOf encT49 a)] []=some r.st:=by
 obtain ⟨x,hx,rfl⟩:=Option.map_eq_some_iff.1 b
 exact built_ok k a x hx
-- f29: f29 heliograph/cbor.own
inductive R29 where
 | o0 (y a:Int) (b:List Int) (c:List T28)
noncomputable def R29.st:R29→V×List O×List O
 | .o0 y a b c=>(.agg [jI y,.p (.int .u64 a),.own 2000000,.own 2000001],[],[.row true 1 5 (rowsOf (encI .u8) b),.row true 4 28 (rowsOf encT28 c)])
inductive R29_l1 where
 | o0 (y:List T28) (b c d e:Int) (f:List Int) (g:List T28) (h i:Int) (j:List Int) (a:List T28)
 | o1 (y:List T28) (b c:Int) (d:Bool) (e f:Int) (g:List Int) (h:List T28) (i j:Int) (a:List Int) (l:List T28)
noncomputable def R29_l1.st:R29_l1→Out×St
 | .o0 y b c d e f g h i j a=>(.norm,(⟨28,[(1,.ptr 30000 0),(2,.ptr 30003 0),(13,.sl 4 (rowsOf encT28 y)),(14,jI b),(15,jI c)],[(30000,.box 28 [jI d,.p (.int .u64 e),.own 30001,.own 24]),(30001,.row true 1 5 (rowsOf (encI .u8) f)),(24,.row true 4 28 (rowsOf encT28 g)),(30003,.box 28 [jI h,.p (.int .u64 i),.own 30004,.own 30005]),(30004,.row true 1 5 (rowsOf (encI .u8) j)),(30005,.row true 4 28 (rowsOf encT28 a))]⟩:St))
 | .o1 y b c d e f g h i j a l=>(.exit 0,(⟨28,[(1,.ptr 30000 0),(2,.ptr 30003 0),(13,.sl 4 (rowsOf encT28 y)),(14,jI b),(15,jI c),(16,.p (.bool d))],[(30000,.box 28 [jI e,.p (.int .u64 f),.own 30001,.own 30002]),(30001,.row true 1 5 (rowsOf (encI .u8) g)),(30002,.row true 4 28 (rowsOf encT28 h)),(30003,.box 28 [jI i,.p (.int .u64 j),.own 30004,.own 30005]),(30004,.row true 1 5 (rowsOf (encI .u8) a)),(30005,.row true 4 28 (rowsOf encT28 l))]⟩:St))
noncomputable def f29_l1_j2 (k:Nat) (q_f29_aiirrz:Int→Int→(List Int)→(List T28)→Option R29) (c:List T28) (d e f a:Int) (g:List Int) (h:List T28) (i b:Int) (j:List Int) (l:List T28):Option R29_l1 :=
 some (.o0 c d (IntKind.i64.wrap (e+(1:Int))) f a g h i b j l)
theorem f29_l1_j2_ok (k:Nat) (q_f29_aiirrz:Int→Int→(List Int)→(List T28)→Option R29) (hq_f29_aiirrz:∀ (q c:Int) (d:List Int) (e:List T28) (r:R29),q_f29_aiirrz q c d e=some r→CV k 29 [.agg [jI q,.p (.int .u64 c),.sl 1 (rowsOf (encI .u8) d),.sl 4 (rowsOf encT28 e)]] []=some r.st) (f:List T28) (g h i a:Int) (j:List Int) (l:List T28) (m b:Int) (o:List Int) (p:List T28) (r:R29_l1) (s:f29_l1_j2 k q_f29_aiirrz f g h i a j l m b o p=some r):EX 29 k (nav B29 [2,2,2,1,2,2,1,2,2,2,2]) (⟨28,[(1,.ptr 30000 0),(2,.ptr 30003 0),(13,.sl 4 (rowsOf encT28 f)),(14,jI g),(15,jI h)],[(30000,.box 28 [jI i,.p (.int .u64 a),.own 30001,.own 24]),(30001,.row true 1 5 (rowsOf (encI .u8) j)),(24,.row true 4 28 (rowsOf encT28 l)),(30003,.box 28 [jI m,.p (.int .u64 b),.own 30004,.own 30005]),(30004,.row true 1 5 (rowsOf (encI .u8) o)),(30005,.row true 4 28 (rowsOf encT28 p))]⟩:St)=some r.st:=by
 unfold f29_l1_j2 at s
 cases s
 simp (disch:=first|apply D;decide|apply K;kernel_rfl) only [E,EE,↓reduceIte,simprocAttr,rg B29 [2,2,2,1,2,2,1,2,2,2,2] 8 false rfl,hr 29 8 rfl,R29_l1.st]
noncomputable def f29_l1_j1 (k:Nat) (q_f29_aiirrz:Int→Int→(List Int)→(List T28)→Option R29) (d:List T28) (g a:Int) (p:Bool) (h b:Int) (i:List Int) (e:List T28) (j c:Int) (l:List Int) (m:List T28):Option R29_l1 :=
 ifE ((0:Int)≤a) (
  Option.bind (d[(Int.toNat a)]?) fun f =>
   Option.bind (q_f29_aiirrz f.Kind f.Num f.Bytes f.Items) fun o4 =>
    match o4 with
    | .o0 q s t o =>
     ifE (((List.length e)+1) * 64≤roomy) (
      f29_l1_j2 k q_f29_aiirrz d g a h b i (e++([(T28.mk q s t o)]:List T28)) j c l m))
theorem f29_l1_j1_ok (k:Nat) (q_f29_aiirrz:Int→Int→(List Int)→(List T28)→Option R29) (hq_f29_aiirrz:∀ (a0 e:Int) (f:List Int) (g:List T28) (r:R29),q_f29_aiirrz a0 e f g=some r→CV k 29 [.agg [jI a0,.p (.int .u64 e),.sl 1 (rowsOf (encI .u8) f),.sl 4 (rowsOf encT28 g)]] []=some r.st) (h:List T28) (i j:Int) (t:Bool) (l a:Int) (m:List Int) (o:List T28) (p b:Int) (q:List Int) (s:List T28) (r:R29_l1) (c:f29_l1_j1 k q_f29_aiirrz h i j t l a m o p b q s=some r):EX 29 k (nav B29 [2,2,1,2,2,1,2,2,2,2]) (⟨28,[(1,.ptr 30000 0),(2,.ptr 30003 0),(13,.sl 4 (rowsOf encT28 h)),(14,jI i),(15,jI j),(16,.p (.bool t))],[(30000,.box 28 [jI l,.p (.int .u64 a),.own 30001,.own 30002]),(30001,.row true 1 5 (rowsOf (encI .u8) m)),(30002,.row true 4 28 (rowsOf encT28 o)),(30003,.box 28 [jI p,.p (.int .u64 b),.own 30004,.own 30005]),(30004,.row true 1 5 (rowsOf (encI .u8) q)),(30005,.row true 4 28 (rowsOf encT28 s))]⟩:St)=some r.st:=by
 unfold f29_l1_j1 at c
 obtain ⟨h1,c⟩:=ifE_some.1 c
 obtain ⟨y,h3,c⟩:=bs c
 obtain ⟨o4,h5,c⟩:=bs c
 have u:=hq_f29_aiirrz y.Kind y.Num y.Bytes y.Items _ h5
 cases o4 with
 | o0 v w x d =>
  (try dsimp only at c)
  (try simp only [NM,EE,R29.st] at u)
  have z:[[jI v,.p (.int .u64 w),.sl 1 (rowsOf (encI .u8) x),.sl 4 (rowsOf encT28 d)]]=rowsOf encT28 ([(T28.mk v w x d)]:List T28):=by first | rfl | simp only [rowsOf,List.map_cons,List.map_nil,encT28_eq]
  have n:List.map (tell [0,0,1,4]) (rowsOf encT28 ([(T28.mk v w x d)]:List T28))=rowsOf encT28 ([(T28.mk v w x d)]:List T28):=by first | rfl | simp only [rowsOf,List.map_cons,List.map_nil,encT28_eq]
  obtain ⟨aa,c⟩:=ifE_some.1 c
  have hJ:=f29_l1_j2_ok k q_f29_aiirrz hq_f29_aiirrz h i j l a m (o++([(T28.mk v w x d)]:List T28)) p b q s _ c
  simp (disch:=first|apply D;decide|apply K;kernel_rfl) only [E,EE,↓reduceIte,simprocAttr,xk B29 [2,2,1,2,2,1,2,2,2,2] .sq rfl,xk B29 [1,2,2,1,2,2,1,2,2,2,2] (.bk 1) rfl,xk B29 [2,1,2,2,1,2,2,1,2,2,2,2] .sq rfl,rg B29 [1,2,1,2,2,1,2,2,1,2,2,2,2] 6 false rfl,hr 29 6 rfl,indexAddrV,t_26,t_28,encT28_eq,rg B29 [2,2,1,2,2,1,2,2,1,2,2,2,2] 7 true rfl,hr 29 7 rfl,fieldAddrV,callStep,CL,gv,List.contains,buildSliceV,raw_,cond_false,cond_true,fillRows,sm_28,appendV,content,h1,h3,u,z,n,aa]
  try simp only [NM,EE] at hJ
  exact hJ
noncomputable def f29_l1_b (k:Nat) (q_f29_aiirrz:Int→Int→(List Int)→(List T28)→Option R29) (e:List T28) (c d f a:Int) (g:List Int) (h:List T28) (i b:Int) (j:List Int) (l:List T28):Option R29_l1 :=
 cond ((decide (d<c)))
  (f29_l1_j1 k q_f29_aiirrz e c d true f a g h i b j l)
  (some (.o1 e c d false f a g h i b j l))
theorem f29_l1_b_ok (k:Nat) (q_f29_aiirrz:Int→Int→(List Int)→(List T28)→Option R29) (hq_f29_aiirrz:∀ (t c:Int) (d:List Int) (e:List T28) (r:R29),q_f29_aiirrz t c d e=some r→CV k 29 [.agg [jI t,.p (.int .u64 c),.sl 1 (rowsOf (encI .u8) d),.sl 4 (rowsOf encT28 e)]] []=some r.st) (f:List T28) (g h i a:Int) (j:List Int) (l:List T28) (m b:Int) (o:List Int) (p:List T28) (r:R29_l1) (q:f29_l1_b k q_f29_aiirrz f g h i a j l m b o p=some r):EX 29 k (nav B29 [1,2,2,1,2,2,2,2]) (⟨28,[(1,.ptr 30000 0),(2,.ptr 30003 0),(13,.sl 4 (rowsOf encT28 f)),(14,jI g),(15,jI h)],[(30000,.box 28 [jI i,.p (.int .u64 a),.own 30001,.own 30002]),(30001,.row true 1 5 (rowsOf (encI .u8) j)),(30002,.row true 4 28 (rowsOf encT28 l)),(30003,.box 28 [jI m,.p (.int .u64 b),.own 30004,.own 30005]),(30004,.row true 1 5 (rowsOf (encI .u8) o)),(30005,.row true 4 28 (rowsOf encT28 p))]⟩:St)=some r.st:=by
 unfold f29_l1_b at q
 simp (disch:=first|apply D;decide|apply K;kernel_rfl) only [E,EE,↓reduceIte,simprocAttr,xk B29 [1,2,2,1,2,2,2,2] .sq rfl,rg B29 [1,1,2,2,1,2,2,2,2] 5 false rfl,hr 29 5 rfl,xk B29 [2,1,2,2,1,2,2,2,2] .sq rfl,xk B29 [1,2,1,2,2,1,2,2,2,2] (.cd 16) rfl]
 rcases cond_some q with ⟨s,q⟩ | ⟨s,q⟩
 ·have hJ:=f29_l1_j1_ok k q_f29_aiirrz hq_f29_aiirrz f g h true i a j l m b o p _ q
  simp (disch:=first|apply D;decide|apply K;kernel_rfl) only [E,EE,↓reduceIte,simprocAttr,xk B29 [2,1,2,1,2,2,1,2,2,2,2] .sk rfl,s]
  try simp only [NM,EE] at hJ
  exact hJ
 ·cases q
  simp (disch:=first|apply D;decide|apply K;kernel_rfl) only [E,EE,↓reduceIte,simprocAttr,xk B29 [3,1,2,1,2,2,1,2,2,2,2] (.ex 0) rfl,R29_l1.st,s]
noncomputable def f29_l1 (k:Nat) (q_f29_aiirrz:Int→Int→(List Int)→(List T28)→Option R29):Nat→(List T28)→Int→Int→Int→Int→(List Int)→(List T28)→Int→Int→(List Int)→(List T28)→Option R29_l1
 | 0,_,_,_,_,_,_,_,_,_,_,_=>none
 | n+1,q,s,t,u,b,v,w,x,c,z,r=>Option.bind (f29_l1_b k q_f29_aiirrz q s t u b v w x c z r) fun o =>
  match o with
  | .o0 y d e f g h i j l m a=>f29_l1 k q_f29_aiirrz n y d e f g h i j l m a
  | .o1 y d e f g h i j l m a p=>some (.o1 y d e f g h i j l m a p)
theorem f29_l1_ok (k:Nat) (q_f29_aiirrz:Int→Int→(List Int)→(List T28)→Option R29) (hq_f29_aiirrz:∀ (a0 p:Int) (q:List Int) (s:List T28) (r:R29),q_f29_aiirrz a0 p q s=some r→CV k 29 [.agg [jI a0,.p (.int .u64 p),.sl 1 (rowsOf (encI .u8) q),.sl 4 (rowsOf encT28 s)]] []=some r.st) (n:Nat):∀ (c:List T28) (d e f a:Int) (g:List Int) (i:List T28) (j b:Int) (l:List Int) (m:List T28) (r:R29_l1) (t:f29_l1 k q_f29_aiirrz n c d e f a g i j b l m=some r) (σ:St) (hσ:headR (hints.head 29 5) (hints.canon 29 5) σ=some (⟨28,[(1,.ptr 30000 0),(2,.ptr 30003 0),(13,.sl 4 (rowsOf encT28 c)),(14,jI d),(15,jI e)],[(30000,.box 28 [jI f,.p (.int .u64 a),.own 30001,.own 30002]),(30001,.row true 1 5 (rowsOf (encI .u8) g)),(30002,.row true 4 28 (rowsOf encT28 i)),(30003,.box 28 [jI j,.p (.int .u64 b),.own 30004,.own 30005]),(30004,.row true 1 5 (rowsOf (encI .u8) l)),(30005,.row true 4 28 (rowsOf encT28 m))]⟩:St)),LP 29 k (nav B29 [1,2,2,1,2,2,2,2]) n σ=some r.st:=by
 induction n with
 | zero=>intro c d e f a g i j b l m r t;cases t
 | succ n ih =>
  intro c d e f a g i j b l m r t σ hσ
  rw [f29_l1] at t
  obtain ⟨o,h,t⟩:=Option.bind_eq_some_iff.1 t
  have hB:=f29_l1_b_ok k q_f29_aiirrz hq_f29_aiirrz c d e f a g i j b l m o h
  unfold LP at ih ⊢
  unfold EX at hB
  rw [loopK_succ,show firstReg (nav B29 [1,2,2,1,2,2,2,2])=5 from rfl,hσ,headK_some,hB]
  cases o with
  | o0 y v w x z aa ab ac ad ae u =>
   refine ih y v w x z aa ab ac ad ae u r t _ ?_
   simp (disch:=first|apply D;decide|apply K;kernel_rfl) only [E,EE,↓reduceIte,simprocAttr,hh_29_5,hc_29_5]
  | o1 y v w x z aa ab ac ad ae u ah=>cases t;rfl
noncomputable def f29_j2 (k:Nat) (q_f29_aiirrz:Int→Int→(List Int)→(List T28)→Option R29) (f:List T28) (g h:Int) (i:Bool) (b a:Int) (c:List Int) (d:List T28) (j e:Int) (l:List Int) (m:List T28):Option R29 :=
 some (.o0 b a c d)
theorem f29_j2_ok (k:Nat) (q_f29_aiirrz:Int→Int→(List Int)→(List T28)→Option R29) (hq_f29_aiirrz:∀ (s c:Int) (d:List Int) (e:List T28) (r:R29),q_f29_aiirrz s c d e=some r→CV k 29 [.agg [jI s,.p (.int .u64 c),.sl 1 (rowsOf (encI .u8) d),.sl 4 (rowsOf encT28 e)]] []=some r.st) (f:List T28) (g h:Int) (i:Bool) (j a:Int) (l:List Int) (m:List T28) (o b:Int) (p:List Int) (q:List T28) (r:R29) (t:f29_j2 k q_f29_aiirrz f g h i j a l m o b p q=some r):finK Tryd.prog Tryd.f29 0 (EX 29 k (nav B29 [2,2,2,2,2]) (⟨28,[(1,.ptr 30000 0),(2,.ptr 30003 0),(13,.sl 4 (rowsOf encT28 f)),(14,jI g),(15,jI h),(16,.p (.bool i))],[(30000,.box 28 [jI j,.p (.int .u64 a),.own 30001,.own 30002]),(30001,.row true 1 5 (rowsOf (encI .u8) l)),(30002,.row true 4 28 (rowsOf encT28 m)),(30003,.box 28 [jI o,.p (.int .u64 b),.own 30004,.own 30005]),(30004,.row true 1 5 (rowsOf (encI .u8) p)),(30005,.row true 4 28 (rowsOf encT28 q))]⟩:St))=some r.st:=by
 unfold f29_j2 at t
 cases t
 simp (disch:=first|apply D;decide|apply K;kernel_rfl) only [E,EE,↓reduceIte,simprocAttr,xk B29 [2,2,2,2,2] .sq rfl,rg B29 [1,2,2,2,2,2] 9 false rfl,hr 29 9 rfl,t_28,xk B29 [2,2,2,2,2,2] .rt rfl,fin29,R29.st]
noncomputable def f29_e (k:Nat) (q_f29_aiirrz:Int→Int→(List Int)→(List T28)→Option R29) (p b:Int) (c:List Int) (a:List T28):Option R29 :=
 Option.bind (f28 k c) fun o1 =>
  match o1 with
  | .o0 q =>
   Option.bind (f29_l1 k q_f29_aiirrz k a ((List.length a):Int) 0 p b q [] 0 0 [] []) fun o5 =>
    match o5 with
    | .o0 _ _ _ _ _ _ _ _ _ _ _ =>
     none
    | .o1 s t d e f g h i j l m o =>
     f29_j2 k q_f29_aiirrz s t d e f g h i j l m o
theorem f29_e_ok (k:Nat) (q_f29_aiirrz:Int→Int→(List Int)→(List T28)→Option R29) (hq_f29_aiirrz:∀ (g b:Int) (c:List Int) (a:List T28) (r:R29),q_f29_aiirrz g b c a=some r→CV k 29 [.agg [jI g,.p (.int .u64 b),.sl 1 (rowsOf (encI .u8) c),.sl 4 (rowsOf encT28 a)]] []=some r.st) (g b:Int) (c:List Int) (a:List T28) (r:R29) (d:f29_e k q_f29_aiirrz g b c a=some r):finK Tryd.prog Tryd.f29 0 (EX 29 k (nav B29 []) (⟨28,[(0,.agg [jI g,.p (.int .u64 b),.sl 1 (rowsOf (encI .u8) c),.sl 4 (rowsOf encT28 a)])],[]⟩:St))=some r.st:=by
 unfold f29_e at d
 obtain ⟨o1,u,d⟩:=bs d
 have e:=f28_ok k c _ u
 cases o1 with
 | o0 v =>
  (try dsimp only at d)
  (try simp only [NM,EE,R28.st] at e)
  obtain ⟨o5,w,d⟩:=bs d
  have f:=f29_l1_ok k q_f29_aiirrz hq_f29_aiirrz k a ((List.length a):Int) 0 g b v [] 0 0 [] [] _ w
  simp (disch:=first|apply D;decide|apply K;kernel_rfl) only [E,EE,↓reduceIte,simprocAttr,xk B29 [] .sq rfl,rg B29 [1] 0 false rfl,hr_29_0,t_28,xk B29 [2] .sq rfl,rg B29 [1,2] 1 false rfl,hr 29 1 rfl,fieldAddrV,t_25,callStep,CL,gv,List.contains,xk B29 [2,2] .sq rfl,rg B29 [1,2,2] 2 false rfl,hr 29 2 rfl,t_26,xk B29 [2,2,2] .sq rfl,rg B29 [1,2,2,2] 3 false rfl,hr_29_3,xk B29 [2,2,2,2] .sq rfl,xk B29 [1,2,2,2,2] .sq rfl,rg B29 [1,1,2,2,2,2] 4 false rfl,hr 29 4 rfl,xk B29 [2,1,2,2,2,2] (.bk 0) rfl,xk B29 [2,2,1,2,2,2,2] .lp rfl,hh_29_5,hc_29_5,e]
  (try simp only [NM,EE] at f)
  rw [f _ (by simp (disch:=first|apply D;decide|apply K;kernel_rfl) only [E,EE,↓reduceIte,simprocAttr,hh_29_5,hc_29_5,e])]
  clear f
  cases o5 with
  | o0 _ _ _ _ _ _ _ _ _ _ _ =>
   (try dsimp only at d)
   cases d
  | o1 x y h i j l m o p q s t =>
   (try dsimp only at d)
   have hJ:=f29_j2_ok k q_f29_aiirrz hq_f29_aiirrz x y h i j l m o p q s t _ d
   simp (disch:=first|apply D;decide|apply K;kernel_rfl) only [E,EE,↓reduceIte,simprocAttr,R29_l1.st,e]
   try simp only [NM,EE] at hJ
   exact hJ
noncomputable def f29:Nat→Int→Int→(List Int)→(List T28)→Option R29
 | 0,_,_,_,_=>none
 | k+1,d,a,b,c=>f29_e k (f29 k) d a b c
theorem f29_all (k:Nat):(∀ (e a:Int) (b:List Int) (d:List T28) (r:R29),f29 k e a b d=some r→CV k 29 [.agg [jI e,.p (.int .u64 a),.sl 1 (rowsOf (encI .u8) b),.sl 4 (rowsOf encT28 d)]] []=some r.st):=by
 induction k with
 | zero=>exact (by intro e a b d r f;rw [f29] at f;cases f)
 | succ k g =>
  have ih_f29_aiirrz:=g
  exact (by intro e a b d r f;rw [f29] at f;unfold CV;rw [ev_call (F:=Tryd.f29) (c:=(nav B29 [])) rfl Tryd.func29 rfl rfl rfl rfl];exact f29_e_ok k (f29 k) ih_f29_aiirrz e a b d r f)
theorem f29_ok (k d a b c r) (e:f29 k d a b c=some r):CV k 29 [.agg [jI d,.p (.int .u64 a),.sl 1 (rowsOf (encI .u8) b),.sl 4 (rowsOf encT28 c)]] []=some r.st:=f29_all k d a b c r e
-- f18: f18 heliograph/cbor.List
inductive R18 where
 | o0 (y a:Int) (b:List Int) (c:List T28)
noncomputable def R18.st:R18→V×List O×List O
 | .o0 y a b c=>(.agg [jI y,.p (.int .u64 a),.sl 1 (rowsOf (encI .u8) b),.own 2000000],[],[.row true 4 28 (rowsOf encT28 c)])
inductive R18_l1 where
 | o0 (y:List T28) (b c d e:Int) (f:List Int) (g:List T28) (h i:Int) (j:List Int) (a:List T28)
 | o1 (y:List T28) (b c:Int) (d:Bool) (e f:Int) (g:List Int) (h:List T28) (i j:Int) (a:List Int) (l:List T28)
noncomputable def R18_l1.st:R18_l1→Out×St
 | .o0 y b c d e f g h i j a=>(.norm,(⟨22,[(2,.ptr 30000 0),(3,.ptr 30002 0),(7,.sl 4 (rowsOf encT28 y)),(8,jI b),(9,jI c)],[(30000,.box 28 [jI d,.p (.int .u64 e),.sl 1 (rowsOf (encI .u8) f),.own 30001]),(30001,.row true 4 28 (rowsOf encT28 g)),(30002,.box 28 [jI h,.p (.int .u64 i),.sl 1 (rowsOf (encI .u8) j),.own 18]),(18,.row true 4 28 (rowsOf encT28 a))]⟩:St))
 | .o1 y b c d e f g h i j a l=>(.exit 0,(⟨22,[(2,.ptr 30000 0),(3,.ptr 30002 0),(7,.sl 4 (rowsOf encT28 y)),(8,jI b),(9,jI c),(10,.p (.bool d))],[(30000,.box 28 [jI e,.p (.int .u64 f),.sl 1 (rowsOf (encI .u8) g),.own 30001]),(30001,.row true 4 28 (rowsOf encT28 h)),(30002,.box 28 [jI i,.p (.int .u64 j),.sl 1 (rowsOf (encI .u8) a),.own 30003]),(30003,.row true 4 28 (rowsOf encT28 l))]⟩:St))
noncomputable def f18_l1_j2 (k:Nat) (i:List T28) (j l e a:Int) (b:List Int) (f:List T28) (g c:Int) (d:List Int) (h:List T28):Option R18_l1 :=
 some (.o0 i j (IntKind.i64.wrap (l+(1:Int))) e a b f g c d h)
theorem f18_l1_j2_ok (k i j l e a b f g c d h r) (m:f18_l1_j2 k i j l e a b f g c d h=some r):EX 18 k (nav B18 [2,2,2,1,2,2,1,2,2]) (⟨22,[(2,.ptr 30000 0),(3,.ptr 30002 0),(7,.sl 4 (rowsOf encT28 i)),(8,jI j),(9,jI l)],[(30000,.box 28 [jI e,.p (.int .u64 a),.sl 1 (rowsOf (encI .u8) b),.own 30001]),(30001,.row true 4 28 (rowsOf encT28 f)),(30002,.box 28 [jI g,.p (.int .u64 c),.sl 1 (rowsOf (encI .u8) d),.own 18]),(18,.row true 4 28 (rowsOf encT28 h))]⟩:St)=some r.st:=by
 unfold f18_l1_j2 at m
 cases m
 simp (disch:=first|apply D;decide|apply K;kernel_rfl) only [E,EE,↓reduceIte,simprocAttr,rg B18 [2,2,2,1,2,2,1,2,2] 6 false rfl,hr 18 6 rfl,R18_l1.st]
noncomputable def f18_l1_j1 (k:Nat) (m:List T28) (o g:Int) (p:Bool) (h a:Int) (b:List Int) (i:List T28) (j c:Int) (d:List Int) (e:List T28):Option R18_l1 :=
 ifE ((0:Int)≤g) (
  Option.bind (m[(Int.toNat g)]?) fun f =>
   Option.bind (f29 k f.Kind f.Num f.Bytes f.Items) fun o4 =>
    match o4 with
    | .o0 q s t l =>
     ifE (((List.length e)+1) * 64≤roomy) (
      f18_l1_j2 k m o g h a b i j c d (e++([(T28.mk q s t l)]:List T28))))
theorem f18_l1_j1_ok (k t u v l g a b h i c d j r) (e:f18_l1_j1 k t u v l g a b h i c d j=some r):EX 18 k (nav B18 [2,2,1,2,2,1,2,2]) (⟨22,[(2,.ptr 30000 0),(3,.ptr 30002 0),(7,.sl 4 (rowsOf encT28 t)),(8,jI u),(9,jI v),(10,.p (.bool l))],[(30000,.box 28 [jI g,.p (.int .u64 a),.sl 1 (rowsOf (encI .u8) b),.own 30001]),(30001,.row true 4 28 (rowsOf encT28 h)),(30002,.box 28 [jI i,.p (.int .u64 c),.sl 1 (rowsOf (encI .u8) d),.own 30003]),(30003,.row true 4 28 (rowsOf encT28 j))]⟩:St)=some r.st:=by
 unfold f18_l1_j1 at e
 obtain ⟨z,e⟩:=ifE_some.1 e
 obtain ⟨s,n,e⟩:=bs e
 obtain ⟨o4,h5,e⟩:=bs e
 have m:=f29_ok k s.Kind s.Num s.Bytes s.Items _ h5
 cases o4 with
 | o0 o p q f =>
  (try dsimp only at e)
  (try simp only [NM,EE,R29.st] at m)
  have w:[[jI o,.p (.int .u64 p),.sl 1 (rowsOf (encI .u8) q),.sl 4 (rowsOf encT28 f)]]=rowsOf encT28 ([(T28.mk o p q f)]:List T28):=by first | rfl | simp only [rowsOf,List.map_cons,List.map_nil,encT28_eq]
  have x:List.map (tell [0,0,1,4]) (rowsOf encT28 ([(T28.mk o p q f)]:List T28))=rowsOf encT28 ([(T28.mk o p q f)]:List T28):=by first | rfl | simp only [rowsOf,List.map_cons,List.map_nil,encT28_eq]
  obtain ⟨y,e⟩:=ifE_some.1 e
  have hJ:=f18_l1_j2_ok k t u v g a b h i c d (j++([(T28.mk o p q f)]:List T28)) _ e
  simp (disch:=first|apply D;decide|apply K;kernel_rfl) only [E,EE,↓reduceIte,simprocAttr,xk B18 [2,2,1,2,2,1,2,2] .sq rfl,xk B18 [1,2,2,1,2,2,1,2,2] (.bk 1) rfl,xk B18 [2,1,2,2,1,2,2,1,2,2] .sq rfl,rg B18 [1,2,1,2,2,1,2,2,1,2,2] 4 false rfl,hr 18 4 rfl,indexAddrV,t_26,t_28,encT28_eq,rg B18 [2,2,1,2,2,1,2,2,1,2,2] 5 true rfl,hr 18 5 rfl,fieldAddrV,callStep,CL,gv,List.contains,buildSliceV,raw_,cond_false,cond_true,fillRows,sm_28,appendV,content,z,n,m,w,x,y]
  try simp only [NM,EE] at hJ
  exact hJ
noncomputable def f18_l1_b (k:Nat) (l:List T28) (i j e a:Int) (b:List Int) (f:List T28) (g c:Int) (d:List Int) (h:List T28):Option R18_l1 :=
 cond ((decide (j<i)))
  (f18_l1_j1 k l i j true e a b f g c d h)
  (some (.o1 l i j false e a b f g c d h))
theorem f18_l1_b_ok (k j l m e a b f g c d h r) (i:f18_l1_b k j l m e a b f g c d h=some r):EX 18 k (nav B18 [1,2,2,1,2,2]) (⟨22,[(2,.ptr 30000 0),(3,.ptr 30002 0),(7,.sl 4 (rowsOf encT28 j)),(8,jI l),(9,jI m)],[(30000,.box 28 [jI e,.p (.int .u64 a),.sl 1 (rowsOf (encI .u8) b),.own 30001]),(30001,.row true 4 28 (rowsOf encT28 f)),(30002,.box 28 [jI g,.p (.int .u64 c),.sl 1 (rowsOf (encI .u8) d),.own 30003]),(30003,.row true 4 28 (rowsOf encT28 h))]⟩:St)=some r.st:=by
 unfold f18_l1_b at i
 simp (disch:=first|apply D;decide|apply K;kernel_rfl) only [E,EE,↓reduceIte,simprocAttr,xk B18 [1,2,2,1,2,2] .sq rfl,rg B18 [1,1,2,2,1,2,2] 3 false rfl,hr 18 3 rfl,xk B18 [2,1,2,2,1,2,2] .sq rfl,xk B18 [1,2,1,2,2,1,2,2] (.cd 10) rfl]
 rcases cond_some i with ⟨o,i⟩ | ⟨o,i⟩
 ·have hJ:=f18_l1_j1_ok k j l m true e a b f g c d h _ i
  simp (disch:=first|apply D;decide|apply K;kernel_rfl) only [E,EE,↓reduceIte,simprocAttr,xk B18 [2,1,2,1,2,2,1,2,2] .sk rfl,o]
  try simp only [NM,EE] at hJ
  exact hJ
 ·cases i
  simp (disch:=first|apply D;decide|apply K;kernel_rfl) only [E,EE,↓reduceIte,simprocAttr,xk B18 [3,1,2,1,2,2,1,2,2] (.ex 0) rfl,R18_l1.st,o]
noncomputable def f18_l1 (k:Nat):Nat→(List T28)→Int→Int→Int→Int→(List Int)→(List T28)→Int→Int→(List Int)→(List T28)→Option R18_l1
 | 0,_,_,_,_,_,_,_,_,_,_,_=>none
 | n+1,x,z,r,t,b,c,u,v,d,e,w=>Option.bind (f18_l1_b k x z r t b c u v d e w) fun o =>
  match o with
  | .o0 y f g h i j l m p q a=>f18_l1 k n y f g h i j l m p q a
  | .o1 y f g h i j l m p q a s=>some (.o1 y f g h i j l m p q a s)
theorem f18_l1_ok (k n:Nat):∀ (m:List T28) (p q e a:Int) (b:List Int) (f:List T28) (g c:Int) (d:List Int) (i:List T28) (r:R18_l1) (j:f18_l1 k n m p q e a b f g c d i=some r) (σ:St) (hσ:headR (hints.head 18 3) (hints.canon 18 3) σ=some (⟨22,[(2,.ptr 30000 0),(3,.ptr 30002 0),(7,.sl 4 (rowsOf encT28 m)),(8,jI p),(9,jI q)],[(30000,.box 28 [jI e,.p (.int .u64 a),.sl 1 (rowsOf (encI .u8) b),.own 30001]),(30001,.row true 4 28 (rowsOf encT28 f)),(30002,.box 28 [jI g,.p (.int .u64 c),.sl 1 (rowsOf (encI .u8) d),.own 30003]),(30003,.row true 4 28 (rowsOf encT28 i))]⟩:St)),LP 18 k (nav B18 [1,2,2,1,2,2]) n σ=some r.st:=by
 induction n with
 | zero=>intro m p q e a b f g c d i r j;cases j
 | succ n ih =>
  intro m p q e a b f g c d i r j σ hσ
  rw [f18_l1] at j
  obtain ⟨o,h,j⟩:=Option.bind_eq_some_iff.1 j
  have hB:=f18_l1_b_ok k m p q e a b f g c d i o h
  unfold LP at ih ⊢
  unfold EX at hB
  rw [loopK_succ,show firstReg (nav B18 [1,2,2,1,2,2])=3 from rfl,hσ,headK_some,hB]
  cases o with
  | o0 y s t u v w x z aa ab l =>
   refine ih y s t u v w x z aa ab l r j _ ?_
   simp (disch:=first|apply D;decide|apply K;kernel_rfl) only [E,EE,↓reduceIte,simprocAttr,hh_18_3,hc_18_3]
  | o1 y s t u v w x z aa ab l ad=>cases j;rfl
noncomputable def f18_j2 (k:Nat) (j:List T28) (l m:Int) (g:Bool) (h c:Int) (d:List Int) (i:List T28) (e a:Int) (b:List Int) (f:List T28):Option R18 :=
 some (.o0 e a b f)
theorem f18_j2_ok (k j l m e f a b g h c d i r) (o:f18_j2 k j l m e f a b g h c d i=some r):finK Tryd.prog Tryd.f18 0 (EX 18 k (nav B18 [2,2,2]) (⟨22,[(2,.ptr 30000 0),(3,.ptr 30002 0),(7,.sl 4 (rowsOf encT28 j)),(8,jI l),(9,jI m),(10,.p (.bool e))],[(30000,.box 28 [jI f,.p (.int .u64 a),.sl 1 (rowsOf (encI .u8) b),.own 30001]),(30001,.row true 4 28 (rowsOf encT28 g)),(30002,.box 28 [jI h,.p (.int .u64 c),.sl 1 (rowsOf (encI .u8) d),.own 30003]),(30003,.row true 4 28 (rowsOf encT28 i))]⟩:St))=some r.st:=by
 unfold f18_j2 at o
 cases o
 simp (disch:=first|apply D;decide|apply K;kernel_rfl) only [E,EE,↓reduceIte,simprocAttr,xk B18 [2,2,2] .sq rfl,rg B18 [1,2,2,2] 7 false rfl,hr 18 7 rfl,t_28,xk B18 [2,2,2,2] .rt rfl,fin18,R18.st]
noncomputable def f18_e (k:Nat) (g:List T28):Option R18 :=
 Option.bind (f18_l1 k k g ((List.length g):Int) 0 0 0 [] [] 4 0 [] []) fun o1 =>
  match o1 with
  | .o0 _ _ _ _ _ _ _ _ _ _ _ =>
   none
  | .o1 h i j l m o a b c d e f =>
   f18_j2 k h i j l m o a b c d e f
theorem f18_e_ok (k c r) (a:f18_e k c=some r):finK Tryd.prog Tryd.f18 0 (EX 18 k (nav B18 []) (⟨22,[(0,.sl 4 (rowsOf encT28 c))],[]⟩:St))=some r.st:=by
 unfold f18_e at a
 obtain ⟨o1,j,a⟩:=bs a
 have b:=f18_l1_ok k k c ((List.length c):Int) 0 0 0 [] [] 4 0 [] [] _ j
 simp (disch:=first|apply D;decide|apply K;kernel_rfl) only [E,EE,↓reduceIte,simprocAttr,xk B18 [] .sq rfl,rg B18 [1] 0 false rfl,hr_18_0,t_28,xk B18 [2] .sq rfl,rg B18 [1,2] 1 false rfl,hr_18_1,bl_28,xk B18 [2,2] .sq rfl,xk B18 [1,2,2] .sq rfl,rg B18 [1,1,2,2] 2 false rfl,hr 18 2 rfl,t_26,xk B18 [2,1,2,2] (.bk 0) rfl,xk B18 [2,2,1,2,2] .lp rfl,hh_18_3,hc_18_3]
 (try simp only [NM,EE] at b)
 rw [b _ (by simp (disch:=first|apply D;decide|apply K;kernel_rfl) only [E,EE,↓reduceIte,simprocAttr,hh_18_3,hc_18_3])]
 clear b
 cases o1 with
 | o0 _ _ _ _ _ _ _ _ _ _ _ =>
  (try dsimp only at a)
  cases a
 | o1 l m o p q s d e f g h i =>
  (try dsimp only at a)
  have hJ:=f18_j2_ok k l m o p q s d e f g h i _ a
  simp (disch:=first|apply D;decide|apply K;kernel_rfl) only [E,EE,↓reduceIte,simprocAttr,R18_l1.st]
  try simp only [NM,EE] at hJ
  exact hJ
noncomputable def f18 (k:Nat) (a:List T28):Option R18:=match k with | 0=>none | k+1=>f18_e k a
theorem f18_ok (k a r) (b:f18 k a=some r):CV k 18 [.sl 4 (rowsOf encT28 a)] []=some r.st:=by
 cases k with
 | zero=>cases b
 | succ k =>
  unfold CV
  rw [ev_call (F:=Tryd.f18) (c:=(nav B18 [])) rfl Tryd.func18 rfl rfl rfl rfl]
  exact f18_e_ok k a r b
-- f14: f14 heliograph/heliographref01.Same
inductive R14 where
 | o0 (y:Bool)
noncomputable def R14.st:R14→V×List O×List O
 | .o0 y=>(.p (.bool y),[],[])
inductive R14_l2 where
 | o0 (y:Bool)
 | o1 (y a:List Int) (b:Int)
 | o2 (y a:List Int) (b:Int) (c:Bool)
noncomputable def R14_l2.st:R14_l2→Out×St
 | .o0 y=>(.ret,(⟨26,[(4,.p (.bool y))],[]⟩:St))
 | .o1 y a b=>(.norm,(⟨26,[(0,.sl 1 (rowsOf (encI .u8) y)),(1,.sl 1 (rowsOf (encI .u8) a)),(5,jI b)],[]⟩:St))
 | .o2 y a b c=>(.exit 0,(⟨26,[(0,.sl 1 (rowsOf (encI .u8) y)),(1,.sl 1 (rowsOf (encI .u8) a)),(5,jI b),(14,.p (.bool c))],[]⟩:St))
noncomputable def f14_l2_j2 (k:Nat) (a b:List Int) (c:Int) (d:Bool):Option R14_l2 :=
 some (.o1 a b (IntKind.i64.wrap (c+(1:Int))))
theorem f14_l2_j2_ok (k b c d a r) (e:f14_l2_j2 k b c d a=some r):EX 14 k (nav B14 [2,2,1,2,2,1,2,2]) (⟨26,[(0,.sl 1 (rowsOf (encI .u8) b)),(1,.sl 1 (rowsOf (encI .u8) c)),(5,jI d),(25,.p (.bool a))],[]⟩:St)=some r.st:=by
 unfold f14_l2_j2 at e
 cases e
 simp (disch:=first|apply D;decide|apply K;kernel_rfl) only [E,EE,↓reduceIte,simprocAttr,rg B14 [2,2,1,2,2,1,2,2] 5 false rfl,hr 14 5 rfl,R14_l2.st]
noncomputable def f14_l2_j1 (k:Nat) (b c:List Int) (a:Int) (d:Bool):Option R14_l2 :=
 ifE ((0:Int)≤a) (
  Option.bind (b[(Int.toNat a)]?) fun e =>
   Option.bind (c[(Int.toNat a)]?) fun f =>
    cond ((e != f))
     (some (.o0 false))
     (f14_l2_j2 k b c a false))
theorem f14_l2_j1_ok (k c d e b r) (a:f14_l2_j1 k c d e b=some r):EX 14 k (nav B14 [2,1,2,2,1,2,2]) (⟨26,[(0,.sl 1 (rowsOf (encI .u8) c)),(1,.sl 1 (rowsOf (encI .u8) d)),(5,jI e),(14,.p (.bool b))],[]⟩:St)=some r.st:=by
 unfold f14_l2_j1 at a
 obtain ⟨f,a⟩:=ifE_some.1 a
 obtain ⟨j,g,a⟩:=bs a
 obtain ⟨l,h,a⟩:=bs a
 simp (disch:=first|apply D;decide|apply K;kernel_rfl) only [E,EE,↓reduceIte,simprocAttr,xk B14 [2,1,2,2,1,2,2] .sq rfl,xk B14 [1,2,1,2,2,1,2,2] (.bk 1) rfl,xk B14 [2,1,2,1,2,2,1,2,2] .sq rfl,rg B14 [1,2,1,2,1,2,2,1,2,2] 6 true rfl,hr 14 6 rfl,indexAddrV,t_25,t_5,encI_eq,xk B14 [2,2,1,2,1,2,2,1,2,2] (.cd 25) rfl,f,g,h]
 rcases cond_some a with ⟨i,a⟩ | ⟨i,a⟩
 ·cases a
  simp (disch:=first|apply D;decide|apply K;kernel_rfl) only [E,EE,↓reduceIte,simprocAttr,xk B14 [2,2,2,1,2,1,2,2,1,2,2] .sq rfl,rg B14 [1,2,2,2,1,2,1,2,2,1,2,2] 7 false rfl,hr 14 7 rfl,xk B14 [2,2,2,2,1,2,1,2,2,1,2,2] .rt rfl,R14_l2.st,f,g,h,i]
 ·have hJ:=f14_l2_j2_ok k c d e false _ a
  simp (disch:=first|apply D;decide|apply K;kernel_rfl) only [E,EE,↓reduceIte,simprocAttr,xk B14 [3,2,2,1,2,1,2,2,1,2,2] .sk rfl,f,g,h,i]
  try simp only [NM,EE] at hJ
  exact hJ
noncomputable def f14_l2_b (k:Nat) (a c:List Int) (b:Int):Option R14_l2 :=
 cond ((decide (b<((List.length a):Int))))
  (f14_l2_j1 k a c b true)
  (some (.o2 a c b false))
theorem f14_l2_b_ok (k b c d r) (a:f14_l2_b k b c d=some r):EX 14 k (nav B14 [1,2,2,1,2,2]) (⟨26,[(0,.sl 1 (rowsOf (encI .u8) b)),(1,.sl 1 (rowsOf (encI .u8) c)),(5,jI d)],[]⟩:St)=some r.st:=by
 unfold f14_l2_b at a
 simp (disch:=first|apply D;decide|apply K;kernel_rfl) only [E,EE,↓reduceIte,simprocAttr,xk B14 [1,2,2,1,2,2] .sq rfl,xk B14 [1,1,2,2,1,2,2] .sq rfl,rg B14 [1,1,1,2,2,1,2,2] 4 false rfl,hr 14 4 rfl,t_25,xk B14 [2,1,1,2,2,1,2,2] (.cd 14) rfl]
 rcases cond_some a with ⟨e,a⟩ | ⟨e,a⟩
 ·have hJ:=f14_l2_j1_ok k b c d true _ a
  simp (disch:=first|apply D;decide|apply K;kernel_rfl) only [E,EE,↓reduceIte,simprocAttr,xk B14 [2,2,1,1,2,2,1,2,2] .sk rfl,e]
  try simp only [NM,EE] at hJ
  exact hJ
 ·cases a
  simp (disch:=first|apply D;decide|apply K;kernel_rfl) only [E,EE,↓reduceIte,simprocAttr,xk B14 [3,2,1,1,2,2,1,2,2] (.ex 0) rfl,R14_l2.st,e]
noncomputable def f14_l2 (k:Nat):Nat→(List Int)→(List Int)→Int→Option R14_l2
 | 0,_,_,_=>none
 | n+1,d,e,f=>Option.bind (f14_l2_b k d e f) fun o =>
  match o with
  | .o0 y=>some (.o0 y)
  | .o1 y a b=>f14_l2 k n y a b
  | .o2 y a b c=>some (.o2 y a b c)
theorem f14_l2_ok (k n:Nat):∀ (b c:List Int) (d:Int) (r:R14_l2) (a:f14_l2 k n b c d=some r) (σ:St) (hσ:headR (hints.head 14 4) (hints.canon 14 4) σ=some (⟨26,[(0,.sl 1 (rowsOf (encI .u8) b)),(1,.sl 1 (rowsOf (encI .u8) c)),(5,jI d)],[]⟩:St)),LP 14 k (nav B14 [1,2,2,1,2,2]) n σ=some r.st:=by
 induction n with
 | zero=>intro b c d r a;cases a
 | succ n g =>
  intro b c d r a σ hσ
  rw [f14_l2] at a
  obtain ⟨o,h,a⟩:=Option.bind_eq_some_iff.1 a
  have hB:=f14_l2_b_ok k b c d o h
  unfold LP at g ⊢
  unfold EX at hB
  rw [loopK_succ,show firstReg (nav B14 [1,2,2,1,2,2])=4 from rfl,hσ,headK_some,hB]
  cases o with
  | o0 y=>cases a;rfl
  | o1 y e f =>
   refine g y e f r a _ ?_
   simp (disch:=first|apply D;decide|apply K;kernel_rfl) only [E,EE,↓reduceIte,simprocAttr,hh_14_4,hc_14_4]
  | o2 y e f i=>cases a;rfl
noncomputable def f14_j3 (k:Nat) (b c:List Int) (d:Int) (a:Bool):Option R14 :=
 some (.o0 true)
theorem f14_j3_ok (k b c d a r) (e:f14_j3 k b c d a=some r):finK Tryd.prog Tryd.f14 0 (EX 14 k (nav B14 [2,2,2]) (⟨26,[(0,.sl 1 (rowsOf (encI .u8) b)),(1,.sl 1 (rowsOf (encI .u8) c)),(5,jI d),(14,.p (.bool a))],[]⟩:St))=some r.st:=by
 unfold f14_j3 at e
 cases e
 simp (disch:=first|apply D;decide|apply K;kernel_rfl) only [E,EE,↓reduceIte,simprocAttr,xk B14 [2,2,2] .sq rfl,rg B14 [1,2,2,2] 8 false rfl,hr 14 8 rfl,xk B14 [2,2,2,2] .rt rfl,fin14,R14.st]
noncomputable def f14_j1 (k:Nat) (a b:List Int) (c:Bool):Option R14 :=
 Option.bind (f14_l2 k k a b 0) fun o1 =>
  match o1 with
  | .o0 d =>
   some (.o0 d)
  | .o1 _ _ _ =>
   none
  | .o2 e f g h =>
   f14_j3 k e f g h
theorem f14_j1_ok (k d e c r) (a:f14_j1 k d e c=some r):finK Tryd.prog Tryd.f14 0 (EX 14 k (nav B14 [2,2]) (⟨26,[(0,.sl 1 (rowsOf (encI .u8) d)),(1,.sl 1 (rowsOf (encI .u8) e)),(10,.p (.bool c))],[]⟩:St))=some r.st:=by
 unfold f14_j1 at a
 obtain ⟨o1,f,a⟩:=bs a
 have b:=f14_l2_ok k k d e 0 _ f
 simp (disch:=first|apply D;decide|apply K;kernel_rfl) only [E,EE,↓reduceIte,simprocAttr,xk B14 [2,2] .sq rfl,xk B14 [1,2,2] .sq rfl,rg B14 [1,1,2,2] 3 false rfl,hr 14 3 rfl,xk B14 [2,1,2,2] (.bk 0) rfl,xk B14 [2,2,1,2,2] .lp rfl,hh_14_4,hc_14_4]
 (try simp only [NM,EE] at b)
 rw [b _ (by simp (disch:=first|apply D;decide|apply K;kernel_rfl) only [E,EE,↓reduceIte,simprocAttr,hh_14_4,hc_14_4])]
 clear b
 cases o1 with
 | o0 l =>
  (try dsimp only at a)
  cases a
  simp (disch:=first|apply D;decide|apply K;kernel_rfl) only [E,EE,↓reduceIte,simprocAttr,R14_l2.st,fin14,R14.st]
 | o1 _ _ _ =>
  (try dsimp only at a)
  cases a
 | o2 g h i j =>
  (try dsimp only at a)
  have hJ:=f14_j3_ok k g h i j _ a
  simp (disch:=first|apply D;decide|apply K;kernel_rfl) only [E,EE,↓reduceIte,simprocAttr,R14_l2.st]
  try simp only [NM,EE] at hJ
  exact hJ
noncomputable def f14_e (k:Nat) (a b:List Int):Option R14 :=
 cond ((((List.length a):Int) != ((List.length b):Int)))
  (some (.o0 false))
  (f14_j1 k a b false)
theorem f14_e_ok (k b c r) (a:f14_e k b c=some r):finK Tryd.prog Tryd.f14 0 (EX 14 k (nav B14 []) (⟨26,[(0,.sl 1 (rowsOf (encI .u8) b)),(1,.sl 1 (rowsOf (encI .u8) c))],[]⟩:St))=some r.st:=by
 unfold f14_e at a
 simp (disch:=first|apply D;decide|apply K;kernel_rfl) only [E,EE,↓reduceIte,simprocAttr,xk B14 [] .sq rfl,rg B14 [1] 0 false rfl,hr 14 0 rfl,xk B14 [2] .sq rfl,xk B14 [1,2] .sq rfl,rg B14 [1,1,2] 1 false rfl,hr 14 1 rfl,t_25,xk B14 [2,1,2] (.cd 10) rfl]
 rcases cond_some a with ⟨d,a⟩ | ⟨d,a⟩
 ·cases a
  simp (disch:=first|apply D;decide|apply K;kernel_rfl) only [E,EE,↓reduceIte,simprocAttr,xk B14 [2,2,1,2] .sq rfl,rg B14 [1,2,2,1,2] 2 false rfl,hr 14 2 rfl,xk B14 [2,2,2,1,2] .rt rfl,fin14,R14.st,d]
 ·have hJ:=f14_j1_ok k b c false _ a
  simp (disch:=first|apply D;decide|apply K;kernel_rfl) only [E,EE,↓reduceIte,simprocAttr,xk B14 [3,2,1,2] .sk rfl,d]
  try simp only [NM,EE] at hJ
  exact hJ
noncomputable def f14 (k:Nat) (a b:List Int):Option R14:=match k with | 0=>none | k+1=>f14_e k a b
theorem f14_ok (k a b r) (d:f14 k a b=some r):CV k 14 [.sl 1 (rowsOf (encI .u8) a),.sl 1 (rowsOf (encI .u8) b)] []=some r.st:=by
 cases k with
 | zero=>cases d
 | succ k =>
  unfold CV
  rw [ev_call (F:=Tryd.f14) (c:=(nav B14 [])) rfl Tryd.func14 rfl rfl rfl rfl]
  exact f14_e_ok k a b r d
end Go.Proofs.YtlelaenalbkbmaaDoorV