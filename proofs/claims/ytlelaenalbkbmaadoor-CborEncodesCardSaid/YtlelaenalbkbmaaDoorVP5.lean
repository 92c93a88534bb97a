/- What the program's functions answer: plain functions,and that the interpreter answers what they do. Written by a program of this session,out of the translation. -/
import Derived.Test.YtlelaenalbkbmaaDoorVP4
namespace Go.Proofs.YtlelaenalbkbmaaDoorV
open Go
set_option linter.unusedVariables false
set_option linter.unusedSimpArgs false
set_option maxRecDepth 8000
set_option maxHeartbeats 4000000
-- f11: f11 heliograph/cbor.Same
inductive R11 where
 | o0 (y:Bool)
noncomputable def R11.st:R11→V×List O×List O
 | .o0 y=>(.p (.bool y),[],[])
inductive R23_rrf11 where
 | o0 (y:Bool)
noncomputable def R23_rrf11.st:R23_rrf11→V×List O×List O
 | .o0 y=>(.p (.bool y),[],[])
inductive R23_rrf11_l2 where
 | o0 (y:Bool)
 | o1 (y a:List T28) (b c:Int)
 | o2 (y a:List T28) (b c:Int) (d:Bool)
noncomputable def R23_rrf11_l2.st:R23_rrf11_l2→Out×St
 | .o0 y=>(.ret,(⟨32,[(6,.p (.bool y))],[]⟩:St))
 | .o1 y a b c=>(.norm,(⟨32,[(1,.sl 4 (rowsOf encT28 y)),(2,V.p (Value.func (Fn.func 11) #[] #[])),(15,.sl 4 (rowsOf encT28 a)),(16,jI b),(17,jI c)],[]⟩:St))
 | .o2 y a b c d=>(.exit 0,(⟨32,[(1,.sl 4 (rowsOf encT28 y)),(2,V.p (Value.func (Fn.func 11) #[] #[])),(15,.sl 4 (rowsOf encT28 a)),(16,jI b),(17,jI c),(18,.p (.bool d))],[]⟩:St))
noncomputable def f23_rrf11_l2_j2 (k:Nat) (q_f11_aiirrzaiirrz:Int→Int→(List Int)→(List T28)→Int→Int→(List Int)→(List T28)→Option R11) (q_f23_rrf11:(List T28)→(List T28)→Option R23_rrf11) (d a:List T28) (b c:Int) (e:Bool):Option R23_rrf11_l2 :=
 some (R23_rrf11_l2.o1 d a b (IntKind.i64.wrap (c+(1:Int))))
theorem f23_rrf11_l2_j2_ok (k:Nat) (q_f11_aiirrzaiirrz:Int→Int→(List Int)→(List T28)→Int→Int→(List Int)→(List T28)→Option R11) (q_f23_rrf11:(List T28)→(List T28)→Option R23_rrf11) (hq_f11_aiirrzaiirrz:∀ (g a:Int) (b:List Int) (c:List T28) (h d:Int) (e:List Int) (f:List T28) (r:R11),q_f11_aiirrzaiirrz g a b c h d e f=some r→CV k 11 [.agg [jI g,.p (.int .u64 a),.sl 1 (rowsOf (encI .u8) b),.sl 4 (rowsOf encT28 c)],.agg [jI h,.p (.int .u64 d),.sl 1 (rowsOf (encI .u8) e),.sl 4 (rowsOf encT28 f)]] []=some r.st) (hq_f23_rrf11:∀ (g h:List T28) (r:R23_rrf11),q_f23_rrf11 g h=some r→CV k 23 [.sl 4 (rowsOf encT28 g),.sl 4 (rowsOf encT28 h),V.p (Value.func (Fn.func 11) #[] #[])] []=some r.st) (o i:List T28) (j l:Int) (m:Bool) (r:R23_rrf11_l2) (p:f23_rrf11_l2_j2 k q_f11_aiirrzaiirrz q_f23_rrf11 o i j l m=some r):EX 23 k (nav B23 [2,2,2,1,2,2,1,2,2]) (⟨32,[(1,.sl 4 (rowsOf encT28 o)),(2,V.p (Value.func (Fn.func 11) #[] #[])),(15,.sl 4 (rowsOf encT28 i)),(16,jI j),(17,jI l),(30,.p (.bool m))],[]⟩:St)=some r.st:=by
 unfold f23_rrf11_l2_j2 at p
 cases p
 simp (disch:=first|apply D;decide|apply K;kernel_rfl) only [E,EE,↓reduceIte,simprocAttr,rg B23 [2,2,2,1,2,2,1,2,2] 9 false rfl,hr 23 9 rfl,R23_rrf11_l2.st]
noncomputable def f23_rrf11_l2_j1 (k:Nat) (q_f11_aiirrzaiirrz:Int→Int→(List Int)→(List T28)→Int→Int→(List Int)→(List T28)→Option R11) (q_f23_rrf11:(List T28)→(List T28)→Option R23_rrf11) (f b:List T28) (e a:Int) (g:Bool):Option R23_rrf11_l2 :=
 ifE ((0:Int)≤a) (
  Option.bind (b[(Int.toNat a)]?) fun c =>
   Option.bind (f[(Int.toNat a)]?) fun d =>
    Option.bind (q_f11_aiirrzaiirrz c.Kind c.Num c.Bytes c.Items d.Kind d.Num d.Bytes d.Items) fun o6 =>
     match o6 with
     | .o0 h =>
      cond ((!h))
       (some (R23_rrf11_l2.o0 false))
       (f23_rrf11_l2_j2 k q_f11_aiirrzaiirrz q_f23_rrf11 f b e a false))
theorem f23_rrf11_l2_j1_ok (k:Nat) (q_f11_aiirrzaiirrz:Int→Int→(List Int)→(List T28)→Int→Int→(List Int)→(List T28)→Option R11) (q_f23_rrf11:(List T28)→(List T28)→Option R23_rrf11) (hq_f11_aiirrzaiirrz:∀ (o c:Int) (d:List Int) (e:List T28) (p f:Int) (g:List Int) (h:List T28) (r:R11),q_f11_aiirrzaiirrz o c d e p f g h=some r→CV k 11 [.agg [jI o,.p (.int .u64 c),.sl 1 (rowsOf (encI .u8) d),.sl 4 (rowsOf encT28 e)],.agg [jI p,.p (.int .u64 f),.sl 1 (rowsOf (encI .u8) g),.sl 4 (rowsOf encT28 h)]] []=some r.st) (hq_f23_rrf11:∀ (o p:List T28) (r:R23_rrf11),q_f23_rrf11 o p=some r→CV k 23 [.sl 4 (rowsOf encT28 o),.sl 4 (rowsOf encT28 p),V.p (Value.func (Fn.func 11) #[] #[])] []=some r.st) (u i:List T28) (j l:Int) (q:Bool) (r:R23_rrf11_l2) (a:f23_rrf11_l2_j1 k q_f11_aiirrzaiirrz q_f23_rrf11 u i j l q=some r):EX 23 k (nav B23 [2,2,1,2,2,1,2,2]) (⟨32,[(1,.sl 4 (rowsOf encT28 u)),(2,V.p (Value.func (Fn.func 11) #[] #[])),(15,.sl 4 (rowsOf encT28 i)),(16,jI j),(17,jI l),(18,.p (.bool q))],[]⟩:St)=some r.st:=by
 unfold f23_rrf11_l2_j1 at a
 obtain ⟨v,a⟩:=ifE_some.1 a
 obtain ⟨s,w,a⟩:=bs a
 obtain ⟨t,x,a⟩:=bs a
 obtain ⟨o6,y,a⟩:=bs a
 have b:=hq_f11_aiirrzaiirrz s.Kind s.Num s.Bytes s.Items t.Kind t.Num t.Bytes t.Items _ y
 cases o6 with
 | o0 z =>
  (try dsimp only at a)
  (try simp only [NM,EE,R11.st] at b)
  simp (disch:=first|apply D;decide|apply K;kernel_rfl) only [E,EE,↓reduceIte,simprocAttr,xk B23 [2,2,1,2,2,1,2,2] .sq rfl,xk B23 [1,2,2,1,2,2,1,2,2] (.bk 1) rfl,xk B23 [2,1,2,2,1,2,2,1,2,2] .sq rfl,rg B23 [1,2,1,2,2,1,2,2,1,2,2] 5 false rfl,hr 23 5 rfl,indexAddrV,t_26,t_28,encT28_eq,xk B23 [2,2,1,2,2,1,2,2,1,2,2] .sq rfl,rg B23 [1,2,2,1,2,2,1,2,2,1,2,2] 6 false rfl,hr 23 6 rfl,xk B23 [2,2,2,1,2,2,1,2,2,1,2,2] .sq rfl,rg B23 [1,2,2,2,1,2,2,1,2,2,1,2,2] 7 false rfl,hr 23 7 rfl,callStep,CL,gv,List.contains,xk B23 [2,2,2,2,1,2,2,1,2,2,1,2,2] (.cd 30) rfl,v,w,x,b]
  rcases cond_some a with ⟨m,a⟩ | ⟨m,a⟩
  ·cases a
   simp (disch:=first|apply D;decide|apply K;kernel_rfl) only [E,EE,↓reduceIte,simprocAttr,xk B23 [2,2,2,2,2,1,2,2,1,2,2,1,2,2] .sq rfl,rg B23 [1,2,2,2,2,2,1,2,2,1,2,2,1,2,2] 8 false rfl,hr 23 8 rfl,xk B23 [2,2,2,2,2,2,1,2,2,1,2,2,1,2,2] .rt rfl,R23_rrf11_l2.st,v,w,x,b,m]
  ·have hJ:=f23_rrf11_l2_j2_ok k q_f11_aiirrzaiirrz q_f23_rrf11 hq_f11_aiirrzaiirrz hq_f23_rrf11 u i j l false _ a
   simp (disch:=first|apply D;decide|apply K;kernel_rfl) only [E,EE,↓reduceIte,simprocAttr,xk B23 [3,2,2,2,2,1,2,2,1,2,2,1,2,2] .sk rfl,v,w,x,b,m]
   try simp only [NM,EE] at hJ
   exact hJ
noncomputable def f23_rrf11_l2_b (k:Nat) (q_f11_aiirrzaiirrz:Int→Int→(List Int)→(List T28)→Int→Int→(List Int)→(List T28)→Option R11) (q_f23_rrf11:(List T28)→(List T28)→Option R23_rrf11) (d c:List T28) (a b:Int):Option R23_rrf11_l2 :=
 cond ((decide (b<a)))
  (f23_rrf11_l2_j1 k q_f11_aiirrzaiirrz q_f23_rrf11 d c a b true)
  (some (R23_rrf11_l2.o2 d c a b false))
theorem f23_rrf11_l2_b_ok (k:Nat) (q_f11_aiirrzaiirrz:Int→Int→(List Int)→(List T28)→Int→Int→(List Int)→(List T28)→Option R11) (q_f23_rrf11:(List T28)→(List T28)→Option R23_rrf11) (hq_f11_aiirrzaiirrz:∀ (l a:Int) (b:List Int) (c:List T28) (m d:Int) (e:List Int) (f:List T28) (r:R11),q_f11_aiirrzaiirrz l a b c m d e f=some r→CV k 11 [.agg [jI l,.p (.int .u64 a),.sl 1 (rowsOf (encI .u8) b),.sl 4 (rowsOf encT28 c)],.agg [jI m,.p (.int .u64 d),.sl 1 (rowsOf (encI .u8) e),.sl 4 (rowsOf encT28 f)]] []=some r.st) (hq_f23_rrf11:∀ (l m:List T28) (r:R23_rrf11),q_f23_rrf11 l m=some r→CV k 23 [.sl 4 (rowsOf encT28 l),.sl 4 (rowsOf encT28 m),V.p (Value.func (Fn.func 11) #[] #[])] []=some r.st) (o g:List T28) (h i:Int) (r:R23_rrf11_l2) (j:f23_rrf11_l2_b k q_f11_aiirrzaiirrz q_f23_rrf11 o g h i=some r):EX 23 k (nav B23 [1,2,2,1,2,2]) (⟨32,[(1,.sl 4 (rowsOf encT28 o)),(2,V.p (Value.func (Fn.func 11) #[] #[])),(15,.sl 4 (rowsOf encT28 g)),(16,jI h),(17,jI i)],[]⟩:St)=some r.st:=by
 unfold f23_rrf11_l2_b at j
 simp (disch:=first|apply D;decide|apply K;kernel_rfl) only [E,EE,↓reduceIte,simprocAttr,xk B23 [1,2,2,1,2,2] .sq rfl,rg B23 [1,1,2,2,1,2,2] 4 false rfl,hr 23 4 rfl,xk B23 [2,1,2,2,1,2,2] .sq rfl,xk B23 [1,2,1,2,2,1,2,2] (.cd 18) rfl]
 rcases cond_some j with ⟨p,j⟩ | ⟨p,j⟩
 ·have hJ:=f23_rrf11_l2_j1_ok k q_f11_aiirrzaiirrz q_f23_rrf11 hq_f11_aiirrzaiirrz hq_f23_rrf11 o g h i true _ j
  simp (disch:=first|apply D;decide|apply K;kernel_rfl) only [E,EE,↓reduceIte,simprocAttr,xk B23 [2,1,2,1,2,2,1,2,2] .sk rfl,p]
  try simp only [NM,EE] at hJ
  exact hJ
 ·cases j
  simp (disch:=first|apply D;decide|apply K;kernel_rfl) only [E,EE,↓reduceIte,simprocAttr,xk B23 [3,1,2,1,2,2,1,2,2] (.ex 0) rfl,R23_rrf11_l2.st,p]
noncomputable def f23_rrf11_l2 (k:Nat) (q_f11_aiirrzaiirrz:Int→Int→(List Int)→(List T28)→Int→Int→(List Int)→(List T28)→Option R11) (q_f23_rrf11:(List T28)→(List T28)→Option R23_rrf11):Nat→(List T28)→(List T28)→Int→Int→Option R23_rrf11_l2
 | 0,_,_,_,_=>none
 | n+1,h,d,e,f=>Option.bind (f23_rrf11_l2_b k q_f11_aiirrzaiirrz q_f23_rrf11 h d e f) fun o =>
  match o with
  | .o0 y=>some (.o0 y)
  | .o1 y a b c=>f23_rrf11_l2 k q_f11_aiirrzaiirrz q_f23_rrf11 n y a b c
  | .o2 y a b c g=>some (.o2 y a b c g)
theorem f23_rrf11_l2_ok (k:Nat) (q_f11_aiirrzaiirrz:Int→Int→(List Int)→(List T28)→Int→Int→(List Int)→(List T28)→Option R11) (q_f23_rrf11:(List T28)→(List T28)→Option R23_rrf11) (hq_f11_aiirrzaiirrz:∀ (m e:Int) (f:List Int) (g:List T28) (p i:Int) (j:List Int) (l:List T28) (r:R11),q_f11_aiirrzaiirrz m e f g p i j l=some r→CV k 11 [.agg [jI m,.p (.int .u64 e),.sl 1 (rowsOf (encI .u8) f),.sl 4 (rowsOf encT28 g)],.agg [jI p,.p (.int .u64 i),.sl 1 (rowsOf (encI .u8) j),.sl 4 (rowsOf encT28 l)]] []=some r.st) (hq_f23_rrf11:∀ (m p:List T28) (r:R23_rrf11),q_f23_rrf11 m p=some r→CV k 23 [.sl 4 (rowsOf encT28 m),.sl 4 (rowsOf encT28 p),V.p (Value.func (Fn.func 11) #[] #[])] []=some r.st) (n:Nat):∀ (q a:List T28) (b c:Int) (r:R23_rrf11_l2) (d:f23_rrf11_l2 k q_f11_aiirrzaiirrz q_f23_rrf11 n q a b c=some r) (σ:St) (hσ:headR (hints.head 23 4) (hints.canon 23 4) σ=some (⟨32,[(1,.sl 4 (rowsOf encT28 q)),(2,V.p (Value.func (Fn.func 11) #[] #[])),(15,.sl 4 (rowsOf encT28 a)),(16,jI b),(17,jI c)],[]⟩:St)),LP 23 k (nav B23 [1,2,2,1,2,2]) n σ=some r.st:=by
 induction n with
 | zero=>intro q a b c r d;cases d
 | succ n v =>
  intro q a b c r d σ hσ
  rw [f23_rrf11_l2] at d
  obtain ⟨o,h,d⟩:=Option.bind_eq_some_iff.1 d
  have hB:=f23_rrf11_l2_b_ok k q_f11_aiirrzaiirrz q_f23_rrf11 hq_f11_aiirrzaiirrz hq_f23_rrf11 q a b c o h
  unfold LP at v ⊢
  unfold EX at hB
  rw [loopK_succ,show firstReg (nav B23 [1,2,2,1,2,2])=4 from rfl,hσ,headK_some,hB]
  cases o with
  | o0 y=>cases d;rfl
  | o1 y s t u =>
   refine v y s t u r d _ ?_
   simp (disch:=first|apply D;decide|apply K;kernel_rfl) only [E,EE,↓reduceIte,simprocAttr,hh_23_4,hc_23_4]
  | o2 y s t u w=>cases d;rfl
noncomputable def f23_rrf11_j3 (k:Nat) (q_f11_aiirrzaiirrz:Int→Int→(List Int)→(List T28)→Int→Int→(List Int)→(List T28)→Option R11) (q_f23_rrf11:(List T28)→(List T28)→Option R23_rrf11) (e a:List T28) (b c:Int) (d:Bool):Option R23_rrf11 :=
 some (R23_rrf11.o0 true)
theorem f23_rrf11_j3_ok (k:Nat) (q_f11_aiirrzaiirrz:Int→Int→(List Int)→(List T28)→Int→Int→(List Int)→(List T28)→Option R11) (q_f23_rrf11:(List T28)→(List T28)→Option R23_rrf11) (hq_f11_aiirrzaiirrz:∀ (g a:Int) (b:List Int) (c:List T28) (h d:Int) (e:List Int) (f:List T28) (r:R11),q_f11_aiirrzaiirrz g a b c h d e f=some r→CV k 11 [.agg [jI g,.p (.int .u64 a),.sl 1 (rowsOf (encI .u8) b),.sl 4 (rowsOf encT28 c)],.agg [jI h,.p (.int .u64 d),.sl 1 (rowsOf (encI .u8) e),.sl 4 (rowsOf encT28 f)]] []=some r.st) (hq_f23_rrf11:∀ (g h:List T28) (r:R23_rrf11),q_f23_rrf11 g h=some r→CV k 23 [.sl 4 (rowsOf encT28 g),.sl 4 (rowsOf encT28 h),V.p (Value.func (Fn.func 11) #[] #[])] []=some r.st) (o i:List T28) (j l:Int) (m:Bool) (r:R23_rrf11) (p:f23_rrf11_j3 k q_f11_aiirrzaiirrz q_f23_rrf11 o i j l m=some r):finK Tryd.prog Tryd.f23 0 (EX 23 k (nav B23 [2,2,2]) (⟨32,[(1,.sl 4 (rowsOf encT28 o)),(2,V.p (Value.func (Fn.func 11) #[] #[])),(15,.sl 4 (rowsOf encT28 i)),(16,jI j),(17,jI l),(18,.p (.bool m))],[]⟩:St))=some r.st:=by
 unfold f23_rrf11_j3 at p
 cases p
 simp (disch:=first|apply D;decide|apply K;kernel_rfl) only [E,EE,↓reduceIte,simprocAttr,xk B23 [2,2,2] .sq rfl,rg B23 [1,2,2,2] 10 false rfl,hr 23 10 rfl,xk B23 [2,2,2,2] .rt rfl,fin23,R23_rrf11.st]
noncomputable def f23_rrf11_j1 (k:Nat) (q_f11_aiirrzaiirrz:Int→Int→(List Int)→(List T28)→Int→Int→(List Int)→(List T28)→Option R11) (q_f23_rrf11:(List T28)→(List T28)→Option R23_rrf11) (a b:List T28) (c:Bool):Option R23_rrf11 :=
 Option.bind (f23_rrf11_l2 k q_f11_aiirrzaiirrz q_f23_rrf11 k b a ((List.length a):Int) 0) fun o1 =>
  match o1 with
  | .o0 d =>
   some (R23_rrf11.o0 d)
  | .o1 _ _ _ _ =>
   none
  | .o2 e f g h i =>
   f23_rrf11_j3 k q_f11_aiirrzaiirrz q_f23_rrf11 e f g h i
theorem f23_rrf11_j1_ok (k:Nat) (q_f11_aiirrzaiirrz:Int→Int→(List Int)→(List T28)→Int→Int→(List Int)→(List T28)→Option R11) (q_f23_rrf11:(List T28)→(List T28)→Option R23_rrf11) (hq_f11_aiirrzaiirrz:∀ (i b:Int) (c:List Int) (d:List T28) (j e:Int) (f:List Int) (g:List T28) (r:R11),q_f11_aiirrzaiirrz i b c d j e f g=some r→CV k 11 [.agg [jI i,.p (.int .u64 b),.sl 1 (rowsOf (encI .u8) c),.sl 4 (rowsOf encT28 d)],.agg [jI j,.p (.int .u64 e),.sl 1 (rowsOf (encI .u8) f),.sl 4 (rowsOf encT28 g)]] []=some r.st) (hq_f23_rrf11:∀ (i j:List T28) (r:R23_rrf11),q_f23_rrf11 i j=some r→CV k 23 [.sl 4 (rowsOf encT28 i),.sl 4 (rowsOf encT28 j),V.p (Value.func (Fn.func 11) #[] #[])] []=some r.st) (m o:List T28) (l:Bool) (r:R23_rrf11) (a:f23_rrf11_j1 k q_f11_aiirrzaiirrz q_f23_rrf11 m o l=some r):finK Tryd.prog Tryd.f23 0 (EX 23 k (nav B23 [2,2]) (⟨32,[(0,.sl 4 (rowsOf encT28 m)),(1,.sl 4 (rowsOf encT28 o)),(2,V.p (Value.func (Fn.func 11) #[] #[])),(14,.p (.bool l))],[]⟩:St))=some r.st:=by
 unfold f23_rrf11_j1 at a
 obtain ⟨o1,p,a⟩:=bs a
 have h:=f23_rrf11_l2_ok k q_f11_aiirrzaiirrz q_f23_rrf11 hq_f11_aiirrzaiirrz hq_f23_rrf11 k o m ((List.length m):Int) 0 _ p
 simp (disch:=first|apply D;decide|apply K;kernel_rfl) only [E,EE,↓reduceIte,simprocAttr,xk B23 [2,2] .sq rfl,xk B23 [1,2,2] .sq rfl,rg B23 [1,1,2,2] 3 false rfl,hr 23 3 rfl,t_26,xk B23 [2,1,2,2] (.bk 0) rfl,xk B23 [2,2,1,2,2] .lp rfl,hh_23_4,hc_23_4]
 (try simp only [NM,EE] at h)
 rw [h _ (by simp (disch:=first|apply D;decide|apply K;kernel_rfl) only [E,EE,↓reduceIte,simprocAttr,hh_23_4,hc_23_4])]
 clear h
 cases o1 with
 | o0 w =>
  (try dsimp only at a)
  cases a
  simp (disch:=first|apply D;decide|apply K;kernel_rfl) only [E,EE,↓reduceIte,simprocAttr,R23_rrf11_l2.st,fin23,R23_rrf11.st]
 | o1 _ _ _ _ =>
  (try dsimp only at a)
  cases a
 | o2 q s t u v =>
  (try dsimp only at a)
  have hJ:=f23_rrf11_j3_ok k q_f11_aiirrzaiirrz q_f23_rrf11 hq_f11_aiirrzaiirrz hq_f23_rrf11 q s t u v _ a
  simp (disch:=first|apply D;decide|apply K;kernel_rfl) only [E,EE,↓reduceIte,simprocAttr,R23_rrf11_l2.st]
  try simp only [NM,EE] at hJ
  exact hJ
noncomputable def f23_rrf11_e (k:Nat) (q_f11_aiirrzaiirrz:Int→Int→(List Int)→(List T28)→Int→Int→(List Int)→(List T28)→Option R11) (q_f23_rrf11:(List T28)→(List T28)→Option R23_rrf11) (a b:List T28):Option R23_rrf11 :=
 cond ((((List.length a):Int) != ((List.length b):Int)))
  (some (R23_rrf11.o0 false))
  (f23_rrf11_j1 k q_f11_aiirrzaiirrz q_f23_rrf11 a b false)
theorem f23_rrf11_e_ok (k:Nat) (q_f11_aiirrzaiirrz:Int→Int→(List Int)→(List T28)→Int→Int→(List Int)→(List T28)→Option R11) (q_f23_rrf11:(List T28)→(List T28)→Option R23_rrf11) (hq_f11_aiirrzaiirrz:∀ (a c:Int) (d:List Int) (e:List T28) (b f:Int) (g:List Int) (h:List T28) (r:R11),q_f11_aiirrzaiirrz a c d e b f g h=some r→CV k 11 [.agg [jI a,.p (.int .u64 c),.sl 1 (rowsOf (encI .u8) d),.sl 4 (rowsOf encT28 e)],.agg [jI b,.p (.int .u64 f),.sl 1 (rowsOf (encI .u8) g),.sl 4 (rowsOf encT28 h)]] []=some r.st) (hq_f23_rrf11:∀ (a b:List T28) (r:R23_rrf11),q_f23_rrf11 a b=some r→CV k 23 [.sl 4 (rowsOf encT28 a),.sl 4 (rowsOf encT28 b),V.p (Value.func (Fn.func 11) #[] #[])] []=some r.st) (a b:List T28) (r:R23_rrf11) (i:f23_rrf11_e k q_f11_aiirrzaiirrz q_f23_rrf11 a b=some r):finK Tryd.prog Tryd.f23 0 (EX 23 k (nav B23 []) (⟨32,[(0,.sl 4 (rowsOf encT28 a)),(1,.sl 4 (rowsOf encT28 b)),(2,V.p (Value.func (Fn.func 11) #[] #[]))],[]⟩:St))=some r.st:=by
 unfold f23_rrf11_e at i
 simp (disch:=first|apply D;decide|apply K;kernel_rfl) only [E,EE,↓reduceIte,simprocAttr,xk B23 [] .sq rfl,rg B23 [1] 0 false rfl,hr 23 0 rfl,xk B23 [2] .sq rfl,xk B23 [1,2] .sq rfl,rg B23 [1,1,2] 1 false rfl,hr 23 1 rfl,t_26,xk B23 [2,1,2] (.cd 14) rfl]
 rcases cond_some i with ⟨j,i⟩ | ⟨j,i⟩
 ·cases i
  simp (disch:=first|apply D;decide|apply K;kernel_rfl) only [E,EE,↓reduceIte,simprocAttr,xk B23 [2,2,1,2] .sq rfl,rg B23 [1,2,2,1,2] 2 false rfl,hr 23 2 rfl,xk B23 [2,2,2,1,2] .rt rfl,fin23,R23_rrf11.st,j]
 ·have hJ:=f23_rrf11_j1_ok k q_f11_aiirrzaiirrz q_f23_rrf11 hq_f11_aiirrzaiirrz hq_f23_rrf11 a b false _ i
  simp (disch:=first|apply D;decide|apply K;kernel_rfl) only [E,EE,↓reduceIte,simprocAttr,xk B23 [3,2,1,2] .sk rfl,j]
  try simp only [NM,EE] at hJ
  exact hJ
noncomputable def f11_e (k:Nat) (q_f11_aiirrzaiirrz:Int→Int→(List Int)→(List T28)→Int→Int→(List Int)→(List T28)→Option R11) (q_f23_rrf11:(List T28)→(List T28)→Option R23_rrf11) (h a:Int) (b:List Int) (c:List T28) (i d:Int) (e:List Int) (f:List T28):Option R11 :=
 cond ((h==i))
  (
   cond ((a==d))
    (
     Option.bind (f21 k b e) fun o3 =>
      match o3 with
      | .o0 j =>
       cond (j)
        (
         Option.bind (q_f23_rrf11 c f) fun o8 =>
          match o8 with
          | .o0 g =>
           some (.o0 g))
        (some (.o0 false)))
    (some (.o0 false)))
  (some (.o0 false))
theorem f11_e_ok (k:Nat) (q_f11_aiirrzaiirrz:Int→Int→(List Int)→(List T28)→Int→Int→(List Int)→(List T28)→Option R11) (q_f23_rrf11:(List T28)→(List T28)→Option R23_rrf11) (hq_f11_aiirrzaiirrz:∀ (i f:Int) (a:List Int) (b:List T28) (j g:Int) (c:List Int) (d:List T28) (r:R11),q_f11_aiirrzaiirrz i f a b j g c d=some r→CV k 11 [.agg [jI i,.p (.int .u64 f),.sl 1 (rowsOf (encI .u8) a),.sl 4 (rowsOf encT28 b)],.agg [jI j,.p (.int .u64 g),.sl 1 (rowsOf (encI .u8) c),.sl 4 (rowsOf encT28 d)]] []=some r.st) (hq_f23_rrf11:∀ (i j:List T28) (r:R23_rrf11),q_f23_rrf11 i j=some r→CV k 23 [.sl 4 (rowsOf encT28 i),.sl 4 (rowsOf encT28 j),V.p (Value.func (Fn.func 11) #[] #[])] []=some r.st) (i f:Int) (a:List Int) (b:List T28) (j g:Int) (c:List Int) (d:List T28) (r:R11) (e:f11_e k q_f11_aiirrzaiirrz q_f23_rrf11 i f a b j g c d=some r):finK Tryd.prog Tryd.f11 0 (EX 11 k (nav B11 []) (⟨31,[(0,.agg [jI i,.p (.int .u64 f),.sl 1 (rowsOf (encI .u8) a),.sl 4 (rowsOf encT28 b)]),(1,.agg [jI j,.p (.int .u64 g),.sl 1 (rowsOf (encI .u8) c),.sl 4 (rowsOf encT28 d)])],[]⟩:St))=some r.st:=by
 unfold f11_e at e
 simp (disch:=first|apply D;decide|apply K;kernel_rfl) only [E,EE,↓reduceIte,simprocAttr,xk B11 [] .sq rfl,rg B11 [1] 0 false rfl,hr 11 0 rfl,xk B11 [2] .sq rfl,rg B11 [1,2] 1 false rfl,hr 11 1 rfl,fieldAddrV,t_28,t_3]
 rcases cond_some e with ⟨m,e⟩ | ⟨m,e⟩
 ·simp (disch:=first|apply D;decide|apply K;kernel_rfl) only [E,EE,↓reduceIte,simprocAttr,fieldAddrV,t_28,t_24,m]
  rcases cond_some e with ⟨o,e⟩ | ⟨o,e⟩
  ·obtain ⟨o3,q,e⟩:=bs e
   have h:=f21_ok k a c _ q
   cases o3 with
   | o0 u =>
    (try dsimp only at e)
    (try simp only [NM,EE,R21.st] at h)
    simp (disch:=first|apply D;decide|apply K;kernel_rfl) only [E,EE,↓reduceIte,simprocAttr,fieldAddrV,t_28,t_25,callStep,CL,gv,List.contains,m,o,h]
    rcases cond_some e with ⟨p,e⟩ | ⟨p,e⟩
    ·obtain ⟨o8,s,e⟩:=bs e
     have l:=hq_f23_rrf11 b d _ s
     cases o8 with
     | o0 t =>
      (try dsimp only at e)
      (try simp only [NM,EE,R23_rrf11.st] at l)
      cases e
      simp (disch:=first|apply D;decide|apply K;kernel_rfl) only [E,EE,↓reduceIte,simprocAttr,fieldAddrV,t_28,t_26,callStep,CL,gv,List.contains,xk B11 [2,2] .rt rfl,fin11,R11.st,m,o,h,p,l]
    ·cases e
     simp (disch:=first|apply D;decide|apply K;kernel_rfl) only [E,EE,↓reduceIte,simprocAttr,xk B11 [2,2] .rt rfl,fin11,R11.st,m,o,h,p]
  ·cases e
   simp (disch:=first|apply D;decide|apply K;kernel_rfl) only [E,EE,↓reduceIte,simprocAttr,xk B11 [2,2] .rt rfl,fin11,R11.st,m,o]
 ·cases e
  simp (disch:=first|apply D;decide|apply K;kernel_rfl) only [E,EE,↓reduceIte,simprocAttr,xk B11 [2,2] .rt rfl,fin11,R11.st,m]
mutual
noncomputable def f11:Nat→Int→Int→(List Int)→(List T28)→Int→Int→(List Int)→(List T28)→Option R11
 | 0,_,_,_,_,_,_,_,_=>none
 | k+1,g,a,b,c,h,d,e,f=>f11_e k (f11 k) (f23_rrf11 k) g a b c h d e f
noncomputable def f23_rrf11:Nat→(List T28)→(List T28)→Option R23_rrf11
 | 0,_,_=>none
 | k+1,a,b=>f23_rrf11_e k (f11 k) (f23_rrf11 k) a b
end
theorem f11_all (k:Nat):(∀ (h a:Int) (b:List Int) (d:List T28) (i e:Int) (f:List Int) (g:List T28) (r:R11),f11 k h a b d i e f g=some r→CV k 11 [.agg [jI h,.p (.int .u64 a),.sl 1 (rowsOf (encI .u8) b),.sl 4 (rowsOf encT28 d)],.agg [jI i,.p (.int .u64 e),.sl 1 (rowsOf (encI .u8) f),.sl 4 (rowsOf encT28 g)]] []=some r.st)∧(∀ (h i:List T28) (r:R23_rrf11),f23_rrf11 k h i=some r→CV k 23 [.sl 4 (rowsOf encT28 h),.sl 4 (rowsOf encT28 i),V.p (Value.func (Fn.func 11) #[] #[])] []=some r.st):=by
 induction k with
 | zero=>exact ⟨(by intro h a b d i e f g r j;rw [f11] at j;cases j),(by intro h i r j;rw [f23_rrf11] at j;cases j)⟩
 | succ k l =>
  obtain ⟨ih_f11_aiirrzaiirrz,ih_f23_rrf11⟩:=l
  exact ⟨(by intro h a b d i e f g r j;rw [f11] at j;unfold CV;rw [ev_call (F:=Tryd.f11) (c:=(nav B11 [])) rfl Tryd.func11 rfl rfl rfl rfl];exact f11_e_ok k (f11 k) (f23_rrf11 k) ih_f11_aiirrzaiirrz ih_f23_rrf11 h a b d i e f g r j),(by intro h i r j;rw [f23_rrf11] at j;unfold CV;rw [ev_call (F:=Tryd.f23) (c:=(nav B23 [])) rfl Tryd.func23 rfl rfl rfl rfl];exact f23_rrf11_e_ok k (f11 k) (f23_rrf11 k) ih_f11_aiirrzaiirrz ih_f23_rrf11 h i r j)⟩
theorem f11_ok (k g a b c h d e f r) (i:f11 k g a b c h d e f=some r):CV k 11 [.agg [jI g,.p (.int .u64 a),.sl 1 (rowsOf (encI .u8) b),.sl 4 (rowsOf encT28 c)],.agg [jI h,.p (.int .u64 d),.sl 1 (rowsOf (encI .u8) e),.sl 4 (rowsOf encT28 f)]] []=some r.st:=(f11_all k).1 g a b c h d e f r i
theorem f23_rrf11_ok (k a b r) (c:f23_rrf11 k a b=some r):CV k 23 [.sl 4 (rowsOf encT28 a),.sl 4 (rowsOf encT28 b),V.p (Value.func (Fn.func 11) #[] #[])] []=some r.st:=(f11_all k).2 a b r c
-- f36: f36 heliograph/heliographref07.one
inductive R36 where
 | o0 (y:Bool)
noncomputable def R36.st:R36→V×List O×List O
 | .o0 y=>(.p (.bool y),[],[])
noncomputable def f36_j2 (k:Nat) (d:Bool) (e c:Int) (a:List Int) (b:List T28):Option R36 :=
 cond ((decide (((List.length a):Int)≤512)))
  (
   cond ((decide (((List.length b):Int)≤64)))
    (
     cond ((e != 3))
      (some (.o0 true))
      (
       Option.bind (f38 k a) fun o4 =>
        match o4 with
        | .o0 f =>
         some (.o0 f)))
    (some (.o0 false)))
  (some (.o0 false))
theorem f36_j2_ok (k f j c b d r) (a:f36_j2 k f j c b d=some r):finK Tryd.prog Tryd.f36 0 (EX 36 k (nav B36 [2,2,2]) (⟨66,[(1,.ptr 1 0),(45,.p (.bool f))],[(1,.box 28 [jI j,.p (.int .u64 c),.sl 1 (rowsOf (encI .u8) b),.sl 4 (rowsOf encT28 d)])]⟩:St))=some r.st:=by
 unfold f36_j2 at a
 simp (disch:=first|apply D;decide|apply K;kernel_rfl) only [E,EE,↓reduceIte,simprocAttr,xk B36 [2,2,2] .sq rfl,rg B36 [1,2,2,2] 5 false rfl,hr 36 5 rfl,fieldAddrV,t_28,t_25]
 rcases cond_some a with ⟨e,a⟩ | ⟨e,a⟩
 ·simp (disch:=first|apply D;decide|apply K;kernel_rfl) only [E,EE,↓reduceIte,simprocAttr,fieldAddrV,t_28,t_26,e]
  rcases cond_some a with ⟨g,a⟩ | ⟨g,a⟩
  ·simp (disch:=first|apply D;decide|apply K;kernel_rfl) only [E,EE,↓reduceIte,simprocAttr,fieldAddrV,t_28,t_3,e,g]
   rcases cond_some a with ⟨i,a⟩ | ⟨i,a⟩
   ·cases a
    simp (disch:=first|apply D;decide|apply K;kernel_rfl) only [E,EE,↓reduceIte,simprocAttr,xk B36 [2,2,2,2] .rt rfl,fin36,R36.st,e,g,i]
   ·obtain ⟨o4,l,a⟩:=bs a
    have h:=f38_ok k b _ l
    cases o4 with
    | o0 m =>
     (try dsimp only at a)
     (try simp only [NM,EE,R38.st] at h)
     cases a
     simp (disch:=first|apply D;decide|apply K;kernel_rfl) only [E,EE,↓reduceIte,simprocAttr,fieldAddrV,t_28,t_25,callStep,CL,gv,List.contains,xk B36 [2,2,2,2] .rt rfl,fin36,R36.st,e,g,i,h]
  ·cases a
   simp (disch:=first|apply D;decide|apply K;kernel_rfl) only [E,EE,↓reduceIte,simprocAttr,xk B36 [2,2,2,2] .rt rfl,fin36,R36.st,e,g]
 ·cases a
  simp (disch:=first|apply D;decide|apply K;kernel_rfl) only [E,EE,↓reduceIte,simprocAttr,xk B36 [2,2,2,2] .rt rfl,fin36,R36.st,e]
noncomputable def f36_j1 (k:Nat) (e:Bool) (d c:Int) (a:List Int) (b:List T28):Option R36 :=
 cond ((d != 1))
  (
   cond ((c != 0))
    (some (.o0 false))
    (
     cond ((d != 4))
      (
       cond ((decide (((List.length b):Int)>0)))
        (some (.o0 false))
        (
         cond ((d==1))
          (
           cond ((decide (((List.length a):Int)>0)))
            (some (.o0 false))
            (f36_j2 k false d c a b))
          (
           cond ((d==4))
            (
             cond ((decide (((List.length a):Int)>0)))
              (some (.o0 false))
              (f36_j2 k false d c a b))
            (f36_j2 k false d c a b))))
      (
       cond ((d==1))
        (
         cond ((decide (((List.length a):Int)>0)))
          (some (.o0 false))
          (f36_j2 k false d c a b))
        (
         cond ((d==4))
          (
           cond ((decide (((List.length a):Int)>0)))
            (some (.o0 false))
            (f36_j2 k false d c a b))
          (f36_j2 k false d c a b)))))
  (
   cond ((d != 4))
    (
     cond ((decide (((List.length b):Int)>0)))
      (some (.o0 false))
      (
       cond ((d==1))
        (
         cond ((decide (((List.length a):Int)>0)))
          (some (.o0 false))
          (f36_j2 k false d c a b))
        (
         cond ((d==4))
          (
           cond ((decide (((List.length a):Int)>0)))
            (some (.o0 false))
            (f36_j2 k false d c a b))
          (f36_j2 k false d c a b))))
    (
     cond ((d==1))
      (
       cond ((decide (((List.length a):Int)>0)))
        (some (.o0 false))
        (f36_j2 k false d c a b))
      (
       cond ((d==4))
        (
         cond ((decide (((List.length a):Int)>0)))
          (some (.o0 false))
          (f36_j2 k false d c a b))
        (f36_j2 k false d c a b))))
theorem f36_j1_ok (k aa m c d e r) (a:f36_j1 k aa m c d e=some r):finK Tryd.prog Tryd.f36 0 (EX 36 k (nav B36 [2,2]) (⟨66,[(1,.ptr 1 0),(10,.p (.bool aa))],[(1,.box 28 [jI m,.p (.int .u64 c),.sl 1 (rowsOf (encI .u8) d),.sl 4 (rowsOf encT28 e)])]⟩:St))=some r.st:=by
 unfold f36_j1 at a
 simp (disch:=first|apply D;decide|apply K;kernel_rfl) only [E,EE,↓reduceIte,simprocAttr,xk B36 [2,2] .sq rfl,xk B36 [1,2,2] .sq rfl,rg B36 [1,1,2,2] 3 false rfl,hr 36 3 rfl,fieldAddrV,t_28,t_3]
 rcases cond_some a with ⟨b,a⟩ | ⟨b,a⟩
 ·simp (disch:=first|apply D;decide|apply K;kernel_rfl) only [E,EE,↓reduceIte,simprocAttr,fieldAddrV,t_28,t_24,b]
  rcases cond_some a with ⟨g,a⟩ | ⟨g,a⟩
  ·cases a
   simp (disch:=first|apply D;decide|apply K;kernel_rfl) only [E,EE,↓reduceIte,simprocAttr,xk B36 [2,1,2,2] (.cd 45) rfl,xk B36 [2,2,1,2,2] .sq rfl,rg B36 [1,2,2,1,2,2] 4 false rfl,hr 36 4 rfl,xk B36 [2,2,2,1,2,2] .rt rfl,fin36,R36.st,b,g]
  ·simp (disch:=first|apply D;decide|apply K;kernel_rfl) only [E,EE,↓reduceIte,simprocAttr,fieldAddrV,t_28,t_3,b,g]
   rcases cond_some a with ⟨i,a⟩ | ⟨i,a⟩
   ·simp (disch:=first|apply D;decide|apply K;kernel_rfl) only [E,EE,↓reduceIte,simprocAttr,fieldAddrV,t_28,t_26,b,g,i]
    rcases cond_some a with ⟨o,a⟩ | ⟨o,a⟩
    ·cases a
     simp (disch:=first|apply D;decide|apply K;kernel_rfl) only [E,EE,↓reduceIte,simprocAttr,xk B36 [2,1,2,2] (.cd 45) rfl,xk B36 [2,2,1,2,2] .sq rfl,rg B36 [1,2,2,1,2,2] 4 false rfl,hr 36 4 rfl,xk B36 [2,2,2,1,2,2] .rt rfl,fin36,R36.st,b,g,i,o]
    ·simp (disch:=first|apply D;decide|apply K;kernel_rfl) only [E,EE,↓reduceIte,simprocAttr,fieldAddrV,t_28,t_3,b,g,i,o]
     rcases cond_some a with ⟨t,a⟩ | ⟨t,a⟩
     ·simp (disch:=first|apply D;decide|apply K;kernel_rfl) only [E,EE,↓reduceIte,simprocAttr,fieldAddrV,t_28,t_25,xk B36 [2,1,2,2] (.cd 45) rfl,b,g,i,o,t]
      rcases cond_some a with ⟨h6,a⟩ | ⟨h6,a⟩
      ·cases a
       simp (disch:=first|apply D;decide|apply K;kernel_rfl) only [E,EE,↓reduceIte,simprocAttr,xk B36 [2,2,1,2,2] .sq rfl,rg B36 [1,2,2,1,2,2] 4 false rfl,hr 36 4 rfl,xk B36 [2,2,2,1,2,2] .rt rfl,fin36,R36.st,b,g,i,o,t,h6]
      ·have hJ:=f36_j2_ok k false m c d e _ a
       simp (disch:=first|apply D;decide|apply K;kernel_rfl) only [E,EE,↓reduceIte,simprocAttr,xk B36 [3,2,1,2,2] .sk rfl,b,g,i,o,t,h6]
       try simp only [NM,EE] at hJ
       exact hJ
     ·simp (disch:=first|apply D;decide|apply K;kernel_rfl) only [E,EE,↓reduceIte,simprocAttr,fieldAddrV,t_28,t_3,b,g,i,o,t]
      rcases cond_some a with ⟨h7,a⟩ | ⟨h7,a⟩
      ·simp (disch:=first|apply D;decide|apply K;kernel_rfl) only [E,EE,↓reduceIte,simprocAttr,fieldAddrV,t_28,t_25,xk B36 [2,1,2,2] (.cd 45) rfl,b,g,i,o,t,h7]
       rcases cond_some a with ⟨h8,a⟩ | ⟨h8,a⟩
       ·cases a
        simp (disch:=first|apply D;decide|apply K;kernel_rfl) only [E,EE,↓reduceIte,simprocAttr,xk B36 [2,2,1,2,2] .sq rfl,rg B36 [1,2,2,1,2,2] 4 false rfl,hr 36 4 rfl,xk B36 [2,2,2,1,2,2] .rt rfl,fin36,R36.st,b,g,i,o,t,h7,h8]
       ·have hJ:=f36_j2_ok k false m c d e _ a
        simp (disch:=first|apply D;decide|apply K;kernel_rfl) only [E,EE,↓reduceIte,simprocAttr,xk B36 [3,2,1,2,2] .sk rfl,b,g,i,o,t,h7,h8]
        try simp only [NM,EE] at hJ
        exact hJ
      ·have hJ:=f36_j2_ok k false m c d e _ a
       simp (disch:=first|apply D;decide|apply K;kernel_rfl) only [E,EE,↓reduceIte,simprocAttr,xk B36 [2,1,2,2] (.cd 45) rfl,xk B36 [3,2,1,2,2] .sk rfl,b,g,i,o,t,h7]
       try simp only [NM,EE] at hJ
       exact hJ
   ·simp (disch:=first|apply D;decide|apply K;kernel_rfl) only [E,EE,↓reduceIte,simprocAttr,fieldAddrV,t_28,t_3,b,g,i]
    rcases cond_some a with ⟨u,a⟩ | ⟨u,a⟩
    ·simp (disch:=first|apply D;decide|apply K;kernel_rfl) only [E,EE,↓reduceIte,simprocAttr,fieldAddrV,t_28,t_25,xk B36 [2,1,2,2] (.cd 45) rfl,b,g,i,u]
     rcases cond_some a with ⟨v,a⟩ | ⟨v,a⟩
     ·cases a
      simp (disch:=first|apply D;decide|apply K;kernel_rfl) only [E,EE,↓reduceIte,simprocAttr,xk B36 [2,2,1,2,2] .sq rfl,rg B36 [1,2,2,1,2,2] 4 false rfl,hr 36 4 rfl,xk B36 [2,2,2,1,2,2] .rt rfl,fin36,R36.st,b,g,i,u,v]
     ·have hJ:=f36_j2_ok k false m c d e _ a
      simp (disch:=first|apply D;decide|apply K;kernel_rfl) only [E,EE,↓reduceIte,simprocAttr,xk B36 [3,2,1,2,2] .sk rfl,b,g,i,u,v]
      try simp only [NM,EE] at hJ
      exact hJ
    ·simp (disch:=first|apply D;decide|apply K;kernel_rfl) only [E,EE,↓reduceIte,simprocAttr,fieldAddrV,t_28,t_3,b,g,i,u]
     rcases cond_some a with ⟨p,a⟩ | ⟨p,a⟩
     ·simp (disch:=first|apply D;decide|apply K;kernel_rfl) only [E,EE,↓reduceIte,simprocAttr,fieldAddrV,t_28,t_25,xk B36 [2,1,2,2] (.cd 45) rfl,b,g,i,u,p]
      rcases cond_some a with ⟨w,a⟩ | ⟨w,a⟩
      ·cases a
       simp (disch:=first|apply D;decide|apply K;kernel_rfl) only [E,EE,↓reduceIte,simprocAttr,xk B36 [2,2,1,2,2] .sq rfl,rg B36 [1,2,2,1,2,2] 4 false rfl,hr 36 4 rfl,xk B36 [2,2,2,1,2,2] .rt rfl,fin36,R36.st,b,g,i,u,p,w]
      ·have hJ:=f36_j2_ok k false m c d e _ a
       simp (disch:=first|apply D;decide|apply K;kernel_rfl) only [E,EE,↓reduceIte,simprocAttr,xk B36 [3,2,1,2,2] .sk rfl,b,g,i,u,p,w]
       try simp only [NM,EE] at hJ
       exact hJ
     ·have hJ:=f36_j2_ok k false m c d e _ a
      simp (disch:=first|apply D;decide|apply K;kernel_rfl) only [E,EE,↓reduceIte,simprocAttr,xk B36 [2,1,2,2] (.cd 45) rfl,xk B36 [3,2,1,2,2] .sk rfl,b,g,i,u,p]
      try simp only [NM,EE] at hJ
      exact hJ
 ·simp (disch:=first|apply D;decide|apply K;kernel_rfl) only [E,EE,↓reduceIte,simprocAttr,fieldAddrV,t_28,t_3,b]
  rcases cond_some a with ⟨f,a⟩ | ⟨f,a⟩
  ·simp (disch:=first|apply D;decide|apply K;kernel_rfl) only [E,EE,↓reduceIte,simprocAttr,fieldAddrV,t_28,t_26,b,f]
   rcases cond_some a with ⟨h,a⟩ | ⟨h,a⟩
   ·cases a
    simp (disch:=first|apply D;decide|apply K;kernel_rfl) only [E,EE,↓reduceIte,simprocAttr,xk B36 [2,1,2,2] (.cd 45) rfl,xk B36 [2,2,1,2,2] .sq rfl,rg B36 [1,2,2,1,2,2] 4 false rfl,hr 36 4 rfl,xk B36 [2,2,2,1,2,2] .rt rfl,fin36,R36.st,b,f,h]
   ·simp (disch:=first|apply D;decide|apply K;kernel_rfl) only [E,EE,↓reduceIte,simprocAttr,fieldAddrV,t_28,t_3,b,f,h]
    rcases cond_some a with ⟨j,a⟩ | ⟨j,a⟩
    ·simp (disch:=first|apply D;decide|apply K;kernel_rfl) only [E,EE,↓reduceIte,simprocAttr,fieldAddrV,t_28,t_25,xk B36 [2,1,2,2] (.cd 45) rfl,b,f,h,j]
     rcases cond_some a with ⟨x,a⟩ | ⟨x,a⟩
     ·cases a
      simp (disch:=first|apply D;decide|apply K;kernel_rfl) only [E,EE,↓reduceIte,simprocAttr,xk B36 [2,2,1,2,2] .sq rfl,rg B36 [1,2,2,1,2,2] 4 false rfl,hr 36 4 rfl,xk B36 [2,2,2,1,2,2] .rt rfl,fin36,R36.st,b,f,h,j,x]
     ·have hJ:=f36_j2_ok k false m c d e _ a
      simp (disch:=first|apply D;decide|apply K;kernel_rfl) only [E,EE,↓reduceIte,simprocAttr,xk B36 [3,2,1,2,2] .sk rfl,b,f,h,j,x]
      try simp only [NM,EE] at hJ
      exact hJ
    ·simp (disch:=first|apply D;decide|apply K;kernel_rfl) only [E,EE,↓reduceIte,simprocAttr,fieldAddrV,t_28,t_3,b,f,h,j]
     rcases cond_some a with ⟨q,a⟩ | ⟨q,a⟩
     ·simp (disch:=first|apply D;decide|apply K;kernel_rfl) only [E,EE,↓reduceIte,simprocAttr,fieldAddrV,t_28,t_25,xk B36 [2,1,2,2] (.cd 45) rfl,b,f,h,j,q]
      rcases cond_some a with ⟨y,a⟩ | ⟨y,a⟩
      ·cases a
       simp (disch:=first|apply D;decide|apply K;kernel_rfl) only [E,EE,↓reduceIte,simprocAttr,xk B36 [2,2,1,2,2] .sq rfl,rg B36 [1,2,2,1,2,2] 4 false rfl,hr 36 4 rfl,xk B36 [2,2,2,1,2,2] .rt rfl,fin36,R36.st,b,f,h,j,q,y]
      ·have hJ:=f36_j2_ok k false m c d e _ a
       simp (disch:=first|apply D;decide|apply K;kernel_rfl) only [E,EE,↓reduceIte,simprocAttr,xk B36 [3,2,1,2,2] .sk rfl,b,f,h,j,q,y]
       try simp only [NM,EE] at hJ
       exact hJ
     ·have hJ:=f36_j2_ok k false m c d e _ a
      simp (disch:=first|apply D;decide|apply K;kernel_rfl) only [E,EE,↓reduceIte,simprocAttr,xk B36 [2,1,2,2] (.cd 45) rfl,xk B36 [3,2,1,2,2] .sk rfl,b,f,h,j,q]
      try simp only [NM,EE] at hJ
      exact hJ
  ·simp (disch:=first|apply D;decide|apply K;kernel_rfl) only [E,EE,↓reduceIte,simprocAttr,fieldAddrV,t_28,t_3,b,f]
   rcases cond_some a with ⟨l,a⟩ | ⟨l,a⟩
   ·simp (disch:=first|apply D;decide|apply K;kernel_rfl) only [E,EE,↓reduceIte,simprocAttr,fieldAddrV,t_28,t_25,xk B36 [2,1,2,2] (.cd 45) rfl,b,f,l]
    rcases cond_some a with ⟨z,a⟩ | ⟨z,a⟩
    ·cases a
     simp (disch:=first|apply D;decide|apply K;kernel_rfl) only [E,EE,↓reduceIte,simprocAttr,xk B36 [2,2,1,2,2] .sq rfl,rg B36 [1,2,2,1,2,2] 4 false rfl,hr 36 4 rfl,xk B36 [2,2,2,1,2,2] .rt rfl,fin36,R36.st,b,f,l,z]
    ·have hJ:=f36_j2_ok k false m c d e _ a
     simp (disch:=first|apply D;decide|apply K;kernel_rfl) only [E,EE,↓reduceIte,simprocAttr,xk B36 [3,2,1,2,2] .sk rfl,b,f,l,z]
     try simp only [NM,EE] at hJ
     exact hJ
   ·simp (disch:=first|apply D;decide|apply K;kernel_rfl) only [E,EE,↓reduceIte,simprocAttr,fieldAddrV,t_28,t_3,b,f,l]
    rcases cond_some a with ⟨s,a⟩ | ⟨s,a⟩
    ·simp (disch:=first|apply D;decide|apply K;kernel_rfl) only [E,EE,↓reduceIte,simprocAttr,fieldAddrV,t_28,t_25,xk B36 [2,1,2,2] (.cd 45) rfl,b,f,l,s]
     rcases cond_some a with ⟨n,a⟩ | ⟨n,a⟩
     ·cases a
      simp (disch:=first|apply D;decide|apply K;kernel_rfl) only [E,EE,↓reduceIte,simprocAttr,xk B36 [2,2,1,2,2] .sq rfl,rg B36 [1,2,2,1,2,2] 4 false rfl,hr 36 4 rfl,xk B36 [2,2,2,1,2,2] .rt rfl,fin36,R36.st,b,f,l,s,n]
     ·have hJ:=f36_j2_ok k false m c d e _ a
      simp (disch:=first|apply D;decide|apply K;kernel_rfl) only [E,EE,↓reduceIte,simprocAttr,xk B36 [3,2,1,2,2] .sk rfl,b,f,l,s,n]
      try simp only [NM,EE] at hJ
      exact hJ
    ·have hJ:=f36_j2_ok k false m c d e _ a
     simp (disch:=first|apply D;decide|apply K;kernel_rfl) only [E,EE,↓reduceIte,simprocAttr,xk B36 [2,1,2,2] (.cd 45) rfl,xk B36 [3,2,1,2,2] .sk rfl,b,f,l,s]
     try simp only [NM,EE] at hJ
     exact hJ
noncomputable def f36_e (k:Nat) (d a:Int) (b:List Int) (c:List T28):Option R36 :=
 cond ((decide (d<1)))
  (some (.o0 false))
  (
   cond ((decide (d>4)))
    (some (.o0 false))
    (f36_j1 k false d a b c))
theorem f36_e_ok (k f a b c r) (d:f36_e k f a b c=some r):finK Tryd.prog Tryd.f36 0 (EX 36 k (nav B36 []) (⟨66,[(0,.agg [jI f,.p (.int .u64 a),.sl 1 (rowsOf (encI .u8) b),.sl 4 (rowsOf encT28 c)])],[]⟩:St))=some r.st:=by
 unfold f36_e at d
 simp (disch:=first|apply D;decide|apply K;kernel_rfl) only [E,EE,↓reduceIte,simprocAttr,xk B36 [] .sq rfl,rg B36 [1] 0 false rfl,hr 36 0 rfl,xk B36 [2] .sq rfl,xk B36 [1,2] .sq rfl,rg B36 [1,1,2] 1 false rfl,hr 36 1 rfl,fieldAddrV,t_28,t_3]
 rcases cond_some d with ⟨e,d⟩ | ⟨e,d⟩
 ·cases d
  simp (disch:=first|apply D;decide|apply K;kernel_rfl) only [E,EE,↓reduceIte,simprocAttr,xk B36 [2,1,2] (.cd 10) rfl,xk B36 [2,2,1,2] .sq rfl,rg B36 [1,2,2,1,2] 2 false rfl,hr 36 2 rfl,xk B36 [2,2,2,1,2] .rt rfl,fin36,R36.st,e]
 ·simp (disch:=first|apply D;decide|apply K;kernel_rfl) only [E,EE,↓reduceIte,simprocAttr,fieldAddrV,t_28,t_3,xk B36 [2,1,2] (.cd 10) rfl,e]
  rcases cond_some d with ⟨g,d⟩ | ⟨g,d⟩
  ·cases d
   simp (disch:=first|apply D;decide|apply K;kernel_rfl) only [E,EE,↓reduceIte,simprocAttr,xk B36 [2,2,1,2] .sq rfl,rg B36 [1,2,2,1,2] 2 false rfl,hr 36 2 rfl,xk B36 [2,2,2,1,2] .rt rfl,fin36,R36.st,e,g]
  ·have hJ:=f36_j1_ok k false f a b c _ d
   simp (disch:=first|apply D;decide|apply K;kernel_rfl) only [E,EE,↓reduceIte,simprocAttr,xk B36 [3,2,1,2] .sk rfl,e,g]
   try simp only [NM,EE] at hJ
   exact hJ
noncomputable def f36 (k:Nat) (d a:Int) (b:List Int) (c:List T28):Option R36:=match k with | 0=>none | k+1=>f36_e k d a b c
theorem f36_ok (k e a b d r) (f:f36 k e a b d=some r):CV k 36 [.agg [jI e,.p (.int .u64 a),.sl 1 (rowsOf (encI .u8) b),.sl 4 (rowsOf encT28 d)]] []=some r.st:=by
 cases k with
 | zero=>cases f
 | succ k =>
  unfold CV
  rw [ev_call (F:=Tryd.f36) (c:=(nav B36 [])) rfl Tryd.func36 rfl rfl rfl rfl]
  exact f36_e_ok k e a b d r f
end Go.Proofs.YtlelaenalbkbmaaDoorV