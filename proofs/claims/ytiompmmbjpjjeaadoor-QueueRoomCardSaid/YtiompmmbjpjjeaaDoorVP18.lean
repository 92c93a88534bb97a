/- What the program's functions answer: plain functions,and that the interpreter answers what they do. Written by a program of this session,out of the translation. -/
import Derived.Test.YtiompmmbjpjjeaaDoorVP16
namespace Go.Proofs.YtiompmmbjpjjeaaDoorV
open Go
set_option linter.unusedVariables false
set_option linter.unusedSimpArgs false
set_option maxRecDepth 8000
set_option maxHeartbeats 4000000
-- f4: f4 heliograph/heliographlaw20.QueueRoom
inductive R4 where
 | o0 (y:Bool)
noncomputable def R4.st:R4→V×List O×List O
 | .o0 y=>(.p (.bool y),[],[])
inductive R4_l4 where
 | o0 (y:Bool)
 | o1 (y a:Int) (b:List T56) (c d:List T44) (e:List Int) (f:List T56) (g h:List T44) (i:List Int)
 | o2 (y a:Int) (b:Bool) (c:List T56) (d e:List T44) (f:List Int) (g:List T56) (h i:List T44) (j:List Int)
noncomputable def R4_l4.st:R4_l4→Out×St
 | .o0 y=>(.ret,(⟨137,[(4,.p (.bool y))],[]⟩:St))
 | .o1 y a b c d e f g h i=>(.norm,(⟨137,[(5,.ptr 30000 0),(7,.ptr 30005 0),(92,jI y),(93,jI a)],[(30000,.box 37 [.own 30001,.own 30002,.own 30003,.own 30004]),(30001,.row true 5 56 (rowsOf encT56 b)),(30002,.row true 3 44 (rowsOf encT44 c)),(30003,.row true 3 44 (rowsOf encT44 d)),(30004,.row true 1 3 (rowsOf (encI .i64) e)),(30005,.box 37 [.own 30006,.own 30007,.own 30008,.own 30009]),(30006,.row true 5 56 (rowsOf encT56 f)),(30007,.row true 3 44 (rowsOf encT44 g)),(30008,.row true 3 44 (rowsOf encT44 h)),(30009,.row true 1 3 (rowsOf (encI .i64) i))]⟩:St))
 | .o2 y a b c d e f g h i j=>(.exit 0,(⟨137,[(5,.ptr 30000 0),(7,.ptr 30005 0),(92,jI y),(93,jI a),(94,.p (.bool b))],[(30000,.box 37 [.own 30001,.own 30002,.own 30003,.own 30004]),(30001,.row true 5 56 (rowsOf encT56 c)),(30002,.row true 3 44 (rowsOf encT44 d)),(30003,.row true 3 44 (rowsOf encT44 e)),(30004,.row true 1 3 (rowsOf (encI .i64) f)),(30005,.box 37 [.own 30006,.own 30007,.own 30008,.own 30009]),(30006,.row true 5 56 (rowsOf encT56 g)),(30007,.row true 3 44 (rowsOf encT44 h)),(30008,.row true 3 44 (rowsOf encT44 i)),(30009,.row true 1 3 (rowsOf (encI .i64) j))]⟩:St))
noncomputable def f4_l4_j2 (k:Nat) (a b:Int) (l:Bool) (c:List T56) (d e:List T44) (f:List Int) (g:List T56) (h i:List T44) (j:List Int):Option R4_l4 :=
 some (.o1 a (IntKind.i64.wrap (b+(1:Int))) c d e f g h i j)
theorem f4_l4_j2_ok (k b c a d e f g h i j l r) (m:f4_l4_j2 k b c a d e f g h i j l=some r):EX 4 k (nav B4 [2,2,2,1,2,2,1,2,2,2,2,2,2,2,2]) (⟨137,[(5,.ptr 30000 0),(7,.ptr 30005 0),(92,jI b),(93,jI c),(106,.p (.bool a))],[(30000,.box 37 [.own 30001,.own 30002,.own 30003,.own 30004]),(30001,.row true 5 56 (rowsOf encT56 d)),(30002,.row true 3 44 (rowsOf encT44 e)),(30003,.row true 3 44 (rowsOf encT44 f)),(30004,.row true 1 3 (rowsOf (encI .i64) g)),(30005,.box 37 [.own 30006,.own 30007,.own 30008,.own 30009]),(30006,.row true 5 56 (rowsOf encT56 h)),(30007,.row true 3 44 (rowsOf encT44 i)),(30008,.row true 3 44 (rowsOf encT44 j)),(30009,.row true 1 3 (rowsOf (encI .i64) l))]⟩:St)=some r.st:=by
 unfold f4_l4_j2 at m
 cases m
 simp (disch:=first|apply D;decide|apply K;kernel_rfl) only [E,EE,↓reduceIte,simprocAttr,rg B4 [2,2,2,1,2,2,1,2,2,2,2,2,2,2,2] 16 false rfl,hr 4 16 rfl,R4_l4.st]
noncomputable def f4_l4_j1 (k:Nat) (f a:Int) (o:Bool) (b:List T56) (g h:List T44) (i:List Int) (c:List T56) (j l:List T44) (m:List Int):Option R4_l4 :=
 ifE ((0:Int)≤a) (
  ifE (a<((List.length b):Int)) (
   Option.bind (b[(Int.toNat a)]?) fun d =>
    ifE (a<((List.length c):Int)) (
     Option.bind (c[(Int.toNat a)]?) fun e =>
      cond ((!(((d.Key_Source==e.Key_Source)&&((d.Key_Seq==e.Key_Seq)&&(d.Key_Offset==e.Key_Offset)))&&((d.To==e.To)&&(d.Contact==e.Contact)))))
       (some (.o0 false))
       (f4_l4_j2 k f a false b g h i c j l m))))
theorem f4_l4_j1_ok (k b c m d e f g h i j l r) (a:f4_l4_j1 k b c m d e f g h i j l=some r):EX 4 k (nav B4 [2,2,1,2,2,1,2,2,2,2,2,2,2,2]) (⟨137,[(5,.ptr 30000 0),(7,.ptr 30005 0),(92,jI b),(93,jI c),(94,.p (.bool m))],[(30000,.box 37 [.own 30001,.own 30002,.own 30003,.own 30004]),(30001,.row true 5 56 (rowsOf encT56 d)),(30002,.row true 3 44 (rowsOf encT44 e)),(30003,.row true 3 44 (rowsOf encT44 f)),(30004,.row true 1 3 (rowsOf (encI .i64) g)),(30005,.box 37 [.own 30006,.own 30007,.own 30008,.own 30009]),(30006,.row true 5 56 (rowsOf encT56 h)),(30007,.row true 3 44 (rowsOf encT44 i)),(30008,.row true 3 44 (rowsOf encT44 j)),(30009,.row true 1 3 (rowsOf (encI .i64) l))]⟩:St)=some r.st:=by
 unfold f4_l4_j1 at a
 obtain ⟨o,a⟩:=ifE_some.1 a
 obtain ⟨p,a⟩:=ifE_some.1 a
 obtain ⟨v,q,a⟩:=bs a
 obtain ⟨s,a⟩:=ifE_some.1 a
 obtain ⟨w,t,a⟩:=bs a
 simp (disch:=first|apply D;decide|apply K;kernel_rfl) only [E,EE,↓reduceIte,simprocAttr,xk B4 [2,2,1,2,2,1,2,2,2,2,2,2,2,2] .sq rfl,xk B4 [1,2,2,1,2,2,1,2,2,2,2,2,2,2,2] (.bk 1) rfl,xk B4 [2,1,2,2,1,2,2,1,2,2,2,2,2,2,2,2] .sq rfl,rg B4 [1,2,1,2,2,1,2,2,1,2,2,2,2,2,2,2,2] 13 false rfl,hr 4 13 rfl,xk B4 [2,2,1,2,2,1,2,2,1,2,2,2,2,2,2,2,2] .sq rfl,rg B4 [1,2,2,1,2,2,1,2,2,1,2,2,2,2,2,2,2,2] 14 true rfl,hr 4 14 rfl,fieldAddrV,t_37,t_35,indexAddrV,t_56,encT56_eq,ag_56,ag_44,t_44,t_3,t_42,xk B4 [2,2,2,1,2,2,1,2,2,1,2,2,2,2,2,2,2,2] (.cd 106) rfl,o,p,q,s,t]
 rcases cond_some a with ⟨u,a⟩ | ⟨u,a⟩
 ·cases a
  simp (disch:=first|apply D;decide|apply K;kernel_rfl) only [E,EE,↓reduceIte,simprocAttr,xk B4 [2,2,2,2,1,2,2,1,2,2,1,2,2,2,2,2,2,2,2] .sq rfl,rg B4 [1,2,2,2,2,1,2,2,1,2,2,1,2,2,2,2,2,2,2,2] 15 false rfl,hr 4 15 rfl,xk B4 [2,2,2,2,2,1,2,2,1,2,2,1,2,2,2,2,2,2,2,2] .rt rfl,R4_l4.st,o,p,q,s,t,u]
 ·have hJ:=f4_l4_j2_ok k b c false d e f g h i j l _ a
  simp (disch:=first|apply D;decide|apply K;kernel_rfl) only [E,EE,↓reduceIte,simprocAttr,xk B4 [3,2,2,2,1,2,2,1,2,2,1,2,2,2,2,2,2,2,2] .sk rfl,o,p,q,s,t,u]
  try simp only [NM,EE] at hJ
  exact hJ
noncomputable def f4_l4_b (k:Nat) (a b:Int) (c:List T56) (d e:List T44) (f:List Int) (g:List T56) (h i:List T44) (j:List Int):Option R4_l4 :=
 cond ((decide (b<a)))
  (f4_l4_j1 k a b true c d e f g h i j)
  (some (.o2 a b false c d e f g h i j))
theorem f4_l4_b_ok (k a b c d e f g h i j r) (l:f4_l4_b k a b c d e f g h i j=some r):EX 4 k (nav B4 [1,2,2,1,2,2,2,2,2,2,2,2]) (⟨137,[(5,.ptr 30000 0),(7,.ptr 30005 0),(92,jI a),(93,jI b)],[(30000,.box 37 [.own 30001,.own 30002,.own 30003,.own 30004]),(30001,.row true 5 56 (rowsOf encT56 c)),(30002,.row true 3 44 (rowsOf encT44 d)),(30003,.row true 3 44 (rowsOf encT44 e)),(30004,.row true 1 3 (rowsOf (encI .i64) f)),(30005,.box 37 [.own 30006,.own 30007,.own 30008,.own 30009]),(30006,.row true 5 56 (rowsOf encT56 g)),(30007,.row true 3 44 (rowsOf encT44 h)),(30008,.row true 3 44 (rowsOf encT44 i)),(30009,.row true 1 3 (rowsOf (encI .i64) j))]⟩:St)=some r.st:=by
 unfold f4_l4_b at l
 simp (disch:=first|apply D;decide|apply K;kernel_rfl) only [E,EE,↓reduceIte,simprocAttr,xk B4 [1,2,2,1,2,2,2,2,2,2,2,2] .sq rfl,rg B4 [1,1,2,2,1,2,2,2,2,2,2,2,2] 12 false rfl,hr 4 12 rfl,xk B4 [2,1,2,2,1,2,2,2,2,2,2,2,2] .sq rfl,xk B4 [1,2,1,2,2,1,2,2,2,2,2,2,2,2] (.cd 94) rfl]
 rcases cond_some l with ⟨m,l⟩ | ⟨m,l⟩
 ·have hJ:=f4_l4_j1_ok k a b true c d e f g h i j _ l
  simp (disch:=first|apply D;decide|apply K;kernel_rfl) only [E,EE,↓reduceIte,simprocAttr,xk B4 [2,1,2,1,2,2,1,2,2,2,2,2,2,2,2] .sk rfl,m]
  try simp only [NM,EE] at hJ
  exact hJ
 ·cases l
  simp (disch:=first|apply D;decide|apply K;kernel_rfl) only [E,EE,↓reduceIte,simprocAttr,xk B4 [3,1,2,1,2,2,1,2,2,2,2,2,2,2,2] (.ex 0) rfl,R4_l4.st,m]
noncomputable def f4_l4 (k:Nat):Nat→Int→Int→(List T56)→(List T44)→(List T44)→(List Int)→(List T56)→(List T44)→(List T44)→(List Int)→Option R4_l4
 | 0,_,_,_,_,_,_,_,_,_,_=>none
 | n+1,l,m,p,q,s,t,u,v,w,x=>Option.bind (f4_l4_b k l m p q s t u v w x) fun o =>
  match o with
  | .o0 y=>some (.o0 y)
  | .o1 y a b c d e f g h i=>f4_l4 k n y a b c d e f g h i
  | .o2 y a b c d e f g h i j=>some (.o2 y a b c d e f g h i j)
theorem f4_l4_ok (k n:Nat):∀ (a b:Int) (c:List T56) (d e:List T44) (f:List Int) (g:List T56) (i j:List T44) (l:List Int) (r:R4_l4) (m:f4_l4 k n a b c d e f g i j l=some r) (σ:St) (hσ:headR (hints.head 4 12) (hints.canon 4 12) σ=some (⟨137,[(5,.ptr 30000 0),(7,.ptr 30005 0),(92,jI a),(93,jI b)],[(30000,.box 37 [.own 30001,.own 30002,.own 30003,.own 30004]),(30001,.row true 5 56 (rowsOf encT56 c)),(30002,.row true 3 44 (rowsOf encT44 d)),(30003,.row true 3 44 (rowsOf encT44 e)),(30004,.row true 1 3 (rowsOf (encI .i64) f)),(30005,.box 37 [.own 30006,.own 30007,.own 30008,.own 30009]),(30006,.row true 5 56 (rowsOf encT56 g)),(30007,.row true 3 44 (rowsOf encT44 i)),(30008,.row true 3 44 (rowsOf encT44 j)),(30009,.row true 1 3 (rowsOf (encI .i64) l))]⟩:St)),LP 4 k (nav B4 [1,2,2,1,2,2,2,2,2,2,2,2]) n σ=some r.st:=by
 induction n with
 | zero=>intro a b c d e f g i j l r m;cases m
 | succ n ih =>
  intro a b c d e f g i j l r m σ hσ
  rw [f4_l4] at m
  obtain ⟨o,h,m⟩:=Option.bind_eq_some_iff.1 m
  have hB:=f4_l4_b_ok k a b c d e f g i j l o h
  unfold LP at ih ⊢
  unfold EX at hB
  rw [loopK_succ,show firstReg (nav B4 [1,2,2,1,2,2,2,2,2,2,2,2])=12 from rfl,hσ,headK_some,hB]
  cases o with
  | o0 y=>cases m;rfl
  | o1 y p q s t u v w x z =>
   refine ih y p q s t u v w x z r m _ ?_
   simp (disch:=first|apply D;decide|apply K;kernel_rfl) only [E,EE,↓reduceIte,simprocAttr,hh_4_12,hc_4_12]
  | o2 y p q s t u v w x z ab=>cases m;rfl
inductive R4_l6_l2 where
 | o0 (y:Bool) (h i:Nat) (j l m o:Int) (p:List T56) (q s:List T44) (a:List Int) (b c d e f:Int) (g:List T56)
 | o1 (y:Bool) (h i:Nat) (j l m o:Int) (p:Bool) (q:List T56) (s a:List T44) (b:List Int) (c d e f g:Int) (t:List T56)
noncomputable def R4_l6_l2.st:R4_l6_l2→Out×St
 | .o0 y h i j l m o p q s a b c d e f g=>(.norm,(⟨137,[(5,.ptr 30000 0),(10,.ptr 30005 0),(11,.p (.bool y)),(113,V.cut 30006 5 h i),(114,jI j),(115,jI l),(120,.own 30002),(121,jI m),(122,jI o)],[(30000,.box 37 [.own 30001,.own 30002,.own 30003,.own 30004]),(30001,.row true 5 56 (rowsOf encT56 p)),(30002,.row true 3 44 (rowsOf encT44 q)),(30003,.row true 3 44 (rowsOf encT44 s)),(30004,.row true 1 3 (rowsOf (encI .i64) a)),(30005,.box 56 [jI b,jU c,jI d,jI e,jI f]),(30006,.row true 5 56 (rowsOf encT56 g))]⟩:St))
 | .o1 y h i j l m o p q s a b c d e f g t=>(.exit 4,(⟨137,[(5,.ptr 30000 0),(10,.ptr 30005 0),(11,.p (.bool y)),(113,V.cut 30006 5 h i),(114,jI j),(115,jI l),(120,.own 30002),(121,jI m),(122,jI o),(123,.p (.bool p))],[(30000,.box 37 [.own 30001,.own 30002,.own 30003,.own 30004]),(30001,.row true 5 56 (rowsOf encT56 q)),(30002,.row true 3 44 (rowsOf encT44 s)),(30003,.row true 3 44 (rowsOf encT44 a)),(30004,.row true 1 3 (rowsOf (encI .i64) b)),(30005,.box 56 [jI c,jU d,jI e,jI f,jI g]),(30006,.row true 5 56 (rowsOf encT56 t))]⟩:St))
noncomputable def f4_l6_l2_j2 (k:Nat) (l:Bool) (f a:Nat) (g h i j:Int) (m:List T56) (o p:List T44) (q:List Int) (s b c d e:Int) (t:List T56):Option R4_l6_l2 :=
 some (R4_l6_l2.o0 l f a g h i (IntKind.i64.wrap (j+(1:Int))) m o p q s b c d e t)
theorem f4_l6_l2_j2_ok (k l f a g h i j m o p q s b c d e t r) (u:f4_l6_l2_j2 k l f a g h i j m o p q s b c d e t=some r):EX 4 k (nav B4 [2,2,2,1,2,2,1,2,2,2,1,2,2,1,2,2,1,2,2,2,2,2,2,2,2,2]) (⟨137,[(5,.ptr 30000 0),(10,.ptr 30005 0),(11,.p (.bool l)),(113,V.cut 30006 5 f a),(114,jI g),(115,jI h),(120,.own 30002),(121,jI i),(122,jI j)],[(30000,.box 37 [.own 30001,.own 30002,.own 30003,.own 30004]),(30001,.row true 5 56 (rowsOf encT56 m)),(30002,.row true 3 44 (rowsOf encT44 o)),(30003,.row true 3 44 (rowsOf encT44 p)),(30004,.row true 1 3 (rowsOf (encI .i64) q)),(30005,.box 56 [jI s,jU b,jI c,jI d,jI e]),(30006,.row true 5 56 (rowsOf encT56 t))]⟩:St)=some r.st:=by
 unfold f4_l6_l2_j2 at u
 cases u
 simp (disch:=first|apply D;decide|apply K;kernel_rfl) only [E,EE,↓reduceIte,simprocAttr,rg B4 [2,2,2,1,2,2,1,2,2,2,1,2,2,1,2,2,1,2,2,2,2,2,2,2,2,2] 25 false rfl,hr 4 25 rfl,R4_l6_l2.st]
noncomputable def f4_l6_l2_j1 (k:Nat) (t:Bool) (h d:Nat) (i j l a:Int) (v:Bool) (o:List T56) (g p:List T44) (q:List Int) (m b c e f:Int) (s:List T56):Option R4_l6_l2 :=
 ifE ((0:Int)≤a) (
  ifE (a<((List.length g):Int)) (
   Option.bind (g[(Int.toNat a)]?) fun u =>
    cond (t)
     (f4_l6_l2_j2 k true h d i j l a o g p q m b c e f s)
     (f4_l6_l2_j2 k (((u.Source==m)&&((u.Seq==b)&&(u.Offset==c)))) h d i j l a o g p q m b c e f s)))
theorem f4_l6_l2_j1_ok (k v f a g h i j u o p q s m b c d e t r) (l:f4_l6_l2_j1 k v f a g h i j u o p q s m b c d e t=some r):EX 4 k (nav B4 [2,2,1,2,2,1,2,2,2,1,2,2,1,2,2,1,2,2,2,2,2,2,2,2,2]) (⟨137,[(5,.ptr 30000 0),(10,.ptr 30005 0),(11,.p (.bool v)),(113,V.cut 30006 5 f a),(114,jI g),(115,jI h),(120,.own 30002),(121,jI i),(122,jI j),(123,.p (.bool u))],[(30000,.box 37 [.own 30001,.own 30002,.own 30003,.own 30004]),(30001,.row true 5 56 (rowsOf encT56 o)),(30002,.row true 3 44 (rowsOf encT44 p)),(30003,.row true 3 44 (rowsOf encT44 q)),(30004,.row true 1 3 (rowsOf (encI .i64) s)),(30005,.box 56 [jI m,jU b,jI c,jI d,jI e]),(30006,.row true 5 56 (rowsOf encT56 t))]⟩:St)=some r.st:=by
 unfold f4_l6_l2_j1 at l
 obtain ⟨w,l⟩:=ifE_some.1 l
 obtain ⟨x,l⟩:=ifE_some.1 l
 obtain ⟨y,z,l⟩:=bs l
 simp (disch:=first|apply D;decide|apply K;kernel_rfl) only [E,EE,↓reduceIte,simprocAttr,xk B4 [2,2,1,2,2,1,2,2,2,1,2,2,1,2,2,1,2,2,2,2,2,2,2,2,2] .sq rfl,xk B4 [1,2,2,1,2,2,1,2,2,2,1,2,2,1,2,2,1,2,2,2,2,2,2,2,2,2] (.bk 5) rfl,xk B4 [2,1,2,2,1,2,2,1,2,2,2,1,2,2,1,2,2,1,2,2,2,2,2,2,2,2,2] .sq rfl,rg B4 [1,2,1,2,2,1,2,2,1,2,2,2,1,2,2,1,2,2,1,2,2,2,2,2,2,2,2,2] 23 false rfl,hr 4 23 rfl,indexAddrV,t_26,t_44,encT44_eq,rg B4 [2,2,1,2,2,1,2,2,1,2,2,2,1,2,2,1,2,2,1,2,2,2,2,2,2,2,2,2] 24 false rfl,hr 4 24 rfl,w,x,z]
 rcases cond_some l with ⟨n,l⟩ | ⟨n,l⟩
 ·have hJ:=f4_l6_l2_j2_ok k true f a g h i j o p q s m b c d e t _ l
  simp (disch:=first|apply D;decide|apply K;kernel_rfl) only [E,EE,↓reduceIte,simprocAttr,w,x,z,n]
  try simp only [NM,EE] at hJ
  exact hJ
 ·have hJ:=f4_l6_l2_j2_ok k (((y.Source==m)&&((y.Seq==b)&&(y.Offset==c)))) f a g h i j o p q s m b c d e t _ l
  simp (disch:=first|apply D;decide|apply K;kernel_rfl) only [E,EE,↓reduceIte,simprocAttr,t_44,fieldAddrV,t_56,ag_44,t_3,t_42,w,x,z,n]
  try simp only [NM,EE] at hJ
  exact hJ
noncomputable def f4_l6_l2_b (k:Nat) (l:Bool) (h a:Nat) (i j b c:Int) (m:List T56) (o p:List T44) (q:List Int) (s d e f g:Int) (t:List T56):Option R4_l6_l2 :=
 cond ((decide (c<b)))
  (f4_l6_l2_j1 k l h a i j b c true m o p q s d e f g t)
  (some (R4_l6_l2.o1 l h a i j b c false m o p q s d e f g t))
theorem f4_l6_l2_b_ok (k l f a g h i j m o p q s b c d e t r) (u:f4_l6_l2_b k l f a g h i j m o p q s b c d e t=some r):EX 4 k (nav B4 [1,2,2,1,2,2,2,1,2,2,1,2,2,1,2,2,2,2,2,2,2,2,2]) (⟨137,[(5,.ptr 30000 0),(10,.ptr 30005 0),(11,.p (.bool l)),(113,V.cut 30006 5 f a),(114,jI g),(115,jI h),(120,.own 30002),(121,jI i),(122,jI j)],[(30000,.box 37 [.own 30001,.own 30002,.own 30003,.own 30004]),(30001,.row true 5 56 (rowsOf encT56 m)),(30002,.row true 3 44 (rowsOf encT44 o)),(30003,.row true 3 44 (rowsOf encT44 p)),(30004,.row true 1 3 (rowsOf (encI .i64) q)),(30005,.box 56 [jI s,jU b,jI c,jI d,jI e]),(30006,.row true 5 56 (rowsOf encT56 t))]⟩:St)=some r.st:=by
 unfold f4_l6_l2_b at u
 simp (disch:=first|apply D;decide|apply K;kernel_rfl) only [E,EE,↓reduceIte,simprocAttr,xk B4 [1,2,2,1,2,2,2,1,2,2,1,2,2,1,2,2,2,2,2,2,2,2,2] .sq rfl,rg B4 [1,1,2,2,1,2,2,2,1,2,2,1,2,2,1,2,2,2,2,2,2,2,2,2] 22 false rfl,hr 4 22 rfl,xk B4 [2,1,2,2,1,2,2,2,1,2,2,1,2,2,1,2,2,2,2,2,2,2,2,2] .sq rfl,xk B4 [1,2,1,2,2,1,2,2,2,1,2,2,1,2,2,1,2,2,2,2,2,2,2,2,2] (.cd 123) rfl]
 rcases cond_some u with ⟨v,u⟩ | ⟨v,u⟩
 ·have hJ:=f4_l6_l2_j1_ok k l f a g h i j true m o p q s b c d e t _ u
  simp (disch:=first|apply D;decide|apply K;kernel_rfl) only [E,EE,↓reduceIte,simprocAttr,xk B4 [2,1,2,1,2,2,1,2,2,2,1,2,2,1,2,2,1,2,2,2,2,2,2,2,2,2] .sk rfl,v]
  try simp only [NM,EE] at hJ
  exact hJ
 ·cases u
  simp (disch:=first|apply D;decide|apply K;kernel_rfl) only [E,EE,↓reduceIte,simprocAttr,xk B4 [3,1,2,1,2,2,1,2,2,2,1,2,2,1,2,2,1,2,2,2,2,2,2,2,2,2] (.ex 4) rfl,R4_l6_l2.st,v]
noncomputable def f4_l6_l2 (k:Nat):Nat→Bool→Nat→Nat→Int→Int→Int→Int→(List T56)→(List T44)→(List T44)→(List Int)→Int→Int→Int→Int→Int→(List T56)→Option R4_l6_l2
 | 0,_,_,_,_,_,_,_,_,_,_,_,_,_,_,_,_,_=>none
 | n+1,af,r,h,aa,ab,ac,ad,ag,ah,ai,aj,ak,i,j,l,m,al=>Option.bind (f4_l6_l2_b k af r h aa ab ac ad ag ah ai aj ak i j l m al) fun o =>
  match o with
  | .o0 y p q s t u v w x z a b c d e f g=>f4_l6_l2 k n y p q s t u v w x z a b c d e f g
  | .o1 y p q s t u v w x z a b c d e f g ae=>some (.o1 y p q s t u v w x z a b c d e f g ae)
theorem f4_l6_l2_ok (k n:Nat):∀ (m:Bool) (f a:Nat) (g i j l:Int) (p:List T56) (q s:List T44) (t:List Int) (u b c d e:Int) (v:List T56) (r:R4_l6_l2) (w:f4_l6_l2 k n m f a g i j l p q s t u b c d e v=some r) (σ:St) (hσ:headR (hints.head 4 22) (hints.canon 4 22) σ=some (⟨137,[(5,.ptr 30000 0),(10,.ptr 30005 0),(11,.p (.bool m)),(113,V.cut 30006 5 f a),(114,jI g),(115,jI i),(120,.own 30002),(121,jI j),(122,jI l)],[(30000,.box 37 [.own 30001,.own 30002,.own 30003,.own 30004]),(30001,.row true 5 56 (rowsOf encT56 p)),(30002,.row true 3 44 (rowsOf encT44 q)),(30003,.row true 3 44 (rowsOf encT44 s)),(30004,.row true 1 3 (rowsOf (encI .i64) t)),(30005,.box 56 [jI u,jU b,jI c,jI d,jI e]),(30006,.row true 5 56 (rowsOf encT56 v))]⟩:St)),LP 4 k (nav B4 [1,2,2,1,2,2,2,1,2,2,1,2,2,1,2,2,2,2,2,2,2,2,2]) n σ=some r.st:=by
 induction n with
 | zero=>intro m f a g i j l p q s t u b c d e v r w;cases w
 | succ n ih =>
  intro m f a g i j l p q s t u b c d e v r w σ hσ
  rw [f4_l6_l2] at w
  obtain ⟨o,h,w⟩:=Option.bind_eq_some_iff.1 w
  have hB:=f4_l6_l2_b_ok k m f a g i j l p q s t u b c d e v o h
  unfold LP at ih ⊢
  unfold EX at hB
  rw [loopK_succ,show firstReg (nav B4 [1,2,2,1,2,2,2,1,2,2,1,2,2,1,2,2,2,2,2,2,2,2,2])=22 from rfl,hσ,headK_some,hB]
  cases o with
  | o0 y af ag ah ai aj ak al am an x z aa ab ac ad ae =>
   refine ih y af ag ah ai aj ak al am an x z aa ab ac ad ae r w _ ?_
   simp (disch:=first|apply D;decide|apply K;kernel_rfl) only [E,EE,↓reduceIte,simprocAttr,hh_4_22,hc_4_22]
  | o1 y af ag ah ai aj ak al am an x z aa ab ac ad ae ap=>cases w;rfl
inductive R4_l6 where
 | o0 (y:Bool)
 | o1 (y a:Nat) (b c:Int) (d:List T56) (e f:List T44) (g:List Int) (h:List T56)
 | o2 (y a:Nat) (b c:Int) (d:Bool) (e:List T56) (f g:List T44) (h:List Int) (i:List T56)
noncomputable def R4_l6.st:R4_l6→Out×St
 | .o0 y=>(.ret,(⟨137,[(4,.p (.bool y))],[]⟩:St))
 | .o1 y a b c d e f g h=>(.norm,(⟨137,[(5,.ptr 30000 0),(113,V.cut 30006 5 y a),(114,jI b),(115,jI c)],[(30000,.box 37 [.own 30001,.own 30002,.own 30003,.own 30004]),(30001,.row true 5 56 (rowsOf encT56 d)),(30002,.row true 3 44 (rowsOf encT44 e)),(30003,.row true 3 44 (rowsOf encT44 f)),(30004,.row true 1 3 (rowsOf (encI .i64) g)),(30006,.row true 5 56 (rowsOf encT56 h))]⟩:St))
 | .o2 y a b c d e f g h i=>(.exit 2,(⟨137,[(5,.ptr 30000 0),(113,V.cut 30005 5 y a),(114,jI b),(115,jI c),(116,.p (.bool d))],[(30000,.box 37 [.own 30001,.own 30002,.own 30003,.own 30004]),(30001,.row true 5 56 (rowsOf encT56 e)),(30002,.row true 3 44 (rowsOf encT44 f)),(30003,.row true 3 44 (rowsOf encT44 g)),(30004,.row true 1 3 (rowsOf (encI .i64) h)),(30005,.row true 5 56 (rowsOf encT56 i))]⟩:St))
noncomputable def f4_l6_j4 (k b a:Nat) (c d:Int) (j:Bool) (e:List T56) (f g:List T44) (h:List Int) (i:List T56):Option R4_l6 :=
 some (.o1 b a c (IntKind.i64.wrap (d+(1:Int))) e f g h i)
theorem f4_l6_j4_ok (k b a c d e f g h i j r) (l:f4_l6_j4 k b a c d e f g h i j=some r):EX 4 k (nav B4 [2,2,2,1,2,2,1,2,2,2,2,2,2,2,2,2]) (⟨137,[(5,.ptr 30000 0),(113,V.cut 30006 5 b a),(114,jI c),(115,jI d),(135,.p (.bool e))],[(30000,.box 37 [.own 30001,.own 30002,.own 30003,.own 30004]),(30001,.row true 5 56 (rowsOf encT56 f)),(30002,.row true 3 44 (rowsOf encT44 g)),(30003,.row true 3 44 (rowsOf encT44 h)),(30004,.row true 1 3 (rowsOf (encI .i64) i)),(30006,.row true 5 56 (rowsOf encT56 j))]⟩:St)=some r.st:=by
 unfold f4_l6_j4 at l
 cases l
 simp (disch:=first|apply D;decide|apply K;kernel_rfl) only [E,EE,↓reduceIte,simprocAttr,rg B4 [2,2,2,1,2,2,1,2,2,2,2,2,2,2,2,2] 28 false rfl,hr 4 28 rfl,R4_l6.st]
noncomputable def f4_l6_j3 (k:Nat) (e:Bool) (b a:Nat) (c d q s:Int) (t:Bool) (f:List T56) (g h:List T44) (i:List Int) (u j l m o:Int) (p:List T56):Option R4_l6 :=
 cond ((!e))
  (some (.o0 false))
  (f4_l6_j4 k b a c d false f g h i p)
theorem f4_l6_j3_ok (k u b a c d i j l m o p q v e f g h s r) (t:f4_l6_j3 k u b a c d i j l m o p q v e f g h s=some r):SQ 4 k (nav B4 [2,2,2,1,2,2,1,2,2,2,2,2,2,2,2,2]) (blockK 3 (EX 4 k (nav B4 [2,2,2,2,1,2,2,1,2,2,1,2,2,2,2,2,2,2,2,2]) (⟨137,[(5,.ptr 30000 0),(10,.ptr 30005 0),(11,.p (.bool u)),(113,V.cut 30006 5 b a),(114,jI c),(115,jI d),(120,.own 30002),(121,jI i),(122,jI j),(123,.p (.bool l))],[(30000,.box 37 [.own 30001,.own 30002,.own 30003,.own 30004]),(30001,.row true 5 56 (rowsOf encT56 m)),(30002,.row true 3 44 (rowsOf encT44 o)),(30003,.row true 3 44 (rowsOf encT44 p)),(30004,.row true 1 3 (rowsOf (encI .i64) q)),(30005,.box 56 [jI v,jU e,jI f,jI g,jI h]),(30006,.row true 5 56 (rowsOf encT56 s))]⟩:St)))=some r.st:=by
 unfold f4_l6_j3 at t
 simp (disch:=first|apply D;decide|apply K;kernel_rfl) only [E,EE,↓reduceIte,simprocAttr,xk B4 [2,2,2,2,1,2,2,1,2,2,1,2,2,2,2,2,2,2,2,2] .sq rfl,rg B4 [1,2,2,2,2,1,2,2,1,2,2,1,2,2,2,2,2,2,2,2,2] 26 false rfl,hr 4 26 rfl,xk B4 [2,2,2,2,2,1,2,2,1,2,2,1,2,2,2,2,2,2,2,2,2] (.cd 135) rfl]
 rcases cond_some t with ⟨w,t⟩ | ⟨w,t⟩
 ·cases t
  simp (disch:=first|apply D;decide|apply K;kernel_rfl) only [E,EE,↓reduceIte,simprocAttr,xk B4 [2,2,2,2,2,2,1,2,2,1,2,2,1,2,2,2,2,2,2,2,2,2] .sq rfl,rg B4 [1,2,2,2,2,2,2,1,2,2,1,2,2,1,2,2,2,2,2,2,2,2,2] 27 false rfl,hr 4 27 rfl,xk B4 [2,2,2,2,2,2,2,1,2,2,1,2,2,1,2,2,2,2,2,2,2,2,2] .rt rfl,R4_l6.st,w]
 ·have hJ:=f4_l6_j4_ok k b a c d false m o p q s _ t
  simp (disch:=first|apply D;decide|apply K;kernel_rfl) only [E,EE,↓reduceIte,simprocAttr,xk B4 [3,2,2,2,2,2,1,2,2,1,2,2,1,2,2,2,2,2,2,2,2,2] .sk rfl,w]
  try simp only [NM,EE] at hJ
  exact hJ
noncomputable def f4_l6_j1 (k c a:Nat) (d b:Int) (ab:Bool) (h:List T56) (e i:List T44) (j:List Int) (f:List T56):Option R4_l6 :=
 ifE ((0:Int)≤b) (
  ifE (b<(a:Int)) (
   Option.bind (f[(c+(Int.toNat b))]?) fun g =>
    Option.bind (f4_l6_l2 k k false c a d b ((List.length e):Int) 0 h e i j g.Key_Source g.Key_Seq g.Key_Offset g.To g.Contact f) fun o5 =>
     match o5 with
     | .o0 _ _ _ _ _ _ _ _ _ _ _ _ _ _ _ _ _ =>
      none
     | .o1 v8 v9 l m o p q s t u v w x y z r n aa =>
      f4_l6_j3 k v8 v9 l m o p q s t u v w x y z r n aa))
theorem f4_l6_j1_ok (k c a d e g h f i j l r) (b:f4_l6_j1 k c a d e g h f i j l=some r):EX 4 k (nav B4 [2,2,1,2,2,1,2,2,2,2,2,2,2,2,2]) (⟨137,[(5,.ptr 30000 0),(113,V.cut 30005 5 c a),(114,jI d),(115,jI e),(116,.p (.bool g))],[(30000,.box 37 [.own 30001,.own 30002,.own 30003,.own 30004]),(30001,.row true 5 56 (rowsOf encT56 h)),(30002,.row true 3 44 (rowsOf encT44 f)),(30003,.row true 3 44 (rowsOf encT44 i)),(30004,.row true 1 3 (rowsOf (encI .i64) j)),(30005,.row true 5 56 (rowsOf encT56 l))]⟩:St)=some r.st:=by
 unfold f4_l6_j1 at b
 obtain ⟨p,b⟩:=ifE_some.1 b
 obtain ⟨q,b⟩:=ifE_some.1 b
 obtain ⟨o,s,b⟩:=bs b
 obtain ⟨o5,h6,b⟩:=bs b
 have m:=f4_l6_l2_ok k k false c a d e ((List.length f):Int) 0 h f i j o.Key_Source o.Key_Seq o.Key_Offset o.To o.Contact l _ h6
 simp (disch:=first|apply D;decide|apply K;kernel_rfl) only [E,EE,↓reduceIte,simprocAttr,xk B4 [2,2,1,2,2,1,2,2,2,2,2,2,2,2,2] .sq rfl,xk B4 [1,2,2,1,2,2,1,2,2,2,2,2,2,2,2,2] (.bk 3) rfl,xk B4 [2,1,2,2,1,2,2,1,2,2,2,2,2,2,2,2,2] .sq rfl,rg B4 [1,2,1,2,2,1,2,2,1,2,2,2,2,2,2,2,2,2] 19 false rfl,hr 4 19 rfl,indexAddrV,t_35,t_56,encT56_eq,xk B4 [2,2,1,2,2,1,2,2,1,2,2,2,2,2,2,2,2,2] .sq rfl,rg B4 [1,2,2,1,2,2,1,2,2,1,2,2,2,2,2,2,2,2,2] 20 false rfl,hr 4 20 rfl,xk B4 [2,2,2,1,2,2,1,2,2,1,2,2,2,2,2,2,2,2,2] .sq rfl,xk B4 [1,2,2,2,1,2,2,1,2,2,1,2,2,2,2,2,2,2,2,2] .sq rfl,rg B4 [1,1,2,2,2,1,2,2,1,2,2,1,2,2,2,2,2,2,2,2,2] 21 false rfl,hr 4 21 rfl,fieldAddrV,t_37,t_26,xk B4 [2,1,2,2,2,1,2,2,1,2,2,1,2,2,2,2,2,2,2,2,2] (.bk 4) rfl,xk B4 [2,2,1,2,2,2,1,2,2,1,2,2,1,2,2,2,2,2,2,2,2,2] .lp rfl,hh_4_22,hc_4_22,p,q,s]
 (try simp only [NM,EE] at m)
 rw [m _ (by simp (disch:=first|apply D;decide|apply K;kernel_rfl) only [E,EE,↓reduceIte,simprocAttr,hh_4_22,hc_4_22,p,q,s])]
 clear m
 cases o5 with
 | o0 _ _ _ _ _ _ _ _ _ _ _ _ _ _ _ _ _ =>
  (try dsimp only at b)
  cases b
 | o1 v8 v9 t u v w x y z n aa ab ac ad ae af ag ah =>
  (try dsimp only at b)
  have hJ:=f4_l6_j3_ok k v8 v9 t u v w x y z n aa ab ac ad ae af ag ah _ b
  simp (disch:=first|apply D;decide|apply K;kernel_rfl) only [E,EE,↓reduceIte,simprocAttr,R4_l6_l2.st,p,q,s]
  try simp only [NM,EE] at hJ
  exact hJ
noncomputable def f4_l6_b (k d a:Nat) (b c:Int) (e:List T56) (f g:List T44) (h:List Int) (i:List T56):Option R4_l6 :=
 cond ((decide (c<b)))
  (f4_l6_j1 k d a b c true e f g h i)
  (some (.o2 d a b c false e f g h i))
theorem f4_l6_b_ok (k b a c d e f g h i r) (j:f4_l6_b k b a c d e f g h i=some r):EX 4 k (nav B4 [1,2,2,1,2,2,2,2,2,2,2,2,2]) (⟨137,[(5,.ptr 30000 0),(113,V.cut 30005 5 b a),(114,jI c),(115,jI d)],[(30000,.box 37 [.own 30001,.own 30002,.own 30003,.own 30004]),(30001,.row true 5 56 (rowsOf encT56 e)),(30002,.row true 3 44 (rowsOf encT44 f)),(30003,.row true 3 44 (rowsOf encT44 g)),(30004,.row true 1 3 (rowsOf (encI .i64) h)),(30005,.row true 5 56 (rowsOf encT56 i))]⟩:St)=some r.st:=by
 unfold f4_l6_b at j
 simp (disch:=first|apply D;decide|apply K;kernel_rfl) only [E,EE,↓reduceIte,simprocAttr,xk B4 [1,2,2,1,2,2,2,2,2,2,2,2,2] .sq rfl,rg B4 [1,1,2,2,1,2,2,2,2,2,2,2,2,2] 18 false rfl,hr 4 18 rfl,xk B4 [2,1,2,2,1,2,2,2,2,2,2,2,2,2] .sq rfl,xk B4 [1,2,1,2,2,1,2,2,2,2,2,2,2,2,2] (.cd 116) rfl]
 rcases cond_some j with ⟨l,j⟩ | ⟨l,j⟩
 ·have hJ:=f4_l6_j1_ok k b a c d true e f g h i _ j
  simp (disch:=first|apply D;decide|apply K;kernel_rfl) only [E,EE,↓reduceIte,simprocAttr,xk B4 [2,1,2,1,2,2,1,2,2,2,2,2,2,2,2,2] .sk rfl,l]
  try simp only [NM,EE] at hJ
  exact hJ
 ·cases j
  simp (disch:=first|apply D;decide|apply K;kernel_rfl) only [E,EE,↓reduceIte,simprocAttr,xk B4 [3,1,2,1,2,2,1,2,2,2,2,2,2,2,2,2] (.ex 2) rfl,R4_l6.st,l]
noncomputable def f4_l6 (k:Nat):Nat→Nat→Nat→Int→Int→(List T56)→(List T44)→(List T44)→(List Int)→(List T56)→Option R4_l6
 | 0,_,_,_,_,_,_,_,_,_=>none
 | n+1,j,a,l,m,p,q,s,t,u=>Option.bind (f4_l6_b k j a l m p q s t u) fun o =>
  match o with
  | .o0 y=>some (.o0 y)
  | .o1 y b c d e f g h i=>f4_l6 k n y b c d e f g h i
  | .o2 y b c d e f g h i v=>some (.o2 y b c d e f g h i v)
theorem f4_l6_ok (k n:Nat):∀ (b a:Nat) (c d:Int) (e:List T56) (f g:List T44) (i:List Int) (j:List T56) (r:R4_l6) (l:f4_l6 k n b a c d e f g i j=some r) (σ:St) (hσ:headR (hints.head 4 18) (hints.canon 4 18) σ=some (⟨137,[(5,.ptr 30000 0),(113,V.cut 30005 5 b a),(114,jI c),(115,jI d)],[(30000,.box 37 [.own 30001,.own 30002,.own 30003,.own 30004]),(30001,.row true 5 56 (rowsOf encT56 e)),(30002,.row true 3 44 (rowsOf encT44 f)),(30003,.row true 3 44 (rowsOf encT44 g)),(30004,.row true 1 3 (rowsOf (encI .i64) i)),(30005,.row true 5 56 (rowsOf encT56 j))]⟩:St)),LP 4 k (nav B4 [1,2,2,1,2,2,2,2,2,2,2,2,2]) n σ=some r.st:=by
 induction n with
 | zero=>intro b a c d e f g i j r l;cases l
 | succ n x =>
  intro b a c d e f g i j r l σ hσ
  rw [f4_l6] at l
  obtain ⟨o,h,l⟩:=Option.bind_eq_some_iff.1 l
  have hB:=f4_l6_b_ok k b a c d e f g i j o h
  unfold LP at x ⊢
  unfold EX at hB
  rw [loopK_succ,show firstReg (nav B4 [1,2,2,1,2,2,2,2,2,2,2,2,2])=18 from rfl,hσ,headK_some,hB]
  cases o with
  | o0 y=>cases l;rfl
  | o1 y m p q s t u v w =>
   refine x y m p q s t u v w r l _ ?_
   simp (disch:=first|apply D;decide|apply K;kernel_rfl) only [E,EE,↓reduceIte,simprocAttr,hh_4_18,hc_4_18]
  | o2 y m p q s t u v w z=>cases l;rfl
noncomputable def f4_j7 (k b a:Nat) (c d:Int) (e:Bool) (f:List T56) (g h:List T44) (i:List Int) (j:List T56):Option R4 :=
 some (.o0 true)
theorem f4_j7_ok (k b a c d e f g h i j r) (l:f4_j7 k b a c d e f g h i j=some r):finK Tryd.prog Tryd.f4 0 (EX 4 k (nav B4 [2,2,2,2,2,2,2,2,2,2]) (⟨137,[(5,.ptr 30000 0),(113,V.cut 30005 5 b a),(114,jI c),(115,jI d),(116,.p (.bool e))],[(30000,.box 37 [.own 30001,.own 30002,.own 30003,.own 30004]),(30001,.row true 5 56 (rowsOf encT56 f)),(30002,.row true 3 44 (rowsOf encT44 g)),(30003,.row true 3 44 (rowsOf encT44 h)),(30004,.row true 1 3 (rowsOf (encI .i64) i)),(30005,.row true 5 56 (rowsOf encT56 j))]⟩:St))=some r.st:=by
 unfold f4_j7 at l
 cases l
 simp (disch:=first|apply D;decide|apply K;kernel_rfl) only [E,EE,↓reduceIte,simprocAttr,xk B4 [2,2,2,2,2,2,2,2,2,2] .sq rfl,rg B4 [1,2,2,2,2,2,2,2,2,2,2] 29 false rfl,hr 4 29 rfl,xk B4 [2,2,2,2,2,2,2,2,2,2,2] .rt rfl,fin4,R4.st]
noncomputable def f4_j5 (k:Nat) (o p:Int) (q:Bool) (a:List T56) (c d:List T44) (e:List Int) (b:List T56) (s t:List T44) (u:List Int):Option R4 :=
 ifE ((0:Int)≤((List.length a):Int)) (
  ifE ((Int.toNat ((List.length a):Int))≤(List.length b)) (
   Option.bind (f4_l6 k k (Int.toNat ((List.length a):Int)) (((List.length b) - (Int.toNat ((List.length a):Int)))) (((((List.length b) - (Int.toNat ((List.length a):Int))):Nat):Int)) 0 a c d e b) fun o3 =>
    match o3 with
    | .o0 v =>
     some (.o0 v)
    | .o1 _ _ _ _ _ _ _ _ _ =>
     none
    | .o2 w x y f g h i j l m =>
     f4_j7 k w x y f g h i j l m))
theorem f4_j5_ok (k h i j a d e f c l m o r) (b:f4_j5 k h i j a d e f c l m o=some r):finK Tryd.prog Tryd.f4 0 (EX 4 k (nav B4 [2,2,2,2,2,2,2,2,2]) (⟨137,[(5,.ptr 30000 0),(7,.ptr 30005 0),(92,jI h),(93,jI i),(94,.p (.bool j))],[(30000,.box 37 [.own 30001,.own 30002,.own 30003,.own 30004]),(30001,.row true 5 56 (rowsOf encT56 a)),(30002,.row true 3 44 (rowsOf encT44 d)),(30003,.row true 3 44 (rowsOf encT44 e)),(30004,.row true 1 3 (rowsOf (encI .i64) f)),(30005,.box 37 [.own 30006,.own 30007,.own 30008,.own 30009]),(30006,.row true 5 56 (rowsOf encT56 c)),(30007,.row true 3 44 (rowsOf encT44 l)),(30008,.row true 3 44 (rowsOf encT44 m)),(30009,.row true 1 3 (rowsOf (encI .i64) o))]⟩:St))=some r.st:=by
 unfold f4_j5 at b
 obtain ⟨p,b⟩:=ifE_some.1 b
 obtain ⟨q,b⟩:=ifE_some.1 b
 obtain ⟨o3,z,b⟩:=bs b
 have g:=f4_l6_ok k k (Int.toNat ((List.length a):Int)) (((List.length c) - (Int.toNat ((List.length a):Int)))) (((((List.length c) - (Int.toNat ((List.length a):Int))):Nat):Int)) 0 a d e f c _ z
 simp (disch:=first|apply D;decide|apply K;kernel_rfl) only [E,EE,↓reduceIte,simprocAttr,xk B4 [2,2,2,2,2,2,2,2,2] .sq rfl,xk B4 [1,2,2,2,2,2,2,2,2,2] .sq rfl,rg B4 [1,1,2,2,2,2,2,2,2,2,2] 17 false rfl,hr 4 17 rfl,fieldAddrV,t_37,t_35,sliceV,bound,t_56,xk B4 [2,1,2,2,2,2,2,2,2,2,2] (.bk 2) rfl,xk B4 [2,2,1,2,2,2,2,2,2,2,2,2] .lp rfl,hh_4_18,hc_4_18,p,q]
 (try simp only [NM,EE] at g)
 rw [g _ (by simp (disch:=first|apply D;decide|apply K;kernel_rfl) only [E,EE,↓reduceIte,simprocAttr,hh_4_18,hc_4_18,p,q])]
 clear g
 cases o3 with
 | o0 v6 =>
  (try dsimp only at b)
  cases b
  simp (disch:=first|apply D;decide|apply K;kernel_rfl) only [E,EE,↓reduceIte,simprocAttr,R4_l6.st,fin4,R4.st,p,q]
 | o1 _ _ _ _ _ _ _ _ _ =>
  (try dsimp only at b)
  cases b
 | o2 n v8 v9 s t u v w x y =>
  (try dsimp only at b)
  have hJ:=f4_j7_ok k n v8 v9 s t u v w x y _ b
  simp (disch:=first|apply D;decide|apply K;kernel_rfl) only [E,EE,↓reduceIte,simprocAttr,R4_l6.st,p,q]
  try simp only [NM,EE] at hJ
  exact hJ
noncomputable def f4_j3 (k:Nat) (q:Bool) (e:List T56) (a b:List T44) (f:List Int) (h:List T56) (c d:List T44) (g:List Int):Option R4 :=
 Option.bind (f4_l4 k k ((List.length e):Int) 0 e a b f h c d g) fun o1 =>
  match o1 with
  | .o0 s =>
   some (.o0 s)
  | .o1 _ _ _ _ _ _ _ _ _ _ =>
   none
  | .o2 t u v w x i j l m o p =>
   f4_j5 k t u v w x i j l m o p
theorem f4_j3_ok (k l g a b e i c d f r) (h:f4_j3 k l g a b e i c d f=some r):finK Tryd.prog Tryd.f4 0 (EX 4 k (nav B4 [2,2,2,2,2,2,2,2]) (⟨137,[(5,.ptr 5 0),(7,.ptr 7 0),(89,.p (.bool l))],[(5,.box 37 [.own 23,.own 10023,.own 20023,.own 30023]),(23,.row true 5 56 (rowsOf encT56 g)),(10023,.row true 3 44 (rowsOf encT44 a)),(20023,.row true 3 44 (rowsOf encT44 b)),(30023,.row true 1 3 (rowsOf (encI .i64) e)),(7,.box 37 [.own 40,.own 10040,.own 20040,.own 30040]),(40,.row true 5 56 (rowsOf encT56 i)),(10040,.row true 3 44 (rowsOf encT44 c)),(20040,.row true 3 44 (rowsOf encT44 d)),(30040,.row true 1 3 (rowsOf (encI .i64) f))]⟩:St))=some r.st:=by
 unfold f4_j3 at h
 obtain ⟨o1,u,h⟩:=bs h
 have j:=f4_l4_ok k k ((List.length g):Int) 0 g a b e i c d f _ u
 simp (disch:=first|apply D;decide|apply K;kernel_rfl) only [E,EE,↓reduceIte,simprocAttr,xk B4 [2,2,2,2,2,2,2,2] .sq rfl,xk B4 [1,2,2,2,2,2,2,2,2] .sq rfl,rg B4 [1,1,2,2,2,2,2,2,2,2] 11 false rfl,hr 4 11 rfl,fieldAddrV,t_37,t_35,xk B4 [2,1,2,2,2,2,2,2,2,2] (.bk 0) rfl,xk B4 [2,2,1,2,2,2,2,2,2,2,2] .lp rfl,hh_4_12,hc_4_12]
 (try simp only [NM,EE] at j)
 rw [j _ (by simp (disch:=first|apply D;decide|apply K;kernel_rfl) only [E,EE,↓reduceIte,simprocAttr,hh_4_12,hc_4_12])]
 clear j
 cases o1 with
 | o0 n =>
  (try dsimp only at h)
  cases h
  simp (disch:=first|apply D;decide|apply K;kernel_rfl) only [E,EE,↓reduceIte,simprocAttr,R4_l4.st,fin4,R4.st]
 | o1 _ _ _ _ _ _ _ _ _ _ =>
  (try dsimp only at h)
  cases h
 | o2 v w x y z m o p q s t =>
  (try dsimp only at h)
  have hJ:=f4_j5_ok k v w x y z m o p q s t _ h
  simp (disch:=first|apply D;decide|apply K;kernel_rfl) only [E,EE,↓reduceIte,simprocAttr,R4_l4.st]
  try simp only [NM,EE] at hJ
  exact hJ
noncomputable def f4_j2 (k:Nat) (q:Bool) (s f g h:Int) (l:List T54) (c:List Int) (d:List T44) (m:List T47) (e:List T56) (a b:List T44) (i:List Int):Option R4 :=
 Option.bind (f11 k s f l c g d (IntKind.i64.wrap (h+(1:Int))) m) fun o1 =>
  match o1 with
  | .o0 t j o p u =>
   cond ((t != 0))
    (some (.o0 false))
    (
     cond ((decide (((List.length j):Int)>(IntKind.i64.wrap (((List.length e):Int)+(1:Int))))))
      (some (.o0 false))
      (
       cond ((decide (((List.length j):Int)<((List.length e):Int))))
        (some (.o0 false))
        (
         cond (((IntKind.i64.wrap (((List.length j):Int)+((List.length o):Int))) != (IntKind.i64.wrap (((List.length e):Int)+((List.length a):Int)))))
          (some (.o0 false))
          (
           cond ((((List.length b):Int) != ((List.length p):Int)))
            (some (.o0 false))
            (f4_j3 k false e a b i j o p u)))))
theorem f4_j2_ok (k v w i j l q c d s t e f m r) (a:f4_j2 k v w i j l q c d s t e f m=some r):finK Tryd.prog Tryd.f4 0 (EX 4 k (nav B4 [2,2,2,2,2]) (⟨137,[(2,.ptr 2 0),(3,.ptr 3 0),(5,.ptr 5 0),(32,.p (.bool v))],[(2,.box 28 [jI w,jI i,.own 17,.own 10017,jI j,.own 20017,jI l]),(17,.row false 6 54 (rowsOf encT54 q)),(10017,.row false 1 3 (rowsOf (encI .i64) c)),(20017,.row false 3 44 (rowsOf encT44 d)),(3,.box 31 [.own 19]),(19,.row false 11 47 (rowsOf encT47 s)),(5,.box 37 [.own 23,.own 10023,.own 20023,.own 30023]),(23,.row true 5 56 (rowsOf encT56 t)),(10023,.row true 3 44 (rowsOf encT44 e)),(20023,.row true 3 44 (rowsOf encT44 f)),(30023,.row true 1 3 (rowsOf (encI .i64) m))]⟩:St))=some r.st:=by
 unfold f4_j2 at a
 obtain ⟨o1,x,a⟩:=bs a
 have b:=f11_ok k w i q c j d (IntKind.i64.wrap (l+(1:Int))) s _ x
 cases o1 with
 | o0 v4 y z n v8 =>
  (try dsimp only at a)
  (try simp only [NM,EE,R11.st] at b)
  simp (disch:=first|apply D;decide|apply K;kernel_rfl) only [E,EE,↓reduceIte,simprocAttr,xk B4 [2,2,2,2,2] .sq rfl,rg B4 [1,2,2,2,2,2] 7 false rfl,hr 4 7 rfl,fieldAddrV,t_28,t_3,xk B4 [2,2,2,2,2,2] .sq rfl,rg B4 [1,2,2,2,2,2,2] 8 false rfl,hr 4 8 rfl,t_31,callStep,CL,gv,List.contains,t_37,xk B4 [2,2,2,2,2,2,2] .sq rfl,xk B4 [1,2,2,2,2,2,2,2] .sq rfl,rg B4 [1,1,2,2,2,2,2,2,2] 9 false rfl,hr 4 9 rfl,b]
  rcases cond_some a with ⟨o,a⟩ | ⟨o,a⟩
  ·cases a
   simp (disch:=first|apply D;decide|apply K;kernel_rfl) only [E,EE,↓reduceIte,simprocAttr,xk B4 [2,1,2,2,2,2,2,2,2] (.cd 89) rfl,xk B4 [2,2,1,2,2,2,2,2,2,2] .sq rfl,rg B4 [1,2,2,1,2,2,2,2,2,2,2] 10 false rfl,hr 4 10 rfl,xk B4 [2,2,2,1,2,2,2,2,2,2,2] .rt rfl,fin4,R4.st,b,o]
  ·simp (disch:=first|apply D;decide|apply K;kernel_rfl) only [E,EE,↓reduceIte,simprocAttr,fieldAddrV,t_37,t_35,b,o]
   rcases cond_some a with ⟨g,a⟩ | ⟨g,a⟩
   ·cases a
    simp (disch:=first|apply D;decide|apply K;kernel_rfl) only [E,EE,↓reduceIte,simprocAttr,xk B4 [2,1,2,2,2,2,2,2,2] (.cd 89) rfl,xk B4 [2,2,1,2,2,2,2,2,2,2] .sq rfl,rg B4 [1,2,2,1,2,2,2,2,2,2,2] 10 false rfl,hr 4 10 rfl,xk B4 [2,2,2,1,2,2,2,2,2,2,2] .rt rfl,fin4,R4.st,b,o,g]
   ·simp (disch:=first|apply D;decide|apply K;kernel_rfl) only [E,EE,↓reduceIte,simprocAttr,fieldAddrV,t_37,t_35,b,o,g]
    rcases cond_some a with ⟨h,a⟩ | ⟨h,a⟩
    ·cases a
     simp (disch:=first|apply D;decide|apply K;kernel_rfl) only [E,EE,↓reduceIte,simprocAttr,xk B4 [2,1,2,2,2,2,2,2,2] (.cd 89) rfl,xk B4 [2,2,1,2,2,2,2,2,2,2] .sq rfl,rg B4 [1,2,2,1,2,2,2,2,2,2,2] 10 false rfl,hr 4 10 rfl,xk B4 [2,2,2,1,2,2,2,2,2,2,2] .rt rfl,fin4,R4.st,b,o,g,h]
    ·simp (disch:=first|apply D;decide|apply K;kernel_rfl) only [E,EE,↓reduceIte,simprocAttr,fieldAddrV,t_37,t_35,t_26,b,o,g,h]
     rcases cond_some a with ⟨p,a⟩ | ⟨p,a⟩
     ·cases a
      simp (disch:=first|apply D;decide|apply K;kernel_rfl) only [E,EE,↓reduceIte,simprocAttr,xk B4 [2,1,2,2,2,2,2,2,2] (.cd 89) rfl,xk B4 [2,2,1,2,2,2,2,2,2,2] .sq rfl,rg B4 [1,2,2,1,2,2,2,2,2,2,2] 10 false rfl,hr 4 10 rfl,xk B4 [2,2,2,1,2,2,2,2,2,2,2] .rt rfl,fin4,R4.st,b,o,g,h,p]
     ·simp (disch:=first|apply D;decide|apply K;kernel_rfl) only [E,EE,↓reduceIte,simprocAttr,fieldAddrV,t_37,t_26,xk B4 [2,1,2,2,2,2,2,2,2] (.cd 89) rfl,b,o,g,h,p]
      rcases cond_some a with ⟨u,a⟩ | ⟨u,a⟩
      ·cases a
       simp (disch:=first|apply D;decide|apply K;kernel_rfl) only [E,EE,↓reduceIte,simprocAttr,xk B4 [2,2,1,2,2,2,2,2,2,2] .sq rfl,rg B4 [1,2,2,1,2,2,2,2,2,2,2] 10 false rfl,hr 4 10 rfl,xk B4 [2,2,2,1,2,2,2,2,2,2,2] .rt rfl,fin4,R4.st,b,o,g,h,p,u]
      ·have hJ:=f4_j3_ok k false t e f m y z n v8 _ a
       simp (disch:=first|apply D;decide|apply K;kernel_rfl) only [E,EE,↓reduceIte,simprocAttr,xk B4 [3,2,1,2,2,2,2,2,2,2] .sk rfl,b,o,g,h,p,u]
       try simp only [NM,EE] at hJ
       exact hJ
noncomputable def f4_j1 (k:Nat) (w:Bool) (x a:Int) (b:List T54) (c:List Int) (d:Int) (e:List T44) (f:Int) (y:List T47):Option R4 :=
 Option.bind (f9 k x a b c d e f) fun o1 =>
  match o1 with
  | .o0 q s t i u v g =>
   Option.bind (f10 k y) fun o11 =>
    match o11 with
    | .o0 h =>
     Option.bind (f11 k q s u v t g i h) fun o15 =>
      match o15 with
      | .o0 j l m o p =>
       cond ((j != 0))
        (some (.o0 true))
        (
         cond ((i==8))
          (some (.o0 true))
          (f4_j2 k false q s t i u v g h l m o p))
theorem f4_j1_ok (k o s e f g h i j t r) (c:f4_j1 k o s e f g h i j t=some r):finK Tryd.prog Tryd.f4 0 (EX 4 k (nav B4 [2,2]) (⟨137,[(2,.ptr 2 0),(3,.ptr 3 0),(15,.p (.bool o))],[(2,.box 28 [jI s,jI e,.sl 6 (rowsOf encT54 f),.sl 1 (rowsOf (encI .i64) g),jI h,.sl 3 (rowsOf encT44 i),jI j]),(3,.box 31 [.sl 11 (rowsOf encT47 t)])]⟩:St))=some r.st:=by
 unfold f4_j1 at c
 obtain ⟨o1,h2,c⟩:=bs c
 have d:=f9_ok k s e f g h i j _ h2
 cases o1 with
 | o0 n v5 v6 v7 v8 v9 p =>
  (try dsimp only at c)
  (try simp only [NM,EE,R9.st] at d)
  obtain ⟨o11,u,c⟩:=bs c
  have a:=f10_ok k t _ u
  cases o11 with
  | o0 q =>
   (try dsimp only at c)
   (try simp only [NM,EE,R10.st] at a)
   obtain ⟨o15,v,c⟩:=bs c
   have b:=f11_ok k n v5 v8 v9 v6 p v7 q _ v
   cases o15 with
   | o0 ag w x y z =>
    (try dsimp only at c)
    (try simp only [NM,EE,R11.st] at b)
    simp (disch:=first|apply D;decide|apply K;kernel_rfl) only [E,EE,↓reduceIte,simprocAttr,xk B4 [2,2] .sq rfl,rg B4 [1,2,2] 3 true rfl,hr 4 3 rfl,t_28,callStep,CL,gv,List.contains,t_31,xk B4 [2,2,2] .sq rfl,rg B4 [1,2,2,2] 4 false rfl,hr 4 4 rfl,t_37,xk B4 [2,2,2,2] .sq rfl,xk B4 [1,2,2,2,2] .sq rfl,rg B4 [1,1,2,2,2,2] 5 false rfl,hr 4 5 rfl,d,a,b]
    rcases cond_some c with ⟨l,c⟩ | ⟨l,c⟩
    ·cases c
     simp (disch:=first|apply D;decide|apply K;kernel_rfl) only [E,EE,↓reduceIte,simprocAttr,xk B4 [2,1,2,2,2,2] (.cd 32) rfl,xk B4 [2,2,1,2,2,2,2] .sq rfl,rg B4 [1,2,2,1,2,2,2,2] 6 false rfl,hr 4 6 rfl,xk B4 [2,2,2,1,2,2,2,2] .rt rfl,fin4,R4.st,d,a,b,l]
    ·simp (disch:=first|apply D;decide|apply K;kernel_rfl) only [E,EE,↓reduceIte,simprocAttr,fieldAddrV,t_28,t_3,xk B4 [2,1,2,2,2,2] (.cd 32) rfl,d,a,b,l]
     rcases cond_some c with ⟨m,c⟩ | ⟨m,c⟩
     ·cases c
      simp (disch:=first|apply D;decide|apply K;kernel_rfl) only [E,EE,↓reduceIte,simprocAttr,xk B4 [2,2,1,2,2,2,2] .sq rfl,rg B4 [1,2,2,1,2,2,2,2] 6 false rfl,hr 4 6 rfl,xk B4 [2,2,2,1,2,2,2,2] .rt rfl,fin4,R4.st,d,a,b,l,m]
     ·have hJ:=f4_j2_ok k false n v5 v6 v7 v8 v9 p q w x y z _ c
      simp (disch:=first|apply D;decide|apply K;kernel_rfl) only [E,EE,↓reduceIte,simprocAttr,xk B4 [3,2,1,2,2,2,2] .sk rfl,d,a,b,l,m]
      try simp only [NM,EE] at hJ
      exact hJ
noncomputable def f4_e (k:Nat) (g a:Int) (b:List T54) (c:List Int) (d:Int) (e:List T44) (f:Int) (h:List T47):Option R4 :=
 Option.bind (f8 k) fun o1 =>
  match o1 with
  | .o0 i =>
   cond ((!i))
    (some (.o0 false))
    (f4_j1 k false g a b c d e f h)
theorem f4_e_ok (k i a b c d e f j r) (g:f4_e k i a b c d e f j=some r):finK Tryd.prog Tryd.f4 0 (EX 4 k (nav B4 []) (⟨137,[(0,.agg [jI i,jI a,.sl 6 (rowsOf encT54 b),.sl 1 (rowsOf (encI .i64) c),jI d,.sl 3 (rowsOf encT44 e),jI f]),(1,.agg [.sl 11 (rowsOf encT47 j)])],[]⟩:St))=some r.st:=by
 unfold f4_e at g
 obtain ⟨o1,m,g⟩:=bs g
 have h:=f8_ok k _ m
 cases o1 with
 | o0 o =>
  (try dsimp only at g)
  (try simp only [NM,EE,R8.st] at h)
  simp (disch:=first|apply D;decide|apply K;kernel_rfl) only [E,EE,↓reduceIte,simprocAttr,xk B4 [] .sq rfl,rg B4 [1] 0 false rfl,hr 4 0 rfl,xk B4 [2] .sq rfl,xk B4 [1,2] .sq rfl,rg B4 [1,1,2] 1 false rfl,hr 4 1 rfl,callStep,CL,gv,List.contains,xk B4 [2,1,2] (.cd 15) rfl,h]
  rcases cond_some g with ⟨l,g⟩ | ⟨l,g⟩
  ·cases g
   simp (disch:=first|apply D;decide|apply K;kernel_rfl) only [E,EE,↓reduceIte,simprocAttr,xk B4 [2,2,1,2] .sq rfl,rg B4 [1,2,2,1,2] 2 false rfl,hr 4 2 rfl,xk B4 [2,2,2,1,2] .rt rfl,fin4,R4.st,h,l]
  ·have hJ:=f4_j1_ok k false i a b c d e f j _ g
   simp (disch:=first|apply D;decide|apply K;kernel_rfl) only [E,EE,↓reduceIte,simprocAttr,xk B4 [3,2,1,2] .sk rfl,h,l]
   try simp only [NM,EE] at hJ
   exact hJ
noncomputable def f4 (k:Nat) (g a:Int) (b:List T54) (c:List Int) (d:Int) (e:List T44) (f:Int) (h:List T47):Option R4:=match k with | 0=>none | k+1=>f4_e k g a b c d e f h
theorem f4_ok (k h a b d e f g i r) (j:f4 k h a b d e f g i=some r):CV k 4 [.agg [jI h,jI a,.sl 6 (rowsOf encT54 b),.sl 1 (rowsOf (encI .i64) d),jI e,.sl 3 (rowsOf encT44 f),jI g],.agg [.sl 11 (rowsOf encT47 i)]] []=some r.st:=by
 cases k with
 | zero=>cases j
 | succ k =>
  unfold CV
  rw [ev_call (F:=Tryd.f4) (c:=(nav B4 [])) rfl Tryd.func4 rfl rfl rfl rfl]
  exact f4_e_ok k h a b d e f g i r j
end Go.Proofs.YtiompmmbjpjjeaaDoorV