/- What the program's functions answer: plain functions,and that the interpreter answers what they do. Written by a program of this session,out of the translation. -/
import Derived.Test.YtiompmmbjpjjeaaDoorVP16
namespace Go.Proofs.YtiompmmbjpjjeaaDoorV
open Go
set_option linter.unusedVariables false
set_option linter.unusedSimpArgs false
set_option maxRecDepth 8000
set_option maxHeartbeats 4000000
-- f11: f11 heliograph/queue.Choose
inductive R11 where
 | o0 (y:Int) (a:List T56) (b c:List T44) (d:List Int)
noncomputable def R11.st:R11→V×List O×List O
 | .o0 y a b c d=>(V.tup [.agg [.own 2000000,.own 2000001,.own 2000002,.own 2000003],jI y],[],[.row true 5 56 (rowsOf encT56 a),.row true 3 44 (rowsOf encT44 b),.row true 3 44 (rowsOf encT44 c),.row true 1 3 (rowsOf (encI .i64) d)])
noncomputable def f11_e (k:Nat) (g a:Int) (b:List T54) (c:List Int) (d:Int) (e:List T44) (f:Int) (h:List T47):Option R11 :=
 Option.bind (f25 k g a b c d e f h) fun o1 =>
  match o1 with
  | .o0 i j l m o p =>
   some (.o0 i j l m o)
theorem f11_e_ok (k i a b c d e f j r) (g:f11_e k i a b c d e f j=some r):finK Tryd.prog Tryd.f11 0 (EX 11 k (nav B11 []) (⟨18,[(0,.agg [jI i,jI a,.sl 6 (rowsOf encT54 b),.sl 1 (rowsOf (encI .i64) c),jI d,.sl 3 (rowsOf encT44 e),jI f]),(1,.agg [.sl 11 (rowsOf encT47 j)])],[]⟩:St))=some r.st:=by
 unfold f11_e at g
 obtain ⟨o1,l,g⟩:=bs g
 have h:=f25_ok k i a b c d e f j _ l
 cases o1 with
 | o0 m o p q s t =>
  (try dsimp only at g)
  (try simp only [NM,EE,R25.st] at h)
  cases g
  simp (disch:=first|apply D;decide|apply K;kernel_rfl) only [E,EE,↓reduceIte,simprocAttr,xk B11 [] .sq rfl,rg B11 [1] 0 false rfl,hr_11_0,t_37,xk B11 [2] .sq rfl,rg B11 [1,2] 1 false rfl,hr 11 1 rfl,t_28,t_31,callStep,CL,gv,List.contains,xk B11 [2,2] .sq rfl,rg B11 [1,2,2] 2 false rfl,hr 11 2 rfl,xk B11 [2,2,2] .rt rfl,fin11,R11.st,h]
noncomputable def f11 (k:Nat) (g a:Int) (b:List T54) (c:List Int) (d:Int) (e:List T44) (f:Int) (h:List T47):Option R11:=match k with | 0=>none | k+1=>f11_e k g a b c d e f h
theorem f11_ok (k h a b d e f g i r) (j:f11 k h a b d e f g i=some r):CV k 11 [.agg [jI h,jI a,.sl 6 (rowsOf encT54 b),.sl 1 (rowsOf (encI .i64) d),jI e,.sl 3 (rowsOf encT44 f),jI g],.agg [.sl 11 (rowsOf encT47 i)]] []=some r.st:=by
 cases k with
 | zero=>cases j
 | succ k =>
  unfold CV
  rw [ev_call (F:=Tryd.f11) (c:=(nav B11 [])) rfl Tryd.func11 rfl rfl rfl rfl]
  exact f11_e_ok k h a b d e f g i r j
end Go.Proofs.YtiompmmbjpjjeaaDoorV