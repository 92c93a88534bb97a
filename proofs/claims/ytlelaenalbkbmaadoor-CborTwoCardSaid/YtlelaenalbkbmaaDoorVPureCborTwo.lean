/- The plain law of CborTwo. -/
import Derived.Test.YtlelaenalbkbmaaDoorVStmtCborTwo
import Derived.Test.YtlelaenalbkbmaaDoorVPInj
import Derived.Test.YtlelaenalbkbmaaDoorVPSame
namespace Go.Proofs.YtlelaenalbkbmaaDoorV
open Go Go.RowKit
set_option linter.unusedVariables false
set_option linter.unusedSimpArgs false
theorem pureCborTwo:StmtCborTwo:=by
 intro l m gl gm
 have hM:∀ {l:List T49},(∀ y∈l,GT49 y)→bnd l≤140737488351232:=fun h=>bnd_bound fun f hf=>by have:=(h f hf).1.2.2.1.2.1;omega
 have bl:=hM gl.2.2
 have bm:=hM gm.2.2
 generalize hB:max (bnd l) (bnd m)=B at *
 have fl:Fit B (builtT l):=built_fit fun f hf=>flat_ok (gl.2.2 f hf).1.2.1 (gl.2.2 f hf).1.2.2.1.2.2 (by have:=bnd_le hf;omega)
 have fm:Fit B (builtT m):=built_fit fun f hf=>flat_ok (gm.2.2 f hf).1.2.1 (gm.2.2 f hf).1.2.2.1.2.2 (by have:=bnd_le hf;omega)
 refine ⟨B+80001,?_⟩
 have e0:f8 (B+80000)=some (.o0 true):=by simp only [f8];exact ifE_pos (by omega)
 have b1:=built_at (B+80000) (by omega) l
 have b2:=built_at (B+80000) (by omega) m
 generalize builtT l=x at fl b1
 generalize builtT m=y at fm b2
 have c1:=cenc_at B x fl (B+80000) (by omega)
 have c2:=cenc_at B y fm (B+80000) (by omega)
 have n0:((0:Int) != 0)=false:=rfl
 have n170:((170:Int) != 0)=true:=rfl
 cases hx:mayT 4 x<;>rw [hx] at c1<;>cases hy:mayT 4 y<;>rw [hy] at c2<;>simp only [cond_true,cond_false] at c1 c2
 ·simp only [f7,f7_e,f7_j1,e0,b1,b2,c1,c2,Option.bind_some,Bool.not_true,cond_false,n170,cond_true]
 ·simp only [f7,f7_e,f7_j1,e0,b1,b2,c1,c2,Option.bind_some,Bool.not_true,cond_false,n170,cond_true]
 ·simp only [f7,f7_e,f7_j1,e0,b1,b2,c1,c2,Option.bind_some,Bool.not_true,cond_false,n0,n170,cond_true]
 ·have l1:=enc_le 4 x hx
  have h1:=fl.1
  have q:=oeq_at (B+80000) (encT 4 x) (encT 4 y) (by omega) (by omega)
  obtain ⟨b,s1,s2⟩:=same_at B (by omega) 120 x y fl.1 fl fm (B+80000) (by omega)
  have hb:b=decide (encT 4 x=encT 4 y):=by
   rw [Bool.eq_iff_iff,s2,decide_eq_true_eq]
   exact ⟨fun e=>by rw [e],enc_inj fl fm hx hy⟩
  have s1:f11 (B+80000) x.Kind x.Num x.Bytes x.Items y.Kind y.Num y.Bytes y.Items=some (.o0 b):=s1
  simp only [f7,f7_e,f7_j1,f7_j5,e0,b1,b2,c1,c2,Option.bind_some,Bool.not_true,cond_false,n0,q,s1,hb,beq_self_eq_true]
end Go.Proofs.YtlelaenalbkbmaaDoorV