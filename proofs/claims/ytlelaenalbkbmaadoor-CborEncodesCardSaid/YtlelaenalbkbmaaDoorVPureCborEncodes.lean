/- The plain law of CborEncodes. -/
import Derived.Test.YtlelaenalbkbmaaDoorVStmtCborEncodes
import Derived.Test.YtlelaenalbkbmaaDoorVPRef
import Derived.Test.YtlelaenalbkbmaaDoorVPSame
namespace Go.Proofs.YtlelaenalbkbmaaDoorV
open Go Go.RowKit
set_option linter.unusedVariables false
set_option linter.unusedSimpArgs false
theorem pureCborEncodes:StmtCborEncodes:=by
 intro l gl
 have bl:bnd l≤140737488351232:=bnd_bound fun f hf=>by have:=(gl.2.2 f hf).1.2.2.1.2.1;omega
 generalize hB:bnd l=B at *
 have fl:Fit B (builtT l):=built_fit fun f hf=>flat_ok (gl.2.2 f hf).1.2.1 (gl.2.2 f hf).1.2.2.1.2.2 (by have:=bnd_le hf;omega)
 refine ⟨B+80101,?_⟩
 have e0:f8 (B+80100)=some (.o0 true):=by simp only [f8];exact ifE_pos (by omega)
 have b1:=built_at (B+80100) (by omega) l
 generalize builtT l=x at fl b1
 have c1:=cenc_at B x fl (B+80100) (by omega)
 have c2:=chk_at B x fl (B+80100) (by omega)
 have c3:=rRight_at B x fl (B+80100) (by omega)
 have n0:((0:Int)==0)=true:=rfl
 have n170:((170:Int)==170)=true:=rfl
 obtain ⟨b,s1,s2⟩:=same_at B (by omega) 120 x x fl.1 fl fl (B+80100) (by omega)
 obtain rfl:b=true:=s2.2 rfl
 have s1:f11 (B+80100) x.Kind x.Num x.Bytes x.Items x.Kind x.Num x.Bytes x.Items=some (.o0 true):=s1
 cases hx:mayT 4 x<;>rw [hx] at c1 c2 c3<;>simp only [cond_true,cond_false] at c1 c2
 ·simp only [f3,f3_e,f3_j1,f3_j2,e0,b1,c1,s1,c3,c2,Option.bind_some,Bool.not_true,Bool.not_false,cond_false,cond_true,n170,List.length_nil,Int.natCast_zero,n0]
 ·have l1:=enc_le 4 x hx
  have h1:=fl.1
  have q:=rbytes_at B 4 x hx fl (B+80100) (by omega)
  have r:=rsame_refl (B+80100) (encT 4 x) (by omega) (by omega)
  simp only [f3,f3_e,f3_j1,f3_j4,f3_j5,e0,b1,c1,s1,c3,c2,q,r,Option.bind_some,Bool.not_true,Bool.not_false,cond_false,cond_true,n0]
end Go.Proofs.YtlelaenalbkbmaaDoorV