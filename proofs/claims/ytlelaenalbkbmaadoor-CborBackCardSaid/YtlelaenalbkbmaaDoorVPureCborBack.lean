/- The plain law of CborBack. -/
import Derived.Test.YtlelaenalbkbmaaDoorVStmtCborBack
import Derived.Test.YtlelaenalbkbmaaDoorVPPre
import Derived.Test.YtlelaenalbkbmaaDoorVPSame
namespace Go.Proofs.YtlelaenalbkbmaaDoorV
open Go Go.RowKit
set_option linter.unusedVariables false
set_option linter.unusedSimpArgs false
theorem pureCborBack:StmtCborBack:=by
 intro l tail cut gl gt gc
 have hbt:By tail:=fun c hc=>wf_u8 (gt.2.2 c hc)
 have bl:bnd l≤140737488351232:=bnd_bound fun f hf=>by have:=(gl.2.2 f hf).1.2.2.1.2.1;omega
 generalize hB:bnd l=B at *
 have fl:Fit B (builtT l):=built_fit fun f hf=>flat_ok (gl.2.2 f hf).1.2.1 (gl.2.2 f hf).1.2.2.1.2.2 (by have:=bnd_le hf;omega)
 refine ⟨B+150001,?_⟩
 have e0:f8 (B+150000)=some (.o0 true):=by simp only [f8];exact ifE_pos (by omega)
 have b1:=built_at (B+150000) (by omega) l
 generalize builtT l=x at fl b1
 have c1:=cenc_at B x fl (B+150000) (by omega)
 have n0:((0:Int) != 0)=false:=rfl
 have n170:((170:Int) != 0)=true:=rfl
 by_cases ht:(tail.length:Int)>50000
 ·simp only [f5,f5_e,f5_j1,e0,Option.bind_some,Bool.not_true,cond_false,decide_eq_true ht,cond_true]
 cases hx:mayT 4 x<;>rw [hx] at c1<;>simp only [cond_true,cond_false] at c1
 ·simp only [f5,f5_e,f5_j1,f5_j2,e0,b1,c1,Option.bind_some,Bool.not_true,cond_false,decide_eq_false ht,n170,cond_true,List.length_nil,Int.natCast_zero,beq_self_eq_true]
 ·have l1:=enc_le 4 x hx
  have h1:=fl.1
  have hby:=enc_by B 4 x fl
  have hpos:0<(encT 4 x).length:=enc_pos 3 x
  have d1:=dec_enc B 4 x hx fl tail
  have p1:=cdec_at (B+150000) (by omega) (encT 4 x++tail) (hby.app hbt) (by rw [List.length_append];omega)
  rw [d1] at p1
  generalize hv:(if (0:Int)>cut then 0 else cut)=v
  have hv0:0≤v:=by rw [←hv];split<;>omega
  have hm1:0≤Int.tmod v ((encT 4 x).length:Int):=Int.tmod_nonneg _ hv0
  have hm2:Int.tmod v ((encT 4 x).length:Int)<((encT 4 x).length:Int):=Int.tmod_lt_of_pos _ (by omega)
  have d2:=dec_pre B 4 x hx fl (Int.toNat (Int.tmod v ((encT 4 x).length:Int))) (by omega)
  have p2:=cdec_at (B+150000) (by omega) ((encT 4 x).take (Int.toNat (Int.tmod v ((encT 4 x).length:Int)))) (hby.take _) (by rw [List.length_take];omega)
  rw [d2] at p2
  obtain ⟨b,s1,s2⟩:=same_at B (by omega) 120 x x fl.1 fl fl (B+150000) (by omega)
  obtain rfl:b=true:=s2.2 rfl
  have s1:f11 (B+150000) x.Kind x.Num x.Bytes x.Items x.Kind x.Num x.Bytes x.Items=some (.o0 true):=s1
  have r1:(encT 4 x).length≤roomy:=by unfold roomy;omega
  have r2:(encT 4 x).length+tail.length≤roomy:=by unfold roomy;omega
  simp only [f5,f5_e,f5_j1,f5_j2,f5_j4,e0,b1,c1,Option.bind_some,Bool.not_true,cond_false,decide_eq_false ht,n0,ifE_pos r1,ifE_pos r2,p1,hv,ifE_pos (show ¬((encT 4 x).length:Int)=0 by omega),ifE_pos hm1,ifE_pos (show Int.toNat (Int.tmod v ((encT 4 x).length:Int))≤(encT 4 x).length by omega),p2,beq_self_eq_true,cond_true,s1]
end Go.Proofs.YtlelaenalbkbmaaDoorV