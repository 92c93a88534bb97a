/- The plain law of QueueFirst. -/
import Derived.Test.YtiompmmbjpjjeaaDoorVStmtQueueFirst
import Derived.Test.YtiompmmbjpjjeaaDoorVPFirst
namespace Go.Proofs.YtiompmmbjpjjeaaDoorV
open Go Go.RowKit
set_option linter.unusedVariables false
set_option linter.unusedSimpArgs false
theorem pureQueueFirst:StmtQueueFirst:=by
 intro s c gs gc
 refine ⟨60001,?_⟩
 obtain ⟨node,N,C,l,now,busy,room⟩:=s
 obtain ⟨L⟩:=c
 have hL:L.length<4611686018427387904:=by
  obtain ⟨_,h,_⟩:=gc
  have h':L.length * 104≤140737488351232:=h
  omega
 simp only
 have e7:f8 60000=some (.o0 true):=by simp only [f8];exact ifE_pos (by omega)
 obtain ⟨C',l',b',hC,hl,hb,hs⟩:=short_at 60000 (by omega) node N now room C l busy
 obtain ⟨L',hL',hp,hk⟩:=kept_at 60000 (by omega) L hL
 obtain ⟨O,ho,h⟩:=choose_first 60000 (by omega) node N C' l' now b' L' (by omega) (by omega) (by omega) (by omega) hp room
 rcases h with ⟨e,he,h⟩ | ⟨z,hz,hlaw⟩
 ·simp only [f3,f3_e,e7,Option.bind_some,Bool.not_true,cond_false,f3_j1,hs,hk,h,ho,he,cond_true]
 ·cases hO:((O.length:Int)==0)
  case true=>simp only [f3,f3_e,e7,Option.bind_some,Bool.not_true,cond_false,f3_j1,hs,hk,hz,ho,bne_self_eq_false,hO,cond_true]
  unfold LawOk at hlaw
  rw [Int.natCast_zero] at hlaw
  rcases hlaw with hlaw | ⟨x0,x1,x2,x3,x4,x5,x6,x7,x8,x9,x10,x14,x15,hlaw⟩
  ·simp only [f3,f3_e,e7,Option.bind_some,Bool.not_true,cond_false,f3_j1,hs,hk,hz,ho,bne_self_eq_false,hO,f3_j2,hlaw]
  ·have hw:(IntKind.i64.wrap (IntKind.i64.wrap (0+(0:Int))+(0:Int))==0)=true:=by decide
   simp only [f3,f3_e,e7,Option.bind_some,Bool.not_true,cond_false,f3_j1,hs,hk,hz,ho,bne_self_eq_false,hO,f3_j2,hlaw,f3_j4,List.length_nil,Int.natCast_zero,hw]
end Go.Proofs.YtiompmmbjpjjeaaDoorV