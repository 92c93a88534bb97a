/- The plain law of BundleDecodes. -/
import Derived.Test.YtbnnmplkbpgcaaaDoorVStmtBundleDecodes
import Derived.Test.YtbnnmplkbpgcaaaDoorVPRBDec
namespace Go.Proofs.YtbnnmplkbpgcaaaDoorV
open Go Go.RowKit
set_option linter.unusedVariables false
set_option linter.unusedSimpArgs false
theorem pureBundleDecodes:StmtBundleDecodes:=by
 intro raw gr
 refine ⟨60001,?_⟩
 have hr:By raw:=fun x hx=>wf_u8 (gr.2.2 x hx)
 have e9:f9 60000=some (.o0 true):=by simp only [f9];exact ifE_pos (by omega)
 by_cases hl:(raw.length:Int)>5000
 ·simp only [f3,f3_e,f3_j1,e9,Option.bind_some,Bool.not_true,cond_false,decide_eq_true hl,cond_true]
 have hd:=bdec_at 60000 (by omega) raw hr (by omega)
 have hrd:=rbdec_at 60000 (by omega) raw hr (by omega)
 have hroom:raw.length≤roomy:=by unfold roomy;omega
 rcases rdS_cases raw hr with ⟨b,hpl,h1,h2⟩ | ⟨e,h1,h2⟩
 ·rw [h1] at hd
  rw [h2] at hrd
  have hs:=rsame_at 60000 b b (by omega) (by omega)
  rw [decide_eq_true rfl] at hs
  simp only [f3,f3_e,f3_j1,e9,Option.bind_some,Bool.not_true,cond_false,decide_eq_false hl,f3_j2,ifE_pos hroom,hd,ofB,hrd,rofB,beq_self_eq_true,cond_true,hs]
 ·rw [h1] at hd
  rw [h2] at hrd
  have hs:=rsame_at 60000 ⟨0,0,0,0,0,0,0,0,0,0,[]⟩ ⟨0,0,0,0,0,0,0,0,0,0,[]⟩ (by simp) (by simp)
  rw [decide_eq_true rfl] at hs
  simp only [f3,f3_e,f3_j1,e9,Option.bind_some,Bool.not_true,cond_false,decide_eq_false hl,f3_j2,ifE_pos hroom,hd,noB,hrd,rnoB,beq_self_eq_true,cond_true,hs]
end Go.Proofs.YtbnnmplkbpgcaaaDoorV