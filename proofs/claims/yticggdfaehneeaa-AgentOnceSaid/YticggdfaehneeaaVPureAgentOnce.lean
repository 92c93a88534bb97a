/- The plain law of AgentOnce. -/
import Derived.Test.YticggdfaehneeaaVStmtAgentOnce
import Derived.Test.YticggdfaehneeaaVPOnce
namespace Go.Proofs.YticggdfaehneeaaV
open Go Go.RowKit
set_option linter.unusedVariables false
set_option linter.unusedSimpArgs false
theorem no_at (k : Nat) (hk : 9000 ≤ k) (nd nx : Int) (S : List Sn) (P : List Bun) (b : Bun) (now : Int) (fP : ∀ x ∈ P,Fit x) (hok : okA nd nx S P = false) :
  f18_aiirrzai10rzi k nd nx S P b.Source b.Dest b.Seq b.Created b.Lifetime b.HopLimit b.Hops b.Priority b.Offset b.Total b.Payload now = some (.o0 0 0 [] 0 0 0 0 0 0 0 0 0 0 0 [] 290 []) := by
 obtain ⟨k,rfl⟩ : ∃ m,k = m + 1 := ⟨k - 1,by omega⟩
 have hc := achk_at k (by omega) nd nx S P fP
 rw [hok,cond_false] at hc
 simp only [f18_aiirrzai10rzi,f18_aiirrzai10rzi_e,hc,Option.bind_some,show ((290 : Int) != 0) = true from rfl,cond_true]
theorem end_j2 (k : Nat) (hk : 10000 ≤ k) (nd nx : Int) (S : List Sn) (P : List Bun) (b : Bun) (now : Int) (fP : ∀ x ∈ P,Fit x) (fb : Fit b) : f5_aiirrzai10rzi_j2 k now false nd nx S P b.Source b.Dest b.Seq b.Created b.Lifetime b.HopLimit b.Hops b.Priority b.Offset b.Total b.Payload = some (.o0 true) := by
 cases hok : okA nd nx S P
 case false =>
  have h := no_at k (by omega) nd nx S P b now fP hok
  simp only [f5_aiirrzai10rzi_j2,h,Option.bind_some,show ((290 : Int) != 0) = true from rfl,cond_true,show ((0 : Int) == 0) = true from rfl]
 obtain ⟨kind,vb,S',P',h,st⟩ := arrive_at k (by omega) nd nx S P b now fP fb hok
 obtain ⟨ok',fP',hk'⟩ := turn_ok hok fP fb st
 have hc := achk_at k (by omega) nd nx S' P' fP'
 rw [ok',cond_true] at hc
 rcases hk' with ⟨e1,e2,e3⟩ | ⟨e3,ob,he,hs⟩
 ·subst e1; subst e2
  obtain ⟨l1,l2⟩ := okA_len hok
  have hsm := psame_at k (by omega) nd nx nd nx S' S' P' P' (by omega) (by omega) (fun x hx => (fP x hx).2.1)
  have s4 : sameAg nd nx S' P' nd nx S' P' = true := by unfold sameAg; simp
  rw [s4] at hsm
  have c : (kind == 6) = false ∧ (kind == 8) = false ∧ (kind == 9) = false ∧ decide (kind < 1) = false ∧ decide (kind > 9) = false := by
   rcases e3 with e | e | e | e | e | e <;> subst e <;> decide
  obtain ⟨c1,c2,c3,c4,c5⟩ := c
  simp only [f5_aiirrzai10rzi_j2,f5_aiirrzai10rzi_j7,f5_aiirrzai10rzi_j8,f5_aiirrzai10rzi_j9,f5_aiirrzai10rzi_j10,h,hc,Option.bind_some,bne_self_eq_false,cond_false,c1,c2,c3,c4,c5,beq_self_eq_true,cond_true,hsm]
 ·have ha := again_at k (by omega) nd nx S' P' b now fP' ok' ob he hs
  rcases e3 with e | e | ⟨e,ev⟩
  ·subst e
   simp only [f5_aiirrzai10rzi_j2,f5_aiirrzai10rzi_j7,f5_aiirrzai10rzi_j8,f5_aiirrzai10rzi_j9,h,hc,ha,Option.bind_some,bne_self_eq_false,cond_false,show ((8 : Int) == 6) = false from rfl,show ((8 : Int) == 8) = true from rfl,show decide ((8 : Int) < 1) = false from rfl,show decide ((8 : Int) > 9) = false from rfl,beq_self_eq_true,cond_true]
  ·subst e
   simp only [f5_aiirrzai10rzi_j2,f5_aiirrzai10rzi_j7,f5_aiirrzai10rzi_j8,f5_aiirrzai10rzi_j9,h,hc,ha,Option.bind_some,bne_self_eq_false,cond_false,show ((9 : Int) == 6) = false from rfl,show ((9 : Int) == 8) = false from rfl,show decide ((9 : Int) < 1) = false from rfl,show decide ((9 : Int) > 9) = false from rfl,beq_self_eq_true,cond_true]
  ·subst e; subst ev
   have hq := eqb_at k (by omega) b.Payload b.Payload fb.2.1
   rw [decide_eq_true rfl] at hq
   simp only [f5_aiirrzai10rzi_j2,f5_aiirrzai10rzi_j7,f5_aiirrzai10rzi_j8,f5_aiirrzai10rzi_j9,h,hc,ha,hq,Option.bind_some,bne_self_eq_false,cond_false,Bool.not_true,show decide ((6 : Int) < 1) = false from rfl,show decide ((6 : Int) > 9) = false from rfl,beq_self_eq_true,cond_true]
theorem pureAgentOnce : StmtAgentOnce := by
 intro a b now ga gb gn
 refine ⟨60001,?_⟩
 obtain ⟨_,_,_,_,_,gP⟩ := ga
 obtain ⟨nd,nx,S,P⟩ := a
 simp only at gP ⊢
 have e7 : f7_ 60000 = some (.o0 true) := by simp only [f7_]; exact ifE_pos (by omega)
 have big := large_at 60000 (by omega) nd nx S P b
 cases hb1 : bigB S P b
 case true =>
  rw [hb1] at big
  show f5_aiirrzai10rzi 60001 nd nx S P b.Source b.Dest b.Seq b.Created b.Lifetime b.HopLimit b.Hops b.Priority b.Offset b.Total b.Payload now = some (.o0 true)
  simp only [f5_aiirrzai10rzi,f5_aiirrzai10rzi_e,f5_aiirrzai10rzi_j1,e7,Option.bind_some,Bool.not_true,cond_false,show T39.mk b.Source b.Dest b.Seq b.Created b.Lifetime b.HopLimit b.Hops b.Priority b.Offset b.Total b.Payload = b from rfl,big,cond_true]
 rw [hb1] at big
 unfold bigB at hb1
 simp only [Bool.or_eq_false_iff,decide_eq_false_iff_not] at hb1
 obtain ⟨b1,b2,b3⟩ := hb1
 have hpl : ∀ x ∈ P ++ [b],x.Payload.length ≤ 3000 := fun x hx => by
  have := List.any_eq_false.1 b3 x hx
  simp only [decide_eq_true_eq] at this
  omega
 have fit : ∀ x : Bun,GT39 x → x.Payload.length ≤ 3000 → Fit x := fun x gx hx => by
  obtain ⟨_,_,gs,_,_,_,_,_,_,_,_,_,gp⟩ := gx
  exact ⟨(wf_u32 gs).1,hx,fun y hy => wf_u8 (gp y hy)⟩
 have fP : ∀ x ∈ P,Fit x := fun x hx => fit x (gP x hx) (hpl x (List.mem_append_left _ hx))
 have fb : Fit b := fit b gb (hpl b (by simp))
 have f2 := end_j2 60000 (by omega) nd nx S P b now fP fb
 simp only [f5_aiirrzai10rzi,f5_aiirrzai10rzi_e,f5_aiirrzai10rzi_j1,e7,Option.bind_some,Bool.not_true,cond_false,show T39.mk b.Source b.Dest b.Seq b.Created b.Lifetime b.HopLimit b.Hops b.Priority b.Offset b.Total b.Payload = b from rfl,big,f2]
end Go.Proofs.YticggdfaehneeaaV