/- The plain law of AgentMakes. -/
import Derived.Test.YticggdfaehneeaaVStmtAgentMakes
import Derived.Test.YticggdfaehneeaaVPMake
namespace Go.Proofs.YticggdfaehneeaaV
open Go Go.RowKit
set_option linter.unusedVariables false
set_option linter.unusedSimpArgs false
theorem made_l (k : Nat) (hk : 5000 ≤ k) (W : Bun) (hW : okP W) (h0 : W.Offset = 0) (part : Int) (hp : 1 ≤ part ∧ part ≤ 400) (L : List Bun) (hL : L.length ≤ 1000) (e nd nx dest life limit prio c1 c2 : Int) (S c3 : List Sn) (P c4 : List Bun) : ∀ (f o i m : Nat),o < W.Payload.length → W.Payload.length ≤ o + f → L.drop i = cutS W part.toNat f o → f < m →
  ∃ i' : Int,f3_aiirrzai5zr_l12 k m W.Payload e o L.length i nd nx S P dest life limit prio part c1 c2 c3 c4 L W.Source W.Dest W.Seq W.Created W.Lifetime W.HopLimit W.Hops W.Priority W.Offset W.Total W.Payload = some (.o1 W.Payload e W.Payload.length L.length i' true nd nx S P dest life limit prio part c1 c2 c3 c4 L W.Source W.Dest W.Seq W.Created W.Lifetime W.HopLimit W.Hops W.Priority W.Offset W.Total W.Payload) := by
 have bb := hW.b
 intro f
 induction f with
 | zero => intro o i m ho hf; omega
 | succ f ih =>
  intro o i m ho hf hd hm
  obtain ⟨m,rfl⟩ : ∃ z,m = z + 1 := ⟨m - 1,by omega⟩
  rw [cutS,if_pos ho] at hd
  obtain ⟨mm,hmm⟩ : ∃ mm,mm = min part.toNat (W.Payload.length - o) := ⟨_,rfl⟩
  rw [← hmm] at hd
  have m1 : 1 ≤ mm := by omega
  have m2 : o + mm ≤ W.Payload.length := by omega
  have g1 : L[i]? = some (piece W o mm) := by
   have := congrArg (fun l => l[0]?) hd
   simpa using this
  have d1 : L.drop (i + 1) = cutS W part.toNat f (o + mm) := by
   have := congrArg (fun l => l.drop 1) hd
   simpa [List.drop_drop,Nat.add_comm] using this
  have h1 : i < L.length := (List.getElem?_eq_some_iff.1 g1).1
  have hlt : ((i : Int) < (L.length : Int)) := by omega
  have hw := nextN h1 (by omega)
  have hadd : IntKind.i64.wrap ((o : Int) + part) = (o : Int) + part := wrap_i64 (by omega) (by omega)
  have hif : (if ((W.Payload.length : Nat) : Int) < (o : Int) + part then ((W.Payload.length : Nat) : Int) else (o : Int) + part) = ((o + mm : Nat) : Int) := by split <;> omega
  have hlen : (List.drop o (List.take (o + mm) W.Payload)).length = mm := by rw [List.length_drop,List.length_take]; omega
  have hs : f14_ai10rzai10rz k (piece W o mm).Source (piece W o mm).Dest (piece W o mm).Seq (piece W o mm).Created (piece W o mm).Lifetime (piece W o mm).HopLimit (piece W o mm).Hops (piece W o mm).Priority (piece W o mm).Offset (piece W o mm).Total (piece W o mm).Payload W.Source W.Dest W.Seq W.Created W.Lifetime W.HopLimit W.Hops W.Priority (o : Int) W.Total (List.drop o (List.take (o + mm) W.Payload)) = some (.o0 true) := by
   have q := rsame_at k (piece W o mm) { W with Offset := (o : Int),Payload := List.drop o (List.take (o + mm) W.Payload) } (by rw [piece_len m2]; omega) (by rw [piece_len m2]; omega)
   have e1 : piece W o mm = { W with Offset := (o : Int),Payload := List.drop o (List.take (o + mm) W.Payload) } := by
    unfold piece
    rw [h0,Int.zero_add,List.take_drop]
   rw [decide_eq_true e1] at q
   exact q
  have hat : IntKind.i64.wrap ((o : Int) + ((List.drop o (List.take (o + mm) W.Payload)).length : Int)) = ((o + mm : Nat) : Int) := by rw [hlen,wrap_i64 (by omega) (by omega)]; rfl
  simp only [f3_aiirrzai5zr_l12,f3_aiirrzai5zr_l12_b,f3_aiirrzai5zr_l12_j1,f3_aiirrzai5zr_l12_j2,decide_eq_true hlt,cond_true,ifE_pos (show (0 : Int) ≤ i by omega),ifE_pos hlt,Int.toNat_natCast,g1,Option.bind_some,ifE_pos (show (0 : Int) ≤ o by omega),hadd,hif,ifE_pos (show (0 : Int) ≤ ((o + mm : Nat) : Int) by omega),ifE_pos (show o ≤ o + mm by omega),ifE_pos m2,hs,Bool.not_true,cond_false,hat]
  by_cases hend : o + mm = W.Payload.length
  ·rw [hend]
   simp only [beq_self_eq_true,cond_true,Option.bind_some]
   exact ⟨_,rfl⟩
  ·have hne : (((o + mm : Nat) : Int) == ((W.Payload.length : Nat) : Int)) = false := by rw [beq_eq_false_iff_ne]; omega
   simp only [hne,cond_false,f3_aiirrzai5zr_l12_j3,Option.bind_some,hw]
   exact ih (o + mm) (i + 1) m (by omega) (by omega) d1 (by omega)
theorem pureAgentMakes : StmtAgentMakes := by
 intro a w load ga gw gl
 refine ⟨60001,?_⟩
 obtain ⟨_,gx,_,_,_,gP⟩ := ga
 have hx := wf_u32 gx
 obtain ⟨nd,nx,S,P⟩ := a
 obtain ⟨dest,life,limit,prio,part⟩ := w
 simp only at gP hx ⊢
 have e7 : f7_ 60000 = some (.o0 true) := by simp only [f7_]; exact ifE_pos (by omega)
 have hbig := large_at 60000 (by omega) nd nx S P
 cases hbb : bigB S P
 case true =>
  rw [hbb] at hbig
  simp only [f3_aiirrzai5zr,f3_aiirrzai5zr_e,f3_aiirrzai5zr_j1,e7,Option.bind_some,Bool.not_true,cond_false,hbig,cond_true]
 rw [hbb] at hbig
 unfold bigB at hbb
 simp only [Bool.or_eq_false_iff,decide_eq_false_iff_not] at hbb
 obtain ⟨b1,b2,b3⟩ := hbb
 have hS : S.length ≤ 300 := by omega
 have hP : P.length ≤ 60 := by omega
 have hpl : ∀ b ∈ P,b.Payload.length ≤ 3000 := fun b hb => by
  have := List.any_eq_false.1 b3 b hb
  simp only [decide_eq_true_eq] at this
  omega
 have fP : ∀ b ∈ P,Fit b := fun b hb => by
  obtain ⟨_,_,gs,_,_,_,_,_,_,_,_,_,gp⟩ := gP b hb
  exact ⟨(wf_u32 gs).1,hpl b hb,fun x hx => wf_u8 (gp x hx)⟩
 by_cases hl : (load.length : Int) > 3000
 ·simp only [f3_aiirrzai5zr,f3_aiirrzai5zr_e,f3_aiirrzai5zr_j1,e7,Option.bind_some,Bool.not_true,cond_false,hbig,decide_eq_true hl,cond_true]
 have hcp := copied_at 60000 (by omega) nd nx S P hS hP hpl
 obtain ⟨now,hnow⟩ : ∃ now,now = IntKind.i64.wrap (prio * 7) := ⟨_,rfl⟩
 have hm := make_at 60000 (by omega) nd nx S P fP hS hP dest life limit prio part now load
 have hri := aright_at 60000 (by omega) nd nx S P fP
 have hno : ∀ e : Int,f12_aiirrzii 60000 0 0 [] [] e e = some (.o0 true) := fun e => by rw [none_at 60000 (by omega),beq_self_eq_true]
 have hz : (((([] : List Bun).length : Nat) : Int) == 0) = true := rfl
 cases hok : okA nd nx S P
 case false =>
  rw [hok] at hm hri
  simp only [cond_false] at hm
  simp only [f3_aiirrzai5zr,f3_aiirrzai5zr_e,f3_aiirrzai5zr_j1,f3_aiirrzai5zr_j2,e7,Option.bind_some,Bool.not_true,Bool.not_false,cond_false,hbig,decide_eq_false hl,hcp,← hnow,hm,hri,cond_true,hno,hz]
 rw [hok] at hm hri
 simp only [cond_true] at hm
 obtain ⟨W,hWd⟩ : ∃ W,W = wished nd nx dest life limit prio now load := ⟨_,rfl⟩
 rw [← hWd] at hm
 have hrb : f13_ai10rz 60000 nd dest nx now life limit 0 prio 0 (load.length : Int) load = some (.o0 (decide (okP W))) := by
  rw [hWd]
  exact right_at 60000 (by omega) (wished nd nx dest life limit prio now load) hx.1
 have hargs : argsOk nd dest part W = (decide (1 ≤ dest ∧ dest ≤ 6) && (!(dest == nd) && (decide (1 ≤ part ∧ part ≤ 400) && decide (okP W)))) := rfl
 cases hao : argsOk nd dest part W
 case false =>
  rw [hao] at hm
  simp only [cond_false] at hm
  rw [hargs] at hao
  simp only [f3_aiirrzai5zr,f3_aiirrzai5zr_e,f3_aiirrzai5zr_j1,f3_aiirrzai5zr_j2,e7,Option.bind_some,Bool.not_true,cond_false,hbig,decide_eq_false hl,hcp,← hnow,hm,hri,f3_aiirrzai5zr_j3,hno,hz,cond_true,hrb]
  by_cases q1 : dest < 1
  ·simp only [decide_eq_true q1,cond_true]
  by_cases q2 : dest > 6
  ·simp only [decide_eq_false q1,decide_eq_true q2,cond_true,cond_false]
  rw [decide_eq_true (show 1 ≤ dest ∧ dest ≤ 6 by omega),Bool.true_and] at hao
  cases q3 : (dest == nd)
  case true => simp only [decide_eq_false q1,decide_eq_false q2,cond_true,cond_false]
  rw [q3,Bool.not_false,Bool.true_and] at hao
  by_cases q4 : part < 1
  ·simp only [decide_eq_false q1,decide_eq_false q2,decide_eq_true q4,cond_true,cond_false]
  by_cases q5 : part > 400
  ·simp only [decide_eq_false q1,decide_eq_false q2,decide_eq_false q4,decide_eq_true q5,cond_true,cond_false]
  rw [decide_eq_true (show 1 ≤ part ∧ part ≤ 400 by omega),Bool.true_and] at hao
  simp only [decide_eq_false q1,decide_eq_false q2,decide_eq_false q4,decide_eq_false q5,cond_true,cond_false,hao,Bool.not_false]
 rw [hao] at hm
 simp only [cond_true] at hm
 rw [hargs] at hao
 simp only [Bool.and_eq_true,decide_eq_true_iff,Bool.not_eq_true'] at hao
 obtain ⟨a1,a2,a3,a4⟩ := hao
 rw [decide_eq_true a4] at hrb
 have q1 := decide_eq_false (show ¬ dest < 1 by omega)
 have q2 := decide_eq_false (show ¬ dest > 6 by omega)
 have q4 := decide_eq_false (show ¬ part < 1 by omega)
 have q5 := decide_eq_false (show ¬ part > 400 by omega)
 cases hlast : (nx == 4294967295)
 case true =>
  rw [hlast] at hm
  simp only [cond_true] at hm
  simp only [f3_aiirrzai5zr,f3_aiirrzai5zr_e,f3_aiirrzai5zr_j1,f3_aiirrzai5zr_j2,e7,Option.bind_some,Bool.not_true,cond_false,hbig,decide_eq_false hl,hcp,← hnow,hm,hri,f3_aiirrzai5zr_j3,hno,hz,cond_true,hrb,q1,q2,a2,q4,q5,f3_aiirrzai5zr_j4,hlast]
 rw [hlast] at hm
 simp only [cond_false] at hm
 have Wb := a4.b
 have hWl : W.Payload = load := by rw [hWd]; rfl
 have hll : load.length = W.Payload.length := by rw [hWl]
 have hpn : 1 ≤ part.toNat := by omega
 have hcl := cutB_len W part.toNat hpn
 have hcb : (cutB W part.toNat).length ≤ 1000 := by
  rw [hcl]
  have := Nat.div_le_self (W.Payload.length + part.toNat - 1) part.toNat
  omega
 obtain ⟨i',hloop⟩ := made_l 60000 (by omega) W a4 (by rw [hWd]; rfl) part a3 (cutB W part.toNat) hcb 0 nd nx dest life limit prio nd (IntKind.u32.wrap (nx + 1)) S S P P W.Payload.length 0 0 60000 (by omega) (by omega) (by rw [List.drop_zero]; rfl) (by omega)
 have hloop' : f3_aiirrzai5zr_l12 60000 60000 load 0 0 (cutB W part.toNat).length 0 nd nx S P dest life limit prio part nd (IntKind.u32.wrap (nx + 1)) S P (cutB W part.toNat) nd dest nx now life limit 0 prio 0 (load.length : Int) load = some (.o1 load 0 load.length (cutB W part.toNat).length i' true nd nx S P dest life limit prio part nd (IntKind.u32.wrap (nx + 1)) S P (cutB W part.toNat) nd dest nx now life limit 0 prio 0 (load.length : Int) load) := by
  subst hWd
  exact hloop
 have hsame := asame_at 60000 (by omega) nd (IntKind.u32.wrap (nx + 1)) S P hS hP hpl
 have hcount : (((cutB W part.toNat).length : Nat) : Int) = IntKind.i64.wrap (Int.tdiv (IntKind.i64.wrap (IntKind.i64.wrap ((load.length : Int) + part) - (1 : Int))) part) := by
  rw [hcl,hll]
  have e1 : IntKind.i64.wrap (((W.Payload.length : Nat) : Int) + part) = ((W.Payload.length : Nat) : Int) + part := wrap_i64 (by omega) (by omega)
  have e2 : IntKind.i64.wrap (((W.Payload.length : Nat) : Int) + part - 1) = ((W.Payload.length + part.toNat - 1 : Nat) : Int) := by rw [wrap_i64 (by omega) (by omega)]; omega
  rw [e1,e2]
  have e3 : Int.tdiv ((W.Payload.length + part.toNat - 1 : Nat) : Int) part = (((W.Payload.length + part.toNat - 1) / part.toNat : Nat) : Int) := by
   have : part = ((part.toNat : Nat) : Int) := by omega
   rw [this]
   rfl
  rw [e3]
  have := Nat.div_le_self (W.Payload.length + part.toNat - 1) part.toNat
  rw [wrap_i64 (by omega) (by omega)]
 have hbeq : ((((cutB W part.toNat).length : Nat) : Int) == IntKind.i64.wrap (Int.tdiv (IntKind.i64.wrap (IntKind.i64.wrap ((load.length : Int) + part) - (1 : Int))) part)) = true := by rw [← hcount]; exact beq_self_eq_true _
 simp only [f3_aiirrzai5zr,f3_aiirrzai5zr_e,f3_aiirrzai5zr_j1,f3_aiirrzai5zr_j2,e7,Option.bind_some,Bool.not_true,cond_false,hbig,decide_eq_false hl,hcp,← hnow,hm,hri,f3_aiirrzai5zr_j9,cond_true,hrb,q1,q2,a2,q4,q5,f3_aiirrzai5zr_j10,hlast,f3_aiirrzai5zr_j11,hloop',f3_aiirrzai5zr_j13,beq_self_eq_true,ifE_pos (show ¬ part = 0 by omega),hbeq,hsame]
end Go.Proofs.YticggdfaehneeaaV
