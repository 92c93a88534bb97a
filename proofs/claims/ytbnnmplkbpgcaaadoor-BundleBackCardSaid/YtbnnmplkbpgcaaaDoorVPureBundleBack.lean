/- The plain law of BundleBack. -/
import Derived.Test.YtbnnmplkbpgcaaaDoorVStmtBundleBack
import Derived.Test.YtbnnmplkbpgcaaaDoorVPBDec
namespace Go.Proofs.YtbnnmplkbpgcaaaDoorV
open Go Go.RowKit
set_option linter.unusedVariables false
set_option linter.unusedSimpArgs false
theorem samez_at (k:Nat) (hk:10≤k):f20a k 0 0 0 0 0 0 0 0 0 0 [] 0 0 0 0 0 0 0 0 0 0=some (.o0 true):=by
 obtain ⟨k,rfl⟩:∃ m,k=m+10:=⟨k - 10,by omega⟩
 rfl
theorem equal_at (k:Nat) (l1 l2:List Int) (hb:l1.length≤100000) (hk:l1.length+3≤k):f21 k l1 l2=some (.o0 (decide (l1=l2))):=by
 obtain ⟨k,rfl⟩:∃ m,k=m+1:=⟨k - 1,by omega⟩
 simp only [f21,f21_e,seq_at l1 l2 (by omega) k (by omega),Option.bind_some]
theorem back_raw (k:Nat) (hk:9100≤k) (raw:List Int) (hb:By raw) (hl:raw.length≤5000) :
 f7_j3 k raw false=some (.o0 true)∧∀ m:Bun,f7_j5 k raw [] false m.Source m.Dest m.Seq m.Created m.Lifetime m.HopLimit m.Hops m.Priority m.Offset m.Total m.Payload=some (.o0 true):=by
 have hd:=bdec_at k (by omega) raw hb hl
 have hz:=samez_at k (by omega)
 rcases bdS_cases raw hb with ⟨b,hok,_,hpb,hpl,hbr,h⟩ | h | h
 ·rw [h] at hd
  have he:=enc_at k (by omega) b (by omega) hpb
  rw [if_pos hok,hbr] at he
  have hq:=equal_at k raw raw (by omega) (by omega)
  rw [decide_eq_true rfl] at hq
  refine ⟨?_,fun m => ?_⟩
  ·simp only [f7_j3,hd,ofB,Option.bind_some,bne_self_eq_false,cond_false,f7_j4,he,beq_self_eq_true,cond_true,hq]
  ·simp only [f7_j5,hd,ofB,Option.bind_some,bne_self_eq_false,cond_false,f7_j4,he,beq_self_eq_true,cond_true,hq]
 ·rw [h] at hd
  refine ⟨?_,fun m => ?_⟩
  ·simp only [f7_j3,hd,noB,Option.bind_some,show ((190:Int) != 0)=true from rfl,cond_true,hz]
  ·simp only [f7_j5,hd,noB,Option.bind_some,show ((190:Int) != 0)=true from rfl,cond_true,hz]
 ·rw [h] at hd
  refine ⟨?_,fun m => ?_⟩
  ·simp only [f7_j3,hd,noB,Option.bind_some,show ((130:Int) != 0)=true from rfl,cond_true,hz]
  ·simp only [f7_j5,hd,noB,Option.bind_some,show ((130:Int) != 0)=true from rfl,cond_true,hz]
theorem bytesOf_by {b:Bun} (hb:By b.Payload):By (bytesOf b):=by
 have h1:By (seal16B (headOf b)):=fun x hx=>by
  rcases List.mem_append.1 hx with h | h
  ·exact headOf_range b x h
  ·exact leB_byte _ _ x h
 have h2:By (seal32B b.Payload):=fun x hx=>by
  rcases List.mem_append.1 hx with h | h
  ·exact hb x h
  ·exact leB_byte _ _ x h
 intro x hx
 unfold bytesOf at hx
 simp only [List.mem_append] at hx
 rcases hx with ((h | h | h) | h) | h | h
 ·exact hd_range _ _ x h
 ·exact hd_range _ _ x h
 ·exact h1 x h
 ·exact hd_range _ _ x h
 ·exact hd_range _ _ x h
 ·exact h2 x h
theorem pureBundleBack:StmtBundleBack:=by
 intro b raw g gr
 refine ⟨60001,?_⟩
 obtain ⟨_,_,gs,_,_,_,_,_,_,_,_,_,gp⟩:=g
 have hs:=wf_u32 gs
 have hb:By b.Payload:=fun x hx=>wf_u8 (gp x hx)
 have hr:By raw:=fun x hx=>wf_u8 (gr.2.2 x hx)
 have e9:f9 60000=some (.o0 true):=by simp only [f9];exact ifE_pos (by omega)
 by_cases hp:(b.Payload.length:Int)>5000
 ·simp only [f7,f7_e,f7_j1,e9,Option.bind_some,Bool.not_true,cond_false,decide_eq_true hp,cond_true]
 by_cases hl:(raw.length:Int)>5000
 ·simp only [f7,f7_e,f7_j1,e9,Option.bind_some,Bool.not_true,cond_false,decide_eq_false hp,decide_eq_true hl,cond_true]
 have he:=enc_at 60000 (by omega) b (by omega) hb
 obtain ⟨h3,h5⟩:=back_raw 60000 (by omega) raw hr (by omega)
 by_cases hok:okP b
 ·rw [if_pos hok] at he
  have hlen:=bytesOf_len hok
  have hd:=bdec_at 60000 (by omega) (bytesOf b) (bytesOf_by hb) (by omega)
  rw [bdS_bytes hok hs.2] at hd
  have hsm:=same_at 60000 b b (by omega) (by omega)
  rw [decide_eq_true rfl] at hsm
  simp only [f7,f7_e,f7_j1,e9,Option.bind_some,Bool.not_true,cond_false,decide_eq_false hp,decide_eq_false hl,f7_j2,he,beq_self_eq_true,cond_true,hd,ofB,bne_self_eq_false,hsm,h3]
 ·rw [if_neg hok] at he
  simp only [f7,f7_e,f7_j1,e9,Option.bind_some,Bool.not_true,cond_false,decide_eq_false hp,decide_eq_false hl,f7_j2,he,show ((190:Int)==0)=false from rfl,h5 b]
end Go.Proofs.YtbnnmplkbpgcaaaDoorV