/- The plain law of CborAgain. -/
import Derived.Test.YtlelaenalbkbmaaDoorVStmtCborAgain
import Derived.Test.YtlelaenalbkbmaaDoorVPAgain
namespace Go.Proofs.YtlelaenalbkbmaaDoorV
open Go Go.RowKit
set_option linter.unusedVariables false
set_option linter.unusedSimpArgs false
theorem seq_loop (l1 l2:List Int) (hb:l1.length<4611686018427387904) (h:l1=l2) (k:Nat):∀ (d i n:Nat),i+d=l1.length→d<n →
 f33_l2 k n l1 l2 l1.length i=some (.o2 l1 l2 l1.length l1.length false):=by
 subst h
 intro d
 induction d with
 | zero =>
  intro i n hi hn
  obtain ⟨n,rfl⟩:∃ m,n=m+1:=⟨n - 1,by omega⟩
  have e:i=l1.length:=by omega
  subst e
  simp only [f33_l2,f33_l2_b,decide_eq_false (Int.lt_irrefl _),cond_false,Option.bind_some]
 | succ d ih =>
  intro i n hi hn
  obtain ⟨n,rfl⟩:∃ m,n=m+1:=⟨n - 1,by omega⟩
  have h1:i<l1.length:=by omega
  have g1:l1[i]?=some l1[i]:=List.getElem?_eq_getElem h1
  have ih':=ih (i+1) n (by omega) (by omega)
  simp only [f33_l2,f33_l2_b,decide_eq_true (show (i:Int)<(l1.length:Int) by omega),cond_true,f33_l2_j1,ifE_pos (show (0:Int)≤(i:Int) by omega),Int.toNat_natCast,g1,Option.bind_some,bne_self_eq_false,cond_false,f33_l2_j2,nextN h1 (by omega),ih']
theorem equal_refl (k:Nat) (l:List Int) (hl:l.length≤100000) (hk:l.length+4≤k):f21 k l l=some (.o0 true):=by
 obtain ⟨k,rfl⟩:∃ m,k=m+2:=⟨k - 2,by omega⟩
 have h:=seq_loop l l (by omega) rfl k l.length 0 k (by omega) (by omega)
 rw [Int.natCast_zero] at h
 simp only [f21,f21_e,f33,f33_e,bne_self_eq_false,cond_false,f33_j1,h,Option.bind_some,f33_j3]
theorem pureCborAgain:StmtCborAgain:=by
 intro b g
 refine ⟨120001,?_⟩
 have hb:By b:=fun x hx=>wf_u8 (g.2.2 x hx)
 have e7:f8 120000=some (.o0 true):=by simp only [f8];exact ifE_pos (by omega)
 by_cases hl:(b.length:Int)>50000
 ·simp only [f6,f6_e,f6_j1,e7,Option.bind_some,Bool.not_true,cond_false,decide_eq_true hl,cond_true]
 have hd:=cdec_at 120000 (by omega) b hb (by omega)
 cases hx:dec 4 b with
 | err e =>
  rw [hx] at hd
  have hne:(e != 0)=true:=by
   obtain ⟨R,_,hR⟩:=get_at 4 700 (by omega) (by omega) b hb (by omega) 0 (by omega)
   rw [List.drop_zero,hx] at hR
   rcases hR.1 with h | h<;>rw [h]<;>rfl
  have hs:f11 120000 0 0 [] [] 0 0=some (.o0 true):=rfl
  simp only [f6,f6_e,f6_j1,e7,Option.bind_some,Bool.not_true,cond_false,decide_eq_false hl,f6_j2,hd,hne,cond_true,beq_self_eq_true,hs]
 | ok x n =>
  rw [hx] at hd
  obtain ⟨hn,he⟩:=cenc_dec 120000 (by omega) b hb (by omega) x n hx
  have hq:=equal_refl 120000 (b.take n) (by simp;omega) (by simp;omega)
  simp only [f6,f6_e,f6_j1,e7,Option.bind_some,Bool.not_true,cond_false,decide_eq_false hl,f6_j2,hd,bne_self_eq_false,f6_j3,he,beq_self_eq_true,cond_true,ifE_pos (show (0:Int)≤(n:Int) by omega),Int.toNat_natCast,ifE_pos hn,hq]
end Go.Proofs.YtlelaenalbkbmaaDoorV