/- What an agent makes. -/
import Derived.Test.YticggdfaehneeaaVPOnce
namespace Go.Proofs.YticggdfaehneeaaV
open Go
set_option linter.unusedVariables false
set_option linter.unusedSimpArgs false
def wished (nd nx dest life limit prio now:Int) (load:List Int):Bun:=⟨nd,dest,nx,now,life,limit,0,prio,0,(load.length:Int),load⟩
def argsOk (nd dest part:Int) (b:Bun):Bool:=decide (1≤dest∧dest≤6)&&(!(dest==nd)&&(decide (1≤part∧part≤400)&&decide (okP b)))
theorem make_at (k:Nat) (hk:6000≤k) (nd nx:Int) (S:List Sn) (P:List Bun) (fP:∀ b∈P,Fit b) (hS:S.length≤300) (hP:P.length≤60) (dest life limit prio part now:Int) (load:List Int) :
 f9 k nd nx S P dest life limit prio part load now=some (cond (okA nd nx S P) (cond (argsOk nd dest part (wished nd nx dest life limit prio now load)) (cond (nx==4294967295) (.o0 0 0 [] [] 6 []) (.o1 nd (IntKind.u32.wrap (nx+1)) 0 S P (cutB (wished nd nx dest life limit prio now load) part.toNat))) (.o0 0 0 [] [] 2 [])) (.o0 0 0 [] [] 290 [])):=by
 obtain ⟨k,rfl⟩:∃ m,k=m+1:=⟨k - 1,by omega⟩
 have hc:=achk_at k (by omega) nd nx S P fP
 simp only [f9,f9_e,hc,Option.bind_some]
 cases okA nd nx S P
 ·simp only [cond_false,show ((290:Int) != 0)=true from rfl,cond_true]
 have w1:=awithin_at k (by omega) dest 1 6
 have w2:=awithin_at k (by omega) part 1 400
 have hb:f24 k nd dest nx now life limit 0 prio 0 (load.length:Int) load=some (.o0 (if okP (wished nd nx dest life limit prio now load) then 0 else 190)):=chk_at k (by omega) (wished nd nx dest life limit prio now load)
 have hcut:f25 k nd dest nx now life limit 0 prio 0 (load.length:Int) load part=some (if okP (wished nd nx dest life limit prio now load) then (if part<1 then .o0 2 [] else .o0 0 (cutB (wished nd nx dest life limit prio now load) part.toNat)) else .o0 190 []):=cut_at k (by omega) (wished nd nx dest life limit prio now load) part
 have ho:=own_at k (by omega) nd nx S P hS hP (fun b hb=>(fP b hb).2.1)
 simp only [cond_true,bne_self_eq_false,cond_false,f9_j1,w1,Option.bind_some,argsOk]
 by_cases a1:1≤dest∧dest≤6
 case neg=>simp only [decide_eq_false a1,Bool.not_false,cond_true,Bool.false_and,cond_false]
 simp only [decide_eq_true a1,Bool.not_true,cond_false,Bool.true_and]
 cases (dest==nd)
 case true=>simp only [cond_true,Bool.not_true,Bool.false_and,cond_false]
 simp only [cond_false,Bool.not_false,Bool.true_and,w2,Option.bind_some]
 by_cases a2:1≤part∧part≤400
 case neg=>simp only [decide_eq_false a2,Bool.not_false,cond_true,Bool.false_and,cond_false]
 by_cases a3:okP (wished nd nx dest life limit prio now load)
 case neg =>
  rw [if_neg a3] at hb
  simp only [decide_eq_true a2,Bool.not_true,cond_false,Bool.true_and,hb,Option.bind_some,decide_eq_false a3,show ((190:Int) != 0)=true from rfl,cond_true]
 rw [if_pos a3] at hb
 rw [if_pos a3,if_neg (by omega)] at hcut
 simp only [decide_eq_true a2,Bool.not_true,cond_false,Bool.true_and,hb,Option.bind_some,decide_eq_true a3,bne_self_eq_false,cond_true]
 cases (nx==4294967295)
 case true=>simp only [cond_true]
 simp only [cond_false,f9_j2,hcut,Option.bind_some,bne_self_eq_false,f9_j3,ho]
theorem cutS_len (b:Bun) (n:Nat) (hn:1≤n):∀ (f o:Nat),b.Payload.length≤o+f→o≤b.Payload.length→(cutS b n f o).length=(b.Payload.length - o+n - 1) / n
 | 0,o,h1,h2=>by
  have:b.Payload.length - o=0:=by omega
  rw [cutS,this,Nat.zero_add,List.length_nil]
  exact (Nat.div_eq_of_lt (by omega)).symm
 | f+1,o,h1,h2=>by
  rw [cutS]
  by_cases h:o<b.Payload.length
  ·rw [if_pos h,List.length_cons,cutS_len b n hn f _ (by omega) (by omega)]
   by_cases hm:n≤b.Payload.length - o
   ·rw [Nat.min_eq_left hm,show b.Payload.length - o+n - 1=(b.Payload.length - (o+n)+n - 1)+n by omega,Nat.add_div_right _ (by omega)]
   ·rw [Nat.min_eq_right (by omega),show b.Payload.length - (o+(b.Payload.length - o))+n - 1=n - 1 by omega,Nat.div_eq_of_lt (by omega),show b.Payload.length - o+n - 1=(b.Payload.length - o - 1)+n by omega,Nat.add_div_right _ (by omega),Nat.div_eq_of_lt (by omega)]
  ·rw [if_neg h]
   have:b.Payload.length - o=0:=by omega
   rw [this,Nat.zero_add,List.length_nil]
   exact (Nat.div_eq_of_lt (by omega)).symm
theorem cutB_len (b:Bun) (n:Nat) (hn:1≤n):(cutB b n).length=(b.Payload.length+n - 1) / n:=by
 unfold cutB;rw [cutS_len b n hn _ _ (by omega) (by omega)];rfl
end Go.Proofs.YticggdfaehneeaaV