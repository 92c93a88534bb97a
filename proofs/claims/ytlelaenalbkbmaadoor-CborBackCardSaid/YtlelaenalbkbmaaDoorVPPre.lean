/- Of each beginning of an item's bytes the decoder says that it is too short. -/
import Derived.Test.YtlelaenalbkbmaaDoorVPInj
namespace Go.Proofs.YtlelaenalbkbmaaDoorV
open Go
set_option linter.unusedVariables false
set_option linter.unusedSimpArgs false
theorem argD_pre {low:Int} {r s:List Int} {n:Nat} (h:argD low (r++s)=.ok n r.length) {j:Nat} (hj:j<r.length):argD low (r.take j)=.err 7:=by
 rw [argD] at h ⊢
 by_cases h1:low<24
 ·rw [if_pos h1] at h
  injection h with _ h2
  omega
 ·rw [if_neg h1] at h ⊢
  by_cases h2:(r++s).length<2 ^ (low - 24).toNat
  ·rw [if_pos h2] at h;cases h
  ·rw [if_neg h2] at h
   split at h
   ·injection h with _ h3
    rw [if_pos (by rw [List.length_take];omega)]
   ·cases h
theorem dec_hd_pre (left:Nat) {t:Int} (ht:t=0∨t=2∨t=3∨t=4) {n:Nat} (hn:n<18446744073709551616) {m:Nat} (hm:m<(hd t n).length):dec (left+1) ((hd t n).take m)=.err 7:=by
 obtain ⟨f,r,h1,h2,h3,h4,h5⟩:=hd_arg ht hn []
 rw [h1] at hm ⊢
 cases m with
 | zero=>rfl
 | succ m =>
  rw [List.length_cons] at hm
  rw [List.take_succ_cons,dec,bodyD,if_neg (by omega),argD_pre h5 (by omega)]
theorem items_pre (n:Nat):∀ (l acc:List It) (m:Nat),(∀ y∈l,(∀ s,dec n (encT n y++s)=.ok y (encT n y).length)∧∀ m,m<(encT n y).length→dec n ((encT n y).take m)=.err 7)→m<(l.flatMap (encT n)).length→itemsD (dec n) l.length ((l.flatMap (encT n)).take m) acc=.err 7
 | [],acc,m,_,hm=>by simp at hm
 | y::l,acc,m,h,hm=>by
  obtain ⟨h1,h2⟩:=h y (by simp)
  rw [List.flatMap_cons,List.length_append] at hm
  rw [List.length_cons,itemsD,List.flatMap_cons]
  by_cases hlt:m<(encT n y).length
  ·rw [List.take_append_of_le_length (by omega),h2 m hlt]
  ·have e:(encT n y++l.flatMap (encT n)).take m=encT n y++(l.flatMap (encT n)).take (m - (encT n y).length):=by
    rw [List.take_append,List.take_of_length_le (by omega)]
   rw [e,h1]
   dsimp only
   rw [List.drop_left,items_pre n l (acc++[y]) (m - (encT n y).length) (fun z hz=>h z (by simp [hz])) (by omega)]
   rfl
theorem dec_pre (B:Nat):∀ (n:Nat) (x:It),mayT n x=true→Fit B x→∀ m,m<(encT n x).length→dec n ((encT n x).take m)=.err 7
 | 0,x,h,_,m,hm=>by simp [mayT] at h
 | n+1,x,h,hx,m,hm=>by
  obtain ⟨⟨⟨p1,p2,p3,p4⟩,o2,o3,o4⟩,h2⟩:=may_parts h
  have hnum:=hx.top.num
  have key:∀ (t:Int) (v:Nat) (w:List Int),(t=0∨t=2∨t=3∨t=4)→v<18446744073709551616→m<(hd t v++w).length→(∀ j,j<w.length→tailD (dec n) t v (w.take j)=.err 7)→dec (n+1) ((hd t v++w).take m)=.err 7:=by
   intro t v w ht hv hm hw
   rw [List.length_append] at hm
   by_cases hlt:m<(hd t v).length
   ·rw [List.take_append_of_le_length (by omega)]
    exact dec_hd_pre n ht hv hlt
   ·have e:(hd t v++w).take m=hd t v++w.take (m - (hd t v).length):=by
     rw [List.take_append,List.take_of_length_le (by omega)]
    rw [e,dec_hd n ht hv,hw _ (by omega)]
    rfl
  rw [encT] at hm ⊢
  by_cases k1:x.Kind=1
  ·rw [if_pos k1] at hm ⊢
   have e:((x.Num.toNat:Nat):Int)=x.Num:=by omega
   rw [←e] at hm ⊢
   exact dec_hd_pre n (.inl rfl) (by omega) hm
  rw [if_neg k1] at hm ⊢
  by_cases k4:x.Kind=4
  ·rw [if_pos k4] at hm ⊢
   refine key 4 x.Items.length _ (.inr (.inr (.inr rfl))) (by omega) hm fun j hj => ?_
   rw [tailD,if_neg (by decide),if_pos rfl,if_neg (by omega)]
   exact items_pre n x.Items [] j (fun y hy=>⟨fun s=>dec_enc B n y (h2 y hy) (hx.item hy) s,fun m hm=>dec_pre B n y (h2 y hy) (hx.item hy) m hm⟩) hj
  ·rw [if_neg k4] at hm ⊢
   refine key x.Kind x.Bytes.length _ (by omega) (by omega) hm fun j hj => ?_
   rw [tailD,if_neg (by omega),if_neg k4,if_neg (by omega),if_pos (by rw [List.length_take];omega)]
theorem u8_in (n:Int):0≤IntKind.u8.wrap n∧IntKind.u8.wrap n<256:=by rw [IntKind.wrap_u8];omega
theorem beL_by (x:Int):∀ j,By (beL x j)
 | 0=>fun y hy=>by cases hy
 | j+1=>fun y hy=>by
  rw [beL] at hy
  rcases List.mem_cons.1 hy with rfl | hy
  ·exact u8_in _
  ·exact beL_by x j y hy
theorem hd_by (t n:Int):By (hd t n):=by
 have cons:∀ (a:Int) (l:List Int),(0≤a∧a<256)→By l→By (a::l):=fun a l h1 h2 y hy=>by
  rcases List.mem_cons.1 hy with rfl | hy
  ·exact h1
  ·exact h2 y hy
 have nilB:By []:=fun y hy=>by cases hy
 unfold hd or8
 cases decide (n<24)<;>cases decide (n<256)<;>cases decide (n<65536)<;>cases decide (n<4294967296)<;>simp only [cond_true,cond_false]<;>
  first
   | exact cons _ _ (u8_in _) (beL_by _ _)
   | exact cons _ _ (u8_in _) nilB
   | exact cons _ _ (u8_in _) (cons _ _ (u8_in _) nilB)
theorem By.app {a b:List Int} (h1:By a) (h2:By b):By (a++b):=fun x hx=>(List.mem_append.1 hx).elim (h1 x) (h2 x)
theorem enc_by (B:Nat):∀ (n:Nat) (x:It),Fit B x→By (encT n x)
 | 0,x,_=>fun y hy=>by cases hy
 | n+1,x,hx=>by
  rw [encT]
  split
  ·exact hd_by _ _
  ·split
   ·refine (hd_by _ _).app fun y hy => ?_
    obtain ⟨z,hz,hy⟩:=List.mem_flatMap.1 hy
    exact enc_by B n z (hx.item hz) y hy
   ·exact (hd_by _ _).app hx.top.by'
theorem hd_pos (t n:Int):1≤(hd t n).length:=by
 unfold hd
 cases decide (n<24)<;>cases decide (n<256)<;>cases decide (n<65536)<;>cases decide (n<4294967296)<;>simp
theorem enc_pos (n:Nat) (x:It):1≤(encT (n+1) x).length:=by
 rw [encT]
 split
 ·exact hd_pos _ _
 ·split
  ·have:=hd_pos 4 (x.Items.length:Nat);rw [List.length_append];omega
  ·have:=hd_pos x.Kind (x.Bytes.length:Nat);rw [List.length_append];omega
end Go.Proofs.YtlelaenalbkbmaaDoorV