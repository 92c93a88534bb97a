/- What was encoded is decoded,whatever stands behind it. -/
import Derived.Test.YtlelaenalbkbmaaDoorVPIt
import Derived.Test.YtlelaenalbkbmaaDoorVPFwd
namespace Go.Proofs.YtlelaenalbkbmaaDoorV
open Go
set_option linter.unusedVariables false
set_option linter.unusedSimpArgs false
theorem items_dec (n:Nat):∀ (l acc:List It) (s:List Int),(∀ y∈l,∀ s,dec n (encT n y++s)=.ok y (encT n y).length)→itemsD (dec n) l.length (l.flatMap (encT n)++s) acc=.ok ⟨4,0,[],acc++l⟩ (l.flatMap (encT n)).length
 | [],acc,s,_=>by simp [itemsD]
 | y::l,acc,s,h=>by
  rw [List.length_cons,itemsD,List.flatMap_cons,List.append_assoc,h y (by simp)]
  dsimp only
  rw [List.drop_left,items_dec n l (acc++[y]) s fun z hz=>h z (by simp [hz])]
  simp [addN]
theorem dec_enc (B:Nat):∀ (n:Nat) (x:It),mayT n x=true→Fit B x→∀ s,dec n (encT n x++s)=.ok x (encT n x).length
 | 0,x,h,_,s=>by simp [mayT] at h
 | n+1,x,h,hx,s=>by
  obtain ⟨⟨⟨p1,p2,p3,p4⟩,o2,o3,o4⟩,h2⟩:=may_parts h
  have hnum:=hx.top.num
  rw [encT]
  by_cases k1:x.Kind=1
  ·rw [if_pos k1]
   have e:((x.Num.toNat:Nat):Int)=x.Num:=by omega
   have:=dec_num n (n:=x.Num.toNat) (by omega) s
   rw [e] at this
   rw [this]
   congr 1
   exact it_ext' k1.symm rfl (List.eq_nil_of_length_eq_zero (p3 (.inl k1))).symm (List.eq_nil_of_length_eq_zero (p4 (by omega))).symm
  rw [if_neg k1]
  by_cases k4:x.Kind=4
  ·rw [if_pos k4,List.append_assoc,dec_hd n (.inr (.inr (.inr rfl))) (by omega),tailD,if_neg (by decide),if_pos rfl,if_neg (by omega),
    items_dec n x.Items [] s fun y hy s=>dec_enc B n y (h2 y hy) (hx.item hy) s]
   rw [addN,List.nil_append,List.length_append]
   congr 1
   exact it_ext' k4.symm (p2 k1).symm (List.eq_nil_of_length_eq_zero (p3 (.inr k4))).symm rfl
  rw [if_neg k4,List.append_assoc,dec_hd n (by omega) (by omega),tailD,if_neg (by omega),if_neg k4,if_neg (by omega),if_neg (by rw [List.length_append];omega),List.take_left]
  rw [if_neg (by rintro ⟨q1,q2⟩;rw [o4 q1] at q2;cases q2),addN,List.length_append]
  congr 1
  exact it_ext' rfl (p2 k1).symm rfl (List.eq_nil_of_length_eq_zero (p4 k4)).symm
theorem enc_inj {B:Nat} {x y:It} (hx:Fit B x) (hy:Fit B y) (h1:mayT 4 x=true) (h2:mayT 4 y=true) (h:encT 4 x=encT 4 y):x=y:=by
 have a:=dec_enc B 4 x h1 hx []
 have b:=dec_enc B 4 y h2 hy []
 rw [h,b] at a
 injection a with a1 a2
 exact a1.symm
end Go.Proofs.YtlelaenalbkbmaaDoorV