/- utf8.Valid answers something,the same whatever the rounds. -/
import Derived.Test.YtlelaenalbkbmaaDoorVPWords
import Derived.Test.YtlelaenalbkbmaaDoorVP8
namespace Go.Proofs.YtlelaenalbkbmaaDoorV
open Go
set_option linter.unusedVariables false
set_option linter.unusedSimpArgs false
def By (l:List Int):Prop:=∀ x∈l,0≤x∧x<256
theorem By.drop {l:List Int} (h:By l) (n:Nat):By (l.drop n):=fun x hx=>h x (List.mem_of_mem_drop hx)
theorem By.take {l:List Int} (h:By l) (n:Nat):By (l.take n):=fun x hx=>h x (List.mem_of_mem_take hx)
theorem word_ex (k:Nat) (hk:1≤k) (x:List Int) (h:8≤x.length):∃ v,f47 k x=some (.o0 v):=by
 obtain ⟨k,rfl⟩:∃ m,k=m+1:=⟨k - 1,by omega⟩
 simp only [f47,f47_e,f47_j1,List.getElem?_eq_getElem (show 0<x.length by omega),List.getElem?_eq_getElem (show 1<x.length by omega),List.getElem?_eq_getElem (show 2<x.length by omega),List.getElem?_eq_getElem (show 3<x.length by omega),List.getElem?_eq_getElem (show 4<x.length by omega),List.getElem?_eq_getElem (show 5<x.length by omega),List.getElem?_eq_getElem (show 6<x.length by omega),List.getElem?_eq_getElem (show 7<x.length by omega),Option.bind_some]
 exact ⟨_,rfl⟩
theorem val_l2 (k:Nat) (hk:1≤k):∀ (d n:Nat) (x:List Int),x.length≤d→d<n→∃ y,y <:+ x∧f38_l1_l2 k n x=some (.o1 y false):=by
 intro d
 induction d with
 | zero =>
  intro n x hd hn
  obtain ⟨n,rfl⟩:∃ m,n=m+1:=⟨n - 1,by omega⟩
  exact ⟨x,List.suffix_refl x,by simp only [f38_l1_l2,f38_l1_l2_b,decide_eq_false (show ¬(x.length:Int)>32 by omega),cond_false,Option.bind_some]⟩
 | succ d ih =>
  intro n x hd hn
  obtain ⟨n,rfl⟩:∃ m,n=m+1:=⟨n - 1,by omega⟩
  by_cases h:(x.length:Int)>32
  ·obtain ⟨w1,e1⟩:=word_ex k hk x (by omega)
   obtain ⟨w2,e2⟩:=word_ex k hk (x.drop 8) (by simp;omega)
   obtain ⟨w3,e3⟩:=word_ex k hk (x.drop 16) (by simp;omega)
   obtain ⟨w4,e4⟩:=word_ex k hk (x.drop 24) (by simp;omega)
   obtain ⟨y,y1,y2⟩:=ih n (x.drop 32) (by simp;omega) (by omega)
   have hb:f38_l1_l2_b k x=some (.o1 x false)∨f38_l1_l2_b k x=some (.o0 (x.drop 32)):=by
    simp only [f38_l1_l2_b,decide_eq_true h,cond_true,List.take_length,e1,e2,e3,e4,Option.bind_some,ifE_pos (show 8≤x.length by omega),ifE_pos (show 16≤x.length by omega),ifE_pos (show 24≤x.length by omega),f38_l1_l2_j1,ifE_pos (show 32≤x.length by omega)]
    generalize (IntKind.u64.wrap _==(0:Int))=c
    cases c
    ·exact .inl rfl
    ·exact .inr rfl
   rcases hb with hb | hb
   ·exact ⟨x,List.suffix_refl x,by simp only [f38_l1_l2,hb,Option.bind_some]⟩
   ·exact ⟨y,y1.trans (List.drop_suffix 32 x),by simp only [f38_l1_l2,hb,Option.bind_some,y2]⟩
  ·exact ⟨x,List.suffix_refl x,by simp only [f38_l1_l2,f38_l1_l2_b,decide_eq_false h,cond_false,Option.bind_some]⟩
def GV (x:List Int) (o:Option R38_l1):Prop:=(∃ v,o=some (.o3 v))∨∃ y,y.length<x.length∧y <:+ x∧((∃ c,o=some (.o0 y c))∨(∃ c,o=some (.o1 y c))∨(∃ c,o=some (.o2 y c))∨o=some (.o4 y))
theorem GV.cond {x:List Int} {c:Bool} {a b:Option R38_l1} (ha:GV x a) (hb:GV x b):GV x (cond c a b):=by cases c<;>assumption
theorem GV.dec {x:List Int} {p:Prop} [Decidable p] {a b:Option R38_l1} (ha:p→GV x a) (hb:¬p→GV x b):GV x (bif decide p then a else b):=by
 by_cases h:p
 ·rw [decide_eq_true h];exact ha h
 ·rw [decide_eq_false h];exact hb h
theorem GV.ife {x:List Int} {p:Prop} [Decidable p] {a:Option R38_l1} (h:p) (ha:GV x a):GV x (ifE p a):=by rw [ifE_pos h];exact ha
theorem GV.bind {x:List Int} {α:Type} {o:Option α} {f:α→Option R38_l1} {v:α} (h:o=some v) (ha:GV x (f v)):GV x (Option.bind o f):=by rw [h];exact ha
theorem GV.no {x:List Int}:GV x (some (.o3 false)):=.inl ⟨_,rfl⟩
theorem sfx1 {x:List Int} (h:0<x.length):(x.drop 1).length<x.length∧x.drop 1 <:+ x:=⟨by simp;omega,List.drop_suffix 1 x⟩
theorem first_mem {v:Int} (h:v∈tabFirst):0≤v∧v<256:=by
 unfold tabFirst at h
 obtain ⟨c,_,rfl⟩:=List.mem_map.1 h
 rcases Lib.firstT_cases c with e | e | e | e | e | e | e | e | e<;>rw [e]<;>decide
theorem val_j6 (k:Nat) (x:List Int) (v:Int) (hv:0≤v∧v<256) (hx:0<x.length):GV x (f38_l1_j6 k x v false):=by
 unfold f38_l1_j6
 refine .ife hv.1 (.ife hv.2 ?_)
 have hlen:tabFirst.length=256:=by simp [tabFirst]
 have ht:(tabFirst.drop v.toNat).head?=some (tabFirst[v.toNat]'(by omega)):=by
  rw [List.head?_drop,List.getElem?_eq_getElem]
 refine .bind ht ?_
 obtain ⟨q0,q1⟩:=first_mem (List.getElem_mem (show v.toNat<tabFirst.length by omega))
 generalize tabFirst[v.toNat]'(by omega)=q at *
 have hq:Int.fdiv q (2 ^ (min 4 (IntKind.bits .u8)))=q / 16:=by
  rw [show (2:Int) ^ (min 4 (IntKind.bits .u8))=16 from rfl,Int.fdiv_eq_ediv_of_nonneg _ (by omega)]
 rw [hq]
 have hl2:tabAcc.length=32:=by simp [tabAcc]
 have hd:2≤(tabAcc.drop ((q / 16).toNat * 2)).length:=by rw [List.length_drop,hl2];omega
 refine .ife (by omega) (.ife (by omega) (.ife hd (.bind (List.getElem?_eq_getElem (show 0<_ by omega)) (.bind (List.getElem?_eq_getElem (show 1<_ by omega)) ?_))))
 refine .cond (.dec (fun _=>.no) fun h2=>.bind (List.getElem?_eq_getElem (show 1<x.length by omega)) (.dec (fun _=>.no) fun _=>.dec (fun _=>.no) fun _ => ?_)) ?_
 ·simp only [f38_l1_j7,ifE_pos (show 2≤x.length by omega),List.take_length]
  exact .inr ⟨x.drop 2,by simp;omega,List.drop_suffix 2 x,.inr (.inr (.inr rfl))⟩
 refine .cond (.dec (fun _=>.no) fun h2=>.bind (List.getElem?_eq_getElem (show 1<x.length by omega)) (.dec (fun _=>.no) fun _=>.dec (fun _=>.no) fun _=>.bind (List.getElem?_eq_getElem (show 2<x.length by omega)) (.dec (fun _=>.no) fun _=>.dec (fun _=>.no) fun _ => ?_))) ?_
 ·simp only [f38_l1_j8,ifE_pos (show 3≤x.length by omega),List.take_length]
  exact .inr ⟨x.drop 3,by simp;omega,List.drop_suffix 3 x,.inr (.inr (.inr rfl))⟩
 refine .cond (.dec (fun _=>.no) fun h2=>.bind (List.getElem?_eq_getElem (show 1<x.length by omega)) (.dec (fun _=>.no) fun _=>.dec (fun _=>.no) fun _=>.bind (List.getElem?_eq_getElem (show 2<x.length by omega)) (.dec (fun _=>.no) fun _=>.dec (fun _=>.no) fun _=>.bind (List.getElem?_eq_getElem (show 3<x.length by omega)) (.dec (fun _=>.no) fun _=>.dec (fun _=>.no) fun _ => ?_)))) .no
 simp only [f38_l1_j9,ifE_pos (show 4≤x.length by omega),List.take_length]
 exact .inr ⟨x.drop 4,by simp;omega,List.drop_suffix 4 x,.inr (.inr (.inr rfl))⟩
theorem val_j1 (k:Nat) (x:List Int) (hk:x.length+2≤k) (hb:By x) (hx:0<x.length):GV x (f38_l1_j1 k x true):=by
 unfold f38_l1_j1
 simp only [List.take_length]
 refine .bind (List.getElem?_eq_getElem hx) (.cond ?_ (val_j6 k x _ (hb _ (List.getElem_mem hx)) hx))
 refine .ife (by omega) ?_
 have s1:=sfx1 hx
 have end5:GV x (f38_l1_j5 k (x.drop 1) false):=.inr ⟨_,s1.1,s1.2,.inr (.inr (.inl ⟨_,rfl⟩))⟩
 refine .dec (fun h8 => ?_) fun _=>end5
 have h8':(x.drop 1).length>8:=by omega
 obtain ⟨w1,e1⟩:=word_ex k (by omega) (x.drop 1) (by omega)
 rw [e1]
 refine .cond (.ife (by omega) ?_) end5
 have s2:((x.drop 1).drop 8).length<x.length∧(x.drop 1).drop 8 <:+ x:=⟨by simp;omega,(List.drop_suffix 8 _).trans s1.2⟩
 have end4:GV x (f38_l1_j4 k ((x.drop 1).drop 8) false):=.inr ⟨_,s2.1,s2.2,.inr (.inl ⟨_,rfl⟩)⟩
 refine .dec (fun h16 => ?_) fun _=>end4
 have h16':((x.drop 1).drop 8).length>16:=by omega
 obtain ⟨w2,e2⟩:=word_ex k (by omega) ((x.drop 1).drop 8) (by omega)
 obtain ⟨w3,e3⟩:=word_ex k (by omega) (((x.drop 1).drop 8).drop 8) (by rw [List.length_drop];omega)
 rw [e2]
 refine .ife (by omega) ?_
 rw [e3]
 refine .cond (.ife (by omega) ?_) end4
 obtain ⟨y,y1,y2⟩:=val_l2 k (by omega) (((x.drop 1).drop 8).drop 16).length k (((x.drop 1).drop 8).drop 16) (Nat.le_refl _) (by simp;omega)
 rw [y2]
 have y3:=y1.length_le
 exact .inr ⟨y,by simp at y3;omega,y1.trans ((List.drop_suffix 16 _).trans s2.2),.inl ⟨_,rfl⟩⟩
theorem val_l1 (k:Nat):∀ (d n:Nat) (x:List Int),x.length≤d→d<n→d+2≤k→By x→(∃ v,f38_l1 k n x=some (.o3 v))∨∃ y,f38_l1 k n x=some (.o5 y false):=by
 intro d
 induction d with
 | zero =>
  intro n x hd hn hk hb
  obtain ⟨n,rfl⟩:∃ m,n=m+1:=⟨n - 1,by omega⟩
  exact .inr ⟨x,by simp only [f38_l1,f38_l1_b,decide_eq_false (show ¬(x.length:Int)>0 by omega),cond_false,Option.bind_some]⟩
 | succ d ih =>
  intro n x hd hn hk hb
  obtain ⟨n,rfl⟩:∃ m,n=m+1:=⟨n - 1,by omega⟩
  by_cases h:(x.length:Int)>0
  ·have hj:=val_j1 k x (by omega) hb (by omega)
   have eb:f38_l1_b k x=f38_l1_j1 k x true:=by simp only [f38_l1_b,decide_eq_true h,cond_true]
   rcases hj with ⟨v,hv⟩ | ⟨y,y1,y2,hy⟩
   ·exact .inl ⟨v,by simp only [f38_l1,eb,hv,Option.bind_some]⟩
   ·have hi:=ih n y (by omega) (by omega) (by omega) fun z hz=>hb z (y2.subset hz)
    have e:f38_l1 k (n+1) x=f38_l1 k n y:=by
     rcases hy with ⟨c,hy⟩ | ⟨c,hy⟩ | ⟨c,hy⟩ | hy<;>simp only [f38_l1,eb,hy,Option.bind_some]
    rw [e];exact hi
  ·exact .inr ⟨x,by simp only [f38_l1,f38_l1_b,decide_eq_false h,cond_false,Option.bind_some]⟩
theorem val_ex (k:Nat) (x:List Int) (hk:x.length+3≤k) (hb:By x):∃ v,f38 k x=some (.o0 v):=by
 obtain ⟨k,rfl⟩:∃ m,k=m+1:=⟨k - 1,by omega⟩
 have h:=val_l1 k x.length k x (Nat.le_refl _) (by omega) (by omega) hb
 simp only [f38,f38_e,ifE_pos (show (0:Int)≤(x.length:Int) by omega),ifE_pos (show Int.toNat (x.length:Int)≤x.length by omega),Int.toNat_natCast,List.take_length]
 rcases h with ⟨v,h⟩ | ⟨y,h⟩
 ·exact ⟨v,by simp only [h,Option.bind_some,ifE_pos (Nat.le_refl x.length)]⟩
 ·exact ⟨true,by simp only [h,Option.bind_some,f38_j2,ifE_pos (Nat.le_refl x.length)]⟩
noncomputable def vB (x:List Int):Bool:=match f38 (x.length+3) x with | some (.o0 v)=>v | none=>false
theorem val_at (k:Nat) (x:List Int) (hk:x.length+3≤k) (hb:By x):f38 k x=some (.o0 (vB x)):=by
 obtain ⟨v,h1⟩:=val_ex k x hk hb
 obtain ⟨w,h2⟩:=val_ex (x.length+3) x (Nat.le_refl _) hb
 have a1:=f38_ok (x.length+3) x _ h2
 have a2:=f38_ok k x _ h1
 have a3:=(callV_le hk a1).symm.trans a2
 have e:w=v:=by simpa [R38.st] using a3
 rw [h1,vB,h2,e]
end Go.Proofs.YtlelaenalbkbmaaDoorV