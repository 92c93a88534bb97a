/- bundle.Decode,told plainly. -/
import Derived.Test.YtbnnmplkbpgcaaaDoorVPFwd
import Derived.Test.YtbnnmplkbpgcaaaDoorVPEncE
namespace Go.Proofs.YtbnnmplkbpgcaaaDoorV
open Go
set_option linter.unusedVariables false
set_option linter.unusedSimpArgs false
def okI (x:It):Prop:=By x.Bytes∧x.Bytes.length≤512∧0≤x.Num
theorem dec_okI:∀ (left:Nat) (l:List Int) (x:It) (n:Nat),By l→dec left l=.ok x n→okI x∧∀ y∈x.Items,okI y:=by
 intro left
 induction left with
 | zero=>intro l x n hb h;cases l<;>simp [dec] at h
 | succ left ih =>
  have items:∀ (m:Nat) (s:List Int) (acc:List It) (x:It) (n:Nat),By s→(∀ y∈acc,okI y)→itemsD (dec left) m s acc=.ok x n→okI x∧∀ y∈x.Items,okI y:=by
   intro m
   induction m with
   | zero=>intro s acc x n hb ha h;rw [itemsD] at h;cases h;exact ⟨⟨(by intro y hy;cases hy),by simp,by simp⟩,ha⟩
   | succ m ihm =>
    intro s acc x n hb ha h
    rw [itemsD] at h
    cases hd:dec left s with
    | err e=>rw [hd] at h;cases h
    | ok z j =>
     rw [hd] at h
     dsimp only at h
     cases hi:itemsD (dec left) m (s.drop j) (acc++[z]) with
     | err e=>rw [hi] at h;cases h
     | ok w i =>
      rw [hi] at h
      cases h
      refine ihm _ _ _ _ (hb.drop j) (fun y hy => ?_) hi
      rcases List.mem_append.1 hy with h1 | h1
      ·exact ha y h1
      ·rw [List.mem_singleton.1 h1];exact (ih s z j hb hd).1
  intro l x n hb h
  cases l with
  | nil=>simp [dec] at h
  | cons f r =>
   rw [dec,bodyD] at h
   split at h
   ·cases h
   ·cases ha:argD (f % 32) r with
    | err e=>rw [ha] at h;cases h
    | ok m j =>
     rw [ha] at h
     dsimp only at h
     have hr:By (r.drop j):=By.drop (fun y hy=>hb y (List.mem_cons_of_mem _ hy)) j
     cases ht:tailD (dec left) (f / 32) m (r.drop j) with
     | err e=>rw [ht] at h;cases h
     | ok z i =>
      rw [ht] at h
      cases h
      rw [tailD] at ht
      split at ht
      ·cases ht;exact ⟨⟨(by intro y hy;cases hy),by simp,by simp⟩,(by intro y hy;cases hy)⟩
      split at ht
      ·split at ht
       ·cases ht
       ·exact items _ _ _ _ _ hr (by intro y hy;cases hy) ht
      split at ht
      ·cases ht
      split at ht
      ·cases ht
      split at ht
      ·cases ht
      ·cases ht
       exact ⟨⟨hr.take _,by simp;omega,by simp⟩,(by intro y hy;cases hy)⟩
def opn16 (l:List Int):Bool:=decide (2≤l.length)&&decide (seal16B (l.take (l.length - 2))=l)
def opn32 (l:List Int):Bool:=decide (4≤l.length)&&decide (seal32B (l.take (l.length - 4))=l)
theorem open16_at (k:Nat) (l:List Int) (hb:By l) (hl:l.length≤60000) (hk:l.length+40≤k):∃ e:Int,e≠0∧f27 k l=some (bif opn16 l then .o0 (l.take (l.length - 2)) 0 else .o0 [] e):=by
 obtain ⟨k,rfl⟩:∃ m,k=m+3:=⟨k - 3,by omega⟩
 by_cases h:l.length<2
 ·refine ⟨7,by decide,?_⟩
  rw [opn16,decide_eq_false (show ¬2≤l.length by omega),Bool.false_and,cond_false]
  simp only [f27,f27_e,f47a,f47a_e,decide_eq_true (show (l.length:Int)<2 by omega),cond_true,Option.bind_some]
 have hw:IntKind.i64.wrap ((l.length:Int) - 2)=((l.length - 2:Nat):Int):=by rw [wrap_i64 (by omega) (by omega)];omega
 have hs:=seal16_at (k+1) (l.take (l.length - 2)) (hb.take _) (by simp;omega) (by simp;omega)
 have he:=seq_at (seal16B (l.take (l.length - 2))) l (by rw [seal16B_len,List.length_take];omega) (k+1) (by rw [seal16B_len,List.length_take];omega)
 refine ⟨130,by decide,?_⟩
 rw [opn16,decide_eq_true (show 2≤l.length by omega),Bool.true_and]
 cases hd:decide (seal16B (l.take (l.length - 2))=l)
 ·rw [hd] at he
  simp only [f27,f27_e,f47a,f47a_e,f47a_j1,decide_eq_false (show ¬(l.length:Int)<2 by omega),cond_false,hw,ifE_pos (show (0:Int)≤((l.length - 2:Nat):Int) by omega),Int.toNat_natCast,ifE_pos (show l.length - 2≤l.length by omega),hs,he,Option.bind_some,Bool.not_false,cond_true]
 ·rw [hd] at he
  have hc:=clone8_at (k+1) (by omega) (l.take (l.length - 2)) (by simp;omega)
  simp only [f27,f27_e,f47a,f47a_e,f47a_j1,f47a_j2,decide_eq_false (show ¬(l.length:Int)<2 by omega),cond_false,hw,ifE_pos (show (0:Int)≤((l.length - 2:Nat):Int) by omega),Int.toNat_natCast,ifE_pos (show l.length - 2≤l.length by omega),hs,he,hc,Option.bind_some,Bool.not_true,cond_true]
theorem open32_at (k:Nat) (l:List Int) (hb:By l) (hl:l.length≤60000) (hk:l.length+40≤k):∃ e:Int,e≠0∧f28 k l=some (bif opn32 l then .o0 (l.take (l.length - 4)) 0 else .o0 [] e):=by
 obtain ⟨k,rfl⟩:∃ m,k=m+3:=⟨k - 3,by omega⟩
 by_cases h:l.length<4
 ·refine ⟨7,by decide,?_⟩
  rw [opn32,decide_eq_false (show ¬4≤l.length by omega),Bool.false_and,cond_false]
  simp only [f28,f28_e,f47b,f47b_e,decide_eq_true (show (l.length:Int)<4 by omega),cond_true,Option.bind_some]
 have hw:IntKind.i64.wrap ((l.length:Int) - 4)=((l.length - 4:Nat):Int):=by rw [wrap_i64 (by omega) (by omega)];omega
 have hs:=seal32_at (k+1) (l.take (l.length - 4)) (hb.take _) (by simp;omega) (by simp;omega)
 have he:=seq_at (seal32B (l.take (l.length - 4))) l (by rw [seal32B_len,List.length_take];omega) (k+1) (by rw [seal32B_len,List.length_take];omega)
 refine ⟨130,by decide,?_⟩
 rw [opn32,decide_eq_true (show 4≤l.length by omega),Bool.true_and]
 cases hd:decide (seal32B (l.take (l.length - 4))=l)
 ·rw [hd] at he
  simp only [f28,f28_e,f47b,f47b_e,f47b_j1,decide_eq_false (show ¬(l.length:Int)<4 by omega),cond_false,hw,ifE_pos (show (0:Int)≤((l.length - 4:Nat):Int) by omega),Int.toNat_natCast,ifE_pos (show l.length - 4≤l.length by omega),hs,he,Option.bind_some,Bool.not_false,cond_true]
 ·rw [hd] at he
  have hc:=clone8_at (k+1) (by omega) (l.take (l.length - 4)) (by simp;omega)
  simp only [f28,f28_e,f47b,f47b_e,f47b_j1,f47b_j2,decide_eq_false (show ¬(l.length:Int)<4 by omega),cond_false,hw,ifE_pos (show (0:Int)≤((l.length - 4:Nat):Int) by omega),Int.toNat_natCast,ifE_pos (show l.length - 4≤l.length by omega),hs,he,hc,Option.bind_some,Bool.not_true,cond_true]
theorem bif_or {α:Type} (a b:Bool) (x y:α):(bif a||b then x else y)=bif a then x else bif b then x else y:=by cases a<;>rfl
theorem fld_0 (k n:Nat) (x0 x8:List Int) (p0 p1 p2 p3 p4 p5 p6 p7 p8 p9:Int) (p10:List Int) (a0 a1:Int) (a2:List Int) (a3:List It) (b0 b1:Int) (b2:List Int) (L:List It) (c0 c1 c2 c3 c4 c5 c6 c7 c8 c9:Int) (c10:List Int) (s v:Int) (i:It) (g:L[0]?=some i) (hi:0≤i.Num) :
 f10_l4 k (n+1) x0 x8 10 0 p0 p1 p2 p3 p4 p5 p6 p7 p8 p9 p10 a0 a1 a2 a3 b0 b1 b2 L c0 c1 c2 c3 c4 c5 c6 c7 c8 c9 c10 s v=bif decide (i.Num>4294967295) then some (.o0 190 0 0 0 0 0 0 0 0 0 0 []) else f10_l4 k n x0 x8 10 1 p0 p1 p2 p3 p4 p5 p6 p7 p8 p9 p10 a0 a1 a2 a3 b0 b1 b2 L c0 c1 c2 c3 c4 c5 c6 c7 c8 c9 c10 s i.Num:=by
 cases hc:decide (i.Num>4294967295)
 ·have hw:IntKind.i64.wrap i.Num=i.Num:=by rw [decide_eq_false_iff_not] at hc;exact wrap_i64 (by omega) (by omega)
  simp only [f10_l4,f10_l4_b,show decide ((0:Int)<10)=true from rfl,cond_true,cond_false,f10_l4_j1,ifE_pos (show (0:Int)≤0 by decide),show ((0:Int)==0)=true from rfl,g,hc,Option.bind_some,f10_l4_j2,show Int.toNat (0:Int)=0 from rfl,hw,f10_l4_j3,show IntKind.i64.wrap ((0:Int)+1)=1 from rfl]
 ·simp only [f10_l4,f10_l4_b,show decide ((0:Int)<10)=true from rfl,cond_true,cond_false,f10_l4_j1,ifE_pos (show (0:Int)≤0 by decide),show ((0:Int)==0)=true from rfl,g,hc,Option.bind_some]
theorem fld_1 (k n:Nat) (x0 x8:List Int) (p0 p1 p2 p3 p4 p5 p6 p7 p8 p9:Int) (p10:List Int) (a0 a1:Int) (a2:List Int) (a3:List It) (b0 b1:Int) (b2:List Int) (L:List It) (c0 c1 c2 c3 c4 c5 c6 c7 c8 c9:Int) (c10:List Int) (s v:Int) (i:It) (g:L[1]?=some i) (hi:0≤i.Num) :
 f10_l4 k (n+1) x0 x8 10 1 p0 p1 p2 p3 p4 p5 p6 p7 p8 p9 p10 a0 a1 a2 a3 b0 b1 b2 L c0 c1 c2 c3 c4 c5 c6 c7 c8 c9 c10 s v=bif decide (i.Num>4294967295) then some (.o0 190 0 0 0 0 0 0 0 0 0 0 []) else f10_l4 k n x0 x8 10 2 p0 p1 p2 p3 p4 p5 p6 p7 p8 p9 p10 a0 a1 a2 a3 b0 b1 b2 L c0 i.Num c2 c3 c4 c5 c6 c7 c8 c9 c10 s v:=by
 cases hc:decide (i.Num>4294967295)
 ·have hw:IntKind.i64.wrap i.Num=i.Num:=by rw [decide_eq_false_iff_not] at hc;exact wrap_i64 (by omega) (by omega)
  simp only [f10_l4,f10_l4_b,show decide ((1:Int)<10)=true from rfl,cond_true,cond_false,f10_l4_j1,ifE_pos (show (0:Int)≤1 by decide),show ((1:Int)==0)=false from rfl,show ((1:Int)==1)=true from rfl,g,hc,Option.bind_some,f10_l4_j4,show Int.toNat (1:Int)=1 from rfl,hw,f10_l4_j3,show IntKind.i64.wrap ((1:Int)+1)=2 from rfl]
 ·simp only [f10_l4,f10_l4_b,show decide ((1:Int)<10)=true from rfl,cond_true,cond_false,f10_l4_j1,ifE_pos (show (0:Int)≤1 by decide),show ((1:Int)==0)=false from rfl,show ((1:Int)==1)=true from rfl,g,hc,Option.bind_some]
theorem fld_2 (k n:Nat) (x0 x8:List Int) (p0 p1 p2 p3 p4 p5 p6 p7 p8 p9:Int) (p10:List Int) (a0 a1:Int) (a2:List Int) (a3:List It) (b0 b1:Int) (b2:List Int) (L:List It) (c0 c1 c2 c3 c4 c5 c6 c7 c8 c9:Int) (c10:List Int) (s v:Int) (i:It) (g:L[2]?=some i) (hi:0≤i.Num) :
 f10_l4 k (n+1) x0 x8 10 2 p0 p1 p2 p3 p4 p5 p6 p7 p8 p9 p10 a0 a1 a2 a3 b0 b1 b2 L c0 c1 c2 c3 c4 c5 c6 c7 c8 c9 c10 s v=bif decide (i.Num>4294967295) then some (.o0 190 0 0 0 0 0 0 0 0 0 0 []) else f10_l4 k n x0 x8 10 3 p0 p1 p2 p3 p4 p5 p6 p7 p8 p9 p10 a0 a1 a2 a3 b0 b1 b2 L i.Num c1 c2 c3 c4 c5 c6 c7 c8 c9 c10 s v:=by
 cases hc:decide (i.Num>4294967295)
 ·have hw:IntKind.i64.wrap i.Num=i.Num:=by rw [decide_eq_false_iff_not] at hc;exact wrap_i64 (by omega) (by omega)
  simp only [f10_l4,f10_l4_b,show decide ((2:Int)<10)=true from rfl,cond_true,cond_false,f10_l4_j1,ifE_pos (show (0:Int)≤2 by decide),show ((2:Int)==0)=false from rfl,show ((2:Int)==1)=false from rfl,show ((2:Int)==2)=true from rfl,g,hc,Option.bind_some,f10_l4_j5,show Int.toNat (2:Int)=2 from rfl,hw,f10_l4_j3,show IntKind.i64.wrap ((2:Int)+1)=3 from rfl]
 ·simp only [f10_l4,f10_l4_b,show decide ((2:Int)<10)=true from rfl,cond_true,cond_false,f10_l4_j1,ifE_pos (show (0:Int)≤2 by decide),show ((2:Int)==0)=false from rfl,show ((2:Int)==1)=false from rfl,show ((2:Int)==2)=true from rfl,g,hc,Option.bind_some]
theorem fld_3 (k n:Nat) (x0 x8:List Int) (p0 p1 p2 p3 p4 p5 p6 p7 p8 p9:Int) (p10:List Int) (a0 a1:Int) (a2:List Int) (a3:List It) (b0 b1:Int) (b2:List Int) (L:List It) (c0 c1 c2 c3 c4 c5 c6 c7 c8 c9:Int) (c10:List Int) (s v:Int) (i:It) (g:L[3]?=some i) (hi:0≤i.Num) :
 f10_l4 k (n+1) x0 x8 10 3 p0 p1 p2 p3 p4 p5 p6 p7 p8 p9 p10 a0 a1 a2 a3 b0 b1 b2 L c0 c1 c2 c3 c4 c5 c6 c7 c8 c9 c10 s v=bif decide (i.Num>4294967295) then some (.o0 190 0 0 0 0 0 0 0 0 0 0 []) else f10_l4 k n x0 x8 10 4 p0 p1 p2 p3 p4 p5 p6 p7 p8 p9 p10 a0 a1 a2 a3 b0 b1 b2 L c0 c1 c2 c3 c4 c5 c6 c7 c8 c9 c10 i.Num v:=by
 cases hc:decide (i.Num>4294967295)
 ·have hw:IntKind.i64.wrap i.Num=i.Num:=by rw [decide_eq_false_iff_not] at hc;exact wrap_i64 (by omega) (by omega)
  simp only [f10_l4,f10_l4_b,show decide ((3:Int)<10)=true from rfl,cond_true,cond_false,f10_l4_j1,ifE_pos (show (0:Int)≤3 by decide),show ((3:Int)==0)=false from rfl,show ((3:Int)==1)=false from rfl,show ((3:Int)==2)=false from rfl,show ((3:Int)==3)=true from rfl,g,hc,Option.bind_some,f10_l4_j6,show Int.toNat (3:Int)=3 from rfl,hw,f10_l4_j3,show IntKind.i64.wrap ((3:Int)+1)=4 from rfl]
 ·simp only [f10_l4,f10_l4_b,show decide ((3:Int)<10)=true from rfl,cond_true,cond_false,f10_l4_j1,ifE_pos (show (0:Int)≤3 by decide),show ((3:Int)==0)=false from rfl,show ((3:Int)==1)=false from rfl,show ((3:Int)==2)=false from rfl,show ((3:Int)==3)=true from rfl,g,hc,Option.bind_some]
theorem fld_4 (k n:Nat) (x0 x8:List Int) (p0 p1 p2 p3 p4 p5 p6 p7 p8 p9:Int) (p10:List Int) (a0 a1:Int) (a2:List Int) (a3:List It) (b0 b1:Int) (b2:List Int) (L:List It) (c0 c1 c2 c3 c4 c5 c6 c7 c8 c9:Int) (c10:List Int) (s v:Int) (i:It) (g:L[4]?=some i) (hi:0≤i.Num) :
 f10_l4 k (n+1) x0 x8 10 4 p0 p1 p2 p3 p4 p5 p6 p7 p8 p9 p10 a0 a1 a2 a3 b0 b1 b2 L c0 c1 c2 c3 c4 c5 c6 c7 c8 c9 c10 s v=bif decide (i.Num>4294967295) then some (.o0 190 0 0 0 0 0 0 0 0 0 0 []) else f10_l4 k n x0 x8 10 5 p0 p1 p2 p3 p4 p5 p6 p7 p8 p9 p10 a0 a1 a2 a3 b0 b1 b2 L c0 c1 c2 i.Num c4 c5 c6 c7 c8 c9 c10 s v:=by
 cases hc:decide (i.Num>4294967295)
 ·have hw:IntKind.i64.wrap i.Num=i.Num:=by rw [decide_eq_false_iff_not] at hc;exact wrap_i64 (by omega) (by omega)
  simp only [f10_l4,f10_l4_b,show decide ((4:Int)<10)=true from rfl,cond_true,cond_false,f10_l4_j1,ifE_pos (show (0:Int)≤4 by decide),show ((4:Int)==0)=false from rfl,show ((4:Int)==1)=false from rfl,show ((4:Int)==2)=false from rfl,show ((4:Int)==3)=false from rfl,show ((4:Int)==4)=true from rfl,g,hc,Option.bind_some,f10_l4_j7,show Int.toNat (4:Int)=4 from rfl,hw,f10_l4_j3,show IntKind.i64.wrap ((4:Int)+1)=5 from rfl]
 ·simp only [f10_l4,f10_l4_b,show decide ((4:Int)<10)=true from rfl,cond_true,cond_false,f10_l4_j1,ifE_pos (show (0:Int)≤4 by decide),show ((4:Int)==0)=false from rfl,show ((4:Int)==1)=false from rfl,show ((4:Int)==2)=false from rfl,show ((4:Int)==3)=false from rfl,show ((4:Int)==4)=true from rfl,g,hc,Option.bind_some]
theorem fld_5 (k n:Nat) (x0 x8:List Int) (p0 p1 p2 p3 p4 p5 p6 p7 p8 p9:Int) (p10:List Int) (a0 a1:Int) (a2:List Int) (a3:List It) (b0 b1:Int) (b2:List Int) (L:List It) (c0 c1 c2 c3 c4 c5 c6 c7 c8 c9:Int) (c10:List Int) (s v:Int) (i:It) (g:L[5]?=some i) (hi:0≤i.Num) :
 f10_l4 k (n+1) x0 x8 10 5 p0 p1 p2 p3 p4 p5 p6 p7 p8 p9 p10 a0 a1 a2 a3 b0 b1 b2 L c0 c1 c2 c3 c4 c5 c6 c7 c8 c9 c10 s v=bif decide (i.Num>4294967295) then some (.o0 190 0 0 0 0 0 0 0 0 0 0 []) else f10_l4 k n x0 x8 10 6 p0 p1 p2 p3 p4 p5 p6 p7 p8 p9 p10 a0 a1 a2 a3 b0 b1 b2 L c0 c1 c2 c3 i.Num c5 c6 c7 c8 c9 c10 s v:=by
 cases hc:decide (i.Num>4294967295)
 ·have hw:IntKind.i64.wrap i.Num=i.Num:=by rw [decide_eq_false_iff_not] at hc;exact wrap_i64 (by omega) (by omega)
  simp only [f10_l4,f10_l4_b,show decide ((5:Int)<10)=true from rfl,cond_true,cond_false,f10_l4_j1,ifE_pos (show (0:Int)≤5 by decide),show ((5:Int)==0)=false from rfl,show ((5:Int)==1)=false from rfl,show ((5:Int)==2)=false from rfl,show ((5:Int)==3)=false from rfl,show ((5:Int)==4)=false from rfl,show ((5:Int)==5)=true from rfl,g,hc,Option.bind_some,f10_l4_j8,show Int.toNat (5:Int)=5 from rfl,hw,f10_l4_j3,show IntKind.i64.wrap ((5:Int)+1)=6 from rfl]
 ·simp only [f10_l4,f10_l4_b,show decide ((5:Int)<10)=true from rfl,cond_true,cond_false,f10_l4_j1,ifE_pos (show (0:Int)≤5 by decide),show ((5:Int)==0)=false from rfl,show ((5:Int)==1)=false from rfl,show ((5:Int)==2)=false from rfl,show ((5:Int)==3)=false from rfl,show ((5:Int)==4)=false from rfl,show ((5:Int)==5)=true from rfl,g,hc,Option.bind_some]
theorem fld_6 (k n:Nat) (x0 x8:List Int) (p0 p1 p2 p3 p4 p5 p6 p7 p8 p9:Int) (p10:List Int) (a0 a1:Int) (a2:List Int) (a3:List It) (b0 b1:Int) (b2:List Int) (L:List It) (c0 c1 c2 c3 c4 c5 c6 c7 c8 c9:Int) (c10:List Int) (s v:Int) (i:It) (g:L[6]?=some i) (hi:0≤i.Num) :
 f10_l4 k (n+1) x0 x8 10 6 p0 p1 p2 p3 p4 p5 p6 p7 p8 p9 p10 a0 a1 a2 a3 b0 b1 b2 L c0 c1 c2 c3 c4 c5 c6 c7 c8 c9 c10 s v=bif decide (i.Num>4294967295) then some (.o0 190 0 0 0 0 0 0 0 0 0 0 []) else f10_l4 k n x0 x8 10 7 p0 p1 p2 p3 p4 p5 p6 p7 p8 p9 p10 a0 a1 a2 a3 b0 b1 b2 L c0 c1 c2 c3 c4 c5 c6 c7 i.Num c9 c10 s v:=by
 cases hc:decide (i.Num>4294967295)
 ·have hw:IntKind.i64.wrap i.Num=i.Num:=by rw [decide_eq_false_iff_not] at hc;exact wrap_i64 (by omega) (by omega)
  simp only [f10_l4,f10_l4_b,show decide ((6:Int)<10)=true from rfl,cond_true,cond_false,f10_l4_j1,ifE_pos (show (0:Int)≤6 by decide),show ((6:Int)==0)=false from rfl,show ((6:Int)==1)=false from rfl,show ((6:Int)==2)=false from rfl,show ((6:Int)==3)=false from rfl,show ((6:Int)==4)=false from rfl,show ((6:Int)==5)=false from rfl,show ((6:Int)==6)=true from rfl,g,hc,Option.bind_some,f10_l4_j9,show Int.toNat (6:Int)=6 from rfl,hw,f10_l4_j3,show IntKind.i64.wrap ((6:Int)+1)=7 from rfl]
 ·simp only [f10_l4,f10_l4_b,show decide ((6:Int)<10)=true from rfl,cond_true,cond_false,f10_l4_j1,ifE_pos (show (0:Int)≤6 by decide),show ((6:Int)==0)=false from rfl,show ((6:Int)==1)=false from rfl,show ((6:Int)==2)=false from rfl,show ((6:Int)==3)=false from rfl,show ((6:Int)==4)=false from rfl,show ((6:Int)==5)=false from rfl,show ((6:Int)==6)=true from rfl,g,hc,Option.bind_some]
theorem fld_7 (k n:Nat) (x0 x8:List Int) (p0 p1 p2 p3 p4 p5 p6 p7 p8 p9:Int) (p10:List Int) (a0 a1:Int) (a2:List Int) (a3:List It) (b0 b1:Int) (b2:List Int) (L:List It) (c0 c1 c2 c3 c4 c5 c6 c7 c8 c9:Int) (c10:List Int) (s v:Int) (i:It) (g:L[7]?=some i) (hi:0≤i.Num) :
 f10_l4 k (n+1) x0 x8 10 7 p0 p1 p2 p3 p4 p5 p6 p7 p8 p9 p10 a0 a1 a2 a3 b0 b1 b2 L c0 c1 c2 c3 c4 c5 c6 c7 c8 c9 c10 s v=bif decide (i.Num>4294967295) then some (.o0 190 0 0 0 0 0 0 0 0 0 0 []) else f10_l4 k n x0 x8 10 8 p0 p1 p2 p3 p4 p5 p6 p7 p8 p9 p10 a0 a1 a2 a3 b0 b1 b2 L c0 c1 c2 c3 c4 c5 c6 c7 c8 i.Num c10 s v:=by
 cases hc:decide (i.Num>4294967295)
 ·have hw:IntKind.i64.wrap i.Num=i.Num:=by rw [decide_eq_false_iff_not] at hc;exact wrap_i64 (by omega) (by omega)
  simp only [f10_l4,f10_l4_b,show decide ((7:Int)<10)=true from rfl,cond_true,cond_false,f10_l4_j1,ifE_pos (show (0:Int)≤7 by decide),show ((7:Int)==0)=false from rfl,show ((7:Int)==1)=false from rfl,show ((7:Int)==2)=false from rfl,show ((7:Int)==3)=false from rfl,show ((7:Int)==4)=false from rfl,show ((7:Int)==5)=false from rfl,show ((7:Int)==6)=false from rfl,show ((7:Int)==7)=true from rfl,g,hc,Option.bind_some,f10_l4_j10,show Int.toNat (7:Int)=7 from rfl,hw,f10_l4_j3,show IntKind.i64.wrap ((7:Int)+1)=8 from rfl]
 ·simp only [f10_l4,f10_l4_b,show decide ((7:Int)<10)=true from rfl,cond_true,cond_false,f10_l4_j1,ifE_pos (show (0:Int)≤7 by decide),show ((7:Int)==0)=false from rfl,show ((7:Int)==1)=false from rfl,show ((7:Int)==2)=false from rfl,show ((7:Int)==3)=false from rfl,show ((7:Int)==4)=false from rfl,show ((7:Int)==5)=false from rfl,show ((7:Int)==6)=false from rfl,show ((7:Int)==7)=true from rfl,g,hc,Option.bind_some]
theorem fld_8 (k n:Nat) (x0 x8:List Int) (p0 p1 p2 p3 p4 p5 p6 p7 p8 p9:Int) (p10:List Int) (a0 a1:Int) (a2:List Int) (a3:List It) (b0 b1:Int) (b2:List Int) (L:List It) (c0 c1 c2 c3 c4 c5 c6 c7 c8 c9:Int) (c10:List Int) (s v:Int) (i:It) (g:L[8]?=some i) (hi:0≤i.Num) :
 f10_l4 k (n+1) x0 x8 10 8 p0 p1 p2 p3 p4 p5 p6 p7 p8 p9 p10 a0 a1 a2 a3 b0 b1 b2 L c0 c1 c2 c3 c4 c5 c6 c7 c8 c9 c10 s v=bif decide (i.Num>4294967295) then some (.o0 190 0 0 0 0 0 0 0 0 0 0 []) else f10_l4 k n x0 x8 10 9 p0 p1 p2 p3 p4 p5 p6 p7 p8 p9 p10 a0 a1 a2 a3 b0 b1 b2 L c0 c1 c2 c3 c4 c5 c6 i.Num c8 c9 c10 s v:=by
 cases hc:decide (i.Num>4294967295)
 ·have hw:IntKind.i64.wrap i.Num=i.Num:=by rw [decide_eq_false_iff_not] at hc;exact wrap_i64 (by omega) (by omega)
  simp only [f10_l4,f10_l4_b,show decide ((8:Int)<10)=true from rfl,cond_true,cond_false,f10_l4_j1,ifE_pos (show (0:Int)≤8 by decide),show ((8:Int)==0)=false from rfl,show ((8:Int)==1)=false from rfl,show ((8:Int)==2)=false from rfl,show ((8:Int)==3)=false from rfl,show ((8:Int)==4)=false from rfl,show ((8:Int)==5)=false from rfl,show ((8:Int)==6)=false from rfl,show ((8:Int)==7)=false from rfl,show ((8:Int)==8)=true from rfl,g,hc,Option.bind_some,f10_l4_j11,show Int.toNat (8:Int)=8 from rfl,hw,f10_l4_j3,show IntKind.i64.wrap ((8:Int)+1)=9 from rfl]
 ·simp only [f10_l4,f10_l4_b,show decide ((8:Int)<10)=true from rfl,cond_true,cond_false,f10_l4_j1,ifE_pos (show (0:Int)≤8 by decide),show ((8:Int)==0)=false from rfl,show ((8:Int)==1)=false from rfl,show ((8:Int)==2)=false from rfl,show ((8:Int)==3)=false from rfl,show ((8:Int)==4)=false from rfl,show ((8:Int)==5)=false from rfl,show ((8:Int)==6)=false from rfl,show ((8:Int)==7)=false from rfl,show ((8:Int)==8)=true from rfl,g,hc,Option.bind_some]
theorem fld_9 (k n:Nat) (x0 x8:List Int) (p0 p1 p2 p3 p4 p5 p6 p7 p8 p9:Int) (p10:List Int) (a0 a1:Int) (a2:List Int) (a3:List It) (b0 b1:Int) (b2:List Int) (L:List It) (c0 c1 c2 c3 c4 c5 c6 c7 c8 c9:Int) (c10:List Int) (s v:Int) (i:It) (g:L[9]?=some i) (hi:0≤i.Num) :
 f10_l4 k (n+1) x0 x8 10 9 p0 p1 p2 p3 p4 p5 p6 p7 p8 p9 p10 a0 a1 a2 a3 b0 b1 b2 L c0 c1 c2 c3 c4 c5 c6 c7 c8 c9 c10 s v=bif decide (i.Num>4294967295) then some (.o0 190 0 0 0 0 0 0 0 0 0 0 []) else f10_l4 k n x0 x8 10 10 p0 p1 p2 p3 p4 p5 p6 p7 p8 p9 p10 a0 a1 a2 a3 b0 b1 b2 L c0 c1 c2 c3 c4 i.Num c6 c7 c8 c9 c10 s v:=by
 cases hc:decide (i.Num>4294967295)
 ·have hw:IntKind.i64.wrap i.Num=i.Num:=by rw [decide_eq_false_iff_not] at hc;exact wrap_i64 (by omega) (by omega)
  simp only [f10_l4,f10_l4_b,show decide ((9:Int)<10)=true from rfl,cond_true,cond_false,f10_l4_j1,ifE_pos (show (0:Int)≤9 by decide),show ((9:Int)==0)=false from rfl,show ((9:Int)==1)=false from rfl,show ((9:Int)==2)=false from rfl,show ((9:Int)==3)=false from rfl,show ((9:Int)==4)=false from rfl,show ((9:Int)==5)=false from rfl,show ((9:Int)==6)=false from rfl,show ((9:Int)==7)=false from rfl,show ((9:Int)==8)=false from rfl,show ((9:Int)==9)=true from rfl,g,hc,Option.bind_some,f10_l4_j12,show Int.toNat (9:Int)=9 from rfl,hw,f10_l4_j3,show IntKind.i64.wrap ((9:Int)+1)=10 from rfl]
 ·simp only [f10_l4,f10_l4_b,show decide ((9:Int)<10)=true from rfl,cond_true,cond_false,f10_l4_j1,ifE_pos (show (0:Int)≤9 by decide),show ((9:Int)==0)=false from rfl,show ((9:Int)==1)=false from rfl,show ((9:Int)==2)=false from rfl,show ((9:Int)==3)=false from rfl,show ((9:Int)==4)=false from rfl,show ((9:Int)==5)=false from rfl,show ((9:Int)==6)=false from rfl,show ((9:Int)==7)=false from rfl,show ((9:Int)==8)=false from rfl,show ((9:Int)==9)=true from rfl,g,hc,Option.bind_some]
def badN (L:List It):Bool:=L.any fun i=>decide (i.Num>4294967295)
def numAt (L:List It) (j:Nat):Int:=match L[j]? with | some i=>i.Num | none=>0
theorem flds (k n:Nat) (hn:11≤n) (x0 x8:List Int) (a0 a1:Int) (a2:List Int) (a3:List It) (b0 b1:Int) (b2:List Int) (L:List It) (hL:L.length=10) (ho:∀ i∈L,0≤i.Num) :
 f10_l4 k n x0 x8 10 0 0 0 0 0 0 0 0 0 0 0 [] a0 a1 a2 a3 b0 b1 b2 L 0 0 0 0 0 0 0 0 0 0 [] 0 0=bif badN L then some (.o0 190 0 0 0 0 0 0 0 0 0 0 []) else some (.o2 x0 x8 10 10 false 0 0 0 0 0 0 0 0 0 0 [] a0 a1 a2 a3 b0 b1 b2 L (numAt L 2) (numAt L 1) 0 (numAt L 4) (numAt L 5) (numAt L 9) 0 (numAt L 8) (numAt L 6) (numAt L 7) [] (numAt L 3) (numAt L 0)):=by
 obtain ⟨n,rfl⟩:∃ m,n=m+11:=⟨n - 11,by omega⟩
 match L,hL,ho with
 | [i0,i1,i2,i3,i4,i5,i6,i7,i8,i9],_,ho =>
  have last:∀ (c0 c1 c3 c4 c5 c7 c8 c9 s v:Int),f10_l4 k (n+1) x0 x8 10 10 0 0 0 0 0 0 0 0 0 0 [] a0 a1 a2 a3 b0 b1 b2 [i0,i1,i2,i3,i4,i5,i6,i7,i8,i9] c0 c1 0 c3 c4 c5 0 c7 c8 c9 [] s v=some (.o2 x0 x8 10 10 false 0 0 0 0 0 0 0 0 0 0 [] a0 a1 a2 a3 b0 b1 b2 [i0,i1,i2,i3,i4,i5,i6,i7,i8,i9] c0 c1 0 c3 c4 c5 0 c7 c8 c9 [] s v):=fun c0 c1 c3 c4 c5 c7 c8 c9 s v=>by
   simp only [f10_l4,f10_l4_b,show decide ((10:Int)<10)=false from rfl,cond_false,Option.bind_some]
  rw [fld_0 (i:=i0) (g:=rfl) (hi:=ho _ (by simp)),fld_1 (i:=i1) (g:=rfl) (hi:=ho _ (by simp)),fld_2 (i:=i2) (g:=rfl) (hi:=ho _ (by simp)),fld_3 (i:=i3) (g:=rfl) (hi:=ho _ (by simp)),fld_4 (i:=i4) (g:=rfl) (hi:=ho _ (by simp)),fld_5 (i:=i5) (g:=rfl) (hi:=ho _ (by simp)),fld_6 (i:=i6) (g:=rfl) (hi:=ho _ (by simp)),fld_7 (i:=i7) (g:=rfl) (hi:=ho _ (by simp)),fld_8 (i:=i8) (g:=rfl) (hi:=ho _ (by simp)),fld_9 (i:=i9) (g:=rfl) (hi:=ho _ (by simp)),last]
  simp only [badN,List.any_cons,List.any_nil,bif_or,cond_false,numAt,List.getElem?_cons_zero,List.getElem?_cons_succ]
def ofB (b:Bun) (e:Int):R10:=.o0 b.Source b.Dest b.Seq b.Created b.Lifetime b.HopLimit b.Hops b.Priority b.Offset b.Total b.Payload e
def noB (e:Int):R10:=.o0 0 0 0 0 0 0 0 0 0 0 [] e
def bunOf (L:List It) (h:Int) (P:List Int):Bun:=⟨numAt L 2,numAt L 1,numAt L 3,numAt L 4,numAt L 5,numAt L 9,h,numAt L 8,numAt L 6,numAt L 7,P⟩
noncomputable def flow (raw A P:List Int) (h:Int):R10 :=
 bif !(opn16 A&&opn32 P) then noB 130 else
 match dec 4 (A.take (A.length - 2)) with
 | .err _=>noB 190
 | .ok y _=>if y.Items.length≠10∨h>16∨badN y.Items=true then noB 190 else
  if okP (bunOf y.Items h (P.take (P.length - 4)))∧bytesOf (bunOf y.Items h (P.take (P.length - 4)))=raw then ofB (bunOf y.Items h (P.take (P.length - 4))) 0 else noB 190
noncomputable def bdS (raw:List Int):R10 :=
 match dec 4 raw with
 | .err _=>noB 190
 | .ok x n=>if n≠raw.length∨x.Kind≠4 then noB 190 else
  match x.Items with
  | [p,q,r]=>if p.Kind≠2∨q.Kind≠1∨r.Kind≠2 then noB 190 else flow raw p.Bytes r.Bytes q.Num
  | _=>noB 190
theorem flow_at (k:Nat) (hk:9000≤k) (raw:List Int) (hl:raw.length≤5000) (p q r:It) (hp:okI p) (hq:okI q) (hr:okI r) (x0 x1:Int) (x2:List Int) :
 f10_j1 k raw false 0 0 0 0 0 0 0 0 0 0 [] x0 x1 x2 [p,q,r]=some (flow raw p.Bytes r.Bytes q.Num):=by
 obtain ⟨e,he,h1⟩:=open16_at k p.Bytes hp.1 (by have:=hp.2.1;omega) (by have:=hp.2.1;omega)
 obtain ⟨e',he',h2⟩:=open32_at k r.Bytes hr.1 (by have:=hr.2.1;omega) (by have:=hr.2.1;omega)
 have g0:[p,q,r][0]?=some p:=rfl
 have g1:[p,q,r][1]?=some q:=rfl
 have g2:[p,q,r][2]?=some r:=rfl
 cases o1:opn16 p.Bytes
 ·rw [o1,cond_false] at h1
  rw [flow,o1,Bool.false_and,Bool.not_false,cond_true]
  cases o2:opn32 r.Bytes
  ·rw [o2,cond_false] at h2
   simp only [f10_j1,g0,g2,h1,h2,Option.bind_some,show (e != 0)=true by simpa using he,cond_true,noB]
  ·rw [o2,cond_true] at h2
   simp only [f10_j1,g0,g2,h1,h2,Option.bind_some,show (e != 0)=true by simpa using he,cond_true,noB]
 rw [o1,cond_true] at h1
 cases o2:opn32 r.Bytes
 ·rw [o2,cond_false] at h2
  rw [flow,o1,o2,Bool.and_false,Bool.not_false,cond_true]
  simp only [f10_j1,g0,g2,h1,h2,Option.bind_some,bne_self_eq_false,cond_false,show (e' != 0)=true by simpa using he',cond_true,noB]
 rw [o2,cond_true] at h2
 rw [flow,o1,o2,Bool.and_self,Bool.not_true,cond_false]
 have hA:By (p.Bytes.take (p.Bytes.length - 2)):=hp.1.take _
 have hd:=cdec_at k (by omega) (p.Bytes.take (p.Bytes.length - 2)) hA (by have:=hp.2.1;rw [List.length_take];omega)
 have start:f10_j1 k raw false 0 0 0 0 0 0 0 0 0 0 [] x0 x1 x2 [p,q,r]=f10_j2 k raw (p.Bytes.take (p.Bytes.length - 2)) (r.Bytes.take (r.Bytes.length - 4)) false 0 0 0 0 0 0 0 0 0 0 [] x0 x1 x2 [p,q,r]:=by
  simp only [f10_j1,g0,g2,h1,h2,Option.bind_some,bne_self_eq_false,cond_false]
 rw [start]
 cases hy:dec 4 (p.Bytes.take (p.Bytes.length - 2)) with
 | err e2 =>
  rw [hy] at hd
  have hne:(e2 != 0)=true:=by
   obtain ⟨R,_,hR⟩:=get_at 4 700 (by omega) (by omega) _ hA (by have:=hp.2.1;rw [List.length_take];omega) 0 (by omega)
   rw [List.drop_zero,hy] at hR
   rcases hR.1 with h | h<;>rw [h]<;>rfl
  simp only [f10_j2,hd,Option.bind_some,hne,cond_true,noB]
 | ok y m =>
  rw [hy] at hd
  dsimp only at hd ⊢
  have hyo:=(dec_okI 4 _ y m hA hy).2
  by_cases h10:y.Items.length=10
  case neg =>
   rw [if_pos (.inl h10)]
   have:((y.Items.length:Int) != 10)=true:=by rw [bne_iff_ne];omega
   simp only [f10_j2,hd,Option.bind_some,bne_self_eq_false,cond_false,this,cond_true,noB]
  have h10':((y.Items.length:Int) != 10)=false:=by rw [h10];rfl
  by_cases h16:q.Num>16
  ·rw [if_pos (.inr (.inl h16))]
   simp only [f10_j2,hd,Option.bind_some,bne_self_eq_false,cond_false,h10',g1,decide_eq_true h16,cond_true,noB]
  have hf:=flds k k (by omega) raw (r.Bytes.take (r.Bytes.length - 4)) x0 x1 x2 [p,q,r] y.Kind y.Num y.Bytes y.Items h10 (fun i hi=>(hyo i hi).2.2)
  cases hb:badN y.Items
  case true =>
   rw [if_pos (.inr (.inr rfl))]
   rw [hb,cond_true] at hf
   simp only [f10_j2,hd,Option.bind_some,bne_self_eq_false,cond_false,h10',g1,decide_eq_false h16,f10_j3,hf,noB]
  rw [hb,cond_false] at hf
  rw [if_neg (not_or.2 ⟨fun h=>h h10,not_or.2 ⟨h16,fun h=>by cases h⟩⟩)]
  have hN:∀ j,0≤numAt y.Items j∧numAt y.Items j≤4294967295:=fun j=>by
   unfold numAt
   cases hj:y.Items[j]? with
   | none=>simp
   | some i =>
    have hi:i∈y.Items:=List.mem_of_getElem? hj
    refine ⟨(hyo i hi).2.2,?_⟩
    have:=List.any_eq_false.1 hb i hi
    simpa using this
  have hw3:IntKind.u32.wrap (numAt y.Items 3)=numAt y.Items 3:=wrap_u32 (hN 3).1 (by have:=(hN 3).2;omega)
  have hwq:IntKind.i64.wrap q.Num=q.Num:=wrap_i64 (by have:=hq.2.2;omega) (by omega)
  have hpl:(r.Bytes.take (r.Bytes.length - 4)).length≤512:=by have:=hr.2.1;rw [List.length_take];omega
  have hpb:By (r.Bytes.take (r.Bytes.length - 4)):=hr.1.take _
  generalize hP:r.Bytes.take (r.Bytes.length - 4)=P at *
  have henc:=enc_at k (by omega) (bunOf y.Items q.Num P) (by show P.length≤5000;omega) hpb
  generalize hB:bunOf y.Items q.Num P=B at *
  have e1:f10_j2 k raw (p.Bytes.take (p.Bytes.length - 2)) P false 0 0 0 0 0 0 0 0 0 0 [] x0 x1 x2 [p,q,r]=f10_j5 k raw P 10 10 false 0 0 0 0 0 0 0 0 0 0 [] x0 x1 x2 [p,q,r] y.Kind y.Num y.Bytes y.Items (numAt y.Items 2) (numAt y.Items 1) 0 (numAt y.Items 4) (numAt y.Items 5) (numAt y.Items 9) 0 (numAt y.Items 8) (numAt y.Items 6) (numAt y.Items 7) [] (numAt y.Items 3) (numAt y.Items 0):=by
   simp only [f10_j2,hd,Option.bind_some,bne_self_eq_false,cond_false,h10',g1,decide_eq_false h16,f10_j3,hf]
  have henc':f14 k (numAt y.Items 2) (numAt y.Items 1) (numAt y.Items 3) (numAt y.Items 4) (numAt y.Items 5) (numAt y.Items 9) q.Num (numAt y.Items 8) (numAt y.Items 6) (numAt y.Items 7) P=some (if okP B then .o1 0 (bytesOf B) else .o0 [] 190):=by rw [←henc,←hB];rfl
  have hend:∀ z,f10_j6 k z 0 0 0 0 0 0 0 0 0 0 [] (numAt y.Items 2) (numAt y.Items 1) (numAt y.Items 3) (numAt y.Items 4) (numAt y.Items 5) (numAt y.Items 9) q.Num (numAt y.Items 8) (numAt y.Items 6) (numAt y.Items 7) P=some (ofB B 0):=fun z=>by rw [←hB];rfl
  rw [e1]
  by_cases hok:okP B
  ·rw [if_pos hok] at henc'
   have hlen:=bytesOf_len hok
   have hq2:=seq_at (bytesOf B) raw (by omega) (k - 1) (by omega)
   have heq:f21 k (bytesOf B) raw=some (.o0 (decide (bytesOf B=raw))):=by
    obtain ⟨k,rfl⟩:∃ m,k=m+1:=⟨k - 1,by omega⟩
    rw [Nat.add_sub_cancel] at hq2
    simp only [f21,f21_e,hq2,Option.bind_some]
   by_cases hbr:bytesOf B=raw
   ·rw [if_pos ⟨hok,hbr⟩]
    rw [decide_eq_true hbr] at heq
    simp only [f10_j5,g1,Option.bind_some,hw3,hwq,henc',bne_self_eq_false,cond_false,heq,Bool.not_true,hend]
   ·rw [if_neg (fun h=>hbr h.2)]
    rw [decide_eq_false hbr] at heq
    simp only [f10_j5,g1,Option.bind_some,hw3,hwq,henc',bne_self_eq_false,cond_false,heq,Bool.not_false,cond_true,noB]
  ·rw [if_neg hok] at henc'
   rw [if_neg (fun h=>hok h.1)]
   simp only [f10_j5,g1,Option.bind_some,hw3,hwq,henc',show ((190:Int) != 0)=true from rfl,cond_true,noB]
theorem bdec_at (k:Nat) (hk:9002≤k) (raw:List Int) (hb:By raw) (hl:raw.length≤5000):f10 k raw=some (bdS raw):=by
 obtain ⟨k,rfl⟩:∃ m,k=m+1:=⟨k - 1,by omega⟩
 have hd:=cdec_at k (by omega) raw hb (by omega)
 rw [bdS]
 cases hx:dec 4 raw with
 | err e =>
  rw [hx] at hd
  have hne:(e != 0)=true:=by
   obtain ⟨R,_,hR⟩:=get_at 4 700 (by omega) (by omega) raw hb (by omega) 0 (by omega)
   rw [List.drop_zero,hx] at hR
   rcases hR.1 with h | h<;>rw [h]<;>rfl
  simp only [f10,f10_e,hd,Option.bind_some,hne,cond_true,noB]
 | ok x n =>
  rw [hx] at hd
  have hxo:=(dec_okI 4 raw x n hb hx).2
  obtain ⟨xk,xn,xb,xi⟩:=x
  dsimp only at hd hxo ⊢
  by_cases hn:n=raw.length
  case neg =>
   rw [if_pos (.inl hn)]
   have:((n:Int) != (raw.length:Int))=true:=by rw [bne_iff_ne];omega
   simp only [f10,f10_e,hd,Option.bind_some,bne_self_eq_false,cond_false,this,cond_true,noB]
  have hn':((n:Int) != (raw.length:Int))=false:=by rw [hn,bne_self_eq_false]
  by_cases h4:xk=4
  case neg =>
   rw [if_pos (.inr h4)]
   simp only [f10,f10_e,hd,Option.bind_some,bne_self_eq_false,cond_false,hn',show (xk != 4)=true by simpa using h4,cond_true,noB]
  rw [if_neg (not_or.2 ⟨fun h=>h hn,fun h=>h h4⟩)]
  have h4':(xk != 4)=false:=by rw [h4];rfl
  have many:xi.length≠3→f10 (k+1) raw=some (noB 190):=fun h3=>by
   have:((xi.length:Int) != 3)=true:=by rw [bne_iff_ne];omega
   simp only [f10,f10_e,hd,Option.bind_some,bne_self_eq_false,cond_false,hn',h4',this,cond_true,noB]
  match xi,hxo,many,hd with
  | [],_,many,_=>exact many (by simp)
  | [_],_,many,_=>exact many (by simp)
  | [_,_],_,many,_=>exact many (by simp)
  | _::_::_::_::_,_,many,_=>exact many (by simp)
  | [p,q,r],hxo,_,hd =>
   dsimp only
   have h3:((([p,q,r]:List It).length:Int) != 3)=false:=rfl
   have g0:([p,q,r]:List It)[0]?=some p:=rfl
   have g1:([p,q,r]:List It)[1]?=some q:=rfl
   have g2:([p,q,r]:List It)[2]?=some r:=rfl
   have hf:=flow_at k (by omega) raw hl p q r (hxo p (by simp)) (hxo q (by simp)) (hxo r (by simp)) xk xn xb
   by_cases k1:p.Kind=2
   case neg =>
    rw [if_pos (.inl k1)]
    simp only [f10,f10_e,hd,Option.bind_some,bne_self_eq_false,cond_false,hn',h4',h3,g0,show (p.Kind != 2)=true by simpa using k1,cond_true,noB]
   have k1':(p.Kind != 2)=false:=by rw [k1];rfl
   by_cases k2:q.Kind=1
   case neg =>
    rw [if_pos (.inr (.inl k2))]
    simp only [f10,f10_e,hd,Option.bind_some,bne_self_eq_false,cond_false,hn',h4',h3,g0,g1,k1',show (q.Kind != 1)=true by simpa using k2,cond_true,noB]
   have k2':(q.Kind != 1)=false:=by rw [k2];rfl
   by_cases k3:r.Kind=2
   case neg =>
    rw [if_pos (.inr (.inr k3))]
    simp only [f10,f10_e,hd,Option.bind_some,bne_self_eq_false,cond_false,hn',h4',h3,g0,g1,g2,k1',k2',show (r.Kind != 2)=true by simpa using k3,cond_true,noB]
   have k3':(r.Kind != 2)=false:=by rw [k3];rfl
   rw [if_neg (not_or.2 ⟨fun h=>h k1,not_or.2 ⟨fun h=>h k2,fun h=>h k3⟩⟩)]
   simp only [f10,f10_e,hd,Option.bind_some,bne_self_eq_false,cond_false,hn',h4',h3,g0,g1,g2,k1',k2',k3',hf]
theorem bytesOf_pack {b:Bun} (h:okP b):bytesOf b=pack (seal16B (headOf b)) b.Hops.toNat (seal32B b.Payload):=by
 have h1:=headOf_len b
 unfold okP at h
 have w1:IntKind.u64.wrap (((seal16B (headOf b)).length:Nat):Int)=((seal16B (headOf b)).length:Int):=wrap_u64 (by omega) (by rw [seal16B_len];omega)
 have w2:IntKind.u64.wrap (((seal32B b.Payload).length:Nat):Int)=((seal32B b.Payload).length:Int):=wrap_u64 (by omega) (by rw [seal32B_len];omega)
 have w3:IntKind.u64.wrap b.Hops=((b.Hops.toNat:Nat):Int):=by rw [wrap_u64 (by omega) (by omega)];omega
 rw [bytesOf,w1,w2,w3]
 rfl
theorem dec_headOf (b:Bun):dec 4 (headOf b)=.ok ⟨4,0,[],(numsOf b).map numIt⟩ (headOf b).length:=dec_nums (numsOf b) (by simp [numsOf])
theorem bun_back {b:Bun} (h:okP b) (hs:b.Seq<4294967296):bunOf ((numsOf b).map numIt) b.Hops b.Payload=b:=by
 unfold okP at h
 obtain ⟨b0,b1,b2,b3,b4,b5,b6,b7,b8,b9,b10⟩:=b
 simp only at h hs
 have w2:IntKind.i64.wrap b2=b2:=wrap_i64 (by omega) (by omega)
 simp only [bunOf,numsOf,List.map_cons,numAt,List.getElem?_cons_zero,List.getElem?_cons_succ,numIt,w2]
 rw [wrap_u64 (show 0≤b0 by omega) (by omega),wrap_u64 (show 0≤b1 by omega) (by omega),wrap_u64 (show 0≤b2 by omega) (by omega),wrap_u64 (show 0≤b3 by omega) (by omega),wrap_u64 (show 0≤b4 by omega) (by omega),wrap_u64 (show 0≤b5 by omega) (by omega),wrap_u64 (show 0≤b7 by omega) (by omega),wrap_u64 (show 0≤b8 by omega) (by omega),wrap_u64 (show 0≤b9 by omega) (by omega)]
theorem nums_small {b:Bun} (h:okP b) (hs:b.Seq<4294967296):badN ((numsOf b).map numIt)=false:=by
 unfold okP at h
 have w2:IntKind.i64.wrap b.Seq=b.Seq:=wrap_i64 (by omega) (by omega)
 rw [badN,List.any_eq_false]
 intro i hi
 obtain ⟨n,hn,rfl⟩:=List.mem_map.1 hi
 have hb:0≤n∧n<4294967296:=by
  simp only [numsOf,List.mem_cons,List.not_mem_nil,or_false,w2] at hn
  rcases hn with rfl | rfl | rfl | rfl | rfl | rfl | rfl | rfl | rfl | rfl<;>omega
 simp only [numIt,wrap_u64 hb.1 (show n<18446744073709551616 by omega),decide_eq_true_eq]
 omega
theorem opn16_seal (l:List Int):opn16 (seal16B l)=true∧(seal16B l).take ((seal16B l).length - 2)=l:=by
 have h:(seal16B l).take ((seal16B l).length - 2)=l:=by
  rw [seal16B_len,Nat.add_sub_cancel,seal16B,List.take_left]
 refine ⟨?_,h⟩
 rw [opn16,h,decide_eq_true rfl,Bool.and_true,decide_eq_true_iff,seal16B_len]
 omega
theorem opn32_seal (l:List Int):opn32 (seal32B l)=true∧(seal32B l).take ((seal32B l).length - 4)=l:=by
 have h:(seal32B l).take ((seal32B l).length - 4)=l:=by
  rw [seal32B_len,Nat.add_sub_cancel,seal32B,List.take_left]
 refine ⟨?_,h⟩
 rw [opn32,h,decide_eq_true rfl,Bool.and_true,decide_eq_true_iff,seal32B_len]
 omega
theorem bdS_cases (raw:List Int) (hb:By raw):(∃ b:Bun,okP b∧b.Seq<4294967296∧By b.Payload∧b.Payload.length≤512∧bytesOf b=raw∧bdS raw=ofB b 0)∨bdS raw=noB 190∨bdS raw=noB 130:=by
 rw [bdS]
 cases hx:dec 4 raw with
 | err e=>exact .inr (.inl rfl)
 | ok x n =>
  have hxo:=(dec_okI 4 raw x n hb hx).2
  dsimp only
  split
  ·exact .inr (.inl rfl)
  split
  ·rename_i p q r hi
   rw [hi] at hxo
   split
   ·exact .inr (.inl rfl)
   rw [flow]
   cases !(opn16 p.Bytes&&opn32 r.Bytes)
   ·rw [cond_false]
    cases hy:dec 4 (p.Bytes.take (p.Bytes.length - 2)) with
    | err e=>exact .inr (.inl rfl)
    | ok y m =>
     dsimp only
     split
     ·exact .inr (.inl rfl)
     rename_i hgood
     split
     ·rename_i hok
      refine .inl ⟨_,hok.1,?_,(hxo r (by simp)).1.take _,?_,hok.2,rfl⟩
      ·show numAt y.Items 3<4294967296
       have hbn:¬badN y.Items=true:=fun h=>hgood (.inr (.inr h))
       unfold numAt
       cases hj:y.Items[3]? with
       | none=>decide
       | some i =>
        have hi:i∈y.Items:=List.mem_of_getElem? hj
        have hbf:badN y.Items=false:=by simpa using hbn
        have:=List.any_eq_false.1 hbf i hi
        have:¬i.Num>4294967295:=by simpa using this
        show i.Num<4294967296
        omega
      ·have:=(hxo r (by simp)).2.1
       show (r.Bytes.take (r.Bytes.length - 4)).length≤512
       rw [List.length_take]
       omega
     ·exact .inr (.inl rfl)
   ·exact .inr (.inr rfl)
  ·exact .inr (.inl rfl)
end Go.Proofs.YtbnnmplkbpgcaaaDoorV