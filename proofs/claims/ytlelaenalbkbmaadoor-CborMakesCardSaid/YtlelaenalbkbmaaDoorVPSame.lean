/- cbor.Same: items are held against each other. -/
import Derived.Test.YtlelaenalbkbmaaDoorVPNod
namespace Go.Proofs.YtlelaenalbkbmaaDoorV
open Go
set_option linter.unusedVariables false
set_option linter.unusedSimpArgs false
theorem seq_loop (l1 l2:List Int) (hb:l1.length<4611686018427387904) (h:l1.length=l2.length) (k:Nat):∀ (d i n:Nat),i+d=l1.length→d<n →
 f33_l2 k n l1 l2 l1.length i=if l1.drop i=l2.drop i then some (.o2 l1 l2 l1.length l1.length false) else some (.o0 false):=by
 intro d
 induction d with
 | zero =>
  intro i n hid hn
  obtain ⟨n,rfl⟩:∃ m,n=m+1:=⟨n - 1,by omega⟩
  have e1:l1.drop i=[]:=List.drop_eq_nil_of_le (by omega)
  have e2:l2.drop i=[]:=List.drop_eq_nil_of_le (by omega)
  have e3:i=l1.length:=by omega
  subst e3
  simp [f33_l2,f33_l2_b,e2]
 | succ d ih =>
  intro i n hid hn
  obtain ⟨n,rfl⟩:∃ m,n=m+1:=⟨n - 1,by omega⟩
  have h1:i<l1.length:=by omega
  have h2:i<l2.length:=by omega
  have g1:l1[i]?=some l1[i]:=List.getElem?_eq_getElem h1
  have g2:l2[i]?=some l2[i]:=List.getElem?_eq_getElem h2
  have hlt:((i:Int)<(l1.length:Int)):=by omega
  have ih':=ih (i+1) n (by omega) (by omega)
  rw [List.drop_eq_getElem_cons h1,List.drop_eq_getElem_cons h2]
  by_cases he:l1[i]=l2[i]
  ·simp only [f33_l2,f33_l2_b,f33_l2_j1,f33_l2_j2,decide_eq_true hlt,cond_true,ifE_pos (show (0:Int)≤i by omega),Int.toNat_natCast,g1,g2,Option.bind_some,he,bne_self_eq_false,cond_false,nextN h1 hb,ih',List.cons.injEq,true_and]
  ·have hne:(l1[i] != l2[i])=true:=by simpa using he
   simp only [f33_l2,f33_l2_b,f33_l2_j1,f33_l2_j2,decide_eq_true hlt,cond_true,ifE_pos (show (0:Int)≤i by omega),Int.toNat_natCast,g1,g2,Option.bind_some,hne,List.cons.injEq,he,false_and,if_false]
theorem oeq_at (k:Nat) (l1 l2:List Int) (hb:l1.length<4611686018427387904) (hk:l1.length+4≤k):f21 k l1 l2=some (.o0 (decide (l1=l2))):=by
 obtain ⟨k,rfl⟩:∃ m,k=m+2:=⟨k - 2,by omega⟩
 by_cases hl:l1.length=l2.length
 ·have h:=seq_loop l1 l2 hb hl k l1.length 0 k (by omega) (by omega)
  rw [Int.natCast_zero,List.drop_zero,List.drop_zero] at h
  have hne:(((l1.length:Nat):Int) != ((l2.length:Nat):Int))=false:=by simp [hl]
  by_cases he:l1=l2
  ·rw [if_pos he] at h
   simp only [f21,f21_e,f33,f33_e,hne,cond_false,f33_j1,h,Option.bind_some,f33_j3,decide_eq_true he]
  ·rw [if_neg he] at h
   simp only [f21,f21_e,f33,f33_e,hne,cond_false,f33_j1,h,Option.bind_some,decide_eq_false he]
 ·have hne:(((l1.length:Nat):Int) != ((l2.length:Nat):Int))=true:=by simp;omega
  simp only [f21,f21_e,f33,f33_e,hne,cond_true,Option.bind_some,decide_eq_false (show ¬l1=l2 from fun e=>hl (e▸rfl))]
abbrev SameA (k:Nat) (x y:It) (b:Bool):Prop:=f11 k x.Kind x.Num x.Bytes x.Items y.Kind y.Num y.Bytes y.Items=some (.o0 b)
theorem efn_loop (k:Nat) (l1 l2:List It) (hb:l1.length≤1000) (h:l1.length=l2.length) (hq:∀ x∈l1,∀ y∈l2,∃ b,SameA k x y b∧(b=true↔x=y)):∀ (d i n:Nat),i+d=l1.length→d<n →
 (l1.drop i=l2.drop i→f23_rrf11_l2 k (f11 k) (f23_rrf11 k) n l2 l1 l1.length i=some (.o2 l2 l1 l1.length l1.length false)) ∧
 (l1.drop i≠l2.drop i→f23_rrf11_l2 k (f11 k) (f23_rrf11 k) n l2 l1 l1.length i=some (.o0 false)):=by
 intro d
 induction d with
 | zero =>
  intro i n hid hn
  obtain ⟨n,rfl⟩:∃ m,n=m+1:=⟨n - 1,by omega⟩
  have e1:l1.drop i=[]:=List.drop_eq_nil_of_le (by omega)
  have e2:l2.drop i=[]:=List.drop_eq_nil_of_le (by omega)
  have e3:i=l1.length:=by omega
  subst e3
  refine ⟨fun _ => ?_,fun he=>absurd (e1.trans e2.symm) he⟩
  simp only [f23_rrf11_l2,f23_rrf11_l2_b,decide_eq_false (Int.lt_irrefl _),cond_false,Option.bind_some]
 | succ d ih =>
  intro i n hid hn
  obtain ⟨n,rfl⟩:∃ m,n=m+1:=⟨n - 1,by omega⟩
  have h1:i<l1.length:=by omega
  have h2:i<l2.length:=by omega
  have g1:l1[i]?=some l1[i]:=List.getElem?_eq_getElem h1
  have g2:l2[i]?=some l2[i]:=List.getElem?_eq_getElem h2
  have hlt:((i:Int)<(l1.length:Int)):=by omega
  obtain ⟨i1,i2⟩:=ih (i+1) n (by omega) (by omega)
  obtain ⟨b,hb1,hb2⟩:=hq l1[i] (List.getElem_mem h1) l2[i] (List.getElem_mem h2)
  rw [List.drop_eq_getElem_cons h1,List.drop_eq_getElem_cons h2]
  by_cases he:l1[i]=l2[i]
  ·have hbt:b=true:=hb2.2 he
   subst hbt
   have st:f23_rrf11_l2 k (f11 k) (f23_rrf11 k) (n+1) l2 l1 l1.length i=f23_rrf11_l2 k (f11 k) (f23_rrf11 k) n l2 l1 l1.length ((i+1:Nat):Int):=by
    simp only [f23_rrf11_l2,f23_rrf11_l2_b,f23_rrf11_l2_j1,f23_rrf11_l2_j2,decide_eq_true hlt,cond_true,ifE_pos (show (0:Int)≤i by omega),Int.toNat_natCast,g1,g2,Option.bind_some,hb1,Bool.not_true,cond_false,nextN h1 (by omega)]
   rw [st]
   exact ⟨fun e=>i1 (List.cons.inj e).2,fun e=>i2 fun e'=>e (by rw [he,e'])⟩
  ·have hbf:b=false:=by cases b with | false=>rfl | true=>exact absurd (hb2.1 rfl) he
   subst hbf
   refine ⟨fun e=>absurd (List.cons.inj e).1 he,fun _ => ?_⟩
   simp only [f23_rrf11_l2,f23_rrf11_l2_b,f23_rrf11_l2_j1,decide_eq_true hlt,cond_true,ifE_pos (show (0:Int)≤i by omega),Int.toNat_natCast,g1,g2,Option.bind_some,hb1,Bool.not_false]
theorem same_at (B:Nat) (hB:B<4611686018427387904):∀ (m:Nat) (x y:It),(nodes x).length≤m→Fit B x→Fit B y→∀ k,B+130+2 * m≤k→∃ b,SameA k x y b∧(b=true↔x=y):=by
 intro m
 induction m with
 | zero=>intro x y hm;rw [nodes_eq,List.length_cons] at hm;omega
 | succ m ih =>
  intro x y hm hx hy k hk
  obtain ⟨k,rfl⟩:∃ j,k=j+2:=⟨k - 2,by omega⟩
  unfold SameA
  by_cases h1:x.Kind=y.Kind
  ·by_cases h2:x.Num=y.Num
   ·have e1:(x.Kind==y.Kind)=true:=by simpa using h1
    have e2:(x.Num==y.Num)=true:=by simpa using h2
    have hl:=hx.top.len
    have e3:=oeq_at (k+1) x.Bytes y.Bytes (by omega) (by omega)
    by_cases h3:x.Bytes=y.Bytes
    ·rw [decide_eq_true h3] at e3
     have fin:∀ b,f23_rrf11 (k+1) x.Items y.Items=some (.o0 b)→(b=true↔x.Items=y.Items)→∃ b,f11 (k+2) x.Kind x.Num x.Bytes x.Items y.Kind y.Num y.Bytes y.Items=some (.o0 b)∧(b=true↔x=y):=fun b hb he =>
      ⟨b,by simp only [f11,f11_e,e1,e2,e3,cond_true,Option.bind_some,hb],he.trans ⟨fun h4=>it_ext' h1 h2 h3 h4,fun h=>by rw [h]⟩⟩
     have hil:=hx.items
     by_cases h5:x.Items.length=y.Items.length
     ·have hne:(((x.Items.length:Nat):Int) != ((y.Items.length:Nat):Int))=false:=by simp [h5]
      obtain ⟨l1,l2⟩:=efn_loop k x.Items y.Items (by omega) h5 (fun u hu v hv=>ih u v (by have:=item_lt hu;omega) (hx.item hu) (hy.item hv) k (by omega)) x.Items.length 0 k (by omega) (by omega)
      rw [List.drop_zero,List.drop_zero,Int.natCast_zero] at l1 l2
      by_cases h4:x.Items=y.Items
      ·refine fin true ?_ (by simp [h4])
       simp only [f23_rrf11,f23_rrf11_e,hne,cond_false,f23_rrf11_j1,l1 h4,Option.bind_some,f23_rrf11_j3]
      ·refine fin false ?_ (by simp [h4])
       simp only [f23_rrf11,f23_rrf11_e,hne,cond_false,f23_rrf11_j1,l2 h4,Option.bind_some]
     ·have hne:(((x.Items.length:Nat):Int) != ((y.Items.length:Nat):Int))=true:=by simp;omega
      refine fin false ?_ (by simp;exact fun e=>h5 (by rw [e]))
      simp only [f23_rrf11,f23_rrf11_e,hne,cond_true]
    ·rw [decide_eq_false h3] at e3
     exact ⟨false,by simp only [f11,f11_e,e1,e2,e3,cond_true,Option.bind_some,cond_false],by simp;exact fun e=>h3 (by rw [e])⟩
   ·have e1:(x.Kind==y.Kind)=true:=by simpa using h1
    have e2:(x.Num==y.Num)=false:=by simpa using h2
    exact ⟨false,by simp only [f11,f11_e,e1,e2,cond_true,cond_false],by simp;exact fun e=>h2 (by rw [e])⟩
  ·have e1:(x.Kind==y.Kind)=false:=by simpa using h1
   exact ⟨false,by simp only [f11,f11_e,e1,cond_false],by simp;exact fun e=>h1 (by rw [e])⟩
end Go.Proofs.YtlelaenalbkbmaaDoorV