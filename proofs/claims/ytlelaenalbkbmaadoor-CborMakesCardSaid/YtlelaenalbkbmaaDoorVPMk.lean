/- What cbor.Number,cbor.Bytes and cbor.List make;the document's Same. -/
import Derived.Test.YtlelaenalbkbmaaDoorVPSame
namespace Go.Proofs.YtlelaenalbkbmaaDoorV
open Go
set_option linter.unusedVariables false
set_option linter.unusedSimpArgs false
theorem clone_at (k:Nat) (hk:1≤k) (l:List Int) (hl:l.length≤140737488351232):f28 k l=some (.o0 l):=by
 obtain ⟨k,rfl⟩:∃ m,k=m+1:=⟨k - 1,by omega⟩
 simp only [f28,ifE_pos (show l.length * 1≤roomy by unfold roomy;omega)]
theorem own_loop (k:Nat) (X:List It) (hX:X.length≤1000) (a b c d:Int) (e f:List Int) (g:List It) (hq:∀ y∈X,f29 k y.Kind y.Num y.Bytes y.Items=some (.o0 y.Kind y.Num y.Bytes y.Items)):∀ (m i n:Nat) (acc:List It),i+m=X.length→m<n→acc.length=i →
 f29_l1 k (f29 k) n X X.length i a b e acc c d f g=some (.o1 X X.length X.length false a b e (acc++X.drop i) c d f g):=by
 intro m
 induction m with
 | zero =>
  intro i n acc hi hn ha
  obtain ⟨n,rfl⟩:∃ m,n=m+1:=⟨n - 1,by omega⟩
  have e:i=X.length:=by omega
  subst e
  rw [List.drop_length,List.append_nil]
  simp only [f29_l1,f29_l1_b,decide_eq_false (Int.lt_irrefl _),cond_false,Option.bind_some]
 | succ m ih =>
  intro i n acc hi hn ha
  obtain ⟨n,rfl⟩:∃ m,n=m+1:=⟨n - 1,by omega⟩
  have h1:i<X.length:=by omega
  have g1:X[i]?=some X[i]:=List.getElem?_eq_getElem h1
  have hm:=hq X[i] (List.getElem_mem h1)
  have hr:(acc.length+1) * 64≤roomy:=by unfold roomy;omega
  have ih':=ih (i+1) n (acc++[X[i]]) (by omega) (by omega) (by simp [ha])
  rw [List.append_assoc,List.singleton_append,←List.drop_eq_getElem_cons h1] at ih'
  have eta:(T28.mk X[i].Kind X[i].Num X[i].Bytes X[i].Items:It)=X[i]:=by cases X[i];rfl
  simp only [f29_l1,f29_l1_b,decide_eq_true (show (i:Int)<(X.length:Int) by omega),cond_true,f29_l1_j1,ifE_pos (show (0:Int)≤(i:Int) by omega),Int.toNat_natCast,g1,Option.bind_some,hm,ifE_pos hr,f29_l1_j2,nextN h1 (by omega),eta,ih']
theorem own_at (B:Nat) (hB:B≤140737488351232):∀ (m:Nat) (x:It),(nodes x).length≤m→Fit B x→∀ k,130+m≤k→f29 k x.Kind x.Num x.Bytes x.Items=some (.o0 x.Kind x.Num x.Bytes x.Items):=by
 intro m
 induction m with
 | zero=>intro x hm;rw [nodes_eq,List.length_cons] at hm;omega
 | succ m ih =>
  intro x hm hx k hk
  obtain ⟨k,rfl⟩:∃ j,k=j+1:=⟨k - 1,by omega⟩
  have hl:=hx.top.len
  have hi:=hx.items
  have hc:=clone_at k (by omega) x.Bytes (by omega)
  have h:=own_loop k x.Items (by omega) x.Kind x.Num 0 0 x.Bytes [] [] (fun y hy=>ih y (by have:=item_lt hy;omega) (hx.item hy) k (by omega)) x.Items.length 0 k [] (by omega) (by omega) rfl
  rw [List.drop_zero,List.nil_append,Int.natCast_zero] at h
  simp only [f29,f29_e,hc,Option.bind_some,h,f29_j2]
theorem list_loop (k:Nat) (X:List It) (hX:X.length≤1000) (a b c d:Int) (e f:List Int) (g:List It) (hq:∀ y∈X,f29 k y.Kind y.Num y.Bytes y.Items=some (.o0 y.Kind y.Num y.Bytes y.Items)):∀ (m i n:Nat) (acc:List It),i+m=X.length→m<n→acc.length=i →
 f18_l1 k n X X.length i a b e g c d f acc=some (.o1 X X.length X.length false a b e g c d f (acc++X.drop i)):=by
 intro m
 induction m with
 | zero =>
  intro i n acc hi hn ha
  obtain ⟨n,rfl⟩:∃ m,n=m+1:=⟨n - 1,by omega⟩
  have e:i=X.length:=by omega
  subst e
  rw [List.drop_length,List.append_nil]
  simp only [f18_l1,f18_l1_b,decide_eq_false (Int.lt_irrefl _),cond_false,Option.bind_some]
 | succ m ih =>
  intro i n acc hi hn ha
  obtain ⟨n,rfl⟩:∃ m,n=m+1:=⟨n - 1,by omega⟩
  have h1:i<X.length:=by omega
  have g1:X[i]?=some X[i]:=List.getElem?_eq_getElem h1
  have hm:=hq X[i] (List.getElem_mem h1)
  have hr:(acc.length+1) * 64≤roomy:=by unfold roomy;omega
  have ih':=ih (i+1) n (acc++[X[i]]) (by omega) (by omega) (by simp [ha])
  rw [List.append_assoc,List.singleton_append,←List.drop_eq_getElem_cons h1] at ih'
  have eta:(T28.mk X[i].Kind X[i].Num X[i].Bytes X[i].Items:It)=X[i]:=by cases X[i];rfl
  simp only [f18_l1,f18_l1_b,decide_eq_true (show (i:Int)<(X.length:Int) by omega),cond_true,f18_l1_j1,ifE_pos (show (0:Int)≤(i:Int) by omega),Int.toNat_natCast,g1,Option.bind_some,hm,ifE_pos hr,f18_l1_j2,nextN h1 (by omega),eta,ih']
theorem list_at (k:Nat) (hk:1003≤k) (X:List It) (hX:X.length≤1000) (hq:∀ y∈X,f29 (k - 1) y.Kind y.Num y.Bytes y.Items=some (.o0 y.Kind y.Num y.Bytes y.Items)):f18 k X=some (.o0 4 0 [] X):=by
 obtain ⟨k,rfl⟩:∃ j,k=j+1:=⟨k - 1,by omega⟩
 have h:=list_loop k X hX 0 0 4 0 [] [] [] hq X.length 0 k [] (by omega) (by omega) rfl
 rw [List.drop_zero,List.nil_append,Int.natCast_zero] at h
 simp only [f18,f18_e,h,Option.bind_some,f18_j2]
theorem r1_loop (l1 l2:List Int) (hb:l1.length<4611686018427387904) (h:l1.length=l2.length) (k:Nat):∀ (d i n:Nat),i+d=l1.length→d<n →
 f14_l2 k n l1 l2 i=if l1.drop i=l2.drop i then some (.o2 l1 l2 l1.length false) else some (.o0 false):=by
 intro d
 induction d with
 | zero =>
  intro i n hid hn
  obtain ⟨n,rfl⟩:∃ m,n=m+1:=⟨n - 1,by omega⟩
  have e1:l1.drop i=[]:=List.drop_eq_nil_of_le (by omega)
  have e2:l2.drop i=[]:=List.drop_eq_nil_of_le (by omega)
  have e3:i=l1.length:=by omega
  subst e3
  simp [f14_l2,f14_l2_b,e2]
 | succ d ih =>
  intro i n hid hn
  obtain ⟨n,rfl⟩:∃ m,n=m+1:=⟨n - 1,by omega⟩
  have h1:i<l1.length:=by omega
  have h2:i<l2.length:=by omega
  have g1:l1[i]?=some l1[i]:=List.getElem?_eq_getElem h1
  have g2:l2[i]?=some l2[i]:=List.getElem?_eq_getElem h2
  have hlt:((i:Int)<(l1.length:Int)):=by omega
  have ih':=ih (i+1) n (by omega) (by omega)
  rw [List.drop_eq_getElem_cons h1,List.drop_eq_getElem_cons h2]
  by_cases he:l1[i]=l2[i]
  ·simp only [f14_l2,f14_l2_b,f14_l2_j1,f14_l2_j2,decide_eq_true hlt,cond_true,ifE_pos (show (0:Int)≤i by omega),Int.toNat_natCast,g1,g2,Option.bind_some,he,bne_self_eq_false,cond_false,nextN h1 hb,ih',List.cons.injEq,true_and]
  ·have hne:(l1[i] != l2[i])=true:=by simpa using he
   simp only [f14_l2,f14_l2_b,f14_l2_j1,f14_l2_j2,decide_eq_true hlt,cond_true,ifE_pos (show (0:Int)≤i by omega),Int.toNat_natCast,g1,g2,Option.bind_some,hne,List.cons.injEq,he,false_and,if_false]
theorem r1_at (k:Nat) (l1 l2:List Int) (hb:l1.length<4611686018427387904) (hk:l1.length+3≤k):f14 k l1 l2=some (.o0 (decide (l1=l2))):=by
 obtain ⟨k,rfl⟩:∃ m,k=m+1:=⟨k - 1,by omega⟩
 by_cases hl:l1.length=l2.length
 ·have h:=r1_loop l1 l2 hb hl k l1.length 0 k (by omega) (by omega)
  rw [Int.natCast_zero,List.drop_zero,List.drop_zero] at h
  have hne:(((l1.length:Nat):Int) != ((l2.length:Nat):Int))=false:=by simp [hl]
  by_cases he:l1=l2
  ·rw [if_pos he] at h
   simp only [f14,f14_e,hne,cond_false,f14_j1,h,Option.bind_some,f14_j3,decide_eq_true he]
  ·rw [if_neg he] at h
   simp only [f14,f14_e,hne,cond_false,f14_j1,h,Option.bind_some,decide_eq_false he]
 ·have hne:(((l1.length:Nat):Int) != ((l2.length:Nat):Int))=true:=by simp;omega
  simp only [f14,f14_e,hne,cond_true,decide_eq_false (show ¬l1=l2 from fun e=>hl (e▸rfl))]
abbrev RSame (k:Nat) (x y:It) (b:Bool):Prop:=f19d k x.Kind x.Num x.Bytes x.Items y.Kind y.Num y.Bytes y.Items=some (.o0 b)
theorem r7_loop (k:Nat) (a b c d:Int) (e f:List Int) (l1 l2:List It) (hb:l1.length≤1000) (h:l1.length=l2.length) (hq:∀ x∈l1,∀ y∈l2,∃ b,RSame k x y b∧(b=true↔x=y)):∀ (m i n:Nat),i+m=l1.length→m<n →
 (l1.drop i=l2.drop i→f19d_l2 k (f19d k) n i a b e l1 c d f l2=some (.o2 l1.length false a b e l1 c d f l2)) ∧
 (l1.drop i≠l2.drop i→f19d_l2 k (f19d k) n i a b e l1 c d f l2=some (.o0 false)):=by
 intro m
 induction m with
 | zero =>
  intro i n hid hn
  obtain ⟨n,rfl⟩:∃ m,n=m+1:=⟨n - 1,by omega⟩
  have e1:l1.drop i=[]:=List.drop_eq_nil_of_le (by omega)
  have e2:l2.drop i=[]:=List.drop_eq_nil_of_le (by omega)
  have e3:i=l1.length:=by omega
  subst e3
  refine ⟨fun _ => ?_,fun he=>absurd (e1.trans e2.symm) he⟩
  simp only [f19d_l2,f19d_l2_b,decide_eq_false (Int.lt_irrefl _),cond_false,Option.bind_some]
 | succ m ih =>
  intro i n hid hn
  obtain ⟨n,rfl⟩:∃ m,n=m+1:=⟨n - 1,by omega⟩
  have h1:i<l1.length:=by omega
  have h2:i<l2.length:=by omega
  have g1:l1[i]?=some l1[i]:=List.getElem?_eq_getElem h1
  have g2:l2[i]?=some l2[i]:=List.getElem?_eq_getElem h2
  have hlt:((i:Int)<(l1.length:Int)):=by omega
  obtain ⟨i1,i2⟩:=ih (i+1) n (by omega) (by omega)
  obtain ⟨q,hb1,hb2⟩:=hq l1[i] (List.getElem_mem h1) l2[i] (List.getElem_mem h2)
  rw [List.drop_eq_getElem_cons h1,List.drop_eq_getElem_cons h2]
  by_cases he:l1[i]=l2[i]
  ·have hbt:q=true:=hb2.2 he
   subst hbt
   have st:f19d_l2 k (f19d k) (n+1) i a b e l1 c d f l2=f19d_l2 k (f19d k) n ((i+1:Nat):Int) a b e l1 c d f l2:=by
    simp only [f19d_l2,f19d_l2_b,f19d_l2_j1,f19d_l2_j2,decide_eq_true hlt,cond_true,ifE_pos (show (0:Int)≤i by omega),Int.toNat_natCast,g1,g2,Option.bind_some,hb1,Bool.not_true,cond_false,nextN h1 (by omega)]
   rw [st]
   exact ⟨fun e=>i1 (List.cons.inj e).2,fun e=>i2 fun e'=>e (by rw [he,e'])⟩
  ·have hbf:q=false:=by cases q with | false=>rfl | true=>exact absurd (hb2.1 rfl) he
   subst hbf
   refine ⟨fun e=>absurd (List.cons.inj e).1 he,fun _ => ?_⟩
   simp only [f19d_l2,f19d_l2_b,f19d_l2_j1,decide_eq_true hlt,cond_true,ifE_pos (show (0:Int)≤i by omega),Int.toNat_natCast,g1,g2,Option.bind_some,hb1,Bool.not_false]
theorem r7_at (B:Nat) (hB:B<4611686018427387904):∀ (m:Nat) (x y:It),(nodes x).length≤m→Fit B x→Fit B y→∀ k,B+130+2 * m≤k→∃ b,RSame k x y b∧(b=true↔x=y):=by
 intro m
 induction m with
 | zero=>intro x y hm;rw [nodes_eq,List.length_cons] at hm;omega
 | succ m ih =>
  intro x y hm hx hy k hk
  obtain ⟨k,rfl⟩:∃ j,k=j+1:=⟨k - 1,by omega⟩
  unfold RSame
  by_cases h1:x.Kind=y.Kind
  ·by_cases h2:x.Num=y.Num
   ·have e1:(x.Kind != y.Kind)=false:=by simpa using h1
    have e2:(x.Num != y.Num)=false:=by simpa using h2
    have hl:=hx.top.len
    have e3:=r1_at k x.Bytes y.Bytes (by omega) (by omega)
    by_cases h3:x.Bytes=y.Bytes
    ·rw [decide_eq_true h3] at e3
     have hil:=hx.items
     by_cases h5:x.Items.length=y.Items.length
     ·have hne:(((x.Items.length:Nat):Int) != ((y.Items.length:Nat):Int))=false:=by simp [h5]
      obtain ⟨l1,l2⟩:=r7_loop k x.Kind x.Num y.Kind y.Num x.Bytes y.Bytes x.Items y.Items (by omega) h5 (fun u hu v hv=>ih u v (by have:=item_lt hu;omega) (hx.item hu) (hy.item hv) k (by omega)) x.Items.length 0 k (by omega) (by omega)
      rw [List.drop_zero,List.drop_zero,Int.natCast_zero] at l1 l2
      by_cases h4:x.Items=y.Items
      ·exact ⟨true,by simp only [f19d,f19d_e,e1,e2,e3,cond_false,Option.bind_some,Bool.not_true,hne,f19d_j1,l1 h4,f19d_j3],by simp;exact it_ext' h1 h2 h3 h4⟩
      ·exact ⟨false,by simp only [f19d,f19d_e,e1,e2,e3,cond_false,Option.bind_some,Bool.not_true,hne,f19d_j1,l2 h4],by simp;exact fun e=>h4 (by rw [e])⟩
     ·have hne:(((x.Items.length:Nat):Int) != ((y.Items.length:Nat):Int))=true:=by simp;omega
      exact ⟨false,by simp only [f19d,f19d_e,e1,e2,e3,cond_false,Option.bind_some,Bool.not_true,hne,cond_true],by simp;exact fun e=>h5 (by rw [e])⟩
    ·rw [decide_eq_false h3] at e3
     exact ⟨false,by simp only [f19d,f19d_e,e1,e2,e3,cond_false,Option.bind_some,Bool.not_false,cond_true],by simp;exact fun e=>h3 (by rw [e])⟩
   ·have e1:(x.Kind != y.Kind)=false:=by simpa using h1
    have e2:(x.Num != y.Num)=true:=by simpa using h2
    exact ⟨false,by simp only [f19d,f19d_e,e1,e2,cond_true,cond_false],by simp;exact fun e=>h2 (by rw [e])⟩
  ·have e1:(x.Kind != y.Kind)=true:=by simpa using h1
   exact ⟨false,by simp only [f19d,f19d_e,e1,cond_true],by simp;exact fun e=>h1 (by rw [e])⟩
end Go.Proofs.YtlelaenalbkbmaaDoorV