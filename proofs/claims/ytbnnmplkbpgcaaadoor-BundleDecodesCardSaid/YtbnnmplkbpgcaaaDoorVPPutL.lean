/- Lists of items without parts: may they be,their bytes. -/
import Derived.Test.YtbnnmplkbpgcaaaDoorVPHead
namespace Go.Proofs.YtbnnmplkbpgcaaaDoorV
open Go
set_option linter.unusedVariables false
set_option linter.unusedSimpArgs false
def Leaf2 (x:It):Prop:=x.Items=[]∧x.Bytes.length≤6000∧(x.Kind=1∧x.Bytes=[]∨x.Kind=2∧x.Num=0)
def leafB (x:It):List Int:=cond (x.Kind==1) (hd 0 x.Num) (hd 2 (IntKind.u64.wrap (x.Bytes.length:Int))++x.Bytes)
def okL (X:List It):Bool:=X.all fun x=>decide (x.Bytes.length≤512)
theorem hd_len (t n:Int):(hd t n).length≤9:=by
 unfold hd
 cases decide (n<24)<;>cases decide (n<256)<;>cases decide (n<65536)<;>cases decide (n<4294967296)<;>simp [beL]
theorem leafB_len {x:It} (h:Leaf2 x):(leafB x).length≤6009:=by
 obtain ⟨_,h2,_⟩:=h
 unfold leafB
 cases x.Kind==1
 ·simp only [cond_false,List.length_append];have:=hd_len 2 (IntKind.u64.wrap (x.Bytes.length:Int));omega
 ·simp only [cond_true];have:=hd_len 0 x.Num;omega
theorem plain_at (k:Nat) (hk:1≤k) (x:It) (h:Leaf2 x):f72 k x.Kind x.Num x.Bytes []=some (.o0 true):=by
 obtain ⟨k,rfl⟩:∃ m,k=m+1:=⟨k - 1,by omega⟩
 obtain ⟨_,_,⟨h1,h2⟩ | ⟨h1,h2⟩⟩:=h
 ·simp [f72,f72_e,f72_j1,h1,h2]
 ·simp [f72,f72_e,f72_j1,f72_j2,h1,h2]
theorem may_leaf (k:Nat) (hk:4≤k) (x:It) (h:Leaf2 x):f65 k x.Kind x.Num x.Bytes [] 3=some (.o0 (decide (x.Bytes.length≤512))):=by
 obtain ⟨k,rfl⟩:∃ m,k=m+2:=⟨k - 2,by omega⟩
 have hp:=plain_at (k+1) (by omega) x h
 have hk3:(x.Kind==3)=false:=by obtain ⟨_,_,⟨h1,h2⟩ | ⟨h1,h2⟩⟩:=h<;>rw [h1]<;>rfl
 by_cases h5:x.Bytes.length≤512
 ·simp [f65,f65_e,hp,hk3,f65_j1,f65_j3,f65_l2,f65_l2_b,h5,show ¬((x.Bytes.length:Int)>512) by omega]
 ·simp [f65,f65_e,hp,h5,show ((x.Bytes.length:Int)>512) by omega]
theorem may_l (k:Nat) (hk:5≤k) (X:List It) (hX:∀ x∈X,Leaf2 x) (hn:X.length≤64):∀ (d i n:Nat),i+d=X.length→d<n →
 f65_l2 k (f65 k) n 4 X X.length i=cond (okL (X.drop i)) (some (.o2 4 X X.length X.length false)) (some (.o0 false)):=by
 intro d
 induction d with
 | zero =>
  intro i n hi hq
  obtain ⟨n,rfl⟩:∃ m,n=m+1:=⟨n - 1,by omega⟩
  have e3:i=X.length:=by omega
  subst e3
  simp [f65_l2,f65_l2_b,okL]
 | succ d ih =>
  intro i n hi hq
  obtain ⟨n,rfl⟩:∃ m,n=m+1:=⟨n - 1,by omega⟩
  have h1:i<X.length:=by omega
  have g1:X[i]?=some X[i]:=List.getElem?_eq_getElem h1
  have hlt:((i:Int)<(X.length:Int)):=by omega
  have hw:=nextN h1 (by omega)
  have h4:IntKind.i64.wrap ((4:Int) - 1)=3:=wrap_i64 (by omega) (by omega)
  have hx:=hX X[i] (List.getElem_mem h1)
  have hm:=may_leaf k (by omega) X[i] hx
  have ih':=ih (i+1) n (by omega) (by omega)
  rw [List.drop_eq_getElem_cons h1]
  simp only [f65_l2,f65_l2_b,f65_l2_j1,f65_l2_j2,decide_eq_true hlt,cond_true,ifE_pos (show (0:Int)≤i by omega),Int.toNat_natCast,g1,Option.bind_some,h4,hx.1,hm,hw,okL,List.all_cons]
  cases decide (X[i].Bytes.length≤512)
  ·simp only [Bool.not_false,cond_true,Bool.false_and,cond_false,Option.bind_some]
  ·simp only [Bool.not_true,cond_false,Bool.true_and,Option.bind_some,ih',okL]
theorem cchk_at (k:Nat) (X:List It) (hX:∀ x∈X,Leaf2 x) (hn:X.length≤64) (hk:X.length+10≤k):f50 k 4 0 [] X=some (.o0 (cond (okL X) 0 170)):=by
 obtain ⟨k,rfl⟩:∃ m,k=m+3:=⟨k - 3,by omega⟩
 have h:=may_l (k+1) (by omega) X hX hn X.length 0 (k+1) (by omega) (by omega)
 rw [List.drop_zero,Int.natCast_zero] at h
 have hp:f72 (k+1) 4 0 [] X=some (.o0 true):=by simp [f72,f72_e,f72_j1,f72_j2]
 have hm:f65 (k+2) 4 0 [] X 4=some (.o0 (okL X)):=by
  show f65_e (k+1) (f65 (k+1)) 4 0 [] X 4=_
  generalize f65 (k+1)=q at h ⊢
  cases ho:okL X<;>rw [ho] at h<;>simp only [cond_true,cond_false] at h<;>simp [f65_e,hp,f65_j1,f65_j3,h,show ¬((X.length:Int)>64) by omega,show X.length≤64 from hn]
 simp only [f50,f50_e,f50_j1,hm,Option.bind_some]
 cases okL X<;>rfl
theorem types1 (k:Nat) (hk:1≤k):f66 k 1=some (.o0 0):=by obtain ⟨k,rfl⟩:∃ m,k=m+1:=⟨k - 1,by omega⟩;simp [f66,f66_e,ifE]
theorem types2 (k:Nat) (hk:1≤k):f66 k 2=some (.o0 2):=by obtain ⟨k,rfl⟩:∃ m,k=m+1:=⟨k - 1,by omega⟩;simp [f66,f66_e,ifE]
theorem types4 (k:Nat) (hk:1≤k):f66 k 4=some (.o0 4):=by obtain ⟨k,rfl⟩:∃ m,k=m+1:=⟨k - 1,by omega⟩;simp [f66,f66_e,ifE]
theorem puto_at (k:Nat) (hk:22≤k) (x:It) (h:Leaf2 x) (e:List Int) (he:e.length≤60000):f51b k x.Kind x.Num x.Bytes [] e=some (.o0 (e++leafB x)):=by
 obtain ⟨k,rfl⟩:∃ m,k=m+1:=⟨k - 1,by omega⟩
 obtain ⟨_,hb,⟨h1,h2⟩ | ⟨h1,h2⟩⟩:=h
 ·simp [f51b,f51b_e,h1,types1 k (by omega),head_at k (by omega) _ _ e (by omega),leafB]
 ·have hr:(e++hd 2 (IntKind.u64.wrap (x.Bytes.length:Int))).length+x.Bytes.length≤roomy:=by
   have:=hd_len 2 (IntKind.u64.wrap (x.Bytes.length:Int));rw [List.length_append];unfold roomy;omega
  have e1:((2:Int)==1)=false:=rfl
  have e4:((2:Int)==4)=false:=rfl
  simp only [f51b,f51b_e,f51b_j3,h1,types2 k (by omega),e1,e4,cond_false,head_at k (by omega) _ _ e (by omega),Option.bind_some,ifE_pos hr,leafB,List.append_assoc]
theorem putn_l (k:Nat) (hk:24≤k) (X:List It) (hX:∀ x∈X,Leaf2 x) (hn:X.length≤64):∀ (d i n:Nat) (h:List Int),i+d=X.length→d<n→h.length+((X.drop i).flatMap leafB).length≤60000 →
 f51a_l1 k n X X.length i h=some (.o1 X X.length X.length false (h++(X.drop i).flatMap leafB)):=by
 intro d
 induction d with
 | zero =>
  intro i n h hi hq _
  obtain ⟨n,rfl⟩:∃ m,n=m+1:=⟨n - 1,by omega⟩
  have e3:i=X.length:=by omega
  subst e3
  simp [f51a_l1,f51a_l1_b]
 | succ d ih =>
  intro i n h hi hq hl
  obtain ⟨n,rfl⟩:∃ m,n=m+1:=⟨n - 1,by omega⟩
  have h1:i<X.length:=by omega
  have g1:X[i]?=some X[i]:=List.getElem?_eq_getElem h1
  have hlt:((i:Int)<(X.length:Int)):=by omega
  have hw:=nextN h1 (by omega)
  have hx:=hX X[i] (List.getElem_mem h1)
  rw [List.drop_eq_getElem_cons h1,List.flatMap_cons,List.length_append] at hl
  have hp:=puto_at k (by omega) X[i] hx h (by omega)
  have ih':=ih (i+1) n (h++leafB X[i]) (by omega) (by omega) (by rw [List.length_append];omega)
  rw [List.append_assoc,←List.flatMap_cons,←List.drop_eq_getElem_cons h1] at ih'
  simp only [f51a_l1,f51a_l1_b,f51a_l1_j1,f51a_l1_j2,decide_eq_true hlt,cond_true,ifE_pos (show (0:Int)≤i by omega),Int.toNat_natCast,g1,Option.bind_some,hx.1,hp,hw,ih']
def listB (X:List It):List Int:=hd 4 (IntKind.u64.wrap (X.length:Int))++X.flatMap leafB
theorem cenc_at (k:Nat) (X:List It) (hX:∀ x∈X,Leaf2 x) (hn:X.length≤64) (hl:(X.flatMap leafB).length≤50000) (hk:X.length+30≤k) :
 f31 k 4 0 [] X=some (cond (okL X) (.o1 0 (listB X)) (.o0 [] 170)):=by
 obtain ⟨k,rfl⟩:∃ m,k=m+2:=⟨k - 2,by omega⟩
 have hc:=cchk_at (k+1) X hX hn (by omega)
 have h:=putn_l k (by omega) X hX hn X.length 0 k (hd 4 (IntKind.u64.wrap (X.length:Int))) (by omega) (by omega) (by have:=hd_len 4 (IntKind.u64.wrap (X.length:Int));rw [List.drop_zero];omega)
 rw [List.drop_zero,Int.natCast_zero] at h
 have e1:((4:Int)==1)=false:=rfl
 have e4:((4:Int)==4)=true:=rfl
 have hp:f51a (k+1) 4 0 [] X=some (.o0 (listB X)):=by
  simp only [f51a,f51a_e,f51a_j2,types4 k (by omega),e1,e4,cond_true,cond_false,head_at k (by omega) _ _ [] (by simp),Option.bind_some,List.nil_append,h,listB]
 cases ho:okL X<;>rw [ho] at hc<;>simp only [cond_true,cond_false] at hc
 ·simp only [f31,f31_e,hc,Option.bind_some,cond_false]
  rfl
 ·simp only [f31,f31_e,f31_j1,hc,Option.bind_some,cond_true,bne_self_eq_false,cond_false,hp]
end Go.Proofs.YtbnnmplkbpgcaaaDoorV