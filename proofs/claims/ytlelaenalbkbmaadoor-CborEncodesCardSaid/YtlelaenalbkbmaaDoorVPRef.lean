/- The document's answer for items: which may be,and their bytes. -/
import Derived.Test.YtlelaenalbkbmaaDoorVPIt
namespace Go.Proofs.YtlelaenalbkbmaaDoorV
open Go
set_option linter.unusedVariables false
set_option linter.unusedSimpArgs false
theorem both_l1 (k:Nat) (a b:List Int) (ha:a.length≤100000):∀ (d i n:Nat) (h:List Int),i+d=a.length→d<n→h.length+d≤200000 →
 f27_l1 k n a b i h=some (.o1 a b a.length false (h++a.drop i)):=by
 intro d
 induction d with
 | zero =>
  intro i n h hi hq _
  obtain ⟨n,rfl⟩:∃ m,n=m+1:=⟨n - 1,by omega⟩
  have e3:i=a.length:=by omega
  subst e3
  simp [f27_l1,f27_l1_b]
 | succ d ih =>
  intro i n h hi hq hl
  obtain ⟨n,rfl⟩:∃ m,n=m+1:=⟨n - 1,by omega⟩
  have h1:i<a.length:=by omega
  have g1:a[i]?=some a[i]:=List.getElem?_eq_getElem h1
  have hlt:((i:Int)<(a.length:Int)):=by omega
  have hw:=nextN h1 (by omega)
  have hr:h.length+1≤roomy:=by unfold roomy;omega
  have e:=ih (i+1) n (h++[a[i]]) (by omega) (by omega) (by rw [List.length_append];simp;omega)
  rw [List.append_assoc,List.singleton_append,←List.drop_eq_getElem_cons h1] at e
  simp only [f27_l1,f27_l1_b,f27_l1_j1,f27_l1_j2,decide_eq_true hlt,cond_true,ifE_pos (show (0:Int)≤i by omega),Int.toNat_natCast,g1,Option.bind_some,ifE_pos hr,hw,e]
theorem both_l3 (k:Nat) (b:List Int) (ha:b.length≤100000):∀ (d i n:Nat) (h:List Int),i+d=b.length→d<n→h.length+d≤200000 →
 f27_l3 k n b i h=some (.o1 b b.length false (h++b.drop i)):=by
 intro d
 induction d with
 | zero =>
  intro i n h hi hq _
  obtain ⟨n,rfl⟩:∃ m,n=m+1:=⟨n - 1,by omega⟩
  have e3:i=b.length:=by omega
  subst e3
  simp [f27_l3,f27_l3_b]
 | succ d ih =>
  intro i n h hi hq hl
  obtain ⟨n,rfl⟩:∃ m,n=m+1:=⟨n - 1,by omega⟩
  have h1:i<b.length:=by omega
  have g1:b[i]?=some b[i]:=List.getElem?_eq_getElem h1
  have hlt:((i:Int)<(b.length:Int)):=by omega
  have hw:=nextN h1 (by omega)
  have hr:h.length+1≤roomy:=by unfold roomy;omega
  have e:=ih (i+1) n (h++[b[i]]) (by omega) (by omega) (by rw [List.length_append];simp;omega)
  rw [List.append_assoc,List.singleton_append,←List.drop_eq_getElem_cons h1] at e
  simp only [f27_l3,f27_l3_b,f27_l3_j1,f27_l3_j2,decide_eq_true hlt,cond_true,ifE_pos (show (0:Int)≤i by omega),Int.toNat_natCast,g1,Option.bind_some,ifE_pos hr,hw,e]
theorem both_at (k:Nat) (a b:List Int) (ha:a.length≤90000) (hb:b.length≤90000) (hk:a.length+b.length+4≤k):f27 k a b=some (.o0 (a++b)):=by
 obtain ⟨k,rfl⟩:∃ m,k=m+1:=⟨k - 1,by omega⟩
 have hw:IntKind.i64.wrap ((a.length:Int)+(b.length:Int))=(a.length:Int)+(b.length:Int):=wrap_i64 (by omega) (by omega)
 have e1:=both_l1 k a b (by omega) a.length 0 k [] (by omega) (by omega) (by simp;omega)
 have e2:=both_l3 k b (by omega) b.length 0 k a (by omega) (by omega) (by omega)
 rw [Int.natCast_zero,List.drop_zero,List.nil_append] at e1
 rw [Int.natCast_zero,List.drop_zero] at e2
 have hr:((a.length:Int)+(b.length:Int)) * 1≤(roomy:Int):=by unfold roomy;omega
 simp only [f27,f27_e,hw,ifE_pos (show (0:Int)≤(a.length:Int)+(b.length:Int) by omega),ifE_pos hr,e1,Option.bind_some,f27_j2,e2,f27_j4]
def hi:Nat→Nat→List Int
 | 0,_=>[]
 | n+1,x=>hi n (x / 256)++[((x % 256:Nat):Int)]
theorem hi_cons:∀ (n x:Nat),hi (n+1) x=((x / 256 ^ n % 256:Nat):Int)::hi n x
 | 0,x=>by simp [hi]
 | n+1,x=>by
  rw [hi,hi_cons n (x / 256),hi,Nat.div_div_eq_div_mul,show 256 * 256 ^ n=256 ^ (n+1) by rw [Nat.pow_succ,Nat.mul_comm]]
  rfl
theorem hi_beL (x:Nat):∀ n,n≤8→hi n x=beL (x:Int) n
 | 0,_=>rfl
 | n+1,hn=>by
  rw [hi_cons,beL,hi_beL x n (by omega)]
  congr 1
  rw [show min (8 * n) (IntKind.bits .u64)=8 * n from Nat.min_eq_left (by show 8 * n≤64;omega),show (2:Int) ^ (8 * n)=((2 ^ (8 * n):Nat):Int) by simp,Int.fdiv_eq_ediv_of_nonneg _ (Int.natCast_nonneg _),IntKind.wrap_u8]
  rw [←Int.natCast_ediv,Nat.pow_mul,show (2:Nat) ^ 8=256 from rfl]
  generalize x / 256 ^ n=y
  omega
theorem set_rep (x:Int) (t:List Int):∀ j:Nat,(List.replicate (j+1) (0:Int)++t).set j x=List.replicate j 0++x::t
 | 0=>rfl
 | j+1=>by
  rw [List.replicate_succ,List.cons_append,List.set_cons_succ,set_rep x t j]
  rfl
theorem high_l (k:Nat):∀ (j q x:Nat) (t:List Int),j≤8→j<q→x<18446744073709551616 →
 f39_l1 k q x ((j:Int) - 1) (List.replicate j 0++t)=some (.o1 ((x / 256 ^ j:Nat):Int) (-1) false (hi j x++t)):=by
 intro j
 induction j with
 | zero =>
  intro q x t _ hq hx
  obtain ⟨q,rfl⟩:∃ m,q=m+1:=⟨q - 1,by omega⟩
  simp [f39_l1,f39_l1_b,hi]
 | succ j ih =>
  intro q x t h8 hq hx
  obtain ⟨q,rfl⟩:∃ m,q=m+1:=⟨q - 1,by omega⟩
  have e1:((j+1:Nat):Int) - 1=(j:Int):=by omega
  have e3:IntKind.i64.wrap ((j:Int) - 1)=(j:Int) - 1:=wrap_i64 (by omega) (by omega)
  have ed:IntKind.u64.wrap (Int.tdiv (x:Int) (256:Int))=((x / 256:Nat):Int):=by
   rw [show Int.tdiv (x:Int) (256:Int)=((x / 256:Nat):Int) from rfl];exact wrap_u64 (by omega) (by omega)
  have em:IntKind.u8.wrap (Int.tmod (x:Int) (256:Int))=((x % 256:Nat):Int):=by
   rw [show Int.tmod (x:Int) (256:Int)=((x % 256:Nat):Int) from rfl];exact wrap_u8 (by omega) (by omega)
  have hlen:(List.replicate (j+1) (0:Int)++t).length=j+1+t.length:=by simp
  have hlt:(j:Int)<((List.replicate (j+1) (0:Int)++t).length:Int):=by rw [hlen];omega
  have g1:(List.replicate (j+1) (0:Int)++t)[j]?=some ((List.replicate (j+1) (0:Int)++t)[j]'(by rw [hlen];omega)):=List.getElem?_eq_getElem _
  have e:=ih q (x / 256) (((x % 256:Nat):Int)::t) (by omega) (by omega) (by omega)
  rw [e1]
  simp only [f39_l1,f39_l1_b,f39_l1_j1,f39_l1_j2,decide_eq_true (show (j:Int)≥0 by omega),cond_true,ifE_pos (show (0:Int)≤j by omega),ifE_pos hlt,Int.toNat_natCast,g1,Option.bind_some,ed,em,set_rep,e3,e,hi,List.append_assoc,List.singleton_append,Nat.div_div_eq_div_mul,show 256 * 256 ^ j=256 ^ (j+1) by rw [Nat.pow_succ,Nat.mul_comm]]
theorem high_at (k:Nat) (hk:12≤k) (x n:Nat) (hn:n≤8) (h1:1≤n) (hx:x<18446744073709551616):f39 k x n=some (.o0 (beL x n)):=by
 obtain ⟨k,rfl⟩:∃ m,k=m+1:=⟨k - 1,by omega⟩
 have e3:IntKind.i64.wrap ((n:Int) - 1)=(n:Int) - 1:=wrap_i64 (by omega) (by omega)
 have e:=high_l k n k x [] hn (by omega) hx
 rw [List.append_nil,List.append_nil] at e
 have hr:(n:Int) * 1≤(roomy:Int):=by unfold roomy;omega
 simp only [f39,f39_e,f39_j2,ifE_pos (show (0:Int)≤n by omega),ifE_pos (Int.le_refl (n:Int)),ifE_pos hr,e3,Int.toNat_natCast,e,Option.bind_some,hi_beL x n hn]
theorem first_byte {t n:Nat} (ht:t=0∨t=2∨t=3∨t=4) (hn:n<28):IntKind.u8.wrap (IntKind.i64.wrap (IntKind.i64.wrap ((32:Int) * (t:Int))+(n:Int)))=or8 (sh5 t) (IntKind.u8.wrap n):=by
 have:n=0∨n=1∨n=2∨n=3∨n=4∨n=5∨n=6∨n=7∨n=8∨n=9∨n=10∨n=11∨n=12∨n=13∨n=14∨n=15∨n=16∨n=17∨n=18∨n=19∨n=20∨n=21∨n=22∨n=23∨n=24∨n=25∨n=26∨n=27:=by omega
 rcases ht with rfl | rfl | rfl | rfl<;>rcases this with rfl | rfl | rfl | rfl | rfl | rfl | rfl | rfl | rfl | rfl | rfl | rfl | rfl | rfl | rfl | rfl | rfl | rfl | rfl | rfl | rfl | rfl | rfl | rfl | rfl | rfl | rfl | rfl<;>decide
theorem rhead_at (k:Nat) (hk:30≤k) (t n:Nat) (ht:t=0∨t=2∨t=3∨t=4) (hn:n<18446744073709551616):f26 k t n=some (.o0 (hd t n)):=by
 obtain ⟨k,rfl⟩:∃ m,k=m+1:=⟨k - 1,by omega⟩
 have p2:=high_at k (by omega) n 2 (by omega) (by omega) hn
 have p4:=high_at k (by omega) n 4 (by omega) (by omega) hn
 have p8:=high_at k (by omega) n 8 (by omega) (by omega) hn
 have bl:∀ (x:Int) (n:Nat),(beL x n).length=n:=fun x n=>by induction n with
  | zero=>rfl
  | succ n ih=>simp [beL,ih]
 have q2:∀ y:Int,f27 k [y] (beL n 2)=some (.o0 ([y]++beL n 2)):=fun y=>both_at k _ _ (by simp) (by rw [bl];omega) (by rw [bl];simp;omega)
 have q4:∀ y:Int,f27 k [y] (beL n 4)=some (.o0 ([y]++beL n 4)):=fun y=>both_at k _ _ (by simp) (by rw [bl];omega) (by rw [bl];simp;omega)
 have q8:∀ y:Int,f27 k [y] (beL n 8)=some (.o0 ([y]++beL n 8)):=fun y=>both_at k _ _ (by simp) (by rw [bl];omega) (by rw [bl];simp;omega)
 have fb24:=first_byte (n:=24) ht (by omega)
 have fb25:=first_byte (n:=25) ht (by omega)
 have fb26:=first_byte (n:=26) ht (by omega)
 have fb27:=first_byte (n:=27) ht (by omega)
 rw [show IntKind.u8.wrap ((24:Nat):Int)=24 from by decide,show ((24:Nat):Int)=24 from rfl] at fb24
 rw [show IntKind.u8.wrap ((25:Nat):Int)=25 from by decide,show ((25:Nat):Int)=25 from rfl] at fb25
 rw [show IntKind.u8.wrap ((26:Nat):Int)=26 from by decide,show ((26:Nat):Int)=26 from rfl] at fb26
 rw [show IntKind.u8.wrap ((27:Nat):Int)=27 from by decide,show ((27:Nat):Int)=27 from rfl] at fb27
 rw [show ((2:Nat):Int)=2 from rfl] at p2
 rw [show ((4:Nat):Int)=4 from rfl] at p4
 rw [show ((8:Nat):Int)=8 from rfl] at p8
 simp only [f26,f26_e,f26_j1,f26_j2,f26_j3,f26_j4,p2,p4,p8,Option.bind_some,q2,q4,q8,fb24,fb25,fb26,fb27]
 unfold hd
 by_cases c1:(n:Int)<24
 ·have f:=first_byte (n:=n) ht (by omega)
  rw [show IntKind.i64.wrap (n:Int)=(n:Int) from wrap_i64 (by omega) (by omega),decide_eq_true c1,cond_true,cond_true,f]
 rw [decide_eq_false c1,cond_false,cond_false]
 by_cases c2:(n:Int)<256
 ·rw [decide_eq_true c2,cond_true,cond_true]
 rw [decide_eq_false c2,cond_false,cond_false]
 by_cases c3:(n:Int)<65536
 ·rw [decide_eq_true c3,cond_true,cond_true,wrap_u16 (by omega) c3,wrap_u64 (by omega) (by omega)];rfl
 rw [decide_eq_false c3,cond_false,cond_false]
 by_cases c4:(n:Int)<4294967296
 ·rw [decide_eq_true c4,cond_true,cond_true,wrap_u32 (by omega) c4,wrap_u64 (by omega) (by omega)];rfl
 rw [decide_eq_false c4,cond_false,cond_false];rfl
theorem one_at (B:Nat) (x:It) (hx:Wf B x) (k:Nat) (hk:B+10≤k):f36 k x.Kind x.Num x.Bytes x.Items=some (.o0 (decide (One x))):=by
 obtain ⟨k,rfl⟩:∃ m,k=m+1:=⟨k - 1,by omega⟩
 have hv:=val_at k x.Bytes (by have:=hx.len;omega) hx.by'
 have j2:Pl x→f36_j2 k false x.Kind x.Num x.Bytes x.Items=some (.o0 (decide (One x))):=fun hp=>by
  by_cases p2:x.Bytes.length≤512
  ·by_cases p3:x.Items.length≤64
   ·have d2:=decide_eq_true (show ((x.Bytes.length:Nat):Int)≤512 by omega)
    have d3:=decide_eq_true (show ((x.Items.length:Nat):Int)≤64 by omega)
    by_cases p4:x.Kind=3
    ·have e4:(x.Kind != 3)=false:=by simpa using p4
     have:One x↔vB x.Bytes=true:=⟨fun h=>h.2.2.2 p4,fun h=>⟨hp,p2,p3,fun _=>h⟩⟩
     rw [show decide (One x)=vB x.Bytes by rw [Bool.eq_iff_iff,decide_eq_true_eq];exact this]
     simp only [f36_j2,d2,d3,e4,cond_true,cond_false,hv,Option.bind_some]
    ·have e4:(x.Kind != 3)=true:=by simpa using p4
     rw [decide_eq_true (show One x from ⟨hp,p2,p3,fun h=>absurd h p4⟩)]
     simp only [f36_j2,d2,d3,e4,cond_true]
   ·rw [decide_eq_false (show ¬One x from fun h=>p3 h.2.2.1)]
    simp only [f36_j2,decide_eq_true (show ((x.Bytes.length:Nat):Int)≤512 by omega),decide_eq_false (show ¬((x.Items.length:Nat):Int)≤64 by omega),cond_true,cond_false]
  ·rw [decide_eq_false (show ¬One x from fun h=>p2 h.2.1)]
   simp only [f36_j2,decide_eq_false (show ¬((x.Bytes.length:Nat):Int)≤512 by omega),cond_false]
 have no:¬Pl x→decide (One x)=false:=fun h=>decide_eq_false fun h'=>h h'.1
 by_cases b1:x.Kind<1
 ·rw [no fun h=>by have:=h.1;omega]
  simp only [f36,f36_e,decide_eq_true b1,cond_true]
 by_cases b4:x.Kind>4
 ·rw [no fun h=>by have:=h.1;omega]
  simp only [f36,f36_e,decide_eq_false b1,decide_eq_true b4,cond_true,cond_false]
 have hK:x.Kind=1∨x.Kind=2∨x.Kind=3∨x.Kind=4:=by omega
 have dB:decide (((x.Bytes.length:Nat):Int)>0)=decide (0<x.Bytes.length):=by rw [decide_eq_decide];omega
 have dI:decide (((x.Items.length:Nat):Int)>0)=decide (0<x.Items.length):=by rw [decide_eq_decide];omega
 simp only [f36,f36_e,f36_j1,decide_eq_false b1,decide_eq_false b4,cond_false,dB,dI]
 by_cases k1:x.Kind=1
 ·have e1:(x.Kind != 1)=false:=by simpa using k1
  have e1':(x.Kind==1)=true:=by simpa using k1
  have e4:(x.Kind != 4)=true:=by simp [k1]
  simp only [e1,e1',e4,cond_true,cond_false]
  by_cases hi:0<x.Items.length
  ·rw [no fun h=>by have:=h.2.2.2 (by omega);omega,decide_eq_true hi,cond_true]
  rw [decide_eq_false hi,cond_false]
  by_cases hb:0<x.Bytes.length
  ·rw [no fun h=>by have:=h.2.2.1 (.inl k1);omega,decide_eq_true hb,cond_true]
  rw [decide_eq_false hb,cond_false]
  exact j2 ⟨hK,fun h=>absurd k1 h,fun _=>by omega,fun _=>by omega⟩
 have e1:(x.Kind != 1)=true:=by simpa using k1
 have e1':(x.Kind==1)=false:=by simpa using k1
 simp only [e1,e1',cond_true,cond_false]
 by_cases hn:x.Num=0
 ·have en:(x.Num != 0)=false:=by simpa using hn
  rw [en,cond_false]
  by_cases k4:x.Kind=4
  ·have e4:(x.Kind != 4)=false:=by simpa using k4
   have e4':(x.Kind==4)=true:=by simpa using k4
   simp only [e4,e4',cond_true,cond_false]
   by_cases hb:0<x.Bytes.length
   ·rw [no fun h=>by have:=h.2.2.1 (.inr k4);omega,decide_eq_true hb,cond_true]
   rw [decide_eq_false hb,cond_false]
   exact j2 ⟨hK,fun _=>hn,fun _=>by omega,fun h=>absurd k4 h⟩
  ·have e4:(x.Kind != 4)=true:=by simpa using k4
   have e4':(x.Kind==4)=false:=by simpa using k4
   simp only [e4,e4',cond_true,cond_false]
   by_cases hi:0<x.Items.length
   ·rw [no fun h=>by have:=h.2.2.2 k4;omega,decide_eq_true hi,cond_true]
   rw [decide_eq_false hi,cond_false]
   exact j2 ⟨hK,fun _=>hn,fun h=>by omega,fun _=>by omega⟩
 ·have en:(x.Num != 0)=true:=by simpa using hn
  rw [no fun h=>hn (h.2.1 k1),en,cond_true]
theorem right_loop (k left:Nat) (hleft:left≤100) (a b:Int) (c:List Int) (X:List It) (hX:X.length≤1000) (h:∀ y∈X,f24 k y.Kind y.Num y.Bytes y.Items left=some (.o0 (mayT left y))):∀ (d i n:Nat),i+d=X.length→d<n →
 f24_l2 k (f24 k) n ((left+1:Nat):Int) i a b c X=bif (X.drop i).all (mayT left) then some (.o2 ((left+1:Nat):Int) X.length false a b c X) else some (.o0 false):=by
 intro d
 induction d with
 | zero =>
  intro i n hi hn
  obtain ⟨n,rfl⟩:∃ m,n=m+1:=⟨n - 1,by omega⟩
  have e:i=X.length:=by omega
  subst e
  simp only [f24_l2,f24_l2_b,decide_eq_false (Int.lt_irrefl _),cond_false,Option.bind_some,List.drop_length,List.all_nil,cond_true]
 | succ d ih =>
  intro i n hi hn
  obtain ⟨n,rfl⟩:∃ m,n=m+1:=⟨n - 1,by omega⟩
  have h1:i<X.length:=by omega
  have g1:X[i]?=some X[i]:=List.getElem?_eq_getElem h1
  have hm:=h X[i] (List.getElem_mem h1)
  have hw:IntKind.i64.wrap (((left+1:Nat):Int) - 1)=(left:Int):=by rw [wrap_i64 (by omega) (by omega)];omega
  have ih':=ih (i+1) n (by omega) (by omega)
  rw [List.drop_eq_getElem_cons h1,List.all_cons]
  cases hb:mayT left X[i]
  ·rw [hb] at hm
   simp only [f24_l2,f24_l2_b,decide_eq_true (show (i:Int)<(X.length:Int) by omega),cond_true,f24_l2_j1,ifE_pos (show (0:Int)≤(i:Int) by omega),Int.toNat_natCast,g1,Option.bind_some,hw,hm,Bool.not_false,Bool.false_and,cond_false]
  ·rw [hb] at hm
   simp only [f24_l2,f24_l2_b,decide_eq_true (show (i:Int)<(X.length:Int) by omega),cond_true,f24_l2_j1,ifE_pos (show (0:Int)≤(i:Int) by omega),Int.toNat_natCast,g1,Option.bind_some,hw,hm,Bool.not_true,cond_false,f24_l2_j2,nextN h1 (by omega),ih',Bool.true_and]
theorem rright_at (B:Nat):∀ (n:Nat),n≤100→∀ (x:It),Fit B x→∀ k,B+700+n≤k→f24 k x.Kind x.Num x.Bytes x.Items n=some (.o0 (mayT n x))
 | 0,_,x,hx,k,hk=>by
  obtain ⟨k,rfl⟩:∃ m,k=m+1:=⟨k - 1,by omega⟩
  simp only [f24,f24_e,Int.natCast_zero,beq_self_eq_true,cond_true,mayT]
 | n+1,hn,x,hx,k,hk=>by
  obtain ⟨k,rfl⟩:∃ m,k=m+1:=⟨k - 1,by omega⟩
  have hx1:(((n+1:Nat):Int)==0)=false:=by rw [beq_eq_false_iff_ne];omega
  have hp:=one_at B x hx.top k (by omega)
  have hil:=hx.items
  have hlp:=right_loop k n (by omega) x.Kind x.Num x.Bytes x.Items (by omega) (fun y hy=>rright_at B n (by omega) y (hx.item hy) k (by omega)) x.Items.length 0 k (by omega) (by omega)
  rw [List.drop_zero,Int.natCast_zero] at hlp
  rw [mayT]
  cases h1:decide (One x)<;>rw [h1] at hp
  ·simp only [f24,f24_e,hx1,cond_false,hp,Option.bind_some,Bool.not_false,cond_true,Bool.false_and]
  ·rw [Bool.true_and]
   cases ha:x.Items.all (mayT n)<;>rw [ha] at hlp
   ·simp only [f24,f24_e,hx1,cond_false,hp,Option.bind_some,Bool.not_true,f24_j1,hlp]
   ·simp only [f24,f24_e,hx1,cond_false,hp,Option.bind_some,Bool.not_true,f24_j1,hlp,cond_true,f24_j3]
theorem rRight_at (B:Nat) (x:It) (hx:Fit B x) (k:Nat) (hk:B+710≤k):f12 k x.Kind x.Num x.Bytes x.Items=some (.o0 (mayT 4 x)):=by
 obtain ⟨k,rfl⟩:∃ m,k=m+1:=⟨k - 1,by omega⟩
 have hm:=rright_at B 4 (by omega) x hx k (by omega)
 rw [show ((4:Nat):Int)=4 from rfl] at hm
 simp only [f12,f12_e,hm,Option.bind_some]
theorem bytes_loop (k:Nat) (hk:80000≤k) (W:It→List Int) (a b:Int) (c:List Int) (X:List It) (hX:X.length≤1000) (hp:∀ y∈X,f15 k y.Kind y.Num y.Bytes y.Items=some (.o0 (W y))):∀ (d i n:Nat) (e:List Int),i+d=X.length→d<n→e.length+((X.drop i).flatMap W).length≤70000 →
 f15_l2 k (f15 k) n i a b c X e=some (.o1 X.length false a b c X (e++(X.drop i).flatMap W)):=by
 intro d
 induction d with
 | zero =>
  intro i n e hi hn he
  obtain ⟨n,rfl⟩:∃ m,n=m+1:=⟨n - 1,by omega⟩
  have e:i=X.length:=by omega
  subst e
  rw [List.drop_length,List.flatMap_nil,List.append_nil]
  simp only [f15_l2,f15_l2_b,decide_eq_false (Int.lt_irrefl _),cond_false,Option.bind_some]
 | succ d ih =>
  intro i n e hi hn he
  obtain ⟨n,rfl⟩:∃ m,n=m+1:=⟨n - 1,by omega⟩
  have h1:i<X.length:=by omega
  have g1:X[i]?=some X[i]:=List.getElem?_eq_getElem h1
  have hlt:=decide_eq_true (show (i:Int)<(X.length:Int) by omega)
  rw [List.drop_eq_getElem_cons h1,List.flatMap_cons] at he ⊢
  rw [List.length_append] at he
  have hput:=hp X[i] (List.getElem_mem h1)
  have hb:=both_at k e (W X[i]) (by omega) (by omega) (by omega)
  have a1:=ih (i+1) n (e++W X[i]) (by omega) (by omega) (by rw [List.length_append];omega)
  rw [List.append_assoc] at a1
  simp only [f15_l2,f15_l2_b,hlt,cond_true,f15_l2_j1,ifE_pos (show (0:Int)≤(i:Int) by omega),Int.toNat_natCast,g1,Option.bind_some,hput,hb,f15_l2_j2,nextN h1 (by omega),a1]
theorem rbytes_at (B:Nat):∀ (n:Nat) (x:It),mayT n x=true→Fit B x→∀ k,80000+n≤k→f15 k x.Kind x.Num x.Bytes x.Items=some (.o0 (encT n x))
 | 0,x,h,_,k,hk=>by simp [mayT] at h
 | n+1,x,h,hx,k,hk=>by
  have hle:=enc_le (n+1) x h
  have h120:=hx.1
  obtain ⟨h1,h2⟩:=may_parts h
  obtain ⟨k,rfl⟩:∃ m,k=m+1:=⟨k - 1,by omega⟩
  have hK:=h1.1.1
  have h64:=h1.2.2.1
  have h512:=h1.2.1
  have hnum:=hx.top.num
  rw [encT] at hle ⊢
  by_cases k1:x.Kind=1
  ·have e1:(x.Kind==1)=true:=by simpa using k1
   have hh:=rhead_at k (by omega) 0 x.Num.toNat (.inl rfl) (by omega)
   rw [show ((x.Num.toNat:Nat):Int)=x.Num by omega,show ((0:Nat):Int)=0 from rfl] at hh
   simp only [if_pos k1,f15,f15_e,e1,cond_true,hh,Option.bind_some]
  have e1:(x.Kind==1)=false:=by simpa using k1
  by_cases k4:x.Kind=4
  ·have e4:(x.Kind==4)=true:=by simpa using k4
   simp only [if_neg k1,if_pos k4] at hle ⊢
   rw [List.length_append] at hle
   have hwm:IntKind.u64.wrap ((x.Items.length:Nat):Int)=(x.Items.length:Nat):=wrap_u64 (by omega) (by omega)
   have hh:=rhead_at k (by omega) 4 x.Items.length (.inr (.inr (.inr rfl))) (by omega)
   rw [show ((4:Nat):Int)=4 from rfl] at hh
   have a1:=bytes_loop k (by omega) (encT n) x.Kind x.Num x.Bytes x.Items (by omega) (fun y hy=>rbytes_at B n y (h2 y hy) (hx.item hy) k (by omega)) x.Items.length 0 k (hd 4 (x.Items.length:Nat)) (by omega) (by omega) (by rw [List.drop_zero];omega)
   rw [List.drop_zero,Int.natCast_zero] at a1
   simp only [f15,f15_e,e1,cond_false,f15_j1,e4,cond_true,hwm,hh,Option.bind_some,a1,f15_j3]
  ·have e4:(x.Kind==4)=false:=by simpa using k4
   simp only [if_neg k1,if_neg k4] at hle ⊢
   have hwm:IntKind.u64.wrap ((x.Bytes.length:Nat):Int)=(x.Bytes.length:Nat):=wrap_u64 (by omega) (by omega)
   have hh:=rhead_at k (by omega) x.Kind.toNat x.Bytes.length (by omega) (by omega)
   rw [show ((x.Kind.toNat:Nat):Int)=x.Kind by omega] at hh
   have hl9:=hd_l9 x.Kind (x.Bytes.length:Nat)
   have hb:=both_at k (hd x.Kind (x.Bytes.length:Nat)) x.Bytes (by omega) (by omega) (by omega)
   simp only [f15,f15_e,e1,cond_false,f15_j1,e4,f15_j4,hwm,hh,hb,Option.bind_some]
theorem rsame_loop (l:List Int) (hb:l.length<4611686018427387904) (k:Nat):∀ (d i n:Nat),i+d=l.length→d<n→f14_l2 k n l l i=some (.o2 l l l.length false):=by
 intro d
 induction d with
 | zero =>
  intro i n hi hn
  obtain ⟨n,rfl⟩:∃ m,n=m+1:=⟨n - 1,by omega⟩
  have e:i=l.length:=by omega
  subst e
  simp only [f14_l2,f14_l2_b,decide_eq_false (Int.lt_irrefl _),cond_false,Option.bind_some]
 | succ d ih =>
  intro i n hi hn
  obtain ⟨n,rfl⟩:∃ m,n=m+1:=⟨n - 1,by omega⟩
  have h1:i<l.length:=by omega
  have g1:l[i]?=some l[i]:=List.getElem?_eq_getElem h1
  have ih':=ih (i+1) n (by omega) (by omega)
  simp only [f14_l2,f14_l2_b,decide_eq_true (show (i:Int)<(l.length:Int) by omega),cond_true,f14_l2_j1,ifE_pos (show (0:Int)≤(i:Int) by omega),Int.toNat_natCast,g1,Option.bind_some,bne_self_eq_false,cond_false,f14_l2_j2,nextN h1 hb,ih']
theorem rsame_refl (k:Nat) (l:List Int) (hl:l.length≤100000) (hk:l.length+4≤k):f14 k l l=some (.o0 true):=by
 obtain ⟨k,rfl⟩:∃ m,k=m+1:=⟨k - 1,by omega⟩
 have h:=rsame_loop l (by omega) k l.length 0 k (by omega) (by omega)
 rw [Int.natCast_zero] at h
 simp only [f14,f14_e,bne_self_eq_false,cond_false,f14_j1,h,Option.bind_some,f14_j3]
end Go.Proofs.YtlelaenalbkbmaaDoorV