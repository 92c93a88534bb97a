/- What the document's own functions make of bytes: both,high,heads,sums,seals. -/
import Derived.Test.YtbnnmplkbpgcaaaDoorVPReg
namespace Go.Proofs.YtbnnmplkbpgcaaaDoorV
open Go
set_option linter.unusedVariables false
set_option linter.unusedSimpArgs false
theorem both_l1 (k:Nat) (a b:List Int) (ha:a.length≤100000):∀ (d i n:Nat) (h:List Int),i+d=a.length→d<n→h.length+d≤200000 →
 f40b_l1 k n a b i h=some (.o1 a b a.length false (h++a.drop i)):=by
 intro d
 induction d with
 | zero =>
  intro i n h hi hq _
  obtain ⟨n,rfl⟩:∃ m,n=m+1:=⟨n - 1,by omega⟩
  have e3:i=a.length:=by omega
  subst e3
  simp [f40b_l1,f40b_l1_b]
 | succ d ih =>
  intro i n h hi hq hl
  obtain ⟨n,rfl⟩:∃ m,n=m+1:=⟨n - 1,by omega⟩
  have h1:i<a.length:=by omega
  have g1:a[i]?=some a[i]:=List.getElem?_eq_getElem h1
  have hlt:((i:Int)<(a.length:Int)):=by omega
  have hw:=nextN h1 (by omega)
  have hr:h.length+1≤roomy:=by unfold roomy;omega
  have e:=ih (i+1) n (h++[a[i]]) (by omega) (by omega) (by rw [List.length_append];simp;omega)
  rw [List.append_assoc,List.singleton_append,←List.drop_eq_getElem_cons h1] at e
  simp only [f40b_l1,f40b_l1_b,f40b_l1_j1,f40b_l1_j2,decide_eq_true hlt,cond_true,ifE_pos (show (0:Int)≤i by omega),Int.toNat_natCast,g1,Option.bind_some,ifE_pos hr,hw,e]
theorem both_l3 (k:Nat) (b:List Int) (ha:b.length≤100000):∀ (d i n:Nat) (h:List Int),i+d=b.length→d<n→h.length+d≤200000 →
 f40b_l3 k n b i h=some (.o1 b b.length false (h++b.drop i)):=by
 intro d
 induction d with
 | zero =>
  intro i n h hi hq _
  obtain ⟨n,rfl⟩:∃ m,n=m+1:=⟨n - 1,by omega⟩
  have e3:i=b.length:=by omega
  subst e3
  simp [f40b_l3,f40b_l3_b]
 | succ d ih =>
  intro i n h hi hq hl
  obtain ⟨n,rfl⟩:∃ m,n=m+1:=⟨n - 1,by omega⟩
  have h1:i<b.length:=by omega
  have g1:b[i]?=some b[i]:=List.getElem?_eq_getElem h1
  have hlt:((i:Int)<(b.length:Int)):=by omega
  have hw:=nextN h1 (by omega)
  have hr:h.length+1≤roomy:=by unfold roomy;omega
  have e:=ih (i+1) n (h++[b[i]]) (by omega) (by omega) (by rw [List.length_append];simp;omega)
  rw [List.append_assoc,List.singleton_append,←List.drop_eq_getElem_cons h1] at e
  simp only [f40b_l3,f40b_l3_b,f40b_l3_j1,f40b_l3_j2,decide_eq_true hlt,cond_true,ifE_pos (show (0:Int)≤i by omega),Int.toNat_natCast,g1,Option.bind_some,ifE_pos hr,hw,e]
theorem both_at (k:Nat) (a b:List Int) (ha:a.length≤90000) (hb:b.length≤90000) (hk:a.length+b.length+4≤k):f40b k a b=some (.o0 (a++b)):=by
 obtain ⟨k,rfl⟩:∃ m,k=m+1:=⟨k - 1,by omega⟩
 have hw:IntKind.i64.wrap ((a.length:Int)+(b.length:Int))=(a.length:Int)+(b.length:Int):=wrap_i64 (by omega) (by omega)
 have e1:=both_l1 k a b (by omega) a.length 0 k [] (by omega) (by omega) (by simp;omega)
 have e2:=both_l3 k b (by omega) b.length 0 k a (by omega) (by omega) (by omega)
 rw [Int.natCast_zero,List.drop_zero,List.nil_append] at e1
 rw [Int.natCast_zero,List.drop_zero] at e2
 have hr:((a.length:Int)+(b.length:Int)) * 1≤(roomy:Int):=by unfold roomy;omega
 simp only [f40b,f40b_e,hw,ifE_pos (show (0:Int)≤(a.length:Int)+(b.length:Int) by omega),ifE_pos hr,e1,Option.bind_some,f40b_j2,e2,f40b_j4]
theorem bothn_l1 (k:Nat) (a:List Int) (ha:a.length≤100000):∀ (d i n:Nat) (h:List Int),i+d=a.length→d<n→h.length+d≤200000 →
 f40a_l1 k n a i [] h=some (.o1 a a.length false [] (h++a.drop i)):=by
 intro d
 induction d with
 | zero =>
  intro i n h hi hq _
  obtain ⟨n,rfl⟩:∃ m,n=m+1:=⟨n - 1,by omega⟩
  have e3:i=a.length:=by omega
  subst e3
  simp [f40a_l1,f40a_l1_b]
 | succ d ih =>
  intro i n h hi hq hl
  obtain ⟨n,rfl⟩:∃ m,n=m+1:=⟨n - 1,by omega⟩
  have h1:i<a.length:=by omega
  have g1:a[i]?=some a[i]:=List.getElem?_eq_getElem h1
  have hlt:((i:Int)<(a.length:Int)):=by omega
  have hw:=nextN h1 (by omega)
  have hr:h.length+1≤roomy:=by unfold roomy;omega
  have e:=ih (i+1) n (h++[a[i]]) (by omega) (by omega) (by rw [List.length_append];simp;omega)
  rw [List.append_assoc,List.singleton_append,←List.drop_eq_getElem_cons h1] at e
  simp only [f40a_l1,f40a_l1_b,f40a_l1_j1,f40a_l1_j2,decide_eq_true hlt,cond_true,ifE_pos (show (0:Int)≤i by omega),Int.toNat_natCast,g1,Option.bind_some,ifE_pos hr,hw,e]
theorem bothn_at (k:Nat) (a:List Int) (ha:a.length≤90000) (hk:a.length+4≤k):f40a k a=some (.o0 a):=by
 obtain ⟨k,rfl⟩:∃ m,k=m+2:=⟨k - 2,by omega⟩
 have hw:IntKind.i64.wrap ((a.length:Int)+(0:Int))=(a.length:Int):=by rw [wrap_i64 (by omega) (by omega)];omega
 have e1:=bothn_l1 (k+1) a (by omega) a.length 0 (k+1) [] (by omega) (by omega) (by simp;omega)
 rw [Int.natCast_zero,List.drop_zero,List.nil_append] at e1
 have e2:f40a_l3 (k+1) (k+1) 0 [] a=some (.o1 0 false [] a):=by simp [f40a_l3,f40a_l3_b]
 have hr:(a.length:Int) * 1≤(roomy:Int):=by unfold roomy;omega
 simp only [f40a,f40a_e,hw,ifE_pos (show (0:Int)≤(a.length:Int) by omega),ifE_pos hr,e1,Option.bind_some,f40a_j2,e2,f40a_j4]
def hi:Nat→Nat→List Int
 | 0,_=>[]
 | n+1,x=>hi n (x / 256)++[((x % 256:Nat):Int)]
theorem hi_cons:∀ (n x:Nat),hi (n+1) x=((x / 256 ^ n % 256:Nat):Int)::hi n x
 | 0,x=>by simp [hi]
 | n+1,x=>by
  rw [hi,hi_cons n (x / 256),hi,Nat.div_div_eq_div_mul,show 256 * 256 ^ n=256 ^ (n+1) by rw [Nat.pow_succ,Nat.mul_comm]]
  rfl
theorem hi_beL (x:Nat):∀ n,n≤8→hi n x=beL (x:Int) n
 | 0,_=>rfl
 | n+1,hn=>by
  rw [hi_cons,beL,hi_beL x n (by omega)]
  congr 1
  rw [show min (8 * n) (IntKind.bits .u64)=8 * n from Nat.min_eq_left (by show 8 * n≤64;omega),show (2:Int) ^ (8 * n)=((2 ^ (8 * n):Nat):Int) by simp,Int.fdiv_eq_ediv_of_nonneg _ (Int.natCast_nonneg _),IntKind.wrap_u8]
  rw [←Int.natCast_ediv,Nat.pow_mul,show (2:Nat) ^ 8=256 from rfl]
  generalize x / 256 ^ n=y
  omega
theorem set_rep (x:Int) (t:List Int):∀ j:Nat,(List.replicate (j+1) (0:Int)++t).set j x=List.replicate j 0++x::t
 | 0=>rfl
 | j+1=>by
  rw [List.replicate_succ,List.cons_append,List.set_cons_succ,set_rep x t j]
  rfl
theorem high_l (k:Nat):∀ (j q x:Nat) (t:List Int),j≤8→j<q→x<18446744073709551616 →
 f57_l1 k q x ((j:Int) - 1) (List.replicate j 0++t)=some (.o1 ((x / 256 ^ j:Nat):Int) (-1) false (hi j x++t)):=by
 intro j
 induction j with
 | zero =>
  intro q x t _ hq hx
  obtain ⟨q,rfl⟩:∃ m,q=m+1:=⟨q - 1,by omega⟩
  simp [f57_l1,f57_l1_b,hi]
 | succ j ih =>
  intro q x t h8 hq hx
  obtain ⟨q,rfl⟩:∃ m,q=m+1:=⟨q - 1,by omega⟩
  have e1:((j+1:Nat):Int) - 1=(j:Int):=by omega
  have e3:IntKind.i64.wrap ((j:Int) - 1)=(j:Int) - 1:=wrap_i64 (by omega) (by omega)
  have ed:IntKind.u64.wrap (Int.tdiv (x:Int) (256:Int))=((x / 256:Nat):Int):=by
   rw [show Int.tdiv (x:Int) (256:Int)=((x / 256:Nat):Int) from rfl];exact wrap_u64 (by omega) (by omega)
  have em:IntKind.u8.wrap (Int.tmod (x:Int) (256:Int))=((x % 256:Nat):Int):=by
   rw [show Int.tmod (x:Int) (256:Int)=((x % 256:Nat):Int) from rfl];exact wrap_u8 (by omega) (by omega)
  have hlen:(List.replicate (j+1) (0:Int)++t).length=j+1+t.length:=by simp
  have hlt:(j:Int)<((List.replicate (j+1) (0:Int)++t).length:Int):=by rw [hlen];omega
  have g1:(List.replicate (j+1) (0:Int)++t)[j]?=some ((List.replicate (j+1) (0:Int)++t)[j]'(by rw [hlen];omega)):=List.getElem?_eq_getElem _
  have e:=ih q (x / 256) (((x % 256:Nat):Int)::t) (by omega) (by omega) (by omega)
  rw [e1]
  simp only [f57_l1,f57_l1_b,f57_l1_j1,f57_l1_j2,decide_eq_true (show (j:Int)≥0 by omega),cond_true,ifE_pos (show (0:Int)≤j by omega),ifE_pos hlt,Int.toNat_natCast,g1,Option.bind_some,ed,em,set_rep,e3,e,hi,List.append_assoc,List.singleton_append,Nat.div_div_eq_div_mul,show 256 * 256 ^ j=256 ^ (j+1) by rw [Nat.pow_succ,Nat.mul_comm]]
theorem high_at (k:Nat) (hk:12≤k) (x n:Nat) (hn:n≤8) (h1:1≤n) (hx:x<18446744073709551616):f57 k x n=some (.o0 (beL x n)):=by
 obtain ⟨k,rfl⟩:∃ m,k=m+1:=⟨k - 1,by omega⟩
 have e3:IntKind.i64.wrap ((n:Int) - 1)=(n:Int) - 1:=wrap_i64 (by omega) (by omega)
 have e:=high_l k n k x [] hn (by omega) hx
 rw [List.append_nil,List.append_nil] at e
 have hr:(n:Int) * 1≤(roomy:Int):=by unfold roomy;omega
 simp only [f57,f57_e,f57_j2,ifE_pos (show (0:Int)≤n by omega),ifE_pos (Int.le_refl (n:Int)),ifE_pos hr,e3,Int.toNat_natCast,e,Option.bind_some,hi_beL x n hn]
theorem first_byte {t n:Nat} (ht:t=0∨t=2∨t=4) (hn:n<28):IntKind.u8.wrap (IntKind.i64.wrap (IntKind.i64.wrap ((32:Int) * (t:Int))+(n:Int)))=or8 (sh5 t) (IntKind.u8.wrap n):=by
 have:n=0∨n=1∨n=2∨n=3∨n=4∨n=5∨n=6∨n=7∨n=8∨n=9∨n=10∨n=11∨n=12∨n=13∨n=14∨n=15∨n=16∨n=17∨n=18∨n=19∨n=20∨n=21∨n=22∨n=23∨n=24∨n=25∨n=26∨n=27:=by omega
 rcases ht with rfl | rfl | rfl<;>rcases this with rfl | rfl | rfl | rfl | rfl | rfl | rfl | rfl | rfl | rfl | rfl | rfl | rfl | rfl | rfl | rfl | rfl | rfl | rfl | rfl | rfl | rfl | rfl | rfl | rfl | rfl | rfl | rfl<;>decide
theorem rhead_at (k:Nat) (hk:30≤k) (t n:Nat) (ht:t=0∨t=2∨t=4) (hn:n<18446744073709551616):f39 k t n=some (.o0 (hd t n)):=by
 obtain ⟨k,rfl⟩:∃ m,k=m+1:=⟨k - 1,by omega⟩
 have p2:=high_at k (by omega) n 2 (by omega) (by omega) hn
 have p4:=high_at k (by omega) n 4 (by omega) (by omega) hn
 have p8:=high_at k (by omega) n 8 (by omega) (by omega) hn
 have bl:∀ (x:Int) (n:Nat),(beL x n).length=n:=fun x n=>by induction n with
  | zero=>rfl
  | succ n ih=>simp [beL,ih]
 have q2:∀ y:Int,f40b k [y] (beL n 2)=some (.o0 ([y]++beL n 2)):=fun y=>both_at k _ _ (by simp) (by rw [bl];omega) (by rw [bl];simp;omega)
 have q4:∀ y:Int,f40b k [y] (beL n 4)=some (.o0 ([y]++beL n 4)):=fun y=>both_at k _ _ (by simp) (by rw [bl];omega) (by rw [bl];simp;omega)
 have q8:∀ y:Int,f40b k [y] (beL n 8)=some (.o0 ([y]++beL n 8)):=fun y=>both_at k _ _ (by simp) (by rw [bl];omega) (by rw [bl];simp;omega)
 have f24:=first_byte (n:=24) ht (by omega)
 have f25:=first_byte (n:=25) ht (by omega)
 have f26:=first_byte (n:=26) ht (by omega)
 have f27:=first_byte (n:=27) ht (by omega)
 rw [show IntKind.u8.wrap ((24:Nat):Int)=24 from by decide,show ((24:Nat):Int)=24 from rfl] at f24
 rw [show IntKind.u8.wrap ((25:Nat):Int)=25 from by decide,show ((25:Nat):Int)=25 from rfl] at f25
 rw [show IntKind.u8.wrap ((26:Nat):Int)=26 from by decide,show ((26:Nat):Int)=26 from rfl] at f26
 rw [show IntKind.u8.wrap ((27:Nat):Int)=27 from by decide,show ((27:Nat):Int)=27 from rfl] at f27
 rw [show ((2:Nat):Int)=2 from rfl] at p2
 rw [show ((4:Nat):Int)=4 from rfl] at p4
 rw [show ((8:Nat):Int)=8 from rfl] at p8
 simp only [f39,f39_e,f39_j1,f39_j2,f39_j3,f39_j4,p2,p4,p8,Option.bind_some,q2,q4,q8,f24,f25,f26,f27]
 unfold hd
 by_cases c1:(n:Int)<24
 ·have f:=first_byte (n:=n) ht (by omega)
  rw [show IntKind.i64.wrap (n:Int)=(n:Int) from wrap_i64 (by omega) (by omega),decide_eq_true c1,cond_true,cond_true,f]
 rw [decide_eq_false c1,cond_false,cond_false]
 by_cases c2:(n:Int)<256
 ·rw [decide_eq_true c2,cond_true,cond_true]
 rw [decide_eq_false c2,cond_false,cond_false]
 by_cases c3:(n:Int)<65536
 ·rw [decide_eq_true c3,cond_true,cond_true,wrap_u16 (by omega) c3,wrap_u64 (by omega) (by omega)];rfl
 rw [decide_eq_false c3,cond_false,cond_false]
 by_cases c4:(n:Int)<4294967296
 ·rw [decide_eq_true c4,cond_true,cond_true,wrap_u32 (by omega) c4,wrap_u64 (by omega) (by omega)];rfl
 rw [decide_eq_false c4,cond_false,cond_false];rfl
theorem rsum_l2 (k:Nat) (l:List Int) (al:Int) (P:Nat) (hP:P<4294967296) (a:Int):∀ (d s n:Nat),d≤8→d<n→s<4294967296 →
 f58_l2_l2 k n l al (P:Int) (s:Int) a ((8:Int) - (d:Int))=some (.o1 l al (P:Int) ((ticksB P d s:Nat):Int) a 8 false):=by
 intro d
 induction d with
 | zero =>
  intro s n _ hq _
  obtain ⟨n,rfl⟩:∃ m,n=m+1:=⟨n - 1,by omega⟩
  simp [f58_l2_l2,f58_l2_l2_b,ticksB]
 | succ d ih =>
  intro s n h8 hq hs
  obtain ⟨n,rfl⟩:∃ m,n=m+1:=⟨n - 1,by omega⟩
  have hw:IntKind.i64.wrap ((8:Int) - ((d+1:Nat):Int)+1)=(8:Int) - d:=by rw [wrap_i64 (by omega) (by omega)];omega
  have hlt:((8:Int) - ((d+1:Nat):Int))<8:=by omega
  have ih':=ih (tickB P s) n (by omega) (by omega) (tickB_lt (w:=32) hP hs)
  have hm:Int.tmod (s:Int) (2:Int)=((s % 2:Nat):Int):=rfl
  simp only [ticksB]
  rw [←ih']
  by_cases h2:s % 2=1
  ·have e:(((s % 2:Nat):Int)==1)=true:=by rw [h2];rfl
   have ht:tickB P s=s / 2 ^^^ P:=by unfold tickB;rw [if_pos h2]
   have h1:IntKind.u64.wrap ((s:Int) - 1)=((s - 1:Nat):Int):=by rw [wrap_u64 (by omega) (by omega)];omega
   have h3:IntKind.u64.wrap (Int.tdiv ((s - 1:Nat):Int) (2:Int))=((s / 2:Nat):Int):=by
    rw [show Int.tdiv ((s - 1:Nat):Int) (2:Int)=(((s - 1) / 2:Nat):Int) from rfl,wrap_u64 (by omega) (by omega)];omega
   have hx:=xorB64 (show s / 2<18446744073709551616 by omega) (show P<18446744073709551616 by omega)
   simp only [f58_l2_l2,f58_l2_l2_b,f58_l2_l2_j1,f58_l2_l2_j2,decide_eq_true hlt,cond_true,hm,e,h1,h3,hx,hw,ht,Option.bind_some]
  ·have e:(((s % 2:Nat):Int)==1)=false:=by rw [beq_eq_false_iff_ne];omega
   have ht:tickB P s=s / 2:=by unfold tickB;rw [if_neg h2]
   have h3:IntKind.u64.wrap (Int.tdiv (s:Int) (2:Int))=((s / 2:Nat):Int):=by
    rw [show Int.tdiv (s:Int) (2:Int)=((s / 2:Nat):Int) from rfl];exact wrap_u64 (by omega) (by omega)
   simp only [f58_l2_l2,f58_l2_l2_b,f58_l2_l2_j1,f58_l2_l2_j2,decide_eq_true hlt,cond_true,cond_false,hm,e,h3,hw,ht,Option.bind_some]
theorem rsum_l1 (k:Nat) (hk:9≤k) (l:List Int) (hb:∀ x∈l,0≤x∧x<256) (hl:l.length≤100000) (al:Int) (P:Nat) (hP:P<4294967296):∀ (d i s n:Nat),i+d=l.length→d<n→s<4294967296 →
 f58_l2 k n l al (P:Int) (s:Int) i=some (.o1 l al (P:Int) ((regB P s (l.drop i):Nat):Int) l.length false):=by
 intro d
 induction d with
 | zero =>
  intro i s n hi hq hs
  clear hs
  obtain ⟨n,rfl⟩:∃ m,n=m+1:=⟨n - 1,by omega⟩
  have e3:i=l.length:=by omega
  subst e3
  rw [List.drop_length]
  simp only [f58_l2,f58_l2_b,decide_eq_false (Int.lt_irrefl _),cond_false,Option.bind_some]
  rfl
 | succ d ih =>
  intro i s n hi hq hs
  obtain ⟨n,rfl⟩:∃ m,n=m+1:=⟨n - 1,by omega⟩
  have h1:i<l.length:=by omega
  have g1:l[i]?=some l[i]:=List.getElem?_eq_getElem h1
  have hm:=hb l[i] (List.getElem_mem h1)
  obtain ⟨c,hc⟩:=Int.eq_ofNat_of_zero_le hm.1
  have hc2:c<256:=by omega
  have hlt:((i:Int)<(l.length:Int)):=by omega
  have hw:=nextN h1 (by omega)
  have hx:s ^^^ c<4294967296:=Nat.xor_lt_two_pow (n:=32) hs (by omega)
  have hw2:IntKind.u64.wrap (c:Int)=(c:Int):=wrap_u64 (by omega) (by omega)
  have e1:=rsum_l2 k l al P hP i 8 (s ^^^ c) k (by omega) (by omega) hx
  rw [show (8:Int) - ((8:Nat):Int)=0 by omega] at e1
  have e:=ih (i+1) (ticksB P 8 (s ^^^ c)) n (by omega) (by omega) (ticksB_lt (w:=32) hP 8 _ hx)
  have hr:regB P s (l.drop i)=regB P (ticksB P 8 (s ^^^ c)) (l.drop (i+1)):=by
   rw [List.drop_eq_getElem_cons h1,regB_cons,hc];rfl
  rw [hr]
  simp only [f58_l2,f58_l2_b,f58_l2_j1,f58_l2_j3,decide_eq_true hlt,cond_true,ifE_pos (show (0:Int)≤i by omega),Int.toNat_natCast,g1,Option.bind_some,hc,Int.ofNat_eq_natCast,hw2,xorB64 (show s<18446744073709551616 by omega) (show c<18446744073709551616 by omega),e1,hw,e]
theorem rsum16_at (k:Nat) (l:List Int) (hb:∀ x∈l,0≤x∧x<256) (hl:l.length≤100000) (hk:l.length+12≤k):f58 k l 16=some (.o0 ((sumOf16 l:Nat):Int)):=by
 obtain ⟨k,rfl⟩:∃ m,k=m+1:=⟨k - 1,by omega⟩
 have e:=rsum_l1 k (by omega) l hb hl 65535 33800 (by decide) l.length 0 65535 k (by omega) (by omega) (by decide)
 rw [Int.natCast_zero,List.drop_zero,show ((33800:Nat):Int)=33800 from rfl,show ((65535:Nat):Int)=65535 from rfl] at e
 have hr:regB 33800 65535 l<65536:=regB_lt (w:=16) (by decide) (by decide) l _ hb (by decide)
 have hx:=xorB64 (show regB 33800 65535 l<18446744073709551616 by omega) (show 65535<18446744073709551616 by decide)
 rw [show ((65535:Nat):Int)=65535 from rfl] at hx
 simp only [f58,f58_e,f58_j4,show ((16:Int)==32)=false from rfl,cond_false,e,Option.bind_some,f58_j3,hx,sumOf16]
theorem rsum32_at (k:Nat) (l:List Int) (hb:∀ x∈l,0≤x∧x<256) (hl:l.length≤100000) (hk:l.length+12≤k):f58 k l 32=some (.o0 ((sumOf32 l:Nat):Int)):=by
 obtain ⟨k,rfl⟩:∃ m,k=m+1:=⟨k - 1,by omega⟩
 have e:=rsum_l1 k (by omega) l hb hl 4294967295 2197175160 (by decide) l.length 0 4294967295 k (by omega) (by omega) (by decide)
 rw [Int.natCast_zero,List.drop_zero,show ((2197175160:Nat):Int)=2197175160 from rfl,show ((4294967295:Nat):Int)=4294967295 from rfl] at e
 have hr:regB 2197175160 4294967295 l<4294967296:=regB_lt (w:=32) (by decide) (by decide) l _ hb (by decide)
 have hx:=xorB64 (show regB 2197175160 4294967295 l<18446744073709551616 by omega) (show 4294967295<18446744073709551616 by decide)
 rw [show ((4294967295:Nat):Int)=4294967295 from rfl] at hx
 simp only [f58,f58_e,f58_j1,show ((32:Int)==32)=true from rfl,cond_true,e,Option.bind_some,f58_j3,hx,sumOf32]
theorem rseal_l (k w:Nat) (hw:w≤32):∀ (d i x n:Nat) (h:List Int),i+8 * d=w→d<n→h.length+d≤100000→x<4294967296 →
 ∃ y,f41_l1 k n w x i h=some (.o1 w y w false (h++leB d x)):=by
 intro d
 induction d with
 | zero =>
  intro i x n h hi hq _ hx
  clear hx
  obtain ⟨n,rfl⟩:∃ m,n=m+1:=⟨n - 1,by omega⟩
  have e3:i=w:=by omega
  subst e3
  exact ⟨x,by simp [f41_l1,f41_l1_b,leB]⟩
 | succ d ih =>
  intro i x n h hi hq hl hx
  obtain ⟨n,rfl⟩:∃ m,n=m+1:=⟨n - 1,by omega⟩
  have hlt:((i:Int)<(w:Int)):=by omega
  have hw8:IntKind.i64.wrap ((i:Int)+8)=((i+8:Nat):Int):=by rw [wrap_i64 (by omega) (by omega)];rfl
  have hr:h.length+1≤roomy:=by unfold roomy;omega
  have ed:IntKind.u64.wrap (Int.tdiv (x:Int) (256:Int))=((x / 256:Nat):Int):=by
   rw [show Int.tdiv (x:Int) (256:Int)=((x / 256:Nat):Int) from rfl];exact wrap_u64 (by omega) (by omega)
  have em:IntKind.u8.wrap (Int.tmod (x:Int) (256:Int))=((x % 256:Nat):Int):=by
   rw [show Int.tmod (x:Int) (256:Int)=((x % 256:Nat):Int) from rfl];exact wrap_u8 (by omega) (by omega)
  obtain ⟨y,e⟩:=ih (i+8) (x / 256) n (h++[((x % 256:Nat):Int)]) (by omega) (by omega) (by rw [List.length_append];simp;omega) (by omega)
  rw [List.append_assoc,List.singleton_append] at e
  exact ⟨y,by simp only [f41_l1,f41_l1_b,f41_l1_j1,f41_l1_j2,decide_eq_true hlt,cond_true,ifE_pos hr,Option.bind_some,ed,em,hw8,e,leB]⟩
theorem rseal16_at (k:Nat) (l:List Int) (hb:∀ x∈l,0≤x∧x<256) (hl:l.length≤80000) (hk:l.length+20≤k):f41 k l 16=some (.o0 (seal16B l)):=by
 obtain ⟨k,rfl⟩:∃ m,k=m+1:=⟨k - 1,by omega⟩
 have hs:=sumOf16_lt hb
 obtain ⟨y,e⟩:=rseal_l k 16 (by omega) 2 0 (sumOf16 l) k l (by omega) (by omega) (by omega) (by omega)
 rw [Int.natCast_zero,show ((16:Nat):Int)=16 from rfl] at e
 simp only [f41,f41_e,rsum16_at k l hb (by omega) (by omega),bothn_at k l (by omega) (by omega),Option.bind_some,e,f41_j2,seal16B]
theorem rseal32_at (k:Nat) (l:List Int) (hb:∀ x∈l,0≤x∧x<256) (hl:l.length≤80000) (hk:l.length+20≤k):f41 k l 32=some (.o0 (seal32B l)):=by
 obtain ⟨k,rfl⟩:∃ m,k=m+1:=⟨k - 1,by omega⟩
 have hs:=sumOf32_lt hb
 obtain ⟨y,e⟩:=rseal_l k 32 (by omega) 4 0 (sumOf32 l) k l (by omega) (by omega) (by omega) (by omega)
 rw [Int.natCast_zero,show ((32:Nat):Int)=32 from rfl] at e
 simp only [f41,f41_e,rsum32_at k l hb (by omega) (by omega),bothn_at k l (by omega) (by omega),Option.bind_some,e,f41_j2,seal32B]
end Go.Proofs.YtbnnmplkbpgcaaaDoorV