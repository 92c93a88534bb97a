/- The register of the sums,and that the program's sums and seals are made of it. -/
import Derived.Test.YtbnnmplkbpgcaaaDoorVPPutL
namespace Go.Proofs.YtbnnmplkbpgcaaaDoorV
open Go
set_option linter.unusedVariables false
set_option linter.unusedSimpArgs false
def tickB (P s:Nat):Nat:=if s % 2=1 then (s / 2) ^^^ P else s / 2
def ticksB (P:Nat):Nat→Nat→Nat
 | 0,s=>s
 | d+1,s=>ticksB P d (tickB P s)
def regB (P:Nat):Nat→List Int→Nat
 | s,[]=>s
 | s,c::l=>regB P (ticksB P 8 (s ^^^ c.toNat)) l
theorem regB_cons (P s:Nat) (c:Int) (l:List Int):regB P s (c::l)=regB P (ticksB P 8 (s ^^^ c.toNat)) l:=rfl
def leB:Nat→Nat→List Int
 | 0,_=>[]
 | n+1,s=>((s % 256:Nat):Int)::leB n (s / 256)
theorem leB_length:∀ n s,(leB n s).length=n
 | 0,_=>rfl
 | n+1,s=>by simp [leB,leB_length n]
theorem tickB_lt {w P s:Nat} (hP:P<2 ^ w) (hs:s<2 ^ w):tickB P s<2 ^ w:=by
 have h2:s / 2<2 ^ w:=Nat.lt_of_le_of_lt (Nat.div_le_self ..) hs
 unfold tickB
 split
 ·exact Nat.xor_lt_two_pow h2 hP
 ·exact h2
theorem ticksB_lt {w P:Nat} (hP:P<2 ^ w):∀ (d s:Nat),s<2 ^ w→ticksB P d s<2 ^ w
 | 0,s,h=>h
 | d+1,s,h=>ticksB_lt hP d _ (tickB_lt hP h)
theorem regB_lt {w P:Nat} (hP:P<2 ^ w) (hw:8≤w):∀ (l:List Int) (s:Nat),(∀ x∈l,0≤x∧x<256)→s<2 ^ w→regB P s l<2 ^ w
 | [],s,_,h=>h
 | c::l,s,hb,h=>by
  have hc:=hb c (List.mem_cons_self ..)
  have h8:2 ^ 8≤2 ^ w:=Nat.pow_le_pow_right (by omega) hw
  exact regB_lt hP hw l _ (fun x hx=>hb x (List.mem_cons_of_mem _ hx)) (ticksB_lt hP 8 _ (Nat.xor_lt_two_pow h (by omega)))
theorem xorB16 {a b:Nat} (ha:a<65536) (hb:b<65536):IntKind.u16.wrap ((BitVec.ofInt (IntKind.bits .u16) (a:Int) ^^^ BitVec.ofInt (IntKind.bits .u16) (b:Int)).toNat:Nat)=((a ^^^ b:Nat):Int):=by
 have ha':a % 2 ^ IntKind.bits .u16=a:=Nat.mod_eq_of_lt ha
 have hb':b % 2 ^ IntKind.bits .u16=b:=Nat.mod_eq_of_lt hb
 simp only [BitVec.ofInt_natCast,BitVec.toNat_xor,BitVec.toNat_ofNat,ha',hb']
 have h:=Nat.xor_lt_two_pow (n:=16) ha hb
 generalize a ^^^ b=y at h ⊢
 exact wrap_u16 (by omega) (by omega)
theorem xorB32 {a b:Nat} (ha:a<4294967296) (hb:b<4294967296):IntKind.u32.wrap ((BitVec.ofInt (IntKind.bits .u32) (a:Int) ^^^ BitVec.ofInt (IntKind.bits .u32) (b:Int)).toNat:Nat)=((a ^^^ b:Nat):Int):=by
 have ha':a % 2 ^ IntKind.bits .u32=a:=Nat.mod_eq_of_lt ha
 have hb':b % 2 ^ IntKind.bits .u32=b:=Nat.mod_eq_of_lt hb
 simp only [BitVec.ofInt_natCast,BitVec.toNat_xor,BitVec.toNat_ofNat,ha',hb']
 have h:=Nat.xor_lt_two_pow (n:=32) ha hb
 generalize a ^^^ b=y at h ⊢
 exact wrap_u32 (by omega) (by omega)
theorem xorB64 {a b:Nat} (ha:a<18446744073709551616) (hb:b<18446744073709551616):IntKind.u64.wrap ((BitVec.ofInt (IntKind.bits .u64) (a:Int) ^^^ BitVec.ofInt (IntKind.bits .u64) (b:Int)).toNat:Nat)=((a ^^^ b:Nat):Int):=by
 have ha':a % 2 ^ IntKind.bits .u64=a:=Nat.mod_eq_of_lt ha
 have hb':b % 2 ^ IntKind.bits .u64=b:=Nat.mod_eq_of_lt hb
 simp only [BitVec.ofInt_natCast,BitVec.toNat_xor,BitVec.toNat_ofNat,ha',hb']
 have h:=Nat.xor_lt_two_pow (n:=64) ha hb
 generalize a ^^^ b=y at h ⊢
 exact wrap_u64 (by omega) (by omega)
theorem and1B16 {a:Nat} (ha:a<65536):IntKind.u16.wrap ((BitVec.ofInt (IntKind.bits .u16) (a:Int) &&& BitVec.ofInt (IntKind.bits .u16) (1:Int)).toNat:Nat)=((a % 2:Nat):Int):=by
 have ha':a % 2 ^ IntKind.bits .u16=a:=Nat.mod_eq_of_lt ha
 rw [show (1:Int)=((1:Nat):Int) from rfl]
 simp only [BitVec.ofInt_natCast,BitVec.toNat_and,BitVec.toNat_ofNat,ha',show (1:Nat) % 2 ^ IntKind.bits .u16=1 from by decide,Nat.and_one_is_mod]
 exact wrap_u16 (by omega) (by omega)
theorem halfB16 (s:Nat):Int.fdiv (s:Int) (2 ^ (min 1 (IntKind.bits .u16)))=((s / 2:Nat):Int):=by
 rw [show (2:Int) ^ (min 1 (IntKind.bits .u16))=((2:Nat):Int) from rfl,Int.fdiv_eq_ediv_of_nonneg _ (by omega)]
 rfl
theorem sumB16_l2 (k:Nat) (l:List Int) (a b:Int):∀ (d s n:Nat),d≤8→d<n→s<65536 →
 f68_l1_l2 k n 33800 (s:Int) l a b ((8:Int) - (d:Int))=some (.o1 33800 ((ticksB 33800 d s:Nat):Int) l a b 8 false):=by
 intro d
 induction d with
 | zero =>
  intro s n _ hq _
  obtain ⟨n,rfl⟩:∃ m,n=m+1:=⟨n - 1,by omega⟩
  simp [f68_l1_l2,f68_l1_l2_b,ticksB]
 | succ d ih =>
  intro s n h8 hq hs
  obtain ⟨n,rfl⟩:∃ m,n=m+1:=⟨n - 1,by omega⟩
  have hw:IntKind.i64.wrap ((8:Int) - ((d+1:Nat):Int)+1)=(8:Int) - d:=by rw [wrap_i64 (by omega) (by omega)];omega
  have hlt:((8:Int) - ((d+1:Nat):Int))<8:=by omega
  have ih':=ih (tickB 33800 s) n (by omega) (by omega) (tickB_lt (w:=16) (by decide) hs)
  simp only [ticksB]
  rw [←ih']
  by_cases h2:s % 2=1
  ·have e:(((s % 2:Nat):Int)==1)=true:=by rw [h2];rfl
   have ht:tickB 33800 s=s / 2 ^^^ 33800:=by unfold tickB;rw [if_pos h2]
   have hx:=xorB16 (show s / 2<65536 by omega) (show 33800<65536 by decide)
   rw [show ((33800:Nat):Int)=33800 from rfl] at hx
   simp only [f68_l1_l2,f68_l1_l2_b,f68_l1_l2_j1,f68_l1_l2_j2,decide_eq_true hlt,cond_true,and1B16 hs,e,halfB16,hx,hw,ht,Option.bind_some]
  ·have e:(((s % 2:Nat):Int)==1)=false:=by rw [beq_eq_false_iff_ne];omega
   have ht:tickB 33800 s=s / 2:=by unfold tickB;rw [if_neg h2]
   simp only [f68_l1_l2,f68_l1_l2_b,f68_l1_l2_j1,f68_l1_l2_j3,decide_eq_true hlt,cond_true,cond_false,and1B16 hs,e,halfB16,hw,ht,Option.bind_some]
theorem sumB16_l1 (k:Nat) (hk:9≤k) (l:List Int) (hb:∀ x∈l,0≤x∧x<256) (hl:l.length≤100000):∀ (d i s n:Nat),i+d=l.length→d<n→s<65536 →
 f68_l1 k n 33800 (s:Int) l l.length i=some (.o1 33800 ((regB 33800 s (l.drop i):Nat):Int) l l.length l.length false):=by
 intro d
 induction d with
 | zero =>
  intro i s n hi hq hs
  clear hs
  obtain ⟨n,rfl⟩:∃ m,n=m+1:=⟨n - 1,by omega⟩
  have e3:i=l.length:=by omega
  subst e3
  rw [List.drop_length]
  simp only [f68_l1,f68_l1_b,decide_eq_false (Int.lt_irrefl _),cond_false,Option.bind_some]
  rfl
 | succ d ih =>
  intro i s n hi hq hs
  obtain ⟨n,rfl⟩:∃ m,n=m+1:=⟨n - 1,by omega⟩
  have h1:i<l.length:=by omega
  have g1:l[i]?=some l[i]:=List.getElem?_eq_getElem h1
  have hm:=hb l[i] (List.getElem_mem h1)
  obtain ⟨c,hc⟩:=Int.eq_ofNat_of_zero_le hm.1
  have hc2:c<256:=by omega
  have hlt:((i:Int)<(l.length:Int)):=by omega
  have hw:=nextN h1 (by omega)
  have hx:s ^^^ c<65536:=Nat.xor_lt_two_pow (n:=16) hs (by omega)
  have hw2:IntKind.u16.wrap (c:Int)=(c:Int):=wrap_u16 (by omega) (by omega)
  have e1:=sumB16_l2 k l l.length i 8 (s ^^^ c) k (by omega) (by omega) hx
  rw [show (8:Int) - ((8:Nat):Int)=0 by omega] at e1
  have e:=ih (i+1) (ticksB 33800 8 (s ^^^ c)) n (by omega) (by omega) (ticksB_lt (w:=16) (by decide) 8 _ hx)
  have hr:regB 33800 s (l.drop i)=regB 33800 (ticksB 33800 8 (s ^^^ c)) (l.drop (i+1)):=by
   rw [List.drop_eq_getElem_cons h1,regB_cons,hc];rfl
  rw [hr]
  simp only [f68_l1,f68_l1_b,f68_l1_j1,f68_l1_j3,decide_eq_true hlt,cond_true,ifE_pos (show (0:Int)≤i by omega),Int.toNat_natCast,g1,Option.bind_some,hc,Int.ofNat_eq_natCast,hw2,xorB16 hs (show c<65536 by omega),e1,hw,e]
def sumOf16 (l:List Int):Nat:=regB 33800 65535 l ^^^ 65535
theorem sumOf16_lt {l:List Int} (hb:∀ x∈l,0≤x∧x<256):sumOf16 l<65536:=Nat.xor_lt_two_pow (n:=16) (regB_lt (w:=16) (by decide) (by decide) l _ hb (by decide)) (by decide)
theorem sumB16_at (k:Nat) (l:List Int) (hb:∀ x∈l,0≤x∧x<256) (hl:l.length≤100000) (hk:l.length+12≤k):f68 k l 33800=some (.o0 ((sumOf16 l:Nat):Int)):=by
 obtain ⟨k,rfl⟩:∃ m,k=m+1:=⟨k - 1,by omega⟩
 have e:=sumB16_l1 k (by omega) l hb hl l.length 0 65535 k (by omega) (by omega) (by decide)
 rw [Int.natCast_zero,List.drop_zero] at e
 have hr:regB 33800 65535 l<65536:=regB_lt (w:=16) (by decide) (by decide) l _ hb (by decide)
 simp only [f68,f68_e,show flipI .u16 (IntKind.u16.wrap 0)=((65535:Nat):Int) from by decide +kernel,e,Option.bind_some,f68_j2]
 congr 2
 unfold flipI
 rw [show (if IntKind.signed .u16=true then (-1:Int) else IntKind.max .u16)=((65535:Nat):Int) from by decide +kernel,xorB16 (by decide) hr,Nat.xor_comm]
 rfl
theorem and1B32 {a:Nat} (ha:a<4294967296):IntKind.u32.wrap ((BitVec.ofInt (IntKind.bits .u32) (a:Int) &&& BitVec.ofInt (IntKind.bits .u32) (1:Int)).toNat:Nat)=((a % 2:Nat):Int):=by
 have ha':a % 2 ^ IntKind.bits .u32=a:=Nat.mod_eq_of_lt ha
 rw [show (1:Int)=((1:Nat):Int) from rfl]
 simp only [BitVec.ofInt_natCast,BitVec.toNat_and,BitVec.toNat_ofNat,ha',show (1:Nat) % 2 ^ IntKind.bits .u32=1 from by decide,Nat.and_one_is_mod]
 exact wrap_u32 (by omega) (by omega)
theorem halfB32 (s:Nat):Int.fdiv (s:Int) (2 ^ (min 1 (IntKind.bits .u32)))=((s / 2:Nat):Int):=by
 rw [show (2:Int) ^ (min 1 (IntKind.bits .u32))=((2:Nat):Int) from rfl,Int.fdiv_eq_ediv_of_nonneg _ (by omega)]
 rfl
theorem sumB32_l2 (k:Nat) (l:List Int) (a b:Int):∀ (d s n:Nat),d≤8→d<n→s<4294967296 →
 f69_l1_l2 k n 2197175160 (s:Int) l a b ((8:Int) - (d:Int))=some (.o1 2197175160 ((ticksB 2197175160 d s:Nat):Int) l a b 8 false):=by
 intro d
 induction d with
 | zero =>
  intro s n _ hq _
  obtain ⟨n,rfl⟩:∃ m,n=m+1:=⟨n - 1,by omega⟩
  simp [f69_l1_l2,f69_l1_l2_b,ticksB]
 | succ d ih =>
  intro s n h8 hq hs
  obtain ⟨n,rfl⟩:∃ m,n=m+1:=⟨n - 1,by omega⟩
  have hw:IntKind.i64.wrap ((8:Int) - ((d+1:Nat):Int)+1)=(8:Int) - d:=by rw [wrap_i64 (by omega) (by omega)];omega
  have hlt:((8:Int) - ((d+1:Nat):Int))<8:=by omega
  have ih':=ih (tickB 2197175160 s) n (by omega) (by omega) (tickB_lt (w:=32) (by decide) hs)
  simp only [ticksB]
  rw [←ih']
  by_cases h2:s % 2=1
  ·have e:(((s % 2:Nat):Int)==1)=true:=by rw [h2];rfl
   have ht:tickB 2197175160 s=s / 2 ^^^ 2197175160:=by unfold tickB;rw [if_pos h2]
   have hx:=xorB32 (show s / 2<4294967296 by omega) (show 2197175160<4294967296 by decide)
   rw [show ((2197175160:Nat):Int)=2197175160 from rfl] at hx
   simp only [f69_l1_l2,f69_l1_l2_b,f69_l1_l2_j1,f69_l1_l2_j2,decide_eq_true hlt,cond_true,and1B32 hs,e,halfB32,hx,hw,ht,Option.bind_some]
  ·have e:(((s % 2:Nat):Int)==1)=false:=by rw [beq_eq_false_iff_ne];omega
   have ht:tickB 2197175160 s=s / 2:=by unfold tickB;rw [if_neg h2]
   simp only [f69_l1_l2,f69_l1_l2_b,f69_l1_l2_j1,f69_l1_l2_j3,decide_eq_true hlt,cond_true,cond_false,and1B32 hs,e,halfB32,hw,ht,Option.bind_some]
theorem sumB32_l1 (k:Nat) (hk:9≤k) (l:List Int) (hb:∀ x∈l,0≤x∧x<256) (hl:l.length≤100000):∀ (d i s n:Nat),i+d=l.length→d<n→s<4294967296 →
 f69_l1 k n 2197175160 (s:Int) l l.length i=some (.o1 2197175160 ((regB 2197175160 s (l.drop i):Nat):Int) l l.length l.length false):=by
 intro d
 induction d with
 | zero =>
  intro i s n hi hq hs
  clear hs
  obtain ⟨n,rfl⟩:∃ m,n=m+1:=⟨n - 1,by omega⟩
  have e3:i=l.length:=by omega
  subst e3
  rw [List.drop_length]
  simp only [f69_l1,f69_l1_b,decide_eq_false (Int.lt_irrefl _),cond_false,Option.bind_some]
  rfl
 | succ d ih =>
  intro i s n hi hq hs
  obtain ⟨n,rfl⟩:∃ m,n=m+1:=⟨n - 1,by omega⟩
  have h1:i<l.length:=by omega
  have g1:l[i]?=some l[i]:=List.getElem?_eq_getElem h1
  have hm:=hb l[i] (List.getElem_mem h1)
  obtain ⟨c,hc⟩:=Int.eq_ofNat_of_zero_le hm.1
  have hc2:c<256:=by omega
  have hlt:((i:Int)<(l.length:Int)):=by omega
  have hw:=nextN h1 (by omega)
  have hx:s ^^^ c<4294967296:=Nat.xor_lt_two_pow (n:=32) hs (by omega)
  have hw2:IntKind.u32.wrap (c:Int)=(c:Int):=wrap_u32 (by omega) (by omega)
  have e1:=sumB32_l2 k l l.length i 8 (s ^^^ c) k (by omega) (by omega) hx
  rw [show (8:Int) - ((8:Nat):Int)=0 by omega] at e1
  have e:=ih (i+1) (ticksB 2197175160 8 (s ^^^ c)) n (by omega) (by omega) (ticksB_lt (w:=32) (by decide) 8 _ hx)
  have hr:regB 2197175160 s (l.drop i)=regB 2197175160 (ticksB 2197175160 8 (s ^^^ c)) (l.drop (i+1)):=by
   rw [List.drop_eq_getElem_cons h1,regB_cons,hc];rfl
  rw [hr]
  simp only [f69_l1,f69_l1_b,f69_l1_j1,f69_l1_j3,decide_eq_true hlt,cond_true,ifE_pos (show (0:Int)≤i by omega),Int.toNat_natCast,g1,Option.bind_some,hc,Int.ofNat_eq_natCast,hw2,xorB32 hs (show c<4294967296 by omega),e1,hw,e]
def sumOf32 (l:List Int):Nat:=regB 2197175160 4294967295 l ^^^ 4294967295
theorem sumOf32_lt {l:List Int} (hb:∀ x∈l,0≤x∧x<256):sumOf32 l<4294967296:=Nat.xor_lt_two_pow (n:=32) (regB_lt (w:=32) (by decide) (by decide) l _ hb (by decide)) (by decide)
theorem sumB32_at (k:Nat) (l:List Int) (hb:∀ x∈l,0≤x∧x<256) (hl:l.length≤100000) (hk:l.length+12≤k):f69 k l 2197175160=some (.o0 ((sumOf32 l:Nat):Int)):=by
 obtain ⟨k,rfl⟩:∃ m,k=m+1:=⟨k - 1,by omega⟩
 have e:=sumB32_l1 k (by omega) l hb hl l.length 0 4294967295 k (by omega) (by omega) (by decide)
 rw [Int.natCast_zero,List.drop_zero] at e
 have hr:regB 2197175160 4294967295 l<4294967296:=regB_lt (w:=32) (by decide) (by decide) l _ hb (by decide)
 simp only [f69,f69_e,show flipI .u32 (IntKind.u32.wrap 0)=((4294967295:Nat):Int) from by decide +kernel,e,Option.bind_some,f69_j2]
 congr 2
 unfold flipI
 rw [show (if IntKind.signed .u32=true then (-1:Int) else IntKind.max .u32)=((4294967295:Nat):Int) from by decide +kernel,xorB32 (by decide) hr,Nat.xor_comm]
 rfl
theorem sealB_l (k x w:Nat) (hx:x<4294967296) (hw4:w≤4):∀ (d i n:Nat) (h:List Int),i+d=w→d<n→h.length+d≤100000 →
 f54_l1 k n (x:Int) w i h=some (.o1 (x:Int) w w false (h++leB d (x / 2 ^ (8 * i)))):=by
 intro d
 induction d with
 | zero =>
  intro i n h hi hq _
  obtain ⟨n,rfl⟩:∃ m,n=m+1:=⟨n - 1,by omega⟩
  have e3:i=w:=by omega
  subst e3
  simp [f54_l1,f54_l1_b,leB]
 | succ d ih =>
  intro i n h hi hq hl
  obtain ⟨n,rfl⟩:∃ m,n=m+1:=⟨n - 1,by omega⟩
  have e2:IntKind.i64.wrap ((8:Int) * (i:Int))=((8 * i:Nat):Int):=by rw [wrap_i64 (by omega) (by omega)];simp
  have hlt:((i:Int)<(w:Int)):=by omega
  have hw:=nextN (show i<w by omega) (by omega)
  have hr:h.length+1≤roomy:=by unfold roomy;omega
  have hsh:IntKind.u8.wrap (Int.fdiv (x:Int) (2 ^ (min (8 * i) (IntKind.bits .u32))))=((x / 2 ^ (8 * i) % 256:Nat):Int):=by
   rw [show min (8 * i) (IntKind.bits .u32)=8 * i from Nat.min_eq_left (by show 8 * i≤32;omega),show (2:Int) ^ (8 * i)=((2 ^ (8 * i):Nat):Int) by simp,Int.fdiv_eq_ediv_of_nonneg _ (Int.natCast_nonneg _),IntKind.wrap_u8]
   rw [←Int.natCast_ediv]
   generalize x / 2 ^ (8 * i)=y
   omega
  have e:=ih (i+1) n (h++[((x / 2 ^ (8 * i) % 256:Nat):Int)]) (by omega) (by omega) (by rw [List.length_append];simp;omega)
  rw [List.append_assoc,List.singleton_append] at e
  have e5:leB (d+1) (x / 2 ^ (8 * i))=((x / 2 ^ (8 * i) % 256:Nat):Int)::leB d (x / 2 ^ (8 * (i+1))):=by
   rw [show x / 2 ^ (8 * (i+1))=x / 2 ^ (8 * i) / 256 by rw [Nat.div_div_eq_div_mul,show 8 * (i+1)=8 * i+8 by omega,Nat.pow_add]]
   rfl
  rw [e5,←e]
  simp only [f54_l1,f54_l1_b,f54_l1_j1,f54_l1_j2,decide_eq_true hlt,cond_true,e2,ifE_pos (show ¬(((8 * i:Nat):Int)<0) by omega),ifE_pos hr,Int.toNat_natCast,Option.bind_some,hw,hsh]
theorem sealB_at (k:Nat) (hk:12≤k) (l:List Int) (x w:Nat) (hx:x<4294967296) (hw:w≤4) (hl:l.length≤90000):f54 k l x w=some (.o0 (l++leB w x)):=by
 obtain ⟨k,rfl⟩:∃ m,k=m+2:=⟨k - 2,by omega⟩
 have hr:l.length * 1≤roomy:=by unfold roomy;omega
 have e:=sealB_l (k+1) x w hx hw w 0 (k+1) l (by omega) (by omega) (by omega)
 rw [Int.natCast_zero,Nat.mul_zero,Nat.pow_zero,Nat.div_one] at e
 simp only [f54,f54_e,f54_j2,f53,ifE_pos hr,Option.bind_some,e]
def seal16B (l:List Int):List Int:=l++leB 2 (sumOf16 l)
def seal32B (l:List Int):List Int:=l++leB 4 (sumOf32 l)
theorem seal16_at (k:Nat) (l:List Int) (hb:∀ x∈l,0≤x∧x<256) (hl:l.length≤80000) (hk:l.length+20≤k):f35 k l=some (.o0 (seal16B l)):=by
 obtain ⟨k,rfl⟩:∃ m,k=m+2:=⟨k - 2,by omega⟩
 have e:=sumB16_at k l hb (by omega) (by omega)
 have hs:=sumOf16_lt hb
 have e1:=sealB_at (k+1) (by omega) l (sumOf16 l) 2 (by omega) (by omega) (by omega)
 have hw:IntKind.u32.wrap ((sumOf16 l:Nat):Int)=((sumOf16 l:Nat):Int):=wrap_u32 (by omega) (by omega)
 rw [show ((2:Nat):Int)=2 from rfl] at e1
 simp only [f35,f35_e,f55,f55_e,e,Option.bind_some,hw,e1]
 rfl
theorem seal32_at (k:Nat) (l:List Int) (hb:∀ x∈l,0≤x∧x<256) (hl:l.length≤80000) (hk:l.length+20≤k):f37 k l=some (.o0 (seal32B l)):=by
 obtain ⟨k,rfl⟩:∃ m,k=m+2:=⟨k - 2,by omega⟩
 have e:=sumB32_at k l hb (by omega) (by omega)
 have hs:=sumOf32_lt hb
 have e1:=sealB_at (k+1) (by omega) l (sumOf32 l) 4 (by omega) (by omega) (by omega)
 rw [show ((4:Nat):Int)=4 from rfl] at e1
 simp only [f37,f37_e,f56,f56_e,e,Option.bind_some,e1]
 rfl
end Go.Proofs.YtbnnmplkbpgcaaaDoorV