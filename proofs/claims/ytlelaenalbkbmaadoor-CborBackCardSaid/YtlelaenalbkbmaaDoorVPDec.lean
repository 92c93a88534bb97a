/- cbor's decoder: what the program's answers,told plainly (dec). -/
import Derived.Test.YtlelaenalbkbmaaDoorVPItems
import Derived.Test.YtlelaenalbkbmaaDoorVPValid
namespace Go.Proofs.YtlelaenalbkbmaaDoorV
open Go
set_option linter.unusedVariables false
set_option linter.unusedSimpArgs false
inductive Dr where
 | err (e:Int)
 | ok (x:It) (n:Nat)
inductive Ar where
 | err (e:Int)
 | ok (n j:Nat)
def addN (c:Nat):Dr→Dr
 | .err e=>.err e
 | .ok x n=>.ok x (c+n)
def numB (l:List Int):Nat:=l.foldl (fun x c=>x * 256+c.toNat) 0
def cn (k n:Nat):Bool:=if k=1 then decide (24≤n) else decide (2 ^ (4 * k)≤n)
def argD (low:Int) (r:List Int):Ar :=
 if low<24 then .ok low.toNat 0 else
 if r.length<2 ^ (low - 24).toNat then .err 7 else
 if cn (2 ^ (low - 24).toNat) (numB (r.take (2 ^ (low - 24).toNat)))=true then .ok (numB (r.take (2 ^ (low - 24).toNat))) (2 ^ (low - 24).toNat) else .err 170
def itemsD (D:List Int→Dr):Nat→List Int→List It→Dr
 | 0,_,acc=>.ok ⟨4,0,[],acc⟩ 0
 | m+1,s,acc=>match D s with
  | .err e=>.err e
  | .ok x n=>addN n (itemsD D m (s.drop n) (acc++[x]))
noncomputable def tailD (D:List Int→Dr) (t:Int) (n:Nat) (s:List Int):Dr :=
 if t=0 then .ok ⟨1,n,[],[]⟩ 0 else
 if t=4 then (if n>64 then .err 170 else itemsD D n s []) else
 if n>512 then .err 170 else
 if s.length<n then .err 7 else
 if t=3∧vB (s.take n)=false then .err 170 else .ok ⟨t,0,s.take n,[]⟩ n
noncomputable def bodyD (D:List Int→Dr) (f:Int) (r:List Int):Dr :=
 if f / 32=1∨f / 32>4∨f % 32>27 then .err 170 else
 match argD (f % 32) r with
 | .err e=>.err e
 | .ok n j=>addN (1+j) (tailD D (f / 32) n (r.drop j))
noncomputable def dec:Nat→List Int→Dr
 | _,[]=>.err 7
 | 0,_::_=>.err 170
 | left+1,f::r=>bodyD (dec left) f r
def Res (B:List Int) (a:Nat) (d:Dr) (R:R31):Prop :=
 match d with
 | .err e=>(e=7∨e=170)∧∃ a' r,R=.o0 0 0 [] [] e B a' r
 | .ok x n=>a+n≤B.length∧R=.o0 x.Kind x.Num x.Bytes x.Items 0 B ((a+n:Nat):Int) 0
theorem Res.add {B:List Int} {a c:Nat} {d:Dr} {R:R31} (h:Res B (a+c) d R):Res B a (addN c d) R:=by
 cases d with
 | err e=>exact h
 | ok x n =>
  obtain ⟨h1,h2⟩:=h
  exact ⟨by omega,by rw [h2,Nat.add_assoc]⟩
theorem clone8_at (k:Nat) (hk:1≤k) (l:List Int) (hl:l.length≤200000):f28 k l=some (.o0 l):=by
 obtain ⟨k,rfl⟩:∃ m,k=m+1:=⟨k - 1,by omega⟩
 simp only [f28,ifE_pos (show l.length * 1≤roomy by unfold roomy;omega)]
theorem wi64 {n:Nat} (h:n≤1500000):IntKind.i64.wrap (n:Int)=(n:Int):=wrap_i64 (by omega) (by omega)
theorem raw_at (k:Nat) (hk:3≤k) (B:List Int) (hB:B.length≤150000) (a n:Nat) (ha:a≤B.length) (hn:n≤1000):f43 k n B a 0=some (if a+n≤B.length then .o0 B ((a+n:Nat):Int) 0 ((B.drop a).take n) else .o0 B a 7 []):=by
 obtain ⟨k,rfl⟩:∃ m,k=m+2:=⟨k - 2,by omega⟩
 have w1:IntKind.i64.wrap ((B.length:Int) - (a:Int))=((B.length - a:Nat):Int):=by rw [wrap_i64 (by omega) (by omega)];omega
 have w2:IntKind.i64.wrap ((a:Int)+(n:Int))=((a+n:Nat):Int):=by rw [wrap_i64 (by omega) (by omega)];omega
 have w3:IntKind.i64.wrap (((a+n:Nat):Int) - (n:Int))=(a:Int):=by rw [wrap_i64 (by omega) (by omega)];omega
 have h0:decide ((n:Int)<0)=false:=decide_eq_false (by omega)
 by_cases h:a+n≤B.length
 ·rw [if_pos h]
  have h1:decide ((n:Int)>((B.length - a:Nat):Int))=false:=decide_eq_false (by omega)
  have ht:f49 (k+1) n B a 0=some (.o0 ((B.drop a).take n) B ((a+n:Nat):Int) 0):=by
   simp only [f49,f49_e,f49_j1,bne_self_eq_false,cond_false,h0,w1,h1,w2,w3,ifE_pos (show (0:Int)≤(a:Int) by omega),ifE_pos (show (0:Int)≤((a+n:Nat):Int) by omega),Int.toNat_natCast,ifE_pos (show a≤a+n by omega),ifE_pos h]
   rw [List.drop_take,Nat.add_sub_cancel_left]
  simp only [f43,f43_e,f43_j1,ht,Option.bind_some,clone8_at (k+1) (by omega) ((B.drop a).take n) (by simp;omega)]
 ·rw [if_neg h]
  have h1:decide ((n:Int)>((B.length - a:Nat):Int))=true:=decide_eq_true (by omega)
  have ht:f49 (k+1) n B a 0=some (.o0 [] B a 7):=by
   simp only [f49,f49_e,bne_self_eq_false,cond_false,h0,w1,h1,cond_true]
  simp only [f43,f43_e,f43_j1,ht,Option.bind_some,clone8_at (k+1) (by omega) [] (by simp)]
theorem err_at (k:Nat) (hk:1≤k) (B:List Int) (a r:Int):f41 k B a r=some (.o0 r B a r):=by
 obtain ⟨k,rfl⟩:∃ m,k=m+1:=⟨k - 1,by omega⟩
 simp only [f41,f41_e,f41_j1]
theorem orB {x:Nat} {c:Int} (hx:x<72057594037927936) (hc:0≤c∧c<256):IntKind.u64.wrap ((BitVec.ofInt (IntKind.bits .u64) (IntKind.u64.wrap ((x:Int) * 2 ^ (min 8 (IntKind.bits .u64)))) ||| BitVec.ofInt (IntKind.bits .u64) (IntKind.u64.wrap c)).toNat:Nat)=((x * 256+c.toNat:Nat):Int):=by
 obtain ⟨d,rfl⟩:∃ d:Nat,c=d:=⟨c.toNat,by omega⟩
 have e0:IntKind.u64.wrap ((x:Int) * 2 ^ (min 8 (IntKind.bits .u64)))=((x * 256:Nat):Int):=by
  rw [show (2:Int) ^ (min 8 (IntKind.bits .u64))=256 from rfl,wrap_u64 (by omega) (by omega)];omega
 have e1:IntKind.u64.wrap (d:Int)=(d:Int):=wrap_u64 (by omega) (by omega)
 have e:x * 256 ||| d=x * 256+d:=by
  have:=Nat.shiftLeft_add_eq_or_of_lt (i:=8) (b:=d) (by omega) x
  rw [Nat.shiftLeft_eq] at this
  exact this.symm
 have h1:(x * 256) % 2 ^ IntKind.bits .u64=x * 256:=Nat.mod_eq_of_lt (by simp only [IntKind.bits];omega)
 have h2:d % 2 ^ IntKind.bits .u64=d:=Nat.mod_eq_of_lt (by simp only [IntKind.bits];omega)
 rw [e0,e1]
 simp only [BitVec.ofInt_natCast,BitVec.toNat_or,BitVec.toNat_ofNat,h1,h2,e,Int.toNat_natCast]
 exact wrap_u64 (by omega) (by omega)
theorem numB_snoc (l:List Int) (c:Int):numB (l++[c])=numB l * 256+c.toNat:=by simp [numB]
theorem numB_lt {l:List Int} (hb:By l):numB l<256 ^ l.length:=by
 have key:∀ (l:List Int) (x m:Nat),By l→x<256 ^ m→l.foldl (fun x c=>x * 256+c.toNat) x<256 ^ (m+l.length):=by
  intro l
  induction l with
  | nil=>intro x m _ h;exact h
  | cons c l ih =>
   intro x m hb h
   rw [List.foldl_cons,List.length_cons,show m+(l.length+1)=(m+1)+l.length by omega]
   refine ih _ _ (fun y hy=>hb y (List.mem_cons_of_mem _ hy)) ?_
   have:=hb c (by simp)
   rw [Nat.pow_succ]
   omega
 have:=key l 0 0 hb (by simp)
 rwa [Nat.zero_add] at this
theorem numB_take_lt {l:List Int} (hb:By l) {i:Nat} (hi:i≤7):numB (l.take i)<72057594037927936:=by
 have h:=numB_lt (hb.take i)
 have:256 ^ (l.take i).length≤256 ^ 7:=Nat.pow_le_pow_right (by decide) (by rw [List.length_take];omega)
 omega
theorem numb_l1 (k:Nat) (h:List Int) (hb:By h) (hl:h.length≤8) (B:List Int) (a r:Int):∀ (d i n:Nat),i+d=h.length→d<n →
 f48_l1 k n (numB (h.take i)) h.length i h B a r=some (.o1 (numB h) h.length h.length false h B a r):=by
 intro d
 induction d with
 | zero =>
  intro i n hi hn
  obtain ⟨n,rfl⟩:∃ m,n=m+1:=⟨n - 1,by omega⟩
  have e:i=h.length:=by omega
  subst e
  simp only [f48_l1,f48_l1_b,decide_eq_false (Int.lt_irrefl _),cond_false,Option.bind_some,List.take_length]
 | succ d ih =>
  intro i n hi hn
  obtain ⟨n,rfl⟩:∃ m,n=m+1:=⟨n - 1,by omega⟩
  have h1:i<h.length:=by omega
  have g1:h[i]?=some h[i]:=List.getElem?_eq_getElem h1
  have ho:=orB (numB_take_lt hb (show i≤7 by omega)) (hb h[i] (List.getElem_mem h1))
  have hs:numB (h.take i) * 256+h[i].toNat=numB (h.take (i+1)):=by rw [List.take_succ_eq_append_getElem h1,numB_snoc]
  rw [hs] at ho
  have ih':=ih (i+1) n (by omega) (by omega)
  simp only [f48_l1,f48_l1_b,f48_l1_j1,f48_l1_j2,decide_eq_true (show (i:Int)<(h.length:Int) by omega),cond_true,ifE_pos (show (0:Int)≤(i:Int) by omega),ifE_pos (show (i:Int)<(h.length:Int) by omega),Int.toNat_natCast,g1,ho,Option.bind_some,nextN h1 (by omega),ih']
theorem numb_at (k:Nat) (hk:12≤k) (B:List Int) (hb:By B) (hB:B.length≤150000) (a n:Nat) (ha:a≤B.length) (hn:n≤8):f48 k n B a 0=some (if a+n≤B.length then .o0 (numB ((B.drop a).take n)) B ((a+n:Nat):Int) 0 else .o0 0 B a 7):=by
 obtain ⟨k,rfl⟩:∃ m,k=m+1:=⟨k - 1,by omega⟩
 have hr:=raw_at k (by omega) B hB a n ha (by omega)
 by_cases h:a+n≤B.length
 ·rw [if_pos h] at hr ⊢
  have hl:=numb_l1 k ((B.drop a).take n) ((hb.drop a).take n) (by simp;omega) B ((a+n:Nat):Int) 0 ((B.drop a).take n).length 0 k (by omega) (by simp;omega)
  rw [List.take_zero,Int.natCast_zero,show ((numB []:Nat):Int)=0 from rfl] at hl
  simp only [f48,f48_e,hr,Option.bind_some,hl,f48_j2]
 ·rw [if_neg h] at hr ⊢
  have hl:=numb_l1 k [] (by intro x hx;cases hx) (by simp) B a 7 0 0 k rfl (by omega)
  rw [List.take_zero,Int.natCast_zero,show ((numB []:Nat):Int)=0 from rfl] at hl
  simp only [List.length_nil,Int.natCast_zero] at hl
  simp only [f48,f48_e,hr,Option.bind_some,List.length_nil,Int.natCast_zero,hl,f48_j2]
theorem u8_at (k:Nat) (hk:13≤k) (B:List Int) (hb:By B) (hB:B.length≤150000) (a:Nat) (ha:a≤B.length):f40 k B a 0=some (match B.drop a with | []=>.o0 0 B a 7 | c::_=>.o0 c B ((a+1:Nat):Int) 0):=by
 obtain ⟨k,rfl⟩:∃ m,k=m+1:=⟨k - 1,by omega⟩
 have h:=numb_at k (by omega) B hb hB a 1 ha (by omega)
 rw [show ((1:Nat):Int)=1 from rfl] at h
 by_cases h1:a+1≤B.length
 ·rw [if_pos h1] at h
  have hd:B.drop a=B[a]::B.drop (a+1):=List.drop_eq_getElem_cons (by omega)
  have hc:=hb B[a] (List.getElem_mem _)
  rw [hd] at h ⊢
  have e:((numB (List.take 1 (B[a]::B.drop (a+1))):Nat):Int)=B[a]:=by
   show ((numB [B[a]]:Nat):Int)=B[a]
   simp only [numB,List.foldl_cons,List.foldl_nil]
   omega
  rw [e] at h
  simp only [f40,f40_e,h,Option.bind_some,wrap_u8 hc.1 hc.2]
 ·rw [if_neg h1] at h
  have hd:B.drop a=[]:=List.drop_eq_nil_of_le (by omega)
  rw [hd]
  simp only [f40,f40_e,h,Option.bind_some]
  rfl
theorem and31 {x:Int} (h:0≤x∧x<256):IntKind.u8.wrap ((BitVec.ofInt (IntKind.bits .u8) x &&& BitVec.ofInt (IntKind.bits .u8) (31:Int)).toNat:Nat)=x % 32:=by
 have key:∀ c:Fin 256,IntKind.u8.wrap ((BitVec.ofInt (IntKind.bits .u8) (c.val:Int) &&& BitVec.ofInt (IntKind.bits .u8) (31:Int)).toNat:Nat)=(c.val:Int) % 32:=by decide +kernel
 have:=key ⟨x.toNat,by omega⟩
 have e:((x.toNat:Nat):Int)=x:=by omega
 simp only [e] at this
 exact this
def kd (t:Int):Int:=if t=0 then 1 else if t=2 then 2 else if t=3 then 3 else if t=4 then 4 else 0
theorem idx8_at (k:Nat) (hk:8≤k) (t:Int) (ht:0≤t∧t<8):f42 k [0,2,3,4] t=some (.o0 (kd t - 1)):=by
 obtain ⟨k,rfl⟩:∃ m,k=m+8:=⟨k - 8,by omega⟩
 have h:t=0∨t=1∨t=2∨t=3∨t=4∨t=5∨t=6∨t=7:=by omega
 rcases h with rfl | rfl | rfl | rfl | rfl | rfl | rfl | rfl<;>rfl
def fs:R31_s1→R31
 | .o0 _ _ _ B a r _ _ _ _=>.o0 0 0 [] [] 7 B a r
 | .o1 _ _ _ B a r _ _ _ _=>.o0 0 0 [] [] 170 B a r
 | .o2 _ _ _ _ B a r _ _ _ _=>.o0 0 0 [] [] 7 B a r
 | .o3 _ _ _ B a r _ _ _ _=>.o0 0 0 [] [] 170 B a r
 | .o4 e x n b i B a r=>.o0 x n b i e B a r
 | .o5 _ _ _ B a r _ _ _ _=>.o0 0 0 [] [] 170 B a r
 | .o6 _ _ B a r _ _ _ _=>.o0 0 0 [] [] 170 B a r
 | .o7 _ _ _ _ _ B a r=>.o0 0 0 [] [] 7 B a r
 | .o8 _ _ _ _ _ B a r=>.o0 0 0 [] [] 170 B a r
 | .o9 e x n b i B a r=>.o0 x n b i e B a r
 | .o10 _ _ _ B a r _ _ _ _=>.o0 0 0 [] [] 170 B a r
 | .o11 _ _ B a r _ _ _ _=>.o0 0 0 [] [] 170 B a r
 | .o12 _ _ _ _ _ B a r=>.o0 0 0 [] [] 7 B a r
 | .o13 _ _ _ _ _ B a r=>.o0 0 0 [] [] 170 B a r
theorem fs_ok (k:Nat) (hk:1≤k) (q:Int→List Int→Int→Int→Option R31) (x:Int) (B:List Int) (a r:Int) (s:R31_s1) (h:f31_s1_b k q x B a r 0 0 [] []=some s):f31_e k q x B a r=some (fs s):=by
 obtain ⟨k,rfl⟩:∃ m,k=m+1:=⟨k - 1,by omega⟩
 cases s<;>simp only [f31_e,f31_s1,h,Option.bind_some,f31_s1_g0,f31_s1_g0_b,f31_s1_g1,f31_s1_g1_b,f31_s1_g2,f31_s1_g2_b,f31_s1_g3,f31_s1_g3_b,f31_s1_g4,f31_s1_g4_b,f31_s1_g5,f31_s1_g5_b,f31_s1_g6,f31_s1_g6_b,f31_s1_g7,f31_s1_g7_b,f31_s1_g8,f31_s1_g8_b,f31_s1_g9,f31_s1_g9_b,f31_s1_g10,f31_s1_g10_b,f31_s1_g11,f31_s1_g11_b,fs]
theorem l3_at (k:Nat) (q:Int→List Int→Int→Int→Option R31) (x1 x8:Int) (h:List Int) (hb:By h) (hl:h.length≤8) (B:List Int) (a r u v:Int) (w:List Int) (y:List It):∀ (d i n:Nat),i+d=h.length→d<n →
 f31_s1_l3 k q n x1 (numB (h.take i)) x8 h.length i B a r u v w y h=some (.o1 x1 (numB h) x8 h.length h.length false B a r u v w y h):=by
 intro d
 induction d with
 | zero =>
  intro i n hi hn
  obtain ⟨n,rfl⟩:∃ m,n=m+1:=⟨n - 1,by omega⟩
  have e:i=h.length:=by omega
  subst e
  simp only [f31_s1_l3,f31_s1_l3_b,decide_eq_false (Int.lt_irrefl _),cond_false,Option.bind_some,List.take_length]
 | succ d ih =>
  intro i n hi hn
  obtain ⟨n,rfl⟩:∃ m,n=m+1:=⟨n - 1,by omega⟩
  have h1:i<h.length:=by omega
  have g1:h[i]?=some h[i]:=List.getElem?_eq_getElem h1
  have ho:=orB (numB_take_lt hb (show i≤7 by omega)) (hb h[i] (List.getElem_mem h1))
  have hs:numB (h.take i) * 256+h[i].toNat=numB (h.take (i+1)):=by rw [List.take_succ_eq_append_getElem h1,numB_snoc]
  rw [hs] at ho
  have ih':=ih (i+1) n (by omega) (by omega)
  simp only [f31_s1_l3,f31_s1_l3_b,f31_s1_l3_j1,f31_s1_l3_j2,decide_eq_true (show (i:Int)<(h.length:Int) by omega),cond_true,ifE_pos (show (0:Int)≤(i:Int) by omega),ifE_pos (show (i:Int)<(h.length:Int) by omega),Int.toNat_natCast,g1,ho,Option.bind_some,nextN h1 (by omega),ih']
theorem items_l (k:Nat) (q:Int→List Int→Int→Int→Option R31) (left:Nat) (hleft:left≤100) (D:List Int→Dr) (B:List Int) (hq:∀ a:Nat,a≤B.length→∃ R,q left B a 0=some R∧Res B a (D (B.drop a)) R) (N:Nat) (hN:N≤64):∀ (d i n a:Nat) (acc:List It),i+d=N→d<n→a≤B.length→acc.length=i →
 ∃ s,f31_s1_l8 k q n ((left+1:Nat):Int) N i B a 0 4 0 [] acc=some s∧(match itemsD D d (B.drop a) acc with
  | .err e=>(e=7∨e=170)∧∃ a' r,s=.o0 e 0 0 [] [] B a' r
  | .ok x m=>a+m≤B.length∧x.Kind=4∧x.Num=0∧x.Bytes=[]∧s=.o2 ((left+1:Nat):Int) N N false B ((a+m:Nat):Int) 0 4 0 [] x.Items):=by
 intro d
 induction d with
 | zero =>
  intro i n a acc hi hn ha hacc
  obtain ⟨n,rfl⟩:∃ m,n=m+1:=⟨n - 1,by omega⟩
  have e:i=N:=by omega
  subst e
  exact ⟨_,by simp only [f31_s1_l8,f31_s1_l8_b,decide_eq_false (Int.lt_irrefl _),cond_false,Option.bind_some];rfl,ha,rfl,rfl,rfl,rfl⟩
 | succ d ih =>
  intro i n a acc hi hn ha hacc
  obtain ⟨n,rfl⟩:∃ m,n=m+1:=⟨n - 1,by omega⟩
  obtain ⟨R,h1,h2⟩:=hq a ha
  have hw:IntKind.i64.wrap (((left+1:Nat):Int) - 1)=(left:Int):=by rw [wrap_i64 (by omega) (by omega)];omega
  have hlt:=decide_eq_true (show (i:Int)<(N:Int) by omega)
  rw [itemsD]
  cases hD:D (B.drop a) with
  | err e =>
   rw [hD] at h2
   obtain ⟨he,a',r,rfl⟩:=h2
   have hne:(e != 0)=true:=by rcases he with rfl | rfl<;>rfl
   refine ⟨.o0 e 0 0 [] [] B a' r,?_,he,a',r,rfl⟩
   simp only [f31_s1_l8,f31_s1_l8_b,hlt,cond_true,f31_s1_l8_j1,hw,h1,Option.bind_some,hne]
  | ok x m =>
   rw [hD] at h2
   obtain ⟨hm,rfl⟩:=h2
   obtain ⟨xk,xn,xb,xi⟩:=x
   have hr:(acc.length+1) * 64≤roomy:=by unfold roomy;omega
   have hu:IntKind.u64.wrap ((i:Int)+1)=((i+1:Nat):Int):=by rw [wrap_u64 (by omega) (by omega)];omega
   obtain ⟨s,hs,hs2⟩:=ih (i+1) n (a+m) (acc++[⟨xk,xn,xb,xi⟩]) (by omega) (by omega) hm (by simp;omega)
   dsimp only
   rw [List.drop_drop]
   refine ⟨s,?_,?_⟩
   ·simp only [f31_s1_l8,f31_s1_l8_b,hlt,cond_true,f31_s1_l8_j1,hw,h1,Option.bind_some,bne_self_eq_false,cond_false,f31_s1_l8_j2,ifE_pos hr,f31_s1_l8_j3,hu]
    exact hs
   ·revert hs2
    cases itemsD D d (B.drop (a+m)) (acc++[⟨xk,xn,xb,xi⟩]) with
    | err e=>exact fun h=>h
    | ok y m' =>
     rintro ⟨h3,h4,h5,h6,h7⟩
     exact ⟨by omega,h4,h5,h6,by rw [h7,Nat.add_assoc]⟩
theorem tail_a (k:Nat) (hk:600≤k) (q:Int→List Int→Int→Int→Option R31) (left:Nat) (hleft:left≤100) (D:List Int→Dr) (B:List Int) (hb:By B) (hB:B.length≤150000) (hq:∀ a:Nat,a≤B.length→∃ R,q left B a 0=some R∧Res B a (D (B.drop a)) R) (a n:Nat) (ha:a≤B.length) (t:Int) (ht:t=0∨t=2∨t=3∨t=4) :
 ∃ s,f31_s1_j6 k q ((left+1:Nat):Int) n false B a 0 (kd t) 0 [] []=some s∧Res B a (tailD D t n (B.drop a)) (fs s):=by
 have bytes:(t=2∨t=3)→∃ s,f31_s1_j10 k q ((left+1:Nat):Int) n false B a 0 t 0 [] []=some s∧Res B a (tailD D t n (B.drop a)) (fs s):=fun h23=>by
  have t0:t≠0:=by omega
  have t4:t≠4:=by omega
  rw [tailD,if_neg t0,if_neg t4]
  by_cases h5:n>512
  ·rw [if_pos h5]
   exact ⟨.o6 n true B a 0 t 0 [] [],by simp only [f31_s1_j10,decide_eq_true (show (n:Int)>512 by omega),cond_true],.inr rfl,_,_,rfl⟩
  rw [if_neg h5]
  have hr:=raw_at k (by omega) B hB a n ha (by omega)
  have hw:IntKind.i64.wrap (n:Int)=(n:Int):=wi64 (by omega)
  by_cases h6:(B.drop a).length<n
  ·rw [if_pos h6]
   have h7:¬a+n≤B.length:=by rw [List.length_drop] at h6;omega
   rw [if_neg h7] at hr
   refine ⟨.o7 true t 0 [] [] B a 7,?_,.inl rfl,_,_,rfl⟩
   simp only [f31_s1_j10,decide_eq_false (show ¬(n:Int)>512 by omega),cond_false,f31_s1_j11,hw,hr,Option.bind_some,err_at k (by omega),show ((7:Int) != 0)=true from rfl,cond_true]
  rw [if_neg h6]
  have h7:a+n≤B.length:=by rw [List.length_drop] at h6;omega
  rw [if_pos h7] at hr
  have hv:=val_at k ((B.drop a).take n) (by simp;omega) ((hb.drop a).take n)
  have start:f31_s1_j10 k q ((left+1:Nat):Int) n false B a 0 t 0 [] []=f31_s1_j12 k q false t 0 ((B.drop a).take n) [] B ((a+n:Nat):Int) 0:=by
   simp only [f31_s1_j10,decide_eq_false (show ¬(n:Int)>512 by omega),cond_false,f31_s1_j11,hw,hr,Option.bind_some,err_at k (by omega),bne_self_eq_false]
  rw [start]
  rcases h23 with rfl | rfl
  ·rw [if_neg (by simp)]
   exact ⟨.o4 0 2 0 ((B.drop a).take n) [] B ((a+n:Nat):Int) 0,by simp only [f31_s1_j12,show ((2:Int)==3)=false from rfl,cond_false,f31_s1_j13],h7,rfl⟩
  ·cases hvb:vB ((B.drop a).take n)
   ·rw [if_pos ⟨rfl,rfl⟩]
    rw [hvb] at hv
    exact ⟨.o8 true 3 0 ((B.drop a).take n) [] B ((a+n:Nat):Int) 0,by simp only [f31_s1_j12,show ((3:Int)==3)=true from rfl,cond_true,hv,Option.bind_some,Bool.not_false],.inr rfl,_,_,rfl⟩
   ·rw [if_neg (by simp)]
    rw [hvb] at hv
    exact ⟨.o4 0 3 0 ((B.drop a).take n) [] B ((a+n:Nat):Int) 0,by simp only [f31_s1_j12,show ((3:Int)==3)=true from rfl,cond_true,hv,Option.bind_some,Bool.not_true,cond_false,f31_s1_j13],h7,rfl⟩
 rcases ht with rfl | rfl | rfl | rfl
 ·rw [tailD,if_pos rfl]
  exact ⟨.o4 0 1 n [] [] B a 0,by simp only [f31_s1_j6,kd,if_true,show ((1:Int)==1)=true from rfl,cond_true],by simpa using ha,rfl⟩
 ·obtain ⟨s,h1,h2⟩:=bytes (.inl rfl)
  exact ⟨s,by simp only [f31_s1_j6,show kd 2=2 from rfl,show ((2:Int)==1)=false from rfl,show ((2:Int)==4)=false from rfl,cond_false,h1],h2⟩
 ·obtain ⟨s,h1,h2⟩:=bytes (.inr rfl)
  exact ⟨s,by simp only [f31_s1_j6,show kd 3=3 from rfl,show ((3:Int)==1)=false from rfl,show ((3:Int)==4)=false from rfl,cond_false,h1],h2⟩
 ·rw [tailD,if_neg (by decide),if_pos rfl]
  by_cases h5:n>64
  ·rw [if_pos h5]
   exact ⟨.o5 ((left+1:Nat):Int) n true B a 0 4 0 [] [],by simp only [f31_s1_j6,show kd 4=4 from rfl,show ((4:Int)==1)=false from rfl,show ((4:Int)==4)=true from rfl,cond_false,cond_true,decide_eq_true (show (n:Int)>64 by omega)],.inr rfl,_,_,rfl⟩
  rw [if_neg h5]
  obtain ⟨s,h1,h2⟩:=items_l k q left hleft D B hq n (by omega) n 0 k a [] (by omega) (by omega) ha rfl
  rw [Int.natCast_zero] at h1
  have start:f31_s1_j6 k q ((left+1:Nat):Int) n false B a 0 (kd 4) 0 [] []=f31_s1_j7 k q ((left+1:Nat):Int) n false B a 0 4 0 [] []:=by
   simp only [f31_s1_j6,show kd 4=4 from rfl,show ((4:Int)==1)=false from rfl,show ((4:Int)==4)=true from rfl,cond_false,cond_true,decide_eq_false (show ¬(n:Int)>64 by omega)]
  rw [start]
  cases hi:itemsD D n (B.drop a) [] with
  | err e =>
   rw [hi] at h2
   obtain ⟨he,a',r,rfl⟩:=h2
   exact ⟨.o4 e 0 0 [] [] B a' r,by simp only [f31_s1_j7,h1,Option.bind_some],he,_,_,rfl⟩
  | ok x m =>
   rw [hi] at h2
   obtain ⟨hm,h3,h4,h5',rfl⟩:=h2
   refine ⟨.o4 0 4 0 [] x.Items B ((a+m:Nat):Int) 0,by simp only [f31_s1_j7,h1,Option.bind_some,f31_s1_j9],hm,?_⟩
   rw [h3,h4,h5']
   rfl
theorem tail_b (k:Nat) (hk:600≤k) (q:Int→List Int→Int→Int→Option R31) (left:Nat) (hleft:left≤100) (D:List Int→Dr) (B:List Int) (hb:By B) (hB:B.length≤150000) (hq:∀ a:Nat,a≤B.length→∃ R,q left B a 0=some R∧Res B a (D (B.drop a)) R) (a n:Nat) (ha:a≤B.length) (t:Int) (ht:t=0∨t=2∨t=3∨t=4) :
 ∃ s,f31_s1_j14 k q ((left+1:Nat):Int) n false B a 0 (kd t) 0 [] []=some s∧Res B a (tailD D t n (B.drop a)) (fs s):=by
 have bytes:(t=2∨t=3)→∃ s,f31_s1_j16 k q ((left+1:Nat):Int) n false B a 0 t 0 [] []=some s∧Res B a (tailD D t n (B.drop a)) (fs s):=fun h23=>by
  have t0:t≠0:=by omega
  have t4:t≠4:=by omega
  rw [tailD,if_neg t0,if_neg t4]
  by_cases h5:n>512
  ·rw [if_pos h5]
   exact ⟨.o11 n true B a 0 t 0 [] [],by simp only [f31_s1_j16,decide_eq_true (show (n:Int)>512 by omega),cond_true],.inr rfl,_,_,rfl⟩
  rw [if_neg h5]
  have hr:=raw_at k (by omega) B hB a n ha (by omega)
  have hw:IntKind.i64.wrap (n:Int)=(n:Int):=wi64 (by omega)
  by_cases h6:(B.drop a).length<n
  ·rw [if_pos h6]
   have h7:¬a+n≤B.length:=by rw [List.length_drop] at h6;omega
   rw [if_neg h7] at hr
   refine ⟨.o12 true t 0 [] [] B a 7,?_,.inl rfl,_,_,rfl⟩
   simp only [f31_s1_j16,decide_eq_false (show ¬(n:Int)>512 by omega),cond_false,f31_s1_j17,hw,hr,Option.bind_some,err_at k (by omega),show ((7:Int) != 0)=true from rfl,cond_true]
  rw [if_neg h6]
  have h7:a+n≤B.length:=by rw [List.length_drop] at h6;omega
  rw [if_pos h7] at hr
  have hv:=val_at k ((B.drop a).take n) (by simp;omega) ((hb.drop a).take n)
  have start:f31_s1_j16 k q ((left+1:Nat):Int) n false B a 0 t 0 [] []=f31_s1_j18 k q false t 0 ((B.drop a).take n) [] B ((a+n:Nat):Int) 0:=by
   simp only [f31_s1_j16,decide_eq_false (show ¬(n:Int)>512 by omega),cond_false,f31_s1_j17,hw,hr,Option.bind_some,err_at k (by omega),bne_self_eq_false]
  rw [start]
  rcases h23 with rfl | rfl
  ·rw [if_neg (by simp)]
   exact ⟨.o9 0 2 0 ((B.drop a).take n) [] B ((a+n:Nat):Int) 0,by simp only [f31_s1_j18,show ((2:Int)==3)=false from rfl,cond_false,f31_s1_j19],h7,rfl⟩
  ·cases hvb:vB ((B.drop a).take n)
   ·rw [if_pos ⟨rfl,rfl⟩]
    rw [hvb] at hv
    exact ⟨.o13 true 3 0 ((B.drop a).take n) [] B ((a+n:Nat):Int) 0,by simp only [f31_s1_j18,show ((3:Int)==3)=true from rfl,cond_true,hv,Option.bind_some,Bool.not_false],.inr rfl,_,_,rfl⟩
   ·rw [if_neg (by simp)]
    rw [hvb] at hv
    exact ⟨.o9 0 3 0 ((B.drop a).take n) [] B ((a+n:Nat):Int) 0,by simp only [f31_s1_j18,show ((3:Int)==3)=true from rfl,cond_true,hv,Option.bind_some,Bool.not_true,cond_false,f31_s1_j19],h7,rfl⟩
 rcases ht with rfl | rfl | rfl | rfl
 ·rw [tailD,if_pos rfl]
  exact ⟨.o9 0 1 n [] [] B a 0,by simp only [f31_s1_j14,kd,if_true,show ((1:Int)==1)=true from rfl,cond_true],by simpa using ha,rfl⟩
 ·obtain ⟨s,h1,h2⟩:=bytes (.inl rfl)
  exact ⟨s,by simp only [f31_s1_j14,show kd 2=2 from rfl,show ((2:Int)==1)=false from rfl,show ((2:Int)==4)=false from rfl,cond_false,h1],h2⟩
 ·obtain ⟨s,h1,h2⟩:=bytes (.inr rfl)
  exact ⟨s,by simp only [f31_s1_j14,show kd 3=3 from rfl,show ((3:Int)==1)=false from rfl,show ((3:Int)==4)=false from rfl,cond_false,h1],h2⟩
 ·rw [tailD,if_neg (by decide),if_pos rfl]
  by_cases h5:n>64
  ·rw [if_pos h5]
   exact ⟨.o10 ((left+1:Nat):Int) n true B a 0 4 0 [] [],by simp only [f31_s1_j14,show kd 4=4 from rfl,show ((4:Int)==1)=false from rfl,show ((4:Int)==4)=true from rfl,cond_false,cond_true,decide_eq_true (show (n:Int)>64 by omega)],.inr rfl,_,_,rfl⟩
  rw [if_neg h5]
  obtain ⟨s,h1,h2⟩:=items_l k q left hleft D B hq n (by omega) n 0 k a [] (by omega) (by omega) ha rfl
  rw [Int.natCast_zero] at h1
  have start:f31_s1_j14 k q ((left+1:Nat):Int) n false B a 0 (kd 4) 0 [] []=f31_s1_j15 k q ((left+1:Nat):Int) n false B a 0 4 0 [] []:=by
   simp only [f31_s1_j14,show kd 4=4 from rfl,show ((4:Int)==1)=false from rfl,show ((4:Int)==4)=true from rfl,cond_false,cond_true,decide_eq_false (show ¬(n:Int)>64 by omega)]
  rw [start]
  cases hi:itemsD D n (B.drop a) [] with
  | err e =>
   rw [hi] at h2
   obtain ⟨he,a',r,rfl⟩:=h2
   exact ⟨.o4 e 0 0 [] [] B a' r,by simp only [f31_s1_j15,h1,Option.bind_some],he,_,_,rfl⟩
  | ok x m =>
   rw [hi] at h2
   obtain ⟨hm,h3,h4,h5',rfl⟩:=h2
   refine ⟨.o4 0 4 0 [] x.Items B ((a+m:Nat):Int) 0,by simp only [f31_s1_j15,h1,Option.bind_some,f31_s1_j9],hm,?_⟩
   rw [h3,h4,h5']
   rfl
theorem cn_at (k:Nat) (q:Int→List Int→Int→Int→Option R31) (x1:Int) (j n:Nat) (hj:j=1∨j=2∨j=4∨j=8) (B:List Int) (a r u v:Int) (w:List Int) (y:List It) :
 f31_s1_j5 k q x1 n j false B a r u v w y=if cn j n=true then f31_s1_j6 k q x1 n false B a r u v w y else some (.o3 x1 n true B a r u v w y):=by
 rcases hj with rfl | rfl | rfl | rfl
 ·by_cases h:24≤n
  ·rw [if_pos (by simp [cn,h])]
   simp only [f31_s1_j5,show (((1:Nat):Int)==1)=true from rfl,cond_true,decide_eq_false (show ¬(n:Int)<24 by omega),cond_false,show decide (((1:Nat):Int)>1)=false from rfl]
  ·rw [if_neg (by simp [cn];omega)]
   simp only [f31_s1_j5,show (((1:Nat):Int)==1)=true from rfl,cond_true,decide_eq_true (show (n:Int)<24 by omega)]
 ·have hf:(Int.fdiv (n:Int) (2 ^ (min (Int.toNat (IntKind.i64.wrap ((4:Int) * ((2:Nat):Int)))) (IntKind.bits .u64)))==0)=decide (n<256):=by
   rw [show (2:Int) ^ (min (Int.toNat (IntKind.i64.wrap ((4:Int) * ((2:Nat):Int)))) (IntKind.bits .u64))=256 from rfl,Int.fdiv_eq_ediv_of_nonneg _ (by omega),Bool.eq_iff_iff,beq_iff_eq,decide_eq_true_iff]
   omega
  have hn:¬(IntKind.i64.wrap ((4:Int) * ((2:Nat):Int)))<0:=by decide
  by_cases h:n<256
  ·rw [if_neg (by simp [cn];omega)]
   simp only [f31_s1_j5,show (((2:Nat):Int)==1)=false from rfl,cond_false,show decide (((2:Nat):Int)>1)=true from rfl,cond_true,ifE_pos hn,hf,decide_eq_true h]
  ·rw [if_pos (by simp [cn];omega)]
   simp only [f31_s1_j5,show (((2:Nat):Int)==1)=false from rfl,cond_false,show decide (((2:Nat):Int)>1)=true from rfl,cond_true,ifE_pos hn,hf,decide_eq_false h]
 ·have hf:(Int.fdiv (n:Int) (2 ^ (min (Int.toNat (IntKind.i64.wrap ((4:Int) * ((4:Nat):Int)))) (IntKind.bits .u64)))==0)=decide (n<65536):=by
   rw [show (2:Int) ^ (min (Int.toNat (IntKind.i64.wrap ((4:Int) * ((4:Nat):Int)))) (IntKind.bits .u64))=65536 from rfl,Int.fdiv_eq_ediv_of_nonneg _ (by omega),Bool.eq_iff_iff,beq_iff_eq,decide_eq_true_iff]
   omega
  have hn:¬(IntKind.i64.wrap ((4:Int) * ((4:Nat):Int)))<0:=by decide
  by_cases h:n<65536
  ·rw [if_neg (by simp [cn];omega)]
   simp only [f31_s1_j5,show (((4:Nat):Int)==1)=false from rfl,cond_false,show decide (((4:Nat):Int)>1)=true from rfl,cond_true,ifE_pos hn,hf,decide_eq_true h]
  ·rw [if_pos (by simp [cn];omega)]
   simp only [f31_s1_j5,show (((4:Nat):Int)==1)=false from rfl,cond_false,show decide (((4:Nat):Int)>1)=true from rfl,cond_true,ifE_pos hn,hf,decide_eq_false h]
 ·have hf:(Int.fdiv (n:Int) (2 ^ (min (Int.toNat (IntKind.i64.wrap ((4:Int) * ((8:Nat):Int)))) (IntKind.bits .u64)))==0)=decide (n<4294967296):=by
   rw [show (2:Int) ^ (min (Int.toNat (IntKind.i64.wrap ((4:Int) * ((8:Nat):Int)))) (IntKind.bits .u64))=4294967296 from rfl,Int.fdiv_eq_ediv_of_nonneg _ (by omega),Bool.eq_iff_iff,beq_iff_eq,decide_eq_true_iff]
   omega
  have hn:¬(IntKind.i64.wrap ((4:Int) * ((8:Nat):Int)))<0:=by decide
  by_cases h:n<4294967296
  ·rw [if_neg (by simp [cn];omega)]
   simp only [f31_s1_j5,show (((8:Nat):Int)==1)=false from rfl,cond_false,show decide (((8:Nat):Int)>1)=true from rfl,cond_true,ifE_pos hn,hf,decide_eq_true h]
  ·rw [if_pos (by simp [cn];omega)]
   simp only [f31_s1_j5,show (((8:Nat):Int)==1)=false from rfl,cond_false,show decide (((8:Nat):Int)>1)=true from rfl,cond_true,ifE_pos hn,hf,decide_eq_false h]
theorem get_at:∀ (left k:Nat) (hleft:left≤100) (hk:620+left≤k) (B:List Int) (hb:By B) (hB:B.length≤150000) (a:Nat) (ha:a≤B.length),∃ R,f31 k left B a 0=some R∧Res B a (dec left (B.drop a)) R:=by
 intro left
 induction left with
 | zero =>
  intro k hleft hk B hb hB a ha
  obtain ⟨k,rfl⟩:∃ m,k=m+1:=⟨k - 1,by omega⟩
  have hu:=u8_at k (by omega) B hb hB a ha
  cases hd:B.drop a with
  | nil =>
   rw [hd] at hu
   have hs:f31_s1_b k (f31 k) ((0:Nat):Int) B a 0 0 0 [] []=some (.o0 ((0:Nat):Int) 0 true B a 7 0 0 [] []):=by
    simp only [f31_s1_b,hu,Option.bind_some,err_at k (by omega),show ((7:Int) != 0)=true from rfl,cond_true]
   exact ⟨_,by rw [f31];exact fs_ok k (by omega) _ _ B a 0 _ hs,by rw [dec];exact ⟨.inl rfl,_,_,rfl⟩⟩
  | cons f r =>
   rw [hd] at hu
   have hf:0≤f∧f<256:=hb.drop a f (by rw [hd];simp)
   have h5:Int.fdiv f (2 ^ (min 5 (IntKind.bits .u8)))=f / 32:=by rw [show (2:Int) ^ (min 5 (IntKind.bits .u8))=32 from rfl,Int.fdiv_eq_ediv_of_nonneg _ (by omega)]
   have hi:=idx8_at k (by omega) (f / 32) (by omega)
   have hs:∃ z,f31_s1_b k (f31 k) ((0:Nat):Int) B a 0 0 0 [] []=some (.o1 ((0:Nat):Int) f true B ((a+1:Nat):Int) 0 z 0 [] []):=by
    refine ⟨IntKind.i64.wrap (kd (f / 32) - 1+1),?_⟩
    simp only [f31_s1_b,hu,Option.bind_some,err_at k (by omega),bne_self_eq_false,cond_false,f31_s1_j1,h5,hi,show (((0:Nat):Int)==0)=true from rfl,cond_true]
    cases (IntKind.i64.wrap (kd (f / 32) - 1+1)==0)
    ·cases decide (IntKind.u8.wrap ((BitVec.ofInt (IntKind.bits .u8) f &&& BitVec.ofInt (IntKind.bits .u8) (31:Int)).toNat:Nat)>27)<;>rfl
    ·rfl
   obtain ⟨z,hs⟩:=hs
   exact ⟨_,by rw [f31];exact fs_ok k (by omega) _ _ B a 0 _ hs,by rw [dec];exact ⟨.inr rfl,_,_,rfl⟩⟩
 | succ left ih =>
  intro k hleft hk B hb hB a ha
  obtain ⟨k,rfl⟩:∃ m,k=m+1:=⟨k - 1,by omega⟩
  have hq:∀ a:Nat,a≤B.length→∃ R,f31 k left B a 0=some R∧Res B a (dec left (B.drop a)) R:=fun a ha=>ih k (by omega) (by omega) B hb hB a ha
  have hu:=u8_at k (by omega) B hb hB a ha
  cases hd:B.drop a with
  | nil =>
   rw [hd] at hu
   have hs:f31_s1_b k (f31 k) ((left+1:Nat):Int) B a 0 0 0 [] []=some (.o0 ((left+1:Nat):Int) 0 true B a 7 0 0 [] []):=by
    simp only [f31_s1_b,hu,Option.bind_some,err_at k (by omega),show ((7:Int) != 0)=true from rfl,cond_true]
   exact ⟨_,by rw [f31];exact fs_ok k (by omega) _ _ B a 0 _ hs,by rw [dec];exact ⟨.inl rfl,_,_,rfl⟩⟩
  | cons f r =>
   rw [hd] at hu
   have hf:0≤f∧f<256:=hb.drop a f (by rw [hd];simp)
   have hr:r=B.drop (a+1):=by
    have:=congrArg (List.drop 1) hd
    rw [List.drop_drop] at this
    simpa using this.symm
   have ha1:a+1≤B.length:=by
    have:=congrArg List.length hd
    simp at this;omega
   have h5:Int.fdiv f (2 ^ (min 5 (IntKind.bits .u8)))=f / 32:=by rw [show (2:Int) ^ (min 5 (IntKind.bits .u8))=32 from rfl,Int.fdiv_eq_ediv_of_nonneg _ (by omega)]
   have hi:=idx8_at k (by omega) (f / 32) (by omega)
   have h31:=and31 hf
   have hx:((((left+1:Nat):Int))==0)=false:=by rw [beq_eq_false_iff_ne];omega
   -- it is enough to tell the answer ahead of the labels
   suffices hmain:∃ s,f31_s1_b k (f31 k) ((left+1:Nat):Int) B a 0 0 0 [] []=some s∧Res B a (bodyD (dec left) f r) (fs s) by
    obtain ⟨s,h1,h2⟩:=hmain
    exact ⟨_,by rw [f31];exact fs_ok k (by omega) _ _ B a 0 _ h1,by rw [dec];exact h2⟩
   have hk1:IntKind.i64.wrap (kd (f / 32) - 1+1)=kd (f / 32):=by
    have:0≤kd (f / 32)∧kd (f / 32)≤4:=by unfold kd;repeat' split<;>omega
    rw [wrap_i64 (by omega) (by omega)];omega
   have start:f31_s1_b k (f31 k) ((left+1:Nat):Int) B a 0 0 0 [] []=f31_s1_j1 k (f31 k) ((left+1:Nat):Int) f false B ((a+1:Nat):Int) 0 0 0 [] []:=by
    simp only [f31_s1_b,hu,Option.bind_some,err_at k (by omega),bne_self_eq_false,cond_false]
   rw [start]
   by_cases hbad:f / 32=1∨f / 32>4∨f % 32>27
   ·rw [bodyD,if_pos hbad]
    refine ⟨.o1 ((left+1:Nat):Int) f true B ((a+1:Nat):Int) 0 (kd (f / 32)) 0 [] [],?_,.inr rfl,_,_,rfl⟩
    simp only [f31_s1_j1,h5,hi,Option.bind_some,hk1,h31]
    cases hz:(kd (f / 32)==0)
    ·have hlow:f % 32>27:=by
      rcases hbad with h | h | h
      ·rw [h] at hz;cases hz
      ·have:kd (f / 32)=0:=by unfold kd;rw [if_neg (by omega),if_neg (by omega),if_neg (by omega),if_neg (by omega)]
       rw [this] at hz;cases hz
      ·exact h
     simp only [cond_false,decide_eq_true hlow,cond_true]
    ·simp only [cond_true]
   rw [bodyD,if_neg hbad]
   have ht:f / 32=0∨f / 32=2∨f / 32=3∨f / 32=4:=by omega
   have hlow:0≤f % 32∧f % 32≤27:=by omega
   have hkz:(kd (f / 32)==0)=false:=by rcases ht with h | h | h | h<;>rw [h]<;>rfl
   have start2:f31_s1_j1 k (f31 k) ((left+1:Nat):Int) f false B ((a+1:Nat):Int) 0 0 0 [] []=f31_s1_j2 k (f31 k) ((left+1:Nat):Int) f false B ((a+1:Nat):Int) 0 (kd (f / 32)) 0 [] []:=by
    simp only [f31_s1_j1,h5,hi,Option.bind_some,hk1,h31,hkz,cond_false,decide_eq_false (show ¬f % 32>27 by omega),hx]
   rw [start2]
   have hwl:IntKind.u64.wrap (f % 32)=f % 32:=wrap_u64 (by omega) (by omega)
   generalize hlo:f % 32=low at *
   generalize hte:f / 32=t at *
   by_cases h24:low<24
   ·obtain ⟨s,h1,h2⟩:=tail_b k (by omega) (f31 k) left (by omega) (dec left) B hb hB hq (a+1) low.toNat ha1 t ht
    rw [argD,if_pos h24]
    refine ⟨s,?_,?_⟩
    ·rw [show ((low.toNat:Nat):Int)=low by omega] at h1
     simp only [f31_s1_j2,h31,hwl,decide_eq_false (show ¬low≥24 by omega),cond_false]
     exact h1
    ·show Res B a (addN (1+0) (tailD (dec left) t low.toNat (r.drop 0))) (fs s)
     rw [List.drop_zero,Nat.add_zero,hr]
     exact h2.add
   ·rw [argD,if_neg h24]
    have hm:IntKind.u64.wrap (low - 24)=low - 24:=wrap_u64 (by omega) (by omega)
    have hp:∃ j:Nat,(j=1∨j=2∨j=4∨j=8)∧2 ^ (low - 24).toNat=j∧IntKind.i64.wrap ((1:Int) * 2 ^ (min (Int.toNat (low - 24)) (IntKind.bits .i64)))=(j:Int):=by
     have:low=24∨low=25∨low=26∨low=27:=by omega
     rcases this with rfl | rfl | rfl | rfl
     ·exact ⟨1,.inl rfl,rfl,rfl⟩
     ·exact ⟨2,.inr (.inl rfl),rfl,rfl⟩
     ·exact ⟨4,.inr (.inr (.inl rfl)),rfl,rfl⟩
     ·exact ⟨8,.inr (.inr (.inr rfl)),rfl,rfl⟩
    obtain ⟨j,hj,hj1,hj2⟩:=hp
    have hj8:j≤8:=by omega
    rw [hj1]
    have hraw:=raw_at k (by omega) B hB (a+1) j ha1 (by omega)
    have start3:∀ (B':List Int) (a' e':Int) (h:List Int),By h→h.length≤8→f43 k j B ((a+1:Nat):Int) 0=some (.o0 B' a' e' h)→f31_s1_j2 k (f31 k) ((left+1:Nat):Int) f false B ((a+1:Nat):Int) 0 (kd t) 0 [] []=f31_s1_j4 k (f31 k) ((left+1:Nat):Int) (numB h) j h.length h.length false B' a' e' (kd t) 0 [] [] h:=fun B' a' e' h hbh hlh hh=>by
     have hl:=l3_at k (f31 k) ((left+1:Nat):Int) j h hbh hlh B' a' e' (kd t) 0 [] [] h.length 0 k (by omega) (by omega)
     rw [List.take_zero,Int.natCast_zero,show ((numB []:Nat):Int)=0 from rfl] at hl
     simp only [f31_s1_j2,h31,hwl,decide_eq_true (show low≥24 by omega),cond_true,hm,ifE_pos (show ¬low - 24<0 by omega),hj2,hh,Option.bind_some,hl]
    rw [hr]
    by_cases hl:(B.drop (a+1)).length<j
    ·rw [if_pos hl]
     have hn:¬a+1+j≤B.length:=by rw [List.length_drop] at hl;omega
     rw [if_neg hn] at hraw
     rw [start3 _ _ _ _ (fun x hx=>by cases hx) (by simp) hraw]
     refine ⟨.o2 ((left+1:Nat):Int) (numB []) j true B ((a+1:Nat):Int) 7 (kd t) 0 [] [],?_,.inl rfl,_,_,rfl⟩
     simp only [f31_s1_j4,err_at k (by omega),Option.bind_some,show ((7:Int) != 0)=true from rfl,cond_true]
    ·rw [if_neg hl]
     have hn:a+1+j≤B.length:=by rw [List.length_drop] at hl;omega
     rw [if_pos hn] at hraw
     rw [start3 _ _ _ _ ((hb.drop _).take _) (by rw [List.length_take];omega) hraw]
     have e4:f31_s1_j4 k (f31 k) ((left+1:Nat):Int) (numB ((B.drop (a+1)).take j)) j ((B.drop (a+1)).take j).length ((B.drop (a+1)).take j).length false B ((a+1+j:Nat):Int) 0 (kd t) 0 [] [] ((B.drop (a+1)).take j)=f31_s1_j5 k (f31 k) ((left+1:Nat):Int) (numB ((B.drop (a+1)).take j)) j false B ((a+1+j:Nat):Int) 0 (kd t) 0 [] []:=by
      simp only [f31_s1_j4,err_at k (by omega),Option.bind_some,bne_self_eq_false,cond_false]
     rw [e4,cn_at k _ _ j _ hj]
     cases hc:cn j (numB ((B.drop (a+1)).take j))
     ·rw [if_neg (by decide),if_neg (by decide)]
      exact ⟨_,rfl,.inr rfl,_,_,rfl⟩
     ·rw [if_pos rfl,if_pos rfl]
      obtain ⟨s,h1,h2⟩:=tail_a k (by omega) (f31 k) left (by omega) (dec left) B hb hB hq (a+1+j) (numB ((B.drop (a+1)).take j)) hn t ht
      refine ⟨s,h1,?_⟩
      show Res B a (addN (1+j) (tailD (dec left) t (numB ((B.drop (a+1)).take j)) ((B.drop (a+1)).drop j))) (fs s)
      rw [show (B.drop (a+1)).drop j=B.drop (a+(1+j)) by rw [List.drop_drop,Nat.add_assoc]]
      rw [Nat.add_assoc] at h2
      exact h2.add
theorem cdec_at (k:Nat) (hk:640≤k) (B:List Int) (hb:By B) (hB:B.length≤150000):f20 k B=some (match dec 4 B with | .err e=>.o0 0 0 [] [] 0 e | .ok x n=>.o0 x.Kind x.Num x.Bytes x.Items n 0):=by
 obtain ⟨k,rfl⟩:∃ m,k=m+2:=⟨k - 2,by omega⟩
 obtain ⟨R,h1,h2⟩:=get_at 4 (k+1) (by omega) (by omega) B hb hB 0 (by omega)
 rw [List.drop_zero] at h2
 have hr:f30 (k+1) B=some (.o0 0 0 B):=by
  simp only [f30,f30_e,clone8_at k (by omega) B (by omega),Option.bind_some]
 rw [Int.natCast_zero,show ((4:Nat):Int)=4 from rfl] at h1
 cases hd:dec 4 B with
 | err e =>
  rw [hd] at h2
  obtain ⟨he,a,r,rfl⟩:=h2
  have hne:(e != 0)=true:=by rcases he with rfl | rfl<;>rfl
  simp only [f20,f20_e,hr,Option.bind_some,h1,hne,cond_true]
 | ok x n =>
  rw [hd] at h2
  obtain ⟨hn,rfl⟩:=h2
  rw [Nat.zero_add] at h1 hn
  have w1:IntKind.i64.wrap ((B.length:Int) - (n:Int))=((B.length - n:Nat):Int):=by rw [wrap_i64 (by omega) (by omega)];omega
  have w2:IntKind.i64.wrap ((B.length:Int) - ((B.length - n:Nat):Int))=(n:Int):=by rw [wrap_i64 (by omega) (by omega)];omega
  simp only [f20,f20_e,hr,Option.bind_some,h1,bne_self_eq_false,cond_false,f20_j1,f32,f32_e,f32_j1,w1,w2]
end Go.Proofs.YtlelaenalbkbmaaDoorV