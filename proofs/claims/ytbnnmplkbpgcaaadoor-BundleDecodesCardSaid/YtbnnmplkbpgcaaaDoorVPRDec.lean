/- The document's decoder of items: what it answers,told plainly (dec). -/
import Derived.Test.YtbnnmplkbpgcaaaDoorVPFwd
import Derived.Test.YtbnnmplkbpgcaaaDoorVPRefE
namespace Go.Proofs.YtbnnmplkbpgcaaaDoorV
open Go
set_option linter.unusedVariables false
set_option linter.unusedSimpArgs false
theorem rnum_l (k:Nat) (h:List Int) (hb:By h) (hl:h.length≤8):∀ (d i n:Nat),i+d=h.length→d<n →
 f48_l1 k n h (numB (h.take i)) i=some (.o1 h (numB h) h.length false):=by
 intro d
 induction d with
 | zero =>
  intro i n hi hn
  obtain ⟨n,rfl⟩:∃ m,n=m+1:=⟨n - 1,by omega⟩
  have e:i=h.length:=by omega
  subst e
  simp only [f48_l1,f48_l1_b,decide_eq_false (Int.lt_irrefl _),cond_false,Option.bind_some,List.take_length]
 | succ d ih =>
  intro i n hi hn
  obtain ⟨n,rfl⟩:∃ m,n=m+1:=⟨n - 1,by omega⟩
  have h1:i<h.length:=by omega
  have g1:h[i]?=some h[i]:=List.getElem?_eq_getElem h1
  have hx:=numB_take_lt hb (show i≤7 by omega)
  have hc:=hb h[i] (List.getElem_mem h1)
  have ho:IntKind.u64.wrap (IntKind.u64.wrap ((numB (h.take i):Int) * 256)+IntKind.u64.wrap h[i])=((numB (h.take i) * 256+h[i].toNat:Nat):Int):=by
   rw [wrap_u64 (n:=h[i]) (by omega) (by omega),wrap_u64 (n:=(numB (h.take i):Int) * 256) (by omega) (by omega),wrap_u64 (by omega) (by omega)];omega
  have hs:numB (h.take i) * 256+h[i].toNat=numB (h.take (i+1)):=by rw [List.take_succ_eq_append_getElem h1,numB_snoc]
  rw [hs] at ho
  have ih':=ih (i+1) n (by omega) (by omega)
  simp only [f48_l1,f48_l1_b,f48_l1_j1,f48_l1_j2,decide_eq_true (show (i:Int)<(h.length:Int) by omega),cond_true,ifE_pos (show (0:Int)≤(i:Int) by omega),Int.toNat_natCast,g1,ho,Option.bind_some,nextN h1 (by omega),ih']
theorem rnum_at (k:Nat) (hk:12≤k) (h:List Int) (hb:By h) (hl:h.length≤8):f48 k h=some (.o0 (numB h)):=by
 obtain ⟨k,rfl⟩:∃ m,k=m+1:=⟨k - 1,by omega⟩
 have e:=rnum_l k h hb hl h.length 0 k (by omega) (by omega)
 rw [List.take_zero,Int.natCast_zero,show ((numB []:Nat):Int)=0 from rfl] at e
 simp only [f48,f48_e,e,Option.bind_some,f48_j2]
theorem hdlen_cn {j n:Nat} (hj:j=1∨j=2∨j=4∨j=8) (hn:n<256 ^ j):(((hd 0 (n:Int)).length:Int) != ((1+j:Nat):Int)) = !(cn j n):=by
 have key:∀ (m:Nat) (b:Bool),(hd 0 (n:Int)).length=m→((m=1+j)↔b=true)→(((hd 0 (n:Int)).length:Int) != ((1+j:Nat):Int)) = !b:=by
  intro m b h1 h2
  rw [h1]
  cases b
  ·have:m≠1+j:=fun h=>by cases h2.1 h
   simp only [bne,Bool.not_false,Bool.not_eq_true',beq_eq_false_iff_ne];omega
  ·have:=h2.2 rfl
   subst this
   simp
 have hc:cn j n=true↔(if j=1 then 24≤n else 2 ^ (4 * j)≤n):=by unfold cn;split<;>simp
 by_cases h1:n<24
 ·refine key 1 _ (by rw [hd_24 h1];rfl) ?_
  rw [hc];rcases hj with rfl | rfl | rfl | rfl<;>simp<;>omega
 by_cases h2:n<256
 ·refine key 2 _ (by rw [hd_256 (by omega) h2];rfl) ?_
  rw [hc];rcases hj with rfl | rfl | rfl | rfl<;>simp<;>omega
 by_cases h3:n<65536
 ·refine key 3 _ (by rw [hd_16 (by omega) h3,List.length_cons,beL_len]) ?_
  rw [hc];rcases hj with rfl | rfl | rfl | rfl<;>simp at hn ⊢<;>omega
 by_cases h4:n<4294967296
 ·refine key 5 _ (by rw [hd_32 (by omega) h4,List.length_cons,beL_len]) ?_
  rw [hc];rcases hj with rfl | rfl | rfl | rfl<;>simp at hn ⊢<;>omega
 ·refine key 9 _ (by rw [hd_64 (by omega),List.length_cons,beL_len]) ?_
  rw [hc];rcases hj with rfl | rfl | rfl | rfl<;>simp at hn ⊢<;>omega
def rR:Dr→R29
 | .err e=>.o0 0 0 [] 0 e []
 | .ok x n=>.o0 x.Kind x.Num x.Bytes n 0 x.Items
def Inn (l:Nat):Dr→Prop
 | .err e=>e=7∨e=170
 | .ok _ n=>n≤l
theorem Inn.add {l c:Nat} {d:Dr} (h:Inn (l - c) d) (hc:c≤l):Inn l (addN c d):=by
 cases d with
 | err e=>exact h
 | ok x n=>have:n≤l - c:=h;show c+n≤l;omega
theorem ritems_l (k:Nat) (q:List Int→Int→Option R29) (left:Nat) (hleft:left≤100) (D:List Int→Dr) (B:List Int) (hB:B.length≤100000) (hq:∀ a:Nat,a≤B.length→q (B.drop a) left=some (rR (D (B.drop a)))∧Inn (B.length - a) (D (B.drop a))) (N:Nat) (hN:N≤64):∀ (d i n a:Nat) (acc:List It),i+d=N→d<n→a≤B.length→acc.length=i →
 Inn (B.length - a) (itemsD D d (B.drop a) acc)∧f29_l7 k q n B ((left+1:Nat):Int) N a i 0 0 [] [] 4 0 [] acc=some (match itemsD D d (B.drop a) acc with
  | .err e=>.o0 0 e 0 0 [] []
  | .ok x m=>.o2 B ((left+1:Nat):Int) N ((a+m:Nat):Int) N false 0 0 [] [] 4 0 [] x.Items)∧(match itemsD D d (B.drop a) acc with
  | .err e=>True
  | .ok x m=>x.Kind=4∧x.Num=0∧x.Bytes=[]):=by
 intro d
 induction d with
 | zero =>
  intro i n a acc hi hn ha hacc
  obtain ⟨n,rfl⟩:∃ m,n=m+1:=⟨n - 1,by omega⟩
  have e:i=N:=by omega
  subst e
  refine ⟨Nat.zero_le _,?_,rfl,rfl,rfl⟩
  simp only [f29_l7,f29_l7_b,decide_eq_false (Int.lt_irrefl _),cond_false,Option.bind_some]
  rfl
 | succ d ih =>
  intro i n a acc hi hn ha hacc
  obtain ⟨n,rfl⟩:∃ m,n=m+1:=⟨n - 1,by omega⟩
  obtain ⟨h1,h2⟩:=hq a ha
  have hw:IntKind.i64.wrap (((left+1:Nat):Int) - 1)=(left:Int):=by rw [wrap_i64 (by omega) (by omega)];omega
  have hlt:=decide_eq_true (show (i:Int)<(N:Int) by omega)
  have htk:List.drop a (List.take B.length B)=B.drop a:=by rw [List.take_length]
  rw [itemsD]
  cases hD:D (B.drop a) with
  | err e =>
   rw [hD] at h1 h2
   have hne:(e != 0)=true:=by rcases h2 with rfl | rfl<;>rfl
   refine ⟨h2,?_,trivial⟩
   simp only [f29_l7,f29_l7_b,hlt,cond_true,f29_l7_j1,ifE_pos (show (0:Int)≤(a:Int) by omega),Int.toNat_natCast,ifE_pos ha,htk,hw,h1,rR,Option.bind_some,hne]
  | ok x m =>
   rw [hD] at h1 h2
   have h2':m≤B.length - a:=h2
   obtain ⟨xk,xn,xb,xi⟩:=x
   have hr:(acc.length+1) * 64≤roomy:=by unfold roomy;omega
   have hu:IntKind.u64.wrap ((i:Int)+1)=((i+1:Nat):Int):=by rw [wrap_u64 (by omega) (by omega)];omega
   have hv:IntKind.i64.wrap ((a:Int)+(m:Int))=((a+m:Nat):Int):=by rw [wrap_i64 (by omega) (by omega)];omega
   obtain ⟨h3,h4,h5⟩:=ih (i+1) n (a+m) (acc++[⟨xk,xn,xb,xi⟩]) (by omega) (by omega) (by omega) (by simp;omega)
   dsimp only
   rw [List.drop_drop]
   refine ⟨Inn.add (by rw [Nat.sub_sub];exact h3) h2',?_,?_⟩
   ·simp only [f29_l7,f29_l7_b,hlt,cond_true,f29_l7_j1,ifE_pos (show (0:Int)≤(a:Int) by omega),Int.toNat_natCast,ifE_pos ha,htk,hw,h1,rR,Option.bind_some,bne_self_eq_false,cond_false,f29_l7_j2,ifE_pos hr,f29_l7_j3,hu,hv,h4]
    cases itemsD D d (B.drop (a+m)) (acc++[⟨xk,xn,xb,xi⟩]) with
    | err e=>rfl
    | ok y m'=>simp only [addN,Nat.add_assoc]
   ·revert h5
    cases itemsD D d (B.drop (a+m)) (acc++[⟨xk,xn,xb,xi⟩]) with
    | err e=>exact fun h=>h
    | ok y m'=>exact fun h=>h
theorem rtail (k:Nat) (hk:600≤k) (q:List Int→Int→Option R29) (left:Nat) (hleft:left≤100) (D:List Int→Dr) (B:List Int) (hb:By B) (hB:B.length≤100000) (hq:∀ a:Nat,a≤B.length→q (B.drop a) left=some (rR (D (B.drop a)))∧Inn (B.length - a) (D (B.drop a))) (a n:Nat) (ha:a≤B.length) (hn:n<18446744073709551616) (t:Int) (ht:t=0∨t=2∨t=3∨t=4) :
 Inn (B.length - a) (tailD D t n (B.drop a))∧f29_j4 k q B ((left+1:Nat):Int) t n a false 0 0 [] []=some (rR (addN a (tailD D t n (B.drop a)))):=by
 have bytes:(t=2∨t=3)→Inn (B.length - a) (tailD D t n (B.drop a))∧f29_j9 k q B ((left+1:Nat):Int) t n a false 0 0 [] []=some (rR (addN a (tailD D t n (B.drop a)))):=fun h23=>by
  have t0:t≠0:=by omega
  have t4:t≠4:=by omega
  rw [tailD,if_neg t0,if_neg t4]
  by_cases h5:n>512
  ·rw [if_pos h5]
   exact ⟨.inr rfl,by simp only [f29_j9,decide_eq_true (show (n:Int)>512 by omega),cond_true];rfl⟩
  rw [if_neg h5]
  have hw:IntKind.u64.wrap (IntKind.i64.wrap ((B.length:Int) - (a:Int)))=((B.length - a:Nat):Int):=by rw [wrap_i64 (by omega) (by omega),wrap_u64 (by omega) (by omega)];omega
  by_cases h6:(B.drop a).length<n
  ·rw [if_pos h6]
   rw [List.length_drop] at h6
   refine ⟨.inl rfl,?_⟩
   simp only [f29_j9,decide_eq_false (show ¬(n:Int)>512 by omega),cond_false,f29_j10,hw,decide_eq_true (show ((B.length - a:Nat):Int)<(n:Int) by omega),cond_true]
   rfl
  rw [if_neg h6]
  rw [List.length_drop] at h6
  have h7:a+n≤B.length:=by omega
  have hv:=val_at k ((B.drop a).take n) (by simp;omega) ((hb.drop a).take n)
  have hw2:IntKind.i64.wrap ((a:Int)+IntKind.i64.wrap (n:Int))=((a+n:Nat):Int):=by rw [wrap_i64 (n:=(n:Int)) (by omega) (by omega),wrap_i64 (by omega) (by omega)];omega
  have hdt:List.drop a (List.take (a+n) B)=(B.drop a).take n:=by rw [List.drop_take,Nat.add_sub_cancel_left]
  have start:f29_j9 k q B ((left+1:Nat):Int) t n a false 0 0 [] []=f29_j11 k q B t n a false 0 0 [] []:=by
   simp only [f29_j9,decide_eq_false (show ¬(n:Int)>512 by omega),cond_false,f29_j10,hw,decide_eq_false (show ¬((B.length - a:Nat):Int)<(n:Int) by omega)]
  rw [start]
  rcases h23 with rfl | rfl
  ·rw [if_neg (by simp)]
   refine ⟨(by show n≤B.length - a;omega),?_⟩
   simp only [f29_j11,hw2,ifE_pos (show (0:Int)≤(a:Int) by omega),ifE_pos (show (0:Int)≤((a+n:Nat):Int) by omega),Int.toNat_natCast,ifE_pos (show a≤a+n by omega),ifE_pos h7,hdt,show ((2:Int)==3)=false from rfl,cond_false,f29_j12]
   rfl
  ·cases hvb:vB ((B.drop a).take n)
   ·rw [if_pos ⟨rfl,rfl⟩]
    rw [hvb] at hv
    refine ⟨.inr rfl,?_⟩
    simp only [f29_j11,hw2,ifE_pos (show (0:Int)≤(a:Int) by omega),ifE_pos (show (0:Int)≤((a+n:Nat):Int) by omega),Int.toNat_natCast,ifE_pos (show a≤a+n by omega),ifE_pos h7,hdt,show ((3:Int)==3)=true from rfl,cond_true,hv,Option.bind_some,Bool.not_false]
    rfl
   ·rw [if_neg (by simp)]
    rw [hvb] at hv
    refine ⟨(by show n≤B.length - a;omega),?_⟩
    simp only [f29_j11,hw2,ifE_pos (show (0:Int)≤(a:Int) by omega),ifE_pos (show (0:Int)≤((a+n:Nat):Int) by omega),Int.toNat_natCast,ifE_pos (show a≤a+n by omega),ifE_pos h7,hdt,show ((3:Int)==3)=true from rfl,cond_true,hv,Option.bind_some,Bool.not_true,cond_false,f29_j12]
    rfl
 rcases ht with rfl | rfl | rfl | rfl
 ·rw [tailD,if_pos rfl]
  exact ⟨Nat.zero_le _,by simp only [f29_j4,show ((0:Int)==0)=true from rfl,cond_true];rfl⟩
 ·obtain ⟨h1,h2⟩:=bytes (.inl rfl)
  exact ⟨h1,by simp only [f29_j4,show ((2:Int)==0)=false from rfl,cond_false,f29_j5,show ((2:Int)==4)=false from rfl,h2]⟩
 ·obtain ⟨h1,h2⟩:=bytes (.inr rfl)
  exact ⟨h1,by simp only [f29_j4,show ((3:Int)==0)=false from rfl,cond_false,f29_j5,show ((3:Int)==4)=false from rfl,h2]⟩
 ·rw [tailD,if_neg (by decide),if_pos rfl]
  by_cases h5:n>64
  ·rw [if_pos h5]
   exact ⟨.inr rfl,by simp only [f29_j4,show ((4:Int)==0)=false from rfl,cond_false,f29_j5,show ((4:Int)==4)=true from rfl,cond_true,decide_eq_true (show (n:Int)>64 by omega)];rfl⟩
  rw [if_neg h5]
  obtain ⟨h1,h2,h3⟩:=ritems_l k q left hleft D B hB hq n (by omega) n 0 k a [] (by omega) (by omega) ha rfl
  rw [Int.natCast_zero] at h2
  refine ⟨h1,?_⟩
  have start:f29_j4 k q B ((left+1:Nat):Int) 4 n a false 0 0 [] []=f29_j6 k q B ((left+1:Nat):Int) n a false 0 0 [] []:=by
   simp only [f29_j4,show ((4:Int)==0)=false from rfl,cond_false,f29_j5,show ((4:Int)==4)=true from rfl,cond_true,decide_eq_false (show ¬(n:Int)>64 by omega)]
  rw [start]
  simp only [f29_j6,h2,Option.bind_some]
  revert h3
  cases itemsD D n (B.drop a) [] with
  | err e=>exact fun _=>rfl
  | ok x m =>
   rintro ⟨h3,h4,h5⟩
   simp only [f29_j8,addN,rR,h3,h4,h5]
theorem rdec_at:∀ (left k:Nat) (hleft:left≤100) (hk:620+left≤k) (B:List Int) (hb:By B) (hB:B.length≤100000),f29 k B left=some (rR (dec left B))∧Inn B.length (dec left B):=by
 intro left
 induction left with
 | zero =>
  intro k hleft hk B hb hB
  obtain ⟨k,rfl⟩:∃ m,k=m+1:=⟨k - 1,by omega⟩
  cases B with
  | nil=>exact ⟨by simp only [f29,f29_e,List.length_nil,Int.natCast_zero,beq_self_eq_true,cond_true];rfl,.inl rfl⟩
  | cons f r =>
   refine ⟨?_,.inr rfl⟩
   have hne:(((f::r).length:Int)==0)=false:=by rw [beq_eq_false_iff_ne];simp;omega
   simp only [f29,f29_e,hne,cond_false,f29_j1,List.getElem?_cons_zero,Option.bind_some,Int.natCast_zero,beq_self_eq_true,cond_true]
   cases (IntKind.i64.wrap (Int.tdiv (IntKind.i64.wrap f) (32:Int))==1)
   ·cases decide (IntKind.i64.wrap (Int.tdiv (IntKind.i64.wrap f) (32:Int))>4)
    ·cases decide (Int.tmod (IntKind.i64.wrap f) (32:Int)>27)<;>rfl
    ·rfl
   ·rfl
 | succ left ih =>
  intro k hleft hk B hb hB
  obtain ⟨k,rfl⟩:∃ m,k=m+1:=⟨k - 1,by omega⟩
  cases B with
  | nil=>exact ⟨by simp only [f29,f29_e,List.length_nil,Int.natCast_zero,beq_self_eq_true,cond_true];rfl,.inl rfl⟩
  | cons f r =>
   have hq:∀ a:Nat,a≤(f::r).length→f29 k ((f::r).drop a) left=some (rR (dec left ((f::r).drop a)))∧Inn ((f::r).length - a) (dec left ((f::r).drop a)):=fun a ha=>by
    have h:=ih k (by omega) (by omega) ((f::r).drop a) (hb.drop a) (by rw [List.length_drop];omega)
    rwa [List.length_drop] at h
   have hne:(((f::r).length:Int)==0)=false:=by rw [beq_eq_false_iff_ne];simp;omega
   have hf:=hb f (by simp)
   have e1:IntKind.i64.wrap f=f:=wrap_i64 (by omega) (by omega)
   have e2:IntKind.i64.wrap (Int.tdiv f 32)=f / 32:=by rw [Int.tdiv_eq_ediv_of_nonneg hf.1,wrap_i64 (by omega) (by omega)]
   have e3:Int.tmod f 32=f % 32:=Int.tmod_eq_emod_of_nonneg hf.1
   have hz:(((left+1:Nat):Int)==0)=false:=by rw [beq_eq_false_iff_ne];omega
   have start:f29 (k+1) (f::r) ((left+1:Nat):Int)=bif (f / 32==1)||(decide (f / 32>4)||decide (f % 32>27)) then some (.o0 0 0 [] 0 170 []) else f29_j2 k (f29 k) (f::r) ((left+1:Nat):Int) (f / 32) (f % 32) false 0 0 [] []:=by
    simp only [f29,f29_e,hne,cond_false,f29_j1,List.getElem?_cons_zero,Option.bind_some,e1,e2,e3,hz]
    cases (f / 32==1)<;>cases decide (f / 32>4)<;>cases decide (f % 32>27)<;>rfl
   rw [start,dec,bodyD]
   by_cases hbad:f / 32=1∨f / 32>4∨f % 32>27
   ·have hbb:((f / 32==1)||(decide (f / 32>4)||decide (f % 32>27)))=true:=by
     rcases hbad with h | h | h
     ·rw [h];rfl
     ·rw [decide_eq_true h];simp
     ·rw [decide_eq_true h];simp
    rw [if_pos hbad,hbb,cond_true]
    exact ⟨rfl,.inr rfl⟩
   have hbb:((f / 32==1)||(decide (f / 32>4)||decide (f % 32>27)))=false:=by
    rw [beq_eq_false_iff_ne.2 (fun h=>hbad (.inl h)),decide_eq_false (fun h=>hbad (.inr (.inl h))),decide_eq_false (fun h=>hbad (.inr (.inr h)))];rfl
   rw [if_neg hbad,hbb,cond_false]
   have ht:f / 32=0∨f / 32=2∨f / 32=3∨f / 32=4:=by omega
   have hlow:0≤f % 32∧f % 32≤27:=by omega
   generalize hlo:f % 32=low at *
   generalize hte:f / 32=t at *
   by_cases h24:low<24
   ·obtain ⟨h1,h2⟩:=rtail k (by omega) (f29 k) left (by omega) (dec left) (f::r) hb hB hq 1 low.toNat (by simp) (by omega) t ht
    rw [argD,if_pos h24]
    have hwl:IntKind.u64.wrap low=((low.toNat:Nat):Int):=by rw [wrap_u64 (by omega) (by omega)];omega
    have h3:f29_j2 k (f29 k) (f::r) ((left+1:Nat):Int) t low false 0 0 [] []=f29_j4 k (f29 k) (f::r) ((left+1:Nat):Int) t ((low.toNat:Nat):Int) ((1:Nat):Int) false 0 0 [] []:=by
     simp only [f29_j2,decide_eq_false (show ¬low≥24 by omega),cond_false,f29_j13,hwl,f29_j4]
     rfl
    rw [h3,h2]
    exact ⟨rfl,Inn.add (c:=1+0) (by simpa using h1) (by simp)⟩
   ·rw [argD,if_neg h24]
    have hp:∃ j:Nat,(j=1∨j=2∨j=4∨j=8)∧2 ^ (low - 24).toNat=j∧([1,2,4,8]:List Int)[(low - 24).toNat]?=some (j:Int):=by
     have:low=24∨low=25∨low=26∨low=27:=by omega
     rcases this with rfl | rfl | rfl | rfl
     ·exact ⟨1,.inl rfl,rfl,rfl⟩
     ·exact ⟨2,.inr (.inl rfl),rfl,rfl⟩
     ·exact ⟨4,.inr (.inr (.inl rfl)),rfl,rfl⟩
     ·exact ⟨8,.inr (.inr (.inr rfl)),rfl,rfl⟩
    obtain ⟨j,hj,hj1,hj2⟩:=hp
    have hj8:1≤j∧j≤8:=by omega
    rw [hj1]
    have hm:IntKind.i64.wrap (low - 24)=low - 24:=wrap_i64 (by omega) (by omega)
    have hj3:IntKind.i64.wrap ((1:Int)+(j:Int))=((1+j:Nat):Int):=by rw [wrap_i64 (by omega) (by omega)];omega
    by_cases hl:r.length<j
    ·rw [if_pos hl]
     refine ⟨?_,.inl rfl⟩
     simp only [f29_j2,decide_eq_true (show low≥24 by omega),cond_true,hm,ifE_pos (show (0:Int)≤low - 24 by omega),ifE_pos (show low - 24<4 by omega),hj2,Option.bind_some,hj3,decide_eq_true (show ((f::r).length:Int)<((1+j:Nat):Int) by rw [List.length_cons];omega)]
     rfl
    ·rw [if_neg hl]
     have hlen:1+j≤(f::r).length:=by rw [List.length_cons];omega
     have hbr:By r:=fun x hx=>hb x (List.mem_cons_of_mem _ hx)
     have htk:(r.take j).length=j:=by rw [List.length_take];omega
     have hnb:numB (r.take j)<256 ^ j:=by have:=numB_lt (hbr.take j);rwa [htk] at this
     have hn64:numB (r.take j)<18446744073709551616:=Nat.lt_of_lt_of_le hnb (show 256 ^ j≤256 ^ 8 from Nat.pow_le_pow_right (by decide) hj8.2)
     have hnum:=rnum_at k (by omega) (r.take j) (hbr.take j) (by omega)
     have hhd:=rhead_at k (by omega) 0 (numB (r.take j)) (.inl rfl) hn64
     rw [show ((0:Nat):Int)=0 from rfl] at hhd
     have hdt:List.drop 1 (List.take (1+j) (f::r))=r.take j:=by rw [Nat.add_comm,List.take_succ_cons];rfl
     have h3:f29_j2 k (f29 k) (f::r) ((left+1:Nat):Int) t low false 0 0 [] []=bif !(cn j (numB (r.take j))) then some (.o0 0 0 [] 0 170 []) else f29_j4 k (f29 k) (f::r) ((left+1:Nat):Int) t ((numB (r.take j):Nat):Int) ((1+j:Nat):Int) false 0 0 [] []:=by
      simp only [f29_j2,decide_eq_true (show low≥24 by omega),cond_true,hm,ifE_pos (show (0:Int)≤low - 24 by omega),ifE_pos (show low - 24<4 by omega),hj2,Option.bind_some,hj3,decide_eq_false (show ¬((f::r).length:Int)<((1+j:Nat):Int) by omega),cond_false,f29_j3,ifE_pos (show (0:Int)≤((1+j:Nat):Int) by omega),Int.toNat_natCast,ifE_pos (show 1≤1+j by omega),ifE_pos hlen,hdt,hnum,hhd,hdlen_cn hj hnb]
     rw [h3]
     cases hc:cn j (numB (r.take j))
     ·rw [if_neg (by decide),Bool.not_false,cond_true]
      exact ⟨rfl,.inr rfl⟩
     ·obtain ⟨h1,h2⟩:=rtail k (by omega) (f29 k) left (by omega) (dec left) (f::r) hb hB hq (1+j) (numB (r.take j)) hlen hn64 t ht
      have hdd:(f::r).drop (1+j)=r.drop j:=by rw [Nat.add_comm,List.drop_succ_cons]
      rw [hdd] at h1 h2
      rw [if_pos rfl,Bool.not_true,cond_false,h2]
      exact ⟨rfl,Inn.add h1 hlen⟩
end Go.Proofs.YtbnnmplkbpgcaaaDoorV