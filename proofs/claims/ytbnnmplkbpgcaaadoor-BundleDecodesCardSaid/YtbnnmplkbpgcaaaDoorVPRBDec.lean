/- The document's decoder of bundles,told plainly;it answers as the program's. -/
import Derived.Test.YtbnnmplkbpgcaaaDoorVPBDec
import Derived.Test.YtbnnmplkbpgcaaaDoorVPRDec
namespace Go.Proofs.YtbnnmplkbpgcaaaDoorV
open Go
set_option linter.unusedVariables false
set_option linter.unusedSimpArgs false
theorem ropn16_at (k:Nat) (l:List Int) (hb:By l) (hl:l.length≤60000) (hk:l.length+40≤k):f30 k l 16=some (.o0 (opn16 l)):=by
 obtain ⟨k,rfl⟩:∃ m,k=m+1:=⟨k - 1,by omega⟩
 have e2:IntKind.i64.wrap (Int.tdiv 16 8)=2:=by decide
 by_cases h:l.length<2
 ·have hw:IntKind.i64.wrap ((l.length:Int) - 2)=(l.length:Int) - 2:=wrap_i64 (by omega) (by omega)
  rw [opn16,decide_eq_false (show ¬2≤l.length by omega),Bool.false_and]
  simp only [f30,f30_e,e2,hw,decide_eq_false (show ¬(l.length:Int) - 2≥0 by omega),cond_false]
 have hw:IntKind.i64.wrap ((l.length:Int) - 2)=((l.length - 2:Nat):Int):=by rw [wrap_i64 (by omega) (by omega)];omega
 have hs:=rseal16_at k (l.take (l.length - 2)) (hb.take _) (by rw [List.length_take];omega) (by rw [List.length_take];omega)
 have he:=rsb_at (seal16B (l.take (l.length - 2))) l (by rw [seal16B_len,List.length_take];omega) k (by rw [seal16B_len,List.length_take];omega)
 rw [opn16,decide_eq_true (show 2≤l.length by omega),Bool.true_and]
 simp only [f30,f30_e,e2,hw,decide_eq_true (show ((l.length - 2:Nat):Int)≥0 by omega),cond_true,ifE_pos (show (0:Int)≤((l.length - 2:Nat):Int) by omega),Int.toNat_natCast,ifE_pos (show l.length - 2≤l.length by omega),hs,Option.bind_some,he]
theorem ropn32_at (k:Nat) (l:List Int) (hb:By l) (hl:l.length≤60000) (hk:l.length+40≤k):f30 k l 32=some (.o0 (opn32 l)):=by
 obtain ⟨k,rfl⟩:∃ m,k=m+1:=⟨k - 1,by omega⟩
 have e2:IntKind.i64.wrap (Int.tdiv 32 8)=4:=by decide
 by_cases h:l.length<4
 ·have hw:IntKind.i64.wrap ((l.length:Int) - 4)=(l.length:Int) - 4:=wrap_i64 (by omega) (by omega)
  rw [opn32,decide_eq_false (show ¬4≤l.length by omega),Bool.false_and]
  simp only [f30,f30_e,e2,hw,decide_eq_false (show ¬(l.length:Int) - 4≥0 by omega),cond_false]
 have hw:IntKind.i64.wrap ((l.length:Int) - 4)=((l.length - 4:Nat):Int):=by rw [wrap_i64 (by omega) (by omega)];omega
 have hs:=rseal32_at k (l.take (l.length - 4)) (hb.take _) (by rw [List.length_take];omega) (by rw [List.length_take];omega)
 have he:=rsb_at (seal32B (l.take (l.length - 4))) l (by rw [seal32B_len,List.length_take];omega) k (by rw [seal32B_len,List.length_take];omega)
 rw [opn32,decide_eq_true (show 4≤l.length by omega),Bool.true_and]
 simp only [f30,f30_e,e2,hw,decide_eq_true (show ((l.length - 4:Nat):Int)≥0 by omega),cond_true,ifE_pos (show (0:Int)≤((l.length - 4:Nat):Int) by omega),Int.toNat_natCast,ifE_pos (show l.length - 4≤l.length by omega),hs,Option.bind_some,he]
def rofB (b:Bun) (e:Int):R11:=.o0 b.Source b.Dest b.Seq b.Created b.Lifetime b.HopLimit b.Hops b.Priority b.Offset b.Total b.Payload e
def rnoB (e:Int):R11:=.o0 0 0 0 0 0 0 0 0 0 0 [] e
def bad1 (h:Int) (i:It):Bool:=(i.Kind != 1)||(decide (i.Num>4294967295)||decide (h>16))
def badK (h:Int) (L:List It):Bool:=L.any (bad1 h)
noncomputable def rflow (raw A P:List Int) (h:Int):R11 :=
 bif !(opn16 A&&opn32 P) then rnoB 130 else
 match dec 4 (A.take (A.length - 2)) with
 | .err _=>rnoB 190
 | .ok y _=>if y.Kind≠4∨y.Items.length≠10∨badK h y.Items=true then rnoB 190 else
  if okP (bunOf y.Items h (P.take (P.length - 4)))∧bytesOf (bunOf y.Items h (P.take (P.length - 4)))=raw then rofB (bunOf y.Items h (P.take (P.length - 4))) 0 else rnoB 190
noncomputable def rdS (raw:List Int):R11 :=
 match dec 4 raw with
 | .err _=>rnoB 190
 | .ok x n=>if n≠raw.length∨x.Kind≠4 then rnoB 190 else
  match x.Items with
  | [p,q,r]=>if p.Kind≠2∨q.Kind≠1∨r.Kind≠2 then rnoB 190 else rflow raw p.Bytes r.Bytes q.Num
  | _=>rnoB 190
theorem rfld_l (k:Nat) (raw:List Int) (L:List It) (hL:L.length=10) (a0 h:Int) (a2:List Int) (a3:List It) (b0 b1:Int) (b2:List Int) (b3:List It) (c0 c1:Int) (c2:List Int):∀ (d i n:Nat),i+d=10→d<n →
 f11_l5 k n raw i 0 0 0 0 0 0 0 0 0 0 [] a0 h a2 a3 b0 b1 b2 b3 c0 c1 c2 L=some (bif badK h (L.drop i) then .o0 190 0 0 0 0 0 0 0 0 0 0 [] else .o2 raw 10 false 0 0 0 0 0 0 0 0 0 0 [] a0 h a2 a3 b0 b1 b2 b3 c0 c1 c2 L):=by
 intro d
 induction d with
 | zero =>
  intro i n hi hn
  obtain ⟨n,rfl⟩:∃ m,n=m+1:=⟨n - 1,by omega⟩
  have e:i=10:=by omega
  subst e
  have hd:L.drop 10=[]:=List.drop_eq_nil_of_le (by omega)
  rw [hd]
  simp only [f11_l5,f11_l5_b,show decide (((10:Nat):Int)<10)=false from rfl,cond_false,Option.bind_some,badK,List.any_nil]
  rfl
 | succ d ih =>
  intro i n hi hn
  obtain ⟨n,rfl⟩:∃ m,n=m+1:=⟨n - 1,by omega⟩
  have h1:i<L.length:=by omega
  have g1:L[i]?=some L[i]:=List.getElem?_eq_getElem h1
  have hd:L.drop i=L[i]::L.drop (i+1):=List.drop_eq_getElem_cons h1
  have hw:IntKind.i64.wrap ((i:Int)+1)=((i+1:Nat):Int):=by rw [wrap_i64 (by omega) (by omega)];omega
  have ih':=ih (i+1) n (by omega) (by omega)
  rw [hd,badK,List.any_cons,bif_or,←badK,bad1,bif_or,bif_or]
  simp only [f11_l5,f11_l5_b,decide_eq_true (show (i:Int)<10 by omega),cond_true,f11_l5_j1,ifE_pos (show (0:Int)≤(i:Int) by omega),ifE_pos (show (i:Int)<(L.length:Int) by omega),Int.toNat_natCast,g1,Option.bind_some]
  cases (L[i].Kind != 1)
  ·cases decide (L[i].Num>4294967295)
   ·cases decide (h>16)
    ·simp only [cond_false,f11_l5_j2,hw,Option.bind_some,ih']
    ·rfl
   ·rfl
  ·rfl
theorem getNum {L:List It} {j:Nat} (h:j<L.length):∃ i,L[j]?=some i∧i.Num=numAt L j∧i∈L:=by
 refine ⟨L[j],List.getElem?_eq_getElem h,?_,List.getElem_mem h⟩
 rw [numAt,List.getElem?_eq_getElem h]
theorem rflow_at (k:Nat) (hk:9000≤k) (raw:List Int) (hl:raw.length≤5000) (p q r:It) (hp:okI p) (hq:okI q) (hr:okI r) :
 f11_j2 k raw false 0 0 0 0 0 0 0 0 0 0 [] p.Kind p.Num p.Bytes p.Items q.Kind q.Num q.Bytes q.Items r.Kind r.Num r.Bytes r.Items=some (rflow raw p.Bytes r.Bytes q.Num):=by
 have h1:=ropn16_at k p.Bytes hp.1 (by have:=hp.2.1;omega) (by have:=hp.2.1;omega)
 have h2:=ropn32_at k r.Bytes hr.1 (by have:=hr.2.1;omega) (by have:=hr.2.1;omega)
 rw [rflow]
 cases o1:opn16 p.Bytes
 ·rw [o1] at h1
  simp only [f11_j2,h1,Option.bind_some,Bool.not_false,cond_true,Bool.false_and]
  rfl
 rw [o1] at h1
 cases o2:opn32 r.Bytes
 ·rw [o2] at h2
  simp only [f11_j2,h1,h2,Option.bind_some,Bool.not_false,Bool.not_true,cond_false,cond_true,Bool.and_false]
  rfl
 rw [o2] at h2
 have l1:2≤p.Bytes.length:=by
  unfold opn16 at o1
  have:=(Bool.and_eq_true_iff.1 o1).1
  simpa using this
 have l2:4≤r.Bytes.length:=by
  unfold opn32 at o2
  have:=(Bool.and_eq_true_iff.1 o2).1
  simpa using this
 have hpl:=hp.2.1
 have hrl:=hr.2.1
 have w1:IntKind.i64.wrap ((p.Bytes.length:Int) - 2)=((p.Bytes.length - 2:Nat):Int):=by rw [wrap_i64 (by omega) (by omega)];omega
 have w2:IntKind.i64.wrap ((r.Bytes.length:Int) - 4)=((r.Bytes.length - 4:Nat):Int):=by rw [wrap_i64 (by omega) (by omega)];omega
 have hd:=(rdec_at 4 k (by omega) (by omega) (p.Bytes.take (p.Bytes.length - 2)) (hp.1.take _) (by rw [List.length_take];omega)).1
 have hin:=(rdec_at 4 k (by omega) (by omega) (p.Bytes.take (p.Bytes.length - 2)) (hp.1.take _) (by rw [List.length_take];omega)).2
 rw [show ((4:Nat):Int)=4 from rfl] at hd
 have start:f11_j2 k raw false 0 0 0 0 0 0 0 0 0 0 [] p.Kind p.Num p.Bytes p.Items q.Kind q.Num q.Bytes q.Items r.Kind r.Num r.Bytes r.Items=f11_j3 k raw false 0 0 0 0 0 0 0 0 0 0 [] p.Kind p.Num p.Bytes p.Items q.Kind q.Num q.Bytes q.Items r.Kind r.Num r.Bytes r.Items:=by
  simp only [f11_j2,h1,h2,Option.bind_some,Bool.not_true,cond_false]
 rw [start,Bool.and_self,Bool.not_true,cond_false]
 cases hy:dec 4 (p.Bytes.take (p.Bytes.length - 2)) with
 | err e =>
  rw [hy] at hd hin
  have hne:(e != 0)=true:=by rcases hin with rfl | rfl<;>rfl
  simp only [f11_j3,w1,ifE_pos (show (0:Int)≤((p.Bytes.length - 2:Nat):Int) by omega),Int.toNat_natCast,ifE_pos (show p.Bytes.length - 2≤p.Bytes.length by omega),hd,rR,Option.bind_some,hne,cond_true]
  rfl
 | ok y m =>
  rw [hy] at hd
  have hyo:=(dec_okI 4 _ y m (hp.1.take _) hy).2
  dsimp only
  have start:f11_j3 k raw false 0 0 0 0 0 0 0 0 0 0 [] p.Kind p.Num p.Bytes p.Items q.Kind q.Num q.Bytes q.Items r.Kind r.Num r.Bytes r.Items=bif (y.Kind != 4)||((y.Items.length:Int) != 10) then some (rnoB 190) else f11_j4 k raw false 0 0 0 0 0 0 0 0 0 0 [] q.Kind q.Num q.Bytes q.Items r.Kind r.Num r.Bytes r.Items y.Kind y.Num y.Bytes y.Items:=by
   rw [bif_or]
   simp only [f11_j3,w1,ifE_pos (show (0:Int)≤((p.Bytes.length - 2:Nat):Int) by omega),Int.toNat_natCast,ifE_pos (show p.Bytes.length - 2≤p.Bytes.length by omega),hd,rR,Option.bind_some,bne_self_eq_false,cond_false]
   rfl
  rw [start]
  by_cases hk4:y.Kind=4
  case neg =>
   rw [if_pos (.inl hk4),bne_iff_ne.2 hk4,Bool.true_or,cond_true]
  rw [show (y.Kind != 4)=false by rw [hk4];rfl,Bool.false_or]
  by_cases hL:y.Items.length=10
  case neg =>
   rw [if_pos (.inr (.inl hL)),show ((y.Items.length:Int) != 10)=true by rw [bne_iff_ne];omega,cond_true]
  rw [show ((y.Items.length:Int) != 10)=false by rw [hL];rfl,cond_false]
  have hloop:=rfld_l k raw y.Items hL q.Kind q.Num q.Bytes q.Items r.Kind r.Num r.Bytes r.Items y.Kind y.Num y.Bytes 10 0 k rfl (by omega)
  rw [Int.natCast_zero,List.drop_zero] at hloop
  cases hb:badK q.Num y.Items
  case true =>
   rw [if_pos (.inr (.inr rfl))]
   rw [hb,cond_true] at hloop
   simp only [f11_j4,hloop,Option.bind_some]
   rfl
  rw [hb,cond_false] at hloop
  rw [if_neg (not_or.2 ⟨fun h=>h hk4,not_or.2 ⟨fun h=>h hL,by decide⟩⟩)]
  have small:∀ i∈y.Items,0≤i.Num∧i.Num≤4294967295∧q.Num≤16:=fun i hi=>by
   have:=List.any_eq_false.1 hb i hi
   rw [bad1,Bool.not_eq_true,Bool.or_eq_false_iff,Bool.or_eq_false_iff,decide_eq_false_iff_not,decide_eq_false_iff_not] at this
   exact ⟨(hyo i hi).2.2,by omega,by omega⟩
  obtain ⟨i1,g1,n1,m1⟩:=getNum (L:=y.Items) (j:=1) (by omega)
  obtain ⟨i2,g2,n2,m2⟩:=getNum (L:=y.Items) (j:=2) (by omega)
  obtain ⟨i3,g3,n3,m3⟩:=getNum (L:=y.Items) (j:=3) (by omega)
  obtain ⟨i4,g4,n4,m4⟩:=getNum (L:=y.Items) (j:=4) (by omega)
  obtain ⟨i5,g5,n5,m5⟩:=getNum (L:=y.Items) (j:=5) (by omega)
  obtain ⟨i6,g6,n6,m6⟩:=getNum (L:=y.Items) (j:=6) (by omega)
  obtain ⟨i7,g7,n7,m7⟩:=getNum (L:=y.Items) (j:=7) (by omega)
  obtain ⟨i8,g8,n8,m8⟩:=getNum (L:=y.Items) (j:=8) (by omega)
  obtain ⟨i9,g9,n9,m9⟩:=getNum (L:=y.Items) (j:=9) (by omega)
  have w64:∀ i∈y.Items,IntKind.i64.wrap i.Num=i.Num:=fun i hi=>by have:=small i hi;exact wrap_i64 (by omega) (by omega)
  have w32:IntKind.u32.wrap i3.Num=i3.Num:=by have:=small i3 m3;exact wrap_u32 (by omega) (by omega)
  have wh:IntKind.i64.wrap q.Num=q.Num:=by have:=small i3 m3;have:=hq.2.2;exact wrap_i64 (by omega) (by omega)
  have v1:IntKind.i64.wrap (numAt y.Items 1)=numAt y.Items 1:=by rw [←n1];exact w64 i1 m1
  have v2:IntKind.i64.wrap (numAt y.Items 2)=numAt y.Items 2:=by rw [←n2];exact w64 i2 m2
  have v3:IntKind.u32.wrap (numAt y.Items 3)=numAt y.Items 3:=by rw [←n3];exact w32
  have v4:IntKind.i64.wrap (numAt y.Items 4)=numAt y.Items 4:=by rw [←n4];exact w64 i4 m4
  have v5:IntKind.i64.wrap (numAt y.Items 5)=numAt y.Items 5:=by rw [←n5];exact w64 i5 m5
  have v6:IntKind.i64.wrap (numAt y.Items 6)=numAt y.Items 6:=by rw [←n6];exact w64 i6 m6
  have v7:IntKind.i64.wrap (numAt y.Items 7)=numAt y.Items 7:=by rw [←n7];exact w64 i7 m7
  have v8:IntKind.i64.wrap (numAt y.Items 8)=numAt y.Items 8:=by rw [←n8];exact w64 i8 m8
  have v9:IntKind.i64.wrap (numAt y.Items 9)=numAt y.Items 9:=by rw [←n9];exact w64 i9 m9
  have hs3:0≤numAt y.Items 3:=by rw [←n3];exact (small i3 m3).1
  have hR:=right_at k (by omega) (bunOf y.Items q.Num (r.Bytes.take (r.Bytes.length - 4))) hs3
  unfold bunOf at hR
  dsimp only at hR
  have e6:f11_j6 k raw 10 false 0 0 0 0 0 0 0 0 0 0 [] q.Kind q.Num q.Bytes q.Items r.Kind r.Num r.Bytes r.Items y.Kind y.Num y.Bytes y.Items=Option.bind (f15 k (numAt y.Items 2) (numAt y.Items 1) (numAt y.Items 3) (numAt y.Items 4) (numAt y.Items 5) (numAt y.Items 9) q.Num (numAt y.Items 8) (numAt y.Items 6) (numAt y.Items 7) (r.Bytes.take (r.Bytes.length - 4))) (fun o=>match o with | .o0 v=>cond (!v) (some (rnoB 190)) (Option.bind (f18 k (numAt y.Items 2) (numAt y.Items 1) (numAt y.Items 3) (numAt y.Items 4) (numAt y.Items 5) (numAt y.Items 9) q.Num (numAt y.Items 8) (numAt y.Items 6) (numAt y.Items 7) (r.Bytes.take (r.Bytes.length - 4))) (fun o=>match o with | .o0 v=>Option.bind (f19 k v raw) (fun o=>match o with | .o0 v=>cond (!v) (some (rnoB 190)) (some (rofB (bunOf y.Items q.Num (r.Bytes.take (r.Bytes.length - 4))) 0)))))):=by
   simp only [f11_j6,hL,show ((10:Nat):Int)=10 from rfl,ifE_pos (show (1:Int)<10 by decide),ifE_pos (show (2:Int)<10 by decide),ifE_pos (show (3:Int)<10 by decide),ifE_pos (show (4:Int)<10 by decide),ifE_pos (show (5:Int)<10 by decide),ifE_pos (show (6:Int)<10 by decide),ifE_pos (show (7:Int)<10 by decide),ifE_pos (show (8:Int)<10 by decide),ifE_pos (show (9:Int)<10 by decide),g1,g2,g3,g4,g5,g6,g7,g8,g9,Option.bind_some,v1,v2,v3,v4,v5,v6,v7,v8,v9,wh,n1,n2,n3,n4,n5,n6,n7,n8,n9,w2,ifE_pos (show (0:Int)≤((r.Bytes.length - 4:Nat):Int) by omega),Int.toNat_natCast,ifE_pos (show r.Bytes.length - 4≤r.Bytes.length by omega),f11_j7]
   rfl
  have e4:f11_j4 k raw false 0 0 0 0 0 0 0 0 0 0 [] q.Kind q.Num q.Bytes q.Items r.Kind r.Num r.Bytes r.Items y.Kind y.Num y.Bytes y.Items=f11_j6 k raw 10 false 0 0 0 0 0 0 0 0 0 0 [] q.Kind q.Num q.Bytes q.Items r.Kind r.Num r.Bytes r.Items y.Kind y.Num y.Bytes y.Items:=by
   simp only [f11_j4,hloop,Option.bind_some]
  rw [e4,e6,hR,Option.bind_some]
  dsimp only
  by_cases hok:okP (bunOf y.Items q.Num (r.Bytes.take (r.Bytes.length - 4)))
  case neg =>
   rw [if_neg (fun h=>hok h.1)]
   unfold bunOf at hok
   rw [decide_eq_false hok]
   rfl
  have hbl:=bytesOf_len hok
  have hB:=rbytes_at k (by omega) (bunOf y.Items q.Num (r.Bytes.take (r.Bytes.length - 4))) (by show (r.Bytes.take (r.Bytes.length - 4)).length≤500;have:=hok;unfold okP bunOf at this;dsimp only at this;omega) (hr.1.take _)
  have hS:=rsb_at (bytesOf (bunOf y.Items q.Num (r.Bytes.take (r.Bytes.length - 4)))) raw (by omega) k (by omega)
  have hok':=hok
  unfold bunOf at hok'
  rw [decide_eq_true hok',Bool.not_true,cond_false]
  rw [show f18 k (numAt y.Items 2) (numAt y.Items 1) (numAt y.Items 3) (numAt y.Items 4) (numAt y.Items 5) (numAt y.Items 9) q.Num (numAt y.Items 8) (numAt y.Items 6) (numAt y.Items 7) (r.Bytes.take (r.Bytes.length - 4))=some (.o0 (bytesOf (bunOf y.Items q.Num (r.Bytes.take (r.Bytes.length - 4))))) from hB,Option.bind_some]
  dsimp only
  rw [hS,Option.bind_some]
  dsimp only
  by_cases hbr:bytesOf (bunOf y.Items q.Num (r.Bytes.take (r.Bytes.length - 4)))=raw
  ·rw [if_pos ⟨hok,hbr⟩,decide_eq_true hbr]
   rfl
  ·rw [if_neg (fun h=>hbr h.2),decide_eq_false hbr]
   rfl
theorem rbdec_at (k:Nat) (hk:9002≤k) (raw:List Int) (hb:By raw) (hl:raw.length≤5000):f11 k raw=some (rdS raw):=by
 obtain ⟨k,rfl⟩:∃ m,k=m+1:=⟨k - 1,by omega⟩
 obtain ⟨hd,hin⟩:=rdec_at 4 k (by omega) (by omega) raw hb (by omega)
 rw [show ((4:Nat):Int)=4 from rfl] at hd
 rw [rdS]
 cases hx:dec 4 raw with
 | err e =>
  rw [hx] at hd hin
  have hne:(e != 0)=true:=by rcases hin with rfl | rfl<;>rfl
  simp only [f11,f11_e,hd,rR,Option.bind_some,hne,cond_true]
  rfl
 | ok x n =>
  rw [hx] at hd
  have hxo:=(dec_okI 4 raw x n hb hx).2
  dsimp only
  have start:f11 (k+1) raw=bif ((n:Int) != (raw.length:Int))||((x.Kind != 4)||((x.Items.length:Int) != 3)) then some (rnoB 190) else f11_j1 k raw false 0 0 0 0 0 0 0 0 0 0 [] x.Kind x.Num x.Bytes x.Items:=by
   rw [bif_or,bif_or]
   simp only [f11,f11_e,hd,rR,Option.bind_some,bne_self_eq_false,cond_false]
   rfl
  rw [start]
  by_cases hn:n=raw.length
  case neg=>rw [if_pos (.inl hn),show ((n:Int) != (raw.length:Int))=true by rw [bne_iff_ne];omega,Bool.true_or,cond_true]
  rw [show ((n:Int) != (raw.length:Int))=false by rw [hn];simp,Bool.false_or]
  by_cases hk4:x.Kind=4
  case neg=>rw [if_pos (.inr hk4),bne_iff_ne.2 hk4,Bool.true_or,cond_true]
  rw [if_neg (not_or.2 ⟨fun h=>h hn,fun h=>h hk4⟩),show (x.Kind != 4)=false by rw [hk4];rfl,Bool.false_or]
  split
  ·rename_i p q r hi
   rw [hi] at hxo ⊢
   rw [show (([p,q,r].length:Nat):Int)=3 from rfl,bne_self_eq_false,cond_false]
   have hf:=rflow_at k (by omega) raw hl p q r (hxo p (by simp)) (hxo q (by simp)) (hxo r (by simp))
   have g0:[p,q,r][0]?=some p:=rfl
   have g1:[p,q,r][1]?=some q:=rfl
   have g2:[p,q,r][2]?=some r:=rfl
   have e1:f11_j1 k raw false 0 0 0 0 0 0 0 0 0 0 [] x.Kind x.Num x.Bytes [p,q,r]=bif (p.Kind != 2)||((q.Kind != 1)||(r.Kind != 2)) then some (rnoB 190) else some (rflow raw p.Bytes r.Bytes q.Num):=by
    rw [bif_or,bif_or]
    simp only [f11_j1,show (([p,q,r].length:Nat):Int)=3 from rfl,ifE_pos (show (0:Int)<3 by decide),ifE_pos (show (1:Int)<3 by decide),ifE_pos (show (2:Int)<3 by decide),g0,g1,g2,Option.bind_some,hf]
    rfl
   rw [e1]
   by_cases c1:p.Kind=2
   case neg=>rw [if_pos (.inl c1),bne_iff_ne.2 c1,Bool.true_or,cond_true]
   by_cases c2:q.Kind=1
   case neg=>rw [if_pos (.inr (.inl c2)),bne_iff_ne.2 c2,Bool.true_or,Bool.or_true,cond_true]
   by_cases c3:r.Kind=2
   case neg=>rw [if_pos (.inr (.inr c3)),bne_iff_ne.2 c3,Bool.or_true,Bool.or_true,cond_true]
   rw [if_neg (not_or.2 ⟨fun h=>h c1,not_or.2 ⟨fun h=>h c2,fun h=>h c3⟩⟩),c1,c2,c3]
   rfl
  ·rename_i hno
   have:x.Items.length≠3:=fun h=>by
    match hI:x.Items,h with
    | [p,q,r],_=>exact hno p q r hI
   rw [show ((x.Items.length:Int) != 3)=true by rw [bne_iff_ne];omega,cond_true]
theorem badK_nums {b:Bun} (h:okP b) (hs:b.Seq<4294967296):badK b.Hops ((numsOf b).map numIt)=false:=by
 have h1:=nums_small h hs
 have h2:b.Hops≤16:=by unfold okP at h;omega
 rw [badK,List.any_eq_false]
 intro i hi
 have h3:=List.any_eq_false.1 h1 i hi
 obtain ⟨v,_,rfl⟩:=List.mem_map.1 hi
 have h4:decide ((numIt v).Num>4294967295)=false:=by simpa using h3
 rw [bad1,h4,decide_eq_false (show ¬b.Hops>16 by omega)]
 simp [numIt]
theorem rdS_bytes {b:Bun} (h:okP b) (hs:b.Seq<4294967296):rdS (bytesOf b)=rofB b 0:=by
 have h1:=headOf_len b
 have hp:b.Payload.length≤400∧0≤b.Hops∧b.Hops≤16:=by unfold okP at h;omega
 have hd:=dec_pack (seal16B (headOf b)) b.Hops.toNat (seal32B b.Payload) (by rw [seal16B_len];omega) (by rw [seal32B_len];omega) (by omega)
 rw [←bytesOf_pack h] at hd
 have hh:((b.Hops.toNat:Nat):Int)=b.Hops:=by omega
 rw [rdS,hd]
 dsimp only
 rw [if_neg (not_or.2 ⟨fun h=>h rfl,fun h=>h rfl⟩),if_neg (not_or.2 ⟨fun h=>h rfl,not_or.2 ⟨fun h=>h rfl,fun h=>h rfl⟩⟩)]
 have hn:((numsOf b).map numIt).length=10:=by simp [numsOf]
 rw [rflow,(opn16_seal _).1,(opn32_seal _).1,Bool.and_self,Bool.not_true,cond_false,(opn16_seal _).2,(opn32_seal _).2,dec_headOf,hh]
 dsimp only
 rw [if_neg (not_or.2 ⟨fun h=>h rfl,not_or.2 ⟨fun h=>h hn,by rw [badK_nums h hs];simp⟩⟩),bun_back h hs,if_pos ⟨h,rfl⟩]
theorem rflow_flow (raw A P:List Int) (h:Int):(∃ e,flow raw A P h=noB e∧rflow raw A P h=rnoB e)∨(∃ b,flow raw A P h=ofB b 0∧okP b):=by
 rw [flow,rflow]
 cases !(opn16 A&&opn32 P)
 ·rw [cond_false,cond_false]
  cases hy:dec 4 (A.take (A.length - 2)) with
  | err e=>exact .inl ⟨190,rfl,rfl⟩
  | ok y m =>
   dsimp only
   split
   ·rename_i hbad
    have:y.Kind≠4∨y.Items.length≠10∨badK h y.Items=true:=by
     by_cases hl:y.Items.length=10
     case neg=>exact .inr (.inl hl)
     refine .inr (.inr ?_)
     rw [badK,List.any_eq_true]
     rcases hbad with h1 | h1 | h1
     ·exact absurd hl h1
     ·refine ⟨y.Items[0],List.getElem_mem _,?_⟩
      rw [bad1,decide_eq_true h1];simp
     ·obtain ⟨i,hi,h2⟩:=List.any_eq_true.1 h1
      exact ⟨i,hi,by rw [bad1,h2];simp⟩
    rw [if_pos this]
    exact .inl ⟨190,rfl,rfl⟩
   ·split
    ·rename_i hok
     exact .inr ⟨_,rfl,hok.1⟩
    ·rename_i hok
     refine .inl ⟨190,rfl,?_⟩
     split
     ·rfl
     ·rfl
 ·exact .inl ⟨130,rfl,rfl⟩
theorem rdS_cases (raw:List Int) (hb:By raw):(∃ b:Bun,b.Payload.length≤512∧bdS raw=ofB b 0∧rdS raw=rofB b 0)∨∃ e,bdS raw=noB e∧rdS raw=rnoB e:=by
 rcases bdS_cases raw hb with ⟨b,hok,hs,_,hpl,hbr,h⟩ | h
 ·refine .inl ⟨b,hpl,h,?_⟩
  rw [←hbr]
  exact rdS_bytes hok hs
 ·refine .inr ?_
  have hno:∀ b:Bun,okP b→bdS raw≠ofB b 0:=fun b _ hh=>by
   rcases h with h | h<;>rw [h] at hh<;>simp [noB,ofB] at hh
  rw [bdS] at hno ⊢
  rw [rdS]
  cases hx:dec 4 raw with
  | err e=>exact ⟨190,rfl,rfl⟩
  | ok x n =>
   rw [hx] at hno
   dsimp only at hno ⊢
   split
   ·exact ⟨190,rfl,rfl⟩
   rename_i hbad
   rw [if_neg hbad] at hno
   split
   ·rename_i p q r hi
    rw [hi] at hno ⊢
    dsimp only at hno ⊢
    by_cases hbad2:p.Kind≠2∨q.Kind≠1∨r.Kind≠2
    ·rw [if_pos hbad2,if_pos hbad2]
     exact ⟨190,rfl,rfl⟩
    rw [if_neg hbad2] at hno ⊢
    rw [if_neg hbad2]
    rcases rflow_flow raw p.Bytes r.Bytes q.Num with ⟨e,h1,h2⟩ | ⟨b,h1,h2⟩
    ·exact ⟨e,h1,h2⟩
    ·exact absurd h1 (hno b h2)
   ·rename_i hnot
    refine ⟨190,rfl,?_⟩
    split
    ·rename_i p q r hi
     exact absurd hi (hnot p q r)
    ·rfl
end Go.Proofs.YtbnnmplkbpgcaaaDoorV