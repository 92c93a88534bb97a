/- The plain law of BundleBits. -/
import Derived.Test.YtbnnmplkbpgcaaaDoorVStmtBundleBits
import Derived.Test.YtbnnmplkbpgcaaaDoorVPBDec
namespace Go.Proofs.YtbnnmplkbpgcaaaDoorV
open Go Go.RowKit
set_option linter.unusedVariables false
set_option linter.unusedSimpArgs false
theorem xor_right {a b c:Nat} (h:a ^^^ c=b ^^^ c):a=b:=by
 have:=congrArg (· ^^^ c) h
 simpa [Nat.xor_assoc] using this
theorem tick_inj {s t:Nat} (hs:s<4294967296) (ht:t<4294967296) (h:tickB 2197175160 s=tickB 2197175160 t):s=t:=by
 have hp:(2197175160:Nat).testBit 31=true:=by decide
 have low:∀ x:Nat,x<4294967296→(x / 2).testBit 31=false:=fun x hx=>Nat.testBit_lt_two_pow (by omega)
 have odd:∀ x:Nat,x<4294967296→(x / 2 ^^^ 2197175160).testBit 31=true:=fun x hx=>by rw [Nat.testBit_xor,low x hx,hp];rfl
 unfold tickB at h
 by_cases h1:s % 2=1<;>by_cases h2:t % 2=1
 ·rw [if_pos h1,if_pos h2] at h
  have:=xor_right h
  omega
 ·rw [if_pos h1,if_neg h2] at h
  have e:=odd s hs
  rw [h,low t ht] at e
  cases e
 ·rw [if_neg h1,if_pos h2] at h
  have e:=odd t ht
  rw [←h,low s hs] at e
  cases e
 ·rw [if_neg h1,if_neg h2] at h
  omega
theorem ticks_inj:∀ (d:Nat) {s t:Nat},s<4294967296→t<4294967296→ticksB 2197175160 d s=ticksB 2197175160 d t→s=t
 | 0,_,_,_,_,h=>h
 | d+1,s,t,hs,ht,h=>tick_inj hs ht (ticks_inj d (tickB_lt (w:=32) (by decide) hs) (tickB_lt (w:=32) (by decide) ht) h)
theorem reg_inj:∀ (l:List Int) {s t:Nat},By l→s<4294967296→t<4294967296→regB 2197175160 s l=regB 2197175160 t l→s=t
 | [],_,_,_,_,_,h=>h
 | c::l,s,t,hb,hs,ht,h=>by
  have hc:=hb c (by simp)
  have hx:∀ x:Nat,x<4294967296→x ^^^ c.toNat<4294967296:=fun x hx=>Nat.xor_lt_two_pow (n:=32) hx (by omega)
  have h8:∀ x:Nat,x<4294967296→ticksB 2197175160 8 (x ^^^ c.toNat)<4294967296:=fun x h=>ticksB_lt (w:=32) (by decide) 8 _ (hx x h)
  exact xor_right (ticks_inj 8 (hx s hs) (hx t ht) (reg_inj l (fun y hy=>hb y (List.mem_cons_of_mem _ hy)) (h8 s hs) (h8 t ht) h))
theorem reg_ne:∀ (u w:List Int) {c d:Int} {s:Nat},By u→By w→(0≤c∧c<256)→(0≤d∧d<256)→s<4294967296→regB 2197175160 s (u++c::w)=regB 2197175160 s (u++d::w)→c=d
 | [],w,c,d,s,_,hw,hc,hd,hs,h=>by
  have hx:∀ x:Int,0≤x∧x<256→s ^^^ x.toNat<4294967296:=fun x hx=>Nat.xor_lt_two_pow (n:=32) hs (by omega)
  have h8:∀ x:Int,0≤x∧x<256→ticksB 2197175160 8 (s ^^^ x.toNat)<4294967296:=fun x h=>ticksB_lt (w:=32) (by decide) 8 _ (hx x h)
  have e:=ticks_inj 8 (hx c hc) (hx d hd) (reg_inj w hw (h8 c hc) (h8 d hd) h)
  rw [Nat.xor_comm s,Nat.xor_comm s] at e
  have:=xor_right e
  omega
 | a::u,w,c,d,s,hu,hw,hc,hd,hs,h=>by
  have ha:=hu a (by simp)
  exact reg_ne u w (fun y hy=>hu y (List.mem_cons_of_mem _ hy)) hw hc hd (ticksB_lt (w:=32) (by decide) 8 _ (Nat.xor_lt_two_pow (n:=32) hs (by omega))) h
theorem leB_inj:∀ (n s t:Nat),s<256 ^ n→t<256 ^ n→leB n s=leB n t→s=t
 | 0,s,t,hs,ht,_=>by simp at hs ht;omega
 | n+1,s,t,hs,ht,h=>by
  rw [leB,leB,List.cons.injEq] at h
  rw [Nat.pow_succ] at hs ht
  have:=leB_inj n (s / 256) (t / 256) (by omega) (by omega) h.2
  omega
theorem turned_shut (u w:List Int) {c d:Int} (hu:By u) (hw:By w) (hc:0≤c∧c<256) (hd:0≤d∧d<256) (hne:d≠c):opn32 ((u++d::w)++leB 4 (sumOf32 (u++c::w)))=false:=by
 have hl:((u++d::w)++leB 4 (sumOf32 (u++c::w))).take (((u++d::w)++leB 4 (sumOf32 (u++c::w))).length - 4)=u++d::w:=by
  rw [List.length_append,leB_length,Nat.add_sub_cancel,List.take_left]
 have by1:By (u++c::w):=fun x hx=>by
  rcases List.mem_append.1 hx with h | h
  ·exact hu x h
  ·rcases List.mem_cons.1 h with rfl | h
   ·exact hc
   ·exact hw x h
 have by2:By (u++d::w):=fun x hx=>by
  rcases List.mem_append.1 hx with h | h
  ·exact hu x h
  ·rcases List.mem_cons.1 h with rfl | h
   ·exact hd
   ·exact hw x h
 have hdne:decide (seal32B (u++d::w)=(u++d::w)++leB 4 (sumOf32 (u++c::w)))=false:=decide_eq_false (fun h=>by
  rw [seal32B] at h
  have h1:=List.append_cancel_left h
  have h2:=leB_inj 4 _ _ (sumOf32_lt by2) (sumOf32_lt by1) h1
  unfold sumOf32 at h2
  exact hne (reg_ne u w hu hw hd hc (by decide) (xor_right h2)))
 rw [opn32,hl,hdne,Bool.and_false]
theorem pow_bit (j:Nat) (hj:j<8):IntKind.u8.wrap ((1:Int) * 2 ^ (min j (IntKind.bits .u8)))=((2 ^ j:Nat):Int)∧2 ^ j<256:=by
 have key:∀ i:Fin 8,IntKind.u8.wrap ((1:Int) * 2 ^ (min i.val (IntKind.bits .u8)))=((2 ^ i.val:Nat):Int)∧2 ^ i.val<256:=by decide
 exact key ⟨j,hj⟩
theorem flip_ne (c:Int) (hc:0≤c∧c<256) (j:Nat) (hj:j<8):∃ d:Int,IntKind.u8.wrap ((BitVec.ofInt (IntKind.bits .u8) c ^^^ BitVec.ofInt (IntKind.bits .u8) (IntKind.u8.wrap ((1:Int) * 2 ^ (min j (IntKind.bits .u8))))).toNat:Nat)=d∧(0≤d∧d<256)∧d≠c:=by
 refine ⟨_,rfl,u8_range _,?_⟩
 obtain ⟨n,rfl⟩:∃ n:Nat,c=n:=⟨c.toNat,by omega⟩
 rw [(pow_bit j hj).1]
 have hn:n<256:=by omega
 have hp:=(pow_bit j hj).2
 generalize hp2:2 ^ j=p at *
 have h1:n % 2 ^ IntKind.bits .u8=n:=Nat.mod_eq_of_lt hn
 have h2:p % 2 ^ IntKind.bits .u8=p:=Nat.mod_eq_of_lt hp
 have h3:n ^^^ p<256:=Nat.xor_lt_two_pow (n:=8) hn hp
 simp only [BitVec.ofInt_natCast,BitVec.toNat_xor,BitVec.toNat_ofNat,h1,h2]
 rw [wrap_u8 (by omega) (by omega)]
 intro h
 have h4:n ^^^ p=n ^^^ 0:=by rw [Nat.xor_zero];omega
 rw [Nat.xor_comm n p,Nat.xor_comm n 0] at h4
 have h5:=xor_right h4
 have:0<2 ^ j:=Nat.pos_of_ne_zero (by simp)
 omega
theorem pureBundleBits:StmtBundleBits:=by
 intro b at' g gat
 refine ⟨60001,?_⟩
 obtain ⟨_,_,gs,_,_,_,_,_,_,_,_,_,gp⟩:=g
 have hs:=wf_u32 gs
 have hat:=wf_i64 gat
 have hb:By b.Payload:=fun x hx=>wf_u8 (gp x hx)
 have e9:f9 60000=some (.o0 true):=by simp only [f9];exact ifE_pos (by omega)
 by_cases hp:(b.Payload.length:Int)>5000
 ·simp only [f5,f5_e,f5_j1,e9,Option.bind_some,Bool.not_true,cond_false,decide_eq_true hp,cond_true]
 have he:=enc_at 60000 (by omega) b (by omega) hb
 by_cases hok:okP b
 case neg =>
  rw [if_neg hok] at he
  simp only [f5,f5_e,f5_j1,e9,Option.bind_some,Bool.not_true,cond_false,decide_eq_false hp,f5_j2,he,show ((190:Int) != 0)=true from rfl,cond_true,List.length_nil,Int.natCast_zero,beq_self_eq_true]
 rw [if_pos hok] at he
 have hlen:=bytesOf_len hok
 have hpl:1≤b.Payload.length∧b.Payload.length≤400∧0≤b.Hops∧b.Hops≤16:=by unfold okP at hok;omega
 have hhl:=headOf_len b
 have hpk:=bytesOf_pack hok
 -- the bytes ahead of the payload
 obtain ⟨pre,hpre,hprel⟩:∃ pre:List Int,(∀ Q:List Int,Q.length=b.Payload.length+4→pack (seal16B (headOf b)) b.Hops.toNat Q=pre++Q)∧True:=by
  refine ⟨((hd 4 3++(hd 2 ((seal16B (headOf b)).length:Int)++seal16B (headOf b)))++hd 0 ((b.Hops.toNat:Nat):Int))++hd 2 ((b.Payload.length+4:Nat):Int),fun Q hQ => ?_,trivial⟩
  rw [pack,hQ]
  simp only [List.append_assoc]
 have hby:bytesOf b=pre++(b.Payload++leB 4 (sumOf32 b.Payload)):=by
  rw [hpk,hpre _ (by rw [seal32B_len])]
  rfl
 have hxl:(bytesOf b).length=pre.length+b.Payload.length+4:=by
  rw [hby,List.length_append,List.length_append,leB_length];omega
 -- which bit
 have hm:0≤(if (0:Int)>at' then 0 else at'):=by split<;>omega
 generalize hM:(if (0:Int)>at' then 0 else at')=m at *
 have w8:IntKind.i64.wrap ((8:Int) * (b.Payload.length:Int))=8 * (b.Payload.length:Int):=wrap_i64 (by omega) (by omega)
 have hmod:Int.tmod m (8 * (b.Payload.length:Int))=m % (8 * (b.Payload.length:Int)):=Int.tmod_eq_emod_of_nonneg hm
 have k0:0≤m % (8 * (b.Payload.length:Int)):=Int.emod_nonneg _ (by omega)
 have k1:m % (8 * (b.Payload.length:Int))<8 * (b.Payload.length:Int):=Int.emod_lt_of_pos _ (by omega)
 generalize hK:m % (8 * (b.Payload.length:Int))=q at *
 have hq8:Int.tmod q 8=q % 8:=Int.tmod_eq_emod_of_nonneg k0
 have hd8:Int.tdiv q 8=q / 8:=Int.tdiv_eq_ediv_of_nonneg k0
 obtain ⟨i,hi⟩:∃ i:Nat,q / 8=i:=⟨(q / 8).toNat,by omega⟩
 have hil:i<b.Payload.length:=by omega
 have wx:IntKind.i64.wrap ((IntKind.i64.wrap ((IntKind.i64.wrap (((bytesOf b).length:Int) - (4:Int))) - (b.Payload.length:Int)))+(IntKind.i64.wrap (i:Int)))=((pre.length+i:Nat):Int):=by
  rw [wrap_i64 (n:=((bytesOf b).length:Int) - 4) (by omega) (by omega),wrap_i64 (n:=((bytesOf b).length:Int) - 4 - (b.Payload.length:Int)) (by omega) (by omega),wrap_i64 (n:=(i:Int)) (by omega) (by omega),wrap_i64 (by omega) (by omega)]
  omega
 have hc:=hb b.Payload[i] (List.getElem_mem hil)
 obtain ⟨d,hd1,hd2,hd3⟩:=flip_ne b.Payload[i] hc (q % 8).toNat (by omega)
 have hgx:(bytesOf b)[pre.length+i]?=some b.Payload[i]:=by
  rw [hby,List.getElem?_append_right (by omega),Nat.add_sub_cancel_left,List.getElem?_append_left hil,List.getElem?_eq_getElem hil]
 have hsplit:b.Payload=b.Payload.take i++b.Payload[i]::b.Payload.drop (i+1):=by
  rw [←List.drop_eq_getElem_cons hil,List.take_append_drop]
 have hset:(bytesOf b).set (pre.length+i) d=pack (seal16B (headOf b)) b.Hops.toNat ((b.Payload.take i++d::b.Payload.drop (i+1))++leB 4 (sumOf32 b.Payload)):=by
  rw [hpre _ (by simp [leB_length];omega),hby,List.set_append_right _ _ (by omega),Nat.add_sub_cancel_left,List.set_append_left _ _ hil]
  congr 2
  rw [List.set_eq_take_append_cons_drop,if_pos hil]
 have hu:By (b.Payload.take i):=hb.take i
 have hw:By (b.Payload.drop (i+1)):=hb.drop (i+1)
 have hshut:opn32 ((b.Payload.take i++d::b.Payload.drop (i+1))++leB 4 (sumOf32 b.Payload))=false:=by
  have:=turned_shut (b.Payload.take i) (b.Payload.drop (i+1)) hu hw hc hd2 hd3
  rwa [←hsplit] at this
 generalize hQ:(b.Payload.take i++d::b.Payload.drop (i+1))++leB 4 (sumOf32 b.Payload)=Q at *
 have hQl:Q.length=b.Payload.length+4:=by rw [←hQ];simp [leB_length];omega
 have hQb:By Q:=fun x hx=>by
  rw [←hQ] at hx
  rcases List.mem_append.1 hx with h | h
  ·rcases List.mem_append.1 h with h | h
   ·exact hu x h
   ·rcases List.mem_cons.1 h with rfl | h
    ·exact hd2
    ·exact hw x h
  ·exact leB_byte _ _ x h
 have hAb:By (seal16B (headOf b)):=fun x hx=>by
  rcases List.mem_append.1 hx with h | h
  ·exact headOf_range b x h
  ·exact leB_byte _ _ x h
 have hrb:By (pack (seal16B (headOf b)) b.Hops.toNat Q):=fun x hx=>by
  unfold pack at hx
  simp only [List.mem_append] at hx
  rcases hx with ((h | h | h) | h) | h | h
  ·exact hd_range _ _ x h
  ·exact hd_range _ _ x h
  ·exact hAb x h
  ·exact hd_range _ _ x h
  ·exact hd_range _ _ x h
  ·exact hQb x h
 have hrl:(pack (seal16B (headOf b)) b.Hops.toNat Q).length≤512:=by
  rw [hpre Q hQl,List.length_append,hQl];omega
 have hbd:=bdec_at 60000 (by omega) (pack (seal16B (headOf b)) b.Hops.toNat Q) hrb (by omega)
 have hbs:bdS (pack (seal16B (headOf b)) b.Hops.toNat Q)=noB 130:=by
  rw [bdS,dec_pack (seal16B (headOf b)) b.Hops.toNat Q (by rw [seal16B_len];omega) (by omega) (by omega)]
  dsimp only
  rw [if_neg (not_or.2 ⟨fun h=>h rfl,fun h=>h rfl⟩),if_neg (not_or.2 ⟨fun h=>h rfl,not_or.2 ⟨fun h=>h rfl,fun h=>h rfl⟩⟩),flow,hshut,Bool.and_false,Bool.not_false,cond_true]
 rw [hbs] at hbd
 have hxlt:((pre.length+i:Nat):Int)<((bytesOf b).length:Int):=by omega
 simp only [f5,f5_e,f5_j1,e9,Option.bind_some,Bool.not_true,cond_false,decide_eq_false hp,f5_j2,he,bne_self_eq_false,f5_j4,hM,w8,ifE_pos (show ¬8 * (b.Payload.length:Int)=0 by omega),hmod,hd8,hq8,hi,wx,ifE_pos (show (0:Int)≤((pre.length+i:Nat):Int) by omega),ifE_pos hxlt,Int.toNat_natCast,hgx,ifE_pos (show ¬q % 8<0 by omega),hd1,hset,hbd,noB,beq_self_eq_true]
end Go.Proofs.YtbnnmplkbpgcaaaDoorV