/- What the program and the document encode: the same bytes. -/
import Derived.Test.YtbnnmplkbpgcaaaDoorVPRefE
import Derived.Test.YtbnnmplkbpgcaaaDoorVPBun
namespace Go.Proofs.YtbnnmplkbpgcaaaDoorV
open Go
set_option linter.unusedVariables false
set_option linter.unusedSimpArgs false
theorem u8_range (n:Int):0≤IntKind.u8.wrap n∧IntKind.u8.wrap n<256:=by rw [IntKind.wrap_u8];omega
theorem beL_range (x:Int):∀ n,∀ y∈beL x n,0≤y∧y<256
 | 0,y,h=>by cases h
 | n+1,y,h=>by
  rw [beL,List.mem_cons] at h
  rcases h with rfl | h
  ·exact u8_range _
  ·exact beL_range x n y h
theorem hd_range (t n:Int):∀ y∈hd t n,0≤y∧y<256:=by
 have h8:∀ a b,0≤or8 a b∧or8 a b<256:=fun a b=>u8_range _
 unfold hd
 intro y hy
 cases h1:decide (n<24)<;>rw [h1] at hy
 ·cases h2:decide (n<256)<;>rw [h2] at hy
  ·cases h3:decide (n<65536)<;>rw [h3] at hy
   ·cases h4:decide (n<4294967296)<;>rw [h4] at hy
    ·simp only [cond_false,List.mem_cons] at hy
     rcases hy with rfl | hy
     ·exact h8 _ _
     ·exact beL_range _ _ y hy
    ·simp only [cond_true,cond_false,List.mem_cons] at hy
     rcases hy with rfl | hy
     ·exact h8 _ _
     ·exact beL_range _ _ y hy
   ·simp only [cond_true,cond_false,List.mem_cons] at hy
    rcases hy with rfl | hy
    ·exact h8 _ _
    ·exact beL_range _ _ y hy
  ·simp only [cond_true,cond_false,List.mem_cons,List.not_mem_nil,or_false] at hy
   rcases hy with rfl | rfl
   ·exact h8 _ _
   ·exact u8_range _
 ·simp only [cond_true,List.mem_cons,List.not_mem_nil,or_false] at hy
  subst hy
  exact h8 _ _
theorem hd_len1 (t:Int) {n:Int} (h:n<24):(hd t n).length=1:=by unfold hd;rw [decide_eq_true h,cond_true];rfl
theorem hd_len2 (t:Int) {n:Int} (h:n<256):(hd t n).length≤2:=by
 unfold hd;rw [decide_eq_true h];cases decide (n<24)<;>simp
theorem hd_len3 (t:Int) {n:Int} (h:n<65536):(hd t n).length≤3:=by
 unfold hd;rw [decide_eq_true h];cases decide (n<24)<;>cases decide (n<256)<;>simp [beL]
theorem numIt_leaf (n:Int):Leaf2 (numIt n):=⟨rfl,by simp [numIt],.inl ⟨rfl,rfl⟩⟩
theorem numIt_B (n:Int):leafB (numIt n)=hd 0 (IntKind.u64.wrap n):=rfl
theorem byt_B (l:List Int):leafB ⟨2,0,l,[]⟩=hd 2 (IntKind.u64.wrap (l.length:Int))++l:=rfl
theorem okL_nums (l:List Int):okL (l.map numIt)=true:=by simp [okL,numIt]
def numsOf (b:Bun):List Int:=[7,b.Dest,b.Source,IntKind.i64.wrap b.Seq,b.Created,b.Lifetime,b.Offset,b.Total,b.Priority,b.HopLimit]
def headOf (b:Bun):List Int:=hd 4 10++(numsOf b).flatMap fun n=>hd 0 (IntKind.u64.wrap n)
theorem headOf_eq (b:Bun):listB ((numsOf b).map numIt)=headOf b:=by
 unfold listB headOf
 rw [List.length_map,show IntKind.u64.wrap (((numsOf b).length:Nat):Int)=10 from by show IntKind.u64.wrap ((10:Nat):Int)=10;decide,List.flatMap_map]
 rfl
theorem flat9 (f:Int→List Int) (hf:∀ x,(f x).length≤9):∀ l:List Int,(l.flatMap f).length≤9 * l.length
 | []=>by simp
 | x::l=>by have:=flat9 f hf l;have:=hf x;rw [List.flatMap_cons,List.length_append,List.length_cons];omega
theorem headOf_len (b:Bun):(headOf b).length≤91:=by
 have h:=flat9 (fun n=>hd 0 (IntKind.u64.wrap n)) (fun x=>hd_len _ _) (numsOf b)
 have h1:(hd 4 10).length=1:=hd_len1 4 (by omega)
 unfold headOf
 rw [List.length_append,h1]
 have:(numsOf b).length=10:=rfl
 omega
theorem headOf_range (b:Bun):∀ y∈headOf b,0≤y∧y<256:=by
 intro y hy
 unfold headOf at hy
 rw [List.mem_append] at hy
 rcases hy with hy | hy
 ·exact hd_range _ _ y hy
 ·obtain ⟨n,_,hy⟩:=List.mem_flatMap.1 hy
  exact hd_range _ _ y hy
theorem seal16B_len (l:List Int):(seal16B l).length=l.length+2:=by rw [seal16B,List.length_append,leB_length]
theorem seal32B_len (l:List Int):(seal32B l).length=l.length+4:=by rw [seal32B,List.length_append,leB_length]
def bytesOf (b:Bun):List Int:=((hd 4 3++(hd 2 (IntKind.u64.wrap ((seal16B (headOf b)).length:Int))++seal16B (headOf b)))++hd 0 (IntKind.u64.wrap b.Hops))++(hd 2 (IntKind.u64.wrap ((seal32B b.Payload).length:Int))++seal32B b.Payload)
theorem bytesOf_len {b:Bun} (h:okP b):(bytesOf b).length≤512:=by
 unfold okP at h
 have h0:=headOf_len b
 have h1:=seal16B_len (headOf b)
 have h2:=seal32B_len b.Payload
 have w1:IntKind.u64.wrap ((seal16B (headOf b)).length:Int)=((seal16B (headOf b)).length:Int):=wrap_u64 (by omega) (by omega)
 have w2:IntKind.u64.wrap ((seal32B b.Payload).length:Int)=((seal32B b.Payload).length:Int):=wrap_u64 (by omega) (by omega)
 have w3:IntKind.u64.wrap b.Hops=b.Hops:=wrap_u64 (by omega) (by omega)
 have l1:(hd 4 3).length=1:=hd_len1 4 (by omega)
 have l2:=hd_len2 2 (n:=((seal16B (headOf b)).length:Int)) (by omega)
 have l3:=hd_len1 0 (n:=b.Hops) (by omega)
 have l4:=hd_len3 2 (n:=((seal32B b.Payload).length:Int)) (by omega)
 unfold bytesOf
 rw [w1,w2,w3]
 simp only [List.length_append]
 omega
theorem enc_at (k:Nat) (hk:8000≤k) (b:Bun) (hp:b.Payload.length≤5000) (hb:∀ x∈b.Payload,0≤x∧x<256) :
 f14 k b.Source b.Dest b.Seq b.Created b.Lifetime b.HopLimit b.Hops b.Priority b.Offset b.Total b.Payload=some (if okP b then .o1 0 (bytesOf b) else .o0 [] 190):=by
 obtain ⟨k,rfl⟩:∃ m,k=m+3:=⟨k - 3,by omega⟩
 have hc:=chk_at (k+2) (by omega) b
 by_cases hok:okP b
 ·rw [if_pos hok] at hc ⊢
  have hn:=nums_at (k+2) (numsOf b) (by simp [numsOf]) (by simp [numsOf];omega)
  have hL1:∀ x∈(numsOf b).map numIt,Leaf2 x:=fun x hx=>by obtain ⟨n,_,rfl⟩:=List.mem_map.1 hx;exact numIt_leaf n
  have hl1:(((numsOf b).map numIt).flatMap leafB).length≤90:=by
   have:=flat9 (fun n=>hd 0 (IntKind.u64.wrap n)) (fun x=>hd_len _ _) (numsOf b)
   rw [List.flatMap_map]
   exact this
  have he1:=cenc_at (k+2) _ hL1 (by simp [numsOf]) (by omega) (by simp [numsOf];omega)
  rw [okL_nums,cond_true,headOf_eq] at he1
  have h0:=headOf_len b
  have hs1:=seal16_at (k+2) (headOf b) (headOf_range b) (by omega) (by omega)
  have hs2:=seal32_at (k+2) b.Payload hb (by omega) (by omega)
  have n1:=seal16B_len (headOf b)
  have n2:=seal32B_len b.Payload
  have ok':=hok
  unfold okP at ok'
  have c1:(seal16B (headOf b)).length * 1≤roomy:=by unfold roomy;omega
  have c2:(seal32B b.Payload).length * 1≤roomy:=by unfold roomy;omega
  have hL2:∀ x∈[(⟨2,0,seal16B (headOf b),[]⟩:It),numIt b.Hops,⟨2,0,seal32B b.Payload,[]⟩],Leaf2 x:=by
   intro x hx
   simp only [List.mem_cons,List.not_mem_nil,or_false] at hx
   rcases hx with rfl | rfl | rfl
   ·exact ⟨rfl,by show (seal16B (headOf b)).length≤6000;omega,.inr ⟨rfl,rfl⟩⟩
   ·exact numIt_leaf _
   ·exact ⟨rfl,by show (seal32B b.Payload).length≤6000;omega,.inr ⟨rfl,rfl⟩⟩
  have hli:=list_at (k+2) [(⟨2,0,seal16B (headOf b),[]⟩:It),numIt b.Hops,⟨2,0,seal32B b.Payload,[]⟩] (fun x hx=>⟨(hL2 x hx).1,by have:=(hL2 x hx).2.1;omega⟩) (by simp) (by simp;omega)
  have hl2:([(⟨2,0,seal16B (headOf b),[]⟩:It),numIt b.Hops,⟨2,0,seal32B b.Payload,[]⟩].flatMap leafB).length≤50000:=by
   have q1:=leafB_len (hL2 _ (List.mem_cons_self ..))
   have q2:=leafB_len (numIt_leaf b.Hops)
   have q3:=leafB_len (hL2 ⟨2,0,seal32B b.Payload,[]⟩ (by simp))
   simp only [List.flatMap_cons,List.flatMap_nil,List.length_append,List.length_nil]
   omega
  have he2:=cenc_at (k+2) _ hL2 (by simp) hl2 (by simp;omega)
  have hol:okL [(⟨2,0,seal16B (headOf b),[]⟩:It),numIt b.Hops,⟨2,0,seal32B b.Payload,[]⟩]=true:=by
   simp only [okL,List.all_cons,List.all_nil,Bool.and_true,Bool.and_eq_true,decide_eq_true_iff,numIt,List.length_nil]
   omega
  rw [hol,cond_true] at he2
  have hbytes:listB [(⟨2,0,seal16B (headOf b),[]⟩:It),numIt b.Hops,⟨2,0,seal32B b.Payload,[]⟩]=bytesOf b:=by
   have e0:IntKind.u64.wrap (([(⟨2,0,seal16B (headOf b),[]⟩:It),numIt b.Hops,⟨2,0,seal32B b.Payload,[]⟩].length:Nat):Int)=3:=by show IntKind.u64.wrap ((3:Nat):Int)=3;decide
   unfold listB bytesOf
   rw [e0]
   simp only [List.flatMap_cons,List.flatMap_nil,List.append_nil,numIt_B,byt_B,List.append_assoc]
  rw [hbytes] at he2
  simp only [numIt] at hli he2
  unfold numsOf at hn he1
  simp only [f14,f14_e,f14_j1,f14_j5,f14_j4,hc,Option.bind_some,bne_self_eq_false,cond_false,hn,he1,hs1,hs2,f34,f34_e,f53,ifE_pos c1,ifE_pos c2,f36,f36_e,hli,he2]
 ·rw [if_neg hok] at hc ⊢
  simp only [f14,f14_e,hc,Option.bind_some]
  rfl
theorem wrap_nat (v:Int):∃ n:Nat,n<18446744073709551616∧IntKind.u64.wrap v=(n:Int):=by
 have h:0≤IntKind.u64.wrap v∧IntKind.u64.wrap v<18446744073709551616:=by rw [IntKind.wrap_u64];omega
 exact ⟨(IntKind.u64.wrap v).toNat,by omega,by omega⟩
theorem rhd (k:Nat) (hk:30≤k) (t:Nat) (ht:t=0∨t=2∨t=4) (v:Int):f39 k t (IntKind.u64.wrap v)=some (.o0 (hd t (IntKind.u64.wrap v))):=by
 obtain ⟨n,hn,e⟩:=wrap_nat v
 rw [e]
 exact rhead_at k hk t n ht hn
theorem rbytes_l (k:Nat) (hk:1000≤k) (b:Bun) (l:List Int) (hl:l.length≤20):∀ (d i n:Nat) (acc:List Int),i+d=l.length→d<n→acc.length+9 * d≤500 →
 f18_l1 k n i b.Source b.Dest b.Seq b.Created b.Lifetime b.HopLimit b.Hops b.Priority b.Offset b.Total b.Payload acc l=some (.o1 l.length false b.Source b.Dest b.Seq b.Created b.Lifetime b.HopLimit b.Hops b.Priority b.Offset b.Total b.Payload (acc++(l.drop i).flatMap fun n=>hd 0 (IntKind.u64.wrap n)) l):=by
 intro d
 induction d with
 | zero =>
  intro i n acc hi hq _
  obtain ⟨n,rfl⟩:∃ m,n=m+1:=⟨n - 1,by omega⟩
  have e3:i=l.length:=by omega
  subst e3
  simp [f18_l1,f18_l1_b]
 | succ d ih =>
  intro i n acc hi hq ha
  obtain ⟨n,rfl⟩:∃ m,n=m+1:=⟨n - 1,by omega⟩
  have h1:i<l.length:=by omega
  have g1:l[i]?=some l[i]:=List.getElem?_eq_getElem h1
  have hlt:((i:Int)<(l.length:Int)):=by omega
  have hw:=nextN h1 (by omega)
  have h9:=hd_len 0 (IntKind.u64.wrap l[i])
  have hh:=rhd k (by omega) 0 (by omega) l[i]
  have hbo:=both_at k acc (hd 0 (IntKind.u64.wrap l[i])) (by omega) (by omega) (by omega)
  have e:=ih (i+1) n (acc++hd 0 (IntKind.u64.wrap l[i])) (by omega) (by omega) (by rw [List.length_append];omega)
  rw [List.append_assoc] at e
  rw [show ((0:Nat):Int)=0 from rfl] at hh
  have hd':(l.drop i).flatMap (fun n=>hd 0 (IntKind.u64.wrap n))=hd 0 (IntKind.u64.wrap l[i])++(l.drop (i+1)).flatMap (fun n=>hd 0 (IntKind.u64.wrap n)):=by
   rw [List.drop_eq_getElem_cons h1,List.flatMap_cons]
  rw [hd']
  simp only [f18_l1,f18_l1_b,f18_l1_j1,f18_l1_j2,decide_eq_true hlt,cond_true,ifE_pos (show (0:Int)≤i by omega),ifE_pos hlt,Int.toNat_natCast,g1,Option.bind_some,hh,hbo,hw,e]
theorem rbytes_at (k:Nat) (hk:3000≤k) (b:Bun) (hp:b.Payload.length≤500) (hb:∀ x∈b.Payload,0≤x∧x<256) :
 f18 k b.Source b.Dest b.Seq b.Created b.Lifetime b.HopLimit b.Hops b.Priority b.Offset b.Total b.Payload=some (.o0 (bytesOf b)):=by
 obtain ⟨k,rfl⟩:∃ m,k=m+1:=⟨k - 1,by omega⟩
 have h4:=rhead_at k (by omega) 4 10 (by omega) (by omega)
 have h3:=rhead_at k (by omega) 4 3 (by omega) (by omega)
 rw [show ((4:Nat):Int)=4 from rfl,show ((10:Nat):Int)=10 from rfl] at h4
 rw [show ((4:Nat):Int)=4 from rfl,show ((3:Nat):Int)=3 from rfl] at h3
 have l1:(hd 4 10).length=1:=hd_len1 4 (by omega)
 have l3:(hd 4 3).length=1:=hd_len1 4 (by omega)
 have hl:=rbytes_l k (by omega) b (numsOf b) (by simp [numsOf]) 10 0 k (hd 4 10) (by simp [numsOf]) (by omega) (by omega)
 rw [Int.natCast_zero,List.drop_zero,show hd 4 10++(numsOf b).flatMap (fun n=>hd 0 (IntKind.u64.wrap n))=headOf b from rfl] at hl
 have h0:=headOf_len b
 have hs1:=rseal16_at k (headOf b) (headOf_range b) (by omega) (by omega)
 have hs2:=rseal32_at k b.Payload hb (by omega) (by omega)
 have n1:=seal16B_len (headOf b)
 have n2:=seal32B_len b.Payload
 have r1:=rhd k (by omega) 2 (by omega) ((seal16B (headOf b)).length:Int)
 have r2:=rhd k (by omega) 0 (by omega) b.Hops
 have r3:=rhd k (by omega) 2 (by omega) ((seal32B b.Payload).length:Int)
 rw [show ((2:Nat):Int)=2 from rfl] at r1 r3
 rw [show ((0:Nat):Int)=0 from rfl] at r2
 have d1:=hd_len 2 (IntKind.u64.wrap ((seal16B (headOf b)).length:Int))
 have d2:=hd_len 0 (IntKind.u64.wrap b.Hops)
 have d3:=hd_len 2 (IntKind.u64.wrap ((seal32B b.Payload).length:Int))
 have b1:=both_at k (hd 2 (IntKind.u64.wrap ((seal16B (headOf b)).length:Int))) (seal16B (headOf b)) (by omega) (by omega) (by omega)
 have b2:=both_at k (hd 4 3) (hd 2 (IntKind.u64.wrap ((seal16B (headOf b)).length:Int))++seal16B (headOf b)) (by omega) (by rw [List.length_append];omega) (by rw [List.length_append];omega)
 have b3:=both_at k (hd 4 3++(hd 2 (IntKind.u64.wrap ((seal16B (headOf b)).length:Int))++seal16B (headOf b))) (hd 0 (IntKind.u64.wrap b.Hops)) (by simp only [List.length_append];omega) (by omega) (by simp only [List.length_append];omega)
 have b4:=both_at k (hd 2 (IntKind.u64.wrap ((seal32B b.Payload).length:Int))) (seal32B b.Payload) (by omega) (by omega) (by omega)
 have b5:=both_at k ((hd 4 3++(hd 2 (IntKind.u64.wrap ((seal16B (headOf b)).length:Int))++seal16B (headOf b)))++hd 0 (IntKind.u64.wrap b.Hops)) (hd 2 (IntKind.u64.wrap ((seal32B b.Payload).length:Int))++seal32B b.Payload) (by simp only [List.length_append];omega) (by rw [List.length_append];omega) (by simp only [List.length_append];omega)
 unfold numsOf at hl
 simp only [f18,f18_e,h4,Option.bind_some,hl,f18_j2,hs1,hs2,h3,r1,r2,r3,b1,b2,b3,b4,b5,bytesOf]
end Go.Proofs.YtbnnmplkbpgcaaaDoorV