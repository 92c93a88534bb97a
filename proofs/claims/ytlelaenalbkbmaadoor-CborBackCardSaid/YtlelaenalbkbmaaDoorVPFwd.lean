/- Heads are decoded as they were put,and what was decoded is put as it was. -/
import Derived.Test.YtlelaenalbkbmaaDoorVPDec
import Derived.Test.YtlelaenalbkbmaaDoorVPHead
namespace Go.Proofs.YtlelaenalbkbmaaDoorV
open Go
set_option linter.unusedVariables false
set_option linter.unusedSimpArgs false
theorem fb_eq:∀ t:Fin 8,∀ l:Fin 32,or8 (sh5 (t.val:Int)) (l.val:Int)=32 * (t.val:Int)+(l.val:Int):=by decide +kernel
theorem fb {t:Int} {l:Nat} (ht:t=0∨t=2∨t=3∨t=4) (hl:l<32):or8 (sh5 t) (l:Int)=32 * t+(l:Int):=by
 rcases ht with rfl | rfl | rfl | rfl
 ·exact fb_eq 0 ⟨l,hl⟩
 ·exact fb_eq 2 ⟨l,hl⟩
 ·exact fb_eq 3 ⟨l,hl⟩
 ·exact fb_eq 4 ⟨l,hl⟩
theorem beL_byte (n j:Nat) (hj:j≤7):IntKind.u8.wrap (Int.fdiv (n:Int) (2 ^ (min (8 * j) (IntKind.bits .u64))))=((n / 256 ^ j % 256:Nat):Int):=by
 have e:min (8 * j) (IntKind.bits .u64)=8 * j:=by simp only [IntKind.bits];omega
 have e2:(2:Int) ^ (8 * j)=((256 ^ j:Nat):Int):=by rw [Int.pow_mul];simp
 rw [e,e2,Int.fdiv_eq_ediv_of_nonneg _ (Int.natCast_nonneg _),IntKind.wrap_u8,Int.natCast_emod,Int.natCast_ediv]
 rfl
theorem beL_len (x:Int):∀ j,(beL x j).length=j
 | 0=>rfl
 | j+1=>by rw [beL,List.length_cons,beL_len x j]
theorem beL_fold (n:Nat):∀ (j x:Nat),j≤8→(beL (n:Int) j).foldl (fun x c=>x * 256+c.toNat) x=x * 256 ^ j+n % 256 ^ j
 | 0,x,_=>by simp [beL,Nat.mod_one]
 | j+1,x,hj=>by
  rw [beL,List.foldl_cons,beL_byte n j (by omega),beL_fold n j _ (by omega),Int.toNat_natCast,Nat.pow_succ,Nat.mod_mul,Nat.add_mul,Nat.mul_assoc,Nat.mul_comm 256 (256 ^ j),Nat.mul_comm (n / 256 ^ j % 256)]
  omega
theorem numB_beL (n j:Nat) (hj:j≤8) (h:n<256 ^ j):numB (beL (n:Int) j)=n:=by
 rw [numB,beL_fold n j 0 hj,Nat.zero_mul,Nat.zero_add,Nat.mod_eq_of_lt h]
theorem hd_24 {t:Int} {n:Nat} (h:n<24):hd t n=[or8 (sh5 t) n]:=by
 unfold hd;rw [decide_eq_true (show (n:Int)<24 by omega),cond_true,wrap_u8 (by omega) (by omega)]
theorem hd_256 {t:Int} {n:Nat} (h1:24≤n) (h:n<256):hd t n=[or8 (sh5 t) 24,n]:=by
 unfold hd;rw [decide_eq_false (show ¬(n:Int)<24 by omega),cond_false,decide_eq_true (show (n:Int)<256 by omega),cond_true,wrap_u8 (by omega) (by omega)]
theorem hd_16 {t:Int} {n:Nat} (h1:256≤n) (h:n<65536):hd t n=or8 (sh5 t) 25::beL n 2:=by
 unfold hd;rw [decide_eq_false (show ¬(n:Int)<24 by omega),cond_false,decide_eq_false (show ¬(n:Int)<256 by omega),cond_false,decide_eq_true (show (n:Int)<65536 by omega),cond_true,wrap_u16 (by omega) (by omega),wrap_u64 (by omega) (by omega)]
theorem hd_32 {t:Int} {n:Nat} (h1:65536≤n) (h:n<4294967296):hd t n=or8 (sh5 t) 26::beL n 4:=by
 unfold hd;rw [decide_eq_false (show ¬(n:Int)<24 by omega),cond_false,decide_eq_false (show ¬(n:Int)<256 by omega),cond_false,decide_eq_false (show ¬(n:Int)<65536 by omega),cond_false,decide_eq_true (show (n:Int)<4294967296 by omega),cond_true,wrap_u32 (by omega) (by omega),wrap_u64 (by omega) (by omega)]
theorem hd_64 {t:Int} {n:Nat} (h1:4294967296≤n):hd t n=or8 (sh5 t) 27::beL n 8:=by
 unfold hd;rw [decide_eq_false (show ¬(n:Int)<24 by omega),cond_false,decide_eq_false (show ¬(n:Int)<256 by omega),cond_false,decide_eq_false (show ¬(n:Int)<65536 by omega),cond_false,decide_eq_false (show ¬(n:Int)<4294967296 by omega),cond_false]
theorem take_app {α:Type} {r s:List α} {j:Nat} (h:r.length=j):(r++s).take j=r∧(r++s).drop j=s:=by
 subst h;exact ⟨List.take_left,List.drop_left⟩
theorem argD_big {low n j:Nat} {r s:List Int} (h1:24≤low) (hj:2 ^ (low - 24)=j) (hr:r.length=j) (hn:numB r=n) (hc:cn j n=true):argD (low:Int) (r++s)=.ok n j:=by
 have e:((low:Int) - 24).toNat=low - 24:=by omega
 rw [argD,if_neg (by omega),e,hj,if_neg (by rw [List.length_append];omega),(take_app hr).1,hn,if_pos hc]
theorem hd_arg {t:Int} (ht:t=0∨t=2∨t=3∨t=4) {n:Nat} (hn:n<18446744073709551616) (s:List Int):∃ (f:Int) (r:List Int),hd t n=f::r∧f / 32=t∧0≤f % 32∧f % 32≤27∧argD (f % 32) (r++s)=.ok n r.length:=by
 have key:∀ (low:Nat),low≤27→(32 * t+(low:Int)) / 32=t∧(32 * t+(low:Int)) % 32=low:=fun low h=>by omega
 by_cases h1:n<24
 ·refine ⟨_,[],hd_24 h1,?_⟩
  rw [fb ht (by omega),(key n (by omega)).1,(key n (by omega)).2]
  exact ⟨rfl,by omega,by omega,by rw [argD,if_pos (by omega)];simp⟩
 by_cases h2:n<256
 ·refine ⟨_,[(n:Int)],hd_256 (by omega) h2,?_⟩
  rw [show (24:Int)=((24:Nat):Int) from rfl,fb ht (by omega),(key 24 (by omega)).1,(key 24 (by omega)).2]
  exact ⟨rfl,by omega,by omega,argD_big (by omega) rfl rfl (by simp [numB]) (by simp [cn];omega)⟩
 by_cases h3:n<65536
 ·refine ⟨_,beL n 2,hd_16 (by omega) h3,?_⟩
  rw [show (25:Int)=((25:Nat):Int) from rfl,fb ht (by omega),(key 25 (by omega)).1,(key 25 (by omega)).2,beL_len]
  exact ⟨rfl,by omega,by omega,argD_big (by omega) rfl (beL_len ..) (numB_beL n 2 (by omega) (by omega)) (by simp [cn];omega)⟩
 by_cases h4:n<4294967296
 ·refine ⟨_,beL n 4,hd_32 (by omega) h4,?_⟩
  rw [show (26:Int)=((26:Nat):Int) from rfl,fb ht (by omega),(key 26 (by omega)).1,(key 26 (by omega)).2,beL_len]
  exact ⟨rfl,by omega,by omega,argD_big (by omega) rfl (beL_len ..) (numB_beL n 4 (by omega) (by omega)) (by simp [cn];omega)⟩
 ·refine ⟨_,beL n 8,hd_64 (by omega),?_⟩
  rw [show (27:Int)=((27:Nat):Int) from rfl,fb ht (by omega),(key 27 (by omega)).1,(key 27 (by omega)).2,beL_len]
  exact ⟨rfl,by omega,by omega,argD_big (by omega) rfl (beL_len ..) (numB_beL n 8 (by omega) (by omega)) (by simp [cn];omega)⟩
theorem dec_hd (left:Nat) {t:Int} (ht:t=0∨t=2∨t=3∨t=4) {n:Nat} (hn:n<18446744073709551616) (s:List Int):dec (left+1) (hd t n++s)=addN (hd t n).length (tailD (dec left) t n s):=by
 obtain ⟨f,r,h1,h2,h3,h4,h5⟩:=hd_arg ht hn s
 rw [h1,List.cons_append,dec,bodyD,if_neg (by omega),h5,h2,List.length_cons]
 show addN (1+r.length) (tailD (dec left) t n ((r++s).drop r.length))=_
 rw [List.drop_left,Nat.add_comm]
theorem addN_zero (c:Nat) (x:It):addN c (.ok x 0)=.ok x c:=rfl
theorem dec_num (left:Nat) {n:Nat} (hn:n<18446744073709551616) (s:List Int):dec (left+1) (hd 0 n++s)=.ok ⟨1,n,[],[]⟩ (hd 0 n).length:=by
 rw [dec_hd left (.inl rfl) hn,tailD,if_pos rfl,addN_zero]
theorem dec_bytes (left:Nat) (l s:List Int) (hl:l.length≤512):dec (left+1) ((hd 2 (l.length:Int)++l)++s)=.ok ⟨2,0,l,[]⟩ (hd 2 (l.length:Int)++l).length:=by
 rw [List.append_assoc,dec_hd left (.inr (.inl rfl)) (by omega),tailD,if_neg (by decide),if_neg (by decide),if_neg (by omega),if_neg (by rw [List.length_append];omega),List.take_left,if_neg (by simp)]
 simp [addN]
def pack (A:List Int) (h:Nat) (P:List Int):List Int:=((hd 4 3++(hd 2 (A.length:Int)++A))++hd 0 (h:Int))++(hd 2 (P.length:Int)++P)
theorem dec_pack (A:List Int) (h:Nat) (P:List Int) (hA:A.length≤512) (hP:P.length≤512) (hh:h<18446744073709551616):dec 4 (pack A h P)=.ok ⟨4,0,[],[⟨2,0,A,[]⟩,⟨1,h,[],[]⟩,⟨2,0,P,[]⟩]⟩ (pack A h P).length:=by
 have e:pack A h P=hd 4 ((3:Nat):Int)++((hd 2 (A.length:Int)++A)++(hd 0 (h:Int)++((hd 2 (P.length:Int)++P)++[]))):=by simp [pack]
 rw [e,dec_hd 3 (.inr (.inr (.inr rfl))) (by decide),tailD,if_neg (by decide),if_pos rfl,if_neg (by decide)]
 have d1:=dec_bytes 2 A (hd 0 (h:Int)++((hd 2 (P.length:Int)++P)++[])) hA
 have d2:=dec_num 2 hh ((hd 2 (P.length:Int)++P)++[])
 have d3:=dec_bytes 2 P [] hP
 rw [itemsD,d1]
 dsimp only
 rw [List.drop_left,itemsD,d2]
 dsimp only
 rw [List.drop_left,itemsD,d3]
 dsimp only
 rw [List.drop_left,itemsD]
 simp [addN]
 omega
theorem items_nums (left:Nat):∀ (l:List Int) (acc:List It) (s:List Int),itemsD (dec (left+1)) l.length (l.flatMap (fun n=>hd 0 (IntKind.u64.wrap n))++s) acc=.ok ⟨4,0,[],acc++l.map numIt⟩ (l.flatMap fun n=>hd 0 (IntKind.u64.wrap n)).length
 | [],acc,s=>by simp [itemsD]
 | v::l,acc,s=>by
  have hw:∃ n:Nat,n<18446744073709551616∧IntKind.u64.wrap v=(n:Int):=⟨(IntKind.u64.wrap v).toNat,by rw [IntKind.wrap_u64];omega,by rw [IntKind.wrap_u64];omega⟩
  obtain ⟨n,hn,hw⟩:=hw
  rw [List.length_cons,itemsD,List.flatMap_cons,List.append_assoc,hw,dec_num left hn]
  have hi:=items_nums left l (acc++[⟨1,n,[],[]⟩]) s
  dsimp only
  rw [List.drop_left,hi]
  simp [addN,numIt,hw]
theorem dec_nums (l:List Int) (hl:l.length≤64):dec 4 (hd 4 (l.length:Int)++l.flatMap fun n=>hd 0 (IntKind.u64.wrap n))=.ok ⟨4,0,[],l.map numIt⟩ (hd 4 (l.length:Int)++l.flatMap fun n=>hd 0 (IntKind.u64.wrap n)).length:=by
 have h:=items_nums 2 l [] []
 rw [List.append_nil,List.nil_append] at h
 rw [dec_hd 3 (.inr (.inr (.inr rfl))) (by omega),tailD,if_neg (by decide),if_pos rfl,if_neg (by omega),h]
 simp [addN]
end Go.Proofs.YtlelaenalbkbmaaDoorV