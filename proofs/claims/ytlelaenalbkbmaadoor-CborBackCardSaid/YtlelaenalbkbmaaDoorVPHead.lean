/- Heads of items,and the bytes of items without parts. -/
import Derived.Test.YtlelaenalbkbmaaDoorVPItems
namespace Go.Proofs.YtlelaenalbkbmaaDoorV
open Go
set_option linter.unusedVariables false
set_option linter.unusedSimpArgs false
def or8 (a b:Int):Int:=(IntKind.u8.wrap ((BitVec.ofInt (IntKind.bits .u8) a ||| BitVec.ofInt (IntKind.bits .u8) b).toNat:Nat))
def sh5 (t:Int):Int:=IntKind.u8.wrap (t * 2 ^ (min 5 (IntKind.bits .u8)))
def beL (x:Int):Nat→List Int
 | 0=>[]
 | n+1=>IntKind.u8.wrap (Int.fdiv x (2 ^ (min (8 * n) (IntKind.bits .u64))))::beL x n
def hd (t n:Int):List Int :=
 cond (decide (n<24)) [or8 (sh5 t) (IntKind.u8.wrap n)] (cond (decide (n<256)) [or8 (sh5 t) 24,IntKind.u8.wrap n] (cond (decide (n<65536)) (or8 (sh5 t) 25::beL (IntKind.u64.wrap (IntKind.u16.wrap n)) 2)
  (cond (decide (n<4294967296)) (or8 (sh5 t) 26::beL (IntKind.u64.wrap (IntKind.u32.wrap n)) 4) (or8 (sh5 t) 27::beL n 8))))
theorem putw_l (k:Nat) (x:Int) (e:List Int):∀ (n q:Nat) (h:List Int),n≤8→n<q→h.length+n≤100000→f50_l1 k q x ((n:Int) - 1) h e=some (.o1 x (-1) false (h++beL x n) e):=by
 intro n
 induction n with
 | zero =>
  intro q h _ hq _
  obtain ⟨q,rfl⟩:∃ m,q=m+1:=⟨q - 1,by omega⟩
  simp [f50_l1,f50_l1_b,beL]
 | succ n ih =>
  intro q h h8 hq hl
  obtain ⟨q,rfl⟩:∃ m,q=m+1:=⟨q - 1,by omega⟩
  have e1:((n+1:Nat):Int) - 1=(n:Int):=by omega
  have e2:IntKind.i64.wrap ((8:Int) * (n:Int))=((8 * n:Nat):Int):=by rw [wrap_i64 (by omega) (by omega)];simp
  have e3:IntKind.i64.wrap ((n:Int) - 1)=(n:Int) - 1:=wrap_i64 (by omega) (by omega)
  have hr:h.length+1≤roomy:=by unfold roomy;omega
  have ih':=ih q (h++[IntKind.u8.wrap (Int.fdiv x (2 ^ (min (8 * n) (IntKind.bits .u64))))]) (by omega) (by omega) (by rw [List.length_append];simp;omega)
  rw [List.append_assoc,List.singleton_append] at ih'
  rw [e1]
  simp only [f50_l1,f50_l1_b,f50_l1_j1,f50_l1_j2,decide_eq_true (show (n:Int)≥0 by omega),cond_true,e2,ifE_pos (show ¬(((8 * n:Nat):Int)<0) by omega),ifE_pos hr,Int.toNat_natCast,Option.bind_some,e3,ih',beL]
theorem putw_at (k:Nat) (hk:12≤k) (x:Int) (n:Nat) (hn:n≤8) (h1:1≤n) (e:List Int) (he:e.length≤90000):f50 k x n e=some (.o0 e (e++beL x n)):=by
 obtain ⟨k,rfl⟩:∃ m,k=m+2:=⟨k - 2,by omega⟩
 have hr:e.length * 1≤roomy:=by unfold roomy;omega
 have e3:IntKind.i64.wrap ((n:Int) - 1)=(n:Int) - 1:=wrap_i64 (by omega) (by omega)
 simp only [f50,f50_e,f50_j2,f28,ifE_pos hr,Option.bind_some,e3,putw_l (k+1) x e n (k+1) e hn (by omega) (by omega)]
theorem head_at (k:Nat) (hk:20≤k) (t n:Int) (e:List Int) (he:e.length≤80000):f35 k t n e=some (.o0 (e++hd t n)):=by
 obtain ⟨k,rfl⟩:∃ m,k=m+2:=⟨k - 2,by omega⟩
 have r1:e.length+1≤roomy:=by unfold roomy;omega
 have r2:e.length+2≤roomy:=by unfold roomy;omega
 have hl:∀ y:Int,(e++[y]).length≤90000:=fun y=>by rw [List.length_append];simp;omega
 have p2:∀ x y,f50 k x 2 (e++[y])=some (.o0 (e++[y]) ((e++[y])++beL x 2)):=fun x y=>putw_at k (by omega) x 2 (by omega) (by omega) _ (hl y)
 have p4:∀ x y,f50 k x 4 (e++[y])=some (.o0 (e++[y]) ((e++[y])++beL x 4)):=fun x y=>putw_at k (by omega) x 4 (by omega) (by omega) _ (hl y)
 have p8:∀ x y,f50 k x 8 (e++[y])=some (.o0 (e++[y]) ((e++[y])++beL x 8)):=fun x y=>putw_at k (by omega) x 8 (by omega) (by omega) _ (hl y)
 simp only [f35,f35_e,f35_j1,f44,f44_e,f45,f45_e,f46,f46_e,ifE_pos r1,ifE_pos r2,p2,p4,p8,Option.bind_some,hd,or8,sh5]
 cases decide (n<24)<;>cases decide (n<256)<;>cases decide (n<65536)<;>cases decide (n<4294967296)<;>simp only [cond_true,cond_false,List.append_assoc,List.singleton_append]
end Go.Proofs.YtlelaenalbkbmaaDoorV